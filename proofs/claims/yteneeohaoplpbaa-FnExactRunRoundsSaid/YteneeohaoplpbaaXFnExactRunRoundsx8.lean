-- Written by this session's own program (wip/xprint.py) out of the translation; Lean checks it.
import Derived.Test.YteneeohaoplpbaaXFnExactRunRoundsx0
import Derived.Test.YteneeohaoplpbaaXFnExactRunRoundsx6
import Derived.Test.YteneeohaoplpbaaXFnExactRunRoundsx7
namespace Go.Proofs.Yteneeohaoplpbaa.XFnExactRunRounds
open Go.RowKit Go.Proofs.YteneeohaoplpbaaW.PrintWords Go.Proofs.YteneeohaoplpbaaW.PrintLast Go.Proofs.YteneeohaoplpbaaW.PrintMore
attribute [local go_sem] max2_int min2_int max_two min_two max_three min_three max_four min_four   -- for this text's walks alone
set_option linter.unusedVariables false
set_option linter.unusedSimpArgs false

/-! ### impl_NextRound: function 50 -/
mutual
def impl_NextRound.l0:Nat→List Int→Int→Int→Int→List (S116)→Int→Option (Int × (List (S116)) × Int × List Int × Bool)
 | 0,_,_,_,_,_,_=>none
 | k+1,x6,x18,x19,x278000,x278001,x278002=>if x19 < x18 then (if 0≤x19 then (if x19 < (x278001.length:Int) then (if (((rd_T116 x278001 x19).f0).length:Int)=0 then (impl_NextRound.l0 k x6 x18 (wrap64 (x19+1)) x278000 x278001 x278002) else (impl_NextRound.l1 k x6 x19 x18 x19 x278000 (x278001.set (x19:Int).toNat (⟨(rd_T116 x278001 x19).f0,wrap64 (((rd_T116 x278001 x19).f1)+x278000),(rd_T116 x278001 x19).f2⟩:S116)) x278002)) else (none)) else (none)) else ((impl_GoodTurns.f k x278000 x278001 (wrap64 (x278002+1))).bind fun t307=>(if t307=true then ((impl_Turns_copied.f x278000 x278001 (wrap64 (x278002+1))).bind fun bt308=>(some (bt308.1,bt308.2.1,bt308.2.2,x6,true))) else (some (0,([]:List (S116)),0,([]:List Int),false))))
def impl_NextRound.l1:Nat→List Int→Int→Int→Int→Int→List (S116)→Int→Option (Int × (List (S116)) × Int × List Int × Bool)
 | 0,_,_,_,_,_,_,_=>none
 | k+1,x6,x7,x18,x19,x278000,x278001,x278002=>if 0≤x19 then (if x19 < (x278001.length:Int) then (if (((rd_T116 x278001 x19).f0).length:Int) > 0 then (if 0 < (((rd_T116 x278001 x19).f0).length:Int) then (if (rd ((rd_T116 x278001 x19).f0) 0)≤((rd_T116 x278001 x19).f1) then ((some (x278001.set (x19:Int).toNat (⟨(rd_T116 x278001 x19).f0,wrap64 (((rd_T116 x278001 x19).f1) - (rd ((rd_T116 x278001 x19).f0) 0)),(rd_T116 x278001 x19).f2⟩:S116):List (S116))).bind fun y288=>(if 0 < (((rd_T116 y288 x19).f0).length:Int) then ((some (y288.set (x19:Int).toNat (⟨(rd_T116 y288 x19).f0,(rd_T116 y288 x19).f1,wrap64 (((rd_T116 y288 x19).f2)+(rd ((rd_T116 y288 x19).f0) 0))⟩:S116):List (S116))).bind fun y292=>(if 1≤(((rd_T116 y292 x19).f0).length:Int) then (if x6.length < 17592186044416 then (impl_NextRound.l1 k (x6++[x7]) x7 x18 x19 x278000 (y292.set (x19:Int).toNat (⟨(((rd_T116 y292 x19).f0).drop 1),(rd_T116 y292 x19).f1,(rd_T116 y292 x19).f2⟩:S116)) x278002) else (none)) else (none))) else (none))) else (if (((rd_T116 x278001 x19).f0).length:Int)=0 then (impl_NextRound.l0 k x6 x18 (wrap64 (x19+1)) x278000 (x278001.set (x19:Int).toNat (⟨(rd_T116 x278001 x19).f0,0,(rd_T116 x278001 x19).f2⟩:S116)) x278002) else (impl_NextRound.l0 k x6 x18 (wrap64 (x19+1)) x278000 x278001 x278002))) else (none)) else (if (((rd_T116 x278001 x19).f0).length:Int)=0 then (impl_NextRound.l0 k x6 x18 (wrap64 (x19+1)) x278000 (x278001.set (x19:Int).toNat (⟨(rd_T116 x278001 x19).f0,0,(rd_T116 x278001 x19).f2⟩:S116)) x278002) else (impl_NextRound.l0 k x6 x18 (wrap64 (x19+1)) x278000 x278001 x278002))) else (none)) else (none)
end
def impl_NextRound.f (k:Nat) (a0_0:Int) (l0_1:List (S116)) (a0_2:Int):Option (Int × (List (S116)) × Int × List Int × Bool):=(impl_GoodTurns.f k a0_0 l0_1 a0_2).bind fun t268=>(if t268=true then ((impl_Turns_copied.f a0_0 l0_1 a0_2).bind fun bt269=>(impl_NextRound.l0 k (([]:List Int)) (bt269.2.1.length:Int) 0 bt269.1 bt269.2.1 bt269.2.2)) else (some (0,([]:List (S116)),0,([]:List Int),false)))
theorem impl_NextRound.mono_l : ∀ k,(∀ y0 y1 y2 y3 y4 y5,LeO (impl_NextRound.l0 k y0 y1 y2 y3 y4 y5) (impl_NextRound.l0 (k+1) y0 y1 y2 y3 y4 y5))∧(∀ y0 y1 y2 y3 y4 y5 y6,LeO (impl_NextRound.l1 k y0 y1 y2 y3 y4 y5 y6) (impl_NextRound.l1 (k+1) y0 y1 y2 y3 y4 y5 y6))
 | 0=>⟨fun _ _ _ _ _ _ r h=>by simp[impl_NextRound.l0] at h,fun _ _ _ _ _ _ _ r h=>by simp[impl_NextRound.l1] at h⟩
 | k+1=>by
  obtain⟨ih0,ih1⟩:=impl_NextRound.mono_l k
  refine⟨?_,?_⟩
  ·intro y0 y1 y2 y3 y4 y5
   unfold impl_NextRound.l0
   repeat' first
   | (with_reducible exact ih0 _ _ _ _ _ _)
   | (with_reducible exact ih1 _ _ _ _ _ _ _)
   | (with_reducible exact impl_GoodTurns.mono _ _ _ _)
   | (with_reducible exact LeO.refl _)
   | (with_reducible exact LeO.none _)
   | (with_reducible refine LeO.ite ?_ ?_)
   | (with_reducible refine LeO.bind ?_ (fun _ => ?_))
   | exact ih0 _ _ _ _ _ _
   | exact ih1 _ _ _ _ _ _ _
   | exact impl_GoodTurns.mono _ _ _ _
   | exact LeO.none _
   | refine LeO.ite ?_ ?_
   | refine LeO.bind ?_ (fun _ => ?_)
  ·intro y0 y1 y2 y3 y4 y5 y6
   unfold impl_NextRound.l1
   repeat' first
   | (with_reducible exact ih0 _ _ _ _ _ _)
   | (with_reducible exact ih1 _ _ _ _ _ _ _)
   | (with_reducible exact impl_GoodTurns.mono _ _ _ _)
   | (with_reducible exact LeO.refl _)
   | (with_reducible exact LeO.none _)
   | (with_reducible refine LeO.ite ?_ ?_)
   | (with_reducible refine LeO.bind ?_ (fun _ => ?_))
   | exact ih0 _ _ _ _ _ _
   | exact ih1 _ _ _ _ _ _ _
   | exact impl_GoodTurns.mono _ _ _ _
   | exact LeO.none _
   | refine LeO.ite ?_ ?_
   | refine LeO.bind ?_ (fun _ => ?_)
theorem impl_NextRound.mono : ∀ a0 a1 a2 k,LeO (impl_NextRound.f k a0 a1 a2) (impl_NextRound.f (k+1) a0 a1 a2):=by
 intro a0 a1 a2 k
 obtain⟨ih0,ih1⟩:=impl_NextRound.mono_l k
 unfold impl_NextRound.f
 repeat' first
  | (with_reducible exact ih0 _ _ _ _ _ _)
  | (with_reducible exact ih1 _ _ _ _ _ _ _)
  | (with_reducible exact impl_GoodTurns.mono _ _ _ _)
  | (with_reducible exact LeO.refl _)
  | (with_reducible exact LeO.none _)
  | (with_reducible refine LeO.ite ?_ ?_)
  | (with_reducible refine LeO.bind ?_ (fun _ => ?_))
  | exact ih0 _ _ _ _ _ _
  | exact ih1 _ _ _ _ _ _ _
  | exact impl_GoodTurns.mono _ _ _ _
  | exact LeO.none _
  | refine LeO.ite ?_ ?_
  | refine LeO.bind ?_ (fun _ => ?_)
def impl_NextRound.T9:Bool × List (List Nat × List Nat):=(true,[([],[]),([0],[0]),([1],[1]),([2],[2]),([],[]),([4],[4]),([3,5],[3,5]),([0,0,1,2,3,4,5,6],[0]),([7,0,1,2,3,4,5,6],[7]),([8,6,0,1,2,3,4,5,6],[6,8])])
def impl_NextRound.B9:List Nat:=[0,1,3,7,0,16,63,127,255,511]
theorem impl_NextRound.tab9:rtab .any (opsOf Try.f50 9)=impl_NextRound.T9:=by kernel_rfl
theorem impl_NextRound.bits9:waitsOk impl_NextRound.T9.2 impl_NextRound.B9=true:=by kernel_rfl
def impl_NextRound.T10:Bool × List (List Nat × List Nat):=(true,[([],[]),([0],[0]),([1],[1]),([2],[2]),([3],[3]),([4],[4]),([5],[5]),([6],[6]),([7,6],[6,7]),([8,6],[6,8]),([9,6],[6,9]),([10,6],[6,10]),([11,6],[6,11]),([6],[6]),([13,6],[6,13]),([14,6],[6,14]),([15,6],[6,15]),([12,16,6],[6,12,16]),([6,17],[6,17])])
def impl_NextRound.B10:List Nat:=[0,1,3,7,15,31,63,127,255,511,1023,2047,4095,127,8319,24703,57471,131071,262143]
theorem impl_NextRound.tab10:rtab .any (opsOf Try.f50 10)=impl_NextRound.T10:=by kernel_rfl
theorem impl_NextRound.bits10:waitsOk impl_NextRound.T10.2 impl_NextRound.B10=true:=by kernel_rfl
def impl_NextRound.T11:Bool × List (List Nat × List Nat):=(true,[([],[]),([0],[0]),([1],[1]),([2],[2]),([],[]),([4],[4]),([5],[5]),([6],[6]),([7],[7]),([8],[8]),([3,9],[3,9]),([0,0,1,2,3,4,5,6,7,8,9,10],[0]),([11,0,1,2,3,4,5,6,7,8,9,10],[11]),([12,10,0,1,2,3,4,5,6,7,8,9,10],[10,12])])
def impl_NextRound.B11:List Nat:=[0,1,3,7,0,16,48,112,240,496,1023,2047,4095,8191]
theorem impl_NextRound.tab11:rtab .any (opsOf Try.f50 11)=impl_NextRound.T11:=by kernel_rfl
theorem impl_NextRound.bits11:waitsOk impl_NextRound.T11.2 impl_NextRound.B11=true:=by kernel_rfl
def impl_NextRound.T12:Bool × List (List Nat × List Nat):=(true,[([],[]),([0],[0]),([1],[1]),([2],[2]),([],[]),([4],[4]),([5],[5]),([6],[6]),([7],[7]),([8],[8]),([3,9],[3,9]),([0,0,1,2,3,4,5,6,7,8,9,10],[0]),([11,0,1,2,3,4,5,6,7,8,9,10],[11]),([12,10,0,1,2,3,4,5,6,7,8,9,10],[10,12])])
def impl_NextRound.B12:List Nat:=[0,1,3,7,0,16,48,112,240,496,1023,2047,4095,8191]
theorem impl_NextRound.tab12:rtab .any (opsOf Try.f50 12)=impl_NextRound.T12:=by kernel_rfl
theorem impl_NextRound.bits12:waitsOk impl_NextRound.T12.2 impl_NextRound.B12=true:=by kernel_rfl
set_option maxHeartbeats 8000000 in
set_option maxRecDepth 100000 in
theorem impl_NextRound.calls (k:Nat) (a0_0:Int) (A0_1:Option Addr) (c0_1:Nat) (l0_1:List (S116)) (a0_2:Int) (r1:Int) (r2:List (S116)) (r3:Int) (r4:List Int) (r5:Bool) (w:World) (hr0_1:Kd.C k116 w A0_1 l0_1.length l0_1) (hc0_1:l0_1.length≤c0_1) (h:impl_NextRound.f k a0_0 l0_1 a0_2=some (r1,r2,r3,r4,r5)) :
  Calls Try.prog 50 #[.agg #[.int .i64 a0_0,.slice A0_1 l0_1.length c0_1,.int .i64 a0_2]] w fun e w' => ∃ v1_ v3_:Value,e=.returned (.tuple #[.agg #[.int .i64 r1,v1_,.int .i64 r3],v3_,.bool r5])∧Kd.S k116 116 w' w.heap.size (fun k_=>some k_≠(v3_:Value).ownBlock) v1_ r2∧Kd.R (Kd.int .i64) 3 w' w.heap.size (fun _=>True) v3_ r4∧Below w.heap.size w w':=by
 have hu28:=Try.underlying28
 have HR0_1:=Aside0.mk hr0_1
 have HC0_1:=Aside0.mk hc0_1
 clear hr0_1 hc0_1
 have HB:=Aside0.mk (Below.refl w.heap.size w)
 have H:((impl_GoodTurns.f k a0_0 l0_1 a0_2).bind fun t268=>(if t268=true then ((impl_Turns_copied.f a0_0 l0_1 a0_2).bind fun bt269=>(impl_NextRound.l0 k (([]:List Int)) (bt269.2.1.length:Int) 0 bt269.1 bt269.2.1 bt269.2.2)) else (some (0,([]:List (S116)),0,([]:List Int),false))))=some (r1,r2,r3,r4,r5):=h
 clear h
 replace H:=Option.bind_eq_some_iff.mp H
 obtain⟨t268,A20,H⟩:=H
 replace H:(if t268=true then ((impl_Turns_copied.f a0_0 l0_1 a0_2).bind fun bt269=>(impl_NextRound.l0 k (([]:List Int)) (bt269.2.1.length:Int) 0 bt269.1 bt269.2.1 bt269.2.2)) else (some (0,([]:List (S116)),0,([]:List Int),false)))=some (r1,r2,r3,r4,r5):=H
 have A2:=Aside0.mk A20
 clear A20
 by_cases c3:t268=true
 ·subst c3
  have H1:((impl_Turns_copied.f a0_0 l0_1 a0_2).bind fun bt269=>(impl_NextRound.l0 k (([]:List Int)) (bt269.2.1.length:Int) 0 bt269.1 bt269.2.1 bt269.2.2))=some (r1,r2,r3,r4,r5):=by rw[if_pos rfl] at H;exact H
  clear H
  have H:=H1
  clear H1
  replace H:=Option.bind_eq_some_iff.mp H
  obtain⟨⟨t269,t270,t273⟩,A40,H⟩:=H
  replace H:(impl_NextRound.l0 k (([]:List Int)) (t270.length:Int) 0 t269 t270 t273)=some (r1,r2,r3,r4,r5):=H
  have A4:=Aside0.mk A40
  clear A40
  obtain⟨y274,hy274⟩ : ∃ y_:List Int,y_=(([]:List Int)):=⟨_,rfl⟩
  replace H:(impl_NextRound.l0 k y274 (t270.length:Int) 0 t269 t270 t273)=some (r1,r2,r3,r4,r5):=by first|(rw[hy274];with_reducible exact H)|(have H2_:=(Option.bind_some _ _).symm.trans H;rw[hy274];with_reducible exact H2_)|(have H2_:=(Option.bind_some _ _).symm.trans H;with_reducible exact H2_)|with_reducible exact H|(rw[hy274];exact H)|exact H
  have Ny274:=Aside0.mk hy274
  clear hy274
  have H':=Aside0.mk H
  clear H
  go_enter Try.func50,Try.ntmps50
  go_wp2_with (first|((with_reducible refine gate_dst (N:=1) rfl ?_);refine box_event ?hg (N:=1) ?hd (cs:=#[.int .i64 a0_0,.slice A0_1 l0_1.length c0_1,.int .i64 a0_2]) (t:=28) ?hr ?_;(case hd=>rfl);(case hg=>rfl);(case hr=>first|(go_simp;done)|(go_simp;rfl));intro gb266 hg w5 hbox hb;have n0_:=Aside0.mk (below_step (bB) hb);have n1_:=Aside0.mk (hbox);have n2_:=Aside0.mk ((bG:w.heap.size≤gb266));have n3_:=Aside0.mk ((bG:w.heap.size≤gb266));clear HB;have HB:=n0_;have BK266:=n1_;have GW266:=n2_;have GE266:=n3_;clear n0_ n1_ n2_ n3_;clear hb hbox hg)|((with_reducible refine gate_dst (N:=2) rfl ?_);refine box_event ?hg (N:=2) ?hd (cs:=#[.int .i64 0,.slice none 0 0,.int .i64 0]) (t:=28) ?hr ?_;(case hd=>rfl);(case hg=>rfl);(case hr=>first|(go_simp;done)|(go_simp;rfl));intro gb267 hg w6 hbox hb;have n0_:=Aside0.mk (bM BK266.out hb);have n1_:=Aside0.mk (below_step (bS GE266.out) hb);have n2_:=Aside0.mk (hbox);have n3_:=Aside0.mk ((by rw[hg];exact(below_size (bS GE266.out)):w.heap.size≤gb267));have n4_:=Aside0.mk ((by rw[hg];exact(below_size (bS GE266.out)):w.heap.size≤gb267));have n5_:=Aside0.mk ((bN BK266.out hg:gb266≠gb267));have n6_:=Aside0.mk ((bO BK266.out hg:gb267≠gb266));clear BK266 HB;have BK266:=n0_;have HB:=n1_;have BK267:=n2_;have GW267:=n3_;have GE267:=n4_;have NB266_267:=n5_;have NB267_266:=n6_;clear n0_ n1_ n2_ n3_ n4_ n5_ n6_;clear hb hbox hg;have hnb7:=NB266_267.out;have hnc7:=NB267_266.out;obtain⟨hcz8_0,hcz8_1,hcz8_2⟩:=cC3 BK266.out;obtain⟨hfz8_0,hfz8_1,hfz8_2⟩:=cF3 BK266.out)|((with_reducible refine gate_callee (f:=78) rfl ?_);refine goesA (some 10) rfl rfl Try.func78 #[.agg #[.int .i64 a0_0,.slice A0_1 l0_1.length c0_1,.int .i64 a0_2]] rfl ?_;(with_reducible refine(impl_GoodTurns.calls k a0_0 _ _ l0_1 a0_2 true _ ?side1 ?side2 A2.out).mono ?_);(case side1=>exact bC HR0_1.out);(case side2=>exact HC0_1.out);rintro e w9 ⟨rfl,hb⟩;refine⟨_,rfl,?_⟩;have n0_:=Aside0.mk (bM BK266.out hb);have n1_:=Aside0.mk (bM BK267.out hb);have n2_:=Aside0.mk (below_step (bS2 GE266.out GE267.out) hb);clear BK266 BK267 HB;have BK266:=n0_;have BK267:=n1_;have HB:=n2_;clear n0_ n1_ n2_;(try clear hb);(try clear hb2);(try clear hk);(try clear hi);obtain⟨hcz10_0,hcz10_1,hcz10_2⟩:=cC3 BK266.out;obtain⟨hfz10_0,hfz10_1,hfz10_2⟩:=cF3 BK266.out)|((with_reducible refine gate_callee (f:=80) rfl ?_);refine goesA (some 14) rfl rfl Try.func80 #[.agg #[.int .i64 a0_0,.slice A0_1 l0_1.length c0_1,.int .i64 a0_2]] rfl ?_;(with_reducible refine(impl_Turns_copied.calls a0_0 _ _ l0_1 a0_2 t269 t270 t273 _ ?side1 ?side2 A4.out).mono ?_);(case side1=>exact bC HR0_1.out);(case side2=>exact HC0_1.out);rintro e w11 ⟨v271,rfl,ho0,hb⟩;refine⟨_,rfl,?_⟩;have n0_:=Aside0.mk (Kd.N_lower (Kd.N_mono (ok':=fun k_=>(w.heap.size≤k_)∧k_≠gb266∧k_≠gb267) (Kd.S_N (Kd.S_bound ho0)) (fun k_ hk_=>⟨(Nat.le_trans (below_size (bS2 GE266.out GE267.out)) hk_.2.1),(Kd.freshB (g:=gb266) (o:=.cells #[.int .i64 a0_0,.slice A0_1 l0_1.length c0_1,.int .i64 a0_2] 28 (0,0)) (bL BK266.out) k_ hk_.2.1),(Kd.freshB (g:=gb267) (o:=.cells #[.int .i64 0,.slice none 0 0,.int .i64 0] 28 (0,0)) (bL BK267.out) k_ hk_.2.1)⟩)) (below_size (bS2 GE266.out GE267.out)));have n1_:=Aside0.mk (bM BK266.out hb);have n2_:=Aside0.mk (bM BK267.out hb);have n3_:=Aside0.mk (below_step (bS2 GE266.out GE267.out) hb);clear BK266 BK267 HB;have HO272:=n0_;have BK266:=n1_;have BK267:=n2_;have HB:=n3_;clear n0_ n1_ n2_ n3_;(try clear hb);(try clear hb2);(try clear hk);(try clear hi);(try clear ho0))|((with_reducible refine gate_dst (N:=15) rfl ?_);refine Kd.R_lit (Kd.int .i64) _ 3 ?hg (N:=15) ?hd (xs:=([]:List Int)) (inner:=[]) (ok:=fun _=>True) (okp:=fun _=>True) ?hr ?hp (fun _ hk=>hk) trivial (Below.refl _ _) (Nat.le_refl _) (by simp) ?_;(case hd=>rfl);(case hg=>rfl);(case hr=>first|(go_simp;done)|(go_simp;rfl));(case hp=>exact(Reps.none _ _));intro v275 w12 ho13 hb hg_ hnew_;clear hg_ hnew_;(first|rw[← Ny274.out] at ho13|(simp only[Int.reduceToNat] at ho13;rw[← Ny274.out] at ho13));have n0_:=Aside0.mk (Kd.N_elder' (by(with_reducible repeat (first|apply Kd.N_alloc|apply Kd.N_drewN|apply Kd.N_drew));exact HO272.out) (Kd.R_base ho13) hb);have n1_:=Aside0.mk (Kd.R_lower (Kd.R_newM (M:=fun k_=>(w.heap.size≤k_)) ho13 (below_size (bS2 GE266.out GE267.out)) (fun k_ h_=>h_)) (below_size (bS2 GE266.out GE267.out)));have n2_:=Aside0.mk (bM BK266.out hb);have n3_:=Aside0.mk (bM BK267.out hb);have n4_:=Aside0.mk (below_step (bS2 GE266.out GE267.out) hb);clear HO272 BK266 BK267 HB;have HO272:=n0_;have HO276:=n1_;have BK266:=n2_;have BK267:=n3_;have HB:=n4_;clear n0_ n1_ n2_ n3_ n4_;clear hb ho13)|((with_reducible refine gate_dst (N:=5) rfl ?_);refine box_event ?hg (N:=5) ?hd (cs:=#[.int .i64 0,.slice none 0 0,.int .i64 0]) (t:=28) ?hr ?_;(case hd=>rfl);(case hg=>rfl);(case hr=>first|(go_simp;done)|(go_simp;rfl));intro gb277 hg w14 hbox hb;have n0_:=Aside0.mk (Kd.N_below (Kd.N_elderB (by(with_reducible repeat (first|apply Kd.N_alloc|apply Kd.N_drewN|apply Kd.N_drew));exact HO272.out) gb277 (Nat.le_of_eq hg.symm)) hb);have n1_:=Aside0.mk (Kd.R_below (bK HO276.out) hb);have n2_:=Aside0.mk (bM BK266.out hb);have n3_:=Aside0.mk (bM BK267.out hb);have n4_:=Aside0.mk (below_step (bS2 GE266.out GE267.out) hb);have n5_:=Aside0.mk (hbox);have n6_:=Aside0.mk ((by rw[hg];exact(below_size (bS2 GE266.out GE267.out)):w.heap.size≤gb277));have n7_:=Aside0.mk ((by rw[hg];exact(below_size (bS2 GE266.out GE267.out)):w.heap.size≤gb277));have n8_:=Aside0.mk ((bN BK266.out hg:gb266≠gb277));have n9_:=Aside0.mk ((bO BK266.out hg:gb277≠gb266));have n10_:=Aside0.mk ((bN BK267.out hg:gb267≠gb277));have n11_:=Aside0.mk ((bO BK267.out hg:gb277≠gb267));clear HO272 HO276 BK266 BK267 HB;have HO272:=n0_;have HO276:=n1_;have BK266:=n2_;have BK267:=n3_;have HB:=n4_;have BK277:=n5_;have GW277:=n6_;have GE277:=n7_;have NB266_277:=n8_;have NB277_266:=n9_;have NB267_277:=n10_;have NB277_267:=n11_;clear n0_ n1_ n2_ n3_ n4_ n5_ n6_ n7_ n8_ n9_ n10_ n11_;clear hb hbox hg;have hnb15:=NB277_266.out;have hnc15:=NB266_277.out;have hnb16:=NB277_267.out;have hnc16:=NB267_277.out;obtain⟨hcz17_0,hcz17_1,hcz17_2⟩:=cC3 BK277.out;obtain⟨hfz17_0,hfz17_1,hfz17_2⟩:=cF3 BK277.out;obtain⟨Ao18,co18,eo18⟩:=Kd.N_slice HO272.out;subst eo18))
  go_loopg [6,19] k (fun kq v6 v19 w' => ∃ (x6_1:List Int) (x19_1:Int) (x278001_1:List (S116)),v19=.int .i64 x19_1∧Aside0 (impl_NextRound.l0 kq x6_1 (t270.length:Int) x19_1 t269 x278001_1 t273=some (r1,r2,r3,r4,r5))∧Aside0 (kq≤k)∧Aside0 (Kd.R (Kd.int .i64) 3 w' w.heap.size (fun k_=>(w.heap.size≤k_)) v6 x6_1)∧Aside0 (Kd.N k116 116 w' w.heap.size (fun k_=>(w.heap.size≤k_)∧some k_≠(v6:Value).ownBlock∧k_≠gb266∧k_≠gb267∧k_≠gb277) (.slice Ao18 t270.length co18) x278001_1)∧Aside0 (w'.heap[gb266]?=some (.cells #[.int .i64 a0_0,(.slice A0_1 l0_1.length c0_1),.int .i64 a0_2] 28 (0,0)))∧Aside0 (w'.heap[gb267]?=some (.cells #[.int .i64 0,(.slice none 0 0),.int .i64 0] 28 (0,0)))∧Aside0 (w'.heap[gb277]?=some (.cells #[.int .i64 t269,(.slice Ao18 t270.length co18),.int .i64 t273] 28 (0,0)))∧Aside0 (Below w.heap.size w w'))
  case atStart=>exact⟨(y274),(0),(t270),(bR),H',⟨Nat.le_refl _⟩,⟨by(with_reducible repeat (first|apply Kd.R_alloc|apply Kd.R_drewN|apply Kd.R_drew));exact Kd.R_mono (Kd.R_far (p:=⟨gb277,2,none⟩) (Kd.R_far (p:=⟨gb277,1,none⟩) (Kd.R_far (p:=⟨gb277,0,none⟩) (Kd.R_types HO276.out BK277.out (by decide)) (fun _ hk=>hk.2) (.int .i64 t269)) (fun _ hk=>hk.2) (.slice Ao18 t270.length co18)) (fun _ hk=>hk.2) (.int .i64 t273)) (fun _ hk=>hk.1.1)⟩,⟨by(with_reducible repeat (first|apply Kd.N_alloc|apply Kd.N_drewN|apply Kd.N_drew));exact Kd.N_mono (Kd.N_far (p:=⟨gb277,2,none⟩) (Kd.N_far (p:=⟨gb277,1,none⟩) (Kd.N_far (p:=⟨gb277,0,none⟩) (Kd.N_mono HO272.out (fun k_ hk=>(⟨hk,hk.2⟩:_∧k_≠gb277))) (fun _ hk=>hk.2) (.int .i64 t269)) (fun _ hk=>hk.2) (.slice Ao18 t270.length co18)) (fun _ hk=>hk.2) (.int .i64 t273)) (fun _ hk=>⟨hk.1.1.1.1,⟨hk.1.1.2,⟨hk.1.1.1.2.1,⟨hk.1.1.1.2.2,hk.1.2⟩⟩⟩⟩)⟩,⟨by(with_reducible repeat (first|refine blk_drewN ?_ _|refine blk_drew ?_|refine blk_alloc ?_ _));refine blk_far ?_ NB266_277.out _;(with_reducible repeat (first|refine blk_drewN ?_ _|refine blk_drew ?_|refine blk_alloc ?_ _));refine blk_far ?_ NB266_277.out _;(with_reducible repeat (first|refine blk_drewN ?_ _|refine blk_drew ?_|refine blk_alloc ?_ _));refine blk_far ?_ NB266_277.out _;(with_reducible repeat (first|refine blk_drewN ?_ _|refine blk_drew ?_|refine blk_alloc ?_ _));exact BK266.out⟩,⟨by(with_reducible repeat (first|refine blk_drewN ?_ _|refine blk_drew ?_|refine blk_alloc ?_ _));refine blk_far ?_ NB267_277.out _;(with_reducible repeat (first|refine blk_drewN ?_ _|refine blk_drew ?_|refine blk_alloc ?_ _));refine blk_far ?_ NB267_277.out _;(with_reducible repeat (first|refine blk_drewN ?_ _|refine blk_drew ?_|refine blk_alloc ?_ _));refine blk_far ?_ NB267_277.out _;(with_reducible repeat (first|refine blk_drewN ?_ _|refine blk_drew ?_|refine blk_alloc ?_ _));exact BK267.out⟩,⟨by(with_reducible repeat (first|refine blk_drewN ?_ _|refine blk_drew ?_|refine blk_alloc ?_ _));refine blk_put (cs:=#[.int .i64 t269,.slice Ao18 t270.length co18,.int .i64 0]) ?_ 2 _ rfl;(with_reducible repeat (first|refine blk_drewN ?_ _|refine blk_drew ?_|refine blk_alloc ?_ _));refine blk_put (cs:=#[.int .i64 t269,.slice none 0 0,.int .i64 0]) ?_ 1 _ rfl;(with_reducible repeat (first|refine blk_drewN ?_ _|refine blk_drew ?_|refine blk_alloc ?_ _));refine blk_put (cs:=#[.int .i64 0,.slice none 0 0,.int .i64 0]) ?_ 0 _ rfl;(with_reducible repeat (first|refine blk_drewN ?_ _|refine blk_drew ?_|refine blk_alloc ?_ _));exact BK277.out⟩,⟨bS3 GE266.out GE267.out GE277.out⟩⟩
  case round =>
   clear H'
   try clear c1
   try clear p2
   try clear c3
   try clear c5
   try clear c7
   try clear c8
   try clear c15
   try clear c16
   try clear hcz10_0 hcz10_1 hcz10_2
   try clear hcz17_0 hcz17_1 hcz17_2
   try clear hcz8_0 hcz8_1 hcz8_2
   try clear hfz10_0 hfz10_1 hfz10_2
   try clear hfz17_0 hfz17_1 hfz17_2
   try clear hfz8_0 hfz8_1 hfz8_2
   obtain⟨x6_1,x19_1,x278001_1,rfl,HA,HK1,HO_6,HO_278001,BK266,BK267,BK277,HB⟩:=hrel
   have hl278001_1:=(Kd.N_reads' HO_278001.out).1
   rw[hl278001_1] at HO_278001
   (try simp only[hl278001_1])
   (try simp only[hl278001_1] at BK266)
   (try simp only[hl278001_1] at BK267)
   (try simp only[hl278001_1] at BK277)
   (try simp only[hl278001_1] at HO_6)
   cases gk with
   | zero=>exact absurd HA.out (by simp[impl_NextRound.l0])
   | succ k1 =>
    have H:=HA.out
    clear HA
    simp only[impl_NextRound.l0] at H
    by_cases c19:x19_1 < (t270.length:Int)
    ·rw[if_pos c19] at H
     have c19b0:decide (x19_1 < (t270.length:Int))=true:=decide_eq_true c19
     have c19z_:=c19b0
     (try simp only[hl278001_1] at c19z_)
     clear c19
     by_cases c20:0≤x19_1
     ·rw[if_pos c20] at H
      have c20b0:decide (0≤x19_1)=true:=decide_eq_true c20
      clear c20
      by_cases c21:x19_1 < (x278001_1.length:Int)
      ·rw[if_pos c21] at H
       have c21b0:decide (x19_1 < (x278001_1.length:Int))=true:=decide_eq_true c21
       clear c21
       by_cases c23:(((rd_T116 x278001_1 x19_1).f0).length:Int)=0
       ·rw[if_pos c23] at H
        have c23b0:((((rd_T116 x278001_1 x19_1).f0).length:Int) == 0)=true:=beq_iff_eq.mpr c23
        have c23b1:((((rd_T116 x278001_1 x19_1).f0).length:Int) != 0)=false:=bne_eq_false_iff_eq.mpr c23
        clear c23
        have H':=Aside0.mk H
        clear H
        have hnb24:=NB277_266.out
        have hnc24:=NB266_277.out
        have hnb25:=NB277_267.out
        have hnc25:=NB267_277.out
        obtain⟨hcz26_0,hcz26_1,hcz26_2⟩:=cC3 BK277.out
        obtain⟨hfz26_0,hfz26_1,hfz26_2⟩:=cF3 BK277.out
        have p22:0≤(x19_1:Int):=of_decide_eq_true (bD)
        have q22:(x19_1:Int) < ((x278001_1.length:Int):Int):=of_decide_eq_true (bD)
        obtain⟨go22,co22,eo22,gb22,gl22,cl22,HG22⟩:=Kd.N_form HO_278001.out (by omega)
        (first|cases eo22|(injection eo22 with ea_ en_ ec_;(first|subst ea_|(injection ea_ with ea_;subst ea_));subst ec_;clear en_))
        have GB22:=Aside0.mk gb22
        have GG22:=Aside0.mk HG22
        clear gb22 gl22 HG22
        obtain⟨ce22,hcl22,hM22,hcc22,hfr22⟩:=Kd.N_elem HO_278001.out z116 (x19_1:Int) p22 q22
        obtain⟨ua22_0,uc22_0,rfl,ul22_0,ge22_0⟩:=k116_openF hM22
        have hx22_0:wr.cell? ⟨go22,(x19_1:Int).toNat * 3,none⟩=some (.slice ua22_0 ((rd_T116 x278001_1 x19_1).f0).length uc22_0):=hcc22 0 _ rfl
        have hx22_1:wr.cell? ⟨go22,(x19_1:Int).toNat * 3+1,none⟩=some (.int .i64 ((rd_T116 x278001_1 x19_1).f1)):=hcc22 1 _ rfl
        have hx22_2:wr.cell? ⟨go22,(x19_1:Int).toNat * 3+2,none⟩=some (.int .i64 ((rd_T116 x278001_1 x19_1).f2)):=hcc22 2 _ rfl
        have hf22_0:wr.frozen? ⟨go22,(x19_1:Int).toNat * 3,none⟩=false:=hfr22 0
        have hf22_1:wr.frozen? ⟨go22,(x19_1:Int).toNat * 3+1,none⟩=false:=hfr22 1
        have hf22_2:wr.frozen? ⟨go22,(x19_1:Int).toNat * 3+2,none⟩=false:=hfr22 2
        clear hcl22 hcc22 hfr22 hM22
        replace p22:=eq_true p22
        replace q22:=eq_true q22
        have p278:0≤(x19_1:Int):=of_decide_eq_true (bD)
        have q278:x19_1 < (x278001_1.length:Int):=of_decide_eq_true (bD)
        obtain⟨ad278,A278_0,c278_0,e278,hx278_0,hx278_1,hx278_2,hl278_0,hi278_0⟩:=at_T116 (Kd.N_reads' HO_278001.out).2.2 x19_1 p278 q278
        obtain rfl:(⟨go22,0,none⟩:Addr)=ad278:=(by injection e278)
        obtain⟨ce278,hce278,hMe278,hcc278⟩:=Kd.N_get HO_278001.out z116 x19_1 p278 (by first|exact q278|exact of_decide_eq_true (bD)|(have e_:=(Kd.N_reads' HO_278001.out).1;omega))
        obtain⟨ua278_0,uc278_0,rfl,ul278_0,ge278_0⟩:=k116_openF hMe278
        have hv278_0:=hcc278 0 _ rfl
        rw[Nat.add_zero] at hv278_0
        replace hv278_0:=Option.some.inj (hv278_0.symm.trans hx278_0)
        injection hv278_0 with hva_ hvn_ hvc_
        rw[hva_] at ge278_0
        rw[hvc_] at ul278_0
        have HL278_0:=Aside0.mk (show Kd.V (Kd.int .i64) 3 _ w.heap.size _ _ ((rd_T116 x278001_1 x19_1).f0) from Kd.V_mk ul278_0 ge278_0)
        clear hva_ hvn_ hvc_ ge278_0 ul278_0 hcc278 hce278
        (first|simp only[add_plain] at hx278_0|simp only[add_at] at hx278_0|simp only[Addr.add,Nat.zero_add] at hx278_0|skip)
        (first|simp only[add_plain] at hx278_1|simp only[add_at] at hx278_1|simp only[Addr.add,Nat.zero_add] at hx278_1|skip)
        (first|simp only[add_plain] at hx278_2|simp only[add_at] at hx278_2|simp only[Addr.add,Nat.zero_add] at hx278_2|skip)
        have HR278_0:=Aside0.mk hi278_0
        have HC278_0:=Aside0.mk hl278_0
        clear hi278_0 hl278_0
        replace p278:=eq_true p278
        replace q278:=eq_true q278
        go_wp2
        (try simp only[← hl278001_1])
        go_roundg k1
        case measure=>have:=HK1.out;omega
        case rel=>exact⟨(x6_1),(wrap64 (x19_1+1)),(x278001_1),(bR),H',⟨by have:=HK1.out;omega⟩,⟨by(try simp only[hl278001_1]);(with_reducible repeat (first|apply Kd.R_alloc|apply Kd.R_drewN|apply Kd.R_drew));exact HO_6.out⟩,⟨by(try simp only[hl278001_1]);(with_reducible repeat (first|apply Kd.N_alloc|apply Kd.N_drewN|apply Kd.N_drew));exact HO_278001.out⟩,⟨by(try simp only[hl278001_1]);(with_reducible repeat (first|refine blk_drewN ?_ _|refine blk_drew ?_|refine blk_alloc ?_ _));exact BK266.out⟩,⟨by(try simp only[hl278001_1]);(with_reducible repeat (first|refine blk_drewN ?_ _|refine blk_drew ?_|refine blk_alloc ?_ _));exact BK267.out⟩,⟨by(try simp only[hl278001_1]);(with_reducible repeat (first|refine blk_drewN ?_ _|refine blk_drew ?_|refine blk_alloc ?_ _));exact BK277.out⟩,⟨bS3 GE266.out GE267.out GE277.out⟩⟩
       ·rw[if_neg c23] at H
        have c23b0:((((rd_T116 x278001_1 x19_1).f0).length:Int) == 0)=false:=beq_eq_false_iff_ne.mpr c23
        have c23b1:((((rd_T116 x278001_1 x19_1).f0).length:Int) != 0)=true:=bne_iff_ne.mpr c23
        have c23b2 : ¬ (((rd_T116 x278001_1 x19_1).f0)=[]):=fun h_=>c23 (by rw[h_];rfl)
        obtain⟨y280,hy280⟩ : ∃ y_:List (S116),y_=(x278001_1.set (x19_1:Int).toNat (⟨(rd_T116 x278001_1 x19_1).f0,wrap64 (((rd_T116 x278001_1 x19_1).f1)+t269),(rd_T116 x278001_1 x19_1).f2⟩:S116)):=⟨_,rfl⟩
        replace H:(impl_NextRound.l1 k1 x6_1 x19_1 (t270.length:Int) x19_1 t269 y280 t273)=some (r1,r2,r3,r4,r5):=by first|(rw[hy280];with_reducible exact H)|(have H2_:=(Option.bind_some _ _).symm.trans H;rw[hy280];with_reducible exact H2_)|(have H2_:=(Option.bind_some _ _).symm.trans H;with_reducible exact H2_)|with_reducible exact H|(rw[hy280];exact H)|exact H
        have Ny280:=Aside0.mk hy280
        clear hy280
        have H':=Aside0.mk H
        clear H
        have hnb28:=NB277_266.out
        have hnc28:=NB266_277.out
        have hnb29:=NB277_267.out
        have hnc29:=NB267_277.out
        obtain⟨hcz30_0,hcz30_1,hcz30_2⟩:=cC3 BK277.out
        obtain⟨hfz30_0,hfz30_1,hfz30_2⟩:=cF3 BK277.out
        have p22:0≤(x19_1:Int):=of_decide_eq_true (bD)
        have q22:(x19_1:Int) < ((x278001_1.length:Int):Int):=of_decide_eq_true (bD)
        obtain⟨go22,co22,eo22,gb22,gl22,cl22,HG22⟩:=Kd.N_form HO_278001.out (by omega)
        (first|cases eo22|(injection eo22 with ea_ en_ ec_;(first|subst ea_|(injection ea_ with ea_;subst ea_));subst ec_;clear en_))
        have GB22:=Aside0.mk gb22
        have GG22:=Aside0.mk HG22
        clear gb22 gl22 HG22
        obtain⟨ce22,hcl22,hM22,hcc22,hfr22⟩:=Kd.N_elem HO_278001.out z116 (x19_1:Int) p22 q22
        obtain⟨ua22_0,uc22_0,rfl,ul22_0,ge22_0⟩:=k116_openF hM22
        have hx22_0:wr.cell? ⟨go22,(x19_1:Int).toNat * 3,none⟩=some (.slice ua22_0 ((rd_T116 x278001_1 x19_1).f0).length uc22_0):=hcc22 0 _ rfl
        have hx22_1:wr.cell? ⟨go22,(x19_1:Int).toNat * 3+1,none⟩=some (.int .i64 ((rd_T116 x278001_1 x19_1).f1)):=hcc22 1 _ rfl
        have hx22_2:wr.cell? ⟨go22,(x19_1:Int).toNat * 3+2,none⟩=some (.int .i64 ((rd_T116 x278001_1 x19_1).f2)):=hcc22 2 _ rfl
        have hf22_0:wr.frozen? ⟨go22,(x19_1:Int).toNat * 3,none⟩=false:=hfr22 0
        have hf22_1:wr.frozen? ⟨go22,(x19_1:Int).toNat * 3+1,none⟩=false:=hfr22 1
        have hf22_2:wr.frozen? ⟨go22,(x19_1:Int).toNat * 3+2,none⟩=false:=hfr22 2
        clear hcl22 hcc22 hfr22 hM22
        replace p22:=eq_true p22
        replace q22:=eq_true q22
        have p278:0≤(x19_1:Int):=of_decide_eq_true (bD)
        have q278:x19_1 < (x278001_1.length:Int):=of_decide_eq_true (bD)
        obtain⟨ad278,A278_0,c278_0,e278,hx278_0,hx278_1,hx278_2,hl278_0,hi278_0⟩:=at_T116 (Kd.N_reads' HO_278001.out).2.2 x19_1 p278 q278
        obtain rfl:(⟨go22,0,none⟩:Addr)=ad278:=(by injection e278)
        obtain⟨ce278,hce278,hMe278,hcc278⟩:=Kd.N_get HO_278001.out z116 x19_1 p278 (by first|exact q278|exact of_decide_eq_true (bD)|(have e_:=(Kd.N_reads' HO_278001.out).1;omega))
        obtain⟨ua278_0,uc278_0,rfl,ul278_0,ge278_0⟩:=k116_openF hMe278
        have hv278_0:=hcc278 0 _ rfl
        rw[Nat.add_zero] at hv278_0
        replace hv278_0:=Option.some.inj (hv278_0.symm.trans hx278_0)
        injection hv278_0 with hva_ hvn_ hvc_
        rw[hva_] at ge278_0
        rw[hvc_] at ul278_0
        have HL278_0:=Aside0.mk (show Kd.V (Kd.int .i64) 3 _ w.heap.size _ _ ((rd_T116 x278001_1 x19_1).f0) from Kd.V_mk ul278_0 ge278_0)
        clear hva_ hvn_ hvc_ ge278_0 ul278_0 hcc278 hce278
        (first|simp only[add_plain] at hx278_0|simp only[add_at] at hx278_0|simp only[Addr.add,Nat.zero_add] at hx278_0|skip)
        (first|simp only[add_plain] at hx278_1|simp only[add_at] at hx278_1|simp only[Addr.add,Nat.zero_add] at hx278_1|skip)
        (first|simp only[add_plain] at hx278_2|simp only[add_at] at hx278_2|simp only[Addr.add,Nat.zero_add] at hx278_2|skip)
        have HR278_0:=Aside0.mk hi278_0
        have HC278_0:=Aside0.mk hl278_0
        clear hi278_0 hl278_0
        replace p278:=eq_true p278
        replace q278:=eq_true q278
        try go_wp2
        (try (rw[drewN_self wr];generalize hq_:World.drewN wr _=wr;have n0_:=Aside0.mk (Kd.R_at hq_ HO_6.out);have n1_:=Aside0.mk (Kd.N_at hq_ HO_278001.out);have n2_:=Aside0.mk (Kd.V_at hq_ HL278_0.out);have n3_:=Aside0.mk (blk_at hq_ BK266.out);have n4_:=Aside0.mk (blk_at hq_ BK267.out);have n5_:=Aside0.mk (blk_at hq_ BK277.out);have n6_:=Aside0.mk (Kd.C_at hq_ HR278_0.out);have n7_:=Aside0.mk (below_at hq_ HB.out);clear hq_ HO_6 HO_278001 HL278_0 BK266 BK267 BK277 HR278_0 HB;have HO_6:=n0_;have HO_278001:=n1_;have HL278_0:=n2_;have BK266:=n3_;have BK267:=n4_;have BK277:=n5_;have HR278_0:=n6_;have HB:=n7_;clear n0_ n1_ n2_ n3_ n4_ n5_ n6_ n7_))
        have n0_:=Aside0.mk (Kd.R_drew HO_6.out)
        have n1_:=Aside0.mk (Kd.N_drew HO_278001.out)
        have n2_:=Aside0.mk (Kd.V_drew HL278_0.out)
        have n3_:=Aside0.mk (blk_drew BK266.out)
        have n4_:=Aside0.mk (blk_drew BK267.out)
        have n5_:=Aside0.mk (blk_drew BK277.out)
        have n6_:=Aside0.mk (Kd.C_drew HR278_0.out)
        have n7_:=Aside0.mk (below_drew1 HB.out)
        clear HO_6 HO_278001 HL278_0 BK266 BK267 BK277 HR278_0 HB
        have HO_6:=n0_
        have HO_278001:=n1_
        have HL278_0:=n2_
        have BK266:=n3_
        have BK267:=n4_
        have BK277:=n5_
        have HR278_0:=n6_
        have HB:=n7_
        clear n0_ n1_ n2_ n3_ n4_ n5_ n6_ n7_
        have p279:0≤(x19_1:Int):=of_decide_eq_true (bD)
        have q279:x19_1 < (x278001_1.length:Int):=of_decide_eq_true (bD)
        obtain⟨ad279,A279_0,c279_0,e279,hx279_0,hx279_1,hx279_2,hl279_0,hi279_0⟩:=at_T116 (Kd.N_reads' HO_278001.out).2.2 x19_1 p279 q279
        obtain rfl:(⟨go22,0,none⟩:Addr)=ad279:=(by injection e279)
        obtain⟨ce279,hce279,hMe279,hcc279⟩:=Kd.N_get HO_278001.out z116 x19_1 p279 (by first|exact q279|exact of_decide_eq_true (bD)|(have e_:=(Kd.N_reads' HO_278001.out).1;omega))
        obtain⟨ua279_0,uc279_0,rfl,ul279_0,ge279_0⟩:=k116_openF hMe279
        have hv279_0:=hcc279 0 _ rfl
        rw[Nat.add_zero] at hv279_0
        replace hv279_0:=Option.some.inj (hv279_0.symm.trans hx279_0)
        injection hv279_0 with hva_ hvn_ hvc_
        rw[hva_] at ge279_0
        rw[hvc_] at ul279_0
        have HL279_0:=Aside0.mk (show Kd.V (Kd.int .i64) 3 _ w.heap.size _ _ ((rd_T116 x278001_1 x19_1).f0) from Kd.V_mk ul279_0 ge279_0)
        clear hva_ hvn_ hvc_ ge279_0 ul279_0 hcc279 hce279
        (first|simp only[add_plain] at hx279_0|simp only[add_at] at hx279_0|simp only[Addr.add,Nat.zero_add] at hx279_0|skip)
        (first|simp only[add_plain] at hx279_1|simp only[add_at] at hx279_1|simp only[Addr.add,Nat.zero_add] at hx279_1|skip)
        (first|simp only[add_plain] at hx279_2|simp only[add_at] at hx279_2|simp only[Addr.add,Nat.zero_add] at hx279_2|skip)
        have HR279_0:=Aside0.mk hi279_0
        have HC279_0:=Aside0.mk hl279_0
        clear hi279_0 hl279_0
        replace p279:=eq_true p279
        replace q279:=eq_true q279
        have p27:0≤(x19_1:Int):=of_decide_eq_true (bD)
        have q27:(x19_1:Int) < ((x278001_1.length:Int):Int):=of_decide_eq_true (bD)
        obtain⟨ce27,hcl27,hM27,hcc27,hfr27⟩:=Kd.N_elem HO_278001.out z116 (x19_1:Int) p27 q27
        obtain⟨ua27_0,uc27_0,rfl,ul27_0,ge27_0⟩:=k116_openF hM27
        have hx27_0:World.cell? _ ⟨go22,(x19_1:Int).toNat * 3,none⟩=some (.slice ua27_0 ((rd_T116 x278001_1 x19_1).f0).length uc27_0):=hcc27 0 _ rfl
        have hx27_1:World.cell? _ ⟨go22,(x19_1:Int).toNat * 3+1,none⟩=some (.int .i64 ((rd_T116 x278001_1 x19_1).f1)):=hcc27 1 _ rfl
        have hx27_2:World.cell? _ ⟨go22,(x19_1:Int).toNat * 3+2,none⟩=some (.int .i64 ((rd_T116 x278001_1 x19_1).f2)):=hcc27 2 _ rfl
        have hf27_0:World.frozen? _ ⟨go22,(x19_1:Int).toNat * 3,none⟩=false:=hfr27 0
        have hf27_1:World.frozen? _ ⟨go22,(x19_1:Int).toNat * 3+1,none⟩=false:=hfr27 1
        have hf27_2:World.frozen? _ ⟨go22,(x19_1:Int).toNat * 3+2,none⟩=false:=hfr27 2
        clear hcl27 hcc27 hfr27 hM27
        replace p27:=eq_true p27
        replace q27:=eq_true q27
        have HX32:=Aside0.mk (show Kd.N k116 116 _ w.heap.size (fun k_=>(w.heap.size≤k_)∧some k_≠(u6:Value).ownBlock∧k_≠gb266∧k_≠gb267∧k_≠gb277) (.slice (some ⟨go22,0,none⟩) x278001_1.length co18) x278001_1 from (Kd.N_mono (HO_278001.out) (fun k_ hk=>⟨hk.1,⟨hk.2.1,⟨hk.2.2.1,⟨hk.2.2.2.1,hk.2.2.2.2⟩⟩⟩⟩)))
        obtain⟨ce32,hcl32,hM32,hcc32,hfr32⟩:=Kd.N_elem HX32.out z116 (x19_1:Int) (of_decide_eq_true (bD)) (by have h_:(x19_1:Int) < ((x278001_1.length:Int):Int):=of_decide_eq_true (bD);first|exact h_|(have e_:=(Kd.N_reads' HO_278001.out).1;omega)|simpa using h_)
        obtain⟨ua32_0,uc32_0,rfl,ul32_0,ge32_0⟩:=k116_openF hM32
        have HP32:=(Kd.N_seg HX32.out (x19_1:Int) (of_decide_eq_true (bD)) (by have h_:(x19_1:Int) < ((x278001_1.length:Int):Int):=of_decide_eq_true (bD);first|exact h_|(have e_:=(Kd.N_reads' HO_278001.out).1;omega)|simpa using h_) (seg:=[.int .i64 (wrap64 (((rd_T116 x278001_1 x19_1).f1)+t269))]) (j:=1) hcl32 hcc32 (show 2≤3 from by decide) (x':=(⟨(rd_T116 x278001_1 x19_1).f0,wrap64 (((rd_T116 x278001_1 x19_1).f1)+t269),(rd_T116 x278001_1 x19_1).f2⟩:S116)) (k116_mkF _ _ (⟨(rd_T116 x278001_1 x19_1).f0,wrap64 (((rd_T116 x278001_1 x19_1).f1)+t269),(rd_T116 x278001_1 x19_1).f2⟩:S116) ul32_0 ge32_0) (fun _ hk=>hk)).1
        rw[← Ny280.out] at HP32
        have HQ32:=Aside0.mk HP32
        clear hcl32 hcc32 hfr32 hM32 HP32
        refine start_ (n:=10) (S:=fun w'=>w'.cell? ⟨gb277,0,none⟩=some (.int .i64 t269)∧w'.cell? ⟨gb277,1,none⟩=some (.slice (some ⟨go22,0,none⟩) x278001_1.length co18)∧w'.cell? ⟨gb277,2,none⟩=some (.int .i64 t273)∧w'.cell? ⟨go22,(x19_1).toNat * 3,none⟩=some (.slice A279_0 ((rd_T116 x278001_1 x19_1).f0).length c279_0)∧w'.cell? ⟨go22,(x19_1).toNat * 3+1,none⟩=some (.int .i64 ((rd_T116 x278001_1 x19_1).f1))∧w'.cell? ⟨go22,(x19_1).toNat * 3+2,none⟩=some (.int .i64 ((rd_T116 x278001_1 x19_1).f2))) (ds:=[9]) #[false,false,false,false,false,false,false,false,false,false] (by kernel_rfl) rfl rfl ⟨(blk_cell BK277.out 0).trans rfl,(blk_cell BK277.out 1).trans rfl,(blk_cell BK277.out 2).trans rfl,hx279_0,hx279_1,hx279_2⟩ (fun hHeld => ?_);refine with_tabW impl_NextRound.tab9 impl_NextRound.bits9 (fun HT_ HW_ => ?_)
        generalize wr.drew=w31 at HO_6 HO_278001 HL278_0 BK266 BK267 BK277 HR278_0 HB HL279_0 HQ32 HR279_0 hf27_0 hf27_1 hf27_2 hx279_0 hx279_1 hx279_2 hx27_0 hx27_1 hx27_2 hHeld ⊢
        refine pure_ (i:=0) (N:=some 32) (v:=?_) (a':=?_) #[true,false,false,false,false,false,false,false,false,false] rfl rfl (any_of HT_.out (by kernel_rfl)) (fun _ _ _ h=>h) (Or.inl ⟨by rfl,?_⟩) ?_ ?_
        rotate_left
        ·intro w'
         go_simp
         with_reducible rfl
        rotate_left
        ·simp only[Act.put,List.setIfInBounds_toArray,List.set_cons_zero,List.set_cons_succ,i64_w,i32_w]
         rfl
        refine pure_ (i:=1) (N:=some 33) (v:=?_) (a':=?_) #[true,true,false,false,false,false,false,false,false,false] rfl rfl (any_of HT_.out (by kernel_rfl)) (fun _ _ _ h=>h) (Or.inl ⟨by rfl,?_⟩) ?_ ?_
        rotate_left
        ·intro w'
         go_simp
         with_reducible rfl
        rotate_left
        ·simp only[Act.put,List.setIfInBounds_toArray,List.set_cons_zero,List.set_cons_succ,i64_w,i32_w]
         rfl
        refine pure_ (i:=2) (N:=some 34) (v:=?_) (a':=?_) #[true,true,true,false,false,false,false,false,false,false] rfl rfl (any_of HT_.out (by kernel_rfl)) (fun _ _ _ h=>h) (Or.inl ⟨by rfl,?_⟩) ?_ ?_
        rotate_left
        ·intro w'
         go_simp
         with_reducible rfl
        rotate_left
        ·simp only[Act.put,List.setIfInBounds_toArray,List.set_cons_zero,List.set_cons_succ,i64_w,i32_w]
         rfl
        refine pure_ (i:=4) (N:=some 36) (v:=?_) (a':=?_) #[true,true,true,false,true,false,false,false,false,false] rfl rfl (any_of HT_.out (by kernel_rfl)) (fun _ _ _ h=>h) (Or.inl ⟨by rfl,?_⟩) ?_ ?_
        rotate_left
        ·intro w'
         go_simp
         with_reducible rfl
        rotate_left
        ·simp only[Act.put,List.setIfInBounds_toArray,List.set_cons_zero,List.set_cons_succ,i64_w,i32_w]
         rfl
        refine take_ (i:=3) (N:=some 35) (v:=?_) (a':=?_) #[true,true,true,true,true,false,false,false,false,false] rfl rfl (take_ofW HT_.out HW_.out (by kernel_rfl)) (fun _ _ _ h=>h) (Or.inl ⟨by rfl,?_⟩) hHeld ?_ ?_
        rotate_left
        ·rintro w' ⟨s0,s1,s2,s3,s4,s5⟩
         go_simp
         with_reducible rfl
        rotate_left
        ·simp only[Act.put,List.setIfInBounds_toArray,List.set_cons_zero,List.set_cons_succ,i64_w,i32_w]
         rfl
        refine take_ (i:=5) (N:=some 37) (v:=?_) (a':=?_) #[true,true,true,true,true,true,false,false,false,false] rfl rfl (take_ofW HT_.out HW_.out (by kernel_rfl)) (fun _ _ _ h=>h) (Or.inl ⟨by rfl,?_⟩) hHeld ?_ ?_
        rotate_left
        ·rintro w' ⟨s0,s1,s2,s3,s4,s5⟩
         go_simp
         with_reducible rfl
        rotate_left
        ·simp only[Act.put,List.setIfInBounds_toArray,List.set_cons_zero,List.set_cons_succ,i64_w,i32_w]
         rfl
        refine pure_ (i:=6) (N:=some 38) (v:=?_) (a':=?_) #[true,true,true,true,true,true,true,false,false,false] rfl rfl (any_of HT_.out (by kernel_rfl)) (fun _ _ _ h=>h) (Or.inl ⟨by rfl,?_⟩) ?_ ?_
        rotate_left
        ·intro w'
         go_simp
         with_reducible rfl
        rotate_left
        ·simp only[Act.put,List.setIfInBounds_toArray,List.set_cons_zero,List.set_cons_succ,i64_w,i32_w]
         rfl
        refine pure_ (i:=7) (N:=some 39) (v:=?_) (a':=?_) #[true,true,true,true,true,true,true,true,false,false] rfl rfl (any_of HT_.out (by kernel_rfl)) (fun _ _ _ h=>h) (Or.inl ⟨by rfl,?_⟩) ?_ ?_
        rotate_left
        ·intro w'
         go_simp
         with_reducible rfl
        rotate_left
        ·simp only[Act.put,List.setIfInBounds_toArray,List.set_cons_zero,List.set_cons_succ,i64_w,i32_w]
         rfl
        refine pure_ (i:=8) (N:=some 40) (v:=?_) (a':=?_) #[true,true,true,true,true,true,true,true,true,false] rfl rfl (any_of HT_.out (by kernel_rfl)) (fun _ _ _ h=>h) (Or.inl ⟨by rfl,?_⟩) ?_ ?_
        rotate_left
        ·intro w'
         go_simp
         with_reducible rfl
        rotate_left
        ·simp only[Act.put,List.setIfInBounds_toArray,List.set_cons_zero,List.set_cons_succ,i64_w,i32_w]
         rfl
        refine last_ (i:=9) (N:=none) #[true,true,true,true,true,true,true,true,true,true] rfl rfl (one_of HT_.out (by kernel_rfl)) (by decide) (fun K hK => ?_)
        refine skip_ (w1:=?_) (by rfl) rfl ?_ ?_
        rotate_left
        ·go_simp
         rfl
        refine hK.out _ _ ?_
        clear hK K
        refine done_ (done_of HT_.out (by kernel_rfl)) ?_
        try go_wp2
        go_loopg [6] k1 (fun kq v6 w' => ∃ (x6_2:List Int) (x278001_2:List (S116)),Aside0 (impl_NextRound.l1 kq x6_2 x19_1 (t270.length:Int) x19_1 t269 x278001_2 t273=some (r1,r2,r3,r4,r5))∧Aside0 (kq≤k1)∧Aside0 (Kd.R (Kd.int .i64) 3 w' w.heap.size (fun k_=>(w.heap.size≤k_)) v6 x6_2)∧Aside0 (Kd.N k116 116 w' w.heap.size (fun k_=>(w.heap.size≤k_)∧some k_≠(v6:Value).ownBlock∧k_≠gb266∧k_≠gb267∧k_≠gb277) (.slice (some ⟨go22,0,none⟩) x278001_1.length co18) x278001_2)∧Aside0 (w'.heap[gb266]?=some (.cells #[.int .i64 a0_0,(.slice A0_1 l0_1.length c0_1),.int .i64 a0_2] 28 (0,0)))∧Aside0 (w'.heap[gb267]?=some (.cells #[.int .i64 0,(.slice none 0 0),.int .i64 0] 28 (0,0)))∧Aside0 (w'.heap[gb277]?=some (.cells #[.int .i64 t269,(.slice (some ⟨go22,0,none⟩) x278001_1.length co18),.int .i64 t273] 28 (0,0)))∧Aside0 (Below w.heap.size w w'))
        case atStart=>exact⟨(x6_1),(y280),H',⟨Nat.le_refl _⟩,⟨by(try simp only[hl278001_1]);(with_reducible repeat (first|apply Kd.R_alloc|apply Kd.R_drewN|apply Kd.R_drew));exact Kd.R_mono (Kd.R_far (p:=⟨go22,(x19_1:Int).toNat * 3+1,none⟩) (Kd.R_types HO_6.out (by first|exact GG22.out|exact(Kd.N_typed HO_278001.out _ rfl).choose_spec) (by decide)) (fun _ hk=>hk.2) (.int .i64 (wrap64 (((rd_T116 x278001_1 x19_1).f1)+t269)))) (fun _ hk=>hk.1)⟩,⟨by(try simp only[hl278001_1]);(with_reducible repeat (first|apply Kd.N_alloc|apply Kd.N_drewN|apply Kd.N_drew));exact HQ32.out⟩,⟨by(try simp only[hl278001_1]);(with_reducible repeat (first|refine blk_drewN ?_ _|refine blk_drew ?_|refine blk_alloc ?_ _));refine blk_far ?_ (by have h_:=Kd.N_away HO_278001.out (fun _ hk=>hk.2.2.1);intro e_;exact h_ (by rw[e_];rfl)) _;(with_reducible repeat (first|refine blk_drewN ?_ _|refine blk_drew ?_|refine blk_alloc ?_ _));exact BK266.out⟩,⟨by(try simp only[hl278001_1]);(with_reducible repeat (first|refine blk_drewN ?_ _|refine blk_drew ?_|refine blk_alloc ?_ _));refine blk_far ?_ (by have h_:=Kd.N_away HO_278001.out (fun _ hk=>hk.2.2.2.1);intro e_;exact h_ (by rw[e_];rfl)) _;(with_reducible repeat (first|refine blk_drewN ?_ _|refine blk_drew ?_|refine blk_alloc ?_ _));exact BK267.out⟩,⟨by(try simp only[hl278001_1]);(with_reducible repeat (first|refine blk_drewN ?_ _|refine blk_drew ?_|refine blk_alloc ?_ _));refine blk_far ?_ (by have h_:=Kd.N_away HO_278001.out (fun _ hk=>hk.2.2.2.2);intro e_;exact h_ (by rw[e_];rfl)) _;(with_reducible repeat (first|refine blk_drewN ?_ _|refine blk_drew ?_|refine blk_alloc ?_ _));exact BK277.out⟩,⟨bS4 GB22.out GE266.out GE267.out GE277.out⟩⟩
        case round =>
         clear H'
         try clear c1
         try clear c2
         try clear p2
         try clear q2
         try clear hx2
         try clear hf2
         try clear c3
         try clear c5
         try clear p6
         try clear c7
         try clear c8
         try clear c15
         try clear c16
         try clear c19
         try clear c19b0
         try clear c20
         try clear c20b0
         try clear c21
         try clear c21b0
         try clear c22
         try clear p22
         try clear q22
         try clear hx22
         try clear hf22
         try clear c23
         try clear c23b0
         try clear c23b1
         try clear c23b2
         try clear c24
         try clear c25
         try clear c27
         try clear p27
         try clear q27
         try clear hx27
         try clear hf27
         try clear c28
         try clear c29
         try clear c32
         try clear hcz10_0 hcz10_1 hcz10_2
         try clear hcz17_0 hcz17_1 hcz17_2
         try clear hcz26_0 hcz26_1 hcz26_2
         try clear hcz30_0 hcz30_1 hcz30_2
         try clear hcz8_0 hcz8_1 hcz8_2
         try clear hfz10_0 hfz10_1 hfz10_2
         try clear hfz17_0 hfz17_1 hfz17_2
         try clear hfz26_0 hfz26_1 hfz26_2
         try clear hfz30_0 hfz30_1 hfz30_2
         try clear hfz8_0 hfz8_1 hfz8_2
         try clear hx22_0
         try clear hx22_1
         try clear hx22_2
         try clear hx278_0
         try clear hx278_1
         try clear hx278_2
         try clear hx279_0
         try clear hx279_1
         try clear hx279_2
         try clear hx27_0
         try clear hx27_1
         try clear hx27_2
         try clear p2
         try clear p22
         try clear p27
         try clear p278
         try clear p279
         try clear q22
         try clear q27
         try clear q278
         try clear q279
         obtain⟨x6_2,x278001_2,HA,HK2,HO_6,HO_278001,BK266,BK267,BK277,HB⟩:=hrel
         have hl278001_2:=(Kd.N_reads' HO_278001.out).1
         rw[hl278001_2] at HO_278001
         (try simp only[hl278001_2])
         (try simp only[hl278001_2] at BK266)
         (try simp only[hl278001_2] at BK267)
         (try simp only[hl278001_2] at BK277)
         (try simp only[hl278001_2] at HO_6)
         cases gk with
         | zero=>exact absurd HA.out (by simp[impl_NextRound.l1])
         | succ k2 =>
          have H:=HA.out
          clear HA
          simp only[impl_NextRound.l1] at H
          by_cases c33:0≤x19_1
          ·rw[if_pos c33] at H
           have c33b0:decide (0≤x19_1)=true:=decide_eq_true c33
           clear c33
           by_cases c34:x19_1 < (x278001_2.length:Int)
           ·rw[if_pos c34] at H
            have c34b0:decide (x19_1 < (x278001_2.length:Int))=true:=decide_eq_true c34
            clear c34
            by_cases c35:(((rd_T116 x278001_2 x19_1).f0).length:Int) > 0
            ·rw[if_pos c35] at H
             have c35b0:decide (0 < (((rd_T116 x278001_2 x19_1).f0).length:Int))=true:=decide_eq_true c35
             have c35b1:decide (0 < ((rd_T116 x278001_2 x19_1).f0).length)=true:=decide_eq_true (by omega)
             clear c35
             by_cases c36:0 < (((rd_T116 x278001_2 x19_1).f0).length:Int)
             ·rw[if_pos c36] at H
              have c36b0:decide (0 < (((rd_T116 x278001_2 x19_1).f0).length:Int))=true:=decide_eq_true c36
              have c36b1:decide (0 < ((rd_T116 x278001_2 x19_1).f0).length)=true:=decide_eq_true (by omega)
              clear c36
              by_cases c37:(rd ((rd_T116 x278001_2 x19_1).f0) 0)≤((rd_T116 x278001_2 x19_1).f1)
              ·rw[if_pos c37] at H
               have c37b0:decide ((rd ((rd_T116 x278001_2 x19_1).f0) 0)≤((rd_T116 x278001_2 x19_1).f1))=true:=decide_eq_true c37
               clear c37
               obtain⟨y288,hy288⟩ : ∃ y_:List (S116),y_=(x278001_2.set (x19_1:Int).toNat (⟨(rd_T116 x278001_2 x19_1).f0,wrap64 (((rd_T116 x278001_2 x19_1).f1) - (rd ((rd_T116 x278001_2 x19_1).f0) 0)),(rd_T116 x278001_2 x19_1).f2⟩:S116)):=⟨_,rfl⟩
               replace H:(if 0 < (((rd_T116 y288 x19_1).f0).length:Int) then ((some (y288.set (x19_1:Int).toNat (⟨(rd_T116 y288 x19_1).f0,(rd_T116 y288 x19_1).f1,wrap64 (((rd_T116 y288 x19_1).f2)+(rd ((rd_T116 y288 x19_1).f0) 0))⟩:S116):List (S116))).bind fun y292=>(if 1≤(((rd_T116 y292 x19_1).f0).length:Int) then (if x6_2.length < 17592186044416 then (impl_NextRound.l1 k2 (x6_2++[x19_1]) x19_1 (t270.length:Int) x19_1 t269 (y292.set (x19_1:Int).toNat (⟨(((rd_T116 y292 x19_1).f0).drop 1),(rd_T116 y292 x19_1).f1,(rd_T116 y292 x19_1).f2⟩:S116)) t273) else (none)) else (none))) else (none))=some (r1,r2,r3,r4,r5):=by first|(rw[hy288];with_reducible exact H)|(have H2_:=(Option.bind_some _ _).symm.trans H;rw[hy288];with_reducible exact H2_)|(have H2_:=(Option.bind_some _ _).symm.trans H;with_reducible exact H2_)|with_reducible exact H|(rw[hy288];exact H)|exact H
               have Ny288:=Aside0.mk hy288
               clear hy288
               by_cases c39:0 < (((rd_T116 y288 x19_1).f0).length:Int)
               ·rw[if_pos c39] at H
                have c39b0:decide (0 < (((rd_T116 y288 x19_1).f0).length:Int))=true:=decide_eq_true c39
                have c39b1:decide (0 < ((rd_T116 y288 x19_1).f0).length)=true:=decide_eq_true (by omega)
                clear c39
                obtain⟨y292,hy292⟩ : ∃ y_:List (S116),y_=(y288.set (x19_1:Int).toNat (⟨(rd_T116 y288 x19_1).f0,(rd_T116 y288 x19_1).f1,wrap64 (((rd_T116 y288 x19_1).f2)+(rd ((rd_T116 y288 x19_1).f0) 0))⟩:S116)):=⟨_,rfl⟩
                replace H:(if 1≤(((rd_T116 y292 x19_1).f0).length:Int) then (if x6_2.length < 17592186044416 then (impl_NextRound.l1 k2 (x6_2++[x19_1]) x19_1 (t270.length:Int) x19_1 t269 (y292.set (x19_1:Int).toNat (⟨(((rd_T116 y292 x19_1).f0).drop 1),(rd_T116 y292 x19_1).f1,(rd_T116 y292 x19_1).f2⟩:S116)) t273) else (none)) else (none))=some (r1,r2,r3,r4,r5):=by first|(rw[hy292];with_reducible exact H)|(have H2_:=(Option.bind_some _ _).symm.trans H;rw[hy292];with_reducible exact H2_)|(have H2_:=(Option.bind_some _ _).symm.trans H;with_reducible exact H2_)|with_reducible exact H|(rw[hy292];exact H)|exact H
                have Ny292:=Aside0.mk hy292
                clear hy292
                by_cases c41:1≤(((rd_T116 y292 x19_1).f0).length:Int)
                ·rw[if_pos c41] at H
                 have c41b0:=eq_true c41
                 have c41b1:decide (1≤(((rd_T116 y292 x19_1).f0).length:Int))=true:=decide_eq_true c41
                 clear c41
                 obtain⟨y294,hy294⟩ : ∃ y_:List Int,y_=(((rd_T116 y292 x19_1).f0).drop 1):=⟨_,rfl⟩
                 replace H:(if x6_2.length < 17592186044416 then (impl_NextRound.l1 k2 (x6_2++[x19_1]) x19_1 (t270.length:Int) x19_1 t269 (y292.set (x19_1:Int).toNat (⟨y294,(rd_T116 y292 x19_1).f1,(rd_T116 y292 x19_1).f2⟩:S116)) t273) else (none))=some (r1,r2,r3,r4,r5):=by first|(rw[hy294];with_reducible exact H)|(have H2_:=(Option.bind_some _ _).symm.trans H;rw[hy294];with_reducible exact H2_)|(have H2_:=(Option.bind_some _ _).symm.trans H;with_reducible exact H2_)|with_reducible exact H|(rw[hy294];exact H)|exact H
                 have Ny294:=Aside0.mk hy294
                 clear hy294
                 obtain⟨y299,hy299⟩ : ∃ y_:List (S116),y_=(y292.set (x19_1:Int).toNat (⟨y294,(rd_T116 y292 x19_1).f1,(rd_T116 y292 x19_1).f2⟩:S116)):=⟨_,rfl⟩
                 replace H:(if x6_2.length < 17592186044416 then (impl_NextRound.l1 k2 (x6_2++[x19_1]) x19_1 (t270.length:Int) x19_1 t269 y299 t273) else (none))=some (r1,r2,r3,r4,r5):=by first|(rw[hy299];with_reducible exact H)|(have H2_:=(Option.bind_some _ _).symm.trans H;rw[hy299];with_reducible exact H2_)|(have H2_:=(Option.bind_some _ _).symm.trans H;with_reducible exact H2_)|with_reducible exact H|(rw[hy299];exact H)|exact H
                 have Ny299:=Aside0.mk hy299
                 clear hy299
                 by_cases c43:x6_2.length < 17592186044416
                 ·rw[if_pos c43] at H
                  have LMc43:=Aside0.mk c43
                  clear c43
                  obtain⟨y300,hy300⟩ : ∃ y_:List Int,y_=(x6_2++[x19_1]):=⟨_,rfl⟩
                  replace H:(impl_NextRound.l1 k2 y300 x19_1 (t270.length:Int) x19_1 t269 y299 t273)=some (r1,r2,r3,r4,r5):=by first|(rw[hy300];with_reducible exact H)|(have H2_:=(Option.bind_some _ _).symm.trans H;rw[hy300];with_reducible exact H2_)|(have H2_:=(Option.bind_some _ _).symm.trans H;with_reducible exact H2_)|with_reducible exact H|(rw[hy300];exact H)|exact H
                  have Ny300:=Aside0.mk hy300
                  clear hy300
                  have H':=Aside0.mk H
                  clear H
                  try go_wp2
                  (try (rw[drewN_self wr];generalize hq_:World.drewN wr _=wr;have n0_:=Aside0.mk (Kd.R_at hq_ HO_6.out);have n1_:=Aside0.mk (Kd.N_at hq_ HO_278001.out);have n2_:=Aside0.mk (blk_at hq_ BK266.out);have n3_:=Aside0.mk (blk_at hq_ BK267.out);have n4_:=Aside0.mk (blk_at hq_ BK277.out);have n5_:=Aside0.mk (below_at hq_ HB.out);clear hq_ HO_6 HO_278001 BK266 BK267 BK277 HB;have HO_6:=n0_;have HO_278001:=n1_;have BK266:=n2_;have BK267:=n3_;have BK277:=n4_;have HB:=n5_;clear n0_ n1_ n2_ n3_ n4_ n5_))
                  have n0_:=Aside0.mk (Kd.R_drew HO_6.out)
                  have n1_:=Aside0.mk (Kd.N_drew HO_278001.out)
                  have n2_:=Aside0.mk (blk_drew BK266.out)
                  have n3_:=Aside0.mk (blk_drew BK267.out)
                  have n4_:=Aside0.mk (blk_drew BK277.out)
                  have n5_:=Aside0.mk (below_drew1 HB.out)
                  clear HO_6 HO_278001 BK266 BK267 BK277 HB
                  have HO_6:=n0_
                  have HO_278001:=n1_
                  have BK266:=n2_
                  have BK267:=n3_
                  have BK277:=n4_
                  have HB:=n5_
                  clear n0_ n1_ n2_ n3_ n4_ n5_
                  have p281:0≤(x19_1:Int):=of_decide_eq_true (bD)
                  have q281:x19_1 < (x278001_2.length:Int):=of_decide_eq_true (bD)
                  obtain⟨ad281,A281_0,c281_0,e281,hx281_0,hx281_1,hx281_2,hl281_0,hi281_0⟩:=at_T116 (Kd.N_reads' HO_278001.out).2.2 x19_1 p281 q281
                  obtain rfl:(⟨go22,0,none⟩:Addr)=ad281:=(by injection e281)
                  obtain⟨ce281,hce281,hMe281,hcc281⟩:=Kd.N_get HO_278001.out z116 x19_1 p281 (by first|exact q281|exact of_decide_eq_true (bD)|(have e_:=(Kd.N_reads' HO_278001.out).1;omega))
                  obtain⟨ua281_0,uc281_0,rfl,ul281_0,ge281_0⟩:=k116_openF hMe281
                  have hv281_0:=hcc281 0 _ rfl
                  rw[Nat.add_zero] at hv281_0
                  replace hv281_0:=Option.some.inj (hv281_0.symm.trans hx281_0)
                  injection hv281_0 with hva_ hvn_ hvc_
                  rw[hva_] at ge281_0
                  rw[hvc_] at ul281_0
                  have HL281_0:=Aside0.mk (show Kd.V (Kd.int .i64) 3 _ w.heap.size _ _ ((rd_T116 x278001_2 x19_1).f0) from Kd.V_mk ul281_0 ge281_0)
                  clear hva_ hvn_ hvc_ ge281_0 ul281_0 hcc281 hce281
                  (first|simp only[add_plain] at hx281_0|simp only[add_at] at hx281_0|simp only[Addr.add,Nat.zero_add] at hx281_0|skip)
                  (first|simp only[add_plain] at hx281_1|simp only[add_at] at hx281_1|simp only[Addr.add,Nat.zero_add] at hx281_1|skip)
                  (first|simp only[add_plain] at hx281_2|simp only[add_at] at hx281_2|simp only[Addr.add,Nat.zero_add] at hx281_2|skip)
                  have HR281_0:=Aside0.mk hi281_0
                  have HC281_0:=Aside0.mk hl281_0
                  clear hi281_0 hl281_0
                  replace p281:=eq_true p281
                  replace q281:=eq_true q281
                  have p282:0≤(x19_1:Int):=of_decide_eq_true (bD)
                  have q282:x19_1 < (x278001_2.length:Int):=of_decide_eq_true (bD)
                  obtain⟨ad282,A282_0,c282_0,e282,hx282_0,hx282_1,hx282_2,hl282_0,hi282_0⟩:=at_T116 (Kd.N_reads' HO_278001.out).2.2 x19_1 p282 q282
                  obtain rfl:(⟨go22,0,none⟩:Addr)=ad282:=(by injection e282)
                  obtain⟨ce282,hce282,hMe282,hcc282⟩:=Kd.N_get HO_278001.out z116 x19_1 p282 (by first|exact q282|exact of_decide_eq_true (bD)|(have e_:=(Kd.N_reads' HO_278001.out).1;omega))
                  obtain⟨ua282_0,uc282_0,rfl,ul282_0,ge282_0⟩:=k116_openF hMe282
                  have hv282_0:=hcc282 0 _ rfl
                  rw[Nat.add_zero] at hv282_0
                  replace hv282_0:=Option.some.inj (hv282_0.symm.trans hx282_0)
                  injection hv282_0 with hva_ hvn_ hvc_
                  rw[hva_] at ge282_0
                  rw[hvc_] at ul282_0
                  have HL282_0:=Aside0.mk (show Kd.V (Kd.int .i64) 3 _ w.heap.size _ _ ((rd_T116 x278001_2 x19_1).f0) from Kd.V_mk ul282_0 ge282_0)
                  clear hva_ hvn_ hvc_ ge282_0 ul282_0 hcc282 hce282
                  (first|simp only[add_plain] at hx282_0|simp only[add_at] at hx282_0|simp only[Addr.add,Nat.zero_add] at hx282_0|skip)
                  (first|simp only[add_plain] at hx282_1|simp only[add_at] at hx282_1|simp only[Addr.add,Nat.zero_add] at hx282_1|skip)
                  (first|simp only[add_plain] at hx282_2|simp only[add_at] at hx282_2|simp only[Addr.add,Nat.zero_add] at hx282_2|skip)
                  have HR282_0:=Aside0.mk hi282_0
                  have HC282_0:=Aside0.mk hl282_0
                  clear hi282_0 hl282_0
                  replace p282:=eq_true p282
                  replace q282:=eq_true q282
                  have ea_:=Option.some.inj (hx281_0.symm.trans hx282_0)
                  injection ea_ with ea_ en_ ec_
                  subst ea_
                  subst ec_
                  clear en_
                  have p283:0≤(0:Int):=(by omega)
                  have q283:0 < (((rd_T116 x278001_2 x19_1).f0).length:Int):=of_decide_eq_true (bD)
                  obtain⟨ad283,e283,hx283_0⟩:=Kd.at_int (by repeat (first|(with_reducible exact HR282_0.out)|(with_reducible refine Kd.C_alloc ?_ _)|(with_reducible refine Kd.C_drewN ?_ _)|(with_reducible refine Kd.C_drew ?_)|exact HR282_0.out)) 0 p283 q283
                  cases e283
                  have qi283:(0 < ((rd_T116 x278001_2 x19_1).f0).length)=True:=eq_true (by omega)
                  (try rw[show((0:Int)).toNat=0 from rfl] at hx283_0)
                  (try rw[Addr.add_zero'] at hx283_0)
                  replace p283:=eq_true p283
                  replace q283:=eq_true q283
                  have p284:0≤(x19_1:Int):=of_decide_eq_true (bD)
                  have q284:x19_1 < (x278001_2.length:Int):=of_decide_eq_true (bD)
                  obtain⟨ad284,A284_0,c284_0,e284,hx284_0,hx284_1,hx284_2,hl284_0,hi284_0⟩:=at_T116 (Kd.N_reads' HO_278001.out).2.2 x19_1 p284 q284
                  obtain rfl:(⟨go22,0,none⟩:Addr)=ad284:=(by injection e284)
                  obtain⟨ce284,hce284,hMe284,hcc284⟩:=Kd.N_get HO_278001.out z116 x19_1 p284 (by first|exact q284|exact of_decide_eq_true (bD)|(have e_:=(Kd.N_reads' HO_278001.out).1;omega))
                  obtain⟨ua284_0,uc284_0,rfl,ul284_0,ge284_0⟩:=k116_openF hMe284
                  have hv284_0:=hcc284 0 _ rfl
                  rw[Nat.add_zero] at hv284_0
                  replace hv284_0:=Option.some.inj (hv284_0.symm.trans hx284_0)
                  injection hv284_0 with hva_ hvn_ hvc_
                  rw[hva_] at ge284_0
                  rw[hvc_] at ul284_0
                  have HL284_0:=Aside0.mk (show Kd.V (Kd.int .i64) 3 _ w.heap.size _ _ ((rd_T116 x278001_2 x19_1).f0) from Kd.V_mk ul284_0 ge284_0)
                  clear hva_ hvn_ hvc_ ge284_0 ul284_0 hcc284 hce284
                  (first|simp only[add_plain] at hx284_0|simp only[add_at] at hx284_0|simp only[Addr.add,Nat.zero_add] at hx284_0|skip)
                  (first|simp only[add_plain] at hx284_1|simp only[add_at] at hx284_1|simp only[Addr.add,Nat.zero_add] at hx284_1|skip)
                  (first|simp only[add_plain] at hx284_2|simp only[add_at] at hx284_2|simp only[Addr.add,Nat.zero_add] at hx284_2|skip)
                  have HR284_0:=Aside0.mk hi284_0
                  have HC284_0:=Aside0.mk hl284_0
                  clear hi284_0 hl284_0
                  replace p284:=eq_true p284
                  replace q284:=eq_true q284
                  have ea_:=Option.some.inj (hx281_0.symm.trans hx284_0)
                  injection ea_ with ea_ en_ ec_
                  subst ea_
                  subst ec_
                  clear en_
                  refine start_ (n:=19) (S:=fun w'=>w'.cell? ⟨go22,(x19_1).toNat * 3,none⟩=some (.slice (some ad283) ((rd_T116 x278001_2 x19_1).f0).length c281_0)∧w'.cell? ⟨go22,(x19_1).toNat * 3+1,none⟩=some (.int .i64 ((rd_T116 x278001_2 x19_1).f1))∧w'.cell? ⟨go22,(x19_1).toNat * 3+2,none⟩=some (.int .i64 ((rd_T116 x278001_2 x19_1).f2))∧w'.cell? ⟨go22,(x19_1).toNat * 3,none⟩=some (.slice (some ad283) ((rd_T116 x278001_2 x19_1).f0).length c281_0)∧w'.cell? ⟨go22,(x19_1).toNat * 3+1,none⟩=some (.int .i64 ((rd_T116 x278001_2 x19_1).f1))∧w'.cell? ⟨go22,(x19_1).toNat * 3+2,none⟩=some (.int .i64 ((rd_T116 x278001_2 x19_1).f2))∧w'.cell? ad283=some (.int .i64 (rd ((rd_T116 x278001_2 x19_1).f0) 0))∧w'.cell? ⟨go22,(x19_1).toNat * 3,none⟩=some (.slice (some ad283) ((rd_T116 x278001_2 x19_1).f0).length c281_0)∧w'.cell? ⟨go22,(x19_1).toNat * 3+1,none⟩=some (.int .i64 ((rd_T116 x278001_2 x19_1).f1))∧w'.cell? ⟨go22,(x19_1).toNat * 3+2,none⟩=some (.int .i64 ((rd_T116 x278001_2 x19_1).f2))) (ds:=[]) #[false,false,false,false,false,false,false,false,false,false,false,false,false,false,false,false,false,false,false] (by kernel_rfl) rfl rfl ⟨hx281_0,hx281_1,hx281_2,hx282_0,hx282_1,hx282_2,hx283_0,hx284_0,hx284_1,hx284_2⟩ (fun hHeld => ?_);refine with_tabW impl_NextRound.tab10 impl_NextRound.bits10 (fun HT_ HW_ => ?_)
                  generalize wr.drew=w44 at HO_6 HO_278001 BK266 BK267 BK277 HB HL281_0 HL282_0 HL284_0 HR281_0 HR282_0 HR284_0 hx281_0 hx281_1 hx281_2 hx282_0 hx282_1 hx282_2 hx283_0 hx284_0 hx284_1 hx284_2 hHeld ⊢
                  refine pure_ (i:=0) (N:=some 41) (v:=?_) (a':=?_) #[true,false,false,false,false,false,false,false,false,false,false,false,false,false,false,false,false,false,false] rfl rfl (any_of HT_.out (by kernel_rfl)) (fun _ _ _ h=>h) (Or.inl ⟨by rfl,?_⟩) ?_ ?_
                  rotate_left
                  ·intro w'
                   go_simp
                   with_reducible rfl
                  rotate_left
                  ·simp only[Act.put,List.setIfInBounds_toArray,List.set_cons_zero,List.set_cons_succ,i64_w,i32_w]
                   rfl
                  refine pure_ (i:=1) (N:=some 42) (v:=?_) (a':=?_) #[true,true,false,false,false,false,false,false,false,false,false,false,false,false,false,false,false,false,false] rfl rfl (any_of HT_.out (by kernel_rfl)) (fun _ _ _ h=>h) (Or.inl ⟨by rfl,?_⟩) ?_ ?_
                  rotate_left
                  ·intro w'
                   go_simp
                   with_reducible rfl
                  rotate_left
                  ·simp only[Act.put,List.setIfInBounds_toArray,List.set_cons_zero,List.set_cons_succ,i64_w,i32_w]
                   rfl
                  refine pure_ (i:=2) (N:=some 43) (v:=?_) (a':=?_) #[true,true,true,false,false,false,false,false,false,false,false,false,false,false,false,false,false,false,false] rfl rfl (any_of HT_.out (by kernel_rfl)) (fun _ _ _ h=>h) (Or.inl ⟨by rfl,?_⟩) ?_ ?_
                  rotate_left
                  ·intro w'
                   go_simp
                   with_reducible rfl
                  rotate_left
                  ·simp only[Act.put,List.setIfInBounds_toArray,List.set_cons_zero,List.set_cons_succ,i64_w,i32_w]
                   rfl
                  refine take_ (i:=3) (N:=some 44) (v:=?_) (a':=?_) #[true,true,true,true,false,false,false,false,false,false,false,false,false,false,false,false,false,false,false] rfl rfl (take_ofW HT_.out HW_.out (by kernel_rfl)) (fun _ _ _ h=>h) (Or.inl ⟨by rfl,?_⟩) hHeld ?_ ?_
                  rotate_left
                  ·rintro w' ⟨s0,s1,s2,s3,s4,s5,s6,s7,s8,s9⟩
                   go_simp
                   with_reducible rfl
                  rotate_left
                  ·simp only[Act.put,List.setIfInBounds_toArray,List.set_cons_zero,List.set_cons_succ,i64_w,i32_w]
                   rfl
                  refine pure_ (i:=4) (N:=some 45) (v:=?_) (a':=?_) #[true,true,true,true,true,false,false,false,false,false,false,false,false,false,false,false,false,false,false] rfl rfl (any_of HT_.out (by kernel_rfl)) (fun _ _ _ h=>h) (Or.inl ⟨by rfl,?_⟩) ?_ ?_
                  rotate_left
                  ·intro w'
                   go_simp
                   with_reducible rfl
                  rotate_left
                  ·simp only[Act.put,List.setIfInBounds_toArray,List.set_cons_zero,List.set_cons_succ,i64_w,i32_w]
                   rfl
                  refine pure_ (i:=5) (N:=some 46) (v:=?_) (a':=?_) #[true,true,true,true,true,true,false,false,false,false,false,false,false,false,false,false,false,false,false] rfl rfl (any_of HT_.out (by kernel_rfl)) (fun _ _ _ h=>h) (Or.inl ⟨by rfl,?_⟩) ?_ ?_
                  rotate_left
                  ·intro w'
                   go_simp
                   with_reducible rfl
                  rotate_left
                  ·simp only[Act.put,List.setIfInBounds_toArray,List.set_cons_zero,List.set_cons_succ,i64_w,i32_w]
                   rfl
                  refine pure_ (i:=6) (N:=some 47) (v:=?_) (a':=?_) #[true,true,true,true,true,true,true,false,false,false,false,false,false,false,false,false,false,false,false] rfl rfl (any_of HT_.out (by kernel_rfl)) (fun _ _ _ h=>h) (Or.inl ⟨by rfl,?_⟩) ?_ ?_
                  rotate_left
                  ·intro w'
                   go_simp
                   with_reducible rfl
                  rotate_left
                  ·simp only[Act.put,List.setIfInBounds_toArray,List.set_cons_zero,List.set_cons_succ,i64_w,i32_w]
                   rfl
                  refine pure_ (i:=7) (N:=some 48) (v:=?_) (a':=?_) #[true,true,true,true,true,true,true,true,false,false,false,false,false,false,false,false,false,false,false] rfl rfl (any_of HT_.out (by kernel_rfl)) (fun _ _ _ h=>h) (Or.inl ⟨by rfl,?_⟩) ?_ ?_
                  rotate_left
                  ·intro w'
                   go_simp
                   with_reducible rfl
                  rotate_left
                  ·simp only[Act.put,List.setIfInBounds_toArray,List.set_cons_zero,List.set_cons_succ,i64_w,i32_w]
                   rfl
                  refine pure_ (i:=8) (N:=some 49) (v:=?_) (a':=?_) #[true,true,true,true,true,true,true,true,true,false,false,false,false,false,false,false,false,false,false] rfl rfl (any_of HT_.out (by kernel_rfl)) (fun _ _ _ h=>h) (Or.inl ⟨by rfl,?_⟩) ?_ ?_
                  rotate_left
                  ·intro w'
                   go_simp
                   with_reducible rfl
                  rotate_left
                  ·simp only[Act.put,List.setIfInBounds_toArray,List.set_cons_zero,List.set_cons_succ,i64_w,i32_w]
                   rfl
                  refine pure_ (i:=9) (N:=some 50) (v:=?_) (a':=?_) #[true,true,true,true,true,true,true,true,true,true,false,false,false,false,false,false,false,false,false] rfl rfl (any_of HT_.out (by kernel_rfl)) (fun _ _ _ h=>h) (Or.inl ⟨by rfl,?_⟩) ?_ ?_
                  rotate_left
                  ·intro w'
                   go_simp
                   with_reducible rfl
                  rotate_left
                  ·simp only[Act.put,List.setIfInBounds_toArray,List.set_cons_zero,List.set_cons_succ,i64_w,i32_w]
                   rfl
                  refine pure_ (i:=13) (N:=some 54) (v:=?_) (a':=?_) #[true,true,true,true,true,true,true,true,true,true,false,false,false,true,false,false,false,false,false] rfl rfl (any_of HT_.out (by kernel_rfl)) (fun _ _ _ h=>h) (Or.inl ⟨by rfl,?_⟩) ?_ ?_
                  rotate_left
                  ·intro w'
                   go_simp
                   with_reducible rfl
                  rotate_left
                  ·simp only[Act.put,List.setIfInBounds_toArray,List.set_cons_zero,List.set_cons_succ,i64_w,i32_w]
                   rfl
                  refine pure_ (i:=14) (N:=some 55) (v:=?_) (a':=?_) #[true,true,true,true,true,true,true,true,true,true,false,false,false,true,true,false,false,false,false] rfl rfl (any_of HT_.out (by kernel_rfl)) (fun _ _ _ h=>h) (Or.inl ⟨by rfl,?_⟩) ?_ ?_
                  rotate_left
                  ·intro w'
                   go_simp
                   with_reducible rfl
                  rotate_left
                  ·simp only[Act.put,List.setIfInBounds_toArray,List.set_cons_zero,List.set_cons_succ,i64_w,i32_w]
                   rfl
                  refine pure_ (i:=15) (N:=some 56) (v:=?_) (a':=?_) #[true,true,true,true,true,true,true,true,true,true,false,false,false,true,true,true,false,false,false] rfl rfl (any_of HT_.out (by kernel_rfl)) (fun _ _ _ h=>h) (Or.inl ⟨by rfl,?_⟩) ?_ ?_
                  rotate_left
                  ·intro w'
                   go_simp
                   with_reducible rfl
                  rotate_left
                  ·simp only[Act.put,List.setIfInBounds_toArray,List.set_cons_zero,List.set_cons_succ,i64_w,i32_w]
                   rfl
                  refine take_ (i:=10) (N:=some 51) (v:=?_) (a':=?_) #[true,true,true,true,true,true,true,true,true,true,true,false,false,true,true,true,false,false,false] rfl rfl (take_ofW HT_.out HW_.out (by kernel_rfl)) (fun _ _ _ h=>h) (Or.inl ⟨by rfl,?_⟩) hHeld ?_ ?_
                  rotate_left
                  ·rintro w' ⟨s0,s1,s2,s3,s4,s5,s6,s7,s8,s9⟩
                   go_simp
                   with_reducible rfl
                  rotate_left
                  ·simp only[Act.put,List.setIfInBounds_toArray,List.set_cons_zero,List.set_cons_succ,i64_w,i32_w]
                   rfl
                  refine pure_ (i:=11) (N:=some 52) (v:=?_) (a':=?_) #[true,true,true,true,true,true,true,true,true,true,true,true,false,true,true,true,false,false,false] rfl rfl (any_of HT_.out (by kernel_rfl)) (fun _ _ _ h=>h) (Or.inl ⟨by rfl,?_⟩) ?_ ?_
                  rotate_left
                  ·intro w'
                   go_simp
                   with_reducible rfl
                  rotate_left
                  ·simp only[Act.put,List.setIfInBounds_toArray,List.set_cons_zero,List.set_cons_succ,i64_w,i32_w]
                   rfl
                  refine take_ (i:=12) (N:=some 53) (v:=?_) (a':=?_) #[true,true,true,true,true,true,true,true,true,true,true,true,true,true,true,true,false,false,false] rfl rfl (take_ofW HT_.out HW_.out (by kernel_rfl)) (fun _ _ _ h=>h) (Or.inl ⟨by rfl,?_⟩) hHeld ?_ ?_
                  rotate_left
                  ·rintro w' ⟨s0,s1,s2,s3,s4,s5,s6,s7,s8,s9⟩
                   go_simp
                   with_reducible rfl
                  rotate_left
                  ·simp only[Act.put,List.setIfInBounds_toArray,List.set_cons_zero,List.set_cons_succ,i64_w,i32_w]
                   rfl
                  refine take_ (i:=16) (N:=some 57) (v:=?_) (a':=?_) #[true,true,true,true,true,true,true,true,true,true,true,true,true,true,true,true,true,false,false] rfl rfl (take_ofW HT_.out HW_.out (by kernel_rfl)) (fun _ _ _ h=>h) (Or.inl ⟨by rfl,?_⟩) hHeld ?_ ?_
                  rotate_left
                  ·rintro w' ⟨s0,s1,s2,s3,s4,s5,s6,s7,s8,s9⟩
                   go_simp
                   with_reducible rfl
                  rotate_left
                  ·simp only[Act.put,List.setIfInBounds_toArray,List.set_cons_zero,List.set_cons_succ,i64_w,i32_w]
                   rfl
                  refine pure_ (i:=17) (N:=some 58) (v:=?_) (a':=?_) #[true,true,true,true,true,true,true,true,true,true,true,true,true,true,true,true,true,true,false] rfl rfl (any_of HT_.out (by kernel_rfl)) (fun _ _ _ h=>h) (Or.inl ⟨by rfl,?_⟩) ?_ ?_
                  rotate_left
                  ·intro w'
                   go_simp
                   with_reducible rfl
                  rotate_left
                  ·simp only[Act.put,List.setIfInBounds_toArray,List.set_cons_zero,List.set_cons_succ,i64_w,i32_w]
                   rfl
                  refine pure_ (i:=18) (N:=some 59) (v:=?_) (a':=?_) #[true,true,true,true,true,true,true,true,true,true,true,true,true,true,true,true,true,true,true] rfl rfl (any_of HT_.out (by kernel_rfl)) (fun _ _ _ h=>h) (Or.inl ⟨by rfl,?_⟩) ?_ ?_
                  rotate_left
                  ·intro w'
                   go_simp
                   with_reducible rfl
                  rotate_left
                  ·simp only[Act.put,List.setIfInBounds_toArray,List.set_cons_zero,List.set_cons_succ,i64_w,i32_w]
                   rfl
                  refine done_ (done_of HT_.out (by kernel_rfl)) ?_
                  try go_wp2
                  (try (rw[drewN_self w44];generalize hq_:World.drewN w44 _=w44;have n0_:=Aside0.mk (Kd.R_at hq_ HO_6.out);have n1_:=Aside0.mk (Kd.N_at hq_ HO_278001.out);have n2_:=Aside0.mk (Kd.V_at hq_ HL281_0.out);have n3_:=Aside0.mk (Kd.V_at hq_ HL282_0.out);have n4_:=Aside0.mk (Kd.V_at hq_ HL284_0.out);have n5_:=Aside0.mk (blk_at hq_ BK266.out);have n6_:=Aside0.mk (blk_at hq_ BK267.out);have n7_:=Aside0.mk (blk_at hq_ BK277.out);have n8_:=Aside0.mk (Kd.C_at hq_ HR281_0.out);have n9_:=Aside0.mk (Kd.C_at hq_ HR282_0.out);have n10_:=Aside0.mk (Kd.C_at hq_ HR284_0.out);have n11_:=Aside0.mk (below_at hq_ HB.out);clear hq_ HO_6 HO_278001 HL281_0 HL282_0 HL284_0 BK266 BK267 BK277 HR281_0 HR282_0 HR284_0 HB;have HO_6:=n0_;have HO_278001:=n1_;have HL281_0:=n2_;have HL282_0:=n3_;have HL284_0:=n4_;have BK266:=n5_;have BK267:=n6_;have BK277:=n7_;have HR281_0:=n8_;have HR282_0:=n9_;have HR284_0:=n10_;have HB:=n11_;clear n0_ n1_ n2_ n3_ n4_ n5_ n6_ n7_ n8_ n9_ n10_ n11_))
                  have n0_:=Aside0.mk (Kd.R_drew HO_6.out)
                  have n1_:=Aside0.mk (Kd.N_drew HO_278001.out)
                  have n2_:=Aside0.mk (Kd.V_drew HL281_0.out)
                  have n3_:=Aside0.mk (Kd.V_drew HL282_0.out)
                  have n4_:=Aside0.mk (Kd.V_drew HL284_0.out)
                  have n5_:=Aside0.mk (blk_drew BK266.out)
                  have n6_:=Aside0.mk (blk_drew BK267.out)
                  have n7_:=Aside0.mk (blk_drew BK277.out)
                  have n8_:=Aside0.mk (Kd.C_drew HR281_0.out)
                  have n9_:=Aside0.mk (Kd.C_drew HR282_0.out)
                  have n10_:=Aside0.mk (Kd.C_drew HR284_0.out)
                  have n11_:=Aside0.mk (below_drew1 HB.out)
                  clear HO_6 HO_278001 HL281_0 HL282_0 HL284_0 BK266 BK267 BK277 HR281_0 HR282_0 HR284_0 HB
                  have HO_6:=n0_
                  have HO_278001:=n1_
                  have HL281_0:=n2_
                  have HL282_0:=n3_
                  have HL284_0:=n4_
                  have BK266:=n5_
                  have BK267:=n6_
                  have BK277:=n7_
                  have HR281_0:=n8_
                  have HR282_0:=n9_
                  have HR284_0:=n10_
                  have HB:=n11_
                  clear n0_ n1_ n2_ n3_ n4_ n5_ n6_ n7_ n8_ n9_ n10_ n11_
                  have p285:0≤(x19_1:Int):=of_decide_eq_true (bD)
                  have q285:x19_1 < (x278001_2.length:Int):=of_decide_eq_true (bD)
                  obtain⟨ad285,A285_0,c285_0,e285,hx285_0,hx285_1,hx285_2,hl285_0,hi285_0⟩:=at_T116 (Kd.N_reads' HO_278001.out).2.2 x19_1 p285 q285
                  obtain rfl:(⟨go22,0,none⟩:Addr)=ad285:=(by injection e285)
                  obtain⟨ce285,hce285,hMe285,hcc285⟩:=Kd.N_get HO_278001.out z116 x19_1 p285 (by first|exact q285|exact of_decide_eq_true (bD)|(have e_:=(Kd.N_reads' HO_278001.out).1;omega))
                  obtain⟨ua285_0,uc285_0,rfl,ul285_0,ge285_0⟩:=k116_openF hMe285
                  have hv285_0:=hcc285 0 _ rfl
                  rw[Nat.add_zero] at hv285_0
                  replace hv285_0:=Option.some.inj (hv285_0.symm.trans hx285_0)
                  injection hv285_0 with hva_ hvn_ hvc_
                  rw[hva_] at ge285_0
                  rw[hvc_] at ul285_0
                  have HL285_0:=Aside0.mk (show Kd.V (Kd.int .i64) 3 _ w.heap.size _ _ ((rd_T116 x278001_2 x19_1).f0) from Kd.V_mk ul285_0 ge285_0)
                  clear hva_ hvn_ hvc_ ge285_0 ul285_0 hcc285 hce285
                  (first|simp only[add_plain] at hx285_0|simp only[add_at] at hx285_0|simp only[Addr.add,Nat.zero_add] at hx285_0|skip)
                  (first|simp only[add_plain] at hx285_1|simp only[add_at] at hx285_1|simp only[Addr.add,Nat.zero_add] at hx285_1|skip)
                  (first|simp only[add_plain] at hx285_2|simp only[add_at] at hx285_2|simp only[Addr.add,Nat.zero_add] at hx285_2|skip)
                  have HR285_0:=Aside0.mk hi285_0
                  have HC285_0:=Aside0.mk hl285_0
                  clear hi285_0 hl285_0
                  replace p285:=eq_true p285
                  replace q285:=eq_true q285
                  have p286:0≤(x19_1:Int):=of_decide_eq_true (bD)
                  have q286:x19_1 < (x278001_2.length:Int):=of_decide_eq_true (bD)
                  obtain⟨ad286,A286_0,c286_0,e286,hx286_0,hx286_1,hx286_2,hl286_0,hi286_0⟩:=at_T116 (Kd.N_reads' HO_278001.out).2.2 x19_1 p286 q286
                  obtain rfl:(⟨go22,0,none⟩:Addr)=ad286:=(by injection e286)
                  obtain⟨ce286,hce286,hMe286,hcc286⟩:=Kd.N_get HO_278001.out z116 x19_1 p286 (by first|exact q286|exact of_decide_eq_true (bD)|(have e_:=(Kd.N_reads' HO_278001.out).1;omega))
                  obtain⟨ua286_0,uc286_0,rfl,ul286_0,ge286_0⟩:=k116_openF hMe286
                  have hv286_0:=hcc286 0 _ rfl
                  rw[Nat.add_zero] at hv286_0
                  replace hv286_0:=Option.some.inj (hv286_0.symm.trans hx286_0)
                  injection hv286_0 with hva_ hvn_ hvc_
                  rw[hva_] at ge286_0
                  rw[hvc_] at ul286_0
                  have HL286_0:=Aside0.mk (show Kd.V (Kd.int .i64) 3 _ w.heap.size _ _ ((rd_T116 x278001_2 x19_1).f0) from Kd.V_mk ul286_0 ge286_0)
                  clear hva_ hvn_ hvc_ ge286_0 ul286_0 hcc286 hce286
                  (first|simp only[add_plain] at hx286_0|simp only[add_at] at hx286_0|simp only[Addr.add,Nat.zero_add] at hx286_0|skip)
                  (first|simp only[add_plain] at hx286_1|simp only[add_at] at hx286_1|simp only[Addr.add,Nat.zero_add] at hx286_1|skip)
                  (first|simp only[add_plain] at hx286_2|simp only[add_at] at hx286_2|simp only[Addr.add,Nat.zero_add] at hx286_2|skip)
                  have HR286_0:=Aside0.mk hi286_0
                  have HC286_0:=Aside0.mk hl286_0
                  clear hi286_0 hl286_0
                  replace p286:=eq_true p286
                  replace q286:=eq_true q286
                  have ea_:=Option.some.inj (hx285_0.symm.trans hx286_0)
                  injection ea_ with ea_ en_ ec_
                  subst ea_
                  subst ec_
                  clear en_
                  have p287:0≤(0:Int):=(by omega)
                  have q287:0 < (((rd_T116 x278001_2 x19_1).f0).length:Int):=of_decide_eq_true (bD)
                  obtain⟨ad287,e287,hx287_0⟩:=Kd.at_int (by repeat (first|(with_reducible exact HR286_0.out)|(with_reducible refine Kd.C_alloc ?_ _)|(with_reducible refine Kd.C_drewN ?_ _)|(with_reducible refine Kd.C_drew ?_)|exact HR286_0.out)) 0 p287 q287
                  cases e287
                  have qi287:(0 < ((rd_T116 x278001_2 x19_1).f0).length)=True:=eq_true (by omega)
                  (try rw[show((0:Int)).toNat=0 from rfl] at hx287_0)
                  (try rw[Addr.add_zero'] at hx287_0)
                  replace p287:=eq_true p287
                  replace q287:=eq_true q287
                  have p38:0≤(x19_1:Int):=of_decide_eq_true (bD)
                  have q38:(x19_1:Int) < ((x278001_2.length:Int):Int):=of_decide_eq_true (bD)
                  obtain⟨ce38,hcl38,hM38,hcc38,hfr38⟩:=Kd.N_elem HO_278001.out z116 (x19_1:Int) p38 q38
                  obtain⟨ua38_0,uc38_0,rfl,ul38_0,ge38_0⟩:=k116_openF hM38
                  have hx38_0:World.cell? _ ⟨go22,(x19_1:Int).toNat * 3,none⟩=some (.slice ua38_0 ((rd_T116 x278001_2 x19_1).f0).length uc38_0):=hcc38 0 _ rfl
                  have hx38_1:World.cell? _ ⟨go22,(x19_1:Int).toNat * 3+1,none⟩=some (.int .i64 ((rd_T116 x278001_2 x19_1).f1)):=hcc38 1 _ rfl
                  have hx38_2:World.cell? _ ⟨go22,(x19_1:Int).toNat * 3+2,none⟩=some (.int .i64 ((rd_T116 x278001_2 x19_1).f2)):=hcc38 2 _ rfl
                  have hf38_0:World.frozen? _ ⟨go22,(x19_1:Int).toNat * 3,none⟩=false:=hfr38 0
                  have hf38_1:World.frozen? _ ⟨go22,(x19_1:Int).toNat * 3+1,none⟩=false:=hfr38 1
                  have hf38_2:World.frozen? _ ⟨go22,(x19_1:Int).toNat * 3+2,none⟩=false:=hfr38 2
                  clear hcl38 hcc38 hfr38 hM38
                  replace p38:=eq_true p38
                  replace q38:=eq_true q38
                  have HX46:=Aside0.mk (show Kd.N k116 116 _ w.heap.size (fun k_=>(w.heap.size≤k_)∧some k_≠(u6:Value).ownBlock∧k_≠gb266∧k_≠gb267∧k_≠gb277) (.slice (some ⟨go22,0,none⟩) x278001_2.length co18) x278001_2 from (Kd.N_mono (HO_278001.out) (fun k_ hk=>⟨hk.1,⟨hk.2.1,⟨hk.2.2.1,⟨hk.2.2.2.1,hk.2.2.2.2⟩⟩⟩⟩)))
                  obtain⟨ce46,hcl46,hM46,hcc46,hfr46⟩:=Kd.N_elem HX46.out z116 (x19_1:Int) (of_decide_eq_true (bD)) (by have h_:(x19_1:Int) < ((x278001_2.length:Int):Int):=of_decide_eq_true (bD);first|exact h_|(have e_:=(Kd.N_reads' HO_278001.out).1;omega)|simpa using h_)
                  obtain⟨ua46_0,uc46_0,rfl,ul46_0,ge46_0⟩:=k116_openF hM46
                  have HP46:=(Kd.N_seg HX46.out (x19_1:Int) (of_decide_eq_true (bD)) (by have h_:(x19_1:Int) < ((x278001_2.length:Int):Int):=of_decide_eq_true (bD);first|exact h_|(have e_:=(Kd.N_reads' HO_278001.out).1;omega)|simpa using h_) (seg:=[.int .i64 (wrap64 (((rd_T116 x278001_2 x19_1).f1) - (rd ((rd_T116 x278001_2 x19_1).f0) 0)))]) (j:=1) hcl46 hcc46 (show 2≤3 from by decide) (x':=(⟨(rd_T116 x278001_2 x19_1).f0,wrap64 (((rd_T116 x278001_2 x19_1).f1) - (rd ((rd_T116 x278001_2 x19_1).f0) 0)),(rd_T116 x278001_2 x19_1).f2⟩:S116)) (k116_mkF _ _ (⟨(rd_T116 x278001_2 x19_1).f0,wrap64 (((rd_T116 x278001_2 x19_1).f1) - (rd ((rd_T116 x278001_2 x19_1).f0) 0)),(rd_T116 x278001_2 x19_1).f2⟩:S116) ul46_0 ge46_0) (fun _ hk=>hk)).1
                  rw[← Ny288.out] at HP46
                  have HQ46:=Aside0.mk HP46
                  clear hcl46 hcc46 hfr46 hM46 HP46
                  refine start_ (n:=14) (S:=fun w'=>w'.cell? ⟨go22,(x19_1).toNat * 3,none⟩=some (.slice (some ad287) ((rd_T116 x278001_2 x19_1).f0).length c285_0)∧w'.cell? ⟨go22,(x19_1).toNat * 3+1,none⟩=some (.int .i64 ((rd_T116 x278001_2 x19_1).f1))∧w'.cell? ⟨go22,(x19_1).toNat * 3+2,none⟩=some (.int .i64 ((rd_T116 x278001_2 x19_1).f2))∧w'.cell? ⟨go22,(x19_1).toNat * 3,none⟩=some (.slice (some ad287) ((rd_T116 x278001_2 x19_1).f0).length c285_0)∧w'.cell? ⟨go22,(x19_1).toNat * 3+1,none⟩=some (.int .i64 ((rd_T116 x278001_2 x19_1).f1))∧w'.cell? ⟨go22,(x19_1).toNat * 3+2,none⟩=some (.int .i64 ((rd_T116 x278001_2 x19_1).f2))∧w'.cell? ad287=some (.int .i64 (rd ((rd_T116 x278001_2 x19_1).f0) 0))) (ds:=[13]) #[false,false,false,false,false,false,false,false,false,false,false,false,false,false] (by kernel_rfl) rfl rfl ⟨hx285_0,hx285_1,hx285_2,hx286_0,hx286_1,hx286_2,hx287_0⟩ (fun hHeld => ?_);refine with_tabW impl_NextRound.tab11 impl_NextRound.bits11 (fun HT_ HW_ => ?_)
                  generalize w44.drew=w45 at HO_6 HO_278001 HL281_0 HL282_0 HL284_0 BK266 BK267 BK277 HR281_0 HR282_0 HR284_0 HB HL285_0 HL286_0 HQ46 HR285_0 HR286_0 hf38_0 hf38_1 hf38_2 hx285_0 hx285_1 hx285_2 hx286_0 hx286_1 hx286_2 hx287_0 hx38_0 hx38_1 hx38_2 hHeld ⊢
                  refine pure_ (i:=0) (N:=some 60) (v:=?_) (a':=?_) #[true,false,false,false,false,false,false,false,false,false,false,false,false,false] rfl rfl (any_of HT_.out (by kernel_rfl)) (fun _ _ _ h=>h) (Or.inl ⟨by rfl,?_⟩) ?_ ?_
                  rotate_left
                  ·intro w'
                   go_simp
                   with_reducible rfl
                  rotate_left
                  ·simp only[Act.put,List.setIfInBounds_toArray,List.set_cons_zero,List.set_cons_succ,i64_w,i32_w]
                   rfl
                  refine pure_ (i:=1) (N:=some 61) (v:=?_) (a':=?_) #[true,true,false,false,false,false,false,false,false,false,false,false,false,false] rfl rfl (any_of HT_.out (by kernel_rfl)) (fun _ _ _ h=>h) (Or.inl ⟨by rfl,?_⟩) ?_ ?_
                  rotate_left
                  ·intro w'
                   go_simp
                   with_reducible rfl
                  rotate_left
                  ·simp only[Act.put,List.setIfInBounds_toArray,List.set_cons_zero,List.set_cons_succ,i64_w,i32_w]
                   rfl
                  refine pure_ (i:=2) (N:=some 62) (v:=?_) (a':=?_) #[true,true,true,false,false,false,false,false,false,false,false,false,false,false] rfl rfl (any_of HT_.out (by kernel_rfl)) (fun _ _ _ h=>h) (Or.inl ⟨by rfl,?_⟩) ?_ ?_
                  rotate_left
                  ·intro w'
                   go_simp
                   with_reducible rfl
                  rotate_left
                  ·simp only[Act.put,List.setIfInBounds_toArray,List.set_cons_zero,List.set_cons_succ,i64_w,i32_w]
                   rfl
                  refine pure_ (i:=4) (N:=some 64) (v:=?_) (a':=?_) #[true,true,true,false,true,false,false,false,false,false,false,false,false,false] rfl rfl (any_of HT_.out (by kernel_rfl)) (fun _ _ _ h=>h) (Or.inl ⟨by rfl,?_⟩) ?_ ?_
                  rotate_left
                  ·intro w'
                   go_simp
                   with_reducible rfl
                  rotate_left
                  ·simp only[Act.put,List.setIfInBounds_toArray,List.set_cons_zero,List.set_cons_succ,i64_w,i32_w]
                   rfl
                  refine pure_ (i:=5) (N:=some 65) (v:=?_) (a':=?_) #[true,true,true,false,true,true,false,false,false,false,false,false,false,false] rfl rfl (any_of HT_.out (by kernel_rfl)) (fun _ _ _ h=>h) (Or.inl ⟨by rfl,?_⟩) ?_ ?_
                  rotate_left
                  ·intro w'
                   go_simp
                   with_reducible rfl
                  rotate_left
                  ·simp only[Act.put,List.setIfInBounds_toArray,List.set_cons_zero,List.set_cons_succ,i64_w,i32_w]
                   rfl
                  refine pure_ (i:=6) (N:=some 66) (v:=?_) (a':=?_) #[true,true,true,false,true,true,true,false,false,false,false,false,false,false] rfl rfl (any_of HT_.out (by kernel_rfl)) (fun _ _ _ h=>h) (Or.inl ⟨by rfl,?_⟩) ?_ ?_
                  rotate_left
                  ·intro w'
                   go_simp
                   with_reducible rfl
                  rotate_left
                  ·simp only[Act.put,List.setIfInBounds_toArray,List.set_cons_zero,List.set_cons_succ,i64_w,i32_w]
                   rfl
                  refine take_ (i:=3) (N:=some 63) (v:=?_) (a':=?_) #[true,true,true,true,true,true,true,false,false,false,false,false,false,false] rfl rfl (take_ofW HT_.out HW_.out (by kernel_rfl)) (fun _ _ _ h=>h) (Or.inl ⟨by rfl,?_⟩) hHeld ?_ ?_
                  rotate_left
                  ·rintro w' ⟨s0,s1,s2,s3,s4,s5,s6⟩
                   go_simp
                   with_reducible rfl
                  rotate_left
                  ·simp only[Act.put,List.setIfInBounds_toArray,List.set_cons_zero,List.set_cons_succ,i64_w,i32_w]
                   rfl
                  refine take_ (i:=7) (N:=some 67) (v:=?_) (a':=?_) #[true,true,true,true,true,true,true,true,false,false,false,false,false,false] rfl rfl (take_ofW HT_.out HW_.out (by kernel_rfl)) (fun _ _ _ h=>h) (Or.inl ⟨by rfl,?_⟩) hHeld ?_ ?_
                  rotate_left
                  ·rintro w' ⟨s0,s1,s2,s3,s4,s5,s6⟩
                   go_simp
                   with_reducible rfl
                  rotate_left
                  ·simp only[Act.put,List.setIfInBounds_toArray,List.set_cons_zero,List.set_cons_succ,i64_w,i32_w]
                   rfl
                  refine pure_ (i:=8) (N:=some 68) (v:=?_) (a':=?_) #[true,true,true,true,true,true,true,true,true,false,false,false,false,false] rfl rfl (any_of HT_.out (by kernel_rfl)) (fun _ _ _ h=>h) (Or.inl ⟨by rfl,?_⟩) ?_ ?_
                  rotate_left
                  ·intro w'
                   go_simp
                   with_reducible rfl
                  rotate_left
                  ·simp only[Act.put,List.setIfInBounds_toArray,List.set_cons_zero,List.set_cons_succ,i64_w,i32_w]
                   rfl
                  refine take_ (i:=9) (N:=some 69) (v:=?_) (a':=?_) #[true,true,true,true,true,true,true,true,true,true,false,false,false,false] rfl rfl (take_ofW HT_.out HW_.out (by kernel_rfl)) (fun _ _ _ h=>h) (Or.inl ⟨by rfl,?_⟩) hHeld ?_ ?_
                  rotate_left
                  ·rintro w' ⟨s0,s1,s2,s3,s4,s5,s6⟩
                   go_simp
                   with_reducible rfl
                  rotate_left
                  ·simp only[Act.put,List.setIfInBounds_toArray,List.set_cons_zero,List.set_cons_succ,i64_w,i32_w]
                   rfl
                  refine pure_ (i:=10) (N:=some 70) (v:=?_) (a':=?_) #[true,true,true,true,true,true,true,true,true,true,true,false,false,false] rfl rfl (any_of HT_.out (by kernel_rfl)) (fun _ _ _ h=>h) (Or.inl ⟨by rfl,?_⟩) ?_ ?_
                  rotate_left
                  ·intro w'
                   go_simp
                   with_reducible rfl
                  rotate_left
                  ·simp only[Act.put,List.setIfInBounds_toArray,List.set_cons_zero,List.set_cons_succ,i64_w,i32_w]
                   rfl
                  refine pure_ (i:=11) (N:=some 71) (v:=?_) (a':=?_) #[true,true,true,true,true,true,true,true,true,true,true,true,false,false] rfl rfl (any_of HT_.out (by kernel_rfl)) (fun _ _ _ h=>h) (Or.inl ⟨by rfl,?_⟩) ?_ ?_
                  rotate_left
                  ·intro w'
                   go_simp
                   with_reducible rfl
                  rotate_left
                  ·simp only[Act.put,List.setIfInBounds_toArray,List.set_cons_zero,List.set_cons_succ,i64_w,i32_w]
                   rfl
                  refine pure_ (i:=12) (N:=some 72) (v:=?_) (a':=?_) #[true,true,true,true,true,true,true,true,true,true,true,true,true,false] rfl rfl (any_of HT_.out (by kernel_rfl)) (fun _ _ _ h=>h) (Or.inl ⟨by rfl,?_⟩) ?_ ?_
                  rotate_left
                  ·intro w'
                   go_simp
                   with_reducible rfl
                  rotate_left
                  ·simp only[Act.put,List.setIfInBounds_toArray,List.set_cons_zero,List.set_cons_succ,i64_w,i32_w]
                   rfl
                  refine last_ (i:=13) (N:=none) #[true,true,true,true,true,true,true,true,true,true,true,true,true,true] rfl rfl (one_of HT_.out (by kernel_rfl)) (by decide) (fun K hK => ?_)
                  refine skip_ (w1:=?_) (by rfl) rfl ?_ ?_
                  rotate_left
                  ·go_simp
                   rfl
                  refine hK.out _ _ ?_
                  clear hK K
                  refine done_ (done_of HT_.out (by kernel_rfl)) ?_
                  try go_wp2
                  have n0_:Aside0 (Kd.R (Kd.int .i64) 3 (w45.setCell ⟨go22,(x19_1:Int).toNat * 3+1,none⟩ (.int .i64 (wrap64 (((rd_T116 x278001_2 x19_1).f1) - (rd ((rd_T116 x278001_2 x19_1).f0) 0))))) w.heap.size (fun k_=>(w.heap.size≤k_)) u6 x6_2):=⟨by(with_reducible repeat (first|apply Kd.R_alloc|apply Kd.R_drewN|apply Kd.R_drew));exact Kd.R_mono (Kd.R_far (p:=⟨go22,(x19_1:Int).toNat * 3+1,none⟩) (Kd.R_types HO_6.out (by first|exact GG22.out|exact(Kd.N_typed HO_278001.out _ rfl).choose_spec) (by decide)) (fun _ hk=>hk.2) (.int .i64 (wrap64 (((rd_T116 x278001_2 x19_1).f1) - (rd ((rd_T116 x278001_2 x19_1).f0) 0))))) (fun _ hk=>hk.1)⟩
                  have n1_:Aside0 (Kd.N k116 116 (w45.setCell ⟨go22,(x19_1:Int).toNat * 3+1,none⟩ (.int .i64 (wrap64 (((rd_T116 x278001_2 x19_1).f1) - (rd ((rd_T116 x278001_2 x19_1).f0) 0))))) w.heap.size (fun k_=>(w.heap.size≤k_)∧some k_≠(u6:Value).ownBlock∧k_≠gb266∧k_≠gb267∧k_≠gb277) (.slice (some ⟨go22,0,none⟩) x278001_2.length co18) y288):=⟨by(with_reducible repeat (first|apply Kd.N_alloc|apply Kd.N_drewN|apply Kd.N_drew));exact HQ46.out⟩
                  have n2_:Aside0 (Kd.V (Kd.int .i64) 3 (w45.setCell ⟨go22,(x19_1:Int).toNat * 3+1,none⟩ (.int .i64 (wrap64 (((rd_T116 x278001_2 x19_1).f1) - (rd ((rd_T116 x278001_2 x19_1).f0) 0))))) w.heap.size (fun k_=>(w.heap.size≤k_)∧some k_≠(u6:Value).ownBlock∧some k_≠(.slice (some ⟨go22,0,none⟩) x278001_2.length co18:Value).ownBlock∧k_≠gb266∧k_≠gb267∧k_≠gb277) (.slice (some ad283) ((rd_T116 x278001_2 x19_1).f0).length c281_0) ((rd_T116 x278001_2 x19_1).f0)):=⟨by(with_reducible repeat (first|apply Kd.V_alloc|apply Kd.V_drewN|apply Kd.V_drew));exact Kd.V_mono (Kd.V_far (p:=⟨go22,(x19_1:Int).toNat * 3+1,none⟩) (Kd.V_mono HL281_0.out (fun k_ hk=>(⟨hk,fun e_=>hk.2 (by rw[e_];rfl)⟩:_∧k_≠go22))) (fun _ hk=>hk.2) (.int .i64 (wrap64 (((rd_T116 x278001_2 x19_1).f1) - (rd ((rd_T116 x278001_2 x19_1).f0) 0))))) (fun _ hk=>⟨hk.1.1.1,⟨hk.1.1.2.1,⟨hk.1.2,⟨hk.1.1.2.2.1,⟨hk.1.1.2.2.2.1,hk.1.1.2.2.2.2⟩⟩⟩⟩⟩)⟩
                  have n3_:Aside0 (Kd.V (Kd.int .i64) 3 (w45.setCell ⟨go22,(x19_1:Int).toNat * 3+1,none⟩ (.int .i64 (wrap64 (((rd_T116 x278001_2 x19_1).f1) - (rd ((rd_T116 x278001_2 x19_1).f0) 0))))) w.heap.size (fun k_=>(w.heap.size≤k_)∧some k_≠(u6:Value).ownBlock∧some k_≠(.slice (some ⟨go22,0,none⟩) x278001_2.length co18:Value).ownBlock∧k_≠gb266∧k_≠gb267∧k_≠gb277) (.slice (some ad283) ((rd_T116 x278001_2 x19_1).f0).length c281_0) ((rd_T116 x278001_2 x19_1).f0)):=⟨by(with_reducible repeat (first|apply Kd.V_alloc|apply Kd.V_drewN|apply Kd.V_drew));exact Kd.V_mono (Kd.V_far (p:=⟨go22,(x19_1:Int).toNat * 3+1,none⟩) (Kd.V_mono HL282_0.out (fun k_ hk=>(⟨hk,fun e_=>hk.2 (by rw[e_];rfl)⟩:_∧k_≠go22))) (fun _ hk=>hk.2) (.int .i64 (wrap64 (((rd_T116 x278001_2 x19_1).f1) - (rd ((rd_T116 x278001_2 x19_1).f0) 0))))) (fun _ hk=>⟨hk.1.1.1,⟨hk.1.1.2.1,⟨hk.1.2,⟨hk.1.1.2.2.1,⟨hk.1.1.2.2.2.1,hk.1.1.2.2.2.2⟩⟩⟩⟩⟩)⟩
                  have n4_:Aside0 (Kd.V (Kd.int .i64) 3 (w45.setCell ⟨go22,(x19_1:Int).toNat * 3+1,none⟩ (.int .i64 (wrap64 (((rd_T116 x278001_2 x19_1).f1) - (rd ((rd_T116 x278001_2 x19_1).f0) 0))))) w.heap.size (fun k_=>(w.heap.size≤k_)∧some k_≠(u6:Value).ownBlock∧some k_≠(.slice (some ⟨go22,0,none⟩) x278001_2.length co18:Value).ownBlock∧k_≠gb266∧k_≠gb267∧k_≠gb277) (.slice (some ad283) ((rd_T116 x278001_2 x19_1).f0).length c281_0) ((rd_T116 x278001_2 x19_1).f0)):=⟨by(with_reducible repeat (first|apply Kd.V_alloc|apply Kd.V_drewN|apply Kd.V_drew));exact Kd.V_mono (Kd.V_far (p:=⟨go22,(x19_1:Int).toNat * 3+1,none⟩) (Kd.V_mono HL284_0.out (fun k_ hk=>(⟨hk,fun e_=>hk.2 (by rw[e_];rfl)⟩:_∧k_≠go22))) (fun _ hk=>hk.2) (.int .i64 (wrap64 (((rd_T116 x278001_2 x19_1).f1) - (rd ((rd_T116 x278001_2 x19_1).f0) 0))))) (fun _ hk=>⟨hk.1.1.1,⟨hk.1.1.2.1,⟨hk.1.2,⟨hk.1.1.2.2.1,⟨hk.1.1.2.2.2.1,hk.1.1.2.2.2.2⟩⟩⟩⟩⟩)⟩
                  have n5_:Aside0 (Kd.V (Kd.int .i64) 3 (w45.setCell ⟨go22,(x19_1:Int).toNat * 3+1,none⟩ (.int .i64 (wrap64 (((rd_T116 x278001_2 x19_1).f1) - (rd ((rd_T116 x278001_2 x19_1).f0) 0))))) w.heap.size (fun k_=>(w.heap.size≤k_)∧some k_≠(u6:Value).ownBlock∧some k_≠(.slice (some ⟨go22,0,none⟩) x278001_2.length co18:Value).ownBlock∧k_≠gb266∧k_≠gb267∧k_≠gb277) (.slice (some ad287) ((rd_T116 x278001_2 x19_1).f0).length c285_0) ((rd_T116 x278001_2 x19_1).f0)):=⟨by(with_reducible repeat (first|apply Kd.V_alloc|apply Kd.V_drewN|apply Kd.V_drew));exact Kd.V_mono (Kd.V_far (p:=⟨go22,(x19_1:Int).toNat * 3+1,none⟩) (Kd.V_mono HL285_0.out (fun k_ hk=>(⟨hk,fun e_=>hk.2 (by rw[e_];rfl)⟩:_∧k_≠go22))) (fun _ hk=>hk.2) (.int .i64 (wrap64 (((rd_T116 x278001_2 x19_1).f1) - (rd ((rd_T116 x278001_2 x19_1).f0) 0))))) (fun _ hk=>⟨hk.1.1.1,⟨hk.1.1.2.1,⟨hk.1.2,⟨hk.1.1.2.2.1,⟨hk.1.1.2.2.2.1,hk.1.1.2.2.2.2⟩⟩⟩⟩⟩)⟩
                  have n6_:Aside0 (Kd.V (Kd.int .i64) 3 (w45.setCell ⟨go22,(x19_1:Int).toNat * 3+1,none⟩ (.int .i64 (wrap64 (((rd_T116 x278001_2 x19_1).f1) - (rd ((rd_T116 x278001_2 x19_1).f0) 0))))) w.heap.size (fun k_=>(w.heap.size≤k_)∧some k_≠(u6:Value).ownBlock∧some k_≠(.slice (some ⟨go22,0,none⟩) x278001_2.length co18:Value).ownBlock∧k_≠gb266∧k_≠gb267∧k_≠gb277) (.slice (some ad287) ((rd_T116 x278001_2 x19_1).f0).length c285_0) ((rd_T116 x278001_2 x19_1).f0)):=⟨by(with_reducible repeat (first|apply Kd.V_alloc|apply Kd.V_drewN|apply Kd.V_drew));exact Kd.V_mono (Kd.V_far (p:=⟨go22,(x19_1:Int).toNat * 3+1,none⟩) (Kd.V_mono HL286_0.out (fun k_ hk=>(⟨hk,fun e_=>hk.2 (by rw[e_];rfl)⟩:_∧k_≠go22))) (fun _ hk=>hk.2) (.int .i64 (wrap64 (((rd_T116 x278001_2 x19_1).f1) - (rd ((rd_T116 x278001_2 x19_1).f0) 0))))) (fun _ hk=>⟨hk.1.1.1,⟨hk.1.1.2.1,⟨hk.1.2,⟨hk.1.1.2.2.1,⟨hk.1.1.2.2.2.1,hk.1.1.2.2.2.2⟩⟩⟩⟩⟩)⟩
                  have n7_:Aside0 ((w45.setCell ⟨go22,(x19_1:Int).toNat * 3+1,none⟩ (.int .i64 (wrap64 (((rd_T116 x278001_2 x19_1).f1) - (rd ((rd_T116 x278001_2 x19_1).f0) 0))))).heap[gb266]?=some (.cells #[.int .i64 a0_0,.slice A0_1 l0_1.length c0_1,.int .i64 a0_2] 28 (0,0))):=⟨by(with_reducible repeat (first|refine blk_drewN ?_ _|refine blk_drew ?_|refine blk_alloc ?_ _));refine blk_far ?_ (by have h_:=Kd.N_away HO_278001.out (fun _ hk=>hk.2.2.1);intro e_;exact h_ (by rw[e_];rfl)) _;(with_reducible repeat (first|refine blk_drewN ?_ _|refine blk_drew ?_|refine blk_alloc ?_ _));exact BK266.out⟩
                  have n8_:Aside0 ((w45.setCell ⟨go22,(x19_1:Int).toNat * 3+1,none⟩ (.int .i64 (wrap64 (((rd_T116 x278001_2 x19_1).f1) - (rd ((rd_T116 x278001_2 x19_1).f0) 0))))).heap[gb267]?=some (.cells #[.int .i64 0,.slice none 0 0,.int .i64 0] 28 (0,0))):=⟨by(with_reducible repeat (first|refine blk_drewN ?_ _|refine blk_drew ?_|refine blk_alloc ?_ _));refine blk_far ?_ (by have h_:=Kd.N_away HO_278001.out (fun _ hk=>hk.2.2.2.1);intro e_;exact h_ (by rw[e_];rfl)) _;(with_reducible repeat (first|refine blk_drewN ?_ _|refine blk_drew ?_|refine blk_alloc ?_ _));exact BK267.out⟩
                  have n9_:Aside0 ((w45.setCell ⟨go22,(x19_1:Int).toNat * 3+1,none⟩ (.int .i64 (wrap64 (((rd_T116 x278001_2 x19_1).f1) - (rd ((rd_T116 x278001_2 x19_1).f0) 0))))).heap[gb277]?=some (.cells #[.int .i64 t269,.slice (some ⟨go22,0,none⟩) x278001_2.length co18,.int .i64 t273] 28 (0,0))):=⟨by(with_reducible repeat (first|refine blk_drewN ?_ _|refine blk_drew ?_|refine blk_alloc ?_ _));refine blk_far ?_ (by have h_:=Kd.N_away HO_278001.out (fun _ hk=>hk.2.2.2.2);intro e_;exact h_ (by rw[e_];rfl)) _;(with_reducible repeat (first|refine blk_drewN ?_ _|refine blk_drew ?_|refine blk_alloc ?_ _));exact BK277.out⟩
                  have n10_:Aside0 (Below w.heap.size w (w45.setCell ⟨go22,(x19_1:Int).toNat * 3+1,none⟩ (.int .i64 (wrap64 (((rd_T116 x278001_2 x19_1).f1) - (rd ((rd_T116 x278001_2 x19_1).f0) 0)))))):=⟨bS4 GB22.out GE266.out GE267.out GE277.out⟩
                  (try clear HO_6)
                  (try clear HO_278001)
                  (try clear HL281_0)
                  (try clear HL282_0)
                  (try clear HL284_0)
                  (try clear HL285_0)
                  (try clear HL286_0)
                  (try clear BK266)
                  (try clear BK267)
                  (try clear BK277)
                  (try clear HB)
                  generalize (w45.setCell ⟨go22,(x19_1:Int).toNat * 3+1,none⟩ (.int .i64 (wrap64 (((rd_T116 x278001_2 x19_1).f1) - (rd ((rd_T116 x278001_2 x19_1).f0) 0)))))=w47 at n0_ n1_ n2_ n3_ n4_ n5_ n6_ n7_ n8_ n9_ n10_ ⊢
                  have HO_6:=n0_
                  have HO_278001:=n1_
                  have HL281_0:=n2_
                  have HL282_0:=n3_
                  have HL284_0:=n4_
                  have HL285_0:=n5_
                  have HL286_0:=n6_
                  have BK266:=n7_
                  have BK267:=n8_
                  have BK277:=n9_
                  have HB:=n10_
                  clear n0_ n1_ n2_ n3_ n4_ n5_ n6_ n7_ n8_ n9_ n10_
                  (try (rw[drewN_self w47];generalize hq_:World.drewN w47 _=w47;have n0_:=Aside0.mk (Kd.R_at hq_ HO_6.out);have n1_:=Aside0.mk (Kd.N_at hq_ HO_278001.out);have n2_:=Aside0.mk (Kd.V_at hq_ HL281_0.out);have n3_:=Aside0.mk (Kd.V_at hq_ HL282_0.out);have n4_:=Aside0.mk (Kd.V_at hq_ HL284_0.out);have n5_:=Aside0.mk (Kd.V_at hq_ HL285_0.out);have n6_:=Aside0.mk (Kd.V_at hq_ HL286_0.out);have n7_:=Aside0.mk (blk_at hq_ BK266.out);have n8_:=Aside0.mk (blk_at hq_ BK267.out);have n9_:=Aside0.mk (blk_at hq_ BK277.out);have n10_:=Aside0.mk (below_at hq_ HB.out);clear hq_ HO_6 HO_278001 HL281_0 HL282_0 HL284_0 HL285_0 HL286_0 BK266 BK267 BK277 HB;have HO_6:=n0_;have HO_278001:=n1_;have HL281_0:=n2_;have HL282_0:=n3_;have HL284_0:=n4_;have HL285_0:=n5_;have HL286_0:=n6_;have BK266:=n7_;have BK267:=n8_;have BK277:=n9_;have HB:=n10_;clear n0_ n1_ n2_ n3_ n4_ n5_ n6_ n7_ n8_ n9_ n10_))
                  have n0_:=Aside0.mk (Kd.R_drew HO_6.out)
                  have n1_:=Aside0.mk (Kd.N_drew HO_278001.out)
                  have n2_:=Aside0.mk (Kd.V_drew HL281_0.out)
                  have n3_:=Aside0.mk (Kd.V_drew HL282_0.out)
                  have n4_:=Aside0.mk (Kd.V_drew HL284_0.out)
                  have n5_:=Aside0.mk (Kd.V_drew HL285_0.out)
                  have n6_:=Aside0.mk (Kd.V_drew HL286_0.out)
                  have n7_:=Aside0.mk (blk_drew BK266.out)
                  have n8_:=Aside0.mk (blk_drew BK267.out)
                  have n9_:=Aside0.mk (blk_drew BK277.out)
                  have n10_:=Aside0.mk (below_drew1 HB.out)
                  clear HO_6 HO_278001 HL281_0 HL282_0 HL284_0 HL285_0 HL286_0 BK266 BK267 BK277 HB
                  have HO_6:=n0_
                  have HO_278001:=n1_
                  have HL281_0:=n2_
                  have HL282_0:=n3_
                  have HL284_0:=n4_
                  have HL285_0:=n5_
                  have HL286_0:=n6_
                  have BK266:=n7_
                  have BK267:=n8_
                  have BK277:=n9_
                  have HB:=n10_
                  clear n0_ n1_ n2_ n3_ n4_ n5_ n6_ n7_ n8_ n9_ n10_
                  have p289:0≤(x19_1:Int):=of_decide_eq_true (bD)
                  have q289:x19_1 < (y288.length:Int):=(by have h_:(x19_1:Int) < ((x278001_2.length:Int):Int):=of_decide_eq_true (bD);first|(have e_:=(Kd.N_reads' HO_278001.out).1;omega)|simpa only[Ny288.out,List.length_set] using h_)
                  have ql289:((x19_1:Int) < ((x278001_2.length:Int):Int))=True:=eq_true (of_decide_eq_true (bD))
                  obtain⟨ad289,A289_0,c289_0,e289,hx289_0,hx289_1,hx289_2,hl289_0,hi289_0⟩:=at_T116 (Kd.N_reads' HO_278001.out).2.2 x19_1 p289 q289
                  obtain rfl:(⟨go22,0,none⟩:Addr)=ad289:=(by injection e289)
                  obtain⟨ce289,hce289,hMe289,hcc289⟩:=Kd.N_get HO_278001.out z116 x19_1 p289 (by first|exact q289|exact of_decide_eq_true (bD)|(have e_:=(Kd.N_reads' HO_278001.out).1;omega))
                  obtain⟨ua289_0,uc289_0,rfl,ul289_0,ge289_0⟩:=k116_openF hMe289
                  have hv289_0:=hcc289 0 _ rfl
                  rw[Nat.add_zero] at hv289_0
                  replace hv289_0:=Option.some.inj (hv289_0.symm.trans hx289_0)
                  injection hv289_0 with hva_ hvn_ hvc_
                  rw[hva_] at ge289_0
                  rw[hvc_] at ul289_0
                  have HL289_0:=Aside0.mk (show Kd.V (Kd.int .i64) 3 _ w.heap.size _ _ ((rd_T116 y288 x19_1).f0) from Kd.V_mk ul289_0 ge289_0)
                  clear hva_ hvn_ hvc_ ge289_0 ul289_0 hcc289 hce289
                  (first|simp only[add_plain] at hx289_0|simp only[add_at] at hx289_0|simp only[Addr.add,Nat.zero_add] at hx289_0|skip)
                  (first|simp only[add_plain] at hx289_1|simp only[add_at] at hx289_1|simp only[Addr.add,Nat.zero_add] at hx289_1|skip)
                  (first|simp only[add_plain] at hx289_2|simp only[add_at] at hx289_2|simp only[Addr.add,Nat.zero_add] at hx289_2|skip)
                  have HR289_0:=Aside0.mk hi289_0
                  have HC289_0:=Aside0.mk hl289_0
                  clear hi289_0 hl289_0
                  replace p289:=eq_true p289
                  replace q289:=eq_true q289
                  have p290:0≤(x19_1:Int):=of_decide_eq_true (bD)
                  have q290:x19_1 < (y288.length:Int):=(by have h_:(x19_1:Int) < ((x278001_2.length:Int):Int):=of_decide_eq_true (bD);first|(have e_:=(Kd.N_reads' HO_278001.out).1;omega)|simpa only[Ny288.out,List.length_set] using h_)
                  have ql290:((x19_1:Int) < ((x278001_2.length:Int):Int))=True:=eq_true (of_decide_eq_true (bD))
                  obtain⟨ad290,A290_0,c290_0,e290,hx290_0,hx290_1,hx290_2,hl290_0,hi290_0⟩:=at_T116 (Kd.N_reads' HO_278001.out).2.2 x19_1 p290 q290
                  obtain rfl:(⟨go22,0,none⟩:Addr)=ad290:=(by injection e290)
                  obtain⟨ce290,hce290,hMe290,hcc290⟩:=Kd.N_get HO_278001.out z116 x19_1 p290 (by first|exact q290|exact of_decide_eq_true (bD)|(have e_:=(Kd.N_reads' HO_278001.out).1;omega))
                  obtain⟨ua290_0,uc290_0,rfl,ul290_0,ge290_0⟩:=k116_openF hMe290
                  have hv290_0:=hcc290 0 _ rfl
                  rw[Nat.add_zero] at hv290_0
                  replace hv290_0:=Option.some.inj (hv290_0.symm.trans hx290_0)
                  injection hv290_0 with hva_ hvn_ hvc_
                  rw[hva_] at ge290_0
                  rw[hvc_] at ul290_0
                  have HL290_0:=Aside0.mk (show Kd.V (Kd.int .i64) 3 _ w.heap.size _ _ ((rd_T116 y288 x19_1).f0) from Kd.V_mk ul290_0 ge290_0)
                  clear hva_ hvn_ hvc_ ge290_0 ul290_0 hcc290 hce290
                  (first|simp only[add_plain] at hx290_0|simp only[add_at] at hx290_0|simp only[Addr.add,Nat.zero_add] at hx290_0|skip)
                  (first|simp only[add_plain] at hx290_1|simp only[add_at] at hx290_1|simp only[Addr.add,Nat.zero_add] at hx290_1|skip)
                  (first|simp only[add_plain] at hx290_2|simp only[add_at] at hx290_2|simp only[Addr.add,Nat.zero_add] at hx290_2|skip)
                  have HR290_0:=Aside0.mk hi290_0
                  have HC290_0:=Aside0.mk hl290_0
                  clear hi290_0 hl290_0
                  replace p290:=eq_true p290
                  replace q290:=eq_true q290
                  have ea_:=Option.some.inj (hx289_0.symm.trans hx290_0)
                  injection ea_ with ea_ en_ ec_
                  subst ea_
                  subst ec_
                  clear en_
                  have p291:0≤(0:Int):=(by omega)
                  have q291:0 < (((rd_T116 y288 x19_1).f0).length:Int):=of_decide_eq_true (bD)
                  obtain⟨ad291,e291,hx291_0⟩:=Kd.at_int (by repeat (first|(with_reducible exact HR290_0.out)|(with_reducible refine Kd.C_alloc ?_ _)|(with_reducible refine Kd.C_drewN ?_ _)|(with_reducible refine Kd.C_drew ?_)|exact HR290_0.out)) 0 p291 q291
                  cases e291
                  have qi291:(0 < ((rd_T116 y288 x19_1).f0).length)=True:=eq_true (by omega)
                  (try rw[show((0:Int)).toNat=0 from rfl] at hx291_0)
                  (try rw[Addr.add_zero'] at hx291_0)
                  replace p291:=eq_true p291
                  replace q291:=eq_true q291
                  have p40:0≤(x19_1:Int):=of_decide_eq_true (bD)
                  have q40:(x19_1:Int) < ((x278001_2.length:Int):Int):=of_decide_eq_true (bD)
                  obtain⟨ce40,hcl40,hM40,hcc40,hfr40⟩:=Kd.N_elem HO_278001.out z116 (x19_1:Int) p40 q40
                  obtain⟨ua40_0,uc40_0,rfl,ul40_0,ge40_0⟩:=k116_openF hM40
                  have hx40_0:World.cell? _ ⟨go22,(x19_1:Int).toNat * 3,none⟩=some (.slice ua40_0 ((rd_T116 y288 x19_1).f0).length uc40_0):=hcc40 0 _ rfl
                  have hx40_1:World.cell? _ ⟨go22,(x19_1:Int).toNat * 3+1,none⟩=some (.int .i64 ((rd_T116 y288 x19_1).f1)):=hcc40 1 _ rfl
                  have hx40_2:World.cell? _ ⟨go22,(x19_1:Int).toNat * 3+2,none⟩=some (.int .i64 ((rd_T116 y288 x19_1).f2)):=hcc40 2 _ rfl
                  have hf40_0:World.frozen? _ ⟨go22,(x19_1:Int).toNat * 3,none⟩=false:=hfr40 0
                  have hf40_1:World.frozen? _ ⟨go22,(x19_1:Int).toNat * 3+1,none⟩=false:=hfr40 1
                  have hf40_2:World.frozen? _ ⟨go22,(x19_1:Int).toNat * 3+2,none⟩=false:=hfr40 2
                  clear hcl40 hcc40 hfr40 hM40
                  replace p40:=eq_true p40
                  replace q40:=eq_true q40
                  have HX49:=Aside0.mk (show Kd.N k116 116 _ w.heap.size (fun k_=>(w.heap.size≤k_)∧some k_≠(u6:Value).ownBlock∧k_≠gb266∧k_≠gb267∧k_≠gb277) (.slice (some ⟨go22,0,none⟩) x278001_2.length co18) y288 from (Kd.N_mono (HO_278001.out) (fun k_ hk=>⟨hk.1,⟨hk.2.1,⟨hk.2.2.1,⟨hk.2.2.2.1,hk.2.2.2.2⟩⟩⟩⟩)))
                  obtain⟨ce49,hcl49,hM49,hcc49,hfr49⟩:=Kd.N_elem HX49.out z116 (x19_1:Int) (of_decide_eq_true (bD)) (by have h_:(x19_1:Int) < ((x278001_2.length:Int):Int):=of_decide_eq_true (bD);first|exact h_|(have e_:=(Kd.N_reads' HO_278001.out).1;omega)|simpa using h_)
                  obtain⟨ua49_0,uc49_0,rfl,ul49_0,ge49_0⟩:=k116_openF hM49
                  have HP49:=(Kd.N_seg HX49.out (x19_1:Int) (of_decide_eq_true (bD)) (by have h_:(x19_1:Int) < ((x278001_2.length:Int):Int):=of_decide_eq_true (bD);first|exact h_|(have e_:=(Kd.N_reads' HO_278001.out).1;omega)|simpa using h_) (seg:=[.int .i64 (wrap64 (((rd_T116 y288 x19_1).f2)+(rd ((rd_T116 y288 x19_1).f0) 0)))]) (j:=2) hcl49 hcc49 (show 3≤3 from by decide) (x':=(⟨(rd_T116 y288 x19_1).f0,(rd_T116 y288 x19_1).f1,wrap64 (((rd_T116 y288 x19_1).f2)+(rd ((rd_T116 y288 x19_1).f0) 0))⟩:S116)) (k116_mkF _ _ (⟨(rd_T116 y288 x19_1).f0,(rd_T116 y288 x19_1).f1,wrap64 (((rd_T116 y288 x19_1).f2)+(rd ((rd_T116 y288 x19_1).f0) 0))⟩:S116) ul49_0 ge49_0) (fun _ hk=>hk)).1
                  rw[← Ny292.out] at HP49
                  have HQ49:=Aside0.mk HP49
                  clear hcl49 hcc49 hfr49 hM49 HP49
                  refine start_ (n:=14) (S:=fun w'=>w'.cell? ⟨go22,(x19_1).toNat * 3,none⟩=some (.slice (some ad291) ((rd_T116 y288 x19_1).f0).length c289_0)∧w'.cell? ⟨go22,(x19_1).toNat * 3+1,none⟩=some (.int .i64 ((rd_T116 y288 x19_1).f1))∧w'.cell? ⟨go22,(x19_1).toNat * 3+2,none⟩=some (.int .i64 ((rd_T116 y288 x19_1).f2))∧w'.cell? ⟨go22,(x19_1).toNat * 3,none⟩=some (.slice (some ad291) ((rd_T116 y288 x19_1).f0).length c289_0)∧w'.cell? ⟨go22,(x19_1).toNat * 3+1,none⟩=some (.int .i64 ((rd_T116 y288 x19_1).f1))∧w'.cell? ⟨go22,(x19_1).toNat * 3+2,none⟩=some (.int .i64 ((rd_T116 y288 x19_1).f2))∧w'.cell? ad291=some (.int .i64 (rd ((rd_T116 y288 x19_1).f0) 0))) (ds:=[13]) #[false,false,false,false,false,false,false,false,false,false,false,false,false,false] (by kernel_rfl) rfl rfl ⟨hx289_0,hx289_1,hx289_2,hx290_0,hx290_1,hx290_2,hx291_0⟩ (fun hHeld => ?_);refine with_tabW impl_NextRound.tab12 impl_NextRound.bits12 (fun HT_ HW_ => ?_)
                  generalize w47.drew=w48 at HO_6 HO_278001 HL281_0 HL282_0 HL284_0 HL285_0 HL286_0 BK266 BK267 BK277 HB HL289_0 HL290_0 HQ46 HQ49 HR289_0 HR290_0 hf40_0 hf40_1 hf40_2 hx289_0 hx289_1 hx289_2 hx290_0 hx290_1 hx290_2 hx291_0 hx40_0 hx40_1 hx40_2 hHeld ⊢
                  refine pure_ (i:=0) (N:=some 73) (v:=?_) (a':=?_) #[true,false,false,false,false,false,false,false,false,false,false,false,false,false] rfl rfl (any_of HT_.out (by kernel_rfl)) (fun _ _ _ h=>h) (Or.inl ⟨by rfl,?_⟩) ?_ ?_
                  rotate_left
                  ·intro w'
                   go_simp
                   with_reducible rfl
                  rotate_left
                  ·simp only[Act.put,List.setIfInBounds_toArray,List.set_cons_zero,List.set_cons_succ,i64_w,i32_w]
                   rfl
                  refine pure_ (i:=1) (N:=some 74) (v:=?_) (a':=?_) #[true,true,false,false,false,false,false,false,false,false,false,false,false,false] rfl rfl (any_of HT_.out (by kernel_rfl)) (fun _ _ _ h=>h) (Or.inl ⟨by rfl,?_⟩) ?_ ?_
                  rotate_left
                  ·intro w'
                   go_simp
                   with_reducible rfl
                  rotate_left
                  ·simp only[Act.put,List.setIfInBounds_toArray,List.set_cons_zero,List.set_cons_succ,i64_w,i32_w]
                   rfl
                  refine pure_ (i:=2) (N:=some 75) (v:=?_) (a':=?_) #[true,true,true,false,false,false,false,false,false,false,false,false,false,false] rfl rfl (any_of HT_.out (by kernel_rfl)) (fun _ _ _ h=>h) (Or.inl ⟨by rfl,?_⟩) ?_ ?_
                  rotate_left
                  ·intro w'
                   go_simp
                   with_reducible rfl
                  rotate_left
                  ·simp only[Act.put,List.setIfInBounds_toArray,List.set_cons_zero,List.set_cons_succ,i64_w,i32_w]
                   rfl
                  refine pure_ (i:=4) (N:=some 77) (v:=?_) (a':=?_) #[true,true,true,false,true,false,false,false,false,false,false,false,false,false] rfl rfl (any_of HT_.out (by kernel_rfl)) (fun _ _ _ h=>h) (Or.inl ⟨by rfl,?_⟩) ?_ ?_
                  rotate_left
                  ·intro w'
                   go_simp
                   with_reducible rfl
                  rotate_left
                  ·simp only[Act.put,List.setIfInBounds_toArray,List.set_cons_zero,List.set_cons_succ,i64_w,i32_w]
                   rfl
                  refine pure_ (i:=5) (N:=some 78) (v:=?_) (a':=?_) #[true,true,true,false,true,true,false,false,false,false,false,false,false,false] rfl rfl (any_of HT_.out (by kernel_rfl)) (fun _ _ _ h=>h) (Or.inl ⟨by rfl,?_⟩) ?_ ?_
                  rotate_left
                  ·intro w'
                   go_simp
                   with_reducible rfl
                  rotate_left
                  ·simp only[Act.put,List.setIfInBounds_toArray,List.set_cons_zero,List.set_cons_succ,i64_w,i32_w]
                   rfl
                  refine pure_ (i:=6) (N:=some 79) (v:=?_) (a':=?_) #[true,true,true,false,true,true,true,false,false,false,false,false,false,false] rfl rfl (any_of HT_.out (by kernel_rfl)) (fun _ _ _ h=>h) (Or.inl ⟨by rfl,?_⟩) ?_ ?_
                  rotate_left
                  ·intro w'
                   go_simp
                   with_reducible rfl
                  rotate_left
                  ·simp only[Act.put,List.setIfInBounds_toArray,List.set_cons_zero,List.set_cons_succ,i64_w,i32_w]
                   rfl
                  refine take_ (i:=3) (N:=some 76) (v:=?_) (a':=?_) #[true,true,true,true,true,true,true,false,false,false,false,false,false,false] rfl rfl (take_ofW HT_.out HW_.out (by kernel_rfl)) (fun _ _ _ h=>h) (Or.inl ⟨by rfl,?_⟩) hHeld ?_ ?_
                  rotate_left
                  ·rintro w' ⟨s0,s1,s2,s3,s4,s5,s6⟩
                   go_simp
                   with_reducible rfl
                  rotate_left
                  ·simp only[Act.put,List.setIfInBounds_toArray,List.set_cons_zero,List.set_cons_succ,i64_w,i32_w]
                   rfl
                  refine take_ (i:=7) (N:=some 80) (v:=?_) (a':=?_) #[true,true,true,true,true,true,true,true,false,false,false,false,false,false] rfl rfl (take_ofW HT_.out HW_.out (by kernel_rfl)) (fun _ _ _ h=>h) (Or.inl ⟨by rfl,?_⟩) hHeld ?_ ?_
                  rotate_left
                  ·rintro w' ⟨s0,s1,s2,s3,s4,s5,s6⟩
                   go_simp
                   with_reducible rfl
                  rotate_left
                  ·simp only[Act.put,List.setIfInBounds_toArray,List.set_cons_zero,List.set_cons_succ,i64_w,i32_w]
                   rfl
                  refine pure_ (i:=8) (N:=some 81) (v:=?_) (a':=?_) #[true,true,true,true,true,true,true,true,true,false,false,false,false,false] rfl rfl (any_of HT_.out (by kernel_rfl)) (fun _ _ _ h=>h) (Or.inl ⟨by rfl,?_⟩) ?_ ?_
                  rotate_left
                  ·intro w'
                   go_simp
                   with_reducible rfl
                  rotate_left
                  ·simp only[Act.put,List.setIfInBounds_toArray,List.set_cons_zero,List.set_cons_succ,i64_w,i32_w]
                   rfl
                  refine take_ (i:=9) (N:=some 82) (v:=?_) (a':=?_) #[true,true,true,true,true,true,true,true,true,true,false,false,false,false] rfl rfl (take_ofW HT_.out HW_.out (by kernel_rfl)) (fun _ _ _ h=>h) (Or.inl ⟨by rfl,?_⟩) hHeld ?_ ?_
                  rotate_left
                  ·rintro w' ⟨s0,s1,s2,s3,s4,s5,s6⟩
                   go_simp
                   with_reducible rfl
                  rotate_left
                  ·simp only[Act.put,List.setIfInBounds_toArray,List.set_cons_zero,List.set_cons_succ,i64_w,i32_w]
                   rfl
                  refine pure_ (i:=10) (N:=some 83) (v:=?_) (a':=?_) #[true,true,true,true,true,true,true,true,true,true,true,false,false,false] rfl rfl (any_of HT_.out (by kernel_rfl)) (fun _ _ _ h=>h) (Or.inl ⟨by rfl,?_⟩) ?_ ?_
                  rotate_left
                  ·intro w'
                   go_simp
                   with_reducible rfl
                  rotate_left
                  ·simp only[Act.put,List.setIfInBounds_toArray,List.set_cons_zero,List.set_cons_succ,i64_w,i32_w]
                   rfl
                  refine pure_ (i:=11) (N:=some 84) (v:=?_) (a':=?_) #[true,true,true,true,true,true,true,true,true,true,true,true,false,false] rfl rfl (any_of HT_.out (by kernel_rfl)) (fun _ _ _ h=>h) (Or.inl ⟨by rfl,?_⟩) ?_ ?_
                  rotate_left
                  ·intro w'
                   go_simp
                   with_reducible rfl
                  rotate_left
                  ·simp only[Act.put,List.setIfInBounds_toArray,List.set_cons_zero,List.set_cons_succ,i64_w,i32_w]
                   rfl
                  refine pure_ (i:=12) (N:=some 85) (v:=?_) (a':=?_) #[true,true,true,true,true,true,true,true,true,true,true,true,true,false] rfl rfl (any_of HT_.out (by kernel_rfl)) (fun _ _ _ h=>h) (Or.inl ⟨by rfl,?_⟩) ?_ ?_
                  rotate_left
                  ·intro w'
                   go_simp
                   with_reducible rfl
                  rotate_left
                  ·simp only[Act.put,List.setIfInBounds_toArray,List.set_cons_zero,List.set_cons_succ,i64_w,i32_w]
                   rfl
                  refine last_ (i:=13) (N:=none) #[true,true,true,true,true,true,true,true,true,true,true,true,true,true] rfl rfl (one_of HT_.out (by kernel_rfl)) (by decide) (fun K hK => ?_)
                  refine skip_ (w1:=?_) (by rfl) rfl ?_ ?_
                  rotate_left
                  ·go_simp
                   rfl
                  refine hK.out _ _ ?_
                  clear hK K
                  refine done_ (done_of HT_.out (by kernel_rfl)) ?_
                  have n0_:Aside0 (Kd.R (Kd.int .i64) 3 (w48.setCell ⟨go22,(x19_1:Int).toNat * 3+2,none⟩ (.int .i64 (wrap64 (((rd_T116 y288 x19_1).f2)+(rd ((rd_T116 y288 x19_1).f0) 0))))) w.heap.size (fun k_=>(w.heap.size≤k_)) u6 x6_2):=⟨by(with_reducible repeat (first|apply Kd.R_alloc|apply Kd.R_drewN|apply Kd.R_drew));exact Kd.R_mono (Kd.R_far (p:=⟨go22,(x19_1:Int).toNat * 3+2,none⟩) (Kd.R_types HO_6.out (by first|exact GG22.out|exact(Kd.N_typed HO_278001.out _ rfl).choose_spec) (by decide)) (fun _ hk=>hk.2) (.int .i64 (wrap64 (((rd_T116 y288 x19_1).f2)+(rd ((rd_T116 y288 x19_1).f0) 0))))) (fun _ hk=>hk.1)⟩
                  have n1_:Aside0 (Kd.N k116 116 (w48.setCell ⟨go22,(x19_1:Int).toNat * 3+2,none⟩ (.int .i64 (wrap64 (((rd_T116 y288 x19_1).f2)+(rd ((rd_T116 y288 x19_1).f0) 0))))) w.heap.size (fun k_=>(w.heap.size≤k_)∧some k_≠(u6:Value).ownBlock∧k_≠gb266∧k_≠gb267∧k_≠gb277) (.slice (some ⟨go22,0,none⟩) x278001_2.length co18) y292):=⟨by(with_reducible repeat (first|apply Kd.N_alloc|apply Kd.N_drewN|apply Kd.N_drew));exact HQ49.out⟩
                  have n2_:Aside0 (Kd.V (Kd.int .i64) 3 (w48.setCell ⟨go22,(x19_1:Int).toNat * 3+2,none⟩ (.int .i64 (wrap64 (((rd_T116 y288 x19_1).f2)+(rd ((rd_T116 y288 x19_1).f0) 0))))) w.heap.size (fun k_=>(w.heap.size≤k_)∧some k_≠(u6:Value).ownBlock∧some k_≠(.slice (some ⟨go22,0,none⟩) x278001_2.length co18:Value).ownBlock∧k_≠gb266∧k_≠gb267∧k_≠gb277) (.slice (some ad283) ((rd_T116 x278001_2 x19_1).f0).length c281_0) ((rd_T116 x278001_2 x19_1).f0)):=⟨by(with_reducible repeat (first|apply Kd.V_alloc|apply Kd.V_drewN|apply Kd.V_drew));exact Kd.V_mono (Kd.V_far (p:=⟨go22,(x19_1:Int).toNat * 3+2,none⟩) (Kd.V_mono HL281_0.out (fun k_ hk=>(⟨hk,fun e_=>hk.2.2.1 (by rw[e_];rfl)⟩:_∧k_≠go22))) (fun _ hk=>hk.2) (.int .i64 (wrap64 (((rd_T116 y288 x19_1).f2)+(rd ((rd_T116 y288 x19_1).f0) 0))))) (fun _ hk=>⟨hk.1.1,⟨hk.1.2.1,⟨hk.1.2.2.1,⟨hk.1.2.2.2.1,⟨hk.1.2.2.2.2.1,hk.1.2.2.2.2.2⟩⟩⟩⟩⟩)⟩
                  have n3_:Aside0 (Kd.V (Kd.int .i64) 3 (w48.setCell ⟨go22,(x19_1:Int).toNat * 3+2,none⟩ (.int .i64 (wrap64 (((rd_T116 y288 x19_1).f2)+(rd ((rd_T116 y288 x19_1).f0) 0))))) w.heap.size (fun k_=>(w.heap.size≤k_)∧some k_≠(u6:Value).ownBlock∧some k_≠(.slice (some ⟨go22,0,none⟩) x278001_2.length co18:Value).ownBlock∧k_≠gb266∧k_≠gb267∧k_≠gb277) (.slice (some ad283) ((rd_T116 x278001_2 x19_1).f0).length c281_0) ((rd_T116 x278001_2 x19_1).f0)):=⟨by(with_reducible repeat (first|apply Kd.V_alloc|apply Kd.V_drewN|apply Kd.V_drew));exact Kd.V_mono (Kd.V_far (p:=⟨go22,(x19_1:Int).toNat * 3+2,none⟩) (Kd.V_mono HL282_0.out (fun k_ hk=>(⟨hk,fun e_=>hk.2.2.1 (by rw[e_];rfl)⟩:_∧k_≠go22))) (fun _ hk=>hk.2) (.int .i64 (wrap64 (((rd_T116 y288 x19_1).f2)+(rd ((rd_T116 y288 x19_1).f0) 0))))) (fun _ hk=>⟨hk.1.1,⟨hk.1.2.1,⟨hk.1.2.2.1,⟨hk.1.2.2.2.1,⟨hk.1.2.2.2.2.1,hk.1.2.2.2.2.2⟩⟩⟩⟩⟩)⟩
                  have n4_:Aside0 (Kd.V (Kd.int .i64) 3 (w48.setCell ⟨go22,(x19_1:Int).toNat * 3+2,none⟩ (.int .i64 (wrap64 (((rd_T116 y288 x19_1).f2)+(rd ((rd_T116 y288 x19_1).f0) 0))))) w.heap.size (fun k_=>(w.heap.size≤k_)∧some k_≠(u6:Value).ownBlock∧some k_≠(.slice (some ⟨go22,0,none⟩) x278001_2.length co18:Value).ownBlock∧k_≠gb266∧k_≠gb267∧k_≠gb277) (.slice (some ad283) ((rd_T116 x278001_2 x19_1).f0).length c281_0) ((rd_T116 x278001_2 x19_1).f0)):=⟨by(with_reducible repeat (first|apply Kd.V_alloc|apply Kd.V_drewN|apply Kd.V_drew));exact Kd.V_mono (Kd.V_far (p:=⟨go22,(x19_1:Int).toNat * 3+2,none⟩) (Kd.V_mono HL284_0.out (fun k_ hk=>(⟨hk,fun e_=>hk.2.2.1 (by rw[e_];rfl)⟩:_∧k_≠go22))) (fun _ hk=>hk.2) (.int .i64 (wrap64 (((rd_T116 y288 x19_1).f2)+(rd ((rd_T116 y288 x19_1).f0) 0))))) (fun _ hk=>⟨hk.1.1,⟨hk.1.2.1,⟨hk.1.2.2.1,⟨hk.1.2.2.2.1,⟨hk.1.2.2.2.2.1,hk.1.2.2.2.2.2⟩⟩⟩⟩⟩)⟩
                  have n5_:Aside0 (Kd.V (Kd.int .i64) 3 (w48.setCell ⟨go22,(x19_1:Int).toNat * 3+2,none⟩ (.int .i64 (wrap64 (((rd_T116 y288 x19_1).f2)+(rd ((rd_T116 y288 x19_1).f0) 0))))) w.heap.size (fun k_=>(w.heap.size≤k_)∧some k_≠(u6:Value).ownBlock∧some k_≠(.slice (some ⟨go22,0,none⟩) x278001_2.length co18:Value).ownBlock∧k_≠gb266∧k_≠gb267∧k_≠gb277) (.slice (some ad287) ((rd_T116 x278001_2 x19_1).f0).length c285_0) ((rd_T116 x278001_2 x19_1).f0)):=⟨by(with_reducible repeat (first|apply Kd.V_alloc|apply Kd.V_drewN|apply Kd.V_drew));exact Kd.V_mono (Kd.V_far (p:=⟨go22,(x19_1:Int).toNat * 3+2,none⟩) (Kd.V_mono HL285_0.out (fun k_ hk=>(⟨hk,fun e_=>hk.2.2.1 (by rw[e_];rfl)⟩:_∧k_≠go22))) (fun _ hk=>hk.2) (.int .i64 (wrap64 (((rd_T116 y288 x19_1).f2)+(rd ((rd_T116 y288 x19_1).f0) 0))))) (fun _ hk=>⟨hk.1.1,⟨hk.1.2.1,⟨hk.1.2.2.1,⟨hk.1.2.2.2.1,⟨hk.1.2.2.2.2.1,hk.1.2.2.2.2.2⟩⟩⟩⟩⟩)⟩
                  have n6_:Aside0 (Kd.V (Kd.int .i64) 3 (w48.setCell ⟨go22,(x19_1:Int).toNat * 3+2,none⟩ (.int .i64 (wrap64 (((rd_T116 y288 x19_1).f2)+(rd ((rd_T116 y288 x19_1).f0) 0))))) w.heap.size (fun k_=>(w.heap.size≤k_)∧some k_≠(u6:Value).ownBlock∧some k_≠(.slice (some ⟨go22,0,none⟩) x278001_2.length co18:Value).ownBlock∧k_≠gb266∧k_≠gb267∧k_≠gb277) (.slice (some ad287) ((rd_T116 x278001_2 x19_1).f0).length c285_0) ((rd_T116 x278001_2 x19_1).f0)):=⟨by(with_reducible repeat (first|apply Kd.V_alloc|apply Kd.V_drewN|apply Kd.V_drew));exact Kd.V_mono (Kd.V_far (p:=⟨go22,(x19_1:Int).toNat * 3+2,none⟩) (Kd.V_mono HL286_0.out (fun k_ hk=>(⟨hk,fun e_=>hk.2.2.1 (by rw[e_];rfl)⟩:_∧k_≠go22))) (fun _ hk=>hk.2) (.int .i64 (wrap64 (((rd_T116 y288 x19_1).f2)+(rd ((rd_T116 y288 x19_1).f0) 0))))) (fun _ hk=>⟨hk.1.1,⟨hk.1.2.1,⟨hk.1.2.2.1,⟨hk.1.2.2.2.1,⟨hk.1.2.2.2.2.1,hk.1.2.2.2.2.2⟩⟩⟩⟩⟩)⟩
                  have n7_:Aside0 (Kd.V (Kd.int .i64) 3 (w48.setCell ⟨go22,(x19_1:Int).toNat * 3+2,none⟩ (.int .i64 (wrap64 (((rd_T116 y288 x19_1).f2)+(rd ((rd_T116 y288 x19_1).f0) 0))))) w.heap.size (fun k_=>(w.heap.size≤k_)∧some k_≠(u6:Value).ownBlock∧some k_≠(.slice (some ⟨go22,0,none⟩) x278001_2.length co18:Value).ownBlock∧k_≠gb266∧k_≠gb267∧k_≠gb277) (.slice (some ad291) ((rd_T116 y288 x19_1).f0).length c289_0) ((rd_T116 y288 x19_1).f0)):=⟨by(with_reducible repeat (first|apply Kd.V_alloc|apply Kd.V_drewN|apply Kd.V_drew));exact Kd.V_mono (Kd.V_far (p:=⟨go22,(x19_1:Int).toNat * 3+2,none⟩) (Kd.V_mono HL289_0.out (fun k_ hk=>(⟨hk,fun e_=>hk.2 (by rw[e_];rfl)⟩:_∧k_≠go22))) (fun _ hk=>hk.2) (.int .i64 (wrap64 (((rd_T116 y288 x19_1).f2)+(rd ((rd_T116 y288 x19_1).f0) 0))))) (fun _ hk=>⟨hk.1.1.1,⟨hk.1.1.2.1,⟨hk.1.2,⟨hk.1.1.2.2.1,⟨hk.1.1.2.2.2.1,hk.1.1.2.2.2.2⟩⟩⟩⟩⟩)⟩
                  have n8_:Aside0 (Kd.V (Kd.int .i64) 3 (w48.setCell ⟨go22,(x19_1:Int).toNat * 3+2,none⟩ (.int .i64 (wrap64 (((rd_T116 y288 x19_1).f2)+(rd ((rd_T116 y288 x19_1).f0) 0))))) w.heap.size (fun k_=>(w.heap.size≤k_)∧some k_≠(u6:Value).ownBlock∧some k_≠(.slice (some ⟨go22,0,none⟩) x278001_2.length co18:Value).ownBlock∧k_≠gb266∧k_≠gb267∧k_≠gb277) (.slice (some ad291) ((rd_T116 y288 x19_1).f0).length c289_0) ((rd_T116 y288 x19_1).f0)):=⟨by(with_reducible repeat (first|apply Kd.V_alloc|apply Kd.V_drewN|apply Kd.V_drew));exact Kd.V_mono (Kd.V_far (p:=⟨go22,(x19_1:Int).toNat * 3+2,none⟩) (Kd.V_mono HL290_0.out (fun k_ hk=>(⟨hk,fun e_=>hk.2 (by rw[e_];rfl)⟩:_∧k_≠go22))) (fun _ hk=>hk.2) (.int .i64 (wrap64 (((rd_T116 y288 x19_1).f2)+(rd ((rd_T116 y288 x19_1).f0) 0))))) (fun _ hk=>⟨hk.1.1.1,⟨hk.1.1.2.1,⟨hk.1.2,⟨hk.1.1.2.2.1,⟨hk.1.1.2.2.2.1,hk.1.1.2.2.2.2⟩⟩⟩⟩⟩)⟩
                  have n9_:Aside0 ((w48.setCell ⟨go22,(x19_1:Int).toNat * 3+2,none⟩ (.int .i64 (wrap64 (((rd_T116 y288 x19_1).f2)+(rd ((rd_T116 y288 x19_1).f0) 0))))).heap[gb266]?=some (.cells #[.int .i64 a0_0,.slice A0_1 l0_1.length c0_1,.int .i64 a0_2] 28 (0,0))):=⟨by(with_reducible repeat (first|refine blk_drewN ?_ _|refine blk_drew ?_|refine blk_alloc ?_ _));refine blk_far ?_ (by have h_:=Kd.N_away HO_278001.out (fun _ hk=>hk.2.2.1);intro e_;exact h_ (by rw[e_];rfl)) _;(with_reducible repeat (first|refine blk_drewN ?_ _|refine blk_drew ?_|refine blk_alloc ?_ _));exact BK266.out⟩
                  have n10_:Aside0 ((w48.setCell ⟨go22,(x19_1:Int).toNat * 3+2,none⟩ (.int .i64 (wrap64 (((rd_T116 y288 x19_1).f2)+(rd ((rd_T116 y288 x19_1).f0) 0))))).heap[gb267]?=some (.cells #[.int .i64 0,.slice none 0 0,.int .i64 0] 28 (0,0))):=⟨by(with_reducible repeat (first|refine blk_drewN ?_ _|refine blk_drew ?_|refine blk_alloc ?_ _));refine blk_far ?_ (by have h_:=Kd.N_away HO_278001.out (fun _ hk=>hk.2.2.2.1);intro e_;exact h_ (by rw[e_];rfl)) _;(with_reducible repeat (first|refine blk_drewN ?_ _|refine blk_drew ?_|refine blk_alloc ?_ _));exact BK267.out⟩
                  have n11_:Aside0 ((w48.setCell ⟨go22,(x19_1:Int).toNat * 3+2,none⟩ (.int .i64 (wrap64 (((rd_T116 y288 x19_1).f2)+(rd ((rd_T116 y288 x19_1).f0) 0))))).heap[gb277]?=some (.cells #[.int .i64 t269,.slice (some ⟨go22,0,none⟩) x278001_2.length co18,.int .i64 t273] 28 (0,0))):=⟨by(with_reducible repeat (first|refine blk_drewN ?_ _|refine blk_drew ?_|refine blk_alloc ?_ _));refine blk_far ?_ (by have h_:=Kd.N_away HO_278001.out (fun _ hk=>hk.2.2.2.2);intro e_;exact h_ (by rw[e_];rfl)) _;(with_reducible repeat (first|refine blk_drewN ?_ _|refine blk_drew ?_|refine blk_alloc ?_ _));exact BK277.out⟩
                  have n12_:Aside0 (Below w.heap.size w (w48.setCell ⟨go22,(x19_1:Int).toNat * 3+2,none⟩ (.int .i64 (wrap64 (((rd_T116 y288 x19_1).f2)+(rd ((rd_T116 y288 x19_1).f0) 0)))))):=⟨bS4 GB22.out GE266.out GE267.out GE277.out⟩
                  (try clear HO_6)
                  (try clear HO_278001)
                  (try clear HL281_0)
                  (try clear HL282_0)
                  (try clear HL284_0)
                  (try clear HL285_0)
                  (try clear HL286_0)
                  (try clear HL289_0)
                  (try clear HL290_0)
                  (try clear BK266)
                  (try clear BK267)
                  (try clear BK277)
                  (try clear HB)
                  generalize (w48.setCell ⟨go22,(x19_1:Int).toNat * 3+2,none⟩ (.int .i64 (wrap64 (((rd_T116 y288 x19_1).f2)+(rd ((rd_T116 y288 x19_1).f0) 0)))))=w50 at n0_ n1_ n2_ n3_ n4_ n5_ n6_ n7_ n8_ n9_ n10_ n11_ n12_ ⊢
                  have HO_6:=n0_
                  have HO_278001:=n1_
                  have HL281_0:=n2_
                  have HL282_0:=n3_
                  have HL284_0:=n4_
                  have HL285_0:=n5_
                  have HL286_0:=n6_
                  have HL289_0:=n7_
                  have HL290_0:=n8_
                  have BK266:=n9_
                  have BK267:=n10_
                  have BK277:=n11_
                  have HB:=n12_
                  clear n0_ n1_ n2_ n3_ n4_ n5_ n6_ n7_ n8_ n9_ n10_ n11_ n12_
                  have p293:0≤(x19_1:Int):=of_decide_eq_true (bD)
                  have q293:x19_1 < (y292.length:Int):=(by have h_:(x19_1:Int) < ((x278001_2.length:Int):Int):=of_decide_eq_true (bD);first|(have e_:=(Kd.N_reads' HO_278001.out).1;omega)|simpa only[Ny288.out,Ny292.out,List.length_set] using h_)
                  have ql293:((x19_1:Int) < ((x278001_2.length:Int):Int))=True:=eq_true (of_decide_eq_true (bD))
                  obtain⟨ad293,A293_0,c293_0,e293,hx293_0,hx293_1,hx293_2,hl293_0,hi293_0⟩:=at_T116 (Kd.N_reads' HO_278001.out).2.2 x19_1 p293 q293
                  obtain rfl:(⟨go22,0,none⟩:Addr)=ad293:=(by injection e293)
                  obtain⟨ce293,hce293,hMe293,hcc293⟩:=Kd.N_get HO_278001.out z116 x19_1 p293 (by first|exact q293|exact of_decide_eq_true (bD)|(have e_:=(Kd.N_reads' HO_278001.out).1;omega))
                  obtain⟨ua293_0,uc293_0,rfl,ul293_0,ge293_0⟩:=k116_openF hMe293
                  have hv293_0:=hcc293 0 _ rfl
                  rw[Nat.add_zero] at hv293_0
                  replace hv293_0:=Option.some.inj (hv293_0.symm.trans hx293_0)
                  injection hv293_0 with hva_ hvn_ hvc_
                  rw[hva_] at ge293_0
                  rw[hvc_] at ul293_0
                  have HL293_0:=Aside0.mk (show Kd.V (Kd.int .i64) 3 _ w.heap.size _ _ ((rd_T116 y292 x19_1).f0) from Kd.V_mk ul293_0 ge293_0)
                  clear hva_ hvn_ hvc_ ge293_0 ul293_0 hcc293 hce293
                  (first|simp only[add_plain] at hx293_0|simp only[add_at] at hx293_0|simp only[Addr.add,Nat.zero_add] at hx293_0|skip)
                  (first|simp only[add_plain] at hx293_1|simp only[add_at] at hx293_1|simp only[Addr.add,Nat.zero_add] at hx293_1|skip)
                  (first|simp only[add_plain] at hx293_2|simp only[add_at] at hx293_2|simp only[Addr.add,Nat.zero_add] at hx293_2|skip)
                  have HR293_0:=Aside0.mk hi293_0
                  have HC293_0:=Aside0.mk hl293_0
                  clear hi293_0 hl293_0
                  replace p293:=eq_true p293
                  replace q293:=eq_true q293
                  have q51:(1:Int)≤((((rd_T116 y292 x19_1).f0).length:Int):Int):=of_decide_eq_true (bD)
                  obtain⟨i051,hi051,_,hsz51,_⟩:=info_parts info3
                  have hroom51:((rd_T116 y292 x19_1).f0).length≤c293_0:=HC293_0.out
                  have hC51:Kd.F (Kd.int .i64) _ _ A293_0 ((rd_T116 y292 x19_1).f0).length ((rd_T116 y292 x19_1).f0):=(Kd.V_at (base:=w.heap.size) HL293_0.out).2.2
                  have hcut51:=cut_from (P:=Try.prog) 37 3 .i64 Try.underlying37 hi051 1 hsz51 A293_0 ((rd_T116 y292 x19_1).f0).length c293_0 1 (by omega) q51
                  have hr51:=Kd.F_cut (m:=(1:Int).toNat) (c:=c293_0) hC51 (by omega) hroom51
                  obtain⟨A51,hA51⟩ : ∃ A1,A1=(if c293_0=(1:Int).toNat then A293_0 else (A293_0:Option Addr).map (·.add ((1:Int).toNat * 1))):=⟨_,rfl⟩
                  obtain⟨c51,hc51⟩ : ∃ c1,c1=c293_0 - (1:Int).toNat:=⟨_,rfl⟩
                  have hy51:y294.length=((rd_T116 y292 x19_1).f0).length - (1:Int).toNat:=(by rw[Ny294.out,List.length_drop]<;>omega)
                  rw[show((rd_T116 y292 x19_1).f0).drop (1:Int).toNat=y294 from Ny294.out.symm] at hr51
                  replace hr51:Kd.F (Kd.int .i64) _ _ A51 y294.length y294:=(by rw[hA51];exact hr51)
                  rw[← hy51,← hA51,← hc51] at hcut51
                  have HO298:=Aside0.mk (show Kd.V (Kd.int .i64) 3 _ w.heap.size _ (.slice A51 y294.length c51) y294 from Kd.V_mk (by rw[hy51,hc51];exact Nat.sub_le_sub_right hroom51 _) hr51)
                  have HC298:=Aside0.mk (show y294.length≤c51 from by rw[hy51,hc51];exact Nat.sub_le_sub_right hroom51 _)
                  clear hr51 hC51 hroom51 hi051 hsz51 hc51
                  have KY51:=Aside0.mk hy51
                  have KA51:=Aside0.mk hA51
                  clear hy51 hA51
                  replace q51:=eq_true q51
                  have p42:0≤(x19_1:Int):=of_decide_eq_true (bD)
                  have q42:(x19_1:Int) < ((x278001_2.length:Int):Int):=of_decide_eq_true (bD)
                  replace p42:=eq_true p42
                  replace q42:=eq_true q42
                  have HX52:=Aside0.mk (show Kd.N k116 116 w50 w.heap.size (fun k_=>(w.heap.size≤k_)∧some k_≠(u6:Value).ownBlock∧k_≠gb266∧k_≠gb267∧k_≠gb277) (.slice (some ⟨go22,0,none⟩) x278001_2.length co18) y292 from (by(with_reducible repeat (first|apply Kd.N_alloc|apply Kd.N_drewN|apply Kd.N_drew));exact HO_278001.out))
                  obtain⟨ce52,hcl52,hM52,hcc52,hfr52⟩:=Kd.N_elem HX52.out z116 (x19_1:Int) (of_decide_eq_true (bD)) (by have h_:(x19_1:Int) < ((x278001_2.length:Int):Int):=of_decide_eq_true (bD);first|exact h_|(have e_:=(Kd.N_reads' HO_278001.out).1;omega)|simpa using h_)
                  obtain⟨ua52_0,uc52_0,rfl,ul52_0,ge52_0⟩:=k116_openF hM52
                  have HP52:=Kd.N_seg HX52.out (x19_1:Int) (of_decide_eq_true (bD)) (by have h_:(x19_1:Int) < ((x278001_2.length:Int):Int):=of_decide_eq_true (bD);first|exact h_|(have e_:=(Kd.N_reads' HO_278001.out).1;omega)|simpa using h_) (seg:=[.slice A51 y294.length c51]) (j:=0) hcl52 hcc52 (show 1≤3 from by decide) (x':=(⟨y294,(rd_T116 y292 x19_1).f1,(rd_T116 y292 x19_1).f2⟩:S116)) (k116_mkF _ _ (⟨y294,(rd_T116 y292 x19_1).f1,(rd_T116 y292 x19_1).f2⟩:S116) (Kd.V_reads' (Kd.V_mono (ok':=(fun k_=>((fun k_=>(w.heap.size≤k_)∧some k_≠(u6:Value).ownBlock∧k_≠gb266∧k_≠gb267∧k_≠gb277)) k_∧k_≠go22)) (HO298.out) (fun k_ hk=>⟨⟨hk.1.1,⟨hk.1.2.1,⟨hk.1.2.2.1,⟨hk.1.2.2.2.1,hk.1.2.2.2.2⟩⟩⟩⟩,fun e_=>(hk.2) (by rw[e_];rfl)⟩))).2.1 (Kd.V_F (Kd.V_mono (ok':=(fun k_=>((fun k_=>(w.heap.size≤k_)∧some k_≠(u6:Value).ownBlock∧k_≠gb266∧k_≠gb267∧k_≠gb277)) k_∧k_≠go22)) (HO298.out) (fun k_ hk=>⟨⟨hk.1.1,⟨hk.1.2.1,⟨hk.1.2.2.1,⟨hk.1.2.2.2.1,hk.1.2.2.2.2⟩⟩⟩⟩,fun e_=>(hk.2) (by rw[e_];rfl)⟩)))) (fun _ hk=>hk)
                  have hx52_0:=hcc52 0 _ rfl
                  (try simp only[show(k116).sz=3 from rfl,Nat.mul_one,Nat.add_zero] at hx52_0)
                  have hf52_0:=hfr52 0
                  (try simp only[show(k116).sz=3 from rfl,Nat.mul_one,Nat.add_zero] at hf52_0)
                  clear hcl52 hcc52 hfr52 hM52
                  try go_wp2_with (first|((with_reducible refine gate_store (t:=37) (p:=93) rfl ?_);refine store_event (t:=37) (p:=93) (v:=?vo_w53) (w1:=(w50.setCell ⟨go22,(x19_1:Int).toNat * 3,none⟩ (.slice A51 y294.length c51))) ?hg ?ho ?hn ?hr ?_;(case ho=>rfl);(case hg=>rfl);(case hn=>rfl);(case hr=>(try (obtain⟨Aq_,cq_,eq_⟩:=Kd.V_slice HO298.out;subst eq_));first|(go_simp;done)|(go_simp;rfl));intro w53 hw;have hg:w50.grownBy w53 (some go22):=(by rw[hw];exact HP52.2);have hp_:Kd.N k116 116 w53 w.heap.size (fun k_=>(w.heap.size≤k_)∧some k_≠(u6:Value).ownBlock∧k_≠gb266∧k_≠gb267∧k_≠gb277) (.slice (some ⟨go22,0,none⟩) x278001_2.length co18) y299:=(by rw[hw,Ny299.out];exact HP52.1);clear HP52;have n0_:=Aside0.mk (Kd.R_over' (v:=(.slice (some ⟨go22,0,none⟩) x278001_2.length co18)) (bK HO_6.out) (Kd.N_typed HO_278001.out) (by decide) hg);have n1_:=Aside0.mk (hp_);have n2_:=Aside0.mk (blk_grown (g:=gb266) (o:=.cells #[.int .i64 a0_0,.slice A0_1 l0_1.length c0_1,.int .i64 a0_2] 28 (0,0)) (bL BK266.out) hg (Kd.N_ne HO_278001.out BK266.out (by decide)));have n3_:=Aside0.mk (blk_grown (g:=gb267) (o:=.cells #[.int .i64 0,.slice none 0 0,.int .i64 0] 28 (0,0)) (bL BK267.out) hg (Kd.N_ne HO_278001.out BK267.out (by decide)));have n4_:=Aside0.mk (blk_grown (g:=gb277) (o:=.cells #[.int .i64 t269,.slice (some ⟨go22,0,none⟩) x278001_2.length co18,.int .i64 t273] 28 (0,0)) (bL BK277.out) hg (Kd.N_ne HO_278001.out BK277.out (by decide)));have n5_:=Aside0.mk (Kd.V_afterv (v:=(.slice (some ⟨go22,0,none⟩) x278001_2.length co18)) (v1:=(.slice (some ⟨go22,0,none⟩) x278001_2.length co18)) (ok:=(fun k_=>(w.heap.size≤k_)∧some k_≠(u6:Value).ownBlock∧k_≠gb266∧k_≠gb267∧k_≠gb277)) (by(with_reducible repeat (first|apply Kd.V_alloc|apply Kd.V_drewN|apply Kd.V_drew));exact Kd.V_mono HL281_0.out (fun _ hk=>⟨⟨hk.1,⟨hk.2.1,⟨hk.2.2.2.1,⟨hk.2.2.2.2.1,hk.2.2.2.2.2⟩⟩⟩⟩,hk.2.2.1⟩)) hg (.inl rfl));have n6_:=Aside0.mk (Kd.V_afterv (v:=(.slice (some ⟨go22,0,none⟩) x278001_2.length co18)) (v1:=(.slice (some ⟨go22,0,none⟩) x278001_2.length co18)) (ok:=(fun k_=>(w.heap.size≤k_)∧some k_≠(u6:Value).ownBlock∧k_≠gb266∧k_≠gb267∧k_≠gb277)) (by(with_reducible repeat (first|apply Kd.V_alloc|apply Kd.V_drewN|apply Kd.V_drew));exact Kd.V_mono HL282_0.out (fun _ hk=>⟨⟨hk.1,⟨hk.2.1,⟨hk.2.2.2.1,⟨hk.2.2.2.2.1,hk.2.2.2.2.2⟩⟩⟩⟩,hk.2.2.1⟩)) hg (.inl rfl));have n7_:=Aside0.mk (Kd.V_afterv (v:=(.slice (some ⟨go22,0,none⟩) x278001_2.length co18)) (v1:=(.slice (some ⟨go22,0,none⟩) x278001_2.length co18)) (ok:=(fun k_=>(w.heap.size≤k_)∧some k_≠(u6:Value).ownBlock∧k_≠gb266∧k_≠gb267∧k_≠gb277)) (by(with_reducible repeat (first|apply Kd.V_alloc|apply Kd.V_drewN|apply Kd.V_drew));exact Kd.V_mono HL284_0.out (fun _ hk=>⟨⟨hk.1,⟨hk.2.1,⟨hk.2.2.2.1,⟨hk.2.2.2.2.1,hk.2.2.2.2.2⟩⟩⟩⟩,hk.2.2.1⟩)) hg (.inl rfl));have n8_:=Aside0.mk (Kd.V_afterv (v:=(.slice (some ⟨go22,0,none⟩) x278001_2.length co18)) (v1:=(.slice (some ⟨go22,0,none⟩) x278001_2.length co18)) (ok:=(fun k_=>(w.heap.size≤k_)∧some k_≠(u6:Value).ownBlock∧k_≠gb266∧k_≠gb267∧k_≠gb277)) (by(with_reducible repeat (first|apply Kd.V_alloc|apply Kd.V_drewN|apply Kd.V_drew));exact Kd.V_mono HL285_0.out (fun _ hk=>⟨⟨hk.1,⟨hk.2.1,⟨hk.2.2.2.1,⟨hk.2.2.2.2.1,hk.2.2.2.2.2⟩⟩⟩⟩,hk.2.2.1⟩)) hg (.inl rfl));have n9_:=Aside0.mk (Kd.V_afterv (v:=(.slice (some ⟨go22,0,none⟩) x278001_2.length co18)) (v1:=(.slice (some ⟨go22,0,none⟩) x278001_2.length co18)) (ok:=(fun k_=>(w.heap.size≤k_)∧some k_≠(u6:Value).ownBlock∧k_≠gb266∧k_≠gb267∧k_≠gb277)) (by(with_reducible repeat (first|apply Kd.V_alloc|apply Kd.V_drewN|apply Kd.V_drew));exact Kd.V_mono HL286_0.out (fun _ hk=>⟨⟨hk.1,⟨hk.2.1,⟨hk.2.2.2.1,⟨hk.2.2.2.2.1,hk.2.2.2.2.2⟩⟩⟩⟩,hk.2.2.1⟩)) hg (.inl rfl));have n10_:=Aside0.mk (Kd.V_afterv (v:=(.slice (some ⟨go22,0,none⟩) x278001_2.length co18)) (v1:=(.slice (some ⟨go22,0,none⟩) x278001_2.length co18)) (ok:=(fun k_=>(w.heap.size≤k_)∧some k_≠(u6:Value).ownBlock∧k_≠gb266∧k_≠gb267∧k_≠gb277)) (by(with_reducible repeat (first|apply Kd.V_alloc|apply Kd.V_drewN|apply Kd.V_drew));exact Kd.V_mono HL289_0.out (fun _ hk=>⟨⟨hk.1,⟨hk.2.1,⟨hk.2.2.2.1,⟨hk.2.2.2.2.1,hk.2.2.2.2.2⟩⟩⟩⟩,hk.2.2.1⟩)) hg (.inl rfl));have n11_:=Aside0.mk (Kd.V_afterv (v:=(.slice (some ⟨go22,0,none⟩) x278001_2.length co18)) (v1:=(.slice (some ⟨go22,0,none⟩) x278001_2.length co18)) (ok:=(fun k_=>(w.heap.size≤k_)∧some k_≠(u6:Value).ownBlock∧k_≠gb266∧k_≠gb267∧k_≠gb277)) (by(with_reducible repeat (first|apply Kd.V_alloc|apply Kd.V_drewN|apply Kd.V_drew));exact Kd.V_mono HL290_0.out (fun _ hk=>⟨⟨hk.1,⟨hk.2.1,⟨hk.2.2.2.1,⟨hk.2.2.2.2.1,hk.2.2.2.2.2⟩⟩⟩⟩,hk.2.2.1⟩)) hg (.inl rfl));have n12_:=Aside0.mk (Kd.V_afterv (v:=(.slice (some ⟨go22,0,none⟩) x278001_2.length co18)) (v1:=(.slice (some ⟨go22,0,none⟩) x278001_2.length co18)) (ok:=(fun k_=>(w.heap.size≤k_)∧some k_≠(u6:Value).ownBlock∧k_≠gb266∧k_≠gb267∧k_≠gb277)) (by(with_reducible repeat (first|apply Kd.V_alloc|apply Kd.V_drewN|apply Kd.V_drew));exact HL293_0.out) hg (.inl rfl));have n13_:=Aside0.mk (Kd.V_afterv (v:=(.slice (some ⟨go22,0,none⟩) x278001_2.length co18)) (v1:=(.slice (some ⟨go22,0,none⟩) x278001_2.length co18)) (ok:=(fun k_=>(w.heap.size≤k_)∧some k_≠(u6:Value).ownBlock∧k_≠gb266∧k_≠gb267∧k_≠gb277)) (by(with_reducible repeat (first|apply Kd.V_alloc|apply Kd.V_drewN|apply Kd.V_drew));exact HO298.out) hg (.inl rfl));have n14_:=Aside0.mk ((by rw[hw];exact below_set (HB.out) GB22.out:Below w.heap.size w w53));clear HO_6 HO_278001 BK266 BK267 BK277 HL281_0 HL282_0 HL284_0 HL285_0 HL286_0 HL289_0 HL290_0 HL293_0 HO298 HB;have HO_6:=n0_;have HO_278001:=n1_;have BK266:=n2_;have BK267:=n3_;have BK277:=n4_;have HL281_0:=n5_;have HL282_0:=n6_;have HL284_0:=n7_;have HL285_0:=n8_;have HL286_0:=n9_;have HL289_0:=n10_;have HL290_0:=n11_;have HL293_0:=n12_;have HO298:=n13_;have HB:=n14_;clear n0_ n1_ n2_ n3_ n4_ n5_ n6_ n7_ n8_ n9_ n10_ n11_ n12_ n13_ n14_;clear hg hw hp_)|((with_reducible refine gate_builtin (b:=.append) (xs:=#[.tmp 94,.tmp 96]) rfl ?_);at_builtin;refine Kd.R_append (Kd.int .i64) (w0:=w) w.heap.size rfl (.tmp 94) (.tmp 96) 37 3 (.int .i64 0) 8 rfl Try.underlying37 info3 rfl (by decide) (by omega) u6 x6_2 x19_1 [.int .i64 x19_1] (fun k_=>(w.heap.size≤k_)) (fun _=>False) rfl rfl ?aP (fun _ hk=>hk.elim) ?aF ?aO ?aB ?aS ?aL ?_;(case aP=>exact rfl);(case aB=>exact(bS3 GE266.out GE267.out GE277.out));(case aF=>exact(fun k_ hk=>(Nat.le_trans (below_size (bS3 GE266.out GE267.out GE277.out)) hk)));(case aO=>exact(bK HO_6.out));(case aS=>exact(below_size (bS3 GE266.out GE267.out GE277.out)));(case aL=>have:=LMc43.out;omega);intro v301 w54 ho hb hg hat;rw[← Ny300.out] at ho;have n0_:=Aside0.mk (Kd.N_afterv (ok:=(fun k_=>(w.heap.size≤k_)∧k_≠gb266∧k_≠gb267∧k_≠gb277)) (by(with_reducible repeat (first|apply Kd.N_alloc|apply Kd.N_drewN|apply Kd.N_drew));exact Kd.N_mono HO_278001.out (fun _ hk=>⟨⟨hk.1,⟨hk.2.2.1,⟨hk.2.2.2.1,hk.2.2.2.2⟩⟩⟩,hk.2.1⟩)) hg hat);have n1_:=Aside0.mk (blk_grown (g:=gb266) (o:=.cells #[.int .i64 a0_0,.slice A0_1 l0_1.length c0_1,.int .i64 a0_2] 28 (0,0)) (bL BK266.out) hg (Kd.R_ne HO_6.out BK266.out (by decide)));have n2_:=Aside0.mk (blk_grown (g:=gb267) (o:=.cells #[.int .i64 0,.slice none 0 0,.int .i64 0] 28 (0,0)) (bL BK267.out) hg (Kd.R_ne HO_6.out BK267.out (by decide)));have n3_:=Aside0.mk (blk_grown (g:=gb277) (o:=.cells #[.int .i64 t269,.slice (some ⟨go22,0,none⟩) x278001_2.length co18,.int .i64 t273] 28 (0,0)) (bL BK277.out) hg (Kd.R_ne HO_6.out BK277.out (by decide)));have n4_:=Aside0.mk (Kd.V_afterv (ok:=(fun k_=>(w.heap.size≤k_)∧some k_≠(.slice (some ⟨go22,0,none⟩) x278001_2.length co18:Value).ownBlock∧k_≠gb266∧k_≠gb267∧k_≠gb277)) (by(with_reducible repeat (first|apply Kd.V_alloc|apply Kd.V_drewN|apply Kd.V_drew));exact Kd.V_mono HL281_0.out (fun _ hk=>⟨⟨hk.1.1,⟨hk.2,⟨hk.1.2.2.1,⟨hk.1.2.2.2.1,hk.1.2.2.2.2⟩⟩⟩⟩,hk.1.2.1⟩)) hg hat);have n5_:=Aside0.mk (Kd.V_afterv (ok:=(fun k_=>(w.heap.size≤k_)∧some k_≠(.slice (some ⟨go22,0,none⟩) x278001_2.length co18:Value).ownBlock∧k_≠gb266∧k_≠gb267∧k_≠gb277)) (by(with_reducible repeat (first|apply Kd.V_alloc|apply Kd.V_drewN|apply Kd.V_drew));exact Kd.V_mono HL282_0.out (fun _ hk=>⟨⟨hk.1.1,⟨hk.2,⟨hk.1.2.2.1,⟨hk.1.2.2.2.1,hk.1.2.2.2.2⟩⟩⟩⟩,hk.1.2.1⟩)) hg hat);have n6_:=Aside0.mk (Kd.V_afterv (ok:=(fun k_=>(w.heap.size≤k_)∧some k_≠(.slice (some ⟨go22,0,none⟩) x278001_2.length co18:Value).ownBlock∧k_≠gb266∧k_≠gb267∧k_≠gb277)) (by(with_reducible repeat (first|apply Kd.V_alloc|apply Kd.V_drewN|apply Kd.V_drew));exact Kd.V_mono HL284_0.out (fun _ hk=>⟨⟨hk.1.1,⟨hk.2,⟨hk.1.2.2.1,⟨hk.1.2.2.2.1,hk.1.2.2.2.2⟩⟩⟩⟩,hk.1.2.1⟩)) hg hat);have n7_:=Aside0.mk (Kd.V_afterv (ok:=(fun k_=>(w.heap.size≤k_)∧some k_≠(.slice (some ⟨go22,0,none⟩) x278001_2.length co18:Value).ownBlock∧k_≠gb266∧k_≠gb267∧k_≠gb277)) (by(with_reducible repeat (first|apply Kd.V_alloc|apply Kd.V_drewN|apply Kd.V_drew));exact Kd.V_mono HL285_0.out (fun _ hk=>⟨⟨hk.1.1,⟨hk.2,⟨hk.1.2.2.1,⟨hk.1.2.2.2.1,hk.1.2.2.2.2⟩⟩⟩⟩,hk.1.2.1⟩)) hg hat);have n8_:=Aside0.mk (Kd.V_afterv (ok:=(fun k_=>(w.heap.size≤k_)∧some k_≠(.slice (some ⟨go22,0,none⟩) x278001_2.length co18:Value).ownBlock∧k_≠gb266∧k_≠gb267∧k_≠gb277)) (by(with_reducible repeat (first|apply Kd.V_alloc|apply Kd.V_drewN|apply Kd.V_drew));exact Kd.V_mono HL286_0.out (fun _ hk=>⟨⟨hk.1.1,⟨hk.2,⟨hk.1.2.2.1,⟨hk.1.2.2.2.1,hk.1.2.2.2.2⟩⟩⟩⟩,hk.1.2.1⟩)) hg hat);have n9_:=Aside0.mk (Kd.V_afterv (ok:=(fun k_=>(w.heap.size≤k_)∧some k_≠(.slice (some ⟨go22,0,none⟩) x278001_2.length co18:Value).ownBlock∧k_≠gb266∧k_≠gb267∧k_≠gb277)) (by(with_reducible repeat (first|apply Kd.V_alloc|apply Kd.V_drewN|apply Kd.V_drew));exact Kd.V_mono HL289_0.out (fun _ hk=>⟨⟨hk.1.1,⟨hk.2,⟨hk.1.2.2.1,⟨hk.1.2.2.2.1,hk.1.2.2.2.2⟩⟩⟩⟩,hk.1.2.1⟩)) hg hat);have n10_:=Aside0.mk (Kd.V_afterv (ok:=(fun k_=>(w.heap.size≤k_)∧some k_≠(.slice (some ⟨go22,0,none⟩) x278001_2.length co18:Value).ownBlock∧k_≠gb266∧k_≠gb267∧k_≠gb277)) (by(with_reducible repeat (first|apply Kd.V_alloc|apply Kd.V_drewN|apply Kd.V_drew));exact Kd.V_mono HL290_0.out (fun _ hk=>⟨⟨hk.1.1,⟨hk.2,⟨hk.1.2.2.1,⟨hk.1.2.2.2.1,hk.1.2.2.2.2⟩⟩⟩⟩,hk.1.2.1⟩)) hg hat);have n11_:=Aside0.mk (Kd.V_afterv (ok:=(fun k_=>(w.heap.size≤k_)∧some k_≠(.slice (some ⟨go22,0,none⟩) x278001_2.length co18:Value).ownBlock∧k_≠gb266∧k_≠gb267∧k_≠gb277)) (by(with_reducible repeat (first|apply Kd.V_alloc|apply Kd.V_drewN|apply Kd.V_drew));exact Kd.V_mono HL293_0.out (fun _ hk=>⟨⟨hk.1.1,⟨hk.2,⟨hk.1.2.2.1,⟨hk.1.2.2.2.1,hk.1.2.2.2.2⟩⟩⟩⟩,hk.1.2.1⟩)) hg hat);have n12_:=Aside0.mk (Kd.V_afterv (ok:=(fun k_=>(w.heap.size≤k_)∧some k_≠(.slice (some ⟨go22,0,none⟩) x278001_2.length co18:Value).ownBlock∧k_≠gb266∧k_≠gb267∧k_≠gb277)) (by(with_reducible repeat (first|apply Kd.V_alloc|apply Kd.V_drewN|apply Kd.V_drew));exact Kd.V_mono HO298.out (fun _ hk=>⟨⟨hk.1.1,⟨hk.2,⟨hk.1.2.2.1,⟨hk.1.2.2.2.1,hk.1.2.2.2.2⟩⟩⟩⟩,hk.1.2.1⟩)) hg hat);have n13_:=Aside0.mk (hb);have n14_:=Aside0.mk (ho);clear HO_278001 BK266 BK267 BK277 HL281_0 HL282_0 HL284_0 HL285_0 HL286_0 HL289_0 HL290_0 HL293_0 HO298 HB HO_6;have HO_278001:=n0_;have BK266:=n1_;have BK267:=n2_;have BK277:=n3_;have HL281_0:=n4_;have HL282_0:=n5_;have HL284_0:=n6_;have HL285_0:=n7_;have HL286_0:=n8_;have HL289_0:=n9_;have HL290_0:=n10_;have HL293_0:=n11_;have HO298:=n12_;have HB:=n13_;have HO302:=n14_;clear n0_ n1_ n2_ n3_ n4_ n5_ n6_ n7_ n8_ n9_ n10_ n11_ n12_ n13_ n14_;clear ho hb hg hat))
                  (try simp only[← hl278001_2])
                  go_roundg k2
                  case measure=>have:=HK1.out;have:=HK2.out;omega
                  case rel=>exact⟨(y300),(y299),H',⟨by have:=HK1.out;have:=HK2.out;omega⟩,⟨by(try simp only[hl278001_1]);(try simp only[hl278001_2]);(with_reducible repeat (first|apply Kd.R_alloc|apply Kd.R_drewN|apply Kd.R_drew));exact HO302.out⟩,⟨by(try simp only[hl278001_1]);(try simp only[hl278001_2]);(with_reducible repeat (first|apply Kd.N_alloc|apply Kd.N_drewN|apply Kd.N_drew));exact Kd.N_mono HO_278001.out (fun _ hk=>⟨hk.1.1,⟨hk.2,⟨hk.1.2.1,⟨hk.1.2.2.1,hk.1.2.2.2⟩⟩⟩⟩)⟩,⟨by(try simp only[hl278001_1]);(try simp only[hl278001_2]);(with_reducible repeat (first|refine blk_drewN ?_ _|refine blk_drew ?_|refine blk_alloc ?_ _));exact BK266.out⟩,⟨by(try simp only[hl278001_1]);(try simp only[hl278001_2]);(with_reducible repeat (first|refine blk_drewN ?_ _|refine blk_drew ?_|refine blk_alloc ?_ _));exact BK267.out⟩,⟨by(try simp only[hl278001_1]);(try simp only[hl278001_2]);(with_reducible repeat (first|refine blk_drewN ?_ _|refine blk_drew ?_|refine blk_alloc ?_ _));exact BK277.out⟩,⟨bS3 GE266.out GE267.out GE277.out⟩⟩
                 ·rw[if_neg c43] at H
                  exact absurd H (by simp)
                ·rw[if_neg c41] at H
                 exact absurd H (by simp)
               ·rw[if_neg c39] at H
                exact absurd H (by simp)
              ·rw[if_neg c37] at H
               have c37b0:decide ((rd ((rd_T116 x278001_2 x19_1).f0) 0)≤((rd_T116 x278001_2 x19_1).f1))=false:=decide_eq_false c37
               clear c37
               by_cases c55:(((rd_T116 x278001_2 x19_1).f0).length:Int)=0
               ·rw[if_pos c55] at H
                have c55b0:((((rd_T116 x278001_2 x19_1).f0).length:Int) == 0)=true:=beq_iff_eq.mpr c55
                have c55b1:((((rd_T116 x278001_2 x19_1).f0).length:Int) != 0)=false:=bne_eq_false_iff_eq.mpr c55
                clear c55
                obtain⟨y304,hy304⟩ : ∃ y_:List (S116),y_=(x278001_2.set (x19_1:Int).toNat (⟨(rd_T116 x278001_2 x19_1).f0,0,(rd_T116 x278001_2 x19_1).f2⟩:S116)):=⟨_,rfl⟩
                replace H:(impl_NextRound.l0 k2 x6_2 (t270.length:Int) (wrap64 (x19_1+1)) t269 y304 t273)=some (r1,r2,r3,r4,r5):=by first|(rw[hy304];with_reducible exact H)|(have H2_:=(Option.bind_some _ _).symm.trans H;rw[hy304];with_reducible exact H2_)|(have H2_:=(Option.bind_some _ _).symm.trans H;with_reducible exact H2_)|with_reducible exact H|(rw[hy304];exact H)|exact H
                have Ny304:=Aside0.mk hy304
                clear hy304
                have H':=Aside0.mk H
                clear H
                try go_wp2
                (try (rw[drewN_self wr];generalize hq_:World.drewN wr _=wr;have n0_:=Aside0.mk (Kd.R_at hq_ HO_6.out);have n1_:=Aside0.mk (Kd.N_at hq_ HO_278001.out);have n2_:=Aside0.mk (blk_at hq_ BK266.out);have n3_:=Aside0.mk (blk_at hq_ BK267.out);have n4_:=Aside0.mk (blk_at hq_ BK277.out);have n5_:=Aside0.mk (below_at hq_ HB.out);clear hq_ HO_6 HO_278001 BK266 BK267 BK277 HB;have HO_6:=n0_;have HO_278001:=n1_;have BK266:=n2_;have BK267:=n3_;have BK277:=n4_;have HB:=n5_;clear n0_ n1_ n2_ n3_ n4_ n5_))
                have n0_:=Aside0.mk (Kd.R_drew HO_6.out)
                have n1_:=Aside0.mk (Kd.N_drew HO_278001.out)
                have n2_:=Aside0.mk (blk_drew BK266.out)
                have n3_:=Aside0.mk (blk_drew BK267.out)
                have n4_:=Aside0.mk (blk_drew BK277.out)
                have n5_:=Aside0.mk (below_drew1 HB.out)
                clear HO_6 HO_278001 BK266 BK267 BK277 HB
                have HO_6:=n0_
                have HO_278001:=n1_
                have BK266:=n2_
                have BK267:=n3_
                have BK277:=n4_
                have HB:=n5_
                clear n0_ n1_ n2_ n3_ n4_ n5_
                have p281:0≤(x19_1:Int):=of_decide_eq_true (bD)
                have q281:x19_1 < (x278001_2.length:Int):=of_decide_eq_true (bD)
                obtain⟨ad281,A281_0,c281_0,e281,hx281_0,hx281_1,hx281_2,hl281_0,hi281_0⟩:=at_T116 (Kd.N_reads' HO_278001.out).2.2 x19_1 p281 q281
                obtain rfl:(⟨go22,0,none⟩:Addr)=ad281:=(by injection e281)
                obtain⟨ce281,hce281,hMe281,hcc281⟩:=Kd.N_get HO_278001.out z116 x19_1 p281 (by first|exact q281|exact of_decide_eq_true (bD)|(have e_:=(Kd.N_reads' HO_278001.out).1;omega))
                obtain⟨ua281_0,uc281_0,rfl,ul281_0,ge281_0⟩:=k116_openF hMe281
                have hv281_0:=hcc281 0 _ rfl
                rw[Nat.add_zero] at hv281_0
                replace hv281_0:=Option.some.inj (hv281_0.symm.trans hx281_0)
                injection hv281_0 with hva_ hvn_ hvc_
                rw[hva_] at ge281_0
                rw[hvc_] at ul281_0
                have HL281_0:=Aside0.mk (show Kd.V (Kd.int .i64) 3 _ w.heap.size _ _ ((rd_T116 x278001_2 x19_1).f0) from Kd.V_mk ul281_0 ge281_0)
                clear hva_ hvn_ hvc_ ge281_0 ul281_0 hcc281 hce281
                (first|simp only[add_plain] at hx281_0|simp only[add_at] at hx281_0|simp only[Addr.add,Nat.zero_add] at hx281_0|skip)
                (first|simp only[add_plain] at hx281_1|simp only[add_at] at hx281_1|simp only[Addr.add,Nat.zero_add] at hx281_1|skip)
                (first|simp only[add_plain] at hx281_2|simp only[add_at] at hx281_2|simp only[Addr.add,Nat.zero_add] at hx281_2|skip)
                have HR281_0:=Aside0.mk hi281_0
                have HC281_0:=Aside0.mk hl281_0
                clear hi281_0 hl281_0
                replace p281:=eq_true p281
                replace q281:=eq_true q281
                have p282:0≤(x19_1:Int):=of_decide_eq_true (bD)
                have q282:x19_1 < (x278001_2.length:Int):=of_decide_eq_true (bD)
                obtain⟨ad282,A282_0,c282_0,e282,hx282_0,hx282_1,hx282_2,hl282_0,hi282_0⟩:=at_T116 (Kd.N_reads' HO_278001.out).2.2 x19_1 p282 q282
                obtain rfl:(⟨go22,0,none⟩:Addr)=ad282:=(by injection e282)
                obtain⟨ce282,hce282,hMe282,hcc282⟩:=Kd.N_get HO_278001.out z116 x19_1 p282 (by first|exact q282|exact of_decide_eq_true (bD)|(have e_:=(Kd.N_reads' HO_278001.out).1;omega))
                obtain⟨ua282_0,uc282_0,rfl,ul282_0,ge282_0⟩:=k116_openF hMe282
                have hv282_0:=hcc282 0 _ rfl
                rw[Nat.add_zero] at hv282_0
                replace hv282_0:=Option.some.inj (hv282_0.symm.trans hx282_0)
                injection hv282_0 with hva_ hvn_ hvc_
                rw[hva_] at ge282_0
                rw[hvc_] at ul282_0
                have HL282_0:=Aside0.mk (show Kd.V (Kd.int .i64) 3 _ w.heap.size _ _ ((rd_T116 x278001_2 x19_1).f0) from Kd.V_mk ul282_0 ge282_0)
                clear hva_ hvn_ hvc_ ge282_0 ul282_0 hcc282 hce282
                (first|simp only[add_plain] at hx282_0|simp only[add_at] at hx282_0|simp only[Addr.add,Nat.zero_add] at hx282_0|skip)
                (first|simp only[add_plain] at hx282_1|simp only[add_at] at hx282_1|simp only[Addr.add,Nat.zero_add] at hx282_1|skip)
                (first|simp only[add_plain] at hx282_2|simp only[add_at] at hx282_2|simp only[Addr.add,Nat.zero_add] at hx282_2|skip)
                have HR282_0:=Aside0.mk hi282_0
                have HC282_0:=Aside0.mk hl282_0
                clear hi282_0 hl282_0
                replace p282:=eq_true p282
                replace q282:=eq_true q282
                have ea_:=Option.some.inj (hx281_0.symm.trans hx282_0)
                injection ea_ with ea_ en_ ec_
                subst ea_
                subst ec_
                clear en_
                have p283:0≤(0:Int):=(by omega)
                have q283:0 < (((rd_T116 x278001_2 x19_1).f0).length:Int):=of_decide_eq_true (bD)
                obtain⟨ad283,e283,hx283_0⟩:=Kd.at_int (by repeat (first|(with_reducible exact HR282_0.out)|(with_reducible refine Kd.C_alloc ?_ _)|(with_reducible refine Kd.C_drewN ?_ _)|(with_reducible refine Kd.C_drew ?_)|exact HR282_0.out)) 0 p283 q283
                cases e283
                have qi283:(0 < ((rd_T116 x278001_2 x19_1).f0).length)=True:=eq_true (by omega)
                (try rw[show((0:Int)).toNat=0 from rfl] at hx283_0)
                (try rw[Addr.add_zero'] at hx283_0)
                replace p283:=eq_true p283
                replace q283:=eq_true q283
                have p284:0≤(x19_1:Int):=of_decide_eq_true (bD)
                have q284:x19_1 < (x278001_2.length:Int):=of_decide_eq_true (bD)
                obtain⟨ad284,A284_0,c284_0,e284,hx284_0,hx284_1,hx284_2,hl284_0,hi284_0⟩:=at_T116 (Kd.N_reads' HO_278001.out).2.2 x19_1 p284 q284
                obtain rfl:(⟨go22,0,none⟩:Addr)=ad284:=(by injection e284)
                obtain⟨ce284,hce284,hMe284,hcc284⟩:=Kd.N_get HO_278001.out z116 x19_1 p284 (by first|exact q284|exact of_decide_eq_true (bD)|(have e_:=(Kd.N_reads' HO_278001.out).1;omega))
                obtain⟨ua284_0,uc284_0,rfl,ul284_0,ge284_0⟩:=k116_openF hMe284
                have hv284_0:=hcc284 0 _ rfl
                rw[Nat.add_zero] at hv284_0
                replace hv284_0:=Option.some.inj (hv284_0.symm.trans hx284_0)
                injection hv284_0 with hva_ hvn_ hvc_
                rw[hva_] at ge284_0
                rw[hvc_] at ul284_0
                have HL284_0:=Aside0.mk (show Kd.V (Kd.int .i64) 3 _ w.heap.size _ _ ((rd_T116 x278001_2 x19_1).f0) from Kd.V_mk ul284_0 ge284_0)
                clear hva_ hvn_ hvc_ ge284_0 ul284_0 hcc284 hce284
                (first|simp only[add_plain] at hx284_0|simp only[add_at] at hx284_0|simp only[Addr.add,Nat.zero_add] at hx284_0|skip)
                (first|simp only[add_plain] at hx284_1|simp only[add_at] at hx284_1|simp only[Addr.add,Nat.zero_add] at hx284_1|skip)
                (first|simp only[add_plain] at hx284_2|simp only[add_at] at hx284_2|simp only[Addr.add,Nat.zero_add] at hx284_2|skip)
                have HR284_0:=Aside0.mk hi284_0
                have HC284_0:=Aside0.mk hl284_0
                clear hi284_0 hl284_0
                replace p284:=eq_true p284
                replace q284:=eq_true q284
                have ea_:=Option.some.inj (hx281_0.symm.trans hx284_0)
                injection ea_ with ea_ en_ ec_
                subst ea_
                subst ec_
                clear en_
                refine start_ (n:=19) (S:=fun w'=>w'.cell? ⟨go22,(x19_1).toNat * 3,none⟩=some (.slice (some ad283) ((rd_T116 x278001_2 x19_1).f0).length c281_0)∧w'.cell? ⟨go22,(x19_1).toNat * 3+1,none⟩=some (.int .i64 ((rd_T116 x278001_2 x19_1).f1))∧w'.cell? ⟨go22,(x19_1).toNat * 3+2,none⟩=some (.int .i64 ((rd_T116 x278001_2 x19_1).f2))∧w'.cell? ⟨go22,(x19_1).toNat * 3,none⟩=some (.slice (some ad283) ((rd_T116 x278001_2 x19_1).f0).length c281_0)∧w'.cell? ⟨go22,(x19_1).toNat * 3+1,none⟩=some (.int .i64 ((rd_T116 x278001_2 x19_1).f1))∧w'.cell? ⟨go22,(x19_1).toNat * 3+2,none⟩=some (.int .i64 ((rd_T116 x278001_2 x19_1).f2))∧w'.cell? ad283=some (.int .i64 (rd ((rd_T116 x278001_2 x19_1).f0) 0))∧w'.cell? ⟨go22,(x19_1).toNat * 3,none⟩=some (.slice (some ad283) ((rd_T116 x278001_2 x19_1).f0).length c281_0)∧w'.cell? ⟨go22,(x19_1).toNat * 3+1,none⟩=some (.int .i64 ((rd_T116 x278001_2 x19_1).f1))∧w'.cell? ⟨go22,(x19_1).toNat * 3+2,none⟩=some (.int .i64 ((rd_T116 x278001_2 x19_1).f2))) (ds:=[]) #[false,false,false,false,false,false,false,false,false,false,false,false,false,false,false,false,false,false,false] (by kernel_rfl) rfl rfl ⟨hx281_0,hx281_1,hx281_2,hx282_0,hx282_1,hx282_2,hx283_0,hx284_0,hx284_1,hx284_2⟩ (fun hHeld => ?_);refine with_tabW impl_NextRound.tab10 impl_NextRound.bits10 (fun HT_ HW_ => ?_)
                generalize wr.drew=w57 at HO_6 HO_278001 BK266 BK267 BK277 HB HL281_0 HL282_0 HL284_0 HR281_0 HR282_0 HR284_0 hx281_0 hx281_1 hx281_2 hx282_0 hx282_1 hx282_2 hx283_0 hx284_0 hx284_1 hx284_2 hHeld ⊢
                refine pure_ (i:=0) (N:=some 41) (v:=?_) (a':=?_) #[true,false,false,false,false,false,false,false,false,false,false,false,false,false,false,false,false,false,false] rfl rfl (any_of HT_.out (by kernel_rfl)) (fun _ _ _ h=>h) (Or.inl ⟨by rfl,?_⟩) ?_ ?_
                rotate_left
                ·intro w'
                 go_simp
                 with_reducible rfl
                rotate_left
                ·simp only[Act.put,List.setIfInBounds_toArray,List.set_cons_zero,List.set_cons_succ,i64_w,i32_w]
                 rfl
                refine pure_ (i:=1) (N:=some 42) (v:=?_) (a':=?_) #[true,true,false,false,false,false,false,false,false,false,false,false,false,false,false,false,false,false,false] rfl rfl (any_of HT_.out (by kernel_rfl)) (fun _ _ _ h=>h) (Or.inl ⟨by rfl,?_⟩) ?_ ?_
                rotate_left
                ·intro w'
                 go_simp
                 with_reducible rfl
                rotate_left
                ·simp only[Act.put,List.setIfInBounds_toArray,List.set_cons_zero,List.set_cons_succ,i64_w,i32_w]
                 rfl
                refine pure_ (i:=2) (N:=some 43) (v:=?_) (a':=?_) #[true,true,true,false,false,false,false,false,false,false,false,false,false,false,false,false,false,false,false] rfl rfl (any_of HT_.out (by kernel_rfl)) (fun _ _ _ h=>h) (Or.inl ⟨by rfl,?_⟩) ?_ ?_
                rotate_left
                ·intro w'
                 go_simp
                 with_reducible rfl
                rotate_left
                ·simp only[Act.put,List.setIfInBounds_toArray,List.set_cons_zero,List.set_cons_succ,i64_w,i32_w]
                 rfl
                refine take_ (i:=3) (N:=some 44) (v:=?_) (a':=?_) #[true,true,true,true,false,false,false,false,false,false,false,false,false,false,false,false,false,false,false] rfl rfl (take_ofW HT_.out HW_.out (by kernel_rfl)) (fun _ _ _ h=>h) (Or.inl ⟨by rfl,?_⟩) hHeld ?_ ?_
                rotate_left
                ·rintro w' ⟨s0,s1,s2,s3,s4,s5,s6,s7,s8,s9⟩
                 go_simp
                 with_reducible rfl
                rotate_left
                ·simp only[Act.put,List.setIfInBounds_toArray,List.set_cons_zero,List.set_cons_succ,i64_w,i32_w]
                 rfl
                refine pure_ (i:=4) (N:=some 45) (v:=?_) (a':=?_) #[true,true,true,true,true,false,false,false,false,false,false,false,false,false,false,false,false,false,false] rfl rfl (any_of HT_.out (by kernel_rfl)) (fun _ _ _ h=>h) (Or.inl ⟨by rfl,?_⟩) ?_ ?_
                rotate_left
                ·intro w'
                 go_simp
                 with_reducible rfl
                rotate_left
                ·simp only[Act.put,List.setIfInBounds_toArray,List.set_cons_zero,List.set_cons_succ,i64_w,i32_w]
                 rfl
                refine pure_ (i:=5) (N:=some 46) (v:=?_) (a':=?_) #[true,true,true,true,true,true,false,false,false,false,false,false,false,false,false,false,false,false,false] rfl rfl (any_of HT_.out (by kernel_rfl)) (fun _ _ _ h=>h) (Or.inl ⟨by rfl,?_⟩) ?_ ?_
                rotate_left
                ·intro w'
                 go_simp
                 with_reducible rfl
                rotate_left
                ·simp only[Act.put,List.setIfInBounds_toArray,List.set_cons_zero,List.set_cons_succ,i64_w,i32_w]
                 rfl
                refine pure_ (i:=6) (N:=some 47) (v:=?_) (a':=?_) #[true,true,true,true,true,true,true,false,false,false,false,false,false,false,false,false,false,false,false] rfl rfl (any_of HT_.out (by kernel_rfl)) (fun _ _ _ h=>h) (Or.inl ⟨by rfl,?_⟩) ?_ ?_
                rotate_left
                ·intro w'
                 go_simp
                 with_reducible rfl
                rotate_left
                ·simp only[Act.put,List.setIfInBounds_toArray,List.set_cons_zero,List.set_cons_succ,i64_w,i32_w]
                 rfl
                refine pure_ (i:=7) (N:=some 48) (v:=?_) (a':=?_) #[true,true,true,true,true,true,true,true,false,false,false,false,false,false,false,false,false,false,false] rfl rfl (any_of HT_.out (by kernel_rfl)) (fun _ _ _ h=>h) (Or.inl ⟨by rfl,?_⟩) ?_ ?_
                rotate_left
                ·intro w'
                 go_simp
                 with_reducible rfl
                rotate_left
                ·simp only[Act.put,List.setIfInBounds_toArray,List.set_cons_zero,List.set_cons_succ,i64_w,i32_w]
                 rfl
                refine pure_ (i:=8) (N:=some 49) (v:=?_) (a':=?_) #[true,true,true,true,true,true,true,true,true,false,false,false,false,false,false,false,false,false,false] rfl rfl (any_of HT_.out (by kernel_rfl)) (fun _ _ _ h=>h) (Or.inl ⟨by rfl,?_⟩) ?_ ?_
                rotate_left
                ·intro w'
                 go_simp
                 with_reducible rfl
                rotate_left
                ·simp only[Act.put,List.setIfInBounds_toArray,List.set_cons_zero,List.set_cons_succ,i64_w,i32_w]
                 rfl
                refine pure_ (i:=9) (N:=some 50) (v:=?_) (a':=?_) #[true,true,true,true,true,true,true,true,true,true,false,false,false,false,false,false,false,false,false] rfl rfl (any_of HT_.out (by kernel_rfl)) (fun _ _ _ h=>h) (Or.inl ⟨by rfl,?_⟩) ?_ ?_
                rotate_left
                ·intro w'
                 go_simp
                 with_reducible rfl
                rotate_left
                ·simp only[Act.put,List.setIfInBounds_toArray,List.set_cons_zero,List.set_cons_succ,i64_w,i32_w]
                 rfl
                refine pure_ (i:=13) (N:=some 54) (v:=?_) (a':=?_) #[true,true,true,true,true,true,true,true,true,true,false,false,false,true,false,false,false,false,false] rfl rfl (any_of HT_.out (by kernel_rfl)) (fun _ _ _ h=>h) (Or.inl ⟨by rfl,?_⟩) ?_ ?_
                rotate_left
                ·intro w'
                 go_simp
                 with_reducible rfl
                rotate_left
                ·simp only[Act.put,List.setIfInBounds_toArray,List.set_cons_zero,List.set_cons_succ,i64_w,i32_w]
                 rfl
                refine pure_ (i:=14) (N:=some 55) (v:=?_) (a':=?_) #[true,true,true,true,true,true,true,true,true,true,false,false,false,true,true,false,false,false,false] rfl rfl (any_of HT_.out (by kernel_rfl)) (fun _ _ _ h=>h) (Or.inl ⟨by rfl,?_⟩) ?_ ?_
                rotate_left
                ·intro w'
                 go_simp
                 with_reducible rfl
                rotate_left
                ·simp only[Act.put,List.setIfInBounds_toArray,List.set_cons_zero,List.set_cons_succ,i64_w,i32_w]
                 rfl
                refine pure_ (i:=15) (N:=some 56) (v:=?_) (a':=?_) #[true,true,true,true,true,true,true,true,true,true,false,false,false,true,true,true,false,false,false] rfl rfl (any_of HT_.out (by kernel_rfl)) (fun _ _ _ h=>h) (Or.inl ⟨by rfl,?_⟩) ?_ ?_
                rotate_left
                ·intro w'
                 go_simp
                 with_reducible rfl
                rotate_left
                ·simp only[Act.put,List.setIfInBounds_toArray,List.set_cons_zero,List.set_cons_succ,i64_w,i32_w]
                 rfl
                refine take_ (i:=10) (N:=some 51) (v:=?_) (a':=?_) #[true,true,true,true,true,true,true,true,true,true,true,false,false,true,true,true,false,false,false] rfl rfl (take_ofW HT_.out HW_.out (by kernel_rfl)) (fun _ _ _ h=>h) (Or.inl ⟨by rfl,?_⟩) hHeld ?_ ?_
                rotate_left
                ·rintro w' ⟨s0,s1,s2,s3,s4,s5,s6,s7,s8,s9⟩
                 go_simp
                 with_reducible rfl
                rotate_left
                ·simp only[Act.put,List.setIfInBounds_toArray,List.set_cons_zero,List.set_cons_succ,i64_w,i32_w]
                 rfl
                refine pure_ (i:=11) (N:=some 52) (v:=?_) (a':=?_) #[true,true,true,true,true,true,true,true,true,true,true,true,false,true,true,true,false,false,false] rfl rfl (any_of HT_.out (by kernel_rfl)) (fun _ _ _ h=>h) (Or.inl ⟨by rfl,?_⟩) ?_ ?_
                rotate_left
                ·intro w'
                 go_simp
                 with_reducible rfl
                rotate_left
                ·simp only[Act.put,List.setIfInBounds_toArray,List.set_cons_zero,List.set_cons_succ,i64_w,i32_w]
                 rfl
                refine take_ (i:=12) (N:=some 53) (v:=?_) (a':=?_) #[true,true,true,true,true,true,true,true,true,true,true,true,true,true,true,true,false,false,false] rfl rfl (take_ofW HT_.out HW_.out (by kernel_rfl)) (fun _ _ _ h=>h) (Or.inl ⟨by rfl,?_⟩) hHeld ?_ ?_
                rotate_left
                ·rintro w' ⟨s0,s1,s2,s3,s4,s5,s6,s7,s8,s9⟩
                 go_simp
                 with_reducible rfl
                rotate_left
                ·simp only[Act.put,List.setIfInBounds_toArray,List.set_cons_zero,List.set_cons_succ,i64_w,i32_w]
                 rfl
                refine take_ (i:=16) (N:=some 57) (v:=?_) (a':=?_) #[true,true,true,true,true,true,true,true,true,true,true,true,true,true,true,true,true,false,false] rfl rfl (take_ofW HT_.out HW_.out (by kernel_rfl)) (fun _ _ _ h=>h) (Or.inl ⟨by rfl,?_⟩) hHeld ?_ ?_
                rotate_left
                ·rintro w' ⟨s0,s1,s2,s3,s4,s5,s6,s7,s8,s9⟩
                 go_simp
                 with_reducible rfl
                rotate_left
                ·simp only[Act.put,List.setIfInBounds_toArray,List.set_cons_zero,List.set_cons_succ,i64_w,i32_w]
                 rfl
                refine pure_ (i:=17) (N:=some 58) (v:=?_) (a':=?_) #[true,true,true,true,true,true,true,true,true,true,true,true,true,true,true,true,true,true,false] rfl rfl (any_of HT_.out (by kernel_rfl)) (fun _ _ _ h=>h) (Or.inl ⟨by rfl,?_⟩) ?_ ?_
                rotate_left
                ·intro w'
                 go_simp
                 with_reducible rfl
                rotate_left
                ·simp only[Act.put,List.setIfInBounds_toArray,List.set_cons_zero,List.set_cons_succ,i64_w,i32_w]
                 rfl
                refine pure_ (i:=18) (N:=some 59) (v:=?_) (a':=?_) #[true,true,true,true,true,true,true,true,true,true,true,true,true,true,true,true,true,true,true] rfl rfl (any_of HT_.out (by kernel_rfl)) (fun _ _ _ h=>h) (Or.inl ⟨by rfl,?_⟩) ?_ ?_
                rotate_left
                ·intro w'
                 go_simp
                 with_reducible rfl
                rotate_left
                ·simp only[Act.put,List.setIfInBounds_toArray,List.set_cons_zero,List.set_cons_succ,i64_w,i32_w]
                 rfl
                refine done_ (done_of HT_.out (by kernel_rfl)) ?_
                have p303:0≤(x19_1:Int):=of_decide_eq_true (bD)
                have q303:x19_1 < (x278001_2.length:Int):=of_decide_eq_true (bD)
                obtain⟨ad303,A303_0,c303_0,e303,hx303_0,hx303_1,hx303_2,hl303_0,hi303_0⟩:=at_T116 (Kd.N_reads' HO_278001.out).2.2 x19_1 p303 q303
                obtain rfl:(⟨go22,0,none⟩:Addr)=ad303:=(by injection e303)
                obtain⟨ce303,hce303,hMe303,hcc303⟩:=Kd.N_get HO_278001.out z116 x19_1 p303 (by first|exact q303|exact of_decide_eq_true (bD)|(have e_:=(Kd.N_reads' HO_278001.out).1;omega))
                obtain⟨ua303_0,uc303_0,rfl,ul303_0,ge303_0⟩:=k116_openF hMe303
                have hv303_0:=hcc303 0 _ rfl
                rw[Nat.add_zero] at hv303_0
                replace hv303_0:=Option.some.inj (hv303_0.symm.trans hx303_0)
                injection hv303_0 with hva_ hvn_ hvc_
                rw[hva_] at ge303_0
                rw[hvc_] at ul303_0
                have HL303_0:=Aside0.mk (show Kd.V (Kd.int .i64) 3 _ w.heap.size _ _ ((rd_T116 x278001_2 x19_1).f0) from Kd.V_mk ul303_0 ge303_0)
                clear hva_ hvn_ hvc_ ge303_0 ul303_0 hcc303 hce303
                (first|simp only[add_plain] at hx303_0|simp only[add_at] at hx303_0|simp only[Addr.add,Nat.zero_add] at hx303_0|skip)
                (first|simp only[add_plain] at hx303_1|simp only[add_at] at hx303_1|simp only[Addr.add,Nat.zero_add] at hx303_1|skip)
                (first|simp only[add_plain] at hx303_2|simp only[add_at] at hx303_2|simp only[Addr.add,Nat.zero_add] at hx303_2|skip)
                have HR303_0:=Aside0.mk hi303_0
                have HC303_0:=Aside0.mk hl303_0
                clear hi303_0 hl303_0
                replace p303:=eq_true p303
                replace q303:=eq_true q303
                have ea_:=Option.some.inj (hx281_0.symm.trans hx303_0)
                injection ea_ with ea_ en_ ec_
                subst ea_
                subst ec_
                clear en_
                have p56:0≤(x19_1:Int):=of_decide_eq_true (bD)
                have q56:(x19_1:Int) < ((x278001_2.length:Int):Int):=of_decide_eq_true (bD)
                obtain⟨ce56,hcl56,hM56,hcc56,hfr56⟩:=Kd.N_elem HO_278001.out z116 (x19_1:Int) p56 q56
                obtain⟨ua56_0,uc56_0,rfl,ul56_0,ge56_0⟩:=k116_openF hM56
                have hx56_0:w57.cell? ⟨go22,(x19_1:Int).toNat * 3,none⟩=some (.slice ua56_0 ((rd_T116 x278001_2 x19_1).f0).length uc56_0):=hcc56 0 _ rfl
                have hx56_1:w57.cell? ⟨go22,(x19_1:Int).toNat * 3+1,none⟩=some (.int .i64 ((rd_T116 x278001_2 x19_1).f1)):=hcc56 1 _ rfl
                have hx56_2:w57.cell? ⟨go22,(x19_1:Int).toNat * 3+2,none⟩=some (.int .i64 ((rd_T116 x278001_2 x19_1).f2)):=hcc56 2 _ rfl
                have hf56_0:w57.frozen? ⟨go22,(x19_1:Int).toNat * 3,none⟩=false:=hfr56 0
                have hf56_1:w57.frozen? ⟨go22,(x19_1:Int).toNat * 3+1,none⟩=false:=hfr56 1
                have hf56_2:w57.frozen? ⟨go22,(x19_1:Int).toNat * 3+2,none⟩=false:=hfr56 2
                clear hcl56 hcc56 hfr56 hM56
                replace p56:=eq_true p56
                replace q56:=eq_true q56
                have HX58:=Aside0.mk (show Kd.N k116 116 w57 w.heap.size (fun k_=>(w.heap.size≤k_)∧some k_≠(u6:Value).ownBlock∧k_≠gb266∧k_≠gb267∧k_≠gb277) (.slice (some ⟨go22,0,none⟩) x278001_2.length co18) x278001_2 from (by(with_reducible repeat (first|apply Kd.N_alloc|apply Kd.N_drewN|apply Kd.N_drew));exact HO_278001.out))
                obtain⟨ce58,hcl58,hM58,hcc58,hfr58⟩:=Kd.N_elem HX58.out z116 (x19_1:Int) (of_decide_eq_true (bD)) (by have h_:(x19_1:Int) < ((x278001_2.length:Int):Int):=of_decide_eq_true (bD);first|exact h_|(have e_:=(Kd.N_reads' HO_278001.out).1;omega)|simpa using h_)
                obtain⟨ua58_0,uc58_0,rfl,ul58_0,ge58_0⟩:=k116_openF hM58
                have HP58:=Kd.N_seg HX58.out (x19_1:Int) (of_decide_eq_true (bD)) (by have h_:(x19_1:Int) < ((x278001_2.length:Int):Int):=of_decide_eq_true (bD);first|exact h_|(have e_:=(Kd.N_reads' HO_278001.out).1;omega)|simpa using h_) (seg:=[.int .i64 0]) (j:=1) hcl58 hcc58 (show 2≤3 from by decide) (x':=(⟨(rd_T116 x278001_2 x19_1).f0,0,(rd_T116 x278001_2 x19_1).f2⟩:S116)) (k116_mkF _ _ (⟨(rd_T116 x278001_2 x19_1).f0,0,(rd_T116 x278001_2 x19_1).f2⟩:S116) ul58_0 ge58_0) (fun _ hk=>hk)
                have hx58_1:=hcc58 1 _ rfl
                (try simp only[show(k116).sz=3 from rfl,Nat.mul_one,Nat.add_zero] at hx58_1)
                have hf58_1:=hfr58 1
                (try simp only[show(k116).sz=3 from rfl,Nat.mul_one,Nat.add_zero] at hf58_1)
                clear hcl58 hcc58 hfr58 hM58
                try go_wp2_with (first|((with_reducible refine gate_store (t:=3) (p:=106) rfl ?_);refine store_event (t:=3) (p:=106) (v:=?vo_w59) (w1:=(w57.setCell ⟨go22,(x19_1:Int).toNat * 3+1,none⟩ (.int .i64 0))) ?hg ?ho ?hn ?hr ?_;(case ho=>rfl);(case hg=>rfl);(case hn=>rfl);(case hr=>first|(go_simp;done)|(go_simp;rfl));intro w59 hw;have hg:w57.grownBy w59 (some go22):=(by rw[hw];exact HP58.2);have hp_:Kd.N k116 116 w59 w.heap.size (fun k_=>(w.heap.size≤k_)∧some k_≠(u6:Value).ownBlock∧k_≠gb266∧k_≠gb267∧k_≠gb277) (.slice (some ⟨go22,0,none⟩) x278001_2.length co18) y304:=(by rw[hw,Ny304.out];exact HP58.1);clear HP58;have n0_:=Aside0.mk (Kd.R_over' (v:=(.slice (some ⟨go22,0,none⟩) x278001_2.length co18)) (bK HO_6.out) (Kd.N_typed HO_278001.out) (by decide) hg);have n1_:=Aside0.mk (hp_);have n2_:=Aside0.mk (blk_grown (g:=gb266) (o:=.cells #[.int .i64 a0_0,.slice A0_1 l0_1.length c0_1,.int .i64 a0_2] 28 (0,0)) (bL BK266.out) hg (Kd.N_ne HO_278001.out BK266.out (by decide)));have n3_:=Aside0.mk (blk_grown (g:=gb267) (o:=.cells #[.int .i64 0,.slice none 0 0,.int .i64 0] 28 (0,0)) (bL BK267.out) hg (Kd.N_ne HO_278001.out BK267.out (by decide)));have n4_:=Aside0.mk (blk_grown (g:=gb277) (o:=.cells #[.int .i64 t269,.slice (some ⟨go22,0,none⟩) x278001_2.length co18,.int .i64 t273] 28 (0,0)) (bL BK277.out) hg (Kd.N_ne HO_278001.out BK277.out (by decide)));have n5_:=Aside0.mk (Kd.V_afterv (v:=(.slice (some ⟨go22,0,none⟩) x278001_2.length co18)) (v1:=(.slice (some ⟨go22,0,none⟩) x278001_2.length co18)) (ok:=(fun k_=>(w.heap.size≤k_)∧some k_≠(u6:Value).ownBlock∧k_≠gb266∧k_≠gb267∧k_≠gb277)) (by(with_reducible repeat (first|apply Kd.V_alloc|apply Kd.V_drewN|apply Kd.V_drew));exact HL281_0.out) hg (.inl rfl));have n6_:=Aside0.mk (Kd.V_afterv (v:=(.slice (some ⟨go22,0,none⟩) x278001_2.length co18)) (v1:=(.slice (some ⟨go22,0,none⟩) x278001_2.length co18)) (ok:=(fun k_=>(w.heap.size≤k_)∧some k_≠(u6:Value).ownBlock∧k_≠gb266∧k_≠gb267∧k_≠gb277)) (by(with_reducible repeat (first|apply Kd.V_alloc|apply Kd.V_drewN|apply Kd.V_drew));exact HL282_0.out) hg (.inl rfl));have n7_:=Aside0.mk (Kd.V_afterv (v:=(.slice (some ⟨go22,0,none⟩) x278001_2.length co18)) (v1:=(.slice (some ⟨go22,0,none⟩) x278001_2.length co18)) (ok:=(fun k_=>(w.heap.size≤k_)∧some k_≠(u6:Value).ownBlock∧k_≠gb266∧k_≠gb267∧k_≠gb277)) (by(with_reducible repeat (first|apply Kd.V_alloc|apply Kd.V_drewN|apply Kd.V_drew));exact HL284_0.out) hg (.inl rfl));have n8_:=Aside0.mk (Kd.V_afterv (v:=(.slice (some ⟨go22,0,none⟩) x278001_2.length co18)) (v1:=(.slice (some ⟨go22,0,none⟩) x278001_2.length co18)) (ok:=(fun k_=>(w.heap.size≤k_)∧some k_≠(u6:Value).ownBlock∧k_≠gb266∧k_≠gb267∧k_≠gb277)) (by(with_reducible repeat (first|apply Kd.V_alloc|apply Kd.V_drewN|apply Kd.V_drew));exact HL303_0.out) hg (.inl rfl));have n9_:=Aside0.mk ((by rw[hw];exact below_set (HB.out) GB22.out:Below w.heap.size w w59));clear HO_6 HO_278001 BK266 BK267 BK277 HL281_0 HL282_0 HL284_0 HL303_0 HB;have HO_6:=n0_;have HO_278001:=n1_;have BK266:=n2_;have BK267:=n3_;have BK277:=n4_;have HL281_0:=n5_;have HL282_0:=n6_;have HL284_0:=n7_;have HL303_0:=n8_;have HB:=n9_;clear n0_ n1_ n2_ n3_ n4_ n5_ n6_ n7_ n8_ n9_;clear hg hw hp_))
                (try simp only[← hl278001_1,← hl278001_2])
                go_roundg k2
                case measure=>have:=HK1.out;have:=HK2.out;omega
                case rel=>exact⟨(x6_2),(wrap64 (x19_1+1)),(y304),(bR),H',⟨by have:=HK1.out;have:=HK2.out;omega⟩,⟨by(try simp only[hl278001_1]);(try simp only[hl278001_2]);(with_reducible repeat (first|apply Kd.R_alloc|apply Kd.R_drewN|apply Kd.R_drew));exact HO_6.out⟩,⟨by(try simp only[hl278001_1]);(try simp only[hl278001_2]);(with_reducible repeat (first|apply Kd.N_alloc|apply Kd.N_drewN|apply Kd.N_drew));exact HO_278001.out⟩,⟨by(try simp only[hl278001_1]);(try simp only[hl278001_2]);(with_reducible repeat (first|refine blk_drewN ?_ _|refine blk_drew ?_|refine blk_alloc ?_ _));exact BK266.out⟩,⟨by(try simp only[hl278001_1]);(try simp only[hl278001_2]);(with_reducible repeat (first|refine blk_drewN ?_ _|refine blk_drew ?_|refine blk_alloc ?_ _));exact BK267.out⟩,⟨by(try simp only[hl278001_1]);(try simp only[hl278001_2]);(with_reducible repeat (first|refine blk_drewN ?_ _|refine blk_drew ?_|refine blk_alloc ?_ _));exact BK277.out⟩,⟨bS3 GE266.out GE267.out GE277.out⟩⟩
               ·rw[if_neg c55] at H
                have c55b0:((((rd_T116 x278001_2 x19_1).f0).length:Int) == 0)=false:=beq_eq_false_iff_ne.mpr c55
                have c55b1:((((rd_T116 x278001_2 x19_1).f0).length:Int) != 0)=true:=bne_iff_ne.mpr c55
                have c55b2 : ¬ (((rd_T116 x278001_2 x19_1).f0)=[]):=fun h_=>c55 (by rw[h_];rfl)
                have H':=Aside0.mk H
                clear H
                try go_wp2
                (try (rw[drewN_self wr];generalize hq_:World.drewN wr _=wr;have n0_:=Aside0.mk (Kd.R_at hq_ HO_6.out);have n1_:=Aside0.mk (Kd.N_at hq_ HO_278001.out);have n2_:=Aside0.mk (blk_at hq_ BK266.out);have n3_:=Aside0.mk (blk_at hq_ BK267.out);have n4_:=Aside0.mk (blk_at hq_ BK277.out);have n5_:=Aside0.mk (below_at hq_ HB.out);clear hq_ HO_6 HO_278001 BK266 BK267 BK277 HB;have HO_6:=n0_;have HO_278001:=n1_;have BK266:=n2_;have BK267:=n3_;have BK277:=n4_;have HB:=n5_;clear n0_ n1_ n2_ n3_ n4_ n5_))
                have n0_:=Aside0.mk (Kd.R_drew HO_6.out)
                have n1_:=Aside0.mk (Kd.N_drew HO_278001.out)
                have n2_:=Aside0.mk (blk_drew BK266.out)
                have n3_:=Aside0.mk (blk_drew BK267.out)
                have n4_:=Aside0.mk (blk_drew BK277.out)
                have n5_:=Aside0.mk (below_drew1 HB.out)
                clear HO_6 HO_278001 BK266 BK267 BK277 HB
                have HO_6:=n0_
                have HO_278001:=n1_
                have BK266:=n2_
                have BK267:=n3_
                have BK277:=n4_
                have HB:=n5_
                clear n0_ n1_ n2_ n3_ n4_ n5_
                have p281:0≤(x19_1:Int):=of_decide_eq_true (bD)
                have q281:x19_1 < (x278001_2.length:Int):=of_decide_eq_true (bD)
                obtain⟨ad281,A281_0,c281_0,e281,hx281_0,hx281_1,hx281_2,hl281_0,hi281_0⟩:=at_T116 (Kd.N_reads' HO_278001.out).2.2 x19_1 p281 q281
                obtain rfl:(⟨go22,0,none⟩:Addr)=ad281:=(by injection e281)
                obtain⟨ce281,hce281,hMe281,hcc281⟩:=Kd.N_get HO_278001.out z116 x19_1 p281 (by first|exact q281|exact of_decide_eq_true (bD)|(have e_:=(Kd.N_reads' HO_278001.out).1;omega))
                obtain⟨ua281_0,uc281_0,rfl,ul281_0,ge281_0⟩:=k116_openF hMe281
                have hv281_0:=hcc281 0 _ rfl
                rw[Nat.add_zero] at hv281_0
                replace hv281_0:=Option.some.inj (hv281_0.symm.trans hx281_0)
                injection hv281_0 with hva_ hvn_ hvc_
                rw[hva_] at ge281_0
                rw[hvc_] at ul281_0
                have HL281_0:=Aside0.mk (show Kd.V (Kd.int .i64) 3 _ w.heap.size _ _ ((rd_T116 x278001_2 x19_1).f0) from Kd.V_mk ul281_0 ge281_0)
                clear hva_ hvn_ hvc_ ge281_0 ul281_0 hcc281 hce281
                (first|simp only[add_plain] at hx281_0|simp only[add_at] at hx281_0|simp only[Addr.add,Nat.zero_add] at hx281_0|skip)
                (first|simp only[add_plain] at hx281_1|simp only[add_at] at hx281_1|simp only[Addr.add,Nat.zero_add] at hx281_1|skip)
                (first|simp only[add_plain] at hx281_2|simp only[add_at] at hx281_2|simp only[Addr.add,Nat.zero_add] at hx281_2|skip)
                have HR281_0:=Aside0.mk hi281_0
                have HC281_0:=Aside0.mk hl281_0
                clear hi281_0 hl281_0
                replace p281:=eq_true p281
                replace q281:=eq_true q281
                have p282:0≤(x19_1:Int):=of_decide_eq_true (bD)
                have q282:x19_1 < (x278001_2.length:Int):=of_decide_eq_true (bD)
                obtain⟨ad282,A282_0,c282_0,e282,hx282_0,hx282_1,hx282_2,hl282_0,hi282_0⟩:=at_T116 (Kd.N_reads' HO_278001.out).2.2 x19_1 p282 q282
                obtain rfl:(⟨go22,0,none⟩:Addr)=ad282:=(by injection e282)
                obtain⟨ce282,hce282,hMe282,hcc282⟩:=Kd.N_get HO_278001.out z116 x19_1 p282 (by first|exact q282|exact of_decide_eq_true (bD)|(have e_:=(Kd.N_reads' HO_278001.out).1;omega))
                obtain⟨ua282_0,uc282_0,rfl,ul282_0,ge282_0⟩:=k116_openF hMe282
                have hv282_0:=hcc282 0 _ rfl
                rw[Nat.add_zero] at hv282_0
                replace hv282_0:=Option.some.inj (hv282_0.symm.trans hx282_0)
                injection hv282_0 with hva_ hvn_ hvc_
                rw[hva_] at ge282_0
                rw[hvc_] at ul282_0
                have HL282_0:=Aside0.mk (show Kd.V (Kd.int .i64) 3 _ w.heap.size _ _ ((rd_T116 x278001_2 x19_1).f0) from Kd.V_mk ul282_0 ge282_0)
                clear hva_ hvn_ hvc_ ge282_0 ul282_0 hcc282 hce282
                (first|simp only[add_plain] at hx282_0|simp only[add_at] at hx282_0|simp only[Addr.add,Nat.zero_add] at hx282_0|skip)
                (first|simp only[add_plain] at hx282_1|simp only[add_at] at hx282_1|simp only[Addr.add,Nat.zero_add] at hx282_1|skip)
                (first|simp only[add_plain] at hx282_2|simp only[add_at] at hx282_2|simp only[Addr.add,Nat.zero_add] at hx282_2|skip)
                have HR282_0:=Aside0.mk hi282_0
                have HC282_0:=Aside0.mk hl282_0
                clear hi282_0 hl282_0
                replace p282:=eq_true p282
                replace q282:=eq_true q282
                have ea_:=Option.some.inj (hx281_0.symm.trans hx282_0)
                injection ea_ with ea_ en_ ec_
                subst ea_
                subst ec_
                clear en_
                have p283:0≤(0:Int):=(by omega)
                have q283:0 < (((rd_T116 x278001_2 x19_1).f0).length:Int):=of_decide_eq_true (bD)
                obtain⟨ad283,e283,hx283_0⟩:=Kd.at_int (by repeat (first|(with_reducible exact HR282_0.out)|(with_reducible refine Kd.C_alloc ?_ _)|(with_reducible refine Kd.C_drewN ?_ _)|(with_reducible refine Kd.C_drew ?_)|exact HR282_0.out)) 0 p283 q283
                cases e283
                have qi283:(0 < ((rd_T116 x278001_2 x19_1).f0).length)=True:=eq_true (by omega)
                (try rw[show((0:Int)).toNat=0 from rfl] at hx283_0)
                (try rw[Addr.add_zero'] at hx283_0)
                replace p283:=eq_true p283
                replace q283:=eq_true q283
                have p284:0≤(x19_1:Int):=of_decide_eq_true (bD)
                have q284:x19_1 < (x278001_2.length:Int):=of_decide_eq_true (bD)
                obtain⟨ad284,A284_0,c284_0,e284,hx284_0,hx284_1,hx284_2,hl284_0,hi284_0⟩:=at_T116 (Kd.N_reads' HO_278001.out).2.2 x19_1 p284 q284
                obtain rfl:(⟨go22,0,none⟩:Addr)=ad284:=(by injection e284)
                obtain⟨ce284,hce284,hMe284,hcc284⟩:=Kd.N_get HO_278001.out z116 x19_1 p284 (by first|exact q284|exact of_decide_eq_true (bD)|(have e_:=(Kd.N_reads' HO_278001.out).1;omega))
                obtain⟨ua284_0,uc284_0,rfl,ul284_0,ge284_0⟩:=k116_openF hMe284
                have hv284_0:=hcc284 0 _ rfl
                rw[Nat.add_zero] at hv284_0
                replace hv284_0:=Option.some.inj (hv284_0.symm.trans hx284_0)
                injection hv284_0 with hva_ hvn_ hvc_
                rw[hva_] at ge284_0
                rw[hvc_] at ul284_0
                have HL284_0:=Aside0.mk (show Kd.V (Kd.int .i64) 3 _ w.heap.size _ _ ((rd_T116 x278001_2 x19_1).f0) from Kd.V_mk ul284_0 ge284_0)
                clear hva_ hvn_ hvc_ ge284_0 ul284_0 hcc284 hce284
                (first|simp only[add_plain] at hx284_0|simp only[add_at] at hx284_0|simp only[Addr.add,Nat.zero_add] at hx284_0|skip)
                (first|simp only[add_plain] at hx284_1|simp only[add_at] at hx284_1|simp only[Addr.add,Nat.zero_add] at hx284_1|skip)
                (first|simp only[add_plain] at hx284_2|simp only[add_at] at hx284_2|simp only[Addr.add,Nat.zero_add] at hx284_2|skip)
                have HR284_0:=Aside0.mk hi284_0
                have HC284_0:=Aside0.mk hl284_0
                clear hi284_0 hl284_0
                replace p284:=eq_true p284
                replace q284:=eq_true q284
                have ea_:=Option.some.inj (hx281_0.symm.trans hx284_0)
                injection ea_ with ea_ en_ ec_
                subst ea_
                subst ec_
                clear en_
                refine start_ (n:=19) (S:=fun w'=>w'.cell? ⟨go22,(x19_1).toNat * 3,none⟩=some (.slice (some ad283) ((rd_T116 x278001_2 x19_1).f0).length c281_0)∧w'.cell? ⟨go22,(x19_1).toNat * 3+1,none⟩=some (.int .i64 ((rd_T116 x278001_2 x19_1).f1))∧w'.cell? ⟨go22,(x19_1).toNat * 3+2,none⟩=some (.int .i64 ((rd_T116 x278001_2 x19_1).f2))∧w'.cell? ⟨go22,(x19_1).toNat * 3,none⟩=some (.slice (some ad283) ((rd_T116 x278001_2 x19_1).f0).length c281_0)∧w'.cell? ⟨go22,(x19_1).toNat * 3+1,none⟩=some (.int .i64 ((rd_T116 x278001_2 x19_1).f1))∧w'.cell? ⟨go22,(x19_1).toNat * 3+2,none⟩=some (.int .i64 ((rd_T116 x278001_2 x19_1).f2))∧w'.cell? ad283=some (.int .i64 (rd ((rd_T116 x278001_2 x19_1).f0) 0))∧w'.cell? ⟨go22,(x19_1).toNat * 3,none⟩=some (.slice (some ad283) ((rd_T116 x278001_2 x19_1).f0).length c281_0)∧w'.cell? ⟨go22,(x19_1).toNat * 3+1,none⟩=some (.int .i64 ((rd_T116 x278001_2 x19_1).f1))∧w'.cell? ⟨go22,(x19_1).toNat * 3+2,none⟩=some (.int .i64 ((rd_T116 x278001_2 x19_1).f2))) (ds:=[]) #[false,false,false,false,false,false,false,false,false,false,false,false,false,false,false,false,false,false,false] (by kernel_rfl) rfl rfl ⟨hx281_0,hx281_1,hx281_2,hx282_0,hx282_1,hx282_2,hx283_0,hx284_0,hx284_1,hx284_2⟩ (fun hHeld => ?_);refine with_tabW impl_NextRound.tab10 impl_NextRound.bits10 (fun HT_ HW_ => ?_)
                generalize wr.drew=w60 at HO_6 HO_278001 BK266 BK267 BK277 HB HL281_0 HL282_0 HL284_0 HR281_0 HR282_0 HR284_0 hx281_0 hx281_1 hx281_2 hx282_0 hx282_1 hx282_2 hx283_0 hx284_0 hx284_1 hx284_2 hHeld ⊢
                refine pure_ (i:=0) (N:=some 41) (v:=?_) (a':=?_) #[true,false,false,false,false,false,false,false,false,false,false,false,false,false,false,false,false,false,false] rfl rfl (any_of HT_.out (by kernel_rfl)) (fun _ _ _ h=>h) (Or.inl ⟨by rfl,?_⟩) ?_ ?_
                rotate_left
                ·intro w'
                 go_simp
                 with_reducible rfl
                rotate_left
                ·simp only[Act.put,List.setIfInBounds_toArray,List.set_cons_zero,List.set_cons_succ,i64_w,i32_w]
                 rfl
                refine pure_ (i:=1) (N:=some 42) (v:=?_) (a':=?_) #[true,true,false,false,false,false,false,false,false,false,false,false,false,false,false,false,false,false,false] rfl rfl (any_of HT_.out (by kernel_rfl)) (fun _ _ _ h=>h) (Or.inl ⟨by rfl,?_⟩) ?_ ?_
                rotate_left
                ·intro w'
                 go_simp
                 with_reducible rfl
                rotate_left
                ·simp only[Act.put,List.setIfInBounds_toArray,List.set_cons_zero,List.set_cons_succ,i64_w,i32_w]
                 rfl
                refine pure_ (i:=2) (N:=some 43) (v:=?_) (a':=?_) #[true,true,true,false,false,false,false,false,false,false,false,false,false,false,false,false,false,false,false] rfl rfl (any_of HT_.out (by kernel_rfl)) (fun _ _ _ h=>h) (Or.inl ⟨by rfl,?_⟩) ?_ ?_
                rotate_left
                ·intro w'
                 go_simp
                 with_reducible rfl
                rotate_left
                ·simp only[Act.put,List.setIfInBounds_toArray,List.set_cons_zero,List.set_cons_succ,i64_w,i32_w]
                 rfl
                refine take_ (i:=3) (N:=some 44) (v:=?_) (a':=?_) #[true,true,true,true,false,false,false,false,false,false,false,false,false,false,false,false,false,false,false] rfl rfl (take_ofW HT_.out HW_.out (by kernel_rfl)) (fun _ _ _ h=>h) (Or.inl ⟨by rfl,?_⟩) hHeld ?_ ?_
                rotate_left
                ·rintro w' ⟨s0,s1,s2,s3,s4,s5,s6,s7,s8,s9⟩
                 go_simp
                 with_reducible rfl
                rotate_left
                ·simp only[Act.put,List.setIfInBounds_toArray,List.set_cons_zero,List.set_cons_succ,i64_w,i32_w]
                 rfl
                refine pure_ (i:=4) (N:=some 45) (v:=?_) (a':=?_) #[true,true,true,true,true,false,false,false,false,false,false,false,false,false,false,false,false,false,false] rfl rfl (any_of HT_.out (by kernel_rfl)) (fun _ _ _ h=>h) (Or.inl ⟨by rfl,?_⟩) ?_ ?_
                rotate_left
                ·intro w'
                 go_simp
                 with_reducible rfl
                rotate_left
                ·simp only[Act.put,List.setIfInBounds_toArray,List.set_cons_zero,List.set_cons_succ,i64_w,i32_w]
                 rfl
                refine pure_ (i:=5) (N:=some 46) (v:=?_) (a':=?_) #[true,true,true,true,true,true,false,false,false,false,false,false,false,false,false,false,false,false,false] rfl rfl (any_of HT_.out (by kernel_rfl)) (fun _ _ _ h=>h) (Or.inl ⟨by rfl,?_⟩) ?_ ?_
                rotate_left
                ·intro w'
                 go_simp
                 with_reducible rfl
                rotate_left
                ·simp only[Act.put,List.setIfInBounds_toArray,List.set_cons_zero,List.set_cons_succ,i64_w,i32_w]
                 rfl
                refine pure_ (i:=6) (N:=some 47) (v:=?_) (a':=?_) #[true,true,true,true,true,true,true,false,false,false,false,false,false,false,false,false,false,false,false] rfl rfl (any_of HT_.out (by kernel_rfl)) (fun _ _ _ h=>h) (Or.inl ⟨by rfl,?_⟩) ?_ ?_
                rotate_left
                ·intro w'
                 go_simp
                 with_reducible rfl
                rotate_left
                ·simp only[Act.put,List.setIfInBounds_toArray,List.set_cons_zero,List.set_cons_succ,i64_w,i32_w]
                 rfl
                refine pure_ (i:=7) (N:=some 48) (v:=?_) (a':=?_) #[true,true,true,true,true,true,true,true,false,false,false,false,false,false,false,false,false,false,false] rfl rfl (any_of HT_.out (by kernel_rfl)) (fun _ _ _ h=>h) (Or.inl ⟨by rfl,?_⟩) ?_ ?_
                rotate_left
                ·intro w'
                 go_simp
                 with_reducible rfl
                rotate_left
                ·simp only[Act.put,List.setIfInBounds_toArray,List.set_cons_zero,List.set_cons_succ,i64_w,i32_w]
                 rfl
                refine pure_ (i:=8) (N:=some 49) (v:=?_) (a':=?_) #[true,true,true,true,true,true,true,true,true,false,false,false,false,false,false,false,false,false,false] rfl rfl (any_of HT_.out (by kernel_rfl)) (fun _ _ _ h=>h) (Or.inl ⟨by rfl,?_⟩) ?_ ?_
                rotate_left
                ·intro w'
                 go_simp
                 with_reducible rfl
                rotate_left
                ·simp only[Act.put,List.setIfInBounds_toArray,List.set_cons_zero,List.set_cons_succ,i64_w,i32_w]
                 rfl
                refine pure_ (i:=9) (N:=some 50) (v:=?_) (a':=?_) #[true,true,true,true,true,true,true,true,true,true,false,false,false,false,false,false,false,false,false] rfl rfl (any_of HT_.out (by kernel_rfl)) (fun _ _ _ h=>h) (Or.inl ⟨by rfl,?_⟩) ?_ ?_
                rotate_left
                ·intro w'
                 go_simp
                 with_reducible rfl
                rotate_left
                ·simp only[Act.put,List.setIfInBounds_toArray,List.set_cons_zero,List.set_cons_succ,i64_w,i32_w]
                 rfl
                refine pure_ (i:=13) (N:=some 54) (v:=?_) (a':=?_) #[true,true,true,true,true,true,true,true,true,true,false,false,false,true,false,false,false,false,false] rfl rfl (any_of HT_.out (by kernel_rfl)) (fun _ _ _ h=>h) (Or.inl ⟨by rfl,?_⟩) ?_ ?_
                rotate_left
                ·intro w'
                 go_simp
                 with_reducible rfl
                rotate_left
                ·simp only[Act.put,List.setIfInBounds_toArray,List.set_cons_zero,List.set_cons_succ,i64_w,i32_w]
                 rfl
                refine pure_ (i:=14) (N:=some 55) (v:=?_) (a':=?_) #[true,true,true,true,true,true,true,true,true,true,false,false,false,true,true,false,false,false,false] rfl rfl (any_of HT_.out (by kernel_rfl)) (fun _ _ _ h=>h) (Or.inl ⟨by rfl,?_⟩) ?_ ?_
                rotate_left
                ·intro w'
                 go_simp
                 with_reducible rfl
                rotate_left
                ·simp only[Act.put,List.setIfInBounds_toArray,List.set_cons_zero,List.set_cons_succ,i64_w,i32_w]
                 rfl
                refine pure_ (i:=15) (N:=some 56) (v:=?_) (a':=?_) #[true,true,true,true,true,true,true,true,true,true,false,false,false,true,true,true,false,false,false] rfl rfl (any_of HT_.out (by kernel_rfl)) (fun _ _ _ h=>h) (Or.inl ⟨by rfl,?_⟩) ?_ ?_
                rotate_left
                ·intro w'
                 go_simp
                 with_reducible rfl
                rotate_left
                ·simp only[Act.put,List.setIfInBounds_toArray,List.set_cons_zero,List.set_cons_succ,i64_w,i32_w]
                 rfl
                refine take_ (i:=10) (N:=some 51) (v:=?_) (a':=?_) #[true,true,true,true,true,true,true,true,true,true,true,false,false,true,true,true,false,false,false] rfl rfl (take_ofW HT_.out HW_.out (by kernel_rfl)) (fun _ _ _ h=>h) (Or.inl ⟨by rfl,?_⟩) hHeld ?_ ?_
                rotate_left
                ·rintro w' ⟨s0,s1,s2,s3,s4,s5,s6,s7,s8,s9⟩
                 go_simp
                 with_reducible rfl
                rotate_left
                ·simp only[Act.put,List.setIfInBounds_toArray,List.set_cons_zero,List.set_cons_succ,i64_w,i32_w]
                 rfl
                refine pure_ (i:=11) (N:=some 52) (v:=?_) (a':=?_) #[true,true,true,true,true,true,true,true,true,true,true,true,false,true,true,true,false,false,false] rfl rfl (any_of HT_.out (by kernel_rfl)) (fun _ _ _ h=>h) (Or.inl ⟨by rfl,?_⟩) ?_ ?_
                rotate_left
                ·intro w'
                 go_simp
                 with_reducible rfl
                rotate_left
                ·simp only[Act.put,List.setIfInBounds_toArray,List.set_cons_zero,List.set_cons_succ,i64_w,i32_w]
                 rfl
                refine take_ (i:=12) (N:=some 53) (v:=?_) (a':=?_) #[true,true,true,true,true,true,true,true,true,true,true,true,true,true,true,true,false,false,false] rfl rfl (take_ofW HT_.out HW_.out (by kernel_rfl)) (fun _ _ _ h=>h) (Or.inl ⟨by rfl,?_⟩) hHeld ?_ ?_
                rotate_left
                ·rintro w' ⟨s0,s1,s2,s3,s4,s5,s6,s7,s8,s9⟩
                 go_simp
                 with_reducible rfl
                rotate_left
                ·simp only[Act.put,List.setIfInBounds_toArray,List.set_cons_zero,List.set_cons_succ,i64_w,i32_w]
                 rfl
                refine take_ (i:=16) (N:=some 57) (v:=?_) (a':=?_) #[true,true,true,true,true,true,true,true,true,true,true,true,true,true,true,true,true,false,false] rfl rfl (take_ofW HT_.out HW_.out (by kernel_rfl)) (fun _ _ _ h=>h) (Or.inl ⟨by rfl,?_⟩) hHeld ?_ ?_
                rotate_left
                ·rintro w' ⟨s0,s1,s2,s3,s4,s5,s6,s7,s8,s9⟩
                 go_simp
                 with_reducible rfl
                rotate_left
                ·simp only[Act.put,List.setIfInBounds_toArray,List.set_cons_zero,List.set_cons_succ,i64_w,i32_w]
                 rfl
                refine pure_ (i:=17) (N:=some 58) (v:=?_) (a':=?_) #[true,true,true,true,true,true,true,true,true,true,true,true,true,true,true,true,true,true,false] rfl rfl (any_of HT_.out (by kernel_rfl)) (fun _ _ _ h=>h) (Or.inl ⟨by rfl,?_⟩) ?_ ?_
                rotate_left
                ·intro w'
                 go_simp
                 with_reducible rfl
                rotate_left
                ·simp only[Act.put,List.setIfInBounds_toArray,List.set_cons_zero,List.set_cons_succ,i64_w,i32_w]
                 rfl
                refine pure_ (i:=18) (N:=some 59) (v:=?_) (a':=?_) #[true,true,true,true,true,true,true,true,true,true,true,true,true,true,true,true,true,true,true] rfl rfl (any_of HT_.out (by kernel_rfl)) (fun _ _ _ h=>h) (Or.inl ⟨by rfl,?_⟩) ?_ ?_
                rotate_left
                ·intro w'
                 go_simp
                 with_reducible rfl
                rotate_left
                ·simp only[Act.put,List.setIfInBounds_toArray,List.set_cons_zero,List.set_cons_succ,i64_w,i32_w]
                 rfl
                refine done_ (done_of HT_.out (by kernel_rfl)) ?_
                have p303:0≤(x19_1:Int):=of_decide_eq_true (bD)
                have q303:x19_1 < (x278001_2.length:Int):=of_decide_eq_true (bD)
                obtain⟨ad303,A303_0,c303_0,e303,hx303_0,hx303_1,hx303_2,hl303_0,hi303_0⟩:=at_T116 (Kd.N_reads' HO_278001.out).2.2 x19_1 p303 q303
                obtain rfl:(⟨go22,0,none⟩:Addr)=ad303:=(by injection e303)
                obtain⟨ce303,hce303,hMe303,hcc303⟩:=Kd.N_get HO_278001.out z116 x19_1 p303 (by first|exact q303|exact of_decide_eq_true (bD)|(have e_:=(Kd.N_reads' HO_278001.out).1;omega))
                obtain⟨ua303_0,uc303_0,rfl,ul303_0,ge303_0⟩:=k116_openF hMe303
                have hv303_0:=hcc303 0 _ rfl
                rw[Nat.add_zero] at hv303_0
                replace hv303_0:=Option.some.inj (hv303_0.symm.trans hx303_0)
                injection hv303_0 with hva_ hvn_ hvc_
                rw[hva_] at ge303_0
                rw[hvc_] at ul303_0
                have HL303_0:=Aside0.mk (show Kd.V (Kd.int .i64) 3 _ w.heap.size _ _ ((rd_T116 x278001_2 x19_1).f0) from Kd.V_mk ul303_0 ge303_0)
                clear hva_ hvn_ hvc_ ge303_0 ul303_0 hcc303 hce303
                (first|simp only[add_plain] at hx303_0|simp only[add_at] at hx303_0|simp only[Addr.add,Nat.zero_add] at hx303_0|skip)
                (first|simp only[add_plain] at hx303_1|simp only[add_at] at hx303_1|simp only[Addr.add,Nat.zero_add] at hx303_1|skip)
                (first|simp only[add_plain] at hx303_2|simp only[add_at] at hx303_2|simp only[Addr.add,Nat.zero_add] at hx303_2|skip)
                have HR303_0:=Aside0.mk hi303_0
                have HC303_0:=Aside0.mk hl303_0
                clear hi303_0 hl303_0
                replace p303:=eq_true p303
                replace q303:=eq_true q303
                have ea_:=Option.some.inj (hx281_0.symm.trans hx303_0)
                injection ea_ with ea_ en_ ec_
                subst ea_
                subst ec_
                clear en_
                try go_wp2
                (try simp only[← hl278001_1,← hl278001_2])
                go_roundg k2
                case measure=>have:=HK1.out;have:=HK2.out;omega
                case rel=>exact⟨(x6_2),(wrap64 (x19_1+1)),(x278001_2),(bR),H',⟨by have:=HK1.out;have:=HK2.out;omega⟩,⟨by(try simp only[hl278001_1]);(try simp only[hl278001_2]);(with_reducible repeat (first|apply Kd.R_alloc|apply Kd.R_drewN|apply Kd.R_drew));exact HO_6.out⟩,⟨by(try simp only[hl278001_1]);(try simp only[hl278001_2]);(with_reducible repeat (first|apply Kd.N_alloc|apply Kd.N_drewN|apply Kd.N_drew));exact HO_278001.out⟩,⟨by(try simp only[hl278001_1]);(try simp only[hl278001_2]);(with_reducible repeat (first|refine blk_drewN ?_ _|refine blk_drew ?_|refine blk_alloc ?_ _));exact BK266.out⟩,⟨by(try simp only[hl278001_1]);(try simp only[hl278001_2]);(with_reducible repeat (first|refine blk_drewN ?_ _|refine blk_drew ?_|refine blk_alloc ?_ _));exact BK267.out⟩,⟨by(try simp only[hl278001_1]);(try simp only[hl278001_2]);(with_reducible repeat (first|refine blk_drewN ?_ _|refine blk_drew ?_|refine blk_alloc ?_ _));exact BK277.out⟩,⟨bS3 GE266.out GE267.out GE277.out⟩⟩
             ·rw[if_neg c36] at H
              exact absurd H (by simp)
            ·rw[if_neg c35] at H
             have c35b0:decide (0 < (((rd_T116 x278001_2 x19_1).f0).length:Int))=false:=decide_eq_false c35
             have c35b1:decide (0 < ((rd_T116 x278001_2 x19_1).f0).length)=false:=decide_eq_false (by omega)
             clear c35
             by_cases c61:(((rd_T116 x278001_2 x19_1).f0).length:Int)=0
             ·rw[if_pos c61] at H
              have c61b0:((((rd_T116 x278001_2 x19_1).f0).length:Int) == 0)=true:=beq_iff_eq.mpr c61
              have c61b1:((((rd_T116 x278001_2 x19_1).f0).length:Int) != 0)=false:=bne_eq_false_iff_eq.mpr c61
              clear c61
              obtain⟨y306,hy306⟩ : ∃ y_:List (S116),y_=(x278001_2.set (x19_1:Int).toNat (⟨(rd_T116 x278001_2 x19_1).f0,0,(rd_T116 x278001_2 x19_1).f2⟩:S116)):=⟨_,rfl⟩
              replace H:(impl_NextRound.l0 k2 x6_2 (t270.length:Int) (wrap64 (x19_1+1)) t269 y306 t273)=some (r1,r2,r3,r4,r5):=by first|(rw[hy306];with_reducible exact H)|(have H2_:=(Option.bind_some _ _).symm.trans H;rw[hy306];with_reducible exact H2_)|(have H2_:=(Option.bind_some _ _).symm.trans H;with_reducible exact H2_)|with_reducible exact H|(rw[hy306];exact H)|exact H
              have Ny306:=Aside0.mk hy306
              clear hy306
              have H':=Aside0.mk H
              clear H
              try go_wp2
              (try (rw[drewN_self wr];generalize hq_:World.drewN wr _=wr;have n0_:=Aside0.mk (Kd.R_at hq_ HO_6.out);have n1_:=Aside0.mk (Kd.N_at hq_ HO_278001.out);have n2_:=Aside0.mk (blk_at hq_ BK266.out);have n3_:=Aside0.mk (blk_at hq_ BK267.out);have n4_:=Aside0.mk (blk_at hq_ BK277.out);have n5_:=Aside0.mk (below_at hq_ HB.out);clear hq_ HO_6 HO_278001 BK266 BK267 BK277 HB;have HO_6:=n0_;have HO_278001:=n1_;have BK266:=n2_;have BK267:=n3_;have BK277:=n4_;have HB:=n5_;clear n0_ n1_ n2_ n3_ n4_ n5_))
              have n0_:=Aside0.mk (Kd.R_drew HO_6.out)
              have n1_:=Aside0.mk (Kd.N_drew HO_278001.out)
              have n2_:=Aside0.mk (blk_drew BK266.out)
              have n3_:=Aside0.mk (blk_drew BK267.out)
              have n4_:=Aside0.mk (blk_drew BK277.out)
              have n5_:=Aside0.mk (below_drew1 HB.out)
              clear HO_6 HO_278001 BK266 BK267 BK277 HB
              have HO_6:=n0_
              have HO_278001:=n1_
              have BK266:=n2_
              have BK267:=n3_
              have BK277:=n4_
              have HB:=n5_
              clear n0_ n1_ n2_ n3_ n4_ n5_
              have p281:0≤(x19_1:Int):=of_decide_eq_true (bD)
              have q281:x19_1 < (x278001_2.length:Int):=of_decide_eq_true (bD)
              obtain⟨ad281,A281_0,c281_0,e281,hx281_0,hx281_1,hx281_2,hl281_0,hi281_0⟩:=at_T116 (Kd.N_reads' HO_278001.out).2.2 x19_1 p281 q281
              obtain rfl:(⟨go22,0,none⟩:Addr)=ad281:=(by injection e281)
              obtain⟨ce281,hce281,hMe281,hcc281⟩:=Kd.N_get HO_278001.out z116 x19_1 p281 (by first|exact q281|exact of_decide_eq_true (bD)|(have e_:=(Kd.N_reads' HO_278001.out).1;omega))
              obtain⟨ua281_0,uc281_0,rfl,ul281_0,ge281_0⟩:=k116_openF hMe281
              have hv281_0:=hcc281 0 _ rfl
              rw[Nat.add_zero] at hv281_0
              replace hv281_0:=Option.some.inj (hv281_0.symm.trans hx281_0)
              injection hv281_0 with hva_ hvn_ hvc_
              rw[hva_] at ge281_0
              rw[hvc_] at ul281_0
              have HL281_0:=Aside0.mk (show Kd.V (Kd.int .i64) 3 _ w.heap.size _ _ ((rd_T116 x278001_2 x19_1).f0) from Kd.V_mk ul281_0 ge281_0)
              clear hva_ hvn_ hvc_ ge281_0 ul281_0 hcc281 hce281
              (first|simp only[add_plain] at hx281_0|simp only[add_at] at hx281_0|simp only[Addr.add,Nat.zero_add] at hx281_0|skip)
              (first|simp only[add_plain] at hx281_1|simp only[add_at] at hx281_1|simp only[Addr.add,Nat.zero_add] at hx281_1|skip)
              (first|simp only[add_plain] at hx281_2|simp only[add_at] at hx281_2|simp only[Addr.add,Nat.zero_add] at hx281_2|skip)
              have HR281_0:=Aside0.mk hi281_0
              have HC281_0:=Aside0.mk hl281_0
              clear hi281_0 hl281_0
              replace p281:=eq_true p281
              replace q281:=eq_true q281
              refine start_ (n:=19) (S:=fun w'=>w'.cell? ⟨go22,(x19_1).toNat * 3,none⟩=some (.slice A281_0 ((rd_T116 x278001_2 x19_1).f0).length c281_0)∧w'.cell? ⟨go22,(x19_1).toNat * 3+1,none⟩=some (.int .i64 ((rd_T116 x278001_2 x19_1).f1))∧w'.cell? ⟨go22,(x19_1).toNat * 3+2,none⟩=some (.int .i64 ((rd_T116 x278001_2 x19_1).f2))) (ds:=[]) #[false,false,false,false,false,false,false,false,false,false,false,false,false,false,false,false,false,false,false] (by kernel_rfl) rfl rfl ⟨hx281_0,hx281_1,hx281_2⟩ (fun hHeld => ?_);refine with_tabW impl_NextRound.tab10 impl_NextRound.bits10 (fun HT_ HW_ => ?_)
              generalize wr.drew=w63 at HO_6 HO_278001 BK266 BK267 BK277 HB HL281_0 HR281_0 hx281_0 hx281_1 hx281_2 hHeld ⊢
              refine pure_ (i:=0) (N:=some 41) (v:=?_) (a':=?_) #[true,false,false,false,false,false,false,false,false,false,false,false,false,false,false,false,false,false,false] rfl rfl (any_of HT_.out (by kernel_rfl)) (fun _ _ _ h=>h) (Or.inl ⟨by rfl,?_⟩) ?_ ?_
              rotate_left
              ·intro w'
               go_simp
               with_reducible rfl
              rotate_left
              ·simp only[Act.put,List.setIfInBounds_toArray,List.set_cons_zero,List.set_cons_succ,i64_w,i32_w]
               rfl
              refine pure_ (i:=1) (N:=some 42) (v:=?_) (a':=?_) #[true,true,false,false,false,false,false,false,false,false,false,false,false,false,false,false,false,false,false] rfl rfl (any_of HT_.out (by kernel_rfl)) (fun _ _ _ h=>h) (Or.inl ⟨by rfl,?_⟩) ?_ ?_
              rotate_left
              ·intro w'
               go_simp
               with_reducible rfl
              rotate_left
              ·simp only[Act.put,List.setIfInBounds_toArray,List.set_cons_zero,List.set_cons_succ,i64_w,i32_w]
               rfl
              refine pure_ (i:=2) (N:=some 43) (v:=?_) (a':=?_) #[true,true,true,false,false,false,false,false,false,false,false,false,false,false,false,false,false,false,false] rfl rfl (any_of HT_.out (by kernel_rfl)) (fun _ _ _ h=>h) (Or.inl ⟨by rfl,?_⟩) ?_ ?_
              rotate_left
              ·intro w'
               go_simp
               with_reducible rfl
              rotate_left
              ·simp only[Act.put,List.setIfInBounds_toArray,List.set_cons_zero,List.set_cons_succ,i64_w,i32_w]
               rfl
              refine take_ (i:=3) (N:=some 44) (v:=?_) (a':=?_) #[true,true,true,true,false,false,false,false,false,false,false,false,false,false,false,false,false,false,false] rfl rfl (take_ofW HT_.out HW_.out (by kernel_rfl)) (fun _ _ _ h=>h) (Or.inl ⟨by rfl,?_⟩) hHeld ?_ ?_
              rotate_left
              ·rintro w' ⟨s0,s1,s2⟩
               go_simp
               with_reducible rfl
              rotate_left
              ·simp only[Act.put,List.setIfInBounds_toArray,List.set_cons_zero,List.set_cons_succ,i64_w,i32_w]
               rfl
              refine pure_ (i:=4) (N:=some 45) (v:=?_) (a':=?_) #[true,true,true,true,true,false,false,false,false,false,false,false,false,false,false,false,false,false,false] rfl rfl (any_of HT_.out (by kernel_rfl)) (fun _ _ _ h=>h) (Or.inl ⟨by rfl,?_⟩) ?_ ?_
              rotate_left
              ·intro w'
               go_simp
               with_reducible rfl
              rotate_left
              ·simp only[Act.put,List.setIfInBounds_toArray,List.set_cons_zero,List.set_cons_succ,i64_w,i32_w]
               rfl
              refine pure_ (i:=5) (N:=some 46) (v:=?_) (a':=?_) #[true,true,true,true,true,true,false,false,false,false,false,false,false,false,false,false,false,false,false] rfl rfl (any_of HT_.out (by kernel_rfl)) (fun _ _ _ h=>h) (Or.inl ⟨by rfl,?_⟩) ?_ ?_
              rotate_left
              ·intro w'
               go_simp
               with_reducible rfl
              rotate_left
              ·simp only[Act.put,List.setIfInBounds_toArray,List.set_cons_zero,List.set_cons_succ,i64_w,i32_w]
               rfl
              refine pure_ (i:=6) (N:=some 47) (v:=?_) (a':=?_) #[true,true,true,true,true,true,true,false,false,false,false,false,false,false,false,false,false,false,false] rfl rfl (any_of HT_.out (by kernel_rfl)) (fun _ _ _ h=>h) (Or.inl ⟨by rfl,?_⟩) ?_ ?_
              rotate_left
              ·intro w'
               go_simp
               with_reducible rfl
              rotate_left
              ·simp only[Act.put,List.setIfInBounds_toArray,List.set_cons_zero,List.set_cons_succ,i64_w,i32_w]
               rfl
              refine pure_ (i:=7) (N:=some 48) (v:=undef) (a':=?_) #[true,true,true,true,true,true,true,true,false,false,false,false,false,false,false,false,false,false,false] rfl rfl (any_of HT_.out (by kernel_rfl)) (fun _ _ _ h=>h) (Or.inr ⟨by rfl,rfl⟩) ?_ ?_
              rotate_left
              ·simp only[Act.put,List.setIfInBounds_toArray,List.set_cons_zero,List.set_cons_succ,i64_w,i32_w]
               rfl
              refine pure_ (i:=8) (N:=some 49) (v:=undef) (a':=?_) #[true,true,true,true,true,true,true,true,true,false,false,false,false,false,false,false,false,false,false] rfl rfl (any_of HT_.out (by kernel_rfl)) (fun _ _ _ h=>h) (Or.inr ⟨by rfl,rfl⟩) ?_ ?_
              rotate_left
              ·simp only[Act.put,List.setIfInBounds_toArray,List.set_cons_zero,List.set_cons_succ,i64_w,i32_w]
               rfl
              refine pure_ (i:=9) (N:=some 50) (v:=undef) (a':=?_) #[true,true,true,true,true,true,true,true,true,true,false,false,false,false,false,false,false,false,false] rfl rfl (any_of HT_.out (by kernel_rfl)) (fun _ _ _ h=>h) (Or.inr ⟨by rfl,rfl⟩) ?_ ?_
              rotate_left
              ·simp only[Act.put,List.setIfInBounds_toArray,List.set_cons_zero,List.set_cons_succ,i64_w,i32_w]
               rfl
              refine pure_ (i:=10) (N:=some 51) (v:=undef) (a':=?_) #[true,true,true,true,true,true,true,true,true,true,true,false,false,false,false,false,false,false,false] rfl rfl (any_of HT_.out (by kernel_rfl)) (fun _ _ _ h=>h) (Or.inr ⟨by rfl,rfl⟩) ?_ ?_
              rotate_left
              ·simp only[Act.put,List.setIfInBounds_toArray,List.set_cons_zero,List.set_cons_succ,i64_w,i32_w]
               rfl
              refine pure_ (i:=11) (N:=some 52) (v:=undef) (a':=?_) #[true,true,true,true,true,true,true,true,true,true,true,true,false,false,false,false,false,false,false] rfl rfl (any_of HT_.out (by kernel_rfl)) (fun _ _ _ h=>h) (Or.inr ⟨by rfl,rfl⟩) ?_ ?_
              rotate_left
              ·simp only[Act.put,List.setIfInBounds_toArray,List.set_cons_zero,List.set_cons_succ,i64_w,i32_w]
               rfl
              refine pure_ (i:=12) (N:=some 53) (v:=undef) (a':=?_) #[true,true,true,true,true,true,true,true,true,true,true,true,true,false,false,false,false,false,false] rfl rfl (any_of HT_.out (by kernel_rfl)) (fun _ _ _ h=>h) (Or.inr ⟨by rfl,rfl⟩) ?_ ?_
              rotate_left
              ·simp only[Act.put,List.setIfInBounds_toArray,List.set_cons_zero,List.set_cons_succ,i64_w,i32_w]
               rfl
              refine pure_ (i:=13) (N:=some 54) (v:=undef) (a':=?_) #[true,true,true,true,true,true,true,true,true,true,true,true,true,true,false,false,false,false,false] rfl rfl (any_of HT_.out (by kernel_rfl)) (fun _ _ _ h=>h) (Or.inr ⟨by rfl,rfl⟩) ?_ ?_
              rotate_left
              ·simp only[Act.put,List.setIfInBounds_toArray,List.set_cons_zero,List.set_cons_succ,i64_w,i32_w]
               rfl
              refine pure_ (i:=14) (N:=some 55) (v:=undef) (a':=?_) #[true,true,true,true,true,true,true,true,true,true,true,true,true,true,true,false,false,false,false] rfl rfl (any_of HT_.out (by kernel_rfl)) (fun _ _ _ h=>h) (Or.inr ⟨by rfl,rfl⟩) ?_ ?_
              rotate_left
              ·simp only[Act.put,List.setIfInBounds_toArray,List.set_cons_zero,List.set_cons_succ,i64_w,i32_w]
               rfl
              refine pure_ (i:=15) (N:=some 56) (v:=undef) (a':=?_) #[true,true,true,true,true,true,true,true,true,true,true,true,true,true,true,true,false,false,false] rfl rfl (any_of HT_.out (by kernel_rfl)) (fun _ _ _ h=>h) (Or.inr ⟨by rfl,rfl⟩) ?_ ?_
              rotate_left
              ·simp only[Act.put,List.setIfInBounds_toArray,List.set_cons_zero,List.set_cons_succ,i64_w,i32_w]
               rfl
              refine pure_ (i:=16) (N:=some 57) (v:=undef) (a':=?_) #[true,true,true,true,true,true,true,true,true,true,true,true,true,true,true,true,true,false,false] rfl rfl (any_of HT_.out (by kernel_rfl)) (fun _ _ _ h=>h) (Or.inr ⟨by rfl,rfl⟩) ?_ ?_
              rotate_left
              ·simp only[Act.put,List.setIfInBounds_toArray,List.set_cons_zero,List.set_cons_succ,i64_w,i32_w]
               rfl
              refine pure_ (i:=17) (N:=some 58) (v:=undef) (a':=?_) #[true,true,true,true,true,true,true,true,true,true,true,true,true,true,true,true,true,true,false] rfl rfl (any_of HT_.out (by kernel_rfl)) (fun _ _ _ h=>h) (Or.inr ⟨by rfl,rfl⟩) ?_ ?_
              rotate_left
              ·simp only[Act.put,List.setIfInBounds_toArray,List.set_cons_zero,List.set_cons_succ,i64_w,i32_w]
               rfl
              refine pure_ (i:=18) (N:=some 59) (v:=?_) (a':=?_) #[true,true,true,true,true,true,true,true,true,true,true,true,true,true,true,true,true,true,true] rfl rfl (any_of HT_.out (by kernel_rfl)) (fun _ _ _ h=>h) (Or.inl ⟨by rfl,?_⟩) ?_ ?_
              rotate_left
              ·intro w'
               go_simp
               with_reducible rfl
              rotate_left
              ·simp only[Act.put,List.setIfInBounds_toArray,List.set_cons_zero,List.set_cons_succ,i64_w,i32_w]
               rfl
              refine done_ (done_of HT_.out (by kernel_rfl)) ?_
              have p305:0≤(x19_1:Int):=of_decide_eq_true (bD)
              have q305:x19_1 < (x278001_2.length:Int):=of_decide_eq_true (bD)
              obtain⟨ad305,A305_0,c305_0,e305,hx305_0,hx305_1,hx305_2,hl305_0,hi305_0⟩:=at_T116 (Kd.N_reads' HO_278001.out).2.2 x19_1 p305 q305
              obtain rfl:(⟨go22,0,none⟩:Addr)=ad305:=(by injection e305)
              obtain⟨ce305,hce305,hMe305,hcc305⟩:=Kd.N_get HO_278001.out z116 x19_1 p305 (by first|exact q305|exact of_decide_eq_true (bD)|(have e_:=(Kd.N_reads' HO_278001.out).1;omega))
              obtain⟨ua305_0,uc305_0,rfl,ul305_0,ge305_0⟩:=k116_openF hMe305
              have hv305_0:=hcc305 0 _ rfl
              rw[Nat.add_zero] at hv305_0
              replace hv305_0:=Option.some.inj (hv305_0.symm.trans hx305_0)
              injection hv305_0 with hva_ hvn_ hvc_
              rw[hva_] at ge305_0
              rw[hvc_] at ul305_0
              have HL305_0:=Aside0.mk (show Kd.V (Kd.int .i64) 3 _ w.heap.size _ _ ((rd_T116 x278001_2 x19_1).f0) from Kd.V_mk ul305_0 ge305_0)
              clear hva_ hvn_ hvc_ ge305_0 ul305_0 hcc305 hce305
              (first|simp only[add_plain] at hx305_0|simp only[add_at] at hx305_0|simp only[Addr.add,Nat.zero_add] at hx305_0|skip)
              (first|simp only[add_plain] at hx305_1|simp only[add_at] at hx305_1|simp only[Addr.add,Nat.zero_add] at hx305_1|skip)
              (first|simp only[add_plain] at hx305_2|simp only[add_at] at hx305_2|simp only[Addr.add,Nat.zero_add] at hx305_2|skip)
              have HR305_0:=Aside0.mk hi305_0
              have HC305_0:=Aside0.mk hl305_0
              clear hi305_0 hl305_0
              replace p305:=eq_true p305
              replace q305:=eq_true q305
              have ea_:=Option.some.inj (hx281_0.symm.trans hx305_0)
              injection ea_ with ea_ en_ ec_
              subst ea_
              subst ec_
              clear en_
              have p62:0≤(x19_1:Int):=of_decide_eq_true (bD)
              have q62:(x19_1:Int) < ((x278001_2.length:Int):Int):=of_decide_eq_true (bD)
              obtain⟨ce62,hcl62,hM62,hcc62,hfr62⟩:=Kd.N_elem HO_278001.out z116 (x19_1:Int) p62 q62
              obtain⟨ua62_0,uc62_0,rfl,ul62_0,ge62_0⟩:=k116_openF hM62
              have hx62_0:w63.cell? ⟨go22,(x19_1:Int).toNat * 3,none⟩=some (.slice ua62_0 ((rd_T116 x278001_2 x19_1).f0).length uc62_0):=hcc62 0 _ rfl
              have hx62_1:w63.cell? ⟨go22,(x19_1:Int).toNat * 3+1,none⟩=some (.int .i64 ((rd_T116 x278001_2 x19_1).f1)):=hcc62 1 _ rfl
              have hx62_2:w63.cell? ⟨go22,(x19_1:Int).toNat * 3+2,none⟩=some (.int .i64 ((rd_T116 x278001_2 x19_1).f2)):=hcc62 2 _ rfl
              have hf62_0:w63.frozen? ⟨go22,(x19_1:Int).toNat * 3,none⟩=false:=hfr62 0
              have hf62_1:w63.frozen? ⟨go22,(x19_1:Int).toNat * 3+1,none⟩=false:=hfr62 1
              have hf62_2:w63.frozen? ⟨go22,(x19_1:Int).toNat * 3+2,none⟩=false:=hfr62 2
              clear hcl62 hcc62 hfr62 hM62
              replace p62:=eq_true p62
              replace q62:=eq_true q62
              have HX64:=Aside0.mk (show Kd.N k116 116 w63 w.heap.size (fun k_=>(w.heap.size≤k_)∧some k_≠(u6:Value).ownBlock∧k_≠gb266∧k_≠gb267∧k_≠gb277) (.slice (some ⟨go22,0,none⟩) x278001_2.length co18) x278001_2 from (by(with_reducible repeat (first|apply Kd.N_alloc|apply Kd.N_drewN|apply Kd.N_drew));exact HO_278001.out))
              obtain⟨ce64,hcl64,hM64,hcc64,hfr64⟩:=Kd.N_elem HX64.out z116 (x19_1:Int) (of_decide_eq_true (bD)) (by have h_:(x19_1:Int) < ((x278001_2.length:Int):Int):=of_decide_eq_true (bD);first|exact h_|(have e_:=(Kd.N_reads' HO_278001.out).1;omega)|simpa using h_)
              obtain⟨ua64_0,uc64_0,rfl,ul64_0,ge64_0⟩:=k116_openF hM64
              have HP64:=Kd.N_seg HX64.out (x19_1:Int) (of_decide_eq_true (bD)) (by have h_:(x19_1:Int) < ((x278001_2.length:Int):Int):=of_decide_eq_true (bD);first|exact h_|(have e_:=(Kd.N_reads' HO_278001.out).1;omega)|simpa using h_) (seg:=[.int .i64 0]) (j:=1) hcl64 hcc64 (show 2≤3 from by decide) (x':=(⟨(rd_T116 x278001_2 x19_1).f0,0,(rd_T116 x278001_2 x19_1).f2⟩:S116)) (k116_mkF _ _ (⟨(rd_T116 x278001_2 x19_1).f0,0,(rd_T116 x278001_2 x19_1).f2⟩:S116) ul64_0 ge64_0) (fun _ hk=>hk)
              have hx64_1:=hcc64 1 _ rfl
              (try simp only[show(k116).sz=3 from rfl,Nat.mul_one,Nat.add_zero] at hx64_1)
              have hf64_1:=hfr64 1
              (try simp only[show(k116).sz=3 from rfl,Nat.mul_one,Nat.add_zero] at hf64_1)
              clear hcl64 hcc64 hfr64 hM64
              try go_wp2_with (first|((with_reducible refine gate_store (t:=3) (p:=106) rfl ?_);refine store_event (t:=3) (p:=106) (v:=?vo_w65) (w1:=(w63.setCell ⟨go22,(x19_1:Int).toNat * 3+1,none⟩ (.int .i64 0))) ?hg ?ho ?hn ?hr ?_;(case ho=>rfl);(case hg=>rfl);(case hn=>rfl);(case hr=>first|(go_simp;done)|(go_simp;rfl));intro w65 hw;have hg:w63.grownBy w65 (some go22):=(by rw[hw];exact HP64.2);have hp_:Kd.N k116 116 w65 w.heap.size (fun k_=>(w.heap.size≤k_)∧some k_≠(u6:Value).ownBlock∧k_≠gb266∧k_≠gb267∧k_≠gb277) (.slice (some ⟨go22,0,none⟩) x278001_2.length co18) y306:=(by rw[hw,Ny306.out];exact HP64.1);clear HP64;have n0_:=Aside0.mk (Kd.R_over' (v:=(.slice (some ⟨go22,0,none⟩) x278001_2.length co18)) (bK HO_6.out) (Kd.N_typed HO_278001.out) (by decide) hg);have n1_:=Aside0.mk (hp_);have n2_:=Aside0.mk (blk_grown (g:=gb266) (o:=.cells #[.int .i64 a0_0,.slice A0_1 l0_1.length c0_1,.int .i64 a0_2] 28 (0,0)) (bL BK266.out) hg (Kd.N_ne HO_278001.out BK266.out (by decide)));have n3_:=Aside0.mk (blk_grown (g:=gb267) (o:=.cells #[.int .i64 0,.slice none 0 0,.int .i64 0] 28 (0,0)) (bL BK267.out) hg (Kd.N_ne HO_278001.out BK267.out (by decide)));have n4_:=Aside0.mk (blk_grown (g:=gb277) (o:=.cells #[.int .i64 t269,.slice (some ⟨go22,0,none⟩) x278001_2.length co18,.int .i64 t273] 28 (0,0)) (bL BK277.out) hg (Kd.N_ne HO_278001.out BK277.out (by decide)));have n5_:=Aside0.mk (Kd.V_afterv (v:=(.slice (some ⟨go22,0,none⟩) x278001_2.length co18)) (v1:=(.slice (some ⟨go22,0,none⟩) x278001_2.length co18)) (ok:=(fun k_=>(w.heap.size≤k_)∧some k_≠(u6:Value).ownBlock∧k_≠gb266∧k_≠gb267∧k_≠gb277)) (by(with_reducible repeat (first|apply Kd.V_alloc|apply Kd.V_drewN|apply Kd.V_drew));exact HL281_0.out) hg (.inl rfl));have n6_:=Aside0.mk (Kd.V_afterv (v:=(.slice (some ⟨go22,0,none⟩) x278001_2.length co18)) (v1:=(.slice (some ⟨go22,0,none⟩) x278001_2.length co18)) (ok:=(fun k_=>(w.heap.size≤k_)∧some k_≠(u6:Value).ownBlock∧k_≠gb266∧k_≠gb267∧k_≠gb277)) (by(with_reducible repeat (first|apply Kd.V_alloc|apply Kd.V_drewN|apply Kd.V_drew));exact HL305_0.out) hg (.inl rfl));have n7_:=Aside0.mk ((by rw[hw];exact below_set (HB.out) GB22.out:Below w.heap.size w w65));clear HO_6 HO_278001 BK266 BK267 BK277 HL281_0 HL305_0 HB;have HO_6:=n0_;have HO_278001:=n1_;have BK266:=n2_;have BK267:=n3_;have BK277:=n4_;have HL281_0:=n5_;have HL305_0:=n6_;have HB:=n7_;clear n0_ n1_ n2_ n3_ n4_ n5_ n6_ n7_;clear hg hw hp_))
              (try simp only[← hl278001_1,← hl278001_2])
              go_roundg k2
              case measure=>have:=HK1.out;have:=HK2.out;omega
              case rel=>exact⟨(x6_2),(wrap64 (x19_1+1)),(y306),(bR),H',⟨by have:=HK1.out;have:=HK2.out;omega⟩,⟨by(try simp only[hl278001_1]);(try simp only[hl278001_2]);(with_reducible repeat (first|apply Kd.R_alloc|apply Kd.R_drewN|apply Kd.R_drew));exact HO_6.out⟩,⟨by(try simp only[hl278001_1]);(try simp only[hl278001_2]);(with_reducible repeat (first|apply Kd.N_alloc|apply Kd.N_drewN|apply Kd.N_drew));exact HO_278001.out⟩,⟨by(try simp only[hl278001_1]);(try simp only[hl278001_2]);(with_reducible repeat (first|refine blk_drewN ?_ _|refine blk_drew ?_|refine blk_alloc ?_ _));exact BK266.out⟩,⟨by(try simp only[hl278001_1]);(try simp only[hl278001_2]);(with_reducible repeat (first|refine blk_drewN ?_ _|refine blk_drew ?_|refine blk_alloc ?_ _));exact BK267.out⟩,⟨by(try simp only[hl278001_1]);(try simp only[hl278001_2]);(with_reducible repeat (first|refine blk_drewN ?_ _|refine blk_drew ?_|refine blk_alloc ?_ _));exact BK277.out⟩,⟨bS3 GE266.out GE267.out GE277.out⟩⟩
             ·rw[if_neg c61] at H
              have c61b0:((((rd_T116 x278001_2 x19_1).f0).length:Int) == 0)=false:=beq_eq_false_iff_ne.mpr c61
              have c61b1:((((rd_T116 x278001_2 x19_1).f0).length:Int) != 0)=true:=bne_iff_ne.mpr c61
              have c61b2 : ¬ (((rd_T116 x278001_2 x19_1).f0)=[]):=fun h_=>c61 (by rw[h_];rfl)
              have H':=Aside0.mk H
              clear H
              try go_wp2
              (try (rw[drewN_self wr];generalize hq_:World.drewN wr _=wr;have n0_:=Aside0.mk (Kd.R_at hq_ HO_6.out);have n1_:=Aside0.mk (Kd.N_at hq_ HO_278001.out);have n2_:=Aside0.mk (blk_at hq_ BK266.out);have n3_:=Aside0.mk (blk_at hq_ BK267.out);have n4_:=Aside0.mk (blk_at hq_ BK277.out);have n5_:=Aside0.mk (below_at hq_ HB.out);clear hq_ HO_6 HO_278001 BK266 BK267 BK277 HB;have HO_6:=n0_;have HO_278001:=n1_;have BK266:=n2_;have BK267:=n3_;have BK277:=n4_;have HB:=n5_;clear n0_ n1_ n2_ n3_ n4_ n5_))
              have n0_:=Aside0.mk (Kd.R_drew HO_6.out)
              have n1_:=Aside0.mk (Kd.N_drew HO_278001.out)
              have n2_:=Aside0.mk (blk_drew BK266.out)
              have n3_:=Aside0.mk (blk_drew BK267.out)
              have n4_:=Aside0.mk (blk_drew BK277.out)
              have n5_:=Aside0.mk (below_drew1 HB.out)
              clear HO_6 HO_278001 BK266 BK267 BK277 HB
              have HO_6:=n0_
              have HO_278001:=n1_
              have BK266:=n2_
              have BK267:=n3_
              have BK277:=n4_
              have HB:=n5_
              clear n0_ n1_ n2_ n3_ n4_ n5_
              have p281:0≤(x19_1:Int):=of_decide_eq_true (bD)
              have q281:x19_1 < (x278001_2.length:Int):=of_decide_eq_true (bD)
              obtain⟨ad281,A281_0,c281_0,e281,hx281_0,hx281_1,hx281_2,hl281_0,hi281_0⟩:=at_T116 (Kd.N_reads' HO_278001.out).2.2 x19_1 p281 q281
              obtain rfl:(⟨go22,0,none⟩:Addr)=ad281:=(by injection e281)
              obtain⟨ce281,hce281,hMe281,hcc281⟩:=Kd.N_get HO_278001.out z116 x19_1 p281 (by first|exact q281|exact of_decide_eq_true (bD)|(have e_:=(Kd.N_reads' HO_278001.out).1;omega))
              obtain⟨ua281_0,uc281_0,rfl,ul281_0,ge281_0⟩:=k116_openF hMe281
              have hv281_0:=hcc281 0 _ rfl
              rw[Nat.add_zero] at hv281_0
              replace hv281_0:=Option.some.inj (hv281_0.symm.trans hx281_0)
              injection hv281_0 with hva_ hvn_ hvc_
              rw[hva_] at ge281_0
              rw[hvc_] at ul281_0
              have HL281_0:=Aside0.mk (show Kd.V (Kd.int .i64) 3 _ w.heap.size _ _ ((rd_T116 x278001_2 x19_1).f0) from Kd.V_mk ul281_0 ge281_0)
              clear hva_ hvn_ hvc_ ge281_0 ul281_0 hcc281 hce281
              (first|simp only[add_plain] at hx281_0|simp only[add_at] at hx281_0|simp only[Addr.add,Nat.zero_add] at hx281_0|skip)
              (first|simp only[add_plain] at hx281_1|simp only[add_at] at hx281_1|simp only[Addr.add,Nat.zero_add] at hx281_1|skip)
              (first|simp only[add_plain] at hx281_2|simp only[add_at] at hx281_2|simp only[Addr.add,Nat.zero_add] at hx281_2|skip)
              have HR281_0:=Aside0.mk hi281_0
              have HC281_0:=Aside0.mk hl281_0
              clear hi281_0 hl281_0
              replace p281:=eq_true p281
              replace q281:=eq_true q281
              refine start_ (n:=19) (S:=fun w'=>w'.cell? ⟨go22,(x19_1).toNat * 3,none⟩=some (.slice A281_0 ((rd_T116 x278001_2 x19_1).f0).length c281_0)∧w'.cell? ⟨go22,(x19_1).toNat * 3+1,none⟩=some (.int .i64 ((rd_T116 x278001_2 x19_1).f1))∧w'.cell? ⟨go22,(x19_1).toNat * 3+2,none⟩=some (.int .i64 ((rd_T116 x278001_2 x19_1).f2))) (ds:=[]) #[false,false,false,false,false,false,false,false,false,false,false,false,false,false,false,false,false,false,false] (by kernel_rfl) rfl rfl ⟨hx281_0,hx281_1,hx281_2⟩ (fun hHeld => ?_);refine with_tabW impl_NextRound.tab10 impl_NextRound.bits10 (fun HT_ HW_ => ?_)
              generalize wr.drew=w66 at HO_6 HO_278001 BK266 BK267 BK277 HB HL281_0 HR281_0 hx281_0 hx281_1 hx281_2 hHeld ⊢
              refine pure_ (i:=0) (N:=some 41) (v:=?_) (a':=?_) #[true,false,false,false,false,false,false,false,false,false,false,false,false,false,false,false,false,false,false] rfl rfl (any_of HT_.out (by kernel_rfl)) (fun _ _ _ h=>h) (Or.inl ⟨by rfl,?_⟩) ?_ ?_
              rotate_left
              ·intro w'
               go_simp
               with_reducible rfl
              rotate_left
              ·simp only[Act.put,List.setIfInBounds_toArray,List.set_cons_zero,List.set_cons_succ,i64_w,i32_w]
               rfl
              refine pure_ (i:=1) (N:=some 42) (v:=?_) (a':=?_) #[true,true,false,false,false,false,false,false,false,false,false,false,false,false,false,false,false,false,false] rfl rfl (any_of HT_.out (by kernel_rfl)) (fun _ _ _ h=>h) (Or.inl ⟨by rfl,?_⟩) ?_ ?_
              rotate_left
              ·intro w'
               go_simp
               with_reducible rfl
              rotate_left
              ·simp only[Act.put,List.setIfInBounds_toArray,List.set_cons_zero,List.set_cons_succ,i64_w,i32_w]
               rfl
              refine pure_ (i:=2) (N:=some 43) (v:=?_) (a':=?_) #[true,true,true,false,false,false,false,false,false,false,false,false,false,false,false,false,false,false,false] rfl rfl (any_of HT_.out (by kernel_rfl)) (fun _ _ _ h=>h) (Or.inl ⟨by rfl,?_⟩) ?_ ?_
              rotate_left
              ·intro w'
               go_simp
               with_reducible rfl
              rotate_left
              ·simp only[Act.put,List.setIfInBounds_toArray,List.set_cons_zero,List.set_cons_succ,i64_w,i32_w]
               rfl
              refine take_ (i:=3) (N:=some 44) (v:=?_) (a':=?_) #[true,true,true,true,false,false,false,false,false,false,false,false,false,false,false,false,false,false,false] rfl rfl (take_ofW HT_.out HW_.out (by kernel_rfl)) (fun _ _ _ h=>h) (Or.inl ⟨by rfl,?_⟩) hHeld ?_ ?_
              rotate_left
              ·rintro w' ⟨s0,s1,s2⟩
               go_simp
               with_reducible rfl
              rotate_left
              ·simp only[Act.put,List.setIfInBounds_toArray,List.set_cons_zero,List.set_cons_succ,i64_w,i32_w]
               rfl
              refine pure_ (i:=4) (N:=some 45) (v:=?_) (a':=?_) #[true,true,true,true,true,false,false,false,false,false,false,false,false,false,false,false,false,false,false] rfl rfl (any_of HT_.out (by kernel_rfl)) (fun _ _ _ h=>h) (Or.inl ⟨by rfl,?_⟩) ?_ ?_
              rotate_left
              ·intro w'
               go_simp
               with_reducible rfl
              rotate_left
              ·simp only[Act.put,List.setIfInBounds_toArray,List.set_cons_zero,List.set_cons_succ,i64_w,i32_w]
               rfl
              refine pure_ (i:=5) (N:=some 46) (v:=?_) (a':=?_) #[true,true,true,true,true,true,false,false,false,false,false,false,false,false,false,false,false,false,false] rfl rfl (any_of HT_.out (by kernel_rfl)) (fun _ _ _ h=>h) (Or.inl ⟨by rfl,?_⟩) ?_ ?_
              rotate_left
              ·intro w'
               go_simp
               with_reducible rfl
              rotate_left
              ·simp only[Act.put,List.setIfInBounds_toArray,List.set_cons_zero,List.set_cons_succ,i64_w,i32_w]
               rfl
              refine pure_ (i:=6) (N:=some 47) (v:=?_) (a':=?_) #[true,true,true,true,true,true,true,false,false,false,false,false,false,false,false,false,false,false,false] rfl rfl (any_of HT_.out (by kernel_rfl)) (fun _ _ _ h=>h) (Or.inl ⟨by rfl,?_⟩) ?_ ?_
              rotate_left
              ·intro w'
               go_simp
               with_reducible rfl
              rotate_left
              ·simp only[Act.put,List.setIfInBounds_toArray,List.set_cons_zero,List.set_cons_succ,i64_w,i32_w]
               rfl
              refine pure_ (i:=7) (N:=some 48) (v:=undef) (a':=?_) #[true,true,true,true,true,true,true,true,false,false,false,false,false,false,false,false,false,false,false] rfl rfl (any_of HT_.out (by kernel_rfl)) (fun _ _ _ h=>h) (Or.inr ⟨by rfl,rfl⟩) ?_ ?_
              rotate_left
              ·simp only[Act.put,List.setIfInBounds_toArray,List.set_cons_zero,List.set_cons_succ,i64_w,i32_w]
               rfl
              refine pure_ (i:=8) (N:=some 49) (v:=undef) (a':=?_) #[true,true,true,true,true,true,true,true,true,false,false,false,false,false,false,false,false,false,false] rfl rfl (any_of HT_.out (by kernel_rfl)) (fun _ _ _ h=>h) (Or.inr ⟨by rfl,rfl⟩) ?_ ?_
              rotate_left
              ·simp only[Act.put,List.setIfInBounds_toArray,List.set_cons_zero,List.set_cons_succ,i64_w,i32_w]
               rfl
              refine pure_ (i:=9) (N:=some 50) (v:=undef) (a':=?_) #[true,true,true,true,true,true,true,true,true,true,false,false,false,false,false,false,false,false,false] rfl rfl (any_of HT_.out (by kernel_rfl)) (fun _ _ _ h=>h) (Or.inr ⟨by rfl,rfl⟩) ?_ ?_
              rotate_left
              ·simp only[Act.put,List.setIfInBounds_toArray,List.set_cons_zero,List.set_cons_succ,i64_w,i32_w]
               rfl
              refine pure_ (i:=10) (N:=some 51) (v:=undef) (a':=?_) #[true,true,true,true,true,true,true,true,true,true,true,false,false,false,false,false,false,false,false] rfl rfl (any_of HT_.out (by kernel_rfl)) (fun _ _ _ h=>h) (Or.inr ⟨by rfl,rfl⟩) ?_ ?_
              rotate_left
              ·simp only[Act.put,List.setIfInBounds_toArray,List.set_cons_zero,List.set_cons_succ,i64_w,i32_w]
               rfl
              refine pure_ (i:=11) (N:=some 52) (v:=undef) (a':=?_) #[true,true,true,true,true,true,true,true,true,true,true,true,false,false,false,false,false,false,false] rfl rfl (any_of HT_.out (by kernel_rfl)) (fun _ _ _ h=>h) (Or.inr ⟨by rfl,rfl⟩) ?_ ?_
              rotate_left
              ·simp only[Act.put,List.setIfInBounds_toArray,List.set_cons_zero,List.set_cons_succ,i64_w,i32_w]
               rfl
              refine pure_ (i:=12) (N:=some 53) (v:=undef) (a':=?_) #[true,true,true,true,true,true,true,true,true,true,true,true,true,false,false,false,false,false,false] rfl rfl (any_of HT_.out (by kernel_rfl)) (fun _ _ _ h=>h) (Or.inr ⟨by rfl,rfl⟩) ?_ ?_
              rotate_left
              ·simp only[Act.put,List.setIfInBounds_toArray,List.set_cons_zero,List.set_cons_succ,i64_w,i32_w]
               rfl
              refine pure_ (i:=13) (N:=some 54) (v:=undef) (a':=?_) #[true,true,true,true,true,true,true,true,true,true,true,true,true,true,false,false,false,false,false] rfl rfl (any_of HT_.out (by kernel_rfl)) (fun _ _ _ h=>h) (Or.inr ⟨by rfl,rfl⟩) ?_ ?_
              rotate_left
              ·simp only[Act.put,List.setIfInBounds_toArray,List.set_cons_zero,List.set_cons_succ,i64_w,i32_w]
               rfl
              refine pure_ (i:=14) (N:=some 55) (v:=undef) (a':=?_) #[true,true,true,true,true,true,true,true,true,true,true,true,true,true,true,false,false,false,false] rfl rfl (any_of HT_.out (by kernel_rfl)) (fun _ _ _ h=>h) (Or.inr ⟨by rfl,rfl⟩) ?_ ?_
              rotate_left
              ·simp only[Act.put,List.setIfInBounds_toArray,List.set_cons_zero,List.set_cons_succ,i64_w,i32_w]
               rfl
              refine pure_ (i:=15) (N:=some 56) (v:=undef) (a':=?_) #[true,true,true,true,true,true,true,true,true,true,true,true,true,true,true,true,false,false,false] rfl rfl (any_of HT_.out (by kernel_rfl)) (fun _ _ _ h=>h) (Or.inr ⟨by rfl,rfl⟩) ?_ ?_
              rotate_left
              ·simp only[Act.put,List.setIfInBounds_toArray,List.set_cons_zero,List.set_cons_succ,i64_w,i32_w]
               rfl
              refine pure_ (i:=16) (N:=some 57) (v:=undef) (a':=?_) #[true,true,true,true,true,true,true,true,true,true,true,true,true,true,true,true,true,false,false] rfl rfl (any_of HT_.out (by kernel_rfl)) (fun _ _ _ h=>h) (Or.inr ⟨by rfl,rfl⟩) ?_ ?_
              rotate_left
              ·simp only[Act.put,List.setIfInBounds_toArray,List.set_cons_zero,List.set_cons_succ,i64_w,i32_w]
               rfl
              refine pure_ (i:=17) (N:=some 58) (v:=undef) (a':=?_) #[true,true,true,true,true,true,true,true,true,true,true,true,true,true,true,true,true,true,false] rfl rfl (any_of HT_.out (by kernel_rfl)) (fun _ _ _ h=>h) (Or.inr ⟨by rfl,rfl⟩) ?_ ?_
              rotate_left
              ·simp only[Act.put,List.setIfInBounds_toArray,List.set_cons_zero,List.set_cons_succ,i64_w,i32_w]
               rfl
              refine pure_ (i:=18) (N:=some 59) (v:=?_) (a':=?_) #[true,true,true,true,true,true,true,true,true,true,true,true,true,true,true,true,true,true,true] rfl rfl (any_of HT_.out (by kernel_rfl)) (fun _ _ _ h=>h) (Or.inl ⟨by rfl,?_⟩) ?_ ?_
              rotate_left
              ·intro w'
               go_simp
               with_reducible rfl
              rotate_left
              ·simp only[Act.put,List.setIfInBounds_toArray,List.set_cons_zero,List.set_cons_succ,i64_w,i32_w]
               rfl
              refine done_ (done_of HT_.out (by kernel_rfl)) ?_
              have p305:0≤(x19_1:Int):=of_decide_eq_true (bD)
              have q305:x19_1 < (x278001_2.length:Int):=of_decide_eq_true (bD)
              obtain⟨ad305,A305_0,c305_0,e305,hx305_0,hx305_1,hx305_2,hl305_0,hi305_0⟩:=at_T116 (Kd.N_reads' HO_278001.out).2.2 x19_1 p305 q305
              obtain rfl:(⟨go22,0,none⟩:Addr)=ad305:=(by injection e305)
              obtain⟨ce305,hce305,hMe305,hcc305⟩:=Kd.N_get HO_278001.out z116 x19_1 p305 (by first|exact q305|exact of_decide_eq_true (bD)|(have e_:=(Kd.N_reads' HO_278001.out).1;omega))
              obtain⟨ua305_0,uc305_0,rfl,ul305_0,ge305_0⟩:=k116_openF hMe305
              have hv305_0:=hcc305 0 _ rfl
              rw[Nat.add_zero] at hv305_0
              replace hv305_0:=Option.some.inj (hv305_0.symm.trans hx305_0)
              injection hv305_0 with hva_ hvn_ hvc_
              rw[hva_] at ge305_0
              rw[hvc_] at ul305_0
              have HL305_0:=Aside0.mk (show Kd.V (Kd.int .i64) 3 _ w.heap.size _ _ ((rd_T116 x278001_2 x19_1).f0) from Kd.V_mk ul305_0 ge305_0)
              clear hva_ hvn_ hvc_ ge305_0 ul305_0 hcc305 hce305
              (first|simp only[add_plain] at hx305_0|simp only[add_at] at hx305_0|simp only[Addr.add,Nat.zero_add] at hx305_0|skip)
              (first|simp only[add_plain] at hx305_1|simp only[add_at] at hx305_1|simp only[Addr.add,Nat.zero_add] at hx305_1|skip)
              (first|simp only[add_plain] at hx305_2|simp only[add_at] at hx305_2|simp only[Addr.add,Nat.zero_add] at hx305_2|skip)
              have HR305_0:=Aside0.mk hi305_0
              have HC305_0:=Aside0.mk hl305_0
              clear hi305_0 hl305_0
              replace p305:=eq_true p305
              replace q305:=eq_true q305
              have ea_:=Option.some.inj (hx281_0.symm.trans hx305_0)
              injection ea_ with ea_ en_ ec_
              subst ea_
              subst ec_
              clear en_
              try go_wp2
              (try simp only[← hl278001_1,← hl278001_2])
              go_roundg k2
              case measure=>have:=HK1.out;have:=HK2.out;omega
              case rel=>exact⟨(x6_2),(wrap64 (x19_1+1)),(x278001_2),(bR),H',⟨by have:=HK1.out;have:=HK2.out;omega⟩,⟨by(try simp only[hl278001_1]);(try simp only[hl278001_2]);(with_reducible repeat (first|apply Kd.R_alloc|apply Kd.R_drewN|apply Kd.R_drew));exact HO_6.out⟩,⟨by(try simp only[hl278001_1]);(try simp only[hl278001_2]);(with_reducible repeat (first|apply Kd.N_alloc|apply Kd.N_drewN|apply Kd.N_drew));exact HO_278001.out⟩,⟨by(try simp only[hl278001_1]);(try simp only[hl278001_2]);(with_reducible repeat (first|refine blk_drewN ?_ _|refine blk_drew ?_|refine blk_alloc ?_ _));exact BK266.out⟩,⟨by(try simp only[hl278001_1]);(try simp only[hl278001_2]);(with_reducible repeat (first|refine blk_drewN ?_ _|refine blk_drew ?_|refine blk_alloc ?_ _));exact BK267.out⟩,⟨by(try simp only[hl278001_1]);(try simp only[hl278001_2]);(with_reducible repeat (first|refine blk_drewN ?_ _|refine blk_drew ?_|refine blk_alloc ?_ _));exact BK277.out⟩,⟨bS3 GE266.out GE267.out GE277.out⟩⟩
           ·rw[if_neg c34] at H
            exact absurd H (by simp)
          ·rw[if_neg c33] at H
           exact absurd H (by simp)
      ·rw[if_neg c21] at H
       exact absurd H (by simp)
     ·rw[if_neg c20] at H
      exact absurd H (by simp)
    ·rw[if_neg c19] at H
     have c19b0:decide (x19_1 < (t270.length:Int))=false:=decide_eq_false c19
     have c19z_:=c19b0
     (try simp only[hl278001_1] at c19z_)
     clear c19
     replace H:=Option.bind_eq_some_iff.mp H
     obtain⟨t307,A670,H⟩:=H
     replace H:(if t307=true then ((impl_Turns_copied.f t269 x278001_1 (wrap64 (t273+1))).bind fun bt308=>(some (bt308.1,bt308.2.1,bt308.2.2,x6_1,true))) else (some (0,([]:List (S116)),0,([]:List Int),false)))=some (r1,r2,r3,r4,r5):=H
     have A67:=Aside0.mk A670
     clear A670
     by_cases c68:t307=true
     ·subst c68
      have H1:((impl_Turns_copied.f t269 x278001_1 (wrap64 (t273+1))).bind fun bt308=>(some (bt308.1,bt308.2.1,bt308.2.2,x6_1,true)))=some (r1,r2,r3,r4,r5):=by rw[if_pos rfl] at H;exact H
      clear H
      have H:=H1
      clear H1
      replace H:=Option.bind_eq_some_iff.mp H
      obtain⟨⟨t308,t309,t312⟩,A690,H⟩:=H
      replace H:(some (t308,t309,t312,x6_1,true))=some (r1,r2,r3,r4,r5):=H
      have A69:=Aside0.mk A690
      clear A690
      simp only[Option.some.injEq,Prod.mk.injEq] at H
      obtain⟨rfl,rfl,rfl,rfl,rfl⟩:=H
      have hnb70:=NB277_266.out
      have hnc70:=NB266_277.out
      have hnb71:=NB277_267.out
      have hnc71:=NB267_277.out
      obtain⟨hcz72_0,hcz72_1,hcz72_2⟩:=cC3 BK277.out
      obtain⟨hfz72_0,hfz72_1,hfz72_2⟩:=cF3 BK277.out
      go_wp2_with (first|((with_reducible refine gate_callee (f:=78) rfl ?_);refine goesA (some 113) rfl rfl Try.func78 #[.agg #[.int .i64 t269,.slice Ao18 x278001_1.length co18,.int .i64 (wrap64 (t273+1))]] rfl ?_;(with_reducible refine(impl_GoodTurns.calls k1 t269 _ _ x278001_1 (wrap64 (t273+1)) true _ ?side1 ?side2 A67.out).mono ?_);(case side1=>refine(Kd.N_reads' (e:=116) (base:=w.heap.size) (ok:=fun k_=>((w.heap.size≤k_)∧(some k_≠(u6:Value).ownBlock∧(k_≠gb266∧(k_≠gb267∧k_≠gb277))))) (n:=x278001_1.length) (c:=co18) ?_).2.2;exact(by(with_reducible repeat (first|apply Kd.N_alloc|apply Kd.N_drewN|apply Kd.N_drew));exact(Kd.N_mono (Kd.N_far (p:=⟨gb277,2,none⟩) (Kd.N_mono HO_278001.out (fun k_ hk=>(⟨hk,hk.2.2.2.2⟩:_∧k_≠gb277))) (fun _ hk=>hk.2) (.int .i64 (wrap64 (t273+1)))) (fun _ h_=>h_.1))));(case side2=>exact(Kd.N_reads' HO_278001.out).2.1);rintro e w73 ⟨rfl,hb⟩;refine⟨_,rfl,?_⟩;have n0_:=Aside0.mk (Kd.R_below (by(with_reducible repeat (first|apply Kd.R_alloc|apply Kd.R_drewN|apply Kd.R_drew));exact(Kd.R_mono (Kd.R_far (p:=⟨gb277,2,none⟩) (Kd.R_types HO_6.out BK277.out (by decide)) (fun _ hk=>hk.2) (.int .i64 (wrap64 (t273+1)))) (fun _ h_=>h_.1))) hb);have n1_:=Aside0.mk (Kd.N_below (by(with_reducible repeat (first|apply Kd.N_alloc|apply Kd.N_drewN|apply Kd.N_drew));exact(Kd.N_mono (Kd.N_far (p:=⟨gb277,2,none⟩) (Kd.N_mono HO_278001.out (fun k_ hk=>(⟨hk,hk.2.2.2.2⟩:_∧k_≠gb277))) (fun _ hk=>hk.2) (.int .i64 (wrap64 (t273+1)))) (fun _ h_=>h_.1))) hb);have n2_:=Aside0.mk (blk_below (g:=gb266) (o:=.cells #[.int .i64 a0_0,.slice A0_1 l0_1.length c0_1,.int .i64 a0_2] 28 (0,0)) (by(with_reducible repeat (first|refine blk_drewN ?_ _|refine blk_drew ?_|refine blk_alloc ?_ _));refine blk_far ?_ NB266_277.out _;(with_reducible repeat (first|refine blk_drewN ?_ _|refine blk_drew ?_|refine blk_alloc ?_ _));exact BK266.out) hb);have n3_:=Aside0.mk (blk_below (g:=gb267) (o:=.cells #[.int .i64 0,.slice none 0 0,.int .i64 0] 28 (0,0)) (by(with_reducible repeat (first|refine blk_drewN ?_ _|refine blk_drew ?_|refine blk_alloc ?_ _));refine blk_far ?_ NB267_277.out _;(with_reducible repeat (first|refine blk_drewN ?_ _|refine blk_drew ?_|refine blk_alloc ?_ _));exact BK267.out) hb);have n4_:=Aside0.mk (blk_below (g:=gb277) (o:=.cells #[.int .i64 t269,.slice Ao18 x278001_1.length co18,.int .i64 (wrap64 (t273+1))] 28 (0,0)) (by(with_reducible repeat (first|refine blk_drewN ?_ _|refine blk_drew ?_|refine blk_alloc ?_ _));refine blk_put (cs:=#[.int .i64 t269,.slice Ao18 x278001_1.length co18,.int .i64 t273]) ?_ 2 _ rfl;(with_reducible repeat (first|refine blk_drewN ?_ _|refine blk_drew ?_|refine blk_alloc ?_ _));exact BK277.out) hb);have n5_:=Aside0.mk (below_step (bS3 GE266.out GE267.out GE277.out) hb);clear HO_6 HO_278001 BK266 BK267 BK277 HB;have HO_6:=n0_;have HO_278001:=n1_;have BK266:=n2_;have BK267:=n3_;have BK277:=n4_;have HB:=n5_;clear n0_ n1_ n2_ n3_ n4_ n5_;(try clear hb);(try clear hb2);(try clear hk);(try clear hi);obtain⟨hcz74_0,hcz74_1,hcz74_2⟩:=cC3 BK277.out;obtain⟨hfz74_0,hfz74_1,hfz74_2⟩:=cF3 BK277.out)|((with_reducible refine gate_callee (f:=80) rfl ?_);refine goesA (some 117) rfl rfl Try.func80 #[.agg #[.int .i64 t269,.slice Ao18 x278001_1.length co18,.int .i64 (wrap64 (t273+1))]] rfl ?_;(with_reducible refine(impl_Turns_copied.calls t269 _ _ x278001_1 (wrap64 (t273+1)) t308 t309 t312 _ ?side1 ?side2 A69.out).mono ?_);(case side1=>repeat (first|exact(Kd.N_reads' HO_278001.out).2.2|(with_reducible refine Kd.C_alloc ?_ _)|(with_reducible refine Kd.C_drewN ?_ _)|(with_reducible refine Kd.C_drew ?_)));(case side2=>exact(Kd.N_reads' HO_278001.out).2.1);rintro e w75 ⟨v310,rfl,ho0,hb⟩;refine⟨_,rfl,?_⟩;have n0_:=Aside0.mk (Kd.R_below (bK HO_6.out) hb);have n1_:=Aside0.mk (Kd.N_elder' (by(with_reducible repeat (first|apply Kd.N_alloc|apply Kd.N_drewN|apply Kd.N_drew));exact HO_278001.out) (by first|exact Kd.N_base ho0|exact Kd.S_base ho0) hb);have n2_:=Aside0.mk (Kd.S_lower (Kd.S_mono (ok':=fun k_=>(w.heap.size≤k_)∧some k_≠(u6:Value).ownBlock∧some k_≠(.slice Ao18 x278001_1.length co18:Value).ownBlock∧k_≠gb266∧k_≠gb267∧k_≠gb277) (Kd.S_bound ho0) (fun k_ hk_=>⟨(Nat.le_trans (below_size (bS3 GE266.out GE267.out GE277.out)) hk_.2.1),(Kd.fresh' (Kd.R_lt (bK HO_6.out)) k_ hk_.2.1),(Kd.fresh' (Kd.N_lt (by(with_reducible repeat (first|apply Kd.N_alloc|apply Kd.N_drewN|apply Kd.N_drew));exact HO_278001.out)) k_ hk_.2.1),(Kd.freshB (g:=gb266) (o:=.cells #[.int .i64 a0_0,.slice A0_1 l0_1.length c0_1,.int .i64 a0_2] 28 (0,0)) (bL BK266.out) k_ hk_.2.1),(Kd.freshB (g:=gb267) (o:=.cells #[.int .i64 0,.slice none 0 0,.int .i64 0] 28 (0,0)) (bL BK267.out) k_ hk_.2.1),(Kd.freshB (g:=gb277) (o:=.cells #[.int .i64 t269,.slice Ao18 x278001_1.length co18,.int .i64 (wrap64 (t273+1))] 28 (0,0)) (bL BK277.out) k_ hk_.2.1)⟩)) (below_size (bS3 GE266.out GE267.out GE277.out)));have n3_:=Aside0.mk (bM BK266.out hb);have n4_:=Aside0.mk (bM BK267.out hb);have n5_:=Aside0.mk (bM BK277.out hb);have n6_:=Aside0.mk (below_step (bS3 GE266.out GE267.out GE277.out) hb);clear HO_6 HO_278001 BK266 BK267 BK277 HB;have HO_6:=n0_;have HO_278001:=n1_;have HO311:=n2_;have BK266:=n3_;have BK267:=n4_;have BK277:=n5_;have HB:=n6_;clear n0_ n1_ n2_ n3_ n4_ n5_ n6_;(try clear hb);(try clear hb2);(try clear hk);(try clear hi);(try clear ho0);have hnb76:=NB267_266.out;have hnc76:=NB266_267.out;obtain⟨hcz77_0,hcz77_1,hcz77_2⟩:=cC3 BK267.out;obtain⟨hfz77_0,hfz77_1,hfz77_2⟩:=cF3 BK267.out;obtain⟨Ao78,co78,eo78⟩:=Kd.S_slice HO311.out;subst eo78))
      refine bodyPost_ret (results_ctt rfl _ _ gb267 28 #[.int .i64 t308,.slice Ao78 t309.length co78,.int .i64 t312] (0,0) _ rfl (by(with_reducible repeat (first|refine blk_drewN ?_ _|refine blk_drew ?_|refine blk_alloc ?_ _));refine blk_put (cs:=#[.int .i64 t308,.slice Ao78 t309.length co78,.int .i64 0]) ?_ 2 _ rfl;(with_reducible repeat (first|refine blk_drewN ?_ _|refine blk_drew ?_|refine blk_alloc ?_ _));refine blk_put (cs:=#[.int .i64 t308,.slice none 0 0,.int .i64 0]) ?_ 1 _ rfl;(with_reducible repeat (first|refine blk_drewN ?_ _|refine blk_drew ?_|refine blk_alloc ?_ _));refine blk_put (cs:=#[.int .i64 0,.slice none 0 0,.int .i64 0]) ?_ 0 _ rfl;(with_reducible repeat (first|refine blk_drewN ?_ _|refine blk_drew ?_|refine blk_alloc ?_ _));exact BK267.out) Try.underlying28 rfl (by kernel_rfl)) rfl ?_
      exact⟨_,_,by first|rfl|(simp[errW_none,errW_some]<;>rfl)|(simp[*,errW_none,errW_some]<;>rfl),by(with_reducible repeat (first|apply Kd.S_alloc|apply Kd.S_drewN|apply Kd.S_drew));exact Kd.S_mono (Kd.S_far (p:=⟨gb267,2,none⟩) (Kd.S_far (p:=⟨gb267,1,none⟩) (Kd.S_far (p:=⟨gb267,0,none⟩) (Kd.S_mono HO311.out (fun k_ hk=>(⟨hk,hk.2.2.2.2.1⟩:_∧k_≠gb267))) (fun _ hk=>hk.2) (.int .i64 t308)) (fun _ hk=>hk.2) (.slice Ao78 t309.length co78)) (fun _ hk=>hk.2) (.int .i64 t312)) (fun _ hk=>hk.1.2.1),by(with_reducible repeat (first|apply Kd.R_alloc|apply Kd.R_drewN|apply Kd.R_drew));exact Kd.R_mono (Kd.R_far (p:=⟨gb267,2,none⟩) (Kd.R_far (p:=⟨gb267,1,none⟩) (Kd.R_far (p:=⟨gb267,0,none⟩) (Kd.R_types HO_6.out BK267.out (by decide)) (fun _ hk=>hk.2) (.int .i64 t308)) (fun _ hk=>hk.2) (.slice Ao78 t309.length co78)) (fun _ hk=>hk.2) (.int .i64 t312)) (fun _ _=>trivial),bS3 GE266.out GE267.out GE277.out⟩
     ·replace c68:=Bool.eq_false_iff.mpr c68
      subst c68
      have H1:(some (0,([]:List (S116)),0,([]:List Int),false))=some (r1,r2,r3,r4,r5):=by rw[if_neg (show ¬ (false=true) by decide)] at H;exact H
      clear H
      have H:=H1
      clear H1
      simp only[Option.some.injEq,Prod.mk.injEq] at H
      obtain⟨rfl,rfl,rfl,rfl,rfl⟩:=H
      have hnb79:=NB277_266.out
      have hnc79:=NB266_277.out
      have hnb80:=NB277_267.out
      have hnc80:=NB267_277.out
      obtain⟨hcz81_0,hcz81_1,hcz81_2⟩:=cC3 BK277.out
      obtain⟨hfz81_0,hfz81_1,hfz81_2⟩:=cF3 BK277.out
      go_wp2_with (first|((with_reducible refine gate_callee (f:=78) rfl ?_);refine goesA (some 113) rfl rfl Try.func78 #[.agg #[.int .i64 t269,.slice Ao18 x278001_1.length co18,.int .i64 (wrap64 (t273+1))]] rfl ?_;(with_reducible refine(impl_GoodTurns.calls k1 t269 _ _ x278001_1 (wrap64 (t273+1)) false _ ?side1 ?side2 A67.out).mono ?_);(case side1=>refine(Kd.N_reads' (e:=116) (base:=w.heap.size) (ok:=fun k_=>((w.heap.size≤k_)∧(some k_≠(u6:Value).ownBlock∧(k_≠gb266∧(k_≠gb267∧k_≠gb277))))) (n:=x278001_1.length) (c:=co18) ?_).2.2;exact(by(with_reducible repeat (first|apply Kd.N_alloc|apply Kd.N_drewN|apply Kd.N_drew));exact(Kd.N_mono (Kd.N_far (p:=⟨gb277,2,none⟩) (Kd.N_mono HO_278001.out (fun k_ hk=>(⟨hk,hk.2.2.2.2⟩:_∧k_≠gb277))) (fun _ hk=>hk.2) (.int .i64 (wrap64 (t273+1)))) (fun _ h_=>h_.1))));(case side2=>exact(Kd.N_reads' HO_278001.out).2.1);rintro e w82 ⟨rfl,hb⟩;refine⟨_,rfl,?_⟩;have n0_:=Aside0.mk (Kd.R_below (by(with_reducible repeat (first|apply Kd.R_alloc|apply Kd.R_drewN|apply Kd.R_drew));exact(Kd.R_mono (Kd.R_far (p:=⟨gb277,2,none⟩) (Kd.R_types HO_6.out BK277.out (by decide)) (fun _ hk=>hk.2) (.int .i64 (wrap64 (t273+1)))) (fun _ h_=>h_.1))) hb);have n1_:=Aside0.mk (Kd.N_below (by(with_reducible repeat (first|apply Kd.N_alloc|apply Kd.N_drewN|apply Kd.N_drew));exact(Kd.N_mono (Kd.N_far (p:=⟨gb277,2,none⟩) (Kd.N_mono HO_278001.out (fun k_ hk=>(⟨hk,hk.2.2.2.2⟩:_∧k_≠gb277))) (fun _ hk=>hk.2) (.int .i64 (wrap64 (t273+1)))) (fun _ h_=>h_.1))) hb);have n2_:=Aside0.mk (blk_below (g:=gb266) (o:=.cells #[.int .i64 a0_0,.slice A0_1 l0_1.length c0_1,.int .i64 a0_2] 28 (0,0)) (by(with_reducible repeat (first|refine blk_drewN ?_ _|refine blk_drew ?_|refine blk_alloc ?_ _));refine blk_far ?_ NB266_277.out _;(with_reducible repeat (first|refine blk_drewN ?_ _|refine blk_drew ?_|refine blk_alloc ?_ _));exact BK266.out) hb);have n3_:=Aside0.mk (blk_below (g:=gb267) (o:=.cells #[.int .i64 0,.slice none 0 0,.int .i64 0] 28 (0,0)) (by(with_reducible repeat (first|refine blk_drewN ?_ _|refine blk_drew ?_|refine blk_alloc ?_ _));refine blk_far ?_ NB267_277.out _;(with_reducible repeat (first|refine blk_drewN ?_ _|refine blk_drew ?_|refine blk_alloc ?_ _));exact BK267.out) hb);have n4_:=Aside0.mk (blk_below (g:=gb277) (o:=.cells #[.int .i64 t269,.slice Ao18 x278001_1.length co18,.int .i64 (wrap64 (t273+1))] 28 (0,0)) (by(with_reducible repeat (first|refine blk_drewN ?_ _|refine blk_drew ?_|refine blk_alloc ?_ _));refine blk_put (cs:=#[.int .i64 t269,.slice Ao18 x278001_1.length co18,.int .i64 t273]) ?_ 2 _ rfl;(with_reducible repeat (first|refine blk_drewN ?_ _|refine blk_drew ?_|refine blk_alloc ?_ _));exact BK277.out) hb);have n5_:=Aside0.mk (below_step (bS3 GE266.out GE267.out GE277.out) hb);clear HO_6 HO_278001 BK266 BK267 BK277 HB;have HO_6:=n0_;have HO_278001:=n1_;have BK266:=n2_;have BK267:=n3_;have BK277:=n4_;have HB:=n5_;clear n0_ n1_ n2_ n3_ n4_ n5_;(try clear hb);(try clear hb2);(try clear hk);(try clear hi);have hnb83:=NB267_266.out;have hnc83:=NB266_267.out;obtain⟨hcz84_0,hcz84_1,hcz84_2⟩:=cC3 BK267.out;obtain⟨hfz84_0,hfz84_1,hfz84_2⟩:=cF3 BK267.out))
      refine bodyPost_ret (results_ctt rfl _ _ gb267 28 #[.int .i64 0,.slice none 0 0,.int .i64 0] (0,0) _ rfl (by(with_reducible repeat (first|refine blk_drewN ?_ _|refine blk_drew ?_|refine blk_alloc ?_ _));refine blk_put (cs:=#[.int .i64 0,.slice none 0 0,.int .i64 0]) ?_ 2 _ rfl;(with_reducible repeat (first|refine blk_drewN ?_ _|refine blk_drew ?_|refine blk_alloc ?_ _));refine blk_put (cs:=#[.int .i64 0,.slice none 0 0,.int .i64 0]) ?_ 1 _ rfl;(with_reducible repeat (first|refine blk_drewN ?_ _|refine blk_drew ?_|refine blk_alloc ?_ _));refine blk_put (cs:=#[.int .i64 0,.slice none 0 0,.int .i64 0]) ?_ 0 _ rfl;(with_reducible repeat (first|refine blk_drewN ?_ _|refine blk_drew ?_|refine blk_alloc ?_ _));exact BK267.out) Try.underlying28 rfl (by kernel_rfl)) rfl ?_
      exact⟨_,_,by first|rfl|(simp[errW_none,errW_some]<;>rfl)|(simp[*,errW_none,errW_some]<;>rfl),by first|exact Kd.S_nil _ _ _ _ _|exact Kd.N_nil _ _ _ _ _|exact Kd.V_nil _ _ _ _ _|exact Kd.Q_nil _ _ _ _ _|exact Kd.R_nil _ _ _ _ _,by first|exact Kd.R_nil _ _ _ _ _|exact Kd.N_nil _ _ _ _ _|exact Kd.V_nil _ _ _ _ _|exact Kd.Q_nil _ _ _ _ _|exact Kd.S_nil _ _ _ _ _,bS3 GE266.out GE267.out GE277.out⟩
 ·replace c3:=Bool.eq_false_iff.mpr c3
  subst c3
  have H1:(some (0,([]:List (S116)),0,([]:List Int),false))=some (r1,r2,r3,r4,r5):=by rw[if_neg (show ¬ (false=true) by decide)] at H;exact H
  clear H
  have H:=H1
  clear H1
  simp only[Option.some.injEq,Prod.mk.injEq] at H
  obtain⟨rfl,rfl,rfl,rfl,rfl⟩:=H
  go_enter Try.func50,Try.ntmps50
  go_wp2_with (first|((with_reducible refine gate_dst (N:=1) rfl ?_);refine box_event ?hg (N:=1) ?hd (cs:=#[.int .i64 a0_0,.slice A0_1 l0_1.length c0_1,.int .i64 a0_2]) (t:=28) ?hr ?_;(case hd=>rfl);(case hg=>rfl);(case hr=>first|(go_simp;done)|(go_simp;rfl));intro gb266 hg w85 hbox hb;have n0_:=Aside0.mk (below_step (bB) hb);have n1_:=Aside0.mk (hbox);have n2_:=Aside0.mk ((bG:w.heap.size≤gb266));have n3_:=Aside0.mk ((bG:w.heap.size≤gb266));clear HB;have HB:=n0_;have BK266:=n1_;have GW266:=n2_;have GE266:=n3_;clear n0_ n1_ n2_ n3_;clear hb hbox hg)|((with_reducible refine gate_dst (N:=2) rfl ?_);refine box_event ?hg (N:=2) ?hd (cs:=#[.int .i64 0,.slice none 0 0,.int .i64 0]) (t:=28) ?hr ?_;(case hd=>rfl);(case hg=>rfl);(case hr=>first|(go_simp;done)|(go_simp;rfl));intro gb267 hg w86 hbox hb;have n0_:=Aside0.mk (bM BK266.out hb);have n1_:=Aside0.mk (below_step (bS GE266.out) hb);have n2_:=Aside0.mk (hbox);have n3_:=Aside0.mk ((by rw[hg];exact(below_size (bS GE266.out)):w.heap.size≤gb267));have n4_:=Aside0.mk ((by rw[hg];exact(below_size (bS GE266.out)):w.heap.size≤gb267));have n5_:=Aside0.mk ((bN BK266.out hg:gb266≠gb267));have n6_:=Aside0.mk ((bO BK266.out hg:gb267≠gb266));clear BK266 HB;have BK266:=n0_;have HB:=n1_;have BK267:=n2_;have GW267:=n3_;have GE267:=n4_;have NB266_267:=n5_;have NB267_266:=n6_;clear n0_ n1_ n2_ n3_ n4_ n5_ n6_;clear hb hbox hg;have hnb87:=NB266_267.out;have hnc87:=NB267_266.out;obtain⟨hcz88_0,hcz88_1,hcz88_2⟩:=cC3 BK266.out;obtain⟨hfz88_0,hfz88_1,hfz88_2⟩:=cF3 BK266.out)|((with_reducible refine gate_callee (f:=78) rfl ?_);refine goesA (some 10) rfl rfl Try.func78 #[.agg #[.int .i64 a0_0,.slice A0_1 l0_1.length c0_1,.int .i64 a0_2]] rfl ?_;(with_reducible refine(impl_GoodTurns.calls k a0_0 _ _ l0_1 a0_2 false _ ?side1 ?side2 A2.out).mono ?_);(case side1=>exact bC HR0_1.out);(case side2=>exact HC0_1.out);rintro e w89 ⟨rfl,hb⟩;refine⟨_,rfl,?_⟩;have n0_:=Aside0.mk (bM BK266.out hb);have n1_:=Aside0.mk (bM BK267.out hb);have n2_:=Aside0.mk (below_step (bS2 GE266.out GE267.out) hb);clear BK266 BK267 HB;have BK266:=n0_;have BK267:=n1_;have HB:=n2_;clear n0_ n1_ n2_;(try clear hb);(try clear hb2);(try clear hk);(try clear hi);obtain⟨hcz90_0,hcz90_1,hcz90_2⟩:=cC3 BK267.out;obtain⟨hfz90_0,hfz90_1,hfz90_2⟩:=cF3 BK267.out))
  refine bodyPost_ret (results_ctt rfl _ _ gb267 28 #[.int .i64 0,.slice none 0 0,.int .i64 0] (0,0) _ rfl (by(with_reducible repeat (first|refine blk_drewN ?_ _|refine blk_drew ?_|refine blk_alloc ?_ _));refine blk_put (cs:=#[.int .i64 0,.slice none 0 0,.int .i64 0]) ?_ 2 _ rfl;(with_reducible repeat (first|refine blk_drewN ?_ _|refine blk_drew ?_|refine blk_alloc ?_ _));refine blk_put (cs:=#[.int .i64 0,.slice none 0 0,.int .i64 0]) ?_ 1 _ rfl;(with_reducible repeat (first|refine blk_drewN ?_ _|refine blk_drew ?_|refine blk_alloc ?_ _));refine blk_put (cs:=#[.int .i64 0,.slice none 0 0,.int .i64 0]) ?_ 0 _ rfl;(with_reducible repeat (first|refine blk_drewN ?_ _|refine blk_drew ?_|refine blk_alloc ?_ _));exact BK267.out) Try.underlying28 rfl (by kernel_rfl)) rfl ?_
  exact⟨_,_,by first|rfl|(simp[errW_none,errW_some]<;>rfl)|(simp[*,errW_none,errW_some]<;>rfl),by first|exact Kd.S_nil _ _ _ _ _|exact Kd.N_nil _ _ _ _ _|exact Kd.V_nil _ _ _ _ _|exact Kd.Q_nil _ _ _ _ _|exact Kd.R_nil _ _ _ _ _,by first|exact Kd.R_nil _ _ _ _ _|exact Kd.N_nil _ _ _ _ _|exact Kd.V_nil _ _ _ _ _|exact Kd.Q_nil _ _ _ _ _|exact Kd.S_nil _ _ _ _ _,bS2 GE266.out GE267.out⟩

end Go.Proofs.Yteneeohaoplpbaa.XFnExactRunRounds
