-- Written by this session's own program (wip/xprint.py) out of the translation; Lean checks it.
import Derived.Test.YteneeohaoplpbaaXFnExactNextRoundx0
import Derived.Test.YteneeohaoplpbaaXFnExactNextRoundx5
import Derived.Test.YteneeohaoplpbaaXFnExactNextRoundx6
namespace Go.Proofs.Yteneeohaoplpbaa.XFnExactNextRound
open Go.RowKit Go.Proofs.YteneeohaoplpbaaW.PrintWords Go.Proofs.YteneeohaoplpbaaW.PrintLast Go.Proofs.YteneeohaoplpbaaW.PrintMore
attribute [local go_sem] max2_int min2_int max_two min_two max_three min_three max_four min_four   -- for this text's walks alone
set_option linter.unusedVariables false
set_option linter.unusedSimpArgs false

/-! ### impl_NextRound: function 50 -/
mutual
def impl_NextRound.l0:Nat→List Int→Int→Int→Int→List (S116)→Int→Option (Int × (List (S116)) × Int × List Int × Bool)
 | 0,_,_,_,_,_,_=>none
 | k+1,x6,x18,x19,x259000,x259001,x259002=>if x19 < x18 then (if 0≤x19 then (if x19 < (x259001.length:Int) then (if (((rd_T116 x259001 x19).f0).length:Int)=0 then (impl_NextRound.l0 k x6 x18 (wrap64 (x19+1)) x259000 x259001 x259002) else (impl_NextRound.l1 k x6 x19 x18 x19 x259000 (x259001.set (x19:Int).toNat (⟨(rd_T116 x259001 x19).f0,wrap64 (((rd_T116 x259001 x19).f1)+x259000),(rd_T116 x259001 x19).f2⟩:S116)) x259002)) else (none)) else (none)) else ((impl_GoodTurns.f k x259000 x259001 (wrap64 (x259002+1))).bind fun t288=>(if t288=true then ((impl_Turns_copied.f x259000 x259001 (wrap64 (x259002+1))).bind fun bt289=>(some (bt289.1,bt289.2.1,bt289.2.2,x6,true))) else (some (0,([]:List (S116)),0,([]:List Int),false))))
def impl_NextRound.l1:Nat→List Int→Int→Int→Int→Int→List (S116)→Int→Option (Int × (List (S116)) × Int × List Int × Bool)
 | 0,_,_,_,_,_,_,_=>none
 | k+1,x6,x7,x18,x19,x259000,x259001,x259002=>if 0≤x19 then (if x19 < (x259001.length:Int) then (if (((rd_T116 x259001 x19).f0).length:Int) > 0 then (if 0 < (((rd_T116 x259001 x19).f0).length:Int) then (if (rd ((rd_T116 x259001 x19).f0) 0)≤((rd_T116 x259001 x19).f1) then ((some (x259001.set (x19:Int).toNat (⟨(rd_T116 x259001 x19).f0,wrap64 (((rd_T116 x259001 x19).f1) - (rd ((rd_T116 x259001 x19).f0) 0)),(rd_T116 x259001 x19).f2⟩:S116):List (S116))).bind fun y269=>(if 0 < (((rd_T116 y269 x19).f0).length:Int) then ((some (y269.set (x19:Int).toNat (⟨(rd_T116 y269 x19).f0,(rd_T116 y269 x19).f1,wrap64 (((rd_T116 y269 x19).f2)+(rd ((rd_T116 y269 x19).f0) 0))⟩:S116):List (S116))).bind fun y273=>(if 1≤(((rd_T116 y273 x19).f0).length:Int) then (if x6.length < 17592186044416 then (impl_NextRound.l1 k (x6++[x7]) x7 x18 x19 x259000 (y273.set (x19:Int).toNat (⟨(((rd_T116 y273 x19).f0).drop 1),(rd_T116 y273 x19).f1,(rd_T116 y273 x19).f2⟩:S116)) x259002) else (none)) else (none))) else (none))) else (if (((rd_T116 x259001 x19).f0).length:Int)=0 then (impl_NextRound.l0 k x6 x18 (wrap64 (x19+1)) x259000 (x259001.set (x19:Int).toNat (⟨(rd_T116 x259001 x19).f0,0,(rd_T116 x259001 x19).f2⟩:S116)) x259002) else (impl_NextRound.l0 k x6 x18 (wrap64 (x19+1)) x259000 x259001 x259002))) else (none)) else (if (((rd_T116 x259001 x19).f0).length:Int)=0 then (impl_NextRound.l0 k x6 x18 (wrap64 (x19+1)) x259000 (x259001.set (x19:Int).toNat (⟨(rd_T116 x259001 x19).f0,0,(rd_T116 x259001 x19).f2⟩:S116)) x259002) else (impl_NextRound.l0 k x6 x18 (wrap64 (x19+1)) x259000 x259001 x259002))) else (none)) else (none)
end
def impl_NextRound.f (k:Nat) (a0_0:Int) (l0_1:List (S116)) (a0_2:Int):Option (Int × (List (S116)) × Int × List Int × Bool):=(impl_GoodTurns.f k a0_0 l0_1 a0_2).bind fun t249=>(if t249=true then ((impl_Turns_copied.f a0_0 l0_1 a0_2).bind fun bt250=>(impl_NextRound.l0 k (([]:List Int)) (bt250.2.1.length:Int) 0 bt250.1 bt250.2.1 bt250.2.2)) else (some (0,([]:List (S116)),0,([]:List Int),false)))
theorem impl_NextRound.mono_l : ∀ k,(∀ y0 y1 y2 y3 y4 y5,LeO (impl_NextRound.l0 k y0 y1 y2 y3 y4 y5) (impl_NextRound.l0 (k+1) y0 y1 y2 y3 y4 y5))∧(∀ y0 y1 y2 y3 y4 y5 y6,LeO (impl_NextRound.l1 k y0 y1 y2 y3 y4 y5 y6) (impl_NextRound.l1 (k+1) y0 y1 y2 y3 y4 y5 y6))
 | 0=>⟨fun _ _ _ _ _ _ r h=>by simp[impl_NextRound.l0] at h,fun _ _ _ _ _ _ _ r h=>by simp[impl_NextRound.l1] at h⟩
 | k+1=>by
  obtain⟨ih0,ih1⟩:=impl_NextRound.mono_l k
  refine⟨?_,?_⟩
  ·intro y0 y1 y2 y3 y4 y5
   unfold impl_NextRound.l0
   repeat' first
   | (with_reducible exact ih0 _ _ _ _ _ _)
   | (with_reducible exact ih1 _ _ _ _ _ _ _)
   | (with_reducible exact impl_GoodTurns.mono _ _ _ _)
   | (with_reducible exact LeO.refl _)
   | (with_reducible exact LeO.none _)
   | (with_reducible refine LeO.ite ?_ ?_)
   | (with_reducible refine LeO.bind ?_ (fun _ => ?_))
   | exact ih0 _ _ _ _ _ _
   | exact ih1 _ _ _ _ _ _ _
   | exact impl_GoodTurns.mono _ _ _ _
   | exact LeO.none _
   | refine LeO.ite ?_ ?_
   | refine LeO.bind ?_ (fun _ => ?_)
  ·intro y0 y1 y2 y3 y4 y5 y6
   unfold impl_NextRound.l1
   repeat' first
   | (with_reducible exact ih0 _ _ _ _ _ _)
   | (with_reducible exact ih1 _ _ _ _ _ _ _)
   | (with_reducible exact impl_GoodTurns.mono _ _ _ _)
   | (with_reducible exact LeO.refl _)
   | (with_reducible exact LeO.none _)
   | (with_reducible refine LeO.ite ?_ ?_)
   | (with_reducible refine LeO.bind ?_ (fun _ => ?_))
   | exact ih0 _ _ _ _ _ _
   | exact ih1 _ _ _ _ _ _ _
   | exact impl_GoodTurns.mono _ _ _ _
   | exact LeO.none _
   | refine LeO.ite ?_ ?_
   | refine LeO.bind ?_ (fun _ => ?_)
theorem impl_NextRound.mono : ∀ a0 a1 a2 k,LeO (impl_NextRound.f k a0 a1 a2) (impl_NextRound.f (k+1) a0 a1 a2):=by
 intro a0 a1 a2 k
 obtain⟨ih0,ih1⟩:=impl_NextRound.mono_l k
 unfold impl_NextRound.f
 repeat' first
  | (with_reducible exact ih0 _ _ _ _ _ _)
  | (with_reducible exact ih1 _ _ _ _ _ _ _)
  | (with_reducible exact impl_GoodTurns.mono _ _ _ _)
  | (with_reducible exact LeO.refl _)
  | (with_reducible exact LeO.none _)
  | (with_reducible refine LeO.ite ?_ ?_)
  | (with_reducible refine LeO.bind ?_ (fun _ => ?_))
  | exact ih0 _ _ _ _ _ _
  | exact ih1 _ _ _ _ _ _ _
  | exact impl_GoodTurns.mono _ _ _ _
  | exact LeO.none _
  | refine LeO.ite ?_ ?_
  | refine LeO.bind ?_ (fun _ => ?_)
def impl_NextRound.T9:Bool × List (List Nat × List Nat):=(true,[([],[]),([0],[0]),([1],[1]),([2],[2]),([],[]),([4],[4]),([3,5],[3,5]),([0,0,1,2,3,4,5,6],[0]),([7,0,1,2,3,4,5,6],[7]),([8,6,0,1,2,3,4,5,6],[6,8])])
def impl_NextRound.B9:List Nat:=[0,1,3,7,0,16,63,127,255,511]
theorem impl_NextRound.tab9:rtab .any (opsOf Try.f50 9)=impl_NextRound.T9:=by kernel_rfl
theorem impl_NextRound.bits9:waitsOk impl_NextRound.T9.2 impl_NextRound.B9=true:=by kernel_rfl
def impl_NextRound.T10:Bool × List (List Nat × List Nat):=(true,[([],[]),([0],[0]),([1],[1]),([2],[2]),([3],[3]),([4],[4]),([5],[5]),([6],[6]),([7,6],[6,7]),([8,6],[6,8]),([9,6],[6,9]),([10,6],[6,10]),([11,6],[6,11]),([6],[6]),([13,6],[6,13]),([14,6],[6,14]),([15,6],[6,15]),([12,16,6],[6,12,16]),([6,17],[6,17])])
def impl_NextRound.B10:List Nat:=[0,1,3,7,15,31,63,127,255,511,1023,2047,4095,127,8319,24703,57471,131071,262143]
theorem impl_NextRound.tab10:rtab .any (opsOf Try.f50 10)=impl_NextRound.T10:=by kernel_rfl
theorem impl_NextRound.bits10:waitsOk impl_NextRound.T10.2 impl_NextRound.B10=true:=by kernel_rfl
def impl_NextRound.T11:Bool × List (List Nat × List Nat):=(true,[([],[]),([0],[0]),([1],[1]),([2],[2]),([],[]),([4],[4]),([5],[5]),([6],[6]),([7],[7]),([8],[8]),([3,9],[3,9]),([0,0,1,2,3,4,5,6,7,8,9,10],[0]),([11,0,1,2,3,4,5,6,7,8,9,10],[11]),([12,10,0,1,2,3,4,5,6,7,8,9,10],[10,12])])
def impl_NextRound.B11:List Nat:=[0,1,3,7,0,16,48,112,240,496,1023,2047,4095,8191]
theorem impl_NextRound.tab11:rtab .any (opsOf Try.f50 11)=impl_NextRound.T11:=by kernel_rfl
theorem impl_NextRound.bits11:waitsOk impl_NextRound.T11.2 impl_NextRound.B11=true:=by kernel_rfl
def impl_NextRound.T12:Bool × List (List Nat × List Nat):=(true,[([],[]),([0],[0]),([1],[1]),([2],[2]),([],[]),([4],[4]),([5],[5]),([6],[6]),([7],[7]),([8],[8]),([3,9],[3,9]),([0,0,1,2,3,4,5,6,7,8,9,10],[0]),([11,0,1,2,3,4,5,6,7,8,9,10],[11]),([12,10,0,1,2,3,4,5,6,7,8,9,10],[10,12])])
def impl_NextRound.B12:List Nat:=[0,1,3,7,0,16,48,112,240,496,1023,2047,4095,8191]
theorem impl_NextRound.tab12:rtab .any (opsOf Try.f50 12)=impl_NextRound.T12:=by kernel_rfl
theorem impl_NextRound.bits12:waitsOk impl_NextRound.T12.2 impl_NextRound.B12=true:=by kernel_rfl
set_option maxHeartbeats 8000000 in
set_option maxRecDepth 100000 in
theorem impl_NextRound.calls (k:Nat) (a0_0:Int) (A0_1:Option Addr) (c0_1:Nat) (l0_1:List (S116)) (a0_2:Int) (r1:Int) (r2:List (S116)) (r3:Int) (r4:List Int) (r5:Bool) (w:World) (hr0_1:Kd.C k116 w A0_1 l0_1.length l0_1) (hc0_1:l0_1.length≤c0_1) (h:impl_NextRound.f k a0_0 l0_1 a0_2=some (r1,r2,r3,r4,r5)) :
  Calls Try.prog 50 #[.agg #[.int .i64 a0_0,.slice A0_1 l0_1.length c0_1,.int .i64 a0_2]] w fun e w' => ∃ v1_ v3_:Value,e=.returned (.tuple #[.agg #[.int .i64 r1,v1_,.int .i64 r3],v3_,.bool r5])∧Kd.S k116 116 w' w.heap.size (fun k_=>some k_≠(v3_:Value).ownBlock) v1_ r2∧Kd.R (Kd.int .i64) 3 w' w.heap.size (fun _=>True) v3_ r4∧Below w.heap.size w w':=by
 have hu28:=Try.underlying28
 have HR0_1:=Aside0.mk hr0_1
 have HC0_1:=Aside0.mk hc0_1
 clear hr0_1 hc0_1
 have HB:=Aside0.mk (Below.refl w.heap.size w)
 have H:((impl_GoodTurns.f k a0_0 l0_1 a0_2).bind fun t249=>(if t249=true then ((impl_Turns_copied.f a0_0 l0_1 a0_2).bind fun bt250=>(impl_NextRound.l0 k (([]:List Int)) (bt250.2.1.length:Int) 0 bt250.1 bt250.2.1 bt250.2.2)) else (some (0,([]:List (S116)),0,([]:List Int),false))))=some (r1,r2,r3,r4,r5):=h
 clear h
 replace H:=Option.bind_eq_some_iff.mp H
 obtain⟨t249,A20,H⟩:=H
 replace H:(if t249=true then ((impl_Turns_copied.f a0_0 l0_1 a0_2).bind fun bt250=>(impl_NextRound.l0 k (([]:List Int)) (bt250.2.1.length:Int) 0 bt250.1 bt250.2.1 bt250.2.2)) else (some (0,([]:List (S116)),0,([]:List Int),false)))=some (r1,r2,r3,r4,r5):=H
 have A2:=Aside0.mk A20
 clear A20
 by_cases c3:t249=true
 ·subst c3
  have H1:((impl_Turns_copied.f a0_0 l0_1 a0_2).bind fun bt250=>(impl_NextRound.l0 k (([]:List Int)) (bt250.2.1.length:Int) 0 bt250.1 bt250.2.1 bt250.2.2))=some (r1,r2,r3,r4,r5):=by rw[if_pos rfl] at H;exact H
  clear H
  have H:=H1
  clear H1
  replace H:=Option.bind_eq_some_iff.mp H
  obtain⟨⟨t250,t251,t254⟩,A40,H⟩:=H
  replace H:(impl_NextRound.l0 k (([]:List Int)) (t251.length:Int) 0 t250 t251 t254)=some (r1,r2,r3,r4,r5):=H
  have A4:=Aside0.mk A40
  clear A40
  obtain⟨y255,hy255⟩ : ∃ y_:List Int,y_=(([]:List Int)):=⟨_,rfl⟩
  replace H:(impl_NextRound.l0 k y255 (t251.length:Int) 0 t250 t251 t254)=some (r1,r2,r3,r4,r5):=by first|(rw[hy255];with_reducible exact H)|(have H2_:=(Option.bind_some _ _).symm.trans H;rw[hy255];with_reducible exact H2_)|(have H2_:=(Option.bind_some _ _).symm.trans H;with_reducible exact H2_)|with_reducible exact H|(rw[hy255];exact H)|exact H
  have Ny255:=Aside0.mk hy255
  clear hy255
  have H':=Aside0.mk H
  clear H
  go_enter Try.func50,Try.ntmps50
  go_wp2_with (first|((with_reducible refine gate_dst (N:=1) rfl ?_);refine box_event ?hg (N:=1) ?hd (cs:=#[.int .i64 a0_0,.slice A0_1 l0_1.length c0_1,.int .i64 a0_2]) (t:=28) ?hr ?_;(case hd=>rfl);(case hg=>rfl);(case hr=>first|(go_simp;done)|(go_simp;rfl));intro gb247 hg w5 hbox hb;have n0_:=Aside0.mk (below_step (bB) hb);have n1_:=Aside0.mk (hbox);have n2_:=Aside0.mk ((bG:w.heap.size≤gb247));have n3_:=Aside0.mk ((bG:w.heap.size≤gb247));clear HB;have HB:=n0_;have BK247:=n1_;have GW247:=n2_;have GE247:=n3_;clear n0_ n1_ n2_ n3_;clear hb hbox hg)|((with_reducible refine gate_dst (N:=2) rfl ?_);refine box_event ?hg (N:=2) ?hd (cs:=#[.int .i64 0,.slice none 0 0,.int .i64 0]) (t:=28) ?hr ?_;(case hd=>rfl);(case hg=>rfl);(case hr=>first|(go_simp;done)|(go_simp;rfl));intro gb248 hg w6 hbox hb;have n0_:=Aside0.mk (bM BK247.out hb);have n1_:=Aside0.mk (below_step (bS GE247.out) hb);have n2_:=Aside0.mk (hbox);have n3_:=Aside0.mk ((by rw[hg];exact(below_size (bS GE247.out)):w.heap.size≤gb248));have n4_:=Aside0.mk ((by rw[hg];exact(below_size (bS GE247.out)):w.heap.size≤gb248));have n5_:=Aside0.mk ((bN BK247.out hg:gb247≠gb248));have n6_:=Aside0.mk ((bO BK247.out hg:gb248≠gb247));clear BK247 HB;have BK247:=n0_;have HB:=n1_;have BK248:=n2_;have GW248:=n3_;have GE248:=n4_;have NB247_248:=n5_;have NB248_247:=n6_;clear n0_ n1_ n2_ n3_ n4_ n5_ n6_;clear hb hbox hg;have hnb7:=NB247_248.out;have hnc7:=NB248_247.out;obtain⟨hcz8_0,hcz8_1,hcz8_2⟩:=cC3 BK247.out;obtain⟨hfz8_0,hfz8_1,hfz8_2⟩:=cF3 BK247.out)|((with_reducible refine gate_callee (f:=78) rfl ?_);refine goesA (some 10) rfl rfl Try.func78 #[.agg #[.int .i64 a0_0,.slice A0_1 l0_1.length c0_1,.int .i64 a0_2]] rfl ?_;(with_reducible refine(impl_GoodTurns.calls k a0_0 _ _ l0_1 a0_2 true _ ?side1 ?side2 A2.out).mono ?_);(case side1=>exact bC HR0_1.out);(case side2=>exact HC0_1.out);rintro e w9 ⟨rfl,hb⟩;refine⟨_,rfl,?_⟩;have n0_:=Aside0.mk (bM BK247.out hb);have n1_:=Aside0.mk (bM BK248.out hb);have n2_:=Aside0.mk (below_step (bS2 GE247.out GE248.out) hb);clear BK247 BK248 HB;have BK247:=n0_;have BK248:=n1_;have HB:=n2_;clear n0_ n1_ n2_;(try clear hb);(try clear hb2);(try clear hk);(try clear hi);obtain⟨hcz10_0,hcz10_1,hcz10_2⟩:=cC3 BK247.out;obtain⟨hfz10_0,hfz10_1,hfz10_2⟩:=cF3 BK247.out)|((with_reducible refine gate_callee (f:=80) rfl ?_);refine goesA (some 14) rfl rfl Try.func80 #[.agg #[.int .i64 a0_0,.slice A0_1 l0_1.length c0_1,.int .i64 a0_2]] rfl ?_;(with_reducible refine(impl_Turns_copied.calls a0_0 _ _ l0_1 a0_2 t250 t251 t254 _ ?side1 ?side2 A4.out).mono ?_);(case side1=>exact bC HR0_1.out);(case side2=>exact HC0_1.out);rintro e w11 ⟨v252,rfl,ho0,hb⟩;refine⟨_,rfl,?_⟩;have n0_:=Aside0.mk (Kd.N_lower (Kd.N_mono (ok':=fun k_=>(w.heap.size≤k_)∧k_≠gb247∧k_≠gb248) (Kd.S_N (Kd.S_bound ho0)) (fun k_ hk_=>⟨(Nat.le_trans (below_size (bS2 GE247.out GE248.out)) hk_.2.1),(Kd.freshB (g:=gb247) (o:=.cells #[.int .i64 a0_0,.slice A0_1 l0_1.length c0_1,.int .i64 a0_2] 28 (0,0)) (bL BK247.out) k_ hk_.2.1),(Kd.freshB (g:=gb248) (o:=.cells #[.int .i64 0,.slice none 0 0,.int .i64 0] 28 (0,0)) (bL BK248.out) k_ hk_.2.1)⟩)) (below_size (bS2 GE247.out GE248.out)));have n1_:=Aside0.mk (bM BK247.out hb);have n2_:=Aside0.mk (bM BK248.out hb);have n3_:=Aside0.mk (below_step (bS2 GE247.out GE248.out) hb);clear BK247 BK248 HB;have HO253:=n0_;have BK247:=n1_;have BK248:=n2_;have HB:=n3_;clear n0_ n1_ n2_ n3_;(try clear hb);(try clear hb2);(try clear hk);(try clear hi);(try clear ho0))|((with_reducible refine gate_dst (N:=15) rfl ?_);refine Kd.R_lit (Kd.int .i64) _ 3 ?hg (N:=15) ?hd (xs:=([]:List Int)) (inner:=[]) (ok:=fun _=>True) (okp:=fun _=>True) ?hr ?hp (fun _ hk=>hk) trivial (Below.refl _ _) (Nat.le_refl _) (by simp) ?_;(case hd=>rfl);(case hg=>rfl);(case hr=>first|(go_simp;done)|(go_simp;rfl));(case hp=>exact(Reps.none _ _));intro v256 w12 ho13 hb hg_ hnew_;clear hg_ hnew_;(first|rw[← Ny255.out] at ho13|(simp only[Int.reduceToNat] at ho13;rw[← Ny255.out] at ho13));have n0_:=Aside0.mk (Kd.N_elder' (by(with_reducible repeat (first|apply Kd.N_alloc|apply Kd.N_drewN|apply Kd.N_drew));exact HO253.out) (Kd.R_base ho13) hb);have n1_:=Aside0.mk (Kd.R_lower (Kd.R_newM (M:=fun k_=>(w.heap.size≤k_)) ho13 (below_size (bS2 GE247.out GE248.out)) (fun k_ h_=>h_)) (below_size (bS2 GE247.out GE248.out)));have n2_:=Aside0.mk (bM BK247.out hb);have n3_:=Aside0.mk (bM BK248.out hb);have n4_:=Aside0.mk (below_step (bS2 GE247.out GE248.out) hb);clear HO253 BK247 BK248 HB;have HO253:=n0_;have HO257:=n1_;have BK247:=n2_;have BK248:=n3_;have HB:=n4_;clear n0_ n1_ n2_ n3_ n4_;clear hb ho13)|((with_reducible refine gate_dst (N:=5) rfl ?_);refine box_event ?hg (N:=5) ?hd (cs:=#[.int .i64 0,.slice none 0 0,.int .i64 0]) (t:=28) ?hr ?_;(case hd=>rfl);(case hg=>rfl);(case hr=>first|(go_simp;done)|(go_simp;rfl));intro gb258 hg w14 hbox hb;have n0_:=Aside0.mk (Kd.N_below (Kd.N_elderB (by(with_reducible repeat (first|apply Kd.N_alloc|apply Kd.N_drewN|apply Kd.N_drew));exact HO253.out) gb258 (Nat.le_of_eq hg.symm)) hb);have n1_:=Aside0.mk (Kd.R_below (bK HO257.out) hb);have n2_:=Aside0.mk (bM BK247.out hb);have n3_:=Aside0.mk (bM BK248.out hb);have n4_:=Aside0.mk (below_step (bS2 GE247.out GE248.out) hb);have n5_:=Aside0.mk (hbox);have n6_:=Aside0.mk ((by rw[hg];exact(below_size (bS2 GE247.out GE248.out)):w.heap.size≤gb258));have n7_:=Aside0.mk ((by rw[hg];exact(below_size (bS2 GE247.out GE248.out)):w.heap.size≤gb258));have n8_:=Aside0.mk ((bN BK247.out hg:gb247≠gb258));have n9_:=Aside0.mk ((bO BK247.out hg:gb258≠gb247));have n10_:=Aside0.mk ((bN BK248.out hg:gb248≠gb258));have n11_:=Aside0.mk ((bO BK248.out hg:gb258≠gb248));clear HO253 HO257 BK247 BK248 HB;have HO253:=n0_;have HO257:=n1_;have BK247:=n2_;have BK248:=n3_;have HB:=n4_;have BK258:=n5_;have GW258:=n6_;have GE258:=n7_;have NB247_258:=n8_;have NB258_247:=n9_;have NB248_258:=n10_;have NB258_248:=n11_;clear n0_ n1_ n2_ n3_ n4_ n5_ n6_ n7_ n8_ n9_ n10_ n11_;clear hb hbox hg;have hnb15:=NB258_247.out;have hnc15:=NB247_258.out;have hnb16:=NB258_248.out;have hnc16:=NB248_258.out;obtain⟨hcz17_0,hcz17_1,hcz17_2⟩:=cC3 BK258.out;obtain⟨hfz17_0,hfz17_1,hfz17_2⟩:=cF3 BK258.out;obtain⟨Ao18,co18,eo18⟩:=Kd.N_slice HO253.out;subst eo18))
  go_loopg [6,19] k (fun kq v6 v19 w' => ∃ (x6_1:List Int) (x19_1:Int) (x259001_1:List (S116)),v19=.int .i64 x19_1∧Aside0 (impl_NextRound.l0 kq x6_1 (t251.length:Int) x19_1 t250 x259001_1 t254=some (r1,r2,r3,r4,r5))∧Aside0 (kq≤k)∧Aside0 (Kd.R (Kd.int .i64) 3 w' w.heap.size (fun k_=>(w.heap.size≤k_)) v6 x6_1)∧Aside0 (Kd.N k116 116 w' w.heap.size (fun k_=>(w.heap.size≤k_)∧some k_≠(v6:Value).ownBlock∧k_≠gb247∧k_≠gb248∧k_≠gb258) (.slice Ao18 t251.length co18) x259001_1)∧Aside0 (w'.heap[gb247]?=some (.cells #[.int .i64 a0_0,(.slice A0_1 l0_1.length c0_1),.int .i64 a0_2] 28 (0,0)))∧Aside0 (w'.heap[gb248]?=some (.cells #[.int .i64 0,(.slice none 0 0),.int .i64 0] 28 (0,0)))∧Aside0 (w'.heap[gb258]?=some (.cells #[.int .i64 t250,(.slice Ao18 t251.length co18),.int .i64 t254] 28 (0,0)))∧Aside0 (Below w.heap.size w w'))
  case atStart=>exact⟨(y255),(0),(t251),(bR),H',⟨Nat.le_refl _⟩,⟨by(with_reducible repeat (first|apply Kd.R_alloc|apply Kd.R_drewN|apply Kd.R_drew));exact Kd.R_mono (Kd.R_far (p:=⟨gb258,2,none⟩) (Kd.R_far (p:=⟨gb258,1,none⟩) (Kd.R_far (p:=⟨gb258,0,none⟩) (Kd.R_types HO257.out BK258.out (by decide)) (fun _ hk=>hk.2) (.int .i64 t250)) (fun _ hk=>hk.2) (.slice Ao18 t251.length co18)) (fun _ hk=>hk.2) (.int .i64 t254)) (fun _ hk=>hk.1.1)⟩,⟨by(with_reducible repeat (first|apply Kd.N_alloc|apply Kd.N_drewN|apply Kd.N_drew));exact Kd.N_mono (Kd.N_far (p:=⟨gb258,2,none⟩) (Kd.N_far (p:=⟨gb258,1,none⟩) (Kd.N_far (p:=⟨gb258,0,none⟩) (Kd.N_mono HO253.out (fun k_ hk=>(⟨hk,hk.2⟩:_∧k_≠gb258))) (fun _ hk=>hk.2) (.int .i64 t250)) (fun _ hk=>hk.2) (.slice Ao18 t251.length co18)) (fun _ hk=>hk.2) (.int .i64 t254)) (fun _ hk=>⟨hk.1.1.1.1,⟨hk.1.1.2,⟨hk.1.1.1.2.1,⟨hk.1.1.1.2.2,hk.1.2⟩⟩⟩⟩)⟩,⟨by(with_reducible repeat (first|refine blk_drewN ?_ _|refine blk_drew ?_|refine blk_alloc ?_ _));refine blk_far ?_ NB247_258.out _;(with_reducible repeat (first|refine blk_drewN ?_ _|refine blk_drew ?_|refine blk_alloc ?_ _));refine blk_far ?_ NB247_258.out _;(with_reducible repeat (first|refine blk_drewN ?_ _|refine blk_drew ?_|refine blk_alloc ?_ _));refine blk_far ?_ NB247_258.out _;(with_reducible repeat (first|refine blk_drewN ?_ _|refine blk_drew ?_|refine blk_alloc ?_ _));exact BK247.out⟩,⟨by(with_reducible repeat (first|refine blk_drewN ?_ _|refine blk_drew ?_|refine blk_alloc ?_ _));refine blk_far ?_ NB248_258.out _;(with_reducible repeat (first|refine blk_drewN ?_ _|refine blk_drew ?_|refine blk_alloc ?_ _));refine blk_far ?_ NB248_258.out _;(with_reducible repeat (first|refine blk_drewN ?_ _|refine blk_drew ?_|refine blk_alloc ?_ _));refine blk_far ?_ NB248_258.out _;(with_reducible repeat (first|refine blk_drewN ?_ _|refine blk_drew ?_|refine blk_alloc ?_ _));exact BK248.out⟩,⟨by(with_reducible repeat (first|refine blk_drewN ?_ _|refine blk_drew ?_|refine blk_alloc ?_ _));refine blk_put (cs:=#[.int .i64 t250,.slice Ao18 t251.length co18,.int .i64 0]) ?_ 2 _ rfl;(with_reducible repeat (first|refine blk_drewN ?_ _|refine blk_drew ?_|refine blk_alloc ?_ _));refine blk_put (cs:=#[.int .i64 t250,.slice none 0 0,.int .i64 0]) ?_ 1 _ rfl;(with_reducible repeat (first|refine blk_drewN ?_ _|refine blk_drew ?_|refine blk_alloc ?_ _));refine blk_put (cs:=#[.int .i64 0,.slice none 0 0,.int .i64 0]) ?_ 0 _ rfl;(with_reducible repeat (first|refine blk_drewN ?_ _|refine blk_drew ?_|refine blk_alloc ?_ _));exact BK258.out⟩,⟨bS3 GE247.out GE248.out GE258.out⟩⟩
  case round =>
   clear H'
   try clear c1
   try clear p2
   try clear c3
   try clear c5
   try clear c7
   try clear c8
   try clear c15
   try clear c16
   try clear hcz10_0 hcz10_1 hcz10_2
   try clear hcz17_0 hcz17_1 hcz17_2
   try clear hcz8_0 hcz8_1 hcz8_2
   try clear hfz10_0 hfz10_1 hfz10_2
   try clear hfz17_0 hfz17_1 hfz17_2
   try clear hfz8_0 hfz8_1 hfz8_2
   obtain⟨x6_1,x19_1,x259001_1,rfl,HA,HK1,HO_6,HO_259001,BK247,BK248,BK258,HB⟩:=hrel
   have hl259001_1:=(Kd.N_reads' HO_259001.out).1
   rw[hl259001_1] at HO_259001
   (try simp only[hl259001_1])
   (try simp only[hl259001_1] at BK247)
   (try simp only[hl259001_1] at BK248)
   (try simp only[hl259001_1] at BK258)
   (try simp only[hl259001_1] at HO_6)
   cases gk with
   | zero=>exact absurd HA.out (by simp[impl_NextRound.l0])
   | succ k1 =>
    have H:=HA.out
    clear HA
    simp only[impl_NextRound.l0] at H
    by_cases c19:x19_1 < (t251.length:Int)
    ·rw[if_pos c19] at H
     have c19b0:decide (x19_1 < (t251.length:Int))=true:=decide_eq_true c19
     have c19z_:=c19b0
     (try simp only[hl259001_1] at c19z_)
     clear c19
     by_cases c20:0≤x19_1
     ·rw[if_pos c20] at H
      have c20b0:decide (0≤x19_1)=true:=decide_eq_true c20
      clear c20
      by_cases c21:x19_1 < (x259001_1.length:Int)
      ·rw[if_pos c21] at H
       have c21b0:decide (x19_1 < (x259001_1.length:Int))=true:=decide_eq_true c21
       clear c21
       by_cases c23:(((rd_T116 x259001_1 x19_1).f0).length:Int)=0
       ·rw[if_pos c23] at H
        have c23b0:((((rd_T116 x259001_1 x19_1).f0).length:Int) == 0)=true:=beq_iff_eq.mpr c23
        have c23b1:((((rd_T116 x259001_1 x19_1).f0).length:Int) != 0)=false:=bne_eq_false_iff_eq.mpr c23
        clear c23
        have H':=Aside0.mk H
        clear H
        have hnb24:=NB258_247.out
        have hnc24:=NB247_258.out
        have hnb25:=NB258_248.out
        have hnc25:=NB248_258.out
        obtain⟨hcz26_0,hcz26_1,hcz26_2⟩:=cC3 BK258.out
        obtain⟨hfz26_0,hfz26_1,hfz26_2⟩:=cF3 BK258.out
        have p22:0≤(x19_1:Int):=of_decide_eq_true (bD)
        have q22:(x19_1:Int) < ((x259001_1.length:Int):Int):=of_decide_eq_true (bD)
        obtain⟨go22,co22,eo22,gb22,gl22,cl22,HG22⟩:=Kd.N_form HO_259001.out (by omega)
        (first|cases eo22|(injection eo22 with ea_ en_ ec_;(first|subst ea_|(injection ea_ with ea_;subst ea_));subst ec_;clear en_))
        have GB22:=Aside0.mk gb22
        have GG22:=Aside0.mk HG22
        clear gb22 gl22 HG22
        obtain⟨ce22,hcl22,hM22,hcc22,hfr22⟩:=Kd.N_elem HO_259001.out z116 (x19_1:Int) p22 q22
        obtain⟨ua22_0,uc22_0,rfl,ul22_0,ge22_0⟩:=k116_openF hM22
        have hx22_0:wr.cell? ⟨go22,(x19_1:Int).toNat * 3,none⟩=some (.slice ua22_0 ((rd_T116 x259001_1 x19_1).f0).length uc22_0):=hcc22 0 _ rfl
        have hx22_1:wr.cell? ⟨go22,(x19_1:Int).toNat * 3+1,none⟩=some (.int .i64 ((rd_T116 x259001_1 x19_1).f1)):=hcc22 1 _ rfl
        have hx22_2:wr.cell? ⟨go22,(x19_1:Int).toNat * 3+2,none⟩=some (.int .i64 ((rd_T116 x259001_1 x19_1).f2)):=hcc22 2 _ rfl
        have hf22_0:wr.frozen? ⟨go22,(x19_1:Int).toNat * 3,none⟩=false:=hfr22 0
        have hf22_1:wr.frozen? ⟨go22,(x19_1:Int).toNat * 3+1,none⟩=false:=hfr22 1
        have hf22_2:wr.frozen? ⟨go22,(x19_1:Int).toNat * 3+2,none⟩=false:=hfr22 2
        clear hcl22 hcc22 hfr22 hM22
        replace p22:=eq_true p22
        replace q22:=eq_true q22
        have p259:0≤(x19_1:Int):=of_decide_eq_true (bD)
        have q259:x19_1 < (x259001_1.length:Int):=of_decide_eq_true (bD)
        obtain⟨ad259,A259_0,c259_0,e259,hx259_0,hx259_1,hx259_2,hl259_0,hi259_0⟩:=at_T116 (Kd.N_reads' HO_259001.out).2.2 x19_1 p259 q259
        obtain rfl:(⟨go22,0,none⟩:Addr)=ad259:=(by injection e259)
        obtain⟨ce259,hce259,hMe259,hcc259⟩:=Kd.N_get HO_259001.out z116 x19_1 p259 (by first|exact q259|exact of_decide_eq_true (bD)|(have e_:=(Kd.N_reads' HO_259001.out).1;omega))
        obtain⟨ua259_0,uc259_0,rfl,ul259_0,ge259_0⟩:=k116_openF hMe259
        have hv259_0:=hcc259 0 _ rfl
        rw[Nat.add_zero] at hv259_0
        replace hv259_0:=Option.some.inj (hv259_0.symm.trans hx259_0)
        injection hv259_0 with hva_ hvn_ hvc_
        rw[hva_] at ge259_0
        rw[hvc_] at ul259_0
        have HL259_0:=Aside0.mk (show Kd.V (Kd.int .i64) 3 _ w.heap.size _ _ ((rd_T116 x259001_1 x19_1).f0) from Kd.V_mk ul259_0 ge259_0)
        clear hva_ hvn_ hvc_ ge259_0 ul259_0 hcc259 hce259
        (first|simp only[add_plain] at hx259_0|simp only[add_at] at hx259_0|simp only[Addr.add,Nat.zero_add] at hx259_0|skip)
        (first|simp only[add_plain] at hx259_1|simp only[add_at] at hx259_1|simp only[Addr.add,Nat.zero_add] at hx259_1|skip)
        (first|simp only[add_plain] at hx259_2|simp only[add_at] at hx259_2|simp only[Addr.add,Nat.zero_add] at hx259_2|skip)
        have HR259_0:=Aside0.mk hi259_0
        have HC259_0:=Aside0.mk hl259_0
        clear hi259_0 hl259_0
        replace p259:=eq_true p259
        replace q259:=eq_true q259
        go_wp2
        (try simp only[← hl259001_1])
        go_roundg k1
        case measure=>have:=HK1.out;omega
        case rel=>exact⟨(x6_1),(wrap64 (x19_1+1)),(x259001_1),(bR),H',⟨by have:=HK1.out;omega⟩,⟨by(try simp only[hl259001_1]);(with_reducible repeat (first|apply Kd.R_alloc|apply Kd.R_drewN|apply Kd.R_drew));exact HO_6.out⟩,⟨by(try simp only[hl259001_1]);(with_reducible repeat (first|apply Kd.N_alloc|apply Kd.N_drewN|apply Kd.N_drew));exact HO_259001.out⟩,⟨by(try simp only[hl259001_1]);(with_reducible repeat (first|refine blk_drewN ?_ _|refine blk_drew ?_|refine blk_alloc ?_ _));exact BK247.out⟩,⟨by(try simp only[hl259001_1]);(with_reducible repeat (first|refine blk_drewN ?_ _|refine blk_drew ?_|refine blk_alloc ?_ _));exact BK248.out⟩,⟨by(try simp only[hl259001_1]);(with_reducible repeat (first|refine blk_drewN ?_ _|refine blk_drew ?_|refine blk_alloc ?_ _));exact BK258.out⟩,⟨bS3 GE247.out GE248.out GE258.out⟩⟩
       ·rw[if_neg c23] at H
        have c23b0:((((rd_T116 x259001_1 x19_1).f0).length:Int) == 0)=false:=beq_eq_false_iff_ne.mpr c23
        have c23b1:((((rd_T116 x259001_1 x19_1).f0).length:Int) != 0)=true:=bne_iff_ne.mpr c23
        have c23b2 : ¬ (((rd_T116 x259001_1 x19_1).f0)=[]):=fun h_=>c23 (by rw[h_];rfl)
        obtain⟨y261,hy261⟩ : ∃ y_:List (S116),y_=(x259001_1.set (x19_1:Int).toNat (⟨(rd_T116 x259001_1 x19_1).f0,wrap64 (((rd_T116 x259001_1 x19_1).f1)+t250),(rd_T116 x259001_1 x19_1).f2⟩:S116)):=⟨_,rfl⟩
        replace H:(impl_NextRound.l1 k1 x6_1 x19_1 (t251.length:Int) x19_1 t250 y261 t254)=some (r1,r2,r3,r4,r5):=by first|(rw[hy261];with_reducible exact H)|(have H2_:=(Option.bind_some _ _).symm.trans H;rw[hy261];with_reducible exact H2_)|(have H2_:=(Option.bind_some _ _).symm.trans H;with_reducible exact H2_)|with_reducible exact H|(rw[hy261];exact H)|exact H
        have Ny261:=Aside0.mk hy261
        clear hy261
        have H':=Aside0.mk H
        clear H
        have hnb28:=NB258_247.out
        have hnc28:=NB247_258.out
        have hnb29:=NB258_248.out
        have hnc29:=NB248_258.out
        obtain⟨hcz30_0,hcz30_1,hcz30_2⟩:=cC3 BK258.out
        obtain⟨hfz30_0,hfz30_1,hfz30_2⟩:=cF3 BK258.out
        have p22:0≤(x19_1:Int):=of_decide_eq_true (bD)
        have q22:(x19_1:Int) < ((x259001_1.length:Int):Int):=of_decide_eq_true (bD)
        obtain⟨go22,co22,eo22,gb22,gl22,cl22,HG22⟩:=Kd.N_form HO_259001.out (by omega)
        (first|cases eo22|(injection eo22 with ea_ en_ ec_;(first|subst ea_|(injection ea_ with ea_;subst ea_));subst ec_;clear en_))
        have GB22:=Aside0.mk gb22
        have GG22:=Aside0.mk HG22
        clear gb22 gl22 HG22
        obtain⟨ce22,hcl22,hM22,hcc22,hfr22⟩:=Kd.N_elem HO_259001.out z116 (x19_1:Int) p22 q22
        obtain⟨ua22_0,uc22_0,rfl,ul22_0,ge22_0⟩:=k116_openF hM22
        have hx22_0:wr.cell? ⟨go22,(x19_1:Int).toNat * 3,none⟩=some (.slice ua22_0 ((rd_T116 x259001_1 x19_1).f0).length uc22_0):=hcc22 0 _ rfl
        have hx22_1:wr.cell? ⟨go22,(x19_1:Int).toNat * 3+1,none⟩=some (.int .i64 ((rd_T116 x259001_1 x19_1).f1)):=hcc22 1 _ rfl
        have hx22_2:wr.cell? ⟨go22,(x19_1:Int).toNat * 3+2,none⟩=some (.int .i64 ((rd_T116 x259001_1 x19_1).f2)):=hcc22 2 _ rfl
        have hf22_0:wr.frozen? ⟨go22,(x19_1:Int).toNat * 3,none⟩=false:=hfr22 0
        have hf22_1:wr.frozen? ⟨go22,(x19_1:Int).toNat * 3+1,none⟩=false:=hfr22 1
        have hf22_2:wr.frozen? ⟨go22,(x19_1:Int).toNat * 3+2,none⟩=false:=hfr22 2
        clear hcl22 hcc22 hfr22 hM22
        replace p22:=eq_true p22
        replace q22:=eq_true q22
        have p259:0≤(x19_1:Int):=of_decide_eq_true (bD)
        have q259:x19_1 < (x259001_1.length:Int):=of_decide_eq_true (bD)
        obtain⟨ad259,A259_0,c259_0,e259,hx259_0,hx259_1,hx259_2,hl259_0,hi259_0⟩:=at_T116 (Kd.N_reads' HO_259001.out).2.2 x19_1 p259 q259
        obtain rfl:(⟨go22,0,none⟩:Addr)=ad259:=(by injection e259)
        obtain⟨ce259,hce259,hMe259,hcc259⟩:=Kd.N_get HO_259001.out z116 x19_1 p259 (by first|exact q259|exact of_decide_eq_true (bD)|(have e_:=(Kd.N_reads' HO_259001.out).1;omega))
        obtain⟨ua259_0,uc259_0,rfl,ul259_0,ge259_0⟩:=k116_openF hMe259
        have hv259_0:=hcc259 0 _ rfl
        rw[Nat.add_zero] at hv259_0
        replace hv259_0:=Option.some.inj (hv259_0.symm.trans hx259_0)
        injection hv259_0 with hva_ hvn_ hvc_
        rw[hva_] at ge259_0
        rw[hvc_] at ul259_0
        have HL259_0:=Aside0.mk (show Kd.V (Kd.int .i64) 3 _ w.heap.size _ _ ((rd_T116 x259001_1 x19_1).f0) from Kd.V_mk ul259_0 ge259_0)
        clear hva_ hvn_ hvc_ ge259_0 ul259_0 hcc259 hce259
        (first|simp only[add_plain] at hx259_0|simp only[add_at] at hx259_0|simp only[Addr.add,Nat.zero_add] at hx259_0|skip)
        (first|simp only[add_plain] at hx259_1|simp only[add_at] at hx259_1|simp only[Addr.add,Nat.zero_add] at hx259_1|skip)
        (first|simp only[add_plain] at hx259_2|simp only[add_at] at hx259_2|simp only[Addr.add,Nat.zero_add] at hx259_2|skip)
        have HR259_0:=Aside0.mk hi259_0
        have HC259_0:=Aside0.mk hl259_0
        clear hi259_0 hl259_0
        replace p259:=eq_true p259
        replace q259:=eq_true q259
        try go_wp2
        (try (rw[drewN_self wr];generalize hq_:World.drewN wr _=wr;have n0_:=Aside0.mk (Kd.R_at hq_ HO_6.out);have n1_:=Aside0.mk (Kd.N_at hq_ HO_259001.out);have n2_:=Aside0.mk (Kd.V_at hq_ HL259_0.out);have n3_:=Aside0.mk (blk_at hq_ BK247.out);have n4_:=Aside0.mk (blk_at hq_ BK248.out);have n5_:=Aside0.mk (blk_at hq_ BK258.out);have n6_:=Aside0.mk (Kd.C_at hq_ HR259_0.out);have n7_:=Aside0.mk (below_at hq_ HB.out);clear hq_ HO_6 HO_259001 HL259_0 BK247 BK248 BK258 HR259_0 HB;have HO_6:=n0_;have HO_259001:=n1_;have HL259_0:=n2_;have BK247:=n3_;have BK248:=n4_;have BK258:=n5_;have HR259_0:=n6_;have HB:=n7_;clear n0_ n1_ n2_ n3_ n4_ n5_ n6_ n7_))
        have n0_:=Aside0.mk (Kd.R_drew HO_6.out)
        have n1_:=Aside0.mk (Kd.N_drew HO_259001.out)
        have n2_:=Aside0.mk (Kd.V_drew HL259_0.out)
        have n3_:=Aside0.mk (blk_drew BK247.out)
        have n4_:=Aside0.mk (blk_drew BK248.out)
        have n5_:=Aside0.mk (blk_drew BK258.out)
        have n6_:=Aside0.mk (Kd.C_drew HR259_0.out)
        have n7_:=Aside0.mk (below_drew1 HB.out)
        clear HO_6 HO_259001 HL259_0 BK247 BK248 BK258 HR259_0 HB
        have HO_6:=n0_
        have HO_259001:=n1_
        have HL259_0:=n2_
        have BK247:=n3_
        have BK248:=n4_
        have BK258:=n5_
        have HR259_0:=n6_
        have HB:=n7_
        clear n0_ n1_ n2_ n3_ n4_ n5_ n6_ n7_
        have p260:0≤(x19_1:Int):=of_decide_eq_true (bD)
        have q260:x19_1 < (x259001_1.length:Int):=of_decide_eq_true (bD)
        obtain⟨ad260,A260_0,c260_0,e260,hx260_0,hx260_1,hx260_2,hl260_0,hi260_0⟩:=at_T116 (Kd.N_reads' HO_259001.out).2.2 x19_1 p260 q260
        obtain rfl:(⟨go22,0,none⟩:Addr)=ad260:=(by injection e260)
        obtain⟨ce260,hce260,hMe260,hcc260⟩:=Kd.N_get HO_259001.out z116 x19_1 p260 (by first|exact q260|exact of_decide_eq_true (bD)|(have e_:=(Kd.N_reads' HO_259001.out).1;omega))
        obtain⟨ua260_0,uc260_0,rfl,ul260_0,ge260_0⟩:=k116_openF hMe260
        have hv260_0:=hcc260 0 _ rfl
        rw[Nat.add_zero] at hv260_0
        replace hv260_0:=Option.some.inj (hv260_0.symm.trans hx260_0)
        injection hv260_0 with hva_ hvn_ hvc_
        rw[hva_] at ge260_0
        rw[hvc_] at ul260_0
        have HL260_0:=Aside0.mk (show Kd.V (Kd.int .i64) 3 _ w.heap.size _ _ ((rd_T116 x259001_1 x19_1).f0) from Kd.V_mk ul260_0 ge260_0)
        clear hva_ hvn_ hvc_ ge260_0 ul260_0 hcc260 hce260
        (first|simp only[add_plain] at hx260_0|simp only[add_at] at hx260_0|simp only[Addr.add,Nat.zero_add] at hx260_0|skip)
        (first|simp only[add_plain] at hx260_1|simp only[add_at] at hx260_1|simp only[Addr.add,Nat.zero_add] at hx260_1|skip)
        (first|simp only[add_plain] at hx260_2|simp only[add_at] at hx260_2|simp only[Addr.add,Nat.zero_add] at hx260_2|skip)
        have HR260_0:=Aside0.mk hi260_0
        have HC260_0:=Aside0.mk hl260_0
        clear hi260_0 hl260_0
        replace p260:=eq_true p260
        replace q260:=eq_true q260
        have p27:0≤(x19_1:Int):=of_decide_eq_true (bD)
        have q27:(x19_1:Int) < ((x259001_1.length:Int):Int):=of_decide_eq_true (bD)
        obtain⟨ce27,hcl27,hM27,hcc27,hfr27⟩:=Kd.N_elem HO_259001.out z116 (x19_1:Int) p27 q27
        obtain⟨ua27_0,uc27_0,rfl,ul27_0,ge27_0⟩:=k116_openF hM27
        have hx27_0:World.cell? _ ⟨go22,(x19_1:Int).toNat * 3,none⟩=some (.slice ua27_0 ((rd_T116 x259001_1 x19_1).f0).length uc27_0):=hcc27 0 _ rfl
        have hx27_1:World.cell? _ ⟨go22,(x19_1:Int).toNat * 3+1,none⟩=some (.int .i64 ((rd_T116 x259001_1 x19_1).f1)):=hcc27 1 _ rfl
        have hx27_2:World.cell? _ ⟨go22,(x19_1:Int).toNat * 3+2,none⟩=some (.int .i64 ((rd_T116 x259001_1 x19_1).f2)):=hcc27 2 _ rfl
        have hf27_0:World.frozen? _ ⟨go22,(x19_1:Int).toNat * 3,none⟩=false:=hfr27 0
        have hf27_1:World.frozen? _ ⟨go22,(x19_1:Int).toNat * 3+1,none⟩=false:=hfr27 1
        have hf27_2:World.frozen? _ ⟨go22,(x19_1:Int).toNat * 3+2,none⟩=false:=hfr27 2
        clear hcl27 hcc27 hfr27 hM27
        replace p27:=eq_true p27
        replace q27:=eq_true q27
        have HX32:=Aside0.mk (show Kd.N k116 116 _ w.heap.size (fun k_=>(w.heap.size≤k_)∧some k_≠(u6:Value).ownBlock∧k_≠gb247∧k_≠gb248∧k_≠gb258) (.slice (some ⟨go22,0,none⟩) x259001_1.length co18) x259001_1 from (Kd.N_mono (HO_259001.out) (fun k_ hk=>⟨hk.1,⟨hk.2.1,⟨hk.2.2.1,⟨hk.2.2.2.1,hk.2.2.2.2⟩⟩⟩⟩)))
        obtain⟨ce32,hcl32,hM32,hcc32,hfr32⟩:=Kd.N_elem HX32.out z116 (x19_1:Int) (of_decide_eq_true (bD)) (by have h_:(x19_1:Int) < ((x259001_1.length:Int):Int):=of_decide_eq_true (bD);first|exact h_|(have e_:=(Kd.N_reads' HO_259001.out).1;omega)|simpa using h_)
        obtain⟨ua32_0,uc32_0,rfl,ul32_0,ge32_0⟩:=k116_openF hM32
        have HP32:=(Kd.N_seg HX32.out (x19_1:Int) (of_decide_eq_true (bD)) (by have h_:(x19_1:Int) < ((x259001_1.length:Int):Int):=of_decide_eq_true (bD);first|exact h_|(have e_:=(Kd.N_reads' HO_259001.out).1;omega)|simpa using h_) (seg:=[.int .i64 (wrap64 (((rd_T116 x259001_1 x19_1).f1)+t250))]) (j:=1) hcl32 hcc32 (show 2≤3 from by decide) (x':=(⟨(rd_T116 x259001_1 x19_1).f0,wrap64 (((rd_T116 x259001_1 x19_1).f1)+t250),(rd_T116 x259001_1 x19_1).f2⟩:S116)) (k116_mkF _ _ (⟨(rd_T116 x259001_1 x19_1).f0,wrap64 (((rd_T116 x259001_1 x19_1).f1)+t250),(rd_T116 x259001_1 x19_1).f2⟩:S116) ul32_0 ge32_0) (fun _ hk=>hk)).1
        rw[← Ny261.out] at HP32
        have HQ32:=Aside0.mk HP32
        clear hcl32 hcc32 hfr32 hM32 HP32
        refine start_ (n:=10) (S:=fun w'=>w'.cell? ⟨gb258,0,none⟩=some (.int .i64 t250)∧w'.cell? ⟨gb258,1,none⟩=some (.slice (some ⟨go22,0,none⟩) x259001_1.length co18)∧w'.cell? ⟨gb258,2,none⟩=some (.int .i64 t254)∧w'.cell? ⟨go22,(x19_1).toNat * 3,none⟩=some (.slice A260_0 ((rd_T116 x259001_1 x19_1).f0).length c260_0)∧w'.cell? ⟨go22,(x19_1).toNat * 3+1,none⟩=some (.int .i64 ((rd_T116 x259001_1 x19_1).f1))∧w'.cell? ⟨go22,(x19_1).toNat * 3+2,none⟩=some (.int .i64 ((rd_T116 x259001_1 x19_1).f2))) (ds:=[9]) #[false,false,false,false,false,false,false,false,false,false] (by kernel_rfl) rfl rfl ⟨(blk_cell BK258.out 0).trans rfl,(blk_cell BK258.out 1).trans rfl,(blk_cell BK258.out 2).trans rfl,hx260_0,hx260_1,hx260_2⟩ (fun hHeld => ?_);refine with_tabW impl_NextRound.tab9 impl_NextRound.bits9 (fun HT_ HW_ => ?_)
        generalize wr.drew=w31 at HO_6 HO_259001 HL259_0 BK247 BK248 BK258 HR259_0 HB HL260_0 HQ32 HR260_0 hf27_0 hf27_1 hf27_2 hx260_0 hx260_1 hx260_2 hx27_0 hx27_1 hx27_2 hHeld ⊢
        refine pure_ (i:=0) (N:=some 32) (v:=?_) (a':=?_) #[true,false,false,false,false,false,false,false,false,false] rfl rfl (any_of HT_.out (by kernel_rfl)) (fun _ _ _ h=>h) (Or.inl ⟨by rfl,?_⟩) ?_ ?_
        rotate_left
        ·intro w'
         go_simp
         with_reducible rfl
        rotate_left
        ·simp only[Act.put,List.setIfInBounds_toArray,List.set_cons_zero,List.set_cons_succ,i64_w,i32_w]
         rfl
        refine pure_ (i:=1) (N:=some 33) (v:=?_) (a':=?_) #[true,true,false,false,false,false,false,false,false,false] rfl rfl (any_of HT_.out (by kernel_rfl)) (fun _ _ _ h=>h) (Or.inl ⟨by rfl,?_⟩) ?_ ?_
        rotate_left
        ·intro w'
         go_simp
         with_reducible rfl
        rotate_left
        ·simp only[Act.put,List.setIfInBounds_toArray,List.set_cons_zero,List.set_cons_succ,i64_w,i32_w]
         rfl
        refine pure_ (i:=2) (N:=some 34) (v:=?_) (a':=?_) #[true,true,true,false,false,false,false,false,false,false] rfl rfl (any_of HT_.out (by kernel_rfl)) (fun _ _ _ h=>h) (Or.inl ⟨by rfl,?_⟩) ?_ ?_
        rotate_left
        ·intro w'
         go_simp
         with_reducible rfl
        rotate_left
        ·simp only[Act.put,List.setIfInBounds_toArray,List.set_cons_zero,List.set_cons_succ,i64_w,i32_w]
         rfl
        refine pure_ (i:=4) (N:=some 36) (v:=?_) (a':=?_) #[true,true,true,false,true,false,false,false,false,false] rfl rfl (any_of HT_.out (by kernel_rfl)) (fun _ _ _ h=>h) (Or.inl ⟨by rfl,?_⟩) ?_ ?_
        rotate_left
        ·intro w'
         go_simp
         with_reducible rfl
        rotate_left
        ·simp only[Act.put,List.setIfInBounds_toArray,List.set_cons_zero,List.set_cons_succ,i64_w,i32_w]
         rfl
        refine take_ (i:=3) (N:=some 35) (v:=?_) (a':=?_) #[true,true,true,true,true,false,false,false,false,false] rfl rfl (take_ofW HT_.out HW_.out (by kernel_rfl)) (fun _ _ _ h=>h) (Or.inl ⟨by rfl,?_⟩) hHeld ?_ ?_
        rotate_left
        ·rintro w' ⟨s0,s1,s2,s3,s4,s5⟩
         go_simp
         with_reducible rfl
        rotate_left
        ·simp only[Act.put,List.setIfInBounds_toArray,List.set_cons_zero,List.set_cons_succ,i64_w,i32_w]
         rfl
        refine take_ (i:=5) (N:=some 37) (v:=?_) (a':=?_) #[true,true,true,true,true,true,false,false,false,false] rfl rfl (take_ofW HT_.out HW_.out (by kernel_rfl)) (fun _ _ _ h=>h) (Or.inl ⟨by rfl,?_⟩) hHeld ?_ ?_
        rotate_left
        ·rintro w' ⟨s0,s1,s2,s3,s4,s5⟩
         go_simp
         with_reducible rfl
        rotate_left
        ·simp only[Act.put,List.setIfInBounds_toArray,List.set_cons_zero,List.set_cons_succ,i64_w,i32_w]
         rfl
        refine pure_ (i:=6) (N:=some 38) (v:=?_) (a':=?_) #[true,true,true,true,true,true,true,false,false,false] rfl rfl (any_of HT_.out (by kernel_rfl)) (fun _ _ _ h=>h) (Or.inl ⟨by rfl,?_⟩) ?_ ?_
        rotate_left
        ·intro w'
         go_simp
         with_reducible rfl
        rotate_left
        ·simp only[Act.put,List.setIfInBounds_toArray,List.set_cons_zero,List.set_cons_succ,i64_w,i32_w]
         rfl
        refine pure_ (i:=7) (N:=some 39) (v:=?_) (a':=?_) #[true,true,true,true,true,true,true,true,false,false] rfl rfl (any_of HT_.out (by kernel_rfl)) (fun _ _ _ h=>h) (Or.inl ⟨by rfl,?_⟩) ?_ ?_
        rotate_left
        ·intro w'
         go_simp
         with_reducible rfl
        rotate_left
        ·simp only[Act.put,List.setIfInBounds_toArray,List.set_cons_zero,List.set_cons_succ,i64_w,i32_w]
         rfl
        refine pure_ (i:=8) (N:=some 40) (v:=?_) (a':=?_) #[true,true,true,true,true,true,true,true,true,false] rfl rfl (any_of HT_.out (by kernel_rfl)) (fun _ _ _ h=>h) (Or.inl ⟨by rfl,?_⟩) ?_ ?_
        rotate_left
        ·intro w'
         go_simp
         with_reducible rfl
        rotate_left
        ·simp only[Act.put,List.setIfInBounds_toArray,List.set_cons_zero,List.set_cons_succ,i64_w,i32_w]
         rfl
        refine last_ (i:=9) (N:=none) #[true,true,true,true,true,true,true,true,true,true] rfl rfl (one_of HT_.out (by kernel_rfl)) (by decide) (fun K hK => ?_)
        refine skip_ (w1:=?_) (by rfl) rfl ?_ ?_
        rotate_left
        ·go_simp
         rfl
        refine hK.out _ _ ?_
        clear hK K
        refine done_ (done_of HT_.out (by kernel_rfl)) ?_
        try go_wp2
        go_loopg [6] k1 (fun kq v6 w' => ∃ (x6_2:List Int) (x259001_2:List (S116)),Aside0 (impl_NextRound.l1 kq x6_2 x19_1 (t251.length:Int) x19_1 t250 x259001_2 t254=some (r1,r2,r3,r4,r5))∧Aside0 (kq≤k1)∧Aside0 (Kd.R (Kd.int .i64) 3 w' w.heap.size (fun k_=>(w.heap.size≤k_)) v6 x6_2)∧Aside0 (Kd.N k116 116 w' w.heap.size (fun k_=>(w.heap.size≤k_)∧some k_≠(v6:Value).ownBlock∧k_≠gb247∧k_≠gb248∧k_≠gb258) (.slice (some ⟨go22,0,none⟩) x259001_1.length co18) x259001_2)∧Aside0 (w'.heap[gb247]?=some (.cells #[.int .i64 a0_0,(.slice A0_1 l0_1.length c0_1),.int .i64 a0_2] 28 (0,0)))∧Aside0 (w'.heap[gb248]?=some (.cells #[.int .i64 0,(.slice none 0 0),.int .i64 0] 28 (0,0)))∧Aside0 (w'.heap[gb258]?=some (.cells #[.int .i64 t250,(.slice (some ⟨go22,0,none⟩) x259001_1.length co18),.int .i64 t254] 28 (0,0)))∧Aside0 (Below w.heap.size w w'))
        case atStart=>exact⟨(x6_1),(y261),H',⟨Nat.le_refl _⟩,⟨by(try simp only[hl259001_1]);(with_reducible repeat (first|apply Kd.R_alloc|apply Kd.R_drewN|apply Kd.R_drew));exact Kd.R_mono (Kd.R_far (p:=⟨go22,(x19_1:Int).toNat * 3+1,none⟩) (Kd.R_types HO_6.out (by first|exact GG22.out|exact(Kd.N_typed HO_259001.out _ rfl).choose_spec) (by decide)) (fun _ hk=>hk.2) (.int .i64 (wrap64 (((rd_T116 x259001_1 x19_1).f1)+t250)))) (fun _ hk=>hk.1)⟩,⟨by(try simp only[hl259001_1]);(with_reducible repeat (first|apply Kd.N_alloc|apply Kd.N_drewN|apply Kd.N_drew));exact HQ32.out⟩,⟨by(try simp only[hl259001_1]);(with_reducible repeat (first|refine blk_drewN ?_ _|refine blk_drew ?_|refine blk_alloc ?_ _));refine blk_far ?_ (by have h_:=Kd.N_away HO_259001.out (fun _ hk=>hk.2.2.1);intro e_;exact h_ (by rw[e_];rfl)) _;(with_reducible repeat (first|refine blk_drewN ?_ _|refine blk_drew ?_|refine blk_alloc ?_ _));exact BK247.out⟩,⟨by(try simp only[hl259001_1]);(with_reducible repeat (first|refine blk_drewN ?_ _|refine blk_drew ?_|refine blk_alloc ?_ _));refine blk_far ?_ (by have h_:=Kd.N_away HO_259001.out (fun _ hk=>hk.2.2.2.1);intro e_;exact h_ (by rw[e_];rfl)) _;(with_reducible repeat (first|refine blk_drewN ?_ _|refine blk_drew ?_|refine blk_alloc ?_ _));exact BK248.out⟩,⟨by(try simp only[hl259001_1]);(with_reducible repeat (first|refine blk_drewN ?_ _|refine blk_drew ?_|refine blk_alloc ?_ _));refine blk_far ?_ (by have h_:=Kd.N_away HO_259001.out (fun _ hk=>hk.2.2.2.2);intro e_;exact h_ (by rw[e_];rfl)) _;(with_reducible repeat (first|refine blk_drewN ?_ _|refine blk_drew ?_|refine blk_alloc ?_ _));exact BK258.out⟩,⟨bS4 GB22.out GE247.out GE248.out GE258.out⟩⟩
        case round =>
         clear H'
         try clear c1
         try clear c2
         try clear p2
         try clear q2
         try clear hx2
         try clear hf2
         try clear c3
         try clear c5
         try clear p6
         try clear c7
         try clear c8
         try clear c15
         try clear c16
         try clear c19
         try clear c19b0
         try clear c20
         try clear c20b0
         try clear c21
         try clear c21b0
         try clear c22
         try clear p22
         try clear q22
         try clear hx22
         try clear hf22
         try clear c23
         try clear c23b0
         try clear c23b1
         try clear c23b2
         try clear c24
         try clear c25
         try clear p25
         try clear q25
         try clear hx25
         try clear c26
         try clear p26
         try clear q26
         try clear hx26
         try clear c27
         try clear p27
         try clear q27
         try clear hx27
         try clear hf27
         try clear c28
         try clear c29
         try clear c32
         try clear hcz10_0 hcz10_1 hcz10_2
         try clear hcz17_0 hcz17_1 hcz17_2
         try clear hcz26_0 hcz26_1 hcz26_2
         try clear hcz30_0 hcz30_1 hcz30_2
         try clear hcz8_0 hcz8_1 hcz8_2
         try clear hfz10_0 hfz10_1 hfz10_2
         try clear hfz17_0 hfz17_1 hfz17_2
         try clear hfz26_0 hfz26_1 hfz26_2
         try clear hfz30_0 hfz30_1 hfz30_2
         try clear hfz8_0 hfz8_1 hfz8_2
         try clear hx22_0
         try clear hx22_1
         try clear hx22_2
         try clear hx259_0
         try clear hx259_1
         try clear hx259_2
         try clear hx260_0
         try clear hx260_1
         try clear hx260_2
         try clear hx27_0
         try clear hx27_1
         try clear hx27_2
         try clear p2
         try clear p22
         try clear p259
         try clear p260
         try clear p27
         try clear q22
         try clear q259
         try clear q260
         try clear q27
         obtain⟨x6_2,x259001_2,HA,HK2,HO_6,HO_259001,BK247,BK248,BK258,HB⟩:=hrel
         have hl259001_2:=(Kd.N_reads' HO_259001.out).1
         rw[hl259001_2] at HO_259001
         (try simp only[hl259001_2])
         (try simp only[hl259001_2] at BK247)
         (try simp only[hl259001_2] at BK248)
         (try simp only[hl259001_2] at BK258)
         (try simp only[hl259001_2] at HO_6)
         cases gk with
         | zero=>exact absurd HA.out (by simp[impl_NextRound.l1])
         | succ k2 =>
          have H:=HA.out
          clear HA
          simp only[impl_NextRound.l1] at H
          by_cases c33:0≤x19_1
          ·rw[if_pos c33] at H
           have c33b0:decide (0≤x19_1)=true:=decide_eq_true c33
           clear c33
           by_cases c34:x19_1 < (x259001_2.length:Int)
           ·rw[if_pos c34] at H
            have c34b0:decide (x19_1 < (x259001_2.length:Int))=true:=decide_eq_true c34
            clear c34
            by_cases c35:(((rd_T116 x259001_2 x19_1).f0).length:Int) > 0
            ·rw[if_pos c35] at H
             have c35b0:decide (0 < (((rd_T116 x259001_2 x19_1).f0).length:Int))=true:=decide_eq_true c35
             have c35b1:decide (0 < ((rd_T116 x259001_2 x19_1).f0).length)=true:=decide_eq_true (by omega)
             clear c35
             by_cases c36:0 < (((rd_T116 x259001_2 x19_1).f0).length:Int)
             ·rw[if_pos c36] at H
              have c36b0:decide (0 < (((rd_T116 x259001_2 x19_1).f0).length:Int))=true:=decide_eq_true c36
              have c36b1:decide (0 < ((rd_T116 x259001_2 x19_1).f0).length)=true:=decide_eq_true (by omega)
              clear c36
              by_cases c37:(rd ((rd_T116 x259001_2 x19_1).f0) 0)≤((rd_T116 x259001_2 x19_1).f1)
              ·rw[if_pos c37] at H
               have c37b0:decide ((rd ((rd_T116 x259001_2 x19_1).f0) 0)≤((rd_T116 x259001_2 x19_1).f1))=true:=decide_eq_true c37
               clear c37
               obtain⟨y269,hy269⟩ : ∃ y_:List (S116),y_=(x259001_2.set (x19_1:Int).toNat (⟨(rd_T116 x259001_2 x19_1).f0,wrap64 (((rd_T116 x259001_2 x19_1).f1) - (rd ((rd_T116 x259001_2 x19_1).f0) 0)),(rd_T116 x259001_2 x19_1).f2⟩:S116)):=⟨_,rfl⟩
               replace H:(if 0 < (((rd_T116 y269 x19_1).f0).length:Int) then ((some (y269.set (x19_1:Int).toNat (⟨(rd_T116 y269 x19_1).f0,(rd_T116 y269 x19_1).f1,wrap64 (((rd_T116 y269 x19_1).f2)+(rd ((rd_T116 y269 x19_1).f0) 0))⟩:S116):List (S116))).bind fun y273=>(if 1≤(((rd_T116 y273 x19_1).f0).length:Int) then (if x6_2.length < 17592186044416 then (impl_NextRound.l1 k2 (x6_2++[x19_1]) x19_1 (t251.length:Int) x19_1 t250 (y273.set (x19_1:Int).toNat (⟨(((rd_T116 y273 x19_1).f0).drop 1),(rd_T116 y273 x19_1).f1,(rd_T116 y273 x19_1).f2⟩:S116)) t254) else (none)) else (none))) else (none))=some (r1,r2,r3,r4,r5):=by first|(rw[hy269];with_reducible exact H)|(have H2_:=(Option.bind_some _ _).symm.trans H;rw[hy269];with_reducible exact H2_)|(have H2_:=(Option.bind_some _ _).symm.trans H;with_reducible exact H2_)|with_reducible exact H|(rw[hy269];exact H)|exact H
               have Ny269:=Aside0.mk hy269
               clear hy269
               by_cases c39:0 < (((rd_T116 y269 x19_1).f0).length:Int)
               ·rw[if_pos c39] at H
                have c39b0:decide (0 < (((rd_T116 y269 x19_1).f0).length:Int))=true:=decide_eq_true c39
                have c39b1:decide (0 < ((rd_T116 y269 x19_1).f0).length)=true:=decide_eq_true (by omega)
                clear c39
                obtain⟨y273,hy273⟩ : ∃ y_:List (S116),y_=(y269.set (x19_1:Int).toNat (⟨(rd_T116 y269 x19_1).f0,(rd_T116 y269 x19_1).f1,wrap64 (((rd_T116 y269 x19_1).f2)+(rd ((rd_T116 y269 x19_1).f0) 0))⟩:S116)):=⟨_,rfl⟩
                replace H:(if 1≤(((rd_T116 y273 x19_1).f0).length:Int) then (if x6_2.length < 17592186044416 then (impl_NextRound.l1 k2 (x6_2++[x19_1]) x19_1 (t251.length:Int) x19_1 t250 (y273.set (x19_1:Int).toNat (⟨(((rd_T116 y273 x19_1).f0).drop 1),(rd_T116 y273 x19_1).f1,(rd_T116 y273 x19_1).f2⟩:S116)) t254) else (none)) else (none))=some (r1,r2,r3,r4,r5):=by first|(rw[hy273];with_reducible exact H)|(have H2_:=(Option.bind_some _ _).symm.trans H;rw[hy273];with_reducible exact H2_)|(have H2_:=(Option.bind_some _ _).symm.trans H;with_reducible exact H2_)|with_reducible exact H|(rw[hy273];exact H)|exact H
                have Ny273:=Aside0.mk hy273
                clear hy273
                by_cases c41:1≤(((rd_T116 y273 x19_1).f0).length:Int)
                ·rw[if_pos c41] at H
                 have c41b0:=eq_true c41
                 have c41b1:decide (1≤(((rd_T116 y273 x19_1).f0).length:Int))=true:=decide_eq_true c41
                 clear c41
                 obtain⟨y275,hy275⟩ : ∃ y_:List Int,y_=(((rd_T116 y273 x19_1).f0).drop 1):=⟨_,rfl⟩
                 replace H:(if x6_2.length < 17592186044416 then (impl_NextRound.l1 k2 (x6_2++[x19_1]) x19_1 (t251.length:Int) x19_1 t250 (y273.set (x19_1:Int).toNat (⟨y275,(rd_T116 y273 x19_1).f1,(rd_T116 y273 x19_1).f2⟩:S116)) t254) else (none))=some (r1,r2,r3,r4,r5):=by first|(rw[hy275];with_reducible exact H)|(have H2_:=(Option.bind_some _ _).symm.trans H;rw[hy275];with_reducible exact H2_)|(have H2_:=(Option.bind_some _ _).symm.trans H;with_reducible exact H2_)|with_reducible exact H|(rw[hy275];exact H)|exact H
                 have Ny275:=Aside0.mk hy275
                 clear hy275
                 obtain⟨y280,hy280⟩ : ∃ y_:List (S116),y_=(y273.set (x19_1:Int).toNat (⟨y275,(rd_T116 y273 x19_1).f1,(rd_T116 y273 x19_1).f2⟩:S116)):=⟨_,rfl⟩
                 replace H:(if x6_2.length < 17592186044416 then (impl_NextRound.l1 k2 (x6_2++[x19_1]) x19_1 (t251.length:Int) x19_1 t250 y280 t254) else (none))=some (r1,r2,r3,r4,r5):=by first|(rw[hy280];with_reducible exact H)|(have H2_:=(Option.bind_some _ _).symm.trans H;rw[hy280];with_reducible exact H2_)|(have H2_:=(Option.bind_some _ _).symm.trans H;with_reducible exact H2_)|with_reducible exact H|(rw[hy280];exact H)|exact H
                 have Ny280:=Aside0.mk hy280
                 clear hy280
                 by_cases c43:x6_2.length < 17592186044416
                 ·rw[if_pos c43] at H
                  have LMc43:=Aside0.mk c43
                  clear c43
                  obtain⟨y281,hy281⟩ : ∃ y_:List Int,y_=(x6_2++[x19_1]):=⟨_,rfl⟩
                  replace H:(impl_NextRound.l1 k2 y281 x19_1 (t251.length:Int) x19_1 t250 y280 t254)=some (r1,r2,r3,r4,r5):=by first|(rw[hy281];with_reducible exact H)|(have H2_:=(Option.bind_some _ _).symm.trans H;rw[hy281];with_reducible exact H2_)|(have H2_:=(Option.bind_some _ _).symm.trans H;with_reducible exact H2_)|with_reducible exact H|(rw[hy281];exact H)|exact H
                  have Ny281:=Aside0.mk hy281
                  clear hy281
                  have H':=Aside0.mk H
                  clear H
                  try go_wp2
                  (try (rw[drewN_self wr];generalize hq_:World.drewN wr _=wr;have n0_:=Aside0.mk (Kd.R_at hq_ HO_6.out);have n1_:=Aside0.mk (Kd.N_at hq_ HO_259001.out);have n2_:=Aside0.mk (blk_at hq_ BK247.out);have n3_:=Aside0.mk (blk_at hq_ BK248.out);have n4_:=Aside0.mk (blk_at hq_ BK258.out);have n5_:=Aside0.mk (below_at hq_ HB.out);clear hq_ HO_6 HO_259001 BK247 BK248 BK258 HB;have HO_6:=n0_;have HO_259001:=n1_;have BK247:=n2_;have BK248:=n3_;have BK258:=n4_;have HB:=n5_;clear n0_ n1_ n2_ n3_ n4_ n5_))
                  have n0_:=Aside0.mk (Kd.R_drew HO_6.out)
                  have n1_:=Aside0.mk (Kd.N_drew HO_259001.out)
                  have n2_:=Aside0.mk (blk_drew BK247.out)
                  have n3_:=Aside0.mk (blk_drew BK248.out)
                  have n4_:=Aside0.mk (blk_drew BK258.out)
                  have n5_:=Aside0.mk (below_drew1 HB.out)
                  clear HO_6 HO_259001 BK247 BK248 BK258 HB
                  have HO_6:=n0_
                  have HO_259001:=n1_
                  have BK247:=n2_
                  have BK248:=n3_
                  have BK258:=n4_
                  have HB:=n5_
                  clear n0_ n1_ n2_ n3_ n4_ n5_
                  have p262:0≤(x19_1:Int):=of_decide_eq_true (bD)
                  have q262:x19_1 < (x259001_2.length:Int):=of_decide_eq_true (bD)
                  obtain⟨ad262,A262_0,c262_0,e262,hx262_0,hx262_1,hx262_2,hl262_0,hi262_0⟩:=at_T116 (Kd.N_reads' HO_259001.out).2.2 x19_1 p262 q262
                  obtain rfl:(⟨go22,0,none⟩:Addr)=ad262:=(by injection e262)
                  obtain⟨ce262,hce262,hMe262,hcc262⟩:=Kd.N_get HO_259001.out z116 x19_1 p262 (by first|exact q262|exact of_decide_eq_true (bD)|(have e_:=(Kd.N_reads' HO_259001.out).1;omega))
                  obtain⟨ua262_0,uc262_0,rfl,ul262_0,ge262_0⟩:=k116_openF hMe262
                  have hv262_0:=hcc262 0 _ rfl
                  rw[Nat.add_zero] at hv262_0
                  replace hv262_0:=Option.some.inj (hv262_0.symm.trans hx262_0)
                  injection hv262_0 with hva_ hvn_ hvc_
                  rw[hva_] at ge262_0
                  rw[hvc_] at ul262_0
                  have HL262_0:=Aside0.mk (show Kd.V (Kd.int .i64) 3 _ w.heap.size _ _ ((rd_T116 x259001_2 x19_1).f0) from Kd.V_mk ul262_0 ge262_0)
                  clear hva_ hvn_ hvc_ ge262_0 ul262_0 hcc262 hce262
                  (first|simp only[add_plain] at hx262_0|simp only[add_at] at hx262_0|simp only[Addr.add,Nat.zero_add] at hx262_0|skip)
                  (first|simp only[add_plain] at hx262_1|simp only[add_at] at hx262_1|simp only[Addr.add,Nat.zero_add] at hx262_1|skip)
                  (first|simp only[add_plain] at hx262_2|simp only[add_at] at hx262_2|simp only[Addr.add,Nat.zero_add] at hx262_2|skip)
                  have HR262_0:=Aside0.mk hi262_0
                  have HC262_0:=Aside0.mk hl262_0
                  clear hi262_0 hl262_0
                  replace p262:=eq_true p262
                  replace q262:=eq_true q262
                  have p263:0≤(x19_1:Int):=of_decide_eq_true (bD)
                  have q263:x19_1 < (x259001_2.length:Int):=of_decide_eq_true (bD)
                  obtain⟨ad263,A263_0,c263_0,e263,hx263_0,hx263_1,hx263_2,hl263_0,hi263_0⟩:=at_T116 (Kd.N_reads' HO_259001.out).2.2 x19_1 p263 q263
                  obtain rfl:(⟨go22,0,none⟩:Addr)=ad263:=(by injection e263)
                  obtain⟨ce263,hce263,hMe263,hcc263⟩:=Kd.N_get HO_259001.out z116 x19_1 p263 (by first|exact q263|exact of_decide_eq_true (bD)|(have e_:=(Kd.N_reads' HO_259001.out).1;omega))
                  obtain⟨ua263_0,uc263_0,rfl,ul263_0,ge263_0⟩:=k116_openF hMe263
                  have hv263_0:=hcc263 0 _ rfl
                  rw[Nat.add_zero] at hv263_0
                  replace hv263_0:=Option.some.inj (hv263_0.symm.trans hx263_0)
                  injection hv263_0 with hva_ hvn_ hvc_
                  rw[hva_] at ge263_0
                  rw[hvc_] at ul263_0
                  have HL263_0:=Aside0.mk (show Kd.V (Kd.int .i64) 3 _ w.heap.size _ _ ((rd_T116 x259001_2 x19_1).f0) from Kd.V_mk ul263_0 ge263_0)
                  clear hva_ hvn_ hvc_ ge263_0 ul263_0 hcc263 hce263
                  (first|simp only[add_plain] at hx263_0|simp only[add_at] at hx263_0|simp only[Addr.add,Nat.zero_add] at hx263_0|skip)
                  (first|simp only[add_plain] at hx263_1|simp only[add_at] at hx263_1|simp only[Addr.add,Nat.zero_add] at hx263_1|skip)
                  (first|simp only[add_plain] at hx263_2|simp only[add_at] at hx263_2|simp only[Addr.add,Nat.zero_add] at hx263_2|skip)
                  have HR263_0:=Aside0.mk hi263_0
                  have HC263_0:=Aside0.mk hl263_0
                  clear hi263_0 hl263_0
                  replace p263:=eq_true p263
                  replace q263:=eq_true q263
                  have ea_:=Option.some.inj (hx262_0.symm.trans hx263_0)
                  injection ea_ with ea_ en_ ec_
                  subst ea_
                  subst ec_
                  clear en_
                  have p264:0≤(0:Int):=(by omega)
                  have q264:0 < (((rd_T116 x259001_2 x19_1).f0).length:Int):=of_decide_eq_true (bD)
                  obtain⟨ad264,e264,hx264_0⟩:=Kd.at_int (by repeat (first|(with_reducible exact HR263_0.out)|(with_reducible refine Kd.C_alloc ?_ _)|(with_reducible refine Kd.C_drewN ?_ _)|(with_reducible refine Kd.C_drew ?_)|exact HR263_0.out)) 0 p264 q264
                  cases e264
                  have qi264:(0 < ((rd_T116 x259001_2 x19_1).f0).length)=True:=eq_true (by omega)
                  (try rw[show((0:Int)).toNat=0 from rfl] at hx264_0)
                  (try rw[Addr.add_zero'] at hx264_0)
                  replace p264:=eq_true p264
                  replace q264:=eq_true q264
                  have p265:0≤(x19_1:Int):=of_decide_eq_true (bD)
                  have q265:x19_1 < (x259001_2.length:Int):=of_decide_eq_true (bD)
                  obtain⟨ad265,A265_0,c265_0,e265,hx265_0,hx265_1,hx265_2,hl265_0,hi265_0⟩:=at_T116 (Kd.N_reads' HO_259001.out).2.2 x19_1 p265 q265
                  obtain rfl:(⟨go22,0,none⟩:Addr)=ad265:=(by injection e265)
                  obtain⟨ce265,hce265,hMe265,hcc265⟩:=Kd.N_get HO_259001.out z116 x19_1 p265 (by first|exact q265|exact of_decide_eq_true (bD)|(have e_:=(Kd.N_reads' HO_259001.out).1;omega))
                  obtain⟨ua265_0,uc265_0,rfl,ul265_0,ge265_0⟩:=k116_openF hMe265
                  have hv265_0:=hcc265 0 _ rfl
                  rw[Nat.add_zero] at hv265_0
                  replace hv265_0:=Option.some.inj (hv265_0.symm.trans hx265_0)
                  injection hv265_0 with hva_ hvn_ hvc_
                  rw[hva_] at ge265_0
                  rw[hvc_] at ul265_0
                  have HL265_0:=Aside0.mk (show Kd.V (Kd.int .i64) 3 _ w.heap.size _ _ ((rd_T116 x259001_2 x19_1).f0) from Kd.V_mk ul265_0 ge265_0)
                  clear hva_ hvn_ hvc_ ge265_0 ul265_0 hcc265 hce265
                  (first|simp only[add_plain] at hx265_0|simp only[add_at] at hx265_0|simp only[Addr.add,Nat.zero_add] at hx265_0|skip)
                  (first|simp only[add_plain] at hx265_1|simp only[add_at] at hx265_1|simp only[Addr.add,Nat.zero_add] at hx265_1|skip)
                  (first|simp only[add_plain] at hx265_2|simp only[add_at] at hx265_2|simp only[Addr.add,Nat.zero_add] at hx265_2|skip)
                  have HR265_0:=Aside0.mk hi265_0
                  have HC265_0:=Aside0.mk hl265_0
                  clear hi265_0 hl265_0
                  replace p265:=eq_true p265
                  replace q265:=eq_true q265
                  have ea_:=Option.some.inj (hx262_0.symm.trans hx265_0)
                  injection ea_ with ea_ en_ ec_
                  subst ea_
                  subst ec_
                  clear en_
                  refine start_ (n:=19) (S:=fun w'=>w'.cell? ⟨go22,(x19_1).toNat * 3,none⟩=some (.slice (some ad264) ((rd_T116 x259001_2 x19_1).f0).length c262_0)∧w'.cell? ⟨go22,(x19_1).toNat * 3+1,none⟩=some (.int .i64 ((rd_T116 x259001_2 x19_1).f1))∧w'.cell? ⟨go22,(x19_1).toNat * 3+2,none⟩=some (.int .i64 ((rd_T116 x259001_2 x19_1).f2))∧w'.cell? ⟨go22,(x19_1).toNat * 3,none⟩=some (.slice (some ad264) ((rd_T116 x259001_2 x19_1).f0).length c262_0)∧w'.cell? ⟨go22,(x19_1).toNat * 3+1,none⟩=some (.int .i64 ((rd_T116 x259001_2 x19_1).f1))∧w'.cell? ⟨go22,(x19_1).toNat * 3+2,none⟩=some (.int .i64 ((rd_T116 x259001_2 x19_1).f2))∧w'.cell? ad264=some (.int .i64 (rd ((rd_T116 x259001_2 x19_1).f0) 0))∧w'.cell? ⟨go22,(x19_1).toNat * 3,none⟩=some (.slice (some ad264) ((rd_T116 x259001_2 x19_1).f0).length c262_0)∧w'.cell? ⟨go22,(x19_1).toNat * 3+1,none⟩=some (.int .i64 ((rd_T116 x259001_2 x19_1).f1))∧w'.cell? ⟨go22,(x19_1).toNat * 3+2,none⟩=some (.int .i64 ((rd_T116 x259001_2 x19_1).f2))) (ds:=[]) #[false,false,false,false,false,false,false,false,false,false,false,false,false,false,false,false,false,false,false] (by kernel_rfl) rfl rfl ⟨hx262_0,hx262_1,hx262_2,hx263_0,hx263_1,hx263_2,hx264_0,hx265_0,hx265_1,hx265_2⟩ (fun hHeld => ?_);refine with_tabW impl_NextRound.tab10 impl_NextRound.bits10 (fun HT_ HW_ => ?_)
                  generalize wr.drew=w44 at HO_6 HO_259001 BK247 BK248 BK258 HB HL262_0 HL263_0 HL265_0 HR262_0 HR263_0 HR265_0 hx262_0 hx262_1 hx262_2 hx263_0 hx263_1 hx263_2 hx264_0 hx265_0 hx265_1 hx265_2 hHeld ⊢
                  refine pure_ (i:=0) (N:=some 41) (v:=?_) (a':=?_) #[true,false,false,false,false,false,false,false,false,false,false,false,false,false,false,false,false,false,false] rfl rfl (any_of HT_.out (by kernel_rfl)) (fun _ _ _ h=>h) (Or.inl ⟨by rfl,?_⟩) ?_ ?_
                  rotate_left
                  ·intro w'
                   go_simp
                   with_reducible rfl
                  rotate_left
                  ·simp only[Act.put,List.setIfInBounds_toArray,List.set_cons_zero,List.set_cons_succ,i64_w,i32_w]
                   rfl
                  refine pure_ (i:=1) (N:=some 42) (v:=?_) (a':=?_) #[true,true,false,false,false,false,false,false,false,false,false,false,false,false,false,false,false,false,false] rfl rfl (any_of HT_.out (by kernel_rfl)) (fun _ _ _ h=>h) (Or.inl ⟨by rfl,?_⟩) ?_ ?_
                  rotate_left
                  ·intro w'
                   go_simp
                   with_reducible rfl
                  rotate_left
                  ·simp only[Act.put,List.setIfInBounds_toArray,List.set_cons_zero,List.set_cons_succ,i64_w,i32_w]
                   rfl
                  refine pure_ (i:=2) (N:=some 43) (v:=?_) (a':=?_) #[true,true,true,false,false,false,false,false,false,false,false,false,false,false,false,false,false,false,false] rfl rfl (any_of HT_.out (by kernel_rfl)) (fun _ _ _ h=>h) (Or.inl ⟨by rfl,?_⟩) ?_ ?_
                  rotate_left
                  ·intro w'
                   go_simp
                   with_reducible rfl
                  rotate_left
                  ·simp only[Act.put,List.setIfInBounds_toArray,List.set_cons_zero,List.set_cons_succ,i64_w,i32_w]
                   rfl
                  refine take_ (i:=3) (N:=some 44) (v:=?_) (a':=?_) #[true,true,true,true,false,false,false,false,false,false,false,false,false,false,false,false,false,false,false] rfl rfl (take_ofW HT_.out HW_.out (by kernel_rfl)) (fun _ _ _ h=>h) (Or.inl ⟨by rfl,?_⟩) hHeld ?_ ?_
                  rotate_left
                  ·rintro w' ⟨s0,s1,s2,s3,s4,s5,s6,s7,s8,s9⟩
                   go_simp
                   with_reducible rfl
                  rotate_left
                  ·simp only[Act.put,List.setIfInBounds_toArray,List.set_cons_zero,List.set_cons_succ,i64_w,i32_w]
                   rfl
                  refine pure_ (i:=4) (N:=some 45) (v:=?_) (a':=?_) #[true,true,true,true,true,false,false,false,false,false,false,false,false,false,false,false,false,false,false] rfl rfl (any_of HT_.out (by kernel_rfl)) (fun _ _ _ h=>h) (Or.inl ⟨by rfl,?_⟩) ?_ ?_
                  rotate_left
                  ·intro w'
                   go_simp
                   with_reducible rfl
                  rotate_left
                  ·simp only[Act.put,List.setIfInBounds_toArray,List.set_cons_zero,List.set_cons_succ,i64_w,i32_w]
                   rfl
                  refine pure_ (i:=5) (N:=some 46) (v:=?_) (a':=?_) #[true,true,true,true,true,true,false,false,false,false,false,false,false,false,false,false,false,false,false] rfl rfl (any_of HT_.out (by kernel_rfl)) (fun _ _ _ h=>h) (Or.inl ⟨by rfl,?_⟩) ?_ ?_
                  rotate_left
                  ·intro w'
                   go_simp
                   with_reducible rfl
                  rotate_left
                  ·simp only[Act.put,List.setIfInBounds_toArray,List.set_cons_zero,List.set_cons_succ,i64_w,i32_w]
                   rfl
                  refine pure_ (i:=6) (N:=some 47) (v:=?_) (a':=?_) #[true,true,true,true,true,true,true,false,false,false,false,false,false,false,false,false,false,false,false] rfl rfl (any_of HT_.out (by kernel_rfl)) (fun _ _ _ h=>h) (Or.inl ⟨by rfl,?_⟩) ?_ ?_
                  rotate_left
                  ·intro w'
                   go_simp
                   with_reducible rfl
                  rotate_left
                  ·simp only[Act.put,List.setIfInBounds_toArray,List.set_cons_zero,List.set_cons_succ,i64_w,i32_w]
                   rfl
                  refine pure_ (i:=7) (N:=some 48) (v:=?_) (a':=?_) #[true,true,true,true,true,true,true,true,false,false,false,false,false,false,false,false,false,false,false] rfl rfl (any_of HT_.out (by kernel_rfl)) (fun _ _ _ h=>h) (Or.inl ⟨by rfl,?_⟩) ?_ ?_
                  rotate_left
                  ·intro w'
                   go_simp
                   with_reducible rfl
                  rotate_left
                  ·simp only[Act.put,List.setIfInBounds_toArray,List.set_cons_zero,List.set_cons_succ,i64_w,i32_w]
                   rfl
                  refine pure_ (i:=8) (N:=some 49) (v:=?_) (a':=?_) #[true,true,true,true,true,true,true,true,true,false,false,false,false,false,false,false,false,false,false] rfl rfl (any_of HT_.out (by kernel_rfl)) (fun _ _ _ h=>h) (Or.inl ⟨by rfl,?_⟩) ?_ ?_
                  rotate_left
                  ·intro w'
                   go_simp
                   with_reducible rfl
                  rotate_left
                  ·simp only[Act.put,List.setIfInBounds_toArray,List.set_cons_zero,List.set_cons_succ,i64_w,i32_w]
                   rfl
                  refine pure_ (i:=9) (N:=some 50) (v:=?_) (a':=?_) #[true,true,true,true,true,true,true,true,true,true,false,false,false,false,false,false,false,false,false] rfl rfl (any_of HT_.out (by kernel_rfl)) (fun _ _ _ h=>h) (Or.inl ⟨by rfl,?_⟩) ?_ ?_
                  rotate_left
                  ·intro w'
                   go_simp
                   with_reducible rfl
                  rotate_left
                  ·simp only[Act.put,List.setIfInBounds_toArray,List.set_cons_zero,List.set_cons_succ,i64_w,i32_w]
                   rfl
                  refine pure_ (i:=13) (N:=some 54) (v:=?_) (a':=?_) #[true,true,true,true,true,true,true,true,true,true,false,false,false,true,false,false,false,false,false] rfl rfl (any_of HT_.out (by kernel_rfl)) (fun _ _ _ h=>h) (Or.inl ⟨by rfl,?_⟩) ?_ ?_
                  rotate_left
                  ·intro w'
                   go_simp
                   with_reducible rfl
                  rotate_left
                  ·simp only[Act.put,List.setIfInBounds_toArray,List.set_cons_zero,List.set_cons_succ,i64_w,i32_w]
                   rfl
                  refine pure_ (i:=14) (N:=some 55) (v:=?_) (a':=?_) #[true,true,true,true,true,true,true,true,true,true,false,false,false,true,true,false,false,false,false] rfl rfl (any_of HT_.out (by kernel_rfl)) (fun _ _ _ h=>h) (Or.inl ⟨by rfl,?_⟩) ?_ ?_
                  rotate_left
                  ·intro w'
                   go_simp
                   with_reducible rfl
                  rotate_left
                  ·simp only[Act.put,List.setIfInBounds_toArray,List.set_cons_zero,List.set_cons_succ,i64_w,i32_w]
                   rfl
                  refine pure_ (i:=15) (N:=some 56) (v:=?_) (a':=?_) #[true,true,true,true,true,true,true,true,true,true,false,false,false,true,true,true,false,false,false] rfl rfl (any_of HT_.out (by kernel_rfl)) (fun _ _ _ h=>h) (Or.inl ⟨by rfl,?_⟩) ?_ ?_
                  rotate_left
                  ·intro w'
                   go_simp
                   with_reducible rfl
                  rotate_left
                  ·simp only[Act.put,List.setIfInBounds_toArray,List.set_cons_zero,List.set_cons_succ,i64_w,i32_w]
                   rfl
                  refine take_ (i:=10) (N:=some 51) (v:=?_) (a':=?_) #[true,true,true,true,true,true,true,true,true,true,true,false,false,true,true,true,false,false,false] rfl rfl (take_ofW HT_.out HW_.out (by kernel_rfl)) (fun _ _ _ h=>h) (Or.inl ⟨by rfl,?_⟩) hHeld ?_ ?_
                  rotate_left
                  ·rintro w' ⟨s0,s1,s2,s3,s4,s5,s6,s7,s8,s9⟩
                   go_simp
                   with_reducible rfl
                  rotate_left
                  ·simp only[Act.put,List.setIfInBounds_toArray,List.set_cons_zero,List.set_cons_succ,i64_w,i32_w]
                   rfl
                  refine pure_ (i:=11) (N:=some 52) (v:=?_) (a':=?_) #[true,true,true,true,true,true,true,true,true,true,true,true,false,true,true,true,false,false,false] rfl rfl (any_of HT_.out (by kernel_rfl)) (fun _ _ _ h=>h) (Or.inl ⟨by rfl,?_⟩) ?_ ?_
                  rotate_left
                  ·intro w'
                   go_simp
                   with_reducible rfl
                  rotate_left
                  ·simp only[Act.put,List.setIfInBounds_toArray,List.set_cons_zero,List.set_cons_succ,i64_w,i32_w]
                   rfl
                  refine take_ (i:=12) (N:=some 53) (v:=?_) (a':=?_) #[true,true,true,true,true,true,true,true,true,true,true,true,true,true,true,true,false,false,false] rfl rfl (take_ofW HT_.out HW_.out (by kernel_rfl)) (fun _ _ _ h=>h) (Or.inl ⟨by rfl,?_⟩) hHeld ?_ ?_
                  rotate_left
                  ·rintro w' ⟨s0,s1,s2,s3,s4,s5,s6,s7,s8,s9⟩
                   go_simp
                   with_reducible rfl
                  rotate_left
                  ·simp only[Act.put,List.setIfInBounds_toArray,List.set_cons_zero,List.set_cons_succ,i64_w,i32_w]
                   rfl
                  refine take_ (i:=16) (N:=some 57) (v:=?_) (a':=?_) #[true,true,true,true,true,true,true,true,true,true,true,true,true,true,true,true,true,false,false] rfl rfl (take_ofW HT_.out HW_.out (by kernel_rfl)) (fun _ _ _ h=>h) (Or.inl ⟨by rfl,?_⟩) hHeld ?_ ?_
                  rotate_left
                  ·rintro w' ⟨s0,s1,s2,s3,s4,s5,s6,s7,s8,s9⟩
                   go_simp
                   with_reducible rfl
                  rotate_left
                  ·simp only[Act.put,List.setIfInBounds_toArray,List.set_cons_zero,List.set_cons_succ,i64_w,i32_w]
                   rfl
                  refine pure_ (i:=17) (N:=some 58) (v:=?_) (a':=?_) #[true,true,true,true,true,true,true,true,true,true,true,true,true,true,true,true,true,true,false] rfl rfl (any_of HT_.out (by kernel_rfl)) (fun _ _ _ h=>h) (Or.inl ⟨by rfl,?_⟩) ?_ ?_
                  rotate_left
                  ·intro w'
                   go_simp
                   with_reducible rfl
                  rotate_left
                  ·simp only[Act.put,List.setIfInBounds_toArray,List.set_cons_zero,List.set_cons_succ,i64_w,i32_w]
                   rfl
                  refine pure_ (i:=18) (N:=some 59) (v:=?_) (a':=?_) #[true,true,true,true,true,true,true,true,true,true,true,true,true,true,true,true,true,true,true] rfl rfl (any_of HT_.out (by kernel_rfl)) (fun _ _ _ h=>h) (Or.inl ⟨by rfl,?_⟩) ?_ ?_
                  rotate_left
                  ·intro w'
                   go_simp
                   with_reducible rfl
                  rotate_left
                  ·simp only[Act.put,List.setIfInBounds_toArray,List.set_cons_zero,List.set_cons_succ,i64_w,i32_w]
                   rfl
                  refine done_ (done_of HT_.out (by kernel_rfl)) ?_
                  try go_wp2
                  (try (rw[drewN_self w44];generalize hq_:World.drewN w44 _=w44;have n0_:=Aside0.mk (Kd.R_at hq_ HO_6.out);have n1_:=Aside0.mk (Kd.N_at hq_ HO_259001.out);have n2_:=Aside0.mk (Kd.V_at hq_ HL262_0.out);have n3_:=Aside0.mk (Kd.V_at hq_ HL263_0.out);have n4_:=Aside0.mk (Kd.V_at hq_ HL265_0.out);have n5_:=Aside0.mk (blk_at hq_ BK247.out);have n6_:=Aside0.mk (blk_at hq_ BK248.out);have n7_:=Aside0.mk (blk_at hq_ BK258.out);have n8_:=Aside0.mk (Kd.C_at hq_ HR262_0.out);have n9_:=Aside0.mk (Kd.C_at hq_ HR263_0.out);have n10_:=Aside0.mk (Kd.C_at hq_ HR265_0.out);have n11_:=Aside0.mk (below_at hq_ HB.out);clear hq_ HO_6 HO_259001 HL262_0 HL263_0 HL265_0 BK247 BK248 BK258 HR262_0 HR263_0 HR265_0 HB;have HO_6:=n0_;have HO_259001:=n1_;have HL262_0:=n2_;have HL263_0:=n3_;have HL265_0:=n4_;have BK247:=n5_;have BK248:=n6_;have BK258:=n7_;have HR262_0:=n8_;have HR263_0:=n9_;have HR265_0:=n10_;have HB:=n11_;clear n0_ n1_ n2_ n3_ n4_ n5_ n6_ n7_ n8_ n9_ n10_ n11_))
                  have n0_:=Aside0.mk (Kd.R_drew HO_6.out)
                  have n1_:=Aside0.mk (Kd.N_drew HO_259001.out)
                  have n2_:=Aside0.mk (Kd.V_drew HL262_0.out)
                  have n3_:=Aside0.mk (Kd.V_drew HL263_0.out)
                  have n4_:=Aside0.mk (Kd.V_drew HL265_0.out)
                  have n5_:=Aside0.mk (blk_drew BK247.out)
                  have n6_:=Aside0.mk (blk_drew BK248.out)
                  have n7_:=Aside0.mk (blk_drew BK258.out)
                  have n8_:=Aside0.mk (Kd.C_drew HR262_0.out)
                  have n9_:=Aside0.mk (Kd.C_drew HR263_0.out)
                  have n10_:=Aside0.mk (Kd.C_drew HR265_0.out)
                  have n11_:=Aside0.mk (below_drew1 HB.out)
                  clear HO_6 HO_259001 HL262_0 HL263_0 HL265_0 BK247 BK248 BK258 HR262_0 HR263_0 HR265_0 HB
                  have HO_6:=n0_
                  have HO_259001:=n1_
                  have HL262_0:=n2_
                  have HL263_0:=n3_
                  have HL265_0:=n4_
                  have BK247:=n5_
                  have BK248:=n6_
                  have BK258:=n7_
                  have HR262_0:=n8_
                  have HR263_0:=n9_
                  have HR265_0:=n10_
                  have HB:=n11_
                  clear n0_ n1_ n2_ n3_ n4_ n5_ n6_ n7_ n8_ n9_ n10_ n11_
                  have p266:0≤(x19_1:Int):=of_decide_eq_true (bD)
                  have q266:x19_1 < (x259001_2.length:Int):=of_decide_eq_true (bD)
                  obtain⟨ad266,A266_0,c266_0,e266,hx266_0,hx266_1,hx266_2,hl266_0,hi266_0⟩:=at_T116 (Kd.N_reads' HO_259001.out).2.2 x19_1 p266 q266
                  obtain rfl:(⟨go22,0,none⟩:Addr)=ad266:=(by injection e266)
                  obtain⟨ce266,hce266,hMe266,hcc266⟩:=Kd.N_get HO_259001.out z116 x19_1 p266 (by first|exact q266|exact of_decide_eq_true (bD)|(have e_:=(Kd.N_reads' HO_259001.out).1;omega))
                  obtain⟨ua266_0,uc266_0,rfl,ul266_0,ge266_0⟩:=k116_openF hMe266
                  have hv266_0:=hcc266 0 _ rfl
                  rw[Nat.add_zero] at hv266_0
                  replace hv266_0:=Option.some.inj (hv266_0.symm.trans hx266_0)
                  injection hv266_0 with hva_ hvn_ hvc_
                  rw[hva_] at ge266_0
                  rw[hvc_] at ul266_0
                  have HL266_0:=Aside0.mk (show Kd.V (Kd.int .i64) 3 _ w.heap.size _ _ ((rd_T116 x259001_2 x19_1).f0) from Kd.V_mk ul266_0 ge266_0)
                  clear hva_ hvn_ hvc_ ge266_0 ul266_0 hcc266 hce266
                  (first|simp only[add_plain] at hx266_0|simp only[add_at] at hx266_0|simp only[Addr.add,Nat.zero_add] at hx266_0|skip)
                  (first|simp only[add_plain] at hx266_1|simp only[add_at] at hx266_1|simp only[Addr.add,Nat.zero_add] at hx266_1|skip)
                  (first|simp only[add_plain] at hx266_2|simp only[add_at] at hx266_2|simp only[Addr.add,Nat.zero_add] at hx266_2|skip)
                  have HR266_0:=Aside0.mk hi266_0
                  have HC266_0:=Aside0.mk hl266_0
                  clear hi266_0 hl266_0
                  replace p266:=eq_true p266
                  replace q266:=eq_true q266
                  have p267:0≤(x19_1:Int):=of_decide_eq_true (bD)
                  have q267:x19_1 < (x259001_2.length:Int):=of_decide_eq_true (bD)
                  obtain⟨ad267,A267_0,c267_0,e267,hx267_0,hx267_1,hx267_2,hl267_0,hi267_0⟩:=at_T116 (Kd.N_reads' HO_259001.out).2.2 x19_1 p267 q267
                  obtain rfl:(⟨go22,0,none⟩:Addr)=ad267:=(by injection e267)
                  obtain⟨ce267,hce267,hMe267,hcc267⟩:=Kd.N_get HO_259001.out z116 x19_1 p267 (by first|exact q267|exact of_decide_eq_true (bD)|(have e_:=(Kd.N_reads' HO_259001.out).1;omega))
                  obtain⟨ua267_0,uc267_0,rfl,ul267_0,ge267_0⟩:=k116_openF hMe267
                  have hv267_0:=hcc267 0 _ rfl
                  rw[Nat.add_zero] at hv267_0
                  replace hv267_0:=Option.some.inj (hv267_0.symm.trans hx267_0)
                  injection hv267_0 with hva_ hvn_ hvc_
                  rw[hva_] at ge267_0
                  rw[hvc_] at ul267_0
                  have HL267_0:=Aside0.mk (show Kd.V (Kd.int .i64) 3 _ w.heap.size _ _ ((rd_T116 x259001_2 x19_1).f0) from Kd.V_mk ul267_0 ge267_0)
                  clear hva_ hvn_ hvc_ ge267_0 ul267_0 hcc267 hce267
                  (first|simp only[add_plain] at hx267_0|simp only[add_at] at hx267_0|simp only[Addr.add,Nat.zero_add] at hx267_0|skip)
                  (first|simp only[add_plain] at hx267_1|simp only[add_at] at hx267_1|simp only[Addr.add,Nat.zero_add] at hx267_1|skip)
                  (first|simp only[add_plain] at hx267_2|simp only[add_at] at hx267_2|simp only[Addr.add,Nat.zero_add] at hx267_2|skip)
                  have HR267_0:=Aside0.mk hi267_0
                  have HC267_0:=Aside0.mk hl267_0
                  clear hi267_0 hl267_0
                  replace p267:=eq_true p267
                  replace q267:=eq_true q267
                  have ea_:=Option.some.inj (hx266_0.symm.trans hx267_0)
                  injection ea_ with ea_ en_ ec_
                  subst ea_
                  subst ec_
                  clear en_
                  have p268:0≤(0:Int):=(by omega)
                  have q268:0 < (((rd_T116 x259001_2 x19_1).f0).length:Int):=of_decide_eq_true (bD)
                  obtain⟨ad268,e268,hx268_0⟩:=Kd.at_int (by repeat (first|(with_reducible exact HR267_0.out)|(with_reducible refine Kd.C_alloc ?_ _)|(with_reducible refine Kd.C_drewN ?_ _)|(with_reducible refine Kd.C_drew ?_)|exact HR267_0.out)) 0 p268 q268
                  cases e268
                  have qi268:(0 < ((rd_T116 x259001_2 x19_1).f0).length)=True:=eq_true (by omega)
                  (try rw[show((0:Int)).toNat=0 from rfl] at hx268_0)
                  (try rw[Addr.add_zero'] at hx268_0)
                  replace p268:=eq_true p268
                  replace q268:=eq_true q268
                  have p38:0≤(x19_1:Int):=of_decide_eq_true (bD)
                  have q38:(x19_1:Int) < ((x259001_2.length:Int):Int):=of_decide_eq_true (bD)
                  obtain⟨ce38,hcl38,hM38,hcc38,hfr38⟩:=Kd.N_elem HO_259001.out z116 (x19_1:Int) p38 q38
                  obtain⟨ua38_0,uc38_0,rfl,ul38_0,ge38_0⟩:=k116_openF hM38
                  have hx38_0:World.cell? _ ⟨go22,(x19_1:Int).toNat * 3,none⟩=some (.slice ua38_0 ((rd_T116 x259001_2 x19_1).f0).length uc38_0):=hcc38 0 _ rfl
                  have hx38_1:World.cell? _ ⟨go22,(x19_1:Int).toNat * 3+1,none⟩=some (.int .i64 ((rd_T116 x259001_2 x19_1).f1)):=hcc38 1 _ rfl
                  have hx38_2:World.cell? _ ⟨go22,(x19_1:Int).toNat * 3+2,none⟩=some (.int .i64 ((rd_T116 x259001_2 x19_1).f2)):=hcc38 2 _ rfl
                  have hf38_0:World.frozen? _ ⟨go22,(x19_1:Int).toNat * 3,none⟩=false:=hfr38 0
                  have hf38_1:World.frozen? _ ⟨go22,(x19_1:Int).toNat * 3+1,none⟩=false:=hfr38 1
                  have hf38_2:World.frozen? _ ⟨go22,(x19_1:Int).toNat * 3+2,none⟩=false:=hfr38 2
                  clear hcl38 hcc38 hfr38 hM38
                  replace p38:=eq_true p38
                  replace q38:=eq_true q38
                  have HX46:=Aside0.mk (show Kd.N k116 116 _ w.heap.size (fun k_=>(w.heap.size≤k_)∧some k_≠(u6:Value).ownBlock∧k_≠gb247∧k_≠gb248∧k_≠gb258) (.slice (some ⟨go22,0,none⟩) x259001_2.length co18) x259001_2 from (Kd.N_mono (HO_259001.out) (fun k_ hk=>⟨hk.1,⟨hk.2.1,⟨hk.2.2.1,⟨hk.2.2.2.1,hk.2.2.2.2⟩⟩⟩⟩)))
                  obtain⟨ce46,hcl46,hM46,hcc46,hfr46⟩:=Kd.N_elem HX46.out z116 (x19_1:Int) (of_decide_eq_true (bD)) (by have h_:(x19_1:Int) < ((x259001_2.length:Int):Int):=of_decide_eq_true (bD);first|exact h_|(have e_:=(Kd.N_reads' HO_259001.out).1;omega)|simpa using h_)
                  obtain⟨ua46_0,uc46_0,rfl,ul46_0,ge46_0⟩:=k116_openF hM46
                  have HP46:=(Kd.N_seg HX46.out (x19_1:Int) (of_decide_eq_true (bD)) (by have h_:(x19_1:Int) < ((x259001_2.length:Int):Int):=of_decide_eq_true (bD);first|exact h_|(have e_:=(Kd.N_reads' HO_259001.out).1;omega)|simpa using h_) (seg:=[.int .i64 (wrap64 (((rd_T116 x259001_2 x19_1).f1) - (rd ((rd_T116 x259001_2 x19_1).f0) 0)))]) (j:=1) hcl46 hcc46 (show 2≤3 from by decide) (x':=(⟨(rd_T116 x259001_2 x19_1).f0,wrap64 (((rd_T116 x259001_2 x19_1).f1) - (rd ((rd_T116 x259001_2 x19_1).f0) 0)),(rd_T116 x259001_2 x19_1).f2⟩:S116)) (k116_mkF _ _ (⟨(rd_T116 x259001_2 x19_1).f0,wrap64 (((rd_T116 x259001_2 x19_1).f1) - (rd ((rd_T116 x259001_2 x19_1).f0) 0)),(rd_T116 x259001_2 x19_1).f2⟩:S116) ul46_0 ge46_0) (fun _ hk=>hk)).1
                  rw[← Ny269.out] at HP46
                  have HQ46:=Aside0.mk HP46
                  clear hcl46 hcc46 hfr46 hM46 HP46
                  refine start_ (n:=14) (S:=fun w'=>w'.cell? ⟨go22,(x19_1).toNat * 3,none⟩=some (.slice (some ad268) ((rd_T116 x259001_2 x19_1).f0).length c266_0)∧w'.cell? ⟨go22,(x19_1).toNat * 3+1,none⟩=some (.int .i64 ((rd_T116 x259001_2 x19_1).f1))∧w'.cell? ⟨go22,(x19_1).toNat * 3+2,none⟩=some (.int .i64 ((rd_T116 x259001_2 x19_1).f2))∧w'.cell? ⟨go22,(x19_1).toNat * 3,none⟩=some (.slice (some ad268) ((rd_T116 x259001_2 x19_1).f0).length c266_0)∧w'.cell? ⟨go22,(x19_1).toNat * 3+1,none⟩=some (.int .i64 ((rd_T116 x259001_2 x19_1).f1))∧w'.cell? ⟨go22,(x19_1).toNat * 3+2,none⟩=some (.int .i64 ((rd_T116 x259001_2 x19_1).f2))∧w'.cell? ad268=some (.int .i64 (rd ((rd_T116 x259001_2 x19_1).f0) 0))) (ds:=[13]) #[false,false,false,false,false,false,false,false,false,false,false,false,false,false] (by kernel_rfl) rfl rfl ⟨hx266_0,hx266_1,hx266_2,hx267_0,hx267_1,hx267_2,hx268_0⟩ (fun hHeld => ?_);refine with_tabW impl_NextRound.tab11 impl_NextRound.bits11 (fun HT_ HW_ => ?_)
                  generalize w44.drew=w45 at HO_6 HO_259001 HL262_0 HL263_0 HL265_0 BK247 BK248 BK258 HR262_0 HR263_0 HR265_0 HB HL266_0 HL267_0 HQ46 HR266_0 HR267_0 hf38_0 hf38_1 hf38_2 hx266_0 hx266_1 hx266_2 hx267_0 hx267_1 hx267_2 hx268_0 hx38_0 hx38_1 hx38_2 hHeld ⊢
                  refine pure_ (i:=0) (N:=some 60) (v:=?_) (a':=?_) #[true,false,false,false,false,false,false,false,false,false,false,false,false,false] rfl rfl (any_of HT_.out (by kernel_rfl)) (fun _ _ _ h=>h) (Or.inl ⟨by rfl,?_⟩) ?_ ?_
                  rotate_left
                  ·intro w'
                   go_simp
                   with_reducible rfl
                  rotate_left
                  ·simp only[Act.put,List.setIfInBounds_toArray,List.set_cons_zero,List.set_cons_succ,i64_w,i32_w]
                   rfl
                  refine pure_ (i:=1) (N:=some 61) (v:=?_) (a':=?_) #[true,true,false,false,false,false,false,false,false,false,false,false,false,false] rfl rfl (any_of HT_.out (by kernel_rfl)) (fun _ _ _ h=>h) (Or.inl ⟨by rfl,?_⟩) ?_ ?_
                  rotate_left
                  ·intro w'
                   go_simp
                   with_reducible rfl
                  rotate_left
                  ·simp only[Act.put,List.setIfInBounds_toArray,List.set_cons_zero,List.set_cons_succ,i64_w,i32_w]
                   rfl
                  refine pure_ (i:=2) (N:=some 62) (v:=?_) (a':=?_) #[true,true,true,false,false,false,false,false,false,false,false,false,false,false] rfl rfl (any_of HT_.out (by kernel_rfl)) (fun _ _ _ h=>h) (Or.inl ⟨by rfl,?_⟩) ?_ ?_
                  rotate_left
                  ·intro w'
                   go_simp
                   with_reducible rfl
                  rotate_left
                  ·simp only[Act.put,List.setIfInBounds_toArray,List.set_cons_zero,List.set_cons_succ,i64_w,i32_w]
                   rfl
                  refine pure_ (i:=4) (N:=some 64) (v:=?_) (a':=?_) #[true,true,true,false,true,false,false,false,false,false,false,false,false,false] rfl rfl (any_of HT_.out (by kernel_rfl)) (fun _ _ _ h=>h) (Or.inl ⟨by rfl,?_⟩) ?_ ?_
                  rotate_left
                  ·intro w'
                   go_simp
                   with_reducible rfl
                  rotate_left
                  ·simp only[Act.put,List.setIfInBounds_toArray,List.set_cons_zero,List.set_cons_succ,i64_w,i32_w]
                   rfl
                  refine pure_ (i:=5) (N:=some 65) (v:=?_) (a':=?_) #[true,true,true,false,true,true,false,false,false,false,false,false,false,false] rfl rfl (any_of HT_.out (by kernel_rfl)) (fun _ _ _ h=>h) (Or.inl ⟨by rfl,?_⟩) ?_ ?_
                  rotate_left
                  ·intro w'
                   go_simp
                   with_reducible rfl
                  rotate_left
                  ·simp only[Act.put,List.setIfInBounds_toArray,List.set_cons_zero,List.set_cons_succ,i64_w,i32_w]
                   rfl
                  refine pure_ (i:=6) (N:=some 66) (v:=?_) (a':=?_) #[true,true,true,false,true,true,true,false,false,false,false,false,false,false] rfl rfl (any_of HT_.out (by kernel_rfl)) (fun _ _ _ h=>h) (Or.inl ⟨by rfl,?_⟩) ?_ ?_
                  rotate_left
                  ·intro w'
                   go_simp
                   with_reducible rfl
                  rotate_left
                  ·simp only[Act.put,List.setIfInBounds_toArray,List.set_cons_zero,List.set_cons_succ,i64_w,i32_w]
                   rfl
                  refine take_ (i:=3) (N:=some 63) (v:=?_) (a':=?_) #[true,true,true,true,true,true,true,false,false,false,false,false,false,false] rfl rfl (take_ofW HT_.out HW_.out (by kernel_rfl)) (fun _ _ _ h=>h) (Or.inl ⟨by rfl,?_⟩) hHeld ?_ ?_
                  rotate_left
                  ·rintro w' ⟨s0,s1,s2,s3,s4,s5,s6⟩
                   go_simp
                   with_reducible rfl
                  rotate_left
                  ·simp only[Act.put,List.setIfInBounds_toArray,List.set_cons_zero,List.set_cons_succ,i64_w,i32_w]
                   rfl
                  refine take_ (i:=7) (N:=some 67) (v:=?_) (a':=?_) #[true,true,true,true,true,true,true,true,false,false,false,false,false,false] rfl rfl (take_ofW HT_.out HW_.out (by kernel_rfl)) (fun _ _ _ h=>h) (Or.inl ⟨by rfl,?_⟩) hHeld ?_ ?_
                  rotate_left
                  ·rintro w' ⟨s0,s1,s2,s3,s4,s5,s6⟩
                   go_simp
                   with_reducible rfl
                  rotate_left
                  ·simp only[Act.put,List.setIfInBounds_toArray,List.set_cons_zero,List.set_cons_succ,i64_w,i32_w]
                   rfl
                  refine pure_ (i:=8) (N:=some 68) (v:=?_) (a':=?_) #[true,true,true,true,true,true,true,true,true,false,false,false,false,false] rfl rfl (any_of HT_.out (by kernel_rfl)) (fun _ _ _ h=>h) (Or.inl ⟨by rfl,?_⟩) ?_ ?_
                  rotate_left
                  ·intro w'
                   go_simp
                   with_reducible rfl
                  rotate_left
                  ·simp only[Act.put,List.setIfInBounds_toArray,List.set_cons_zero,List.set_cons_succ,i64_w,i32_w]
                   rfl
                  refine take_ (i:=9) (N:=some 69) (v:=?_) (a':=?_) #[true,true,true,true,true,true,true,true,true,true,false,false,false,false] rfl rfl (take_ofW HT_.out HW_.out (by kernel_rfl)) (fun _ _ _ h=>h) (Or.inl ⟨by rfl,?_⟩) hHeld ?_ ?_
                  rotate_left
                  ·rintro w' ⟨s0,s1,s2,s3,s4,s5,s6⟩
                   go_simp
                   with_reducible rfl
                  rotate_left
                  ·simp only[Act.put,List.setIfInBounds_toArray,List.set_cons_zero,List.set_cons_succ,i64_w,i32_w]
                   rfl
                  refine pure_ (i:=10) (N:=some 70) (v:=?_) (a':=?_) #[true,true,true,true,true,true,true,true,true,true,true,false,false,false] rfl rfl (any_of HT_.out (by kernel_rfl)) (fun _ _ _ h=>h) (Or.inl ⟨by rfl,?_⟩) ?_ ?_
                  rotate_left
                  ·intro w'
                   go_simp
                   with_reducible rfl
                  rotate_left
                  ·simp only[Act.put,List.setIfInBounds_toArray,List.set_cons_zero,List.set_cons_succ,i64_w,i32_w]
                   rfl
                  refine pure_ (i:=11) (N:=some 71) (v:=?_) (a':=?_) #[true,true,true,true,true,true,true,true,true,true,true,true,false,false] rfl rfl (any_of HT_.out (by kernel_rfl)) (fun _ _ _ h=>h) (Or.inl ⟨by rfl,?_⟩) ?_ ?_
                  rotate_left
                  ·intro w'
                   go_simp
                   with_reducible rfl
                  rotate_left
                  ·simp only[Act.put,List.setIfInBounds_toArray,List.set_cons_zero,List.set_cons_succ,i64_w,i32_w]
                   rfl
                  refine pure_ (i:=12) (N:=some 72) (v:=?_) (a':=?_) #[true,true,true,true,true,true,true,true,true,true,true,true,true,false] rfl rfl (any_of HT_.out (by kernel_rfl)) (fun _ _ _ h=>h) (Or.inl ⟨by rfl,?_⟩) ?_ ?_
                  rotate_left
                  ·intro w'
                   go_simp
                   with_reducible rfl
                  rotate_left
                  ·simp only[Act.put,List.setIfInBounds_toArray,List.set_cons_zero,List.set_cons_succ,i64_w,i32_w]
                   rfl
                  refine last_ (i:=13) (N:=none) #[true,true,true,true,true,true,true,true,true,true,true,true,true,true] rfl rfl (one_of HT_.out (by kernel_rfl)) (by decide) (fun K hK => ?_)
                  refine skip_ (w1:=?_) (by rfl) rfl ?_ ?_
                  rotate_left
                  ·go_simp
                   rfl
                  refine hK.out _ _ ?_
                  clear hK K
                  refine done_ (done_of HT_.out (by kernel_rfl)) ?_
                  try go_wp2
                  have n0_:Aside0 (Kd.R (Kd.int .i64) 3 (w45.setCell ⟨go22,(x19_1:Int).toNat * 3+1,none⟩ (.int .i64 (wrap64 (((rd_T116 x259001_2 x19_1).f1) - (rd ((rd_T116 x259001_2 x19_1).f0) 0))))) w.heap.size (fun k_=>(w.heap.size≤k_)) u6 x6_2):=⟨by(with_reducible repeat (first|apply Kd.R_alloc|apply Kd.R_drewN|apply Kd.R_drew));exact Kd.R_mono (Kd.R_far (p:=⟨go22,(x19_1:Int).toNat * 3+1,none⟩) (Kd.R_types HO_6.out (by first|exact GG22.out|exact(Kd.N_typed HO_259001.out _ rfl).choose_spec) (by decide)) (fun _ hk=>hk.2) (.int .i64 (wrap64 (((rd_T116 x259001_2 x19_1).f1) - (rd ((rd_T116 x259001_2 x19_1).f0) 0))))) (fun _ hk=>hk.1)⟩
                  have n1_:Aside0 (Kd.N k116 116 (w45.setCell ⟨go22,(x19_1:Int).toNat * 3+1,none⟩ (.int .i64 (wrap64 (((rd_T116 x259001_2 x19_1).f1) - (rd ((rd_T116 x259001_2 x19_1).f0) 0))))) w.heap.size (fun k_=>(w.heap.size≤k_)∧some k_≠(u6:Value).ownBlock∧k_≠gb247∧k_≠gb248∧k_≠gb258) (.slice (some ⟨go22,0,none⟩) x259001_2.length co18) y269):=⟨by(with_reducible repeat (first|apply Kd.N_alloc|apply Kd.N_drewN|apply Kd.N_drew));exact HQ46.out⟩
                  have n2_:Aside0 (Kd.V (Kd.int .i64) 3 (w45.setCell ⟨go22,(x19_1:Int).toNat * 3+1,none⟩ (.int .i64 (wrap64 (((rd_T116 x259001_2 x19_1).f1) - (rd ((rd_T116 x259001_2 x19_1).f0) 0))))) w.heap.size (fun k_=>(w.heap.size≤k_)∧some k_≠(u6:Value).ownBlock∧some k_≠(.slice (some ⟨go22,0,none⟩) x259001_2.length co18:Value).ownBlock∧k_≠gb247∧k_≠gb248∧k_≠gb258) (.slice (some ad264) ((rd_T116 x259001_2 x19_1).f0).length c262_0) ((rd_T116 x259001_2 x19_1).f0)):=⟨by(with_reducible repeat (first|apply Kd.V_alloc|apply Kd.V_drewN|apply Kd.V_drew));exact Kd.V_mono (Kd.V_far (p:=⟨go22,(x19_1:Int).toNat * 3+1,none⟩) (Kd.V_mono HL262_0.out (fun k_ hk=>(⟨hk,fun e_=>hk.2 (by rw[e_];rfl)⟩:_∧k_≠go22))) (fun _ hk=>hk.2) (.int .i64 (wrap64 (((rd_T116 x259001_2 x19_1).f1) - (rd ((rd_T116 x259001_2 x19_1).f0) 0))))) (fun _ hk=>⟨hk.1.1.1,⟨hk.1.1.2.1,⟨hk.1.2,⟨hk.1.1.2.2.1,⟨hk.1.1.2.2.2.1,hk.1.1.2.2.2.2⟩⟩⟩⟩⟩)⟩
                  have n3_:Aside0 (Kd.V (Kd.int .i64) 3 (w45.setCell ⟨go22,(x19_1:Int).toNat * 3+1,none⟩ (.int .i64 (wrap64 (((rd_T116 x259001_2 x19_1).f1) - (rd ((rd_T116 x259001_2 x19_1).f0) 0))))) w.heap.size (fun k_=>(w.heap.size≤k_)∧some k_≠(u6:Value).ownBlock∧some k_≠(.slice (some ⟨go22,0,none⟩) x259001_2.length co18:Value).ownBlock∧k_≠gb247∧k_≠gb248∧k_≠gb258) (.slice (some ad264) ((rd_T116 x259001_2 x19_1).f0).length c262_0) ((rd_T116 x259001_2 x19_1).f0)):=⟨by(with_reducible repeat (first|apply Kd.V_alloc|apply Kd.V_drewN|apply Kd.V_drew));exact Kd.V_mono (Kd.V_far (p:=⟨go22,(x19_1:Int).toNat * 3+1,none⟩) (Kd.V_mono HL263_0.out (fun k_ hk=>(⟨hk,fun e_=>hk.2 (by rw[e_];rfl)⟩:_∧k_≠go22))) (fun _ hk=>hk.2) (.int .i64 (wrap64 (((rd_T116 x259001_2 x19_1).f1) - (rd ((rd_T116 x259001_2 x19_1).f0) 0))))) (fun _ hk=>⟨hk.1.1.1,⟨hk.1.1.2.1,⟨hk.1.2,⟨hk.1.1.2.2.1,⟨hk.1.1.2.2.2.1,hk.1.1.2.2.2.2⟩⟩⟩⟩⟩)⟩
                  have n4_:Aside0 (Kd.V (Kd.int .i64) 3 (w45.setCell ⟨go22,(x19_1:Int).toNat * 3+1,none⟩ (.int .i64 (wrap64 (((rd_T116 x259001_2 x19_1).f1) - (rd ((rd_T116 x259001_2 x19_1).f0) 0))))) w.heap.size (fun k_=>(w.heap.size≤k_)∧some k_≠(u6:Value).ownBlock∧some k_≠(.slice (some ⟨go22,0,none⟩) x259001_2.length co18:Value).ownBlock∧k_≠gb247∧k_≠gb248∧k_≠gb258) (.slice (some ad264) ((rd_T116 x259001_2 x19_1).f0).length c262_0) ((rd_T116 x259001_2 x19_1).f0)):=⟨by(with_reducible repeat (first|apply Kd.V_alloc|apply Kd.V_drewN|apply Kd.V_drew));exact Kd.V_mono (Kd.V_far (p:=⟨go22,(x19_1:Int).toNat * 3+1,none⟩) (Kd.V_mono HL265_0.out (fun k_ hk=>(⟨hk,fun e_=>hk.2 (by rw[e_];rfl)⟩:_∧k_≠go22))) (fun _ hk=>hk.2) (.int .i64 (wrap64 (((rd_T116 x259001_2 x19_1).f1) - (rd ((rd_T116 x259001_2 x19_1).f0) 0))))) (fun _ hk=>⟨hk.1.1.1,⟨hk.1.1.2.1,⟨hk.1.2,⟨hk.1.1.2.2.1,⟨hk.1.1.2.2.2.1,hk.1.1.2.2.2.2⟩⟩⟩⟩⟩)⟩
                  have n5_:Aside0 (Kd.V (Kd.int .i64) 3 (w45.setCell ⟨go22,(x19_1:Int).toNat * 3+1,none⟩ (.int .i64 (wrap64 (((rd_T116 x259001_2 x19_1).f1) - (rd ((rd_T116 x259001_2 x19_1).f0) 0))))) w.heap.size (fun k_=>(w.heap.size≤k_)∧some k_≠(u6:Value).ownBlock∧some k_≠(.slice (some ⟨go22,0,none⟩) x259001_2.length co18:Value).ownBlock∧k_≠gb247∧k_≠gb248∧k_≠gb258) (.slice (some ad268) ((rd_T116 x259001_2 x19_1).f0).length c266_0) ((rd_T116 x259001_2 x19_1).f0)):=⟨by(with_reducible repeat (first|apply Kd.V_alloc|apply Kd.V_drewN|apply Kd.V_drew));exact Kd.V_mono (Kd.V_far (p:=⟨go22,(x19_1:Int).toNat * 3+1,none⟩) (Kd.V_mono HL266_0.out (fun k_ hk=>(⟨hk,fun e_=>hk.2 (by rw[e_];rfl)⟩:_∧k_≠go22))) (fun _ hk=>hk.2) (.int .i64 (wrap64 (((rd_T116 x259001_2 x19_1).f1) - (rd ((rd_T116 x259001_2 x19_1).f0) 0))))) (fun _ hk=>⟨hk.1.1.1,⟨hk.1.1.2.1,⟨hk.1.2,⟨hk.1.1.2.2.1,⟨hk.1.1.2.2.2.1,hk.1.1.2.2.2.2⟩⟩⟩⟩⟩)⟩
                  have n6_:Aside0 (Kd.V (Kd.int .i64) 3 (w45.setCell ⟨go22,(x19_1:Int).toNat * 3+1,none⟩ (.int .i64 (wrap64 (((rd_T116 x259001_2 x19_1).f1) - (rd ((rd_T116 x259001_2 x19_1).f0) 0))))) w.heap.size (fun k_=>(w.heap.size≤k_)∧some k_≠(u6:Value).ownBlock∧some k_≠(.slice (some ⟨go22,0,none⟩) x259001_2.length co18:Value).ownBlock∧k_≠gb247∧k_≠gb248∧k_≠gb258) (.slice (some ad268) ((rd_T116 x259001_2 x19_1).f0).length c266_0) ((rd_T116 x259001_2 x19_1).f0)):=⟨by(with_reducible repeat (first|apply Kd.V_alloc|apply Kd.V_drewN|apply Kd.V_drew));exact Kd.V_mono (Kd.V_far (p:=⟨go22,(x19_1:Int).toNat * 3+1,none⟩) (Kd.V_mono HL267_0.out (fun k_ hk=>(⟨hk,fun e_=>hk.2 (by rw[e_];rfl)⟩:_∧k_≠go22))) (fun _ hk=>hk.2) (.int .i64 (wrap64 (((rd_T116 x259001_2 x19_1).f1) - (rd ((rd_T116 x259001_2 x19_1).f0) 0))))) (fun _ hk=>⟨hk.1.1.1,⟨hk.1.1.2.1,⟨hk.1.2,⟨hk.1.1.2.2.1,⟨hk.1.1.2.2.2.1,hk.1.1.2.2.2.2⟩⟩⟩⟩⟩)⟩
                  have n7_:Aside0 ((w45.setCell ⟨go22,(x19_1:Int).toNat * 3+1,none⟩ (.int .i64 (wrap64 (((rd_T116 x259001_2 x19_1).f1) - (rd ((rd_T116 x259001_2 x19_1).f0) 0))))).heap[gb247]?=some (.cells #[.int .i64 a0_0,.slice A0_1 l0_1.length c0_1,.int .i64 a0_2] 28 (0,0))):=⟨by(with_reducible repeat (first|refine blk_drewN ?_ _|refine blk_drew ?_|refine blk_alloc ?_ _));refine blk_far ?_ (by have h_:=Kd.N_away HO_259001.out (fun _ hk=>hk.2.2.1);intro e_;exact h_ (by rw[e_];rfl)) _;(with_reducible repeat (first|refine blk_drewN ?_ _|refine blk_drew ?_|refine blk_alloc ?_ _));exact BK247.out⟩
                  have n8_:Aside0 ((w45.setCell ⟨go22,(x19_1:Int).toNat * 3+1,none⟩ (.int .i64 (wrap64 (((rd_T116 x259001_2 x19_1).f1) - (rd ((rd_T116 x259001_2 x19_1).f0) 0))))).heap[gb248]?=some (.cells #[.int .i64 0,.slice none 0 0,.int .i64 0] 28 (0,0))):=⟨by(with_reducible repeat (first|refine blk_drewN ?_ _|refine blk_drew ?_|refine blk_alloc ?_ _));refine blk_far ?_ (by have h_:=Kd.N_away HO_259001.out (fun _ hk=>hk.2.2.2.1);intro e_;exact h_ (by rw[e_];rfl)) _;(with_reducible repeat (first|refine blk_drewN ?_ _|refine blk_drew ?_|refine blk_alloc ?_ _));exact BK248.out⟩
                  have n9_:Aside0 ((w45.setCell ⟨go22,(x19_1:Int).toNat * 3+1,none⟩ (.int .i64 (wrap64 (((rd_T116 x259001_2 x19_1).f1) - (rd ((rd_T116 x259001_2 x19_1).f0) 0))))).heap[gb258]?=some (.cells #[.int .i64 t250,.slice (some ⟨go22,0,none⟩) x259001_2.length co18,.int .i64 t254] 28 (0,0))):=⟨by(with_reducible repeat (first|refine blk_drewN ?_ _|refine blk_drew ?_|refine blk_alloc ?_ _));refine blk_far ?_ (by have h_:=Kd.N_away HO_259001.out (fun _ hk=>hk.2.2.2.2);intro e_;exact h_ (by rw[e_];rfl)) _;(with_reducible repeat (first|refine blk_drewN ?_ _|refine blk_drew ?_|refine blk_alloc ?_ _));exact BK258.out⟩
                  have n10_:Aside0 (Below w.heap.size w (w45.setCell ⟨go22,(x19_1:Int).toNat * 3+1,none⟩ (.int .i64 (wrap64 (((rd_T116 x259001_2 x19_1).f1) - (rd ((rd_T116 x259001_2 x19_1).f0) 0)))))):=⟨bS4 GB22.out GE247.out GE248.out GE258.out⟩
                  (try clear HO_6)
                  (try clear HO_259001)
                  (try clear HL262_0)
                  (try clear HL263_0)
                  (try clear HL265_0)
                  (try clear HL266_0)
                  (try clear HL267_0)
                  (try clear BK247)
                  (try clear BK248)
                  (try clear BK258)
                  (try clear HB)
                  generalize (w45.setCell ⟨go22,(x19_1:Int).toNat * 3+1,none⟩ (.int .i64 (wrap64 (((rd_T116 x259001_2 x19_1).f1) - (rd ((rd_T116 x259001_2 x19_1).f0) 0)))))=w47 at n0_ n1_ n2_ n3_ n4_ n5_ n6_ n7_ n8_ n9_ n10_ ⊢
                  have HO_6:=n0_
                  have HO_259001:=n1_
                  have HL262_0:=n2_
                  have HL263_0:=n3_
                  have HL265_0:=n4_
                  have HL266_0:=n5_
                  have HL267_0:=n6_
                  have BK247:=n7_
                  have BK248:=n8_
                  have BK258:=n9_
                  have HB:=n10_
                  clear n0_ n1_ n2_ n3_ n4_ n5_ n6_ n7_ n8_ n9_ n10_
                  (try (rw[drewN_self w47];generalize hq_:World.drewN w47 _=w47;have n0_:=Aside0.mk (Kd.R_at hq_ HO_6.out);have n1_:=Aside0.mk (Kd.N_at hq_ HO_259001.out);have n2_:=Aside0.mk (Kd.V_at hq_ HL262_0.out);have n3_:=Aside0.mk (Kd.V_at hq_ HL263_0.out);have n4_:=Aside0.mk (Kd.V_at hq_ HL265_0.out);have n5_:=Aside0.mk (Kd.V_at hq_ HL266_0.out);have n6_:=Aside0.mk (Kd.V_at hq_ HL267_0.out);have n7_:=Aside0.mk (blk_at hq_ BK247.out);have n8_:=Aside0.mk (blk_at hq_ BK248.out);have n9_:=Aside0.mk (blk_at hq_ BK258.out);have n10_:=Aside0.mk (below_at hq_ HB.out);clear hq_ HO_6 HO_259001 HL262_0 HL263_0 HL265_0 HL266_0 HL267_0 BK247 BK248 BK258 HB;have HO_6:=n0_;have HO_259001:=n1_;have HL262_0:=n2_;have HL263_0:=n3_;have HL265_0:=n4_;have HL266_0:=n5_;have HL267_0:=n6_;have BK247:=n7_;have BK248:=n8_;have BK258:=n9_;have HB:=n10_;clear n0_ n1_ n2_ n3_ n4_ n5_ n6_ n7_ n8_ n9_ n10_))
                  have n0_:=Aside0.mk (Kd.R_drew HO_6.out)
                  have n1_:=Aside0.mk (Kd.N_drew HO_259001.out)
                  have n2_:=Aside0.mk (Kd.V_drew HL262_0.out)
                  have n3_:=Aside0.mk (Kd.V_drew HL263_0.out)
                  have n4_:=Aside0.mk (Kd.V_drew HL265_0.out)
                  have n5_:=Aside0.mk (Kd.V_drew HL266_0.out)
                  have n6_:=Aside0.mk (Kd.V_drew HL267_0.out)
                  have n7_:=Aside0.mk (blk_drew BK247.out)
                  have n8_:=Aside0.mk (blk_drew BK248.out)
                  have n9_:=Aside0.mk (blk_drew BK258.out)
                  have n10_:=Aside0.mk (below_drew1 HB.out)
                  clear HO_6 HO_259001 HL262_0 HL263_0 HL265_0 HL266_0 HL267_0 BK247 BK248 BK258 HB
                  have HO_6:=n0_
                  have HO_259001:=n1_
                  have HL262_0:=n2_
                  have HL263_0:=n3_
                  have HL265_0:=n4_
                  have HL266_0:=n5_
                  have HL267_0:=n6_
                  have BK247:=n7_
                  have BK248:=n8_
                  have BK258:=n9_
                  have HB:=n10_
                  clear n0_ n1_ n2_ n3_ n4_ n5_ n6_ n7_ n8_ n9_ n10_
                  have p270:0≤(x19_1:Int):=of_decide_eq_true (bD)
                  have q270:x19_1 < (y269.length:Int):=(by have h_:(x19_1:Int) < ((x259001_2.length:Int):Int):=of_decide_eq_true (bD);first|(have e_:=(Kd.N_reads' HO_259001.out).1;omega)|simpa only[Ny269.out,List.length_set] using h_)
                  have ql270:((x19_1:Int) < ((x259001_2.length:Int):Int))=True:=eq_true (of_decide_eq_true (bD))
                  obtain⟨ad270,A270_0,c270_0,e270,hx270_0,hx270_1,hx270_2,hl270_0,hi270_0⟩:=at_T116 (Kd.N_reads' HO_259001.out).2.2 x19_1 p270 q270
                  obtain rfl:(⟨go22,0,none⟩:Addr)=ad270:=(by injection e270)
                  obtain⟨ce270,hce270,hMe270,hcc270⟩:=Kd.N_get HO_259001.out z116 x19_1 p270 (by first|exact q270|exact of_decide_eq_true (bD)|(have e_:=(Kd.N_reads' HO_259001.out).1;omega))
                  obtain⟨ua270_0,uc270_0,rfl,ul270_0,ge270_0⟩:=k116_openF hMe270
                  have hv270_0:=hcc270 0 _ rfl
                  rw[Nat.add_zero] at hv270_0
                  replace hv270_0:=Option.some.inj (hv270_0.symm.trans hx270_0)
                  injection hv270_0 with hva_ hvn_ hvc_
                  rw[hva_] at ge270_0
                  rw[hvc_] at ul270_0
                  have HL270_0:=Aside0.mk (show Kd.V (Kd.int .i64) 3 _ w.heap.size _ _ ((rd_T116 y269 x19_1).f0) from Kd.V_mk ul270_0 ge270_0)
                  clear hva_ hvn_ hvc_ ge270_0 ul270_0 hcc270 hce270
                  (first|simp only[add_plain] at hx270_0|simp only[add_at] at hx270_0|simp only[Addr.add,Nat.zero_add] at hx270_0|skip)
                  (first|simp only[add_plain] at hx270_1|simp only[add_at] at hx270_1|simp only[Addr.add,Nat.zero_add] at hx270_1|skip)
                  (first|simp only[add_plain] at hx270_2|simp only[add_at] at hx270_2|simp only[Addr.add,Nat.zero_add] at hx270_2|skip)
                  have HR270_0:=Aside0.mk hi270_0
                  have HC270_0:=Aside0.mk hl270_0
                  clear hi270_0 hl270_0
                  replace p270:=eq_true p270
                  replace q270:=eq_true q270
                  have p271:0≤(x19_1:Int):=of_decide_eq_true (bD)
                  have q271:x19_1 < (y269.length:Int):=(by have h_:(x19_1:Int) < ((x259001_2.length:Int):Int):=of_decide_eq_true (bD);first|(have e_:=(Kd.N_reads' HO_259001.out).1;omega)|simpa only[Ny269.out,List.length_set] using h_)
                  have ql271:((x19_1:Int) < ((x259001_2.length:Int):Int))=True:=eq_true (of_decide_eq_true (bD))
                  obtain⟨ad271,A271_0,c271_0,e271,hx271_0,hx271_1,hx271_2,hl271_0,hi271_0⟩:=at_T116 (Kd.N_reads' HO_259001.out).2.2 x19_1 p271 q271
                  obtain rfl:(⟨go22,0,none⟩:Addr)=ad271:=(by injection e271)
                  obtain⟨ce271,hce271,hMe271,hcc271⟩:=Kd.N_get HO_259001.out z116 x19_1 p271 (by first|exact q271|exact of_decide_eq_true (bD)|(have e_:=(Kd.N_reads' HO_259001.out).1;omega))
                  obtain⟨ua271_0,uc271_0,rfl,ul271_0,ge271_0⟩:=k116_openF hMe271
                  have hv271_0:=hcc271 0 _ rfl
                  rw[Nat.add_zero] at hv271_0
                  replace hv271_0:=Option.some.inj (hv271_0.symm.trans hx271_0)
                  injection hv271_0 with hva_ hvn_ hvc_
                  rw[hva_] at ge271_0
                  rw[hvc_] at ul271_0
                  have HL271_0:=Aside0.mk (show Kd.V (Kd.int .i64) 3 _ w.heap.size _ _ ((rd_T116 y269 x19_1).f0) from Kd.V_mk ul271_0 ge271_0)
                  clear hva_ hvn_ hvc_ ge271_0 ul271_0 hcc271 hce271
                  (first|simp only[add_plain] at hx271_0|simp only[add_at] at hx271_0|simp only[Addr.add,Nat.zero_add] at hx271_0|skip)
                  (first|simp only[add_plain] at hx271_1|simp only[add_at] at hx271_1|simp only[Addr.add,Nat.zero_add] at hx271_1|skip)
                  (first|simp only[add_plain] at hx271_2|simp only[add_at] at hx271_2|simp only[Addr.add,Nat.zero_add] at hx271_2|skip)
                  have HR271_0:=Aside0.mk hi271_0
                  have HC271_0:=Aside0.mk hl271_0
                  clear hi271_0 hl271_0
                  replace p271:=eq_true p271
                  replace q271:=eq_true q271
                  have ea_:=Option.some.inj (hx270_0.symm.trans hx271_0)
                  injection ea_ with ea_ en_ ec_
                  subst ea_
                  subst ec_
                  clear en_
                  have p272:0≤(0:Int):=(by omega)
                  have q272:0 < (((rd_T116 y269 x19_1).f0).length:Int):=of_decide_eq_true (bD)
                  obtain⟨ad272,e272,hx272_0⟩:=Kd.at_int (by repeat (first|(with_reducible exact HR271_0.out)|(with_reducible refine Kd.C_alloc ?_ _)|(with_reducible refine Kd.C_drewN ?_ _)|(with_reducible refine Kd.C_drew ?_)|exact HR271_0.out)) 0 p272 q272
                  cases e272
                  have qi272:(0 < ((rd_T116 y269 x19_1).f0).length)=True:=eq_true (by omega)
                  (try rw[show((0:Int)).toNat=0 from rfl] at hx272_0)
                  (try rw[Addr.add_zero'] at hx272_0)
                  replace p272:=eq_true p272
                  replace q272:=eq_true q272
                  have p40:0≤(x19_1:Int):=of_decide_eq_true (bD)
                  have q40:(x19_1:Int) < ((x259001_2.length:Int):Int):=of_decide_eq_true (bD)
                  obtain⟨ce40,hcl40,hM40,hcc40,hfr40⟩:=Kd.N_elem HO_259001.out z116 (x19_1:Int) p40 q40
                  obtain⟨ua40_0,uc40_0,rfl,ul40_0,ge40_0⟩:=k116_openF hM40
                  have hx40_0:World.cell? _ ⟨go22,(x19_1:Int).toNat * 3,none⟩=some (.slice ua40_0 ((rd_T116 y269 x19_1).f0).length uc40_0):=hcc40 0 _ rfl
                  have hx40_1:World.cell? _ ⟨go22,(x19_1:Int).toNat * 3+1,none⟩=some (.int .i64 ((rd_T116 y269 x19_1).f1)):=hcc40 1 _ rfl
                  have hx40_2:World.cell? _ ⟨go22,(x19_1:Int).toNat * 3+2,none⟩=some (.int .i64 ((rd_T116 y269 x19_1).f2)):=hcc40 2 _ rfl
                  have hf40_0:World.frozen? _ ⟨go22,(x19_1:Int).toNat * 3,none⟩=false:=hfr40 0
                  have hf40_1:World.frozen? _ ⟨go22,(x19_1:Int).toNat * 3+1,none⟩=false:=hfr40 1
                  have hf40_2:World.frozen? _ ⟨go22,(x19_1:Int).toNat * 3+2,none⟩=false:=hfr40 2
                  clear hcl40 hcc40 hfr40 hM40
                  replace p40:=eq_true p40
                  replace q40:=eq_true q40
                  have HX49:=Aside0.mk (show Kd.N k116 116 _ w.heap.size (fun k_=>(w.heap.size≤k_)∧some k_≠(u6:Value).ownBlock∧k_≠gb247∧k_≠gb248∧k_≠gb258) (.slice (some ⟨go22,0,none⟩) x259001_2.length co18) y269 from (Kd.N_mono (HO_259001.out) (fun k_ hk=>⟨hk.1,⟨hk.2.1,⟨hk.2.2.1,⟨hk.2.2.2.1,hk.2.2.2.2⟩⟩⟩⟩)))
                  obtain⟨ce49,hcl49,hM49,hcc49,hfr49⟩:=Kd.N_elem HX49.out z116 (x19_1:Int) (of_decide_eq_true (bD)) (by have h_:(x19_1:Int) < ((x259001_2.length:Int):Int):=of_decide_eq_true (bD);first|exact h_|(have e_:=(Kd.N_reads' HO_259001.out).1;omega)|simpa using h_)
                  obtain⟨ua49_0,uc49_0,rfl,ul49_0,ge49_0⟩:=k116_openF hM49
                  have HP49:=(Kd.N_seg HX49.out (x19_1:Int) (of_decide_eq_true (bD)) (by have h_:(x19_1:Int) < ((x259001_2.length:Int):Int):=of_decide_eq_true (bD);first|exact h_|(have e_:=(Kd.N_reads' HO_259001.out).1;omega)|simpa using h_) (seg:=[.int .i64 (wrap64 (((rd_T116 y269 x19_1).f2)+(rd ((rd_T116 y269 x19_1).f0) 0)))]) (j:=2) hcl49 hcc49 (show 3≤3 from by decide) (x':=(⟨(rd_T116 y269 x19_1).f0,(rd_T116 y269 x19_1).f1,wrap64 (((rd_T116 y269 x19_1).f2)+(rd ((rd_T116 y269 x19_1).f0) 0))⟩:S116)) (k116_mkF _ _ (⟨(rd_T116 y269 x19_1).f0,(rd_T116 y269 x19_1).f1,wrap64 (((rd_T116 y269 x19_1).f2)+(rd ((rd_T116 y269 x19_1).f0) 0))⟩:S116) ul49_0 ge49_0) (fun _ hk=>hk)).1
                  rw[← Ny273.out] at HP49
                  have HQ49:=Aside0.mk HP49
                  clear hcl49 hcc49 hfr49 hM49 HP49
                  refine start_ (n:=14) (S:=fun w'=>w'.cell? ⟨go22,(x19_1).toNat * 3,none⟩=some (.slice (some ad272) ((rd_T116 y269 x19_1).f0).length c270_0)∧w'.cell? ⟨go22,(x19_1).toNat * 3+1,none⟩=some (.int .i64 ((rd_T116 y269 x19_1).f1))∧w'.cell? ⟨go22,(x19_1).toNat * 3+2,none⟩=some (.int .i64 ((rd_T116 y269 x19_1).f2))∧w'.cell? ⟨go22,(x19_1).toNat * 3,none⟩=some (.slice (some ad272) ((rd_T116 y269 x19_1).f0).length c270_0)∧w'.cell? ⟨go22,(x19_1).toNat * 3+1,none⟩=some (.int .i64 ((rd_T116 y269 x19_1).f1))∧w'.cell? ⟨go22,(x19_1).toNat * 3+2,none⟩=some (.int .i64 ((rd_T116 y269 x19_1).f2))∧w'.cell? ad272=some (.int .i64 (rd ((rd_T116 y269 x19_1).f0) 0))) (ds:=[13]) #[false,false,false,false,false,false,false,false,false,false,false,false,false,false] (by kernel_rfl) rfl rfl ⟨hx270_0,hx270_1,hx270_2,hx271_0,hx271_1,hx271_2,hx272_0⟩ (fun hHeld => ?_);refine with_tabW impl_NextRound.tab12 impl_NextRound.bits12 (fun HT_ HW_ => ?_)
                  generalize w47.drew=w48 at HO_6 HO_259001 HL262_0 HL263_0 HL265_0 HL266_0 HL267_0 BK247 BK248 BK258 HB HL270_0 HL271_0 HQ46 HQ49 HR270_0 HR271_0 hf40_0 hf40_1 hf40_2 hx270_0 hx270_1 hx270_2 hx271_0 hx271_1 hx271_2 hx272_0 hx40_0 hx40_1 hx40_2 hHeld ⊢
                  refine pure_ (i:=0) (N:=some 73) (v:=?_) (a':=?_) #[true,false,false,false,false,false,false,false,false,false,false,false,false,false] rfl rfl (any_of HT_.out (by kernel_rfl)) (fun _ _ _ h=>h) (Or.inl ⟨by rfl,?_⟩) ?_ ?_
                  rotate_left
                  ·intro w'
                   go_simp
                   with_reducible rfl
                  rotate_left
                  ·simp only[Act.put,List.setIfInBounds_toArray,List.set_cons_zero,List.set_cons_succ,i64_w,i32_w]
                   rfl
                  refine pure_ (i:=1) (N:=some 74) (v:=?_) (a':=?_) #[true,true,false,false,false,false,false,false,false,false,false,false,false,false] rfl rfl (any_of HT_.out (by kernel_rfl)) (fun _ _ _ h=>h) (Or.inl ⟨by rfl,?_⟩) ?_ ?_
                  rotate_left
                  ·intro w'
                   go_simp
                   with_reducible rfl
                  rotate_left
                  ·simp only[Act.put,List.setIfInBounds_toArray,List.set_cons_zero,List.set_cons_succ,i64_w,i32_w]
                   rfl
                  refine pure_ (i:=2) (N:=some 75) (v:=?_) (a':=?_) #[true,true,true,false,false,false,false,false,false,false,false,false,false,false] rfl rfl (any_of HT_.out (by kernel_rfl)) (fun _ _ _ h=>h) (Or.inl ⟨by rfl,?_⟩) ?_ ?_
                  rotate_left
                  ·intro w'
                   go_simp
                   with_reducible rfl
                  rotate_left
                  ·simp only[Act.put,List.setIfInBounds_toArray,List.set_cons_zero,List.set_cons_succ,i64_w,i32_w]
                   rfl
                  refine pure_ (i:=4) (N:=some 77) (v:=?_) (a':=?_) #[true,true,true,false,true,false,false,false,false,false,false,false,false,false] rfl rfl (any_of HT_.out (by kernel_rfl)) (fun _ _ _ h=>h) (Or.inl ⟨by rfl,?_⟩) ?_ ?_
                  rotate_left
                  ·intro w'
                   go_simp
                   with_reducible rfl
                  rotate_left
                  ·simp only[Act.put,List.setIfInBounds_toArray,List.set_cons_zero,List.set_cons_succ,i64_w,i32_w]
                   rfl
                  refine pure_ (i:=5) (N:=some 78) (v:=?_) (a':=?_) #[true,true,true,false,true,true,false,false,false,false,false,false,false,false] rfl rfl (any_of HT_.out (by kernel_rfl)) (fun _ _ _ h=>h) (Or.inl ⟨by rfl,?_⟩) ?_ ?_
                  rotate_left
                  ·intro w'
                   go_simp
                   with_reducible rfl
                  rotate_left
                  ·simp only[Act.put,List.setIfInBounds_toArray,List.set_cons_zero,List.set_cons_succ,i64_w,i32_w]
                   rfl
                  refine pure_ (i:=6) (N:=some 79) (v:=?_) (a':=?_) #[true,true,true,false,true,true,true,false,false,false,false,false,false,false] rfl rfl (any_of HT_.out (by kernel_rfl)) (fun _ _ _ h=>h) (Or.inl ⟨by rfl,?_⟩) ?_ ?_
                  rotate_left
                  ·intro w'
                   go_simp
                   with_reducible rfl
                  rotate_left
                  ·simp only[Act.put,List.setIfInBounds_toArray,List.set_cons_zero,List.set_cons_succ,i64_w,i32_w]
                   rfl
                  refine take_ (i:=3) (N:=some 76) (v:=?_) (a':=?_) #[true,true,true,true,true,true,true,false,false,false,false,false,false,false] rfl rfl (take_ofW HT_.out HW_.out (by kernel_rfl)) (fun _ _ _ h=>h) (Or.inl ⟨by rfl,?_⟩) hHeld ?_ ?_
                  rotate_left
                  ·rintro w' ⟨s0,s1,s2,s3,s4,s5,s6⟩
                   go_simp
                   with_reducible rfl
                  rotate_left
                  ·simp only[Act.put,List.setIfInBounds_toArray,List.set_cons_zero,List.set_cons_succ,i64_w,i32_w]
                   rfl
                  refine take_ (i:=7) (N:=some 80) (v:=?_) (a':=?_) #[true,true,true,true,true,true,true,true,false,false,false,false,false,false] rfl rfl (take_ofW HT_.out HW_.out (by kernel_rfl)) (fun _ _ _ h=>h) (Or.inl ⟨by rfl,?_⟩) hHeld ?_ ?_
                  rotate_left
                  ·rintro w' ⟨s0,s1,s2,s3,s4,s5,s6⟩
                   go_simp
                   with_reducible rfl
                  rotate_left
                  ·simp only[Act.put,List.setIfInBounds_toArray,List.set_cons_zero,List.set_cons_succ,i64_w,i32_w]
                   rfl
                  refine pure_ (i:=8) (N:=some 81) (v:=?_) (a':=?_) #[true,true,true,true,true,true,true,true,true,false,false,false,false,false] rfl rfl (any_of HT_.out (by kernel_rfl)) (fun _ _ _ h=>h) (Or.inl ⟨by rfl,?_⟩) ?_ ?_
                  rotate_left
                  ·intro w'
                   go_simp
                   with_reducible rfl
                  rotate_left
                  ·simp only[Act.put,List.setIfInBounds_toArray,List.set_cons_zero,List.set_cons_succ,i64_w,i32_w]
                   rfl
                  refine take_ (i:=9) (N:=some 82) (v:=?_) (a':=?_) #[true,true,true,true,true,true,true,true,true,true,false,false,false,false] rfl rfl (take_ofW HT_.out HW_.out (by kernel_rfl)) (fun _ _ _ h=>h) (Or.inl ⟨by rfl,?_⟩) hHeld ?_ ?_
                  rotate_left
                  ·rintro w' ⟨s0,s1,s2,s3,s4,s5,s6⟩
                   go_simp
                   with_reducible rfl
                  rotate_left
                  ·simp only[Act.put,List.setIfInBounds_toArray,List.set_cons_zero,List.set_cons_succ,i64_w,i32_w]
                   rfl
                  refine pure_ (i:=10) (N:=some 83) (v:=?_) (a':=?_) #[true,true,true,true,true,true,true,true,true,true,true,false,false,false] rfl rfl (any_of HT_.out (by kernel_rfl)) (fun _ _ _ h=>h) (Or.inl ⟨by rfl,?_⟩) ?_ ?_
                  rotate_left
                  ·intro w'
                   go_simp
                   with_reducible rfl
                  rotate_left
                  ·simp only[Act.put,List.setIfInBounds_toArray,List.set_cons_zero,List.set_cons_succ,i64_w,i32_w]
                   rfl
                  refine pure_ (i:=11) (N:=some 84) (v:=?_) (a':=?_) #[true,true,true,true,true,true,true,true,true,true,true,true,false,false] rfl rfl (any_of HT_.out (by kernel_rfl)) (fun _ _ _ h=>h) (Or.inl ⟨by rfl,?_⟩) ?_ ?_
                  rotate_left
                  ·intro w'
                   go_simp
                   with_reducible rfl
                  rotate_left
                  ·simp only[Act.put,List.setIfInBounds_toArray,List.set_cons_zero,List.set_cons_succ,i64_w,i32_w]
                   rfl
                  refine pure_ (i:=12) (N:=some 85) (v:=?_) (a':=?_) #[true,true,true,true,true,true,true,true,true,true,true,true,true,false] rfl rfl (any_of HT_.out (by kernel_rfl)) (fun _ _ _ h=>h) (Or.inl ⟨by rfl,?_⟩) ?_ ?_
                  rotate_left
                  ·intro w'
                   go_simp
                   with_reducible rfl
                  rotate_left
                  ·simp only[Act.put,List.setIfInBounds_toArray,List.set_cons_zero,List.set_cons_succ,i64_w,i32_w]
                   rfl
                  refine last_ (i:=13) (N:=none) #[true,true,true,true,true,true,true,true,true,true,true,true,true,true] rfl rfl (one_of HT_.out (by kernel_rfl)) (by decide) (fun K hK => ?_)
                  refine skip_ (w1:=?_) (by rfl) rfl ?_ ?_
                  rotate_left
                  ·go_simp
                   rfl
                  refine hK.out _ _ ?_
                  clear hK K
                  refine done_ (done_of HT_.out (by kernel_rfl)) ?_
                  have n0_:Aside0 (Kd.R (Kd.int .i64) 3 (w48.setCell ⟨go22,(x19_1:Int).toNat * 3+2,none⟩ (.int .i64 (wrap64 (((rd_T116 y269 x19_1).f2)+(rd ((rd_T116 y269 x19_1).f0) 0))))) w.heap.size (fun k_=>(w.heap.size≤k_)) u6 x6_2):=⟨by(with_reducible repeat (first|apply Kd.R_alloc|apply Kd.R_drewN|apply Kd.R_drew));exact Kd.R_mono (Kd.R_far (p:=⟨go22,(x19_1:Int).toNat * 3+2,none⟩) (Kd.R_types HO_6.out (by first|exact GG22.out|exact(Kd.N_typed HO_259001.out _ rfl).choose_spec) (by decide)) (fun _ hk=>hk.2) (.int .i64 (wrap64 (((rd_T116 y269 x19_1).f2)+(rd ((rd_T116 y269 x19_1).f0) 0))))) (fun _ hk=>hk.1)⟩
                  have n1_:Aside0 (Kd.N k116 116 (w48.setCell ⟨go22,(x19_1:Int).toNat * 3+2,none⟩ (.int .i64 (wrap64 (((rd_T116 y269 x19_1).f2)+(rd ((rd_T116 y269 x19_1).f0) 0))))) w.heap.size (fun k_=>(w.heap.size≤k_)∧some k_≠(u6:Value).ownBlock∧k_≠gb247∧k_≠gb248∧k_≠gb258) (.slice (some ⟨go22,0,none⟩) x259001_2.length co18) y273):=⟨by(with_reducible repeat (first|apply Kd.N_alloc|apply Kd.N_drewN|apply Kd.N_drew));exact HQ49.out⟩
                  have n2_:Aside0 (Kd.V (Kd.int .i64) 3 (w48.setCell ⟨go22,(x19_1:Int).toNat * 3+2,none⟩ (.int .i64 (wrap64 (((rd_T116 y269 x19_1).f2)+(rd ((rd_T116 y269 x19_1).f0) 0))))) w.heap.size (fun k_=>(w.heap.size≤k_)∧some k_≠(u6:Value).ownBlock∧some k_≠(.slice (some ⟨go22,0,none⟩) x259001_2.length co18:Value).ownBlock∧k_≠gb247∧k_≠gb248∧k_≠gb258) (.slice (some ad264) ((rd_T116 x259001_2 x19_1).f0).length c262_0) ((rd_T116 x259001_2 x19_1).f0)):=⟨by(with_reducible repeat (first|apply Kd.V_alloc|apply Kd.V_drewN|apply Kd.V_drew));exact Kd.V_mono (Kd.V_far (p:=⟨go22,(x19_1:Int).toNat * 3+2,none⟩) (Kd.V_mono HL262_0.out (fun k_ hk=>(⟨hk,fun e_=>hk.2.2.1 (by rw[e_];rfl)⟩:_∧k_≠go22))) (fun _ hk=>hk.2) (.int .i64 (wrap64 (((rd_T116 y269 x19_1).f2)+(rd ((rd_T116 y269 x19_1).f0) 0))))) (fun _ hk=>⟨hk.1.1,⟨hk.1.2.1,⟨hk.1.2.2.1,⟨hk.1.2.2.2.1,⟨hk.1.2.2.2.2.1,hk.1.2.2.2.2.2⟩⟩⟩⟩⟩)⟩
                  have n3_:Aside0 (Kd.V (Kd.int .i64) 3 (w48.setCell ⟨go22,(x19_1:Int).toNat * 3+2,none⟩ (.int .i64 (wrap64 (((rd_T116 y269 x19_1).f2)+(rd ((rd_T116 y269 x19_1).f0) 0))))) w.heap.size (fun k_=>(w.heap.size≤k_)∧some k_≠(u6:Value).ownBlock∧some k_≠(.slice (some ⟨go22,0,none⟩) x259001_2.length co18:Value).ownBlock∧k_≠gb247∧k_≠gb248∧k_≠gb258) (.slice (some ad264) ((rd_T116 x259001_2 x19_1).f0).length c262_0) ((rd_T116 x259001_2 x19_1).f0)):=⟨by(with_reducible repeat (first|apply Kd.V_alloc|apply Kd.V_drewN|apply Kd.V_drew));exact Kd.V_mono (Kd.V_far (p:=⟨go22,(x19_1:Int).toNat * 3+2,none⟩) (Kd.V_mono HL263_0.out (fun k_ hk=>(⟨hk,fun e_=>hk.2.2.1 (by rw[e_];rfl)⟩:_∧k_≠go22))) (fun _ hk=>hk.2) (.int .i64 (wrap64 (((rd_T116 y269 x19_1).f2)+(rd ((rd_T116 y269 x19_1).f0) 0))))) (fun _ hk=>⟨hk.1.1,⟨hk.1.2.1,⟨hk.1.2.2.1,⟨hk.1.2.2.2.1,⟨hk.1.2.2.2.2.1,hk.1.2.2.2.2.2⟩⟩⟩⟩⟩)⟩
                  have n4_:Aside0 (Kd.V (Kd.int .i64) 3 (w48.setCell ⟨go22,(x19_1:Int).toNat * 3+2,none⟩ (.int .i64 (wrap64 (((rd_T116 y269 x19_1).f2)+(rd ((rd_T116 y269 x19_1).f0) 0))))) w.heap.size (fun k_=>(w.heap.size≤k_)∧some k_≠(u6:Value).ownBlock∧some k_≠(.slice (some ⟨go22,0,none⟩) x259001_2.length co18:Value).ownBlock∧k_≠gb247∧k_≠gb248∧k_≠gb258) (.slice (some ad264) ((rd_T116 x259001_2 x19_1).f0).length c262_0) ((rd_T116 x259001_2 x19_1).f0)):=⟨by(with_reducible repeat (first|apply Kd.V_alloc|apply Kd.V_drewN|apply Kd.V_drew));exact Kd.V_mono (Kd.V_far (p:=⟨go22,(x19_1:Int).toNat * 3+2,none⟩) (Kd.V_mono HL265_0.out (fun k_ hk=>(⟨hk,fun e_=>hk.2.2.1 (by rw[e_];rfl)⟩:_∧k_≠go22))) (fun _ hk=>hk.2) (.int .i64 (wrap64 (((rd_T116 y269 x19_1).f2)+(rd ((rd_T116 y269 x19_1).f0) 0))))) (fun _ hk=>⟨hk.1.1,⟨hk.1.2.1,⟨hk.1.2.2.1,⟨hk.1.2.2.2.1,⟨hk.1.2.2.2.2.1,hk.1.2.2.2.2.2⟩⟩⟩⟩⟩)⟩
                  have n5_:Aside0 (Kd.V (Kd.int .i64) 3 (w48.setCell ⟨go22,(x19_1:Int).toNat * 3+2,none⟩ (.int .i64 (wrap64 (((rd_T116 y269 x19_1).f2)+(rd ((rd_T116 y269 x19_1).f0) 0))))) w.heap.size (fun k_=>(w.heap.size≤k_)∧some k_≠(u6:Value).ownBlock∧some k_≠(.slice (some ⟨go22,0,none⟩) x259001_2.length co18:Value).ownBlock∧k_≠gb247∧k_≠gb248∧k_≠gb258) (.slice (some ad268) ((rd_T116 x259001_2 x19_1).f0).length c266_0) ((rd_T116 x259001_2 x19_1).f0)):=⟨by(with_reducible repeat (first|apply Kd.V_alloc|apply Kd.V_drewN|apply Kd.V_drew));exact Kd.V_mono (Kd.V_far (p:=⟨go22,(x19_1:Int).toNat * 3+2,none⟩) (Kd.V_mono HL266_0.out (fun k_ hk=>(⟨hk,fun e_=>hk.2.2.1 (by rw[e_];rfl)⟩:_∧k_≠go22))) (fun _ hk=>hk.2) (.int .i64 (wrap64 (((rd_T116 y269 x19_1).f2)+(rd ((rd_T116 y269 x19_1).f0) 0))))) (fun _ hk=>⟨hk.1.1,⟨hk.1.2.1,⟨hk.1.2.2.1,⟨hk.1.2.2.2.1,⟨hk.1.2.2.2.2.1,hk.1.2.2.2.2.2⟩⟩⟩⟩⟩)⟩
                  have n6_:Aside0 (Kd.V (Kd.int .i64) 3 (w48.setCell ⟨go22,(x19_1:Int).toNat * 3+2,none⟩ (.int .i64 (wrap64 (((rd_T116 y269 x19_1).f2)+(rd ((rd_T116 y269 x19_1).f0) 0))))) w.heap.size (fun k_=>(w.heap.size≤k_)∧some k_≠(u6:Value).ownBlock∧some k_≠(.slice (some ⟨go22,0,none⟩) x259001_2.length co18:Value).ownBlock∧k_≠gb247∧k_≠gb248∧k_≠gb258) (.slice (some ad268) ((rd_T116 x259001_2 x19_1).f0).length c266_0) ((rd_T116 x259001_2 x19_1).f0)):=⟨by(with_reducible repeat (first|apply Kd.V_alloc|apply Kd.V_drewN|apply Kd.V_drew));exact Kd.V_mono (Kd.V_far (p:=⟨go22,(x19_1:Int).toNat * 3+2,none⟩) (Kd.V_mono HL267_0.out (fun k_ hk=>(⟨hk,fun e_=>hk.2.2.1 (by rw[e_];rfl)⟩:_∧k_≠go22))) (fun _ hk=>hk.2) (.int .i64 (wrap64 (((rd_T116 y269 x19_1).f2)+(rd ((rd_T116 y269 x19_1).f0) 0))))) (fun _ hk=>⟨hk.1.1,⟨hk.1.2.1,⟨hk.1.2.2.1,⟨hk.1.2.2.2.1,⟨hk.1.2.2.2.2.1,hk.1.2.2.2.2.2⟩⟩⟩⟩⟩)⟩
                  have n7_:Aside0 (Kd.V (Kd.int .i64) 3 (w48.setCell ⟨go22,(x19_1:Int).toNat * 3+2,none⟩ (.int .i64 (wrap64 (((rd_T116 y269 x19_1).f2)+(rd ((rd_T116 y269 x19_1).f0) 0))))) w.heap.size (fun k_=>(w.heap.size≤k_)∧some k_≠(u6:Value).ownBlock∧some k_≠(.slice (some ⟨go22,0,none⟩) x259001_2.length co18:Value).ownBlock∧k_≠gb247∧k_≠gb248∧k_≠gb258) (.slice (some ad272) ((rd_T116 y269 x19_1).f0).length c270_0) ((rd_T116 y269 x19_1).f0)):=⟨by(with_reducible repeat (first|apply Kd.V_alloc|apply Kd.V_drewN|apply Kd.V_drew));exact Kd.V_mono (Kd.V_far (p:=⟨go22,(x19_1:Int).toNat * 3+2,none⟩) (Kd.V_mono HL270_0.out (fun k_ hk=>(⟨hk,fun e_=>hk.2 (by rw[e_];rfl)⟩:_∧k_≠go22))) (fun _ hk=>hk.2) (.int .i64 (wrap64 (((rd_T116 y269 x19_1).f2)+(rd ((rd_T116 y269 x19_1).f0) 0))))) (fun _ hk=>⟨hk.1.1.1,⟨hk.1.1.2.1,⟨hk.1.2,⟨hk.1.1.2.2.1,⟨hk.1.1.2.2.2.1,hk.1.1.2.2.2.2⟩⟩⟩⟩⟩)⟩
                  have n8_:Aside0 (Kd.V (Kd.int .i64) 3 (w48.setCell ⟨go22,(x19_1:Int).toNat * 3+2,none⟩ (.int .i64 (wrap64 (((rd_T116 y269 x19_1).f2)+(rd ((rd_T116 y269 x19_1).f0) 0))))) w.heap.size (fun k_=>(w.heap.size≤k_)∧some k_≠(u6:Value).ownBlock∧some k_≠(.slice (some ⟨go22,0,none⟩) x259001_2.length co18:Value).ownBlock∧k_≠gb247∧k_≠gb248∧k_≠gb258) (.slice (some ad272) ((rd_T116 y269 x19_1).f0).length c270_0) ((rd_T116 y269 x19_1).f0)):=⟨by(with_reducible repeat (first|apply Kd.V_alloc|apply Kd.V_drewN|apply Kd.V_drew));exact Kd.V_mono (Kd.V_far (p:=⟨go22,(x19_1:Int).toNat * 3+2,none⟩) (Kd.V_mono HL271_0.out (fun k_ hk=>(⟨hk,fun e_=>hk.2 (by rw[e_];rfl)⟩:_∧k_≠go22))) (fun _ hk=>hk.2) (.int .i64 (wrap64 (((rd_T116 y269 x19_1).f2)+(rd ((rd_T116 y269 x19_1).f0) 0))))) (fun _ hk=>⟨hk.1.1.1,⟨hk.1.1.2.1,⟨hk.1.2,⟨hk.1.1.2.2.1,⟨hk.1.1.2.2.2.1,hk.1.1.2.2.2.2⟩⟩⟩⟩⟩)⟩
                  have n9_:Aside0 ((w48.setCell ⟨go22,(x19_1:Int).toNat * 3+2,none⟩ (.int .i64 (wrap64 (((rd_T116 y269 x19_1).f2)+(rd ((rd_T116 y269 x19_1).f0) 0))))).heap[gb247]?=some (.cells #[.int .i64 a0_0,.slice A0_1 l0_1.length c0_1,.int .i64 a0_2] 28 (0,0))):=⟨by(with_reducible repeat (first|refine blk_drewN ?_ _|refine blk_drew ?_|refine blk_alloc ?_ _));refine blk_far ?_ (by have h_:=Kd.N_away HO_259001.out (fun _ hk=>hk.2.2.1);intro e_;exact h_ (by rw[e_];rfl)) _;(with_reducible repeat (first|refine blk_drewN ?_ _|refine blk_drew ?_|refine blk_alloc ?_ _));exact BK247.out⟩
                  have n10_:Aside0 ((w48.setCell ⟨go22,(x19_1:Int).toNat * 3+2,none⟩ (.int .i64 (wrap64 (((rd_T116 y269 x19_1).f2)+(rd ((rd_T116 y269 x19_1).f0) 0))))).heap[gb248]?=some (.cells #[.int .i64 0,.slice none 0 0,.int .i64 0] 28 (0,0))):=⟨by(with_reducible repeat (first|refine blk_drewN ?_ _|refine blk_drew ?_|refine blk_alloc ?_ _));refine blk_far ?_ (by have h_:=Kd.N_away HO_259001.out (fun _ hk=>hk.2.2.2.1);intro e_;exact h_ (by rw[e_];rfl)) _;(with_reducible repeat (first|refine blk_drewN ?_ _|refine blk_drew ?_|refine blk_alloc ?_ _));exact BK248.out⟩
                  have n11_:Aside0 ((w48.setCell ⟨go22,(x19_1:Int).toNat * 3+2,none⟩ (.int .i64 (wrap64 (((rd_T116 y269 x19_1).f2)+(rd ((rd_T116 y269 x19_1).f0) 0))))).heap[gb258]?=some (.cells #[.int .i64 t250,.slice (some ⟨go22,0,none⟩) x259001_2.length co18,.int .i64 t254] 28 (0,0))):=⟨by(with_reducible repeat (first|refine blk_drewN ?_ _|refine blk_drew ?_|refine blk_alloc ?_ _));refine blk_far ?_ (by have h_:=Kd.N_away HO_259001.out (fun _ hk=>hk.2.2.2.2);intro e_;exact h_ (by rw[e_];rfl)) _;(with_reducible repeat (first|refine blk_drewN ?_ _|refine blk_drew ?_|refine blk_alloc ?_ _));exact BK258.out⟩
                  have n12_:Aside0 (Below w.heap.size w (w48.setCell ⟨go22,(x19_1:Int).toNat * 3+2,none⟩ (.int .i64 (wrap64 (((rd_T116 y269 x19_1).f2)+(rd ((rd_T116 y269 x19_1).f0) 0)))))):=⟨bS4 GB22.out GE247.out GE248.out GE258.out⟩
                  (try clear HO_6)
                  (try clear HO_259001)
                  (try clear HL262_0)
                  (try clear HL263_0)
                  (try clear HL265_0)
                  (try clear HL266_0)
                  (try clear HL267_0)
                  (try clear HL270_0)
                  (try clear HL271_0)
                  (try clear BK247)
                  (try clear BK248)
                  (try clear BK258)
                  (try clear HB)
                  generalize (w48.setCell ⟨go22,(x19_1:Int).toNat * 3+2,none⟩ (.int .i64 (wrap64 (((rd_T116 y269 x19_1).f2)+(rd ((rd_T116 y269 x19_1).f0) 0)))))=w50 at n0_ n1_ n2_ n3_ n4_ n5_ n6_ n7_ n8_ n9_ n10_ n11_ n12_ ⊢
                  have HO_6:=n0_
                  have HO_259001:=n1_
                  have HL262_0:=n2_
                  have HL263_0:=n3_
                  have HL265_0:=n4_
                  have HL266_0:=n5_
                  have HL267_0:=n6_
                  have HL270_0:=n7_
                  have HL271_0:=n8_
                  have BK247:=n9_
                  have BK248:=n10_
                  have BK258:=n11_
                  have HB:=n12_
                  clear n0_ n1_ n2_ n3_ n4_ n5_ n6_ n7_ n8_ n9_ n10_ n11_ n12_
                  have p274:0≤(x19_1:Int):=of_decide_eq_true (bD)
                  have q274:x19_1 < (y273.length:Int):=(by have h_:(x19_1:Int) < ((x259001_2.length:Int):Int):=of_decide_eq_true (bD);first|(have e_:=(Kd.N_reads' HO_259001.out).1;omega)|simpa only[Ny269.out,Ny273.out,List.length_set] using h_)
                  have ql274:((x19_1:Int) < ((x259001_2.length:Int):Int))=True:=eq_true (of_decide_eq_true (bD))
                  obtain⟨ad274,A274_0,c274_0,e274,hx274_0,hx274_1,hx274_2,hl274_0,hi274_0⟩:=at_T116 (Kd.N_reads' HO_259001.out).2.2 x19_1 p274 q274
                  obtain rfl:(⟨go22,0,none⟩:Addr)=ad274:=(by injection e274)
                  obtain⟨ce274,hce274,hMe274,hcc274⟩:=Kd.N_get HO_259001.out z116 x19_1 p274 (by first|exact q274|exact of_decide_eq_true (bD)|(have e_:=(Kd.N_reads' HO_259001.out).1;omega))
                  obtain⟨ua274_0,uc274_0,rfl,ul274_0,ge274_0⟩:=k116_openF hMe274
                  have hv274_0:=hcc274 0 _ rfl
                  rw[Nat.add_zero] at hv274_0
                  replace hv274_0:=Option.some.inj (hv274_0.symm.trans hx274_0)
                  injection hv274_0 with hva_ hvn_ hvc_
                  rw[hva_] at ge274_0
                  rw[hvc_] at ul274_0
                  have HL274_0:=Aside0.mk (show Kd.V (Kd.int .i64) 3 _ w.heap.size _ _ ((rd_T116 y273 x19_1).f0) from Kd.V_mk ul274_0 ge274_0)
                  clear hva_ hvn_ hvc_ ge274_0 ul274_0 hcc274 hce274
                  (first|simp only[add_plain] at hx274_0|simp only[add_at] at hx274_0|simp only[Addr.add,Nat.zero_add] at hx274_0|skip)
                  (first|simp only[add_plain] at hx274_1|simp only[add_at] at hx274_1|simp only[Addr.add,Nat.zero_add] at hx274_1|skip)
                  (first|simp only[add_plain] at hx274_2|simp only[add_at] at hx274_2|simp only[Addr.add,Nat.zero_add] at hx274_2|skip)
                  have HR274_0:=Aside0.mk hi274_0
                  have HC274_0:=Aside0.mk hl274_0
                  clear hi274_0 hl274_0
                  replace p274:=eq_true p274
                  replace q274:=eq_true q274
                  have q51:(1:Int)≤((((rd_T116 y273 x19_1).f0).length:Int):Int):=of_decide_eq_true (bD)
                  obtain⟨i051,hi051,_,hsz51,_⟩:=info_parts info3
                  have hroom51:((rd_T116 y273 x19_1).f0).length≤c274_0:=HC274_0.out
                  have hC51:Kd.F (Kd.int .i64) _ _ A274_0 ((rd_T116 y273 x19_1).f0).length ((rd_T116 y273 x19_1).f0):=(Kd.V_at (base:=w.heap.size) HL274_0.out).2.2
                  have hcut51:=cut_from (P:=Try.prog) 37 3 .i64 Try.underlying37 hi051 1 hsz51 A274_0 ((rd_T116 y273 x19_1).f0).length c274_0 1 (by omega) q51
                  have hr51:=Kd.F_cut (m:=(1:Int).toNat) (c:=c274_0) hC51 (by omega) hroom51
                  obtain⟨A51,hA51⟩ : ∃ A1,A1=(if c274_0=(1:Int).toNat then A274_0 else (A274_0:Option Addr).map (·.add ((1:Int).toNat * 1))):=⟨_,rfl⟩
                  obtain⟨c51,hc51⟩ : ∃ c1,c1=c274_0 - (1:Int).toNat:=⟨_,rfl⟩
                  have hy51:y275.length=((rd_T116 y273 x19_1).f0).length - (1:Int).toNat:=(by rw[Ny275.out,List.length_drop]<;>omega)
                  rw[show((rd_T116 y273 x19_1).f0).drop (1:Int).toNat=y275 from Ny275.out.symm] at hr51
                  replace hr51:Kd.F (Kd.int .i64) _ _ A51 y275.length y275:=(by rw[hA51];exact hr51)
                  rw[← hy51,← hA51,← hc51] at hcut51
                  have HO279:=Aside0.mk (show Kd.V (Kd.int .i64) 3 _ w.heap.size _ (.slice A51 y275.length c51) y275 from Kd.V_mk (by rw[hy51,hc51];exact Nat.sub_le_sub_right hroom51 _) hr51)
                  have HC279:=Aside0.mk (show y275.length≤c51 from by rw[hy51,hc51];exact Nat.sub_le_sub_right hroom51 _)
                  clear hr51 hC51 hroom51 hi051 hsz51 hc51
                  have KY51:=Aside0.mk hy51
                  have KA51:=Aside0.mk hA51
                  clear hy51 hA51
                  replace q51:=eq_true q51
                  have p42:0≤(x19_1:Int):=of_decide_eq_true (bD)
                  have q42:(x19_1:Int) < ((x259001_2.length:Int):Int):=of_decide_eq_true (bD)
                  replace p42:=eq_true p42
                  replace q42:=eq_true q42
                  have HX52:=Aside0.mk (show Kd.N k116 116 w50 w.heap.size (fun k_=>(w.heap.size≤k_)∧some k_≠(u6:Value).ownBlock∧k_≠gb247∧k_≠gb248∧k_≠gb258) (.slice (some ⟨go22,0,none⟩) x259001_2.length co18) y273 from (by(with_reducible repeat (first|apply Kd.N_alloc|apply Kd.N_drewN|apply Kd.N_drew));exact HO_259001.out))
                  obtain⟨ce52,hcl52,hM52,hcc52,hfr52⟩:=Kd.N_elem HX52.out z116 (x19_1:Int) (of_decide_eq_true (bD)) (by have h_:(x19_1:Int) < ((x259001_2.length:Int):Int):=of_decide_eq_true (bD);first|exact h_|(have e_:=(Kd.N_reads' HO_259001.out).1;omega)|simpa using h_)
                  obtain⟨ua52_0,uc52_0,rfl,ul52_0,ge52_0⟩:=k116_openF hM52
                  have HP52:=Kd.N_seg HX52.out (x19_1:Int) (of_decide_eq_true (bD)) (by have h_:(x19_1:Int) < ((x259001_2.length:Int):Int):=of_decide_eq_true (bD);first|exact h_|(have e_:=(Kd.N_reads' HO_259001.out).1;omega)|simpa using h_) (seg:=[.slice A51 y275.length c51]) (j:=0) hcl52 hcc52 (show 1≤3 from by decide) (x':=(⟨y275,(rd_T116 y273 x19_1).f1,(rd_T116 y273 x19_1).f2⟩:S116)) (k116_mkF _ _ (⟨y275,(rd_T116 y273 x19_1).f1,(rd_T116 y273 x19_1).f2⟩:S116) (Kd.V_reads' (Kd.V_mono (ok':=(fun k_=>((fun k_=>(w.heap.size≤k_)∧some k_≠(u6:Value).ownBlock∧k_≠gb247∧k_≠gb248∧k_≠gb258)) k_∧k_≠go22)) (HO279.out) (fun k_ hk=>⟨⟨hk.1.1,⟨hk.1.2.1,⟨hk.1.2.2.1,⟨hk.1.2.2.2.1,hk.1.2.2.2.2⟩⟩⟩⟩,fun e_=>(hk.2) (by rw[e_];rfl)⟩))).2.1 (Kd.V_F (Kd.V_mono (ok':=(fun k_=>((fun k_=>(w.heap.size≤k_)∧some k_≠(u6:Value).ownBlock∧k_≠gb247∧k_≠gb248∧k_≠gb258)) k_∧k_≠go22)) (HO279.out) (fun k_ hk=>⟨⟨hk.1.1,⟨hk.1.2.1,⟨hk.1.2.2.1,⟨hk.1.2.2.2.1,hk.1.2.2.2.2⟩⟩⟩⟩,fun e_=>(hk.2) (by rw[e_];rfl)⟩)))) (fun _ hk=>hk)
                  have hx52_0:=hcc52 0 _ rfl
                  (try simp only[show(k116).sz=3 from rfl,Nat.mul_one,Nat.add_zero] at hx52_0)
                  have hf52_0:=hfr52 0
                  (try simp only[show(k116).sz=3 from rfl,Nat.mul_one,Nat.add_zero] at hf52_0)
                  clear hcl52 hcc52 hfr52 hM52
                  try go_wp2_with (first|((with_reducible refine gate_store (t:=37) (p:=93) rfl ?_);refine store_event (t:=37) (p:=93) (v:=?vo_w53) (w1:=(w50.setCell ⟨go22,(x19_1:Int).toNat * 3,none⟩ (.slice A51 y275.length c51))) ?hg ?ho ?hn ?hr ?_;(case ho=>rfl);(case hg=>rfl);(case hn=>rfl);(case hr=>(try (obtain⟨Aq_,cq_,eq_⟩:=Kd.V_slice HO279.out;subst eq_));first|(go_simp;done)|(go_simp;rfl));intro w53 hw;have hg:w50.grownBy w53 (some go22):=(by rw[hw];exact HP52.2);have hp_:Kd.N k116 116 w53 w.heap.size (fun k_=>(w.heap.size≤k_)∧some k_≠(u6:Value).ownBlock∧k_≠gb247∧k_≠gb248∧k_≠gb258) (.slice (some ⟨go22,0,none⟩) x259001_2.length co18) y280:=(by rw[hw,Ny280.out];exact HP52.1);clear HP52;have n0_:=Aside0.mk (Kd.R_over' (v:=(.slice (some ⟨go22,0,none⟩) x259001_2.length co18)) (bK HO_6.out) (Kd.N_typed HO_259001.out) (by decide) hg);have n1_:=Aside0.mk (hp_);have n2_:=Aside0.mk (blk_grown (g:=gb247) (o:=.cells #[.int .i64 a0_0,.slice A0_1 l0_1.length c0_1,.int .i64 a0_2] 28 (0,0)) (bL BK247.out) hg (Kd.N_ne HO_259001.out BK247.out (by decide)));have n3_:=Aside0.mk (blk_grown (g:=gb248) (o:=.cells #[.int .i64 0,.slice none 0 0,.int .i64 0] 28 (0,0)) (bL BK248.out) hg (Kd.N_ne HO_259001.out BK248.out (by decide)));have n4_:=Aside0.mk (blk_grown (g:=gb258) (o:=.cells #[.int .i64 t250,.slice (some ⟨go22,0,none⟩) x259001_2.length co18,.int .i64 t254] 28 (0,0)) (bL BK258.out) hg (Kd.N_ne HO_259001.out BK258.out (by decide)));have n5_:=Aside0.mk (Kd.V_afterv (v:=(.slice (some ⟨go22,0,none⟩) x259001_2.length co18)) (v1:=(.slice (some ⟨go22,0,none⟩) x259001_2.length co18)) (ok:=(fun k_=>(w.heap.size≤k_)∧some k_≠(u6:Value).ownBlock∧k_≠gb247∧k_≠gb248∧k_≠gb258)) (by(with_reducible repeat (first|apply Kd.V_alloc|apply Kd.V_drewN|apply Kd.V_drew));exact Kd.V_mono HL262_0.out (fun _ hk=>⟨⟨hk.1,⟨hk.2.1,⟨hk.2.2.2.1,⟨hk.2.2.2.2.1,hk.2.2.2.2.2⟩⟩⟩⟩,hk.2.2.1⟩)) hg (.inl rfl));have n6_:=Aside0.mk (Kd.V_afterv (v:=(.slice (some ⟨go22,0,none⟩) x259001_2.length co18)) (v1:=(.slice (some ⟨go22,0,none⟩) x259001_2.length co18)) (ok:=(fun k_=>(w.heap.size≤k_)∧some k_≠(u6:Value).ownBlock∧k_≠gb247∧k_≠gb248∧k_≠gb258)) (by(with_reducible repeat (first|apply Kd.V_alloc|apply Kd.V_drewN|apply Kd.V_drew));exact Kd.V_mono HL263_0.out (fun _ hk=>⟨⟨hk.1,⟨hk.2.1,⟨hk.2.2.2.1,⟨hk.2.2.2.2.1,hk.2.2.2.2.2⟩⟩⟩⟩,hk.2.2.1⟩)) hg (.inl rfl));have n7_:=Aside0.mk (Kd.V_afterv (v:=(.slice (some ⟨go22,0,none⟩) x259001_2.length co18)) (v1:=(.slice (some ⟨go22,0,none⟩) x259001_2.length co18)) (ok:=(fun k_=>(w.heap.size≤k_)∧some k_≠(u6:Value).ownBlock∧k_≠gb247∧k_≠gb248∧k_≠gb258)) (by(with_reducible repeat (first|apply Kd.V_alloc|apply Kd.V_drewN|apply Kd.V_drew));exact Kd.V_mono HL265_0.out (fun _ hk=>⟨⟨hk.1,⟨hk.2.1,⟨hk.2.2.2.1,⟨hk.2.2.2.2.1,hk.2.2.2.2.2⟩⟩⟩⟩,hk.2.2.1⟩)) hg (.inl rfl));have n8_:=Aside0.mk (Kd.V_afterv (v:=(.slice (some ⟨go22,0,none⟩) x259001_2.length co18)) (v1:=(.slice (some ⟨go22,0,none⟩) x259001_2.length co18)) (ok:=(fun k_=>(w.heap.size≤k_)∧some k_≠(u6:Value).ownBlock∧k_≠gb247∧k_≠gb248∧k_≠gb258)) (by(with_reducible repeat (first|apply Kd.V_alloc|apply Kd.V_drewN|apply Kd.V_drew));exact Kd.V_mono HL266_0.out (fun _ hk=>⟨⟨hk.1,⟨hk.2.1,⟨hk.2.2.2.1,⟨hk.2.2.2.2.1,hk.2.2.2.2.2⟩⟩⟩⟩,hk.2.2.1⟩)) hg (.inl rfl));have n9_:=Aside0.mk (Kd.V_afterv (v:=(.slice (some ⟨go22,0,none⟩) x259001_2.length co18)) (v1:=(.slice (some ⟨go22,0,none⟩) x259001_2.length co18)) (ok:=(fun k_=>(w.heap.size≤k_)∧some k_≠(u6:Value).ownBlock∧k_≠gb247∧k_≠gb248∧k_≠gb258)) (by(with_reducible repeat (first|apply Kd.V_alloc|apply Kd.V_drewN|apply Kd.V_drew));exact Kd.V_mono HL267_0.out (fun _ hk=>⟨⟨hk.1,⟨hk.2.1,⟨hk.2.2.2.1,⟨hk.2.2.2.2.1,hk.2.2.2.2.2⟩⟩⟩⟩,hk.2.2.1⟩)) hg (.inl rfl));have n10_:=Aside0.mk (Kd.V_afterv (v:=(.slice (some ⟨go22,0,none⟩) x259001_2.length co18)) (v1:=(.slice (some ⟨go22,0,none⟩) x259001_2.length co18)) (ok:=(fun k_=>(w.heap.size≤k_)∧some k_≠(u6:Value).ownBlock∧k_≠gb247∧k_≠gb248∧k_≠gb258)) (by(with_reducible repeat (first|apply Kd.V_alloc|apply Kd.V_drewN|apply Kd.V_drew));exact Kd.V_mono HL270_0.out (fun _ hk=>⟨⟨hk.1,⟨hk.2.1,⟨hk.2.2.2.1,⟨hk.2.2.2.2.1,hk.2.2.2.2.2⟩⟩⟩⟩,hk.2.2.1⟩)) hg (.inl rfl));have n11_:=Aside0.mk (Kd.V_afterv (v:=(.slice (some ⟨go22,0,none⟩) x259001_2.length co18)) (v1:=(.slice (some ⟨go22,0,none⟩) x259001_2.length co18)) (ok:=(fun k_=>(w.heap.size≤k_)∧some k_≠(u6:Value).ownBlock∧k_≠gb247∧k_≠gb248∧k_≠gb258)) (by(with_reducible repeat (first|apply Kd.V_alloc|apply Kd.V_drewN|apply Kd.V_drew));exact Kd.V_mono HL271_0.out (fun _ hk=>⟨⟨hk.1,⟨hk.2.1,⟨hk.2.2.2.1,⟨hk.2.2.2.2.1,hk.2.2.2.2.2⟩⟩⟩⟩,hk.2.2.1⟩)) hg (.inl rfl));have n12_:=Aside0.mk (Kd.V_afterv (v:=(.slice (some ⟨go22,0,none⟩) x259001_2.length co18)) (v1:=(.slice (some ⟨go22,0,none⟩) x259001_2.length co18)) (ok:=(fun k_=>(w.heap.size≤k_)∧some k_≠(u6:Value).ownBlock∧k_≠gb247∧k_≠gb248∧k_≠gb258)) (by(with_reducible repeat (first|apply Kd.V_alloc|apply Kd.V_drewN|apply Kd.V_drew));exact HL274_0.out) hg (.inl rfl));have n13_:=Aside0.mk (Kd.V_afterv (v:=(.slice (some ⟨go22,0,none⟩) x259001_2.length co18)) (v1:=(.slice (some ⟨go22,0,none⟩) x259001_2.length co18)) (ok:=(fun k_=>(w.heap.size≤k_)∧some k_≠(u6:Value).ownBlock∧k_≠gb247∧k_≠gb248∧k_≠gb258)) (by(with_reducible repeat (first|apply Kd.V_alloc|apply Kd.V_drewN|apply Kd.V_drew));exact HO279.out) hg (.inl rfl));have n14_:=Aside0.mk ((by rw[hw];exact below_set (HB.out) GB22.out:Below w.heap.size w w53));clear HO_6 HO_259001 BK247 BK248 BK258 HL262_0 HL263_0 HL265_0 HL266_0 HL267_0 HL270_0 HL271_0 HL274_0 HO279 HB;have HO_6:=n0_;have HO_259001:=n1_;have BK247:=n2_;have BK248:=n3_;have BK258:=n4_;have HL262_0:=n5_;have HL263_0:=n6_;have HL265_0:=n7_;have HL266_0:=n8_;have HL267_0:=n9_;have HL270_0:=n10_;have HL271_0:=n11_;have HL274_0:=n12_;have HO279:=n13_;have HB:=n14_;clear n0_ n1_ n2_ n3_ n4_ n5_ n6_ n7_ n8_ n9_ n10_ n11_ n12_ n13_ n14_;clear hg hw hp_)|((with_reducible refine gate_builtin (b:=.append) (xs:=#[.tmp 94,.tmp 96]) rfl ?_);at_builtin;refine Kd.R_append (Kd.int .i64) (w0:=w) w.heap.size rfl (.tmp 94) (.tmp 96) 37 3 (.int .i64 0) 8 rfl Try.underlying37 info3 rfl (by decide) (by omega) u6 x6_2 x19_1 [.int .i64 x19_1] (fun k_=>(w.heap.size≤k_)) (fun _=>False) rfl rfl ?aP (fun _ hk=>hk.elim) ?aF ?aO ?aB ?aS ?aL ?_;(case aP=>exact rfl);(case aB=>exact(bS3 GE247.out GE248.out GE258.out));(case aF=>exact(fun k_ hk=>(Nat.le_trans (below_size (bS3 GE247.out GE248.out GE258.out)) hk)));(case aO=>exact(bK HO_6.out));(case aS=>exact(below_size (bS3 GE247.out GE248.out GE258.out)));(case aL=>have:=LMc43.out;omega);intro v282 w54 ho hb hg hat;rw[← Ny281.out] at ho;have n0_:=Aside0.mk (Kd.N_afterv (ok:=(fun k_=>(w.heap.size≤k_)∧k_≠gb247∧k_≠gb248∧k_≠gb258)) (by(with_reducible repeat (first|apply Kd.N_alloc|apply Kd.N_drewN|apply Kd.N_drew));exact Kd.N_mono HO_259001.out (fun _ hk=>⟨⟨hk.1,⟨hk.2.2.1,⟨hk.2.2.2.1,hk.2.2.2.2⟩⟩⟩,hk.2.1⟩)) hg hat);have n1_:=Aside0.mk (blk_grown (g:=gb247) (o:=.cells #[.int .i64 a0_0,.slice A0_1 l0_1.length c0_1,.int .i64 a0_2] 28 (0,0)) (bL BK247.out) hg (Kd.R_ne HO_6.out BK247.out (by decide)));have n2_:=Aside0.mk (blk_grown (g:=gb248) (o:=.cells #[.int .i64 0,.slice none 0 0,.int .i64 0] 28 (0,0)) (bL BK248.out) hg (Kd.R_ne HO_6.out BK248.out (by decide)));have n3_:=Aside0.mk (blk_grown (g:=gb258) (o:=.cells #[.int .i64 t250,.slice (some ⟨go22,0,none⟩) x259001_2.length co18,.int .i64 t254] 28 (0,0)) (bL BK258.out) hg (Kd.R_ne HO_6.out BK258.out (by decide)));have n4_:=Aside0.mk (Kd.V_afterv (ok:=(fun k_=>(w.heap.size≤k_)∧some k_≠(.slice (some ⟨go22,0,none⟩) x259001_2.length co18:Value).ownBlock∧k_≠gb247∧k_≠gb248∧k_≠gb258)) (by(with_reducible repeat (first|apply Kd.V_alloc|apply Kd.V_drewN|apply Kd.V_drew));exact Kd.V_mono HL262_0.out (fun _ hk=>⟨⟨hk.1.1,⟨hk.2,⟨hk.1.2.2.1,⟨hk.1.2.2.2.1,hk.1.2.2.2.2⟩⟩⟩⟩,hk.1.2.1⟩)) hg hat);have n5_:=Aside0.mk (Kd.V_afterv (ok:=(fun k_=>(w.heap.size≤k_)∧some k_≠(.slice (some ⟨go22,0,none⟩) x259001_2.length co18:Value).ownBlock∧k_≠gb247∧k_≠gb248∧k_≠gb258)) (by(with_reducible repeat (first|apply Kd.V_alloc|apply Kd.V_drewN|apply Kd.V_drew));exact Kd.V_mono HL263_0.out (fun _ hk=>⟨⟨hk.1.1,⟨hk.2,⟨hk.1.2.2.1,⟨hk.1.2.2.2.1,hk.1.2.2.2.2⟩⟩⟩⟩,hk.1.2.1⟩)) hg hat);have n6_:=Aside0.mk (Kd.V_afterv (ok:=(fun k_=>(w.heap.size≤k_)∧some k_≠(.slice (some ⟨go22,0,none⟩) x259001_2.length co18:Value).ownBlock∧k_≠gb247∧k_≠gb248∧k_≠gb258)) (by(with_reducible repeat (first|apply Kd.V_alloc|apply Kd.V_drewN|apply Kd.V_drew));exact Kd.V_mono HL265_0.out (fun _ hk=>⟨⟨hk.1.1,⟨hk.2,⟨hk.1.2.2.1,⟨hk.1.2.2.2.1,hk.1.2.2.2.2⟩⟩⟩⟩,hk.1.2.1⟩)) hg hat);have n7_:=Aside0.mk (Kd.V_afterv (ok:=(fun k_=>(w.heap.size≤k_)∧some k_≠(.slice (some ⟨go22,0,none⟩) x259001_2.length co18:Value).ownBlock∧k_≠gb247∧k_≠gb248∧k_≠gb258)) (by(with_reducible repeat (first|apply Kd.V_alloc|apply Kd.V_drewN|apply Kd.V_drew));exact Kd.V_mono HL266_0.out (fun _ hk=>⟨⟨hk.1.1,⟨hk.2,⟨hk.1.2.2.1,⟨hk.1.2.2.2.1,hk.1.2.2.2.2⟩⟩⟩⟩,hk.1.2.1⟩)) hg hat);have n8_:=Aside0.mk (Kd.V_afterv (ok:=(fun k_=>(w.heap.size≤k_)∧some k_≠(.slice (some ⟨go22,0,none⟩) x259001_2.length co18:Value).ownBlock∧k_≠gb247∧k_≠gb248∧k_≠gb258)) (by(with_reducible repeat (first|apply Kd.V_alloc|apply Kd.V_drewN|apply Kd.V_drew));exact Kd.V_mono HL267_0.out (fun _ hk=>⟨⟨hk.1.1,⟨hk.2,⟨hk.1.2.2.1,⟨hk.1.2.2.2.1,hk.1.2.2.2.2⟩⟩⟩⟩,hk.1.2.1⟩)) hg hat);have n9_:=Aside0.mk (Kd.V_afterv (ok:=(fun k_=>(w.heap.size≤k_)∧some k_≠(.slice (some ⟨go22,0,none⟩) x259001_2.length co18:Value).ownBlock∧k_≠gb247∧k_≠gb248∧k_≠gb258)) (by(with_reducible repeat (first|apply Kd.V_alloc|apply Kd.V_drewN|apply Kd.V_drew));exact Kd.V_mono HL270_0.out (fun _ hk=>⟨⟨hk.1.1,⟨hk.2,⟨hk.1.2.2.1,⟨hk.1.2.2.2.1,hk.1.2.2.2.2⟩⟩⟩⟩,hk.1.2.1⟩)) hg hat);have n10_:=Aside0.mk (Kd.V_afterv (ok:=(fun k_=>(w.heap.size≤k_)∧some k_≠(.slice (some ⟨go22,0,none⟩) x259001_2.length co18:Value).ownBlock∧k_≠gb247∧k_≠gb248∧k_≠gb258)) (by(with_reducible repeat (first|apply Kd.V_alloc|apply Kd.V_drewN|apply Kd.V_drew));exact Kd.V_mono HL271_0.out (fun _ hk=>⟨⟨hk.1.1,⟨hk.2,⟨hk.1.2.2.1,⟨hk.1.2.2.2.1,hk.1.2.2.2.2⟩⟩⟩⟩,hk.1.2.1⟩)) hg hat);have n11_:=Aside0.mk (Kd.V_afterv (ok:=(fun k_=>(w.heap.size≤k_)∧some k_≠(.slice (some ⟨go22,0,none⟩) x259001_2.length co18:Value).ownBlock∧k_≠gb247∧k_≠gb248∧k_≠gb258)) (by(with_reducible repeat (first|apply Kd.V_alloc|apply Kd.V_drewN|apply Kd.V_drew));exact Kd.V_mono HL274_0.out (fun _ hk=>⟨⟨hk.1.1,⟨hk.2,⟨hk.1.2.2.1,⟨hk.1.2.2.2.1,hk.1.2.2.2.2⟩⟩⟩⟩,hk.1.2.1⟩)) hg hat);have n12_:=Aside0.mk (Kd.V_afterv (ok:=(fun k_=>(w.heap.size≤k_)∧some k_≠(.slice (some ⟨go22,0,none⟩) x259001_2.length co18:Value).ownBlock∧k_≠gb247∧k_≠gb248∧k_≠gb258)) (by(with_reducible repeat (first|apply Kd.V_alloc|apply Kd.V_drewN|apply Kd.V_drew));exact Kd.V_mono HO279.out (fun _ hk=>⟨⟨hk.1.1,⟨hk.2,⟨hk.1.2.2.1,⟨hk.1.2.2.2.1,hk.1.2.2.2.2⟩⟩⟩⟩,hk.1.2.1⟩)) hg hat);have n13_:=Aside0.mk (hb);have n14_:=Aside0.mk (ho);clear HO_259001 BK247 BK248 BK258 HL262_0 HL263_0 HL265_0 HL266_0 HL267_0 HL270_0 HL271_0 HL274_0 HO279 HB HO_6;have HO_259001:=n0_;have BK247:=n1_;have BK248:=n2_;have BK258:=n3_;have HL262_0:=n4_;have HL263_0:=n5_;have HL265_0:=n6_;have HL266_0:=n7_;have HL267_0:=n8_;have HL270_0:=n9_;have HL271_0:=n10_;have HL274_0:=n11_;have HO279:=n12_;have HB:=n13_;have HO283:=n14_;clear n0_ n1_ n2_ n3_ n4_ n5_ n6_ n7_ n8_ n9_ n10_ n11_ n12_ n13_ n14_;clear ho hb hg hat))
                  (try simp only[← hl259001_2])
                  go_roundg k2
                  case measure=>have:=HK1.out;have:=HK2.out;omega
                  case rel=>exact⟨(y281),(y280),H',⟨by have:=HK1.out;have:=HK2.out;omega⟩,⟨by(try simp only[hl259001_1]);(try simp only[hl259001_2]);(with_reducible repeat (first|apply Kd.R_alloc|apply Kd.R_drewN|apply Kd.R_drew));exact HO283.out⟩,⟨by(try simp only[hl259001_1]);(try simp only[hl259001_2]);(with_reducible repeat (first|apply Kd.N_alloc|apply Kd.N_drewN|apply Kd.N_drew));exact Kd.N_mono HO_259001.out (fun _ hk=>⟨hk.1.1,⟨hk.2,⟨hk.1.2.1,⟨hk.1.2.2.1,hk.1.2.2.2⟩⟩⟩⟩)⟩,⟨by(try simp only[hl259001_1]);(try simp only[hl259001_2]);(with_reducible repeat (first|refine blk_drewN ?_ _|refine blk_drew ?_|refine blk_alloc ?_ _));exact BK247.out⟩,⟨by(try simp only[hl259001_1]);(try simp only[hl259001_2]);(with_reducible repeat (first|refine blk_drewN ?_ _|refine blk_drew ?_|refine blk_alloc ?_ _));exact BK248.out⟩,⟨by(try simp only[hl259001_1]);(try simp only[hl259001_2]);(with_reducible repeat (first|refine blk_drewN ?_ _|refine blk_drew ?_|refine blk_alloc ?_ _));exact BK258.out⟩,⟨bS3 GE247.out GE248.out GE258.out⟩⟩
                 ·rw[if_neg c43] at H
                  exact absurd H (by simp)
                ·rw[if_neg c41] at H
                 exact absurd H (by simp)
               ·rw[if_neg c39] at H
                exact absurd H (by simp)
              ·rw[if_neg c37] at H
               have c37b0:decide ((rd ((rd_T116 x259001_2 x19_1).f0) 0)≤((rd_T116 x259001_2 x19_1).f1))=false:=decide_eq_false c37
               clear c37
               by_cases c55:(((rd_T116 x259001_2 x19_1).f0).length:Int)=0
               ·rw[if_pos c55] at H
                have c55b0:((((rd_T116 x259001_2 x19_1).f0).length:Int) == 0)=true:=beq_iff_eq.mpr c55
                have c55b1:((((rd_T116 x259001_2 x19_1).f0).length:Int) != 0)=false:=bne_eq_false_iff_eq.mpr c55
                clear c55
                obtain⟨y285,hy285⟩ : ∃ y_:List (S116),y_=(x259001_2.set (x19_1:Int).toNat (⟨(rd_T116 x259001_2 x19_1).f0,0,(rd_T116 x259001_2 x19_1).f2⟩:S116)):=⟨_,rfl⟩
                replace H:(impl_NextRound.l0 k2 x6_2 (t251.length:Int) (wrap64 (x19_1+1)) t250 y285 t254)=some (r1,r2,r3,r4,r5):=by first|(rw[hy285];with_reducible exact H)|(have H2_:=(Option.bind_some _ _).symm.trans H;rw[hy285];with_reducible exact H2_)|(have H2_:=(Option.bind_some _ _).symm.trans H;with_reducible exact H2_)|with_reducible exact H|(rw[hy285];exact H)|exact H
                have Ny285:=Aside0.mk hy285
                clear hy285
                have H':=Aside0.mk H
                clear H
                try go_wp2
                (try (rw[drewN_self wr];generalize hq_:World.drewN wr _=wr;have n0_:=Aside0.mk (Kd.R_at hq_ HO_6.out);have n1_:=Aside0.mk (Kd.N_at hq_ HO_259001.out);have n2_:=Aside0.mk (blk_at hq_ BK247.out);have n3_:=Aside0.mk (blk_at hq_ BK248.out);have n4_:=Aside0.mk (blk_at hq_ BK258.out);have n5_:=Aside0.mk (below_at hq_ HB.out);clear hq_ HO_6 HO_259001 BK247 BK248 BK258 HB;have HO_6:=n0_;have HO_259001:=n1_;have BK247:=n2_;have BK248:=n3_;have BK258:=n4_;have HB:=n5_;clear n0_ n1_ n2_ n3_ n4_ n5_))
                have n0_:=Aside0.mk (Kd.R_drew HO_6.out)
                have n1_:=Aside0.mk (Kd.N_drew HO_259001.out)
                have n2_:=Aside0.mk (blk_drew BK247.out)
                have n3_:=Aside0.mk (blk_drew BK248.out)
                have n4_:=Aside0.mk (blk_drew BK258.out)
                have n5_:=Aside0.mk (below_drew1 HB.out)
                clear HO_6 HO_259001 BK247 BK248 BK258 HB
                have HO_6:=n0_
                have HO_259001:=n1_
                have BK247:=n2_
                have BK248:=n3_
                have BK258:=n4_
                have HB:=n5_
                clear n0_ n1_ n2_ n3_ n4_ n5_
                have p262:0≤(x19_1:Int):=of_decide_eq_true (bD)
                have q262:x19_1 < (x259001_2.length:Int):=of_decide_eq_true (bD)
                obtain⟨ad262,A262_0,c262_0,e262,hx262_0,hx262_1,hx262_2,hl262_0,hi262_0⟩:=at_T116 (Kd.N_reads' HO_259001.out).2.2 x19_1 p262 q262
                obtain rfl:(⟨go22,0,none⟩:Addr)=ad262:=(by injection e262)
                obtain⟨ce262,hce262,hMe262,hcc262⟩:=Kd.N_get HO_259001.out z116 x19_1 p262 (by first|exact q262|exact of_decide_eq_true (bD)|(have e_:=(Kd.N_reads' HO_259001.out).1;omega))
                obtain⟨ua262_0,uc262_0,rfl,ul262_0,ge262_0⟩:=k116_openF hMe262
                have hv262_0:=hcc262 0 _ rfl
                rw[Nat.add_zero] at hv262_0
                replace hv262_0:=Option.some.inj (hv262_0.symm.trans hx262_0)
                injection hv262_0 with hva_ hvn_ hvc_
                rw[hva_] at ge262_0
                rw[hvc_] at ul262_0
                have HL262_0:=Aside0.mk (show Kd.V (Kd.int .i64) 3 _ w.heap.size _ _ ((rd_T116 x259001_2 x19_1).f0) from Kd.V_mk ul262_0 ge262_0)
                clear hva_ hvn_ hvc_ ge262_0 ul262_0 hcc262 hce262
                (first|simp only[add_plain] at hx262_0|simp only[add_at] at hx262_0|simp only[Addr.add,Nat.zero_add] at hx262_0|skip)
                (first|simp only[add_plain] at hx262_1|simp only[add_at] at hx262_1|simp only[Addr.add,Nat.zero_add] at hx262_1|skip)
                (first|simp only[add_plain] at hx262_2|simp only[add_at] at hx262_2|simp only[Addr.add,Nat.zero_add] at hx262_2|skip)
                have HR262_0:=Aside0.mk hi262_0
                have HC262_0:=Aside0.mk hl262_0
                clear hi262_0 hl262_0
                replace p262:=eq_true p262
                replace q262:=eq_true q262
                have p263:0≤(x19_1:Int):=of_decide_eq_true (bD)
                have q263:x19_1 < (x259001_2.length:Int):=of_decide_eq_true (bD)
                obtain⟨ad263,A263_0,c263_0,e263,hx263_0,hx263_1,hx263_2,hl263_0,hi263_0⟩:=at_T116 (Kd.N_reads' HO_259001.out).2.2 x19_1 p263 q263
                obtain rfl:(⟨go22,0,none⟩:Addr)=ad263:=(by injection e263)
                obtain⟨ce263,hce263,hMe263,hcc263⟩:=Kd.N_get HO_259001.out z116 x19_1 p263 (by first|exact q263|exact of_decide_eq_true (bD)|(have e_:=(Kd.N_reads' HO_259001.out).1;omega))
                obtain⟨ua263_0,uc263_0,rfl,ul263_0,ge263_0⟩:=k116_openF hMe263
                have hv263_0:=hcc263 0 _ rfl
                rw[Nat.add_zero] at hv263_0
                replace hv263_0:=Option.some.inj (hv263_0.symm.trans hx263_0)
                injection hv263_0 with hva_ hvn_ hvc_
                rw[hva_] at ge263_0
                rw[hvc_] at ul263_0
                have HL263_0:=Aside0.mk (show Kd.V (Kd.int .i64) 3 _ w.heap.size _ _ ((rd_T116 x259001_2 x19_1).f0) from Kd.V_mk ul263_0 ge263_0)
                clear hva_ hvn_ hvc_ ge263_0 ul263_0 hcc263 hce263
                (first|simp only[add_plain] at hx263_0|simp only[add_at] at hx263_0|simp only[Addr.add,Nat.zero_add] at hx263_0|skip)
                (first|simp only[add_plain] at hx263_1|simp only[add_at] at hx263_1|simp only[Addr.add,Nat.zero_add] at hx263_1|skip)
                (first|simp only[add_plain] at hx263_2|simp only[add_at] at hx263_2|simp only[Addr.add,Nat.zero_add] at hx263_2|skip)
                have HR263_0:=Aside0.mk hi263_0
                have HC263_0:=Aside0.mk hl263_0
                clear hi263_0 hl263_0
                replace p263:=eq_true p263
                replace q263:=eq_true q263
                have ea_:=Option.some.inj (hx262_0.symm.trans hx263_0)
                injection ea_ with ea_ en_ ec_
                subst ea_
                subst ec_
                clear en_
                have p264:0≤(0:Int):=(by omega)
                have q264:0 < (((rd_T116 x259001_2 x19_1).f0).length:Int):=of_decide_eq_true (bD)
                obtain⟨ad264,e264,hx264_0⟩:=Kd.at_int (by repeat (first|(with_reducible exact HR263_0.out)|(with_reducible refine Kd.C_alloc ?_ _)|(with_reducible refine Kd.C_drewN ?_ _)|(with_reducible refine Kd.C_drew ?_)|exact HR263_0.out)) 0 p264 q264
                cases e264
                have qi264:(0 < ((rd_T116 x259001_2 x19_1).f0).length)=True:=eq_true (by omega)
                (try rw[show((0:Int)).toNat=0 from rfl] at hx264_0)
                (try rw[Addr.add_zero'] at hx264_0)
                replace p264:=eq_true p264
                replace q264:=eq_true q264
                have p265:0≤(x19_1:Int):=of_decide_eq_true (bD)
                have q265:x19_1 < (x259001_2.length:Int):=of_decide_eq_true (bD)
                obtain⟨ad265,A265_0,c265_0,e265,hx265_0,hx265_1,hx265_2,hl265_0,hi265_0⟩:=at_T116 (Kd.N_reads' HO_259001.out).2.2 x19_1 p265 q265
                obtain rfl:(⟨go22,0,none⟩:Addr)=ad265:=(by injection e265)
                obtain⟨ce265,hce265,hMe265,hcc265⟩:=Kd.N_get HO_259001.out z116 x19_1 p265 (by first|exact q265|exact of_decide_eq_true (bD)|(have e_:=(Kd.N_reads' HO_259001.out).1;omega))
                obtain⟨ua265_0,uc265_0,rfl,ul265_0,ge265_0⟩:=k116_openF hMe265
                have hv265_0:=hcc265 0 _ rfl
                rw[Nat.add_zero] at hv265_0
                replace hv265_0:=Option.some.inj (hv265_0.symm.trans hx265_0)
                injection hv265_0 with hva_ hvn_ hvc_
                rw[hva_] at ge265_0
                rw[hvc_] at ul265_0
                have HL265_0:=Aside0.mk (show Kd.V (Kd.int .i64) 3 _ w.heap.size _ _ ((rd_T116 x259001_2 x19_1).f0) from Kd.V_mk ul265_0 ge265_0)
                clear hva_ hvn_ hvc_ ge265_0 ul265_0 hcc265 hce265
                (first|simp only[add_plain] at hx265_0|simp only[add_at] at hx265_0|simp only[Addr.add,Nat.zero_add] at hx265_0|skip)
                (first|simp only[add_plain] at hx265_1|simp only[add_at] at hx265_1|simp only[Addr.add,Nat.zero_add] at hx265_1|skip)
                (first|simp only[add_plain] at hx265_2|simp only[add_at] at hx265_2|simp only[Addr.add,Nat.zero_add] at hx265_2|skip)
                have HR265_0:=Aside0.mk hi265_0
                have HC265_0:=Aside0.mk hl265_0
                clear hi265_0 hl265_0
                replace p265:=eq_true p265
                replace q265:=eq_true q265
                have ea_:=Option.some.inj (hx262_0.symm.trans hx265_0)
                injection ea_ with ea_ en_ ec_
                subst ea_
                subst ec_
                clear en_
                refine start_ (n:=19) (S:=fun w'=>w'.cell? ⟨go22,(x19_1).toNat * 3,none⟩=some (.slice (some ad264) ((rd_T116 x259001_2 x19_1).f0).length c262_0)∧w'.cell? ⟨go22,(x19_1).toNat * 3+1,none⟩=some (.int .i64 ((rd_T116 x259001_2 x19_1).f1))∧w'.cell? ⟨go22,(x19_1).toNat * 3+2,none⟩=some (.int .i64 ((rd_T116 x259001_2 x19_1).f2))∧w'.cell? ⟨go22,(x19_1).toNat * 3,none⟩=some (.slice (some ad264) ((rd_T116 x259001_2 x19_1).f0).length c262_0)∧w'.cell? ⟨go22,(x19_1).toNat * 3+1,none⟩=some (.int .i64 ((rd_T116 x259001_2 x19_1).f1))∧w'.cell? ⟨go22,(x19_1).toNat * 3+2,none⟩=some (.int .i64 ((rd_T116 x259001_2 x19_1).f2))∧w'.cell? ad264=some (.int .i64 (rd ((rd_T116 x259001_2 x19_1).f0) 0))∧w'.cell? ⟨go22,(x19_1).toNat * 3,none⟩=some (.slice (some ad264) ((rd_T116 x259001_2 x19_1).f0).length c262_0)∧w'.cell? ⟨go22,(x19_1).toNat * 3+1,none⟩=some (.int .i64 ((rd_T116 x259001_2 x19_1).f1))∧w'.cell? ⟨go22,(x19_1).toNat * 3+2,none⟩=some (.int .i64 ((rd_T116 x259001_2 x19_1).f2))) (ds:=[]) #[false,false,false,false,false,false,false,false,false,false,false,false,false,false,false,false,false,false,false] (by kernel_rfl) rfl rfl ⟨hx262_0,hx262_1,hx262_2,hx263_0,hx263_1,hx263_2,hx264_0,hx265_0,hx265_1,hx265_2⟩ (fun hHeld => ?_);refine with_tabW impl_NextRound.tab10 impl_NextRound.bits10 (fun HT_ HW_ => ?_)
                generalize wr.drew=w57 at HO_6 HO_259001 BK247 BK248 BK258 HB HL262_0 HL263_0 HL265_0 HR262_0 HR263_0 HR265_0 hx262_0 hx262_1 hx262_2 hx263_0 hx263_1 hx263_2 hx264_0 hx265_0 hx265_1 hx265_2 hHeld ⊢
                refine pure_ (i:=0) (N:=some 41) (v:=?_) (a':=?_) #[true,false,false,false,false,false,false,false,false,false,false,false,false,false,false,false,false,false,false] rfl rfl (any_of HT_.out (by kernel_rfl)) (fun _ _ _ h=>h) (Or.inl ⟨by rfl,?_⟩) ?_ ?_
                rotate_left
                ·intro w'
                 go_simp
                 with_reducible rfl
                rotate_left
                ·simp only[Act.put,List.setIfInBounds_toArray,List.set_cons_zero,List.set_cons_succ,i64_w,i32_w]
                 rfl
                refine pure_ (i:=1) (N:=some 42) (v:=?_) (a':=?_) #[true,true,false,false,false,false,false,false,false,false,false,false,false,false,false,false,false,false,false] rfl rfl (any_of HT_.out (by kernel_rfl)) (fun _ _ _ h=>h) (Or.inl ⟨by rfl,?_⟩) ?_ ?_
                rotate_left
                ·intro w'
                 go_simp
                 with_reducible rfl
                rotate_left
                ·simp only[Act.put,List.setIfInBounds_toArray,List.set_cons_zero,List.set_cons_succ,i64_w,i32_w]
                 rfl
                refine pure_ (i:=2) (N:=some 43) (v:=?_) (a':=?_) #[true,true,true,false,false,false,false,false,false,false,false,false,false,false,false,false,false,false,false] rfl rfl (any_of HT_.out (by kernel_rfl)) (fun _ _ _ h=>h) (Or.inl ⟨by rfl,?_⟩) ?_ ?_
                rotate_left
                ·intro w'
                 go_simp
                 with_reducible rfl
                rotate_left
                ·simp only[Act.put,List.setIfInBounds_toArray,List.set_cons_zero,List.set_cons_succ,i64_w,i32_w]
                 rfl
                refine take_ (i:=3) (N:=some 44) (v:=?_) (a':=?_) #[true,true,true,true,false,false,false,false,false,false,false,false,false,false,false,false,false,false,false] rfl rfl (take_ofW HT_.out HW_.out (by kernel_rfl)) (fun _ _ _ h=>h) (Or.inl ⟨by rfl,?_⟩) hHeld ?_ ?_
                rotate_left
                ·rintro w' ⟨s0,s1,s2,s3,s4,s5,s6,s7,s8,s9⟩
                 go_simp
                 with_reducible rfl
                rotate_left
                ·simp only[Act.put,List.setIfInBounds_toArray,List.set_cons_zero,List.set_cons_succ,i64_w,i32_w]
                 rfl
                refine pure_ (i:=4) (N:=some 45) (v:=?_) (a':=?_) #[true,true,true,true,true,false,false,false,false,false,false,false,false,false,false,false,false,false,false] rfl rfl (any_of HT_.out (by kernel_rfl)) (fun _ _ _ h=>h) (Or.inl ⟨by rfl,?_⟩) ?_ ?_
                rotate_left
                ·intro w'
                 go_simp
                 with_reducible rfl
                rotate_left
                ·simp only[Act.put,List.setIfInBounds_toArray,List.set_cons_zero,List.set_cons_succ,i64_w,i32_w]
                 rfl
                refine pure_ (i:=5) (N:=some 46) (v:=?_) (a':=?_) #[true,true,true,true,true,true,false,false,false,false,false,false,false,false,false,false,false,false,false] rfl rfl (any_of HT_.out (by kernel_rfl)) (fun _ _ _ h=>h) (Or.inl ⟨by rfl,?_⟩) ?_ ?_
                rotate_left
                ·intro w'
                 go_simp
                 with_reducible rfl
                rotate_left
                ·simp only[Act.put,List.setIfInBounds_toArray,List.set_cons_zero,List.set_cons_succ,i64_w,i32_w]
                 rfl
                refine pure_ (i:=6) (N:=some 47) (v:=?_) (a':=?_) #[true,true,true,true,true,true,true,false,false,false,false,false,false,false,false,false,false,false,false] rfl rfl (any_of HT_.out (by kernel_rfl)) (fun _ _ _ h=>h) (Or.inl ⟨by rfl,?_⟩) ?_ ?_
                rotate_left
                ·intro w'
                 go_simp
                 with_reducible rfl
                rotate_left
                ·simp only[Act.put,List.setIfInBounds_toArray,List.set_cons_zero,List.set_cons_succ,i64_w,i32_w]
                 rfl
                refine pure_ (i:=7) (N:=some 48) (v:=?_) (a':=?_) #[true,true,true,true,true,true,true,true,false,false,false,false,false,false,false,false,false,false,false] rfl rfl (any_of HT_.out (by kernel_rfl)) (fun _ _ _ h=>h) (Or.inl ⟨by rfl,?_⟩) ?_ ?_
                rotate_left
                ·intro w'
                 go_simp
                 with_reducible rfl
                rotate_left
                ·simp only[Act.put,List.setIfInBounds_toArray,List.set_cons_zero,List.set_cons_succ,i64_w,i32_w]
                 rfl
                refine pure_ (i:=8) (N:=some 49) (v:=?_) (a':=?_) #[true,true,true,true,true,true,true,true,true,false,false,false,false,false,false,false,false,false,false] rfl rfl (any_of HT_.out (by kernel_rfl)) (fun _ _ _ h=>h) (Or.inl ⟨by rfl,?_⟩) ?_ ?_
                rotate_left
                ·intro w'
                 go_simp
                 with_reducible rfl
                rotate_left
                ·simp only[Act.put,List.setIfInBounds_toArray,List.set_cons_zero,List.set_cons_succ,i64_w,i32_w]
                 rfl
                refine pure_ (i:=9) (N:=some 50) (v:=?_) (a':=?_) #[true,true,true,true,true,true,true,true,true,true,false,false,false,false,false,false,false,false,false] rfl rfl (any_of HT_.out (by kernel_rfl)) (fun _ _ _ h=>h) (Or.inl ⟨by rfl,?_⟩) ?_ ?_
                rotate_left
                ·intro w'
                 go_simp
                 with_reducible rfl
                rotate_left
                ·simp only[Act.put,List.setIfInBounds_toArray,List.set_cons_zero,List.set_cons_succ,i64_w,i32_w]
                 rfl
                refine pure_ (i:=13) (N:=some 54) (v:=?_) (a':=?_) #[true,true,true,true,true,true,true,true,true,true,false,false,false,true,false,false,false,false,false] rfl rfl (any_of HT_.out (by kernel_rfl)) (fun _ _ _ h=>h) (Or.inl ⟨by rfl,?_⟩) ?_ ?_
                rotate_left
                ·intro w'
                 go_simp
                 with_reducible rfl
                rotate_left
                ·simp only[Act.put,List.setIfInBounds_toArray,List.set_cons_zero,List.set_cons_succ,i64_w,i32_w]
                 rfl
                refine pure_ (i:=14) (N:=some 55) (v:=?_) (a':=?_) #[true,true,true,true,true,true,true,true,true,true,false,false,false,true,true,false,false,false,false] rfl rfl (any_of HT_.out (by kernel_rfl)) (fun _ _ _ h=>h) (Or.inl ⟨by rfl,?_⟩) ?_ ?_
                rotate_left
                ·intro w'
                 go_simp
                 with_reducible rfl
                rotate_left
                ·simp only[Act.put,List.setIfInBounds_toArray,List.set_cons_zero,List.set_cons_succ,i64_w,i32_w]
                 rfl
                refine pure_ (i:=15) (N:=some 56) (v:=?_) (a':=?_) #[true,true,true,true,true,true,true,true,true,true,false,false,false,true,true,true,false,false,false] rfl rfl (any_of HT_.out (by kernel_rfl)) (fun _ _ _ h=>h) (Or.inl ⟨by rfl,?_⟩) ?_ ?_
                rotate_left
                ·intro w'
                 go_simp
                 with_reducible rfl
                rotate_left
                ·simp only[Act.put,List.setIfInBounds_toArray,List.set_cons_zero,List.set_cons_succ,i64_w,i32_w]
                 rfl
                refine take_ (i:=10) (N:=some 51) (v:=?_) (a':=?_) #[true,true,true,true,true,true,true,true,true,true,true,false,false,true,true,true,false,false,false] rfl rfl (take_ofW HT_.out HW_.out (by kernel_rfl)) (fun _ _ _ h=>h) (Or.inl ⟨by rfl,?_⟩) hHeld ?_ ?_
                rotate_left
                ·rintro w' ⟨s0,s1,s2,s3,s4,s5,s6,s7,s8,s9⟩
                 go_simp
                 with_reducible rfl
                rotate_left
                ·simp only[Act.put,List.setIfInBounds_toArray,List.set_cons_zero,List.set_cons_succ,i64_w,i32_w]
                 rfl
                refine pure_ (i:=11) (N:=some 52) (v:=?_) (a':=?_) #[true,true,true,true,true,true,true,true,true,true,true,true,false,true,true,true,false,false,false] rfl rfl (any_of HT_.out (by kernel_rfl)) (fun _ _ _ h=>h) (Or.inl ⟨by rfl,?_⟩) ?_ ?_
                rotate_left
                ·intro w'
                 go_simp
                 with_reducible rfl
                rotate_left
                ·simp only[Act.put,List.setIfInBounds_toArray,List.set_cons_zero,List.set_cons_succ,i64_w,i32_w]
                 rfl
                refine take_ (i:=12) (N:=some 53) (v:=?_) (a':=?_) #[true,true,true,true,true,true,true,true,true,true,true,true,true,true,true,true,false,false,false] rfl rfl (take_ofW HT_.out HW_.out (by kernel_rfl)) (fun _ _ _ h=>h) (Or.inl ⟨by rfl,?_⟩) hHeld ?_ ?_
                rotate_left
                ·rintro w' ⟨s0,s1,s2,s3,s4,s5,s6,s7,s8,s9⟩
                 go_simp
                 with_reducible rfl
                rotate_left
                ·simp only[Act.put,List.setIfInBounds_toArray,List.set_cons_zero,List.set_cons_succ,i64_w,i32_w]
                 rfl
                refine take_ (i:=16) (N:=some 57) (v:=?_) (a':=?_) #[true,true,true,true,true,true,true,true,true,true,true,true,true,true,true,true,true,false,false] rfl rfl (take_ofW HT_.out HW_.out (by kernel_rfl)) (fun _ _ _ h=>h) (Or.inl ⟨by rfl,?_⟩) hHeld ?_ ?_
                rotate_left
                ·rintro w' ⟨s0,s1,s2,s3,s4,s5,s6,s7,s8,s9⟩
                 go_simp
                 with_reducible rfl
                rotate_left
                ·simp only[Act.put,List.setIfInBounds_toArray,List.set_cons_zero,List.set_cons_succ,i64_w,i32_w]
                 rfl
                refine pure_ (i:=17) (N:=some 58) (v:=?_) (a':=?_) #[true,true,true,true,true,true,true,true,true,true,true,true,true,true,true,true,true,true,false] rfl rfl (any_of HT_.out (by kernel_rfl)) (fun _ _ _ h=>h) (Or.inl ⟨by rfl,?_⟩) ?_ ?_
                rotate_left
                ·intro w'
                 go_simp
                 with_reducible rfl
                rotate_left
                ·simp only[Act.put,List.setIfInBounds_toArray,List.set_cons_zero,List.set_cons_succ,i64_w,i32_w]
                 rfl
                refine pure_ (i:=18) (N:=some 59) (v:=?_) (a':=?_) #[true,true,true,true,true,true,true,true,true,true,true,true,true,true,true,true,true,true,true] rfl rfl (any_of HT_.out (by kernel_rfl)) (fun _ _ _ h=>h) (Or.inl ⟨by rfl,?_⟩) ?_ ?_
                rotate_left
                ·intro w'
                 go_simp
                 with_reducible rfl
                rotate_left
                ·simp only[Act.put,List.setIfInBounds_toArray,List.set_cons_zero,List.set_cons_succ,i64_w,i32_w]
                 rfl
                refine done_ (done_of HT_.out (by kernel_rfl)) ?_
                have p284:0≤(x19_1:Int):=of_decide_eq_true (bD)
                have q284:x19_1 < (x259001_2.length:Int):=of_decide_eq_true (bD)
                obtain⟨ad284,A284_0,c284_0,e284,hx284_0,hx284_1,hx284_2,hl284_0,hi284_0⟩:=at_T116 (Kd.N_reads' HO_259001.out).2.2 x19_1 p284 q284
                obtain rfl:(⟨go22,0,none⟩:Addr)=ad284:=(by injection e284)
                obtain⟨ce284,hce284,hMe284,hcc284⟩:=Kd.N_get HO_259001.out z116 x19_1 p284 (by first|exact q284|exact of_decide_eq_true (bD)|(have e_:=(Kd.N_reads' HO_259001.out).1;omega))
                obtain⟨ua284_0,uc284_0,rfl,ul284_0,ge284_0⟩:=k116_openF hMe284
                have hv284_0:=hcc284 0 _ rfl
                rw[Nat.add_zero] at hv284_0
                replace hv284_0:=Option.some.inj (hv284_0.symm.trans hx284_0)
                injection hv284_0 with hva_ hvn_ hvc_
                rw[hva_] at ge284_0
                rw[hvc_] at ul284_0
                have HL284_0:=Aside0.mk (show Kd.V (Kd.int .i64) 3 _ w.heap.size _ _ ((rd_T116 x259001_2 x19_1).f0) from Kd.V_mk ul284_0 ge284_0)
                clear hva_ hvn_ hvc_ ge284_0 ul284_0 hcc284 hce284
                (first|simp only[add_plain] at hx284_0|simp only[add_at] at hx284_0|simp only[Addr.add,Nat.zero_add] at hx284_0|skip)
                (first|simp only[add_plain] at hx284_1|simp only[add_at] at hx284_1|simp only[Addr.add,Nat.zero_add] at hx284_1|skip)
                (first|simp only[add_plain] at hx284_2|simp only[add_at] at hx284_2|simp only[Addr.add,Nat.zero_add] at hx284_2|skip)
                have HR284_0:=Aside0.mk hi284_0
                have HC284_0:=Aside0.mk hl284_0
                clear hi284_0 hl284_0
                replace p284:=eq_true p284
                replace q284:=eq_true q284
                have ea_:=Option.some.inj (hx262_0.symm.trans hx284_0)
                injection ea_ with ea_ en_ ec_
                subst ea_
                subst ec_
                clear en_
                have p56:0≤(x19_1:Int):=of_decide_eq_true (bD)
                have q56:(x19_1:Int) < ((x259001_2.length:Int):Int):=of_decide_eq_true (bD)
                obtain⟨ce56,hcl56,hM56,hcc56,hfr56⟩:=Kd.N_elem HO_259001.out z116 (x19_1:Int) p56 q56
                obtain⟨ua56_0,uc56_0,rfl,ul56_0,ge56_0⟩:=k116_openF hM56
                have hx56_0:w57.cell? ⟨go22,(x19_1:Int).toNat * 3,none⟩=some (.slice ua56_0 ((rd_T116 x259001_2 x19_1).f0).length uc56_0):=hcc56 0 _ rfl
                have hx56_1:w57.cell? ⟨go22,(x19_1:Int).toNat * 3+1,none⟩=some (.int .i64 ((rd_T116 x259001_2 x19_1).f1)):=hcc56 1 _ rfl
                have hx56_2:w57.cell? ⟨go22,(x19_1:Int).toNat * 3+2,none⟩=some (.int .i64 ((rd_T116 x259001_2 x19_1).f2)):=hcc56 2 _ rfl
                have hf56_0:w57.frozen? ⟨go22,(x19_1:Int).toNat * 3,none⟩=false:=hfr56 0
                have hf56_1:w57.frozen? ⟨go22,(x19_1:Int).toNat * 3+1,none⟩=false:=hfr56 1
                have hf56_2:w57.frozen? ⟨go22,(x19_1:Int).toNat * 3+2,none⟩=false:=hfr56 2
                clear hcl56 hcc56 hfr56 hM56
                replace p56:=eq_true p56
                replace q56:=eq_true q56
                have HX58:=Aside0.mk (show Kd.N k116 116 w57 w.heap.size (fun k_=>(w.heap.size≤k_)∧some k_≠(u6:Value).ownBlock∧k_≠gb247∧k_≠gb248∧k_≠gb258) (.slice (some ⟨go22,0,none⟩) x259001_2.length co18) x259001_2 from (by(with_reducible repeat (first|apply Kd.N_alloc|apply Kd.N_drewN|apply Kd.N_drew));exact HO_259001.out))
                obtain⟨ce58,hcl58,hM58,hcc58,hfr58⟩:=Kd.N_elem HX58.out z116 (x19_1:Int) (of_decide_eq_true (bD)) (by have h_:(x19_1:Int) < ((x259001_2.length:Int):Int):=of_decide_eq_true (bD);first|exact h_|(have e_:=(Kd.N_reads' HO_259001.out).1;omega)|simpa using h_)
                obtain⟨ua58_0,uc58_0,rfl,ul58_0,ge58_0⟩:=k116_openF hM58
                have HP58:=Kd.N_seg HX58.out (x19_1:Int) (of_decide_eq_true (bD)) (by have h_:(x19_1:Int) < ((x259001_2.length:Int):Int):=of_decide_eq_true (bD);first|exact h_|(have e_:=(Kd.N_reads' HO_259001.out).1;omega)|simpa using h_) (seg:=[.int .i64 0]) (j:=1) hcl58 hcc58 (show 2≤3 from by decide) (x':=(⟨(rd_T116 x259001_2 x19_1).f0,0,(rd_T116 x259001_2 x19_1).f2⟩:S116)) (k116_mkF _ _ (⟨(rd_T116 x259001_2 x19_1).f0,0,(rd_T116 x259001_2 x19_1).f2⟩:S116) ul58_0 ge58_0) (fun _ hk=>hk)
                have hx58_1:=hcc58 1 _ rfl
                (try simp only[show(k116).sz=3 from rfl,Nat.mul_one,Nat.add_zero] at hx58_1)
                have hf58_1:=hfr58 1
                (try simp only[show(k116).sz=3 from rfl,Nat.mul_one,Nat.add_zero] at hf58_1)
                clear hcl58 hcc58 hfr58 hM58
                try go_wp2_with (first|((with_reducible refine gate_store (t:=3) (p:=106) rfl ?_);refine store_event (t:=3) (p:=106) (v:=?vo_w59) (w1:=(w57.setCell ⟨go22,(x19_1:Int).toNat * 3+1,none⟩ (.int .i64 0))) ?hg ?ho ?hn ?hr ?_;(case ho=>rfl);(case hg=>rfl);(case hn=>rfl);(case hr=>first|(go_simp;done)|(go_simp;rfl));intro w59 hw;have hg:w57.grownBy w59 (some go22):=(by rw[hw];exact HP58.2);have hp_:Kd.N k116 116 w59 w.heap.size (fun k_=>(w.heap.size≤k_)∧some k_≠(u6:Value).ownBlock∧k_≠gb247∧k_≠gb248∧k_≠gb258) (.slice (some ⟨go22,0,none⟩) x259001_2.length co18) y285:=(by rw[hw,Ny285.out];exact HP58.1);clear HP58;have n0_:=Aside0.mk (Kd.R_over' (v:=(.slice (some ⟨go22,0,none⟩) x259001_2.length co18)) (bK HO_6.out) (Kd.N_typed HO_259001.out) (by decide) hg);have n1_:=Aside0.mk (hp_);have n2_:=Aside0.mk (blk_grown (g:=gb247) (o:=.cells #[.int .i64 a0_0,.slice A0_1 l0_1.length c0_1,.int .i64 a0_2] 28 (0,0)) (bL BK247.out) hg (Kd.N_ne HO_259001.out BK247.out (by decide)));have n3_:=Aside0.mk (blk_grown (g:=gb248) (o:=.cells #[.int .i64 0,.slice none 0 0,.int .i64 0] 28 (0,0)) (bL BK248.out) hg (Kd.N_ne HO_259001.out BK248.out (by decide)));have n4_:=Aside0.mk (blk_grown (g:=gb258) (o:=.cells #[.int .i64 t250,.slice (some ⟨go22,0,none⟩) x259001_2.length co18,.int .i64 t254] 28 (0,0)) (bL BK258.out) hg (Kd.N_ne HO_259001.out BK258.out (by decide)));have n5_:=Aside0.mk (Kd.V_afterv (v:=(.slice (some ⟨go22,0,none⟩) x259001_2.length co18)) (v1:=(.slice (some ⟨go22,0,none⟩) x259001_2.length co18)) (ok:=(fun k_=>(w.heap.size≤k_)∧some k_≠(u6:Value).ownBlock∧k_≠gb247∧k_≠gb248∧k_≠gb258)) (by(with_reducible repeat (first|apply Kd.V_alloc|apply Kd.V_drewN|apply Kd.V_drew));exact HL262_0.out) hg (.inl rfl));have n6_:=Aside0.mk (Kd.V_afterv (v:=(.slice (some ⟨go22,0,none⟩) x259001_2.length co18)) (v1:=(.slice (some ⟨go22,0,none⟩) x259001_2.length co18)) (ok:=(fun k_=>(w.heap.size≤k_)∧some k_≠(u6:Value).ownBlock∧k_≠gb247∧k_≠gb248∧k_≠gb258)) (by(with_reducible repeat (first|apply Kd.V_alloc|apply Kd.V_drewN|apply Kd.V_drew));exact HL263_0.out) hg (.inl rfl));have n7_:=Aside0.mk (Kd.V_afterv (v:=(.slice (some ⟨go22,0,none⟩) x259001_2.length co18)) (v1:=(.slice (some ⟨go22,0,none⟩) x259001_2.length co18)) (ok:=(fun k_=>(w.heap.size≤k_)∧some k_≠(u6:Value).ownBlock∧k_≠gb247∧k_≠gb248∧k_≠gb258)) (by(with_reducible repeat (first|apply Kd.V_alloc|apply Kd.V_drewN|apply Kd.V_drew));exact HL265_0.out) hg (.inl rfl));have n8_:=Aside0.mk (Kd.V_afterv (v:=(.slice (some ⟨go22,0,none⟩) x259001_2.length co18)) (v1:=(.slice (some ⟨go22,0,none⟩) x259001_2.length co18)) (ok:=(fun k_=>(w.heap.size≤k_)∧some k_≠(u6:Value).ownBlock∧k_≠gb247∧k_≠gb248∧k_≠gb258)) (by(with_reducible repeat (first|apply Kd.V_alloc|apply Kd.V_drewN|apply Kd.V_drew));exact HL284_0.out) hg (.inl rfl));have n9_:=Aside0.mk ((by rw[hw];exact below_set (HB.out) GB22.out:Below w.heap.size w w59));clear HO_6 HO_259001 BK247 BK248 BK258 HL262_0 HL263_0 HL265_0 HL284_0 HB;have HO_6:=n0_;have HO_259001:=n1_;have BK247:=n2_;have BK248:=n3_;have BK258:=n4_;have HL262_0:=n5_;have HL263_0:=n6_;have HL265_0:=n7_;have HL284_0:=n8_;have HB:=n9_;clear n0_ n1_ n2_ n3_ n4_ n5_ n6_ n7_ n8_ n9_;clear hg hw hp_))
                (try simp only[← hl259001_1,← hl259001_2])
                go_roundg k2
                case measure=>have:=HK1.out;have:=HK2.out;omega
                case rel=>exact⟨(x6_2),(wrap64 (x19_1+1)),(y285),(bR),H',⟨by have:=HK1.out;have:=HK2.out;omega⟩,⟨by(try simp only[hl259001_1]);(try simp only[hl259001_2]);(with_reducible repeat (first|apply Kd.R_alloc|apply Kd.R_drewN|apply Kd.R_drew));exact HO_6.out⟩,⟨by(try simp only[hl259001_1]);(try simp only[hl259001_2]);(with_reducible repeat (first|apply Kd.N_alloc|apply Kd.N_drewN|apply Kd.N_drew));exact HO_259001.out⟩,⟨by(try simp only[hl259001_1]);(try simp only[hl259001_2]);(with_reducible repeat (first|refine blk_drewN ?_ _|refine blk_drew ?_|refine blk_alloc ?_ _));exact BK247.out⟩,⟨by(try simp only[hl259001_1]);(try simp only[hl259001_2]);(with_reducible repeat (first|refine blk_drewN ?_ _|refine blk_drew ?_|refine blk_alloc ?_ _));exact BK248.out⟩,⟨by(try simp only[hl259001_1]);(try simp only[hl259001_2]);(with_reducible repeat (first|refine blk_drewN ?_ _|refine blk_drew ?_|refine blk_alloc ?_ _));exact BK258.out⟩,⟨bS3 GE247.out GE248.out GE258.out⟩⟩
               ·rw[if_neg c55] at H
                have c55b0:((((rd_T116 x259001_2 x19_1).f0).length:Int) == 0)=false:=beq_eq_false_iff_ne.mpr c55
                have c55b1:((((rd_T116 x259001_2 x19_1).f0).length:Int) != 0)=true:=bne_iff_ne.mpr c55
                have c55b2 : ¬ (((rd_T116 x259001_2 x19_1).f0)=[]):=fun h_=>c55 (by rw[h_];rfl)
                have H':=Aside0.mk H
                clear H
                try go_wp2
                (try (rw[drewN_self wr];generalize hq_:World.drewN wr _=wr;have n0_:=Aside0.mk (Kd.R_at hq_ HO_6.out);have n1_:=Aside0.mk (Kd.N_at hq_ HO_259001.out);have n2_:=Aside0.mk (blk_at hq_ BK247.out);have n3_:=Aside0.mk (blk_at hq_ BK248.out);have n4_:=Aside0.mk (blk_at hq_ BK258.out);have n5_:=Aside0.mk (below_at hq_ HB.out);clear hq_ HO_6 HO_259001 BK247 BK248 BK258 HB;have HO_6:=n0_;have HO_259001:=n1_;have BK247:=n2_;have BK248:=n3_;have BK258:=n4_;have HB:=n5_;clear n0_ n1_ n2_ n3_ n4_ n5_))
                have n0_:=Aside0.mk (Kd.R_drew HO_6.out)
                have n1_:=Aside0.mk (Kd.N_drew HO_259001.out)
                have n2_:=Aside0.mk (blk_drew BK247.out)
                have n3_:=Aside0.mk (blk_drew BK248.out)
                have n4_:=Aside0.mk (blk_drew BK258.out)
                have n5_:=Aside0.mk (below_drew1 HB.out)
                clear HO_6 HO_259001 BK247 BK248 BK258 HB
                have HO_6:=n0_
                have HO_259001:=n1_
                have BK247:=n2_
                have BK248:=n3_
                have BK258:=n4_
                have HB:=n5_
                clear n0_ n1_ n2_ n3_ n4_ n5_
                have p262:0≤(x19_1:Int):=of_decide_eq_true (bD)
                have q262:x19_1 < (x259001_2.length:Int):=of_decide_eq_true (bD)
                obtain⟨ad262,A262_0,c262_0,e262,hx262_0,hx262_1,hx262_2,hl262_0,hi262_0⟩:=at_T116 (Kd.N_reads' HO_259001.out).2.2 x19_1 p262 q262
                obtain rfl:(⟨go22,0,none⟩:Addr)=ad262:=(by injection e262)
                obtain⟨ce262,hce262,hMe262,hcc262⟩:=Kd.N_get HO_259001.out z116 x19_1 p262 (by first|exact q262|exact of_decide_eq_true (bD)|(have e_:=(Kd.N_reads' HO_259001.out).1;omega))
                obtain⟨ua262_0,uc262_0,rfl,ul262_0,ge262_0⟩:=k116_openF hMe262
                have hv262_0:=hcc262 0 _ rfl
                rw[Nat.add_zero] at hv262_0
                replace hv262_0:=Option.some.inj (hv262_0.symm.trans hx262_0)
                injection hv262_0 with hva_ hvn_ hvc_
                rw[hva_] at ge262_0
                rw[hvc_] at ul262_0
                have HL262_0:=Aside0.mk (show Kd.V (Kd.int .i64) 3 _ w.heap.size _ _ ((rd_T116 x259001_2 x19_1).f0) from Kd.V_mk ul262_0 ge262_0)
                clear hva_ hvn_ hvc_ ge262_0 ul262_0 hcc262 hce262
                (first|simp only[add_plain] at hx262_0|simp only[add_at] at hx262_0|simp only[Addr.add,Nat.zero_add] at hx262_0|skip)
                (first|simp only[add_plain] at hx262_1|simp only[add_at] at hx262_1|simp only[Addr.add,Nat.zero_add] at hx262_1|skip)
                (first|simp only[add_plain] at hx262_2|simp only[add_at] at hx262_2|simp only[Addr.add,Nat.zero_add] at hx262_2|skip)
                have HR262_0:=Aside0.mk hi262_0
                have HC262_0:=Aside0.mk hl262_0
                clear hi262_0 hl262_0
                replace p262:=eq_true p262
                replace q262:=eq_true q262
                have p263:0≤(x19_1:Int):=of_decide_eq_true (bD)
                have q263:x19_1 < (x259001_2.length:Int):=of_decide_eq_true (bD)
                obtain⟨ad263,A263_0,c263_0,e263,hx263_0,hx263_1,hx263_2,hl263_0,hi263_0⟩:=at_T116 (Kd.N_reads' HO_259001.out).2.2 x19_1 p263 q263
                obtain rfl:(⟨go22,0,none⟩:Addr)=ad263:=(by injection e263)
                obtain⟨ce263,hce263,hMe263,hcc263⟩:=Kd.N_get HO_259001.out z116 x19_1 p263 (by first|exact q263|exact of_decide_eq_true (bD)|(have e_:=(Kd.N_reads' HO_259001.out).1;omega))
                obtain⟨ua263_0,uc263_0,rfl,ul263_0,ge263_0⟩:=k116_openF hMe263
                have hv263_0:=hcc263 0 _ rfl
                rw[Nat.add_zero] at hv263_0
                replace hv263_0:=Option.some.inj (hv263_0.symm.trans hx263_0)
                injection hv263_0 with hva_ hvn_ hvc_
                rw[hva_] at ge263_0
                rw[hvc_] at ul263_0
                have HL263_0:=Aside0.mk (show Kd.V (Kd.int .i64) 3 _ w.heap.size _ _ ((rd_T116 x259001_2 x19_1).f0) from Kd.V_mk ul263_0 ge263_0)
                clear hva_ hvn_ hvc_ ge263_0 ul263_0 hcc263 hce263
                (first|simp only[add_plain] at hx263_0|simp only[add_at] at hx263_0|simp only[Addr.add,Nat.zero_add] at hx263_0|skip)
                (first|simp only[add_plain] at hx263_1|simp only[add_at] at hx263_1|simp only[Addr.add,Nat.zero_add] at hx263_1|skip)
                (first|simp only[add_plain] at hx263_2|simp only[add_at] at hx263_2|simp only[Addr.add,Nat.zero_add] at hx263_2|skip)
                have HR263_0:=Aside0.mk hi263_0
                have HC263_0:=Aside0.mk hl263_0
                clear hi263_0 hl263_0
                replace p263:=eq_true p263
                replace q263:=eq_true q263
                have ea_:=Option.some.inj (hx262_0.symm.trans hx263_0)
                injection ea_ with ea_ en_ ec_
                subst ea_
                subst ec_
                clear en_
                have p264:0≤(0:Int):=(by omega)
                have q264:0 < (((rd_T116 x259001_2 x19_1).f0).length:Int):=of_decide_eq_true (bD)
                obtain⟨ad264,e264,hx264_0⟩:=Kd.at_int (by repeat (first|(with_reducible exact HR263_0.out)|(with_reducible refine Kd.C_alloc ?_ _)|(with_reducible refine Kd.C_drewN ?_ _)|(with_reducible refine Kd.C_drew ?_)|exact HR263_0.out)) 0 p264 q264
                cases e264
                have qi264:(0 < ((rd_T116 x259001_2 x19_1).f0).length)=True:=eq_true (by omega)
                (try rw[show((0:Int)).toNat=0 from rfl] at hx264_0)
                (try rw[Addr.add_zero'] at hx264_0)
                replace p264:=eq_true p264
                replace q264:=eq_true q264
                have p265:0≤(x19_1:Int):=of_decide_eq_true (bD)
                have q265:x19_1 < (x259001_2.length:Int):=of_decide_eq_true (bD)
                obtain⟨ad265,A265_0,c265_0,e265,hx265_0,hx265_1,hx265_2,hl265_0,hi265_0⟩:=at_T116 (Kd.N_reads' HO_259001.out).2.2 x19_1 p265 q265
                obtain rfl:(⟨go22,0,none⟩:Addr)=ad265:=(by injection e265)
                obtain⟨ce265,hce265,hMe265,hcc265⟩:=Kd.N_get HO_259001.out z116 x19_1 p265 (by first|exact q265|exact of_decide_eq_true (bD)|(have e_:=(Kd.N_reads' HO_259001.out).1;omega))
                obtain⟨ua265_0,uc265_0,rfl,ul265_0,ge265_0⟩:=k116_openF hMe265
                have hv265_0:=hcc265 0 _ rfl
                rw[Nat.add_zero] at hv265_0
                replace hv265_0:=Option.some.inj (hv265_0.symm.trans hx265_0)
                injection hv265_0 with hva_ hvn_ hvc_
                rw[hva_] at ge265_0
                rw[hvc_] at ul265_0
                have HL265_0:=Aside0.mk (show Kd.V (Kd.int .i64) 3 _ w.heap.size _ _ ((rd_T116 x259001_2 x19_1).f0) from Kd.V_mk ul265_0 ge265_0)
                clear hva_ hvn_ hvc_ ge265_0 ul265_0 hcc265 hce265
                (first|simp only[add_plain] at hx265_0|simp only[add_at] at hx265_0|simp only[Addr.add,Nat.zero_add] at hx265_0|skip)
                (first|simp only[add_plain] at hx265_1|simp only[add_at] at hx265_1|simp only[Addr.add,Nat.zero_add] at hx265_1|skip)
                (first|simp only[add_plain] at hx265_2|simp only[add_at] at hx265_2|simp only[Addr.add,Nat.zero_add] at hx265_2|skip)
                have HR265_0:=Aside0.mk hi265_0
                have HC265_0:=Aside0.mk hl265_0
                clear hi265_0 hl265_0
                replace p265:=eq_true p265
                replace q265:=eq_true q265
                have ea_:=Option.some.inj (hx262_0.symm.trans hx265_0)
                injection ea_ with ea_ en_ ec_
                subst ea_
                subst ec_
                clear en_
                refine start_ (n:=19) (S:=fun w'=>w'.cell? ⟨go22,(x19_1).toNat * 3,none⟩=some (.slice (some ad264) ((rd_T116 x259001_2 x19_1).f0).length c262_0)∧w'.cell? ⟨go22,(x19_1).toNat * 3+1,none⟩=some (.int .i64 ((rd_T116 x259001_2 x19_1).f1))∧w'.cell? ⟨go22,(x19_1).toNat * 3+2,none⟩=some (.int .i64 ((rd_T116 x259001_2 x19_1).f2))∧w'.cell? ⟨go22,(x19_1).toNat * 3,none⟩=some (.slice (some ad264) ((rd_T116 x259001_2 x19_1).f0).length c262_0)∧w'.cell? ⟨go22,(x19_1).toNat * 3+1,none⟩=some (.int .i64 ((rd_T116 x259001_2 x19_1).f1))∧w'.cell? ⟨go22,(x19_1).toNat * 3+2,none⟩=some (.int .i64 ((rd_T116 x259001_2 x19_1).f2))∧w'.cell? ad264=some (.int .i64 (rd ((rd_T116 x259001_2 x19_1).f0) 0))∧w'.cell? ⟨go22,(x19_1).toNat * 3,none⟩=some (.slice (some ad264) ((rd_T116 x259001_2 x19_1).f0).length c262_0)∧w'.cell? ⟨go22,(x19_1).toNat * 3+1,none⟩=some (.int .i64 ((rd_T116 x259001_2 x19_1).f1))∧w'.cell? ⟨go22,(x19_1).toNat * 3+2,none⟩=some (.int .i64 ((rd_T116 x259001_2 x19_1).f2))) (ds:=[]) #[false,false,false,false,false,false,false,false,false,false,false,false,false,false,false,false,false,false,false] (by kernel_rfl) rfl rfl ⟨hx262_0,hx262_1,hx262_2,hx263_0,hx263_1,hx263_2,hx264_0,hx265_0,hx265_1,hx265_2⟩ (fun hHeld => ?_);refine with_tabW impl_NextRound.tab10 impl_NextRound.bits10 (fun HT_ HW_ => ?_)
                generalize wr.drew=w60 at HO_6 HO_259001 BK247 BK248 BK258 HB HL262_0 HL263_0 HL265_0 HR262_0 HR263_0 HR265_0 hx262_0 hx262_1 hx262_2 hx263_0 hx263_1 hx263_2 hx264_0 hx265_0 hx265_1 hx265_2 hHeld ⊢
                refine pure_ (i:=0) (N:=some 41) (v:=?_) (a':=?_) #[true,false,false,false,false,false,false,false,false,false,false,false,false,false,false,false,false,false,false] rfl rfl (any_of HT_.out (by kernel_rfl)) (fun _ _ _ h=>h) (Or.inl ⟨by rfl,?_⟩) ?_ ?_
                rotate_left
                ·intro w'
                 go_simp
                 with_reducible rfl
                rotate_left
                ·simp only[Act.put,List.setIfInBounds_toArray,List.set_cons_zero,List.set_cons_succ,i64_w,i32_w]
                 rfl
                refine pure_ (i:=1) (N:=some 42) (v:=?_) (a':=?_) #[true,true,false,false,false,false,false,false,false,false,false,false,false,false,false,false,false,false,false] rfl rfl (any_of HT_.out (by kernel_rfl)) (fun _ _ _ h=>h) (Or.inl ⟨by rfl,?_⟩) ?_ ?_
                rotate_left
                ·intro w'
                 go_simp
                 with_reducible rfl
                rotate_left
                ·simp only[Act.put,List.setIfInBounds_toArray,List.set_cons_zero,List.set_cons_succ,i64_w,i32_w]
                 rfl
                refine pure_ (i:=2) (N:=some 43) (v:=?_) (a':=?_) #[true,true,true,false,false,false,false,false,false,false,false,false,false,false,false,false,false,false,false] rfl rfl (any_of HT_.out (by kernel_rfl)) (fun _ _ _ h=>h) (Or.inl ⟨by rfl,?_⟩) ?_ ?_
                rotate_left
                ·intro w'
                 go_simp
                 with_reducible rfl
                rotate_left
                ·simp only[Act.put,List.setIfInBounds_toArray,List.set_cons_zero,List.set_cons_succ,i64_w,i32_w]
                 rfl
                refine take_ (i:=3) (N:=some 44) (v:=?_) (a':=?_) #[true,true,true,true,false,false,false,false,false,false,false,false,false,false,false,false,false,false,false] rfl rfl (take_ofW HT_.out HW_.out (by kernel_rfl)) (fun _ _ _ h=>h) (Or.inl ⟨by rfl,?_⟩) hHeld ?_ ?_
                rotate_left
                ·rintro w' ⟨s0,s1,s2,s3,s4,s5,s6,s7,s8,s9⟩
                 go_simp
                 with_reducible rfl
                rotate_left
                ·simp only[Act.put,List.setIfInBounds_toArray,List.set_cons_zero,List.set_cons_succ,i64_w,i32_w]
                 rfl
                refine pure_ (i:=4) (N:=some 45) (v:=?_) (a':=?_) #[true,true,true,true,true,false,false,false,false,false,false,false,false,false,false,false,false,false,false] rfl rfl (any_of HT_.out (by kernel_rfl)) (fun _ _ _ h=>h) (Or.inl ⟨by rfl,?_⟩) ?_ ?_
                rotate_left
                ·intro w'
                 go_simp
                 with_reducible rfl
                rotate_left
                ·simp only[Act.put,List.setIfInBounds_toArray,List.set_cons_zero,List.set_cons_succ,i64_w,i32_w]
                 rfl
                refine pure_ (i:=5) (N:=some 46) (v:=?_) (a':=?_) #[true,true,true,true,true,true,false,false,false,false,false,false,false,false,false,false,false,false,false] rfl rfl (any_of HT_.out (by kernel_rfl)) (fun _ _ _ h=>h) (Or.inl ⟨by rfl,?_⟩) ?_ ?_
                rotate_left
                ·intro w'
                 go_simp
                 with_reducible rfl
                rotate_left
                ·simp only[Act.put,List.setIfInBounds_toArray,List.set_cons_zero,List.set_cons_succ,i64_w,i32_w]
                 rfl
                refine pure_ (i:=6) (N:=some 47) (v:=?_) (a':=?_) #[true,true,true,true,true,true,true,false,false,false,false,false,false,false,false,false,false,false,false] rfl rfl (any_of HT_.out (by kernel_rfl)) (fun _ _ _ h=>h) (Or.inl ⟨by rfl,?_⟩) ?_ ?_
                rotate_left
                ·intro w'
                 go_simp
                 with_reducible rfl
                rotate_left
                ·simp only[Act.put,List.setIfInBounds_toArray,List.set_cons_zero,List.set_cons_succ,i64_w,i32_w]
                 rfl
                refine pure_ (i:=7) (N:=some 48) (v:=?_) (a':=?_) #[true,true,true,true,true,true,true,true,false,false,false,false,false,false,false,false,false,false,false] rfl rfl (any_of HT_.out (by kernel_rfl)) (fun _ _ _ h=>h) (Or.inl ⟨by rfl,?_⟩) ?_ ?_
                rotate_left
                ·intro w'
                 go_simp
                 with_reducible rfl
                rotate_left
                ·simp only[Act.put,List.setIfInBounds_toArray,List.set_cons_zero,List.set_cons_succ,i64_w,i32_w]
                 rfl
                refine pure_ (i:=8) (N:=some 49) (v:=?_) (a':=?_) #[true,true,true,true,true,true,true,true,true,false,false,false,false,false,false,false,false,false,false] rfl rfl (any_of HT_.out (by kernel_rfl)) (fun _ _ _ h=>h) (Or.inl ⟨by rfl,?_⟩) ?_ ?_
                rotate_left
                ·intro w'
                 go_simp
                 with_reducible rfl
                rotate_left
                ·simp only[Act.put,List.setIfInBounds_toArray,List.set_cons_zero,List.set_cons_succ,i64_w,i32_w]
                 rfl
                refine pure_ (i:=9) (N:=some 50) (v:=?_) (a':=?_) #[true,true,true,true,true,true,true,true,true,true,false,false,false,false,false,false,false,false,false] rfl rfl (any_of HT_.out (by kernel_rfl)) (fun _ _ _ h=>h) (Or.inl ⟨by rfl,?_⟩) ?_ ?_
                rotate_left
                ·intro w'
                 go_simp
                 with_reducible rfl
                rotate_left
                ·simp only[Act.put,List.setIfInBounds_toArray,List.set_cons_zero,List.set_cons_succ,i64_w,i32_w]
                 rfl
                refine pure_ (i:=13) (N:=some 54) (v:=?_) (a':=?_) #[true,true,true,true,true,true,true,true,true,true,false,false,false,true,false,false,false,false,false] rfl rfl (any_of HT_.out (by kernel_rfl)) (fun _ _ _ h=>h) (Or.inl ⟨by rfl,?_⟩) ?_ ?_
                rotate_left
                ·intro w'
                 go_simp
                 with_reducible rfl
                rotate_left
                ·simp only[Act.put,List.setIfInBounds_toArray,List.set_cons_zero,List.set_cons_succ,i64_w,i32_w]
                 rfl
                refine pure_ (i:=14) (N:=some 55) (v:=?_) (a':=?_) #[true,true,true,true,true,true,true,true,true,true,false,false,false,true,true,false,false,false,false] rfl rfl (any_of HT_.out (by kernel_rfl)) (fun _ _ _ h=>h) (Or.inl ⟨by rfl,?_⟩) ?_ ?_
                rotate_left
                ·intro w'
                 go_simp
                 with_reducible rfl
                rotate_left
                ·simp only[Act.put,List.setIfInBounds_toArray,List.set_cons_zero,List.set_cons_succ,i64_w,i32_w]
                 rfl
                refine pure_ (i:=15) (N:=some 56) (v:=?_) (a':=?_) #[true,true,true,true,true,true,true,true,true,true,false,false,false,true,true,true,false,false,false] rfl rfl (any_of HT_.out (by kernel_rfl)) (fun _ _ _ h=>h) (Or.inl ⟨by rfl,?_⟩) ?_ ?_
                rotate_left
                ·intro w'
                 go_simp
                 with_reducible rfl
                rotate_left
                ·simp only[Act.put,List.setIfInBounds_toArray,List.set_cons_zero,List.set_cons_succ,i64_w,i32_w]
                 rfl
                refine take_ (i:=10) (N:=some 51) (v:=?_) (a':=?_) #[true,true,true,true,true,true,true,true,true,true,true,false,false,true,true,true,false,false,false] rfl rfl (take_ofW HT_.out HW_.out (by kernel_rfl)) (fun _ _ _ h=>h) (Or.inl ⟨by rfl,?_⟩) hHeld ?_ ?_
                rotate_left
                ·rintro w' ⟨s0,s1,s2,s3,s4,s5,s6,s7,s8,s9⟩
                 go_simp
                 with_reducible rfl
                rotate_left
                ·simp only[Act.put,List.setIfInBounds_toArray,List.set_cons_zero,List.set_cons_succ,i64_w,i32_w]
                 rfl
                refine pure_ (i:=11) (N:=some 52) (v:=?_) (a':=?_) #[true,true,true,true,true,true,true,true,true,true,true,true,false,true,true,true,false,false,false] rfl rfl (any_of HT_.out (by kernel_rfl)) (fun _ _ _ h=>h) (Or.inl ⟨by rfl,?_⟩) ?_ ?_
                rotate_left
                ·intro w'
                 go_simp
                 with_reducible rfl
                rotate_left
                ·simp only[Act.put,List.setIfInBounds_toArray,List.set_cons_zero,List.set_cons_succ,i64_w,i32_w]
                 rfl
                refine take_ (i:=12) (N:=some 53) (v:=?_) (a':=?_) #[true,true,true,true,true,true,true,true,true,true,true,true,true,true,true,true,false,false,false] rfl rfl (take_ofW HT_.out HW_.out (by kernel_rfl)) (fun _ _ _ h=>h) (Or.inl ⟨by rfl,?_⟩) hHeld ?_ ?_
                rotate_left
                ·rintro w' ⟨s0,s1,s2,s3,s4,s5,s6,s7,s8,s9⟩
                 go_simp
                 with_reducible rfl
                rotate_left
                ·simp only[Act.put,List.setIfInBounds_toArray,List.set_cons_zero,List.set_cons_succ,i64_w,i32_w]
                 rfl
                refine take_ (i:=16) (N:=some 57) (v:=?_) (a':=?_) #[true,true,true,true,true,true,true,true,true,true,true,true,true,true,true,true,true,false,false] rfl rfl (take_ofW HT_.out HW_.out (by kernel_rfl)) (fun _ _ _ h=>h) (Or.inl ⟨by rfl,?_⟩) hHeld ?_ ?_
                rotate_left
                ·rintro w' ⟨s0,s1,s2,s3,s4,s5,s6,s7,s8,s9⟩
                 go_simp
                 with_reducible rfl
                rotate_left
                ·simp only[Act.put,List.setIfInBounds_toArray,List.set_cons_zero,List.set_cons_succ,i64_w,i32_w]
                 rfl
                refine pure_ (i:=17) (N:=some 58) (v:=?_) (a':=?_) #[true,true,true,true,true,true,true,true,true,true,true,true,true,true,true,true,true,true,false] rfl rfl (any_of HT_.out (by kernel_rfl)) (fun _ _ _ h=>h) (Or.inl ⟨by rfl,?_⟩) ?_ ?_
                rotate_left
                ·intro w'
                 go_simp
                 with_reducible rfl
                rotate_left
                ·simp only[Act.put,List.setIfInBounds_toArray,List.set_cons_zero,List.set_cons_succ,i64_w,i32_w]
                 rfl
                refine pure_ (i:=18) (N:=some 59) (v:=?_) (a':=?_) #[true,true,true,true,true,true,true,true,true,true,true,true,true,true,true,true,true,true,true] rfl rfl (any_of HT_.out (by kernel_rfl)) (fun _ _ _ h=>h) (Or.inl ⟨by rfl,?_⟩) ?_ ?_
                rotate_left
                ·intro w'
                 go_simp
                 with_reducible rfl
                rotate_left
                ·simp only[Act.put,List.setIfInBounds_toArray,List.set_cons_zero,List.set_cons_succ,i64_w,i32_w]
                 rfl
                refine done_ (done_of HT_.out (by kernel_rfl)) ?_
                have p284:0≤(x19_1:Int):=of_decide_eq_true (bD)
                have q284:x19_1 < (x259001_2.length:Int):=of_decide_eq_true (bD)
                obtain⟨ad284,A284_0,c284_0,e284,hx284_0,hx284_1,hx284_2,hl284_0,hi284_0⟩:=at_T116 (Kd.N_reads' HO_259001.out).2.2 x19_1 p284 q284
                obtain rfl:(⟨go22,0,none⟩:Addr)=ad284:=(by injection e284)
                obtain⟨ce284,hce284,hMe284,hcc284⟩:=Kd.N_get HO_259001.out z116 x19_1 p284 (by first|exact q284|exact of_decide_eq_true (bD)|(have e_:=(Kd.N_reads' HO_259001.out).1;omega))
                obtain⟨ua284_0,uc284_0,rfl,ul284_0,ge284_0⟩:=k116_openF hMe284
                have hv284_0:=hcc284 0 _ rfl
                rw[Nat.add_zero] at hv284_0
                replace hv284_0:=Option.some.inj (hv284_0.symm.trans hx284_0)
                injection hv284_0 with hva_ hvn_ hvc_
                rw[hva_] at ge284_0
                rw[hvc_] at ul284_0
                have HL284_0:=Aside0.mk (show Kd.V (Kd.int .i64) 3 _ w.heap.size _ _ ((rd_T116 x259001_2 x19_1).f0) from Kd.V_mk ul284_0 ge284_0)
                clear hva_ hvn_ hvc_ ge284_0 ul284_0 hcc284 hce284
                (first|simp only[add_plain] at hx284_0|simp only[add_at] at hx284_0|simp only[Addr.add,Nat.zero_add] at hx284_0|skip)
                (first|simp only[add_plain] at hx284_1|simp only[add_at] at hx284_1|simp only[Addr.add,Nat.zero_add] at hx284_1|skip)
                (first|simp only[add_plain] at hx284_2|simp only[add_at] at hx284_2|simp only[Addr.add,Nat.zero_add] at hx284_2|skip)
                have HR284_0:=Aside0.mk hi284_0
                have HC284_0:=Aside0.mk hl284_0
                clear hi284_0 hl284_0
                replace p284:=eq_true p284
                replace q284:=eq_true q284
                have ea_:=Option.some.inj (hx262_0.symm.trans hx284_0)
                injection ea_ with ea_ en_ ec_
                subst ea_
                subst ec_
                clear en_
                try go_wp2
                (try simp only[← hl259001_1,← hl259001_2])
                go_roundg k2
                case measure=>have:=HK1.out;have:=HK2.out;omega
                case rel=>exact⟨(x6_2),(wrap64 (x19_1+1)),(x259001_2),(bR),H',⟨by have:=HK1.out;have:=HK2.out;omega⟩,⟨by(try simp only[hl259001_1]);(try simp only[hl259001_2]);(with_reducible repeat (first|apply Kd.R_alloc|apply Kd.R_drewN|apply Kd.R_drew));exact HO_6.out⟩,⟨by(try simp only[hl259001_1]);(try simp only[hl259001_2]);(with_reducible repeat (first|apply Kd.N_alloc|apply Kd.N_drewN|apply Kd.N_drew));exact HO_259001.out⟩,⟨by(try simp only[hl259001_1]);(try simp only[hl259001_2]);(with_reducible repeat (first|refine blk_drewN ?_ _|refine blk_drew ?_|refine blk_alloc ?_ _));exact BK247.out⟩,⟨by(try simp only[hl259001_1]);(try simp only[hl259001_2]);(with_reducible repeat (first|refine blk_drewN ?_ _|refine blk_drew ?_|refine blk_alloc ?_ _));exact BK248.out⟩,⟨by(try simp only[hl259001_1]);(try simp only[hl259001_2]);(with_reducible repeat (first|refine blk_drewN ?_ _|refine blk_drew ?_|refine blk_alloc ?_ _));exact BK258.out⟩,⟨bS3 GE247.out GE248.out GE258.out⟩⟩
             ·rw[if_neg c36] at H
              exact absurd H (by simp)
            ·rw[if_neg c35] at H
             have c35b0:decide (0 < (((rd_T116 x259001_2 x19_1).f0).length:Int))=false:=decide_eq_false c35
             have c35b1:decide (0 < ((rd_T116 x259001_2 x19_1).f0).length)=false:=decide_eq_false (by omega)
             clear c35
             by_cases c61:(((rd_T116 x259001_2 x19_1).f0).length:Int)=0
             ·rw[if_pos c61] at H
              have c61b0:((((rd_T116 x259001_2 x19_1).f0).length:Int) == 0)=true:=beq_iff_eq.mpr c61
              have c61b1:((((rd_T116 x259001_2 x19_1).f0).length:Int) != 0)=false:=bne_eq_false_iff_eq.mpr c61
              clear c61
              obtain⟨y287,hy287⟩ : ∃ y_:List (S116),y_=(x259001_2.set (x19_1:Int).toNat (⟨(rd_T116 x259001_2 x19_1).f0,0,(rd_T116 x259001_2 x19_1).f2⟩:S116)):=⟨_,rfl⟩
              replace H:(impl_NextRound.l0 k2 x6_2 (t251.length:Int) (wrap64 (x19_1+1)) t250 y287 t254)=some (r1,r2,r3,r4,r5):=by first|(rw[hy287];with_reducible exact H)|(have H2_:=(Option.bind_some _ _).symm.trans H;rw[hy287];with_reducible exact H2_)|(have H2_:=(Option.bind_some _ _).symm.trans H;with_reducible exact H2_)|with_reducible exact H|(rw[hy287];exact H)|exact H
              have Ny287:=Aside0.mk hy287
              clear hy287
              have H':=Aside0.mk H
              clear H
              try go_wp2
              (try (rw[drewN_self wr];generalize hq_:World.drewN wr _=wr;have n0_:=Aside0.mk (Kd.R_at hq_ HO_6.out);have n1_:=Aside0.mk (Kd.N_at hq_ HO_259001.out);have n2_:=Aside0.mk (blk_at hq_ BK247.out);have n3_:=Aside0.mk (blk_at hq_ BK248.out);have n4_:=Aside0.mk (blk_at hq_ BK258.out);have n5_:=Aside0.mk (below_at hq_ HB.out);clear hq_ HO_6 HO_259001 BK247 BK248 BK258 HB;have HO_6:=n0_;have HO_259001:=n1_;have BK247:=n2_;have BK248:=n3_;have BK258:=n4_;have HB:=n5_;clear n0_ n1_ n2_ n3_ n4_ n5_))
              have n0_:=Aside0.mk (Kd.R_drew HO_6.out)
              have n1_:=Aside0.mk (Kd.N_drew HO_259001.out)
              have n2_:=Aside0.mk (blk_drew BK247.out)
              have n3_:=Aside0.mk (blk_drew BK248.out)
              have n4_:=Aside0.mk (blk_drew BK258.out)
              have n5_:=Aside0.mk (below_drew1 HB.out)
              clear HO_6 HO_259001 BK247 BK248 BK258 HB
              have HO_6:=n0_
              have HO_259001:=n1_
              have BK247:=n2_
              have BK248:=n3_
              have BK258:=n4_
              have HB:=n5_
              clear n0_ n1_ n2_ n3_ n4_ n5_
              have p262:0≤(x19_1:Int):=of_decide_eq_true (bD)
              have q262:x19_1 < (x259001_2.length:Int):=of_decide_eq_true (bD)
              obtain⟨ad262,A262_0,c262_0,e262,hx262_0,hx262_1,hx262_2,hl262_0,hi262_0⟩:=at_T116 (Kd.N_reads' HO_259001.out).2.2 x19_1 p262 q262
              obtain rfl:(⟨go22,0,none⟩:Addr)=ad262:=(by injection e262)
              obtain⟨ce262,hce262,hMe262,hcc262⟩:=Kd.N_get HO_259001.out z116 x19_1 p262 (by first|exact q262|exact of_decide_eq_true (bD)|(have e_:=(Kd.N_reads' HO_259001.out).1;omega))
              obtain⟨ua262_0,uc262_0,rfl,ul262_0,ge262_0⟩:=k116_openF hMe262
              have hv262_0:=hcc262 0 _ rfl
              rw[Nat.add_zero] at hv262_0
              replace hv262_0:=Option.some.inj (hv262_0.symm.trans hx262_0)
              injection hv262_0 with hva_ hvn_ hvc_
              rw[hva_] at ge262_0
              rw[hvc_] at ul262_0
              have HL262_0:=Aside0.mk (show Kd.V (Kd.int .i64) 3 _ w.heap.size _ _ ((rd_T116 x259001_2 x19_1).f0) from Kd.V_mk ul262_0 ge262_0)
              clear hva_ hvn_ hvc_ ge262_0 ul262_0 hcc262 hce262
              (first|simp only[add_plain] at hx262_0|simp only[add_at] at hx262_0|simp only[Addr.add,Nat.zero_add] at hx262_0|skip)
              (first|simp only[add_plain] at hx262_1|simp only[add_at] at hx262_1|simp only[Addr.add,Nat.zero_add] at hx262_1|skip)
              (first|simp only[add_plain] at hx262_2|simp only[add_at] at hx262_2|simp only[Addr.add,Nat.zero_add] at hx262_2|skip)
              have HR262_0:=Aside0.mk hi262_0
              have HC262_0:=Aside0.mk hl262_0
              clear hi262_0 hl262_0
              replace p262:=eq_true p262
              replace q262:=eq_true q262
              refine start_ (n:=19) (S:=fun w'=>w'.cell? ⟨go22,(x19_1).toNat * 3,none⟩=some (.slice A262_0 ((rd_T116 x259001_2 x19_1).f0).length c262_0)∧w'.cell? ⟨go22,(x19_1).toNat * 3+1,none⟩=some (.int .i64 ((rd_T116 x259001_2 x19_1).f1))∧w'.cell? ⟨go22,(x19_1).toNat * 3+2,none⟩=some (.int .i64 ((rd_T116 x259001_2 x19_1).f2))) (ds:=[]) #[false,false,false,false,false,false,false,false,false,false,false,false,false,false,false,false,false,false,false] (by kernel_rfl) rfl rfl ⟨hx262_0,hx262_1,hx262_2⟩ (fun hHeld => ?_);refine with_tabW impl_NextRound.tab10 impl_NextRound.bits10 (fun HT_ HW_ => ?_)
              generalize wr.drew=w63 at HO_6 HO_259001 BK247 BK248 BK258 HB HL262_0 HR262_0 hx262_0 hx262_1 hx262_2 hHeld ⊢
              refine pure_ (i:=0) (N:=some 41) (v:=?_) (a':=?_) #[true,false,false,false,false,false,false,false,false,false,false,false,false,false,false,false,false,false,false] rfl rfl (any_of HT_.out (by kernel_rfl)) (fun _ _ _ h=>h) (Or.inl ⟨by rfl,?_⟩) ?_ ?_
              rotate_left
              ·intro w'
               go_simp
               with_reducible rfl
              rotate_left
              ·simp only[Act.put,List.setIfInBounds_toArray,List.set_cons_zero,List.set_cons_succ,i64_w,i32_w]
               rfl
              refine pure_ (i:=1) (N:=some 42) (v:=?_) (a':=?_) #[true,true,false,false,false,false,false,false,false,false,false,false,false,false,false,false,false,false,false] rfl rfl (any_of HT_.out (by kernel_rfl)) (fun _ _ _ h=>h) (Or.inl ⟨by rfl,?_⟩) ?_ ?_
              rotate_left
              ·intro w'
               go_simp
               with_reducible rfl
              rotate_left
              ·simp only[Act.put,List.setIfInBounds_toArray,List.set_cons_zero,List.set_cons_succ,i64_w,i32_w]
               rfl
              refine pure_ (i:=2) (N:=some 43) (v:=?_) (a':=?_) #[true,true,true,false,false,false,false,false,false,false,false,false,false,false,false,false,false,false,false] rfl rfl (any_of HT_.out (by kernel_rfl)) (fun _ _ _ h=>h) (Or.inl ⟨by rfl,?_⟩) ?_ ?_
              rotate_left
              ·intro w'
               go_simp
               with_reducible rfl
              rotate_left
              ·simp only[Act.put,List.setIfInBounds_toArray,List.set_cons_zero,List.set_cons_succ,i64_w,i32_w]
               rfl
              refine take_ (i:=3) (N:=some 44) (v:=?_) (a':=?_) #[true,true,true,true,false,false,false,false,false,false,false,false,false,false,false,false,false,false,false] rfl rfl (take_ofW HT_.out HW_.out (by kernel_rfl)) (fun _ _ _ h=>h) (Or.inl ⟨by rfl,?_⟩) hHeld ?_ ?_
              rotate_left
              ·rintro w' ⟨s0,s1,s2⟩
               go_simp
               with_reducible rfl
              rotate_left
              ·simp only[Act.put,List.setIfInBounds_toArray,List.set_cons_zero,List.set_cons_succ,i64_w,i32_w]
               rfl
              refine pure_ (i:=4) (N:=some 45) (v:=?_) (a':=?_) #[true,true,true,true,true,false,false,false,false,false,false,false,false,false,false,false,false,false,false] rfl rfl (any_of HT_.out (by kernel_rfl)) (fun _ _ _ h=>h) (Or.inl ⟨by rfl,?_⟩) ?_ ?_
              rotate_left
              ·intro w'
               go_simp
               with_reducible rfl
              rotate_left
              ·simp only[Act.put,List.setIfInBounds_toArray,List.set_cons_zero,List.set_cons_succ,i64_w,i32_w]
               rfl
              refine pure_ (i:=5) (N:=some 46) (v:=?_) (a':=?_) #[true,true,true,true,true,true,false,false,false,false,false,false,false,false,false,false,false,false,false] rfl rfl (any_of HT_.out (by kernel_rfl)) (fun _ _ _ h=>h) (Or.inl ⟨by rfl,?_⟩) ?_ ?_
              rotate_left
              ·intro w'
               go_simp
               with_reducible rfl
              rotate_left
              ·simp only[Act.put,List.setIfInBounds_toArray,List.set_cons_zero,List.set_cons_succ,i64_w,i32_w]
               rfl
              refine pure_ (i:=6) (N:=some 47) (v:=?_) (a':=?_) #[true,true,true,true,true,true,true,false,false,false,false,false,false,false,false,false,false,false,false] rfl rfl (any_of HT_.out (by kernel_rfl)) (fun _ _ _ h=>h) (Or.inl ⟨by rfl,?_⟩) ?_ ?_
              rotate_left
              ·intro w'
               go_simp
               with_reducible rfl
              rotate_left
              ·simp only[Act.put,List.setIfInBounds_toArray,List.set_cons_zero,List.set_cons_succ,i64_w,i32_w]
               rfl
              refine pure_ (i:=7) (N:=some 48) (v:=undef) (a':=?_) #[true,true,true,true,true,true,true,true,false,false,false,false,false,false,false,false,false,false,false] rfl rfl (any_of HT_.out (by kernel_rfl)) (fun _ _ _ h=>h) (Or.inr ⟨by rfl,rfl⟩) ?_ ?_
              rotate_left
              ·simp only[Act.put,List.setIfInBounds_toArray,List.set_cons_zero,List.set_cons_succ,i64_w,i32_w]
               rfl
              refine pure_ (i:=8) (N:=some 49) (v:=undef) (a':=?_) #[true,true,true,true,true,true,true,true,true,false,false,false,false,false,false,false,false,false,false] rfl rfl (any_of HT_.out (by kernel_rfl)) (fun _ _ _ h=>h) (Or.inr ⟨by rfl,rfl⟩) ?_ ?_
              rotate_left
              ·simp only[Act.put,List.setIfInBounds_toArray,List.set_cons_zero,List.set_cons_succ,i64_w,i32_w]
               rfl
              refine pure_ (i:=9) (N:=some 50) (v:=undef) (a':=?_) #[true,true,true,true,true,true,true,true,true,true,false,false,false,false,false,false,false,false,false] rfl rfl (any_of HT_.out (by kernel_rfl)) (fun _ _ _ h=>h) (Or.inr ⟨by rfl,rfl⟩) ?_ ?_
              rotate_left
              ·simp only[Act.put,List.setIfInBounds_toArray,List.set_cons_zero,List.set_cons_succ,i64_w,i32_w]
               rfl
              refine pure_ (i:=10) (N:=some 51) (v:=undef) (a':=?_) #[true,true,true,true,true,true,true,true,true,true,true,false,false,false,false,false,false,false,false] rfl rfl (any_of HT_.out (by kernel_rfl)) (fun _ _ _ h=>h) (Or.inr ⟨by rfl,rfl⟩) ?_ ?_
              rotate_left
              ·simp only[Act.put,List.setIfInBounds_toArray,List.set_cons_zero,List.set_cons_succ,i64_w,i32_w]
               rfl
              refine pure_ (i:=11) (N:=some 52) (v:=undef) (a':=?_) #[true,true,true,true,true,true,true,true,true,true,true,true,false,false,false,false,false,false,false] rfl rfl (any_of HT_.out (by kernel_rfl)) (fun _ _ _ h=>h) (Or.inr ⟨by rfl,rfl⟩) ?_ ?_
              rotate_left
              ·simp only[Act.put,List.setIfInBounds_toArray,List.set_cons_zero,List.set_cons_succ,i64_w,i32_w]
               rfl
              refine pure_ (i:=12) (N:=some 53) (v:=undef) (a':=?_) #[true,true,true,true,true,true,true,true,true,true,true,true,true,false,false,false,false,false,false] rfl rfl (any_of HT_.out (by kernel_rfl)) (fun _ _ _ h=>h) (Or.inr ⟨by rfl,rfl⟩) ?_ ?_
              rotate_left
              ·simp only[Act.put,List.setIfInBounds_toArray,List.set_cons_zero,List.set_cons_succ,i64_w,i32_w]
               rfl
              refine pure_ (i:=13) (N:=some 54) (v:=undef) (a':=?_) #[true,true,true,true,true,true,true,true,true,true,true,true,true,true,false,false,false,false,false] rfl rfl (any_of HT_.out (by kernel_rfl)) (fun _ _ _ h=>h) (Or.inr ⟨by rfl,rfl⟩) ?_ ?_
              rotate_left
              ·simp only[Act.put,List.setIfInBounds_toArray,List.set_cons_zero,List.set_cons_succ,i64_w,i32_w]
               rfl
              refine pure_ (i:=14) (N:=some 55) (v:=undef) (a':=?_) #[true,true,true,true,true,true,true,true,true,true,true,true,true,true,true,false,false,false,false] rfl rfl (any_of HT_.out (by kernel_rfl)) (fun _ _ _ h=>h) (Or.inr ⟨by rfl,rfl⟩) ?_ ?_
              rotate_left
              ·simp only[Act.put,List.setIfInBounds_toArray,List.set_cons_zero,List.set_cons_succ,i64_w,i32_w]
               rfl
              refine pure_ (i:=15) (N:=some 56) (v:=undef) (a':=?_) #[true,true,true,true,true,true,true,true,true,true,true,true,true,true,true,true,false,false,false] rfl rfl (any_of HT_.out (by kernel_rfl)) (fun _ _ _ h=>h) (Or.inr ⟨by rfl,rfl⟩) ?_ ?_
              rotate_left
              ·simp only[Act.put,List.setIfInBounds_toArray,List.set_cons_zero,List.set_cons_succ,i64_w,i32_w]
               rfl
              refine pure_ (i:=16) (N:=some 57) (v:=undef) (a':=?_) #[true,true,true,true,true,true,true,true,true,true,true,true,true,true,true,true,true,false,false] rfl rfl (any_of HT_.out (by kernel_rfl)) (fun _ _ _ h=>h) (Or.inr ⟨by rfl,rfl⟩) ?_ ?_
              rotate_left
              ·simp only[Act.put,List.setIfInBounds_toArray,List.set_cons_zero,List.set_cons_succ,i64_w,i32_w]
               rfl
              refine pure_ (i:=17) (N:=some 58) (v:=undef) (a':=?_) #[true,true,true,true,true,true,true,true,true,true,true,true,true,true,true,true,true,true,false] rfl rfl (any_of HT_.out (by kernel_rfl)) (fun _ _ _ h=>h) (Or.inr ⟨by rfl,rfl⟩) ?_ ?_
              rotate_left
              ·simp only[Act.put,List.setIfInBounds_toArray,List.set_cons_zero,List.set_cons_succ,i64_w,i32_w]
               rfl
              refine pure_ (i:=18) (N:=some 59) (v:=?_) (a':=?_) #[true,true,true,true,true,true,true,true,true,true,true,true,true,true,true,true,true,true,true] rfl rfl (any_of HT_.out (by kernel_rfl)) (fun _ _ _ h=>h) (Or.inl ⟨by rfl,?_⟩) ?_ ?_
              rotate_left
              ·intro w'
               go_simp
               with_reducible rfl
              rotate_left
              ·simp only[Act.put,List.setIfInBounds_toArray,List.set_cons_zero,List.set_cons_succ,i64_w,i32_w]
               rfl
              refine done_ (done_of HT_.out (by kernel_rfl)) ?_
              have p286:0≤(x19_1:Int):=of_decide_eq_true (bD)
              have q286:x19_1 < (x259001_2.length:Int):=of_decide_eq_true (bD)
              obtain⟨ad286,A286_0,c286_0,e286,hx286_0,hx286_1,hx286_2,hl286_0,hi286_0⟩:=at_T116 (Kd.N_reads' HO_259001.out).2.2 x19_1 p286 q286
              obtain rfl:(⟨go22,0,none⟩:Addr)=ad286:=(by injection e286)
              obtain⟨ce286,hce286,hMe286,hcc286⟩:=Kd.N_get HO_259001.out z116 x19_1 p286 (by first|exact q286|exact of_decide_eq_true (bD)|(have e_:=(Kd.N_reads' HO_259001.out).1;omega))
              obtain⟨ua286_0,uc286_0,rfl,ul286_0,ge286_0⟩:=k116_openF hMe286
              have hv286_0:=hcc286 0 _ rfl
              rw[Nat.add_zero] at hv286_0
              replace hv286_0:=Option.some.inj (hv286_0.symm.trans hx286_0)
              injection hv286_0 with hva_ hvn_ hvc_
              rw[hva_] at ge286_0
              rw[hvc_] at ul286_0
              have HL286_0:=Aside0.mk (show Kd.V (Kd.int .i64) 3 _ w.heap.size _ _ ((rd_T116 x259001_2 x19_1).f0) from Kd.V_mk ul286_0 ge286_0)
              clear hva_ hvn_ hvc_ ge286_0 ul286_0 hcc286 hce286
              (first|simp only[add_plain] at hx286_0|simp only[add_at] at hx286_0|simp only[Addr.add,Nat.zero_add] at hx286_0|skip)
              (first|simp only[add_plain] at hx286_1|simp only[add_at] at hx286_1|simp only[Addr.add,Nat.zero_add] at hx286_1|skip)
              (first|simp only[add_plain] at hx286_2|simp only[add_at] at hx286_2|simp only[Addr.add,Nat.zero_add] at hx286_2|skip)
              have HR286_0:=Aside0.mk hi286_0
              have HC286_0:=Aside0.mk hl286_0
              clear hi286_0 hl286_0
              replace p286:=eq_true p286
              replace q286:=eq_true q286
              have ea_:=Option.some.inj (hx262_0.symm.trans hx286_0)
              injection ea_ with ea_ en_ ec_
              subst ea_
              subst ec_
              clear en_
              have p62:0≤(x19_1:Int):=of_decide_eq_true (bD)
              have q62:(x19_1:Int) < ((x259001_2.length:Int):Int):=of_decide_eq_true (bD)
              obtain⟨ce62,hcl62,hM62,hcc62,hfr62⟩:=Kd.N_elem HO_259001.out z116 (x19_1:Int) p62 q62
              obtain⟨ua62_0,uc62_0,rfl,ul62_0,ge62_0⟩:=k116_openF hM62
              have hx62_0:w63.cell? ⟨go22,(x19_1:Int).toNat * 3,none⟩=some (.slice ua62_0 ((rd_T116 x259001_2 x19_1).f0).length uc62_0):=hcc62 0 _ rfl
              have hx62_1:w63.cell? ⟨go22,(x19_1:Int).toNat * 3+1,none⟩=some (.int .i64 ((rd_T116 x259001_2 x19_1).f1)):=hcc62 1 _ rfl
              have hx62_2:w63.cell? ⟨go22,(x19_1:Int).toNat * 3+2,none⟩=some (.int .i64 ((rd_T116 x259001_2 x19_1).f2)):=hcc62 2 _ rfl
              have hf62_0:w63.frozen? ⟨go22,(x19_1:Int).toNat * 3,none⟩=false:=hfr62 0
              have hf62_1:w63.frozen? ⟨go22,(x19_1:Int).toNat * 3+1,none⟩=false:=hfr62 1
              have hf62_2:w63.frozen? ⟨go22,(x19_1:Int).toNat * 3+2,none⟩=false:=hfr62 2
              clear hcl62 hcc62 hfr62 hM62
              replace p62:=eq_true p62
              replace q62:=eq_true q62
              have HX64:=Aside0.mk (show Kd.N k116 116 w63 w.heap.size (fun k_=>(w.heap.size≤k_)∧some k_≠(u6:Value).ownBlock∧k_≠gb247∧k_≠gb248∧k_≠gb258) (.slice (some ⟨go22,0,none⟩) x259001_2.length co18) x259001_2 from (by(with_reducible repeat (first|apply Kd.N_alloc|apply Kd.N_drewN|apply Kd.N_drew));exact HO_259001.out))
              obtain⟨ce64,hcl64,hM64,hcc64,hfr64⟩:=Kd.N_elem HX64.out z116 (x19_1:Int) (of_decide_eq_true (bD)) (by have h_:(x19_1:Int) < ((x259001_2.length:Int):Int):=of_decide_eq_true (bD);first|exact h_|(have e_:=(Kd.N_reads' HO_259001.out).1;omega)|simpa using h_)
              obtain⟨ua64_0,uc64_0,rfl,ul64_0,ge64_0⟩:=k116_openF hM64
              have HP64:=Kd.N_seg HX64.out (x19_1:Int) (of_decide_eq_true (bD)) (by have h_:(x19_1:Int) < ((x259001_2.length:Int):Int):=of_decide_eq_true (bD);first|exact h_|(have e_:=(Kd.N_reads' HO_259001.out).1;omega)|simpa using h_) (seg:=[.int .i64 0]) (j:=1) hcl64 hcc64 (show 2≤3 from by decide) (x':=(⟨(rd_T116 x259001_2 x19_1).f0,0,(rd_T116 x259001_2 x19_1).f2⟩:S116)) (k116_mkF _ _ (⟨(rd_T116 x259001_2 x19_1).f0,0,(rd_T116 x259001_2 x19_1).f2⟩:S116) ul64_0 ge64_0) (fun _ hk=>hk)
              have hx64_1:=hcc64 1 _ rfl
              (try simp only[show(k116).sz=3 from rfl,Nat.mul_one,Nat.add_zero] at hx64_1)
              have hf64_1:=hfr64 1
              (try simp only[show(k116).sz=3 from rfl,Nat.mul_one,Nat.add_zero] at hf64_1)
              clear hcl64 hcc64 hfr64 hM64
              try go_wp2_with (first|((with_reducible refine gate_store (t:=3) (p:=106) rfl ?_);refine store_event (t:=3) (p:=106) (v:=?vo_w65) (w1:=(w63.setCell ⟨go22,(x19_1:Int).toNat * 3+1,none⟩ (.int .i64 0))) ?hg ?ho ?hn ?hr ?_;(case ho=>rfl);(case hg=>rfl);(case hn=>rfl);(case hr=>first|(go_simp;done)|(go_simp;rfl));intro w65 hw;have hg:w63.grownBy w65 (some go22):=(by rw[hw];exact HP64.2);have hp_:Kd.N k116 116 w65 w.heap.size (fun k_=>(w.heap.size≤k_)∧some k_≠(u6:Value).ownBlock∧k_≠gb247∧k_≠gb248∧k_≠gb258) (.slice (some ⟨go22,0,none⟩) x259001_2.length co18) y287:=(by rw[hw,Ny287.out];exact HP64.1);clear HP64;have n0_:=Aside0.mk (Kd.R_over' (v:=(.slice (some ⟨go22,0,none⟩) x259001_2.length co18)) (bK HO_6.out) (Kd.N_typed HO_259001.out) (by decide) hg);have n1_:=Aside0.mk (hp_);have n2_:=Aside0.mk (blk_grown (g:=gb247) (o:=.cells #[.int .i64 a0_0,.slice A0_1 l0_1.length c0_1,.int .i64 a0_2] 28 (0,0)) (bL BK247.out) hg (Kd.N_ne HO_259001.out BK247.out (by decide)));have n3_:=Aside0.mk (blk_grown (g:=gb248) (o:=.cells #[.int .i64 0,.slice none 0 0,.int .i64 0] 28 (0,0)) (bL BK248.out) hg (Kd.N_ne HO_259001.out BK248.out (by decide)));have n4_:=Aside0.mk (blk_grown (g:=gb258) (o:=.cells #[.int .i64 t250,.slice (some ⟨go22,0,none⟩) x259001_2.length co18,.int .i64 t254] 28 (0,0)) (bL BK258.out) hg (Kd.N_ne HO_259001.out BK258.out (by decide)));have n5_:=Aside0.mk (Kd.V_afterv (v:=(.slice (some ⟨go22,0,none⟩) x259001_2.length co18)) (v1:=(.slice (some ⟨go22,0,none⟩) x259001_2.length co18)) (ok:=(fun k_=>(w.heap.size≤k_)∧some k_≠(u6:Value).ownBlock∧k_≠gb247∧k_≠gb248∧k_≠gb258)) (by(with_reducible repeat (first|apply Kd.V_alloc|apply Kd.V_drewN|apply Kd.V_drew));exact HL262_0.out) hg (.inl rfl));have n6_:=Aside0.mk (Kd.V_afterv (v:=(.slice (some ⟨go22,0,none⟩) x259001_2.length co18)) (v1:=(.slice (some ⟨go22,0,none⟩) x259001_2.length co18)) (ok:=(fun k_=>(w.heap.size≤k_)∧some k_≠(u6:Value).ownBlock∧k_≠gb247∧k_≠gb248∧k_≠gb258)) (by(with_reducible repeat (first|apply Kd.V_alloc|apply Kd.V_drewN|apply Kd.V_drew));exact HL286_0.out) hg (.inl rfl));have n7_:=Aside0.mk ((by rw[hw];exact below_set (HB.out) GB22.out:Below w.heap.size w w65));clear HO_6 HO_259001 BK247 BK248 BK258 HL262_0 HL286_0 HB;have HO_6:=n0_;have HO_259001:=n1_;have BK247:=n2_;have BK248:=n3_;have BK258:=n4_;have HL262_0:=n5_;have HL286_0:=n6_;have HB:=n7_;clear n0_ n1_ n2_ n3_ n4_ n5_ n6_ n7_;clear hg hw hp_))
              (try simp only[← hl259001_1,← hl259001_2])
              go_roundg k2
              case measure=>have:=HK1.out;have:=HK2.out;omega
              case rel=>exact⟨(x6_2),(wrap64 (x19_1+1)),(y287),(bR),H',⟨by have:=HK1.out;have:=HK2.out;omega⟩,⟨by(try simp only[hl259001_1]);(try simp only[hl259001_2]);(with_reducible repeat (first|apply Kd.R_alloc|apply Kd.R_drewN|apply Kd.R_drew));exact HO_6.out⟩,⟨by(try simp only[hl259001_1]);(try simp only[hl259001_2]);(with_reducible repeat (first|apply Kd.N_alloc|apply Kd.N_drewN|apply Kd.N_drew));exact HO_259001.out⟩,⟨by(try simp only[hl259001_1]);(try simp only[hl259001_2]);(with_reducible repeat (first|refine blk_drewN ?_ _|refine blk_drew ?_|refine blk_alloc ?_ _));exact BK247.out⟩,⟨by(try simp only[hl259001_1]);(try simp only[hl259001_2]);(with_reducible repeat (first|refine blk_drewN ?_ _|refine blk_drew ?_|refine blk_alloc ?_ _));exact BK248.out⟩,⟨by(try simp only[hl259001_1]);(try simp only[hl259001_2]);(with_reducible repeat (first|refine blk_drewN ?_ _|refine blk_drew ?_|refine blk_alloc ?_ _));exact BK258.out⟩,⟨bS3 GE247.out GE248.out GE258.out⟩⟩
             ·rw[if_neg c61] at H
              have c61b0:((((rd_T116 x259001_2 x19_1).f0).length:Int) == 0)=false:=beq_eq_false_iff_ne.mpr c61
              have c61b1:((((rd_T116 x259001_2 x19_1).f0).length:Int) != 0)=true:=bne_iff_ne.mpr c61
              have c61b2 : ¬ (((rd_T116 x259001_2 x19_1).f0)=[]):=fun h_=>c61 (by rw[h_];rfl)
              have H':=Aside0.mk H
              clear H
              try go_wp2
              (try (rw[drewN_self wr];generalize hq_:World.drewN wr _=wr;have n0_:=Aside0.mk (Kd.R_at hq_ HO_6.out);have n1_:=Aside0.mk (Kd.N_at hq_ HO_259001.out);have n2_:=Aside0.mk (blk_at hq_ BK247.out);have n3_:=Aside0.mk (blk_at hq_ BK248.out);have n4_:=Aside0.mk (blk_at hq_ BK258.out);have n5_:=Aside0.mk (below_at hq_ HB.out);clear hq_ HO_6 HO_259001 BK247 BK248 BK258 HB;have HO_6:=n0_;have HO_259001:=n1_;have BK247:=n2_;have BK248:=n3_;have BK258:=n4_;have HB:=n5_;clear n0_ n1_ n2_ n3_ n4_ n5_))
              have n0_:=Aside0.mk (Kd.R_drew HO_6.out)
              have n1_:=Aside0.mk (Kd.N_drew HO_259001.out)
              have n2_:=Aside0.mk (blk_drew BK247.out)
              have n3_:=Aside0.mk (blk_drew BK248.out)
              have n4_:=Aside0.mk (blk_drew BK258.out)
              have n5_:=Aside0.mk (below_drew1 HB.out)
              clear HO_6 HO_259001 BK247 BK248 BK258 HB
              have HO_6:=n0_
              have HO_259001:=n1_
              have BK247:=n2_
              have BK248:=n3_
              have BK258:=n4_
              have HB:=n5_
              clear n0_ n1_ n2_ n3_ n4_ n5_
              have p262:0≤(x19_1:Int):=of_decide_eq_true (bD)
              have q262:x19_1 < (x259001_2.length:Int):=of_decide_eq_true (bD)
              obtain⟨ad262,A262_0,c262_0,e262,hx262_0,hx262_1,hx262_2,hl262_0,hi262_0⟩:=at_T116 (Kd.N_reads' HO_259001.out).2.2 x19_1 p262 q262
              obtain rfl:(⟨go22,0,none⟩:Addr)=ad262:=(by injection e262)
              obtain⟨ce262,hce262,hMe262,hcc262⟩:=Kd.N_get HO_259001.out z116 x19_1 p262 (by first|exact q262|exact of_decide_eq_true (bD)|(have e_:=(Kd.N_reads' HO_259001.out).1;omega))
              obtain⟨ua262_0,uc262_0,rfl,ul262_0,ge262_0⟩:=k116_openF hMe262
              have hv262_0:=hcc262 0 _ rfl
              rw[Nat.add_zero] at hv262_0
              replace hv262_0:=Option.some.inj (hv262_0.symm.trans hx262_0)
              injection hv262_0 with hva_ hvn_ hvc_
              rw[hva_] at ge262_0
              rw[hvc_] at ul262_0
              have HL262_0:=Aside0.mk (show Kd.V (Kd.int .i64) 3 _ w.heap.size _ _ ((rd_T116 x259001_2 x19_1).f0) from Kd.V_mk ul262_0 ge262_0)
              clear hva_ hvn_ hvc_ ge262_0 ul262_0 hcc262 hce262
              (first|simp only[add_plain] at hx262_0|simp only[add_at] at hx262_0|simp only[Addr.add,Nat.zero_add] at hx262_0|skip)
              (first|simp only[add_plain] at hx262_1|simp only[add_at] at hx262_1|simp only[Addr.add,Nat.zero_add] at hx262_1|skip)
              (first|simp only[add_plain] at hx262_2|simp only[add_at] at hx262_2|simp only[Addr.add,Nat.zero_add] at hx262_2|skip)
              have HR262_0:=Aside0.mk hi262_0
              have HC262_0:=Aside0.mk hl262_0
              clear hi262_0 hl262_0
              replace p262:=eq_true p262
              replace q262:=eq_true q262
              refine start_ (n:=19) (S:=fun w'=>w'.cell? ⟨go22,(x19_1).toNat * 3,none⟩=some (.slice A262_0 ((rd_T116 x259001_2 x19_1).f0).length c262_0)∧w'.cell? ⟨go22,(x19_1).toNat * 3+1,none⟩=some (.int .i64 ((rd_T116 x259001_2 x19_1).f1))∧w'.cell? ⟨go22,(x19_1).toNat * 3+2,none⟩=some (.int .i64 ((rd_T116 x259001_2 x19_1).f2))) (ds:=[]) #[false,false,false,false,false,false,false,false,false,false,false,false,false,false,false,false,false,false,false] (by kernel_rfl) rfl rfl ⟨hx262_0,hx262_1,hx262_2⟩ (fun hHeld => ?_);refine with_tabW impl_NextRound.tab10 impl_NextRound.bits10 (fun HT_ HW_ => ?_)
              generalize wr.drew=w66 at HO_6 HO_259001 BK247 BK248 BK258 HB HL262_0 HR262_0 hx262_0 hx262_1 hx262_2 hHeld ⊢
              refine pure_ (i:=0) (N:=some 41) (v:=?_) (a':=?_) #[true,false,false,false,false,false,false,false,false,false,false,false,false,false,false,false,false,false,false] rfl rfl (any_of HT_.out (by kernel_rfl)) (fun _ _ _ h=>h) (Or.inl ⟨by rfl,?_⟩) ?_ ?_
              rotate_left
              ·intro w'
               go_simp
               with_reducible rfl
              rotate_left
              ·simp only[Act.put,List.setIfInBounds_toArray,List.set_cons_zero,List.set_cons_succ,i64_w,i32_w]
               rfl
              refine pure_ (i:=1) (N:=some 42) (v:=?_) (a':=?_) #[true,true,false,false,false,false,false,false,false,false,false,false,false,false,false,false,false,false,false] rfl rfl (any_of HT_.out (by kernel_rfl)) (fun _ _ _ h=>h) (Or.inl ⟨by rfl,?_⟩) ?_ ?_
              rotate_left
              ·intro w'
               go_simp
               with_reducible rfl
              rotate_left
              ·simp only[Act.put,List.setIfInBounds_toArray,List.set_cons_zero,List.set_cons_succ,i64_w,i32_w]
               rfl
              refine pure_ (i:=2) (N:=some 43) (v:=?_) (a':=?_) #[true,true,true,false,false,false,false,false,false,false,false,false,false,false,false,false,false,false,false] rfl rfl (any_of HT_.out (by kernel_rfl)) (fun _ _ _ h=>h) (Or.inl ⟨by rfl,?_⟩) ?_ ?_
              rotate_left
              ·intro w'
               go_simp
               with_reducible rfl
              rotate_left
              ·simp only[Act.put,List.setIfInBounds_toArray,List.set_cons_zero,List.set_cons_succ,i64_w,i32_w]
               rfl
              refine take_ (i:=3) (N:=some 44) (v:=?_) (a':=?_) #[true,true,true,true,false,false,false,false,false,false,false,false,false,false,false,false,false,false,false] rfl rfl (take_ofW HT_.out HW_.out (by kernel_rfl)) (fun _ _ _ h=>h) (Or.inl ⟨by rfl,?_⟩) hHeld ?_ ?_
              rotate_left
              ·rintro w' ⟨s0,s1,s2⟩
               go_simp
               with_reducible rfl
              rotate_left
              ·simp only[Act.put,List.setIfInBounds_toArray,List.set_cons_zero,List.set_cons_succ,i64_w,i32_w]
               rfl
              refine pure_ (i:=4) (N:=some 45) (v:=?_) (a':=?_) #[true,true,true,true,true,false,false,false,false,false,false,false,false,false,false,false,false,false,false] rfl rfl (any_of HT_.out (by kernel_rfl)) (fun _ _ _ h=>h) (Or.inl ⟨by rfl,?_⟩) ?_ ?_
              rotate_left
              ·intro w'
               go_simp
               with_reducible rfl
              rotate_left
              ·simp only[Act.put,List.setIfInBounds_toArray,List.set_cons_zero,List.set_cons_succ,i64_w,i32_w]
               rfl
              refine pure_ (i:=5) (N:=some 46) (v:=?_) (a':=?_) #[true,true,true,true,true,true,false,false,false,false,false,false,false,false,false,false,false,false,false] rfl rfl (any_of HT_.out (by kernel_rfl)) (fun _ _ _ h=>h) (Or.inl ⟨by rfl,?_⟩) ?_ ?_
              rotate_left
              ·intro w'
               go_simp
               with_reducible rfl
              rotate_left
              ·simp only[Act.put,List.setIfInBounds_toArray,List.set_cons_zero,List.set_cons_succ,i64_w,i32_w]
               rfl
              refine pure_ (i:=6) (N:=some 47) (v:=?_) (a':=?_) #[true,true,true,true,true,true,true,false,false,false,false,false,false,false,false,false,false,false,false] rfl rfl (any_of HT_.out (by kernel_rfl)) (fun _ _ _ h=>h) (Or.inl ⟨by rfl,?_⟩) ?_ ?_
              rotate_left
              ·intro w'
               go_simp
               with_reducible rfl
              rotate_left
              ·simp only[Act.put,List.setIfInBounds_toArray,List.set_cons_zero,List.set_cons_succ,i64_w,i32_w]
               rfl
              refine pure_ (i:=7) (N:=some 48) (v:=undef) (a':=?_) #[true,true,true,true,true,true,true,true,false,false,false,false,false,false,false,false,false,false,false] rfl rfl (any_of HT_.out (by kernel_rfl)) (fun _ _ _ h=>h) (Or.inr ⟨by rfl,rfl⟩) ?_ ?_
              rotate_left
              ·simp only[Act.put,List.setIfInBounds_toArray,List.set_cons_zero,List.set_cons_succ,i64_w,i32_w]
               rfl
              refine pure_ (i:=8) (N:=some 49) (v:=undef) (a':=?_) #[true,true,true,true,true,true,true,true,true,false,false,false,false,false,false,false,false,false,false] rfl rfl (any_of HT_.out (by kernel_rfl)) (fun _ _ _ h=>h) (Or.inr ⟨by rfl,rfl⟩) ?_ ?_
              rotate_left
              ·simp only[Act.put,List.setIfInBounds_toArray,List.set_cons_zero,List.set_cons_succ,i64_w,i32_w]
               rfl
              refine pure_ (i:=9) (N:=some 50) (v:=undef) (a':=?_) #[true,true,true,true,true,true,true,true,true,true,false,false,false,false,false,false,false,false,false] rfl rfl (any_of HT_.out (by kernel_rfl)) (fun _ _ _ h=>h) (Or.inr ⟨by rfl,rfl⟩) ?_ ?_
              rotate_left
              ·simp only[Act.put,List.setIfInBounds_toArray,List.set_cons_zero,List.set_cons_succ,i64_w,i32_w]
               rfl
              refine pure_ (i:=10) (N:=some 51) (v:=undef) (a':=?_) #[true,true,true,true,true,true,true,true,true,true,true,false,false,false,false,false,false,false,false] rfl rfl (any_of HT_.out (by kernel_rfl)) (fun _ _ _ h=>h) (Or.inr ⟨by rfl,rfl⟩) ?_ ?_
              rotate_left
              ·simp only[Act.put,List.setIfInBounds_toArray,List.set_cons_zero,List.set_cons_succ,i64_w,i32_w]
               rfl
              refine pure_ (i:=11) (N:=some 52) (v:=undef) (a':=?_) #[true,true,true,true,true,true,true,true,true,true,true,true,false,false,false,false,false,false,false] rfl rfl (any_of HT_.out (by kernel_rfl)) (fun _ _ _ h=>h) (Or.inr ⟨by rfl,rfl⟩) ?_ ?_
              rotate_left
              ·simp only[Act.put,List.setIfInBounds_toArray,List.set_cons_zero,List.set_cons_succ,i64_w,i32_w]
               rfl
              refine pure_ (i:=12) (N:=some 53) (v:=undef) (a':=?_) #[true,true,true,true,true,true,true,true,true,true,true,true,true,false,false,false,false,false,false] rfl rfl (any_of HT_.out (by kernel_rfl)) (fun _ _ _ h=>h) (Or.inr ⟨by rfl,rfl⟩) ?_ ?_
              rotate_left
              ·simp only[Act.put,List.setIfInBounds_toArray,List.set_cons_zero,List.set_cons_succ,i64_w,i32_w]
               rfl
              refine pure_ (i:=13) (N:=some 54) (v:=undef) (a':=?_) #[true,true,true,true,true,true,true,true,true,true,true,true,true,true,false,false,false,false,false] rfl rfl (any_of HT_.out (by kernel_rfl)) (fun _ _ _ h=>h) (Or.inr ⟨by rfl,rfl⟩) ?_ ?_
              rotate_left
              ·simp only[Act.put,List.setIfInBounds_toArray,List.set_cons_zero,List.set_cons_succ,i64_w,i32_w]
               rfl
              refine pure_ (i:=14) (N:=some 55) (v:=undef) (a':=?_) #[true,true,true,true,true,true,true,true,true,true,true,true,true,true,true,false,false,false,false] rfl rfl (any_of HT_.out (by kernel_rfl)) (fun _ _ _ h=>h) (Or.inr ⟨by rfl,rfl⟩) ?_ ?_
              rotate_left
              ·simp only[Act.put,List.setIfInBounds_toArray,List.set_cons_zero,List.set_cons_succ,i64_w,i32_w]
               rfl
              refine pure_ (i:=15) (N:=some 56) (v:=undef) (a':=?_) #[true,true,true,true,true,true,true,true,true,true,true,true,true,true,true,true,false,false,false] rfl rfl (any_of HT_.out (by kernel_rfl)) (fun _ _ _ h=>h) (Or.inr ⟨by rfl,rfl⟩) ?_ ?_
              rotate_left
              ·simp only[Act.put,List.setIfInBounds_toArray,List.set_cons_zero,List.set_cons_succ,i64_w,i32_w]
               rfl
              refine pure_ (i:=16) (N:=some 57) (v:=undef) (a':=?_) #[true,true,true,true,true,true,true,true,true,true,true,true,true,true,true,true,true,false,false] rfl rfl (any_of HT_.out (by kernel_rfl)) (fun _ _ _ h=>h) (Or.inr ⟨by rfl,rfl⟩) ?_ ?_
              rotate_left
              ·simp only[Act.put,List.setIfInBounds_toArray,List.set_cons_zero,List.set_cons_succ,i64_w,i32_w]
               rfl
              refine pure_ (i:=17) (N:=some 58) (v:=undef) (a':=?_) #[true,true,true,true,true,true,true,true,true,true,true,true,true,true,true,true,true,true,false] rfl rfl (any_of HT_.out (by kernel_rfl)) (fun _ _ _ h=>h) (Or.inr ⟨by rfl,rfl⟩) ?_ ?_
              rotate_left
              ·simp only[Act.put,List.setIfInBounds_toArray,List.set_cons_zero,List.set_cons_succ,i64_w,i32_w]
               rfl
              refine pure_ (i:=18) (N:=some 59) (v:=?_) (a':=?_) #[true,true,true,true,true,true,true,true,true,true,true,true,true,true,true,true,true,true,true] rfl rfl (any_of HT_.out (by kernel_rfl)) (fun _ _ _ h=>h) (Or.inl ⟨by rfl,?_⟩) ?_ ?_
              rotate_left
              ·intro w'
               go_simp
               with_reducible rfl
              rotate_left
              ·simp only[Act.put,List.setIfInBounds_toArray,List.set_cons_zero,List.set_cons_succ,i64_w,i32_w]
               rfl
              refine done_ (done_of HT_.out (by kernel_rfl)) ?_
              have p286:0≤(x19_1:Int):=of_decide_eq_true (bD)
              have q286:x19_1 < (x259001_2.length:Int):=of_decide_eq_true (bD)
              obtain⟨ad286,A286_0,c286_0,e286,hx286_0,hx286_1,hx286_2,hl286_0,hi286_0⟩:=at_T116 (Kd.N_reads' HO_259001.out).2.2 x19_1 p286 q286
              obtain rfl:(⟨go22,0,none⟩:Addr)=ad286:=(by injection e286)
              obtain⟨ce286,hce286,hMe286,hcc286⟩:=Kd.N_get HO_259001.out z116 x19_1 p286 (by first|exact q286|exact of_decide_eq_true (bD)|(have e_:=(Kd.N_reads' HO_259001.out).1;omega))
              obtain⟨ua286_0,uc286_0,rfl,ul286_0,ge286_0⟩:=k116_openF hMe286
              have hv286_0:=hcc286 0 _ rfl
              rw[Nat.add_zero] at hv286_0
              replace hv286_0:=Option.some.inj (hv286_0.symm.trans hx286_0)
              injection hv286_0 with hva_ hvn_ hvc_
              rw[hva_] at ge286_0
              rw[hvc_] at ul286_0
              have HL286_0:=Aside0.mk (show Kd.V (Kd.int .i64) 3 _ w.heap.size _ _ ((rd_T116 x259001_2 x19_1).f0) from Kd.V_mk ul286_0 ge286_0)
              clear hva_ hvn_ hvc_ ge286_0 ul286_0 hcc286 hce286
              (first|simp only[add_plain] at hx286_0|simp only[add_at] at hx286_0|simp only[Addr.add,Nat.zero_add] at hx286_0|skip)
              (first|simp only[add_plain] at hx286_1|simp only[add_at] at hx286_1|simp only[Addr.add,Nat.zero_add] at hx286_1|skip)
              (first|simp only[add_plain] at hx286_2|simp only[add_at] at hx286_2|simp only[Addr.add,Nat.zero_add] at hx286_2|skip)
              have HR286_0:=Aside0.mk hi286_0
              have HC286_0:=Aside0.mk hl286_0
              clear hi286_0 hl286_0
              replace p286:=eq_true p286
              replace q286:=eq_true q286
              have ea_:=Option.some.inj (hx262_0.symm.trans hx286_0)
              injection ea_ with ea_ en_ ec_
              subst ea_
              subst ec_
              clear en_
              try go_wp2
              (try simp only[← hl259001_1,← hl259001_2])
              go_roundg k2
              case measure=>have:=HK1.out;have:=HK2.out;omega
              case rel=>exact⟨(x6_2),(wrap64 (x19_1+1)),(x259001_2),(bR),H',⟨by have:=HK1.out;have:=HK2.out;omega⟩,⟨by(try simp only[hl259001_1]);(try simp only[hl259001_2]);(with_reducible repeat (first|apply Kd.R_alloc|apply Kd.R_drewN|apply Kd.R_drew));exact HO_6.out⟩,⟨by(try simp only[hl259001_1]);(try simp only[hl259001_2]);(with_reducible repeat (first|apply Kd.N_alloc|apply Kd.N_drewN|apply Kd.N_drew));exact HO_259001.out⟩,⟨by(try simp only[hl259001_1]);(try simp only[hl259001_2]);(with_reducible repeat (first|refine blk_drewN ?_ _|refine blk_drew ?_|refine blk_alloc ?_ _));exact BK247.out⟩,⟨by(try simp only[hl259001_1]);(try simp only[hl259001_2]);(with_reducible repeat (first|refine blk_drewN ?_ _|refine blk_drew ?_|refine blk_alloc ?_ _));exact BK248.out⟩,⟨by(try simp only[hl259001_1]);(try simp only[hl259001_2]);(with_reducible repeat (first|refine blk_drewN ?_ _|refine blk_drew ?_|refine blk_alloc ?_ _));exact BK258.out⟩,⟨bS3 GE247.out GE248.out GE258.out⟩⟩
           ·rw[if_neg c34] at H
            exact absurd H (by simp)
          ·rw[if_neg c33] at H
           exact absurd H (by simp)
      ·rw[if_neg c21] at H
       exact absurd H (by simp)
     ·rw[if_neg c20] at H
      exact absurd H (by simp)
    ·rw[if_neg c19] at H
     have c19b0:decide (x19_1 < (t251.length:Int))=false:=decide_eq_false c19
     have c19z_:=c19b0
     (try simp only[hl259001_1] at c19z_)
     clear c19
     replace H:=Option.bind_eq_some_iff.mp H
     obtain⟨t288,A670,H⟩:=H
     replace H:(if t288=true then ((impl_Turns_copied.f t250 x259001_1 (wrap64 (t254+1))).bind fun bt289=>(some (bt289.1,bt289.2.1,bt289.2.2,x6_1,true))) else (some (0,([]:List (S116)),0,([]:List Int),false)))=some (r1,r2,r3,r4,r5):=H
     have A67:=Aside0.mk A670
     clear A670
     by_cases c68:t288=true
     ·subst c68
      have H1:((impl_Turns_copied.f t250 x259001_1 (wrap64 (t254+1))).bind fun bt289=>(some (bt289.1,bt289.2.1,bt289.2.2,x6_1,true)))=some (r1,r2,r3,r4,r5):=by rw[if_pos rfl] at H;exact H
      clear H
      have H:=H1
      clear H1
      replace H:=Option.bind_eq_some_iff.mp H
      obtain⟨⟨t289,t290,t293⟩,A690,H⟩:=H
      replace H:(some (t289,t290,t293,x6_1,true))=some (r1,r2,r3,r4,r5):=H
      have A69:=Aside0.mk A690
      clear A690
      simp only[Option.some.injEq,Prod.mk.injEq] at H
      obtain⟨rfl,rfl,rfl,rfl,rfl⟩:=H
      have hnb70:=NB258_247.out
      have hnc70:=NB247_258.out
      have hnb71:=NB258_248.out
      have hnc71:=NB248_258.out
      obtain⟨hcz72_0,hcz72_1,hcz72_2⟩:=cC3 BK258.out
      obtain⟨hfz72_0,hfz72_1,hfz72_2⟩:=cF3 BK258.out
      go_wp2_with (first|((with_reducible refine gate_callee (f:=78) rfl ?_);refine goesA (some 113) rfl rfl Try.func78 #[.agg #[.int .i64 t250,.slice Ao18 x259001_1.length co18,.int .i64 (wrap64 (t254+1))]] rfl ?_;(with_reducible refine(impl_GoodTurns.calls k1 t250 _ _ x259001_1 (wrap64 (t254+1)) true _ ?side1 ?side2 A67.out).mono ?_);(case side1=>refine(Kd.N_reads' (e:=116) (base:=w.heap.size) (ok:=fun k_=>((w.heap.size≤k_)∧(some k_≠(u6:Value).ownBlock∧(k_≠gb247∧(k_≠gb248∧k_≠gb258))))) (n:=x259001_1.length) (c:=co18) ?_).2.2;exact(by(with_reducible repeat (first|apply Kd.N_alloc|apply Kd.N_drewN|apply Kd.N_drew));exact(Kd.N_mono (Kd.N_far (p:=⟨gb258,2,none⟩) (Kd.N_mono HO_259001.out (fun k_ hk=>(⟨hk,hk.2.2.2.2⟩:_∧k_≠gb258))) (fun _ hk=>hk.2) (.int .i64 (wrap64 (t254+1)))) (fun _ h_=>h_.1))));(case side2=>exact(Kd.N_reads' HO_259001.out).2.1);rintro e w73 ⟨rfl,hb⟩;refine⟨_,rfl,?_⟩;have n0_:=Aside0.mk (Kd.R_below (by(with_reducible repeat (first|apply Kd.R_alloc|apply Kd.R_drewN|apply Kd.R_drew));exact(Kd.R_mono (Kd.R_far (p:=⟨gb258,2,none⟩) (Kd.R_types HO_6.out BK258.out (by decide)) (fun _ hk=>hk.2) (.int .i64 (wrap64 (t254+1)))) (fun _ h_=>h_.1))) hb);have n1_:=Aside0.mk (Kd.N_below (by(with_reducible repeat (first|apply Kd.N_alloc|apply Kd.N_drewN|apply Kd.N_drew));exact(Kd.N_mono (Kd.N_far (p:=⟨gb258,2,none⟩) (Kd.N_mono HO_259001.out (fun k_ hk=>(⟨hk,hk.2.2.2.2⟩:_∧k_≠gb258))) (fun _ hk=>hk.2) (.int .i64 (wrap64 (t254+1)))) (fun _ h_=>h_.1))) hb);have n2_:=Aside0.mk (blk_below (g:=gb247) (o:=.cells #[.int .i64 a0_0,.slice A0_1 l0_1.length c0_1,.int .i64 a0_2] 28 (0,0)) (by(with_reducible repeat (first|refine blk_drewN ?_ _|refine blk_drew ?_|refine blk_alloc ?_ _));refine blk_far ?_ NB247_258.out _;(with_reducible repeat (first|refine blk_drewN ?_ _|refine blk_drew ?_|refine blk_alloc ?_ _));exact BK247.out) hb);have n3_:=Aside0.mk (blk_below (g:=gb248) (o:=.cells #[.int .i64 0,.slice none 0 0,.int .i64 0] 28 (0,0)) (by(with_reducible repeat (first|refine blk_drewN ?_ _|refine blk_drew ?_|refine blk_alloc ?_ _));refine blk_far ?_ NB248_258.out _;(with_reducible repeat (first|refine blk_drewN ?_ _|refine blk_drew ?_|refine blk_alloc ?_ _));exact BK248.out) hb);have n4_:=Aside0.mk (blk_below (g:=gb258) (o:=.cells #[.int .i64 t250,.slice Ao18 x259001_1.length co18,.int .i64 (wrap64 (t254+1))] 28 (0,0)) (by(with_reducible repeat (first|refine blk_drewN ?_ _|refine blk_drew ?_|refine blk_alloc ?_ _));refine blk_put (cs:=#[.int .i64 t250,.slice Ao18 x259001_1.length co18,.int .i64 t254]) ?_ 2 _ rfl;(with_reducible repeat (first|refine blk_drewN ?_ _|refine blk_drew ?_|refine blk_alloc ?_ _));exact BK258.out) hb);have n5_:=Aside0.mk (below_step (bS3 GE247.out GE248.out GE258.out) hb);clear HO_6 HO_259001 BK247 BK248 BK258 HB;have HO_6:=n0_;have HO_259001:=n1_;have BK247:=n2_;have BK248:=n3_;have BK258:=n4_;have HB:=n5_;clear n0_ n1_ n2_ n3_ n4_ n5_;(try clear hb);(try clear hb2);(try clear hk);(try clear hi);obtain⟨hcz74_0,hcz74_1,hcz74_2⟩:=cC3 BK258.out;obtain⟨hfz74_0,hfz74_1,hfz74_2⟩:=cF3 BK258.out)|((with_reducible refine gate_callee (f:=80) rfl ?_);refine goesA (some 117) rfl rfl Try.func80 #[.agg #[.int .i64 t250,.slice Ao18 x259001_1.length co18,.int .i64 (wrap64 (t254+1))]] rfl ?_;(with_reducible refine(impl_Turns_copied.calls t250 _ _ x259001_1 (wrap64 (t254+1)) t289 t290 t293 _ ?side1 ?side2 A69.out).mono ?_);(case side1=>repeat (first|exact(Kd.N_reads' HO_259001.out).2.2|(with_reducible refine Kd.C_alloc ?_ _)|(with_reducible refine Kd.C_drewN ?_ _)|(with_reducible refine Kd.C_drew ?_)));(case side2=>exact(Kd.N_reads' HO_259001.out).2.1);rintro e w75 ⟨v291,rfl,ho0,hb⟩;refine⟨_,rfl,?_⟩;have n0_:=Aside0.mk (Kd.R_below (bK HO_6.out) hb);have n1_:=Aside0.mk (Kd.N_elder' (by(with_reducible repeat (first|apply Kd.N_alloc|apply Kd.N_drewN|apply Kd.N_drew));exact HO_259001.out) (by first|exact Kd.N_base ho0|exact Kd.S_base ho0) hb);have n2_:=Aside0.mk (Kd.S_lower (Kd.S_mono (ok':=fun k_=>(w.heap.size≤k_)∧some k_≠(u6:Value).ownBlock∧some k_≠(.slice Ao18 x259001_1.length co18:Value).ownBlock∧k_≠gb247∧k_≠gb248∧k_≠gb258) (Kd.S_bound ho0) (fun k_ hk_=>⟨(Nat.le_trans (below_size (bS3 GE247.out GE248.out GE258.out)) hk_.2.1),(Kd.fresh' (Kd.R_lt (bK HO_6.out)) k_ hk_.2.1),(Kd.fresh' (Kd.N_lt (by(with_reducible repeat (first|apply Kd.N_alloc|apply Kd.N_drewN|apply Kd.N_drew));exact HO_259001.out)) k_ hk_.2.1),(Kd.freshB (g:=gb247) (o:=.cells #[.int .i64 a0_0,.slice A0_1 l0_1.length c0_1,.int .i64 a0_2] 28 (0,0)) (bL BK247.out) k_ hk_.2.1),(Kd.freshB (g:=gb248) (o:=.cells #[.int .i64 0,.slice none 0 0,.int .i64 0] 28 (0,0)) (bL BK248.out) k_ hk_.2.1),(Kd.freshB (g:=gb258) (o:=.cells #[.int .i64 t250,.slice Ao18 x259001_1.length co18,.int .i64 (wrap64 (t254+1))] 28 (0,0)) (bL BK258.out) k_ hk_.2.1)⟩)) (below_size (bS3 GE247.out GE248.out GE258.out)));have n3_:=Aside0.mk (bM BK247.out hb);have n4_:=Aside0.mk (bM BK248.out hb);have n5_:=Aside0.mk (bM BK258.out hb);have n6_:=Aside0.mk (below_step (bS3 GE247.out GE248.out GE258.out) hb);clear HO_6 HO_259001 BK247 BK248 BK258 HB;have HO_6:=n0_;have HO_259001:=n1_;have HO292:=n2_;have BK247:=n3_;have BK248:=n4_;have BK258:=n5_;have HB:=n6_;clear n0_ n1_ n2_ n3_ n4_ n5_ n6_;(try clear hb);(try clear hb2);(try clear hk);(try clear hi);(try clear ho0);have hnb76:=NB248_247.out;have hnc76:=NB247_248.out;obtain⟨hcz77_0,hcz77_1,hcz77_2⟩:=cC3 BK248.out;obtain⟨hfz77_0,hfz77_1,hfz77_2⟩:=cF3 BK248.out;obtain⟨Ao78,co78,eo78⟩:=Kd.S_slice HO292.out;subst eo78))
      refine bodyPost_ret (results_ctt rfl _ _ gb248 28 #[.int .i64 t289,.slice Ao78 t290.length co78,.int .i64 t293] (0,0) _ rfl (by(with_reducible repeat (first|refine blk_drewN ?_ _|refine blk_drew ?_|refine blk_alloc ?_ _));refine blk_put (cs:=#[.int .i64 t289,.slice Ao78 t290.length co78,.int .i64 0]) ?_ 2 _ rfl;(with_reducible repeat (first|refine blk_drewN ?_ _|refine blk_drew ?_|refine blk_alloc ?_ _));refine blk_put (cs:=#[.int .i64 t289,.slice none 0 0,.int .i64 0]) ?_ 1 _ rfl;(with_reducible repeat (first|refine blk_drewN ?_ _|refine blk_drew ?_|refine blk_alloc ?_ _));refine blk_put (cs:=#[.int .i64 0,.slice none 0 0,.int .i64 0]) ?_ 0 _ rfl;(with_reducible repeat (first|refine blk_drewN ?_ _|refine blk_drew ?_|refine blk_alloc ?_ _));exact BK248.out) Try.underlying28 rfl (by kernel_rfl)) rfl ?_
      exact⟨_,_,by first|rfl|(simp[errW_none,errW_some]<;>rfl)|(simp[*,errW_none,errW_some]<;>rfl),by(with_reducible repeat (first|apply Kd.S_alloc|apply Kd.S_drewN|apply Kd.S_drew));exact Kd.S_mono (Kd.S_far (p:=⟨gb248,2,none⟩) (Kd.S_far (p:=⟨gb248,1,none⟩) (Kd.S_far (p:=⟨gb248,0,none⟩) (Kd.S_mono HO292.out (fun k_ hk=>(⟨hk,hk.2.2.2.2.1⟩:_∧k_≠gb248))) (fun _ hk=>hk.2) (.int .i64 t289)) (fun _ hk=>hk.2) (.slice Ao78 t290.length co78)) (fun _ hk=>hk.2) (.int .i64 t293)) (fun _ hk=>hk.1.2.1),by(with_reducible repeat (first|apply Kd.R_alloc|apply Kd.R_drewN|apply Kd.R_drew));exact Kd.R_mono (Kd.R_far (p:=⟨gb248,2,none⟩) (Kd.R_far (p:=⟨gb248,1,none⟩) (Kd.R_far (p:=⟨gb248,0,none⟩) (Kd.R_types HO_6.out BK248.out (by decide)) (fun _ hk=>hk.2) (.int .i64 t289)) (fun _ hk=>hk.2) (.slice Ao78 t290.length co78)) (fun _ hk=>hk.2) (.int .i64 t293)) (fun _ _=>trivial),bS3 GE247.out GE248.out GE258.out⟩
     ·replace c68:=Bool.eq_false_iff.mpr c68
      subst c68
      have H1:(some (0,([]:List (S116)),0,([]:List Int),false))=some (r1,r2,r3,r4,r5):=by rw[if_neg (show ¬ (false=true) by decide)] at H;exact H
      clear H
      have H:=H1
      clear H1
      simp only[Option.some.injEq,Prod.mk.injEq] at H
      obtain⟨rfl,rfl,rfl,rfl,rfl⟩:=H
      have hnb79:=NB258_247.out
      have hnc79:=NB247_258.out
      have hnb80:=NB258_248.out
      have hnc80:=NB248_258.out
      obtain⟨hcz81_0,hcz81_1,hcz81_2⟩:=cC3 BK258.out
      obtain⟨hfz81_0,hfz81_1,hfz81_2⟩:=cF3 BK258.out
      go_wp2_with (first|((with_reducible refine gate_callee (f:=78) rfl ?_);refine goesA (some 113) rfl rfl Try.func78 #[.agg #[.int .i64 t250,.slice Ao18 x259001_1.length co18,.int .i64 (wrap64 (t254+1))]] rfl ?_;(with_reducible refine(impl_GoodTurns.calls k1 t250 _ _ x259001_1 (wrap64 (t254+1)) false _ ?side1 ?side2 A67.out).mono ?_);(case side1=>refine(Kd.N_reads' (e:=116) (base:=w.heap.size) (ok:=fun k_=>((w.heap.size≤k_)∧(some k_≠(u6:Value).ownBlock∧(k_≠gb247∧(k_≠gb248∧k_≠gb258))))) (n:=x259001_1.length) (c:=co18) ?_).2.2;exact(by(with_reducible repeat (first|apply Kd.N_alloc|apply Kd.N_drewN|apply Kd.N_drew));exact(Kd.N_mono (Kd.N_far (p:=⟨gb258,2,none⟩) (Kd.N_mono HO_259001.out (fun k_ hk=>(⟨hk,hk.2.2.2.2⟩:_∧k_≠gb258))) (fun _ hk=>hk.2) (.int .i64 (wrap64 (t254+1)))) (fun _ h_=>h_.1))));(case side2=>exact(Kd.N_reads' HO_259001.out).2.1);rintro e w82 ⟨rfl,hb⟩;refine⟨_,rfl,?_⟩;have n0_:=Aside0.mk (Kd.R_below (by(with_reducible repeat (first|apply Kd.R_alloc|apply Kd.R_drewN|apply Kd.R_drew));exact(Kd.R_mono (Kd.R_far (p:=⟨gb258,2,none⟩) (Kd.R_types HO_6.out BK258.out (by decide)) (fun _ hk=>hk.2) (.int .i64 (wrap64 (t254+1)))) (fun _ h_=>h_.1))) hb);have n1_:=Aside0.mk (Kd.N_below (by(with_reducible repeat (first|apply Kd.N_alloc|apply Kd.N_drewN|apply Kd.N_drew));exact(Kd.N_mono (Kd.N_far (p:=⟨gb258,2,none⟩) (Kd.N_mono HO_259001.out (fun k_ hk=>(⟨hk,hk.2.2.2.2⟩:_∧k_≠gb258))) (fun _ hk=>hk.2) (.int .i64 (wrap64 (t254+1)))) (fun _ h_=>h_.1))) hb);have n2_:=Aside0.mk (blk_below (g:=gb247) (o:=.cells #[.int .i64 a0_0,.slice A0_1 l0_1.length c0_1,.int .i64 a0_2] 28 (0,0)) (by(with_reducible repeat (first|refine blk_drewN ?_ _|refine blk_drew ?_|refine blk_alloc ?_ _));refine blk_far ?_ NB247_258.out _;(with_reducible repeat (first|refine blk_drewN ?_ _|refine blk_drew ?_|refine blk_alloc ?_ _));exact BK247.out) hb);have n3_:=Aside0.mk (blk_below (g:=gb248) (o:=.cells #[.int .i64 0,.slice none 0 0,.int .i64 0] 28 (0,0)) (by(with_reducible repeat (first|refine blk_drewN ?_ _|refine blk_drew ?_|refine blk_alloc ?_ _));refine blk_far ?_ NB248_258.out _;(with_reducible repeat (first|refine blk_drewN ?_ _|refine blk_drew ?_|refine blk_alloc ?_ _));exact BK248.out) hb);have n4_:=Aside0.mk (blk_below (g:=gb258) (o:=.cells #[.int .i64 t250,.slice Ao18 x259001_1.length co18,.int .i64 (wrap64 (t254+1))] 28 (0,0)) (by(with_reducible repeat (first|refine blk_drewN ?_ _|refine blk_drew ?_|refine blk_alloc ?_ _));refine blk_put (cs:=#[.int .i64 t250,.slice Ao18 x259001_1.length co18,.int .i64 t254]) ?_ 2 _ rfl;(with_reducible repeat (first|refine blk_drewN ?_ _|refine blk_drew ?_|refine blk_alloc ?_ _));exact BK258.out) hb);have n5_:=Aside0.mk (below_step (bS3 GE247.out GE248.out GE258.out) hb);clear HO_6 HO_259001 BK247 BK248 BK258 HB;have HO_6:=n0_;have HO_259001:=n1_;have BK247:=n2_;have BK248:=n3_;have BK258:=n4_;have HB:=n5_;clear n0_ n1_ n2_ n3_ n4_ n5_;(try clear hb);(try clear hb2);(try clear hk);(try clear hi);have hnb83:=NB248_247.out;have hnc83:=NB247_248.out;obtain⟨hcz84_0,hcz84_1,hcz84_2⟩:=cC3 BK248.out;obtain⟨hfz84_0,hfz84_1,hfz84_2⟩:=cF3 BK248.out))
      refine bodyPost_ret (results_ctt rfl _ _ gb248 28 #[.int .i64 0,.slice none 0 0,.int .i64 0] (0,0) _ rfl (by(with_reducible repeat (first|refine blk_drewN ?_ _|refine blk_drew ?_|refine blk_alloc ?_ _));refine blk_put (cs:=#[.int .i64 0,.slice none 0 0,.int .i64 0]) ?_ 2 _ rfl;(with_reducible repeat (first|refine blk_drewN ?_ _|refine blk_drew ?_|refine blk_alloc ?_ _));refine blk_put (cs:=#[.int .i64 0,.slice none 0 0,.int .i64 0]) ?_ 1 _ rfl;(with_reducible repeat (first|refine blk_drewN ?_ _|refine blk_drew ?_|refine blk_alloc ?_ _));refine blk_put (cs:=#[.int .i64 0,.slice none 0 0,.int .i64 0]) ?_ 0 _ rfl;(with_reducible repeat (first|refine blk_drewN ?_ _|refine blk_drew ?_|refine blk_alloc ?_ _));exact BK248.out) Try.underlying28 rfl (by kernel_rfl)) rfl ?_
      exact⟨_,_,by first|rfl|(simp[errW_none,errW_some]<;>rfl)|(simp[*,errW_none,errW_some]<;>rfl),by first|exact Kd.S_nil _ _ _ _ _|exact Kd.N_nil _ _ _ _ _|exact Kd.V_nil _ _ _ _ _|exact Kd.Q_nil _ _ _ _ _|exact Kd.R_nil _ _ _ _ _,by first|exact Kd.R_nil _ _ _ _ _|exact Kd.N_nil _ _ _ _ _|exact Kd.V_nil _ _ _ _ _|exact Kd.Q_nil _ _ _ _ _|exact Kd.S_nil _ _ _ _ _,bS3 GE247.out GE248.out GE258.out⟩
 ·replace c3:=Bool.eq_false_iff.mpr c3
  subst c3
  have H1:(some (0,([]:List (S116)),0,([]:List Int),false))=some (r1,r2,r3,r4,r5):=by rw[if_neg (show ¬ (false=true) by decide)] at H;exact H
  clear H
  have H:=H1
  clear H1
  simp only[Option.some.injEq,Prod.mk.injEq] at H
  obtain⟨rfl,rfl,rfl,rfl,rfl⟩:=H
  go_enter Try.func50,Try.ntmps50
  go_wp2_with (first|((with_reducible refine gate_dst (N:=1) rfl ?_);refine box_event ?hg (N:=1) ?hd (cs:=#[.int .i64 a0_0,.slice A0_1 l0_1.length c0_1,.int .i64 a0_2]) (t:=28) ?hr ?_;(case hd=>rfl);(case hg=>rfl);(case hr=>first|(go_simp;done)|(go_simp;rfl));intro gb247 hg w85 hbox hb;have n0_:=Aside0.mk (below_step (bB) hb);have n1_:=Aside0.mk (hbox);have n2_:=Aside0.mk ((bG:w.heap.size≤gb247));have n3_:=Aside0.mk ((bG:w.heap.size≤gb247));clear HB;have HB:=n0_;have BK247:=n1_;have GW247:=n2_;have GE247:=n3_;clear n0_ n1_ n2_ n3_;clear hb hbox hg)|((with_reducible refine gate_dst (N:=2) rfl ?_);refine box_event ?hg (N:=2) ?hd (cs:=#[.int .i64 0,.slice none 0 0,.int .i64 0]) (t:=28) ?hr ?_;(case hd=>rfl);(case hg=>rfl);(case hr=>first|(go_simp;done)|(go_simp;rfl));intro gb248 hg w86 hbox hb;have n0_:=Aside0.mk (bM BK247.out hb);have n1_:=Aside0.mk (below_step (bS GE247.out) hb);have n2_:=Aside0.mk (hbox);have n3_:=Aside0.mk ((by rw[hg];exact(below_size (bS GE247.out)):w.heap.size≤gb248));have n4_:=Aside0.mk ((by rw[hg];exact(below_size (bS GE247.out)):w.heap.size≤gb248));have n5_:=Aside0.mk ((bN BK247.out hg:gb247≠gb248));have n6_:=Aside0.mk ((bO BK247.out hg:gb248≠gb247));clear BK247 HB;have BK247:=n0_;have HB:=n1_;have BK248:=n2_;have GW248:=n3_;have GE248:=n4_;have NB247_248:=n5_;have NB248_247:=n6_;clear n0_ n1_ n2_ n3_ n4_ n5_ n6_;clear hb hbox hg;have hnb87:=NB247_248.out;have hnc87:=NB248_247.out;obtain⟨hcz88_0,hcz88_1,hcz88_2⟩:=cC3 BK247.out;obtain⟨hfz88_0,hfz88_1,hfz88_2⟩:=cF3 BK247.out)|((with_reducible refine gate_callee (f:=78) rfl ?_);refine goesA (some 10) rfl rfl Try.func78 #[.agg #[.int .i64 a0_0,.slice A0_1 l0_1.length c0_1,.int .i64 a0_2]] rfl ?_;(with_reducible refine(impl_GoodTurns.calls k a0_0 _ _ l0_1 a0_2 false _ ?side1 ?side2 A2.out).mono ?_);(case side1=>exact bC HR0_1.out);(case side2=>exact HC0_1.out);rintro e w89 ⟨rfl,hb⟩;refine⟨_,rfl,?_⟩;have n0_:=Aside0.mk (bM BK247.out hb);have n1_:=Aside0.mk (bM BK248.out hb);have n2_:=Aside0.mk (below_step (bS2 GE247.out GE248.out) hb);clear BK247 BK248 HB;have BK247:=n0_;have BK248:=n1_;have HB:=n2_;clear n0_ n1_ n2_;(try clear hb);(try clear hb2);(try clear hk);(try clear hi);obtain⟨hcz90_0,hcz90_1,hcz90_2⟩:=cC3 BK248.out;obtain⟨hfz90_0,hfz90_1,hfz90_2⟩:=cF3 BK248.out))
  refine bodyPost_ret (results_ctt rfl _ _ gb248 28 #[.int .i64 0,.slice none 0 0,.int .i64 0] (0,0) _ rfl (by(with_reducible repeat (first|refine blk_drewN ?_ _|refine blk_drew ?_|refine blk_alloc ?_ _));refine blk_put (cs:=#[.int .i64 0,.slice none 0 0,.int .i64 0]) ?_ 2 _ rfl;(with_reducible repeat (first|refine blk_drewN ?_ _|refine blk_drew ?_|refine blk_alloc ?_ _));refine blk_put (cs:=#[.int .i64 0,.slice none 0 0,.int .i64 0]) ?_ 1 _ rfl;(with_reducible repeat (first|refine blk_drewN ?_ _|refine blk_drew ?_|refine blk_alloc ?_ _));refine blk_put (cs:=#[.int .i64 0,.slice none 0 0,.int .i64 0]) ?_ 0 _ rfl;(with_reducible repeat (first|refine blk_drewN ?_ _|refine blk_drew ?_|refine blk_alloc ?_ _));exact BK248.out) Try.underlying28 rfl (by kernel_rfl)) rfl ?_
  exact⟨_,_,by first|rfl|(simp[errW_none,errW_some]<;>rfl)|(simp[*,errW_none,errW_some]<;>rfl),by first|exact Kd.S_nil _ _ _ _ _|exact Kd.N_nil _ _ _ _ _|exact Kd.V_nil _ _ _ _ _|exact Kd.Q_nil _ _ _ _ _|exact Kd.R_nil _ _ _ _ _,by first|exact Kd.R_nil _ _ _ _ _|exact Kd.N_nil _ _ _ _ _|exact Kd.V_nil _ _ _ _ _|exact Kd.Q_nil _ _ _ _ _|exact Kd.S_nil _ _ _ _ _,bS2 GE247.out GE248.out⟩

end Go.Proofs.Yteneeohaoplpbaa.XFnExactNextRound
