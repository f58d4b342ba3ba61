-- Written by this session's own program (wip/xprint.py) out of the translation; Lean checks it.
import Derived.Test.YteneeohaoplpbaaXFnExactRunRoundsx0
import Derived.Test.YteneeohaoplpbaaXFnExactRunRoundsx3
namespace Go.Proofs.Yteneeohaoplpbaa.XFnExactRunRounds
open Go.RowKit Go.Proofs.YteneeohaoplpbaaW.PrintWords Go.Proofs.YteneeohaoplpbaaW.PrintLast Go.Proofs.YteneeohaoplpbaaW.PrintMore
attribute [local go_sem] max2_int min2_int max_two min_two max_three min_three max_four min_four   -- for this text's walks alone
set_option linter.unusedVariables false
set_option linter.unusedSimpArgs false

/-! ### spec_l14Round: function 117 -/
mutual
def spec_l14Round.l0:Nat→List Int→Int→Int→Int→List (S116)→Int→Option (Int × (List (S116)) × Int × List Int)
 | 0,_,_,_,_,_,_=>none
 | k+1,x4,x11,x12,x179000,x179001,x179002=>if x12 < x11 then (if 0≤x12 then (if x12 < (x179001.length:Int) then (if (((rd_T116 x179001 x12).f0).length:Int)=0 then (spec_l14Round.l0 k x4 x11 (wrap64 (x12+1)) x179000 x179001 x179002) else (spec_l14Round.l1 k x4 x12 x11 x12 x179000 x179001 x179002 ((rd_T116 x179001 x12).f0) (wrap64 (((rd_T116 x179001 x12).f1)+x179000)) ((rd_T116 x179001 x12).f2))) else (none)) else (none)) else ((spec_l14Own.f k x179000 x179001 (wrap64 (x179002+1))).bind fun bt185=>(some (bt185.1,bt185.2.1,bt185.2.2,x4)))
def spec_l14Round.l1:Nat→List Int→Int→Int→Int→Int→List (S116)→Int→List Int→Int→Int→Option (Int × (List (S116)) × Int × List Int)
 | 0,_,_,_,_,_,_,_,_,_,_=>none
 | k+1,x4,x5,x11,x12,x179000,x179001,x179002,x192000,x192001,x192002=>if (x192000.length:Int) > 0 then (if 0 < (x192000.length:Int) then (if (rd x192000 0)≤x192001 then (if 1≤(x192000.length:Int) then (if x4.length < 17592186044416 then (spec_l14Round.l1 k (x4++[x5]) x5 x11 x12 x179000 x179001 x179002 (x192000.drop 1) (wrap64 (x192001 - (rd x192000 0))) (wrap64 (x192002+(rd x192000 0)))) else (none)) else (none)) else (if (x192000.length:Int)=0 then (if 0≤x5 then (if x5 < (x179001.length:Int) then (spec_l14Round.l0 k x4 x11 (wrap64 (x12+1)) x179000 (x179001.set (x5:Int).toNat (⟨x192000,0,x192002⟩:S116)) x179002) else (none)) else (none)) else (if 0≤x5 then (if x5 < (x179001.length:Int) then (spec_l14Round.l0 k x4 x11 (wrap64 (x12+1)) x179000 (x179001.set (x5:Int).toNat (⟨x192000,x192001,x192002⟩:S116)) x179002) else (none)) else (none)))) else (none)) else (if (x192000.length:Int)=0 then (if 0≤x5 then (if x5 < (x179001.length:Int) then (spec_l14Round.l0 k x4 x11 (wrap64 (x12+1)) x179000 (x179001.set (x5:Int).toNat (⟨x192000,0,x192002⟩:S116)) x179002) else (none)) else (none)) else (if 0≤x5 then (if x5 < (x179001.length:Int) then (spec_l14Round.l0 k x4 x11 (wrap64 (x12+1)) x179000 (x179001.set (x5:Int).toNat (⟨x192000,x192001,x192002⟩:S116)) x179002) else (none)) else (none)))
end
def spec_l14Round.f (k:Nat) (a0_0:Int) (l0_1:List (S116)) (a0_2:Int):Option (Int × (List (S116)) × Int × List Int):=(spec_l14Own.f k a0_0 l0_1 a0_2).bind fun bt180=>(spec_l14Round.l0 k ([]:List Int) (bt180.2.1.length:Int) 0 bt180.1 bt180.2.1 bt180.2.2)
theorem spec_l14Round.mono_l : ∀ k,(∀ y0 y1 y2 y3 y4 y5,LeO (spec_l14Round.l0 k y0 y1 y2 y3 y4 y5) (spec_l14Round.l0 (k+1) y0 y1 y2 y3 y4 y5))∧(∀ y0 y1 y2 y3 y4 y5 y6 y7 y8 y9,LeO (spec_l14Round.l1 k y0 y1 y2 y3 y4 y5 y6 y7 y8 y9) (spec_l14Round.l1 (k+1) y0 y1 y2 y3 y4 y5 y6 y7 y8 y9))
 | 0=>⟨fun _ _ _ _ _ _ r h=>by simp[spec_l14Round.l0] at h,fun _ _ _ _ _ _ _ _ _ _ r h=>by simp[spec_l14Round.l1] at h⟩
 | k+1=>by
  obtain⟨ih0,ih1⟩:=spec_l14Round.mono_l k
  refine⟨?_,?_⟩
  ·intro y0 y1 y2 y3 y4 y5
   unfold spec_l14Round.l0
   repeat' first
   | (with_reducible exact ih0 _ _ _ _ _ _)
   | (with_reducible exact ih1 _ _ _ _ _ _ _ _ _ _)
   | (with_reducible exact spec_l14Own.mono _ _ _ _)
   | (with_reducible exact LeO.refl _)
   | (with_reducible exact LeO.none _)
   | (with_reducible refine LeO.ite ?_ ?_)
   | (with_reducible refine LeO.bind ?_ (fun _ => ?_))
   | exact ih0 _ _ _ _ _ _
   | exact ih1 _ _ _ _ _ _ _ _ _ _
   | exact spec_l14Own.mono _ _ _ _
   | exact LeO.none _
   | refine LeO.ite ?_ ?_
   | refine LeO.bind ?_ (fun _ => ?_)
  ·intro y0 y1 y2 y3 y4 y5 y6 y7 y8 y9
   unfold spec_l14Round.l1
   repeat' first
   | (with_reducible exact ih0 _ _ _ _ _ _)
   | (with_reducible exact ih1 _ _ _ _ _ _ _ _ _ _)
   | (with_reducible exact spec_l14Own.mono _ _ _ _)
   | (with_reducible exact LeO.refl _)
   | (with_reducible exact LeO.none _)
   | (with_reducible refine LeO.ite ?_ ?_)
   | (with_reducible refine LeO.bind ?_ (fun _ => ?_))
   | exact ih0 _ _ _ _ _ _
   | exact ih1 _ _ _ _ _ _ _ _ _ _
   | exact spec_l14Own.mono _ _ _ _
   | exact LeO.none _
   | refine LeO.ite ?_ ?_
   | refine LeO.bind ?_ (fun _ => ?_)
theorem spec_l14Round.mono : ∀ a0 a1 a2 k,LeO (spec_l14Round.f k a0 a1 a2) (spec_l14Round.f (k+1) a0 a1 a2):=by
 intro a0 a1 a2 k
 obtain⟨ih0,ih1⟩:=spec_l14Round.mono_l k
 unfold spec_l14Round.f
 repeat' first
  | (with_reducible exact ih0 _ _ _ _ _ _)
  | (with_reducible exact ih1 _ _ _ _ _ _ _ _ _ _)
  | (with_reducible exact spec_l14Own.mono _ _ _ _)
  | (with_reducible exact LeO.refl _)
  | (with_reducible exact LeO.none _)
  | (with_reducible refine LeO.ite ?_ ?_)
  | (with_reducible refine LeO.bind ?_ (fun _ => ?_))
  | exact ih0 _ _ _ _ _ _
  | exact ih1 _ _ _ _ _ _ _ _ _ _
  | exact spec_l14Own.mono _ _ _ _
  | exact LeO.none _
  | refine LeO.ite ?_ ?_
  | refine LeO.bind ?_ (fun _ => ?_)
def spec_l14Round.T9:Bool × List (List Nat × List Nat):=(true,[([],[]),([0],[0]),([1],[1]),([2],[2]),([3],[3]),([4],[4]),([5,4],[4,5]),([6,4],[4,6]),([7,4],[4,7]),([4],[4]),([9,4],[4,9]),([8,10,4],[4,8,10]),([4,11],[4,11])])
def spec_l14Round.B9:List Nat:=[0,1,3,7,15,31,63,127,255,31,543,2047,4095]
theorem spec_l14Round.tab9:rtab .any (opsOf Try.f117 9)=spec_l14Round.T9:=by kernel_rfl
theorem spec_l14Round.bits9:waitsOk spec_l14Round.T9.2 spec_l14Round.B9=true:=by kernel_rfl
def spec_l14Round.T10:Bool × List (List Nat × List Nat):=(true,[([],[]),([0],[0]),([],[]),([2],[2]),([3],[3]),([4],[4]),([1,5],[1,5]),([0,1,2,3,4,5,6],[]),([7,6,0,1,2,3,4,5,6],[6,7])])
def spec_l14Round.B10:List Nat:=[0,1,0,4,12,28,63,127,255]
theorem spec_l14Round.tab10:rtab .any (opsOf Try.f117 10)=spec_l14Round.T10:=by kernel_rfl
theorem spec_l14Round.bits10:waitsOk spec_l14Round.T10.2 spec_l14Round.B10=true:=by kernel_rfl
def spec_l14Round.T11:Bool × List (List Nat × List Nat):=(true,[([],[]),([0],[0]),([],[]),([2],[2]),([3],[3]),([4],[4]),([1,5],[1,5]),([0,1,2,3,4,5,6],[]),([7,6,0,1,2,3,4,5,6],[6,7])])
def spec_l14Round.B11:List Nat:=[0,1,0,4,12,28,63,127,255]
theorem spec_l14Round.tab11:rtab .any (opsOf Try.f117 11)=spec_l14Round.T11:=by kernel_rfl
theorem spec_l14Round.bits11:waitsOk spec_l14Round.T11.2 spec_l14Round.B11=true:=by kernel_rfl
set_option maxHeartbeats 8000000 in
set_option maxRecDepth 100000 in
theorem spec_l14Round.calls (k:Nat) (a0_0:Int) (A0_1:Option Addr) (c0_1:Nat) (l0_1:List (S116)) (a0_2:Int) (r1:Int) (r2:List (S116)) (r3:Int) (r4:List Int) (w:World) (hr0_1:Kd.C k116 w A0_1 l0_1.length l0_1) (hc0_1:l0_1.length≤c0_1) (h:spec_l14Round.f k a0_0 l0_1 a0_2=some (r1,r2,r3,r4)) :
  Calls Try.prog 117 #[.agg #[.int .i64 a0_0,.slice A0_1 l0_1.length c0_1,.int .i64 a0_2]] w fun e w' => ∃ v1_ v3_:Value,e=.returned (.tuple #[.agg #[.int .i64 r1,v1_,.int .i64 r3],v3_])∧Kd.S k116 116 w' w.heap.size (fun k_=>some k_≠(v3_:Value).ownBlock) v1_ r2∧Kd.R (Kd.int .i64) 3 w' w.heap.size (fun _=>True) v3_ r4∧Below w.heap.size w w':=by
 have hu28:=Try.underlying28
 have hu116:=Try.underlying116
 have HR0_1:=Aside0.mk hr0_1
 have HC0_1:=Aside0.mk hc0_1
 clear hr0_1 hc0_1
 have HB:=Aside0.mk (Below.refl w.heap.size w)
 have H:((spec_l14Own.f k a0_0 l0_1 a0_2).bind fun bt180=>(spec_l14Round.l0 k ([]:List Int) (bt180.2.1.length:Int) 0 bt180.1 bt180.2.1 bt180.2.2))=some (r1,r2,r3,r4):=h
 clear h
 replace H:=Option.bind_eq_some_iff.mp H
 obtain⟨⟨t180,t181,t184⟩,A20,H⟩:=H
 replace H:(spec_l14Round.l0 k ([]:List Int) (t181.length:Int) 0 t180 t181 t184)=some (r1,r2,r3,r4):=H
 have A2:=Aside0.mk A20
 clear A20
 have H':=Aside0.mk H
 clear H
 go_enter Try.func117,Try.ntmps117
 go_wp2_with (first|((with_reducible refine gate_dst (N:=1) rfl ?_);refine box_event ?hg (N:=1) ?hd (cs:=#[.int .i64 a0_0,.slice A0_1 l0_1.length c0_1,.int .i64 a0_2]) (t:=28) ?hr ?_;(case hd=>rfl);(case hg=>rfl);(case hr=>first|(go_simp;done)|(go_simp;rfl));intro gb178 hg w3 hbox hb;have n0_:=Aside0.mk (below_step (bB) hb);have n1_:=Aside0.mk (hbox);have n2_:=Aside0.mk ((bG:w.heap.size≤gb178));have n3_:=Aside0.mk ((bG:w.heap.size≤gb178));clear HB;have HB:=n0_;have BK178:=n1_;have GW178:=n2_;have GE178:=n3_;clear n0_ n1_ n2_ n3_;clear hb hbox hg)|((with_reducible refine gate_dst (N:=2) rfl ?_);refine box_event ?hg (N:=2) ?hd (cs:=#[.int .i64 0,.slice none 0 0,.int .i64 0]) (t:=28) ?hr ?_;(case hd=>rfl);(case hg=>rfl);(case hr=>first|(go_simp;done)|(go_simp;rfl));intro gb179 hg w4 hbox hb;have n0_:=Aside0.mk (bM BK178.out hb);have n1_:=Aside0.mk (below_step (bS GE178.out) hb);have n2_:=Aside0.mk (hbox);have n3_:=Aside0.mk ((by rw[hg];exact(below_size (bS GE178.out)):w.heap.size≤gb179));have n4_:=Aside0.mk ((by rw[hg];exact(below_size (bS GE178.out)):w.heap.size≤gb179));have n5_:=Aside0.mk ((bN BK178.out hg:gb178≠gb179));have n6_:=Aside0.mk ((bO BK178.out hg:gb179≠gb178));clear BK178 HB;have BK178:=n0_;have HB:=n1_;have BK179:=n2_;have GW179:=n3_;have GE179:=n4_;have NB178_179:=n5_;have NB179_178:=n6_;clear n0_ n1_ n2_ n3_ n4_ n5_ n6_;clear hb hbox hg;have hnb5:=NB178_179.out;have hnc5:=NB179_178.out;obtain⟨hcz6_0,hcz6_1,hcz6_2⟩:=cC3 BK178.out;obtain⟨hfz6_0,hfz6_1,hfz6_2⟩:=cF3 BK178.out)|((with_reducible refine gate_callee (f:=76) rfl ?_);refine goesA (some 8) rfl rfl Try.func76 #[.agg #[.int .i64 a0_0,.slice A0_1 l0_1.length c0_1,.int .i64 a0_2]] rfl ?_;(with_reducible refine(spec_l14Own.calls k a0_0 _ _ l0_1 a0_2 t180 t181 t184 _ ?side1 ?side2 A2.out).mono ?_);(case side1=>exact bC HR0_1.out);(case side2=>exact HC0_1.out);rintro e w7 ⟨v182,rfl,ho0,hb⟩;refine⟨_,rfl,?_⟩;have n0_:=Aside0.mk (Kd.N_lower (Kd.N_mono (ok':=fun k_=>(w.heap.size≤k_)∧k_≠gb178∧k_≠gb179) (Kd.S_N (Kd.S_bound ho0)) (fun k_ hk_=>⟨(Nat.le_trans (below_size (bS2 GE178.out GE179.out)) hk_.2.1),(Kd.freshB (g:=gb178) (o:=.cells #[.int .i64 a0_0,.slice A0_1 l0_1.length c0_1,.int .i64 a0_2] 28 (0,0)) (bL BK178.out) k_ hk_.2.1),(Kd.freshB (g:=gb179) (o:=.cells #[.int .i64 0,.slice none 0 0,.int .i64 0] 28 (0,0)) (bL BK179.out) k_ hk_.2.1)⟩)) (below_size (bS2 GE178.out GE179.out)));have n1_:=Aside0.mk (bM BK178.out hb);have n2_:=Aside0.mk (bM BK179.out hb);have n3_:=Aside0.mk (below_step (bS2 GE178.out GE179.out) hb);clear BK178 BK179 HB;have HO183:=n0_;have BK178:=n1_;have BK179:=n2_;have HB:=n3_;clear n0_ n1_ n2_ n3_;(try clear hb);(try clear hb2);(try clear hk);(try clear hi);(try clear ho0);obtain⟨hcz8_0,hcz8_1,hcz8_2⟩:=cC3 BK178.out;obtain⟨hfz8_0,hfz8_1,hfz8_2⟩:=cF3 BK178.out;obtain⟨Ao9,co9,eo9⟩:=Kd.N_slice HO183.out;subst eo9))
 go_loopg [4,12] k (fun kq v4 v12 w' => ∃ (x4_1:List Int) (x12_1:Int) (x179001_1:List (S116)) (u179001:Value),v12=.int .i64 x12_1∧Aside0 (spec_l14Round.l0 kq x4_1 (t181.length:Int) x12_1 t180 x179001_1 t184=some (r1,r2,r3,r4))∧Aside0 (kq≤k)∧Aside0 (Kd.R (Kd.int .i64) 3 w' w.heap.size (fun k_=>(w.heap.size≤k_)) v4 x4_1)∧Aside0 (Kd.N k116 116 w' w.heap.size (fun k_=>(w.heap.size≤k_)∧some k_≠(v4:Value).ownBlock∧k_≠gb178∧k_≠gb179) u179001 x179001_1)∧Aside0 (w'.heap[gb178]?=some (.cells #[.int .i64 t180,u179001,.int .i64 t184] 28 (0,0)))∧Aside0 (w'.heap[gb179]?=some (.cells #[.int .i64 0,(.slice none 0 0),.int .i64 0] 28 (0,0)))∧Aside0 (Below w.heap.size w w'))
 case atStart=>exact⟨(([]:List Int)),(0),(t181),(.slice Ao9 t181.length co9),(bR),H',⟨Nat.le_refl _⟩,⟨by first|exact Kd.R_nil _ _ _ _ _|exact Kd.N_nil _ _ _ _ _|exact Kd.V_nil _ _ _ _ _|exact Kd.Q_nil _ _ _ _ _|exact Kd.S_nil _ _ _ _ _⟩,⟨by(with_reducible repeat (first|apply Kd.N_alloc|apply Kd.N_drewN|apply Kd.N_drew));exact Kd.N_mono (Kd.N_far (p:=⟨gb178,2,none⟩) (Kd.N_far (p:=⟨gb178,1,none⟩) (Kd.N_far (p:=⟨gb178,0,none⟩) (Kd.N_mono HO183.out (fun k_ hk=>(⟨hk,hk.2.1⟩:_∧k_≠gb178))) (fun _ hk=>hk.2) (.int .i64 t180)) (fun _ hk=>hk.2) (.slice Ao9 t181.length co9)) (fun _ hk=>hk.2) (.int .i64 t184)) (fun _ hk=>⟨hk.1.1,⟨(by simp[Value.ownBlock]),⟨hk.1.2.1,hk.1.2.2⟩⟩⟩)⟩,⟨by(with_reducible repeat (first|refine blk_drewN ?_ _|refine blk_drew ?_|refine blk_alloc ?_ _));refine blk_put (cs:=#[.int .i64 t180,.slice Ao9 t181.length co9,.int .i64 a0_2]) ?_ 2 _ rfl;(with_reducible repeat (first|refine blk_drewN ?_ _|refine blk_drew ?_|refine blk_alloc ?_ _));refine blk_put (cs:=#[.int .i64 t180,.slice A0_1 l0_1.length c0_1,.int .i64 a0_2]) ?_ 1 _ rfl;(with_reducible repeat (first|refine blk_drewN ?_ _|refine blk_drew ?_|refine blk_alloc ?_ _));refine blk_put (cs:=#[.int .i64 a0_0,.slice A0_1 l0_1.length c0_1,.int .i64 a0_2]) ?_ 0 _ rfl;(with_reducible repeat (first|refine blk_drewN ?_ _|refine blk_drew ?_|refine blk_alloc ?_ _));exact BK178.out⟩,⟨by(with_reducible repeat (first|refine blk_drewN ?_ _|refine blk_drew ?_|refine blk_alloc ?_ _));refine blk_far ?_ NB179_178.out _;(with_reducible repeat (first|refine blk_drewN ?_ _|refine blk_drew ?_|refine blk_alloc ?_ _));refine blk_far ?_ NB179_178.out _;(with_reducible repeat (first|refine blk_drewN ?_ _|refine blk_drew ?_|refine blk_alloc ?_ _));refine blk_far ?_ NB179_178.out _;(with_reducible repeat (first|refine blk_drewN ?_ _|refine blk_drew ?_|refine blk_alloc ?_ _));exact BK179.out⟩,⟨bS2 GE178.out GE179.out⟩⟩
 case round =>
  clear H'
  try clear c1
  try clear p2
  try clear c5
  try clear c7
  try clear hcz6_0 hcz6_1 hcz6_2
  try clear hcz8_0 hcz8_1 hcz8_2
  try clear hfz6_0 hfz6_1 hfz6_2
  try clear hfz8_0 hfz8_1 hfz8_2
  obtain⟨x4_1,x12_1,x179001_1,u179001,rfl,HA,HK1,HO_4,HO_179001,BK178,BK179,HB⟩:=hrel
  cases gk with
  | zero=>exact absurd HA.out (by simp[spec_l14Round.l0])
  | succ k1 =>
   have H:=HA.out
   clear HA
   simp only[spec_l14Round.l0] at H
   by_cases c10:x12_1 < (t181.length:Int)
   ·rw[if_pos c10] at H
    have c10b0:decide (x12_1 < (t181.length:Int))=true:=decide_eq_true c10
    clear c10
    by_cases c11:0≤x12_1
    ·rw[if_pos c11] at H
     have c11b0:decide (0≤x12_1)=true:=decide_eq_true c11
     clear c11
     by_cases c12:x12_1 < (x179001_1.length:Int)
     ·rw[if_pos c12] at H
      have c12b0:decide (x12_1 < (x179001_1.length:Int))=true:=decide_eq_true c12
      clear c12
      by_cases c13:(((rd_T116 x179001_1 x12_1).f0).length:Int)=0
      ·rw[if_pos c13] at H
       have c13b0:((((rd_T116 x179001_1 x12_1).f0).length:Int) == 0)=true:=beq_iff_eq.mpr c13
       have c13b1:((((rd_T116 x179001_1 x12_1).f0).length:Int) != 0)=false:=bne_eq_false_iff_eq.mpr c13
       clear c13
       have H':=Aside0.mk H
       clear H
       have hnb14:=NB178_179.out
       have hnc14:=NB179_178.out
       obtain⟨hcz15_0,hcz15_1,hcz15_2⟩:=cC3 BK178.out
       obtain⟨hfz15_0,hfz15_1,hfz15_2⟩:=cF3 BK178.out
       obtain⟨Ao16,co16,eo16⟩:=Kd.N_slice HO_179001.out
       subst eo16
       have p190:0≤(x12_1:Int):=of_decide_eq_true (bD)
       have q190:x12_1 < (x179001_1.length:Int):=of_decide_eq_true (bD)
       obtain⟨ad190,A190_0,c190_0,e190,hx190_0,hx190_1,hx190_2,hl190_0,hi190_0⟩:=at_T116 (Kd.N_reads' HO_179001.out).2.2 x12_1 p190 q190
       cases e190
       obtain⟨ce190,hce190,hMe190,hcc190⟩:=Kd.N_get HO_179001.out z116 x12_1 p190 (by first|exact q190|exact of_decide_eq_true (bD)|(have e_:=(Kd.N_reads' HO_179001.out).1;omega))
       obtain⟨ua190_0,uc190_0,rfl,ul190_0,ge190_0⟩:=k116_openF hMe190
       have hv190_0:=hcc190 0 _ rfl
       rw[Nat.add_zero] at hv190_0
       replace hv190_0:=Option.some.inj (hv190_0.symm.trans hx190_0)
       injection hv190_0 with hva_ hvn_ hvc_
       rw[hva_] at ge190_0
       rw[hvc_] at ul190_0
       have HL190_0:=Aside0.mk (show Kd.V (Kd.int .i64) 3 _ w.heap.size _ _ ((rd_T116 x179001_1 x12_1).f0) from Kd.V_mk ul190_0 ge190_0)
       clear hva_ hvn_ hvc_ ge190_0 ul190_0 hcc190 hce190
       have HR190_0:=Aside0.mk hi190_0
       have HC190_0:=Aside0.mk hl190_0
       clear hi190_0 hl190_0
       replace p190:=eq_true p190
       replace q190:=eq_true q190
       go_wp2_with (first|((with_reducible refine gate_dst (N:=6) rfl ?_);refine box_event ?hg (N:=6) ?hd (cs:=#[.slice none 0 0,.int .i64 0,.int .i64 0]) (t:=116) ?hr ?_;(case hd=>rfl);(case hg=>rfl);(case hr=>first|(go_simp;done)|(go_simp;rfl));intro gb191 hg w17 hbox hb;have n0_:=Aside0.mk (Kd.R_below (bK HO_4.out) hb);have n1_:=Aside0.mk (Kd.N_below (Kd.N_elderB (by(with_reducible repeat (first|apply Kd.N_alloc|apply Kd.N_drewN|apply Kd.N_drew));exact HO_179001.out) gb191 (Nat.le_of_eq hg.symm)) hb);have n2_:=Aside0.mk (Kd.V_below (Kd.V_elderB (by(with_reducible repeat (first|apply Kd.V_alloc|apply Kd.V_drewN|apply Kd.V_drew));exact HL190_0.out) gb191 (Nat.le_of_eq hg.symm)) hb);have n3_:=Aside0.mk (bM BK178.out hb);have n4_:=Aside0.mk (bM BK179.out hb);have n5_:=Aside0.mk (Kd.C_below (by repeat (first|(with_reducible exact HR190_0.out)|(with_reducible refine Kd.C_alloc ?_ _)|(with_reducible refine Kd.C_drewN ?_ _)|(with_reducible refine Kd.C_drew ?_)|exact HR190_0.out)) hb);have n6_:=Aside0.mk (below_step (bS2 GE178.out GE179.out) hb);have n7_:=Aside0.mk (hbox);have n8_:=Aside0.mk ((by rw[hg];exact(below_size (bS2 GE178.out GE179.out)):w.heap.size≤gb191));have n9_:=Aside0.mk ((by rw[hg];exact(below_size (bS2 GE178.out GE179.out)):w.heap.size≤gb191));have n10_:=Aside0.mk ((bN BK178.out hg:gb178≠gb191));have n11_:=Aside0.mk ((bO BK178.out hg:gb191≠gb178));have n12_:=Aside0.mk ((bN BK179.out hg:gb179≠gb191));have n13_:=Aside0.mk ((bO BK179.out hg:gb191≠gb179));clear HO_4 HO_179001 HL190_0 BK178 BK179 HR190_0 HB;have HO_4:=n0_;have HO_179001:=n1_;have HL190_0:=n2_;have BK178:=n3_;have BK179:=n4_;have HR190_0:=n5_;have HB:=n6_;have BK191:=n7_;have GW191:=n8_;have GE191:=n9_;have NB178_191:=n10_;have NB191_178:=n11_;have NB179_191:=n12_;have NB191_179:=n13_;clear n0_ n1_ n2_ n3_ n4_ n5_ n6_ n7_ n8_ n9_ n10_ n11_ n12_ n13_;clear hb hbox hg;have hnb18:=NB191_178.out;have hnc18:=NB178_191.out;have hnb19:=NB191_179.out;have hnc19:=NB179_191.out;obtain⟨hcz20_0,hcz20_1,hcz20_2⟩:=cC3 BK191.out;obtain⟨hfz20_0,hfz20_1,hfz20_2⟩:=cF3 BK191.out))
       go_roundg k1
       case measure=>have:=HK1.out;omega
       case rel=>exact⟨(x4_1),(wrap64 (x12_1+1)),(x179001_1),(.slice (some ad190) x179001_1.length co16),(bR),H',⟨by have:=HK1.out;omega⟩,⟨by(with_reducible repeat (first|apply Kd.R_alloc|apply Kd.R_drewN|apply Kd.R_drew));exact Kd.R_mono (Kd.R_far (p:=⟨gb191,2,none⟩) (Kd.R_far (p:=⟨gb191,1,none⟩) (Kd.R_far (p:=⟨gb191,0,none⟩) (Kd.R_types HO_4.out BK191.out (by decide)) (fun _ hk=>hk.2) (.slice A190_0 ((rd_T116 x179001_1 x12_1).f0).length c190_0)) (fun _ hk=>hk.2) (.int .i64 ((rd_T116 x179001_1 x12_1).f1))) (fun _ hk=>hk.2) (.int .i64 ((rd_T116 x179001_1 x12_1).f2))) (fun _ hk=>hk.1)⟩,⟨by(with_reducible repeat (first|apply Kd.N_alloc|apply Kd.N_drewN|apply Kd.N_drew));exact Kd.N_mono (Kd.N_far (p:=⟨gb191,2,none⟩) (Kd.N_far (p:=⟨gb191,1,none⟩) (Kd.N_far (p:=⟨gb191,0,none⟩) (Kd.N_mono HO_179001.out (fun k_ hk=>(⟨hk,hk.2⟩:_∧k_≠gb191))) (fun _ hk=>hk.2) (.slice A190_0 ((rd_T116 x179001_1 x12_1).f0).length c190_0)) (fun _ hk=>hk.2) (.int .i64 ((rd_T116 x179001_1 x12_1).f1))) (fun _ hk=>hk.2) (.int .i64 ((rd_T116 x179001_1 x12_1).f2))) (fun _ hk=>⟨hk.1.1.1,⟨hk.1.1.2.1,⟨hk.1.1.2.2.1,hk.1.1.2.2.2⟩⟩⟩)⟩,⟨by(with_reducible repeat (first|refine blk_drewN ?_ _|refine blk_drew ?_|refine blk_alloc ?_ _));refine blk_far ?_ NB178_191.out _;(with_reducible repeat (first|refine blk_drewN ?_ _|refine blk_drew ?_|refine blk_alloc ?_ _));refine blk_far ?_ NB178_191.out _;(with_reducible repeat (first|refine blk_drewN ?_ _|refine blk_drew ?_|refine blk_alloc ?_ _));refine blk_far ?_ NB178_191.out _;(with_reducible repeat (first|refine blk_drewN ?_ _|refine blk_drew ?_|refine blk_alloc ?_ _));exact BK178.out⟩,⟨by(with_reducible repeat (first|refine blk_drewN ?_ _|refine blk_drew ?_|refine blk_alloc ?_ _));refine blk_far ?_ NB179_191.out _;(with_reducible repeat (first|refine blk_drewN ?_ _|refine blk_drew ?_|refine blk_alloc ?_ _));refine blk_far ?_ NB179_191.out _;(with_reducible repeat (first|refine blk_drewN ?_ _|refine blk_drew ?_|refine blk_alloc ?_ _));refine blk_far ?_ NB179_191.out _;(with_reducible repeat (first|refine blk_drewN ?_ _|refine blk_drew ?_|refine blk_alloc ?_ _));exact BK179.out⟩,⟨bS3 GE178.out GE179.out GE191.out⟩⟩
      ·rw[if_neg c13] at H
       have c13b0:((((rd_T116 x179001_1 x12_1).f0).length:Int) == 0)=false:=beq_eq_false_iff_ne.mpr c13
       have c13b1:((((rd_T116 x179001_1 x12_1).f0).length:Int) != 0)=true:=bne_iff_ne.mpr c13
       have c13b2 : ¬ (((rd_T116 x179001_1 x12_1).f0)=[]):=fun h_=>c13 (by rw[h_];rfl)
       have H':=Aside0.mk H
       clear H
       have hnb21:=NB178_179.out
       have hnc21:=NB179_178.out
       obtain⟨hcz22_0,hcz22_1,hcz22_2⟩:=cC3 BK178.out
       obtain⟨hfz22_0,hfz22_1,hfz22_2⟩:=cF3 BK178.out
       obtain⟨Ao23,co23,eo23⟩:=Kd.N_slice HO_179001.out
       subst eo23
       have p190:0≤(x12_1:Int):=of_decide_eq_true (bD)
       have q190:x12_1 < (x179001_1.length:Int):=of_decide_eq_true (bD)
       obtain⟨ad190,A190_0,c190_0,e190,hx190_0,hx190_1,hx190_2,hl190_0,hi190_0⟩:=at_T116 (Kd.N_reads' HO_179001.out).2.2 x12_1 p190 q190
       cases e190
       obtain⟨ce190,hce190,hMe190,hcc190⟩:=Kd.N_get HO_179001.out z116 x12_1 p190 (by first|exact q190|exact of_decide_eq_true (bD)|(have e_:=(Kd.N_reads' HO_179001.out).1;omega))
       obtain⟨ua190_0,uc190_0,rfl,ul190_0,ge190_0⟩:=k116_openF hMe190
       have hv190_0:=hcc190 0 _ rfl
       rw[Nat.add_zero] at hv190_0
       replace hv190_0:=Option.some.inj (hv190_0.symm.trans hx190_0)
       injection hv190_0 with hva_ hvn_ hvc_
       rw[hva_] at ge190_0
       rw[hvc_] at ul190_0
       have HL190_0:=Aside0.mk (show Kd.V (Kd.int .i64) 3 _ w.heap.size _ _ ((rd_T116 x179001_1 x12_1).f0) from Kd.V_mk ul190_0 ge190_0)
       clear hva_ hvn_ hvc_ ge190_0 ul190_0 hcc190 hce190
       have HR190_0:=Aside0.mk hi190_0
       have HC190_0:=Aside0.mk hl190_0
       clear hi190_0 hl190_0
       replace p190:=eq_true p190
       replace q190:=eq_true q190
       go_wp2_with (first|((with_reducible refine gate_dst (N:=6) rfl ?_);refine box_event ?hg (N:=6) ?hd (cs:=#[.slice none 0 0,.int .i64 0,.int .i64 0]) (t:=116) ?hr ?_;(case hd=>rfl);(case hg=>rfl);(case hr=>first|(go_simp;done)|(go_simp;rfl));intro gb191 hg w24 hbox hb;have n0_:=Aside0.mk (Kd.R_below (bK HO_4.out) hb);have n1_:=Aside0.mk (Kd.N_below (Kd.N_elderB (by(with_reducible repeat (first|apply Kd.N_alloc|apply Kd.N_drewN|apply Kd.N_drew));exact HO_179001.out) gb191 (Nat.le_of_eq hg.symm)) hb);have n2_:=Aside0.mk (Kd.V_below (Kd.V_elderB (by(with_reducible repeat (first|apply Kd.V_alloc|apply Kd.V_drewN|apply Kd.V_drew));exact HL190_0.out) gb191 (Nat.le_of_eq hg.symm)) hb);have n3_:=Aside0.mk (bM BK178.out hb);have n4_:=Aside0.mk (bM BK179.out hb);have n5_:=Aside0.mk (Kd.C_below (by repeat (first|(with_reducible exact HR190_0.out)|(with_reducible refine Kd.C_alloc ?_ _)|(with_reducible refine Kd.C_drewN ?_ _)|(with_reducible refine Kd.C_drew ?_)|exact HR190_0.out)) hb);have n6_:=Aside0.mk (below_step (bS2 GE178.out GE179.out) hb);have n7_:=Aside0.mk (hbox);have n8_:=Aside0.mk ((by rw[hg];exact(below_size (bS2 GE178.out GE179.out)):w.heap.size≤gb191));have n9_:=Aside0.mk ((by rw[hg];exact(below_size (bS2 GE178.out GE179.out)):w.heap.size≤gb191));have n10_:=Aside0.mk ((bN BK178.out hg:gb178≠gb191));have n11_:=Aside0.mk ((bO BK178.out hg:gb191≠gb178));have n12_:=Aside0.mk ((bN BK179.out hg:gb179≠gb191));have n13_:=Aside0.mk ((bO BK179.out hg:gb191≠gb179));clear HO_4 HO_179001 HL190_0 BK178 BK179 HR190_0 HB;have HO_4:=n0_;have HO_179001:=n1_;have HL190_0:=n2_;have BK178:=n3_;have BK179:=n4_;have HR190_0:=n5_;have HB:=n6_;have BK191:=n7_;have GW191:=n8_;have GE191:=n9_;have NB178_191:=n10_;have NB191_178:=n11_;have NB179_191:=n12_;have NB191_179:=n13_;clear n0_ n1_ n2_ n3_ n4_ n5_ n6_ n7_ n8_ n9_ n10_ n11_ n12_ n13_;clear hb hbox hg;have hnb25:=NB191_178.out;have hnc25:=NB178_191.out;have hnb26:=NB191_179.out;have hnc26:=NB179_191.out;obtain⟨hcz27_0,hcz27_1,hcz27_2⟩:=cC3 BK191.out;obtain⟨hfz27_0,hfz27_1,hfz27_2⟩:=cF3 BK191.out;obtain⟨hcz28_0,hcz28_1,hcz28_2⟩:=cC3 BK178.out;obtain⟨hfz28_0,hfz28_1,hfz28_2⟩:=cF3 BK178.out))
       go_loopg [4] k1 (fun kq v4 w' => ∃ (x4_2:List Int) (x192000_2:List Int) (x192001_2:Int) (x192002_2:Int) (u192000:Value),Aside0 (spec_l14Round.l1 kq x4_2 x12_1 (t181.length:Int) x12_1 t180 x179001_1 t184 x192000_2 x192001_2 x192002_2=some (r1,r2,r3,r4))∧Aside0 (kq≤k1)∧Aside0 (Kd.R (Kd.int .i64) 3 w' w.heap.size (fun k_=>(w.heap.size≤k_)) v4 x4_2)∧Aside0 (Kd.N k116 116 w' w.heap.size (fun k_=>(w.heap.size≤k_)∧some k_≠(v4:Value).ownBlock∧k_≠gb178∧k_≠gb179∧k_≠gb191) (.slice (some ad190) x179001_1.length co23) x179001_1)∧Aside0 (Kd.V (Kd.int .i64) 3 w' w.heap.size (fun k_=>(w.heap.size≤k_)∧some k_≠(v4:Value).ownBlock∧some k_≠((.slice (some ad190) x179001_1.length co23):Value).ownBlock∧k_≠gb178∧k_≠gb179∧k_≠gb191) u192000 x192000_2)∧Aside0 (w'.heap[gb178]?=some (.cells #[.int .i64 t180,(.slice (some ad190) x179001_1.length co23),.int .i64 t184] 28 (0,0)))∧Aside0 (w'.heap[gb179]?=some (.cells #[.int .i64 0,(.slice none 0 0),.int .i64 0] 28 (0,0)))∧Aside0 (w'.heap[gb191]?=some (.cells #[u192000,.int .i64 x192001_2,.int .i64 x192002_2] 116 (0,0)))∧Aside0 (Below w.heap.size w w'))
       case atStart=>exact⟨(x4_1),((rd_T116 x179001_1 x12_1).f0),(wrap64 (((rd_T116 x179001_1 x12_1).f1)+t180)),((rd_T116 x179001_1 x12_1).f2),(.slice A190_0 ((rd_T116 x179001_1 x12_1).f0).length c190_0),H',⟨Nat.le_refl _⟩,⟨by(with_reducible repeat (first|apply Kd.R_alloc|apply Kd.R_drewN|apply Kd.R_drew));exact Kd.R_mono (Kd.R_far (p:=⟨gb191,1,none⟩) (Kd.R_far (p:=⟨gb191,2,none⟩) (Kd.R_far (p:=⟨gb191,1,none⟩) (Kd.R_far (p:=⟨gb191,0,none⟩) (Kd.R_types HO_4.out BK191.out (by decide)) (fun _ hk=>hk.2) (.slice A190_0 ((rd_T116 x179001_1 x12_1).f0).length c190_0)) (fun _ hk=>hk.2) (.int .i64 ((rd_T116 x179001_1 x12_1).f1))) (fun _ hk=>hk.2) (.int .i64 ((rd_T116 x179001_1 x12_1).f2))) (fun _ hk=>hk.2) (.int .i64 (wrap64 (((rd_T116 x179001_1 x12_1).f1)+t180)))) (fun _ hk=>hk.1)⟩,⟨by(with_reducible repeat (first|apply Kd.N_alloc|apply Kd.N_drewN|apply Kd.N_drew));exact Kd.N_mono (Kd.N_far (p:=⟨gb191,1,none⟩) (Kd.N_far (p:=⟨gb191,2,none⟩) (Kd.N_far (p:=⟨gb191,1,none⟩) (Kd.N_far (p:=⟨gb191,0,none⟩) (Kd.N_mono HO_179001.out (fun k_ hk=>(⟨hk,hk.2⟩:_∧k_≠gb191))) (fun _ hk=>hk.2) (.slice A190_0 ((rd_T116 x179001_1 x12_1).f0).length c190_0)) (fun _ hk=>hk.2) (.int .i64 ((rd_T116 x179001_1 x12_1).f1))) (fun _ hk=>hk.2) (.int .i64 ((rd_T116 x179001_1 x12_1).f2))) (fun _ hk=>hk.2) (.int .i64 (wrap64 (((rd_T116 x179001_1 x12_1).f1)+t180)))) (fun _ hk=>⟨hk.1.1.1,⟨hk.1.1.2.1,⟨hk.1.1.2.2.1,⟨hk.1.1.2.2.2,hk.1.2⟩⟩⟩⟩)⟩,⟨by(with_reducible repeat (first|apply Kd.V_alloc|apply Kd.V_drewN|apply Kd.V_drew));exact Kd.V_mono (Kd.V_far (p:=⟨gb191,1,none⟩) (Kd.V_far (p:=⟨gb191,2,none⟩) (Kd.V_far (p:=⟨gb191,1,none⟩) (Kd.V_far (p:=⟨gb191,0,none⟩) (Kd.V_mono HL190_0.out (fun k_ hk=>(⟨hk,hk.2⟩:_∧k_≠gb191))) (fun _ hk=>hk.2) (.slice A190_0 ((rd_T116 x179001_1 x12_1).f0).length c190_0)) (fun _ hk=>hk.2) (.int .i64 ((rd_T116 x179001_1 x12_1).f1))) (fun _ hk=>hk.2) (.int .i64 ((rd_T116 x179001_1 x12_1).f2))) (fun _ hk=>hk.2) (.int .i64 (wrap64 (((rd_T116 x179001_1 x12_1).f1)+t180)))) (fun _ hk=>⟨hk.1.1.1.1,⟨hk.1.1.1.2.1,⟨hk.1.1.2,⟨hk.1.1.1.2.2.1,⟨hk.1.1.1.2.2.2,hk.1.2⟩⟩⟩⟩⟩)⟩,⟨by(with_reducible repeat (first|refine blk_drewN ?_ _|refine blk_drew ?_|refine blk_alloc ?_ _));refine blk_far ?_ NB178_191.out _;(with_reducible repeat (first|refine blk_drewN ?_ _|refine blk_drew ?_|refine blk_alloc ?_ _));refine blk_far ?_ NB178_191.out _;(with_reducible repeat (first|refine blk_drewN ?_ _|refine blk_drew ?_|refine blk_alloc ?_ _));refine blk_far ?_ NB178_191.out _;(with_reducible repeat (first|refine blk_drewN ?_ _|refine blk_drew ?_|refine blk_alloc ?_ _));refine blk_far ?_ NB178_191.out _;(with_reducible repeat (first|refine blk_drewN ?_ _|refine blk_drew ?_|refine blk_alloc ?_ _));exact BK178.out⟩,⟨by(with_reducible repeat (first|refine blk_drewN ?_ _|refine blk_drew ?_|refine blk_alloc ?_ _));refine blk_far ?_ NB179_191.out _;(with_reducible repeat (first|refine blk_drewN ?_ _|refine blk_drew ?_|refine blk_alloc ?_ _));refine blk_far ?_ NB179_191.out _;(with_reducible repeat (first|refine blk_drewN ?_ _|refine blk_drew ?_|refine blk_alloc ?_ _));refine blk_far ?_ NB179_191.out _;(with_reducible repeat (first|refine blk_drewN ?_ _|refine blk_drew ?_|refine blk_alloc ?_ _));refine blk_far ?_ NB179_191.out _;(with_reducible repeat (first|refine blk_drewN ?_ _|refine blk_drew ?_|refine blk_alloc ?_ _));exact BK179.out⟩,⟨by(with_reducible repeat (first|refine blk_drewN ?_ _|refine blk_drew ?_|refine blk_alloc ?_ _));refine blk_put (cs:=#[.slice A190_0 ((rd_T116 x179001_1 x12_1).f0).length c190_0,.int .i64 ((rd_T116 x179001_1 x12_1).f1),.int .i64 ((rd_T116 x179001_1 x12_1).f2)]) ?_ 1 _ rfl;(with_reducible repeat (first|refine blk_drewN ?_ _|refine blk_drew ?_|refine blk_alloc ?_ _));refine blk_put (cs:=#[.slice A190_0 ((rd_T116 x179001_1 x12_1).f0).length c190_0,.int .i64 ((rd_T116 x179001_1 x12_1).f1),.int .i64 0]) ?_ 2 _ rfl;(with_reducible repeat (first|refine blk_drewN ?_ _|refine blk_drew ?_|refine blk_alloc ?_ _));refine blk_put (cs:=#[.slice A190_0 ((rd_T116 x179001_1 x12_1).f0).length c190_0,.int .i64 0,.int .i64 0]) ?_ 1 _ rfl;(with_reducible repeat (first|refine blk_drewN ?_ _|refine blk_drew ?_|refine blk_alloc ?_ _));refine blk_put (cs:=#[.slice none 0 0,.int .i64 0,.int .i64 0]) ?_ 0 _ rfl;(with_reducible repeat (first|refine blk_drewN ?_ _|refine blk_drew ?_|refine blk_alloc ?_ _));exact BK191.out⟩,⟨bS3 GE178.out GE179.out GE191.out⟩⟩
       case round =>
        clear H'
        try clear c1
        try clear p1
        try clear q1
        try clear hx1
        try clear c2
        try clear p2
        try clear c5
        try clear p6
        try clear c7
        try clear c10
        try clear c10b0
        try clear c11
        try clear c11b0
        try clear c12
        try clear c12b0
        try clear c13
        try clear c13b0
        try clear c13b1
        try clear c13b2
        try clear c14
        try clear c18
        try clear c19
        try clear p19
        try clear q19
        try clear hx19
        try clear c21
        try clear c25
        try clear c26
        try clear hcz15_0 hcz15_1 hcz15_2
        try clear hcz20_0 hcz20_1 hcz20_2
        try clear hcz22_0 hcz22_1 hcz22_2
        try clear hcz27_0 hcz27_1 hcz27_2
        try clear hcz28_0 hcz28_1 hcz28_2
        try clear hcz6_0 hcz6_1 hcz6_2
        try clear hcz8_0 hcz8_1 hcz8_2
        try clear hfz15_0 hfz15_1 hfz15_2
        try clear hfz20_0 hfz20_1 hfz20_2
        try clear hfz22_0 hfz22_1 hfz22_2
        try clear hfz27_0 hfz27_1 hfz27_2
        try clear hfz28_0 hfz28_1 hfz28_2
        try clear hfz6_0 hfz6_1 hfz6_2
        try clear hfz8_0 hfz8_1 hfz8_2
        try clear hx190_0
        try clear hx190_1
        try clear hx190_2
        try clear p190
        try clear p2
        try clear q190
        obtain⟨x4_2,x192000_2,x192001_2,x192002_2,u192000,HA,HK2,HO_4,HO_179001,HO_192000,BK178,BK179,BK191,HB⟩:=hrel
        cases gk with
        | zero=>exact absurd HA.out (by simp[spec_l14Round.l1])
        | succ k2 =>
         have H:=HA.out
         clear HA
         simp only[spec_l14Round.l1] at H
         by_cases c29:(x192000_2.length:Int) > 0
         ·rw[if_pos c29] at H
          have c29b0:decide (0 < (x192000_2.length:Int))=true:=decide_eq_true c29
          have c29b1:decide (0 < x192000_2.length)=true:=decide_eq_true (by omega)
          clear c29
          by_cases c30:0 < (x192000_2.length:Int)
          ·rw[if_pos c30] at H
           have c30b0:decide (0 < (x192000_2.length:Int))=true:=decide_eq_true c30
           have c30b1:decide (0 < x192000_2.length)=true:=decide_eq_true (by omega)
           clear c30
           by_cases c31:(rd x192000_2 0)≤x192001_2
           ·rw[if_pos c31] at H
            have c31b0:decide ((rd x192000_2 0)≤x192001_2)=true:=decide_eq_true c31
            clear c31
            by_cases c32:1≤(x192000_2.length:Int)
            ·rw[if_pos c32] at H
             have c32b0:=eq_true c32
             have c32b1:decide (1≤(x192000_2.length:Int))=true:=decide_eq_true c32
             clear c32
             obtain⟨y195,hy195⟩ : ∃ y_:List Int,y_=(x192000_2.drop 1):=⟨_,rfl⟩
             replace H:(if x4_2.length < 17592186044416 then (spec_l14Round.l1 k2 (x4_2++[x12_1]) x12_1 (t181.length:Int) x12_1 t180 x179001_1 t184 y195 (wrap64 (x192001_2 - (rd x192000_2 0))) (wrap64 (x192002_2+(rd x192000_2 0)))) else (none))=some (r1,r2,r3,r4):=by first|(rw[hy195];with_reducible exact H)|(have H2_:=(Option.bind_some _ _).symm.trans H;rw[hy195];with_reducible exact H2_)|(have H2_:=(Option.bind_some _ _).symm.trans H;with_reducible exact H2_)|with_reducible exact H|(rw[hy195];exact H)|exact H
             have Ny195:=Aside0.mk hy195
             clear hy195
             by_cases c33:x4_2.length < 17592186044416
             ·rw[if_pos c33] at H
              have LMc33:=Aside0.mk c33
              clear c33
              obtain⟨y200,hy200⟩ : ∃ y_:List Int,y_=(x4_2++[x12_1]):=⟨_,rfl⟩
              replace H:(spec_l14Round.l1 k2 y200 x12_1 (t181.length:Int) x12_1 t180 x179001_1 t184 y195 (wrap64 (x192001_2 - (rd x192000_2 0))) (wrap64 (x192002_2+(rd x192000_2 0))))=some (r1,r2,r3,r4):=by first|(rw[hy200];with_reducible exact H)|(have H2_:=(Option.bind_some _ _).symm.trans H;rw[hy200];with_reducible exact H2_)|(have H2_:=(Option.bind_some _ _).symm.trans H;with_reducible exact H2_)|with_reducible exact H|(rw[hy200];exact H)|exact H
              have Ny200:=Aside0.mk hy200
              clear hy200
              have H':=Aside0.mk H
              clear H
              try go_wp2
              (try (rw[drewN_self wr];generalize hq_:World.drewN wr _=wr;have n0_:=Aside0.mk (Kd.R_at hq_ HO_4.out);have n1_:=Aside0.mk (Kd.N_at hq_ HO_179001.out);have n2_:=Aside0.mk (Kd.V_at hq_ HO_192000.out);have n3_:=Aside0.mk (blk_at hq_ BK178.out);have n4_:=Aside0.mk (blk_at hq_ BK179.out);have n5_:=Aside0.mk (blk_at hq_ BK191.out);have n6_:=Aside0.mk (below_at hq_ HB.out);clear hq_ HO_4 HO_179001 HO_192000 BK178 BK179 BK191 HB;have HO_4:=n0_;have HO_179001:=n1_;have HO_192000:=n2_;have BK178:=n3_;have BK179:=n4_;have BK191:=n5_;have HB:=n6_;clear n0_ n1_ n2_ n3_ n4_ n5_ n6_))
              have n0_:=Aside0.mk (Kd.R_drew HO_4.out)
              have n1_:=Aside0.mk (Kd.N_drew HO_179001.out)
              have n2_:=Aside0.mk (Kd.V_drew HO_192000.out)
              have n3_:=Aside0.mk (blk_drew BK178.out)
              have n4_:=Aside0.mk (blk_drew BK179.out)
              have n5_:=Aside0.mk (blk_drew BK191.out)
              have n6_:=Aside0.mk (below_drew1 HB.out)
              clear HO_4 HO_179001 HO_192000 BK178 BK179 BK191 HB
              have HO_4:=n0_
              have HO_179001:=n1_
              have HO_192000:=n2_
              have BK178:=n3_
              have BK179:=n4_
              have BK191:=n5_
              have HB:=n6_
              clear n0_ n1_ n2_ n3_ n4_ n5_ n6_
              obtain⟨Ao35,co35,eo35⟩:=Kd.V_slice HO_192000.out
              (first|subst eo35|(injection eo35 with f1_ f2_ f3_;have f4_:=f1_.symm;have f5_:=f3_.symm;clear f1_ f2_ f3_;subst f4_;subst f5_))
              have p192:0≤(0:Int):=(by omega)
              have q192:0 < (x192000_2.length:Int):=of_decide_eq_true (bD)
              obtain⟨ad192,e192,hx192_0⟩:=Kd.at_int (Kd.V_reads' HO_192000.out).2.2 0 p192 q192
              cases e192
              have qi192:(0 < x192000_2.length)=True:=eq_true (by omega)
              (try rw[show((0:Int)).toNat=0 from rfl] at hx192_0)
              (try rw[Addr.add_zero'] at hx192_0)
              replace p192:=eq_true p192
              replace q192:=eq_true q192
              refine start_ (n:=13) (S:=fun w'=>w'.cell? ⟨gb191,0,none⟩=some (.slice (some ad192) x192000_2.length co35)∧w'.cell? ⟨gb191,1,none⟩=some (.int .i64 x192001_2)∧w'.cell? ⟨gb191,2,none⟩=some (.int .i64 x192002_2)∧w'.cell? ad192=some (.int .i64 (rd x192000_2 0))) (ds:=[]) #[false,false,false,false,false,false,false,false,false,false,false,false,false] (by kernel_rfl) rfl rfl ⟨(blk_cell BK191.out 0).trans rfl,(blk_cell BK191.out 1).trans rfl,(blk_cell BK191.out 2).trans rfl,hx192_0⟩ (fun hHeld => ?_);refine with_tabW spec_l14Round.tab9 spec_l14Round.bits9 (fun HT_ HW_ => ?_)
              generalize wr.drew=w34 at HO_4 HO_179001 HO_192000 BK178 BK179 BK191 HB hx192_0 hHeld ⊢
              refine pure_ (i:=0) (N:=some 30) (v:=?_) (a':=?_) #[true,false,false,false,false,false,false,false,false,false,false,false,false] rfl rfl (any_of HT_.out (by kernel_rfl)) (fun _ _ _ h=>h) (Or.inl ⟨by rfl,?_⟩) ?_ ?_
              rotate_left
              ·intro w'
               go_simp
               with_reducible rfl
              rotate_left
              ·simp only[Act.put,List.setIfInBounds_toArray,List.set_cons_zero,List.set_cons_succ,i64_w,i32_w]
               rfl
              refine take_ (i:=1) (N:=some 31) (v:=?_) (a':=?_) #[true,true,false,false,false,false,false,false,false,false,false,false,false] rfl rfl (take_ofW HT_.out HW_.out (by kernel_rfl)) (fun _ _ _ h=>h) (Or.inl ⟨by rfl,?_⟩) hHeld ?_ ?_
              rotate_left
              ·rintro w' ⟨s0,s1,s2,s3⟩
               go_simp
               with_reducible rfl
              rotate_left
              ·simp only[Act.put,List.setIfInBounds_toArray,List.set_cons_zero,List.set_cons_succ,i64_w,i32_w]
               rfl
              refine pure_ (i:=2) (N:=some 32) (v:=?_) (a':=?_) #[true,true,true,false,false,false,false,false,false,false,false,false,false] rfl rfl (any_of HT_.out (by kernel_rfl)) (fun _ _ _ h=>h) (Or.inl ⟨by rfl,?_⟩) ?_ ?_
              rotate_left
              ·intro w'
               go_simp
               with_reducible rfl
              rotate_left
              ·simp only[Act.put,List.setIfInBounds_toArray,List.set_cons_zero,List.set_cons_succ,i64_w,i32_w]
               rfl
              refine pure_ (i:=3) (N:=some 33) (v:=?_) (a':=?_) #[true,true,true,true,false,false,false,false,false,false,false,false,false] rfl rfl (any_of HT_.out (by kernel_rfl)) (fun _ _ _ h=>h) (Or.inl ⟨by rfl,?_⟩) ?_ ?_
              rotate_left
              ·intro w'
               go_simp
               with_reducible rfl
              rotate_left
              ·simp only[Act.put,List.setIfInBounds_toArray,List.set_cons_zero,List.set_cons_succ,i64_w,i32_w]
               rfl
              refine pure_ (i:=4) (N:=some 34) (v:=?_) (a':=?_) #[true,true,true,true,true,false,false,false,false,false,false,false,false] rfl rfl (any_of HT_.out (by kernel_rfl)) (fun _ _ _ h=>h) (Or.inl ⟨by rfl,?_⟩) ?_ ?_
              rotate_left
              ·intro w'
               go_simp
               with_reducible rfl
              rotate_left
              ·simp only[Act.put,List.setIfInBounds_toArray,List.set_cons_zero,List.set_cons_succ,i64_w,i32_w]
               rfl
              refine pure_ (i:=5) (N:=some 35) (v:=?_) (a':=?_) #[true,true,true,true,true,true,false,false,false,false,false,false,false] rfl rfl (any_of HT_.out (by kernel_rfl)) (fun _ _ _ h=>h) (Or.inl ⟨by rfl,?_⟩) ?_ ?_
              rotate_left
              ·intro w'
               go_simp
               with_reducible rfl
              rotate_left
              ·simp only[Act.put,List.setIfInBounds_toArray,List.set_cons_zero,List.set_cons_succ,i64_w,i32_w]
               rfl
              refine pure_ (i:=9) (N:=some 39) (v:=?_) (a':=?_) #[true,true,true,true,true,true,false,false,false,true,false,false,false] rfl rfl (any_of HT_.out (by kernel_rfl)) (fun _ _ _ h=>h) (Or.inl ⟨by rfl,?_⟩) ?_ ?_
              rotate_left
              ·intro w'
               go_simp
               with_reducible rfl
              rotate_left
              ·simp only[Act.put,List.setIfInBounds_toArray,List.set_cons_zero,List.set_cons_succ,i64_w,i32_w]
               rfl
              refine take_ (i:=6) (N:=some 36) (v:=?_) (a':=?_) #[true,true,true,true,true,true,true,false,false,true,false,false,false] rfl rfl (take_ofW HT_.out HW_.out (by kernel_rfl)) (fun _ _ _ h=>h) (Or.inl ⟨by rfl,?_⟩) hHeld ?_ ?_
              rotate_left
              ·rintro w' ⟨s0,s1,s2,s3⟩
               go_simp
               with_reducible rfl
              rotate_left
              ·simp only[Act.put,List.setIfInBounds_toArray,List.set_cons_zero,List.set_cons_succ,i64_w,i32_w]
               rfl
              refine pure_ (i:=7) (N:=some 37) (v:=?_) (a':=?_) #[true,true,true,true,true,true,true,true,false,true,false,false,false] rfl rfl (any_of HT_.out (by kernel_rfl)) (fun _ _ _ h=>h) (Or.inl ⟨by rfl,?_⟩) ?_ ?_
              rotate_left
              ·intro w'
               go_simp
               with_reducible rfl
              rotate_left
              ·simp only[Act.put,List.setIfInBounds_toArray,List.set_cons_zero,List.set_cons_succ,i64_w,i32_w]
               rfl
              refine take_ (i:=8) (N:=some 38) (v:=?_) (a':=?_) #[true,true,true,true,true,true,true,true,true,true,false,false,false] rfl rfl (take_ofW HT_.out HW_.out (by kernel_rfl)) (fun _ _ _ h=>h) (Or.inl ⟨by rfl,?_⟩) hHeld ?_ ?_
              rotate_left
              ·rintro w' ⟨s0,s1,s2,s3⟩
               go_simp
               with_reducible rfl
              rotate_left
              ·simp only[Act.put,List.setIfInBounds_toArray,List.set_cons_zero,List.set_cons_succ,i64_w,i32_w]
               rfl
              refine take_ (i:=10) (N:=some 40) (v:=?_) (a':=?_) #[true,true,true,true,true,true,true,true,true,true,true,false,false] rfl rfl (take_ofW HT_.out HW_.out (by kernel_rfl)) (fun _ _ _ h=>h) (Or.inl ⟨by rfl,?_⟩) hHeld ?_ ?_
              rotate_left
              ·rintro w' ⟨s0,s1,s2,s3⟩
               go_simp
               with_reducible rfl
              rotate_left
              ·simp only[Act.put,List.setIfInBounds_toArray,List.set_cons_zero,List.set_cons_succ,i64_w,i32_w]
               rfl
              refine pure_ (i:=11) (N:=some 41) (v:=?_) (a':=?_) #[true,true,true,true,true,true,true,true,true,true,true,true,false] rfl rfl (any_of HT_.out (by kernel_rfl)) (fun _ _ _ h=>h) (Or.inl ⟨by rfl,?_⟩) ?_ ?_
              rotate_left
              ·intro w'
               go_simp
               with_reducible rfl
              rotate_left
              ·simp only[Act.put,List.setIfInBounds_toArray,List.set_cons_zero,List.set_cons_succ,i64_w,i32_w]
               rfl
              refine pure_ (i:=12) (N:=some 42) (v:=?_) (a':=?_) #[true,true,true,true,true,true,true,true,true,true,true,true,true] rfl rfl (any_of HT_.out (by kernel_rfl)) (fun _ _ _ h=>h) (Or.inl ⟨by rfl,?_⟩) ?_ ?_
              rotate_left
              ·intro w'
               go_simp
               with_reducible rfl
              rotate_left
              ·simp only[Act.put,List.setIfInBounds_toArray,List.set_cons_zero,List.set_cons_succ,i64_w,i32_w]
               rfl
              refine done_ (done_of HT_.out (by kernel_rfl)) ?_
              try go_wp2
              (try (rw[drewN_self w34];generalize hq_:World.drewN w34 _=w34;have n0_:=Aside0.mk (Kd.R_at hq_ HO_4.out);have n1_:=Aside0.mk (Kd.N_at hq_ HO_179001.out);have n2_:=Aside0.mk (Kd.V_at hq_ HO_192000.out);have n3_:=Aside0.mk (blk_at hq_ BK178.out);have n4_:=Aside0.mk (blk_at hq_ BK179.out);have n5_:=Aside0.mk (blk_at hq_ BK191.out);have n6_:=Aside0.mk (below_at hq_ HB.out);clear hq_ HO_4 HO_179001 HO_192000 BK178 BK179 BK191 HB;have HO_4:=n0_;have HO_179001:=n1_;have HO_192000:=n2_;have BK178:=n3_;have BK179:=n4_;have BK191:=n5_;have HB:=n6_;clear n0_ n1_ n2_ n3_ n4_ n5_ n6_))
              have n0_:=Aside0.mk (Kd.R_drew HO_4.out)
              have n1_:=Aside0.mk (Kd.N_drew HO_179001.out)
              have n2_:=Aside0.mk (Kd.V_drew HO_192000.out)
              have n3_:=Aside0.mk (blk_drew BK178.out)
              have n4_:=Aside0.mk (blk_drew BK179.out)
              have n5_:=Aside0.mk (blk_drew BK191.out)
              have n6_:=Aside0.mk (below_drew1 HB.out)
              clear HO_4 HO_179001 HO_192000 BK178 BK179 BK191 HB
              have HO_4:=n0_
              have HO_179001:=n1_
              have HO_192000:=n2_
              have BK178:=n3_
              have BK179:=n4_
              have BK191:=n5_
              have HB:=n6_
              clear n0_ n1_ n2_ n3_ n4_ n5_ n6_
              have p193:0≤(0:Int):=(by omega)
              have q193:0 < (x192000_2.length:Int):=of_decide_eq_true (bD)
              obtain⟨ad193,e193,hx193_0⟩:=Kd.at_int (Kd.V_reads' HO_192000.out).2.2 0 p193 q193
              obtain rfl:ad192=ad193:=(by injection e193)
              have qi193:(0 < x192000_2.length)=True:=eq_true (by omega)
              (try rw[show((0:Int)).toNat=0 from rfl] at hx193_0)
              (try rw[Addr.add_zero'] at hx193_0)
              replace p193:=eq_true p193
              replace q193:=eq_true q193
              refine start_ (n:=9) (S:=fun w'=>w'.cell? ⟨gb191,0,none⟩=some (.slice (some ad192) x192000_2.length co35)∧w'.cell? ⟨gb191,1,none⟩=some (.int .i64 x192001_2)∧w'.cell? ⟨gb191,2,none⟩=some (.int .i64 x192002_2)∧w'.cell? ad192=some (.int .i64 (rd x192000_2 0))) (ds:=[8]) #[false,false,false,false,false,false,false,false,false] (by kernel_rfl) rfl rfl ⟨(blk_cell BK191.out 0).trans rfl,(blk_cell BK191.out 1).trans rfl,(blk_cell BK191.out 2).trans rfl,hx193_0⟩ (fun hHeld => ?_);refine with_tabW spec_l14Round.tab10 spec_l14Round.bits10 (fun HT_ HW_ => ?_)
              generalize w34.drew=w36 at HO_4 HO_179001 HO_192000 BK178 BK179 BK191 HB hx193_0 hHeld ⊢
              refine pure_ (i:=0) (N:=some 43) (v:=?_) (a':=?_) #[true,false,false,false,false,false,false,false,false] rfl rfl (any_of HT_.out (by kernel_rfl)) (fun _ _ _ h=>h) (Or.inl ⟨by rfl,?_⟩) ?_ ?_
              rotate_left
              ·intro w'
               go_simp
               with_reducible rfl
              rotate_left
              ·simp only[Act.put,List.setIfInBounds_toArray,List.set_cons_zero,List.set_cons_succ,i64_w,i32_w]
               rfl
              refine pure_ (i:=2) (N:=some 45) (v:=?_) (a':=?_) #[true,false,true,false,false,false,false,false,false] rfl rfl (any_of HT_.out (by kernel_rfl)) (fun _ _ _ h=>h) (Or.inl ⟨by rfl,?_⟩) ?_ ?_
              rotate_left
              ·intro w'
               go_simp
               with_reducible rfl
              rotate_left
              ·simp only[Act.put,List.setIfInBounds_toArray,List.set_cons_zero,List.set_cons_succ,i64_w,i32_w]
               rfl
              refine take_ (i:=1) (N:=some 44) (v:=?_) (a':=?_) #[true,true,true,false,false,false,false,false,false] rfl rfl (take_ofW HT_.out HW_.out (by kernel_rfl)) (fun _ _ _ h=>h) (Or.inl ⟨by rfl,?_⟩) hHeld ?_ ?_
              rotate_left
              ·rintro w' ⟨s0,s1,s2,s3⟩
               go_simp
               with_reducible rfl
              rotate_left
              ·simp only[Act.put,List.setIfInBounds_toArray,List.set_cons_zero,List.set_cons_succ,i64_w,i32_w]
               rfl
              refine take_ (i:=3) (N:=some 46) (v:=?_) (a':=?_) #[true,true,true,true,false,false,false,false,false] rfl rfl (take_ofW HT_.out HW_.out (by kernel_rfl)) (fun _ _ _ h=>h) (Or.inl ⟨by rfl,?_⟩) hHeld ?_ ?_
              rotate_left
              ·rintro w' ⟨s0,s1,s2,s3⟩
               go_simp
               with_reducible rfl
              rotate_left
              ·simp only[Act.put,List.setIfInBounds_toArray,List.set_cons_zero,List.set_cons_succ,i64_w,i32_w]
               rfl
              refine pure_ (i:=4) (N:=some 47) (v:=?_) (a':=?_) #[true,true,true,true,true,false,false,false,false] rfl rfl (any_of HT_.out (by kernel_rfl)) (fun _ _ _ h=>h) (Or.inl ⟨by rfl,?_⟩) ?_ ?_
              rotate_left
              ·intro w'
               go_simp
               with_reducible rfl
              rotate_left
              ·simp only[Act.put,List.setIfInBounds_toArray,List.set_cons_zero,List.set_cons_succ,i64_w,i32_w]
               rfl
              refine take_ (i:=5) (N:=some 48) (v:=?_) (a':=?_) #[true,true,true,true,true,true,false,false,false] rfl rfl (take_ofW HT_.out HW_.out (by kernel_rfl)) (fun _ _ _ h=>h) (Or.inl ⟨by rfl,?_⟩) hHeld ?_ ?_
              rotate_left
              ·rintro w' ⟨s0,s1,s2,s3⟩
               go_simp
               with_reducible rfl
              rotate_left
              ·simp only[Act.put,List.setIfInBounds_toArray,List.set_cons_zero,List.set_cons_succ,i64_w,i32_w]
               rfl
              refine pure_ (i:=6) (N:=some 49) (v:=?_) (a':=?_) #[true,true,true,true,true,true,true,false,false] rfl rfl (any_of HT_.out (by kernel_rfl)) (fun _ _ _ h=>h) (Or.inl ⟨by rfl,?_⟩) ?_ ?_
              rotate_left
              ·intro w'
               go_simp
               with_reducible rfl
              rotate_left
              ·simp only[Act.put,List.setIfInBounds_toArray,List.set_cons_zero,List.set_cons_succ,i64_w,i32_w]
               rfl
              refine pure_ (i:=7) (N:=some 50) (v:=?_) (a':=?_) #[true,true,true,true,true,true,true,true,false] rfl rfl (any_of HT_.out (by kernel_rfl)) (fun _ _ _ h=>h) (Or.inl ⟨by rfl,?_⟩) ?_ ?_
              rotate_left
              ·intro w'
               go_simp
               with_reducible rfl
              rotate_left
              ·simp only[Act.put,List.setIfInBounds_toArray,List.set_cons_zero,List.set_cons_succ,i64_w,i32_w]
               rfl
              refine last_ (i:=8) (N:=none) #[true,true,true,true,true,true,true,true,true] rfl rfl (one_of HT_.out (by kernel_rfl)) (by decide) (fun K hK => ?_)
              have hs37:w36.cell? ⟨gb191,1,none⟩=some (.int .i64 x192001_2):=(blk_cell BK191.out 1).trans rfl
              have hfs37:=blk_frozen BK191.out 1
              have hns37_0:=NB178_191.out
              have hns37_1:=NB179_191.out
              have hms37_0:=NB191_178.out
              have hms37_1:=NB191_179.out
              refine skip_ (w1:=?_) (by rfl) rfl ?_ ?_
              rotate_left
              ·go_simp
               rfl
              refine hK.out _ _ ?_
              clear hK K
              refine done_ (done_of HT_.out (by kernel_rfl)) ?_
              try go_wp2
              have n0_:Aside0 (Kd.R (Kd.int .i64) 3 (w36.setCell ⟨gb191,1,none⟩ (.int .i64 (wrap64 (x192001_2 - (rd x192000_2 0))))) w.heap.size (fun k_=>(w.heap.size≤k_)) u4 x4_2):=⟨by(with_reducible repeat (first|apply Kd.R_alloc|apply Kd.R_drewN|apply Kd.R_drew));exact Kd.R_mono (Kd.R_far (p:=⟨gb191,1,none⟩) (Kd.R_types HO_4.out BK191.out (by decide)) (fun _ hk=>hk.2) (.int .i64 (wrap64 (x192001_2 - (rd x192000_2 0))))) (fun _ hk=>hk.1)⟩
              have n1_:Aside0 (Kd.N k116 116 (w36.setCell ⟨gb191,1,none⟩ (.int .i64 (wrap64 (x192001_2 - (rd x192000_2 0))))) w.heap.size (fun k_=>(w.heap.size≤k_)∧some k_≠(u4:Value).ownBlock∧k_≠gb178∧k_≠gb179∧k_≠gb191) (.slice (some ad190) x179001_1.length co23) x179001_1):=⟨by(with_reducible repeat (first|apply Kd.N_alloc|apply Kd.N_drewN|apply Kd.N_drew));exact Kd.N_mono (Kd.N_far (p:=⟨gb191,1,none⟩) (Kd.N_mono HO_179001.out (fun k_ hk=>(⟨hk,hk.2.2.2.2⟩:_∧k_≠gb191))) (fun _ hk=>hk.2) (.int .i64 (wrap64 (x192001_2 - (rd x192000_2 0))))) (fun _ hk=>⟨hk.1.1,⟨hk.1.2.1,⟨hk.1.2.2.1,⟨hk.1.2.2.2.1,hk.1.2.2.2.2⟩⟩⟩⟩)⟩
              have n2_:Aside0 (Kd.V (Kd.int .i64) 3 (w36.setCell ⟨gb191,1,none⟩ (.int .i64 (wrap64 (x192001_2 - (rd x192000_2 0))))) w.heap.size (fun k_=>(w.heap.size≤k_)∧some k_≠(u4:Value).ownBlock∧some k_≠(.slice (some ad190) x179001_1.length co23:Value).ownBlock∧k_≠gb178∧k_≠gb179∧k_≠gb191) (.slice (some ad192) x192000_2.length co35) x192000_2):=⟨by(with_reducible repeat (first|apply Kd.V_alloc|apply Kd.V_drewN|apply Kd.V_drew));exact Kd.V_mono (Kd.V_far (p:=⟨gb191,1,none⟩) (Kd.V_mono HO_192000.out (fun k_ hk=>(⟨hk,hk.2.2.2.2.2⟩:_∧k_≠gb191))) (fun _ hk=>hk.2) (.int .i64 (wrap64 (x192001_2 - (rd x192000_2 0))))) (fun _ hk=>⟨hk.1.1,⟨hk.1.2.1,⟨hk.1.2.2.1,⟨hk.1.2.2.2.1,⟨hk.1.2.2.2.2.1,hk.1.2.2.2.2.2⟩⟩⟩⟩⟩)⟩
              have n3_:Aside0 ((w36.setCell ⟨gb191,1,none⟩ (.int .i64 (wrap64 (x192001_2 - (rd x192000_2 0))))).heap[gb178]?=some (.cells #[.int .i64 t180,.slice (some ad190) x179001_1.length co23,.int .i64 t184] 28 (0,0))):=⟨by(with_reducible repeat (first|refine blk_drewN ?_ _|refine blk_drew ?_|refine blk_alloc ?_ _));refine blk_far ?_ NB178_191.out _;(with_reducible repeat (first|refine blk_drewN ?_ _|refine blk_drew ?_|refine blk_alloc ?_ _));exact BK178.out⟩
              have n4_:Aside0 ((w36.setCell ⟨gb191,1,none⟩ (.int .i64 (wrap64 (x192001_2 - (rd x192000_2 0))))).heap[gb179]?=some (.cells #[.int .i64 0,.slice none 0 0,.int .i64 0] 28 (0,0))):=⟨by(with_reducible repeat (first|refine blk_drewN ?_ _|refine blk_drew ?_|refine blk_alloc ?_ _));refine blk_far ?_ NB179_191.out _;(with_reducible repeat (first|refine blk_drewN ?_ _|refine blk_drew ?_|refine blk_alloc ?_ _));exact BK179.out⟩
              have n5_:Aside0 ((w36.setCell ⟨gb191,1,none⟩ (.int .i64 (wrap64 (x192001_2 - (rd x192000_2 0))))).heap[gb191]?=some (.cells #[.slice (some ad192) x192000_2.length co35,.int .i64 (wrap64 (x192001_2 - (rd x192000_2 0))),.int .i64 x192002_2] 116 (0,0))):=⟨by(with_reducible repeat (first|refine blk_drewN ?_ _|refine blk_drew ?_|refine blk_alloc ?_ _));refine blk_put (cs:=#[.slice (some ad192) x192000_2.length co35,.int .i64 x192001_2,.int .i64 x192002_2]) ?_ 1 _ rfl;(with_reducible repeat (first|refine blk_drewN ?_ _|refine blk_drew ?_|refine blk_alloc ?_ _));exact BK191.out⟩
              have n6_:Aside0 (Below w.heap.size w (w36.setCell ⟨gb191,1,none⟩ (.int .i64 (wrap64 (x192001_2 - (rd x192000_2 0)))))):=⟨bS3 GE178.out GE179.out GE191.out⟩
              (try clear HO_4)
              (try clear HO_179001)
              (try clear HO_192000)
              (try clear BK178)
              (try clear BK179)
              (try clear BK191)
              (try clear HB)
              generalize (w36.setCell ⟨gb191,1,none⟩ (.int .i64 (wrap64 (x192001_2 - (rd x192000_2 0)))))=w38 at n0_ n1_ n2_ n3_ n4_ n5_ n6_ ⊢
              have HO_4:=n0_
              have HO_179001:=n1_
              have HO_192000:=n2_
              have BK178:=n3_
              have BK179:=n4_
              have BK191:=n5_
              have HB:=n6_
              clear n0_ n1_ n2_ n3_ n4_ n5_ n6_
              (try (rw[drewN_self w38];generalize hq_:World.drewN w38 _=w38;have n0_:=Aside0.mk (Kd.R_at hq_ HO_4.out);have n1_:=Aside0.mk (Kd.N_at hq_ HO_179001.out);have n2_:=Aside0.mk (Kd.V_at hq_ HO_192000.out);have n3_:=Aside0.mk (blk_at hq_ BK178.out);have n4_:=Aside0.mk (blk_at hq_ BK179.out);have n5_:=Aside0.mk (blk_at hq_ BK191.out);have n6_:=Aside0.mk (below_at hq_ HB.out);clear hq_ HO_4 HO_179001 HO_192000 BK178 BK179 BK191 HB;have HO_4:=n0_;have HO_179001:=n1_;have HO_192000:=n2_;have BK178:=n3_;have BK179:=n4_;have BK191:=n5_;have HB:=n6_;clear n0_ n1_ n2_ n3_ n4_ n5_ n6_))
              have n0_:=Aside0.mk (Kd.R_drew HO_4.out)
              have n1_:=Aside0.mk (Kd.N_drew HO_179001.out)
              have n2_:=Aside0.mk (Kd.V_drew HO_192000.out)
              have n3_:=Aside0.mk (blk_drew BK178.out)
              have n4_:=Aside0.mk (blk_drew BK179.out)
              have n5_:=Aside0.mk (blk_drew BK191.out)
              have n6_:=Aside0.mk (below_drew1 HB.out)
              clear HO_4 HO_179001 HO_192000 BK178 BK179 BK191 HB
              have HO_4:=n0_
              have HO_179001:=n1_
              have HO_192000:=n2_
              have BK178:=n3_
              have BK179:=n4_
              have BK191:=n5_
              have HB:=n6_
              clear n0_ n1_ n2_ n3_ n4_ n5_ n6_
              have p194:0≤(0:Int):=(by omega)
              have q194:0 < (x192000_2.length:Int):=of_decide_eq_true (bD)
              obtain⟨ad194,e194,hx194_0⟩:=Kd.at_int (Kd.V_reads' HO_192000.out).2.2 0 p194 q194
              obtain rfl:ad192=ad194:=(by injection e194)
              have qi194:(0 < x192000_2.length)=True:=eq_true (by omega)
              (try rw[show((0:Int)).toNat=0 from rfl] at hx194_0)
              (try rw[Addr.add_zero'] at hx194_0)
              replace p194:=eq_true p194
              replace q194:=eq_true q194
              refine start_ (n:=9) (S:=fun w'=>w'.cell? ⟨gb191,0,none⟩=some (.slice (some ad192) x192000_2.length co35)∧w'.cell? ⟨gb191,1,none⟩=some (.int .i64 (wrap64 (x192001_2 - (rd x192000_2 0))))∧w'.cell? ⟨gb191,2,none⟩=some (.int .i64 x192002_2)∧w'.cell? ad192=some (.int .i64 (rd x192000_2 0))) (ds:=[8]) #[false,false,false,false,false,false,false,false,false] (by kernel_rfl) rfl rfl ⟨(blk_cell BK191.out 0).trans rfl,(blk_cell BK191.out 1).trans rfl,(blk_cell BK191.out 2).trans rfl,hx194_0⟩ (fun hHeld => ?_);refine with_tabW spec_l14Round.tab11 spec_l14Round.bits11 (fun HT_ HW_ => ?_)
              generalize w38.drew=w39 at HO_4 HO_179001 HO_192000 BK178 BK179 BK191 HB hx194_0 hHeld ⊢
              refine pure_ (i:=0) (N:=some 51) (v:=?_) (a':=?_) #[true,false,false,false,false,false,false,false,false] rfl rfl (any_of HT_.out (by kernel_rfl)) (fun _ _ _ h=>h) (Or.inl ⟨by rfl,?_⟩) ?_ ?_
              rotate_left
              ·intro w'
               go_simp
               with_reducible rfl
              rotate_left
              ·simp only[Act.put,List.setIfInBounds_toArray,List.set_cons_zero,List.set_cons_succ,i64_w,i32_w]
               rfl
              refine pure_ (i:=2) (N:=some 53) (v:=?_) (a':=?_) #[true,false,true,false,false,false,false,false,false] rfl rfl (any_of HT_.out (by kernel_rfl)) (fun _ _ _ h=>h) (Or.inl ⟨by rfl,?_⟩) ?_ ?_
              rotate_left
              ·intro w'
               go_simp
               with_reducible rfl
              rotate_left
              ·simp only[Act.put,List.setIfInBounds_toArray,List.set_cons_zero,List.set_cons_succ,i64_w,i32_w]
               rfl
              refine take_ (i:=1) (N:=some 52) (v:=?_) (a':=?_) #[true,true,true,false,false,false,false,false,false] rfl rfl (take_ofW HT_.out HW_.out (by kernel_rfl)) (fun _ _ _ h=>h) (Or.inl ⟨by rfl,?_⟩) hHeld ?_ ?_
              rotate_left
              ·rintro w' ⟨s0,s1,s2,s3⟩
               go_simp
               with_reducible rfl
              rotate_left
              ·simp only[Act.put,List.setIfInBounds_toArray,List.set_cons_zero,List.set_cons_succ,i64_w,i32_w]
               rfl
              refine take_ (i:=3) (N:=some 54) (v:=?_) (a':=?_) #[true,true,true,true,false,false,false,false,false] rfl rfl (take_ofW HT_.out HW_.out (by kernel_rfl)) (fun _ _ _ h=>h) (Or.inl ⟨by rfl,?_⟩) hHeld ?_ ?_
              rotate_left
              ·rintro w' ⟨s0,s1,s2,s3⟩
               go_simp
               with_reducible rfl
              rotate_left
              ·simp only[Act.put,List.setIfInBounds_toArray,List.set_cons_zero,List.set_cons_succ,i64_w,i32_w]
               rfl
              refine pure_ (i:=4) (N:=some 55) (v:=?_) (a':=?_) #[true,true,true,true,true,false,false,false,false] rfl rfl (any_of HT_.out (by kernel_rfl)) (fun _ _ _ h=>h) (Or.inl ⟨by rfl,?_⟩) ?_ ?_
              rotate_left
              ·intro w'
               go_simp
               with_reducible rfl
              rotate_left
              ·simp only[Act.put,List.setIfInBounds_toArray,List.set_cons_zero,List.set_cons_succ,i64_w,i32_w]
               rfl
              refine take_ (i:=5) (N:=some 56) (v:=?_) (a':=?_) #[true,true,true,true,true,true,false,false,false] rfl rfl (take_ofW HT_.out HW_.out (by kernel_rfl)) (fun _ _ _ h=>h) (Or.inl ⟨by rfl,?_⟩) hHeld ?_ ?_
              rotate_left
              ·rintro w' ⟨s0,s1,s2,s3⟩
               go_simp
               with_reducible rfl
              rotate_left
              ·simp only[Act.put,List.setIfInBounds_toArray,List.set_cons_zero,List.set_cons_succ,i64_w,i32_w]
               rfl
              refine pure_ (i:=6) (N:=some 57) (v:=?_) (a':=?_) #[true,true,true,true,true,true,true,false,false] rfl rfl (any_of HT_.out (by kernel_rfl)) (fun _ _ _ h=>h) (Or.inl ⟨by rfl,?_⟩) ?_ ?_
              rotate_left
              ·intro w'
               go_simp
               with_reducible rfl
              rotate_left
              ·simp only[Act.put,List.setIfInBounds_toArray,List.set_cons_zero,List.set_cons_succ,i64_w,i32_w]
               rfl
              refine pure_ (i:=7) (N:=some 58) (v:=?_) (a':=?_) #[true,true,true,true,true,true,true,true,false] rfl rfl (any_of HT_.out (by kernel_rfl)) (fun _ _ _ h=>h) (Or.inl ⟨by rfl,?_⟩) ?_ ?_
              rotate_left
              ·intro w'
               go_simp
               with_reducible rfl
              rotate_left
              ·simp only[Act.put,List.setIfInBounds_toArray,List.set_cons_zero,List.set_cons_succ,i64_w,i32_w]
               rfl
              refine last_ (i:=8) (N:=none) #[true,true,true,true,true,true,true,true,true] rfl rfl (one_of HT_.out (by kernel_rfl)) (by decide) (fun K hK => ?_)
              have hs40:w39.cell? ⟨gb191,2,none⟩=some (.int .i64 x192002_2):=(blk_cell BK191.out 2).trans rfl
              have hfs40:=blk_frozen BK191.out 2
              have hns40_0:=NB178_191.out
              have hns40_1:=NB179_191.out
              have hms40_0:=NB191_178.out
              have hms40_1:=NB191_179.out
              refine skip_ (w1:=?_) (by rfl) rfl ?_ ?_
              rotate_left
              ·go_simp
               rfl
              refine hK.out _ _ ?_
              clear hK K
              refine done_ (done_of HT_.out (by kernel_rfl)) ?_
              have n0_:Aside0 (Kd.R (Kd.int .i64) 3 (w39.setCell ⟨gb191,2,none⟩ (.int .i64 (wrap64 (x192002_2+(rd x192000_2 0))))) w.heap.size (fun k_=>(w.heap.size≤k_)) u4 x4_2):=⟨by(with_reducible repeat (first|apply Kd.R_alloc|apply Kd.R_drewN|apply Kd.R_drew));exact Kd.R_mono (Kd.R_far (p:=⟨gb191,2,none⟩) (Kd.R_types HO_4.out BK191.out (by decide)) (fun _ hk=>hk.2) (.int .i64 (wrap64 (x192002_2+(rd x192000_2 0))))) (fun _ hk=>hk.1)⟩
              have n1_:Aside0 (Kd.N k116 116 (w39.setCell ⟨gb191,2,none⟩ (.int .i64 (wrap64 (x192002_2+(rd x192000_2 0))))) w.heap.size (fun k_=>(w.heap.size≤k_)∧some k_≠(u4:Value).ownBlock∧k_≠gb178∧k_≠gb179∧k_≠gb191) (.slice (some ad190) x179001_1.length co23) x179001_1):=⟨by(with_reducible repeat (first|apply Kd.N_alloc|apply Kd.N_drewN|apply Kd.N_drew));exact Kd.N_mono (Kd.N_far (p:=⟨gb191,2,none⟩) (Kd.N_mono HO_179001.out (fun k_ hk=>(⟨hk,hk.2.2.2.2⟩:_∧k_≠gb191))) (fun _ hk=>hk.2) (.int .i64 (wrap64 (x192002_2+(rd x192000_2 0))))) (fun _ hk=>⟨hk.1.1,⟨hk.1.2.1,⟨hk.1.2.2.1,⟨hk.1.2.2.2.1,hk.1.2.2.2.2⟩⟩⟩⟩)⟩
              have n2_:Aside0 (Kd.V (Kd.int .i64) 3 (w39.setCell ⟨gb191,2,none⟩ (.int .i64 (wrap64 (x192002_2+(rd x192000_2 0))))) w.heap.size (fun k_=>(w.heap.size≤k_)∧some k_≠(u4:Value).ownBlock∧some k_≠(.slice (some ad190) x179001_1.length co23:Value).ownBlock∧k_≠gb178∧k_≠gb179∧k_≠gb191) (.slice (some ad192) x192000_2.length co35) x192000_2):=⟨by(with_reducible repeat (first|apply Kd.V_alloc|apply Kd.V_drewN|apply Kd.V_drew));exact Kd.V_mono (Kd.V_far (p:=⟨gb191,2,none⟩) (Kd.V_mono HO_192000.out (fun k_ hk=>(⟨hk,hk.2.2.2.2.2⟩:_∧k_≠gb191))) (fun _ hk=>hk.2) (.int .i64 (wrap64 (x192002_2+(rd x192000_2 0))))) (fun _ hk=>⟨hk.1.1,⟨hk.1.2.1,⟨hk.1.2.2.1,⟨hk.1.2.2.2.1,⟨hk.1.2.2.2.2.1,hk.1.2.2.2.2.2⟩⟩⟩⟩⟩)⟩
              have n3_:Aside0 ((w39.setCell ⟨gb191,2,none⟩ (.int .i64 (wrap64 (x192002_2+(rd x192000_2 0))))).heap[gb178]?=some (.cells #[.int .i64 t180,.slice (some ad190) x179001_1.length co23,.int .i64 t184] 28 (0,0))):=⟨by(with_reducible repeat (first|refine blk_drewN ?_ _|refine blk_drew ?_|refine blk_alloc ?_ _));refine blk_far ?_ NB178_191.out _;(with_reducible repeat (first|refine blk_drewN ?_ _|refine blk_drew ?_|refine blk_alloc ?_ _));exact BK178.out⟩
              have n4_:Aside0 ((w39.setCell ⟨gb191,2,none⟩ (.int .i64 (wrap64 (x192002_2+(rd x192000_2 0))))).heap[gb179]?=some (.cells #[.int .i64 0,.slice none 0 0,.int .i64 0] 28 (0,0))):=⟨by(with_reducible repeat (first|refine blk_drewN ?_ _|refine blk_drew ?_|refine blk_alloc ?_ _));refine blk_far ?_ NB179_191.out _;(with_reducible repeat (first|refine blk_drewN ?_ _|refine blk_drew ?_|refine blk_alloc ?_ _));exact BK179.out⟩
              have n5_:Aside0 ((w39.setCell ⟨gb191,2,none⟩ (.int .i64 (wrap64 (x192002_2+(rd x192000_2 0))))).heap[gb191]?=some (.cells #[.slice (some ad192) x192000_2.length co35,.int .i64 (wrap64 (x192001_2 - (rd x192000_2 0))),.int .i64 (wrap64 (x192002_2+(rd x192000_2 0)))] 116 (0,0))):=⟨by(with_reducible repeat (first|refine blk_drewN ?_ _|refine blk_drew ?_|refine blk_alloc ?_ _));refine blk_put (cs:=#[.slice (some ad192) x192000_2.length co35,.int .i64 (wrap64 (x192001_2 - (rd x192000_2 0))),.int .i64 x192002_2]) ?_ 2 _ rfl;(with_reducible repeat (first|refine blk_drewN ?_ _|refine blk_drew ?_|refine blk_alloc ?_ _));exact BK191.out⟩
              have n6_:Aside0 (Below w.heap.size w (w39.setCell ⟨gb191,2,none⟩ (.int .i64 (wrap64 (x192002_2+(rd x192000_2 0)))))):=⟨bS3 GE178.out GE179.out GE191.out⟩
              (try clear HO_4)
              (try clear HO_179001)
              (try clear HO_192000)
              (try clear BK178)
              (try clear BK179)
              (try clear BK191)
              (try clear HB)
              generalize (w39.setCell ⟨gb191,2,none⟩ (.int .i64 (wrap64 (x192002_2+(rd x192000_2 0)))))=w41 at n0_ n1_ n2_ n3_ n4_ n5_ n6_ ⊢
              have HO_4:=n0_
              have HO_179001:=n1_
              have HO_192000:=n2_
              have BK178:=n3_
              have BK179:=n4_
              have BK191:=n5_
              have HB:=n6_
              clear n0_ n1_ n2_ n3_ n4_ n5_ n6_
              have hnb42:=NB191_178.out
              have hnc42:=NB178_191.out
              have hnb43:=NB191_179.out
              have hnc43:=NB179_191.out
              obtain⟨hcz44_0,hcz44_1,hcz44_2⟩:=cC3 BK191.out
              obtain⟨hfz44_0,hfz44_1,hfz44_2⟩:=cF3 BK191.out
              have q45:(1:Int)≤((x192000_2.length:Int):Int):=of_decide_eq_true (bD)
              obtain⟨i045,hi045,_,hsz45,_⟩:=info_parts info3
              have hroom45:x192000_2.length≤co35:=(Kd.V_reads' HO_192000.out).2.1
              have hC45:Kd.F (Kd.int .i64) _ _ (some ad192) x192000_2.length x192000_2:=(Kd.V_at (base:=w.heap.size) HO_192000.out).2.2
              have hcut45:=cut_from (P:=Try.prog) 37 3 .i64 Try.underlying37 hi045 1 hsz45 (some ad192) x192000_2.length co35 1 (by omega) q45
              have hr45:=Kd.F_cut (m:=(1:Int).toNat) (c:=co35) hC45 (by omega) hroom45
              obtain⟨A45,hA45⟩ : ∃ A1,A1=(if co35=(1:Int).toNat then (some ad192) else ((some ad192):Option Addr).map (·.add ((1:Int).toNat * 1))):=⟨_,rfl⟩
              obtain⟨c45,hc45⟩ : ∃ c1,c1=co35 - (1:Int).toNat:=⟨_,rfl⟩
              have hy45:y195.length=x192000_2.length - (1:Int).toNat:=(by rw[Ny195.out,List.length_drop]<;>omega)
              rw[show(x192000_2).drop (1:Int).toNat=y195 from Ny195.out.symm] at hr45
              replace hr45:Kd.F (Kd.int .i64) _ _ A45 y195.length y195:=(by rw[hA45];exact hr45)
              rw[← hy45,← hA45,← hc45] at hcut45
              have HO199:=Aside0.mk (show Kd.V (Kd.int .i64) 3 _ w.heap.size _ (.slice A45 y195.length c45) y195 from Kd.V_mk (by rw[hy45,hc45];exact Nat.sub_le_sub_right hroom45 _) hr45)
              have HC199:=Aside0.mk (show y195.length≤c45 from by rw[hy45,hc45];exact Nat.sub_le_sub_right hroom45 _)
              clear hr45 hC45 hroom45 hi045 hsz45 hc45
              have KY45:=Aside0.mk hy45
              have KA45:=Aside0.mk hA45
              clear hy45 hA45
              replace q45:=eq_true q45
              try go_wp2_with (first|((with_reducible refine gate_builtin (b:=.append) (xs:=#[.tmp 63,.tmp 65]) rfl ?_);at_builtin;refine Kd.R_append (Kd.int .i64) (w0:=w) w.heap.size rfl (.tmp 63) (.tmp 65) 37 3 (.int .i64 0) 8 rfl Try.underlying37 info3 rfl (by decide) (by omega) u4 x4_2 x12_1 [.int .i64 x12_1] (fun k_=>(w.heap.size≤k_)) (fun _=>False) rfl (by first|(go_simp;done)|(go_simp;rfl)) ?aP (fun _ hk=>hk.elim) ?aF ?aO ?aB ?aS ?aL ?_;(case aP=>exact rfl);(case aB=>exact(bS3 GE178.out GE179.out GE191.out));(case aF=>exact(fun k_ hk=>(Nat.le_trans (below_size (bS3 GE178.out GE179.out GE191.out)) hk)));(case aO=>exact(by(with_reducible repeat (first|apply Kd.R_alloc|apply Kd.R_drewN|apply Kd.R_drew));exact Kd.R_mono (Kd.R_far (p:=⟨gb191,0,none⟩) (Kd.R_types HO_4.out BK191.out (by decide)) (fun _ hk=>hk.2) (.slice A45 y195.length c45)) (fun _ hk=>hk.1)));(case aS=>exact(below_size (bS3 GE178.out GE179.out GE191.out)));(case aL=>have:=LMc33.out;omega);intro v201 w46 ho hb hg hat;rw[← Ny200.out] at ho;have n0_:=Aside0.mk (Kd.N_afterv (ok:=(fun k_=>(w.heap.size≤k_)∧k_≠gb178∧k_≠gb179∧k_≠gb191)) (by(with_reducible repeat (first|apply Kd.N_alloc|apply Kd.N_drewN|apply Kd.N_drew));exact Kd.N_mono (Kd.N_far (p:=⟨gb191,0,none⟩) (Kd.N_mono HO_179001.out (fun k_ hk=>(⟨hk,hk.2.2.2.2⟩:_∧k_≠gb191))) (fun _ hk=>hk.2) (.slice A45 y195.length c45)) (fun _ hk=>⟨⟨hk.1.1,⟨hk.1.2.2.1,⟨hk.1.2.2.2.1,hk.1.2.2.2.2⟩⟩⟩,hk.1.2.1⟩)) hg hat);have n1_:=Aside0.mk (Kd.V_afterv (ok:=(fun k_=>(w.heap.size≤k_)∧some k_≠(.slice (some ad190) x179001_1.length co23:Value).ownBlock∧k_≠gb178∧k_≠gb179∧k_≠gb191)) (by(with_reducible repeat (first|apply Kd.V_alloc|apply Kd.V_drewN|apply Kd.V_drew));exact Kd.V_mono (Kd.V_far (p:=⟨gb191,0,none⟩) (Kd.V_mono HO_192000.out (fun k_ hk=>(⟨hk,hk.2.2.2.2.2⟩:_∧k_≠gb191))) (fun _ hk=>hk.2) (.slice A45 y195.length c45)) (fun _ hk=>⟨⟨hk.1.1,⟨hk.1.2.2.1,⟨hk.1.2.2.2.1,⟨hk.1.2.2.2.2.1,hk.1.2.2.2.2.2⟩⟩⟩⟩,hk.1.2.1⟩)) hg hat);have n2_:=Aside0.mk (blk_grown (g:=gb178) (o:=.cells #[.int .i64 t180,.slice (some ad190) x179001_1.length co23,.int .i64 t184] 28 (0,0)) (by(with_reducible repeat (first|refine blk_drewN ?_ _|refine blk_drew ?_|refine blk_alloc ?_ _));refine blk_far ?_ NB178_191.out _;(with_reducible repeat (first|refine blk_drewN ?_ _|refine blk_drew ?_|refine blk_alloc ?_ _));exact BK178.out) hg (Kd.R_ne HO_4.out BK178.out (by decide)));have n3_:=Aside0.mk (blk_grown (g:=gb179) (o:=.cells #[.int .i64 0,.slice none 0 0,.int .i64 0] 28 (0,0)) (by(with_reducible repeat (first|refine blk_drewN ?_ _|refine blk_drew ?_|refine blk_alloc ?_ _));refine blk_far ?_ NB179_191.out _;(with_reducible repeat (first|refine blk_drewN ?_ _|refine blk_drew ?_|refine blk_alloc ?_ _));exact BK179.out) hg (Kd.R_ne HO_4.out BK179.out (by decide)));have n4_:=Aside0.mk (blk_grown (g:=gb191) (o:=.cells #[.slice A45 y195.length c45,.int .i64 (wrap64 (x192001_2 - (rd x192000_2 0))),.int .i64 (wrap64 (x192002_2+(rd x192000_2 0)))] 116 (0,0)) (by(with_reducible repeat (first|refine blk_drewN ?_ _|refine blk_drew ?_|refine blk_alloc ?_ _));refine blk_put (cs:=#[.slice (some ad192) x192000_2.length co35,.int .i64 (wrap64 (x192001_2 - (rd x192000_2 0))),.int .i64 (wrap64 (x192002_2+(rd x192000_2 0)))]) ?_ 0 _ rfl;(with_reducible repeat (first|refine blk_drewN ?_ _|refine blk_drew ?_|refine blk_alloc ?_ _));exact BK191.out) hg (Kd.R_ne HO_4.out BK191.out (by decide)));have n5_:=Aside0.mk (Kd.V_afterv (ok:=(fun k_=>(w.heap.size≤k_)∧some k_≠(.slice (some ad190) x179001_1.length co23:Value).ownBlock∧k_≠gb178∧k_≠gb179∧k_≠gb191)) (by(with_reducible repeat (first|apply Kd.V_alloc|apply Kd.V_drewN|apply Kd.V_drew));exact Kd.V_mono (Kd.V_far (p:=⟨gb191,0,none⟩) (Kd.V_mono HO199.out (fun k_ hk=>(⟨hk,hk.2.2.2.2.2⟩:_∧k_≠gb191))) (fun _ hk=>hk.2) (.slice A45 y195.length c45)) (fun _ hk=>⟨⟨hk.1.1,⟨hk.1.2.2.1,⟨hk.1.2.2.2.1,⟨hk.1.2.2.2.2.1,hk.1.2.2.2.2.2⟩⟩⟩⟩,hk.1.2.1⟩)) hg hat);have n6_:=Aside0.mk (hb);have n7_:=Aside0.mk (ho);clear HO_179001 HO_192000 BK178 BK179 BK191 HO199 HB HO_4;have HO_179001:=n0_;have HO_192000:=n1_;have BK178:=n2_;have BK179:=n3_;have BK191:=n4_;have HO199:=n5_;have HB:=n6_;have HO202:=n7_;clear n0_ n1_ n2_ n3_ n4_ n5_ n6_ n7_;clear ho hb hg hat))
              go_roundg k2
              case measure=>have:=HK1.out;have:=HK2.out;omega
              case rel=>exact⟨(y200),(y195),(wrap64 (x192001_2 - (rd x192000_2 0))),(wrap64 (x192002_2+(rd x192000_2 0))),(.slice A45 y195.length c45),H',⟨by have:=HK1.out;have:=HK2.out;omega⟩,⟨by(with_reducible repeat (first|apply Kd.R_alloc|apply Kd.R_drewN|apply Kd.R_drew));exact HO202.out⟩,⟨by(with_reducible repeat (first|apply Kd.N_alloc|apply Kd.N_drewN|apply Kd.N_drew));exact Kd.N_mono HO_179001.out (fun _ hk=>⟨hk.1.1,⟨hk.2,⟨hk.1.2.1,⟨hk.1.2.2.1,hk.1.2.2.2⟩⟩⟩⟩)⟩,⟨by(with_reducible repeat (first|apply Kd.V_alloc|apply Kd.V_drewN|apply Kd.V_drew));exact Kd.V_mono HO199.out (fun _ hk=>⟨hk.1.1,⟨hk.2,⟨hk.1.2.1,⟨hk.1.2.2.1,⟨hk.1.2.2.2.1,hk.1.2.2.2.2⟩⟩⟩⟩⟩)⟩,⟨by(with_reducible repeat (first|refine blk_drewN ?_ _|refine blk_drew ?_|refine blk_alloc ?_ _));exact BK178.out⟩,⟨by(with_reducible repeat (first|refine blk_drewN ?_ _|refine blk_drew ?_|refine blk_alloc ?_ _));exact BK179.out⟩,⟨by(with_reducible repeat (first|refine blk_drewN ?_ _|refine blk_drew ?_|refine blk_alloc ?_ _));exact BK191.out⟩,⟨bS3 GE178.out GE179.out GE191.out⟩⟩
             ·rw[if_neg c33] at H
              exact absurd H (by simp)
            ·rw[if_neg c32] at H
             exact absurd H (by simp)
           ·rw[if_neg c31] at H
            have c31b0:decide ((rd x192000_2 0)≤x192001_2)=false:=decide_eq_false c31
            clear c31
            by_cases c47:(x192000_2.length:Int)=0
            ·rw[if_pos c47] at H
             have c47b0:((x192000_2.length:Int) == 0)=true:=beq_iff_eq.mpr c47
             have c47b1:((x192000_2.length:Int) != 0)=false:=bne_eq_false_iff_eq.mpr c47
             clear c47
             by_cases c48:0≤x12_1
             ·rw[if_pos c48] at H
              have c48b0:decide (0≤x12_1)=true:=decide_eq_true c48
              clear c48
              by_cases c49:x12_1 < (x179001_1.length:Int)
              ·rw[if_pos c49] at H
               have c49b0:decide (x12_1 < (x179001_1.length:Int))=true:=decide_eq_true c49
               clear c49
               obtain⟨y203,hy203⟩ : ∃ y_:List (S116),y_=(x179001_1.set (x12_1:Int).toNat (⟨x192000_2,0,x192002_2⟩:S116)):=⟨_,rfl⟩
               replace H:(spec_l14Round.l0 k2 x4_2 (t181.length:Int) (wrap64 (x12_1+1)) t180 y203 t184)=some (r1,r2,r3,r4):=by first|(rw[hy203];with_reducible exact H)|(have H2_:=(Option.bind_some _ _).symm.trans H;rw[hy203];with_reducible exact H2_)|(have H2_:=(Option.bind_some _ _).symm.trans H;with_reducible exact H2_)|with_reducible exact H|(rw[hy203];exact H)|exact H
               have Ny203:=Aside0.mk hy203
               clear hy203
               have H':=Aside0.mk H
               clear H
               try go_wp2
               (try (rw[drewN_self wr];generalize hq_:World.drewN wr _=wr;have n0_:=Aside0.mk (Kd.R_at hq_ HO_4.out);have n1_:=Aside0.mk (Kd.N_at hq_ HO_179001.out);have n2_:=Aside0.mk (Kd.V_at hq_ HO_192000.out);have n3_:=Aside0.mk (blk_at hq_ BK178.out);have n4_:=Aside0.mk (blk_at hq_ BK179.out);have n5_:=Aside0.mk (blk_at hq_ BK191.out);have n6_:=Aside0.mk (below_at hq_ HB.out);clear hq_ HO_4 HO_179001 HO_192000 BK178 BK179 BK191 HB;have HO_4:=n0_;have HO_179001:=n1_;have HO_192000:=n2_;have BK178:=n3_;have BK179:=n4_;have BK191:=n5_;have HB:=n6_;clear n0_ n1_ n2_ n3_ n4_ n5_ n6_))
               have n0_:=Aside0.mk (Kd.R_drew HO_4.out)
               have n1_:=Aside0.mk (Kd.N_drew HO_179001.out)
               have n2_:=Aside0.mk (Kd.V_drew HO_192000.out)
               have n3_:=Aside0.mk (blk_drew BK178.out)
               have n4_:=Aside0.mk (blk_drew BK179.out)
               have n5_:=Aside0.mk (blk_drew BK191.out)
               have n6_:=Aside0.mk (below_drew1 HB.out)
               clear HO_4 HO_179001 HO_192000 BK178 BK179 BK191 HB
               have HO_4:=n0_
               have HO_179001:=n1_
               have HO_192000:=n2_
               have BK178:=n3_
               have BK179:=n4_
               have BK191:=n5_
               have HB:=n6_
               clear n0_ n1_ n2_ n3_ n4_ n5_ n6_
               obtain⟨Ao52,co52,eo52⟩:=Kd.V_slice HO_192000.out
               (first|subst eo52|(injection eo52 with f1_ f2_ f3_;have f4_:=f1_.symm;have f5_:=f3_.symm;clear f1_ f2_ f3_;subst f4_;subst f5_))
               have p192:0≤(0:Int):=(by omega)
               have q192:0 < (x192000_2.length:Int):=of_decide_eq_true (bD)
               obtain⟨ad192,e192,hx192_0⟩:=Kd.at_int (Kd.V_reads' HO_192000.out).2.2 0 p192 q192
               cases e192
               have qi192:(0 < x192000_2.length)=True:=eq_true (by omega)
               (try rw[show((0:Int)).toNat=0 from rfl] at hx192_0)
               (try rw[Addr.add_zero'] at hx192_0)
               replace p192:=eq_true p192
               replace q192:=eq_true q192
               refine start_ (n:=13) (S:=fun w'=>w'.cell? ⟨gb191,0,none⟩=some (.slice (some ad192) x192000_2.length co52)∧w'.cell? ⟨gb191,1,none⟩=some (.int .i64 x192001_2)∧w'.cell? ⟨gb191,2,none⟩=some (.int .i64 x192002_2)∧w'.cell? ad192=some (.int .i64 (rd x192000_2 0))) (ds:=[]) #[false,false,false,false,false,false,false,false,false,false,false,false,false] (by kernel_rfl) rfl rfl ⟨(blk_cell BK191.out 0).trans rfl,(blk_cell BK191.out 1).trans rfl,(blk_cell BK191.out 2).trans rfl,hx192_0⟩ (fun hHeld => ?_);refine with_tabW spec_l14Round.tab9 spec_l14Round.bits9 (fun HT_ HW_ => ?_)
               generalize wr.drew=w51 at HO_4 HO_179001 HO_192000 BK178 BK179 BK191 HB hx192_0 hHeld ⊢
               refine pure_ (i:=0) (N:=some 30) (v:=?_) (a':=?_) #[true,false,false,false,false,false,false,false,false,false,false,false,false] rfl rfl (any_of HT_.out (by kernel_rfl)) (fun _ _ _ h=>h) (Or.inl ⟨by rfl,?_⟩) ?_ ?_
               rotate_left
               ·intro w'
                go_simp
                with_reducible rfl
               rotate_left
               ·simp only[Act.put,List.setIfInBounds_toArray,List.set_cons_zero,List.set_cons_succ,i64_w,i32_w]
                rfl
               refine take_ (i:=1) (N:=some 31) (v:=?_) (a':=?_) #[true,true,false,false,false,false,false,false,false,false,false,false,false] rfl rfl (take_ofW HT_.out HW_.out (by kernel_rfl)) (fun _ _ _ h=>h) (Or.inl ⟨by rfl,?_⟩) hHeld ?_ ?_
               rotate_left
               ·rintro w' ⟨s0,s1,s2,s3⟩
                go_simp
                with_reducible rfl
               rotate_left
               ·simp only[Act.put,List.setIfInBounds_toArray,List.set_cons_zero,List.set_cons_succ,i64_w,i32_w]
                rfl
               refine pure_ (i:=2) (N:=some 32) (v:=?_) (a':=?_) #[true,true,true,false,false,false,false,false,false,false,false,false,false] rfl rfl (any_of HT_.out (by kernel_rfl)) (fun _ _ _ h=>h) (Or.inl ⟨by rfl,?_⟩) ?_ ?_
               rotate_left
               ·intro w'
                go_simp
                with_reducible rfl
               rotate_left
               ·simp only[Act.put,List.setIfInBounds_toArray,List.set_cons_zero,List.set_cons_succ,i64_w,i32_w]
                rfl
               refine pure_ (i:=3) (N:=some 33) (v:=?_) (a':=?_) #[true,true,true,true,false,false,false,false,false,false,false,false,false] rfl rfl (any_of HT_.out (by kernel_rfl)) (fun _ _ _ h=>h) (Or.inl ⟨by rfl,?_⟩) ?_ ?_
               rotate_left
               ·intro w'
                go_simp
                with_reducible rfl
               rotate_left
               ·simp only[Act.put,List.setIfInBounds_toArray,List.set_cons_zero,List.set_cons_succ,i64_w,i32_w]
                rfl
               refine pure_ (i:=4) (N:=some 34) (v:=?_) (a':=?_) #[true,true,true,true,true,false,false,false,false,false,false,false,false] rfl rfl (any_of HT_.out (by kernel_rfl)) (fun _ _ _ h=>h) (Or.inl ⟨by rfl,?_⟩) ?_ ?_
               rotate_left
               ·intro w'
                go_simp
                with_reducible rfl
               rotate_left
               ·simp only[Act.put,List.setIfInBounds_toArray,List.set_cons_zero,List.set_cons_succ,i64_w,i32_w]
                rfl
               refine pure_ (i:=5) (N:=some 35) (v:=?_) (a':=?_) #[true,true,true,true,true,true,false,false,false,false,false,false,false] rfl rfl (any_of HT_.out (by kernel_rfl)) (fun _ _ _ h=>h) (Or.inl ⟨by rfl,?_⟩) ?_ ?_
               rotate_left
               ·intro w'
                go_simp
                with_reducible rfl
               rotate_left
               ·simp only[Act.put,List.setIfInBounds_toArray,List.set_cons_zero,List.set_cons_succ,i64_w,i32_w]
                rfl
               refine pure_ (i:=9) (N:=some 39) (v:=?_) (a':=?_) #[true,true,true,true,true,true,false,false,false,true,false,false,false] rfl rfl (any_of HT_.out (by kernel_rfl)) (fun _ _ _ h=>h) (Or.inl ⟨by rfl,?_⟩) ?_ ?_
               rotate_left
               ·intro w'
                go_simp
                with_reducible rfl
               rotate_left
               ·simp only[Act.put,List.setIfInBounds_toArray,List.set_cons_zero,List.set_cons_succ,i64_w,i32_w]
                rfl
               refine take_ (i:=6) (N:=some 36) (v:=?_) (a':=?_) #[true,true,true,true,true,true,true,false,false,true,false,false,false] rfl rfl (take_ofW HT_.out HW_.out (by kernel_rfl)) (fun _ _ _ h=>h) (Or.inl ⟨by rfl,?_⟩) hHeld ?_ ?_
               rotate_left
               ·rintro w' ⟨s0,s1,s2,s3⟩
                go_simp
                with_reducible rfl
               rotate_left
               ·simp only[Act.put,List.setIfInBounds_toArray,List.set_cons_zero,List.set_cons_succ,i64_w,i32_w]
                rfl
               refine pure_ (i:=7) (N:=some 37) (v:=?_) (a':=?_) #[true,true,true,true,true,true,true,true,false,true,false,false,false] rfl rfl (any_of HT_.out (by kernel_rfl)) (fun _ _ _ h=>h) (Or.inl ⟨by rfl,?_⟩) ?_ ?_
               rotate_left
               ·intro w'
                go_simp
                with_reducible rfl
               rotate_left
               ·simp only[Act.put,List.setIfInBounds_toArray,List.set_cons_zero,List.set_cons_succ,i64_w,i32_w]
                rfl
               refine take_ (i:=8) (N:=some 38) (v:=?_) (a':=?_) #[true,true,true,true,true,true,true,true,true,true,false,false,false] rfl rfl (take_ofW HT_.out HW_.out (by kernel_rfl)) (fun _ _ _ h=>h) (Or.inl ⟨by rfl,?_⟩) hHeld ?_ ?_
               rotate_left
               ·rintro w' ⟨s0,s1,s2,s3⟩
                go_simp
                with_reducible rfl
               rotate_left
               ·simp only[Act.put,List.setIfInBounds_toArray,List.set_cons_zero,List.set_cons_succ,i64_w,i32_w]
                rfl
               refine take_ (i:=10) (N:=some 40) (v:=?_) (a':=?_) #[true,true,true,true,true,true,true,true,true,true,true,false,false] rfl rfl (take_ofW HT_.out HW_.out (by kernel_rfl)) (fun _ _ _ h=>h) (Or.inl ⟨by rfl,?_⟩) hHeld ?_ ?_
               rotate_left
               ·rintro w' ⟨s0,s1,s2,s3⟩
                go_simp
                with_reducible rfl
               rotate_left
               ·simp only[Act.put,List.setIfInBounds_toArray,List.set_cons_zero,List.set_cons_succ,i64_w,i32_w]
                rfl
               refine pure_ (i:=11) (N:=some 41) (v:=?_) (a':=?_) #[true,true,true,true,true,true,true,true,true,true,true,true,false] rfl rfl (any_of HT_.out (by kernel_rfl)) (fun _ _ _ h=>h) (Or.inl ⟨by rfl,?_⟩) ?_ ?_
               rotate_left
               ·intro w'
                go_simp
                with_reducible rfl
               rotate_left
               ·simp only[Act.put,List.setIfInBounds_toArray,List.set_cons_zero,List.set_cons_succ,i64_w,i32_w]
                rfl
               refine pure_ (i:=12) (N:=some 42) (v:=?_) (a':=?_) #[true,true,true,true,true,true,true,true,true,true,true,true,true] rfl rfl (any_of HT_.out (by kernel_rfl)) (fun _ _ _ h=>h) (Or.inl ⟨by rfl,?_⟩) ?_ ?_
               rotate_left
               ·intro w'
                go_simp
                with_reducible rfl
               rotate_left
               ·simp only[Act.put,List.setIfInBounds_toArray,List.set_cons_zero,List.set_cons_succ,i64_w,i32_w]
                rfl
               refine done_ (done_of HT_.out (by kernel_rfl)) ?_
               have hnb53:=NB191_178.out
               have hnc53:=NB178_191.out
               have hnb54:=NB191_179.out
               have hnc54:=NB179_191.out
               obtain⟨hcz55_0,hcz55_1,hcz55_2⟩:=cC3 BK191.out
               obtain⟨hfz55_0,hfz55_1,hfz55_2⟩:=cF3 BK191.out
               try go_wp2_with (first|((with_reducible refine gate_store (t:=3) (p:=71) rfl ?_);refine store_event (t:=3) (p:=71) (v:=?vo_w56) (w1:=(w51.setCell ⟨gb191,1,none⟩ (.int .i64 0))) ?hg ?ho ?hn ?hr ?_;(case ho=>rfl);(case hg=>rfl);(case hn=>rfl);(case hr=>first|(go_simp;done)|(go_simp;rfl));intro w56 hw;have n0_:Aside0 (Kd.R (Kd.int .i64) 3 w56 w.heap.size (fun k_=>(w.heap.size≤k_)) u4 x4_2):=⟨(by rw[hw];exact(by(with_reducible repeat (first|apply Kd.R_alloc|apply Kd.R_drewN|apply Kd.R_drew));exact Kd.R_mono (Kd.R_far (p:=⟨gb191,1,none⟩) (Kd.R_types HO_4.out BK191.out (by decide)) (fun _ hk=>hk.2) (.int .i64 0)) (fun _ hk=>hk.1)))⟩;have n1_:Aside0 (Kd.N k116 116 w56 w.heap.size (fun k_=>(w.heap.size≤k_)∧some k_≠(u4:Value).ownBlock∧k_≠gb178∧k_≠gb179∧k_≠gb191) (.slice (some ad190) x179001_1.length co23) x179001_1):=⟨(by rw[hw];exact(by(with_reducible repeat (first|apply Kd.N_alloc|apply Kd.N_drewN|apply Kd.N_drew));exact Kd.N_mono (Kd.N_far (p:=⟨gb191,1,none⟩) (Kd.N_mono HO_179001.out (fun k_ hk=>(⟨hk,hk.2.2.2.2⟩:_∧k_≠gb191))) (fun _ hk=>hk.2) (.int .i64 0)) (fun _ hk=>⟨hk.1.1,⟨hk.1.2.1,⟨hk.1.2.2.1,⟨hk.1.2.2.2.1,hk.1.2.2.2.2⟩⟩⟩⟩)))⟩;have n2_:Aside0 (Kd.V (Kd.int .i64) 3 w56 w.heap.size (fun k_=>(w.heap.size≤k_)∧some k_≠(u4:Value).ownBlock∧some k_≠(.slice (some ad190) x179001_1.length co23:Value).ownBlock∧k_≠gb178∧k_≠gb179∧k_≠gb191) (.slice (some ad192) x192000_2.length co52) x192000_2):=⟨(by rw[hw];exact(by(with_reducible repeat (first|apply Kd.V_alloc|apply Kd.V_drewN|apply Kd.V_drew));exact Kd.V_mono (Kd.V_far (p:=⟨gb191,1,none⟩) (Kd.V_mono HO_192000.out (fun k_ hk=>(⟨hk,hk.2.2.2.2.2⟩:_∧k_≠gb191))) (fun _ hk=>hk.2) (.int .i64 0)) (fun _ hk=>⟨hk.1.1,⟨hk.1.2.1,⟨hk.1.2.2.1,⟨hk.1.2.2.2.1,⟨hk.1.2.2.2.2.1,hk.1.2.2.2.2.2⟩⟩⟩⟩⟩)))⟩;have n3_:Aside0 (w56.heap[gb178]?=some (.cells #[.int .i64 t180,.slice (some ad190) x179001_1.length co23,.int .i64 t184] 28 (0,0))):=⟨(by rw[hw];exact(by(with_reducible repeat (first|refine blk_drewN ?_ _|refine blk_drew ?_|refine blk_alloc ?_ _));refine blk_far ?_ NB178_191.out _;(with_reducible repeat (first|refine blk_drewN ?_ _|refine blk_drew ?_|refine blk_alloc ?_ _));exact BK178.out))⟩;have n4_:Aside0 (w56.heap[gb179]?=some (.cells #[.int .i64 0,.slice none 0 0,.int .i64 0] 28 (0,0))):=⟨(by rw[hw];exact(by(with_reducible repeat (first|refine blk_drewN ?_ _|refine blk_drew ?_|refine blk_alloc ?_ _));refine blk_far ?_ NB179_191.out _;(with_reducible repeat (first|refine blk_drewN ?_ _|refine blk_drew ?_|refine blk_alloc ?_ _));exact BK179.out))⟩;have n5_:Aside0 (w56.heap[gb191]?=some (.cells #[.slice (some ad192) x192000_2.length co52,.int .i64 0,.int .i64 x192002_2] 116 (0,0))):=⟨(by rw[hw];exact(by(with_reducible repeat (first|refine blk_drewN ?_ _|refine blk_drew ?_|refine blk_alloc ?_ _));refine blk_put (cs:=#[.slice (some ad192) x192000_2.length co52,.int .i64 x192001_2,.int .i64 x192002_2]) ?_ 1 _ rfl;(with_reducible repeat (first|refine blk_drewN ?_ _|refine blk_drew ?_|refine blk_alloc ?_ _));exact BK191.out))⟩;have n6_:Aside0 (Below w.heap.size w w56):=⟨(by rw[hw];exact(bS3 GE178.out GE179.out GE191.out))⟩;clear hw HO_4 HO_179001 HO_192000 BK178 BK179 BK191 HB;have HO_4:=n0_;have HO_179001:=n1_;have HO_192000:=n2_;have BK178:=n3_;have BK179:=n4_;have BK191:=n5_;have HB:=n6_;clear n0_ n1_ n2_ n3_ n4_ n5_ n6_;have hnb57:=NB178_179.out;have hnc57:=NB179_178.out;obtain⟨hcz58_0,hcz58_1,hcz58_2⟩:=cC3 BK178.out;obtain⟨hfz58_0,hfz58_1,hfz58_2⟩:=cF3 BK178.out;obtain⟨hcz59_0,hcz59_1,hcz59_2⟩:=cC3 BK191.out;obtain⟨hfz59_0,hfz59_1,hfz59_2⟩:=cF3 BK191.out;have p50:0≤(x12_1:Int):=of_decide_eq_true (bD);have q50:(x12_1:Int) < ((x179001_1.length:Int):Int):=of_decide_eq_true (bD);obtain⟨go50,co50,eo50,gb50,gl50,cl50,HG50⟩:=Kd.N_form HO_179001.out (by omega);(first|cases eo50|(injection eo50 with ea_ en_ ec_;(first|subst ea_|(injection ea_ with ea_;subst ea_));subst ec_;clear en_));have GB50:=Aside0.mk gb50;have GG50:=Aside0.mk HG50;clear gb50 gl50 HG50;(first|simp only[add_plain] at hx190_0|skip);(first|simp only[add_plain] at hx190_1|skip);(first|simp only[add_plain] at hx190_2|skip);obtain⟨ce50,hcl50,hM50,hcc50,hfr50⟩:=Kd.N_elem HO_179001.out z116 (x12_1:Int) p50 q50;obtain⟨ua50_0,uc50_0,rfl,ul50_0,ge50_0⟩:=k116_openF hM50;have hx50_0:w56.cell? ⟨go50,(x12_1:Int).toNat * 3,none⟩=some (.slice ua50_0 ((rd_T116 x179001_1 x12_1).f0).length uc50_0):=hcc50 0 _ rfl;have hx50_1:w56.cell? ⟨go50,(x12_1:Int).toNat * 3+1,none⟩=some (.int .i64 ((rd_T116 x179001_1 x12_1).f1)):=hcc50 1 _ rfl;have hx50_2:w56.cell? ⟨go50,(x12_1:Int).toNat * 3+2,none⟩=some (.int .i64 ((rd_T116 x179001_1 x12_1).f2)):=hcc50 2 _ rfl;have hf50_0:w56.frozen? ⟨go50,(x12_1:Int).toNat * 3,none⟩=false:=hfr50 0;have hf50_1:w56.frozen? ⟨go50,(x12_1:Int).toNat * 3+1,none⟩=false:=hfr50 1;have hf50_2:w56.frozen? ⟨go50,(x12_1:Int).toNat * 3+2,none⟩=false:=hfr50 2;clear hcl50 hcc50 hfr50 hM50;replace p50:=eq_true p50;replace q50:=eq_true q50;have HX60:=Aside0.mk (show Kd.N k116 116 w56 w.heap.size (fun k_=>(w.heap.size≤k_)∧some k_≠(u4:Value).ownBlock∧k_≠gb178∧k_≠gb179∧k_≠gb191) (.slice (some ⟨go50,0,none⟩) x179001_1.length co23) x179001_1 from (by(with_reducible repeat (first|apply Kd.N_alloc|apply Kd.N_drewN|apply Kd.N_drew));exact HO_179001.out));obtain⟨ce60,hcl60,hM60,hcc60,hfr60⟩:=Kd.N_elem HX60.out z116 (x12_1:Int) (of_decide_eq_true (bD)) (by have h_:(x12_1:Int) < ((x179001_1.length:Int):Int):=of_decide_eq_true (bD);first|exact h_|(have e_:=(Kd.N_reads' HO_179001.out).1;omega)|simpa using h_);obtain⟨ua60_0,uc60_0,rfl,ul60_0,ge60_0⟩:=k116_openF hM60;have HP60:=Kd.N_seg HX60.out (x12_1:Int) (of_decide_eq_true (bD)) (by have h_:(x12_1:Int) < ((x179001_1.length:Int):Int):=of_decide_eq_true (bD);first|exact h_|(have e_:=(Kd.N_reads' HO_179001.out).1;omega)|simpa using h_) (seg:=[.slice (some ad192) x192000_2.length co52,.int .i64 0,.int .i64 x192002_2]) (j:=0) hcl60 hcc60 (show 3≤3 from by decide) (x':=(⟨x192000_2,0,x192002_2⟩:S116)) (k116_mkF _ _ (⟨x192000_2,0,x192002_2⟩:S116) (Kd.V_reads' (Kd.V_mono (ok':=(fun k_=>((fun k_=>(w.heap.size≤k_)∧some k_≠(u4:Value).ownBlock∧k_≠gb178∧k_≠gb179∧k_≠gb191)) k_∧k_≠go50)) (HO_192000.out) (fun k_ hk=>⟨⟨hk.1,⟨hk.2.1,⟨hk.2.2.2.1,⟨hk.2.2.2.2.1,hk.2.2.2.2.2⟩⟩⟩⟩,fun e_=>(hk.2.2.1) (by rw[e_];rfl)⟩))).2.1 (Kd.V_F (Kd.V_mono (ok':=(fun k_=>((fun k_=>(w.heap.size≤k_)∧some k_≠(u4:Value).ownBlock∧k_≠gb178∧k_≠gb179∧k_≠gb191)) k_∧k_≠go50)) (HO_192000.out) (fun k_ hk=>⟨⟨hk.1,⟨hk.2.1,⟨hk.2.2.2.1,⟨hk.2.2.2.2.1,hk.2.2.2.2.2⟩⟩⟩⟩,fun e_=>(hk.2.2.1) (by rw[e_];rfl)⟩)))) (fun _ hk=>hk);have hx60_0:=hcc60 0 _ rfl;(try simp only[show(k116).sz=3 from rfl,Nat.mul_one,Nat.add_zero] at hx60_0);have hf60_0:=hfr60 0;(try simp only[show(k116).sz=3 from rfl,Nat.mul_one,Nat.add_zero] at hf60_0);have hx60_1:=hcc60 1 _ rfl;(try simp only[show(k116).sz=3 from rfl,Nat.mul_one,Nat.add_zero] at hx60_1);have hf60_1:=hfr60 1;(try simp only[show(k116).sz=3 from rfl,Nat.mul_one,Nat.add_zero] at hf60_1);have hx60_2:=hcc60 2 _ rfl;(try simp only[show(k116).sz=3 from rfl,Nat.mul_one,Nat.add_zero] at hx60_2);have hf60_2:=hfr60 2;(try simp only[show(k116).sz=3 from rfl,Nat.mul_one,Nat.add_zero] at hf60_2);clear hcl60 hcc60 hfr60 hM60)|((with_reducible refine gate_store (t:=116) (p:=76) rfl ?_);refine store_event (t:=116) (p:=76) (v:=?vo_w61) (w1:=(((w56.setCell ⟨go50,(x12_1:Int).toNat * 3,none⟩ (.slice (some ad192) x192000_2.length co52)).setCell ⟨go50,(x12_1:Int).toNat * 3+1,none⟩ (.int .i64 0)).setCell ⟨go50,(x12_1:Int).toNat * 3+2,none⟩ (.int .i64 x192002_2))) ?hg ?ho ?hn ?hr ?_;(case ho=>rfl);(case hg=>rfl);(case hn=>rfl);(case hr=>(try (obtain⟨Aq_,cq_,eq_⟩:=Kd.V_slice HO_192000.out;subst eq_));first|(go_simp;done)|(go_simp;rfl));intro w61 hw;have hg:w56.grownBy w61 (some go50):=(by rw[hw];exact HP60.2);have hp_:Kd.N k116 116 w61 w.heap.size (fun k_=>(w.heap.size≤k_)∧some k_≠(u4:Value).ownBlock∧k_≠gb178∧k_≠gb179∧k_≠gb191) (.slice (some ⟨go50,0,none⟩) x179001_1.length co23) y203:=(by rw[hw,Ny203.out];exact HP60.1);clear HP60;have n0_:=Aside0.mk (Kd.R_over' (v:=(.slice (some ⟨go50,0,none⟩) x179001_1.length co23)) (bK HO_4.out) (Kd.N_typed HO_179001.out) (by decide) hg);have n1_:=Aside0.mk (hp_);have n2_:=Aside0.mk (Kd.V_afterv (v:=(.slice (some ⟨go50,0,none⟩) x179001_1.length co23)) (v1:=(.slice (some ⟨go50,0,none⟩) x179001_1.length co23)) (ok:=(fun k_=>(w.heap.size≤k_)∧some k_≠(u4:Value).ownBlock∧k_≠gb178∧k_≠gb179∧k_≠gb191)) (by(with_reducible repeat (first|apply Kd.V_alloc|apply Kd.V_drewN|apply Kd.V_drew));exact Kd.V_mono HO_192000.out (fun _ hk=>⟨⟨hk.1,⟨hk.2.1,⟨hk.2.2.2.1,⟨hk.2.2.2.2.1,hk.2.2.2.2.2⟩⟩⟩⟩,hk.2.2.1⟩)) hg (.inl rfl));have n3_:=Aside0.mk (blk_grown (g:=gb178) (o:=.cells #[.int .i64 t180,.slice (some ⟨go50,0,none⟩) x179001_1.length co23,.int .i64 t184] 28 (0,0)) (bL BK178.out) hg (Kd.N_ne HO_179001.out BK178.out (by decide)));have n4_:=Aside0.mk (blk_grown (g:=gb179) (o:=.cells #[.int .i64 0,.slice none 0 0,.int .i64 0] 28 (0,0)) (bL BK179.out) hg (Kd.N_ne HO_179001.out BK179.out (by decide)));have n5_:=Aside0.mk (blk_grown (g:=gb191) (o:=.cells #[.slice (some ad192) x192000_2.length co52,.int .i64 0,.int .i64 x192002_2] 116 (0,0)) (bL BK191.out) hg (Kd.N_away HO_179001.out (fun _ hk=>hk.2.2.2.2)));have n6_:=Aside0.mk ((by rw[hw];exact below_set (below_set (below_set (HB.out) GB50.out) GB50.out) GB50.out:Below w.heap.size w w61));clear HO_4 HO_179001 HO_192000 BK178 BK179 BK191 HB;have HO_4:=n0_;have HO_179001:=n1_;have HO_192000:=n2_;have BK178:=n3_;have BK179:=n4_;have BK191:=n5_;have HB:=n6_;clear n0_ n1_ n2_ n3_ n4_ n5_ n6_;clear hg hw hp_))
               go_roundg k2
               case measure=>have:=HK1.out;have:=HK2.out;omega
               case rel=>exact⟨(x4_2),(wrap64 (x12_1+1)),(y203),(.slice (some ⟨go50,0,none⟩) x179001_1.length co23),(bR),H',⟨by have:=HK1.out;have:=HK2.out;omega⟩,⟨by(with_reducible repeat (first|apply Kd.R_alloc|apply Kd.R_drewN|apply Kd.R_drew));exact HO_4.out⟩,⟨by(with_reducible repeat (first|apply Kd.N_alloc|apply Kd.N_drewN|apply Kd.N_drew));exact Kd.N_mono HO_179001.out (fun _ hk=>⟨hk.1,⟨hk.2.1,⟨hk.2.2.1,hk.2.2.2.1⟩⟩⟩)⟩,⟨by(with_reducible repeat (first|refine blk_drewN ?_ _|refine blk_drew ?_|refine blk_alloc ?_ _));exact BK178.out⟩,⟨by(with_reducible repeat (first|refine blk_drewN ?_ _|refine blk_drew ?_|refine blk_alloc ?_ _));exact BK179.out⟩,⟨bS3 GE178.out GE179.out GE191.out⟩⟩
              ·rw[if_neg c49] at H
               exact absurd H (by simp)
             ·rw[if_neg c48] at H
              exact absurd H (by simp)
            ·rw[if_neg c47] at H
             have c47b0:((x192000_2.length:Int) == 0)=false:=beq_eq_false_iff_ne.mpr c47
             have c47b1:((x192000_2.length:Int) != 0)=true:=bne_iff_ne.mpr c47
             have c47b2 : ¬ (x192000_2=[]):=fun h_=>c47 (by rw[h_];rfl)
             by_cases c62:0≤x12_1
             ·rw[if_pos c62] at H
              have c62b0:decide (0≤x12_1)=true:=decide_eq_true c62
              clear c62
              by_cases c63:x12_1 < (x179001_1.length:Int)
              ·rw[if_pos c63] at H
               have c63b0:decide (x12_1 < (x179001_1.length:Int))=true:=decide_eq_true c63
               clear c63
               obtain⟨y204,hy204⟩ : ∃ y_:List (S116),y_=(x179001_1.set (x12_1:Int).toNat (⟨x192000_2,x192001_2,x192002_2⟩:S116)):=⟨_,rfl⟩
               replace H:(spec_l14Round.l0 k2 x4_2 (t181.length:Int) (wrap64 (x12_1+1)) t180 y204 t184)=some (r1,r2,r3,r4):=by first|(rw[hy204];with_reducible exact H)|(have H2_:=(Option.bind_some _ _).symm.trans H;rw[hy204];with_reducible exact H2_)|(have H2_:=(Option.bind_some _ _).symm.trans H;with_reducible exact H2_)|with_reducible exact H|(rw[hy204];exact H)|exact H
               have Ny204:=Aside0.mk hy204
               clear hy204
               have H':=Aside0.mk H
               clear H
               try go_wp2
               (try (rw[drewN_self wr];generalize hq_:World.drewN wr _=wr;have n0_:=Aside0.mk (Kd.R_at hq_ HO_4.out);have n1_:=Aside0.mk (Kd.N_at hq_ HO_179001.out);have n2_:=Aside0.mk (Kd.V_at hq_ HO_192000.out);have n3_:=Aside0.mk (blk_at hq_ BK178.out);have n4_:=Aside0.mk (blk_at hq_ BK179.out);have n5_:=Aside0.mk (blk_at hq_ BK191.out);have n6_:=Aside0.mk (below_at hq_ HB.out);clear hq_ HO_4 HO_179001 HO_192000 BK178 BK179 BK191 HB;have HO_4:=n0_;have HO_179001:=n1_;have HO_192000:=n2_;have BK178:=n3_;have BK179:=n4_;have BK191:=n5_;have HB:=n6_;clear n0_ n1_ n2_ n3_ n4_ n5_ n6_))
               have n0_:=Aside0.mk (Kd.R_drew HO_4.out)
               have n1_:=Aside0.mk (Kd.N_drew HO_179001.out)
               have n2_:=Aside0.mk (Kd.V_drew HO_192000.out)
               have n3_:=Aside0.mk (blk_drew BK178.out)
               have n4_:=Aside0.mk (blk_drew BK179.out)
               have n5_:=Aside0.mk (blk_drew BK191.out)
               have n6_:=Aside0.mk (below_drew1 HB.out)
               clear HO_4 HO_179001 HO_192000 BK178 BK179 BK191 HB
               have HO_4:=n0_
               have HO_179001:=n1_
               have HO_192000:=n2_
               have BK178:=n3_
               have BK179:=n4_
               have BK191:=n5_
               have HB:=n6_
               clear n0_ n1_ n2_ n3_ n4_ n5_ n6_
               obtain⟨Ao66,co66,eo66⟩:=Kd.V_slice HO_192000.out
               (first|subst eo66|(injection eo66 with f1_ f2_ f3_;have f4_:=f1_.symm;have f5_:=f3_.symm;clear f1_ f2_ f3_;subst f4_;subst f5_))
               have p192:0≤(0:Int):=(by omega)
               have q192:0 < (x192000_2.length:Int):=of_decide_eq_true (bD)
               obtain⟨ad192,e192,hx192_0⟩:=Kd.at_int (Kd.V_reads' HO_192000.out).2.2 0 p192 q192
               cases e192
               have qi192:(0 < x192000_2.length)=True:=eq_true (by omega)
               (try rw[show((0:Int)).toNat=0 from rfl] at hx192_0)
               (try rw[Addr.add_zero'] at hx192_0)
               replace p192:=eq_true p192
               replace q192:=eq_true q192
               refine start_ (n:=13) (S:=fun w'=>w'.cell? ⟨gb191,0,none⟩=some (.slice (some ad192) x192000_2.length co66)∧w'.cell? ⟨gb191,1,none⟩=some (.int .i64 x192001_2)∧w'.cell? ⟨gb191,2,none⟩=some (.int .i64 x192002_2)∧w'.cell? ad192=some (.int .i64 (rd x192000_2 0))) (ds:=[]) #[false,false,false,false,false,false,false,false,false,false,false,false,false] (by kernel_rfl) rfl rfl ⟨(blk_cell BK191.out 0).trans rfl,(blk_cell BK191.out 1).trans rfl,(blk_cell BK191.out 2).trans rfl,hx192_0⟩ (fun hHeld => ?_);refine with_tabW spec_l14Round.tab9 spec_l14Round.bits9 (fun HT_ HW_ => ?_)
               generalize wr.drew=w65 at HO_4 HO_179001 HO_192000 BK178 BK179 BK191 HB hx192_0 hHeld ⊢
               refine pure_ (i:=0) (N:=some 30) (v:=?_) (a':=?_) #[true,false,false,false,false,false,false,false,false,false,false,false,false] rfl rfl (any_of HT_.out (by kernel_rfl)) (fun _ _ _ h=>h) (Or.inl ⟨by rfl,?_⟩) ?_ ?_
               rotate_left
               ·intro w'
                go_simp
                with_reducible rfl
               rotate_left
               ·simp only[Act.put,List.setIfInBounds_toArray,List.set_cons_zero,List.set_cons_succ,i64_w,i32_w]
                rfl
               refine take_ (i:=1) (N:=some 31) (v:=?_) (a':=?_) #[true,true,false,false,false,false,false,false,false,false,false,false,false] rfl rfl (take_ofW HT_.out HW_.out (by kernel_rfl)) (fun _ _ _ h=>h) (Or.inl ⟨by rfl,?_⟩) hHeld ?_ ?_
               rotate_left
               ·rintro w' ⟨s0,s1,s2,s3⟩
                go_simp
                with_reducible rfl
               rotate_left
               ·simp only[Act.put,List.setIfInBounds_toArray,List.set_cons_zero,List.set_cons_succ,i64_w,i32_w]
                rfl
               refine pure_ (i:=2) (N:=some 32) (v:=?_) (a':=?_) #[true,true,true,false,false,false,false,false,false,false,false,false,false] rfl rfl (any_of HT_.out (by kernel_rfl)) (fun _ _ _ h=>h) (Or.inl ⟨by rfl,?_⟩) ?_ ?_
               rotate_left
               ·intro w'
                go_simp
                with_reducible rfl
               rotate_left
               ·simp only[Act.put,List.setIfInBounds_toArray,List.set_cons_zero,List.set_cons_succ,i64_w,i32_w]
                rfl
               refine pure_ (i:=3) (N:=some 33) (v:=?_) (a':=?_) #[true,true,true,true,false,false,false,false,false,false,false,false,false] rfl rfl (any_of HT_.out (by kernel_rfl)) (fun _ _ _ h=>h) (Or.inl ⟨by rfl,?_⟩) ?_ ?_
               rotate_left
               ·intro w'
                go_simp
                with_reducible rfl
               rotate_left
               ·simp only[Act.put,List.setIfInBounds_toArray,List.set_cons_zero,List.set_cons_succ,i64_w,i32_w]
                rfl
               refine pure_ (i:=4) (N:=some 34) (v:=?_) (a':=?_) #[true,true,true,true,true,false,false,false,false,false,false,false,false] rfl rfl (any_of HT_.out (by kernel_rfl)) (fun _ _ _ h=>h) (Or.inl ⟨by rfl,?_⟩) ?_ ?_
               rotate_left
               ·intro w'
                go_simp
                with_reducible rfl
               rotate_left
               ·simp only[Act.put,List.setIfInBounds_toArray,List.set_cons_zero,List.set_cons_succ,i64_w,i32_w]
                rfl
               refine pure_ (i:=5) (N:=some 35) (v:=?_) (a':=?_) #[true,true,true,true,true,true,false,false,false,false,false,false,false] rfl rfl (any_of HT_.out (by kernel_rfl)) (fun _ _ _ h=>h) (Or.inl ⟨by rfl,?_⟩) ?_ ?_
               rotate_left
               ·intro w'
                go_simp
                with_reducible rfl
               rotate_left
               ·simp only[Act.put,List.setIfInBounds_toArray,List.set_cons_zero,List.set_cons_succ,i64_w,i32_w]
                rfl
               refine pure_ (i:=9) (N:=some 39) (v:=?_) (a':=?_) #[true,true,true,true,true,true,false,false,false,true,false,false,false] rfl rfl (any_of HT_.out (by kernel_rfl)) (fun _ _ _ h=>h) (Or.inl ⟨by rfl,?_⟩) ?_ ?_
               rotate_left
               ·intro w'
                go_simp
                with_reducible rfl
               rotate_left
               ·simp only[Act.put,List.setIfInBounds_toArray,List.set_cons_zero,List.set_cons_succ,i64_w,i32_w]
                rfl
               refine take_ (i:=6) (N:=some 36) (v:=?_) (a':=?_) #[true,true,true,true,true,true,true,false,false,true,false,false,false] rfl rfl (take_ofW HT_.out HW_.out (by kernel_rfl)) (fun _ _ _ h=>h) (Or.inl ⟨by rfl,?_⟩) hHeld ?_ ?_
               rotate_left
               ·rintro w' ⟨s0,s1,s2,s3⟩
                go_simp
                with_reducible rfl
               rotate_left
               ·simp only[Act.put,List.setIfInBounds_toArray,List.set_cons_zero,List.set_cons_succ,i64_w,i32_w]
                rfl
               refine pure_ (i:=7) (N:=some 37) (v:=?_) (a':=?_) #[true,true,true,true,true,true,true,true,false,true,false,false,false] rfl rfl (any_of HT_.out (by kernel_rfl)) (fun _ _ _ h=>h) (Or.inl ⟨by rfl,?_⟩) ?_ ?_
               rotate_left
               ·intro w'
                go_simp
                with_reducible rfl
               rotate_left
               ·simp only[Act.put,List.setIfInBounds_toArray,List.set_cons_zero,List.set_cons_succ,i64_w,i32_w]
                rfl
               refine take_ (i:=8) (N:=some 38) (v:=?_) (a':=?_) #[true,true,true,true,true,true,true,true,true,true,false,false,false] rfl rfl (take_ofW HT_.out HW_.out (by kernel_rfl)) (fun _ _ _ h=>h) (Or.inl ⟨by rfl,?_⟩) hHeld ?_ ?_
               rotate_left
               ·rintro w' ⟨s0,s1,s2,s3⟩
                go_simp
                with_reducible rfl
               rotate_left
               ·simp only[Act.put,List.setIfInBounds_toArray,List.set_cons_zero,List.set_cons_succ,i64_w,i32_w]
                rfl
               refine take_ (i:=10) (N:=some 40) (v:=?_) (a':=?_) #[true,true,true,true,true,true,true,true,true,true,true,false,false] rfl rfl (take_ofW HT_.out HW_.out (by kernel_rfl)) (fun _ _ _ h=>h) (Or.inl ⟨by rfl,?_⟩) hHeld ?_ ?_
               rotate_left
               ·rintro w' ⟨s0,s1,s2,s3⟩
                go_simp
                with_reducible rfl
               rotate_left
               ·simp only[Act.put,List.setIfInBounds_toArray,List.set_cons_zero,List.set_cons_succ,i64_w,i32_w]
                rfl
               refine pure_ (i:=11) (N:=some 41) (v:=?_) (a':=?_) #[true,true,true,true,true,true,true,true,true,true,true,true,false] rfl rfl (any_of HT_.out (by kernel_rfl)) (fun _ _ _ h=>h) (Or.inl ⟨by rfl,?_⟩) ?_ ?_
               rotate_left
               ·intro w'
                go_simp
                with_reducible rfl
               rotate_left
               ·simp only[Act.put,List.setIfInBounds_toArray,List.set_cons_zero,List.set_cons_succ,i64_w,i32_w]
                rfl
               refine pure_ (i:=12) (N:=some 42) (v:=?_) (a':=?_) #[true,true,true,true,true,true,true,true,true,true,true,true,true] rfl rfl (any_of HT_.out (by kernel_rfl)) (fun _ _ _ h=>h) (Or.inl ⟨by rfl,?_⟩) ?_ ?_
               rotate_left
               ·intro w'
                go_simp
                with_reducible rfl
               rotate_left
               ·simp only[Act.put,List.setIfInBounds_toArray,List.set_cons_zero,List.set_cons_succ,i64_w,i32_w]
                rfl
               refine done_ (done_of HT_.out (by kernel_rfl)) ?_
               have hnb67:=NB191_178.out
               have hnc67:=NB178_191.out
               have hnb68:=NB191_179.out
               have hnc68:=NB179_191.out
               obtain⟨hcz69_0,hcz69_1,hcz69_2⟩:=cC3 BK191.out
               obtain⟨hfz69_0,hfz69_1,hfz69_2⟩:=cF3 BK191.out
               have hnb70:=NB178_179.out
               have hnc70:=NB179_178.out
               obtain⟨hcz71_0,hcz71_1,hcz71_2⟩:=cC3 BK178.out
               obtain⟨hfz71_0,hfz71_1,hfz71_2⟩:=cF3 BK178.out
               have p64:0≤(x12_1:Int):=of_decide_eq_true (bD)
               have q64:(x12_1:Int) < ((x179001_1.length:Int):Int):=of_decide_eq_true (bD)
               obtain⟨go64,co64,eo64,gb64,gl64,cl64,HG64⟩:=Kd.N_form HO_179001.out (by omega)
               (first|cases eo64|(injection eo64 with ea_ en_ ec_;(first|subst ea_|(injection ea_ with ea_;subst ea_));subst ec_;clear en_))
               have GB64:=Aside0.mk gb64
               have GG64:=Aside0.mk HG64
               clear gb64 gl64 HG64
               obtain⟨ce64,hcl64,hM64,hcc64,hfr64⟩:=Kd.N_elem HO_179001.out z116 (x12_1:Int) p64 q64
               obtain⟨ua64_0,uc64_0,rfl,ul64_0,ge64_0⟩:=k116_openF hM64
               have hx64_0:w65.cell? ⟨go64,(x12_1:Int).toNat * 3,none⟩=some (.slice ua64_0 ((rd_T116 x179001_1 x12_1).f0).length uc64_0):=hcc64 0 _ rfl
               have hx64_1:w65.cell? ⟨go64,(x12_1:Int).toNat * 3+1,none⟩=some (.int .i64 ((rd_T116 x179001_1 x12_1).f1)):=hcc64 1 _ rfl
               have hx64_2:w65.cell? ⟨go64,(x12_1:Int).toNat * 3+2,none⟩=some (.int .i64 ((rd_T116 x179001_1 x12_1).f2)):=hcc64 2 _ rfl
               have hf64_0:w65.frozen? ⟨go64,(x12_1:Int).toNat * 3,none⟩=false:=hfr64 0
               have hf64_1:w65.frozen? ⟨go64,(x12_1:Int).toNat * 3+1,none⟩=false:=hfr64 1
               have hf64_2:w65.frozen? ⟨go64,(x12_1:Int).toNat * 3+2,none⟩=false:=hfr64 2
               clear hcl64 hcc64 hfr64 hM64
               replace p64:=eq_true p64
               replace q64:=eq_true q64
               have HX72:=Aside0.mk (show Kd.N k116 116 w65 w.heap.size (fun k_=>(w.heap.size≤k_)∧some k_≠(u4:Value).ownBlock∧k_≠gb178∧k_≠gb179∧k_≠gb191) (.slice (some ⟨go64,0,none⟩) x179001_1.length co23) x179001_1 from (by(with_reducible repeat (first|apply Kd.N_alloc|apply Kd.N_drewN|apply Kd.N_drew));exact HO_179001.out))
               obtain⟨ce72,hcl72,hM72,hcc72,hfr72⟩:=Kd.N_elem HX72.out z116 (x12_1:Int) (of_decide_eq_true (bD)) (by have h_:(x12_1:Int) < ((x179001_1.length:Int):Int):=of_decide_eq_true (bD);first|exact h_|(have e_:=(Kd.N_reads' HO_179001.out).1;omega)|simpa using h_)
               obtain⟨ua72_0,uc72_0,rfl,ul72_0,ge72_0⟩:=k116_openF hM72
               have HP72:=Kd.N_seg HX72.out (x12_1:Int) (of_decide_eq_true (bD)) (by have h_:(x12_1:Int) < ((x179001_1.length:Int):Int):=of_decide_eq_true (bD);first|exact h_|(have e_:=(Kd.N_reads' HO_179001.out).1;omega)|simpa using h_) (seg:=[.slice (some ad192) x192000_2.length co66,.int .i64 x192001_2,.int .i64 x192002_2]) (j:=0) hcl72 hcc72 (show 3≤3 from by decide) (x':=(⟨x192000_2,x192001_2,x192002_2⟩:S116)) (k116_mkF _ _ (⟨x192000_2,x192001_2,x192002_2⟩:S116) (Kd.V_reads' (Kd.V_mono (ok':=(fun k_=>((fun k_=>(w.heap.size≤k_)∧some k_≠(u4:Value).ownBlock∧k_≠gb178∧k_≠gb179∧k_≠gb191)) k_∧k_≠go64)) (HO_192000.out) (fun k_ hk=>⟨⟨hk.1,⟨hk.2.1,⟨hk.2.2.2.1,⟨hk.2.2.2.2.1,hk.2.2.2.2.2⟩⟩⟩⟩,fun e_=>(hk.2.2.1) (by rw[e_];rfl)⟩))).2.1 (Kd.V_F (Kd.V_mono (ok':=(fun k_=>((fun k_=>(w.heap.size≤k_)∧some k_≠(u4:Value).ownBlock∧k_≠gb178∧k_≠gb179∧k_≠gb191)) k_∧k_≠go64)) (HO_192000.out) (fun k_ hk=>⟨⟨hk.1,⟨hk.2.1,⟨hk.2.2.2.1,⟨hk.2.2.2.2.1,hk.2.2.2.2.2⟩⟩⟩⟩,fun e_=>(hk.2.2.1) (by rw[e_];rfl)⟩)))) (fun _ hk=>hk)
               have hx72_0:=hcc72 0 _ rfl
               (try simp only[show(k116).sz=3 from rfl,Nat.mul_one,Nat.add_zero] at hx72_0)
               have hf72_0:=hfr72 0
               (try simp only[show(k116).sz=3 from rfl,Nat.mul_one,Nat.add_zero] at hf72_0)
               have hx72_1:=hcc72 1 _ rfl
               (try simp only[show(k116).sz=3 from rfl,Nat.mul_one,Nat.add_zero] at hx72_1)
               have hf72_1:=hfr72 1
               (try simp only[show(k116).sz=3 from rfl,Nat.mul_one,Nat.add_zero] at hf72_1)
               have hx72_2:=hcc72 2 _ rfl
               (try simp only[show(k116).sz=3 from rfl,Nat.mul_one,Nat.add_zero] at hx72_2)
               have hf72_2:=hfr72 2
               (try simp only[show(k116).sz=3 from rfl,Nat.mul_one,Nat.add_zero] at hf72_2)
               clear hcl72 hcc72 hfr72 hM72
               try go_wp2_with (first|((with_reducible refine gate_store (t:=116) (p:=76) rfl ?_);refine store_event (t:=116) (p:=76) (v:=?vo_w73) (w1:=(((w65.setCell ⟨go64,(x12_1:Int).toNat * 3,none⟩ (.slice (some ad192) x192000_2.length co66)).setCell ⟨go64,(x12_1:Int).toNat * 3+1,none⟩ (.int .i64 x192001_2)).setCell ⟨go64,(x12_1:Int).toNat * 3+2,none⟩ (.int .i64 x192002_2))) ?hg ?ho ?hn ?hr ?_;(case ho=>rfl);(case hg=>rfl);(case hn=>rfl);(case hr=>(try (obtain⟨Aq_,cq_,eq_⟩:=Kd.V_slice HO_192000.out;subst eq_));first|(go_simp;done)|(go_simp;rfl));intro w73 hw;have hg:w65.grownBy w73 (some go64):=(by rw[hw];exact HP72.2);have hp_:Kd.N k116 116 w73 w.heap.size (fun k_=>(w.heap.size≤k_)∧some k_≠(u4:Value).ownBlock∧k_≠gb178∧k_≠gb179∧k_≠gb191) (.slice (some ⟨go64,0,none⟩) x179001_1.length co23) y204:=(by rw[hw,Ny204.out];exact HP72.1);clear HP72;have n0_:=Aside0.mk (Kd.R_over' (v:=(.slice (some ⟨go64,0,none⟩) x179001_1.length co23)) (bK HO_4.out) (Kd.N_typed HO_179001.out) (by decide) hg);have n1_:=Aside0.mk (hp_);have n2_:=Aside0.mk (Kd.V_afterv (v:=(.slice (some ⟨go64,0,none⟩) x179001_1.length co23)) (v1:=(.slice (some ⟨go64,0,none⟩) x179001_1.length co23)) (ok:=(fun k_=>(w.heap.size≤k_)∧some k_≠(u4:Value).ownBlock∧k_≠gb178∧k_≠gb179∧k_≠gb191)) (by(with_reducible repeat (first|apply Kd.V_alloc|apply Kd.V_drewN|apply Kd.V_drew));exact Kd.V_mono HO_192000.out (fun _ hk=>⟨⟨hk.1,⟨hk.2.1,⟨hk.2.2.2.1,⟨hk.2.2.2.2.1,hk.2.2.2.2.2⟩⟩⟩⟩,hk.2.2.1⟩)) hg (.inl rfl));have n3_:=Aside0.mk (blk_grown (g:=gb178) (o:=.cells #[.int .i64 t180,.slice (some ⟨go64,0,none⟩) x179001_1.length co23,.int .i64 t184] 28 (0,0)) (bL BK178.out) hg (Kd.N_ne HO_179001.out BK178.out (by decide)));have n4_:=Aside0.mk (blk_grown (g:=gb179) (o:=.cells #[.int .i64 0,.slice none 0 0,.int .i64 0] 28 (0,0)) (bL BK179.out) hg (Kd.N_ne HO_179001.out BK179.out (by decide)));have n5_:=Aside0.mk (blk_grown (g:=gb191) (o:=.cells #[.slice (some ad192) x192000_2.length co66,.int .i64 x192001_2,.int .i64 x192002_2] 116 (0,0)) (bL BK191.out) hg (Kd.N_away HO_179001.out (fun _ hk=>hk.2.2.2.2)));have n6_:=Aside0.mk ((by rw[hw];exact below_set (below_set (below_set (HB.out) GB64.out) GB64.out) GB64.out:Below w.heap.size w w73));clear HO_4 HO_179001 HO_192000 BK178 BK179 BK191 HB;have HO_4:=n0_;have HO_179001:=n1_;have HO_192000:=n2_;have BK178:=n3_;have BK179:=n4_;have BK191:=n5_;have HB:=n6_;clear n0_ n1_ n2_ n3_ n4_ n5_ n6_;clear hg hw hp_))
               go_roundg k2
               case measure=>have:=HK1.out;have:=HK2.out;omega
               case rel=>exact⟨(x4_2),(wrap64 (x12_1+1)),(y204),(.slice (some ⟨go64,0,none⟩) x179001_1.length co23),(bR),H',⟨by have:=HK1.out;have:=HK2.out;omega⟩,⟨by(with_reducible repeat (first|apply Kd.R_alloc|apply Kd.R_drewN|apply Kd.R_drew));exact HO_4.out⟩,⟨by(with_reducible repeat (first|apply Kd.N_alloc|apply Kd.N_drewN|apply Kd.N_drew));exact Kd.N_mono HO_179001.out (fun _ hk=>⟨hk.1,⟨hk.2.1,⟨hk.2.2.1,hk.2.2.2.1⟩⟩⟩)⟩,⟨by(with_reducible repeat (first|refine blk_drewN ?_ _|refine blk_drew ?_|refine blk_alloc ?_ _));exact BK178.out⟩,⟨by(with_reducible repeat (first|refine blk_drewN ?_ _|refine blk_drew ?_|refine blk_alloc ?_ _));exact BK179.out⟩,⟨bS3 GE178.out GE179.out GE191.out⟩⟩
              ·rw[if_neg c63] at H
               exact absurd H (by simp)
             ·rw[if_neg c62] at H
              exact absurd H (by simp)
          ·rw[if_neg c30] at H
           exact absurd H (by simp)
         ·rw[if_neg c29] at H
          have c29b0:decide (0 < (x192000_2.length:Int))=false:=decide_eq_false c29
          have c29b1:decide (0 < x192000_2.length)=false:=decide_eq_false (by omega)
          clear c29
          by_cases c74:(x192000_2.length:Int)=0
          ·rw[if_pos c74] at H
           have c74b0:((x192000_2.length:Int) == 0)=true:=beq_iff_eq.mpr c74
           have c74b1:((x192000_2.length:Int) != 0)=false:=bne_eq_false_iff_eq.mpr c74
           clear c74
           by_cases c75:0≤x12_1
           ·rw[if_pos c75] at H
            have c75b0:decide (0≤x12_1)=true:=decide_eq_true c75
            clear c75
            by_cases c76:x12_1 < (x179001_1.length:Int)
            ·rw[if_pos c76] at H
             have c76b0:decide (x12_1 < (x179001_1.length:Int))=true:=decide_eq_true c76
             clear c76
             obtain⟨y205,hy205⟩ : ∃ y_:List (S116),y_=(x179001_1.set (x12_1:Int).toNat (⟨x192000_2,0,x192002_2⟩:S116)):=⟨_,rfl⟩
             replace H:(spec_l14Round.l0 k2 x4_2 (t181.length:Int) (wrap64 (x12_1+1)) t180 y205 t184)=some (r1,r2,r3,r4):=by first|(rw[hy205];with_reducible exact H)|(have H2_:=(Option.bind_some _ _).symm.trans H;rw[hy205];with_reducible exact H2_)|(have H2_:=(Option.bind_some _ _).symm.trans H;with_reducible exact H2_)|with_reducible exact H|(rw[hy205];exact H)|exact H
             have Ny205:=Aside0.mk hy205
             clear hy205
             have H':=Aside0.mk H
             clear H
             try go_wp2
             (try (rw[drewN_self wr];generalize hq_:World.drewN wr _=wr;have n0_:=Aside0.mk (Kd.R_at hq_ HO_4.out);have n1_:=Aside0.mk (Kd.N_at hq_ HO_179001.out);have n2_:=Aside0.mk (Kd.V_at hq_ HO_192000.out);have n3_:=Aside0.mk (blk_at hq_ BK178.out);have n4_:=Aside0.mk (blk_at hq_ BK179.out);have n5_:=Aside0.mk (blk_at hq_ BK191.out);have n6_:=Aside0.mk (below_at hq_ HB.out);clear hq_ HO_4 HO_179001 HO_192000 BK178 BK179 BK191 HB;have HO_4:=n0_;have HO_179001:=n1_;have HO_192000:=n2_;have BK178:=n3_;have BK179:=n4_;have BK191:=n5_;have HB:=n6_;clear n0_ n1_ n2_ n3_ n4_ n5_ n6_))
             have n0_:=Aside0.mk (Kd.R_drew HO_4.out)
             have n1_:=Aside0.mk (Kd.N_drew HO_179001.out)
             have n2_:=Aside0.mk (Kd.V_drew HO_192000.out)
             have n3_:=Aside0.mk (blk_drew BK178.out)
             have n4_:=Aside0.mk (blk_drew BK179.out)
             have n5_:=Aside0.mk (blk_drew BK191.out)
             have n6_:=Aside0.mk (below_drew1 HB.out)
             clear HO_4 HO_179001 HO_192000 BK178 BK179 BK191 HB
             have HO_4:=n0_
             have HO_179001:=n1_
             have HO_192000:=n2_
             have BK178:=n3_
             have BK179:=n4_
             have BK191:=n5_
             have HB:=n6_
             clear n0_ n1_ n2_ n3_ n4_ n5_ n6_
             obtain⟨Ao79,co79,eo79⟩:=Kd.V_slice HO_192000.out
             (first|subst eo79|(injection eo79 with f1_ f2_ f3_;have f4_:=f1_.symm;have f5_:=f3_.symm;clear f1_ f2_ f3_;subst f4_;subst f5_))
             refine start_ (n:=13) (S:=fun w'=>w'.cell? ⟨gb191,0,none⟩=some (.slice Ao79 x192000_2.length co79)∧w'.cell? ⟨gb191,1,none⟩=some (.int .i64 x192001_2)∧w'.cell? ⟨gb191,2,none⟩=some (.int .i64 x192002_2)) (ds:=[]) #[false,false,false,false,false,false,false,false,false,false,false,false,false] (by kernel_rfl) rfl rfl (cC3 BK191.out) (fun hHeld => ?_);refine with_tabW spec_l14Round.tab9 spec_l14Round.bits9 (fun HT_ HW_ => ?_)
             generalize wr.drew=w78 at HO_4 HO_179001 HO_192000 BK178 BK179 BK191 HB hHeld ⊢
             refine pure_ (i:=0) (N:=some 30) (v:=?_) (a':=?_) #[true,false,false,false,false,false,false,false,false,false,false,false,false] rfl rfl (any_of HT_.out (by kernel_rfl)) (fun _ _ _ h=>h) (Or.inl ⟨by rfl,?_⟩) ?_ ?_
             rotate_left
             ·intro w'
              go_simp
              with_reducible rfl
             rotate_left
             ·simp only[Act.put,List.setIfInBounds_toArray,List.set_cons_zero,List.set_cons_succ,i64_w,i32_w]
              rfl
             refine take_ (i:=1) (N:=some 31) (v:=?_) (a':=?_) #[true,true,false,false,false,false,false,false,false,false,false,false,false] rfl rfl (take_ofW HT_.out HW_.out (by kernel_rfl)) (fun _ _ _ h=>h) (Or.inl ⟨by rfl,?_⟩) hHeld ?_ ?_
             rotate_left
             ·rintro w' ⟨s0,s1,s2⟩
              go_simp
              with_reducible rfl
             rotate_left
             ·simp only[Act.put,List.setIfInBounds_toArray,List.set_cons_zero,List.set_cons_succ,i64_w,i32_w]
              rfl
             refine pure_ (i:=2) (N:=some 32) (v:=?_) (a':=?_) #[true,true,true,false,false,false,false,false,false,false,false,false,false] rfl rfl (any_of HT_.out (by kernel_rfl)) (fun _ _ _ h=>h) (Or.inl ⟨by rfl,?_⟩) ?_ ?_
             rotate_left
             ·intro w'
              go_simp
              with_reducible rfl
             rotate_left
             ·simp only[Act.put,List.setIfInBounds_toArray,List.set_cons_zero,List.set_cons_succ,i64_w,i32_w]
              rfl
             refine pure_ (i:=3) (N:=some 33) (v:=?_) (a':=?_) #[true,true,true,true,false,false,false,false,false,false,false,false,false] rfl rfl (any_of HT_.out (by kernel_rfl)) (fun _ _ _ h=>h) (Or.inl ⟨by rfl,?_⟩) ?_ ?_
             rotate_left
             ·intro w'
              go_simp
              with_reducible rfl
             rotate_left
             ·simp only[Act.put,List.setIfInBounds_toArray,List.set_cons_zero,List.set_cons_succ,i64_w,i32_w]
              rfl
             refine pure_ (i:=4) (N:=some 34) (v:=?_) (a':=?_) #[true,true,true,true,true,false,false,false,false,false,false,false,false] rfl rfl (any_of HT_.out (by kernel_rfl)) (fun _ _ _ h=>h) (Or.inl ⟨by rfl,?_⟩) ?_ ?_
             rotate_left
             ·intro w'
              go_simp
              with_reducible rfl
             rotate_left
             ·simp only[Act.put,List.setIfInBounds_toArray,List.set_cons_zero,List.set_cons_succ,i64_w,i32_w]
              rfl
             refine pure_ (i:=5) (N:=some 35) (v:=undef) (a':=?_) #[true,true,true,true,true,true,false,false,false,false,false,false,false] rfl rfl (any_of HT_.out (by kernel_rfl)) (fun _ _ _ h=>h) (Or.inr ⟨by rfl,rfl⟩) ?_ ?_
             rotate_left
             ·simp only[Act.put,List.setIfInBounds_toArray,List.set_cons_zero,List.set_cons_succ,i64_w,i32_w]
              rfl
             refine pure_ (i:=6) (N:=some 36) (v:=undef) (a':=?_) #[true,true,true,true,true,true,true,false,false,false,false,false,false] rfl rfl (any_of HT_.out (by kernel_rfl)) (fun _ _ _ h=>h) (Or.inr ⟨by rfl,rfl⟩) ?_ ?_
             rotate_left
             ·simp only[Act.put,List.setIfInBounds_toArray,List.set_cons_zero,List.set_cons_succ,i64_w,i32_w]
              rfl
             refine pure_ (i:=7) (N:=some 37) (v:=undef) (a':=?_) #[true,true,true,true,true,true,true,true,false,false,false,false,false] rfl rfl (any_of HT_.out (by kernel_rfl)) (fun _ _ _ h=>h) (Or.inr ⟨by rfl,rfl⟩) ?_ ?_
             rotate_left
             ·simp only[Act.put,List.setIfInBounds_toArray,List.set_cons_zero,List.set_cons_succ,i64_w,i32_w]
              rfl
             refine pure_ (i:=8) (N:=some 38) (v:=undef) (a':=?_) #[true,true,true,true,true,true,true,true,true,false,false,false,false] rfl rfl (any_of HT_.out (by kernel_rfl)) (fun _ _ _ h=>h) (Or.inr ⟨by rfl,rfl⟩) ?_ ?_
             rotate_left
             ·simp only[Act.put,List.setIfInBounds_toArray,List.set_cons_zero,List.set_cons_succ,i64_w,i32_w]
              rfl
             refine pure_ (i:=9) (N:=some 39) (v:=undef) (a':=?_) #[true,true,true,true,true,true,true,true,true,true,false,false,false] rfl rfl (any_of HT_.out (by kernel_rfl)) (fun _ _ _ h=>h) (Or.inr ⟨by rfl,rfl⟩) ?_ ?_
             rotate_left
             ·simp only[Act.put,List.setIfInBounds_toArray,List.set_cons_zero,List.set_cons_succ,i64_w,i32_w]
              rfl
             refine pure_ (i:=10) (N:=some 40) (v:=undef) (a':=?_) #[true,true,true,true,true,true,true,true,true,true,true,false,false] rfl rfl (any_of HT_.out (by kernel_rfl)) (fun _ _ _ h=>h) (Or.inr ⟨by rfl,rfl⟩) ?_ ?_
             rotate_left
             ·simp only[Act.put,List.setIfInBounds_toArray,List.set_cons_zero,List.set_cons_succ,i64_w,i32_w]
              rfl
             refine pure_ (i:=11) (N:=some 41) (v:=undef) (a':=?_) #[true,true,true,true,true,true,true,true,true,true,true,true,false] rfl rfl (any_of HT_.out (by kernel_rfl)) (fun _ _ _ h=>h) (Or.inr ⟨by rfl,rfl⟩) ?_ ?_
             rotate_left
             ·simp only[Act.put,List.setIfInBounds_toArray,List.set_cons_zero,List.set_cons_succ,i64_w,i32_w]
              rfl
             refine pure_ (i:=12) (N:=some 42) (v:=?_) (a':=?_) #[true,true,true,true,true,true,true,true,true,true,true,true,true] rfl rfl (any_of HT_.out (by kernel_rfl)) (fun _ _ _ h=>h) (Or.inl ⟨by rfl,?_⟩) ?_ ?_
             rotate_left
             ·intro w'
              go_simp
              with_reducible rfl
             rotate_left
             ·simp only[Act.put,List.setIfInBounds_toArray,List.set_cons_zero,List.set_cons_succ,i64_w,i32_w]
              rfl
             refine done_ (done_of HT_.out (by kernel_rfl)) ?_
             have hnb80:=NB191_178.out
             have hnc80:=NB178_191.out
             have hnb81:=NB191_179.out
             have hnc81:=NB179_191.out
             obtain⟨hcz82_0,hcz82_1,hcz82_2⟩:=cC3 BK191.out
             obtain⟨hfz82_0,hfz82_1,hfz82_2⟩:=cF3 BK191.out
             try go_wp2_with (first|((with_reducible refine gate_store (t:=3) (p:=71) rfl ?_);refine store_event (t:=3) (p:=71) (v:=?vo_w83) (w1:=(w78.setCell ⟨gb191,1,none⟩ (.int .i64 0))) ?hg ?ho ?hn ?hr ?_;(case ho=>rfl);(case hg=>rfl);(case hn=>rfl);(case hr=>first|(go_simp;done)|(go_simp;rfl));intro w83 hw;have n0_:Aside0 (Kd.R (Kd.int .i64) 3 w83 w.heap.size (fun k_=>(w.heap.size≤k_)) u4 x4_2):=⟨(by rw[hw];exact(by(with_reducible repeat (first|apply Kd.R_alloc|apply Kd.R_drewN|apply Kd.R_drew));exact Kd.R_mono (Kd.R_far (p:=⟨gb191,1,none⟩) (Kd.R_types HO_4.out BK191.out (by decide)) (fun _ hk=>hk.2) (.int .i64 0)) (fun _ hk=>hk.1)))⟩;have n1_:Aside0 (Kd.N k116 116 w83 w.heap.size (fun k_=>(w.heap.size≤k_)∧some k_≠(u4:Value).ownBlock∧k_≠gb178∧k_≠gb179∧k_≠gb191) (.slice (some ad190) x179001_1.length co23) x179001_1):=⟨(by rw[hw];exact(by(with_reducible repeat (first|apply Kd.N_alloc|apply Kd.N_drewN|apply Kd.N_drew));exact Kd.N_mono (Kd.N_far (p:=⟨gb191,1,none⟩) (Kd.N_mono HO_179001.out (fun k_ hk=>(⟨hk,hk.2.2.2.2⟩:_∧k_≠gb191))) (fun _ hk=>hk.2) (.int .i64 0)) (fun _ hk=>⟨hk.1.1,⟨hk.1.2.1,⟨hk.1.2.2.1,⟨hk.1.2.2.2.1,hk.1.2.2.2.2⟩⟩⟩⟩)))⟩;have n2_:Aside0 (Kd.V (Kd.int .i64) 3 w83 w.heap.size (fun k_=>(w.heap.size≤k_)∧some k_≠(u4:Value).ownBlock∧some k_≠(.slice (some ad190) x179001_1.length co23:Value).ownBlock∧k_≠gb178∧k_≠gb179∧k_≠gb191) (.slice Ao79 x192000_2.length co79) x192000_2):=⟨(by rw[hw];exact(by(with_reducible repeat (first|apply Kd.V_alloc|apply Kd.V_drewN|apply Kd.V_drew));exact Kd.V_mono (Kd.V_far (p:=⟨gb191,1,none⟩) (Kd.V_mono HO_192000.out (fun k_ hk=>(⟨hk,hk.2.2.2.2.2⟩:_∧k_≠gb191))) (fun _ hk=>hk.2) (.int .i64 0)) (fun _ hk=>⟨hk.1.1,⟨hk.1.2.1,⟨hk.1.2.2.1,⟨hk.1.2.2.2.1,⟨hk.1.2.2.2.2.1,hk.1.2.2.2.2.2⟩⟩⟩⟩⟩)))⟩;have n3_:Aside0 (w83.heap[gb178]?=some (.cells #[.int .i64 t180,.slice (some ad190) x179001_1.length co23,.int .i64 t184] 28 (0,0))):=⟨(by rw[hw];exact(by(with_reducible repeat (first|refine blk_drewN ?_ _|refine blk_drew ?_|refine blk_alloc ?_ _));refine blk_far ?_ NB178_191.out _;(with_reducible repeat (first|refine blk_drewN ?_ _|refine blk_drew ?_|refine blk_alloc ?_ _));exact BK178.out))⟩;have n4_:Aside0 (w83.heap[gb179]?=some (.cells #[.int .i64 0,.slice none 0 0,.int .i64 0] 28 (0,0))):=⟨(by rw[hw];exact(by(with_reducible repeat (first|refine blk_drewN ?_ _|refine blk_drew ?_|refine blk_alloc ?_ _));refine blk_far ?_ NB179_191.out _;(with_reducible repeat (first|refine blk_drewN ?_ _|refine blk_drew ?_|refine blk_alloc ?_ _));exact BK179.out))⟩;have n5_:Aside0 (w83.heap[gb191]?=some (.cells #[.slice Ao79 x192000_2.length co79,.int .i64 0,.int .i64 x192002_2] 116 (0,0))):=⟨(by rw[hw];exact(by(with_reducible repeat (first|refine blk_drewN ?_ _|refine blk_drew ?_|refine blk_alloc ?_ _));refine blk_put (cs:=#[.slice Ao79 x192000_2.length co79,.int .i64 x192001_2,.int .i64 x192002_2]) ?_ 1 _ rfl;(with_reducible repeat (first|refine blk_drewN ?_ _|refine blk_drew ?_|refine blk_alloc ?_ _));exact BK191.out))⟩;have n6_:Aside0 (Below w.heap.size w w83):=⟨(by rw[hw];exact(bS3 GE178.out GE179.out GE191.out))⟩;clear hw HO_4 HO_179001 HO_192000 BK178 BK179 BK191 HB;have HO_4:=n0_;have HO_179001:=n1_;have HO_192000:=n2_;have BK178:=n3_;have BK179:=n4_;have BK191:=n5_;have HB:=n6_;clear n0_ n1_ n2_ n3_ n4_ n5_ n6_;have hnb84:=NB178_179.out;have hnc84:=NB179_178.out;obtain⟨hcz85_0,hcz85_1,hcz85_2⟩:=cC3 BK178.out;obtain⟨hfz85_0,hfz85_1,hfz85_2⟩:=cF3 BK178.out;obtain⟨hcz86_0,hcz86_1,hcz86_2⟩:=cC3 BK191.out;obtain⟨hfz86_0,hfz86_1,hfz86_2⟩:=cF3 BK191.out;have p77:0≤(x12_1:Int):=of_decide_eq_true (bD);have q77:(x12_1:Int) < ((x179001_1.length:Int):Int):=of_decide_eq_true (bD);obtain⟨go77,co77,eo77,gb77,gl77,cl77,HG77⟩:=Kd.N_form HO_179001.out (by omega);(first|cases eo77|(injection eo77 with ea_ en_ ec_;(first|subst ea_|(injection ea_ with ea_;subst ea_));subst ec_;clear en_));have GB77:=Aside0.mk gb77;have GG77:=Aside0.mk HG77;clear gb77 gl77 HG77;obtain⟨ce77,hcl77,hM77,hcc77,hfr77⟩:=Kd.N_elem HO_179001.out z116 (x12_1:Int) p77 q77;obtain⟨ua77_0,uc77_0,rfl,ul77_0,ge77_0⟩:=k116_openF hM77;have hx77_0:w83.cell? ⟨go77,(x12_1:Int).toNat * 3,none⟩=some (.slice ua77_0 ((rd_T116 x179001_1 x12_1).f0).length uc77_0):=hcc77 0 _ rfl;have hx77_1:w83.cell? ⟨go77,(x12_1:Int).toNat * 3+1,none⟩=some (.int .i64 ((rd_T116 x179001_1 x12_1).f1)):=hcc77 1 _ rfl;have hx77_2:w83.cell? ⟨go77,(x12_1:Int).toNat * 3+2,none⟩=some (.int .i64 ((rd_T116 x179001_1 x12_1).f2)):=hcc77 2 _ rfl;have hf77_0:w83.frozen? ⟨go77,(x12_1:Int).toNat * 3,none⟩=false:=hfr77 0;have hf77_1:w83.frozen? ⟨go77,(x12_1:Int).toNat * 3+1,none⟩=false:=hfr77 1;have hf77_2:w83.frozen? ⟨go77,(x12_1:Int).toNat * 3+2,none⟩=false:=hfr77 2;clear hcl77 hcc77 hfr77 hM77;replace p77:=eq_true p77;replace q77:=eq_true q77;have HX87:=Aside0.mk (show Kd.N k116 116 w83 w.heap.size (fun k_=>(w.heap.size≤k_)∧some k_≠(u4:Value).ownBlock∧k_≠gb178∧k_≠gb179∧k_≠gb191) (.slice (some ⟨go77,0,none⟩) x179001_1.length co23) x179001_1 from (by(with_reducible repeat (first|apply Kd.N_alloc|apply Kd.N_drewN|apply Kd.N_drew));exact HO_179001.out));obtain⟨ce87,hcl87,hM87,hcc87,hfr87⟩:=Kd.N_elem HX87.out z116 (x12_1:Int) (of_decide_eq_true (bD)) (by have h_:(x12_1:Int) < ((x179001_1.length:Int):Int):=of_decide_eq_true (bD);first|exact h_|(have e_:=(Kd.N_reads' HO_179001.out).1;omega)|simpa using h_);obtain⟨ua87_0,uc87_0,rfl,ul87_0,ge87_0⟩:=k116_openF hM87;have HP87:=Kd.N_seg HX87.out (x12_1:Int) (of_decide_eq_true (bD)) (by have h_:(x12_1:Int) < ((x179001_1.length:Int):Int):=of_decide_eq_true (bD);first|exact h_|(have e_:=(Kd.N_reads' HO_179001.out).1;omega)|simpa using h_) (seg:=[.slice Ao79 x192000_2.length co79,.int .i64 0,.int .i64 x192002_2]) (j:=0) hcl87 hcc87 (show 3≤3 from by decide) (x':=(⟨x192000_2,0,x192002_2⟩:S116)) (k116_mkF _ _ (⟨x192000_2,0,x192002_2⟩:S116) (Kd.V_reads' (Kd.V_mono (ok':=(fun k_=>((fun k_=>(w.heap.size≤k_)∧some k_≠(u4:Value).ownBlock∧k_≠gb178∧k_≠gb179∧k_≠gb191)) k_∧k_≠go77)) (HO_192000.out) (fun k_ hk=>⟨⟨hk.1,⟨hk.2.1,⟨hk.2.2.2.1,⟨hk.2.2.2.2.1,hk.2.2.2.2.2⟩⟩⟩⟩,fun e_=>(hk.2.2.1) (by rw[e_];rfl)⟩))).2.1 (Kd.V_F (Kd.V_mono (ok':=(fun k_=>((fun k_=>(w.heap.size≤k_)∧some k_≠(u4:Value).ownBlock∧k_≠gb178∧k_≠gb179∧k_≠gb191)) k_∧k_≠go77)) (HO_192000.out) (fun k_ hk=>⟨⟨hk.1,⟨hk.2.1,⟨hk.2.2.2.1,⟨hk.2.2.2.2.1,hk.2.2.2.2.2⟩⟩⟩⟩,fun e_=>(hk.2.2.1) (by rw[e_];rfl)⟩)))) (fun _ hk=>hk);have hx87_0:=hcc87 0 _ rfl;(try simp only[show(k116).sz=3 from rfl,Nat.mul_one,Nat.add_zero] at hx87_0);have hf87_0:=hfr87 0;(try simp only[show(k116).sz=3 from rfl,Nat.mul_one,Nat.add_zero] at hf87_0);have hx87_1:=hcc87 1 _ rfl;(try simp only[show(k116).sz=3 from rfl,Nat.mul_one,Nat.add_zero] at hx87_1);have hf87_1:=hfr87 1;(try simp only[show(k116).sz=3 from rfl,Nat.mul_one,Nat.add_zero] at hf87_1);have hx87_2:=hcc87 2 _ rfl;(try simp only[show(k116).sz=3 from rfl,Nat.mul_one,Nat.add_zero] at hx87_2);have hf87_2:=hfr87 2;(try simp only[show(k116).sz=3 from rfl,Nat.mul_one,Nat.add_zero] at hf87_2);clear hcl87 hcc87 hfr87 hM87)|((with_reducible refine gate_store (t:=116) (p:=76) rfl ?_);refine store_event (t:=116) (p:=76) (v:=?vo_w88) (w1:=(((w83.setCell ⟨go77,(x12_1:Int).toNat * 3,none⟩ (.slice Ao79 x192000_2.length co79)).setCell ⟨go77,(x12_1:Int).toNat * 3+1,none⟩ (.int .i64 0)).setCell ⟨go77,(x12_1:Int).toNat * 3+2,none⟩ (.int .i64 x192002_2))) ?hg ?ho ?hn ?hr ?_;(case ho=>rfl);(case hg=>rfl);(case hn=>rfl);(case hr=>(try (obtain⟨Aq_,cq_,eq_⟩:=Kd.V_slice HO_192000.out;subst eq_));first|(go_simp;done)|(go_simp;rfl));intro w88 hw;have hg:w83.grownBy w88 (some go77):=(by rw[hw];exact HP87.2);have hp_:Kd.N k116 116 w88 w.heap.size (fun k_=>(w.heap.size≤k_)∧some k_≠(u4:Value).ownBlock∧k_≠gb178∧k_≠gb179∧k_≠gb191) (.slice (some ⟨go77,0,none⟩) x179001_1.length co23) y205:=(by rw[hw,Ny205.out];exact HP87.1);clear HP87;have n0_:=Aside0.mk (Kd.R_over' (v:=(.slice (some ⟨go77,0,none⟩) x179001_1.length co23)) (bK HO_4.out) (Kd.N_typed HO_179001.out) (by decide) hg);have n1_:=Aside0.mk (hp_);have n2_:=Aside0.mk (Kd.V_afterv (v:=(.slice (some ⟨go77,0,none⟩) x179001_1.length co23)) (v1:=(.slice (some ⟨go77,0,none⟩) x179001_1.length co23)) (ok:=(fun k_=>(w.heap.size≤k_)∧some k_≠(u4:Value).ownBlock∧k_≠gb178∧k_≠gb179∧k_≠gb191)) (by(with_reducible repeat (first|apply Kd.V_alloc|apply Kd.V_drewN|apply Kd.V_drew));exact Kd.V_mono HO_192000.out (fun _ hk=>⟨⟨hk.1,⟨hk.2.1,⟨hk.2.2.2.1,⟨hk.2.2.2.2.1,hk.2.2.2.2.2⟩⟩⟩⟩,hk.2.2.1⟩)) hg (.inl rfl));have n3_:=Aside0.mk (blk_grown (g:=gb178) (o:=.cells #[.int .i64 t180,.slice (some ⟨go77,0,none⟩) x179001_1.length co23,.int .i64 t184] 28 (0,0)) (bL BK178.out) hg (Kd.N_ne HO_179001.out BK178.out (by decide)));have n4_:=Aside0.mk (blk_grown (g:=gb179) (o:=.cells #[.int .i64 0,.slice none 0 0,.int .i64 0] 28 (0,0)) (bL BK179.out) hg (Kd.N_ne HO_179001.out BK179.out (by decide)));have n5_:=Aside0.mk (blk_grown (g:=gb191) (o:=.cells #[.slice Ao79 x192000_2.length co79,.int .i64 0,.int .i64 x192002_2] 116 (0,0)) (bL BK191.out) hg (Kd.N_away HO_179001.out (fun _ hk=>hk.2.2.2.2)));have n6_:=Aside0.mk ((by rw[hw];exact below_set (below_set (below_set (HB.out) GB77.out) GB77.out) GB77.out:Below w.heap.size w w88));clear HO_4 HO_179001 HO_192000 BK178 BK179 BK191 HB;have HO_4:=n0_;have HO_179001:=n1_;have HO_192000:=n2_;have BK178:=n3_;have BK179:=n4_;have BK191:=n5_;have HB:=n6_;clear n0_ n1_ n2_ n3_ n4_ n5_ n6_;clear hg hw hp_))
             go_roundg k2
             case measure=>have:=HK1.out;have:=HK2.out;omega
             case rel=>exact⟨(x4_2),(wrap64 (x12_1+1)),(y205),(.slice (some ⟨go77,0,none⟩) x179001_1.length co23),(bR),H',⟨by have:=HK1.out;have:=HK2.out;omega⟩,⟨by(with_reducible repeat (first|apply Kd.R_alloc|apply Kd.R_drewN|apply Kd.R_drew));exact HO_4.out⟩,⟨by(with_reducible repeat (first|apply Kd.N_alloc|apply Kd.N_drewN|apply Kd.N_drew));exact Kd.N_mono HO_179001.out (fun _ hk=>⟨hk.1,⟨hk.2.1,⟨hk.2.2.1,hk.2.2.2.1⟩⟩⟩)⟩,⟨by(with_reducible repeat (first|refine blk_drewN ?_ _|refine blk_drew ?_|refine blk_alloc ?_ _));exact BK178.out⟩,⟨by(with_reducible repeat (first|refine blk_drewN ?_ _|refine blk_drew ?_|refine blk_alloc ?_ _));exact BK179.out⟩,⟨bS3 GE178.out GE179.out GE191.out⟩⟩
            ·rw[if_neg c76] at H
             exact absurd H (by simp)
           ·rw[if_neg c75] at H
            exact absurd H (by simp)
          ·rw[if_neg c74] at H
           have c74b0:((x192000_2.length:Int) == 0)=false:=beq_eq_false_iff_ne.mpr c74
           have c74b1:((x192000_2.length:Int) != 0)=true:=bne_iff_ne.mpr c74
           have c74b2 : ¬ (x192000_2=[]):=fun h_=>c74 (by rw[h_];rfl)
           by_cases c89:0≤x12_1
           ·rw[if_pos c89] at H
            have c89b0:decide (0≤x12_1)=true:=decide_eq_true c89
            clear c89
            by_cases c90:x12_1 < (x179001_1.length:Int)
            ·rw[if_pos c90] at H
             have c90b0:decide (x12_1 < (x179001_1.length:Int))=true:=decide_eq_true c90
             clear c90
             obtain⟨y206,hy206⟩ : ∃ y_:List (S116),y_=(x179001_1.set (x12_1:Int).toNat (⟨x192000_2,x192001_2,x192002_2⟩:S116)):=⟨_,rfl⟩
             replace H:(spec_l14Round.l0 k2 x4_2 (t181.length:Int) (wrap64 (x12_1+1)) t180 y206 t184)=some (r1,r2,r3,r4):=by first|(rw[hy206];with_reducible exact H)|(have H2_:=(Option.bind_some _ _).symm.trans H;rw[hy206];with_reducible exact H2_)|(have H2_:=(Option.bind_some _ _).symm.trans H;with_reducible exact H2_)|with_reducible exact H|(rw[hy206];exact H)|exact H
             have Ny206:=Aside0.mk hy206
             clear hy206
             have H':=Aside0.mk H
             clear H
             try go_wp2
             (try (rw[drewN_self wr];generalize hq_:World.drewN wr _=wr;have n0_:=Aside0.mk (Kd.R_at hq_ HO_4.out);have n1_:=Aside0.mk (Kd.N_at hq_ HO_179001.out);have n2_:=Aside0.mk (Kd.V_at hq_ HO_192000.out);have n3_:=Aside0.mk (blk_at hq_ BK178.out);have n4_:=Aside0.mk (blk_at hq_ BK179.out);have n5_:=Aside0.mk (blk_at hq_ BK191.out);have n6_:=Aside0.mk (below_at hq_ HB.out);clear hq_ HO_4 HO_179001 HO_192000 BK178 BK179 BK191 HB;have HO_4:=n0_;have HO_179001:=n1_;have HO_192000:=n2_;have BK178:=n3_;have BK179:=n4_;have BK191:=n5_;have HB:=n6_;clear n0_ n1_ n2_ n3_ n4_ n5_ n6_))
             have n0_:=Aside0.mk (Kd.R_drew HO_4.out)
             have n1_:=Aside0.mk (Kd.N_drew HO_179001.out)
             have n2_:=Aside0.mk (Kd.V_drew HO_192000.out)
             have n3_:=Aside0.mk (blk_drew BK178.out)
             have n4_:=Aside0.mk (blk_drew BK179.out)
             have n5_:=Aside0.mk (blk_drew BK191.out)
             have n6_:=Aside0.mk (below_drew1 HB.out)
             clear HO_4 HO_179001 HO_192000 BK178 BK179 BK191 HB
             have HO_4:=n0_
             have HO_179001:=n1_
             have HO_192000:=n2_
             have BK178:=n3_
             have BK179:=n4_
             have BK191:=n5_
             have HB:=n6_
             clear n0_ n1_ n2_ n3_ n4_ n5_ n6_
             obtain⟨Ao93,co93,eo93⟩:=Kd.V_slice HO_192000.out
             (first|subst eo93|(injection eo93 with f1_ f2_ f3_;have f4_:=f1_.symm;have f5_:=f3_.symm;clear f1_ f2_ f3_;subst f4_;subst f5_))
             refine start_ (n:=13) (S:=fun w'=>w'.cell? ⟨gb191,0,none⟩=some (.slice Ao93 x192000_2.length co93)∧w'.cell? ⟨gb191,1,none⟩=some (.int .i64 x192001_2)∧w'.cell? ⟨gb191,2,none⟩=some (.int .i64 x192002_2)) (ds:=[]) #[false,false,false,false,false,false,false,false,false,false,false,false,false] (by kernel_rfl) rfl rfl (cC3 BK191.out) (fun hHeld => ?_);refine with_tabW spec_l14Round.tab9 spec_l14Round.bits9 (fun HT_ HW_ => ?_)
             generalize wr.drew=w92 at HO_4 HO_179001 HO_192000 BK178 BK179 BK191 HB hHeld ⊢
             refine pure_ (i:=0) (N:=some 30) (v:=?_) (a':=?_) #[true,false,false,false,false,false,false,false,false,false,false,false,false] rfl rfl (any_of HT_.out (by kernel_rfl)) (fun _ _ _ h=>h) (Or.inl ⟨by rfl,?_⟩) ?_ ?_
             rotate_left
             ·intro w'
              go_simp
              with_reducible rfl
             rotate_left
             ·simp only[Act.put,List.setIfInBounds_toArray,List.set_cons_zero,List.set_cons_succ,i64_w,i32_w]
              rfl
             refine take_ (i:=1) (N:=some 31) (v:=?_) (a':=?_) #[true,true,false,false,false,false,false,false,false,false,false,false,false] rfl rfl (take_ofW HT_.out HW_.out (by kernel_rfl)) (fun _ _ _ h=>h) (Or.inl ⟨by rfl,?_⟩) hHeld ?_ ?_
             rotate_left
             ·rintro w' ⟨s0,s1,s2⟩
              go_simp
              with_reducible rfl
             rotate_left
             ·simp only[Act.put,List.setIfInBounds_toArray,List.set_cons_zero,List.set_cons_succ,i64_w,i32_w]
              rfl
             refine pure_ (i:=2) (N:=some 32) (v:=?_) (a':=?_) #[true,true,true,false,false,false,false,false,false,false,false,false,false] rfl rfl (any_of HT_.out (by kernel_rfl)) (fun _ _ _ h=>h) (Or.inl ⟨by rfl,?_⟩) ?_ ?_
             rotate_left
             ·intro w'
              go_simp
              with_reducible rfl
             rotate_left
             ·simp only[Act.put,List.setIfInBounds_toArray,List.set_cons_zero,List.set_cons_succ,i64_w,i32_w]
              rfl
             refine pure_ (i:=3) (N:=some 33) (v:=?_) (a':=?_) #[true,true,true,true,false,false,false,false,false,false,false,false,false] rfl rfl (any_of HT_.out (by kernel_rfl)) (fun _ _ _ h=>h) (Or.inl ⟨by rfl,?_⟩) ?_ ?_
             rotate_left
             ·intro w'
              go_simp
              with_reducible rfl
             rotate_left
             ·simp only[Act.put,List.setIfInBounds_toArray,List.set_cons_zero,List.set_cons_succ,i64_w,i32_w]
              rfl
             refine pure_ (i:=4) (N:=some 34) (v:=?_) (a':=?_) #[true,true,true,true,true,false,false,false,false,false,false,false,false] rfl rfl (any_of HT_.out (by kernel_rfl)) (fun _ _ _ h=>h) (Or.inl ⟨by rfl,?_⟩) ?_ ?_
             rotate_left
             ·intro w'
              go_simp
              with_reducible rfl
             rotate_left
             ·simp only[Act.put,List.setIfInBounds_toArray,List.set_cons_zero,List.set_cons_succ,i64_w,i32_w]
              rfl
             refine pure_ (i:=5) (N:=some 35) (v:=undef) (a':=?_) #[true,true,true,true,true,true,false,false,false,false,false,false,false] rfl rfl (any_of HT_.out (by kernel_rfl)) (fun _ _ _ h=>h) (Or.inr ⟨by rfl,rfl⟩) ?_ ?_
             rotate_left
             ·simp only[Act.put,List.setIfInBounds_toArray,List.set_cons_zero,List.set_cons_succ,i64_w,i32_w]
              rfl
             refine pure_ (i:=6) (N:=some 36) (v:=undef) (a':=?_) #[true,true,true,true,true,true,true,false,false,false,false,false,false] rfl rfl (any_of HT_.out (by kernel_rfl)) (fun _ _ _ h=>h) (Or.inr ⟨by rfl,rfl⟩) ?_ ?_
             rotate_left
             ·simp only[Act.put,List.setIfInBounds_toArray,List.set_cons_zero,List.set_cons_succ,i64_w,i32_w]
              rfl
             refine pure_ (i:=7) (N:=some 37) (v:=undef) (a':=?_) #[true,true,true,true,true,true,true,true,false,false,false,false,false] rfl rfl (any_of HT_.out (by kernel_rfl)) (fun _ _ _ h=>h) (Or.inr ⟨by rfl,rfl⟩) ?_ ?_
             rotate_left
             ·simp only[Act.put,List.setIfInBounds_toArray,List.set_cons_zero,List.set_cons_succ,i64_w,i32_w]
              rfl
             refine pure_ (i:=8) (N:=some 38) (v:=undef) (a':=?_) #[true,true,true,true,true,true,true,true,true,false,false,false,false] rfl rfl (any_of HT_.out (by kernel_rfl)) (fun _ _ _ h=>h) (Or.inr ⟨by rfl,rfl⟩) ?_ ?_
             rotate_left
             ·simp only[Act.put,List.setIfInBounds_toArray,List.set_cons_zero,List.set_cons_succ,i64_w,i32_w]
              rfl
             refine pure_ (i:=9) (N:=some 39) (v:=undef) (a':=?_) #[true,true,true,true,true,true,true,true,true,true,false,false,false] rfl rfl (any_of HT_.out (by kernel_rfl)) (fun _ _ _ h=>h) (Or.inr ⟨by rfl,rfl⟩) ?_ ?_
             rotate_left
             ·simp only[Act.put,List.setIfInBounds_toArray,List.set_cons_zero,List.set_cons_succ,i64_w,i32_w]
              rfl
             refine pure_ (i:=10) (N:=some 40) (v:=undef) (a':=?_) #[true,true,true,true,true,true,true,true,true,true,true,false,false] rfl rfl (any_of HT_.out (by kernel_rfl)) (fun _ _ _ h=>h) (Or.inr ⟨by rfl,rfl⟩) ?_ ?_
             rotate_left
             ·simp only[Act.put,List.setIfInBounds_toArray,List.set_cons_zero,List.set_cons_succ,i64_w,i32_w]
              rfl
             refine pure_ (i:=11) (N:=some 41) (v:=undef) (a':=?_) #[true,true,true,true,true,true,true,true,true,true,true,true,false] rfl rfl (any_of HT_.out (by kernel_rfl)) (fun _ _ _ h=>h) (Or.inr ⟨by rfl,rfl⟩) ?_ ?_
             rotate_left
             ·simp only[Act.put,List.setIfInBounds_toArray,List.set_cons_zero,List.set_cons_succ,i64_w,i32_w]
              rfl
             refine pure_ (i:=12) (N:=some 42) (v:=?_) (a':=?_) #[true,true,true,true,true,true,true,true,true,true,true,true,true] rfl rfl (any_of HT_.out (by kernel_rfl)) (fun _ _ _ h=>h) (Or.inl ⟨by rfl,?_⟩) ?_ ?_
             rotate_left
             ·intro w'
              go_simp
              with_reducible rfl
             rotate_left
             ·simp only[Act.put,List.setIfInBounds_toArray,List.set_cons_zero,List.set_cons_succ,i64_w,i32_w]
              rfl
             refine done_ (done_of HT_.out (by kernel_rfl)) ?_
             have hnb94:=NB191_178.out
             have hnc94:=NB178_191.out
             have hnb95:=NB191_179.out
             have hnc95:=NB179_191.out
             obtain⟨hcz96_0,hcz96_1,hcz96_2⟩:=cC3 BK191.out
             obtain⟨hfz96_0,hfz96_1,hfz96_2⟩:=cF3 BK191.out
             have hnb97:=NB178_179.out
             have hnc97:=NB179_178.out
             obtain⟨hcz98_0,hcz98_1,hcz98_2⟩:=cC3 BK178.out
             obtain⟨hfz98_0,hfz98_1,hfz98_2⟩:=cF3 BK178.out
             have p91:0≤(x12_1:Int):=of_decide_eq_true (bD)
             have q91:(x12_1:Int) < ((x179001_1.length:Int):Int):=of_decide_eq_true (bD)
             obtain⟨go91,co91,eo91,gb91,gl91,cl91,HG91⟩:=Kd.N_form HO_179001.out (by omega)
             (first|cases eo91|(injection eo91 with ea_ en_ ec_;(first|subst ea_|(injection ea_ with ea_;subst ea_));subst ec_;clear en_))
             have GB91:=Aside0.mk gb91
             have GG91:=Aside0.mk HG91
             clear gb91 gl91 HG91
             obtain⟨ce91,hcl91,hM91,hcc91,hfr91⟩:=Kd.N_elem HO_179001.out z116 (x12_1:Int) p91 q91
             obtain⟨ua91_0,uc91_0,rfl,ul91_0,ge91_0⟩:=k116_openF hM91
             have hx91_0:w92.cell? ⟨go91,(x12_1:Int).toNat * 3,none⟩=some (.slice ua91_0 ((rd_T116 x179001_1 x12_1).f0).length uc91_0):=hcc91 0 _ rfl
             have hx91_1:w92.cell? ⟨go91,(x12_1:Int).toNat * 3+1,none⟩=some (.int .i64 ((rd_T116 x179001_1 x12_1).f1)):=hcc91 1 _ rfl
             have hx91_2:w92.cell? ⟨go91,(x12_1:Int).toNat * 3+2,none⟩=some (.int .i64 ((rd_T116 x179001_1 x12_1).f2)):=hcc91 2 _ rfl
             have hf91_0:w92.frozen? ⟨go91,(x12_1:Int).toNat * 3,none⟩=false:=hfr91 0
             have hf91_1:w92.frozen? ⟨go91,(x12_1:Int).toNat * 3+1,none⟩=false:=hfr91 1
             have hf91_2:w92.frozen? ⟨go91,(x12_1:Int).toNat * 3+2,none⟩=false:=hfr91 2
             clear hcl91 hcc91 hfr91 hM91
             replace p91:=eq_true p91
             replace q91:=eq_true q91
             have HX99:=Aside0.mk (show Kd.N k116 116 w92 w.heap.size (fun k_=>(w.heap.size≤k_)∧some k_≠(u4:Value).ownBlock∧k_≠gb178∧k_≠gb179∧k_≠gb191) (.slice (some ⟨go91,0,none⟩) x179001_1.length co23) x179001_1 from (by(with_reducible repeat (first|apply Kd.N_alloc|apply Kd.N_drewN|apply Kd.N_drew));exact HO_179001.out))
             obtain⟨ce99,hcl99,hM99,hcc99,hfr99⟩:=Kd.N_elem HX99.out z116 (x12_1:Int) (of_decide_eq_true (bD)) (by have h_:(x12_1:Int) < ((x179001_1.length:Int):Int):=of_decide_eq_true (bD);first|exact h_|(have e_:=(Kd.N_reads' HO_179001.out).1;omega)|simpa using h_)
             obtain⟨ua99_0,uc99_0,rfl,ul99_0,ge99_0⟩:=k116_openF hM99
             have HP99:=Kd.N_seg HX99.out (x12_1:Int) (of_decide_eq_true (bD)) (by have h_:(x12_1:Int) < ((x179001_1.length:Int):Int):=of_decide_eq_true (bD);first|exact h_|(have e_:=(Kd.N_reads' HO_179001.out).1;omega)|simpa using h_) (seg:=[.slice Ao93 x192000_2.length co93,.int .i64 x192001_2,.int .i64 x192002_2]) (j:=0) hcl99 hcc99 (show 3≤3 from by decide) (x':=(⟨x192000_2,x192001_2,x192002_2⟩:S116)) (k116_mkF _ _ (⟨x192000_2,x192001_2,x192002_2⟩:S116) (Kd.V_reads' (Kd.V_mono (ok':=(fun k_=>((fun k_=>(w.heap.size≤k_)∧some k_≠(u4:Value).ownBlock∧k_≠gb178∧k_≠gb179∧k_≠gb191)) k_∧k_≠go91)) (HO_192000.out) (fun k_ hk=>⟨⟨hk.1,⟨hk.2.1,⟨hk.2.2.2.1,⟨hk.2.2.2.2.1,hk.2.2.2.2.2⟩⟩⟩⟩,fun e_=>(hk.2.2.1) (by rw[e_];rfl)⟩))).2.1 (Kd.V_F (Kd.V_mono (ok':=(fun k_=>((fun k_=>(w.heap.size≤k_)∧some k_≠(u4:Value).ownBlock∧k_≠gb178∧k_≠gb179∧k_≠gb191)) k_∧k_≠go91)) (HO_192000.out) (fun k_ hk=>⟨⟨hk.1,⟨hk.2.1,⟨hk.2.2.2.1,⟨hk.2.2.2.2.1,hk.2.2.2.2.2⟩⟩⟩⟩,fun e_=>(hk.2.2.1) (by rw[e_];rfl)⟩)))) (fun _ hk=>hk)
             have hx99_0:=hcc99 0 _ rfl
             (try simp only[show(k116).sz=3 from rfl,Nat.mul_one,Nat.add_zero] at hx99_0)
             have hf99_0:=hfr99 0
             (try simp only[show(k116).sz=3 from rfl,Nat.mul_one,Nat.add_zero] at hf99_0)
             have hx99_1:=hcc99 1 _ rfl
             (try simp only[show(k116).sz=3 from rfl,Nat.mul_one,Nat.add_zero] at hx99_1)
             have hf99_1:=hfr99 1
             (try simp only[show(k116).sz=3 from rfl,Nat.mul_one,Nat.add_zero] at hf99_1)
             have hx99_2:=hcc99 2 _ rfl
             (try simp only[show(k116).sz=3 from rfl,Nat.mul_one,Nat.add_zero] at hx99_2)
             have hf99_2:=hfr99 2
             (try simp only[show(k116).sz=3 from rfl,Nat.mul_one,Nat.add_zero] at hf99_2)
             clear hcl99 hcc99 hfr99 hM99
             try go_wp2_with (first|((with_reducible refine gate_store (t:=116) (p:=76) rfl ?_);refine store_event (t:=116) (p:=76) (v:=?vo_w100) (w1:=(((w92.setCell ⟨go91,(x12_1:Int).toNat * 3,none⟩ (.slice Ao93 x192000_2.length co93)).setCell ⟨go91,(x12_1:Int).toNat * 3+1,none⟩ (.int .i64 x192001_2)).setCell ⟨go91,(x12_1:Int).toNat * 3+2,none⟩ (.int .i64 x192002_2))) ?hg ?ho ?hn ?hr ?_;(case ho=>rfl);(case hg=>rfl);(case hn=>rfl);(case hr=>(try (obtain⟨Aq_,cq_,eq_⟩:=Kd.V_slice HO_192000.out;subst eq_));first|(go_simp;done)|(go_simp;rfl));intro w100 hw;have hg:w92.grownBy w100 (some go91):=(by rw[hw];exact HP99.2);have hp_:Kd.N k116 116 w100 w.heap.size (fun k_=>(w.heap.size≤k_)∧some k_≠(u4:Value).ownBlock∧k_≠gb178∧k_≠gb179∧k_≠gb191) (.slice (some ⟨go91,0,none⟩) x179001_1.length co23) y206:=(by rw[hw,Ny206.out];exact HP99.1);clear HP99;have n0_:=Aside0.mk (Kd.R_over' (v:=(.slice (some ⟨go91,0,none⟩) x179001_1.length co23)) (bK HO_4.out) (Kd.N_typed HO_179001.out) (by decide) hg);have n1_:=Aside0.mk (hp_);have n2_:=Aside0.mk (Kd.V_afterv (v:=(.slice (some ⟨go91,0,none⟩) x179001_1.length co23)) (v1:=(.slice (some ⟨go91,0,none⟩) x179001_1.length co23)) (ok:=(fun k_=>(w.heap.size≤k_)∧some k_≠(u4:Value).ownBlock∧k_≠gb178∧k_≠gb179∧k_≠gb191)) (by(with_reducible repeat (first|apply Kd.V_alloc|apply Kd.V_drewN|apply Kd.V_drew));exact Kd.V_mono HO_192000.out (fun _ hk=>⟨⟨hk.1,⟨hk.2.1,⟨hk.2.2.2.1,⟨hk.2.2.2.2.1,hk.2.2.2.2.2⟩⟩⟩⟩,hk.2.2.1⟩)) hg (.inl rfl));have n3_:=Aside0.mk (blk_grown (g:=gb178) (o:=.cells #[.int .i64 t180,.slice (some ⟨go91,0,none⟩) x179001_1.length co23,.int .i64 t184] 28 (0,0)) (bL BK178.out) hg (Kd.N_ne HO_179001.out BK178.out (by decide)));have n4_:=Aside0.mk (blk_grown (g:=gb179) (o:=.cells #[.int .i64 0,.slice none 0 0,.int .i64 0] 28 (0,0)) (bL BK179.out) hg (Kd.N_ne HO_179001.out BK179.out (by decide)));have n5_:=Aside0.mk (blk_grown (g:=gb191) (o:=.cells #[.slice Ao93 x192000_2.length co93,.int .i64 x192001_2,.int .i64 x192002_2] 116 (0,0)) (bL BK191.out) hg (Kd.N_away HO_179001.out (fun _ hk=>hk.2.2.2.2)));have n6_:=Aside0.mk ((by rw[hw];exact below_set (below_set (below_set (HB.out) GB91.out) GB91.out) GB91.out:Below w.heap.size w w100));clear HO_4 HO_179001 HO_192000 BK178 BK179 BK191 HB;have HO_4:=n0_;have HO_179001:=n1_;have HO_192000:=n2_;have BK178:=n3_;have BK179:=n4_;have BK191:=n5_;have HB:=n6_;clear n0_ n1_ n2_ n3_ n4_ n5_ n6_;clear hg hw hp_))
             go_roundg k2
             case measure=>have:=HK1.out;have:=HK2.out;omega
             case rel=>exact⟨(x4_2),(wrap64 (x12_1+1)),(y206),(.slice (some ⟨go91,0,none⟩) x179001_1.length co23),(bR),H',⟨by have:=HK1.out;have:=HK2.out;omega⟩,⟨by(with_reducible repeat (first|apply Kd.R_alloc|apply Kd.R_drewN|apply Kd.R_drew));exact HO_4.out⟩,⟨by(with_reducible repeat (first|apply Kd.N_alloc|apply Kd.N_drewN|apply Kd.N_drew));exact Kd.N_mono HO_179001.out (fun _ hk=>⟨hk.1,⟨hk.2.1,⟨hk.2.2.1,hk.2.2.2.1⟩⟩⟩)⟩,⟨by(with_reducible repeat (first|refine blk_drewN ?_ _|refine blk_drew ?_|refine blk_alloc ?_ _));exact BK178.out⟩,⟨by(with_reducible repeat (first|refine blk_drewN ?_ _|refine blk_drew ?_|refine blk_alloc ?_ _));exact BK179.out⟩,⟨bS3 GE178.out GE179.out GE191.out⟩⟩
            ·rw[if_neg c90] at H
             exact absurd H (by simp)
           ·rw[if_neg c89] at H
            exact absurd H (by simp)
     ·rw[if_neg c12] at H
      exact absurd H (by simp)
    ·rw[if_neg c11] at H
     exact absurd H (by simp)
   ·rw[if_neg c10] at H
    have c10b0:decide (x12_1 < (t181.length:Int))=false:=decide_eq_false c10
    clear c10
    replace H:=Option.bind_eq_some_iff.mp H
    obtain⟨⟨t185,t186,t189⟩,A1010,H⟩:=H
    replace H:(some (t185,t186,t189,x4_1))=some (r1,r2,r3,r4):=H
    have A101:=Aside0.mk A1010
    clear A1010
    simp only[Option.some.injEq,Prod.mk.injEq] at H
    obtain⟨rfl,rfl,rfl,rfl⟩:=H
    have hnb102:=NB178_179.out
    have hnc102:=NB179_178.out
    obtain⟨hcz103_0,hcz103_1,hcz103_2⟩:=cC3 BK178.out
    obtain⟨hfz103_0,hfz103_1,hfz103_2⟩:=cF3 BK178.out
    obtain⟨Ao104,co104,eo104⟩:=Kd.N_slice HO_179001.out
    subst eo104
    go_wp2_with (first|((with_reducible refine gate_callee (f:=76) rfl ?_);refine goesA (some 83) rfl rfl Try.func76 #[.agg #[.int .i64 t180,.slice Ao104 x179001_1.length co104,.int .i64 (wrap64 (t184+1))]] rfl ?_;(with_reducible refine(spec_l14Own.calls k1 t180 _ _ x179001_1 (wrap64 (t184+1)) t185 t186 t189 _ ?side1 ?side2 A101.out).mono ?_);(case side1=>refine(Kd.N_reads' (e:=116) (base:=w.heap.size) (ok:=fun k_=>((w.heap.size≤k_)∧(some k_≠(u4:Value).ownBlock∧(k_≠gb178∧k_≠gb179)))) (n:=x179001_1.length) (c:=co104) ?_).2.2;exact(by(with_reducible repeat (first|apply Kd.N_alloc|apply Kd.N_drewN|apply Kd.N_drew));exact(Kd.N_mono (Kd.N_far (p:=⟨gb178,2,none⟩) (Kd.N_mono HO_179001.out (fun k_ hk=>(⟨hk,hk.2.2.1⟩:_∧k_≠gb178))) (fun _ hk=>hk.2) (.int .i64 (wrap64 (t184+1)))) (fun _ h_=>h_.1))));(case side2=>exact(Kd.N_reads' HO_179001.out).2.1);rintro e w105 ⟨v187,rfl,ho0,hb⟩;refine⟨_,rfl,?_⟩;have n0_:=Aside0.mk (Kd.R_below (by(with_reducible repeat (first|apply Kd.R_alloc|apply Kd.R_drewN|apply Kd.R_drew));exact(Kd.R_mono (Kd.R_far (p:=⟨gb178,2,none⟩) (Kd.R_types HO_4.out BK178.out (by decide)) (fun _ hk=>hk.2) (.int .i64 (wrap64 (t184+1)))) (fun _ h_=>h_.1))) hb);have n1_:=Aside0.mk (Kd.N_elder' (by(with_reducible repeat (first|apply Kd.N_alloc|apply Kd.N_drewN|apply Kd.N_drew));exact(Kd.N_mono (Kd.N_far (p:=⟨gb178,2,none⟩) (Kd.N_mono HO_179001.out (fun k_ hk=>(⟨hk,hk.2.2.1⟩:_∧k_≠gb178))) (fun _ hk=>hk.2) (.int .i64 (wrap64 (t184+1)))) (fun _ h_=>h_.1))) (by first|exact Kd.N_base ho0|exact Kd.S_base ho0) hb);have n2_:=Aside0.mk (Kd.S_lower (Kd.S_mono (ok':=fun k_=>(w.heap.size≤k_)∧some k_≠(u4:Value).ownBlock∧some k_≠(.slice Ao104 x179001_1.length co104:Value).ownBlock∧k_≠gb178∧k_≠gb179) (Kd.S_bound ho0) (fun k_ hk_=>⟨(Nat.le_trans (below_size (bS2 GE178.out GE179.out)) hk_.2.1),(Kd.fresh' (Kd.R_lt (by(with_reducible repeat (first|apply Kd.R_alloc|apply Kd.R_drewN|apply Kd.R_drew));exact(Kd.R_mono (Kd.R_far (p:=⟨gb178,2,none⟩) (Kd.R_types HO_4.out BK178.out (by decide)) (fun _ hk=>hk.2) (.int .i64 (wrap64 (t184+1)))) (fun _ h_=>h_.1)))) k_ hk_.2.1),(Kd.fresh' (Kd.N_lt (by(with_reducible repeat (first|apply Kd.N_alloc|apply Kd.N_drewN|apply Kd.N_drew));exact(Kd.N_mono (Kd.N_far (p:=⟨gb178,2,none⟩) (Kd.N_mono HO_179001.out (fun k_ hk=>(⟨hk,hk.2.2.1⟩:_∧k_≠gb178))) (fun _ hk=>hk.2) (.int .i64 (wrap64 (t184+1)))) (fun _ h_=>h_.1)))) k_ hk_.2.1),(Kd.freshB (g:=gb178) (o:=.cells #[.int .i64 t180,.slice Ao104 x179001_1.length co104,.int .i64 (wrap64 (t184+1))] 28 (0,0)) (by(with_reducible repeat (first|refine blk_drewN ?_ _|refine blk_drew ?_|refine blk_alloc ?_ _));refine blk_put (cs:=#[.int .i64 t180,.slice Ao104 x179001_1.length co104,.int .i64 t184]) ?_ 2 _ rfl;(with_reducible repeat (first|refine blk_drewN ?_ _|refine blk_drew ?_|refine blk_alloc ?_ _));exact BK178.out) k_ hk_.2.1),(Kd.freshB (g:=gb179) (o:=.cells #[.int .i64 0,.slice none 0 0,.int .i64 0] 28 (0,0)) (by(with_reducible repeat (first|refine blk_drewN ?_ _|refine blk_drew ?_|refine blk_alloc ?_ _));refine blk_far ?_ NB179_178.out _;(with_reducible repeat (first|refine blk_drewN ?_ _|refine blk_drew ?_|refine blk_alloc ?_ _));exact BK179.out) k_ hk_.2.1)⟩)) (below_size (bS2 GE178.out GE179.out)));have n3_:=Aside0.mk (blk_below (g:=gb178) (o:=.cells #[.int .i64 t180,.slice Ao104 x179001_1.length co104,.int .i64 (wrap64 (t184+1))] 28 (0,0)) (by(with_reducible repeat (first|refine blk_drewN ?_ _|refine blk_drew ?_|refine blk_alloc ?_ _));refine blk_put (cs:=#[.int .i64 t180,.slice Ao104 x179001_1.length co104,.int .i64 t184]) ?_ 2 _ rfl;(with_reducible repeat (first|refine blk_drewN ?_ _|refine blk_drew ?_|refine blk_alloc ?_ _));exact BK178.out) hb);have n4_:=Aside0.mk (blk_below (g:=gb179) (o:=.cells #[.int .i64 0,.slice none 0 0,.int .i64 0] 28 (0,0)) (by(with_reducible repeat (first|refine blk_drewN ?_ _|refine blk_drew ?_|refine blk_alloc ?_ _));refine blk_far ?_ NB179_178.out _;(with_reducible repeat (first|refine blk_drewN ?_ _|refine blk_drew ?_|refine blk_alloc ?_ _));exact BK179.out) hb);have n5_:=Aside0.mk (below_step (bS2 GE178.out GE179.out) hb);clear HO_4 HO_179001 BK178 BK179 HB;have HO_4:=n0_;have HO_179001:=n1_;have HO188:=n2_;have BK178:=n3_;have BK179:=n4_;have HB:=n5_;clear n0_ n1_ n2_ n3_ n4_ n5_;(try clear hb);(try clear hb2);(try clear hk);(try clear hi);(try clear ho0);obtain⟨hcz106_0,hcz106_1,hcz106_2⟩:=cC3 BK179.out;obtain⟨hfz106_0,hfz106_1,hfz106_2⟩:=cF3 BK179.out;obtain⟨Ao107,co107,eo107⟩:=Kd.S_slice HO188.out;subst eo107))
    refine bodyPost_ret (results_ct rfl _ _ gb179 28 #[.int .i64 t185,.slice Ao107 t186.length co107,.int .i64 t189] (0,0) _ rfl (by(with_reducible repeat (first|refine blk_drewN ?_ _|refine blk_drew ?_|refine blk_alloc ?_ _));refine blk_put (cs:=#[.int .i64 t185,.slice Ao107 t186.length co107,.int .i64 0]) ?_ 2 _ rfl;(with_reducible repeat (first|refine blk_drewN ?_ _|refine blk_drew ?_|refine blk_alloc ?_ _));refine blk_put (cs:=#[.int .i64 t185,.slice none 0 0,.int .i64 0]) ?_ 1 _ rfl;(with_reducible repeat (first|refine blk_drewN ?_ _|refine blk_drew ?_|refine blk_alloc ?_ _));refine blk_put (cs:=#[.int .i64 0,.slice none 0 0,.int .i64 0]) ?_ 0 _ rfl;(with_reducible repeat (first|refine blk_drewN ?_ _|refine blk_drew ?_|refine blk_alloc ?_ _));exact BK179.out) Try.underlying28 rfl (by kernel_rfl)) rfl ?_
    exact⟨_,_,by first|rfl|(simp[errW_none,errW_some]<;>rfl)|(simp[*,errW_none,errW_some]<;>rfl),by(with_reducible repeat (first|apply Kd.S_alloc|apply Kd.S_drewN|apply Kd.S_drew));exact Kd.S_mono (Kd.S_far (p:=⟨gb179,2,none⟩) (Kd.S_far (p:=⟨gb179,1,none⟩) (Kd.S_far (p:=⟨gb179,0,none⟩) (Kd.S_mono HO188.out (fun k_ hk=>(⟨hk,hk.2.2.2.2⟩:_∧k_≠gb179))) (fun _ hk=>hk.2) (.int .i64 t185)) (fun _ hk=>hk.2) (.slice Ao107 t186.length co107)) (fun _ hk=>hk.2) (.int .i64 t189)) (fun _ hk=>hk.1.2.1),by(with_reducible repeat (first|apply Kd.R_alloc|apply Kd.R_drewN|apply Kd.R_drew));exact Kd.R_mono (Kd.R_far (p:=⟨gb179,2,none⟩) (Kd.R_far (p:=⟨gb179,1,none⟩) (Kd.R_far (p:=⟨gb179,0,none⟩) (Kd.R_types HO_4.out BK179.out (by decide)) (fun _ hk=>hk.2) (.int .i64 t185)) (fun _ hk=>hk.2) (.slice Ao107 t186.length co107)) (fun _ hk=>hk.2) (.int .i64 t189)) (fun _ _=>trivial),bS2 GE178.out GE179.out⟩

end Go.Proofs.Yteneeohaoplpbaa.XFnExactRunRounds
