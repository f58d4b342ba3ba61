-- Written by this session's own program (wip/xprint.py) out of the translation; Lean checks it.
import Derived.Test.YthghcoepkknkeaaXFnFairx0
import Derived.Test.YthghcoepkknkeaaXFnFairx3
namespace Go.Proofs.Ythghcoepkknkeaa.XFnFair
open Go.RowKit Go.Proofs.YthghcoepkknkeaaW.PrintWords Go.Proofs.YthghcoepkknkeaaW.PrintLast Go.Proofs.YthghcoepkknkeaaW.PrintMore
open Go.Proofs.YthghcoepkknkeaaW.PrintWords.Aside0 renaming mk → am
attribute [local go_sem] max2_int min2_int max_two min_two max_three min_three max_four min_four   -- for this text's walks alone
set_option linter.unusedVariables false
set_option linter.unusedSimpArgs false

/-! ### spec_l14Round: function 21 -/
mutual
def spec_l14Round.l0:Nat→List Int→Int→Int→Int→List (S34)→Int→Option (Int × (List (S34)) × Int × List Int)
 | 0,_,_,_,_,_,_=>none
 | k+1,x4,x11,x12,x138000,x138001,x138002=>if x12 < x11 then (if 0≤x12 then (if x12 < (x138001.length:Int) then (if (((rd_T34 x138001 x12).f0).length:Int)=0 then (spec_l14Round.l0 k x4 x11 (wrap64 (x12+1)) x138000 x138001 x138002) else (spec_l14Round.l1 k x4 x12 x11 x12 x138000 x138001 x138002 ((rd_T34 x138001 x12).f0) (wrap64 (((rd_T34 x138001 x12).f1)+x138000)) ((rd_T34 x138001 x12).f2))) else (none)) else (none)) else ((spec_l14Own.f k x138000 x138001 (wrap64 (x138002+1))).bind fun bt144=>(some (bt144.1,bt144.2.1,bt144.2.2,x4)))
def spec_l14Round.l1:Nat→List Int→Int→Int→Int→Int→List (S34)→Int→List Int→Int→Int→Option (Int × (List (S34)) × Int × List Int)
 | 0,_,_,_,_,_,_,_,_,_,_=>none
 | k+1,x4,x5,x11,x12,x138000,x138001,x138002,x151000,x151001,x151002=>if (x151000.length:Int) > 0 then (if 0 < (x151000.length:Int) then (if (rd x151000 0)≤x151001 then (if 1≤(x151000.length:Int) then (if x4.length < 17592186044416 then (spec_l14Round.l1 k (x4++[x5]) x5 x11 x12 x138000 x138001 x138002 (x151000.drop 1) (wrap64 (x151001 - (rd x151000 0))) (wrap64 (x151002+(rd x151000 0)))) else (none)) else (none)) else (if (x151000.length:Int)=0 then (if 0≤x5 then (if x5 < (x138001.length:Int) then (spec_l14Round.l0 k x4 x11 (wrap64 (x12+1)) x138000 (x138001.set (x5:Int).toNat (⟨x151000,0,x151002⟩:S34)) x138002) else (none)) else (none)) else (if 0≤x5 then (if x5 < (x138001.length:Int) then (spec_l14Round.l0 k x4 x11 (wrap64 (x12+1)) x138000 (x138001.set (x5:Int).toNat (⟨x151000,x151001,x151002⟩:S34)) x138002) else (none)) else (none)))) else (none)) else (if (x151000.length:Int)=0 then (if 0≤x5 then (if x5 < (x138001.length:Int) then (spec_l14Round.l0 k x4 x11 (wrap64 (x12+1)) x138000 (x138001.set (x5:Int).toNat (⟨x151000,0,x151002⟩:S34)) x138002) else (none)) else (none)) else (if 0≤x5 then (if x5 < (x138001.length:Int) then (spec_l14Round.l0 k x4 x11 (wrap64 (x12+1)) x138000 (x138001.set (x5:Int).toNat (⟨x151000,x151001,x151002⟩:S34)) x138002) else (none)) else (none)))
end
def spec_l14Round.f (k:Nat) (a0_0:Int) (l0_1:List (S34)) (a0_2:Int):Option (Int × (List (S34)) × Int × List Int):=(spec_l14Own.f k a0_0 l0_1 a0_2).bind fun bt139=>(spec_l14Round.l0 k ([]:List Int) (bt139.2.1.length:Int) 0 bt139.1 bt139.2.1 bt139.2.2)
theorem spec_l14Round.mono_l : ∀ k,(∀ y0 y1 y2 y3 y4 y5,LeO (spec_l14Round.l0 k y0 y1 y2 y3 y4 y5) (spec_l14Round.l0 (k+1) y0 y1 y2 y3 y4 y5))∧(∀ y0 y1 y2 y3 y4 y5 y6 y7 y8 y9,LeO (spec_l14Round.l1 k y0 y1 y2 y3 y4 y5 y6 y7 y8 y9) (spec_l14Round.l1 (k+1) y0 y1 y2 y3 y4 y5 y6 y7 y8 y9))
 | 0=>⟨fun _ _ _ _ _ _ r h=>by simp[spec_l14Round.l0] at h,fun _ _ _ _ _ _ _ _ _ _ r h=>by simp[spec_l14Round.l1] at h⟩
 | k+1=>by
  obtain⟨ih0,ih1⟩:=spec_l14Round.mono_l k
  refine⟨?_,?_⟩
  ·intro y0 y1 y2 y3 y4 y5
   unfold spec_l14Round.l0
   repeat' first
   | (with_reducible exact ih0 _ _ _ _ _ _)
   | (with_reducible exact ih1 _ _ _ _ _ _ _ _ _ _)
   | (with_reducible exact spec_l14Own.mono _ _ _ _)
   | (with_reducible exact LeO.refl _)
   | (with_reducible exact LeO.none _)
   | (with_reducible refine LeO.ite ?_ ?_)
   | (with_reducible refine LeO.bind ?_ (fun _ => ?_))
  ·intro y0 y1 y2 y3 y4 y5 y6 y7 y8 y9
   unfold spec_l14Round.l1
   repeat' first
   | (with_reducible exact ih0 _ _ _ _ _ _)
   | (with_reducible exact ih1 _ _ _ _ _ _ _ _ _ _)
   | (with_reducible exact spec_l14Own.mono _ _ _ _)
   | (with_reducible exact LeO.refl _)
   | (with_reducible exact LeO.none _)
   | (with_reducible refine LeO.ite ?_ ?_)
   | (with_reducible refine LeO.bind ?_ (fun _ => ?_))
theorem spec_l14Round.mono : ∀ a0 a1 a2 k,LeO (spec_l14Round.f k a0 a1 a2) (spec_l14Round.f (k+1) a0 a1 a2):=by
 intro a0 a1 a2 k
 obtain⟨ih0,ih1⟩:=spec_l14Round.mono_l k
 unfold spec_l14Round.f
 repeat' first
  | (with_reducible exact ih0 _ _ _ _ _ _)
  | (with_reducible exact ih1 _ _ _ _ _ _ _ _ _ _)
  | (with_reducible exact spec_l14Own.mono _ _ _ _)
  | (with_reducible exact LeO.refl _)
  | (with_reducible exact LeO.none _)
  | (with_reducible refine LeO.ite ?_ ?_)
  | (with_reducible refine LeO.bind ?_ (fun _ => ?_))
def spec_l14Round.T9:Bool × List (List Nat × List Nat):=(true,[([],[]),([0],[0]),([1],[1]),([2],[2]),([3],[3]),([4],[4]),([5,4],[4,5]),([6,4],[4,6]),([7,4],[4,7]),([4],[4]),([9,4],[4,9]),([8,10,4],[4,8,10]),([4,11],[4,11])])
def spec_l14Round.B9:List Nat:=[0,1,3,7,15,31,63,127,255,31,543,2047,4095]
theorem spec_l14Round.tab9:rtab .any (opsOf Try.f21 9)=spec_l14Round.T9:=by kernel_rfl
theorem spec_l14Round.bits9:waitsOk spec_l14Round.T9.2 spec_l14Round.B9=true:=by kernel_rfl
def spec_l14Round.T10:Bool × List (List Nat × List Nat):=(true,[([],[]),([0],[0]),([],[]),([2],[2]),([3],[3]),([4],[4]),([1,5],[1,5]),([0,1,2,3,4,5,6],[]),([7,6,0,1,2,3,4,5,6],[6,7])])
def spec_l14Round.B10:List Nat:=[0,1,0,4,12,28,63,127,255]
theorem spec_l14Round.tab10:rtab .any (opsOf Try.f21 10)=spec_l14Round.T10:=by kernel_rfl
theorem spec_l14Round.bits10:waitsOk spec_l14Round.T10.2 spec_l14Round.B10=true:=by kernel_rfl
def spec_l14Round.T11:Bool × List (List Nat × List Nat):=(true,[([],[]),([0],[0]),([],[]),([2],[2]),([3],[3]),([4],[4]),([1,5],[1,5]),([0,1,2,3,4,5,6],[]),([7,6,0,1,2,3,4,5,6],[6,7])])
def spec_l14Round.B11:List Nat:=[0,1,0,4,12,28,63,127,255]
theorem spec_l14Round.tab11:rtab .any (opsOf Try.f21 11)=spec_l14Round.T11:=by kernel_rfl
theorem spec_l14Round.bits11:waitsOk spec_l14Round.T11.2 spec_l14Round.B11=true:=by kernel_rfl
set_option maxHeartbeats 8000000 in
set_option maxRecDepth 100000 in
theorem spec_l14Round.calls (k:Nat) (a0_0:Int) (A0_1:Option Addr) (c0_1:Nat) (l0_1:List (S34)) (a0_2:Int) (r1:Int) (r2:List (S34)) (r3:Int) (r4:List Int) (w:World) (hr0_1:Kd.C k34 w A0_1 l0_1.length l0_1) (hc0_1:l0_1.length≤c0_1) (h:spec_l14Round.f k a0_0 l0_1 a0_2=some (r1,r2,r3,r4)) :
  Calls Try.prog 21 #[.agg #[.int .i64 a0_0,.slice A0_1 l0_1.length c0_1,.int .i64 a0_2]] w fun e w' => ∃ v1_ v3_:Value,e=.returned (.tuple #[.agg #[.int .i64 r1,v1_,.int .i64 r3],v3_])∧Kd.S k34 34 w' w.heap.size (fun k_=>some k_≠(v3_:Value).ownBlock) v1_ r2∧Kd.R (Kd.int .i64) 3 w' w.heap.size (fun _=>True) v3_ r4∧Below w.heap.size w w':=by
 have hu25:=Try.underlying25
 have hu34:=Try.underlying34
 have HR0_1:=am hr0_1
 have HC0_1:=am hc0_1
 clear hr0_1 hc0_1
 have HB:=am (Below.refl w.heap.size w)
 have H:((spec_l14Own.f k a0_0 l0_1 a0_2).bind fun bt139=>(spec_l14Round.l0 k ([]:List Int) (bt139.2.1.length:Int) 0 bt139.1 bt139.2.1 bt139.2.2))=some (r1,r2,r3,r4):=h
 clear h
 replace H:=bI_ H
 obtain⟨⟨t139,t140,t143⟩,A20,H⟩:=H
 replace H:(spec_l14Round.l0 k ([]:List Int) (t140.length:Int) 0 t139 t140 t143)=some (r1,r2,r3,r4):=H
 have A2:=am A20
 clear A20
 have H':=am H
 clear H
 go_enter Try.func21,Try.ntmps21
 go_wp2_with (first|((with_reducible refine gate_dst (N:=1) rfl ?_);refine box_event ?hg (N:=1) ?hd (cs:=#[.int .i64 a0_0,.slice A0_1 l0_1.length c0_1,.int .i64 a0_2]) (t:=25) ?hr ?_;(case hd=>rfl);(case hg=>rfl);(case hr=>first|(go_simp;done)|(go_simp;rfl));intro gb137 hg w3 hbox hb;have n0_:=am (below_step (bB) hb);have n1_:=am (hbox);have n2_:=am ((bG:w.heap.size≤gb137));have n3_:=am ((bG:w.heap.size≤gb137));clear HB;have HB:=n0_;have BK137:=n1_;have GW137:=n2_;have GE137:=n3_;clear n0_ n1_ n2_ n3_;clear hb hbox hg)|((with_reducible refine gate_dst (N:=2) rfl ?_);refine box_event ?hg (N:=2) ?hd (cs:=#[.int .i64 0,.slice none 0 0,.int .i64 0]) (t:=25) ?hr ?_;(case hd=>rfl);(case hg=>rfl);(case hr=>first|(go_simp;done)|(go_simp;rfl));intro gb138 hg w4 hbox hb;have n0_:=am (bM BK137.out hb);have n1_:=am (below_step (bS GE137.out) hb);have n2_:=am (hbox);have n3_:=am ((by rw[hg];exact(below_size (bS GE137.out)):w.heap.size≤gb138));have n4_:=am ((by rw[hg];exact(below_size (bS GE137.out)):w.heap.size≤gb138));have n5_:=am ((bN BK137.out hg:gb137≠gb138));have n6_:=am ((bO BK137.out hg:gb138≠gb137));clear BK137 HB;have BK137:=n0_;have HB:=n1_;have BK138:=n2_;have GW138:=n3_;have GE138:=n4_;have NB137_138:=n5_;have NB138_137:=n6_;clear n0_ n1_ n2_ n3_ n4_ n5_ n6_;clear hb hbox hg;have hnb5:=NB137_138.out;have hnc5:=NB138_137.out;obtain⟨hcz6_0,hcz6_1,hcz6_2⟩:=cC3 BK137.out;obtain⟨hfz6_0,hfz6_1,hfz6_2⟩:=cF3 BK137.out)|((with_reducible refine gate_callee (f:=31) rfl ?_);refine goesA (some 8) rfl rfl Try.func31 #[.agg #[.int .i64 a0_0,.slice A0_1 l0_1.length c0_1,.int .i64 a0_2]] rfl ?_;(with_reducible refine(spec_l14Own.calls k a0_0 _ _ l0_1 a0_2 t139 t140 t143 _ ?side1 ?side2 A2.out).mono ?_);(case side1=>exact bC HR0_1.out);(case side2=>exact HC0_1.out);rintro e w7 ⟨v141,rfl,ho0,hb⟩;refine⟨_,rfl,?_⟩;have n0_:=am (Kd.N_lower (Kd.N_mono (ok':=fun k_=>(w.heap.size≤k_)∧k_≠gb137∧k_≠gb138) (Kd.S_N (Kd.S_bound ho0)) (fun k_ hk_=>⟨(Nat.le_trans (below_size (bS2 GE137.out GE138.out)) hk_.2.1),(Kd.freshB (g:=gb137) (o:=.cells #[.int .i64 a0_0,.slice A0_1 l0_1.length c0_1,.int .i64 a0_2] 25 (0,0)) (bL BK137.out) k_ hk_.2.1),(Kd.freshB (g:=gb138) (o:=.cells #[.int .i64 0,.slice none 0 0,.int .i64 0] 25 (0,0)) (bL BK138.out) k_ hk_.2.1)⟩)) (below_size (bS2 GE137.out GE138.out)));have n1_:=am (bM BK137.out hb);have n2_:=am (bM BK138.out hb);have n3_:=am (below_step (bS2 GE137.out GE138.out) hb);clear BK137 BK138 HB;have HO142:=n0_;have BK137:=n1_;have BK138:=n2_;have HB:=n3_;clear n0_ n1_ n2_ n3_;(try clear hb);(try clear hb2);(try clear hk);(try clear hi);(try clear ho0);obtain⟨hcz8_0,hcz8_1,hcz8_2⟩:=cC3 BK137.out;obtain⟨hfz8_0,hfz8_1,hfz8_2⟩:=cF3 BK137.out;obtain⟨Ao9,co9,eo9⟩:=Kd.N_slice HO142.out;subst eo9))
 go_loopg [4,12] k (fun kq v4 v12 w' => ∃ (x4_1:List Int) (x12_1:Int) (x138001_1:List (S34)) (u138001:Value),v12=.int .i64 x12_1∧Aside0 (spec_l14Round.l0 kq x4_1 (t140.length:Int) x12_1 t139 x138001_1 t143=some (r1,r2,r3,r4))∧Aside0 (kq≤k)∧Aside0 (Kd.R (Kd.int .i64) 3 w' w.heap.size (fun k_=>(w.heap.size≤k_)) v4 x4_1)∧Aside0 (Kd.N k34 34 w' w.heap.size (fun k_=>(w.heap.size≤k_)∧some k_≠(v4:Value).ownBlock∧k_≠gb137∧k_≠gb138) u138001 x138001_1)∧Aside0 (w'.heap[gb137]?=some (.cells #[.int .i64 t139,u138001,.int .i64 t143] 25 (0,0)))∧Aside0 (w'.heap[gb138]?=some (.cells #[.int .i64 0,(.slice none 0 0),.int .i64 0] 25 (0,0)))∧Aside0 (Below w.heap.size w w'))
 case atStart=>exact⟨(([]:List Int)),(0),(t140),(.slice Ao9 t140.length co9),(bR),H',⟨Nat.le_refl _⟩,⟨by first|exact Kd.R_nil _ _ _ _ _|exact Kd.N_nil _ _ _ _ _|exact Kd.V_nil _ _ _ _ _|exact Kd.Q_nil _ _ _ _ _|exact Kd.S_nil _ _ _ _ _⟩,⟨by(with_reducible repeat (first|apply Kd.N_alloc|apply Kd.N_drewN|apply Kd.N_drew));exact Kd.N_mono (Kd.N_far (p:=⟨gb137,2,none⟩) (Kd.N_far (p:=⟨gb137,1,none⟩) (Kd.N_far (p:=⟨gb137,0,none⟩) (Kd.N_mono HO142.out (fun k_ hk=>(⟨hk,hk.2.1⟩:_∧k_≠gb137))) (fun _ hk=>hk.2) (.int .i64 t139)) (fun _ hk=>hk.2) (.slice Ao9 t140.length co9)) (fun _ hk=>hk.2) (.int .i64 t143)) (fun _ hk=>⟨hk.1.1,⟨(by simp[Value.ownBlock]),⟨hk.1.2.1,hk.1.2.2⟩⟩⟩)⟩,⟨by(with_reducible repeat (first|refine blk_drewN ?_ _|refine blk_drew ?_|refine blk_alloc ?_ _));apply bU3;(with_reducible repeat (first|refine blk_drewN ?_ _|refine blk_drew ?_|refine blk_alloc ?_ _));exact BK137.out⟩,⟨by(with_reducible repeat (first|refine blk_drewN ?_ _|refine blk_drew ?_|refine blk_alloc ?_ _));refine blk_far ?_ NB138_137.out _;(with_reducible repeat (first|refine blk_drewN ?_ _|refine blk_drew ?_|refine blk_alloc ?_ _));refine blk_far ?_ NB138_137.out _;(with_reducible repeat (first|refine blk_drewN ?_ _|refine blk_drew ?_|refine blk_alloc ?_ _));refine blk_far ?_ NB138_137.out _;(with_reducible repeat (first|refine blk_drewN ?_ _|refine blk_drew ?_|refine blk_alloc ?_ _));exact BK138.out⟩,⟨bS2 GE137.out GE138.out⟩⟩
 case round =>
  clear H'
  try clear c2
  try clear p2
  try clear c3
  try clear c5
  try clear hcz6_0 hcz6_1 hcz6_2
  try clear hcz8_0 hcz8_1 hcz8_2
  try clear hfz6_0 hfz6_1 hfz6_2
  try clear hfz8_0 hfz8_1 hfz8_2
  obtain⟨x4_1,x12_1,x138001_1,u138001,rfl,HA,HK1,HO_4,HO_138001,BK137,BK138,HB⟩:=hrel
  cases gk with
  | zero=>exact absurd HA.out (by simp[spec_l14Round.l0])
  | succ k1 =>
   have H:=HA.out
   clear HA
   simp only[spec_l14Round.l0] at H
   by_cases c10:x12_1 < (t140.length:Int)
   ·rw[if_pos c10] at H
    have c10b0:decide (x12_1 < (t140.length:Int))=true:=decide_eq_true c10
    clear c10
    by_cases c11:0≤x12_1
    ·rw[if_pos c11] at H
     have c11b0:decide (0≤x12_1)=true:=decide_eq_true c11
     clear c11
     by_cases c12:x12_1 < (x138001_1.length:Int)
     ·rw[if_pos c12] at H
      have c12b0:decide (x12_1 < (x138001_1.length:Int))=true:=decide_eq_true c12
      clear c12
      by_cases c13:(((rd_T34 x138001_1 x12_1).f0).length:Int)=0
      ·rw[if_pos c13] at H
       have c13b0:((((rd_T34 x138001_1 x12_1).f0).length:Int) == 0)=true:=beq_iff_eq.mpr c13
       have c13b1:((((rd_T34 x138001_1 x12_1).f0).length:Int) != 0)=false:=bne_eq_false_iff_eq.mpr c13
       clear c13
       have H':=am H
       clear H
       have hnb14:=NB137_138.out
       have hnc14:=NB138_137.out
       obtain⟨hcz15_0,hcz15_1,hcz15_2⟩:=cC3 BK137.out
       obtain⟨hfz15_0,hfz15_1,hfz15_2⟩:=cF3 BK137.out
       obtain⟨Ao16,co16,eo16⟩:=Kd.N_slice HO_138001.out
       subst eo16
       have p149:0≤(x12_1:Int):=bD_
       have q149:x12_1 < (x138001_1.length:Int):=bD_
       obtain⟨ad149,A149_0,c149_0,e149,hx149_0,hx149_1,hx149_2,hl149_0,hi149_0⟩:=at_T34 (Kd.N_reads' HO_138001.out).2.2 x12_1 p149 q149
       cases e149
       obtain⟨ce149,hce149,hMe149,hcc149⟩:=Kd.N_get HO_138001.out z34 x12_1 p149 (by first|exact q149|exact bD_|(have e_:=(Kd.N_reads' HO_138001.out).1;omega))
       obtain⟨ua149_0,uc149_0,rfl,ul149_0,ge149_0⟩:=k34_openF hMe149
       have hv149_0:=hcc149 0 _ rfl
       rw[Nat.add_zero] at hv149_0
       replace hv149_0:=Option.some.inj (hv149_0.symm.trans hx149_0)
       injection hv149_0 with hva_ hvn_ hvc_
       rw[hva_] at ge149_0
       rw[hvc_] at ul149_0
       have HL149_0:=am (show Kd.V (Kd.int .i64) 3 _ w.heap.size _ _ ((rd_T34 x138001_1 x12_1).f0) from Kd.V_mk ul149_0 ge149_0)
       clear hva_ hvn_ hvc_ ge149_0 ul149_0 hcc149 hce149
       have HR149_0:=am hi149_0
       have HC149_0:=am hl149_0
       clear hi149_0 hl149_0
       replace p149:=eq_true p149
       replace q149:=eq_true q149
       go_wp2_with (first|((with_reducible refine gate_dst (N:=6) rfl ?_);refine box_event ?hg (N:=6) ?hd (cs:=#[.slice none 0 0,.int .i64 0,.int .i64 0]) (t:=34) ?hr ?_;(case hd=>rfl);(case hg=>rfl);(case hr=>first|(go_simp;done)|(go_simp;rfl));intro gb150 hg w17 hbox hb;have n0_:=am (Kd.R_below (bK HO_4.out) hb);have n1_:=am (Kd.N_below (Kd.N_elderB (by(with_reducible repeat (first|apply Kd.N_alloc|apply Kd.N_drewN|apply Kd.N_drew));exact HO_138001.out) gb150 (Nat.le_of_eq hg.symm)) hb);have n2_:=am (Kd.V_below (Kd.V_elderB (by(with_reducible repeat (first|apply Kd.V_alloc|apply Kd.V_drewN|apply Kd.V_drew));exact HL149_0.out) gb150 (Nat.le_of_eq hg.symm)) hb);have n3_:=am (bM BK137.out hb);have n4_:=am (bM BK138.out hb);have n5_:=am (Kd.C_below (by repeat (first|(with_reducible exact HR149_0.out)|(with_reducible refine Kd.C_alloc ?_ _)|(with_reducible refine Kd.C_drewN ?_ _)|(with_reducible refine Kd.C_drew ?_)|exact HR149_0.out)) hb);have n6_:=am (below_step (bS2 GE137.out GE138.out) hb);have n7_:=am (hbox);have n8_:=am ((by rw[hg];exact(below_size (bS2 GE137.out GE138.out)):w.heap.size≤gb150));have n9_:=am ((by rw[hg];exact(below_size (bS2 GE137.out GE138.out)):w.heap.size≤gb150));have n10_:=am ((bN BK137.out hg:gb137≠gb150));have n11_:=am ((bO BK137.out hg:gb150≠gb137));have n12_:=am ((bN BK138.out hg:gb138≠gb150));have n13_:=am ((bO BK138.out hg:gb150≠gb138));clear HO_4 HO_138001 HL149_0 BK137 BK138 HR149_0 HB;have HO_4:=n0_;have HO_138001:=n1_;have HL149_0:=n2_;have BK137:=n3_;have BK138:=n4_;have HR149_0:=n5_;have HB:=n6_;have BK150:=n7_;have GW150:=n8_;have GE150:=n9_;have NB137_150:=n10_;have NB150_137:=n11_;have NB138_150:=n12_;have NB150_138:=n13_;clear n0_ n1_ n2_ n3_ n4_ n5_ n6_ n7_ n8_ n9_ n10_ n11_ n12_ n13_;clear hb hbox hg;have hnb18:=NB150_137.out;have hnc18:=NB137_150.out;have hnb19:=NB150_138.out;have hnc19:=NB138_150.out;obtain⟨hcz20_0,hcz20_1,hcz20_2⟩:=cC3 BK150.out;obtain⟨hfz20_0,hfz20_1,hfz20_2⟩:=cF3 BK150.out))
       go_roundg k1
       case measure=>have:=HK1.out;omega
       case rel=>exact⟨(x4_1),(wrap64 (x12_1+1)),(x138001_1),(.slice (some ad149) x138001_1.length co16),(bR),H',⟨by have:=HK1.out;omega⟩,⟨by(with_reducible repeat (first|apply Kd.R_alloc|apply Kd.R_drewN|apply Kd.R_drew));exact Kd.R_mono (Kd.R_far (p:=⟨gb150,2,none⟩) (Kd.R_far (p:=⟨gb150,1,none⟩) (Kd.R_far (p:=⟨gb150,0,none⟩) (Kd.R_types HO_4.out BK150.out (by decide)) (fun _ hk=>hk.2) (.slice A149_0 ((rd_T34 x138001_1 x12_1).f0).length c149_0)) (fun _ hk=>hk.2) (.int .i64 ((rd_T34 x138001_1 x12_1).f1))) (fun _ hk=>hk.2) (.int .i64 ((rd_T34 x138001_1 x12_1).f2))) (fun _ hk=>hk.1)⟩,⟨by(with_reducible repeat (first|apply Kd.N_alloc|apply Kd.N_drewN|apply Kd.N_drew));exact Kd.N_mono (Kd.N_far (p:=⟨gb150,2,none⟩) (Kd.N_far (p:=⟨gb150,1,none⟩) (Kd.N_far (p:=⟨gb150,0,none⟩) (Kd.N_mono HO_138001.out (fun k_ hk=>(⟨hk,hk.2⟩:_∧k_≠gb150))) (fun _ hk=>hk.2) (.slice A149_0 ((rd_T34 x138001_1 x12_1).f0).length c149_0)) (fun _ hk=>hk.2) (.int .i64 ((rd_T34 x138001_1 x12_1).f1))) (fun _ hk=>hk.2) (.int .i64 ((rd_T34 x138001_1 x12_1).f2))) (fun _ hk=>⟨hk.1.1.1,⟨hk.1.1.2.1,⟨hk.1.1.2.2.1,hk.1.1.2.2.2⟩⟩⟩)⟩,⟨by(with_reducible repeat (first|refine blk_drewN ?_ _|refine blk_drew ?_|refine blk_alloc ?_ _));refine blk_far ?_ NB137_150.out _;(with_reducible repeat (first|refine blk_drewN ?_ _|refine blk_drew ?_|refine blk_alloc ?_ _));refine blk_far ?_ NB137_150.out _;(with_reducible repeat (first|refine blk_drewN ?_ _|refine blk_drew ?_|refine blk_alloc ?_ _));refine blk_far ?_ NB137_150.out _;(with_reducible repeat (first|refine blk_drewN ?_ _|refine blk_drew ?_|refine blk_alloc ?_ _));exact BK137.out⟩,⟨by(with_reducible repeat (first|refine blk_drewN ?_ _|refine blk_drew ?_|refine blk_alloc ?_ _));refine blk_far ?_ NB138_150.out _;(with_reducible repeat (first|refine blk_drewN ?_ _|refine blk_drew ?_|refine blk_alloc ?_ _));refine blk_far ?_ NB138_150.out _;(with_reducible repeat (first|refine blk_drewN ?_ _|refine blk_drew ?_|refine blk_alloc ?_ _));refine blk_far ?_ NB138_150.out _;(with_reducible repeat (first|refine blk_drewN ?_ _|refine blk_drew ?_|refine blk_alloc ?_ _));exact BK138.out⟩,⟨bS3 GE137.out GE138.out GE150.out⟩⟩
      ·rw[if_neg c13] at H
       have c13b0:((((rd_T34 x138001_1 x12_1).f0).length:Int) == 0)=false:=beq_eq_false_iff_ne.mpr c13
       have c13b1:((((rd_T34 x138001_1 x12_1).f0).length:Int) != 0)=true:=bne_iff_ne.mpr c13
       have c13b2 : ¬ (((rd_T34 x138001_1 x12_1).f0)=[]):=fun h_=>c13 (by rw[h_];rfl)
       have H':=am H
       clear H
       have hnb21:=NB137_138.out
       have hnc21:=NB138_137.out
       obtain⟨hcz22_0,hcz22_1,hcz22_2⟩:=cC3 BK137.out
       obtain⟨hfz22_0,hfz22_1,hfz22_2⟩:=cF3 BK137.out
       obtain⟨Ao23,co23,eo23⟩:=Kd.N_slice HO_138001.out
       subst eo23
       have p149:0≤(x12_1:Int):=bD_
       have q149:x12_1 < (x138001_1.length:Int):=bD_
       obtain⟨ad149,A149_0,c149_0,e149,hx149_0,hx149_1,hx149_2,hl149_0,hi149_0⟩:=at_T34 (Kd.N_reads' HO_138001.out).2.2 x12_1 p149 q149
       cases e149
       obtain⟨ce149,hce149,hMe149,hcc149⟩:=Kd.N_get HO_138001.out z34 x12_1 p149 (by first|exact q149|exact bD_|(have e_:=(Kd.N_reads' HO_138001.out).1;omega))
       obtain⟨ua149_0,uc149_0,rfl,ul149_0,ge149_0⟩:=k34_openF hMe149
       have hv149_0:=hcc149 0 _ rfl
       rw[Nat.add_zero] at hv149_0
       replace hv149_0:=Option.some.inj (hv149_0.symm.trans hx149_0)
       injection hv149_0 with hva_ hvn_ hvc_
       rw[hva_] at ge149_0
       rw[hvc_] at ul149_0
       have HL149_0:=am (show Kd.V (Kd.int .i64) 3 _ w.heap.size _ _ ((rd_T34 x138001_1 x12_1).f0) from Kd.V_mk ul149_0 ge149_0)
       clear hva_ hvn_ hvc_ ge149_0 ul149_0 hcc149 hce149
       have HR149_0:=am hi149_0
       have HC149_0:=am hl149_0
       clear hi149_0 hl149_0
       replace p149:=eq_true p149
       replace q149:=eq_true q149
       go_wp2_with (first|((with_reducible refine gate_dst (N:=6) rfl ?_);refine box_event ?hg (N:=6) ?hd (cs:=#[.slice none 0 0,.int .i64 0,.int .i64 0]) (t:=34) ?hr ?_;(case hd=>rfl);(case hg=>rfl);(case hr=>first|(go_simp;done)|(go_simp;rfl));intro gb150 hg w24 hbox hb;have n0_:=am (Kd.R_below (bK HO_4.out) hb);have n1_:=am (Kd.N_below (Kd.N_elderB (by(with_reducible repeat (first|apply Kd.N_alloc|apply Kd.N_drewN|apply Kd.N_drew));exact HO_138001.out) gb150 (Nat.le_of_eq hg.symm)) hb);have n2_:=am (Kd.V_below (Kd.V_elderB (by(with_reducible repeat (first|apply Kd.V_alloc|apply Kd.V_drewN|apply Kd.V_drew));exact HL149_0.out) gb150 (Nat.le_of_eq hg.symm)) hb);have n3_:=am (bM BK137.out hb);have n4_:=am (bM BK138.out hb);have n5_:=am (Kd.C_below (by repeat (first|(with_reducible exact HR149_0.out)|(with_reducible refine Kd.C_alloc ?_ _)|(with_reducible refine Kd.C_drewN ?_ _)|(with_reducible refine Kd.C_drew ?_)|exact HR149_0.out)) hb);have n6_:=am (below_step (bS2 GE137.out GE138.out) hb);have n7_:=am (hbox);have n8_:=am ((by rw[hg];exact(below_size (bS2 GE137.out GE138.out)):w.heap.size≤gb150));have n9_:=am ((by rw[hg];exact(below_size (bS2 GE137.out GE138.out)):w.heap.size≤gb150));have n10_:=am ((bN BK137.out hg:gb137≠gb150));have n11_:=am ((bO BK137.out hg:gb150≠gb137));have n12_:=am ((bN BK138.out hg:gb138≠gb150));have n13_:=am ((bO BK138.out hg:gb150≠gb138));clear HO_4 HO_138001 HL149_0 BK137 BK138 HR149_0 HB;have HO_4:=n0_;have HO_138001:=n1_;have HL149_0:=n2_;have BK137:=n3_;have BK138:=n4_;have HR149_0:=n5_;have HB:=n6_;have BK150:=n7_;have GW150:=n8_;have GE150:=n9_;have NB137_150:=n10_;have NB150_137:=n11_;have NB138_150:=n12_;have NB150_138:=n13_;clear n0_ n1_ n2_ n3_ n4_ n5_ n6_ n7_ n8_ n9_ n10_ n11_ n12_ n13_;clear hb hbox hg;have hnb25:=NB150_137.out;have hnc25:=NB137_150.out;have hnb26:=NB150_138.out;have hnc26:=NB138_150.out;obtain⟨hcz27_0,hcz27_1,hcz27_2⟩:=cC3 BK150.out;obtain⟨hfz27_0,hfz27_1,hfz27_2⟩:=cF3 BK150.out;obtain⟨hcz28_0,hcz28_1,hcz28_2⟩:=cC3 BK137.out;obtain⟨hfz28_0,hfz28_1,hfz28_2⟩:=cF3 BK137.out))
       go_loopg [4] k1 (fun kq v4 w' => ∃ (x4_2:List Int) (x151000_2:List Int) (x151001_2:Int) (x151002_2:Int) (u151000:Value),Aside0 (spec_l14Round.l1 kq x4_2 x12_1 (t140.length:Int) x12_1 t139 x138001_1 t143 x151000_2 x151001_2 x151002_2=some (r1,r2,r3,r4))∧Aside0 (kq≤k1)∧Aside0 (Kd.R (Kd.int .i64) 3 w' w.heap.size (fun k_=>(w.heap.size≤k_)) v4 x4_2)∧Aside0 (Kd.N k34 34 w' w.heap.size (fun k_=>(w.heap.size≤k_)∧some k_≠(v4:Value).ownBlock∧k_≠gb137∧k_≠gb138∧k_≠gb150) (.slice (some ad149) x138001_1.length co23) x138001_1)∧Aside0 (Kd.V (Kd.int .i64) 3 w' w.heap.size (fun k_=>(w.heap.size≤k_)∧some k_≠(v4:Value).ownBlock∧some k_≠((.slice (some ad149) x138001_1.length co23):Value).ownBlock∧k_≠gb137∧k_≠gb138∧k_≠gb150) u151000 x151000_2)∧Aside0 (w'.heap[gb137]?=some (.cells #[.int .i64 t139,(.slice (some ad149) x138001_1.length co23),.int .i64 t143] 25 (0,0)))∧Aside0 (w'.heap[gb138]?=some (.cells #[.int .i64 0,(.slice none 0 0),.int .i64 0] 25 (0,0)))∧Aside0 (w'.heap[gb150]?=some (.cells #[u151000,.int .i64 x151001_2,.int .i64 x151002_2] 34 (0,0)))∧Aside0 (Below w.heap.size w w'))
       case atStart=>exact⟨(x4_1),((rd_T34 x138001_1 x12_1).f0),(wrap64 (((rd_T34 x138001_1 x12_1).f1)+t139)),((rd_T34 x138001_1 x12_1).f2),(.slice A149_0 ((rd_T34 x138001_1 x12_1).f0).length c149_0),H',⟨Nat.le_refl _⟩,⟨by(with_reducible repeat (first|apply Kd.R_alloc|apply Kd.R_drewN|apply Kd.R_drew));exact Kd.R_mono (Kd.R_far (p:=⟨gb150,1,none⟩) (Kd.R_far (p:=⟨gb150,2,none⟩) (Kd.R_far (p:=⟨gb150,1,none⟩) (Kd.R_far (p:=⟨gb150,0,none⟩) (Kd.R_types HO_4.out BK150.out (by decide)) (fun _ hk=>hk.2) (.slice A149_0 ((rd_T34 x138001_1 x12_1).f0).length c149_0)) (fun _ hk=>hk.2) (.int .i64 ((rd_T34 x138001_1 x12_1).f1))) (fun _ hk=>hk.2) (.int .i64 ((rd_T34 x138001_1 x12_1).f2))) (fun _ hk=>hk.2) (.int .i64 (wrap64 (((rd_T34 x138001_1 x12_1).f1)+t139)))) (fun _ hk=>hk.1)⟩,⟨by(with_reducible repeat (first|apply Kd.N_alloc|apply Kd.N_drewN|apply Kd.N_drew));exact Kd.N_mono (Kd.N_far (p:=⟨gb150,1,none⟩) (Kd.N_far (p:=⟨gb150,2,none⟩) (Kd.N_far (p:=⟨gb150,1,none⟩) (Kd.N_far (p:=⟨gb150,0,none⟩) (Kd.N_mono HO_138001.out (fun k_ hk=>(⟨hk,hk.2⟩:_∧k_≠gb150))) (fun _ hk=>hk.2) (.slice A149_0 ((rd_T34 x138001_1 x12_1).f0).length c149_0)) (fun _ hk=>hk.2) (.int .i64 ((rd_T34 x138001_1 x12_1).f1))) (fun _ hk=>hk.2) (.int .i64 ((rd_T34 x138001_1 x12_1).f2))) (fun _ hk=>hk.2) (.int .i64 (wrap64 (((rd_T34 x138001_1 x12_1).f1)+t139)))) (fun _ hk=>⟨hk.1.1.1,⟨hk.1.1.2.1,⟨hk.1.1.2.2.1,⟨hk.1.1.2.2.2,hk.1.2⟩⟩⟩⟩)⟩,⟨by(with_reducible repeat (first|apply Kd.V_alloc|apply Kd.V_drewN|apply Kd.V_drew));exact Kd.V_mono (Kd.V_far (p:=⟨gb150,1,none⟩) (Kd.V_far (p:=⟨gb150,2,none⟩) (Kd.V_far (p:=⟨gb150,1,none⟩) (Kd.V_far (p:=⟨gb150,0,none⟩) (Kd.V_mono HL149_0.out (fun k_ hk=>(⟨hk,hk.2⟩:_∧k_≠gb150))) (fun _ hk=>hk.2) (.slice A149_0 ((rd_T34 x138001_1 x12_1).f0).length c149_0)) (fun _ hk=>hk.2) (.int .i64 ((rd_T34 x138001_1 x12_1).f1))) (fun _ hk=>hk.2) (.int .i64 ((rd_T34 x138001_1 x12_1).f2))) (fun _ hk=>hk.2) (.int .i64 (wrap64 (((rd_T34 x138001_1 x12_1).f1)+t139)))) (fun _ hk=>⟨hk.1.1.1.1,⟨hk.1.1.1.2.1,⟨hk.1.1.2,⟨hk.1.1.1.2.2.1,⟨hk.1.1.1.2.2.2,hk.1.2⟩⟩⟩⟩⟩)⟩,⟨by(with_reducible repeat (first|refine blk_drewN ?_ _|refine blk_drew ?_|refine blk_alloc ?_ _));refine blk_far ?_ NB137_150.out _;(with_reducible repeat (first|refine blk_drewN ?_ _|refine blk_drew ?_|refine blk_alloc ?_ _));refine blk_far ?_ NB137_150.out _;(with_reducible repeat (first|refine blk_drewN ?_ _|refine blk_drew ?_|refine blk_alloc ?_ _));refine blk_far ?_ NB137_150.out _;(with_reducible repeat (first|refine blk_drewN ?_ _|refine blk_drew ?_|refine blk_alloc ?_ _));refine blk_far ?_ NB137_150.out _;(with_reducible repeat (first|refine blk_drewN ?_ _|refine blk_drew ?_|refine blk_alloc ?_ _));exact BK137.out⟩,⟨by(with_reducible repeat (first|refine blk_drewN ?_ _|refine blk_drew ?_|refine blk_alloc ?_ _));refine blk_far ?_ NB138_150.out _;(with_reducible repeat (first|refine blk_drewN ?_ _|refine blk_drew ?_|refine blk_alloc ?_ _));refine blk_far ?_ NB138_150.out _;(with_reducible repeat (first|refine blk_drewN ?_ _|refine blk_drew ?_|refine blk_alloc ?_ _));refine blk_far ?_ NB138_150.out _;(with_reducible repeat (first|refine blk_drewN ?_ _|refine blk_drew ?_|refine blk_alloc ?_ _));refine blk_far ?_ NB138_150.out _;(with_reducible repeat (first|refine blk_drewN ?_ _|refine blk_drew ?_|refine blk_alloc ?_ _));exact BK138.out⟩,⟨by(with_reducible repeat (first|refine blk_drewN ?_ _|refine blk_drew ?_|refine blk_alloc ?_ _));refine blk_put (cs:=#[.slice A149_0 ((rd_T34 x138001_1 x12_1).f0).length c149_0,.int .i64 ((rd_T34 x138001_1 x12_1).f1),.int .i64 ((rd_T34 x138001_1 x12_1).f2)]) ?_ 1 _ rfl;(with_reducible repeat (first|refine blk_drewN ?_ _|refine blk_drew ?_|refine blk_alloc ?_ _));apply bU3;(with_reducible repeat (first|refine blk_drewN ?_ _|refine blk_drew ?_|refine blk_alloc ?_ _));exact BK150.out⟩,⟨bS3 GE137.out GE138.out GE150.out⟩⟩
       case round =>
        clear H'
        try clear c1
        try clear p1
        try clear q1
        try clear hx1
        try clear c2
        try clear p2
        try clear c3
        try clear c5
        try clear p6
        try clear c10
        try clear c10b0
        try clear c11
        try clear c11b0
        try clear c12
        try clear c12b0
        try clear c13
        try clear c13b0
        try clear c13b1
        try clear c13b2
        try clear c14
        try clear p14
        try clear q14
        try clear hx14
        try clear c18
        try clear c19
        try clear c21
        try clear c25
        try clear c26
        try clear hcz15_0 hcz15_1 hcz15_2
        try clear hcz20_0 hcz20_1 hcz20_2
        try clear hcz22_0 hcz22_1 hcz22_2
        try clear hcz27_0 hcz27_1 hcz27_2
        try clear hcz28_0 hcz28_1 hcz28_2
        try clear hcz6_0 hcz6_1 hcz6_2
        try clear hcz8_0 hcz8_1 hcz8_2
        try clear hfz15_0 hfz15_1 hfz15_2
        try clear hfz20_0 hfz20_1 hfz20_2
        try clear hfz22_0 hfz22_1 hfz22_2
        try clear hfz27_0 hfz27_1 hfz27_2
        try clear hfz28_0 hfz28_1 hfz28_2
        try clear hfz6_0 hfz6_1 hfz6_2
        try clear hfz8_0 hfz8_1 hfz8_2
        try clear hx149_0
        try clear hx149_1
        try clear hx149_2
        try clear p149
        try clear p2
        try clear q149
        obtain⟨x4_2,x151000_2,x151001_2,x151002_2,u151000,HA,HK2,HO_4,HO_138001,HO_151000,BK137,BK138,BK150,HB⟩:=hrel
        cases gk with
        | zero=>exact absurd HA.out (by simp[spec_l14Round.l1])
        | succ k2 =>
         have H:=HA.out
         clear HA
         simp only[spec_l14Round.l1] at H
         by_cases c29:(x151000_2.length:Int) > 0
         ·rw[if_pos c29] at H
          have c29b0:decide (0 < (x151000_2.length:Int))=true:=decide_eq_true c29
          have c29b1:decide (0 < x151000_2.length)=true:=decide_eq_true (by omega)
          clear c29
          by_cases c30:0 < (x151000_2.length:Int)
          ·rw[if_pos c30] at H
           have c30b0:decide (0 < (x151000_2.length:Int))=true:=decide_eq_true c30
           have c30b1:decide (0 < x151000_2.length)=true:=decide_eq_true (by omega)
           clear c30
           by_cases c31:(rd x151000_2 0)≤x151001_2
           ·rw[if_pos c31] at H
            have c31b0:decide ((rd x151000_2 0)≤x151001_2)=true:=decide_eq_true c31
            clear c31
            by_cases c32:1≤(x151000_2.length:Int)
            ·rw[if_pos c32] at H
             have c32b0:=eq_true c32
             have c32b1:decide (1≤(x151000_2.length:Int))=true:=decide_eq_true c32
             clear c32
             obtain⟨y154,hy154⟩ : ∃ y_:List Int,y_=(x151000_2.drop 1):=⟨_,rfl⟩
             replace H:(if x4_2.length < 17592186044416 then (spec_l14Round.l1 k2 (x4_2++[x12_1]) x12_1 (t140.length:Int) x12_1 t139 x138001_1 t143 y154 (wrap64 (x151001_2 - (rd x151000_2 0))) (wrap64 (x151002_2+(rd x151000_2 0)))) else (none))=some (r1,r2,r3,r4):=by first|(rw[hy154];with_reducible exact H)|(have H2_:=(Option.bind_some _ _).symm.trans H;rw[hy154];with_reducible exact H2_)|(have H2_:=(Option.bind_some _ _).symm.trans H;with_reducible exact H2_)|with_reducible exact H|(rw[hy154];exact H)|exact H
             have Ny154:=am hy154
             clear hy154
             by_cases c33:x4_2.length < 17592186044416
             ·rw[if_pos c33] at H
              have LMc33:=am c33
              clear c33
              obtain⟨y159,hy159⟩ : ∃ y_:List Int,y_=(x4_2++[x12_1]):=⟨_,rfl⟩
              replace H:(spec_l14Round.l1 k2 y159 x12_1 (t140.length:Int) x12_1 t139 x138001_1 t143 y154 (wrap64 (x151001_2 - (rd x151000_2 0))) (wrap64 (x151002_2+(rd x151000_2 0))))=some (r1,r2,r3,r4):=by first|(rw[hy159];with_reducible exact H)|(have H2_:=(Option.bind_some _ _).symm.trans H;rw[hy159];with_reducible exact H2_)|(have H2_:=(Option.bind_some _ _).symm.trans H;with_reducible exact H2_)|with_reducible exact H|(rw[hy159];exact H)|exact H
              have Ny159:=am hy159
              clear hy159
              have H':=am H
              clear H
              try go_wp2
              (try (rw[drewN_self wr];generalize hq_:World.drewN wr _=wr;have n0_:=am (Kd.R_at hq_ HO_4.out);have n1_:=am (Kd.N_at hq_ HO_138001.out);have n2_:=am (Kd.V_at hq_ HO_151000.out);have n3_:=am (blk_at hq_ BK137.out);have n4_:=am (blk_at hq_ BK138.out);have n5_:=am (blk_at hq_ BK150.out);have n6_:=am (below_at hq_ HB.out);clear hq_ HO_4 HO_138001 HO_151000 BK137 BK138 BK150 HB;have HO_4:=n0_;have HO_138001:=n1_;have HO_151000:=n2_;have BK137:=n3_;have BK138:=n4_;have BK150:=n5_;have HB:=n6_;clear n0_ n1_ n2_ n3_ n4_ n5_ n6_))
              have n0_:=am (Kd.R_drew HO_4.out)
              have n1_:=am (Kd.N_drew HO_138001.out)
              have n2_:=am (Kd.V_drew HO_151000.out)
              have n3_:=am (blk_drew BK137.out)
              have n4_:=am (blk_drew BK138.out)
              have n5_:=am (blk_drew BK150.out)
              have n6_:=am (below_drew1 HB.out)
              clear HO_4 HO_138001 HO_151000 BK137 BK138 BK150 HB
              have HO_4:=n0_
              have HO_138001:=n1_
              have HO_151000:=n2_
              have BK137:=n3_
              have BK138:=n4_
              have BK150:=n5_
              have HB:=n6_
              clear n0_ n1_ n2_ n3_ n4_ n5_ n6_
              obtain⟨Ao35,co35,eo35⟩:=Kd.V_slice HO_151000.out
              (first|subst eo35|(injection eo35 with f1_ f2_ f3_;have f4_:=f1_.symm;have f5_:=f3_.symm;clear f1_ f2_ f3_;subst f4_;subst f5_))
              have p151:0≤(0:Int):=(by omega)
              have q151:0 < (x151000_2.length:Int):=bD_
              obtain⟨ad151,e151,hx151_0⟩:=Kd.at_int (Kd.V_reads' HO_151000.out).2.2 0 p151 q151
              cases e151
              have qi151:(0 < x151000_2.length)=True:=eq_true (by omega)
              (try rw[show((0:Int)).toNat=0 from rfl] at hx151_0)
              (try rw[Addr.add_zero'] at hx151_0)
              replace p151:=eq_true p151
              replace q151:=eq_true q151
              refine start_ (n:=13) (S:=fun w'=>w'.cell? ⟨gb150,0,none⟩=some (.slice (some ad151) x151000_2.length co35)∧w'.cell? ⟨gb150,1,none⟩=some (.int .i64 x151001_2)∧w'.cell? ⟨gb150,2,none⟩=some (.int .i64 x151002_2)∧w'.cell? ad151=some (.int .i64 (rd x151000_2 0))) (ds:=[]) #[false,false,false,false,false,false,false,false,false,false,false,false,false] (by kernel_rfl) rfl rfl ⟨(blk_cell BK150.out 0).trans rfl,(blk_cell BK150.out 1).trans rfl,(blk_cell BK150.out 2).trans rfl,hx151_0⟩ (fun hHeld => ?_);refine with_tabW spec_l14Round.tab9 spec_l14Round.bits9 (fun HT_ HW_ => ?_)
              generalize wr.drew=w34 at HO_4 HO_138001 HO_151000 BK137 BK138 BK150 HB hx151_0 hHeld ⊢
              refine pS HT_ 0 30 ?_;refine tS HT_ HW_ hHeld 1 31 ?_;refine pS HT_ 2 32 ?_;refine pS HT_ 3 33 ?_;refine pS HT_ 4 34 ?_;refine pS HT_ 5 35 ?_;refine pS HT_ 9 39 ?_;refine tS HT_ HW_ hHeld 6 36 ?_;refine pS HT_ 7 37 ?_;refine tS HT_ HW_ hHeld 8 38 ?_;refine tS HT_ HW_ hHeld 10 40 ?_;refine pS HT_ 11 41 ?_;refine pS HT_ 12 42 ?_
              refine done_ (done_of HT_.out (by kernel_rfl)) ?_
              try go_wp2
              (try (rw[drewN_self w34];generalize hq_:World.drewN w34 _=w34;have n0_:=am (Kd.R_at hq_ HO_4.out);have n1_:=am (Kd.N_at hq_ HO_138001.out);have n2_:=am (Kd.V_at hq_ HO_151000.out);have n3_:=am (blk_at hq_ BK137.out);have n4_:=am (blk_at hq_ BK138.out);have n5_:=am (blk_at hq_ BK150.out);have n6_:=am (below_at hq_ HB.out);clear hq_ HO_4 HO_138001 HO_151000 BK137 BK138 BK150 HB;have HO_4:=n0_;have HO_138001:=n1_;have HO_151000:=n2_;have BK137:=n3_;have BK138:=n4_;have BK150:=n5_;have HB:=n6_;clear n0_ n1_ n2_ n3_ n4_ n5_ n6_))
              have n0_:=am (Kd.R_drew HO_4.out)
              have n1_:=am (Kd.N_drew HO_138001.out)
              have n2_:=am (Kd.V_drew HO_151000.out)
              have n3_:=am (blk_drew BK137.out)
              have n4_:=am (blk_drew BK138.out)
              have n5_:=am (blk_drew BK150.out)
              have n6_:=am (below_drew1 HB.out)
              clear HO_4 HO_138001 HO_151000 BK137 BK138 BK150 HB
              have HO_4:=n0_
              have HO_138001:=n1_
              have HO_151000:=n2_
              have BK137:=n3_
              have BK138:=n4_
              have BK150:=n5_
              have HB:=n6_
              clear n0_ n1_ n2_ n3_ n4_ n5_ n6_
              have p152:0≤(0:Int):=(by omega)
              have q152:0 < (x151000_2.length:Int):=bD_
              obtain⟨ad152,e152,hx152_0⟩:=Kd.at_int (Kd.V_reads' HO_151000.out).2.2 0 p152 q152
              obtain rfl:ad151=ad152:=(by injection e152)
              have qi152:(0 < x151000_2.length)=True:=eq_true (by omega)
              (try rw[show((0:Int)).toNat=0 from rfl] at hx152_0)
              (try rw[Addr.add_zero'] at hx152_0)
              replace p152:=eq_true p152
              replace q152:=eq_true q152
              refine start_ (n:=9) (S:=fun w'=>w'.cell? ⟨gb150,0,none⟩=some (.slice (some ad151) x151000_2.length co35)∧w'.cell? ⟨gb150,1,none⟩=some (.int .i64 x151001_2)∧w'.cell? ⟨gb150,2,none⟩=some (.int .i64 x151002_2)∧w'.cell? ad151=some (.int .i64 (rd x151000_2 0))) (ds:=[8]) #[false,false,false,false,false,false,false,false,false] (by kernel_rfl) rfl rfl ⟨(blk_cell BK150.out 0).trans rfl,(blk_cell BK150.out 1).trans rfl,(blk_cell BK150.out 2).trans rfl,hx152_0⟩ (fun hHeld => ?_);refine with_tabW spec_l14Round.tab10 spec_l14Round.bits10 (fun HT_ HW_ => ?_)
              generalize w34.drew=w36 at HO_4 HO_138001 HO_151000 BK137 BK138 BK150 HB hx152_0 hHeld ⊢
              refine pS HT_ 0 43 ?_;refine pS HT_ 2 45 ?_;refine tS HT_ HW_ hHeld 1 44 ?_;refine tS HT_ HW_ hHeld 3 46 ?_;refine pS HT_ 4 47 ?_;refine tS HT_ HW_ hHeld 5 48 ?_;refine pS HT_ 6 49 ?_;refine pS HT_ 7 50 ?_
              refine last_ (i:=8) (N:=none) #[true,true,true,true,true,true,true,true,true] rfl rfl (one_of HT_.out (by kernel_rfl)) (by decide) (fun K hK => ?_)
              have hs37:w36.cell? ⟨gb150,1,none⟩=some (.int .i64 x151001_2):=(blk_cell BK150.out 1).trans rfl
              have hfs37:=blk_frozen BK150.out 1
              have hns37_0:=NB137_150.out
              have hns37_1:=NB138_150.out
              have hms37_0:=NB150_137.out
              have hms37_1:=NB150_138.out
              refine skip_ (w1:=?_) (by rfl) rfl ?_ ?_
              rotate_left
              ·go_simp
               rfl
              refine hK.out _ _ ?_
              clear hK K
              refine done_ (done_of HT_.out (by kernel_rfl)) ?_
              try go_wp2
              have n0_:Aside0 (Kd.R (Kd.int .i64) 3 (w36.setCell ⟨gb150,1,none⟩ (.int .i64 (wrap64 (x151001_2 - (rd x151000_2 0))))) w.heap.size (fun k_=>(w.heap.size≤k_)) u4 x4_2):=⟨by(with_reducible repeat (first|apply Kd.R_alloc|apply Kd.R_drewN|apply Kd.R_drew));exact Kd.R_mono (Kd.R_far (p:=⟨gb150,1,none⟩) (Kd.R_types HO_4.out BK150.out (by decide)) (fun _ hk=>hk.2) (.int .i64 (wrap64 (x151001_2 - (rd x151000_2 0))))) (fun _ hk=>hk.1)⟩
              have n1_:Aside0 (Kd.N k34 34 (w36.setCell ⟨gb150,1,none⟩ (.int .i64 (wrap64 (x151001_2 - (rd x151000_2 0))))) w.heap.size (fun k_=>(w.heap.size≤k_)∧some k_≠(u4:Value).ownBlock∧k_≠gb137∧k_≠gb138∧k_≠gb150) (.slice (some ad149) x138001_1.length co23) x138001_1):=⟨by(with_reducible repeat (first|apply Kd.N_alloc|apply Kd.N_drewN|apply Kd.N_drew));exact Kd.N_mono (Kd.N_far (p:=⟨gb150,1,none⟩) (Kd.N_mono HO_138001.out (fun k_ hk=>(⟨hk,hk.2.2.2.2⟩:_∧k_≠gb150))) (fun _ hk=>hk.2) (.int .i64 (wrap64 (x151001_2 - (rd x151000_2 0))))) (fun _ hk=>⟨hk.1.1,⟨hk.1.2.1,⟨hk.1.2.2.1,⟨hk.1.2.2.2.1,hk.1.2.2.2.2⟩⟩⟩⟩)⟩
              have n2_:Aside0 (Kd.V (Kd.int .i64) 3 (w36.setCell ⟨gb150,1,none⟩ (.int .i64 (wrap64 (x151001_2 - (rd x151000_2 0))))) w.heap.size (fun k_=>(w.heap.size≤k_)∧some k_≠(u4:Value).ownBlock∧some k_≠(.slice (some ad149) x138001_1.length co23:Value).ownBlock∧k_≠gb137∧k_≠gb138∧k_≠gb150) (.slice (some ad151) x151000_2.length co35) x151000_2):=⟨by(with_reducible repeat (first|apply Kd.V_alloc|apply Kd.V_drewN|apply Kd.V_drew));exact Kd.V_mono (Kd.V_far (p:=⟨gb150,1,none⟩) (Kd.V_mono HO_151000.out (fun k_ hk=>(⟨hk,hk.2.2.2.2.2⟩:_∧k_≠gb150))) (fun _ hk=>hk.2) (.int .i64 (wrap64 (x151001_2 - (rd x151000_2 0))))) (fun _ hk=>⟨hk.1.1,⟨hk.1.2.1,⟨hk.1.2.2.1,⟨hk.1.2.2.2.1,⟨hk.1.2.2.2.2.1,hk.1.2.2.2.2.2⟩⟩⟩⟩⟩)⟩
              have n3_:Aside0 ((w36.setCell ⟨gb150,1,none⟩ (.int .i64 (wrap64 (x151001_2 - (rd x151000_2 0))))).heap[gb137]?=some (.cells #[.int .i64 t139,.slice (some ad149) x138001_1.length co23,.int .i64 t143] 25 (0,0))):=⟨by(with_reducible repeat (first|refine blk_drewN ?_ _|refine blk_drew ?_|refine blk_alloc ?_ _));refine blk_far ?_ NB137_150.out _;(with_reducible repeat (first|refine blk_drewN ?_ _|refine blk_drew ?_|refine blk_alloc ?_ _));exact BK137.out⟩
              have n4_:Aside0 ((w36.setCell ⟨gb150,1,none⟩ (.int .i64 (wrap64 (x151001_2 - (rd x151000_2 0))))).heap[gb138]?=some (.cells #[.int .i64 0,.slice none 0 0,.int .i64 0] 25 (0,0))):=⟨by(with_reducible repeat (first|refine blk_drewN ?_ _|refine blk_drew ?_|refine blk_alloc ?_ _));refine blk_far ?_ NB138_150.out _;(with_reducible repeat (first|refine blk_drewN ?_ _|refine blk_drew ?_|refine blk_alloc ?_ _));exact BK138.out⟩
              have n5_:Aside0 ((w36.setCell ⟨gb150,1,none⟩ (.int .i64 (wrap64 (x151001_2 - (rd x151000_2 0))))).heap[gb150]?=some (.cells #[.slice (some ad151) x151000_2.length co35,.int .i64 (wrap64 (x151001_2 - (rd x151000_2 0))),.int .i64 x151002_2] 34 (0,0))):=⟨by(with_reducible repeat (first|refine blk_drewN ?_ _|refine blk_drew ?_|refine blk_alloc ?_ _));refine blk_put (cs:=#[.slice (some ad151) x151000_2.length co35,.int .i64 x151001_2,.int .i64 x151002_2]) ?_ 1 _ rfl;(with_reducible repeat (first|refine blk_drewN ?_ _|refine blk_drew ?_|refine blk_alloc ?_ _));exact BK150.out⟩
              have n6_:Aside0 (Below w.heap.size w (w36.setCell ⟨gb150,1,none⟩ (.int .i64 (wrap64 (x151001_2 - (rd x151000_2 0)))))):=⟨bS3 GE137.out GE138.out GE150.out⟩
              (try clear HO_4)
              (try clear HO_138001)
              (try clear HO_151000)
              (try clear BK137)
              (try clear BK138)
              (try clear BK150)
              (try clear HB)
              generalize (w36.setCell ⟨gb150,1,none⟩ (.int .i64 (wrap64 (x151001_2 - (rd x151000_2 0)))))=w38 at n0_ n1_ n2_ n3_ n4_ n5_ n6_ ⊢
              have HO_4:=n0_
              have HO_138001:=n1_
              have HO_151000:=n2_
              have BK137:=n3_
              have BK138:=n4_
              have BK150:=n5_
              have HB:=n6_
              clear n0_ n1_ n2_ n3_ n4_ n5_ n6_
              (try (rw[drewN_self w38];generalize hq_:World.drewN w38 _=w38;have n0_:=am (Kd.R_at hq_ HO_4.out);have n1_:=am (Kd.N_at hq_ HO_138001.out);have n2_:=am (Kd.V_at hq_ HO_151000.out);have n3_:=am (blk_at hq_ BK137.out);have n4_:=am (blk_at hq_ BK138.out);have n5_:=am (blk_at hq_ BK150.out);have n6_:=am (below_at hq_ HB.out);clear hq_ HO_4 HO_138001 HO_151000 BK137 BK138 BK150 HB;have HO_4:=n0_;have HO_138001:=n1_;have HO_151000:=n2_;have BK137:=n3_;have BK138:=n4_;have BK150:=n5_;have HB:=n6_;clear n0_ n1_ n2_ n3_ n4_ n5_ n6_))
              have n0_:=am (Kd.R_drew HO_4.out)
              have n1_:=am (Kd.N_drew HO_138001.out)
              have n2_:=am (Kd.V_drew HO_151000.out)
              have n3_:=am (blk_drew BK137.out)
              have n4_:=am (blk_drew BK138.out)
              have n5_:=am (blk_drew BK150.out)
              have n6_:=am (below_drew1 HB.out)
              clear HO_4 HO_138001 HO_151000 BK137 BK138 BK150 HB
              have HO_4:=n0_
              have HO_138001:=n1_
              have HO_151000:=n2_
              have BK137:=n3_
              have BK138:=n4_
              have BK150:=n5_
              have HB:=n6_
              clear n0_ n1_ n2_ n3_ n4_ n5_ n6_
              have p153:0≤(0:Int):=(by omega)
              have q153:0 < (x151000_2.length:Int):=bD_
              obtain⟨ad153,e153,hx153_0⟩:=Kd.at_int (Kd.V_reads' HO_151000.out).2.2 0 p153 q153
              obtain rfl:ad151=ad153:=(by injection e153)
              have qi153:(0 < x151000_2.length)=True:=eq_true (by omega)
              (try rw[show((0:Int)).toNat=0 from rfl] at hx153_0)
              (try rw[Addr.add_zero'] at hx153_0)
              replace p153:=eq_true p153
              replace q153:=eq_true q153
              refine start_ (n:=9) (S:=fun w'=>w'.cell? ⟨gb150,0,none⟩=some (.slice (some ad151) x151000_2.length co35)∧w'.cell? ⟨gb150,1,none⟩=some (.int .i64 (wrap64 (x151001_2 - (rd x151000_2 0))))∧w'.cell? ⟨gb150,2,none⟩=some (.int .i64 x151002_2)∧w'.cell? ad151=some (.int .i64 (rd x151000_2 0))) (ds:=[8]) #[false,false,false,false,false,false,false,false,false] (by kernel_rfl) rfl rfl ⟨(blk_cell BK150.out 0).trans rfl,(blk_cell BK150.out 1).trans rfl,(blk_cell BK150.out 2).trans rfl,hx153_0⟩ (fun hHeld => ?_);refine with_tabW spec_l14Round.tab11 spec_l14Round.bits11 (fun HT_ HW_ => ?_)
              generalize w38.drew=w39 at HO_4 HO_138001 HO_151000 BK137 BK138 BK150 HB hx153_0 hHeld ⊢
              refine pS HT_ 0 51 ?_;refine pS HT_ 2 53 ?_;refine tS HT_ HW_ hHeld 1 52 ?_;refine tS HT_ HW_ hHeld 3 54 ?_;refine pS HT_ 4 55 ?_;refine tS HT_ HW_ hHeld 5 56 ?_;refine pS HT_ 6 57 ?_;refine pS HT_ 7 58 ?_
              refine last_ (i:=8) (N:=none) #[true,true,true,true,true,true,true,true,true] rfl rfl (one_of HT_.out (by kernel_rfl)) (by decide) (fun K hK => ?_)
              have hs40:w39.cell? ⟨gb150,2,none⟩=some (.int .i64 x151002_2):=(blk_cell BK150.out 2).trans rfl
              have hfs40:=blk_frozen BK150.out 2
              have hns40_0:=NB137_150.out
              have hns40_1:=NB138_150.out
              have hms40_0:=NB150_137.out
              have hms40_1:=NB150_138.out
              refine skip_ (w1:=?_) (by rfl) rfl ?_ ?_
              rotate_left
              ·go_simp
               rfl
              refine hK.out _ _ ?_
              clear hK K
              refine done_ (done_of HT_.out (by kernel_rfl)) ?_
              have n0_:Aside0 (Kd.R (Kd.int .i64) 3 (w39.setCell ⟨gb150,2,none⟩ (.int .i64 (wrap64 (x151002_2+(rd x151000_2 0))))) w.heap.size (fun k_=>(w.heap.size≤k_)) u4 x4_2):=⟨by(with_reducible repeat (first|apply Kd.R_alloc|apply Kd.R_drewN|apply Kd.R_drew));exact Kd.R_mono (Kd.R_far (p:=⟨gb150,2,none⟩) (Kd.R_types HO_4.out BK150.out (by decide)) (fun _ hk=>hk.2) (.int .i64 (wrap64 (x151002_2+(rd x151000_2 0))))) (fun _ hk=>hk.1)⟩
              have n1_:Aside0 (Kd.N k34 34 (w39.setCell ⟨gb150,2,none⟩ (.int .i64 (wrap64 (x151002_2+(rd x151000_2 0))))) w.heap.size (fun k_=>(w.heap.size≤k_)∧some k_≠(u4:Value).ownBlock∧k_≠gb137∧k_≠gb138∧k_≠gb150) (.slice (some ad149) x138001_1.length co23) x138001_1):=⟨by(with_reducible repeat (first|apply Kd.N_alloc|apply Kd.N_drewN|apply Kd.N_drew));exact Kd.N_mono (Kd.N_far (p:=⟨gb150,2,none⟩) (Kd.N_mono HO_138001.out (fun k_ hk=>(⟨hk,hk.2.2.2.2⟩:_∧k_≠gb150))) (fun _ hk=>hk.2) (.int .i64 (wrap64 (x151002_2+(rd x151000_2 0))))) (fun _ hk=>⟨hk.1.1,⟨hk.1.2.1,⟨hk.1.2.2.1,⟨hk.1.2.2.2.1,hk.1.2.2.2.2⟩⟩⟩⟩)⟩
              have n2_:Aside0 (Kd.V (Kd.int .i64) 3 (w39.setCell ⟨gb150,2,none⟩ (.int .i64 (wrap64 (x151002_2+(rd x151000_2 0))))) w.heap.size (fun k_=>(w.heap.size≤k_)∧some k_≠(u4:Value).ownBlock∧some k_≠(.slice (some ad149) x138001_1.length co23:Value).ownBlock∧k_≠gb137∧k_≠gb138∧k_≠gb150) (.slice (some ad151) x151000_2.length co35) x151000_2):=⟨by(with_reducible repeat (first|apply Kd.V_alloc|apply Kd.V_drewN|apply Kd.V_drew));exact Kd.V_mono (Kd.V_far (p:=⟨gb150,2,none⟩) (Kd.V_mono HO_151000.out (fun k_ hk=>(⟨hk,hk.2.2.2.2.2⟩:_∧k_≠gb150))) (fun _ hk=>hk.2) (.int .i64 (wrap64 (x151002_2+(rd x151000_2 0))))) (fun _ hk=>⟨hk.1.1,⟨hk.1.2.1,⟨hk.1.2.2.1,⟨hk.1.2.2.2.1,⟨hk.1.2.2.2.2.1,hk.1.2.2.2.2.2⟩⟩⟩⟩⟩)⟩
              have n3_:Aside0 ((w39.setCell ⟨gb150,2,none⟩ (.int .i64 (wrap64 (x151002_2+(rd x151000_2 0))))).heap[gb137]?=some (.cells #[.int .i64 t139,.slice (some ad149) x138001_1.length co23,.int .i64 t143] 25 (0,0))):=⟨by(with_reducible repeat (first|refine blk_drewN ?_ _|refine blk_drew ?_|refine blk_alloc ?_ _));refine blk_far ?_ NB137_150.out _;(with_reducible repeat (first|refine blk_drewN ?_ _|refine blk_drew ?_|refine blk_alloc ?_ _));exact BK137.out⟩
              have n4_:Aside0 ((w39.setCell ⟨gb150,2,none⟩ (.int .i64 (wrap64 (x151002_2+(rd x151000_2 0))))).heap[gb138]?=some (.cells #[.int .i64 0,.slice none 0 0,.int .i64 0] 25 (0,0))):=⟨by(with_reducible repeat (first|refine blk_drewN ?_ _|refine blk_drew ?_|refine blk_alloc ?_ _));refine blk_far ?_ NB138_150.out _;(with_reducible repeat (first|refine blk_drewN ?_ _|refine blk_drew ?_|refine blk_alloc ?_ _));exact BK138.out⟩
              have n5_:Aside0 ((w39.setCell ⟨gb150,2,none⟩ (.int .i64 (wrap64 (x151002_2+(rd x151000_2 0))))).heap[gb150]?=some (.cells #[.slice (some ad151) x151000_2.length co35,.int .i64 (wrap64 (x151001_2 - (rd x151000_2 0))),.int .i64 (wrap64 (x151002_2+(rd x151000_2 0)))] 34 (0,0))):=⟨by(with_reducible repeat (first|refine blk_drewN ?_ _|refine blk_drew ?_|refine blk_alloc ?_ _));refine blk_put (cs:=#[.slice (some ad151) x151000_2.length co35,.int .i64 (wrap64 (x151001_2 - (rd x151000_2 0))),.int .i64 x151002_2]) ?_ 2 _ rfl;(with_reducible repeat (first|refine blk_drewN ?_ _|refine blk_drew ?_|refine blk_alloc ?_ _));exact BK150.out⟩
              have n6_:Aside0 (Below w.heap.size w (w39.setCell ⟨gb150,2,none⟩ (.int .i64 (wrap64 (x151002_2+(rd x151000_2 0)))))):=⟨bS3 GE137.out GE138.out GE150.out⟩
              (try clear HO_4)
              (try clear HO_138001)
              (try clear HO_151000)
              (try clear BK137)
              (try clear BK138)
              (try clear BK150)
              (try clear HB)
              generalize (w39.setCell ⟨gb150,2,none⟩ (.int .i64 (wrap64 (x151002_2+(rd x151000_2 0)))))=w41 at n0_ n1_ n2_ n3_ n4_ n5_ n6_ ⊢
              have HO_4:=n0_
              have HO_138001:=n1_
              have HO_151000:=n2_
              have BK137:=n3_
              have BK138:=n4_
              have BK150:=n5_
              have HB:=n6_
              clear n0_ n1_ n2_ n3_ n4_ n5_ n6_
              have hnb42:=NB150_137.out
              have hnc42:=NB137_150.out
              have hnb43:=NB150_138.out
              have hnc43:=NB138_150.out
              obtain⟨hcz44_0,hcz44_1,hcz44_2⟩:=cC3 BK150.out
              obtain⟨hfz44_0,hfz44_1,hfz44_2⟩:=cF3 BK150.out
              have q45:(1:Int)≤((x151000_2.length:Int):Int):=bD_
              obtain⟨i045,hi045,_,hsz45,_⟩:=info_parts info3
              have hroom45:x151000_2.length≤co35:=(Kd.V_reads' HO_151000.out).2.1
              have hC45:Kd.F (Kd.int .i64) _ _ (some ad151) x151000_2.length x151000_2:=(Kd.V_at (base:=w.heap.size) HO_151000.out).2.2
              have hcut45:=cut_from (P:=Try.prog) 27 3 .i64 Try.underlying27 hi045 1 hsz45 (some ad151) x151000_2.length co35 1 (by omega) q45
              have hr45:=Kd.F_cut (m:=(1:Int).toNat) (c:=co35) hC45 (by omega) hroom45
              obtain⟨A45,hA45⟩ : ∃ A1,A1=(if co35=(1:Int).toNat then (some ad151) else ((some ad151):Option Addr).map (·.add ((1:Int).toNat * 1))):=⟨_,rfl⟩
              obtain⟨c45,hc45⟩ : ∃ c1,c1=co35 - (1:Int).toNat:=⟨_,rfl⟩
              have hy45:y154.length=x151000_2.length - (1:Int).toNat:=(by rw[Ny154.out,List.length_drop]<;>omega)
              rw[show(x151000_2).drop (1:Int).toNat=y154 from Ny154.out.symm] at hr45
              replace hr45:Kd.F (Kd.int .i64) _ _ A45 y154.length y154:=(by rw[hA45];exact hr45)
              rw[← hy45,← hA45,← hc45] at hcut45
              have HO158:=am (show Kd.V (Kd.int .i64) 3 _ w.heap.size _ (.slice A45 y154.length c45) y154 from Kd.V_mk (by rw[hy45,hc45];exact Nat.sub_le_sub_right hroom45 _) hr45)
              have HC158:=am (show y154.length≤c45 from by rw[hy45,hc45];exact Nat.sub_le_sub_right hroom45 _)
              clear hr45 hC45 hroom45 hi045 hsz45 hc45
              have KY45:=am hy45
              have KA45:=am hA45
              clear hy45 hA45
              replace q45:=eq_true q45
              try go_wp2_with (first|((with_reducible refine gate_builtin (b:=.append) (xs:=#[.tmp 63,.tmp 65]) rfl ?_);at_builtin;refine Kd.R_append (Kd.int .i64) (w0:=w) w.heap.size rfl (.tmp 63) (.tmp 65) 27 3 (.int .i64 0) 8 rfl Try.underlying27 info3 rfl (by decide) (by omega) u4 x4_2 x12_1 [.int .i64 x12_1] (fun k_=>(w.heap.size≤k_)) (fun _=>False) rfl (by first|(go_simp;done)|(go_simp;rfl)) ?aP (fun _ hk=>hk.elim) ?aF ?aO ?aB ?aS ?aL ?_;(case aP=>exact rfl);(case aB=>exact(bS3 GE137.out GE138.out GE150.out));(case aF=>exact(fun k_ hk=>(Nat.le_trans (below_size (bS3 GE137.out GE138.out GE150.out)) hk)));(case aO=>exact(by(with_reducible repeat (first|apply Kd.R_alloc|apply Kd.R_drewN|apply Kd.R_drew));exact Kd.R_mono (Kd.R_far (p:=⟨gb150,0,none⟩) (Kd.R_types HO_4.out BK150.out (by decide)) (fun _ hk=>hk.2) (.slice A45 y154.length c45)) (fun _ hk=>hk.1)));(case aS=>exact(below_size (bS3 GE137.out GE138.out GE150.out)));(case aL=>have:=LMc33.out;omega);intro v160 w46 ho hb hg hat;rw[← Ny159.out] at ho;have n0_:=am (Kd.N_afterv (ok:=(fun k_=>(w.heap.size≤k_)∧k_≠gb137∧k_≠gb138∧k_≠gb150)) (by(with_reducible repeat (first|apply Kd.N_alloc|apply Kd.N_drewN|apply Kd.N_drew));exact Kd.N_mono (Kd.N_far (p:=⟨gb150,0,none⟩) (Kd.N_mono HO_138001.out (fun k_ hk=>(⟨hk,hk.2.2.2.2⟩:_∧k_≠gb150))) (fun _ hk=>hk.2) (.slice A45 y154.length c45)) (fun _ hk=>⟨⟨hk.1.1,⟨hk.1.2.2.1,⟨hk.1.2.2.2.1,hk.1.2.2.2.2⟩⟩⟩,hk.1.2.1⟩)) hg hat);have n1_:=am (Kd.V_afterv (ok:=(fun k_=>(w.heap.size≤k_)∧some k_≠(.slice (some ad149) x138001_1.length co23:Value).ownBlock∧k_≠gb137∧k_≠gb138∧k_≠gb150)) (by(with_reducible repeat (first|apply Kd.V_alloc|apply Kd.V_drewN|apply Kd.V_drew));exact Kd.V_mono (Kd.V_far (p:=⟨gb150,0,none⟩) (Kd.V_mono HO_151000.out (fun k_ hk=>(⟨hk,hk.2.2.2.2.2⟩:_∧k_≠gb150))) (fun _ hk=>hk.2) (.slice A45 y154.length c45)) (fun _ hk=>⟨⟨hk.1.1,⟨hk.1.2.2.1,⟨hk.1.2.2.2.1,⟨hk.1.2.2.2.2.1,hk.1.2.2.2.2.2⟩⟩⟩⟩,hk.1.2.1⟩)) hg hat);have n2_:=am (blk_grown (g:=gb137) (o:=.cells #[.int .i64 t139,.slice (some ad149) x138001_1.length co23,.int .i64 t143] 25 (0,0)) (by(with_reducible repeat (first|refine blk_drewN ?_ _|refine blk_drew ?_|refine blk_alloc ?_ _));refine blk_far ?_ NB137_150.out _;(with_reducible repeat (first|refine blk_drewN ?_ _|refine blk_drew ?_|refine blk_alloc ?_ _));exact BK137.out) hg (Kd.R_ne HO_4.out BK137.out (by decide)));have n3_:=am (blk_grown (g:=gb138) (o:=.cells #[.int .i64 0,.slice none 0 0,.int .i64 0] 25 (0,0)) (by(with_reducible repeat (first|refine blk_drewN ?_ _|refine blk_drew ?_|refine blk_alloc ?_ _));refine blk_far ?_ NB138_150.out _;(with_reducible repeat (first|refine blk_drewN ?_ _|refine blk_drew ?_|refine blk_alloc ?_ _));exact BK138.out) hg (Kd.R_ne HO_4.out BK138.out (by decide)));have n4_:=am (blk_grown (g:=gb150) (o:=.cells #[.slice A45 y154.length c45,.int .i64 (wrap64 (x151001_2 - (rd x151000_2 0))),.int .i64 (wrap64 (x151002_2+(rd x151000_2 0)))] 34 (0,0)) (by(with_reducible repeat (first|refine blk_drewN ?_ _|refine blk_drew ?_|refine blk_alloc ?_ _));refine blk_put (cs:=#[.slice (some ad151) x151000_2.length co35,.int .i64 (wrap64 (x151001_2 - (rd x151000_2 0))),.int .i64 (wrap64 (x151002_2+(rd x151000_2 0)))]) ?_ 0 _ rfl;(with_reducible repeat (first|refine blk_drewN ?_ _|refine blk_drew ?_|refine blk_alloc ?_ _));exact BK150.out) hg (Kd.R_ne HO_4.out BK150.out (by decide)));have n5_:=am (Kd.V_afterv (ok:=(fun k_=>(w.heap.size≤k_)∧some k_≠(.slice (some ad149) x138001_1.length co23:Value).ownBlock∧k_≠gb137∧k_≠gb138∧k_≠gb150)) (by(with_reducible repeat (first|apply Kd.V_alloc|apply Kd.V_drewN|apply Kd.V_drew));exact Kd.V_mono (Kd.V_far (p:=⟨gb150,0,none⟩) (Kd.V_mono HO158.out (fun k_ hk=>(⟨hk,hk.2.2.2.2.2⟩:_∧k_≠gb150))) (fun _ hk=>hk.2) (.slice A45 y154.length c45)) (fun _ hk=>⟨⟨hk.1.1,⟨hk.1.2.2.1,⟨hk.1.2.2.2.1,⟨hk.1.2.2.2.2.1,hk.1.2.2.2.2.2⟩⟩⟩⟩,hk.1.2.1⟩)) hg hat);have n6_:=am (hb);have n7_:=am (ho);clear HO_138001 HO_151000 BK137 BK138 BK150 HO158 HB HO_4;have HO_138001:=n0_;have HO_151000:=n1_;have BK137:=n2_;have BK138:=n3_;have BK150:=n4_;have HO158:=n5_;have HB:=n6_;have HO161:=n7_;clear n0_ n1_ n2_ n3_ n4_ n5_ n6_ n7_;clear ho hb hg hat))
              go_roundg k2
              case measure=>have:=HK1.out;have:=HK2.out;omega
              case rel=>exact⟨(y159),(y154),(wrap64 (x151001_2 - (rd x151000_2 0))),(wrap64 (x151002_2+(rd x151000_2 0))),(.slice A45 y154.length c45),H',⟨by have:=HK1.out;have:=HK2.out;omega⟩,⟨by(with_reducible repeat (first|apply Kd.R_alloc|apply Kd.R_drewN|apply Kd.R_drew));exact HO161.out⟩,⟨by(with_reducible repeat (first|apply Kd.N_alloc|apply Kd.N_drewN|apply Kd.N_drew));exact Kd.N_mono HO_138001.out (fun _ hk=>⟨hk.1.1,⟨hk.2,⟨hk.1.2.1,⟨hk.1.2.2.1,hk.1.2.2.2⟩⟩⟩⟩)⟩,⟨by(with_reducible repeat (first|apply Kd.V_alloc|apply Kd.V_drewN|apply Kd.V_drew));exact Kd.V_mono HO158.out (fun _ hk=>⟨hk.1.1,⟨hk.2,⟨hk.1.2.1,⟨hk.1.2.2.1,⟨hk.1.2.2.2.1,hk.1.2.2.2.2⟩⟩⟩⟩⟩)⟩,⟨by(with_reducible repeat (first|refine blk_drewN ?_ _|refine blk_drew ?_|refine blk_alloc ?_ _));exact BK137.out⟩,⟨by(with_reducible repeat (first|refine blk_drewN ?_ _|refine blk_drew ?_|refine blk_alloc ?_ _));exact BK138.out⟩,⟨by(with_reducible repeat (first|refine blk_drewN ?_ _|refine blk_drew ?_|refine blk_alloc ?_ _));exact BK150.out⟩,⟨bS3 GE137.out GE138.out GE150.out⟩⟩
             ·rw[if_neg c33] at H
              exact absurd H (by simp)
            ·rw[if_neg c32] at H
             exact absurd H (by simp)
           ·rw[if_neg c31] at H
            have c31b0:decide ((rd x151000_2 0)≤x151001_2)=false:=decide_eq_false c31
            clear c31
            by_cases c47:(x151000_2.length:Int)=0
            ·rw[if_pos c47] at H
             have c47b0:((x151000_2.length:Int) == 0)=true:=beq_iff_eq.mpr c47
             have c47b1:((x151000_2.length:Int) != 0)=false:=bne_eq_false_iff_eq.mpr c47
             clear c47
             by_cases c48:0≤x12_1
             ·rw[if_pos c48] at H
              have c48b0:decide (0≤x12_1)=true:=decide_eq_true c48
              clear c48
              by_cases c49:x12_1 < (x138001_1.length:Int)
              ·rw[if_pos c49] at H
               have c49b0:decide (x12_1 < (x138001_1.length:Int))=true:=decide_eq_true c49
               clear c49
               obtain⟨y162,hy162⟩ : ∃ y_:List (S34),y_=(x138001_1.set (x12_1:Int).toNat (⟨x151000_2,0,x151002_2⟩:S34)):=⟨_,rfl⟩
               replace H:(spec_l14Round.l0 k2 x4_2 (t140.length:Int) (wrap64 (x12_1+1)) t139 y162 t143)=some (r1,r2,r3,r4):=by first|(rw[hy162];with_reducible exact H)|(have H2_:=(Option.bind_some _ _).symm.trans H;rw[hy162];with_reducible exact H2_)|(have H2_:=(Option.bind_some _ _).symm.trans H;with_reducible exact H2_)|with_reducible exact H|(rw[hy162];exact H)|exact H
               have Ny162:=am hy162
               clear hy162
               have H':=am H
               clear H
               try go_wp2
               (try (rw[drewN_self wr];generalize hq_:World.drewN wr _=wr;have n0_:=am (Kd.R_at hq_ HO_4.out);have n1_:=am (Kd.N_at hq_ HO_138001.out);have n2_:=am (Kd.V_at hq_ HO_151000.out);have n3_:=am (blk_at hq_ BK137.out);have n4_:=am (blk_at hq_ BK138.out);have n5_:=am (blk_at hq_ BK150.out);have n6_:=am (below_at hq_ HB.out);clear hq_ HO_4 HO_138001 HO_151000 BK137 BK138 BK150 HB;have HO_4:=n0_;have HO_138001:=n1_;have HO_151000:=n2_;have BK137:=n3_;have BK138:=n4_;have BK150:=n5_;have HB:=n6_;clear n0_ n1_ n2_ n3_ n4_ n5_ n6_))
               have n0_:=am (Kd.R_drew HO_4.out)
               have n1_:=am (Kd.N_drew HO_138001.out)
               have n2_:=am (Kd.V_drew HO_151000.out)
               have n3_:=am (blk_drew BK137.out)
               have n4_:=am (blk_drew BK138.out)
               have n5_:=am (blk_drew BK150.out)
               have n6_:=am (below_drew1 HB.out)
               clear HO_4 HO_138001 HO_151000 BK137 BK138 BK150 HB
               have HO_4:=n0_
               have HO_138001:=n1_
               have HO_151000:=n2_
               have BK137:=n3_
               have BK138:=n4_
               have BK150:=n5_
               have HB:=n6_
               clear n0_ n1_ n2_ n3_ n4_ n5_ n6_
               obtain⟨Ao52,co52,eo52⟩:=Kd.V_slice HO_151000.out
               (first|subst eo52|(injection eo52 with f1_ f2_ f3_;have f4_:=f1_.symm;have f5_:=f3_.symm;clear f1_ f2_ f3_;subst f4_;subst f5_))
               have p151:0≤(0:Int):=(by omega)
               have q151:0 < (x151000_2.length:Int):=bD_
               obtain⟨ad151,e151,hx151_0⟩:=Kd.at_int (Kd.V_reads' HO_151000.out).2.2 0 p151 q151
               cases e151
               have qi151:(0 < x151000_2.length)=True:=eq_true (by omega)
               (try rw[show((0:Int)).toNat=0 from rfl] at hx151_0)
               (try rw[Addr.add_zero'] at hx151_0)
               replace p151:=eq_true p151
               replace q151:=eq_true q151
               refine start_ (n:=13) (S:=fun w'=>w'.cell? ⟨gb150,0,none⟩=some (.slice (some ad151) x151000_2.length co52)∧w'.cell? ⟨gb150,1,none⟩=some (.int .i64 x151001_2)∧w'.cell? ⟨gb150,2,none⟩=some (.int .i64 x151002_2)∧w'.cell? ad151=some (.int .i64 (rd x151000_2 0))) (ds:=[]) #[false,false,false,false,false,false,false,false,false,false,false,false,false] (by kernel_rfl) rfl rfl ⟨(blk_cell BK150.out 0).trans rfl,(blk_cell BK150.out 1).trans rfl,(blk_cell BK150.out 2).trans rfl,hx151_0⟩ (fun hHeld => ?_);refine with_tabW spec_l14Round.tab9 spec_l14Round.bits9 (fun HT_ HW_ => ?_)
               generalize wr.drew=w51 at HO_4 HO_138001 HO_151000 BK137 BK138 BK150 HB hx151_0 hHeld ⊢
               refine pS HT_ 0 30 ?_;refine tS HT_ HW_ hHeld 1 31 ?_;refine pS HT_ 2 32 ?_;refine pS HT_ 3 33 ?_;refine pS HT_ 4 34 ?_;refine pS HT_ 5 35 ?_;refine pS HT_ 9 39 ?_;refine tS HT_ HW_ hHeld 6 36 ?_;refine pS HT_ 7 37 ?_;refine tS HT_ HW_ hHeld 8 38 ?_;refine tS HT_ HW_ hHeld 10 40 ?_;refine pS HT_ 11 41 ?_;refine pS HT_ 12 42 ?_
               refine done_ (done_of HT_.out (by kernel_rfl)) ?_
               have hnb53:=NB150_137.out
               have hnc53:=NB137_150.out
               have hnb54:=NB150_138.out
               have hnc54:=NB138_150.out
               obtain⟨hcz55_0,hcz55_1,hcz55_2⟩:=cC3 BK150.out
               obtain⟨hfz55_0,hfz55_1,hfz55_2⟩:=cF3 BK150.out
               try go_wp2_with (first|((with_reducible refine gate_store (t:=3) (p:=71) rfl ?_);refine store_event (t:=3) (p:=71) (v:=?vo_w56) (w1:=(w51.setCell ⟨gb150,1,none⟩ (.int .i64 0))) ?hg ?ho ?hn ?hr ?_;(case ho=>rfl);(case hg=>rfl);(case hn=>rfl);(case hr=>first|(go_simp;done)|(go_simp;rfl));intro w56 hw;have n0_:Aside0 (Kd.R (Kd.int .i64) 3 w56 w.heap.size (fun k_=>(w.heap.size≤k_)) u4 x4_2):=⟨(by rw[hw];exact(by(with_reducible repeat (first|apply Kd.R_alloc|apply Kd.R_drewN|apply Kd.R_drew));exact Kd.R_mono (Kd.R_far (p:=⟨gb150,1,none⟩) (Kd.R_types HO_4.out BK150.out (by decide)) (fun _ hk=>hk.2) (.int .i64 0)) (fun _ hk=>hk.1)))⟩;have n1_:Aside0 (Kd.N k34 34 w56 w.heap.size (fun k_=>(w.heap.size≤k_)∧some k_≠(u4:Value).ownBlock∧k_≠gb137∧k_≠gb138∧k_≠gb150) (.slice (some ad149) x138001_1.length co23) x138001_1):=⟨(by rw[hw];exact(by(with_reducible repeat (first|apply Kd.N_alloc|apply Kd.N_drewN|apply Kd.N_drew));exact Kd.N_mono (Kd.N_far (p:=⟨gb150,1,none⟩) (Kd.N_mono HO_138001.out (fun k_ hk=>(⟨hk,hk.2.2.2.2⟩:_∧k_≠gb150))) (fun _ hk=>hk.2) (.int .i64 0)) (fun _ hk=>⟨hk.1.1,⟨hk.1.2.1,⟨hk.1.2.2.1,⟨hk.1.2.2.2.1,hk.1.2.2.2.2⟩⟩⟩⟩)))⟩;have n2_:Aside0 (Kd.V (Kd.int .i64) 3 w56 w.heap.size (fun k_=>(w.heap.size≤k_)∧some k_≠(u4:Value).ownBlock∧some k_≠(.slice (some ad149) x138001_1.length co23:Value).ownBlock∧k_≠gb137∧k_≠gb138∧k_≠gb150) (.slice (some ad151) x151000_2.length co52) x151000_2):=⟨(by rw[hw];exact(by(with_reducible repeat (first|apply Kd.V_alloc|apply Kd.V_drewN|apply Kd.V_drew));exact Kd.V_mono (Kd.V_far (p:=⟨gb150,1,none⟩) (Kd.V_mono HO_151000.out (fun k_ hk=>(⟨hk,hk.2.2.2.2.2⟩:_∧k_≠gb150))) (fun _ hk=>hk.2) (.int .i64 0)) (fun _ hk=>⟨hk.1.1,⟨hk.1.2.1,⟨hk.1.2.2.1,⟨hk.1.2.2.2.1,⟨hk.1.2.2.2.2.1,hk.1.2.2.2.2.2⟩⟩⟩⟩⟩)))⟩;have n3_:Aside0 (w56.heap[gb137]?=some (.cells #[.int .i64 t139,.slice (some ad149) x138001_1.length co23,.int .i64 t143] 25 (0,0))):=⟨(by rw[hw];exact(by(with_reducible repeat (first|refine blk_drewN ?_ _|refine blk_drew ?_|refine blk_alloc ?_ _));refine blk_far ?_ NB137_150.out _;(with_reducible repeat (first|refine blk_drewN ?_ _|refine blk_drew ?_|refine blk_alloc ?_ _));exact BK137.out))⟩;have n4_:Aside0 (w56.heap[gb138]?=some (.cells #[.int .i64 0,.slice none 0 0,.int .i64 0] 25 (0,0))):=⟨(by rw[hw];exact(by(with_reducible repeat (first|refine blk_drewN ?_ _|refine blk_drew ?_|refine blk_alloc ?_ _));refine blk_far ?_ NB138_150.out _;(with_reducible repeat (first|refine blk_drewN ?_ _|refine blk_drew ?_|refine blk_alloc ?_ _));exact BK138.out))⟩;have n5_:Aside0 (w56.heap[gb150]?=some (.cells #[.slice (some ad151) x151000_2.length co52,.int .i64 0,.int .i64 x151002_2] 34 (0,0))):=⟨(by rw[hw];exact(by(with_reducible repeat (first|refine blk_drewN ?_ _|refine blk_drew ?_|refine blk_alloc ?_ _));refine blk_put (cs:=#[.slice (some ad151) x151000_2.length co52,.int .i64 x151001_2,.int .i64 x151002_2]) ?_ 1 _ rfl;(with_reducible repeat (first|refine blk_drewN ?_ _|refine blk_drew ?_|refine blk_alloc ?_ _));exact BK150.out))⟩;have n6_:Aside0 (Below w.heap.size w w56):=⟨(by rw[hw];exact(bS3 GE137.out GE138.out GE150.out))⟩;clear hw HO_4 HO_138001 HO_151000 BK137 BK138 BK150 HB;have HO_4:=n0_;have HO_138001:=n1_;have HO_151000:=n2_;have BK137:=n3_;have BK138:=n4_;have BK150:=n5_;have HB:=n6_;clear n0_ n1_ n2_ n3_ n4_ n5_ n6_;have hnb57:=NB137_138.out;have hnc57:=NB138_137.out;obtain⟨hcz58_0,hcz58_1,hcz58_2⟩:=cC3 BK137.out;obtain⟨hfz58_0,hfz58_1,hfz58_2⟩:=cF3 BK137.out;obtain⟨hcz59_0,hcz59_1,hcz59_2⟩:=cC3 BK150.out;obtain⟨hfz59_0,hfz59_1,hfz59_2⟩:=cF3 BK150.out;have p50:0≤(x12_1:Int):=bD_;have q50:(x12_1:Int) < ((x138001_1.length:Int):Int):=bD_;obtain⟨go50,co50,eo50,gb50,gl50,cl50,HG50⟩:=Kd.N_form HO_138001.out (by omega);(first|cases eo50|(injection eo50 with ea_ en_ ec_;(first|subst ea_|(injection ea_ with ea_;subst ea_));subst ec_;clear en_));have GB50:=am gb50;have GG50:=am HG50;clear gb50 gl50 HG50;(first|simp only[add_plain] at hx149_0|skip);(first|simp only[add_plain] at hx149_1|skip);(first|simp only[add_plain] at hx149_2|skip);obtain⟨ce50,hcl50,hM50,hcc50,hfr50⟩:=Kd.N_elem HO_138001.out z34 (x12_1:Int) p50 q50;obtain⟨ua50_0,uc50_0,rfl,ul50_0,ge50_0⟩:=k34_openF hM50;have hx50_0:w56.cell? ⟨go50,(x12_1:Int).toNat * 3,none⟩=some (.slice ua50_0 ((rd_T34 x138001_1 x12_1).f0).length uc50_0):=hcc50 0 _ rfl;have hx50_1:w56.cell? ⟨go50,(x12_1:Int).toNat * 3+1,none⟩=some (.int .i64 ((rd_T34 x138001_1 x12_1).f1)):=hcc50 1 _ rfl;have hx50_2:w56.cell? ⟨go50,(x12_1:Int).toNat * 3+2,none⟩=some (.int .i64 ((rd_T34 x138001_1 x12_1).f2)):=hcc50 2 _ rfl;have hf50_0:w56.frozen? ⟨go50,(x12_1:Int).toNat * 3,none⟩=false:=hfr50 0;have hf50_1:w56.frozen? ⟨go50,(x12_1:Int).toNat * 3+1,none⟩=false:=hfr50 1;have hf50_2:w56.frozen? ⟨go50,(x12_1:Int).toNat * 3+2,none⟩=false:=hfr50 2;clear hcl50 hcc50 hfr50 hM50;replace p50:=eq_true p50;replace q50:=eq_true q50;have HX60:=am (show Kd.N k34 34 w56 w.heap.size (fun k_=>(w.heap.size≤k_)∧some k_≠(u4:Value).ownBlock∧k_≠gb137∧k_≠gb138∧k_≠gb150) (.slice (some ⟨go50,0,none⟩) x138001_1.length co23) x138001_1 from (by(with_reducible repeat (first|apply Kd.N_alloc|apply Kd.N_drewN|apply Kd.N_drew));exact HO_138001.out));obtain⟨ce60,hcl60,hM60,hcc60,hfr60⟩:=Kd.N_elem HX60.out z34 (x12_1:Int) (bD_) (by have h_:(x12_1:Int) < ((x138001_1.length:Int):Int):=bD_;first|exact h_|(have e_:=(Kd.N_reads' HO_138001.out).1;omega)|simpa using h_);obtain⟨ua60_0,uc60_0,rfl,ul60_0,ge60_0⟩:=k34_openF hM60;have HP60:=Kd.N_seg HX60.out (x12_1:Int) (bD_) (by have h_:(x12_1:Int) < ((x138001_1.length:Int):Int):=bD_;first|exact h_|(have e_:=(Kd.N_reads' HO_138001.out).1;omega)|simpa using h_) (seg:=[.slice (some ad151) x151000_2.length co52,.int .i64 0,.int .i64 x151002_2]) (j:=0) hcl60 hcc60 (show 3≤3 from by decide) (x':=(⟨x151000_2,0,x151002_2⟩:S34)) (k34_mkF _ _ (⟨x151000_2,0,x151002_2⟩:S34) (Kd.V_reads' (Kd.V_mono (ok':=(fun k_=>((fun k_=>(w.heap.size≤k_)∧some k_≠(u4:Value).ownBlock∧k_≠gb137∧k_≠gb138∧k_≠gb150)) k_∧k_≠go50)) (HO_151000.out) (fun k_ hk=>⟨⟨hk.1,⟨hk.2.1,⟨hk.2.2.2.1,⟨hk.2.2.2.2.1,hk.2.2.2.2.2⟩⟩⟩⟩,fun e_=>(hk.2.2.1) (by rw[e_];rfl)⟩))).2.1 (Kd.V_F (Kd.V_mono (ok':=(fun k_=>((fun k_=>(w.heap.size≤k_)∧some k_≠(u4:Value).ownBlock∧k_≠gb137∧k_≠gb138∧k_≠gb150)) k_∧k_≠go50)) (HO_151000.out) (fun k_ hk=>⟨⟨hk.1,⟨hk.2.1,⟨hk.2.2.2.1,⟨hk.2.2.2.2.1,hk.2.2.2.2.2⟩⟩⟩⟩,fun e_=>(hk.2.2.1) (by rw[e_];rfl)⟩)))) (fun _ hk=>hk);have hx60_0:=hcc60 0 _ rfl;(try simp only[show(k34).sz=3 from rfl,Nat.mul_one,Nat.add_zero] at hx60_0);have hf60_0:=hfr60 0;(try simp only[show(k34).sz=3 from rfl,Nat.mul_one,Nat.add_zero] at hf60_0);have hx60_1:=hcc60 1 _ rfl;(try simp only[show(k34).sz=3 from rfl,Nat.mul_one,Nat.add_zero] at hx60_1);have hf60_1:=hfr60 1;(try simp only[show(k34).sz=3 from rfl,Nat.mul_one,Nat.add_zero] at hf60_1);have hx60_2:=hcc60 2 _ rfl;(try simp only[show(k34).sz=3 from rfl,Nat.mul_one,Nat.add_zero] at hx60_2);have hf60_2:=hfr60 2;(try simp only[show(k34).sz=3 from rfl,Nat.mul_one,Nat.add_zero] at hf60_2);clear hcl60 hcc60 hfr60 hM60)|((with_reducible refine gate_store (t:=34) (p:=76) rfl ?_);refine store_event (t:=34) (p:=76) (v:=?vo_w61) (w1:=(((w56.setCell ⟨go50,(x12_1:Int).toNat * 3,none⟩ (.slice (some ad151) x151000_2.length co52)).setCell ⟨go50,(x12_1:Int).toNat * 3+1,none⟩ (.int .i64 0)).setCell ⟨go50,(x12_1:Int).toNat * 3+2,none⟩ (.int .i64 x151002_2))) ?hg ?ho ?hn ?hr ?_;(case ho=>rfl);(case hg=>rfl);(case hn=>rfl);(case hr=>(try (obtain⟨Aq_,cq_,eq_⟩:=Kd.V_slice HO_151000.out;subst eq_));first|(go_simp;done)|(go_simp;rfl));intro w61 hw;have hg:w56.grownBy w61 (some go50):=(by rw[hw];exact HP60.2);have hp_:Kd.N k34 34 w61 w.heap.size (fun k_=>(w.heap.size≤k_)∧some k_≠(u4:Value).ownBlock∧k_≠gb137∧k_≠gb138∧k_≠gb150) (.slice (some ⟨go50,0,none⟩) x138001_1.length co23) y162:=(by rw[hw,Ny162.out];exact HP60.1);clear HP60;have n0_:=am (Kd.R_over' (v:=(.slice (some ⟨go50,0,none⟩) x138001_1.length co23)) (bK HO_4.out) (Kd.N_typed HO_138001.out) (by decide) hg);have n1_:=am (hp_);have n2_:=am (Kd.V_afterv (v:=(.slice (some ⟨go50,0,none⟩) x138001_1.length co23)) (v1:=(.slice (some ⟨go50,0,none⟩) x138001_1.length co23)) (ok:=(fun k_=>(w.heap.size≤k_)∧some k_≠(u4:Value).ownBlock∧k_≠gb137∧k_≠gb138∧k_≠gb150)) (by(with_reducible repeat (first|apply Kd.V_alloc|apply Kd.V_drewN|apply Kd.V_drew));exact Kd.V_mono HO_151000.out (fun _ hk=>⟨⟨hk.1,⟨hk.2.1,⟨hk.2.2.2.1,⟨hk.2.2.2.2.1,hk.2.2.2.2.2⟩⟩⟩⟩,hk.2.2.1⟩)) hg (.inl rfl));have n3_:=am (blk_grown (g:=gb137) (o:=.cells #[.int .i64 t139,.slice (some ⟨go50,0,none⟩) x138001_1.length co23,.int .i64 t143] 25 (0,0)) (bL BK137.out) hg (Kd.N_ne HO_138001.out BK137.out (by decide)));have n4_:=am (blk_grown (g:=gb138) (o:=.cells #[.int .i64 0,.slice none 0 0,.int .i64 0] 25 (0,0)) (bL BK138.out) hg (Kd.N_ne HO_138001.out BK138.out (by decide)));have n5_:=am (blk_grown (g:=gb150) (o:=.cells #[.slice (some ad151) x151000_2.length co52,.int .i64 0,.int .i64 x151002_2] 34 (0,0)) (bL BK150.out) hg (Kd.N_away HO_138001.out (fun _ hk=>hk.2.2.2.2)));have n6_:=am ((by rw[hw];exact below_set (below_set (below_set (HB.out) GB50.out) GB50.out) GB50.out:Below w.heap.size w w61));clear HO_4 HO_138001 HO_151000 BK137 BK138 BK150 HB;have HO_4:=n0_;have HO_138001:=n1_;have HO_151000:=n2_;have BK137:=n3_;have BK138:=n4_;have BK150:=n5_;have HB:=n6_;clear n0_ n1_ n2_ n3_ n4_ n5_ n6_;clear hg hw hp_))
               go_roundg k2
               case measure=>have:=HK1.out;have:=HK2.out;omega
               case rel=>exact⟨(x4_2),(wrap64 (x12_1+1)),(y162),(.slice (some ⟨go50,0,none⟩) x138001_1.length co23),(bR),H',⟨by have:=HK1.out;have:=HK2.out;omega⟩,⟨by(with_reducible repeat (first|apply Kd.R_alloc|apply Kd.R_drewN|apply Kd.R_drew));exact HO_4.out⟩,⟨by(with_reducible repeat (first|apply Kd.N_alloc|apply Kd.N_drewN|apply Kd.N_drew));exact Kd.N_mono HO_138001.out (fun _ hk=>⟨hk.1,⟨hk.2.1,⟨hk.2.2.1,hk.2.2.2.1⟩⟩⟩)⟩,⟨by(with_reducible repeat (first|refine blk_drewN ?_ _|refine blk_drew ?_|refine blk_alloc ?_ _));exact BK137.out⟩,⟨by(with_reducible repeat (first|refine blk_drewN ?_ _|refine blk_drew ?_|refine blk_alloc ?_ _));exact BK138.out⟩,⟨bS3 GE137.out GE138.out GE150.out⟩⟩
              ·rw[if_neg c49] at H
               exact absurd H (by simp)
             ·rw[if_neg c48] at H
              exact absurd H (by simp)
            ·rw[if_neg c47] at H
             have c47b0:((x151000_2.length:Int) == 0)=false:=beq_eq_false_iff_ne.mpr c47
             have c47b1:((x151000_2.length:Int) != 0)=true:=bne_iff_ne.mpr c47
             have c47b2 : ¬ (x151000_2=[]):=fun h_=>c47 (by rw[h_];rfl)
             by_cases c62:0≤x12_1
             ·rw[if_pos c62] at H
              have c62b0:decide (0≤x12_1)=true:=decide_eq_true c62
              clear c62
              by_cases c63:x12_1 < (x138001_1.length:Int)
              ·rw[if_pos c63] at H
               have c63b0:decide (x12_1 < (x138001_1.length:Int))=true:=decide_eq_true c63
               clear c63
               obtain⟨y163,hy163⟩ : ∃ y_:List (S34),y_=(x138001_1.set (x12_1:Int).toNat (⟨x151000_2,x151001_2,x151002_2⟩:S34)):=⟨_,rfl⟩
               replace H:(spec_l14Round.l0 k2 x4_2 (t140.length:Int) (wrap64 (x12_1+1)) t139 y163 t143)=some (r1,r2,r3,r4):=by first|(rw[hy163];with_reducible exact H)|(have H2_:=(Option.bind_some _ _).symm.trans H;rw[hy163];with_reducible exact H2_)|(have H2_:=(Option.bind_some _ _).symm.trans H;with_reducible exact H2_)|with_reducible exact H|(rw[hy163];exact H)|exact H
               have Ny163:=am hy163
               clear hy163
               have H':=am H
               clear H
               try go_wp2
               (try (rw[drewN_self wr];generalize hq_:World.drewN wr _=wr;have n0_:=am (Kd.R_at hq_ HO_4.out);have n1_:=am (Kd.N_at hq_ HO_138001.out);have n2_:=am (Kd.V_at hq_ HO_151000.out);have n3_:=am (blk_at hq_ BK137.out);have n4_:=am (blk_at hq_ BK138.out);have n5_:=am (blk_at hq_ BK150.out);have n6_:=am (below_at hq_ HB.out);clear hq_ HO_4 HO_138001 HO_151000 BK137 BK138 BK150 HB;have HO_4:=n0_;have HO_138001:=n1_;have HO_151000:=n2_;have BK137:=n3_;have BK138:=n4_;have BK150:=n5_;have HB:=n6_;clear n0_ n1_ n2_ n3_ n4_ n5_ n6_))
               have n0_:=am (Kd.R_drew HO_4.out)
               have n1_:=am (Kd.N_drew HO_138001.out)
               have n2_:=am (Kd.V_drew HO_151000.out)
               have n3_:=am (blk_drew BK137.out)
               have n4_:=am (blk_drew BK138.out)
               have n5_:=am (blk_drew BK150.out)
               have n6_:=am (below_drew1 HB.out)
               clear HO_4 HO_138001 HO_151000 BK137 BK138 BK150 HB
               have HO_4:=n0_
               have HO_138001:=n1_
               have HO_151000:=n2_
               have BK137:=n3_
               have BK138:=n4_
               have BK150:=n5_
               have HB:=n6_
               clear n0_ n1_ n2_ n3_ n4_ n5_ n6_
               obtain⟨Ao66,co66,eo66⟩:=Kd.V_slice HO_151000.out
               (first|subst eo66|(injection eo66 with f1_ f2_ f3_;have f4_:=f1_.symm;have f5_:=f3_.symm;clear f1_ f2_ f3_;subst f4_;subst f5_))
               have p151:0≤(0:Int):=(by omega)
               have q151:0 < (x151000_2.length:Int):=bD_
               obtain⟨ad151,e151,hx151_0⟩:=Kd.at_int (Kd.V_reads' HO_151000.out).2.2 0 p151 q151
               cases e151
               have qi151:(0 < x151000_2.length)=True:=eq_true (by omega)
               (try rw[show((0:Int)).toNat=0 from rfl] at hx151_0)
               (try rw[Addr.add_zero'] at hx151_0)
               replace p151:=eq_true p151
               replace q151:=eq_true q151
               refine start_ (n:=13) (S:=fun w'=>w'.cell? ⟨gb150,0,none⟩=some (.slice (some ad151) x151000_2.length co66)∧w'.cell? ⟨gb150,1,none⟩=some (.int .i64 x151001_2)∧w'.cell? ⟨gb150,2,none⟩=some (.int .i64 x151002_2)∧w'.cell? ad151=some (.int .i64 (rd x151000_2 0))) (ds:=[]) #[false,false,false,false,false,false,false,false,false,false,false,false,false] (by kernel_rfl) rfl rfl ⟨(blk_cell BK150.out 0).trans rfl,(blk_cell BK150.out 1).trans rfl,(blk_cell BK150.out 2).trans rfl,hx151_0⟩ (fun hHeld => ?_);refine with_tabW spec_l14Round.tab9 spec_l14Round.bits9 (fun HT_ HW_ => ?_)
               generalize wr.drew=w65 at HO_4 HO_138001 HO_151000 BK137 BK138 BK150 HB hx151_0 hHeld ⊢
               refine pS HT_ 0 30 ?_;refine tS HT_ HW_ hHeld 1 31 ?_;refine pS HT_ 2 32 ?_;refine pS HT_ 3 33 ?_;refine pS HT_ 4 34 ?_;refine pS HT_ 5 35 ?_;refine pS HT_ 9 39 ?_;refine tS HT_ HW_ hHeld 6 36 ?_;refine pS HT_ 7 37 ?_;refine tS HT_ HW_ hHeld 8 38 ?_;refine tS HT_ HW_ hHeld 10 40 ?_;refine pS HT_ 11 41 ?_;refine pS HT_ 12 42 ?_
               refine done_ (done_of HT_.out (by kernel_rfl)) ?_
               have hnb67:=NB150_137.out
               have hnc67:=NB137_150.out
               have hnb68:=NB150_138.out
               have hnc68:=NB138_150.out
               obtain⟨hcz69_0,hcz69_1,hcz69_2⟩:=cC3 BK150.out
               obtain⟨hfz69_0,hfz69_1,hfz69_2⟩:=cF3 BK150.out
               have hnb70:=NB137_138.out
               have hnc70:=NB138_137.out
               obtain⟨hcz71_0,hcz71_1,hcz71_2⟩:=cC3 BK137.out
               obtain⟨hfz71_0,hfz71_1,hfz71_2⟩:=cF3 BK137.out
               have p64:0≤(x12_1:Int):=bD_
               have q64:(x12_1:Int) < ((x138001_1.length:Int):Int):=bD_
               obtain⟨go64,co64,eo64,gb64,gl64,cl64,HG64⟩:=Kd.N_form HO_138001.out (by omega)
               (first|cases eo64|(injection eo64 with ea_ en_ ec_;(first|subst ea_|(injection ea_ with ea_;subst ea_));subst ec_;clear en_))
               have GB64:=am gb64
               have GG64:=am HG64
               clear gb64 gl64 HG64
               obtain⟨ce64,hcl64,hM64,hcc64,hfr64⟩:=Kd.N_elem HO_138001.out z34 (x12_1:Int) p64 q64
               obtain⟨ua64_0,uc64_0,rfl,ul64_0,ge64_0⟩:=k34_openF hM64
               have hx64_0:w65.cell? ⟨go64,(x12_1:Int).toNat * 3,none⟩=some (.slice ua64_0 ((rd_T34 x138001_1 x12_1).f0).length uc64_0):=hcc64 0 _ rfl
               have hx64_1:w65.cell? ⟨go64,(x12_1:Int).toNat * 3+1,none⟩=some (.int .i64 ((rd_T34 x138001_1 x12_1).f1)):=hcc64 1 _ rfl
               have hx64_2:w65.cell? ⟨go64,(x12_1:Int).toNat * 3+2,none⟩=some (.int .i64 ((rd_T34 x138001_1 x12_1).f2)):=hcc64 2 _ rfl
               have hf64_0:w65.frozen? ⟨go64,(x12_1:Int).toNat * 3,none⟩=false:=hfr64 0
               have hf64_1:w65.frozen? ⟨go64,(x12_1:Int).toNat * 3+1,none⟩=false:=hfr64 1
               have hf64_2:w65.frozen? ⟨go64,(x12_1:Int).toNat * 3+2,none⟩=false:=hfr64 2
               clear hcl64 hcc64 hfr64 hM64
               replace p64:=eq_true p64
               replace q64:=eq_true q64
               have HX72:=am (show Kd.N k34 34 w65 w.heap.size (fun k_=>(w.heap.size≤k_)∧some k_≠(u4:Value).ownBlock∧k_≠gb137∧k_≠gb138∧k_≠gb150) (.slice (some ⟨go64,0,none⟩) x138001_1.length co23) x138001_1 from (by(with_reducible repeat (first|apply Kd.N_alloc|apply Kd.N_drewN|apply Kd.N_drew));exact HO_138001.out))
               obtain⟨ce72,hcl72,hM72,hcc72,hfr72⟩:=Kd.N_elem HX72.out z34 (x12_1:Int) (bD_) (by have h_:(x12_1:Int) < ((x138001_1.length:Int):Int):=bD_;first|exact h_|(have e_:=(Kd.N_reads' HO_138001.out).1;omega)|simpa using h_)
               obtain⟨ua72_0,uc72_0,rfl,ul72_0,ge72_0⟩:=k34_openF hM72
               have HP72:=Kd.N_seg HX72.out (x12_1:Int) (bD_) (by have h_:(x12_1:Int) < ((x138001_1.length:Int):Int):=bD_;first|exact h_|(have e_:=(Kd.N_reads' HO_138001.out).1;omega)|simpa using h_) (seg:=[.slice (some ad151) x151000_2.length co66,.int .i64 x151001_2,.int .i64 x151002_2]) (j:=0) hcl72 hcc72 (show 3≤3 from by decide) (x':=(⟨x151000_2,x151001_2,x151002_2⟩:S34)) (k34_mkF _ _ (⟨x151000_2,x151001_2,x151002_2⟩:S34) (Kd.V_reads' (Kd.V_mono (ok':=(fun k_=>((fun k_=>(w.heap.size≤k_)∧some k_≠(u4:Value).ownBlock∧k_≠gb137∧k_≠gb138∧k_≠gb150)) k_∧k_≠go64)) (HO_151000.out) (fun k_ hk=>⟨⟨hk.1,⟨hk.2.1,⟨hk.2.2.2.1,⟨hk.2.2.2.2.1,hk.2.2.2.2.2⟩⟩⟩⟩,fun e_=>(hk.2.2.1) (by rw[e_];rfl)⟩))).2.1 (Kd.V_F (Kd.V_mono (ok':=(fun k_=>((fun k_=>(w.heap.size≤k_)∧some k_≠(u4:Value).ownBlock∧k_≠gb137∧k_≠gb138∧k_≠gb150)) k_∧k_≠go64)) (HO_151000.out) (fun k_ hk=>⟨⟨hk.1,⟨hk.2.1,⟨hk.2.2.2.1,⟨hk.2.2.2.2.1,hk.2.2.2.2.2⟩⟩⟩⟩,fun e_=>(hk.2.2.1) (by rw[e_];rfl)⟩)))) (fun _ hk=>hk)
               have hx72_0:=hcc72 0 _ rfl
               (try simp only[show(k34).sz=3 from rfl,Nat.mul_one,Nat.add_zero] at hx72_0)
               have hf72_0:=hfr72 0
               (try simp only[show(k34).sz=3 from rfl,Nat.mul_one,Nat.add_zero] at hf72_0)
               have hx72_1:=hcc72 1 _ rfl
               (try simp only[show(k34).sz=3 from rfl,Nat.mul_one,Nat.add_zero] at hx72_1)
               have hf72_1:=hfr72 1
               (try simp only[show(k34).sz=3 from rfl,Nat.mul_one,Nat.add_zero] at hf72_1)
               have hx72_2:=hcc72 2 _ rfl
               (try simp only[show(k34).sz=3 from rfl,Nat.mul_one,Nat.add_zero] at hx72_2)
               have hf72_2:=hfr72 2
               (try simp only[show(k34).sz=3 from rfl,Nat.mul_one,Nat.add_zero] at hf72_2)
               clear hcl72 hcc72 hfr72 hM72
               try go_wp2_with (first|((with_reducible refine gate_store (t:=34) (p:=76) rfl ?_);refine store_event (t:=34) (p:=76) (v:=?vo_w73) (w1:=(((w65.setCell ⟨go64,(x12_1:Int).toNat * 3,none⟩ (.slice (some ad151) x151000_2.length co66)).setCell ⟨go64,(x12_1:Int).toNat * 3+1,none⟩ (.int .i64 x151001_2)).setCell ⟨go64,(x12_1:Int).toNat * 3+2,none⟩ (.int .i64 x151002_2))) ?hg ?ho ?hn ?hr ?_;(case ho=>rfl);(case hg=>rfl);(case hn=>rfl);(case hr=>(try (obtain⟨Aq_,cq_,eq_⟩:=Kd.V_slice HO_151000.out;subst eq_));first|(go_simp;done)|(go_simp;rfl));intro w73 hw;have hg:w65.grownBy w73 (some go64):=(by rw[hw];exact HP72.2);have hp_:Kd.N k34 34 w73 w.heap.size (fun k_=>(w.heap.size≤k_)∧some k_≠(u4:Value).ownBlock∧k_≠gb137∧k_≠gb138∧k_≠gb150) (.slice (some ⟨go64,0,none⟩) x138001_1.length co23) y163:=(by rw[hw,Ny163.out];exact HP72.1);clear HP72;have n0_:=am (Kd.R_over' (v:=(.slice (some ⟨go64,0,none⟩) x138001_1.length co23)) (bK HO_4.out) (Kd.N_typed HO_138001.out) (by decide) hg);have n1_:=am (hp_);have n2_:=am (Kd.V_afterv (v:=(.slice (some ⟨go64,0,none⟩) x138001_1.length co23)) (v1:=(.slice (some ⟨go64,0,none⟩) x138001_1.length co23)) (ok:=(fun k_=>(w.heap.size≤k_)∧some k_≠(u4:Value).ownBlock∧k_≠gb137∧k_≠gb138∧k_≠gb150)) (by(with_reducible repeat (first|apply Kd.V_alloc|apply Kd.V_drewN|apply Kd.V_drew));exact Kd.V_mono HO_151000.out (fun _ hk=>⟨⟨hk.1,⟨hk.2.1,⟨hk.2.2.2.1,⟨hk.2.2.2.2.1,hk.2.2.2.2.2⟩⟩⟩⟩,hk.2.2.1⟩)) hg (.inl rfl));have n3_:=am (blk_grown (g:=gb137) (o:=.cells #[.int .i64 t139,.slice (some ⟨go64,0,none⟩) x138001_1.length co23,.int .i64 t143] 25 (0,0)) (bL BK137.out) hg (Kd.N_ne HO_138001.out BK137.out (by decide)));have n4_:=am (blk_grown (g:=gb138) (o:=.cells #[.int .i64 0,.slice none 0 0,.int .i64 0] 25 (0,0)) (bL BK138.out) hg (Kd.N_ne HO_138001.out BK138.out (by decide)));have n5_:=am (blk_grown (g:=gb150) (o:=.cells #[.slice (some ad151) x151000_2.length co66,.int .i64 x151001_2,.int .i64 x151002_2] 34 (0,0)) (bL BK150.out) hg (Kd.N_away HO_138001.out (fun _ hk=>hk.2.2.2.2)));have n6_:=am ((by rw[hw];exact below_set (below_set (below_set (HB.out) GB64.out) GB64.out) GB64.out:Below w.heap.size w w73));clear HO_4 HO_138001 HO_151000 BK137 BK138 BK150 HB;have HO_4:=n0_;have HO_138001:=n1_;have HO_151000:=n2_;have BK137:=n3_;have BK138:=n4_;have BK150:=n5_;have HB:=n6_;clear n0_ n1_ n2_ n3_ n4_ n5_ n6_;clear hg hw hp_))
               go_roundg k2
               case measure=>have:=HK1.out;have:=HK2.out;omega
               case rel=>exact⟨(x4_2),(wrap64 (x12_1+1)),(y163),(.slice (some ⟨go64,0,none⟩) x138001_1.length co23),(bR),H',⟨by have:=HK1.out;have:=HK2.out;omega⟩,⟨by(with_reducible repeat (first|apply Kd.R_alloc|apply Kd.R_drewN|apply Kd.R_drew));exact HO_4.out⟩,⟨by(with_reducible repeat (first|apply Kd.N_alloc|apply Kd.N_drewN|apply Kd.N_drew));exact Kd.N_mono HO_138001.out (fun _ hk=>⟨hk.1,⟨hk.2.1,⟨hk.2.2.1,hk.2.2.2.1⟩⟩⟩)⟩,⟨by(with_reducible repeat (first|refine blk_drewN ?_ _|refine blk_drew ?_|refine blk_alloc ?_ _));exact BK137.out⟩,⟨by(with_reducible repeat (first|refine blk_drewN ?_ _|refine blk_drew ?_|refine blk_alloc ?_ _));exact BK138.out⟩,⟨bS3 GE137.out GE138.out GE150.out⟩⟩
              ·rw[if_neg c63] at H
               exact absurd H (by simp)
             ·rw[if_neg c62] at H
              exact absurd H (by simp)
          ·rw[if_neg c30] at H
           exact absurd H (by simp)
         ·rw[if_neg c29] at H
          have c29b0:decide (0 < (x151000_2.length:Int))=false:=decide_eq_false c29
          have c29b1:decide (0 < x151000_2.length)=false:=decide_eq_false (by omega)
          clear c29
          by_cases c74:(x151000_2.length:Int)=0
          ·rw[if_pos c74] at H
           have c74b0:((x151000_2.length:Int) == 0)=true:=beq_iff_eq.mpr c74
           have c74b1:((x151000_2.length:Int) != 0)=false:=bne_eq_false_iff_eq.mpr c74
           clear c74
           by_cases c75:0≤x12_1
           ·rw[if_pos c75] at H
            have c75b0:decide (0≤x12_1)=true:=decide_eq_true c75
            clear c75
            by_cases c76:x12_1 < (x138001_1.length:Int)
            ·rw[if_pos c76] at H
             have c76b0:decide (x12_1 < (x138001_1.length:Int))=true:=decide_eq_true c76
             clear c76
             obtain⟨y164,hy164⟩ : ∃ y_:List (S34),y_=(x138001_1.set (x12_1:Int).toNat (⟨x151000_2,0,x151002_2⟩:S34)):=⟨_,rfl⟩
             replace H:(spec_l14Round.l0 k2 x4_2 (t140.length:Int) (wrap64 (x12_1+1)) t139 y164 t143)=some (r1,r2,r3,r4):=by first|(rw[hy164];with_reducible exact H)|(have H2_:=(Option.bind_some _ _).symm.trans H;rw[hy164];with_reducible exact H2_)|(have H2_:=(Option.bind_some _ _).symm.trans H;with_reducible exact H2_)|with_reducible exact H|(rw[hy164];exact H)|exact H
             have Ny164:=am hy164
             clear hy164
             have H':=am H
             clear H
             try go_wp2
             (try (rw[drewN_self wr];generalize hq_:World.drewN wr _=wr;have n0_:=am (Kd.R_at hq_ HO_4.out);have n1_:=am (Kd.N_at hq_ HO_138001.out);have n2_:=am (Kd.V_at hq_ HO_151000.out);have n3_:=am (blk_at hq_ BK137.out);have n4_:=am (blk_at hq_ BK138.out);have n5_:=am (blk_at hq_ BK150.out);have n6_:=am (below_at hq_ HB.out);clear hq_ HO_4 HO_138001 HO_151000 BK137 BK138 BK150 HB;have HO_4:=n0_;have HO_138001:=n1_;have HO_151000:=n2_;have BK137:=n3_;have BK138:=n4_;have BK150:=n5_;have HB:=n6_;clear n0_ n1_ n2_ n3_ n4_ n5_ n6_))
             have n0_:=am (Kd.R_drew HO_4.out)
             have n1_:=am (Kd.N_drew HO_138001.out)
             have n2_:=am (Kd.V_drew HO_151000.out)
             have n3_:=am (blk_drew BK137.out)
             have n4_:=am (blk_drew BK138.out)
             have n5_:=am (blk_drew BK150.out)
             have n6_:=am (below_drew1 HB.out)
             clear HO_4 HO_138001 HO_151000 BK137 BK138 BK150 HB
             have HO_4:=n0_
             have HO_138001:=n1_
             have HO_151000:=n2_
             have BK137:=n3_
             have BK138:=n4_
             have BK150:=n5_
             have HB:=n6_
             clear n0_ n1_ n2_ n3_ n4_ n5_ n6_
             obtain⟨Ao79,co79,eo79⟩:=Kd.V_slice HO_151000.out
             (first|subst eo79|(injection eo79 with f1_ f2_ f3_;have f4_:=f1_.symm;have f5_:=f3_.symm;clear f1_ f2_ f3_;subst f4_;subst f5_))
             refine start_ (n:=13) (S:=fun w'=>w'.cell? ⟨gb150,0,none⟩=some (.slice Ao79 x151000_2.length co79)∧w'.cell? ⟨gb150,1,none⟩=some (.int .i64 x151001_2)∧w'.cell? ⟨gb150,2,none⟩=some (.int .i64 x151002_2)) (ds:=[]) #[false,false,false,false,false,false,false,false,false,false,false,false,false] (by kernel_rfl) rfl rfl (cC3 BK150.out) (fun hHeld => ?_);refine with_tabW spec_l14Round.tab9 spec_l14Round.bits9 (fun HT_ HW_ => ?_)
             generalize wr.drew=w78 at HO_4 HO_138001 HO_151000 BK137 BK138 BK150 HB hHeld ⊢
             refine pS HT_ 0 30 ?_;refine tS HT_ HW_ hHeld 1 31 ?_;refine pS HT_ 2 32 ?_;refine pS HT_ 3 33 ?_;refine pS HT_ 4 34 ?_;refine uS HT_ 5 35 ?_;refine uS HT_ 6 36 ?_;refine uS HT_ 7 37 ?_;refine uS HT_ 8 38 ?_;refine uS HT_ 9 39 ?_;refine uS HT_ 10 40 ?_;refine uS HT_ 11 41 ?_;refine pS HT_ 12 42 ?_
             refine done_ (done_of HT_.out (by kernel_rfl)) ?_
             have hnb80:=NB150_137.out
             have hnc80:=NB137_150.out
             have hnb81:=NB150_138.out
             have hnc81:=NB138_150.out
             obtain⟨hcz82_0,hcz82_1,hcz82_2⟩:=cC3 BK150.out
             obtain⟨hfz82_0,hfz82_1,hfz82_2⟩:=cF3 BK150.out
             try go_wp2_with (first|((with_reducible refine gate_store (t:=3) (p:=71) rfl ?_);refine store_event (t:=3) (p:=71) (v:=?vo_w83) (w1:=(w78.setCell ⟨gb150,1,none⟩ (.int .i64 0))) ?hg ?ho ?hn ?hr ?_;(case ho=>rfl);(case hg=>rfl);(case hn=>rfl);(case hr=>first|(go_simp;done)|(go_simp;rfl));intro w83 hw;have n0_:Aside0 (Kd.R (Kd.int .i64) 3 w83 w.heap.size (fun k_=>(w.heap.size≤k_)) u4 x4_2):=⟨(by rw[hw];exact(by(with_reducible repeat (first|apply Kd.R_alloc|apply Kd.R_drewN|apply Kd.R_drew));exact Kd.R_mono (Kd.R_far (p:=⟨gb150,1,none⟩) (Kd.R_types HO_4.out BK150.out (by decide)) (fun _ hk=>hk.2) (.int .i64 0)) (fun _ hk=>hk.1)))⟩;have n1_:Aside0 (Kd.N k34 34 w83 w.heap.size (fun k_=>(w.heap.size≤k_)∧some k_≠(u4:Value).ownBlock∧k_≠gb137∧k_≠gb138∧k_≠gb150) (.slice (some ad149) x138001_1.length co23) x138001_1):=⟨(by rw[hw];exact(by(with_reducible repeat (first|apply Kd.N_alloc|apply Kd.N_drewN|apply Kd.N_drew));exact Kd.N_mono (Kd.N_far (p:=⟨gb150,1,none⟩) (Kd.N_mono HO_138001.out (fun k_ hk=>(⟨hk,hk.2.2.2.2⟩:_∧k_≠gb150))) (fun _ hk=>hk.2) (.int .i64 0)) (fun _ hk=>⟨hk.1.1,⟨hk.1.2.1,⟨hk.1.2.2.1,⟨hk.1.2.2.2.1,hk.1.2.2.2.2⟩⟩⟩⟩)))⟩;have n2_:Aside0 (Kd.V (Kd.int .i64) 3 w83 w.heap.size (fun k_=>(w.heap.size≤k_)∧some k_≠(u4:Value).ownBlock∧some k_≠(.slice (some ad149) x138001_1.length co23:Value).ownBlock∧k_≠gb137∧k_≠gb138∧k_≠gb150) (.slice Ao79 x151000_2.length co79) x151000_2):=⟨(by rw[hw];exact(by(with_reducible repeat (first|apply Kd.V_alloc|apply Kd.V_drewN|apply Kd.V_drew));exact Kd.V_mono (Kd.V_far (p:=⟨gb150,1,none⟩) (Kd.V_mono HO_151000.out (fun k_ hk=>(⟨hk,hk.2.2.2.2.2⟩:_∧k_≠gb150))) (fun _ hk=>hk.2) (.int .i64 0)) (fun _ hk=>⟨hk.1.1,⟨hk.1.2.1,⟨hk.1.2.2.1,⟨hk.1.2.2.2.1,⟨hk.1.2.2.2.2.1,hk.1.2.2.2.2.2⟩⟩⟩⟩⟩)))⟩;have n3_:Aside0 (w83.heap[gb137]?=some (.cells #[.int .i64 t139,.slice (some ad149) x138001_1.length co23,.int .i64 t143] 25 (0,0))):=⟨(by rw[hw];exact(by(with_reducible repeat (first|refine blk_drewN ?_ _|refine blk_drew ?_|refine blk_alloc ?_ _));refine blk_far ?_ NB137_150.out _;(with_reducible repeat (first|refine blk_drewN ?_ _|refine blk_drew ?_|refine blk_alloc ?_ _));exact BK137.out))⟩;have n4_:Aside0 (w83.heap[gb138]?=some (.cells #[.int .i64 0,.slice none 0 0,.int .i64 0] 25 (0,0))):=⟨(by rw[hw];exact(by(with_reducible repeat (first|refine blk_drewN ?_ _|refine blk_drew ?_|refine blk_alloc ?_ _));refine blk_far ?_ NB138_150.out _;(with_reducible repeat (first|refine blk_drewN ?_ _|refine blk_drew ?_|refine blk_alloc ?_ _));exact BK138.out))⟩;have n5_:Aside0 (w83.heap[gb150]?=some (.cells #[.slice Ao79 x151000_2.length co79,.int .i64 0,.int .i64 x151002_2] 34 (0,0))):=⟨(by rw[hw];exact(by(with_reducible repeat (first|refine blk_drewN ?_ _|refine blk_drew ?_|refine blk_alloc ?_ _));refine blk_put (cs:=#[.slice Ao79 x151000_2.length co79,.int .i64 x151001_2,.int .i64 x151002_2]) ?_ 1 _ rfl;(with_reducible repeat (first|refine blk_drewN ?_ _|refine blk_drew ?_|refine blk_alloc ?_ _));exact BK150.out))⟩;have n6_:Aside0 (Below w.heap.size w w83):=⟨(by rw[hw];exact(bS3 GE137.out GE138.out GE150.out))⟩;clear hw HO_4 HO_138001 HO_151000 BK137 BK138 BK150 HB;have HO_4:=n0_;have HO_138001:=n1_;have HO_151000:=n2_;have BK137:=n3_;have BK138:=n4_;have BK150:=n5_;have HB:=n6_;clear n0_ n1_ n2_ n3_ n4_ n5_ n6_;have hnb84:=NB137_138.out;have hnc84:=NB138_137.out;obtain⟨hcz85_0,hcz85_1,hcz85_2⟩:=cC3 BK137.out;obtain⟨hfz85_0,hfz85_1,hfz85_2⟩:=cF3 BK137.out;obtain⟨hcz86_0,hcz86_1,hcz86_2⟩:=cC3 BK150.out;obtain⟨hfz86_0,hfz86_1,hfz86_2⟩:=cF3 BK150.out;have p77:0≤(x12_1:Int):=bD_;have q77:(x12_1:Int) < ((x138001_1.length:Int):Int):=bD_;obtain⟨go77,co77,eo77,gb77,gl77,cl77,HG77⟩:=Kd.N_form HO_138001.out (by omega);(first|cases eo77|(injection eo77 with ea_ en_ ec_;(first|subst ea_|(injection ea_ with ea_;subst ea_));subst ec_;clear en_));have GB77:=am gb77;have GG77:=am HG77;clear gb77 gl77 HG77;obtain⟨ce77,hcl77,hM77,hcc77,hfr77⟩:=Kd.N_elem HO_138001.out z34 (x12_1:Int) p77 q77;obtain⟨ua77_0,uc77_0,rfl,ul77_0,ge77_0⟩:=k34_openF hM77;have hx77_0:w83.cell? ⟨go77,(x12_1:Int).toNat * 3,none⟩=some (.slice ua77_0 ((rd_T34 x138001_1 x12_1).f0).length uc77_0):=hcc77 0 _ rfl;have hx77_1:w83.cell? ⟨go77,(x12_1:Int).toNat * 3+1,none⟩=some (.int .i64 ((rd_T34 x138001_1 x12_1).f1)):=hcc77 1 _ rfl;have hx77_2:w83.cell? ⟨go77,(x12_1:Int).toNat * 3+2,none⟩=some (.int .i64 ((rd_T34 x138001_1 x12_1).f2)):=hcc77 2 _ rfl;have hf77_0:w83.frozen? ⟨go77,(x12_1:Int).toNat * 3,none⟩=false:=hfr77 0;have hf77_1:w83.frozen? ⟨go77,(x12_1:Int).toNat * 3+1,none⟩=false:=hfr77 1;have hf77_2:w83.frozen? ⟨go77,(x12_1:Int).toNat * 3+2,none⟩=false:=hfr77 2;clear hcl77 hcc77 hfr77 hM77;replace p77:=eq_true p77;replace q77:=eq_true q77;have HX87:=am (show Kd.N k34 34 w83 w.heap.size (fun k_=>(w.heap.size≤k_)∧some k_≠(u4:Value).ownBlock∧k_≠gb137∧k_≠gb138∧k_≠gb150) (.slice (some ⟨go77,0,none⟩) x138001_1.length co23) x138001_1 from (by(with_reducible repeat (first|apply Kd.N_alloc|apply Kd.N_drewN|apply Kd.N_drew));exact HO_138001.out));obtain⟨ce87,hcl87,hM87,hcc87,hfr87⟩:=Kd.N_elem HX87.out z34 (x12_1:Int) (bD_) (by have h_:(x12_1:Int) < ((x138001_1.length:Int):Int):=bD_;first|exact h_|(have e_:=(Kd.N_reads' HO_138001.out).1;omega)|simpa using h_);obtain⟨ua87_0,uc87_0,rfl,ul87_0,ge87_0⟩:=k34_openF hM87;have HP87:=Kd.N_seg HX87.out (x12_1:Int) (bD_) (by have h_:(x12_1:Int) < ((x138001_1.length:Int):Int):=bD_;first|exact h_|(have e_:=(Kd.N_reads' HO_138001.out).1;omega)|simpa using h_) (seg:=[.slice Ao79 x151000_2.length co79,.int .i64 0,.int .i64 x151002_2]) (j:=0) hcl87 hcc87 (show 3≤3 from by decide) (x':=(⟨x151000_2,0,x151002_2⟩:S34)) (k34_mkF _ _ (⟨x151000_2,0,x151002_2⟩:S34) (Kd.V_reads' (Kd.V_mono (ok':=(fun k_=>((fun k_=>(w.heap.size≤k_)∧some k_≠(u4:Value).ownBlock∧k_≠gb137∧k_≠gb138∧k_≠gb150)) k_∧k_≠go77)) (HO_151000.out) (fun k_ hk=>⟨⟨hk.1,⟨hk.2.1,⟨hk.2.2.2.1,⟨hk.2.2.2.2.1,hk.2.2.2.2.2⟩⟩⟩⟩,fun e_=>(hk.2.2.1) (by rw[e_];rfl)⟩))).2.1 (Kd.V_F (Kd.V_mono (ok':=(fun k_=>((fun k_=>(w.heap.size≤k_)∧some k_≠(u4:Value).ownBlock∧k_≠gb137∧k_≠gb138∧k_≠gb150)) k_∧k_≠go77)) (HO_151000.out) (fun k_ hk=>⟨⟨hk.1,⟨hk.2.1,⟨hk.2.2.2.1,⟨hk.2.2.2.2.1,hk.2.2.2.2.2⟩⟩⟩⟩,fun e_=>(hk.2.2.1) (by rw[e_];rfl)⟩)))) (fun _ hk=>hk);have hx87_0:=hcc87 0 _ rfl;(try simp only[show(k34).sz=3 from rfl,Nat.mul_one,Nat.add_zero] at hx87_0);have hf87_0:=hfr87 0;(try simp only[show(k34).sz=3 from rfl,Nat.mul_one,Nat.add_zero] at hf87_0);have hx87_1:=hcc87 1 _ rfl;(try simp only[show(k34).sz=3 from rfl,Nat.mul_one,Nat.add_zero] at hx87_1);have hf87_1:=hfr87 1;(try simp only[show(k34).sz=3 from rfl,Nat.mul_one,Nat.add_zero] at hf87_1);have hx87_2:=hcc87 2 _ rfl;(try simp only[show(k34).sz=3 from rfl,Nat.mul_one,Nat.add_zero] at hx87_2);have hf87_2:=hfr87 2;(try simp only[show(k34).sz=3 from rfl,Nat.mul_one,Nat.add_zero] at hf87_2);clear hcl87 hcc87 hfr87 hM87)|((with_reducible refine gate_store (t:=34) (p:=76) rfl ?_);refine store_event (t:=34) (p:=76) (v:=?vo_w88) (w1:=(((w83.setCell ⟨go77,(x12_1:Int).toNat * 3,none⟩ (.slice Ao79 x151000_2.length co79)).setCell ⟨go77,(x12_1:Int).toNat * 3+1,none⟩ (.int .i64 0)).setCell ⟨go77,(x12_1:Int).toNat * 3+2,none⟩ (.int .i64 x151002_2))) ?hg ?ho ?hn ?hr ?_;(case ho=>rfl);(case hg=>rfl);(case hn=>rfl);(case hr=>(try (obtain⟨Aq_,cq_,eq_⟩:=Kd.V_slice HO_151000.out;subst eq_));first|(go_simp;done)|(go_simp;rfl));intro w88 hw;have hg:w83.grownBy w88 (some go77):=(by rw[hw];exact HP87.2);have hp_:Kd.N k34 34 w88 w.heap.size (fun k_=>(w.heap.size≤k_)∧some k_≠(u4:Value).ownBlock∧k_≠gb137∧k_≠gb138∧k_≠gb150) (.slice (some ⟨go77,0,none⟩) x138001_1.length co23) y164:=(by rw[hw,Ny164.out];exact HP87.1);clear HP87;have n0_:=am (Kd.R_over' (v:=(.slice (some ⟨go77,0,none⟩) x138001_1.length co23)) (bK HO_4.out) (Kd.N_typed HO_138001.out) (by decide) hg);have n1_:=am (hp_);have n2_:=am (Kd.V_afterv (v:=(.slice (some ⟨go77,0,none⟩) x138001_1.length co23)) (v1:=(.slice (some ⟨go77,0,none⟩) x138001_1.length co23)) (ok:=(fun k_=>(w.heap.size≤k_)∧some k_≠(u4:Value).ownBlock∧k_≠gb137∧k_≠gb138∧k_≠gb150)) (by(with_reducible repeat (first|apply Kd.V_alloc|apply Kd.V_drewN|apply Kd.V_drew));exact Kd.V_mono HO_151000.out (fun _ hk=>⟨⟨hk.1,⟨hk.2.1,⟨hk.2.2.2.1,⟨hk.2.2.2.2.1,hk.2.2.2.2.2⟩⟩⟩⟩,hk.2.2.1⟩)) hg (.inl rfl));have n3_:=am (blk_grown (g:=gb137) (o:=.cells #[.int .i64 t139,.slice (some ⟨go77,0,none⟩) x138001_1.length co23,.int .i64 t143] 25 (0,0)) (bL BK137.out) hg (Kd.N_ne HO_138001.out BK137.out (by decide)));have n4_:=am (blk_grown (g:=gb138) (o:=.cells #[.int .i64 0,.slice none 0 0,.int .i64 0] 25 (0,0)) (bL BK138.out) hg (Kd.N_ne HO_138001.out BK138.out (by decide)));have n5_:=am (blk_grown (g:=gb150) (o:=.cells #[.slice Ao79 x151000_2.length co79,.int .i64 0,.int .i64 x151002_2] 34 (0,0)) (bL BK150.out) hg (Kd.N_away HO_138001.out (fun _ hk=>hk.2.2.2.2)));have n6_:=am ((by rw[hw];exact below_set (below_set (below_set (HB.out) GB77.out) GB77.out) GB77.out:Below w.heap.size w w88));clear HO_4 HO_138001 HO_151000 BK137 BK138 BK150 HB;have HO_4:=n0_;have HO_138001:=n1_;have HO_151000:=n2_;have BK137:=n3_;have BK138:=n4_;have BK150:=n5_;have HB:=n6_;clear n0_ n1_ n2_ n3_ n4_ n5_ n6_;clear hg hw hp_))
             go_roundg k2
             case measure=>have:=HK1.out;have:=HK2.out;omega
             case rel=>exact⟨(x4_2),(wrap64 (x12_1+1)),(y164),(.slice (some ⟨go77,0,none⟩) x138001_1.length co23),(bR),H',⟨by have:=HK1.out;have:=HK2.out;omega⟩,⟨by(with_reducible repeat (first|apply Kd.R_alloc|apply Kd.R_drewN|apply Kd.R_drew));exact HO_4.out⟩,⟨by(with_reducible repeat (first|apply Kd.N_alloc|apply Kd.N_drewN|apply Kd.N_drew));exact Kd.N_mono HO_138001.out (fun _ hk=>⟨hk.1,⟨hk.2.1,⟨hk.2.2.1,hk.2.2.2.1⟩⟩⟩)⟩,⟨by(with_reducible repeat (first|refine blk_drewN ?_ _|refine blk_drew ?_|refine blk_alloc ?_ _));exact BK137.out⟩,⟨by(with_reducible repeat (first|refine blk_drewN ?_ _|refine blk_drew ?_|refine blk_alloc ?_ _));exact BK138.out⟩,⟨bS3 GE137.out GE138.out GE150.out⟩⟩
            ·rw[if_neg c76] at H
             exact absurd H (by simp)
           ·rw[if_neg c75] at H
            exact absurd H (by simp)
          ·rw[if_neg c74] at H
           have c74b0:((x151000_2.length:Int) == 0)=false:=beq_eq_false_iff_ne.mpr c74
           have c74b1:((x151000_2.length:Int) != 0)=true:=bne_iff_ne.mpr c74
           have c74b2 : ¬ (x151000_2=[]):=fun h_=>c74 (by rw[h_];rfl)
           by_cases c89:0≤x12_1
           ·rw[if_pos c89] at H
            have c89b0:decide (0≤x12_1)=true:=decide_eq_true c89
            clear c89
            by_cases c90:x12_1 < (x138001_1.length:Int)
            ·rw[if_pos c90] at H
             have c90b0:decide (x12_1 < (x138001_1.length:Int))=true:=decide_eq_true c90
             clear c90
             obtain⟨y165,hy165⟩ : ∃ y_:List (S34),y_=(x138001_1.set (x12_1:Int).toNat (⟨x151000_2,x151001_2,x151002_2⟩:S34)):=⟨_,rfl⟩
             replace H:(spec_l14Round.l0 k2 x4_2 (t140.length:Int) (wrap64 (x12_1+1)) t139 y165 t143)=some (r1,r2,r3,r4):=by first|(rw[hy165];with_reducible exact H)|(have H2_:=(Option.bind_some _ _).symm.trans H;rw[hy165];with_reducible exact H2_)|(have H2_:=(Option.bind_some _ _).symm.trans H;with_reducible exact H2_)|with_reducible exact H|(rw[hy165];exact H)|exact H
             have Ny165:=am hy165
             clear hy165
             have H':=am H
             clear H
             try go_wp2
             (try (rw[drewN_self wr];generalize hq_:World.drewN wr _=wr;have n0_:=am (Kd.R_at hq_ HO_4.out);have n1_:=am (Kd.N_at hq_ HO_138001.out);have n2_:=am (Kd.V_at hq_ HO_151000.out);have n3_:=am (blk_at hq_ BK137.out);have n4_:=am (blk_at hq_ BK138.out);have n5_:=am (blk_at hq_ BK150.out);have n6_:=am (below_at hq_ HB.out);clear hq_ HO_4 HO_138001 HO_151000 BK137 BK138 BK150 HB;have HO_4:=n0_;have HO_138001:=n1_;have HO_151000:=n2_;have BK137:=n3_;have BK138:=n4_;have BK150:=n5_;have HB:=n6_;clear n0_ n1_ n2_ n3_ n4_ n5_ n6_))
             have n0_:=am (Kd.R_drew HO_4.out)
             have n1_:=am (Kd.N_drew HO_138001.out)
             have n2_:=am (Kd.V_drew HO_151000.out)
             have n3_:=am (blk_drew BK137.out)
             have n4_:=am (blk_drew BK138.out)
             have n5_:=am (blk_drew BK150.out)
             have n6_:=am (below_drew1 HB.out)
             clear HO_4 HO_138001 HO_151000 BK137 BK138 BK150 HB
             have HO_4:=n0_
             have HO_138001:=n1_
             have HO_151000:=n2_
             have BK137:=n3_
             have BK138:=n4_
             have BK150:=n5_
             have HB:=n6_
             clear n0_ n1_ n2_ n3_ n4_ n5_ n6_
             obtain⟨Ao93,co93,eo93⟩:=Kd.V_slice HO_151000.out
             (first|subst eo93|(injection eo93 with f1_ f2_ f3_;have f4_:=f1_.symm;have f5_:=f3_.symm;clear f1_ f2_ f3_;subst f4_;subst f5_))
             refine start_ (n:=13) (S:=fun w'=>w'.cell? ⟨gb150,0,none⟩=some (.slice Ao93 x151000_2.length co93)∧w'.cell? ⟨gb150,1,none⟩=some (.int .i64 x151001_2)∧w'.cell? ⟨gb150,2,none⟩=some (.int .i64 x151002_2)) (ds:=[]) #[false,false,false,false,false,false,false,false,false,false,false,false,false] (by kernel_rfl) rfl rfl (cC3 BK150.out) (fun hHeld => ?_);refine with_tabW spec_l14Round.tab9 spec_l14Round.bits9 (fun HT_ HW_ => ?_)
             generalize wr.drew=w92 at HO_4 HO_138001 HO_151000 BK137 BK138 BK150 HB hHeld ⊢
             refine pS HT_ 0 30 ?_;refine tS HT_ HW_ hHeld 1 31 ?_;refine pS HT_ 2 32 ?_;refine pS HT_ 3 33 ?_;refine pS HT_ 4 34 ?_;refine uS HT_ 5 35 ?_;refine uS HT_ 6 36 ?_;refine uS HT_ 7 37 ?_;refine uS HT_ 8 38 ?_;refine uS HT_ 9 39 ?_;refine uS HT_ 10 40 ?_;refine uS HT_ 11 41 ?_;refine pS HT_ 12 42 ?_
             refine done_ (done_of HT_.out (by kernel_rfl)) ?_
             have hnb94:=NB150_137.out
             have hnc94:=NB137_150.out
             have hnb95:=NB150_138.out
             have hnc95:=NB138_150.out
             obtain⟨hcz96_0,hcz96_1,hcz96_2⟩:=cC3 BK150.out
             obtain⟨hfz96_0,hfz96_1,hfz96_2⟩:=cF3 BK150.out
             have hnb97:=NB137_138.out
             have hnc97:=NB138_137.out
             obtain⟨hcz98_0,hcz98_1,hcz98_2⟩:=cC3 BK137.out
             obtain⟨hfz98_0,hfz98_1,hfz98_2⟩:=cF3 BK137.out
             have p91:0≤(x12_1:Int):=bD_
             have q91:(x12_1:Int) < ((x138001_1.length:Int):Int):=bD_
             obtain⟨go91,co91,eo91,gb91,gl91,cl91,HG91⟩:=Kd.N_form HO_138001.out (by omega)
             (first|cases eo91|(injection eo91 with ea_ en_ ec_;(first|subst ea_|(injection ea_ with ea_;subst ea_));subst ec_;clear en_))
             have GB91:=am gb91
             have GG91:=am HG91
             clear gb91 gl91 HG91
             obtain⟨ce91,hcl91,hM91,hcc91,hfr91⟩:=Kd.N_elem HO_138001.out z34 (x12_1:Int) p91 q91
             obtain⟨ua91_0,uc91_0,rfl,ul91_0,ge91_0⟩:=k34_openF hM91
             have hx91_0:w92.cell? ⟨go91,(x12_1:Int).toNat * 3,none⟩=some (.slice ua91_0 ((rd_T34 x138001_1 x12_1).f0).length uc91_0):=hcc91 0 _ rfl
             have hx91_1:w92.cell? ⟨go91,(x12_1:Int).toNat * 3+1,none⟩=some (.int .i64 ((rd_T34 x138001_1 x12_1).f1)):=hcc91 1 _ rfl
             have hx91_2:w92.cell? ⟨go91,(x12_1:Int).toNat * 3+2,none⟩=some (.int .i64 ((rd_T34 x138001_1 x12_1).f2)):=hcc91 2 _ rfl
             have hf91_0:w92.frozen? ⟨go91,(x12_1:Int).toNat * 3,none⟩=false:=hfr91 0
             have hf91_1:w92.frozen? ⟨go91,(x12_1:Int).toNat * 3+1,none⟩=false:=hfr91 1
             have hf91_2:w92.frozen? ⟨go91,(x12_1:Int).toNat * 3+2,none⟩=false:=hfr91 2
             clear hcl91 hcc91 hfr91 hM91
             replace p91:=eq_true p91
             replace q91:=eq_true q91
             have HX99:=am (show Kd.N k34 34 w92 w.heap.size (fun k_=>(w.heap.size≤k_)∧some k_≠(u4:Value).ownBlock∧k_≠gb137∧k_≠gb138∧k_≠gb150) (.slice (some ⟨go91,0,none⟩) x138001_1.length co23) x138001_1 from (by(with_reducible repeat (first|apply Kd.N_alloc|apply Kd.N_drewN|apply Kd.N_drew));exact HO_138001.out))
             obtain⟨ce99,hcl99,hM99,hcc99,hfr99⟩:=Kd.N_elem HX99.out z34 (x12_1:Int) (bD_) (by have h_:(x12_1:Int) < ((x138001_1.length:Int):Int):=bD_;first|exact h_|(have e_:=(Kd.N_reads' HO_138001.out).1;omega)|simpa using h_)
             obtain⟨ua99_0,uc99_0,rfl,ul99_0,ge99_0⟩:=k34_openF hM99
             have HP99:=Kd.N_seg HX99.out (x12_1:Int) (bD_) (by have h_:(x12_1:Int) < ((x138001_1.length:Int):Int):=bD_;first|exact h_|(have e_:=(Kd.N_reads' HO_138001.out).1;omega)|simpa using h_) (seg:=[.slice Ao93 x151000_2.length co93,.int .i64 x151001_2,.int .i64 x151002_2]) (j:=0) hcl99 hcc99 (show 3≤3 from by decide) (x':=(⟨x151000_2,x151001_2,x151002_2⟩:S34)) (k34_mkF _ _ (⟨x151000_2,x151001_2,x151002_2⟩:S34) (Kd.V_reads' (Kd.V_mono (ok':=(fun k_=>((fun k_=>(w.heap.size≤k_)∧some k_≠(u4:Value).ownBlock∧k_≠gb137∧k_≠gb138∧k_≠gb150)) k_∧k_≠go91)) (HO_151000.out) (fun k_ hk=>⟨⟨hk.1,⟨hk.2.1,⟨hk.2.2.2.1,⟨hk.2.2.2.2.1,hk.2.2.2.2.2⟩⟩⟩⟩,fun e_=>(hk.2.2.1) (by rw[e_];rfl)⟩))).2.1 (Kd.V_F (Kd.V_mono (ok':=(fun k_=>((fun k_=>(w.heap.size≤k_)∧some k_≠(u4:Value).ownBlock∧k_≠gb137∧k_≠gb138∧k_≠gb150)) k_∧k_≠go91)) (HO_151000.out) (fun k_ hk=>⟨⟨hk.1,⟨hk.2.1,⟨hk.2.2.2.1,⟨hk.2.2.2.2.1,hk.2.2.2.2.2⟩⟩⟩⟩,fun e_=>(hk.2.2.1) (by rw[e_];rfl)⟩)))) (fun _ hk=>hk)
             have hx99_0:=hcc99 0 _ rfl
             (try simp only[show(k34).sz=3 from rfl,Nat.mul_one,Nat.add_zero] at hx99_0)
             have hf99_0:=hfr99 0
             (try simp only[show(k34).sz=3 from rfl,Nat.mul_one,Nat.add_zero] at hf99_0)
             have hx99_1:=hcc99 1 _ rfl
             (try simp only[show(k34).sz=3 from rfl,Nat.mul_one,Nat.add_zero] at hx99_1)
             have hf99_1:=hfr99 1
             (try simp only[show(k34).sz=3 from rfl,Nat.mul_one,Nat.add_zero] at hf99_1)
             have hx99_2:=hcc99 2 _ rfl
             (try simp only[show(k34).sz=3 from rfl,Nat.mul_one,Nat.add_zero] at hx99_2)
             have hf99_2:=hfr99 2
             (try simp only[show(k34).sz=3 from rfl,Nat.mul_one,Nat.add_zero] at hf99_2)
             clear hcl99 hcc99 hfr99 hM99
             try go_wp2_with (first|((with_reducible refine gate_store (t:=34) (p:=76) rfl ?_);refine store_event (t:=34) (p:=76) (v:=?vo_w100) (w1:=(((w92.setCell ⟨go91,(x12_1:Int).toNat * 3,none⟩ (.slice Ao93 x151000_2.length co93)).setCell ⟨go91,(x12_1:Int).toNat * 3+1,none⟩ (.int .i64 x151001_2)).setCell ⟨go91,(x12_1:Int).toNat * 3+2,none⟩ (.int .i64 x151002_2))) ?hg ?ho ?hn ?hr ?_;(case ho=>rfl);(case hg=>rfl);(case hn=>rfl);(case hr=>(try (obtain⟨Aq_,cq_,eq_⟩:=Kd.V_slice HO_151000.out;subst eq_));first|(go_simp;done)|(go_simp;rfl));intro w100 hw;have hg:w92.grownBy w100 (some go91):=(by rw[hw];exact HP99.2);have hp_:Kd.N k34 34 w100 w.heap.size (fun k_=>(w.heap.size≤k_)∧some k_≠(u4:Value).ownBlock∧k_≠gb137∧k_≠gb138∧k_≠gb150) (.slice (some ⟨go91,0,none⟩) x138001_1.length co23) y165:=(by rw[hw,Ny165.out];exact HP99.1);clear HP99;have n0_:=am (Kd.R_over' (v:=(.slice (some ⟨go91,0,none⟩) x138001_1.length co23)) (bK HO_4.out) (Kd.N_typed HO_138001.out) (by decide) hg);have n1_:=am (hp_);have n2_:=am (Kd.V_afterv (v:=(.slice (some ⟨go91,0,none⟩) x138001_1.length co23)) (v1:=(.slice (some ⟨go91,0,none⟩) x138001_1.length co23)) (ok:=(fun k_=>(w.heap.size≤k_)∧some k_≠(u4:Value).ownBlock∧k_≠gb137∧k_≠gb138∧k_≠gb150)) (by(with_reducible repeat (first|apply Kd.V_alloc|apply Kd.V_drewN|apply Kd.V_drew));exact Kd.V_mono HO_151000.out (fun _ hk=>⟨⟨hk.1,⟨hk.2.1,⟨hk.2.2.2.1,⟨hk.2.2.2.2.1,hk.2.2.2.2.2⟩⟩⟩⟩,hk.2.2.1⟩)) hg (.inl rfl));have n3_:=am (blk_grown (g:=gb137) (o:=.cells #[.int .i64 t139,.slice (some ⟨go91,0,none⟩) x138001_1.length co23,.int .i64 t143] 25 (0,0)) (bL BK137.out) hg (Kd.N_ne HO_138001.out BK137.out (by decide)));have n4_:=am (blk_grown (g:=gb138) (o:=.cells #[.int .i64 0,.slice none 0 0,.int .i64 0] 25 (0,0)) (bL BK138.out) hg (Kd.N_ne HO_138001.out BK138.out (by decide)));have n5_:=am (blk_grown (g:=gb150) (o:=.cells #[.slice Ao93 x151000_2.length co93,.int .i64 x151001_2,.int .i64 x151002_2] 34 (0,0)) (bL BK150.out) hg (Kd.N_away HO_138001.out (fun _ hk=>hk.2.2.2.2)));have n6_:=am ((by rw[hw];exact below_set (below_set (below_set (HB.out) GB91.out) GB91.out) GB91.out:Below w.heap.size w w100));clear HO_4 HO_138001 HO_151000 BK137 BK138 BK150 HB;have HO_4:=n0_;have HO_138001:=n1_;have HO_151000:=n2_;have BK137:=n3_;have BK138:=n4_;have BK150:=n5_;have HB:=n6_;clear n0_ n1_ n2_ n3_ n4_ n5_ n6_;clear hg hw hp_))
             go_roundg k2
             case measure=>have:=HK1.out;have:=HK2.out;omega
             case rel=>exact⟨(x4_2),(wrap64 (x12_1+1)),(y165),(.slice (some ⟨go91,0,none⟩) x138001_1.length co23),(bR),H',⟨by have:=HK1.out;have:=HK2.out;omega⟩,⟨by(with_reducible repeat (first|apply Kd.R_alloc|apply Kd.R_drewN|apply Kd.R_drew));exact HO_4.out⟩,⟨by(with_reducible repeat (first|apply Kd.N_alloc|apply Kd.N_drewN|apply Kd.N_drew));exact Kd.N_mono HO_138001.out (fun _ hk=>⟨hk.1,⟨hk.2.1,⟨hk.2.2.1,hk.2.2.2.1⟩⟩⟩)⟩,⟨by(with_reducible repeat (first|refine blk_drewN ?_ _|refine blk_drew ?_|refine blk_alloc ?_ _));exact BK137.out⟩,⟨by(with_reducible repeat (first|refine blk_drewN ?_ _|refine blk_drew ?_|refine blk_alloc ?_ _));exact BK138.out⟩,⟨bS3 GE137.out GE138.out GE150.out⟩⟩
            ·rw[if_neg c90] at H
             exact absurd H (by simp)
           ·rw[if_neg c89] at H
            exact absurd H (by simp)
     ·rw[if_neg c12] at H
      exact absurd H (by simp)
    ·rw[if_neg c11] at H
     exact absurd H (by simp)
   ·rw[if_neg c10] at H
    have c10b0:decide (x12_1 < (t140.length:Int))=false:=decide_eq_false c10
    clear c10
    replace H:=bI_ H
    obtain⟨⟨t144,t145,t148⟩,A1010,H⟩:=H
    replace H:(some (t144,t145,t148,x4_1))=some (r1,r2,r3,r4):=H
    have A101:=am A1010
    clear A1010
    simp only[Option.some.injEq,Prod.mk.injEq] at H
    obtain⟨rfl,rfl,rfl,rfl⟩:=H
    have hnb102:=NB137_138.out
    have hnc102:=NB138_137.out
    obtain⟨hcz103_0,hcz103_1,hcz103_2⟩:=cC3 BK137.out
    obtain⟨hfz103_0,hfz103_1,hfz103_2⟩:=cF3 BK137.out
    obtain⟨Ao104,co104,eo104⟩:=Kd.N_slice HO_138001.out
    subst eo104
    go_wp2_with (first|((with_reducible refine gate_callee (f:=31) rfl ?_);refine goesA (some 83) rfl rfl Try.func31 #[.agg #[.int .i64 t139,.slice Ao104 x138001_1.length co104,.int .i64 (wrap64 (t143+1))]] rfl ?_;(with_reducible refine(spec_l14Own.calls k1 t139 _ _ x138001_1 (wrap64 (t143+1)) t144 t145 t148 _ ?side1 ?side2 A101.out).mono ?_);(case side1=>refine(Kd.N_reads' (e:=34) (base:=w.heap.size) (ok:=fun k_=>((w.heap.size≤k_)∧(some k_≠(u4:Value).ownBlock∧(k_≠gb137∧k_≠gb138)))) (n:=x138001_1.length) (c:=co104) ?_).2.2;exact(by(with_reducible repeat (first|apply Kd.N_alloc|apply Kd.N_drewN|apply Kd.N_drew));exact(Kd.N_mono (Kd.N_far (p:=⟨gb137,2,none⟩) (Kd.N_mono HO_138001.out (fun k_ hk=>(⟨hk,hk.2.2.1⟩:_∧k_≠gb137))) (fun _ hk=>hk.2) (.int .i64 (wrap64 (t143+1)))) (fun _ h_=>h_.1))));(case side2=>exact(Kd.N_reads' HO_138001.out).2.1);rintro e w105 ⟨v146,rfl,ho0,hb⟩;refine⟨_,rfl,?_⟩;have n0_:=am (Kd.R_below (by(with_reducible repeat (first|apply Kd.R_alloc|apply Kd.R_drewN|apply Kd.R_drew));exact(Kd.R_mono (Kd.R_far (p:=⟨gb137,2,none⟩) (Kd.R_types HO_4.out BK137.out (by decide)) (fun _ hk=>hk.2) (.int .i64 (wrap64 (t143+1)))) (fun _ h_=>h_.1))) hb);have n1_:=am (Kd.N_elder' (by(with_reducible repeat (first|apply Kd.N_alloc|apply Kd.N_drewN|apply Kd.N_drew));exact(Kd.N_mono (Kd.N_far (p:=⟨gb137,2,none⟩) (Kd.N_mono HO_138001.out (fun k_ hk=>(⟨hk,hk.2.2.1⟩:_∧k_≠gb137))) (fun _ hk=>hk.2) (.int .i64 (wrap64 (t143+1)))) (fun _ h_=>h_.1))) (by first|exact Kd.N_base ho0|exact Kd.S_base ho0) hb);have n2_:=am (Kd.S_lower (Kd.S_mono (ok':=fun k_=>(w.heap.size≤k_)∧some k_≠(u4:Value).ownBlock∧some k_≠(.slice Ao104 x138001_1.length co104:Value).ownBlock∧k_≠gb137∧k_≠gb138) (Kd.S_bound ho0) (fun k_ hk_=>⟨(Nat.le_trans (below_size (bS2 GE137.out GE138.out)) hk_.2.1),(Kd.fresh' (Kd.R_lt (by(with_reducible repeat (first|apply Kd.R_alloc|apply Kd.R_drewN|apply Kd.R_drew));exact(Kd.R_mono (Kd.R_far (p:=⟨gb137,2,none⟩) (Kd.R_types HO_4.out BK137.out (by decide)) (fun _ hk=>hk.2) (.int .i64 (wrap64 (t143+1)))) (fun _ h_=>h_.1)))) k_ hk_.2.1),(Kd.fresh' (Kd.N_lt (by(with_reducible repeat (first|apply Kd.N_alloc|apply Kd.N_drewN|apply Kd.N_drew));exact(Kd.N_mono (Kd.N_far (p:=⟨gb137,2,none⟩) (Kd.N_mono HO_138001.out (fun k_ hk=>(⟨hk,hk.2.2.1⟩:_∧k_≠gb137))) (fun _ hk=>hk.2) (.int .i64 (wrap64 (t143+1)))) (fun _ h_=>h_.1)))) k_ hk_.2.1),(Kd.freshB (g:=gb137) (o:=.cells #[.int .i64 t139,.slice Ao104 x138001_1.length co104,.int .i64 (wrap64 (t143+1))] 25 (0,0)) (by(with_reducible repeat (first|refine blk_drewN ?_ _|refine blk_drew ?_|refine blk_alloc ?_ _));refine blk_put (cs:=#[.int .i64 t139,.slice Ao104 x138001_1.length co104,.int .i64 t143]) ?_ 2 _ rfl;(with_reducible repeat (first|refine blk_drewN ?_ _|refine blk_drew ?_|refine blk_alloc ?_ _));exact BK137.out) k_ hk_.2.1),(Kd.freshB (g:=gb138) (o:=.cells #[.int .i64 0,.slice none 0 0,.int .i64 0] 25 (0,0)) (by(with_reducible repeat (first|refine blk_drewN ?_ _|refine blk_drew ?_|refine blk_alloc ?_ _));refine blk_far ?_ NB138_137.out _;(with_reducible repeat (first|refine blk_drewN ?_ _|refine blk_drew ?_|refine blk_alloc ?_ _));exact BK138.out) k_ hk_.2.1)⟩)) (below_size (bS2 GE137.out GE138.out)));have n3_:=am (blk_below (g:=gb137) (o:=.cells #[.int .i64 t139,.slice Ao104 x138001_1.length co104,.int .i64 (wrap64 (t143+1))] 25 (0,0)) (by(with_reducible repeat (first|refine blk_drewN ?_ _|refine blk_drew ?_|refine blk_alloc ?_ _));refine blk_put (cs:=#[.int .i64 t139,.slice Ao104 x138001_1.length co104,.int .i64 t143]) ?_ 2 _ rfl;(with_reducible repeat (first|refine blk_drewN ?_ _|refine blk_drew ?_|refine blk_alloc ?_ _));exact BK137.out) hb);have n4_:=am (blk_below (g:=gb138) (o:=.cells #[.int .i64 0,.slice none 0 0,.int .i64 0] 25 (0,0)) (by(with_reducible repeat (first|refine blk_drewN ?_ _|refine blk_drew ?_|refine blk_alloc ?_ _));refine blk_far ?_ NB138_137.out _;(with_reducible repeat (first|refine blk_drewN ?_ _|refine blk_drew ?_|refine blk_alloc ?_ _));exact BK138.out) hb);have n5_:=am (below_step (bS2 GE137.out GE138.out) hb);clear HO_4 HO_138001 BK137 BK138 HB;have HO_4:=n0_;have HO_138001:=n1_;have HO147:=n2_;have BK137:=n3_;have BK138:=n4_;have HB:=n5_;clear n0_ n1_ n2_ n3_ n4_ n5_;(try clear hb);(try clear hb2);(try clear hk);(try clear hi);(try clear ho0);obtain⟨hcz106_0,hcz106_1,hcz106_2⟩:=cC3 BK138.out;obtain⟨hfz106_0,hfz106_1,hfz106_2⟩:=cF3 BK138.out;obtain⟨Ao107,co107,eo107⟩:=Kd.S_slice HO147.out;subst eo107))
    refine bodyPost_ret (results_ct rfl _ _ gb138 25 #[.int .i64 t144,.slice Ao107 t145.length co107,.int .i64 t148] (0,0) _ rfl (by(with_reducible repeat (first|refine blk_drewN ?_ _|refine blk_drew ?_|refine blk_alloc ?_ _));apply bU3;(with_reducible repeat (first|refine blk_drewN ?_ _|refine blk_drew ?_|refine blk_alloc ?_ _));exact BK138.out) Try.underlying25 rfl (by kernel_rfl)) rfl ?_
    exact⟨_,_,by first|rfl|(simp[errW_none,errW_some]<;>rfl)|(simp[*,errW_none,errW_some]<;>rfl),by(with_reducible repeat (first|apply Kd.S_alloc|apply Kd.S_drewN|apply Kd.S_drew));exact Kd.S_mono (Kd.S_far (p:=⟨gb138,2,none⟩) (Kd.S_far (p:=⟨gb138,1,none⟩) (Kd.S_far (p:=⟨gb138,0,none⟩) (Kd.S_mono HO147.out (fun k_ hk=>(⟨hk,hk.2.2.2.2⟩:_∧k_≠gb138))) (fun _ hk=>hk.2) (.int .i64 t144)) (fun _ hk=>hk.2) (.slice Ao107 t145.length co107)) (fun _ hk=>hk.2) (.int .i64 t148)) (fun _ hk=>hk.1.2.1),by(with_reducible repeat (first|apply Kd.R_alloc|apply Kd.R_drewN|apply Kd.R_drew));exact Kd.R_mono (Kd.R_far (p:=⟨gb138,2,none⟩) (Kd.R_far (p:=⟨gb138,1,none⟩) (Kd.R_far (p:=⟨gb138,0,none⟩) (Kd.R_types HO_4.out BK138.out (by decide)) (fun _ hk=>hk.2) (.int .i64 t144)) (fun _ hk=>hk.2) (.slice Ao107 t145.length co107)) (fun _ hk=>hk.2) (.int .i64 t148)) (fun _ _=>trivial),bS2 GE137.out GE138.out⟩

end Go.Proofs.Ythghcoepkknkeaa.XFnFair
