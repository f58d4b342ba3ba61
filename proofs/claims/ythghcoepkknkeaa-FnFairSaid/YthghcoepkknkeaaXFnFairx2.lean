-- Written by this session's own program (wip/xprint.py) out of the translation; Lean checks it.
import Derived.Test.YthghcoepkknkeaaXFnFairx0
import Derived.Test.YthghcoepkknkeaaXFnFairx1
namespace Go.Proofs.Ythghcoepkknkeaa.XFnFair
open Go.RowKit Go.Proofs.YthghcoepkknkeaaW.PrintWords Go.Proofs.YthghcoepkknkeaaW.PrintLast Go.Proofs.YthghcoepkknkeaaW.PrintMore
open Go.Proofs.YthghcoepkknkeaaW.PrintWords.Aside0 renaming mk → am
open List renaming setIfInBounds_toArray → zA, set_cons_zero → zB, set_cons_succ → zC
attribute [local go_sem] max2_int min2_int max_two min_two max_three min_three max_four min_four   -- for this text's walks alone
set_option linter.unusedVariables false
set_option linter.unusedSimpArgs false

/-! ### laws_sameTurns: function 9 -/
mutual
def laws_sameTurns.j0:Nat→Bool→Int→List (S34)→Int→Int→List (S34)→Int→Option (Bool)
 | 0,_,_,_,_,_,_,_=>none
 | k+1,x26,x104000,x104001,x104002,x105000,x105001,x105002=>if x26=true then (some false) else (laws_sameTurns.l0 k (x104001.length:Int) 0 x104000 x104001 x104002 x105000 x105001 x105002)
def laws_sameTurns.l0:Nat→Int→Int→Int→List (S34)→Int→Int→List (S34)→Int→Option (Bool)
 | 0,_,_,_,_,_,_,_,_=>none
 | k+1,x29,x30,x104000,x104001,x104002,x105000,x105001,x105002=>if x30 < x29 then (if 0≤x30 then (if x30 < (x104001.length:Int) then (if x30 < (x105001.length:Int) then (if ((rd_T34 x104001 x30).f1)=((rd_T34 x105001 x30).f1) then (if ((rd_T34 x104001 x30).f2)=((rd_T34 x105001 x30).f2) then ((laws_sameInts.f k ((rd_T34 x104001 x30).f0) ((rd_T34 x105001 x30).f0)).bind fun t111=>(if t111=true then (laws_sameTurns.l0 k x29 (wrap64 (x30+1)) x104000 x104001 x104002 x105000 x105001 x105002) else (some false))) else (some false)) else (some false)) else (none)) else (none)) else (none)) else (some true)
end
def laws_sameTurns.f (k:Nat) (a0_0:Int) (l0_1:List (S34)) (a0_2:Int) (a1_0:Int) (l1_1:List (S34)) (a1_2:Int):Option (Bool):=if a0_0=a1_0 then (if a0_2=a1_2 then (laws_sameTurns.j0 k ((l0_1.length:Int) != (l1_1.length:Int)) a0_0 l0_1 a0_2 a1_0 l1_1 a1_2) else (laws_sameTurns.j0 k true a0_0 l0_1 a0_2 a1_0 l1_1 a1_2)) else (laws_sameTurns.j0 k true a0_0 l0_1 a0_2 a1_0 l1_1 a1_2)
theorem laws_sameTurns.mono_l : ∀ k,(∀ y0 y1 y2 y3 y4 y5 y6,LeO (laws_sameTurns.j0 k y0 y1 y2 y3 y4 y5 y6) (laws_sameTurns.j0 (k+1) y0 y1 y2 y3 y4 y5 y6))∧(∀ y0 y1 y2 y3 y4 y5 y6 y7,LeO (laws_sameTurns.l0 k y0 y1 y2 y3 y4 y5 y6 y7) (laws_sameTurns.l0 (k+1) y0 y1 y2 y3 y4 y5 y6 y7))
 | 0=>⟨fun _ _ _ _ _ _ _ r h=>by simp[laws_sameTurns.j0] at h,fun _ _ _ _ _ _ _ _ r h=>by simp[laws_sameTurns.l0] at h⟩
 | k+1=>by
  obtain⟨ih0,ih1⟩:=laws_sameTurns.mono_l k
  refine⟨?_,?_⟩
  ·intro y0 y1 y2 y3 y4 y5 y6
   unfold laws_sameTurns.j0
   repeat' first
   | (with_reducible exact ih0 _ _ _ _ _ _ _)
   | (with_reducible exact ih1 _ _ _ _ _ _ _ _)
   | (with_reducible exact laws_sameInts.mono _ _ _)
   | (with_reducible exact LeO.refl _)
   | (with_reducible exact LeO.none _)
   | (with_reducible refine LeO.ite ?_ ?_)
   | (with_reducible refine LeO.bind ?_ (fun _ => ?_))
  ·intro y0 y1 y2 y3 y4 y5 y6 y7
   unfold laws_sameTurns.l0
   repeat' first
   | (with_reducible exact ih0 _ _ _ _ _ _ _)
   | (with_reducible exact ih1 _ _ _ _ _ _ _ _)
   | (with_reducible exact laws_sameInts.mono _ _ _)
   | (with_reducible exact LeO.refl _)
   | (with_reducible exact LeO.none _)
   | (with_reducible refine LeO.ite ?_ ?_)
   | (with_reducible refine LeO.bind ?_ (fun _ => ?_))
theorem laws_sameTurns.mono : ∀ a0 a1 a2 a3 a4 a5 k,LeO (laws_sameTurns.f k a0 a1 a2 a3 a4 a5) (laws_sameTurns.f (k+1) a0 a1 a2 a3 a4 a5):=by
 intro a0 a1 a2 a3 a4 a5 k
 obtain⟨ih0,ih1⟩:=laws_sameTurns.mono_l k
 unfold laws_sameTurns.f
 repeat' first
  | (with_reducible exact ih0 _ _ _ _ _ _ _)
  | (with_reducible exact ih1 _ _ _ _ _ _ _ _)
  | (with_reducible exact laws_sameInts.mono _ _ _)
  | (with_reducible exact LeO.refl _)
  | (with_reducible exact LeO.none _)
  | (with_reducible refine LeO.ite ?_ ?_)
  | (with_reducible refine LeO.bind ?_ (fun _ => ?_))
def laws_sameTurns.T6:Bool × List (List Nat × List Nat):=(true,[([],[]),([0],[0]),([],[]),([1,2],[1,2]),([3],[3]),([4],[4]),([],[]),([6],[6]),([],[]),([7,8],[7,8]),([9],[9]),([10],[10]),([5,11],[5,11]),([12],[12]),([13],[13]),([14,13],[13,14]),([13],[13]),([15,16,13],[13,15,16]),([17,13],[13,17]),([18,13],[13,18]),([13],[13]),([20,13],[13,20]),([13],[13]),([21,22,13],[13,21,22]),([23,13],[13,23]),([24,13],[13,24]),([19,25,13],[13,19,25]),([13,26],[13,26]),([27,13],[27]),([28],[28]),([29,28],[28,29]),([28],[28]),([30,31,28],[28,30,31]),([32,28],[28,32]),([33,28],[28,33]),([28],[28]),([35,28],[28,35]),([28],[28]),([36,37,28],[28,36,37]),([38,28],[28,38]),([39,28],[28,39]),([34,40,28,28],[28,34,40]),([41,28],[28,41]),([28,42],[28,42])])
def laws_sameTurns.B6:List Nat:=[0,1,0,7,15,31,0,64,0,448,960,1984,4095,8191,16383,32767,16383,131071,262143,524287,16383,1064959,16383,7356415,15745023,32522239,67108863,134217727,268435455,536870911,1073741823,536870911,4294967295,8589934591,17179869183,536870911,34896609279,536870911,241055039487,515932946431,1065688760319,2199023255551,4398046511103,8796093022207]
theorem laws_sameTurns.tab6:rtab .any (opsOf Try.f9 6)=laws_sameTurns.T6:=by kernel_rfl
theorem laws_sameTurns.bits6:waitsOk laws_sameTurns.T6.2 laws_sameTurns.B6=true:=by kernel_rfl
set_option maxHeartbeats 8000000 in
set_option maxRecDepth 100000 in
theorem laws_sameTurns.calls (k:Nat) (a0_0:Int) (A0_1:Option Addr) (c0_1:Nat) (l0_1:List (S34)) (a0_2:Int) (a1_0:Int) (A1_1:Option Addr) (c1_1:Nat) (l1_1:List (S34)) (a1_2:Int) (r:Bool) (w:World) (hr0_1:Kd.C k34 w A0_1 l0_1.length l0_1) (hc0_1:l0_1.length≤c0_1) (hr1_1:Kd.C k34 w A1_1 l1_1.length l1_1) (hc1_1:l1_1.length≤c1_1) (h:laws_sameTurns.f k a0_0 l0_1 a0_2 a1_0 l1_1 a1_2=some r) (ht:r=true) :
  Calls Try.prog 9 #[.agg #[.int .i64 a0_0,.slice A0_1 l0_1.length c0_1,.int .i64 a0_2],.agg #[.int .i64 a1_0,.slice A1_1 l1_1.length c1_1,.int .i64 a1_2]] w fun e w'=>e=.returned (.bool r)∧Below w.heap.size w w':=by
 have HT:=am ht
 clear ht
 have hu25:=Try.underlying25
 have HR0_1:=am hr0_1
 have HC0_1:=am hc0_1
 clear hr0_1 hc0_1
 have HR1_1:=am hr1_1
 have HC1_1:=am hc1_1
 clear hr1_1 hc1_1
 have HB:=am (Below.refl w.heap.size w)
 have H:(if a0_0=a1_0 then (if a0_2=a1_2 then (laws_sameTurns.j0 k ((l0_1.length:Int) != (l1_1.length:Int)) a0_0 l0_1 a0_2 a1_0 l1_1 a1_2) else (laws_sameTurns.j0 k true a0_0 l0_1 a0_2 a1_0 l1_1 a1_2)) else (laws_sameTurns.j0 k true a0_0 l0_1 a0_2 a1_0 l1_1 a1_2))=some r:=h
 clear h
 have HC3:=am H
 clear H
 go_enter Try.func9,Try.ntmps9
 go_upto_region 1 with (first|((with_reducible refine gate_dst (N:=2) rfl ?_);(try (refine gate_guard (by rfl) ?_;dsimp only));refine box_event ?hg (N:=2) ?hd (cs:=#[.int .i64 a0_0,.slice A0_1 l0_1.length c0_1,.int .i64 a0_2]) (t:=25) ?hr ?_;(case hd=>rfl);(case hg=>rfl);(case hr=>first|(go_simp;done)|(go_simp;rfl));intro gb103 hg w4 hbox hb;have n0_:=am (below_step (bB) hb);have n1_:=am (hbox);have n2_:=am ((bG:w.heap.size≤gb103));have n3_:=am ((bG:w.heap.size≤gb103));clear HB;have HB:=n0_;have BK103:=n1_;have GW103:=n2_;have GE103:=n3_;clear n0_ n1_ n2_ n3_;clear hb hbox hg)|((with_reducible refine gate_dst (N:=3) rfl ?_);(try (refine gate_guard (by rfl) ?_;dsimp only));refine box_event ?hg (N:=3) ?hd (cs:=#[.int .i64 a1_0,.slice A1_1 l1_1.length c1_1,.int .i64 a1_2]) (t:=25) ?hr ?_;(case hd=>rfl);(case hg=>rfl);(case hr=>first|(go_simp;done)|(go_simp;rfl));intro gb104 hg w5 hbox hb;have n0_:=am (bM BK103.out hb);have n1_:=am (below_step (bS GE103.out) hb);have n2_:=am (hbox);have n3_:=am ((by rw[hg];exact(below_size (bS GE103.out)):w.heap.size≤gb104));have n4_:=am ((by rw[hg];exact(below_size (bS GE103.out)):w.heap.size≤gb104));have n5_:=am ((bN BK103.out hg:gb103≠gb104));have n6_:=am ((bO BK103.out hg:gb104≠gb103));clear BK103 HB;have BK103:=n0_;have HB:=n1_;have BK104:=n2_;have GW104:=n3_;have GE104:=n4_;have NB103_104:=n5_;have NB104_103:=n6_;clear n0_ n1_ n2_ n3_ n4_ n5_ n6_;clear hb hbox hg))
 (try simp only[Act.put,zA,zB,zC])
 go_cut [26] (fun v26 wc => ∃ (kq:Nat) (x26_2:Bool),v26=.bool x26_2∧Aside0 (laws_sameTurns.j0 kq x26_2 a0_0 l0_1 a0_2 a1_0 l1_1 a1_2=some r)∧Aside0 (kq≤k)∧Aside0 (wc.heap[gb103]?=some (.cells #[.int .i64 a0_0,(.slice A0_1 l0_1.length c0_1),.int .i64 a0_2] 25 (0,0)))∧Aside0 (wc.heap[gb104]?=some (.cells #[.int .i64 a1_0,(.slice A1_1 l1_1.length c1_1),.int .i64 a1_2] 25 (0,0)))∧Aside0 (Below w.heap.size w wc))
 case first =>
  have H:=HC3.out
  clear HC3
  by_cases c6:a0_0=a1_0
  ·rw[if_pos c6] at H
   have c6b0:(a0_0 == a1_0)=true:=beq_iff_eq.mpr c6
   have c6b1:(a0_0 != a1_0)=false:=bne_eq_false_iff_eq.mpr c6
   clear c6
   (first|rw[c6b0]|(simp only[i64_w,i32_w];rw[c6b0])|skip)
   by_cases c7:a0_2=a1_2
   ·rw[if_pos c7] at H
    have c7b0:(a0_2 == a1_2)=true:=beq_iff_eq.mpr c7
    have c7b1:(a0_2 != a1_2)=false:=bne_eq_false_iff_eq.mpr c7
    clear c7
    have H':=am H
    clear H
    have hnb8:=NB103_104.out
    have hnc8:=NB104_103.out
    obtain⟨hcz9_0,hcz9_1,hcz9_2⟩:=cC3 BK103.out
    obtain⟨hfz9_0,hfz9_1,hfz9_2⟩:=cF3 BK103.out
    obtain⟨hcz10_0,hcz10_1,hcz10_2⟩:=cC3 BK104.out
    obtain⟨hfz10_0,hfz10_1,hfz10_2⟩:=cF3 BK104.out
    go_wp2
    go_meet
    case rel=>exact⟨_,(((l0_1.length:Int) != (l1_1.length:Int))),(bR),H',⟨by first|omega|exact Nat.le_refl _⟩,⟨by(with_reducible repeat (first|refine blk_drewN ?_ _|refine blk_drew ?_|refine blk_alloc ?_ _));exact BK103.out⟩,⟨by(with_reducible repeat (first|refine blk_drewN ?_ _|refine blk_drew ?_|refine blk_alloc ?_ _));exact BK104.out⟩,⟨bS2 GE103.out GE104.out⟩⟩
   ·rw[if_neg c7] at H
    have c7b0:(a0_2 == a1_2)=false:=beq_eq_false_iff_ne.mpr c7
    have c7b1:(a0_2 != a1_2)=true:=bne_iff_ne.mpr c7
    exact absurd H (by cases k<;>(first|(simp only[laws_sameTurns.j0];intro h_;cases h_;done)|(rw[laws_sameTurns.j0,if_pos rfl];exact fun h_=>Bool.noConfusion ((Option.some.inj h_).trans HT.out))))
  ·rw[if_neg c6] at H
   have c6b0:(a0_0 == a1_0)=false:=beq_eq_false_iff_ne.mpr c6
   have c6b1:(a0_0 != a1_0)=true:=bne_iff_ne.mpr c6
   (first|rw[c6b0]|(simp only[i64_w,i32_w];rw[c6b0])|skip)
   exact absurd H (by cases k<;>(first|(simp only[laws_sameTurns.j0];intro h_;cases h_;done)|(rw[laws_sameTurns.j0,if_pos rfl];exact fun h_=>Bool.noConfusion ((Option.some.inj h_).trans HT.out))))
 case rest =>
  clear HC3
  try clear c1
  try clear p2
  try clear c6
  try clear c6b0
  try clear c6b1
  try clear c7
  try clear c7b0
  try clear c7b1
  try clear c8
  try clear c9
  try clear hcz10_0 hcz10_1 hcz10_2
  try clear hcz9_0 hcz9_1 hcz9_2
  try clear hfz10_0 hfz10_1 hfz10_2
  try clear hfz9_0 hfz9_1 hfz9_2
  obtain⟨kq,x26_2,rfl,HA,HJ2,BK103,BK104,HB⟩:=hcut
  cases kq with
  | zero=>exact absurd HA.out (by simp[laws_sameTurns.j0])
  | succ kj2 =>
   have H:=HA.out
   clear HA
   simp only[laws_sameTurns.j0] at H
   by_cases c11:x26_2=true
   ·subst c11
    have H1:(some false)=some r:=by rw[if_pos rfl] at H;exact H
    clear H
    have H:=H1
    clear H1
    exact Bool.noConfusion ((Option.some.inj H).trans HT.out)
   ·replace c11:=Bool.eq_false_iff.mpr c11
    subst c11
    have H1:(laws_sameTurns.l0 kj2 (l0_1.length:Int) 0 a0_0 l0_1 a0_2 a1_0 l1_1 a1_2)=some r:=by rw[if_neg (show ¬ (false=true) by decide)] at H;exact H
    clear H
    have H:=H1
    clear H1
    have H':=am H
    clear H
    have hnb12:=NB103_104.out
    have hnc12:=NB104_103.out
    obtain⟨hcz13_0,hcz13_1,hcz13_2⟩:=cC3 BK103.out
    obtain⟨hfz13_0,hfz13_1,hfz13_2⟩:=cF3 BK103.out
    go_wp2
    go_loopg [30] kj2 (fun kq v30 w' => ∃ (x30_2:Int),v30=.int .i64 x30_2∧Aside0 (laws_sameTurns.l0 kq (l0_1.length:Int) x30_2 a0_0 l0_1 a0_2 a1_0 l1_1 a1_2=some r)∧Aside0 (kq≤kj2)∧Aside0 (w'.heap[gb103]?=some (.cells #[.int .i64 a0_0,(.slice A0_1 l0_1.length c0_1),.int .i64 a0_2] 25 (0,0)))∧Aside0 (w'.heap[gb104]?=some (.cells #[.int .i64 a1_0,(.slice A1_1 l1_1.length c1_1),.int .i64 a1_2] 25 (0,0)))∧Aside0 (Below w.heap.size w w'))
    case atStart=>exact⟨(0),(bR),H',⟨Nat.le_refl _⟩,⟨by(with_reducible repeat (first|refine blk_drewN ?_ _|refine blk_drew ?_|refine blk_alloc ?_ _));exact BK103.out⟩,⟨by(with_reducible repeat (first|refine blk_drewN ?_ _|refine blk_drew ?_|refine blk_alloc ?_ _));exact BK104.out⟩,⟨bS2 GE103.out GE104.out⟩⟩
    case round =>
     clear H'
     try clear c1
     try clear p2
     try clear c6
     try clear c6b0
     try clear c6b1
     try clear c7
     try clear c7b0
     try clear c7b1
     try clear c8
     try clear c9
     try clear c11
     try clear c12
     try clear hcz10_0 hcz10_1 hcz10_2
     try clear hcz13_0 hcz13_1 hcz13_2
     try clear hcz9_0 hcz9_1 hcz9_2
     try clear hfz10_0 hfz10_1 hfz10_2
     try clear hfz13_0 hfz13_1 hfz13_2
     try clear hfz9_0 hfz9_1 hfz9_2
     try clear p2
     obtain⟨x30_2,rfl,HA,HK2,BK103,BK104,HB⟩:=hrel
     cases gk with
     | zero=>exact absurd HA.out (by simp[laws_sameTurns.l0])
     | succ k2 =>
      have H:=HA.out
      clear HA
      simp only[laws_sameTurns.l0] at H
      by_cases c14:x30_2 < (l0_1.length:Int)
      ·rw[if_pos c14] at H
       have c14b0:decide (x30_2 < (l0_1.length:Int))=true:=decide_eq_true c14
       clear c14
       by_cases c15:0≤x30_2
       ·rw[if_pos c15] at H
        have c15b0:decide (0≤x30_2)=true:=decide_eq_true c15
        clear c15
        by_cases c16:x30_2 < (l0_1.length:Int)
        ·rw[if_pos c16] at H
         have c16b0:decide (x30_2 < (l0_1.length:Int))=true:=decide_eq_true c16
         clear c16
         by_cases c17:x30_2 < (l1_1.length:Int)
         ·rw[if_pos c17] at H
          have c17b0:decide (x30_2 < (l1_1.length:Int))=true:=decide_eq_true c17
          clear c17
          by_cases c18:((rd_T34 l0_1 x30_2).f1)=((rd_T34 l1_1 x30_2).f1)
          ·rw[if_pos c18] at H
           have c18b0:(((rd_T34 l0_1 x30_2).f1) == ((rd_T34 l1_1 x30_2).f1))=true:=beq_iff_eq.mpr c18
           have c18b1:(((rd_T34 l0_1 x30_2).f1) != ((rd_T34 l1_1 x30_2).f1))=false:=bne_eq_false_iff_eq.mpr c18
           clear c18
           by_cases c19:((rd_T34 l0_1 x30_2).f2)=((rd_T34 l1_1 x30_2).f2)
           ·rw[if_pos c19] at H
            have c19b0:(((rd_T34 l0_1 x30_2).f2) == ((rd_T34 l1_1 x30_2).f2))=true:=beq_iff_eq.mpr c19
            have c19b1:(((rd_T34 l0_1 x30_2).f2) != ((rd_T34 l1_1 x30_2).f2))=false:=bne_eq_false_iff_eq.mpr c19
            clear c19
            replace H:=bI_ H
            obtain⟨t111,A200,H⟩:=H
            have A20:=am A200
            clear A200
            by_cases c21:t111=true
            ·subst c21
             have H1:(laws_sameTurns.l0 k2 (l0_1.length:Int) (wrap64 (x30_2+1)) a0_0 l0_1 a0_2 a1_0 l1_1 a1_2)=some r:=by rw[if_pos rfl] at H;exact H
             clear H
             have H:=H1
             clear H1
             have H':=am H
             clear H
             try go_wp2
             (try (rw[drewN_self wr];generalize hq_:World.drewN wr _=wr;have n0_:=am (blk_at hq_ BK103.out);have n1_:=am (blk_at hq_ BK104.out);have n2_:=am (below_at hq_ HB.out);clear hq_ BK103 BK104 HB;have BK103:=n0_;have BK104:=n1_;have HB:=n2_;clear n0_ n1_ n2_))
             have n0_:=am (blk_drew BK103.out)
             have n1_:=am (blk_drew BK104.out)
             have n2_:=am (below_drew1 HB.out)
             clear BK103 BK104 HB
             have BK103:=n0_
             have BK104:=n1_
             have HB:=n2_
             clear n0_ n1_ n2_
             have p105:0≤(x30_2:Int):=bD_
             have q105:x30_2 < (l0_1.length:Int):=bD_
             obtain⟨ad105,A105_0,c105_0,e105,hx105_0,hx105_1,hx105_2,hl105_0,hi105_0⟩:=at_T34 HR0_1.out x30_2 p105 q105
             have hw105_2:=hx105_2
             have hw105_1:=hx105_1
             have hw105_0:=hx105_0
             cases e105
             replace hx105_0:=bQ_ HB.out hx105_0
             replace hx105_1:=bQ_ HB.out hx105_1
             replace hx105_2:=bQ_ HB.out hx105_2
             have HR105_0:=am hi105_0
             have HC105_0:=am hl105_0
             clear hi105_0 hl105_0
             replace p105:=eq_true p105
             replace q105:=eq_true q105
             have p106:0≤(x30_2:Int):=bD_
             have q106:x30_2 < (l1_1.length:Int):=bD_
             obtain⟨ad106,A106_0,c106_0,e106,hx106_0,hx106_1,hx106_2,hl106_0,hi106_0⟩:=at_T34 HR1_1.out x30_2 p106 q106
             have hw106_2:=hx106_2
             have hw106_1:=hx106_1
             have hw106_0:=hx106_0
             cases e106
             replace hx106_0:=bQ_ HB.out hx106_0
             replace hx106_1:=bQ_ HB.out hx106_1
             replace hx106_2:=bQ_ HB.out hx106_2
             have HR106_0:=am hi106_0
             have HC106_0:=am hl106_0
             clear hi106_0 hl106_0
             replace p106:=eq_true p106
             replace q106:=eq_true q106
             have p107:0≤(x30_2:Int):=bD_
             have q107:x30_2 < (l0_1.length:Int):=bD_
             obtain⟨ad107,A107_0,c107_0,e107,hx107_0,hx107_1,hx107_2,hl107_0,hi107_0⟩:=at_T34 HR0_1.out x30_2 p107 q107
             have hw107_2:=hx107_2
             have hw107_1:=hx107_1
             have hw107_0:=hx107_0
             obtain rfl:ad105=ad107:=(by injection e107)
             replace hx107_0:=bQ_ HB.out hx107_0
             replace hx107_1:=bQ_ HB.out hx107_1
             replace hx107_2:=bQ_ HB.out hx107_2
             have HR107_0:=am hi107_0
             have HC107_0:=am hl107_0
             clear hi107_0 hl107_0
             replace p107:=eq_true p107
             replace q107:=eq_true q107
             have ea_:=Option.some.inj (hx105_0.symm.trans hx107_0)
             injection ea_ with ea_ en_ ec_
             subst ea_
             subst ec_
             clear en_
             have p108:0≤(x30_2:Int):=bD_
             have q108:x30_2 < (l1_1.length:Int):=bD_
             obtain⟨ad108,A108_0,c108_0,e108,hx108_0,hx108_1,hx108_2,hl108_0,hi108_0⟩:=at_T34 HR1_1.out x30_2 p108 q108
             have hw108_2:=hx108_2
             have hw108_1:=hx108_1
             have hw108_0:=hx108_0
             obtain rfl:ad106=ad108:=(by injection e108)
             replace hx108_0:=bQ_ HB.out hx108_0
             replace hx108_1:=bQ_ HB.out hx108_1
             replace hx108_2:=bQ_ HB.out hx108_2
             have HR108_0:=am hi108_0
             have HC108_0:=am hl108_0
             clear hi108_0 hl108_0
             replace p108:=eq_true p108
             replace q108:=eq_true q108
             have ea_:=Option.some.inj (hx106_0.symm.trans hx108_0)
             injection ea_ with ea_ en_ ec_
             subst ea_
             subst ec_
             clear en_
             have p109:0≤(x30_2:Int):=bD_
             have q109:x30_2 < (l0_1.length:Int):=bD_
             obtain⟨ad109,A109_0,c109_0,e109,hx109_0,hx109_1,hx109_2,hl109_0,hi109_0⟩:=at_T34 HR0_1.out x30_2 p109 q109
             have hw109_2:=hx109_2
             have hw109_1:=hx109_1
             have hw109_0:=hx109_0
             obtain rfl:ad105=ad109:=(by injection e109)
             replace hx109_0:=bQ_ HB.out hx109_0
             replace hx109_1:=bQ_ HB.out hx109_1
             replace hx109_2:=bQ_ HB.out hx109_2
             have HR109_0:=am hi109_0
             have HC109_0:=am hl109_0
             clear hi109_0 hl109_0
             replace p109:=eq_true p109
             replace q109:=eq_true q109
             have ea_:=Option.some.inj (hx105_0.symm.trans hx109_0)
             injection ea_ with ea_ en_ ec_
             subst ea_
             subst ec_
             clear en_
             have p110:0≤(x30_2:Int):=bD_
             have q110:x30_2 < (l1_1.length:Int):=bD_
             obtain⟨ad110,A110_0,c110_0,e110,hx110_0,hx110_1,hx110_2,hl110_0,hi110_0⟩:=at_T34 HR1_1.out x30_2 p110 q110
             have hw110_2:=hx110_2
             have hw110_1:=hx110_1
             have hw110_0:=hx110_0
             obtain rfl:ad106=ad110:=(by injection e110)
             replace hx110_0:=bQ_ HB.out hx110_0
             replace hx110_1:=bQ_ HB.out hx110_1
             replace hx110_2:=bQ_ HB.out hx110_2
             have HR110_0:=am hi110_0
             have HC110_0:=am hl110_0
             clear hi110_0 hl110_0
             replace p110:=eq_true p110
             replace q110:=eq_true q110
             have ea_:=Option.some.inj (hx106_0.symm.trans hx110_0)
             injection ea_ with ea_ en_ ec_
             subst ea_
             subst ec_
             clear en_
             refine start_ (n:=44) (S:=fun w'=>w'.cell? ⟨gb103,0,none⟩=some (.int .i64 a0_0)∧w'.cell? ⟨gb103,1,none⟩=some (.slice (some ad105) l0_1.length c0_1)∧w'.cell? ⟨gb103,2,none⟩=some (.int .i64 a0_2)∧w'.cell? ⟨gb104,0,none⟩=some (.int .i64 a1_0)∧w'.cell? ⟨gb104,1,none⟩=some (.slice (some ad106) l1_1.length c1_1)∧w'.cell? ⟨gb104,2,none⟩=some (.int .i64 a1_2)∧w'.cell? (ad105.add ((x30_2).toNat * 3))=some (.slice A105_0 ((rd_T34 l0_1 x30_2).f0).length c105_0)∧w'.cell? ⟨(ad105.add ((x30_2).toNat * 3)).block,(ad105.add ((x30_2).toNat * 3)).off+1,none⟩=some (.int .i64 ((rd_T34 l0_1 x30_2).f1))∧w'.cell? ⟨(ad105.add ((x30_2).toNat * 3)).block,(ad105.add ((x30_2).toNat * 3)).off+2,none⟩=some (.int .i64 ((rd_T34 l0_1 x30_2).f2))∧w'.cell? (ad106.add ((x30_2).toNat * 3))=some (.slice A106_0 ((rd_T34 l1_1 x30_2).f0).length c106_0)∧w'.cell? ⟨(ad106.add ((x30_2).toNat * 3)).block,(ad106.add ((x30_2).toNat * 3)).off+1,none⟩=some (.int .i64 ((rd_T34 l1_1 x30_2).f1))∧w'.cell? ⟨(ad106.add ((x30_2).toNat * 3)).block,(ad106.add ((x30_2).toNat * 3)).off+2,none⟩=some (.int .i64 ((rd_T34 l1_1 x30_2).f2))∧w'.cell? (ad105.add ((x30_2).toNat * 3))=some (.slice A105_0 ((rd_T34 l0_1 x30_2).f0).length c105_0)∧w'.cell? ⟨(ad105.add ((x30_2).toNat * 3)).block,(ad105.add ((x30_2).toNat * 3)).off+1,none⟩=some (.int .i64 ((rd_T34 l0_1 x30_2).f1))∧w'.cell? ⟨(ad105.add ((x30_2).toNat * 3)).block,(ad105.add ((x30_2).toNat * 3)).off+2,none⟩=some (.int .i64 ((rd_T34 l0_1 x30_2).f2))∧w'.cell? (ad106.add ((x30_2).toNat * 3))=some (.slice A106_0 ((rd_T34 l1_1 x30_2).f0).length c106_0)∧w'.cell? ⟨(ad106.add ((x30_2).toNat * 3)).block,(ad106.add ((x30_2).toNat * 3)).off+1,none⟩=some (.int .i64 ((rd_T34 l1_1 x30_2).f1))∧w'.cell? ⟨(ad106.add ((x30_2).toNat * 3)).block,(ad106.add ((x30_2).toNat * 3)).off+2,none⟩=some (.int .i64 ((rd_T34 l1_1 x30_2).f2))∧w'.cell? (ad105.add ((x30_2).toNat * 3))=some (.slice A105_0 ((rd_T34 l0_1 x30_2).f0).length c105_0)∧w'.cell? ⟨(ad105.add ((x30_2).toNat * 3)).block,(ad105.add ((x30_2).toNat * 3)).off+1,none⟩=some (.int .i64 ((rd_T34 l0_1 x30_2).f1))∧w'.cell? ⟨(ad105.add ((x30_2).toNat * 3)).block,(ad105.add ((x30_2).toNat * 3)).off+2,none⟩=some (.int .i64 ((rd_T34 l0_1 x30_2).f2))∧w'.cell? (ad106.add ((x30_2).toNat * 3))=some (.slice A106_0 ((rd_T34 l1_1 x30_2).f0).length c106_0)∧w'.cell? ⟨(ad106.add ((x30_2).toNat * 3)).block,(ad106.add ((x30_2).toNat * 3)).off+1,none⟩=some (.int .i64 ((rd_T34 l1_1 x30_2).f1))∧w'.cell? ⟨(ad106.add ((x30_2).toNat * 3)).block,(ad106.add ((x30_2).toNat * 3)).off+2,none⟩=some (.int .i64 ((rd_T34 l1_1 x30_2).f2))) (ds:=[]) #[false,false,false,false,false,false,false,false,false,false,false,false,false,false,false,false,false,false,false,false,false,false,false,false,false,false,false,false,false,false,false,false,false,false,false,false,false,false,false,false,false,false,false,false] (by kernel_rfl) rfl rfl ⟨(blk_cell BK103.out 0).trans rfl,(blk_cell BK103.out 1).trans rfl,(blk_cell BK103.out 2).trans rfl,(blk_cell BK104.out 0).trans rfl,(blk_cell BK104.out 1).trans rfl,(blk_cell BK104.out 2).trans rfl,((HB.out.cell (World.block_lt_of_cell? w _ hw105_0)).trans hw105_0),((HB.out.cell (World.block_lt_of_cell? w _ hw105_1)).trans hw105_1),((HB.out.cell (World.block_lt_of_cell? w _ hw105_2)).trans hw105_2),((HB.out.cell (World.block_lt_of_cell? w _ hw106_0)).trans hw106_0),((HB.out.cell (World.block_lt_of_cell? w _ hw106_1)).trans hw106_1),((HB.out.cell (World.block_lt_of_cell? w _ hw106_2)).trans hw106_2),((HB.out.cell (World.block_lt_of_cell? w _ hw107_0)).trans hw107_0),((HB.out.cell (World.block_lt_of_cell? w _ hw107_1)).trans hw107_1),((HB.out.cell (World.block_lt_of_cell? w _ hw107_2)).trans hw107_2),((HB.out.cell (World.block_lt_of_cell? w _ hw108_0)).trans hw108_0),((HB.out.cell (World.block_lt_of_cell? w _ hw108_1)).trans hw108_1),((HB.out.cell (World.block_lt_of_cell? w _ hw108_2)).trans hw108_2),((HB.out.cell (World.block_lt_of_cell? w _ hw109_0)).trans hw109_0),((HB.out.cell (World.block_lt_of_cell? w _ hw109_1)).trans hw109_1),((HB.out.cell (World.block_lt_of_cell? w _ hw109_2)).trans hw109_2),((HB.out.cell (World.block_lt_of_cell? w _ hw110_0)).trans hw110_0),((HB.out.cell (World.block_lt_of_cell? w _ hw110_1)).trans hw110_1),((HB.out.cell (World.block_lt_of_cell? w _ hw110_2)).trans hw110_2)⟩ (fun hHeld => ?_);refine with_tabW laws_sameTurns.tab6 laws_sameTurns.bits6 (fun HT_ HW_ => ?_)
             generalize wr.drew=w22 at BK103 BK104 HB HR105_0 HR106_0 HR107_0 HR108_0 HR109_0 HR110_0 hx105_0 hx105_1 hx105_2 hx106_0 hx106_1 hx106_2 hx107_0 hx107_1 hx107_2 hx108_0 hx108_1 hx108_2 hx109_0 hx109_1 hx109_2 hx110_0 hx110_1 hx110_2 hHeld ⊢
             refine pS HT_ 0 33 ?_;refine pS HT_ 2 35 ?_;refine pS HT_ 6 39 ?_;refine pS HT_ 8 41 ?_;refine tS HT_ HW_ hHeld 1 34 ?_;refine pS HT_ 3 36 ?_;refine pS HT_ 4 37 ?_;refine tS HT_ HW_ hHeld 5 38 ?_;refine tS HT_ HW_ hHeld 7 40 ?_;refine pS HT_ 9 42 ?_;refine pS HT_ 10 43 ?_;refine tS HT_ HW_ hHeld 11 44 ?_;refine pS HT_ 12 45 ?_;refine pS HT_ 13 46 ?_;refine pS HT_ 14 47 ?_;refine pS HT_ 16 49 ?_;refine pS HT_ 20 53 ?_;refine pS HT_ 22 55 ?_;refine tS HT_ HW_ hHeld 15 48 ?_;refine pS HT_ 17 50 ?_;refine pS HT_ 18 51 ?_;refine tS HT_ HW_ hHeld 19 52 ?_;refine tS HT_ HW_ hHeld 21 54 ?_;refine pS HT_ 23 56 ?_;refine pS HT_ 24 57 ?_;refine tS HT_ HW_ hHeld 25 58 ?_;refine pS HT_ 26 59 ?_;refine pS HT_ 27 60 ?_;refine pS HT_ 28 61 ?_;refine pS HT_ 29 62 ?_;refine pS HT_ 31 64 ?_;refine pS HT_ 35 68 ?_;refine pS HT_ 37 70 ?_;refine tS HT_ HW_ hHeld 30 63 ?_;refine pS HT_ 32 65 ?_;refine pS HT_ 33 66 ?_;refine tS HT_ HW_ hHeld 34 67 ?_;refine tS HT_ HW_ hHeld 36 69 ?_;refine pS HT_ 38 71 ?_;refine pS HT_ 39 72 ?_;refine tS HT_ HW_ hHeld 40 73 ?_
             refine one_ (i:=41) (N:=some 74) #[true,true,true,true,true,true,true,true,true,true,true,true,true,true,true,true,true,true,true,true,true,true,true,true,true,true,true,true,true,true,true,true,true,true,true,true,true,true,true,true,true,true,false,false] rfl rfl (one_of HT_.out (by kernel_rfl)) (by decide) (fun K hK => ?_)
             refine goes_ Try.func8 (by kernel_rfl) rfl #[.slice A105_0 ((rd_T34 l0_1 x30_2).f0).length c105_0,.slice A106_0 ((rd_T34 l1_1 x30_2).f0).length c106_0] (by rfl) rfl rfl (by(try simp only[List.map_toArray,List.map_cons,List.map_nil]);first|done|rfl|(simp only[List.length_drop,List.length_take];rfl)) ?_
             with_reducible refine(laws_sameInts.calls k2 _ _ ((rd_T34 l0_1 x30_2).f0) _ _ ((rd_T34 l1_1 x30_2).f0) true _ ?side1 ?side2 ?side3 ?side4 A20.out rfl).mono ?_
             (case side1=>exact bC HR109_0.out)
             (case side2=>exact HC109_0.out)
             (case side3=>exact bC HR110_0.out)
             (case side4=>exact HC110_0.out)
             rintro e w' ⟨rfl,⟨nd,rfl⟩⟩
             refine⟨_,rfl,?_⟩
             refine hK.out _ _ ⟨(blk_cell BK103.out 0).trans rfl,(blk_cell BK103.out 1).trans rfl,(blk_cell BK103.out 2).trans rfl,(blk_cell BK104.out 0).trans rfl,(blk_cell BK104.out 1).trans rfl,(blk_cell BK104.out 2).trans rfl,((HB.out.cell (World.block_lt_of_cell? w _ hw105_0)).trans hw105_0),((HB.out.cell (World.block_lt_of_cell? w _ hw105_1)).trans hw105_1),((HB.out.cell (World.block_lt_of_cell? w _ hw105_2)).trans hw105_2),((HB.out.cell (World.block_lt_of_cell? w _ hw106_0)).trans hw106_0),((HB.out.cell (World.block_lt_of_cell? w _ hw106_1)).trans hw106_1),((HB.out.cell (World.block_lt_of_cell? w _ hw106_2)).trans hw106_2),((HB.out.cell (World.block_lt_of_cell? w _ hw107_0)).trans hw107_0),((HB.out.cell (World.block_lt_of_cell? w _ hw107_1)).trans hw107_1),((HB.out.cell (World.block_lt_of_cell? w _ hw107_2)).trans hw107_2),((HB.out.cell (World.block_lt_of_cell? w _ hw108_0)).trans hw108_0),((HB.out.cell (World.block_lt_of_cell? w _ hw108_1)).trans hw108_1),((HB.out.cell (World.block_lt_of_cell? w _ hw108_2)).trans hw108_2),((HB.out.cell (World.block_lt_of_cell? w _ hw109_0)).trans hw109_0),((HB.out.cell (World.block_lt_of_cell? w _ hw109_1)).trans hw109_1),((HB.out.cell (World.block_lt_of_cell? w _ hw109_2)).trans hw109_2),((HB.out.cell (World.block_lt_of_cell? w _ hw110_0)).trans hw110_0),((HB.out.cell (World.block_lt_of_cell? w _ hw110_1)).trans hw110_1),((HB.out.cell (World.block_lt_of_cell? w _ hw110_2)).trans hw110_2)⟩ (fun hHeld => ?_)
             clear hK K
             refine norm_ (a':=?_) ?_ ?_
             rotate_left
             ·show Act.put _ (some 74) _=_
              simp only[Act.put,zA,zB,zC,i64_w,i32_w]
              rfl
             refine pS HT_ 42 75 ?_;refine pS HT_ 43 76 ?_
             refine done_ (done_of HT_.out (by kernel_rfl)) ?_
             try go_wp2
             go_roundg k2
             case measure=>have:=HJ2.out;have:=HK2.out;omega
             case rel=>exact⟨(wrap64 (x30_2+1)),(bR),H',⟨by have:=HJ2.out;have:=HK2.out;omega⟩,⟨by(with_reducible repeat (first|refine blk_drewN ?_ _|refine blk_drew ?_|refine blk_alloc ?_ _));exact BK103.out⟩,⟨by(with_reducible repeat (first|refine blk_drewN ?_ _|refine blk_drew ?_|refine blk_alloc ?_ _));exact BK104.out⟩,⟨bS2 GE103.out GE104.out⟩⟩
            ·replace c21:=Bool.eq_false_iff.mpr c21
             subst c21
             have H1:(some false)=some r:=by rw[if_neg (show ¬ (false=true) by decide)] at H;exact H
             clear H
             have H:=H1
             clear H1
             exact Bool.noConfusion ((Option.some.inj H).trans HT.out)
           ·rw[if_neg c19] at H
            have c19b0:(((rd_T34 l0_1 x30_2).f2) == ((rd_T34 l1_1 x30_2).f2))=false:=beq_eq_false_iff_ne.mpr c19
            have c19b1:(((rd_T34 l0_1 x30_2).f2) != ((rd_T34 l1_1 x30_2).f2))=true:=bne_iff_ne.mpr c19
            exact Bool.noConfusion ((Option.some.inj H).trans HT.out)
          ·rw[if_neg c18] at H
           have c18b0:(((rd_T34 l0_1 x30_2).f1) == ((rd_T34 l1_1 x30_2).f1))=false:=beq_eq_false_iff_ne.mpr c18
           have c18b1:(((rd_T34 l0_1 x30_2).f1) != ((rd_T34 l1_1 x30_2).f1))=true:=bne_iff_ne.mpr c18
           exact Bool.noConfusion ((Option.some.inj H).trans HT.out)
         ·rw[if_neg c17] at H
          exact absurd H (by simp)
        ·rw[if_neg c16] at H
         exact absurd H (by simp)
       ·rw[if_neg c15] at H
        exact absurd H (by simp)
      ·rw[if_neg c14] at H
       have c14b0:decide (x30_2 < (l0_1.length:Int))=false:=decide_eq_false c14
       clear c14
       obtain rfl:=Option.some.inj H
       go_wp2
       go_ret
       exact⟨bE,bS2 GE103.out GE104.out⟩

/-! ### spec_l1In: function 27 -/
def spec_l1In.f (a0:Int) (a1:Int) (a2:Int):Option (Bool):=if a0 ≥ a1 then (some (decide (a0≤a2))) else (some false)
set_option maxHeartbeats 8000000 in
set_option maxRecDepth 100000 in
theorem spec_l1In.calls (a0:Int) (a1:Int) (a2:Int) (r:Bool) (w:World) (h:spec_l1In.f a0 a1 a2=some r) :
  Calls Try.prog 27 #[.int .i64 a0,.int .i64 a1,.int .i64 a2] w fun e w'=>e=.returned (.bool r)∧Drawn0 w w':=by
 have H:(if a0 ≥ a1 then (some (decide (a0≤a2))) else (some false))=some r:=h
 clear h
 by_cases c4:a0 ≥ a1
 ·rw[if_pos c4] at H
  have c4b0:decide (a1≤a0)=true:=decide_eq_true c4
  clear c4
  obtain rfl:=Option.some.inj H
  go_enter Try.func27,Try.ntmps27
  go_wp2
  go_ret
  exact⟨bR,bW⟩
 ·rw[if_neg c4] at H
  have c4b0:decide (a1≤a0)=false:=decide_eq_false c4
  clear c4
  obtain rfl:=Option.some.inj H
  go_enter Try.func27,Try.ntmps27
  go_wp2
  go_ret
  exact⟨bR,bW⟩

end Go.Proofs.Ythghcoepkknkeaa.XFnFair
