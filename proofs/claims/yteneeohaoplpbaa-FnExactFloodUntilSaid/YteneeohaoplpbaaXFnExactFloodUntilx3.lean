-- Written by this session's own program (wip/xprint.py) out of the translation; Lean checks it.
import Derived.Test.YteneeohaoplpbaaXFnExactFloodUntilx0
namespace Go.Proofs.Yteneeohaoplpbaa.XFnExactFloodUntil
open Go.RowKit Go.Proofs.YteneeohaoplpbaaW.PrintWords Go.Proofs.YteneeohaoplpbaaW.PrintLast Go.Proofs.YteneeohaoplpbaaW.PrintMore
attribute [local go_sem] max2_int min2_int max_two min_two max_three min_three max_four min_four   -- for this text's walks alone
set_option linter.unusedVariables false
set_option linter.unusedSimpArgs false

/-! ### laws_toContact: function 87 -/
def laws_toContact.f (a0_0:Int) (a0_1:Int) (a0_2:Int) (a0_3:Int) (a0_4:Int):Option (Int × Int × Int × Int × Int):=some (a0_0,a0_1,a0_2,a0_3,a0_4)
set_option maxHeartbeats 8000000 in
set_option maxRecDepth 100000 in
theorem laws_toContact.calls (a0_0:Int) (a0_1:Int) (a0_2:Int) (a0_3:Int) (a0_4:Int) (r1:Int) (r2:Int) (r3:Int) (r4:Int) (r5:Int) (w:World) (h:laws_toContact.f a0_0 a0_1 a0_2 a0_3 a0_4=some (r1,r2,r3,r4,r5)) :
  Calls Try.prog 87 #[.agg #[.int .i64 a0_0,.int .i64 a0_1,.int .i64 a0_2,.int .i64 a0_3,.int .i64 a0_4]] w fun e w'=>e=.returned (.agg #[.int .i64 r1,.int .i64 r2,.int .i64 r3,.int .i64 r4,.int .i64 r5])∧Below w.heap.size w w':=by
 have hu125:=Try.underlying125
 have hu104:=Try.underlying104
 have HB:=Aside0.mk (Below.refl w.heap.size w)
 have H:(some (a0_0,a0_1,a0_2,a0_3,a0_4))=some (r1,r2,r3,r4,r5):=h
 clear h
 simp only[Option.some.injEq,Prod.mk.injEq] at H
 obtain⟨rfl,rfl,rfl,rfl,rfl⟩:=H
 go_enter Try.func87,Try.ntmps87
 go_wp2_with (first|((with_reducible refine gate_dst (N:=1) rfl ?_);refine box_event ?hg (N:=1) ?hd (cs:=#[.int .i64 a0_0,.int .i64 a0_1,.int .i64 a0_2,.int .i64 a0_3,.int .i64 a0_4]) (t:=125) ?hr ?_;(case hd=>rfl);(case hg=>rfl);(case hr=>first|(go_simp;done)|(go_simp;rfl));intro gb128 hg w2 hbox hb;have n0_:=Aside0.mk (below_step (bB) hb);have n1_:=Aside0.mk (hbox);have n2_:=Aside0.mk ((bG:w.heap.size≤gb128));have n3_:=Aside0.mk ((bG:w.heap.size≤gb128));clear HB;have HB:=n0_;have BK128:=n1_;have GW128:=n2_;have GE128:=n3_;clear n0_ n1_ n2_ n3_;clear hb hbox hg)|((with_reducible refine gate_dst (N:=2) rfl ?_);refine box_event ?hg (N:=2) ?hd (cs:=#[.int .i64 0,.int .i64 0,.int .i64 0,.int .i64 0,.int .i64 0]) (t:=104) ?hr ?_;(case hd=>rfl);(case hg=>rfl);(case hr=>first|(go_simp;done)|(go_simp;rfl));intro gb129 hg w3 hbox hb;have n0_:=Aside0.mk (bM BK128.out hb);have n1_:=Aside0.mk (below_step (bS GE128.out) hb);have n2_:=Aside0.mk (hbox);have n3_:=Aside0.mk ((by rw[hg];exact(below_size (bS GE128.out)):w.heap.size≤gb129));have n4_:=Aside0.mk ((by rw[hg];exact(below_size (bS GE128.out)):w.heap.size≤gb129));have n5_:=Aside0.mk ((bN BK128.out hg:gb128≠gb129));have n6_:=Aside0.mk ((bO BK128.out hg:gb129≠gb128));clear BK128 HB;have BK128:=n0_;have HB:=n1_;have BK129:=n2_;have GW129:=n3_;have GE129:=n4_;have NB128_129:=n5_;have NB129_128:=n6_;clear n0_ n1_ n2_ n3_ n4_ n5_ n6_;clear hb hbox hg)|((with_reducible refine gate_dst (N:=3) rfl ?_);refine box_event ?hg (N:=3) ?hd (cs:=#[.int .i64 0,.int .i64 0,.int .i64 0,.int .i64 0,.int .i64 0]) (t:=104) ?hr ?_;(case hd=>rfl);(case hg=>rfl);(case hr=>first|(go_simp;done)|(go_simp;rfl));intro gb130 hg w4 hbox hb;have n0_:=Aside0.mk (bM BK128.out hb);have n1_:=Aside0.mk (bM BK129.out hb);have n2_:=Aside0.mk (below_step (bS2 GE128.out GE129.out) hb);have n3_:=Aside0.mk (hbox);have n4_:=Aside0.mk ((by rw[hg];exact(below_size (bS2 GE128.out GE129.out)):w.heap.size≤gb130));have n5_:=Aside0.mk ((by rw[hg];exact(below_size (bS2 GE128.out GE129.out)):w.heap.size≤gb130));have n6_:=Aside0.mk ((bN BK128.out hg:gb128≠gb130));have n7_:=Aside0.mk ((bO BK128.out hg:gb130≠gb128));have n8_:=Aside0.mk ((bN BK129.out hg:gb129≠gb130));have n9_:=Aside0.mk ((bO BK129.out hg:gb130≠gb129));clear BK128 BK129 HB;have BK128:=n0_;have BK129:=n1_;have HB:=n2_;have BK130:=n3_;have GW130:=n4_;have GE130:=n5_;have NB128_130:=n6_;have NB130_128:=n7_;have NB129_130:=n8_;have NB130_129:=n9_;clear n0_ n1_ n2_ n3_ n4_ n5_ n6_ n7_ n8_ n9_;clear hb hbox hg;have hnb5:=NB128_129.out;have hnc5:=NB129_128.out;have hnb6:=NB128_130.out;have hnc6:=NB130_128.out;obtain⟨hcz7_0,hcz7_1,hcz7_2,hcz7_3,hcz7_4⟩:=cC5 BK128.out;obtain⟨hfz7_0,hfz7_1,hfz7_2,hfz7_3,hfz7_4⟩:=cF5 BK128.out;have hnb8:=NB130_129.out;have hnc8:=NB129_130.out;obtain⟨hcz9_0,hcz9_1,hcz9_2,hcz9_3,hcz9_4⟩:=cC5 BK130.out;obtain⟨hfz9_0,hfz9_1,hfz9_2,hfz9_3,hfz9_4⟩:=cF5 BK130.out;obtain⟨hcz10_0,hcz10_1,hcz10_2,hcz10_3,hcz10_4⟩:=cC5 BK129.out;obtain⟨hfz10_0,hfz10_1,hfz10_2,hfz10_3,hfz10_4⟩:=cF5 BK129.out))
 refine bodyPost_ret (results_cell_row rfl _ _ gb129 104 #[.int .i64 a0_0,.int .i64 a0_1,.int .i64 a0_2,.int .i64 a0_3,.int .i64 a0_4] (0,0) _ rfl (by(with_reducible repeat (first|refine blk_drewN ?_ _|refine blk_drew ?_|refine blk_alloc ?_ _));refine blk_put (cs:=#[.int .i64 a0_0,.int .i64 a0_1,.int .i64 a0_2,.int .i64 a0_3,.int .i64 0]) ?_ 4 _ rfl;(with_reducible repeat (first|refine blk_drewN ?_ _|refine blk_drew ?_|refine blk_alloc ?_ _));refine blk_put (cs:=#[.int .i64 a0_0,.int .i64 a0_1,.int .i64 a0_2,.int .i64 0,.int .i64 0]) ?_ 3 _ rfl;(with_reducible repeat (first|refine blk_drewN ?_ _|refine blk_drew ?_|refine blk_alloc ?_ _));refine blk_put (cs:=#[.int .i64 a0_0,.int .i64 a0_1,.int .i64 0,.int .i64 0,.int .i64 0]) ?_ 2 _ rfl;(with_reducible repeat (first|refine blk_drewN ?_ _|refine blk_drew ?_|refine blk_alloc ?_ _));refine blk_put (cs:=#[.int .i64 a0_0,.int .i64 0,.int .i64 0,.int .i64 0,.int .i64 0]) ?_ 1 _ rfl;(with_reducible repeat (first|refine blk_drewN ?_ _|refine blk_drew ?_|refine blk_alloc ?_ _));refine blk_put (cs:=#[.int .i64 0,.int .i64 0,.int .i64 0,.int .i64 0,.int .i64 0]) ?_ 0 _ rfl;(with_reducible repeat (first|refine blk_drewN ?_ _|refine blk_drew ?_|refine blk_alloc ?_ _));refine blk_far ?_ NB129_130.out _;(with_reducible repeat (first|refine blk_drewN ?_ _|refine blk_drew ?_|refine blk_alloc ?_ _));refine blk_far ?_ NB129_130.out _;(with_reducible repeat (first|refine blk_drewN ?_ _|refine blk_drew ?_|refine blk_alloc ?_ _));refine blk_far ?_ NB129_130.out _;(with_reducible repeat (first|refine blk_drewN ?_ _|refine blk_drew ?_|refine blk_alloc ?_ _));refine blk_far ?_ NB129_130.out _;(with_reducible repeat (first|refine blk_drewN ?_ _|refine blk_drew ?_|refine blk_alloc ?_ _));refine blk_far ?_ NB129_130.out _;(with_reducible repeat (first|refine blk_drewN ?_ _|refine blk_drew ?_|refine blk_alloc ?_ _));exact BK129.out) Try.underlying104 rfl (b0_)) rfl ?_
 exact⟨bE,bS3 GE128.out GE129.out GE130.out⟩

/-! ### laws_toContactS: function 24 -/
def laws_toContactS.l0:Nat→List (S125)→List (S104)→Int→Option ((List (S104)))
 | 0,_,_,_=>none
 | k+1,x0,x3,x4=>if x4 < (x0.length:Int) then (if 0≤x4 then ((laws_toContact.f ((rd_T125 x0 x4).f0) ((rd_T125 x0 x4).f1) ((rd_T125 x0 x4).f2) ((rd_T125 x0 x4).f3) ((rd_T125 x0 x4).f4)).bind fun bt135=>(if x4 < (x3.length:Int) then (laws_toContactS.l0 k x0 (x3.set (x4:Int).toNat (⟨bt135.1,bt135.2.1,bt135.2.2.1,bt135.2.2.2.1,bt135.2.2.2.2⟩:S104)) (wrap64 (x4+1))) else (none))) else (none)) else (some x3)
def laws_toContactS.f (k:Nat) (l0:List (S125)):Option ((List (S104))):=if 0≤(l0.length:Int) then (if ((l0.length:Int):Int).toNat≤7036874417766 then (laws_toContactS.l0 k l0 (List.replicate ((l0.length:Int):Int).toNat z104) 0) else (none)) else (none)
theorem laws_toContactS.mono_l : ∀ k,(∀ y0 y1 y2,LeO (laws_toContactS.l0 k y0 y1 y2) (laws_toContactS.l0 (k+1) y0 y1 y2))
 | 0=>fun _ _ _ r h=>by simp[laws_toContactS.l0] at h
 | k+1=>by
  have ih0:=laws_toContactS.mono_l k
  ·intro y0 y1 y2
   unfold laws_toContactS.l0
   repeat' first
   | (with_reducible exact ih0 _ _ _)
   | (with_reducible exact LeO.refl _)
   | (with_reducible exact LeO.none _)
   | (with_reducible refine LeO.ite ?_ ?_)
   | (with_reducible refine LeO.bind ?_ (fun _ => ?_))
   | exact ih0 _ _ _
   | exact LeO.none _
   | refine LeO.ite ?_ ?_
   | refine LeO.bind ?_ (fun _ => ?_)
theorem laws_toContactS.mono : ∀ a0 k,LeO (laws_toContactS.f k a0) (laws_toContactS.f (k+1) a0):=by
 intro a0 k
 have ih0:=laws_toContactS.mono_l k
 unfold laws_toContactS.f
 repeat' first
  | (with_reducible exact ih0 _ _ _)
  | (with_reducible exact LeO.refl _)
  | (with_reducible exact LeO.none _)
  | (with_reducible refine LeO.ite ?_ ?_)
  | (with_reducible refine LeO.bind ?_ (fun _ => ?_))
  | exact ih0 _ _ _
  | exact LeO.none _
  | refine LeO.ite ?_ ?_
  | refine LeO.bind ?_ (fun _ => ?_)
set_option maxHeartbeats 8000000 in
set_option maxRecDepth 100000 in
theorem laws_toContactS.calls (k:Nat) (A0:Option Addr) (c0:Nat) (l0:List (S125)) (r:List (S104)) (w:World) (hr0:Kd.C k125 w A0 l0.length l0) (hc0:l0.length≤c0) (h:laws_toContactS.f k l0=some r) :
  Calls Try.prog 24 #[.slice A0 l0.length c0] w fun e w' => ∃ v0_:Value,e=.returned (v0_)∧Kd.R k104 104 w' w.heap.size (fun _=>True) v0_ r∧Below w.heap.size w w':=by
 have hu125:=Try.underlying125
 have hu104:=Try.underlying104
 have HR0:=Aside0.mk hr0
 have HC0:=Aside0.mk hc0
 clear hr0 hc0
 have HB:=Aside0.mk (Below.refl w.heap.size w)
 have H:(if 0≤(l0.length:Int) then (if ((l0.length:Int):Int).toNat≤7036874417766 then (laws_toContactS.l0 k l0 (List.replicate ((l0.length:Int):Int).toNat z104) 0) else (none)) else (none))=some r:=h
 clear h
 by_cases c2:0≤(l0.length:Int)
 ·rw[if_pos c2] at H
  have c2b0:=eq_true c2
  have c2b1:decide (0≤(l0.length:Int))=true:=decide_eq_true c2
  clear c2
  by_cases c3:((l0.length:Int):Int).toNat≤7036874417766
  ·rw[if_pos c3] at H
   have c3b0:=eq_true c3
   have c3b1:decide (((l0.length:Int):Int).toNat≤7036874417766)=true:=decide_eq_true c3
   clear c3
   obtain⟨y131,hy131⟩ : ∃ y_:List (S104),y_=(List.replicate ((l0.length:Int):Int).toNat z104):=⟨_,rfl⟩
   replace H:(laws_toContactS.l0 k l0 y131 0)=some r:=by first|(rw[hy131];with_reducible exact H)|(have H2_:=(Option.bind_some _ _).symm.trans H;rw[hy131];with_reducible exact H2_)|(have H2_:=(Option.bind_some _ _).symm.trans H;with_reducible exact H2_)|with_reducible exact H|(rw[hy131];exact H)|exact H
   have Ny131:=Aside0.mk hy131
   clear hy131
   have H':=Aside0.mk H
   clear H
   go_enter Try.func24,Try.ntmps24
   go_wp2_with (first|((with_reducible refine gate_dst (N:=7) rfl ?_);refine Kd.R_make k104 _ 104 rfl (N:=7) rfl 40 _ _ rfl (l0.length:Int) rfl rfl Try.underlying40 (.agg #[(.int .i64 0),(.int .i64 0),(.int .i64 0),(.int .i64 0),(.int .i64 0)]) 40 info104 rfl (b4_) (by omega) z104 (ok:=fun _=>True) (okp:=fun _=>True) (k104_mkM _ _ _ z104 ) (fun _ hk=>hk) trivial (of_decide_eq_true (bD)) (Nat.le_trans (Nat.mul_le_mul_right _ (of_decide_eq_true (bD):(l0.length:Int).toNat≤7036874417766)) (by omega)) (Below.refl _ _) (Nat.le_refl _) ?_;intro v132 w4 ho5 hb hg_ hnew_;clear hg_ hnew_;(first|rw[← Ny131.out] at ho5|(simp only[Int.reduceToNat] at ho5;rw[← Ny131.out] at ho5));have n0_:=Aside0.mk (Kd.R_lower ho5 (below_size (bB)));have n1_:=Aside0.mk (below_step (bB) hb);clear HB;have HO133:=n0_;have HB:=n1_;clear n0_ n1_;clear hb ho5))
   go_loopg [4] k (fun kq v4 w' => ∃ (x3_1:List (S104)) (x4_1:Int),v4=.int .i64 x4_1∧Aside0 (laws_toContactS.l0 kq l0 x3_1 x4_1=some r)∧Aside0 (kq≤k)∧Aside0 (Kd.R k104 104 w' w.heap.size (fun _=>True) v132 x3_1)∧Aside0 (Below w.heap.size w w'))
   case atStart=>exact⟨(y131),(0),(bR),H',⟨Nat.le_refl _⟩,⟨by(with_reducible repeat (first|apply Kd.R_alloc|apply Kd.R_drewN|apply Kd.R_drew));exact HO133.out⟩,⟨by repeat (first|(with_reducible first|exact HB.out|apply below_alloc|apply pw_below_drewN|apply below_drew1)|exact HB.out)⟩⟩
   case round =>
    clear H'
    try clear c2
    try clear c2b0
    try clear c2b1
    try clear p2
    try clear c3
    try clear c3b0
    try clear c3b1
    obtain⟨x3_1,x4_1,rfl,HA,HK1,HO_3,HB⟩:=hrel
    cases gk with
    | zero=>exact absurd HA.out (by simp[laws_toContactS.l0])
    | succ k1 =>
     have H:=HA.out
     clear HA
     simp only[laws_toContactS.l0] at H
     by_cases c6:x4_1 < (l0.length:Int)
     ·rw[if_pos c6] at H
      have c6b0:decide (x4_1 < (l0.length:Int))=true:=decide_eq_true c6
      clear c6
      by_cases c7:0≤x4_1
      ·rw[if_pos c7] at H
       have c7b0:decide (0≤x4_1)=true:=decide_eq_true c7
       clear c7
       replace H:=Option.bind_eq_some_iff.mp H
       obtain⟨⟨t135,t136,t137,t138,t139⟩,A80,H⟩:=H
       have A8:=Aside0.mk A80
       clear A80
       by_cases c9:x4_1 < (x3_1.length:Int)
       ·rw[if_pos c9] at H
        have c9b0:decide (x4_1 < (x3_1.length:Int))=true:=decide_eq_true c9
        clear c9
        obtain⟨y140,hy140⟩ : ∃ y_:List (S104),y_=(x3_1.set (x4_1:Int).toNat (⟨t135,t136,t137,t138,t139⟩:S104)):=⟨_,rfl⟩
        replace H:(laws_toContactS.l0 k1 l0 y140 (wrap64 (x4_1+1)))=some r:=by first|(rw[hy140];with_reducible exact H)|(have H2_:=(Option.bind_some _ _).symm.trans H;rw[hy140];with_reducible exact H2_)|(have H2_:=(Option.bind_some _ _).symm.trans H;with_reducible exact H2_)|with_reducible exact H|(rw[hy140];exact H)|exact H
        have Ny140:=Aside0.mk hy140
        clear hy140
        have H':=Aside0.mk H
        clear H
        have p134:0≤(x4_1:Int):=of_decide_eq_true (bD)
        have q134:x4_1 < (l0.length:Int):=of_decide_eq_true (bD)
        obtain⟨ad134,e134,hx134_0,hx134_1,hx134_2,hx134_3,hx134_4⟩:=at_T125 HR0.out x4_1 p134 q134
        cases e134
        replace hx134_0:=(HB.out.cell (World.block_lt_of_cell? w _ hx134_0)).trans hx134_0
        replace hx134_1:=(HB.out.cell (World.block_lt_of_cell? w _ hx134_1)).trans hx134_1
        replace hx134_2:=(HB.out.cell (World.block_lt_of_cell? w _ hx134_2)).trans hx134_2
        replace hx134_3:=(HB.out.cell (World.block_lt_of_cell? w _ hx134_3)).trans hx134_3
        replace hx134_4:=(HB.out.cell (World.block_lt_of_cell? w _ hx134_4)).trans hx134_4
        replace p134:=eq_true p134
        replace q134:=eq_true q134
        go_wp2_with (first|((with_reducible refine gate_callee (f:=87) rfl ?_);refine goesA (some 20) rfl rfl Try.func87 #[.agg #[.int .i64 ((rd_T125 l0 x4_1).f0),.int .i64 ((rd_T125 l0 x4_1).f1),.int .i64 ((rd_T125 l0 x4_1).f2),.int .i64 ((rd_T125 l0 x4_1).f3),.int .i64 ((rd_T125 l0 x4_1).f4)]] rfl ?_;(with_reducible refine(laws_toContact.calls ((rd_T125 l0 x4_1).f0) ((rd_T125 l0 x4_1).f1) ((rd_T125 l0 x4_1).f2) ((rd_T125 l0 x4_1).f3) ((rd_T125 l0 x4_1).f4) t135 t136 t137 t138 t139 _ A8.out).mono ?_);rintro e w11 ⟨rfl,hb⟩;refine⟨_,rfl,?_⟩;have n0_:=Aside0.mk (Kd.R_below (bK HO_3.out) hb);have n1_:=Aside0.mk (below_step (bB) hb);clear HO_3 HB;have HO_3:=n0_;have HB:=n1_;clear n0_ n1_;(try clear hb);(try clear hb2);(try clear hk);(try clear hi);have p10:0≤(x4_1:Int):=of_decide_eq_true (bD);have q10:(x4_1:Int) < ((x3_1.length:Int):Int):=of_decide_eq_true (bD);obtain⟨go10,co10,eo10,gb10,gl10,cl10,HG10⟩:=Kd.R_form HO_3.out (by omega);(first|cases eo10|(injection eo10 with ea_ en_ ec_;(first|subst ea_|(injection ea_ with ea_;subst ea_));subst ec_;clear en_));have GB10:=Aside0.mk gb10;have GG10:=Aside0.mk HG10;clear gb10 gl10 HG10;obtain⟨ce10,hcl10,hM10,hcc10,hfr10⟩:=Kd.R_elem HO_3.out z104 (x4_1:Int) p10 q10;obtain rfl:=k104_openM hM10;have hx10_0:w11.cell? ⟨go10,(x4_1:Int).toNat * 5,none⟩=some (.int .i64 ((rd_T104 x3_1 x4_1).f0)):=hcc10 0 _ rfl;have hx10_1:w11.cell? ⟨go10,(x4_1:Int).toNat * 5+1,none⟩=some (.int .i64 ((rd_T104 x3_1 x4_1).f1)):=hcc10 1 _ rfl;have hx10_2:w11.cell? ⟨go10,(x4_1:Int).toNat * 5+2,none⟩=some (.int .i64 ((rd_T104 x3_1 x4_1).f2)):=hcc10 2 _ rfl;have hx10_3:w11.cell? ⟨go10,(x4_1:Int).toNat * 5+3,none⟩=some (.int .i64 ((rd_T104 x3_1 x4_1).f3)):=hcc10 3 _ rfl;have hx10_4:w11.cell? ⟨go10,(x4_1:Int).toNat * 5+4,none⟩=some (.int .i64 ((rd_T104 x3_1 x4_1).f4)):=hcc10 4 _ rfl;have hf10_0:w11.frozen? ⟨go10,(x4_1:Int).toNat * 5,none⟩=false:=hfr10 0;have hf10_1:w11.frozen? ⟨go10,(x4_1:Int).toNat * 5+1,none⟩=false:=hfr10 1;have hf10_2:w11.frozen? ⟨go10,(x4_1:Int).toNat * 5+2,none⟩=false:=hfr10 2;have hf10_3:w11.frozen? ⟨go10,(x4_1:Int).toNat * 5+3,none⟩=false:=hfr10 3;have hf10_4:w11.frozen? ⟨go10,(x4_1:Int).toNat * 5+4,none⟩=false:=hfr10 4;clear hcl10 hcc10 hfr10 hM10;replace p10:=eq_true p10;replace q10:=eq_true q10;have HX12:=Aside0.mk (show Kd.R k104 104 w11 w.heap.size (fun _=>True) (.slice (some ⟨go10,0,none⟩) x3_1.length co10) x3_1 from (bK HO_3.out));obtain⟨ce12,hcl12,hM12,hcc12,hfr12⟩:=Kd.R_elem HX12.out z104 (x4_1:Int) (of_decide_eq_true (bD)) (by have h_:(x4_1:Int) < ((x3_1.length:Int):Int):=of_decide_eq_true (bD);first|exact h_|(have e_:=(Kd.R_reads' HO_3.out).1;omega)|simpa using h_);obtain rfl:=k104_openM hM12;have HP12:=Kd.R_seg HX12.out (x4_1:Int) (of_decide_eq_true (bD)) (by have h_:(x4_1:Int) < ((x3_1.length:Int):Int):=of_decide_eq_true (bD);first|exact h_|(have e_:=(Kd.R_reads' HO_3.out).1;omega)|simpa using h_) (seg:=[.int .i64 t135,.int .i64 t136,.int .i64 t137,.int .i64 t138,.int .i64 t139]) (j:=0) hcl12 hcc12 (show 5≤5 from by decide) (x':=(⟨t135,t136,t137,t138,t139⟩:S104)) (k104_mkM _ _ _ (⟨t135,t136,t137,t138,t139⟩:S104) ) (fun _ hk=>hk);have hx12_0:=hcc12 0 _ rfl;(try simp only[show(k104).sz=5 from rfl,Nat.mul_one,Nat.add_zero] at hx12_0);have hf12_0:=hfr12 0;(try simp only[show(k104).sz=5 from rfl,Nat.mul_one,Nat.add_zero] at hf12_0);have hx12_1:=hcc12 1 _ rfl;(try simp only[show(k104).sz=5 from rfl,Nat.mul_one,Nat.add_zero] at hx12_1);have hf12_1:=hfr12 1;(try simp only[show(k104).sz=5 from rfl,Nat.mul_one,Nat.add_zero] at hf12_1);have hx12_2:=hcc12 2 _ rfl;(try simp only[show(k104).sz=5 from rfl,Nat.mul_one,Nat.add_zero] at hx12_2);have hf12_2:=hfr12 2;(try simp only[show(k104).sz=5 from rfl,Nat.mul_one,Nat.add_zero] at hf12_2);have hx12_3:=hcc12 3 _ rfl;(try simp only[show(k104).sz=5 from rfl,Nat.mul_one,Nat.add_zero] at hx12_3);have hf12_3:=hfr12 3;(try simp only[show(k104).sz=5 from rfl,Nat.mul_one,Nat.add_zero] at hf12_3);have hx12_4:=hcc12 4 _ rfl;(try simp only[show(k104).sz=5 from rfl,Nat.mul_one,Nat.add_zero] at hx12_4);have hf12_4:=hfr12 4;(try simp only[show(k104).sz=5 from rfl,Nat.mul_one,Nat.add_zero] at hf12_4);clear hcl12 hcc12 hfr12 hM12)|((with_reducible refine gate_store (t:=104) (p:=21) rfl ?_);refine store_event (t:=104) (p:=21) (v:=?vo_w13) (w1:=(((((w11.setCell ⟨go10,(x4_1:Int).toNat * 5,none⟩ (.int .i64 t135)).setCell ⟨go10,(x4_1:Int).toNat * 5+1,none⟩ (.int .i64 t136)).setCell ⟨go10,(x4_1:Int).toNat * 5+2,none⟩ (.int .i64 t137)).setCell ⟨go10,(x4_1:Int).toNat * 5+3,none⟩ (.int .i64 t138)).setCell ⟨go10,(x4_1:Int).toNat * 5+4,none⟩ (.int .i64 t139))) ?hg ?ho ?hn ?hr ?_;(case ho=>rfl);(case hg=>rfl);(case hn=>rfl);(case hr=>first|(go_simp;done)|(go_simp;rfl));intro w13 hw;have hg:w11.grownBy w13 (some go10):=(by rw[hw];exact HP12.2);have hp_:Kd.R k104 104 w13 w.heap.size (fun _=>True) (.slice (some ⟨go10,0,none⟩) x3_1.length co10) y140:=(by rw[hw,Ny140.out];exact HP12.1);clear HP12;have n0_:=Aside0.mk (hp_);have n1_:=Aside0.mk ((by rw[hw];exact below_set (below_set (below_set (below_set (below_set (HB.out) GB10.out) GB10.out) GB10.out) GB10.out) GB10.out:Below w.heap.size w w13));clear HO_3 HB;have HO_3:=n0_;have HB:=n1_;clear n0_ n1_;clear hg hw hp_))
        go_roundg k1
        case measure=>have:=HK1.out;omega
        case rel=>exact⟨(y140),(wrap64 (x4_1+1)),(bR),H',⟨by have:=HK1.out;omega⟩,⟨by(with_reducible repeat (first|apply Kd.R_alloc|apply Kd.R_drewN|apply Kd.R_drew));exact HO_3.out⟩,⟨by repeat (first|(with_reducible first|exact HB.out|apply below_alloc|apply pw_below_drewN|apply below_drew1)|exact HB.out)⟩⟩
       ·rw[if_neg c9] at H
        exact absurd H (by simp)
      ·rw[if_neg c7] at H
       exact absurd H (by simp)
     ·rw[if_neg c6] at H
      have c6b0:decide (x4_1 < (l0.length:Int))=false:=decide_eq_false c6
      clear c6
      obtain rfl:=Option.some.inj H
      go_wp2
      go_ret
      exact⟨_,by first|rfl|(simp[errW_none,errW_some]<;>rfl)|(simp[*,errW_none,errW_some]<;>rfl),by(with_reducible repeat (first|apply Kd.R_alloc|apply Kd.R_drewN|apply Kd.R_drew));exact HO_3.out,bB⟩
  ·rw[if_neg c3] at H
   exact absurd H (by simp)
 ·rw[if_neg c2] at H
  exact absurd H (by simp)

-- NOT PRINTED: function 169 (impl_Contact_169)

-- NOT PRINTED: function 144 (impl_Contact_144)

/-! ### impl_within: function 79 -/
def impl_within.f (a0:Int) (a1:Int) (a2:Int):Option (Bool):=if a1≤a0 then (some (decide (a0≤a2))) else (some false)
set_option maxHeartbeats 8000000 in
set_option maxRecDepth 100000 in
theorem impl_within.calls (a0:Int) (a1:Int) (a2:Int) (r:Bool) (w:World) (h:impl_within.f a0 a1 a2=some r) :
  Calls Try.prog 79 #[.int .i64 a0,.int .i64 a1,.int .i64 a2] w fun e w'=>e=.returned (.bool r)∧Drawn0 w w':=by
 have H:(if a1≤a0 then (some (decide (a0≤a2))) else (some false))=some r:=h
 clear h
 by_cases c4:a1≤a0
 ·rw[if_pos c4] at H
  have c4b0:decide (a1≤a0)=true:=decide_eq_true c4
  clear c4
  obtain rfl:=Option.some.inj H
  go_enter Try.func79,Try.ntmps79
  go_wp2
  go_ret
  exact⟨bR,bW⟩
 ·rw[if_neg c4] at H
  have c4b0:decide (a1≤a0)=false:=decide_eq_false c4
  clear c4
  obtain rfl:=Option.some.inj H
  go_enter Try.func79,Try.ntmps79
  go_wp2
  go_ret
  exact⟨bR,bW⟩

/-! ### impl_isNode: function 89 -/
def impl_isNode.f (a0:Int):Option (Bool):=(impl_within.f a0 0 7).bind fun t143=>(some t143)
set_option maxHeartbeats 8000000 in
set_option maxRecDepth 100000 in
theorem impl_isNode.calls (a0:Int) (r:Bool) (w:World) (h:impl_isNode.f a0=some r) :
  Calls Try.prog 89 #[.int .i64 a0] w fun e w'=>e=.returned (.bool r)∧Drawn0 w w':=by
 have H:((impl_within.f a0 0 7).bind fun t143=>(some t143))=some r:=h
 clear h
 replace H:=Option.bind_eq_some_iff.mp H
 obtain⟨t143,A20,H⟩:=H
 have A2:=Aside0.mk A20
 clear A20
 obtain rfl:=Option.some.inj H
 go_enter Try.func89,Try.ntmps89
 go_wp2_with (first|((with_reducible refine gate_callee (f:=79) rfl ?_);refine goesA (some 4) rfl rfl Try.func79 #[.int .i64 a0,.int .i64 0,.int .i64 7] rfl ?_;(with_reducible refine(impl_within.calls a0 0 7 t143 _ A2.out).mono ?_);rintro e w' ⟨rfl,⟨nd,rfl⟩⟩;refine⟨_,rfl,?_⟩))
 go_ret
 exact⟨bR,bW⟩

/-! ### impl_areUnlike: function 146 -/
def impl_areUnlike.f (a0:Int) (a1:Int):Option (Bool):=(impl_isNode.f a0).bind fun t144=>(if t144=true then ((impl_isNode.f a1).bind fun t145=>(if t145=true then (some (a0 != a1)) else (some false))) else (some false))
set_option maxHeartbeats 8000000 in
set_option maxRecDepth 100000 in
theorem impl_areUnlike.calls (a0:Int) (a1:Int) (r:Bool) (w:World) (h:impl_areUnlike.f a0 a1=some r) :
  Calls Try.prog 146 #[.int .i64 a0,.int .i64 a1] w fun e w'=>e=.returned (.bool r)∧Drawn0 w w':=by
 have H:((impl_isNode.f a0).bind fun t144=>(if t144=true then ((impl_isNode.f a1).bind fun t145=>(if t145=true then (some (a0 != a1)) else (some false))) else (some false)))=some r:=h
 clear h
 replace H:=Option.bind_eq_some_iff.mp H
 obtain⟨t144,A30,H⟩:=H
 have A3:=Aside0.mk A30
 clear A30
 by_cases c4:t144=true
 ·subst c4
  have H1:((impl_isNode.f a1).bind fun t145=>(if t145=true then (some (a0 != a1)) else (some false)))=some r:=by rw[if_pos rfl] at H;exact H
  clear H
  have H:=H1
  clear H1
  replace H:=Option.bind_eq_some_iff.mp H
  obtain⟨t145,A50,H⟩:=H
  have A5:=Aside0.mk A50
  clear A50
  by_cases c6:t145=true
  ·subst c6
   have H1:(some (a0 != a1))=some r:=by rw[if_pos rfl] at H;exact H
   clear H
   have H:=H1
   clear H1
   obtain rfl:=Option.some.inj H
   go_enter Try.func146,Try.ntmps146
   go_wp2_with (first|((with_reducible refine gate_callee (f:=89) rfl ?_);refine goesA (some 6) rfl rfl Try.func89 #[.int .i64 a0] rfl ?_;(with_reducible refine(impl_isNode.calls a0 true _ A3.out).mono ?_);rintro e w' ⟨rfl,⟨nd,rfl⟩⟩;refine⟨_,rfl,?_⟩)|(go_at_call 89;(with_reducible refine(impl_isNode.calls a1 true _ A5.out).mono ?_);rintro e w' ⟨rfl,⟨nd,rfl⟩⟩))
   go_ret
   exact⟨bR,bW⟩
  ·replace c6:=Bool.eq_false_iff.mpr c6
   subst c6
   have H1:(some false)=some r:=by rw[if_neg (show ¬ (false=true) by decide)] at H;exact H
   clear H
   have H:=H1
   clear H1
   obtain rfl:=Option.some.inj H
   go_enter Try.func146,Try.ntmps146
   go_wp2_with (first|((with_reducible refine gate_callee (f:=89) rfl ?_);refine goesA (some 6) rfl rfl Try.func89 #[.int .i64 a0] rfl ?_;(with_reducible refine(impl_isNode.calls a0 true _ A3.out).mono ?_);rintro e w' ⟨rfl,⟨nd,rfl⟩⟩;refine⟨_,rfl,?_⟩)|(go_at_call 89;(with_reducible refine(impl_isNode.calls a1 false _ A5.out).mono ?_);rintro e w' ⟨rfl,⟨nd,rfl⟩⟩))
   go_ret
   exact⟨bR,bW⟩
 ·replace c4:=Bool.eq_false_iff.mpr c4
  subst c4
  have H1:(some false)=some r:=by rw[if_neg (show ¬ (false=true) by decide)] at H;exact H
  clear H
  have H:=H1
  clear H1
  obtain rfl:=Option.some.inj H
  go_enter Try.func146,Try.ntmps146
  go_wp2_with (first|((with_reducible refine gate_callee (f:=89) rfl ?_);refine goesA (some 6) rfl rfl Try.func89 #[.int .i64 a0] rfl ?_;(with_reducible refine(impl_isNode.calls a0 false _ A3.out).mono ?_);rintro e w' ⟨rfl,⟨nd,rfl⟩⟩;refine⟨_,rfl,?_⟩))
  go_ret
  exact⟨bR,bW⟩

/-! ### impl_GoodPlan_lit1: function 145 -/
def impl_GoodPlan_lit1.f (a0_0:Int) (a0_1:Int) (a0_2:Int) (a0_3:Int) (a0_4:Int):Option (Bool):=(impl_areUnlike.f a0_0 a0_1).bind fun t147=>(if t147=true then (if a0_2 < 0 then (some true) else (if a0_2 ≥ a0_3 then (some true) else (if a0_3 > 1000 then (some true) else ((impl_within.f a0_4 0 100).bind fun t148=>(some (!t148)))))) else (some true))
set_option maxHeartbeats 8000000 in
set_option maxRecDepth 100000 in
theorem impl_GoodPlan_lit1.calls (a0_0:Int) (a0_1:Int) (a0_2:Int) (a0_3:Int) (a0_4:Int) (r:Bool) (w:World) (h:impl_GoodPlan_lit1.f a0_0 a0_1 a0_2 a0_3 a0_4=some r) :
  Calls Try.prog 145 #[.agg #[.int .i64 a0_0,.int .i64 a0_1,.int .i64 a0_2,.int .i64 a0_3,.int .i64 a0_4]] w fun e w'=>e=.returned (.bool r)∧Below w.heap.size w w':=by
 have hu104:=Try.underlying104
 have HB:=Aside0.mk (Below.refl w.heap.size w)
 have H:((impl_areUnlike.f a0_0 a0_1).bind fun t147=>(if t147=true then (if a0_2 < 0 then (some true) else (if a0_2 ≥ a0_3 then (some true) else (if a0_3 > 1000 then (some true) else ((impl_within.f a0_4 0 100).bind fun t148=>(some (!t148)))))) else (some true)))=some r:=h
 clear h
 replace H:=Option.bind_eq_some_iff.mp H
 obtain⟨t147,A20,H⟩:=H
 have A2:=Aside0.mk A20
 clear A20
 by_cases c3:t147=true
 ·subst c3
  have H1:(if a0_2 < 0 then (some true) else (if a0_2 ≥ a0_3 then (some true) else (if a0_3 > 1000 then (some true) else ((impl_within.f a0_4 0 100).bind fun t148=>(some (!t148))))))=some r:=by rw[if_pos rfl] at H;exact H
  clear H
  have H:=H1
  clear H1
  by_cases c4:a0_2 < 0
  ·rw[if_pos c4] at H
   have c4b0:decide (a0_2 < 0)=true:=decide_eq_true c4
   clear c4
   obtain rfl:=Option.some.inj H
   go_enter Try.func145,Try.ntmps145
   go_wp2_with (first|((with_reducible refine gate_dst (N:=1) rfl ?_);refine box_event ?hg (N:=1) ?hd (cs:=#[.int .i64 a0_0,.int .i64 a0_1,.int .i64 a0_2,.int .i64 a0_3,.int .i64 a0_4]) (t:=104) ?hr ?_;(case hd=>rfl);(case hg=>rfl);(case hr=>first|(go_simp;done)|(go_simp;rfl));intro gb146 hg w5 hbox hb;have n0_:=Aside0.mk (below_step (bB) hb);have n1_:=Aside0.mk (hbox);have n2_:=Aside0.mk ((bG:w.heap.size≤gb146));have n3_:=Aside0.mk ((bG:w.heap.size≤gb146));clear HB;have HB:=n0_;have BK146:=n1_;have GW146:=n2_;have GE146:=n3_;clear n0_ n1_ n2_ n3_;clear hb hbox hg;obtain⟨hcz6_0,hcz6_1,hcz6_2,hcz6_3,hcz6_4⟩:=cC5 BK146.out;obtain⟨hfz6_0,hfz6_1,hfz6_2,hfz6_3,hfz6_4⟩:=cF5 BK146.out)|((with_reducible refine gate_callee (f:=146) rfl ?_);refine goesA (some 7) rfl rfl Try.func146 #[.int .i64 a0_0,.int .i64 a0_1] rfl ?_;(with_reducible refine(impl_areUnlike.calls a0_0 a0_1 true _ A2.out).mono ?_);rintro e w' ⟨rfl,⟨nd,rfl⟩⟩;refine⟨_,rfl,?_⟩))
   go_ret
   exact⟨bE,bS GE146.out⟩
  ·rw[if_neg c4] at H
   have c4b0:decide (a0_2 < 0)=false:=decide_eq_false c4
   clear c4
   by_cases c7:a0_2 ≥ a0_3
   ·rw[if_pos c7] at H
    have c7b0:decide (a0_3≤a0_2)=true:=decide_eq_true c7
    clear c7
    obtain rfl:=Option.some.inj H
    go_enter Try.func145,Try.ntmps145
    go_wp2_with (first|((with_reducible refine gate_dst (N:=1) rfl ?_);refine box_event ?hg (N:=1) ?hd (cs:=#[.int .i64 a0_0,.int .i64 a0_1,.int .i64 a0_2,.int .i64 a0_3,.int .i64 a0_4]) (t:=104) ?hr ?_;(case hd=>rfl);(case hg=>rfl);(case hr=>first|(go_simp;done)|(go_simp;rfl));intro gb146 hg w8 hbox hb;have n0_:=Aside0.mk (below_step (bB) hb);have n1_:=Aside0.mk (hbox);have n2_:=Aside0.mk ((bG:w.heap.size≤gb146));have n3_:=Aside0.mk ((bG:w.heap.size≤gb146));clear HB;have HB:=n0_;have BK146:=n1_;have GW146:=n2_;have GE146:=n3_;clear n0_ n1_ n2_ n3_;clear hb hbox hg;obtain⟨hcz9_0,hcz9_1,hcz9_2,hcz9_3,hcz9_4⟩:=cC5 BK146.out;obtain⟨hfz9_0,hfz9_1,hfz9_2,hfz9_3,hfz9_4⟩:=cF5 BK146.out)|((with_reducible refine gate_callee (f:=146) rfl ?_);refine goesA (some 7) rfl rfl Try.func146 #[.int .i64 a0_0,.int .i64 a0_1] rfl ?_;(with_reducible refine(impl_areUnlike.calls a0_0 a0_1 true _ A2.out).mono ?_);rintro e w' ⟨rfl,⟨nd,rfl⟩⟩;refine⟨_,rfl,?_⟩))
    go_ret
    exact⟨bE,bS GE146.out⟩
   ·rw[if_neg c7] at H
    have c7b0:decide (a0_3≤a0_2)=false:=decide_eq_false c7
    clear c7
    by_cases c10:a0_3 > 1000
    ·rw[if_pos c10] at H
     have c10b0:decide (1000 < a0_3)=true:=decide_eq_true c10
     clear c10
     obtain rfl:=Option.some.inj H
     go_enter Try.func145,Try.ntmps145
     go_wp2_with (first|((with_reducible refine gate_dst (N:=1) rfl ?_);refine box_event ?hg (N:=1) ?hd (cs:=#[.int .i64 a0_0,.int .i64 a0_1,.int .i64 a0_2,.int .i64 a0_3,.int .i64 a0_4]) (t:=104) ?hr ?_;(case hd=>rfl);(case hg=>rfl);(case hr=>first|(go_simp;done)|(go_simp;rfl));intro gb146 hg w11 hbox hb;have n0_:=Aside0.mk (below_step (bB) hb);have n1_:=Aside0.mk (hbox);have n2_:=Aside0.mk ((bG:w.heap.size≤gb146));have n3_:=Aside0.mk ((bG:w.heap.size≤gb146));clear HB;have HB:=n0_;have BK146:=n1_;have GW146:=n2_;have GE146:=n3_;clear n0_ n1_ n2_ n3_;clear hb hbox hg;obtain⟨hcz12_0,hcz12_1,hcz12_2,hcz12_3,hcz12_4⟩:=cC5 BK146.out;obtain⟨hfz12_0,hfz12_1,hfz12_2,hfz12_3,hfz12_4⟩:=cF5 BK146.out)|((with_reducible refine gate_callee (f:=146) rfl ?_);refine goesA (some 7) rfl rfl Try.func146 #[.int .i64 a0_0,.int .i64 a0_1] rfl ?_;(with_reducible refine(impl_areUnlike.calls a0_0 a0_1 true _ A2.out).mono ?_);rintro e w' ⟨rfl,⟨nd,rfl⟩⟩;refine⟨_,rfl,?_⟩))
     go_ret
     exact⟨bE,bS GE146.out⟩
    ·rw[if_neg c10] at H
     have c10b0:decide (1000 < a0_3)=false:=decide_eq_false c10
     clear c10
     replace H:=Option.bind_eq_some_iff.mp H
     obtain⟨t148,A130,H⟩:=H
     have A13:=Aside0.mk A130
     clear A130
     obtain rfl:=Option.some.inj H
     go_enter Try.func145,Try.ntmps145
     go_wp2_with (first|((with_reducible refine gate_dst (N:=1) rfl ?_);refine box_event ?hg (N:=1) ?hd (cs:=#[.int .i64 a0_0,.int .i64 a0_1,.int .i64 a0_2,.int .i64 a0_3,.int .i64 a0_4]) (t:=104) ?hr ?_;(case hd=>rfl);(case hg=>rfl);(case hr=>first|(go_simp;done)|(go_simp;rfl));intro gb146 hg w14 hbox hb;have n0_:=Aside0.mk (below_step (bB) hb);have n1_:=Aside0.mk (hbox);have n2_:=Aside0.mk ((bG:w.heap.size≤gb146));have n3_:=Aside0.mk ((bG:w.heap.size≤gb146));clear HB;have HB:=n0_;have BK146:=n1_;have GW146:=n2_;have GE146:=n3_;clear n0_ n1_ n2_ n3_;clear hb hbox hg;obtain⟨hcz15_0,hcz15_1,hcz15_2,hcz15_3,hcz15_4⟩:=cC5 BK146.out;obtain⟨hfz15_0,hfz15_1,hfz15_2,hfz15_3,hfz15_4⟩:=cF5 BK146.out)|((with_reducible refine gate_callee (f:=146) rfl ?_);refine goesA (some 7) rfl rfl Try.func146 #[.int .i64 a0_0,.int .i64 a0_1] rfl ?_;(with_reducible refine(impl_areUnlike.calls a0_0 a0_1 true _ A2.out).mono ?_);rintro e w' ⟨rfl,⟨nd,rfl⟩⟩;refine⟨_,rfl,?_⟩)|(go_at_call 79;(with_reducible refine(impl_within.calls a0_4 0 100 t148 _ A13.out).mono ?_);rintro e w' ⟨rfl,⟨nd,rfl⟩⟩))
     go_ret
     exact⟨bE,bS GE146.out⟩
 ·replace c3:=Bool.eq_false_iff.mpr c3
  subst c3
  have H1:(some true)=some r:=by rw[if_neg (show ¬ (false=true) by decide)] at H;exact H
  clear H
  have H:=H1
  clear H1
  obtain rfl:=Option.some.inj H
  go_enter Try.func145,Try.ntmps145
  go_wp2_with (first|((with_reducible refine gate_dst (N:=1) rfl ?_);refine box_event ?hg (N:=1) ?hd (cs:=#[.int .i64 a0_0,.int .i64 a0_1,.int .i64 a0_2,.int .i64 a0_3,.int .i64 a0_4]) (t:=104) ?hr ?_;(case hd=>rfl);(case hg=>rfl);(case hr=>first|(go_simp;done)|(go_simp;rfl));intro gb146 hg w16 hbox hb;have n0_:=Aside0.mk (below_step (bB) hb);have n1_:=Aside0.mk (hbox);have n2_:=Aside0.mk ((bG:w.heap.size≤gb146));have n3_:=Aside0.mk ((bG:w.heap.size≤gb146));clear HB;have HB:=n0_;have BK146:=n1_;have GW146:=n2_;have GE146:=n3_;clear n0_ n1_ n2_ n3_;clear hb hbox hg;obtain⟨hcz17_0,hcz17_1,hcz17_2,hcz17_3,hcz17_4⟩:=cC5 BK146.out;obtain⟨hfz17_0,hfz17_1,hfz17_2,hfz17_3,hfz17_4⟩:=cF5 BK146.out)|((with_reducible refine gate_callee (f:=146) rfl ?_);refine goesA (some 7) rfl rfl Try.func146 #[.int .i64 a0_0,.int .i64 a0_1] rfl ?_;(with_reducible refine(impl_areUnlike.calls a0_0 a0_1 false _ A2.out).mono ?_);rintro e w' ⟨rfl,⟨nd,rfl⟩⟩;refine⟨_,rfl,?_⟩))
  go_ret
  exact⟨bE,bS GE146.out⟩

/-! ### impl_Contact_impl_GoodPlan_lit1_2: function 169 -/
def impl_Contact_impl_GoodPlan_lit1_2.l0:Nat→List (S104)→Int→Int→Option (Int)
 | 0,_,_,_=>none
 | k+1,x0,x7,x8=>if x8 < x7 then (if 0≤x8 then (if x8 < (x0.length:Int) then ((impl_GoodPlan_lit1.f ((rd_T104 x0 x8).f0) ((rd_T104 x0 x8).f1) ((rd_T104 x0 x8).f2) ((rd_T104 x0 x8).f3) ((rd_T104 x0 x8).f4)).bind fun t150=>(if t150=true then (some x8) else (impl_Contact_impl_GoodPlan_lit1_2.l0 k x0 x7 (wrap64 (x8+1))))) else (none)) else (none)) else (some (-1))
def impl_Contact_impl_GoodPlan_lit1_2.f (k:Nat) (l0:List (S104))  : Option (Int):=impl_Contact_impl_GoodPlan_lit1_2.l0 k l0 (l0.length:Int) 0
theorem impl_Contact_impl_GoodPlan_lit1_2.mono_l : ∀ k,(∀ y0 y1 y2,LeO (impl_Contact_impl_GoodPlan_lit1_2.l0 k y0 y1 y2) (impl_Contact_impl_GoodPlan_lit1_2.l0 (k+1) y0 y1 y2))
 | 0=>fun _ _ _ r h=>by simp[impl_Contact_impl_GoodPlan_lit1_2.l0] at h
 | k+1=>by
  have ih0:=impl_Contact_impl_GoodPlan_lit1_2.mono_l k
  ·intro y0 y1 y2
   unfold impl_Contact_impl_GoodPlan_lit1_2.l0
   repeat' first
   | (with_reducible exact ih0 _ _ _)
   | (with_reducible exact LeO.refl _)
   | (with_reducible exact LeO.none _)
   | (with_reducible refine LeO.ite ?_ ?_)
   | (with_reducible refine LeO.bind ?_ (fun _ => ?_))
   | exact ih0 _ _ _
   | exact LeO.none _
   | refine LeO.ite ?_ ?_
   | refine LeO.bind ?_ (fun _ => ?_)
theorem impl_Contact_impl_GoodPlan_lit1_2.mono : ∀ a0 k,LeO (impl_Contact_impl_GoodPlan_lit1_2.f k a0) (impl_Contact_impl_GoodPlan_lit1_2.f (k+1) a0):=by
 intro a0 k
 have ih0:=impl_Contact_impl_GoodPlan_lit1_2.mono_l k
 unfold impl_Contact_impl_GoodPlan_lit1_2.f
 repeat' first
  | (with_reducible exact ih0 _ _ _)
  | (with_reducible exact LeO.refl _)
  | (with_reducible exact LeO.none _)
  | (with_reducible refine LeO.ite ?_ ?_)
  | (with_reducible refine LeO.bind ?_ (fun _ => ?_))
  | exact ih0 _ _ _
  | exact LeO.none _
  | refine LeO.ite ?_ ?_
  | refine LeO.bind ?_ (fun _ => ?_)
set_option maxHeartbeats 8000000 in
set_option maxRecDepth 100000 in
theorem impl_Contact_impl_GoodPlan_lit1_2.calls (k:Nat) (A0:Option Addr) (c0:Nat) (l0:List (S104))  (r:Int) (w:World) (hr0:Kd.C k104 w A0 l0.length l0) (hc0:l0.length≤c0) (h:impl_Contact_impl_GoodPlan_lit1_2.f k l0=some r) :
  Calls Try.prog 169 #[.slice A0 l0.length c0,(.func (.func 145) #[] #[])] w fun e w'=>e=.returned (.int .i64 r)∧Below w.heap.size w w':=by
 have hu104:=Try.underlying104
 have HR0:=Aside0.mk hr0
 have HC0:=Aside0.mk hc0
 clear hr0 hc0
 have HB:=Aside0.mk (Below.refl w.heap.size w)
 have H:(impl_Contact_impl_GoodPlan_lit1_2.l0 k l0 (l0.length:Int) 0)=some r:=h
 clear h
 have H':=Aside0.mk H
 clear H
 go_enter Try.func169,Try.ntmps169
 go_wp2
 go_loopg [8] k (fun kq v8 w' => ∃ (x8_1:Int),v8=.int .i64 x8_1∧Aside0 (impl_Contact_impl_GoodPlan_lit1_2.l0 kq l0 (l0.length:Int) x8_1=some r)∧Aside0 (kq≤k)∧Aside0 (Below w.heap.size w w'))
 case atStart=>exact⟨(0),(bR),H',⟨Nat.le_refl _⟩,⟨by repeat (first|(with_reducible first|exact HB.out|apply below_alloc|apply pw_below_drewN|apply below_drew1)|exact HB.out)⟩⟩
 case round =>
  clear H'
  try clear p2
  obtain⟨x8_1,rfl,HA,HK1,HB⟩:=hrel
  cases gk with
  | zero=>exact absurd HA.out (by simp[impl_Contact_impl_GoodPlan_lit1_2.l0])
  | succ k1 =>
   have H:=HA.out
   clear HA
   simp only[impl_Contact_impl_GoodPlan_lit1_2.l0] at H
   by_cases c3:x8_1 < (l0.length:Int)
   ·rw[if_pos c3] at H
    have c3b0:decide (x8_1 < (l0.length:Int))=true:=decide_eq_true c3
    clear c3
    by_cases c4:0≤x8_1
    ·rw[if_pos c4] at H
     have c4b0:decide (0≤x8_1)=true:=decide_eq_true c4
     clear c4
     by_cases c5:x8_1 < (l0.length:Int)
     ·rw[if_pos c5] at H
      have c5b0:decide (x8_1 < (l0.length:Int))=true:=decide_eq_true c5
      clear c5
      replace H:=Option.bind_eq_some_iff.mp H
      obtain⟨t150,A60,H⟩:=H
      have A6:=Aside0.mk A60
      clear A60
      by_cases c7:t150=true
      ·subst c7
       have H1:(some x8_1)=some r:=by rw[if_pos rfl] at H;exact H
       clear H
       have H:=H1
       clear H1
       obtain rfl:=Option.some.inj H
       have p149:0≤(x8_1:Int):=of_decide_eq_true (bD)
       have q149:x8_1 < (l0.length:Int):=of_decide_eq_true (bD)
       obtain⟨ad149,e149,hx149_0,hx149_1,hx149_2,hx149_3,hx149_4⟩:=at_T104 HR0.out x8_1 p149 q149
       cases e149
       replace hx149_0:=(HB.out.cell (World.block_lt_of_cell? w _ hx149_0)).trans hx149_0
       replace hx149_1:=(HB.out.cell (World.block_lt_of_cell? w _ hx149_1)).trans hx149_1
       replace hx149_2:=(HB.out.cell (World.block_lt_of_cell? w _ hx149_2)).trans hx149_2
       replace hx149_3:=(HB.out.cell (World.block_lt_of_cell? w _ hx149_3)).trans hx149_3
       replace hx149_4:=(HB.out.cell (World.block_lt_of_cell? w _ hx149_4)).trans hx149_4
       replace p149:=eq_true p149
       replace q149:=eq_true q149
       go_wp2_with (first|(go_at_call 145;(with_reducible refine(impl_GoodPlan_lit1.calls ((rd_T104 l0 x8_1).f0) ((rd_T104 l0 x8_1).f1) ((rd_T104 l0 x8_1).f2) ((rd_T104 l0 x8_1).f3) ((rd_T104 l0 x8_1).f4) true _ A6.out).mono ?_);rintro e w8 ⟨rfl,hb⟩;have n0_:=Aside0.mk (below_step (bB) hb);clear HB;have HB:=n0_;clear n0_;(try clear hb);(try clear hb2);(try clear hk);(try clear hi)))
       go_ret
       exact⟨bE,bB⟩
      ·replace c7:=Bool.eq_false_iff.mpr c7
       subst c7
       have H1:(impl_Contact_impl_GoodPlan_lit1_2.l0 k1 l0 (l0.length:Int) (wrap64 (x8_1+1)))=some r:=by rw[if_neg (show ¬ (false=true) by decide)] at H;exact H
       clear H
       have H:=H1
       clear H1
       have H':=Aside0.mk H
       clear H
       have p149:0≤(x8_1:Int):=of_decide_eq_true (bD)
       have q149:x8_1 < (l0.length:Int):=of_decide_eq_true (bD)
       obtain⟨ad149,e149,hx149_0,hx149_1,hx149_2,hx149_3,hx149_4⟩:=at_T104 HR0.out x8_1 p149 q149
       cases e149
       replace hx149_0:=(HB.out.cell (World.block_lt_of_cell? w _ hx149_0)).trans hx149_0
       replace hx149_1:=(HB.out.cell (World.block_lt_of_cell? w _ hx149_1)).trans hx149_1
       replace hx149_2:=(HB.out.cell (World.block_lt_of_cell? w _ hx149_2)).trans hx149_2
       replace hx149_3:=(HB.out.cell (World.block_lt_of_cell? w _ hx149_3)).trans hx149_3
       replace hx149_4:=(HB.out.cell (World.block_lt_of_cell? w _ hx149_4)).trans hx149_4
       replace p149:=eq_true p149
       replace q149:=eq_true q149
       go_wp2_with (first|(go_at_call 145;(with_reducible refine(impl_GoodPlan_lit1.calls ((rd_T104 l0 x8_1).f0) ((rd_T104 l0 x8_1).f1) ((rd_T104 l0 x8_1).f2) ((rd_T104 l0 x8_1).f3) ((rd_T104 l0 x8_1).f4) false _ A6.out).mono ?_);rintro e w9 ⟨rfl,hb⟩;have n0_:=Aside0.mk (below_step (bB) hb);clear HB;have HB:=n0_;clear n0_;(try clear hb);(try clear hb2);(try clear hk);(try clear hi)))
       go_roundg k1
       case measure=>have:=HK1.out;omega
       case rel=>exact⟨(wrap64 (x8_1+1)),(bR),H',⟨by have:=HK1.out;omega⟩,⟨by repeat (first|(with_reducible first|exact HB.out|apply below_alloc|apply pw_below_drewN|apply below_drew1)|exact HB.out)⟩⟩
     ·rw[if_neg c5] at H
      exact absurd H (by simp)
    ·rw[if_neg c4] at H
     exact absurd H (by simp)
   ·rw[if_neg c3] at H
    have c3b0:decide (x8_1 < (l0.length:Int))=false:=decide_eq_false c3
    clear c3
    obtain rfl:=Option.some.inj H
    go_wp2
    go_ret
    exact⟨bE,bB⟩

/-! ### impl_Contact_impl_GoodPlan_lit1: function 144 -/
def impl_Contact_impl_GoodPlan_lit1.f (k:Nat) (l0:List (S104))  : Option (Bool):=(impl_Contact_impl_GoodPlan_lit1_2.f k l0).bind fun t151=>(some (decide (t151 ≥ 0)))
theorem impl_Contact_impl_GoodPlan_lit1.mono : ∀ a0 k,LeO (impl_Contact_impl_GoodPlan_lit1.f k a0) (impl_Contact_impl_GoodPlan_lit1.f (k+1) a0):=by
 intro a0 k
 unfold impl_Contact_impl_GoodPlan_lit1.f
 repeat' first
  | (with_reducible exact impl_Contact_impl_GoodPlan_lit1_2.mono _ _)
  | (with_reducible exact LeO.refl _)
  | (with_reducible exact LeO.none _)
  | (with_reducible refine LeO.ite ?_ ?_)
  | (with_reducible refine LeO.bind ?_ (fun _ => ?_))
  | exact impl_Contact_impl_GoodPlan_lit1_2.mono _ _
  | exact LeO.none _
  | refine LeO.ite ?_ ?_
  | refine LeO.bind ?_ (fun _ => ?_)
set_option maxHeartbeats 8000000 in
set_option maxRecDepth 100000 in
theorem impl_Contact_impl_GoodPlan_lit1.calls (k:Nat) (A0:Option Addr) (c0:Nat) (l0:List (S104))  (r:Bool) (w:World) (hr0:Kd.C k104 w A0 l0.length l0) (hc0:l0.length≤c0) (h:impl_Contact_impl_GoodPlan_lit1.f k l0=some r) :
  Calls Try.prog 144 #[.slice A0 l0.length c0,(.func (.func 145) #[] #[])] w fun e w'=>e=.returned (.bool r)∧Below w.heap.size w w':=by
 have HR0:=Aside0.mk hr0
 have HC0:=Aside0.mk hc0
 clear hr0 hc0
 have HB:=Aside0.mk (Below.refl w.heap.size w)
 have H:((impl_Contact_impl_GoodPlan_lit1_2.f k l0).bind fun t151=>(some (decide (t151 ≥ 0))))=some r:=h
 clear h
 replace H:=Option.bind_eq_some_iff.mp H
 obtain⟨t151,A30,H⟩:=H
 have A3:=Aside0.mk A30
 clear A30
 obtain rfl:=Option.some.inj H
 go_enter Try.func144,Try.ntmps144
 go_wp2_with (first|((with_reducible refine gate_callee (f:=169) rfl ?_);refine goesA (some 7) rfl rfl Try.func169 #[.slice A0 l0.length c0,(.func (.func 145) #[] #[])] rfl ?_;(with_reducible refine(impl_Contact_impl_GoodPlan_lit1_2.calls k _ _ l0  t151 _ ?side1 ?side2 A3.out).mono ?_);(case side1=>exact b8_);(case side2=>exact HC0.out);rintro e w4 ⟨rfl,hb⟩;refine⟨_,rfl,?_⟩;have n0_:=Aside0.mk (below_step (bB) hb);clear HB;have HB:=n0_;clear n0_;(try clear hb);(try clear hb2);(try clear hk);(try clear hi)))
 go_ret
 exact⟨bE,bB⟩

/-! ### impl_GoodPlan: function 88 -/
def impl_GoodPlan.f (k:Nat) (l0:List (S104)):Option (Bool):=if (l0.length:Int)≤20 then ((impl_Contact_impl_GoodPlan_lit1.f k l0).bind fun t152=>(some (!t152))) else (some false)
theorem impl_GoodPlan.mono : ∀ a0 k,LeO (impl_GoodPlan.f k a0) (impl_GoodPlan.f (k+1) a0):=by
 intro a0 k
 unfold impl_GoodPlan.f
 repeat' first
  | (with_reducible exact impl_Contact_impl_GoodPlan_lit1.mono _ _)
  | (with_reducible exact LeO.refl _)
  | (with_reducible exact LeO.none _)
  | (with_reducible refine LeO.ite ?_ ?_)
  | (with_reducible refine LeO.bind ?_ (fun _ => ?_))
  | exact impl_Contact_impl_GoodPlan_lit1.mono _ _
  | exact LeO.none _
  | refine LeO.ite ?_ ?_
  | refine LeO.bind ?_ (fun _ => ?_)
set_option maxHeartbeats 8000000 in
set_option maxRecDepth 100000 in
theorem impl_GoodPlan.calls (k:Nat) (A0:Option Addr) (c0:Nat) (l0:List (S104)) (r:Bool) (w:World) (hr0:Kd.C k104 w A0 l0.length l0) (hc0:l0.length≤c0) (h:impl_GoodPlan.f k l0=some r) :
  Calls Try.prog 88 #[.slice A0 l0.length c0] w fun e w'=>e=.returned (.bool r)∧Below w.heap.size w w':=by
 have HR0:=Aside0.mk hr0
 have HC0:=Aside0.mk hc0
 clear hr0 hc0
 have HB:=Aside0.mk (Below.refl w.heap.size w)
 have H:(if (l0.length:Int)≤20 then ((impl_Contact_impl_GoodPlan_lit1.f k l0).bind fun t152=>(some (!t152))) else (some false))=some r:=h
 clear h
 by_cases c2:(l0.length:Int)≤20
 ·rw[if_pos c2] at H
  have c2b0:decide ((l0.length:Int)≤20)=true:=decide_eq_true c2
  have c2b1:decide (l0.length≤20)=true:=decide_eq_true (by omega)
  clear c2
  replace H:=Option.bind_eq_some_iff.mp H
  obtain⟨t152,A30,H⟩:=H
  have A3:=Aside0.mk A30
  clear A30
  obtain rfl:=Option.some.inj H
  go_enter Try.func88,Try.ntmps88
  go_wp2_with (first|(go_at_call 144;(with_reducible refine(impl_Contact_impl_GoodPlan_lit1.calls k _ _ l0  t152 _ ?side1 ?side2 A3.out).mono ?_);(case side1=>exact b8_);(case side2=>exact HC0.out);rintro e w4 ⟨rfl,hb⟩;have n0_:=Aside0.mk (below_step (bB) hb);clear HB;have HB:=n0_;clear n0_;(try clear hb);(try clear hb2);(try clear hk);(try clear hi)))
  go_ret
  exact⟨bE,bB⟩
 ·rw[if_neg c2] at H
  have c2b0:decide ((l0.length:Int)≤20)=false:=decide_eq_false c2
  have c2b1:decide (l0.length≤20)=false:=decide_eq_false (by omega)
  clear c2
  obtain rfl:=Option.some.inj H
  go_enter Try.func88,Try.ntmps88
  go_wp2
  go_ret
  exact⟨bE,bB⟩

/-! ### impl_isWhen: function 90 -/
def impl_isWhen.f (a0:Int):Option (Bool):=(impl_within.f a0 0 1000).bind fun t153=>(some t153)
set_option maxHeartbeats 8000000 in
set_option maxRecDepth 100000 in
theorem impl_isWhen.calls (a0:Int) (r:Bool) (w:World) (h:impl_isWhen.f a0=some r) :
  Calls Try.prog 90 #[.int .i64 a0] w fun e w'=>e=.returned (.bool r)∧Drawn0 w w':=by
 have H:((impl_within.f a0 0 1000).bind fun t153=>(some t153))=some r:=h
 clear h
 replace H:=Option.bind_eq_some_iff.mp H
 obtain⟨t153,A20,H⟩:=H
 have A2:=Aside0.mk A20
 clear A20
 obtain rfl:=Option.some.inj H
 go_enter Try.func90,Try.ntmps90
 go_wp2_with (first|((with_reducible refine gate_callee (f:=79) rfl ?_);refine goesA (some 4) rfl rfl Try.func79 #[.int .i64 a0,.int .i64 0,.int .i64 1000] rfl ?_;(with_reducible refine(impl_within.calls a0 0 1000 t153 _ A2.out).mono ?_);rintro e w' ⟨rfl,⟨nd,rfl⟩⟩;refine⟨_,rfl,?_⟩))
 go_ret
 exact⟨bR,bW⟩

/-! ### impl_Contact_by: function 122 -/
def impl_Contact_by.f (a0_0:Int) (a0_1:Int) (a0_2:Int) (a0_3:Int) (a0_4:Int) (a1:Int):Option (Int × Bool):=some (wrap64 ((mx a1 a0_2)+a0_4),decide ((mx a1 a0_2) < a0_3))
set_option maxHeartbeats 8000000 in
set_option maxRecDepth 100000 in
theorem impl_Contact_by.calls (a0_0:Int) (a0_1:Int) (a0_2:Int) (a0_3:Int) (a0_4:Int) (a1:Int) (r1:Int) (r2:Bool) (w:World) (h:impl_Contact_by.f a0_0 a0_1 a0_2 a0_3 a0_4 a1=some (r1,r2)) :
  Calls Try.prog 122 #[.agg #[.int .i64 a0_0,.int .i64 a0_1,.int .i64 a0_2,.int .i64 a0_3,.int .i64 a0_4],.int .i64 a1] w fun e w'=>e=.returned (.tuple #[.int .i64 r1,.bool r2])∧Below w.heap.size w w':=by
 have hu104:=Try.underlying104
 have HB:=Aside0.mk (Below.refl w.heap.size w)
 have H:(some (wrap64 ((mx a1 a0_2)+a0_4),decide ((mx a1 a0_2) < a0_3)))=some (r1,r2):=h
 clear h
 obtain⟨ji3,hji3⟩ : ∃ j_:Int,(mx a1 a0_2)=j_:=⟨_,rfl⟩
 replace H:(some (wrap64 ((ji3)+a0_4),decide ((ji3) < a0_3)))=some (r1,r2):=by first|(rw[hji3] at H;exact H)|(simp only[hji3] at H ⊢;exact H)
 have hji3_:(if a1 < a0_2 then a0_2 else a1)=ji3:=hji3
 simp only[Option.some.injEq,Prod.mk.injEq] at H
 obtain⟨rfl,rfl⟩:=H
 go_enter Try.func122,Try.ntmps122
 go_wp2_with (first|((with_reducible refine gate_dst (N:=2) rfl ?_);refine box_event ?hg (N:=2) ?hd (cs:=#[.int .i64 a0_0,.int .i64 a0_1,.int .i64 a0_2,.int .i64 a0_3,.int .i64 a0_4]) (t:=104) ?hr ?_;(case hd=>rfl);(case hg=>rfl);(case hr=>first|(go_simp;done)|(go_simp;rfl));intro gb154 hg w4 hbox hb;have n0_:=Aside0.mk (below_step (bB) hb);have n1_:=Aside0.mk (hbox);have n2_:=Aside0.mk ((bG:w.heap.size≤gb154));have n3_:=Aside0.mk ((bG:w.heap.size≤gb154));clear HB;have HB:=n0_;have BK154:=n1_;have GW154:=n2_;have GE154:=n3_;clear n0_ n1_ n2_ n3_;clear hb hbox hg;obtain⟨hcz5_0,hcz5_1,hcz5_2,hcz5_3,hcz5_4⟩:=cC5 BK154.out;obtain⟨hfz5_0,hfz5_1,hfz5_2,hfz5_3,hfz5_4⟩:=cF5 BK154.out))
 repeat (go_quiet (first|((with_reducible refine gate_dst (N:=2) rfl ?_);refine box_event ?hg (N:=2) ?hd (cs:=#[.int .i64 a0_0,.int .i64 a0_1,.int .i64 a0_2,.int .i64 a0_3,.int .i64 a0_4]) (t:=104) ?hr ?_;(case hd=>rfl);(case hg=>rfl);(case hr=>first|(go_simp;done)|(go_simp;rfl));intro gb154 hg w4 hbox hb;have n0_:=Aside0.mk (below_step (bB) hb);have n1_:=Aside0.mk (hbox);have n2_:=Aside0.mk ((bG:w.heap.size≤gb154));have n3_:=Aside0.mk ((bG:w.heap.size≤gb154));clear HB;have HB:=n0_;have BK154:=n1_;have GW154:=n2_;have GE154:=n3_;clear n0_ n1_ n2_ n3_;clear hb hbox hg;obtain⟨hcz5_0,hcz5_1,hcz5_2,hcz5_3,hcz5_4⟩:=cC5 BK154.out;obtain⟨hfz5_0,hfz5_1,hfz5_2,hfz5_3,hfz5_4⟩:=cF5 BK154.out));try go_wp2_with (first|((with_reducible refine gate_dst (N:=2) rfl ?_);refine box_event ?hg (N:=2) ?hd (cs:=#[.int .i64 a0_0,.int .i64 a0_1,.int .i64 a0_2,.int .i64 a0_3,.int .i64 a0_4]) (t:=104) ?hr ?_;(case hd=>rfl);(case hg=>rfl);(case hr=>first|(go_simp;done)|(go_simp;rfl));intro gb154 hg w4 hbox hb;have n0_:=Aside0.mk (below_step (bB) hb);have n1_:=Aside0.mk (hbox);have n2_:=Aside0.mk ((bG:w.heap.size≤gb154));have n3_:=Aside0.mk ((bG:w.heap.size≤gb154));clear HB;have HB:=n0_;have BK154:=n1_;have GW154:=n2_;have GE154:=n3_;clear n0_ n1_ n2_ n3_;clear hb hbox hg;obtain⟨hcz5_0,hcz5_1,hcz5_2,hcz5_3,hcz5_4⟩:=cC5 BK154.out;obtain⟨hfz5_0,hfz5_1,hfz5_2,hfz5_3,hfz5_4⟩:=cF5 BK154.out)))
 go_ret2
 exact⟨by first|rfl|(simp[errW_none,errW_some]<;>rfl)|(simp only[← hji3];first|rfl|(simp[errW_none,errW_some]<;>rfl))|(simp[*,errW_none,errW_some]<;>rfl),bS GE154.out⟩

/-! ### bits_Mul32: function 184 -/
def bits_Mul32.f (a0:Int) (a1:Int):Option (Int × Int):=some (((IntKind.u64.wrap ((IntKind.u64.wrap (a0)) * (IntKind.u64.wrap (a1)))) / 4294967296) % 4294967296,(IntKind.u64.wrap ((IntKind.u64.wrap (a0)) * (IntKind.u64.wrap (a1)))) % 4294967296)
set_option maxHeartbeats 8000000 in
set_option maxRecDepth 100000 in
theorem bits_Mul32.calls (a0:Int) (a1:Int) (r1:Int) (r2:Int) (w:World) (h:bits_Mul32.f a0 a1=some (r1,r2)) :
  Calls Try.prog 184 #[.int .u32 a0,.int .u32 a1] w fun e w'=>e=.returned (.tuple #[.int .u32 r1,.int .u32 r2])∧Drawn0 w w':=by
 have H:(some (((IntKind.u64.wrap ((IntKind.u64.wrap (a0)) * (IntKind.u64.wrap (a1)))) / 4294967296) % 4294967296,(IntKind.u64.wrap ((IntKind.u64.wrap (a0)) * (IntKind.u64.wrap (a1)))) % 4294967296))=some (r1,r2):=h
 clear h
 simp only[Option.some.injEq,Prod.mk.injEq] at H
 obtain⟨rfl,rfl⟩:=H
 go_enter Try.func184,Try.ntmps184
 go_wp2
 go_ret2
 exact⟨bR,bW⟩

/-! ### bits_Mul64: function 185 -/
def bits_Mul64.f (a0:Int) (a1:Int):Option (Int × Int):=some (IntKind.u64.wrap ((IntKind.u64.wrap ((IntKind.u64.wrap ((a0 / 4294967296) * (a1 / 4294967296)))+((IntKind.u64.wrap ((IntKind.u64.wrap ((a0 / 4294967296) * (Go.bits .and .u64 a1 4294967295)))+((IntKind.u64.wrap ((Go.bits .and .u64 a0 4294967295) * (Go.bits .and .u64 a1 4294967295))) / 4294967296))) / 4294967296)))+((IntKind.u64.wrap ((Go.bits .and .u64 (IntKind.u64.wrap ((IntKind.u64.wrap ((a0 / 4294967296) * (Go.bits .and .u64 a1 4294967295)))+((IntKind.u64.wrap ((Go.bits .and .u64 a0 4294967295) * (Go.bits .and .u64 a1 4294967295))) / 4294967296))) 4294967295)+(IntKind.u64.wrap ((Go.bits .and .u64 a0 4294967295) * (a1 / 4294967296))))) / 4294967296)),IntKind.u64.wrap (a0 * a1))
set_option maxHeartbeats 8000000 in
set_option maxRecDepth 100000 in
theorem bits_Mul64.calls (a0:Int) (a1:Int) (r1:Int) (r2:Int) (w:World) (h:bits_Mul64.f a0 a1=some (r1,r2)) :
  Calls Try.prog 185 #[.int .u64 a0,.int .u64 a1] w fun e w'=>e=.returned (.tuple #[.int .u64 r1,.int .u64 r2])∧Drawn0 w w':=by
 have H:(some (IntKind.u64.wrap ((IntKind.u64.wrap ((IntKind.u64.wrap ((a0 / 4294967296) * (a1 / 4294967296)))+((IntKind.u64.wrap ((IntKind.u64.wrap ((a0 / 4294967296) * (Go.bits .and .u64 a1 4294967295)))+((IntKind.u64.wrap ((Go.bits .and .u64 a0 4294967295) * (Go.bits .and .u64 a1 4294967295))) / 4294967296))) / 4294967296)))+((IntKind.u64.wrap ((Go.bits .and .u64 (IntKind.u64.wrap ((IntKind.u64.wrap ((a0 / 4294967296) * (Go.bits .and .u64 a1 4294967295)))+((IntKind.u64.wrap ((Go.bits .and .u64 a0 4294967295) * (Go.bits .and .u64 a1 4294967295))) / 4294967296))) 4294967295)+(IntKind.u64.wrap ((Go.bits .and .u64 a0 4294967295) * (a1 / 4294967296))))) / 4294967296)),IntKind.u64.wrap (a0 * a1)))=some (r1,r2):=h
 clear h
 simp only[Option.some.injEq,Prod.mk.injEq] at H
 obtain⟨rfl,rfl⟩:=H
 go_enter Try.func185,Try.ntmps185
 go_wp2
 go_ret2
 exact⟨bR,bW⟩

/-! ### bits_Mul: function 170 -/
def bits_Mul.f (a0:Int) (a1:Int):Option (Int × Int):=(bits_Mul64.f a0 a1).bind fun bt155=>(some (bt155.1,bt155.2))
set_option maxHeartbeats 8000000 in
set_option maxRecDepth 100000 in
theorem bits_Mul.calls (a0:Int) (a1:Int) (r1:Int) (r2:Int) (w:World) (h:bits_Mul.f a0 a1=some (r1,r2)) :
  Calls Try.prog 170 #[.int .u64 a0,.int .u64 a1] w fun e w'=>e=.returned (.tuple #[.int .u64 r1,.int .u64 r2])∧Drawn0 w w':=by
 have H:((bits_Mul64.f a0 a1).bind fun bt155=>(some (bt155.1,bt155.2)))=some (r1,r2):=h
 clear h
 replace H:=Option.bind_eq_some_iff.mp H
 obtain⟨⟨t155,t156⟩,A30,H⟩:=H
 replace H:(some (t155,t156))=some (r1,r2):=H
 have A3:=Aside0.mk A30
 clear A30
 simp only[Option.some.injEq,Prod.mk.injEq] at H
 obtain⟨rfl,rfl⟩:=H
 go_enter Try.func170,Try.ntmps170
 go_wp2_with (first|((with_reducible refine gate_callee (f:=185) rfl ?_);refine goesA (some 25) rfl rfl Try.func185 #[.int .u64 a0,.int .u64 a1] rfl ?_;(with_reducible refine(bits_Mul64.calls a0 a1 t155 t156 _ A3.out).mono ?_);rintro e w' ⟨rfl,⟨nd,rfl⟩⟩;refine⟨_,rfl,?_⟩))
 go_ret2
 exact⟨bR,bW⟩

end Go.Proofs.Yteneeohaoplpbaa.XFnExactFloodUntil
