-- Written by this session's own program (wip/xprint.py) out of the translation; Lean checks it.
import Derived.Test.YteneeohaoplpbaaXFnSprayx0
import Derived.Test.YteneeohaoplpbaaXFnSprayx1
import Derived.Test.YteneeohaoplpbaaXFnSprayx2
import Derived.Test.YteneeohaoplpbaaXFnSprayx4
import Derived.Test.YteneeohaoplpbaaXFnSprayx5
namespace Go.Proofs.Yteneeohaoplpbaa.XFnSpray
open Go.RowKit Go.Proofs.YteneeohaoplpbaaW.PrintWords Go.Proofs.YteneeohaoplpbaaW.PrintLast Go.Proofs.YteneeohaoplpbaaW.PrintMore
open Go.Proofs.YteneeohaoplpbaaW.PrintWords.Aside0 renaming mk → am
open List renaming setIfInBounds_toArray → zA, set_cons_zero → zB, set_cons_succ → zC
attribute [local go_sem] max2_int min2_int max_two min_two max_three min_three max_four min_four   -- for this text's walks alone
set_option linter.unusedVariables false
set_option linter.unusedSimpArgs false

/-! ### spec_PlaySpray: function 39 -/
mutual
def spec_PlaySpray.j0:Nat→List (S72)→Bool→List Int→Int→Bool→Option (List Int × Int × Bool × Int × Bool)
 | 0,_,_,_,_,_=>none
 | k+1,x4,x34,x323000,x323001,x323002=>if x34=true then (some (([]:List Int),0,false,0,false)) else (spec_PlaySpray.l0 k 0 x4 (x4.length:Int) 0 x323000 x323001 x323002)
def spec_PlaySpray.l0:Nat→Int→List (S72)→Int→Int→List Int→Int→Bool→Option (List Int × Int × Bool × Int × Bool)
 | 0,_,_,_,_,_,_,_=>none
 | k+1,x15,x36,x37,x38,x323000,x323001,x323002=>if x38 < x37 then (if 0≤x38 then (if x38 < (x36.length:Int) then ((spec_l15Meet.f k x323000 x323001 x323002 ((rd_T72 x36 x38).f0) ((rd_T72 x36 x38).f1)).bind fun bt325=>(if bt325.2.2.2=true then (if bt325.2.2.1=true then (if x323002=true then (spec_PlaySpray.l0 k x15 x36 x37 (wrap64 (x38+1)) bt325.1 bt325.2.1 bt325.2.2.1) else (spec_PlaySpray.l0 k (wrap64 (x38+1)) x36 x37 (wrap64 (x38+1)) bt325.1 bt325.2.1 bt325.2.2.1)) else (spec_PlaySpray.l0 k x15 x36 x37 (wrap64 (x38+1)) bt325.1 bt325.2.1 bt325.2.2.1)) else (some (([]:List Int),0,false,0,false)))) else (none)) else (none)) else (some (x323000,x323001,x323002,x15,true))
end
def spec_PlaySpray.f (k:Nat) (a0:Int) (a1:Int) (a2:Int) (a3:Int) (l4:List (S72)):Option (List Int × Int × Bool × Int × Bool):=(spec_NewSpray.f a0 a1 a2 a3).bind fun bt316=>(if bt316.2.2.2=true then (spec_PlaySpray.j0 k l4 (decide ((l4.length:Int) > 100)) bt316.1 bt316.2.1 bt316.2.2.1) else (spec_PlaySpray.j0 k l4 true bt316.1 bt316.2.1 bt316.2.2.1))
theorem spec_PlaySpray.mono_l : ∀ k,(∀ y0 y1 y2 y3 y4,LeO (spec_PlaySpray.j0 k y0 y1 y2 y3 y4) (spec_PlaySpray.j0 (k+1) y0 y1 y2 y3 y4))∧(∀ y0 y1 y2 y3 y4 y5 y6,LeO (spec_PlaySpray.l0 k y0 y1 y2 y3 y4 y5 y6) (spec_PlaySpray.l0 (k+1) y0 y1 y2 y3 y4 y5 y6))
 | 0=>⟨fun _ _ _ _ _ r h=>by simp[spec_PlaySpray.j0] at h,fun _ _ _ _ _ _ _ r h=>by simp[spec_PlaySpray.l0] at h⟩
 | k+1=>by
  obtain⟨ih0,ih1⟩:=spec_PlaySpray.mono_l k
  refine⟨?_,?_⟩
  ·intro y0 y1 y2 y3 y4
   unfold spec_PlaySpray.j0
   repeat' first
   | (with_reducible exact ih0 _ _ _ _ _)
   | (with_reducible exact ih1 _ _ _ _ _ _ _)
   | (with_reducible exact spec_l15Meet.mono _ _ _ _ _ _)
   | (with_reducible exact LeO.refl _)
   | (with_reducible exact LeO.none _)
   | (with_reducible refine LeO.ite ?_ ?_)
   | (with_reducible refine LeO.bind ?_ (fun _ => ?_))
  ·intro y0 y1 y2 y3 y4 y5 y6
   unfold spec_PlaySpray.l0
   repeat' first
   | (with_reducible exact ih0 _ _ _ _ _)
   | (with_reducible exact ih1 _ _ _ _ _ _ _)
   | (with_reducible exact spec_l15Meet.mono _ _ _ _ _ _)
   | (with_reducible exact LeO.refl _)
   | (with_reducible exact LeO.none _)
   | (with_reducible refine LeO.ite ?_ ?_)
   | (with_reducible refine LeO.bind ?_ (fun _ => ?_))
theorem spec_PlaySpray.mono : ∀ a0 a1 a2 a3 a4 k,LeO (spec_PlaySpray.f k a0 a1 a2 a3 a4) (spec_PlaySpray.f (k+1) a0 a1 a2 a3 a4):=by
 intro a0 a1 a2 a3 a4 k
 obtain⟨ih0,ih1⟩:=spec_PlaySpray.mono_l k
 unfold spec_PlaySpray.f
 repeat' first
  | (with_reducible exact ih0 _ _ _ _ _)
  | (with_reducible exact ih1 _ _ _ _ _ _ _)
  | (with_reducible exact spec_l15Meet.mono _ _ _ _ _ _)
  | (with_reducible exact LeO.refl _)
  | (with_reducible exact LeO.none _)
  | (with_reducible refine LeO.ite ?_ ?_)
  | (with_reducible refine LeO.bind ?_ (fun _ => ?_))
set_option maxHeartbeats 8000000 in
set_option maxRecDepth 100000 in
theorem spec_PlaySpray.calls (k:Nat) (a0:Int) (a1:Int) (a2:Int) (a3:Int) (A4:Option Addr) (c4:Nat) (l4:List (S72)) (r1:List Int) (r2:Int) (r3:Bool) (r4:Int) (r5:Bool) (w:World) (hr4:Kd.C k72 w A4 l4.length l4) (hc4:l4.length≤c4) (h:spec_PlaySpray.f k a0 a1 a2 a3 l4=some (r1,r2,r3,r4,r5)) :
  Calls Try.prog 39 #[.int .i64 a0,.int .i64 a1,.int .i64 a2,.int .i64 a3,.slice A4 l4.length c4] w fun e w' => ∃ v0_:Value,e=.returned (.tuple #[.agg #[v0_,.int .i64 r2,.bool r3],.int .i64 r4,.bool r5])∧Kd.R (Kd.int .i64) 3 w' w.heap.size (fun _=>True) v0_ r1∧Below w.heap.size w w':=by
 have hu62:=Try.underlying62
 have hu72:=Try.underlying72
 have HR4:=am hr4
 have HC4:=am hc4
 clear hr4 hc4
 have HB:=am (Below.refl w.heap.size w)
 have H:((spec_NewSpray.f a0 a1 a2 a3).bind fun bt316=>(if bt316.2.2.2=true then (spec_PlaySpray.j0 k l4 (decide ((l4.length:Int) > 100)) bt316.1 bt316.2.1 bt316.2.2.1) else (spec_PlaySpray.j0 k l4 true bt316.1 bt316.2.1 bt316.2.2.1)))=some (r1,r2,r3,r4,r5):=h
 clear h
 replace H:=bI_ H
 obtain⟨⟨t316,t319,t320,t321⟩,A60,H⟩:=H
 replace H:(if t321=true then (spec_PlaySpray.j0 k l4 (decide ((l4.length:Int) > 100)) t316 t319 t320) else (spec_PlaySpray.j0 k l4 true t316 t319 t320))=some (r1,r2,r3,r4,r5):=H
 have A6:=am A60
 clear A60
 have HC7:=am H
 clear H
 go_enter Try.func39,Try.ntmps39
 go_upto_region 2 with (first|((with_reducible refine gate_dst (N:=10) rfl ?_);(try (refine gate_guard (by rfl) ?_;dsimp only));refine box_event ?hg (N:=10) ?hd (cs:=#[.slice none 0 0,.int .i64 0,.bool false]) (t:=62) ?hr ?_;(case hd=>rfl);(case hg=>rfl);(case hr=>first|(go_simp;done)|(go_simp;rfl));intro gb315 hg w8 hbox hb;have n0_:=am (below_step (bB) hb);have n1_:=am (hbox);have n2_:=am ((bG:w.heap.size≤gb315));have n3_:=am ((bG:w.heap.size≤gb315));clear HB;have HB:=n0_;have BK315:=n1_;have GW315:=n2_;have GE315:=n3_;clear n0_ n1_ n2_ n3_;clear hb hbox hg)|((with_reducible refine gate_callee (f:=108) rfl ?_);refine goesA (some 25) rfl rfl Try.func108 #[.int .i64 a0,.int .i64 a1,.int .i64 a2,.int .i64 a3] rfl ?_;(with_reducible refine(spec_NewSpray.calls a0 a1 a2 a3 t316 t319 t320 t321 _ A6.out).mono ?_);rintro e w9 ⟨v317,rfl,ho0,hb⟩;refine⟨_,rfl,?_⟩;have n0_:=am (Kd.R_lower ho0 (below_size (bS GE315.out)));have n1_:=am (bM BK315.out hb);have n2_:=am (below_step (bS GE315.out) hb);clear BK315 HB;have HO318:=n0_;have BK315:=n1_;have HB:=n2_;clear n0_ n1_ n2_;(try clear hb);(try clear hb2);(try clear hk);(try clear hi);(try clear ho0))|((with_reducible refine gate_dst (N:=13) rfl ?_);(try (refine gate_guard (by rfl) ?_;dsimp only));refine box_event ?hg (N:=13) ?hd (cs:=#[.slice none 0 0,.int .i64 0,.bool false]) (t:=62) ?hr ?_;(case hd=>rfl);(case hg=>rfl);(case hr=>first|(go_simp;done)|(go_simp;rfl));intro gb322 hg w10 hbox hb;have n0_:=am (Kd.R_below (bK HO318.out) hb);have n1_:=am (bM BK315.out hb);have n2_:=am (below_step (bS GE315.out) hb);have n3_:=am (hbox);have n4_:=am ((by rw[hg];exact(below_size (bS GE315.out)):w.heap.size≤gb322));have n5_:=am ((by rw[hg];exact(below_size (bS GE315.out)):w.heap.size≤gb322));have n6_:=am ((bN BK315.out hg:gb315≠gb322));have n7_:=am ((bO BK315.out hg:gb322≠gb315));clear HO318 BK315 HB;have HO318:=n0_;have BK315:=n1_;have HB:=n2_;have BK322:=n3_;have GW322:=n4_;have GE322:=n5_;have NB315_322:=n6_;have NB322_315:=n7_;clear n0_ n1_ n2_ n3_ n4_ n5_ n6_ n7_;clear hb hbox hg;obtain⟨Ao11,co11,eo11⟩:=Kd.R_slice HO318.out;subst eo11;have hnb12:=NB322_315.out;have hnc12:=NB315_322.out;obtain⟨hcz13_0,hcz13_1,hcz13_2⟩:=cC3 BK322.out;obtain⟨hfz13_0,hfz13_1,hfz13_2⟩:=cF3 BK322.out))
 (try simp only[Act.put,zA,zB,zC])
 go_cut [34] (fun v34 wc => ∃ (kq:Nat) (x34_6:Bool),v34=.bool x34_6∧Aside0 (spec_PlaySpray.j0 kq l4 x34_6 t316 t319 t320=some (r1,r2,r3,r4,r5))∧Aside0 (kq≤k)∧Aside0 (Kd.R (Kd.int .i64) 3 wc w.heap.size (fun _=>True) (.slice Ao11 t316.length co11) t316)∧Aside0 (wc.heap[gb315]?=some (.cells #[(.slice none 0 0),.int .i64 0,.bool false] 62 (0,0)))∧Aside0 (wc.heap[gb322]?=some (.cells #[(.slice Ao11 t316.length co11),.int .i64 t319,.bool t320] 62 (0,0)))∧Aside0 (Below w.heap.size w wc))
 case first =>
  have H:=HC7.out
  clear HC7
  by_cases c14:t321=true
  ·subst c14
   have H1:(spec_PlaySpray.j0 k l4 (decide ((l4.length:Int) > 100)) t316 t319 t320)=some (r1,r2,r3,r4,r5):=by rw[if_pos rfl] at H;exact H
   clear H
   have H:=H1
   clear H1
   have H':=am H
   clear H
   go_wp2
   go_meet
   case rel=>exact⟨_,(decide ((l4.length:Int) > 100)),(bR),H',⟨by first|omega|exact Nat.le_refl _⟩,⟨by(with_reducible repeat (first|apply Kd.R_alloc|apply Kd.R_drewN|apply Kd.R_drew));exact Kd.R_mono (Kd.R_far (p:=⟨gb322,2,none⟩) (Kd.R_far (p:=⟨gb322,1,none⟩) (Kd.R_far (p:=⟨gb322,0,none⟩) (Kd.R_types HO318.out BK322.out (b17_)) (fun _ hk=>hk.2) (.slice Ao11 t316.length co11)) (fun _ hk=>hk.2) (.int .i64 t319)) (fun _ hk=>hk.2) (.bool t320)) (fun _ hk=>trivial)⟩,⟨by(with_reducible repeat (first|refine blk_drewN ?_ _|refine blk_drew ?_|refine blk_alloc ?_ _));refine blk_far ?_ NB315_322.out _;(with_reducible repeat (first|refine blk_drewN ?_ _|refine blk_drew ?_|refine blk_alloc ?_ _));refine blk_far ?_ NB315_322.out _;(with_reducible repeat (first|refine blk_drewN ?_ _|refine blk_drew ?_|refine blk_alloc ?_ _));refine blk_far ?_ NB315_322.out _;(with_reducible repeat (first|refine blk_drewN ?_ _|refine blk_drew ?_|refine blk_alloc ?_ _));exact BK315.out⟩,⟨by(with_reducible repeat (first|refine blk_drewN ?_ _|refine blk_drew ?_|refine blk_alloc ?_ _));apply bU3;(with_reducible repeat (first|refine blk_drewN ?_ _|refine blk_drew ?_|refine blk_alloc ?_ _));exact BK322.out⟩,⟨bS2 GE315.out GE322.out⟩⟩
  ·replace c14:=Bool.eq_false_iff.mpr c14
   subst c14
   have H1:(spec_PlaySpray.j0 k l4 true t316 t319 t320)=some (r1,r2,r3,r4,r5):=by rw[if_neg (show ¬ (false=true) by decide)] at H;exact H
   clear H
   have H:=H1
   clear H1
   have H':=am H
   clear H
   go_wp2
   go_meet
   case rel=>exact⟨_,(true),(bR),H',⟨by first|omega|exact Nat.le_refl _⟩,⟨by(with_reducible repeat (first|apply Kd.R_alloc|apply Kd.R_drewN|apply Kd.R_drew));exact Kd.R_mono (Kd.R_far (p:=⟨gb322,2,none⟩) (Kd.R_far (p:=⟨gb322,1,none⟩) (Kd.R_far (p:=⟨gb322,0,none⟩) (Kd.R_types HO318.out BK322.out (b17_)) (fun _ hk=>hk.2) (.slice Ao11 t316.length co11)) (fun _ hk=>hk.2) (.int .i64 t319)) (fun _ hk=>hk.2) (.bool t320)) (fun _ hk=>trivial)⟩,⟨by(with_reducible repeat (first|refine blk_drewN ?_ _|refine blk_drew ?_|refine blk_alloc ?_ _));refine blk_far ?_ NB315_322.out _;(with_reducible repeat (first|refine blk_drewN ?_ _|refine blk_drew ?_|refine blk_alloc ?_ _));refine blk_far ?_ NB315_322.out _;(with_reducible repeat (first|refine blk_drewN ?_ _|refine blk_drew ?_|refine blk_alloc ?_ _));refine blk_far ?_ NB315_322.out _;(with_reducible repeat (first|refine blk_drewN ?_ _|refine blk_drew ?_|refine blk_alloc ?_ _));exact BK315.out⟩,⟨by(with_reducible repeat (first|refine blk_drewN ?_ _|refine blk_drew ?_|refine blk_alloc ?_ _));apply bU3;(with_reducible repeat (first|refine blk_drewN ?_ _|refine blk_drew ?_|refine blk_alloc ?_ _));exact BK322.out⟩,⟨bS2 GE315.out GE322.out⟩⟩
 case rest =>
  clear HC7
  try clear c1
  try clear p2
  try clear c3
  try clear c4
  try clear c10
  try clear c12
  try clear c14
  try clear hcz13_0 hcz13_1 hcz13_2
  try clear hfz13_0 hfz13_1 hfz13_2
  obtain⟨kq,x34_6,rfl,HA,HJ6,HO_323000,BK315,BK322,HB⟩:=hcut
  cases kq with
  | zero=>exact absurd HA.out (by simp[spec_PlaySpray.j0])
  | succ kj6 =>
   have H:=HA.out
   clear HA
   simp only[spec_PlaySpray.j0] at H
   by_cases c15:x34_6=true
   ·subst c15
    have H1:(some (([]:List Int),0,false,0,false))=some (r1,r2,r3,r4,r5):=by rw[if_pos rfl] at H;exact H
    clear H
    have H:=H1
    clear H1
    simp only[Option.some.injEq,Prod.mk.injEq] at H
    obtain⟨rfl,rfl,rfl,rfl,rfl⟩:=H
    have hnb16:=NB315_322.out
    have hnc16:=NB322_315.out
    obtain⟨hcz17_0,hcz17_1,hcz17_2⟩:=cC3 BK315.out
    obtain⟨hfz17_0,hfz17_1,hfz17_2⟩:=cF3 BK315.out
    go_wp2
    refine bodyPost_ret (results_ctt rfl _ _ gb315 62 #[.slice none 0 0,.int .i64 0,.bool false] (0,0) _ rfl (by(with_reducible repeat (first|refine blk_drewN ?_ _|refine blk_drew ?_|refine blk_alloc ?_ _));apply bU3;(with_reducible repeat (first|refine blk_drewN ?_ _|refine blk_drew ?_|refine blk_alloc ?_ _));exact BK315.out) Try.underlying62 rfl (b4_)) rfl ?_
    exact⟨_,by first|rfl|(simp[errW_none,errW_some]<;>rfl)|(simp[*,errW_none,errW_some]<;>rfl),by first|exact Kd.R_nil _ _ _ _ _|exact Kd.N_nil _ _ _ _ _|exact Kd.V_nil _ _ _ _ _|exact Kd.Q_nil _ _ _ _ _|exact Kd.S_nil _ _ _ _ _,bS2 GE315.out GE322.out⟩
   ·replace c15:=Bool.eq_false_iff.mpr c15
    subst c15
    have H1:(spec_PlaySpray.l0 kj6 0 l4 (l4.length:Int) 0 t316 t319 t320)=some (r1,r2,r3,r4,r5):=by rw[if_neg (show ¬ (false=true) by decide)] at H;exact H
    clear H
    have H:=H1
    clear H1
    have H':=am H
    clear H
    go_wp2
    go_loopg [15,38] kj6 (fun kq v15 v38 w' => ∃ (x15_2:Int) (x38_2:Int) (x316001_2:Int) (x316002_2:Bool) (x323000_2:List Int) (x323001_2:Int) (x323002_2:Bool) (u323000:Value),v15=.int .i64 x15_2∧v38=.int .i64 x38_2∧Aside0 (spec_PlaySpray.l0 kq x15_2 l4 (l4.length:Int) x38_2 x323000_2 x323001_2 x323002_2=some (r1,r2,r3,r4,r5))∧Aside0 (kq≤kj6)∧Aside0 (Kd.R (Kd.int .i64) 3 w' w.heap.size (fun _=>True) u323000 x323000_2)∧Aside0 (w'.heap[gb315]?=some (.cells #[(.slice none 0 0),.int .i64 x316001_2,.bool x316002_2] 62 (0,0)))∧Aside0 (w'.heap[gb322]?=some (.cells #[u323000,.int .i64 x323001_2,.bool x323002_2] 62 (0,0)))∧Aside0 (Below w.heap.size w w'))
    case atStart=>exact⟨(0),(0),(0),(false),(t316),(t319),(t320),(.slice Ao11 t316.length co11),(bR),(bR),H',⟨Nat.le_refl _⟩,⟨by(with_reducible repeat (first|apply Kd.R_alloc|apply Kd.R_drewN|apply Kd.R_drew));exact HO_323000.out⟩,⟨by(with_reducible repeat (first|refine blk_drewN ?_ _|refine blk_drew ?_|refine blk_alloc ?_ _));exact BK315.out⟩,⟨by(with_reducible repeat (first|refine blk_drewN ?_ _|refine blk_drew ?_|refine blk_alloc ?_ _));exact BK322.out⟩,⟨bS2 GE315.out GE322.out⟩⟩
    case round =>
     clear H'
     try clear c1
     try clear p2
     try clear c3
     try clear c4
     try clear c10
     try clear c12
     try clear c14
     try clear c15
     try clear c16
     try clear hcz13_0 hcz13_1 hcz13_2
     try clear hcz17_0 hcz17_1 hcz17_2
     try clear hfz13_0 hfz13_1 hfz13_2
     try clear hfz17_0 hfz17_1 hfz17_2
     try clear p2
     obtain⟨x15_2,x38_2,x316001_2,x316002_2,x323000_2,x323001_2,x323002_2,u323000,rfl,rfl,HA,HK2,HO_323000,BK315,BK322,HB⟩:=hrel
     cases gk with
     | zero=>exact absurd HA.out (by simp[spec_PlaySpray.l0])
     | succ k2 =>
      have H:=HA.out
      clear HA
      simp only[spec_PlaySpray.l0] at H
      by_cases c18:x38_2 < (l4.length:Int)
      ·rw[if_pos c18] at H
       have c18b0:decide (x38_2 < (l4.length:Int))=true:=decide_eq_true c18
       clear c18
       by_cases c19:0≤x38_2
       ·rw[if_pos c19] at H
        have c19b0:decide (0≤x38_2)=true:=decide_eq_true c19
        clear c19
        by_cases c20:x38_2 < (l4.length:Int)
        ·rw[if_pos c20] at H
         have c20b0:decide (x38_2 < (l4.length:Int))=true:=decide_eq_true c20
         clear c20
         replace H:=bI_ H
         obtain⟨⟨t325,t328,t329,t330⟩,A210,H⟩:=H
         replace H:(if t330=true then (if t329=true then (if x323002_2=true then (spec_PlaySpray.l0 k2 x15_2 l4 (l4.length:Int) (wrap64 (x38_2+1)) t325 t328 t329) else (spec_PlaySpray.l0 k2 (wrap64 (x38_2+1)) l4 (l4.length:Int) (wrap64 (x38_2+1)) t325 t328 t329)) else (spec_PlaySpray.l0 k2 x15_2 l4 (l4.length:Int) (wrap64 (x38_2+1)) t325 t328 t329)) else (some (([]:List Int),0,false,0,false)))=some (r1,r2,r3,r4,r5):=H
         have A21:=am A210
         clear A210
         by_cases c22:t330=true
         ·subst c22
          have H1:(if t329=true then (if x323002_2=true then (spec_PlaySpray.l0 k2 x15_2 l4 (l4.length:Int) (wrap64 (x38_2+1)) t325 t328 t329) else (spec_PlaySpray.l0 k2 (wrap64 (x38_2+1)) l4 (l4.length:Int) (wrap64 (x38_2+1)) t325 t328 t329)) else (spec_PlaySpray.l0 k2 x15_2 l4 (l4.length:Int) (wrap64 (x38_2+1)) t325 t328 t329))=some (r1,r2,r3,r4,r5):=by rw[if_pos rfl] at H;exact H
          clear H
          have H:=H1
          clear H1
          by_cases c23:t329=true
          ·subst c23
           have H1:(if x323002_2=true then (spec_PlaySpray.l0 k2 x15_2 l4 (l4.length:Int) (wrap64 (x38_2+1)) t325 t328 true) else (spec_PlaySpray.l0 k2 (wrap64 (x38_2+1)) l4 (l4.length:Int) (wrap64 (x38_2+1)) t325 t328 true))=some (r1,r2,r3,r4,r5):=by rw[if_pos rfl] at H;exact H
           clear H
           have H:=H1
           clear H1
           by_cases c24:x323002_2=true
           ·subst c24
            have H1:(spec_PlaySpray.l0 k2 x15_2 l4 (l4.length:Int) (wrap64 (x38_2+1)) t325 t328 true)=some (r1,r2,r3,r4,r5):=by rw[if_pos rfl] at H;exact H
            clear H
            have H:=H1
            clear H1
            have H':=am H
            clear H
            have p323:0≤(x38_2:Int):=bD_
            have q323:x38_2 < (l4.length:Int):=bD_
            obtain⟨ad323,e323,hx323_0,hx323_1⟩:=at_T72 HR4.out x38_2 p323 q323
            cases e323
            replace hx323_0:=bQ_ HB.out hx323_0
            replace hx323_1:=bQ_ HB.out hx323_1
            replace p323:=eq_true p323
            replace q323:=eq_true q323
            go_wp2_with (first|((with_reducible refine gate_dst (N:=17) rfl ?_);(try (refine gate_guard (by rfl) ?_;dsimp only));refine box_event ?hg (N:=17) ?hd (cs:=#[.int .i64 0,.int .i64 0]) (t:=72) ?hr ?_;(case hd=>rfl);(case hg=>rfl);(case hr=>first|(go_simp;done)|(go_simp;rfl));intro gb324 hg w25 hbox hb;have n0_:=am (Kd.R_below (bK HO_323000.out) hb);have n1_:=am (bM BK315.out hb);have n2_:=am (bM BK322.out hb);have n3_:=am (below_step (bS2 GE315.out GE322.out) hb);have n4_:=am (hbox);have n5_:=am ((by rw[hg];exact(below_size (bS2 GE315.out GE322.out)):w.heap.size≤gb324));have n6_:=am ((by rw[hg];exact(below_size (bS2 GE315.out GE322.out)):w.heap.size≤gb324));have n7_:=am ((bN BK315.out hg:gb315≠gb324));have n8_:=am ((bO BK315.out hg:gb324≠gb315));have n9_:=am ((bN BK322.out hg:gb322≠gb324));have n10_:=am ((bO BK322.out hg:gb324≠gb322));clear HO_323000 BK315 BK322 HB;have HO_323000:=n0_;have BK315:=n1_;have BK322:=n2_;have HB:=n3_;have BK324:=n4_;have GW324:=n5_;have GE324:=n6_;have NB315_324:=n7_;have NB324_315:=n8_;have NB322_324:=n9_;have NB324_322:=n10_;clear n0_ n1_ n2_ n3_ n4_ n5_ n6_ n7_ n8_ n9_ n10_;clear hb hbox hg;have hnb26:=NB324_315.out;have hnc26:=NB315_324.out;have hnb27:=NB324_322.out;have hnc27:=NB322_324.out;obtain⟨hcz28_0,hcz28_1⟩:=cC2 BK324.out;obtain⟨hfz28_0,hfz28_1⟩:=cF2 BK324.out;have hnb29:=NB322_315.out;have hnc29:=NB315_322.out;obtain⟨hcz30_0,hcz30_1,hcz30_2⟩:=cC3 BK322.out;obtain⟨hfz30_0,hfz30_1,hfz30_2⟩:=cF3 BK322.out;obtain⟨Ao31,co31,eo31⟩:=Kd.R_slice HO_323000.out;subst eo31)|((with_reducible refine gate_callee (f:=109) rfl ?_);refine goesA (some 46) rfl rfl Try.func109 #[.agg #[.slice Ao31 x323000_2.length co31,.int .i64 x323001_2,.bool true],.agg #[.int .i64 ((rd_T72 l4 x38_2).f0),.int .i64 ((rd_T72 l4 x38_2).f1)]] rfl ?_;(with_reducible refine(spec_l15Meet.calls k2 _ _ x323000_2 x323001_2 true ((rd_T72 l4 x38_2).f0) ((rd_T72 l4 x38_2).f1) t325 t328 true true _ ?side1 ?side2 A21.out).mono ?_);(case side1=>refine(Kd.R_reads' (e:=3) (base:=w.heap.size) (ok:=fun k_=>True) (n:=x323000_2.length) (c:=co31) ?_).2.2;exact(b3_));(case side2=>exact(Kd.R_reads' HO_323000.out).2.1);rintro e w32 ⟨v326,rfl,ho0,hb⟩;refine⟨_,rfl,?_⟩;have n0_:=am (Kd.R_elder' (b3_) (Kd.R_base ho0) hb);have n1_:=am (Kd.R_lower (Kd.R_new' ho0 (Kd.R_lt (b3_))) (below_size (bS3 GE315.out GE322.out GE324.out)));have n2_:=am (blk_below (g:=gb315) (o:=.cells #[.slice none 0 0,.int .i64 x316001_2,.bool x316002_2] 62 (0,0)) (b14_) hb);have n3_:=am (blk_below (g:=gb322) (o:=.cells #[.slice Ao31 x323000_2.length co31,.int .i64 x323001_2,.bool true] 62 (0,0)) (b15_) hb);have n4_:=am (blk_below (g:=gb324) (o:=.cells #[.int .i64 ((rd_T72 l4 x38_2).f0),.int .i64 ((rd_T72 l4 x38_2).f1)] 72 (0,0)) (b8_) hb);have n5_:=am (below_step (bS3 GE315.out GE322.out GE324.out) hb);clear HO_323000 BK315 BK322 BK324 HB;have HO_323000:=n0_;have HO327:=n1_;have BK315:=n2_;have BK322:=n3_;have BK324:=n4_;have HB:=n5_;clear n0_ n1_ n2_ n3_ n4_ n5_;(try clear hb);(try clear hb2);(try clear hk);(try clear hi);(try clear ho0))|((with_reducible refine gate_dst (N:=18) rfl ?_);(try (refine gate_guard (by rfl) ?_;dsimp only));refine box_event ?hg (N:=18) ?hd (cs:=#[.slice none 0 0,.int .i64 0,.bool false]) (t:=62) ?hr ?_;(case hd=>rfl);(case hg=>rfl);(case hr=>first|(go_simp;done)|(go_simp;rfl));intro gb331 hg w33 hbox hb;have n0_:=am (Kd.R_below (bK HO_323000.out) hb);have n1_:=am (Kd.R_below (bK HO327.out) hb);have n2_:=am (bM BK315.out hb);have n3_:=am (bM BK322.out hb);have n4_:=am (bM BK324.out hb);have n5_:=am (below_step (bS3 GE315.out GE322.out GE324.out) hb);have n6_:=am (hbox);have n7_:=am ((by rw[hg];exact(below_size (bS3 GE315.out GE322.out GE324.out)):w.heap.size≤gb331));have n8_:=am ((by rw[hg];exact(below_size (bS3 GE315.out GE322.out GE324.out)):w.heap.size≤gb331));have n9_:=am ((bN BK315.out hg:gb315≠gb331));have n10_:=am ((bO BK315.out hg:gb331≠gb315));have n11_:=am ((bN BK322.out hg:gb322≠gb331));have n12_:=am ((bO BK322.out hg:gb331≠gb322));have n13_:=am ((bN BK324.out hg:gb324≠gb331));have n14_:=am ((bO BK324.out hg:gb331≠gb324));clear HO_323000 HO327 BK315 BK322 BK324 HB;have HO_323000:=n0_;have HO327:=n1_;have BK315:=n2_;have BK322:=n3_;have BK324:=n4_;have HB:=n5_;have BK331:=n6_;have GW331:=n7_;have GE331:=n8_;have NB315_331:=n9_;have NB331_315:=n10_;have NB322_331:=n11_;have NB331_322:=n12_;have NB324_331:=n13_;have NB331_324:=n14_;clear n0_ n1_ n2_ n3_ n4_ n5_ n6_ n7_ n8_ n9_ n10_ n11_ n12_ n13_ n14_;clear hb hbox hg;obtain⟨Ao34,co34,eo34⟩:=Kd.R_slice HO327.out;subst eo34;have hnb35:=NB331_315.out;have hnc35:=NB315_331.out;have hnb36:=NB331_322.out;have hnc36:=NB322_331.out;have hnb37:=NB331_324.out;have hnc37:=NB324_331.out;obtain⟨hcz38_0,hcz38_1,hcz38_2⟩:=cC3 BK331.out;obtain⟨hfz38_0,hfz38_1,hfz38_2⟩:=cF3 BK331.out;obtain⟨hcz39_0,hcz39_1,hcz39_2⟩:=cC3 BK322.out;obtain⟨hfz39_0,hfz39_1,hfz39_2⟩:=cF3 BK322.out))
            go_roundg k2
            case measure=>have:=HJ6.out;have:=HK2.out;omega
            case rel=>exact⟨(x15_2),(wrap64 (x38_2+1)),(x316001_2),(x316002_2),(t325),(t328),(true),(.slice Ao34 t325.length co34),(bR),(bR),H',⟨by have:=HJ6.out;have:=HK2.out;omega⟩,⟨by(with_reducible repeat (first|apply Kd.R_alloc|apply Kd.R_drewN|apply Kd.R_drew));exact Kd.R_mono (Kd.R_far (p:=⟨gb322,2,none⟩) (Kd.R_far (p:=⟨gb322,1,none⟩) (Kd.R_far (p:=⟨gb322,0,none⟩) (Kd.R_far (p:=⟨gb331,2,none⟩) (Kd.R_far (p:=⟨gb331,1,none⟩) (Kd.R_far (p:=⟨gb331,0,none⟩) (Kd.R_types (Kd.R_types HO327.out BK331.out (b17_)) BK322.out (b17_)) (fun _ hk=>hk.1.2) (.slice Ao34 t325.length co34)) (fun _ hk=>hk.1.2) (.int .i64 t328)) (fun _ hk=>hk.1.2) (.bool true)) (fun _ hk=>hk.2) (.slice Ao34 t325.length co34)) (fun _ hk=>hk.2) (.int .i64 t328)) (fun _ hk=>hk.2) (.bool true)) (fun _ hk=>trivial)⟩,⟨by(with_reducible repeat (first|refine blk_drewN ?_ _|refine blk_drew ?_|refine blk_alloc ?_ _));refine blk_far ?_ NB315_322.out _;(with_reducible repeat (first|refine blk_drewN ?_ _|refine blk_drew ?_|refine blk_alloc ?_ _));refine blk_far ?_ NB315_322.out _;(with_reducible repeat (first|refine blk_drewN ?_ _|refine blk_drew ?_|refine blk_alloc ?_ _));refine blk_far ?_ NB315_322.out _;(with_reducible repeat (first|refine blk_drewN ?_ _|refine blk_drew ?_|refine blk_alloc ?_ _));refine blk_far ?_ NB315_331.out _;(with_reducible repeat (first|refine blk_drewN ?_ _|refine blk_drew ?_|refine blk_alloc ?_ _));refine blk_far ?_ NB315_331.out _;(with_reducible repeat (first|refine blk_drewN ?_ _|refine blk_drew ?_|refine blk_alloc ?_ _));refine blk_far ?_ NB315_331.out _;(with_reducible repeat (first|refine blk_drewN ?_ _|refine blk_drew ?_|refine blk_alloc ?_ _));exact BK315.out⟩,⟨by(with_reducible repeat (first|refine blk_drewN ?_ _|refine blk_drew ?_|refine blk_alloc ?_ _));apply bU3;(with_reducible repeat (first|refine blk_drewN ?_ _|refine blk_drew ?_|refine blk_alloc ?_ _));refine blk_far ?_ NB322_331.out _;(with_reducible repeat (first|refine blk_drewN ?_ _|refine blk_drew ?_|refine blk_alloc ?_ _));refine blk_far ?_ NB322_331.out _;(with_reducible repeat (first|refine blk_drewN ?_ _|refine blk_drew ?_|refine blk_alloc ?_ _));refine blk_far ?_ NB322_331.out _;(with_reducible repeat (first|refine blk_drewN ?_ _|refine blk_drew ?_|refine blk_alloc ?_ _));exact BK322.out⟩,⟨bS4 GE315.out GE322.out GE324.out GE331.out⟩⟩
           ·replace c24:=Bool.eq_false_iff.mpr c24
            subst c24
            have H1:(spec_PlaySpray.l0 k2 (wrap64 (x38_2+1)) l4 (l4.length:Int) (wrap64 (x38_2+1)) t325 t328 true)=some (r1,r2,r3,r4,r5):=by rw[if_neg (show ¬ (false=true) by decide)] at H;exact H
            clear H
            have H:=H1
            clear H1
            have H':=am H
            clear H
            have p323:0≤(x38_2:Int):=bD_
            have q323:x38_2 < (l4.length:Int):=bD_
            obtain⟨ad323,e323,hx323_0,hx323_1⟩:=at_T72 HR4.out x38_2 p323 q323
            cases e323
            replace hx323_0:=bQ_ HB.out hx323_0
            replace hx323_1:=bQ_ HB.out hx323_1
            replace p323:=eq_true p323
            replace q323:=eq_true q323
            go_wp2_with (first|((with_reducible refine gate_dst (N:=17) rfl ?_);(try (refine gate_guard (by rfl) ?_;dsimp only));refine box_event ?hg (N:=17) ?hd (cs:=#[.int .i64 0,.int .i64 0]) (t:=72) ?hr ?_;(case hd=>rfl);(case hg=>rfl);(case hr=>first|(go_simp;done)|(go_simp;rfl));intro gb324 hg w40 hbox hb;have n0_:=am (Kd.R_below (bK HO_323000.out) hb);have n1_:=am (bM BK315.out hb);have n2_:=am (bM BK322.out hb);have n3_:=am (below_step (bS2 GE315.out GE322.out) hb);have n4_:=am (hbox);have n5_:=am ((by rw[hg];exact(below_size (bS2 GE315.out GE322.out)):w.heap.size≤gb324));have n6_:=am ((by rw[hg];exact(below_size (bS2 GE315.out GE322.out)):w.heap.size≤gb324));have n7_:=am ((bN BK315.out hg:gb315≠gb324));have n8_:=am ((bO BK315.out hg:gb324≠gb315));have n9_:=am ((bN BK322.out hg:gb322≠gb324));have n10_:=am ((bO BK322.out hg:gb324≠gb322));clear HO_323000 BK315 BK322 HB;have HO_323000:=n0_;have BK315:=n1_;have BK322:=n2_;have HB:=n3_;have BK324:=n4_;have GW324:=n5_;have GE324:=n6_;have NB315_324:=n7_;have NB324_315:=n8_;have NB322_324:=n9_;have NB324_322:=n10_;clear n0_ n1_ n2_ n3_ n4_ n5_ n6_ n7_ n8_ n9_ n10_;clear hb hbox hg;have hnb41:=NB324_315.out;have hnc41:=NB315_324.out;have hnb42:=NB324_322.out;have hnc42:=NB322_324.out;obtain⟨hcz43_0,hcz43_1⟩:=cC2 BK324.out;obtain⟨hfz43_0,hfz43_1⟩:=cF2 BK324.out;have hnb44:=NB322_315.out;have hnc44:=NB315_322.out;obtain⟨hcz45_0,hcz45_1,hcz45_2⟩:=cC3 BK322.out;obtain⟨hfz45_0,hfz45_1,hfz45_2⟩:=cF3 BK322.out;obtain⟨Ao46,co46,eo46⟩:=Kd.R_slice HO_323000.out;subst eo46)|((with_reducible refine gate_callee (f:=109) rfl ?_);refine goesA (some 46) rfl rfl Try.func109 #[.agg #[.slice Ao46 x323000_2.length co46,.int .i64 x323001_2,.bool false],.agg #[.int .i64 ((rd_T72 l4 x38_2).f0),.int .i64 ((rd_T72 l4 x38_2).f1)]] rfl ?_;(with_reducible refine(spec_l15Meet.calls k2 _ _ x323000_2 x323001_2 false ((rd_T72 l4 x38_2).f0) ((rd_T72 l4 x38_2).f1) t325 t328 true true _ ?side1 ?side2 A21.out).mono ?_);(case side1=>refine(Kd.R_reads' (e:=3) (base:=w.heap.size) (ok:=fun k_=>True) (n:=x323000_2.length) (c:=co46) ?_).2.2;exact(b3_));(case side2=>exact(Kd.R_reads' HO_323000.out).2.1);rintro e w47 ⟨v326,rfl,ho0,hb⟩;refine⟨_,rfl,?_⟩;have n0_:=am (Kd.R_elder' (b3_) (Kd.R_base ho0) hb);have n1_:=am (Kd.R_lower (Kd.R_new' ho0 (Kd.R_lt (b3_))) (below_size (bS3 GE315.out GE322.out GE324.out)));have n2_:=am (blk_below (g:=gb315) (o:=.cells #[.slice none 0 0,.int .i64 x316001_2,.bool x316002_2] 62 (0,0)) (b14_) hb);have n3_:=am (blk_below (g:=gb322) (o:=.cells #[.slice Ao46 x323000_2.length co46,.int .i64 x323001_2,.bool false] 62 (0,0)) (b15_) hb);have n4_:=am (blk_below (g:=gb324) (o:=.cells #[.int .i64 ((rd_T72 l4 x38_2).f0),.int .i64 ((rd_T72 l4 x38_2).f1)] 72 (0,0)) (b8_) hb);have n5_:=am (below_step (bS3 GE315.out GE322.out GE324.out) hb);clear HO_323000 BK315 BK322 BK324 HB;have HO_323000:=n0_;have HO327:=n1_;have BK315:=n2_;have BK322:=n3_;have BK324:=n4_;have HB:=n5_;clear n0_ n1_ n2_ n3_ n4_ n5_;(try clear hb);(try clear hb2);(try clear hk);(try clear hi);(try clear ho0))|((with_reducible refine gate_dst (N:=18) rfl ?_);(try (refine gate_guard (by rfl) ?_;dsimp only));refine box_event ?hg (N:=18) ?hd (cs:=#[.slice none 0 0,.int .i64 0,.bool false]) (t:=62) ?hr ?_;(case hd=>rfl);(case hg=>rfl);(case hr=>first|(go_simp;done)|(go_simp;rfl));intro gb331 hg w48 hbox hb;have n0_:=am (Kd.R_below (bK HO_323000.out) hb);have n1_:=am (Kd.R_below (bK HO327.out) hb);have n2_:=am (bM BK315.out hb);have n3_:=am (bM BK322.out hb);have n4_:=am (bM BK324.out hb);have n5_:=am (below_step (bS3 GE315.out GE322.out GE324.out) hb);have n6_:=am (hbox);have n7_:=am ((by rw[hg];exact(below_size (bS3 GE315.out GE322.out GE324.out)):w.heap.size≤gb331));have n8_:=am ((by rw[hg];exact(below_size (bS3 GE315.out GE322.out GE324.out)):w.heap.size≤gb331));have n9_:=am ((bN BK315.out hg:gb315≠gb331));have n10_:=am ((bO BK315.out hg:gb331≠gb315));have n11_:=am ((bN BK322.out hg:gb322≠gb331));have n12_:=am ((bO BK322.out hg:gb331≠gb322));have n13_:=am ((bN BK324.out hg:gb324≠gb331));have n14_:=am ((bO BK324.out hg:gb331≠gb324));clear HO_323000 HO327 BK315 BK322 BK324 HB;have HO_323000:=n0_;have HO327:=n1_;have BK315:=n2_;have BK322:=n3_;have BK324:=n4_;have HB:=n5_;have BK331:=n6_;have GW331:=n7_;have GE331:=n8_;have NB315_331:=n9_;have NB331_315:=n10_;have NB322_331:=n11_;have NB331_322:=n12_;have NB324_331:=n13_;have NB331_324:=n14_;clear n0_ n1_ n2_ n3_ n4_ n5_ n6_ n7_ n8_ n9_ n10_ n11_ n12_ n13_ n14_;clear hb hbox hg;obtain⟨Ao49,co49,eo49⟩:=Kd.R_slice HO327.out;subst eo49;have hnb50:=NB331_315.out;have hnc50:=NB315_331.out;have hnb51:=NB331_322.out;have hnc51:=NB322_331.out;have hnb52:=NB331_324.out;have hnc52:=NB324_331.out;obtain⟨hcz53_0,hcz53_1,hcz53_2⟩:=cC3 BK331.out;obtain⟨hfz53_0,hfz53_1,hfz53_2⟩:=cF3 BK331.out;obtain⟨hcz54_0,hcz54_1,hcz54_2⟩:=cC3 BK322.out;obtain⟨hfz54_0,hfz54_1,hfz54_2⟩:=cF3 BK322.out))
            go_roundg k2
            case measure=>have:=HJ6.out;have:=HK2.out;omega
            case rel=>exact⟨(wrap64 (x38_2+1)),(wrap64 (x38_2+1)),(x316001_2),(x316002_2),(t325),(t328),(true),(.slice Ao49 t325.length co49),(bR),(bR),H',⟨by have:=HJ6.out;have:=HK2.out;omega⟩,⟨by(with_reducible repeat (first|apply Kd.R_alloc|apply Kd.R_drewN|apply Kd.R_drew));exact Kd.R_mono (Kd.R_far (p:=⟨gb322,2,none⟩) (Kd.R_far (p:=⟨gb322,1,none⟩) (Kd.R_far (p:=⟨gb322,0,none⟩) (Kd.R_far (p:=⟨gb331,2,none⟩) (Kd.R_far (p:=⟨gb331,1,none⟩) (Kd.R_far (p:=⟨gb331,0,none⟩) (Kd.R_types (Kd.R_types HO327.out BK331.out (b17_)) BK322.out (b17_)) (fun _ hk=>hk.1.2) (.slice Ao49 t325.length co49)) (fun _ hk=>hk.1.2) (.int .i64 t328)) (fun _ hk=>hk.1.2) (.bool true)) (fun _ hk=>hk.2) (.slice Ao49 t325.length co49)) (fun _ hk=>hk.2) (.int .i64 t328)) (fun _ hk=>hk.2) (.bool true)) (fun _ hk=>trivial)⟩,⟨by(with_reducible repeat (first|refine blk_drewN ?_ _|refine blk_drew ?_|refine blk_alloc ?_ _));refine blk_far ?_ NB315_322.out _;(with_reducible repeat (first|refine blk_drewN ?_ _|refine blk_drew ?_|refine blk_alloc ?_ _));refine blk_far ?_ NB315_322.out _;(with_reducible repeat (first|refine blk_drewN ?_ _|refine blk_drew ?_|refine blk_alloc ?_ _));refine blk_far ?_ NB315_322.out _;(with_reducible repeat (first|refine blk_drewN ?_ _|refine blk_drew ?_|refine blk_alloc ?_ _));refine blk_far ?_ NB315_331.out _;(with_reducible repeat (first|refine blk_drewN ?_ _|refine blk_drew ?_|refine blk_alloc ?_ _));refine blk_far ?_ NB315_331.out _;(with_reducible repeat (first|refine blk_drewN ?_ _|refine blk_drew ?_|refine blk_alloc ?_ _));refine blk_far ?_ NB315_331.out _;(with_reducible repeat (first|refine blk_drewN ?_ _|refine blk_drew ?_|refine blk_alloc ?_ _));exact BK315.out⟩,⟨by(with_reducible repeat (first|refine blk_drewN ?_ _|refine blk_drew ?_|refine blk_alloc ?_ _));apply bU3;(with_reducible repeat (first|refine blk_drewN ?_ _|refine blk_drew ?_|refine blk_alloc ?_ _));refine blk_far ?_ NB322_331.out _;(with_reducible repeat (first|refine blk_drewN ?_ _|refine blk_drew ?_|refine blk_alloc ?_ _));refine blk_far ?_ NB322_331.out _;(with_reducible repeat (first|refine blk_drewN ?_ _|refine blk_drew ?_|refine blk_alloc ?_ _));refine blk_far ?_ NB322_331.out _;(with_reducible repeat (first|refine blk_drewN ?_ _|refine blk_drew ?_|refine blk_alloc ?_ _));exact BK322.out⟩,⟨bS4 GE315.out GE322.out GE324.out GE331.out⟩⟩
          ·replace c23:=Bool.eq_false_iff.mpr c23
           subst c23
           have H1:(spec_PlaySpray.l0 k2 x15_2 l4 (l4.length:Int) (wrap64 (x38_2+1)) t325 t328 false)=some (r1,r2,r3,r4,r5):=by rw[if_neg (show ¬ (false=true) by decide)] at H;exact H
           clear H
           have H:=H1
           clear H1
           have H':=am H
           clear H
           have p323:0≤(x38_2:Int):=bD_
           have q323:x38_2 < (l4.length:Int):=bD_
           obtain⟨ad323,e323,hx323_0,hx323_1⟩:=at_T72 HR4.out x38_2 p323 q323
           cases e323
           replace hx323_0:=bQ_ HB.out hx323_0
           replace hx323_1:=bQ_ HB.out hx323_1
           replace p323:=eq_true p323
           replace q323:=eq_true q323
           go_wp2_with (first|((with_reducible refine gate_dst (N:=17) rfl ?_);(try (refine gate_guard (by rfl) ?_;dsimp only));refine box_event ?hg (N:=17) ?hd (cs:=#[.int .i64 0,.int .i64 0]) (t:=72) ?hr ?_;(case hd=>rfl);(case hg=>rfl);(case hr=>first|(go_simp;done)|(go_simp;rfl));intro gb324 hg w55 hbox hb;have n0_:=am (Kd.R_below (bK HO_323000.out) hb);have n1_:=am (bM BK315.out hb);have n2_:=am (bM BK322.out hb);have n3_:=am (below_step (bS2 GE315.out GE322.out) hb);have n4_:=am (hbox);have n5_:=am ((by rw[hg];exact(below_size (bS2 GE315.out GE322.out)):w.heap.size≤gb324));have n6_:=am ((by rw[hg];exact(below_size (bS2 GE315.out GE322.out)):w.heap.size≤gb324));have n7_:=am ((bN BK315.out hg:gb315≠gb324));have n8_:=am ((bO BK315.out hg:gb324≠gb315));have n9_:=am ((bN BK322.out hg:gb322≠gb324));have n10_:=am ((bO BK322.out hg:gb324≠gb322));clear HO_323000 BK315 BK322 HB;have HO_323000:=n0_;have BK315:=n1_;have BK322:=n2_;have HB:=n3_;have BK324:=n4_;have GW324:=n5_;have GE324:=n6_;have NB315_324:=n7_;have NB324_315:=n8_;have NB322_324:=n9_;have NB324_322:=n10_;clear n0_ n1_ n2_ n3_ n4_ n5_ n6_ n7_ n8_ n9_ n10_;clear hb hbox hg;have hnb56:=NB324_315.out;have hnc56:=NB315_324.out;have hnb57:=NB324_322.out;have hnc57:=NB322_324.out;obtain⟨hcz58_0,hcz58_1⟩:=cC2 BK324.out;obtain⟨hfz58_0,hfz58_1⟩:=cF2 BK324.out;have hnb59:=NB322_315.out;have hnc59:=NB315_322.out;obtain⟨hcz60_0,hcz60_1,hcz60_2⟩:=cC3 BK322.out;obtain⟨hfz60_0,hfz60_1,hfz60_2⟩:=cF3 BK322.out;obtain⟨Ao61,co61,eo61⟩:=Kd.R_slice HO_323000.out;subst eo61)|((with_reducible refine gate_callee (f:=109) rfl ?_);refine goesA (some 46) rfl rfl Try.func109 #[.agg #[.slice Ao61 x323000_2.length co61,.int .i64 x323001_2,.bool x323002_2],.agg #[.int .i64 ((rd_T72 l4 x38_2).f0),.int .i64 ((rd_T72 l4 x38_2).f1)]] rfl ?_;(with_reducible refine(spec_l15Meet.calls k2 _ _ x323000_2 x323001_2 x323002_2 ((rd_T72 l4 x38_2).f0) ((rd_T72 l4 x38_2).f1) t325 t328 false true _ ?side1 ?side2 A21.out).mono ?_);(case side1=>refine(Kd.R_reads' (e:=3) (base:=w.heap.size) (ok:=fun k_=>True) (n:=x323000_2.length) (c:=co61) ?_).2.2;exact(b3_));(case side2=>exact(Kd.R_reads' HO_323000.out).2.1);rintro e w62 ⟨v326,rfl,ho0,hb⟩;refine⟨_,rfl,?_⟩;have n0_:=am (Kd.R_elder' (b3_) (Kd.R_base ho0) hb);have n1_:=am (Kd.R_lower (Kd.R_new' ho0 (Kd.R_lt (b3_))) (below_size (bS3 GE315.out GE322.out GE324.out)));have n2_:=am (blk_below (g:=gb315) (o:=.cells #[.slice none 0 0,.int .i64 x316001_2,.bool x316002_2] 62 (0,0)) (b14_) hb);have n3_:=am (blk_below (g:=gb322) (o:=.cells #[.slice Ao61 x323000_2.length co61,.int .i64 x323001_2,.bool x323002_2] 62 (0,0)) (b15_) hb);have n4_:=am (blk_below (g:=gb324) (o:=.cells #[.int .i64 ((rd_T72 l4 x38_2).f0),.int .i64 ((rd_T72 l4 x38_2).f1)] 72 (0,0)) (b8_) hb);have n5_:=am (below_step (bS3 GE315.out GE322.out GE324.out) hb);clear HO_323000 BK315 BK322 BK324 HB;have HO_323000:=n0_;have HO327:=n1_;have BK315:=n2_;have BK322:=n3_;have BK324:=n4_;have HB:=n5_;clear n0_ n1_ n2_ n3_ n4_ n5_;(try clear hb);(try clear hb2);(try clear hk);(try clear hi);(try clear ho0))|((with_reducible refine gate_dst (N:=18) rfl ?_);(try (refine gate_guard (by rfl) ?_;dsimp only));refine box_event ?hg (N:=18) ?hd (cs:=#[.slice none 0 0,.int .i64 0,.bool false]) (t:=62) ?hr ?_;(case hd=>rfl);(case hg=>rfl);(case hr=>first|(go_simp;done)|(go_simp;rfl));intro gb331 hg w63 hbox hb;have n0_:=am (Kd.R_below (bK HO_323000.out) hb);have n1_:=am (Kd.R_below (bK HO327.out) hb);have n2_:=am (bM BK315.out hb);have n3_:=am (bM BK322.out hb);have n4_:=am (bM BK324.out hb);have n5_:=am (below_step (bS3 GE315.out GE322.out GE324.out) hb);have n6_:=am (hbox);have n7_:=am ((by rw[hg];exact(below_size (bS3 GE315.out GE322.out GE324.out)):w.heap.size≤gb331));have n8_:=am ((by rw[hg];exact(below_size (bS3 GE315.out GE322.out GE324.out)):w.heap.size≤gb331));have n9_:=am ((bN BK315.out hg:gb315≠gb331));have n10_:=am ((bO BK315.out hg:gb331≠gb315));have n11_:=am ((bN BK322.out hg:gb322≠gb331));have n12_:=am ((bO BK322.out hg:gb331≠gb322));have n13_:=am ((bN BK324.out hg:gb324≠gb331));have n14_:=am ((bO BK324.out hg:gb331≠gb324));clear HO_323000 HO327 BK315 BK322 BK324 HB;have HO_323000:=n0_;have HO327:=n1_;have BK315:=n2_;have BK322:=n3_;have BK324:=n4_;have HB:=n5_;have BK331:=n6_;have GW331:=n7_;have GE331:=n8_;have NB315_331:=n9_;have NB331_315:=n10_;have NB322_331:=n11_;have NB331_322:=n12_;have NB324_331:=n13_;have NB331_324:=n14_;clear n0_ n1_ n2_ n3_ n4_ n5_ n6_ n7_ n8_ n9_ n10_ n11_ n12_ n13_ n14_;clear hb hbox hg;obtain⟨Ao64,co64,eo64⟩:=Kd.R_slice HO327.out;subst eo64;have hnb65:=NB331_315.out;have hnc65:=NB315_331.out;have hnb66:=NB331_322.out;have hnc66:=NB322_331.out;have hnb67:=NB331_324.out;have hnc67:=NB324_331.out;obtain⟨hcz68_0,hcz68_1,hcz68_2⟩:=cC3 BK331.out;obtain⟨hfz68_0,hfz68_1,hfz68_2⟩:=cF3 BK331.out;obtain⟨hcz69_0,hcz69_1,hcz69_2⟩:=cC3 BK322.out;obtain⟨hfz69_0,hfz69_1,hfz69_2⟩:=cF3 BK322.out))
           go_roundg k2
           case measure=>have:=HJ6.out;have:=HK2.out;omega
           case rel=>exact⟨(x15_2),(wrap64 (x38_2+1)),(x316001_2),(x316002_2),(t325),(t328),(false),(.slice Ao64 t325.length co64),(bR),(bR),H',⟨by have:=HJ6.out;have:=HK2.out;omega⟩,⟨by(with_reducible repeat (first|apply Kd.R_alloc|apply Kd.R_drewN|apply Kd.R_drew));exact Kd.R_mono (Kd.R_far (p:=⟨gb322,2,none⟩) (Kd.R_far (p:=⟨gb322,1,none⟩) (Kd.R_far (p:=⟨gb322,0,none⟩) (Kd.R_far (p:=⟨gb331,2,none⟩) (Kd.R_far (p:=⟨gb331,1,none⟩) (Kd.R_far (p:=⟨gb331,0,none⟩) (Kd.R_types (Kd.R_types HO327.out BK331.out (b17_)) BK322.out (b17_)) (fun _ hk=>hk.1.2) (.slice Ao64 t325.length co64)) (fun _ hk=>hk.1.2) (.int .i64 t328)) (fun _ hk=>hk.1.2) (.bool false)) (fun _ hk=>hk.2) (.slice Ao64 t325.length co64)) (fun _ hk=>hk.2) (.int .i64 t328)) (fun _ hk=>hk.2) (.bool false)) (fun _ hk=>trivial)⟩,⟨by(with_reducible repeat (first|refine blk_drewN ?_ _|refine blk_drew ?_|refine blk_alloc ?_ _));refine blk_far ?_ NB315_322.out _;(with_reducible repeat (first|refine blk_drewN ?_ _|refine blk_drew ?_|refine blk_alloc ?_ _));refine blk_far ?_ NB315_322.out _;(with_reducible repeat (first|refine blk_drewN ?_ _|refine blk_drew ?_|refine blk_alloc ?_ _));refine blk_far ?_ NB315_322.out _;(with_reducible repeat (first|refine blk_drewN ?_ _|refine blk_drew ?_|refine blk_alloc ?_ _));refine blk_far ?_ NB315_331.out _;(with_reducible repeat (first|refine blk_drewN ?_ _|refine blk_drew ?_|refine blk_alloc ?_ _));refine blk_far ?_ NB315_331.out _;(with_reducible repeat (first|refine blk_drewN ?_ _|refine blk_drew ?_|refine blk_alloc ?_ _));refine blk_far ?_ NB315_331.out _;(with_reducible repeat (first|refine blk_drewN ?_ _|refine blk_drew ?_|refine blk_alloc ?_ _));exact BK315.out⟩,⟨by(with_reducible repeat (first|refine blk_drewN ?_ _|refine blk_drew ?_|refine blk_alloc ?_ _));apply bU3;(with_reducible repeat (first|refine blk_drewN ?_ _|refine blk_drew ?_|refine blk_alloc ?_ _));refine blk_far ?_ NB322_331.out _;(with_reducible repeat (first|refine blk_drewN ?_ _|refine blk_drew ?_|refine blk_alloc ?_ _));refine blk_far ?_ NB322_331.out _;(with_reducible repeat (first|refine blk_drewN ?_ _|refine blk_drew ?_|refine blk_alloc ?_ _));refine blk_far ?_ NB322_331.out _;(with_reducible repeat (first|refine blk_drewN ?_ _|refine blk_drew ?_|refine blk_alloc ?_ _));exact BK322.out⟩,⟨bS4 GE315.out GE322.out GE324.out GE331.out⟩⟩
         ·replace c22:=Bool.eq_false_iff.mpr c22
          subst c22
          have H1:(some (([]:List Int),0,false,0,false))=some (r1,r2,r3,r4,r5):=by rw[if_neg (show ¬ (false=true) by decide)] at H;exact H
          clear H
          have H:=H1
          clear H1
          simp only[Option.some.injEq,Prod.mk.injEq] at H
          obtain⟨rfl,rfl,rfl,rfl,rfl⟩:=H
          have p323:0≤(x38_2:Int):=bD_
          have q323:x38_2 < (l4.length:Int):=bD_
          obtain⟨ad323,e323,hx323_0,hx323_1⟩:=at_T72 HR4.out x38_2 p323 q323
          cases e323
          replace hx323_0:=bQ_ HB.out hx323_0
          replace hx323_1:=bQ_ HB.out hx323_1
          replace p323:=eq_true p323
          replace q323:=eq_true q323
          go_wp2_with (first|((with_reducible refine gate_dst (N:=17) rfl ?_);(try (refine gate_guard (by rfl) ?_;dsimp only));refine box_event ?hg (N:=17) ?hd (cs:=#[.int .i64 0,.int .i64 0]) (t:=72) ?hr ?_;(case hd=>rfl);(case hg=>rfl);(case hr=>first|(go_simp;done)|(go_simp;rfl));intro gb324 hg w70 hbox hb;have n0_:=am (Kd.R_below (bK HO_323000.out) hb);have n1_:=am (bM BK315.out hb);have n2_:=am (bM BK322.out hb);have n3_:=am (below_step (bS2 GE315.out GE322.out) hb);have n4_:=am (hbox);have n5_:=am ((by rw[hg];exact(below_size (bS2 GE315.out GE322.out)):w.heap.size≤gb324));have n6_:=am ((by rw[hg];exact(below_size (bS2 GE315.out GE322.out)):w.heap.size≤gb324));have n7_:=am ((bN BK315.out hg:gb315≠gb324));have n8_:=am ((bO BK315.out hg:gb324≠gb315));have n9_:=am ((bN BK322.out hg:gb322≠gb324));have n10_:=am ((bO BK322.out hg:gb324≠gb322));clear HO_323000 BK315 BK322 HB;have HO_323000:=n0_;have BK315:=n1_;have BK322:=n2_;have HB:=n3_;have BK324:=n4_;have GW324:=n5_;have GE324:=n6_;have NB315_324:=n7_;have NB324_315:=n8_;have NB322_324:=n9_;have NB324_322:=n10_;clear n0_ n1_ n2_ n3_ n4_ n5_ n6_ n7_ n8_ n9_ n10_;clear hb hbox hg;have hnb71:=NB324_315.out;have hnc71:=NB315_324.out;have hnb72:=NB324_322.out;have hnc72:=NB322_324.out;obtain⟨hcz73_0,hcz73_1⟩:=cC2 BK324.out;obtain⟨hfz73_0,hfz73_1⟩:=cF2 BK324.out;have hnb74:=NB322_315.out;have hnc74:=NB315_322.out;obtain⟨hcz75_0,hcz75_1,hcz75_2⟩:=cC3 BK322.out;obtain⟨hfz75_0,hfz75_1,hfz75_2⟩:=cF3 BK322.out;obtain⟨Ao76,co76,eo76⟩:=Kd.R_slice HO_323000.out;subst eo76)|((with_reducible refine gate_callee (f:=109) rfl ?_);refine goesA (some 46) rfl rfl Try.func109 #[.agg #[.slice Ao76 x323000_2.length co76,.int .i64 x323001_2,.bool x323002_2],.agg #[.int .i64 ((rd_T72 l4 x38_2).f0),.int .i64 ((rd_T72 l4 x38_2).f1)]] rfl ?_;(with_reducible refine(spec_l15Meet.calls k2 _ _ x323000_2 x323001_2 x323002_2 ((rd_T72 l4 x38_2).f0) ((rd_T72 l4 x38_2).f1) t325 t328 t329 false _ ?side1 ?side2 A21.out).mono ?_);(case side1=>refine(Kd.R_reads' (e:=3) (base:=w.heap.size) (ok:=fun k_=>True) (n:=x323000_2.length) (c:=co76) ?_).2.2;exact(b3_));(case side2=>exact(Kd.R_reads' HO_323000.out).2.1);rintro e w77 ⟨v326,rfl,ho0,hb⟩;refine⟨_,rfl,?_⟩;have n0_:=am (Kd.R_elder' (b3_) (Kd.R_base ho0) hb);have n1_:=am (Kd.R_lower (Kd.R_new' ho0 (Kd.R_lt (b3_))) (below_size (bS3 GE315.out GE322.out GE324.out)));have n2_:=am (blk_below (g:=gb315) (o:=.cells #[.slice none 0 0,.int .i64 x316001_2,.bool x316002_2] 62 (0,0)) (b14_) hb);have n3_:=am (blk_below (g:=gb322) (o:=.cells #[.slice Ao76 x323000_2.length co76,.int .i64 x323001_2,.bool x323002_2] 62 (0,0)) (b15_) hb);have n4_:=am (blk_below (g:=gb324) (o:=.cells #[.int .i64 ((rd_T72 l4 x38_2).f0),.int .i64 ((rd_T72 l4 x38_2).f1)] 72 (0,0)) (b8_) hb);have n5_:=am (below_step (bS3 GE315.out GE322.out GE324.out) hb);clear HO_323000 BK315 BK322 BK324 HB;have HO_323000:=n0_;have HO327:=n1_;have BK315:=n2_;have BK322:=n3_;have BK324:=n4_;have HB:=n5_;clear n0_ n1_ n2_ n3_ n4_ n5_;(try clear hb);(try clear hb2);(try clear hk);(try clear hi);(try clear ho0))|((with_reducible refine gate_dst (N:=18) rfl ?_);(try (refine gate_guard (by rfl) ?_;dsimp only));refine box_event ?hg (N:=18) ?hd (cs:=#[.slice none 0 0,.int .i64 0,.bool false]) (t:=62) ?hr ?_;(case hd=>rfl);(case hg=>rfl);(case hr=>first|(go_simp;done)|(go_simp;rfl));intro gb331 hg w78 hbox hb;have n0_:=am (Kd.R_below (bK HO_323000.out) hb);have n1_:=am (Kd.R_below (bK HO327.out) hb);have n2_:=am (bM BK315.out hb);have n3_:=am (bM BK322.out hb);have n4_:=am (bM BK324.out hb);have n5_:=am (below_step (bS3 GE315.out GE322.out GE324.out) hb);have n6_:=am (hbox);have n7_:=am ((by rw[hg];exact(below_size (bS3 GE315.out GE322.out GE324.out)):w.heap.size≤gb331));have n8_:=am ((by rw[hg];exact(below_size (bS3 GE315.out GE322.out GE324.out)):w.heap.size≤gb331));have n9_:=am ((bN BK315.out hg:gb315≠gb331));have n10_:=am ((bO BK315.out hg:gb331≠gb315));have n11_:=am ((bN BK322.out hg:gb322≠gb331));have n12_:=am ((bO BK322.out hg:gb331≠gb322));have n13_:=am ((bN BK324.out hg:gb324≠gb331));have n14_:=am ((bO BK324.out hg:gb331≠gb324));clear HO_323000 HO327 BK315 BK322 BK324 HB;have HO_323000:=n0_;have HO327:=n1_;have BK315:=n2_;have BK322:=n3_;have BK324:=n4_;have HB:=n5_;have BK331:=n6_;have GW331:=n7_;have GE331:=n8_;have NB315_331:=n9_;have NB331_315:=n10_;have NB322_331:=n11_;have NB331_322:=n12_;have NB324_331:=n13_;have NB331_324:=n14_;clear n0_ n1_ n2_ n3_ n4_ n5_ n6_ n7_ n8_ n9_ n10_ n11_ n12_ n13_ n14_;clear hb hbox hg;obtain⟨Ao79,co79,eo79⟩:=Kd.R_slice HO327.out;subst eo79;have hnb80:=NB331_315.out;have hnc80:=NB315_331.out;have hnb81:=NB331_322.out;have hnc81:=NB322_331.out;have hnb82:=NB331_324.out;have hnc82:=NB324_331.out;obtain⟨hcz83_0,hcz83_1,hcz83_2⟩:=cC3 BK331.out;obtain⟨hfz83_0,hfz83_1,hfz83_2⟩:=cF3 BK331.out;obtain⟨hcz84_0,hcz84_1,hcz84_2⟩:=cC3 BK315.out;obtain⟨hfz84_0,hfz84_1,hfz84_2⟩:=cF3 BK315.out))
          refine bodyPost_ret (results_ctt rfl _ _ gb315 62 #[.slice none 0 0,.int .i64 0,.bool false] (0,0) _ rfl (by(with_reducible repeat (first|refine blk_drewN ?_ _|refine blk_drew ?_|refine blk_alloc ?_ _));apply bU3;(with_reducible repeat (first|refine blk_drewN ?_ _|refine blk_drew ?_|refine blk_alloc ?_ _));refine blk_far ?_ NB315_331.out _;(with_reducible repeat (first|refine blk_drewN ?_ _|refine blk_drew ?_|refine blk_alloc ?_ _));refine blk_far ?_ NB315_331.out _;(with_reducible repeat (first|refine blk_drewN ?_ _|refine blk_drew ?_|refine blk_alloc ?_ _));refine blk_far ?_ NB315_331.out _;(with_reducible repeat (first|refine blk_drewN ?_ _|refine blk_drew ?_|refine blk_alloc ?_ _));exact BK315.out) Try.underlying62 rfl (b4_)) rfl ?_
          exact⟨_,by first|rfl|(simp[errW_none,errW_some]<;>rfl)|(simp[*,errW_none,errW_some]<;>rfl),by first|exact Kd.R_nil _ _ _ _ _|exact Kd.N_nil _ _ _ _ _|exact Kd.V_nil _ _ _ _ _|exact Kd.Q_nil _ _ _ _ _|exact Kd.S_nil _ _ _ _ _,bS4 GE315.out GE322.out GE324.out GE331.out⟩
        ·rw[if_neg c20] at H
         exact absurd H (by simp)
       ·rw[if_neg c19] at H
        exact absurd H (by simp)
      ·rw[if_neg c18] at H
       have c18b0:decide (x38_2 < (l4.length:Int))=false:=decide_eq_false c18
       clear c18
       simp only[Option.some.injEq,Prod.mk.injEq] at H
       obtain⟨rfl,rfl,rfl,rfl,rfl⟩:=H
       have hnb85:=NB322_315.out
       have hnc85:=NB315_322.out
       obtain⟨hcz86_0,hcz86_1,hcz86_2⟩:=cC3 BK322.out
       obtain⟨hfz86_0,hfz86_1,hfz86_2⟩:=cF3 BK322.out
       obtain⟨Ao87,co87,eo87⟩:=Kd.R_slice HO_323000.out
       subst eo87
       obtain⟨hcz88_0,hcz88_1,hcz88_2⟩:=cC3 BK315.out
       obtain⟨hfz88_0,hfz88_1,hfz88_2⟩:=cF3 BK315.out
       go_wp2
       refine bodyPost_ret (results_ctt rfl _ _ gb315 62 #[.slice Ao87 x323000_2.length co87,.int .i64 x323001_2,.bool x323002_2] (0,0) _ rfl (by(with_reducible repeat (first|refine blk_drewN ?_ _|refine blk_drew ?_|refine blk_alloc ?_ _));apply bU3;(with_reducible repeat (first|refine blk_drewN ?_ _|refine blk_drew ?_|refine blk_alloc ?_ _));exact BK315.out) Try.underlying62 rfl (b4_)) rfl ?_
       exact⟨_,by first|rfl|(simp[errW_none,errW_some]<;>rfl)|(simp[*,errW_none,errW_some]<;>rfl),by(with_reducible repeat (first|apply Kd.R_alloc|apply Kd.R_drewN|apply Kd.R_drew));exact Kd.R_mono (Kd.R_far (p:=⟨gb315,2,none⟩) (Kd.R_far (p:=⟨gb315,1,none⟩) (Kd.R_far (p:=⟨gb315,0,none⟩) (Kd.R_types HO_323000.out BK315.out (b17_)) (fun _ hk=>hk.2) (.slice Ao87 x323000_2.length co87)) (fun _ hk=>hk.2) (.int .i64 x323001_2)) (fun _ hk=>hk.2) (.bool x323002_2)) (fun _ hk=>trivial),bS2 GE315.out GE322.out⟩

/-! ### laws_sameInts: function 62 -/
def laws_sameInts.l0:Nat→List Int→List Int→Int→Int→Option (Bool)
 | 0,_,_,_,_=>none
 | k+1,x0,x1,x12,x13=>if x13 < x12 then (if 0≤x13 then (if x13 < (x0.length:Int) then (if x13 < (x1.length:Int) then (if (rd x0 x13)=(rd x1 x13) then (laws_sameInts.l0 k x0 x1 x12 (wrap64 (x13+1))) else (some false)) else (none)) else (none)) else (none)) else (some true)
def laws_sameInts.f (k:Nat) (l0:List Int) (l1:List Int):Option (Bool):=if (l0.length:Int)=(l1.length:Int) then (laws_sameInts.l0 k l0 l1 (l0.length:Int) 0) else (some false)
theorem laws_sameInts.mono_l : ∀ k,(∀ y0 y1 y2 y3,LeO (laws_sameInts.l0 k y0 y1 y2 y3) (laws_sameInts.l0 (k+1) y0 y1 y2 y3))
 | 0=>fun _ _ _ _ r h=>by simp[laws_sameInts.l0] at h
 | k+1=>by
  have ih0:=laws_sameInts.mono_l k
  ·intro y0 y1 y2 y3
   unfold laws_sameInts.l0
   repeat' first
   | (with_reducible exact ih0 _ _ _ _)
   | (with_reducible exact LeO.refl _)
   | (with_reducible exact LeO.none _)
   | (with_reducible refine LeO.ite ?_ ?_)
   | (with_reducible refine LeO.bind ?_ (fun _ => ?_))
theorem laws_sameInts.mono : ∀ a0 a1 k,LeO (laws_sameInts.f k a0 a1) (laws_sameInts.f (k+1) a0 a1):=by
 intro a0 a1 k
 have ih0:=laws_sameInts.mono_l k
 unfold laws_sameInts.f
 repeat' first
  | (with_reducible exact ih0 _ _ _ _)
  | (with_reducible exact LeO.refl _)
  | (with_reducible exact LeO.none _)
  | (with_reducible refine LeO.ite ?_ ?_)
  | (with_reducible refine LeO.bind ?_ (fun _ => ?_))
set_option maxHeartbeats 8000000 in
set_option maxRecDepth 100000 in
theorem laws_sameInts.calls (k:Nat) (A0:Option Addr) (c0:Nat) (l0:List Int) (A1:Option Addr) (c1:Nat) (l1:List Int) (r:Bool) (w:World) (hr0:Kd.C (Kd.int .i64) w A0 l0.length l0) (hc0:l0.length≤c0) (hr1:Kd.C (Kd.int .i64) w A1 l1.length l1) (hc1:l1.length≤c1) (h:laws_sameInts.f k l0 l1=some r) :
  Calls Try.prog 62 #[.slice A0 l0.length c0,.slice A1 l1.length c1] w fun e w'=>e=.returned (.bool r)∧Drawn0 w w':=by
 have HR0:=am hr0
 have HC0:=am hc0
 clear hr0 hc0
 have HR1:=am hr1
 have HC1:=am hc1
 clear hr1 hc1
 have H:(if (l0.length:Int)=(l1.length:Int) then (laws_sameInts.l0 k l0 l1 (l0.length:Int) 0) else (some false))=some r:=h
 clear h
 by_cases c3:(l0.length:Int)=(l1.length:Int)
 ·rw[if_pos c3] at H
  have c3b0:((l0.length:Int) == (l1.length:Int))=true:=beq_iff_eq.mpr c3
  have c3b1:((l0.length:Int) != (l1.length:Int))=false:=bne_eq_false_iff_eq.mpr c3
  have c3b2:(l0.length == l1.length)=true:=by first|simpa using c3|(simp at c3 ⊢;omega)
  clear c3
  have H':=am H
  clear H
  go_enter Try.func62,Try.ntmps62
  go_wp2
  repeat (go_quiet (fail);try go_wp2)
  go_loopg [13] k (fun kq v13 w' => ∃ (x13_1:Int),v13=.int .i64 x13_1∧Aside0 (laws_sameInts.l0 kq l0 l1 (l0.length:Int) x13_1=some r)∧Aside0 (kq≤k)∧Drawn0 w w')
  case atStart=>exact⟨(0),(bR),H',⟨Nat.le_refl _⟩,bW⟩
  case round =>
   clear H'
   try clear c1
   try clear p2
   try clear c3
   try clear c3b0
   try clear c3b1
   try clear c3b2
   obtain⟨x13_1,rfl,HA,HK1,⟨m1,rfl⟩⟩:=hrel
   cases gk with
   | zero=>exact absurd HA.out (by simp[laws_sameInts.l0])
   | succ k1 =>
    have H:=HA.out
    clear HA
    simp only[laws_sameInts.l0] at H
    by_cases c4:x13_1 < (l0.length:Int)
    ·rw[if_pos c4] at H
     have c4b0:decide (x13_1 < (l0.length:Int))=true:=decide_eq_true c4
     clear c4
     by_cases c5:0≤x13_1
     ·rw[if_pos c5] at H
      have c5b0:decide (0≤x13_1)=true:=decide_eq_true c5
      clear c5
      by_cases c6:x13_1 < (l0.length:Int)
      ·rw[if_pos c6] at H
       have c6b0:decide (x13_1 < (l0.length:Int))=true:=decide_eq_true c6
       clear c6
       by_cases c7:x13_1 < (l1.length:Int)
       ·rw[if_pos c7] at H
        have c7b0:decide (x13_1 < (l1.length:Int))=true:=decide_eq_true c7
        clear c7
        by_cases c8:(rd l0 x13_1)=(rd l1 x13_1)
        ·rw[if_pos c8] at H
         have c8b0:((rd l0 x13_1) == (rd l1 x13_1))=true:=beq_iff_eq.mpr c8
         have c8b1:((rd l0 x13_1) != (rd l1 x13_1))=false:=bne_eq_false_iff_eq.mpr c8
         clear c8
         have H':=am H
         clear H
         have p332:0≤(x13_1:Int):=bD_
         have q332:x13_1 < (l0.length:Int):=bD_
         obtain⟨ad332,e332,hx332_0⟩:=Kd.at_int HR0.out x13_1 p332 q332
         cases e332
         replace p332:=eq_true p332
         replace q332:=eq_true q332
         have p333:0≤(x13_1:Int):=bD_
         have q333:x13_1 < (l1.length:Int):=bD_
         obtain⟨ad333,e333,hx333_0⟩:=Kd.at_int HR1.out x13_1 p333 q333
         cases e333
         replace p333:=eq_true p333
         replace q333:=eq_true q333
         go_wp2
         repeat (go_quiet (fail);try go_wp2)
         go_roundg k1
         case measure=>have:=HK1.out;omega
         case rel=>exact⟨(wrap64 (x13_1+1)),(bR),H',⟨by have:=HK1.out;omega⟩,bW⟩
        ·rw[if_neg c8] at H
         have c8b0:((rd l0 x13_1) == (rd l1 x13_1))=false:=beq_eq_false_iff_ne.mpr c8
         have c8b1:((rd l0 x13_1) != (rd l1 x13_1))=true:=bne_iff_ne.mpr c8
         obtain rfl:=Option.some.inj H
         have p332:0≤(x13_1:Int):=bD_
         have q332:x13_1 < (l0.length:Int):=bD_
         obtain⟨ad332,e332,hx332_0⟩:=Kd.at_int HR0.out x13_1 p332 q332
         cases e332
         replace p332:=eq_true p332
         replace q332:=eq_true q332
         have p333:0≤(x13_1:Int):=bD_
         have q333:x13_1 < (l1.length:Int):=bD_
         obtain⟨ad333,e333,hx333_0⟩:=Kd.at_int HR1.out x13_1 p333 q333
         cases e333
         replace p333:=eq_true p333
         replace q333:=eq_true q333
         go_wp2
         repeat (go_quiet (fail);try go_wp2)
         go_ret
         exact⟨bR,bW⟩
       ·rw[if_neg c7] at H
        exact absurd H (by simp)
      ·rw[if_neg c6] at H
       exact absurd H (by simp)
     ·rw[if_neg c5] at H
      exact absurd H (by simp)
    ·rw[if_neg c4] at H
     have c4b0:decide (x13_1 < (l0.length:Int))=false:=decide_eq_false c4
     clear c4
     obtain rfl:=Option.some.inj H
     go_wp2
     repeat (go_quiet (fail);try go_wp2)
     go_ret
     exact⟨bR,bW⟩
 ·rw[if_neg c3] at H
  have c3b0:((l0.length:Int) == (l1.length:Int))=false:=beq_eq_false_iff_ne.mpr c3
  have c3b1:((l0.length:Int) != (l1.length:Int))=true:=bne_iff_ne.mpr c3
  have c3b2:(l0.length == l1.length)=false:=by first|simpa using c3|(simp at c3 ⊢;omega)
  obtain rfl:=Option.some.inj H
  go_enter Try.func62,Try.ntmps62
  go_wp2
  repeat (go_quiet (fail);try go_wp2)
  go_ret
  exact⟨bR,bW⟩

/-! ### laws_sameSprays: function 40 -/
def laws_sameSprays.f (k:Nat) (l0_0:List Int) (a0_1:Int) (a0_2:Bool) (l1_0:List Int) (a1_1:Int) (a1_2:Bool):Option (Bool):=if a0_1=a1_1 then (if (a0_2 == a1_2)=true then ((laws_sameInts.f k l0_0 l1_0).bind fun t336=>(some t336)) else (some false)) else (some false)
theorem laws_sameSprays.mono : ∀ a0 a1 a2 a3 a4 a5 k,LeO (laws_sameSprays.f k a0 a1 a2 a3 a4 a5) (laws_sameSprays.f (k+1) a0 a1 a2 a3 a4 a5):=by
 intro a0 a1 a2 a3 a4 a5 k
 unfold laws_sameSprays.f
 repeat' first
  | (with_reducible exact laws_sameInts.mono _ _ _)
  | (with_reducible exact LeO.refl _)
  | (with_reducible exact LeO.none _)
  | (with_reducible refine LeO.ite ?_ ?_)
  | (with_reducible refine LeO.bind ?_ (fun _ => ?_))
set_option maxHeartbeats 8000000 in
set_option maxRecDepth 100000 in
theorem laws_sameSprays.calls (k:Nat) (A0_0:Option Addr) (c0_0:Nat) (l0_0:List Int) (a0_1:Int) (a0_2:Bool) (A1_0:Option Addr) (c1_0:Nat) (l1_0:List Int) (a1_1:Int) (a1_2:Bool) (r:Bool) (w:World) (hr0_0:Kd.C (Kd.int .i64) w A0_0 l0_0.length l0_0) (hc0_0:l0_0.length≤c0_0) (hr1_0:Kd.C (Kd.int .i64) w A1_0 l1_0.length l1_0) (hc1_0:l1_0.length≤c1_0) (h:laws_sameSprays.f k l0_0 a0_1 a0_2 l1_0 a1_1 a1_2=some r) :
  Calls Try.prog 40 #[.agg #[.slice A0_0 l0_0.length c0_0,.int .i64 a0_1,.bool a0_2],.agg #[.slice A1_0 l1_0.length c1_0,.int .i64 a1_1,.bool a1_2]] w fun e w'=>e=.returned (.bool r)∧Below w.heap.size w w':=by
 have hu62:=Try.underlying62
 have HR0_0:=am hr0_0
 have HC0_0:=am hc0_0
 clear hr0_0 hc0_0
 have HR1_0:=am hr1_0
 have HC1_0:=am hc1_0
 clear hr1_0 hc1_0
 have HB:=am (Below.refl w.heap.size w)
 have H:(if a0_1=a1_1 then (if (a0_2 == a1_2)=true then ((laws_sameInts.f k l0_0 l1_0).bind fun t336=>(some t336)) else (some false)) else (some false))=some r:=h
 clear h
 by_cases c3:a0_1=a1_1
 ·rw[if_pos c3] at H
  have c3b0:(a0_1 == a1_1)=true:=beq_iff_eq.mpr c3
  have c3b1:(a0_1 != a1_1)=false:=bne_eq_false_iff_eq.mpr c3
  clear c3
  by_cases c4:(a0_2 == a1_2)=true
  ·rw[if_pos c4] at H
   have c4b0:(a0_2 == a1_2)=true:=c4
   (try (have c4b1:decide (a0_2=a1_2)=true:=by simpa using c4))
   (try (have c4b2:(a0_2 == a1_2)=true:=by simpa using c4))
   clear c4
   replace H:=bI_ H
   obtain⟨t336,A50,H⟩:=H
   have A5:=am A50
   clear A50
   obtain rfl:=Option.some.inj H
   go_enter Try.func40,Try.ntmps40
   go_wp2_with (first|((with_reducible refine gate_dst (N:=2) rfl ?_);refine box_event ?hg (N:=2) ?hd (cs:=#[.slice A0_0 l0_0.length c0_0,.int .i64 a0_1,.bool a0_2]) (t:=62) ?hr ?_;(case hd=>rfl);(case hg=>rfl);(case hr=>first|(go_simp;done)|(go_simp;rfl));intro gb334 hg w6 hbox hb;have n0_:=am (below_step (bB) hb);have n1_:=am (hbox);have n2_:=am ((bG:w.heap.size≤gb334));have n3_:=am ((bG:w.heap.size≤gb334));clear HB;have HB:=n0_;have BK334:=n1_;have GW334:=n2_;have GE334:=n3_;clear n0_ n1_ n2_ n3_;clear hb hbox hg)|((with_reducible refine gate_dst (N:=3) rfl ?_);refine box_event ?hg (N:=3) ?hd (cs:=#[.slice A1_0 l1_0.length c1_0,.int .i64 a1_1,.bool a1_2]) (t:=62) ?hr ?_;(case hd=>rfl);(case hg=>rfl);(case hr=>first|(go_simp;done)|(go_simp;rfl));intro gb335 hg w7 hbox hb;have n0_:=am (bM BK334.out hb);have n1_:=am (below_step (bS GE334.out) hb);have n2_:=am (hbox);have n3_:=am ((by rw[hg];exact(below_size (bS GE334.out)):w.heap.size≤gb335));have n4_:=am ((by rw[hg];exact(below_size (bS GE334.out)):w.heap.size≤gb335));have n5_:=am ((bN BK334.out hg:gb334≠gb335));have n6_:=am ((bO BK334.out hg:gb335≠gb334));clear BK334 HB;have BK334:=n0_;have HB:=n1_;have BK335:=n2_;have GW335:=n3_;have GE335:=n4_;have NB334_335:=n5_;have NB335_334:=n6_;clear n0_ n1_ n2_ n3_ n4_ n5_ n6_;clear hb hbox hg;have hnb8:=NB334_335.out;have hnc8:=NB335_334.out;obtain⟨hcz9_0,hcz9_1,hcz9_2⟩:=cC3 BK334.out;obtain⟨hfz9_0,hfz9_1,hfz9_2⟩:=cF3 BK334.out;obtain⟨hcz10_0,hcz10_1,hcz10_2⟩:=cC3 BK335.out;obtain⟨hfz10_0,hfz10_1,hfz10_2⟩:=cF3 BK335.out)|(go_at_call 62;(with_reducible refine(laws_sameInts.calls k _ _ l0_0 _ _ l1_0 t336 _ ?side1 ?side2 ?side3 ?side4 A5.out).mono ?_);(case side1=>exact bC HR0_0.out);(case side2=>exact HC0_0.out);(case side3=>exact bC HR1_0.out);(case side4=>exact HC1_0.out);rintro e w' ⟨rfl,⟨nd,rfl⟩⟩))
   go_ret
   exact⟨bE,bS2 GE334.out GE335.out⟩
  ·rw[if_neg c4] at H
   have c4b0:(a0_2 == a1_2)=false:=by simpa using c4
   (try (have c4b1:decide (a0_2=a1_2)=false:=by simpa using c4))
   (try (have c4b2:(a0_2 == a1_2)=false:=by simpa using c4))
   (try (have c4b3 : ¬ (a0_2=a1_2):=by simpa using c4))
   clear c4
   obtain rfl:=Option.some.inj H
   go_enter Try.func40,Try.ntmps40
   go_wp2_with (first|((with_reducible refine gate_dst (N:=2) rfl ?_);refine box_event ?hg (N:=2) ?hd (cs:=#[.slice A0_0 l0_0.length c0_0,.int .i64 a0_1,.bool a0_2]) (t:=62) ?hr ?_;(case hd=>rfl);(case hg=>rfl);(case hr=>first|(go_simp;done)|(go_simp;rfl));intro gb334 hg w11 hbox hb;have n0_:=am (below_step (bB) hb);have n1_:=am (hbox);have n2_:=am ((bG:w.heap.size≤gb334));have n3_:=am ((bG:w.heap.size≤gb334));clear HB;have HB:=n0_;have BK334:=n1_;have GW334:=n2_;have GE334:=n3_;clear n0_ n1_ n2_ n3_;clear hb hbox hg)|((with_reducible refine gate_dst (N:=3) rfl ?_);refine box_event ?hg (N:=3) ?hd (cs:=#[.slice A1_0 l1_0.length c1_0,.int .i64 a1_1,.bool a1_2]) (t:=62) ?hr ?_;(case hd=>rfl);(case hg=>rfl);(case hr=>first|(go_simp;done)|(go_simp;rfl));intro gb335 hg w12 hbox hb;have n0_:=am (bM BK334.out hb);have n1_:=am (below_step (bS GE334.out) hb);have n2_:=am (hbox);have n3_:=am ((by rw[hg];exact(below_size (bS GE334.out)):w.heap.size≤gb335));have n4_:=am ((by rw[hg];exact(below_size (bS GE334.out)):w.heap.size≤gb335));have n5_:=am ((bN BK334.out hg:gb334≠gb335));have n6_:=am ((bO BK334.out hg:gb335≠gb334));clear BK334 HB;have BK334:=n0_;have HB:=n1_;have BK335:=n2_;have GW335:=n3_;have GE335:=n4_;have NB334_335:=n5_;have NB335_334:=n6_;clear n0_ n1_ n2_ n3_ n4_ n5_ n6_;clear hb hbox hg;have hnb13:=NB334_335.out;have hnc13:=NB335_334.out;obtain⟨hcz14_0,hcz14_1,hcz14_2⟩:=cC3 BK334.out;obtain⟨hfz14_0,hfz14_1,hfz14_2⟩:=cF3 BK334.out;obtain⟨hcz15_0,hcz15_1,hcz15_2⟩:=cC3 BK335.out;obtain⟨hfz15_0,hfz15_1,hfz15_2⟩:=cF3 BK335.out))
   go_ret
   exact⟨bE,bS2 GE334.out GE335.out⟩
 ·rw[if_neg c3] at H
  have c3b0:(a0_1 == a1_1)=false:=beq_eq_false_iff_ne.mpr c3
  have c3b1:(a0_1 != a1_1)=true:=bne_iff_ne.mpr c3
  obtain rfl:=Option.some.inj H
  go_enter Try.func40,Try.ntmps40
  go_wp2_with (first|((with_reducible refine gate_dst (N:=2) rfl ?_);refine box_event ?hg (N:=2) ?hd (cs:=#[.slice A0_0 l0_0.length c0_0,.int .i64 a0_1,.bool a0_2]) (t:=62) ?hr ?_;(case hd=>rfl);(case hg=>rfl);(case hr=>first|(go_simp;done)|(go_simp;rfl));intro gb334 hg w16 hbox hb;have n0_:=am (below_step (bB) hb);have n1_:=am (hbox);have n2_:=am ((bG:w.heap.size≤gb334));have n3_:=am ((bG:w.heap.size≤gb334));clear HB;have HB:=n0_;have BK334:=n1_;have GW334:=n2_;have GE334:=n3_;clear n0_ n1_ n2_ n3_;clear hb hbox hg)|((with_reducible refine gate_dst (N:=3) rfl ?_);refine box_event ?hg (N:=3) ?hd (cs:=#[.slice A1_0 l1_0.length c1_0,.int .i64 a1_1,.bool a1_2]) (t:=62) ?hr ?_;(case hd=>rfl);(case hg=>rfl);(case hr=>first|(go_simp;done)|(go_simp;rfl));intro gb335 hg w17 hbox hb;have n0_:=am (bM BK334.out hb);have n1_:=am (below_step (bS GE334.out) hb);have n2_:=am (hbox);have n3_:=am ((by rw[hg];exact(below_size (bS GE334.out)):w.heap.size≤gb335));have n4_:=am ((by rw[hg];exact(below_size (bS GE334.out)):w.heap.size≤gb335));have n5_:=am ((bN BK334.out hg:gb334≠gb335));have n6_:=am ((bO BK334.out hg:gb335≠gb334));clear BK334 HB;have BK334:=n0_;have HB:=n1_;have BK335:=n2_;have GW335:=n3_;have GE335:=n4_;have NB334_335:=n5_;have NB335_334:=n6_;clear n0_ n1_ n2_ n3_ n4_ n5_ n6_;clear hb hbox hg;have hnb18:=NB334_335.out;have hnc18:=NB335_334.out;obtain⟨hcz19_0,hcz19_1,hcz19_2⟩:=cC3 BK334.out;obtain⟨hfz19_0,hfz19_1,hfz19_2⟩:=cF3 BK334.out;obtain⟨hcz20_0,hcz20_1,hcz20_2⟩:=cC3 BK335.out;obtain⟨hfz20_0,hfz20_1,hfz20_2⟩:=cF3 BK335.out))
  go_ret
  exact⟨bE,bS2 GE334.out GE335.out⟩

/-! ### impl_TokensIn: function 41 -/
def impl_TokensIn.f (k:Nat) (l0_0:List Int) (a0_1:Int) (a0_2:Bool):Option (Int × Bool):=(impl_GoodSpray.f k l0_0 a0_1 a0_2).bind fun t338=>(if t338=true then ((impl_Spray_tokens.f k l0_0 a0_1 a0_2).bind fun t339=>(some (t339,true))) else (some (0,false)))
theorem impl_TokensIn.mono : ∀ a0 a1 a2 k,LeO (impl_TokensIn.f k a0 a1 a2) (impl_TokensIn.f (k+1) a0 a1 a2):=by
 intro a0 a1 a2 k
 unfold impl_TokensIn.f
 repeat' first
  | (with_reducible exact impl_GoodSpray.mono _ _ _ _)
  | (with_reducible exact impl_Spray_tokens.mono _ _ _ _)
  | (with_reducible exact LeO.refl _)
  | (with_reducible exact LeO.none _)
  | (with_reducible refine LeO.ite ?_ ?_)
  | (with_reducible refine LeO.bind ?_ (fun _ => ?_))
set_option maxHeartbeats 8000000 in
set_option maxRecDepth 100000 in
theorem impl_TokensIn.calls (k:Nat) (A0_0:Option Addr) (c0_0:Nat) (l0_0:List Int) (a0_1:Int) (a0_2:Bool) (r1:Int) (r2:Bool) (w:World) (hr0_0:Kd.C (Kd.int .i64) w A0_0 l0_0.length l0_0) (hc0_0:l0_0.length≤c0_0) (h:impl_TokensIn.f k l0_0 a0_1 a0_2=some (r1,r2)) :
  Calls Try.prog 41 #[.agg #[.slice A0_0 l0_0.length c0_0,.int .i64 a0_1,.bool a0_2]] w fun e w'=>e=.returned (.tuple #[.int .i64 r1,.bool r2])∧Below w.heap.size w w':=by
 have hu62:=Try.underlying62
 have HR0_0:=am hr0_0
 have HC0_0:=am hc0_0
 clear hr0_0 hc0_0
 have HB:=am (Below.refl w.heap.size w)
 have H:((impl_GoodSpray.f k l0_0 a0_1 a0_2).bind fun t338=>(if t338=true then ((impl_Spray_tokens.f k l0_0 a0_1 a0_2).bind fun t339=>(some (t339,true))) else (some (0,false))))=some (r1,r2):=h
 clear h
 replace H:=bI_ H
 obtain⟨t338,A20,H⟩:=H
 replace H:(if t338=true then ((impl_Spray_tokens.f k l0_0 a0_1 a0_2).bind fun t339=>(some (t339,true))) else (some (0,false)))=some (r1,r2):=H
 have A2:=am A20
 clear A20
 by_cases c3:t338=true
 ·subst c3
  have H1:((impl_Spray_tokens.f k l0_0 a0_1 a0_2).bind fun t339=>(some (t339,true)))=some (r1,r2):=by rw[if_pos rfl] at H;exact H
  clear H
  have H:=H1
  clear H1
  replace H:=bI_ H
  obtain⟨t339,A40,H⟩:=H
  replace H:(some (t339,true))=some (r1,r2):=H
  have A4:=am A40
  clear A40
  simp only[Option.some.injEq,Prod.mk.injEq] at H
  obtain⟨rfl,rfl⟩:=H
  go_enter Try.func41,Try.ntmps41
  go_wp2_with (first|((with_reducible refine gate_dst (N:=1) rfl ?_);refine box_event ?hg (N:=1) ?hd (cs:=#[.slice A0_0 l0_0.length c0_0,.int .i64 a0_1,.bool a0_2]) (t:=62) ?hr ?_;(case hd=>rfl);(case hg=>rfl);(case hr=>first|(go_simp;done)|(go_simp;rfl));intro gb337 hg w5 hbox hb;have n0_:=am (below_step (bB) hb);have n1_:=am (hbox);have n2_:=am ((bG:w.heap.size≤gb337));have n3_:=am ((bG:w.heap.size≤gb337));clear HB;have HB:=n0_;have BK337:=n1_;have GW337:=n2_;have GE337:=n3_;clear n0_ n1_ n2_ n3_;clear hb hbox hg;obtain⟨hcz6_0,hcz6_1,hcz6_2⟩:=cC3 BK337.out;obtain⟨hfz6_0,hfz6_1,hfz6_2⟩:=cF3 BK337.out)|((with_reducible refine gate_callee (f:=44) rfl ?_);refine goesA (some 5) rfl rfl Try.func44 #[.agg #[.slice A0_0 l0_0.length c0_0,.int .i64 a0_1,.bool a0_2]] rfl ?_;(with_reducible refine(impl_GoodSpray.calls k _ _ l0_0 a0_1 a0_2 true _ ?side1 ?side2 A2.out).mono ?_);(case side1=>exact bC HR0_0.out);(case side2=>exact HC0_0.out);rintro e w7 ⟨rfl,hb⟩;refine⟨_,rfl,?_⟩;have n0_:=am (bM BK337.out hb);have n1_:=am (below_step (bS GE337.out) hb);clear BK337 HB;have BK337:=n0_;have HB:=n1_;clear n0_ n1_;(try clear hb);(try clear hb2);(try clear hk);(try clear hi);obtain⟨hcz8_0,hcz8_1,hcz8_2⟩:=cC3 BK337.out;obtain⟨hfz8_0,hfz8_1,hfz8_2⟩:=cF3 BK337.out)|((with_reducible refine gate_callee (f:=110) rfl ?_);refine goesA (some 8) rfl rfl Try.func110 #[.agg #[.slice A0_0 l0_0.length c0_0,.int .i64 a0_1,.bool a0_2]] rfl ?_;(with_reducible refine(impl_Spray_tokens.calls k _ _ l0_0 a0_1 a0_2 t339 _ ?side1 ?side2 A4.out).mono ?_);(case side1=>exact bC HR0_0.out);(case side2=>exact HC0_0.out);rintro e w9 ⟨rfl,hb⟩;refine⟨_,rfl,?_⟩;have n0_:=am (bM BK337.out hb);have n1_:=am (below_step (bS GE337.out) hb);clear BK337 HB;have BK337:=n0_;have HB:=n1_;clear n0_ n1_;(try clear hb);(try clear hb2);(try clear hk);(try clear hi)))
  go_ret2
  exact⟨bE,bS GE337.out⟩
 ·replace c3:=Bool.eq_false_iff.mpr c3
  subst c3
  have H1:(some (0,false))=some (r1,r2):=by rw[if_neg (show ¬ (false=true) by decide)] at H;exact H
  clear H
  have H:=H1
  clear H1
  simp only[Option.some.injEq,Prod.mk.injEq] at H
  obtain⟨rfl,rfl⟩:=H
  go_enter Try.func41,Try.ntmps41
  go_wp2_with (first|((with_reducible refine gate_dst (N:=1) rfl ?_);refine box_event ?hg (N:=1) ?hd (cs:=#[.slice A0_0 l0_0.length c0_0,.int .i64 a0_1,.bool a0_2]) (t:=62) ?hr ?_;(case hd=>rfl);(case hg=>rfl);(case hr=>first|(go_simp;done)|(go_simp;rfl));intro gb337 hg w10 hbox hb;have n0_:=am (below_step (bB) hb);have n1_:=am (hbox);have n2_:=am ((bG:w.heap.size≤gb337));have n3_:=am ((bG:w.heap.size≤gb337));clear HB;have HB:=n0_;have BK337:=n1_;have GW337:=n2_;have GE337:=n3_;clear n0_ n1_ n2_ n3_;clear hb hbox hg;obtain⟨hcz11_0,hcz11_1,hcz11_2⟩:=cC3 BK337.out;obtain⟨hfz11_0,hfz11_1,hfz11_2⟩:=cF3 BK337.out)|((with_reducible refine gate_callee (f:=44) rfl ?_);refine goesA (some 5) rfl rfl Try.func44 #[.agg #[.slice A0_0 l0_0.length c0_0,.int .i64 a0_1,.bool a0_2]] rfl ?_;(with_reducible refine(impl_GoodSpray.calls k _ _ l0_0 a0_1 a0_2 false _ ?side1 ?side2 A2.out).mono ?_);(case side1=>exact bC HR0_0.out);(case side2=>exact HC0_0.out);rintro e w12 ⟨rfl,hb⟩;refine⟨_,rfl,?_⟩;have n0_:=am (bM BK337.out hb);have n1_:=am (below_step (bS GE337.out) hb);clear BK337 HB;have BK337:=n0_;have HB:=n1_;clear n0_ n1_;(try clear hb);(try clear hb2);(try clear hk);(try clear hi)))
  go_ret2
  exact⟨bE,bS GE337.out⟩

-- NOT PRINTED: function 92 (slices_DeleteFunc_int_int)

/-! ### impl_numbered: function 93 -/
def impl_numbered.l0:Nat→List Int→Int→Int→Option (List Int)
 | 0,_,_,_=>none
 | k+1,x3,x6,x7=>if x7 < x6 then (if x3.length < 17592186044416 then (impl_numbered.l0 k (x3++[x7]) x6 (wrap64 (x7+1))) else (none)) else (some x3)
def impl_numbered.f (k:Nat) (a0:Int):Option (List Int):=impl_numbered.l0 k (([]:List Int)) a0 0
theorem impl_numbered.mono_l : ∀ k,(∀ y0 y1 y2,LeO (impl_numbered.l0 k y0 y1 y2) (impl_numbered.l0 (k+1) y0 y1 y2))
 | 0=>fun _ _ _ r h=>by simp[impl_numbered.l0] at h
 | k+1=>by
  have ih0:=impl_numbered.mono_l k
  ·intro y0 y1 y2
   unfold impl_numbered.l0
   repeat' first
   | (with_reducible exact ih0 _ _ _)
   | (with_reducible exact LeO.refl _)
   | (with_reducible exact LeO.none _)
   | (with_reducible refine LeO.ite ?_ ?_)
   | (with_reducible refine LeO.bind ?_ (fun _ => ?_))
theorem impl_numbered.mono : ∀ a0 k,LeO (impl_numbered.f k a0) (impl_numbered.f (k+1) a0):=by
 intro a0 k
 have ih0:=impl_numbered.mono_l k
 unfold impl_numbered.f
 repeat' first
  | (with_reducible exact ih0 _ _ _)
  | (with_reducible exact LeO.refl _)
  | (with_reducible exact LeO.none _)
  | (with_reducible refine LeO.ite ?_ ?_)
  | (with_reducible refine LeO.bind ?_ (fun _ => ?_))
set_option maxHeartbeats 8000000 in
set_option maxRecDepth 100000 in
theorem impl_numbered.calls (k:Nat) (a0:Int) (r:List Int) (w:World) (h:impl_numbered.f k a0=some r) :
  Calls Try.prog 93 #[.int .i64 a0] w fun e w' => ∃ v0_:Value,e=.returned (v0_)∧Kd.R (Kd.int .i64) 3 w' w.heap.size (fun _=>True) v0_ r∧Below w.heap.size w w':=by
 have HB:=am (Below.refl w.heap.size w)
 have H:(impl_numbered.l0 k (([]:List Int)) a0 0)=some r:=h
 clear h
 obtain⟨y340,hy340⟩ : ∃ y_:List Int,y_=(([]:List Int)):=⟨_,rfl⟩
 replace H:(impl_numbered.l0 k y340 a0 0)=some r:=by first|(rw[hy340];with_reducible exact H)|(have H2_:=(Option.bind_some _ _).symm.trans H;rw[hy340];with_reducible exact H2_)|(have H2_:=(Option.bind_some _ _).symm.trans H;with_reducible exact H2_)|with_reducible exact H|(rw[hy340];exact H)|exact H
 have Ny340:=am hy340
 clear hy340
 have H':=am H
 clear H
 go_enter Try.func93,Try.ntmps93
 go_wp2_with (first|((with_reducible refine gate_dst (N:=5) rfl ?_);refine Kd.R_lit (Kd.int .i64) _ 3 ?hg (N:=5) ?hd (xs:=([]:List Int)) (inner:=[]) (ok:=fun _=>True) (okp:=fun _=>True) ?hr ?hp (fun _ hk=>hk) trivial (Below.refl _ _) (Nat.le_refl _) (by simp) ?_;(case hd=>rfl);(case hg=>rfl);(case hr=>first|(go_simp;done)|(go_simp;rfl));(case hp=>exact(Reps.none _ _));intro v341 w2 ho3 hb hg_ hnew_;clear hg_ hnew_;(first|rw[← Ny340.out] at ho3|(simp only[Int.reduceToNat] at ho3;rw[← Ny340.out] at ho3));have n0_:=am (Kd.R_lower ho3 (below_size (bB)));have n1_:=am (below_step (bB) hb);clear HB;have HO342:=n0_;have HB:=n1_;clear n0_ n1_;clear hb ho3))
 go_loopg [3,7] k (fun kq v3 v7 w' => ∃ (x3_1:List Int) (x7_1:Int),v7=.int .i64 x7_1∧Aside0 (impl_numbered.l0 kq x3_1 a0 x7_1=some r)∧Aside0 (kq≤k)∧Aside0 (Kd.R (Kd.int .i64) 3 w' w.heap.size (fun _=>True) v3 x3_1)∧Aside0 (Below w.heap.size w w'))
 case atStart=>exact⟨(y340),(0),(bR),H',⟨Nat.le_refl _⟩,⟨by(with_reducible repeat (first|apply Kd.R_alloc|apply Kd.R_drewN|apply Kd.R_drew));exact HO342.out⟩,⟨by repeat (first|(with_reducible first|exact HB.out|apply below_alloc|apply pw_below_drewN|apply below_drew1)|exact HB.out)⟩⟩
 case round =>
  clear H'
  try clear p2
  obtain⟨x3_1,x7_1,rfl,HA,HK1,HO_3,HB⟩:=hrel
  cases gk with
  | zero=>exact absurd HA.out (by simp[impl_numbered.l0])
  | succ k1 =>
   have H:=HA.out
   clear HA
   simp only[impl_numbered.l0] at H
   by_cases c4:x7_1 < a0
   ·rw[if_pos c4] at H
    have c4b0:decide (x7_1 < a0)=true:=decide_eq_true c4
    clear c4
    by_cases c5:x3_1.length < 17592186044416
    ·rw[if_pos c5] at H
     have LMc5:=am c5
     clear c5
     obtain⟨y343,hy343⟩ : ∃ y_:List Int,y_=(x3_1++[x7_1]):=⟨_,rfl⟩
     replace H:(impl_numbered.l0 k1 y343 a0 (wrap64 (x7_1+1)))=some r:=by first|(rw[hy343];with_reducible exact H)|(have H2_:=(Option.bind_some _ _).symm.trans H;rw[hy343];with_reducible exact H2_)|(have H2_:=(Option.bind_some _ _).symm.trans H;with_reducible exact H2_)|with_reducible exact H|(rw[hy343];exact H)|exact H
     have Ny343:=am hy343
     clear hy343
     have H':=am H
     clear H
     go_wp2_with (first|((with_reducible refine gate_builtin (b:=.append) (xs:=#[.tmp 10,.tmp 12]) rfl ?_);at_builtin;refine Kd.R_append (Kd.int .i64) (w0:=w) w.heap.size rfl (.tmp 10) (.tmp 12) 37 3 (.int .i64 0) 8 rfl Try.underlying37 info3 rfl (b17_) (by omega) u3 x3_1 x7_1 [.int .i64 x7_1] (fun _=>True) (fun _=>False) rfl rfl ?aP (fun _ hk=>hk.elim) ?aF ?aO ?aB ?aS ?aL ?_;(case aP=>exact rfl);(case aB=>exact(bB));(case aF=>exact(fun _ _=>trivial));(case aO=>exact(bK HO_3.out));(case aS=>exact(below_size (bB)));(case aL=>have:=LMc5.out;omega);intro v344 w6 ho hb hg hat;rw[← Ny343.out] at ho;have n0_:=am (hb);have n1_:=am (ho);clear HB HO_3;have HB:=n0_;have HO345:=n1_;clear n0_ n1_;clear ho hb hg hat))
     go_roundg k1
     case measure=>have:=HK1.out;omega
     case rel=>exact⟨(y343),(wrap64 (x7_1+1)),(bR),H',⟨by have:=HK1.out;omega⟩,⟨by(with_reducible repeat (first|apply Kd.R_alloc|apply Kd.R_drewN|apply Kd.R_drew));exact HO345.out⟩,⟨by repeat (first|(with_reducible first|exact HB.out|apply below_alloc|apply pw_below_drewN|apply below_drew1)|exact HB.out)⟩⟩
    ·rw[if_neg c5] at H
     exact absurd H (by simp)
   ·rw[if_neg c4] at H
    have c4b0:decide (x7_1 < a0)=false:=decide_eq_false c4
    clear c4
    obtain rfl:=Option.some.inj H
    go_wp2
    go_ret
    exact⟨_,by first|rfl|(simp[errW_none,errW_some]<;>rfl)|(simp[*,errW_none,errW_some]<;>rfl),by(with_reducible repeat (first|apply Kd.R_alloc|apply Kd.R_drewN|apply Kd.R_drew));exact HO_3.out,bB⟩

/-- A state of type 62 at block g of W; what its slices lead to came in by w0. -/
def IsS62 (w0 W:World) (g:Nat) (f0:List Int) (f1:Int) (f2:Bool):Prop:=∃ A0 c0,W.heap[g]?=some (.cells #[.slice A0 f0.length c0,.int .i64 f1,.bool f2] 62 (0,0))∧w0.heap.size≤g∧Kd.C (Kd.int .i64) w0 A0 f0.length f0
theorem IsS62.grown {w0 W:World} {g:Nat} {f0:List Int} {f1:Int} {f2:Bool} {W1:World} {row:Option Nat} (h:IsS62 w0 W g f0 f1 f2) (hw:W.grownBy W1 row) (hne:some g≠row):IsS62 w0 W1 g f0 f1 f2:=by
 obtain⟨A0,c0,hb,hg,hr0⟩:=h
 exact⟨A0,c0,blk_grown hb hw hne,hg,hr0⟩
theorem IsS62.own_neN {w0 W:World} {g:Nat} {f0:List Int} {f1:Int} {f2:Bool} {α:Type} {d:Kd α} {e:Nat} {base:Nat} {ok:Nat→Prop} {v:Value} {xs:List α} (h:IsS62 w0 W g f0 f1 f2) (ho:Kd.N d e W base ok v xs) (ht:e≠62):some g≠v.ownBlock:=by
 obtain⟨A0,c0,hb,hg,hr0⟩:=h
 exact Kd.N_ne ho hb ht
theorem IsS62.fresh {w0 W:World} {g:Nat} {f0:List Int} {f1:Int} {f2:Bool} (h:IsS62 w0 W g f0 f1 f2) : ∀ k,W.heap.size≤k→k≠g:=by
 obtain⟨A0,c0,hb,hg,hr0⟩:=h
 exact Kd.freshB hb
theorem IsS62.kept {w0 W:World} {g:Nat} {f0:List Int} {f1:Int} {f2:Bool} {W1:World} {S:Nat→Prop} (h:IsS62 w0 W g f0 f1 f2) (hk:Kept W W1 S) (hne : ¬ S g):IsS62 w0 W1 g f0 f1 f2:=by
 obtain⟨A0,c0,hb,hg,hr0⟩:=h
 exact⟨A0,c0,blk_kept hb hk hne,hg,hr0⟩
theorem IsS62.below {w0 W:World} {g:Nat} {f0:List Int} {f1:Int} {f2:Bool} {W1:World} (h:IsS62 w0 W g f0 f1 f2) (hw:Below W.heap.size W W1):IsS62 w0 W1 g f0 f1 f2:=h.grown (grown_of_below hw none) (by simp)
theorem IsS62.alloc {w0 W:World} {g:Nat} {f0:List Int} {f1:Int} {f2:Bool} (h:IsS62 w0 W g f0 f1 f2) (o:Obj):IsS62 w0 (W.alloc o) g f0 f1 f2:=h.below (below_alloc (Below.refl _ _) o)
theorem IsS62.drewN {w0 W:World} {g:Nat} {f0:List Int} {f1:Int} {f2:Bool} (h:IsS62 w0 W g f0 f1 f2) (m:Nat):IsS62 w0 (W.drewN m) g f0 f1 f2:=h
theorem IsS62.drew {w0 W:World} {g:Nat} {f0:List Int} {f1:Int} {f2:Bool} (h:IsS62 w0 W g f0 f1 f2):IsS62 w0 W.drew g f0 f1 f2:=h
theorem IsS62.at_ {w0 W:World} {g:Nat} {f0:List Int} {f1:Int} {f2:Bool} {w':World} {m:Nat} (hq:W.drewN m=w') (h:IsS62 w0 W g f0 f1 f2):IsS62 w0 w' g f0 f1 f2:=by subst hq;exact IsS62.drewN h m
theorem IsS62.apart {w0 W:World} {g:Nat} {f0:List Int} {f1:Int} {f2:Bool} {α:Type} {d:Kd α} {e:Nat} {base:Nat} {ok:Nat→Prop} {v:Value} {xs:List α} (h:IsS62 w0 W g f0 f1 f2) (ho:d.R e W base ok v xs) (ht : ∀ q,q ∈ e::d.E→q≠62):d.R e W base (fun k=>ok k∧k≠g) v xs:=by
 obtain⟨A0,c0,hb,hg,hr0⟩:=h
 exact Kd.R_types ho hb ht
theorem IsS62.own_ne {w0 W:World} {g:Nat} {f0:List Int} {f1:Int} {f2:Bool} {α:Type} {d:Kd α} {e:Nat} {base:Nat} {ok:Nat→Prop} {v:Value} {xs:List α} (h:IsS62 w0 W g f0 f1 f2) (ho:d.R e W base ok v xs) (ht:e≠62):some g≠v.ownBlock:=by
 obtain⟨A0,c0,hb,hg,hr0⟩:=h
 exact Kd.R_ne ho hb ht
theorem IsS62.apartQ {w0 W:World} {g:Nat} {f0:List Int} {f1:Int} {f2:Bool} {α:Type} {d:Kd α} {e:Nat} {base:Nat} {ok:Nat→Prop} {v:Value} {xs:List α} (h:IsS62 w0 W g f0 f1 f2) (ho:d.Q e W base ok v xs) (ht : ∀ q,q ∈ e::d.E→q≠62):d.Q e W base (fun k=>ok k∧k≠g) v xs:=by
 obtain⟨A0,c0,hb,hg,hr0⟩:=h
 exact Kd.Q_types ho hb ht
theorem IsS62.own_neQ {w0 W:World} {g:Nat} {f0:List Int} {f1:Int} {f2:Bool} {α:Type} {d:Kd α} {e:Nat} {base:Nat} {ok:Nat→Prop} {v:Value} {xs:List α} (h:IsS62 w0 W g f0 f1 f2) (ho:d.Q e W base ok v xs) (ht:e≠62):some g≠v.ownBlock:=by
 obtain⟨A0,c0,hb,hg,hr0⟩:=h
 exact Kd.Q_ne ho hb ht
theorem IsS62.apartS {w0 W:World} {g:Nat} {f0:List Int} {f1:Int} {f2:Bool} {α:Type} {d:Kd α} {e:Nat} {base:Nat} {ok:Nat→Prop} {v:Value} {xs:List α} (h:IsS62 w0 W g f0 f1 f2) (ho:d.S e W base ok v xs) (ht : ∀ q,q ∈ e::d.E→q≠62):d.S e W base (fun k=>ok k∧k≠g) v xs:=by
 obtain⟨A0,c0,hb,hg,hr0⟩:=h
 exact Kd.S_types ho hb ht
theorem IsS62.own_neS {w0 W:World} {g:Nat} {f0:List Int} {f1:Int} {f2:Bool} {α:Type} {d:Kd α} {e:Nat} {base:Nat} {ok:Nat→Prop} {v:Value} {xs:List α} (h:IsS62 w0 W g f0 f1 f2) (ho:d.S e W base ok v xs) (ht:e≠62):some g≠v.ownBlock:=by
 obtain⟨A0,c0,hb,hg,hr0⟩:=h
 exact Kd.S_ne ho hb ht
theorem IsS62.lt {w0 W:World} {g:Nat} {f0:List Int} {f1:Int} {f2:Bool} (h:IsS62 w0 W g f0 f1 f2):g < W.heap.size:=by
 obtain⟨A0,c0,hb,hg,hr0⟩:=h
 exact blk_lt hb
theorem IsS62.ge {w0 W:World} {g:Nat} {f0:List Int} {f1:Int} {f2:Bool} (h:IsS62 w0 W g f0 f1 f2):w0.heap.size≤g:=by
 obtain⟨A0,c0,hb,hg,hr0⟩:=h
 exact hg
theorem IsS62.ne_blk {w0 W:World} {g:Nat} {f0:List Int} {f1:Int} {f2:Bool} {a:Nat} {cs:Array Value} {t:TypeId} {fr:Nat × Nat} (h:IsS62 w0 W g f0 f1 f2) (hb2:W.heap[a]?=some (.cells cs t fr)) (ht:t≠62):g≠a:=by
 obtain⟨A0,c0,hb,hg,hr0⟩:=h
 rintro rfl
 rw[hb] at hb2
 injection hb2 with hb2
 injection hb2 with _ ht2
 exact ht ht2.symm
theorem IsS62.far {w0 W:World} {g:Nat} {f0:List Int} {f1:Int} {f2:Bool} {p:Addr} (h:IsS62 w0 W g f0 f1 f2) (hne:g≠p.block) (u:Value):IsS62 w0 (W.setCell p u) g f0 f1 f2:=by
 obtain⟨A0,c0,hb,hg,hr0⟩:=h
 exact⟨A0,c0,blk_far hb hne u,hg,hr0⟩
theorem cellS62_0 {W:World} {g:Nat} {A0:Option Addr} {c0:Nat} {f0:List Int} {f1:Int} {f2:Bool} (h:W.heap[g]?=some (.cells #[.slice A0 f0.length c0,.int .i64 f1,.bool f2] 62 (0,0))):W.cell? ⟨g,0,none⟩=some (.slice A0 f0.length c0):=(blk_cell h 0).trans rfl
theorem cellS62_1 {W:World} {g:Nat} {A0:Option Addr} {c0:Nat} {f0:List Int} {f1:Int} {f2:Bool} (h:W.heap[g]?=some (.cells #[.slice A0 f0.length c0,.int .i64 f1,.bool f2] 62 (0,0))):W.cell? ⟨g,1,none⟩=some (.int .i64 f1):=(blk_cell h 1).trans rfl
theorem IsS62.set_1 {w0 W:World} {g:Nat} {f0:List Int} {f1:Int} {f2:Bool} (h:IsS62 w0 W g f0 f1 f2) (x:Int):IsS62 w0 (W.setCell ⟨g,1,none⟩ (.int .i64 x)) g f0 x f2:=by
 obtain⟨A0,c0,hb,hg,hr0⟩:=h
 exact⟨A0,c0,by simpa using blk_set hb 1 (.int .i64 x),hg,hr0⟩
theorem cellS62_2 {W:World} {g:Nat} {A0:Option Addr} {c0:Nat} {f0:List Int} {f1:Int} {f2:Bool} (h:W.heap[g]?=some (.cells #[.slice A0 f0.length c0,.int .i64 f1,.bool f2] 62 (0,0))):W.cell? ⟨g,2,none⟩=some (.bool f2):=(blk_cell h 2).trans rfl
theorem IsS62.set_2 {w0 W:World} {g:Nat} {f0:List Int} {f1:Int} {f2:Bool} (h:IsS62 w0 W g f0 f1 f2) (x:Bool):IsS62 w0 (W.setCell ⟨g,2,none⟩ (.bool x)) g f0 f1 x:=by
 obtain⟨A0,c0,hb,hg,hr0⟩:=h
 exact⟨A0,c0,by simpa using blk_set hb 2 (.bool x),hg,hr0⟩
theorem IsS62.new (w0 W:World) (A0:Option Addr) (c0:Nat) (f0:List Int) (f1:Int) (f2:Bool) (hB:Below w0.heap.size w0 W) (hr0:Kd.C (Kd.int .i64) w0 A0 f0.length f0):IsS62 w0 (W.alloc (.cells #[.slice A0 f0.length c0,.int .i64 f1,.bool f2] 62)) W.heap.size f0 f1 f2:=⟨A0,c0,by simpa using heap_alloc_new W _,hB.size,hr0⟩

/-! ### impl_CarriersIn_lit1_captured: function 111 -/
def impl_CarriersIn_lit1_captured.f (a0:Int) (s1_0:List Int) (s1_1:Int) (s1_2:Bool):Option (Bool × Int × Bool):=if 0≤a0 then (if a0 < (s1_0.length:Int) then (some (((rd s1_0 a0) == 0),s1_1,s1_2)) else (none)) else (none)
set_option maxHeartbeats 8000000 in
set_option maxRecDepth 100000 in
theorem impl_CarriersIn_lit1_captured.calls (a0:Int) (g:Nat) (s1_0:List Int) (s1_1:Int) (s1_2:Bool) (r1:Bool) (r2:Int) (r3:Bool) (w0 w:World) (hI:IsS62 w0 w g s1_0 s1_1 s1_2) (hB:Below w0.heap.size w0 w) (h:impl_CarriersIn_lit1_captured.f a0 s1_0 s1_1 s1_2=some (r1,r2,r3)) :
  Calls Try.prog 111 #[.int .i64 a0,.pointer (some ⟨g,0,none⟩)] w fun e w'=>e=.returned (.bool r1)∧IsS62 w0 w' g s1_0 r2 r3∧Below w0.heap.size w0 w'∧KeepBut w w' g none:=by
 have HI1:=am hI
 have HK:=am (KeepBut.refl w g none)
 have HL:=am hB.size
 clear hI
 have HW0:=am hB.size
 have HB:=am hB
 clear hB
 have H:(if 0≤a0 then (if a0 < (s1_0.length:Int) then (some (((rd s1_0 a0) == 0),s1_1,s1_2)) else (none)) else (none))=some (r1,r2,r3):=h
 clear h
 by_cases c3:0≤a0
 ·rw[if_pos c3] at H
  have c3b0:decide (0≤a0)=true:=decide_eq_true c3
  clear c3
  by_cases c4:a0 < (s1_0.length:Int)
  ·rw[if_pos c4] at H
   have c4b0:decide (a0 < (s1_0.length:Int))=true:=decide_eq_true c4
   clear c4
   simp only[Option.some.injEq,Prod.mk.injEq] at H
   obtain⟨rfl,rfl,rfl⟩:=H
   obtain⟨ASz5_0,cSz5_0,HGz5,hgz5,HSz5_0⟩:=HI1.out
   have hcz5_0:=cellS62_0 HGz5
   have hcz5_1:=cellS62_1 HGz5
   have hcz5_2:=cellS62_2 HGz5
   have hfz5_1:=blk_frozen HGz5 1
   have hfz5_2:=blk_frozen HGz5 2
   clear HGz5 hgz5
   have p352:0≤(a0:Int):=bD_
   have q352:a0 < (s1_0.length:Int):=bD_
   obtain⟨ad352,e352,hx352_0⟩:=Kd.at_int HSz5_0 a0 p352 q352
   cases e352
   replace hx352_0:=pw_cell_below HB.out hx352_0
   replace p352:=eq_true p352
   replace q352:=eq_true q352
   go_enter Try.func111,Try.ntmps111
   go_wp2
   go_ret
   exact⟨bE,b54_,by repeat (first|(with_reducible first|exact HB.out|apply below_alloc|apply pw_below_drewN|apply below_drew1|refine below_set ?_ (IsS62.ge HI1.out))|exact HB.out),b51_⟩
  ·rw[if_neg c4] at H
   exact absurd H (by simp)
 ·rw[if_neg c3] at H
  exact absurd H (by simp)

end Go.Proofs.Yteneeohaoplpbaa.XFnSpray
