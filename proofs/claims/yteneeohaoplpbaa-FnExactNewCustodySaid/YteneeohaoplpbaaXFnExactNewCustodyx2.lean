-- Written by this session's own program (wip/xprint.py) out of the translation; Lean checks it.
import Derived.Test.YteneeohaoplpbaaXFnExactNewCustodyx0
namespace Go.Proofs.Yteneeohaoplpbaa.XFnExactNewCustody
open Go.RowKit Go.Proofs.YteneeohaoplpbaaW.PrintWords Go.Proofs.YteneeohaoplpbaaW.PrintLast Go.Proofs.YteneeohaoplpbaaW.PrintMore
attribute [local go_sem] max2_int min2_int max_two min_two max_three min_three max_four min_four   -- for this text's walks alone
set_option linter.unusedVariables false
set_option linter.unusedSimpArgs false

/-! ### laws_toIntS: function 32 -/
def laws_toIntS.l0:Nat→List Int→List Int→Int→Option (List Int)
 | 0,_,_,_=>none
 | k+1,x0,x3,x4=>if x4 < (x0.length:Int) then (if 0≤x4 then (if x4 < (x3.length:Int) then (laws_toIntS.l0 k x0 (x3.set (x4:Int).toNat (rd x0 x4)) (wrap64 (x4+1))) else (none)) else (none)) else (some x3)
def laws_toIntS.f (k:Nat) (l0:List Int):Option (List Int):=if 0≤(l0.length:Int) then (if ((l0.length:Int):Int).toNat≤35184372088832 then (laws_toIntS.l0 k l0 (List.replicate ((l0.length:Int):Int).toNat 0) 0) else (none)) else (none)
theorem laws_toIntS.mono_l : ∀ k,(∀ y0 y1 y2,LeO (laws_toIntS.l0 k y0 y1 y2) (laws_toIntS.l0 (k+1) y0 y1 y2))
 | 0=>fun _ _ _ r h=>by simp[laws_toIntS.l0] at h
 | k+1=>by
  have ih0:=laws_toIntS.mono_l k
  ·intro y0 y1 y2
   unfold laws_toIntS.l0
   repeat' first
   | (with_reducible exact ih0 _ _ _)
   | (with_reducible exact LeO.refl _)
   | (with_reducible exact LeO.none _)
   | (with_reducible refine LeO.ite ?_ ?_)
   | (with_reducible refine LeO.bind ?_ (fun _ => ?_))
   | exact ih0 _ _ _
   | exact LeO.none _
   | refine LeO.ite ?_ ?_
   | refine LeO.bind ?_ (fun _ => ?_)
theorem laws_toIntS.mono : ∀ a0 k,LeO (laws_toIntS.f k a0) (laws_toIntS.f (k+1) a0):=by
 intro a0 k
 have ih0:=laws_toIntS.mono_l k
 unfold laws_toIntS.f
 repeat' first
  | (with_reducible exact ih0 _ _ _)
  | (with_reducible exact LeO.refl _)
  | (with_reducible exact LeO.none _)
  | (with_reducible refine LeO.ite ?_ ?_)
  | (with_reducible refine LeO.bind ?_ (fun _ => ?_))
  | exact ih0 _ _ _
  | exact LeO.none _
  | refine LeO.ite ?_ ?_
  | refine LeO.bind ?_ (fun _ => ?_)
set_option maxHeartbeats 8000000 in
set_option maxRecDepth 100000 in
theorem laws_toIntS.calls (k:Nat) (A0:Option Addr) (c0:Nat) (l0:List Int) (r:List Int) (w:World) (hr0:Kd.C (Kd.int .i64) w A0 l0.length l0) (hc0:l0.length≤c0) (h:laws_toIntS.f k l0=some r) :
  Calls Try.prog 32 #[.slice A0 l0.length c0] w fun e w' => ∃ v0_:Value,e=.returned (v0_)∧Kd.R (Kd.int .i64) 3 w' w.heap.size (fun _=>True) v0_ r∧Below w.heap.size w w':=by
 have HR0:=Aside0.mk hr0
 have HC0:=Aside0.mk hc0
 clear hr0 hc0
 have HB:=Aside0.mk (Below.refl w.heap.size w)
 have H:(if 0≤(l0.length:Int) then (if ((l0.length:Int):Int).toNat≤35184372088832 then (laws_toIntS.l0 k l0 (List.replicate ((l0.length:Int):Int).toNat 0) 0) else (none)) else (none))=some r:=h
 clear h
 by_cases c2:0≤(l0.length:Int)
 ·rw[if_pos c2] at H
  have c2b0:=eq_true c2
  have c2b1:decide (0≤(l0.length:Int))=true:=decide_eq_true c2
  clear c2
  by_cases c3:((l0.length:Int):Int).toNat≤35184372088832
  ·rw[if_pos c3] at H
   have c3b0:=eq_true c3
   have c3b1:decide (((l0.length:Int):Int).toNat≤35184372088832)=true:=decide_eq_true c3
   clear c3
   obtain⟨y117,hy117⟩ : ∃ y_:List Int,y_=(List.replicate ((l0.length:Int):Int).toNat 0):=⟨_,rfl⟩
   replace H:(laws_toIntS.l0 k l0 y117 0)=some r:=by first|(rw[hy117];with_reducible exact H)|(have H2_:=(Option.bind_some _ _).symm.trans H;rw[hy117];with_reducible exact H2_)|(have H2_:=(Option.bind_some _ _).symm.trans H;with_reducible exact H2_)|with_reducible exact H|(rw[hy117];exact H)|exact H
   have Ny117:=Aside0.mk hy117
   clear hy117
   have H':=Aside0.mk H
   clear H
   go_enter Try.func32,Try.ntmps32
   go_wp2_with (first|((with_reducible refine gate_dst (N:=7) rfl ?_);refine Kd.R_make (Kd.int .i64) _ 3 rfl (N:=7) rfl 37 _ _ rfl (l0.length:Int) rfl rfl Try.underlying37 (.int .i64 0) 8 info3 rfl (by decide) (by omega) 0 (ok:=fun _=>True) (okp:=fun _=>True) rfl (fun _ hk=>hk) trivial (of_decide_eq_true (bD)) (Nat.le_trans (Nat.mul_le_mul_right _ (of_decide_eq_true (bD):(l0.length:Int).toNat≤35184372088832)) (by omega)) (Below.refl _ _) (Nat.le_refl _) ?_;intro v118 w4 ho5 hb hg_ hnew_;clear hg_ hnew_;(first|rw[← Ny117.out] at ho5|(simp only[Int.reduceToNat] at ho5;rw[← Ny117.out] at ho5));have n0_:=Aside0.mk (Kd.R_lower ho5 (below_size (bB)));have n1_:=Aside0.mk (below_step (bB) hb);clear HB;have HO119:=n0_;have HB:=n1_;clear n0_ n1_;clear hb ho5))
   go_loopg [4] k (fun kq v4 w' => ∃ (x3_1:List Int) (x4_1:Int),v4=.int .i64 x4_1∧Aside0 (laws_toIntS.l0 kq l0 x3_1 x4_1=some r)∧Aside0 (kq≤k)∧Aside0 (Kd.R (Kd.int .i64) 3 w' w.heap.size (fun _=>True) v118 x3_1)∧Aside0 (Below w.heap.size w w'))
   case atStart=>exact⟨(y117),(0),(bR),H',⟨Nat.le_refl _⟩,⟨by(with_reducible repeat (first|apply Kd.R_alloc|apply Kd.R_drewN|apply Kd.R_drew));exact HO119.out⟩,⟨by repeat (first|(with_reducible first|exact HB.out|apply below_alloc|apply pw_below_drewN|apply below_drew1)|exact HB.out)⟩⟩
   case round =>
    clear H'
    try clear c2
    try clear c2b0
    try clear c2b1
    try clear p2
    try clear c3
    try clear c3b0
    try clear c3b1
    obtain⟨x3_1,x4_1,rfl,HA,HK1,HO_3,HB⟩:=hrel
    cases gk with
    | zero=>exact absurd HA.out (by simp[laws_toIntS.l0])
    | succ k1 =>
     have H:=HA.out
     clear HA
     simp only[laws_toIntS.l0] at H
     by_cases c6:x4_1 < (l0.length:Int)
     ·rw[if_pos c6] at H
      have c6b0:decide (x4_1 < (l0.length:Int))=true:=decide_eq_true c6
      clear c6
      by_cases c7:0≤x4_1
      ·rw[if_pos c7] at H
       have c7b0:decide (0≤x4_1)=true:=decide_eq_true c7
       clear c7
       by_cases c8:x4_1 < (x3_1.length:Int)
       ·rw[if_pos c8] at H
        have c8b0:decide (x4_1 < (x3_1.length:Int))=true:=decide_eq_true c8
        clear c8
        obtain⟨y121,hy121⟩ : ∃ y_:List Int,y_=(x3_1.set (x4_1:Int).toNat (rd l0 x4_1)):=⟨_,rfl⟩
        replace H:(laws_toIntS.l0 k1 l0 y121 (wrap64 (x4_1+1)))=some r:=by first|(rw[hy121];with_reducible exact H)|(have H2_:=(Option.bind_some _ _).symm.trans H;rw[hy121];with_reducible exact H2_)|(have H2_:=(Option.bind_some _ _).symm.trans H;with_reducible exact H2_)|with_reducible exact H|(rw[hy121];exact H)|exact H
        have Ny121:=Aside0.mk hy121
        clear hy121
        have H':=Aside0.mk H
        clear H
        have p120:0≤(x4_1:Int):=of_decide_eq_true (bD)
        have q120:x4_1 < (l0.length:Int):=of_decide_eq_true (bD)
        obtain⟨ad120,e120,hx120_0⟩:=Kd.at_int HR0.out x4_1 p120 q120
        cases e120
        replace hx120_0:=(HB.out.cell (World.block_lt_of_cell? w _ hx120_0)).trans hx120_0
        replace p120:=eq_true p120
        replace q120:=eq_true q120
        have p9:0≤(x4_1:Int):=of_decide_eq_true (bD)
        have q9:(x4_1:Int) < ((x3_1.length:Int):Int):=of_decide_eq_true (bD)
        obtain⟨go9,co9,eo9,gb9,gl9,cl9,HG9⟩:=Kd.R_form HO_3.out (by omega)
        (first|cases eo9|(injection eo9 with ea_ en_ ec_;(first|subst ea_|(injection ea_ with ea_;subst ea_));subst ec_;clear en_))
        have GB9:=Aside0.mk gb9
        have GG9:=Aside0.mk HG9
        clear gb9 gl9 HG9
        obtain⟨hx9_0,hf9_0⟩:=Kd.R_celln 0 HO_3.out (x4_1:Int) p9 q9
        replace p9:=eq_true p9
        replace q9:=eq_true q9
        have HP10:=Kd.R_putg HO_3.out (x4_1:Int) (rd l0 x4_1)
        go_wp2_with (first|((with_reducible refine gate_store (t:=3) (p:=20) rfl ?_);refine store_event (t:=3) (p:=20) (v:=?vo_w11) (w1:=(wr.setCell ⟨go9,(x4_1:Int).toNat,none⟩ (.int .i64 (rd l0 x4_1)))) ?hg ?ho ?hn ?hr ?_;(case ho=>rfl);(case hg=>rfl);(case hn=>rfl);(case hr=>first|(go_simp;done)|(go_simp;rfl));intro w11 hw;have hg:wr.grownBy w11 (some go9):=(by rw[hw];exact HP10.2);have hp_:Kd.R (Kd.int .i64) 3 w11 w.heap.size (fun _=>True) (.slice (some ⟨go9,0,none⟩) x3_1.length co9) y121:=(by rw[hw,Ny121.out];exact HP10.1);clear HP10;have n0_:=Aside0.mk (hp_);have n1_:=Aside0.mk ((by rw[hw];exact below_set (HB.out) GB9.out:Below w.heap.size w w11));clear HO_3 HB;have HO_3:=n0_;have HB:=n1_;clear n0_ n1_;clear hg hw hp_))
        go_roundg k1
        case measure=>have:=HK1.out;omega
        case rel=>exact⟨(y121),(wrap64 (x4_1+1)),(bR),H',⟨by have:=HK1.out;omega⟩,⟨by(with_reducible repeat (first|apply Kd.R_alloc|apply Kd.R_drewN|apply Kd.R_drew));exact HO_3.out⟩,⟨by repeat (first|(with_reducible first|exact HB.out|apply below_alloc|apply pw_below_drewN|apply below_drew1)|exact HB.out)⟩⟩
       ·rw[if_neg c8] at H
        exact absurd H (by simp)
      ·rw[if_neg c7] at H
       exact absurd H (by simp)
     ·rw[if_neg c6] at H
      have c6b0:decide (x4_1 < (l0.length:Int))=false:=decide_eq_false c6
      clear c6
      obtain rfl:=Option.some.inj H
      go_wp2
      go_ret
      exact⟨_,by first|rfl|(simp[errW_none,errW_some]<;>rfl)|(simp[*,errW_none,errW_some]<;>rfl),by(with_reducible repeat (first|apply Kd.R_alloc|apply Kd.R_drewN|apply Kd.R_drew));exact HO_3.out,bB⟩
  ·rw[if_neg c3] at H
   exact absurd H (by simp)
 ·rw[if_neg c2] at H
  exact absurd H (by simp)

/-! ### impl_within: function 79 -/
def impl_within.f (a0:Int) (a1:Int) (a2:Int):Option (Bool):=if a1≤a0 then (some (decide (a0≤a2))) else (some false)
set_option maxHeartbeats 8000000 in
set_option maxRecDepth 100000 in
theorem impl_within.calls (a0:Int) (a1:Int) (a2:Int) (r:Bool) (w:World) (h:impl_within.f a0 a1 a2=some r) :
  Calls Try.prog 79 #[.int .i64 a0,.int .i64 a1,.int .i64 a2] w fun e w'=>e=.returned (.bool r)∧Drawn0 w w':=by
 have H:(if a1≤a0 then (some (decide (a0≤a2))) else (some false))=some r:=h
 clear h
 by_cases c4:a1≤a0
 ·rw[if_pos c4] at H
  have c4b0:decide (a1≤a0)=true:=decide_eq_true c4
  clear c4
  obtain rfl:=Option.some.inj H
  go_enter Try.func79,Try.ntmps79
  go_wp2
  go_ret
  exact⟨bR,bW⟩
 ·rw[if_neg c4] at H
  have c4b0:decide (a1≤a0)=false:=decide_eq_false c4
  clear c4
  obtain rfl:=Option.some.inj H
  go_enter Try.func79,Try.ntmps79
  go_wp2
  go_ret
  exact⟨bR,bW⟩

/-! ### impl_isTree: function 97 -/
mutual
def impl_isTree.j0:Nat→List Int→Bool→Option (Bool)
 | 0,_,_=>none
 | k+1,x0,x14=>if x14=true then (some false) else (impl_isTree.l0 k x0 (x0.length:Int) 0)
def impl_isTree.l0:Nat→List Int→Int→Int→Option (Bool)
 | 0,_,_,_=>none
 | k+1,x15,x16,x17=>if x17 < x16 then (if 0≤x17 then (if x17 < (x15.length:Int) then (if x17 > 0 then ((impl_within.f (rd x15 x17) 0 (wrap64 (x17 - 1))).bind fun t125=>(if t125=true then (impl_isTree.l0 k x15 x16 (wrap64 (x17+1))) else (some false))) else (impl_isTree.l0 k x15 x16 (wrap64 (x17+1)))) else (none)) else (none)) else (some true)
end
def impl_isTree.f (k:Nat) (l0:List Int):Option (Bool):=(impl_within.f (l0.length:Int) 1 8).bind fun t122=>(if t122=true then (if 0 < (l0.length:Int) then (impl_isTree.j0 k l0 ((rd l0 0) != (-1))) else (none)) else (impl_isTree.j0 k l0 true))
theorem impl_isTree.mono_l : ∀ k,(∀ y0 y1,LeO (impl_isTree.j0 k y0 y1) (impl_isTree.j0 (k+1) y0 y1))∧(∀ y0 y1 y2,LeO (impl_isTree.l0 k y0 y1 y2) (impl_isTree.l0 (k+1) y0 y1 y2))
 | 0=>⟨fun _ _ r h=>by simp[impl_isTree.j0] at h,fun _ _ _ r h=>by simp[impl_isTree.l0] at h⟩
 | k+1=>by
  obtain⟨ih0,ih1⟩:=impl_isTree.mono_l k
  refine⟨?_,?_⟩
  ·intro y0 y1
   unfold impl_isTree.j0
   repeat' first
   | (with_reducible exact ih0 _ _)
   | (with_reducible exact ih1 _ _ _)
   | (with_reducible exact LeO.refl _)
   | (with_reducible exact LeO.none _)
   | (with_reducible refine LeO.ite ?_ ?_)
   | (with_reducible refine LeO.bind ?_ (fun _ => ?_))
   | exact ih0 _ _
   | exact ih1 _ _ _
   | exact LeO.none _
   | refine LeO.ite ?_ ?_
   | refine LeO.bind ?_ (fun _ => ?_)
  ·intro y0 y1 y2
   unfold impl_isTree.l0
   repeat' first
   | (with_reducible exact ih0 _ _)
   | (with_reducible exact ih1 _ _ _)
   | (with_reducible exact LeO.refl _)
   | (with_reducible exact LeO.none _)
   | (with_reducible refine LeO.ite ?_ ?_)
   | (with_reducible refine LeO.bind ?_ (fun _ => ?_))
   | exact ih0 _ _
   | exact ih1 _ _ _
   | exact LeO.none _
   | refine LeO.ite ?_ ?_
   | refine LeO.bind ?_ (fun _ => ?_)
theorem impl_isTree.mono : ∀ a0 k,LeO (impl_isTree.f k a0) (impl_isTree.f (k+1) a0):=by
 intro a0 k
 obtain⟨ih0,ih1⟩:=impl_isTree.mono_l k
 unfold impl_isTree.f
 repeat' first
  | (with_reducible exact ih0 _ _)
  | (with_reducible exact ih1 _ _ _)
  | (with_reducible exact LeO.refl _)
  | (with_reducible exact LeO.none _)
  | (with_reducible refine LeO.ite ?_ ?_)
  | (with_reducible refine LeO.bind ?_ (fun _ => ?_))
  | exact ih0 _ _
  | exact ih1 _ _ _
  | exact LeO.none _
  | refine LeO.ite ?_ ?_
  | refine LeO.bind ?_ (fun _ => ?_)
set_option maxHeartbeats 8000000 in
set_option maxRecDepth 100000 in
theorem impl_isTree.calls (k:Nat) (A0:Option Addr) (c0:Nat) (l0:List Int) (r:Bool) (w:World) (hr0:Kd.C (Kd.int .i64) w A0 l0.length l0) (hc0:l0.length≤c0) (h:impl_isTree.f k l0=some r) :
  Calls Try.prog 97 #[.slice A0 l0.length c0] w fun e w'=>e=.returned (.bool r)∧Drawn0 w w':=by
 have HR0:=Aside0.mk hr0
 have HC0:=Aside0.mk hc0
 clear hr0 hc0
 have H:((impl_within.f (l0.length:Int) 1 8).bind fun t122=>(if t122=true then (if 0 < (l0.length:Int) then (impl_isTree.j0 k l0 ((rd l0 0) != (-1))) else (none)) else (impl_isTree.j0 k l0 true)))=some r:=h
 clear h
 have HC2:=Aside0.mk H
 clear H
 go_enter Try.func97,Try.ntmps97
 go_upto_region 1 with (fail)
 go_cut [14] (fun v14 wc => ∃ (kq:Nat) (x14_1:Bool),v14=.bool x14_1∧Aside0 (impl_isTree.j0 kq l0 x14_1=some r)∧Aside0 (kq≤k)∧Drawn0 w wc)
 case first =>
  have H:=HC2.out
  clear HC2
  replace H:=Option.bind_eq_some_iff.mp H
  obtain⟨t122,A30,H⟩:=H
  have A3:=Aside0.mk A30
  clear A30
  by_cases c4:t122=true
  ·subst c4
   have H1:(if 0 < (l0.length:Int) then (impl_isTree.j0 k l0 ((rd l0 0) != (-1))) else (none))=some r:=by rw[if_pos rfl] at H;exact H
   clear H
   have H:=H1
   clear H1
   by_cases c5:0 < (l0.length:Int)
   ·rw[if_pos c5] at H
    have c5b0:decide (0 < (l0.length:Int))=true:=decide_eq_true c5
    have c5b1:decide (0 < l0.length)=true:=decide_eq_true (by omega)
    clear c5
    (first|rw[c5b0]|(simp only[i64_w,i32_w];rw[c5b0])|skip)
    have H':=Aside0.mk H
    clear H
    go_wp2_with (first|((with_reducible refine gate_callee (f:=79) rfl ?_);refine goesA (some 7) rfl rfl Try.func79 #[.int .i64 (l0.length:Int),.int .i64 1,.int .i64 8] rfl ?_;(with_reducible refine(impl_within.calls (l0.length:Int) 1 8 true _ A3.out).mono ?_);rintro e w' ⟨rfl,⟨nd,rfl⟩⟩;refine⟨_,rfl,?_⟩;have p123:0≤(0:Int):=(by omega);have q123:0 < (l0.length:Int):=of_decide_eq_true (bD);obtain⟨ad123,e123,hx123_0⟩:=Kd.at_int HR0.out 0 p123 q123;cases e123;have qi123:(0 < l0.length)=True:=eq_true (by omega);(try rw[show((0:Int)).toNat=0 from rfl] at hx123_0);(try rw[Addr.add_zero'] at hx123_0);replace p123:=eq_true p123;replace q123:=eq_true q123))
    go_meet
    case rel=>exact⟨_,(((rd l0 0) != (-1))),(bR),H',⟨by first|omega|exact Nat.le_refl _⟩,bW⟩
   ·rw[if_neg c5] at H
    exact absurd H (by simp)
  ·replace c4:=Bool.eq_false_iff.mpr c4
   subst c4
   have H1:(impl_isTree.j0 k l0 true)=some r:=by rw[if_neg (show ¬ (false=true) by decide)] at H;exact H
   clear H
   have H:=H1
   clear H1
   have H':=Aside0.mk H
   clear H
   go_wp2_with (first|((with_reducible refine gate_callee (f:=79) rfl ?_);refine goesA (some 7) rfl rfl Try.func79 #[.int .i64 (l0.length:Int),.int .i64 1,.int .i64 8] rfl ?_;(with_reducible refine(impl_within.calls (l0.length:Int) 1 8 false _ A3.out).mono ?_);rintro e w' ⟨rfl,⟨nd,rfl⟩⟩;refine⟨_,rfl,?_⟩))
   go_meet
   case rel=>exact⟨_,(true),(bR),H',⟨by first|omega|exact Nat.le_refl _⟩,bW⟩
 case rest =>
  clear HC2
  try clear p1
  try clear q1
  try clear hx1
  try clear qi1
  try clear p2
  try clear c4
  try clear c5
  try clear c5b0
  try clear c5b1
  try clear hx123_0
  try clear p123
  try clear q123
  obtain⟨kq,x14_1,rfl,HA,HJ1,⟨mc1,rfl⟩⟩:=hcut
  cases kq with
  | zero=>exact absurd HA.out (by simp[impl_isTree.j0])
  | succ kj1 =>
   have H:=HA.out
   clear HA
   simp only[impl_isTree.j0] at H
   by_cases c6:x14_1=true
   ·subst c6
    have H1:(some false)=some r:=by rw[if_pos rfl] at H;exact H
    clear H
    have H:=H1
    clear H1
    obtain rfl:=Option.some.inj H
    go_wp2
    go_ret
    exact⟨bR,bW⟩
   ·replace c6:=Bool.eq_false_iff.mpr c6
    subst c6
    have H1:(impl_isTree.l0 kj1 l0 (l0.length:Int) 0)=some r:=by rw[if_neg (show ¬ (false=true) by decide)] at H;exact H
    clear H
    have H:=H1
    clear H1
    have H':=Aside0.mk H
    clear H
    go_wp2
    go_loopg [17] kj1 (fun kq v17 w' => ∃ (x17_2:Int),v17=.int .i64 x17_2∧Aside0 (impl_isTree.l0 kq l0 (l0.length:Int) x17_2=some r)∧Aside0 (kq≤kj1)∧Drawn0 w w')
    case atStart=>exact⟨(0),(bR),H',⟨Nat.le_refl _⟩,bW⟩
    case round =>
     clear H'
     try clear c1
     try clear p1
     try clear q1
     try clear hx1
     try clear qi1
     try clear p2
     try clear c4
     try clear c5
     try clear c5b0
     try clear c5b1
     try clear c6
     try clear hx123_0
     try clear p1
     try clear p123
     try clear p2
     try clear q1
     try clear q123
     obtain⟨x17_2,rfl,HA,HK2,⟨m2,rfl⟩⟩:=hrel
     cases gk with
     | zero=>exact absurd HA.out (by simp[impl_isTree.l0])
     | succ k2 =>
      have H:=HA.out
      clear HA
      simp only[impl_isTree.l0] at H
      by_cases c7:x17_2 < (l0.length:Int)
      ·rw[if_pos c7] at H
       have c7b0:decide (x17_2 < (l0.length:Int))=true:=decide_eq_true c7
       clear c7
       by_cases c8:0≤x17_2
       ·rw[if_pos c8] at H
        have c8b0:decide (0≤x17_2)=true:=decide_eq_true c8
        clear c8
        by_cases c9:x17_2 < (l0.length:Int)
        ·rw[if_pos c9] at H
         have c9b0:decide (x17_2 < (l0.length:Int))=true:=decide_eq_true c9
         clear c9
         by_cases c10:x17_2 > 0
         ·rw[if_pos c10] at H
          have c10b0:decide (0 < x17_2)=true:=decide_eq_true c10
          clear c10
          replace H:=Option.bind_eq_some_iff.mp H
          obtain⟨t125,A110,H⟩:=H
          have A11:=Aside0.mk A110
          clear A110
          by_cases c12:t125=true
          ·subst c12
           have H1:(impl_isTree.l0 k2 l0 (l0.length:Int) (wrap64 (x17_2+1)))=some r:=by rw[if_pos rfl] at H;exact H
           clear H
           have H:=H1
           clear H1
           have H':=Aside0.mk H
           clear H
           have p124:0≤(x17_2:Int):=of_decide_eq_true (bD)
           have q124:x17_2 < (l0.length:Int):=of_decide_eq_true (bD)
           obtain⟨ad124,e124,hx124_0⟩:=Kd.at_int HR0.out x17_2 p124 q124
           cases e124
           replace p124:=eq_true p124
           replace q124:=eq_true q124
           go_wp2_with (first|(go_at_call 79;(with_reducible refine(impl_within.calls (rd l0 x17_2) 0 (wrap64 (x17_2 - 1)) true _ A11.out).mono ?_);rintro e w' ⟨rfl,⟨nd,rfl⟩⟩))
           go_roundg k2
           case measure=>have:=HJ1.out;have:=HK2.out;omega
           case rel=>exact⟨(wrap64 (x17_2+1)),(bR),H',⟨by have:=HJ1.out;have:=HK2.out;omega⟩,bW⟩
          ·replace c12:=Bool.eq_false_iff.mpr c12
           subst c12
           have H1:(some false)=some r:=by rw[if_neg (show ¬ (false=true) by decide)] at H;exact H
           clear H
           have H:=H1
           clear H1
           obtain rfl:=Option.some.inj H
           have p124:0≤(x17_2:Int):=of_decide_eq_true (bD)
           have q124:x17_2 < (l0.length:Int):=of_decide_eq_true (bD)
           obtain⟨ad124,e124,hx124_0⟩:=Kd.at_int HR0.out x17_2 p124 q124
           cases e124
           replace p124:=eq_true p124
           replace q124:=eq_true q124
           go_wp2_with (first|(go_at_call 79;(with_reducible refine(impl_within.calls (rd l0 x17_2) 0 (wrap64 (x17_2 - 1)) false _ A11.out).mono ?_);rintro e w' ⟨rfl,⟨nd,rfl⟩⟩))
           go_ret
           exact⟨bR,bW⟩
         ·rw[if_neg c10] at H
          have c10b0:decide (0 < x17_2)=false:=decide_eq_false c10
          clear c10
          have H':=Aside0.mk H
          clear H
          have p124:0≤(x17_2:Int):=of_decide_eq_true (bD)
          have q124:x17_2 < (l0.length:Int):=of_decide_eq_true (bD)
          obtain⟨ad124,e124,hx124_0⟩:=Kd.at_int HR0.out x17_2 p124 q124
          cases e124
          replace p124:=eq_true p124
          replace q124:=eq_true q124
          go_wp2
          go_roundg k2
          case measure=>have:=HJ1.out;have:=HK2.out;omega
          case rel=>exact⟨(wrap64 (x17_2+1)),(bR),H',⟨by have:=HJ1.out;have:=HK2.out;omega⟩,bW⟩
        ·rw[if_neg c9] at H
         exact absurd H (by simp)
       ·rw[if_neg c8] at H
        exact absurd H (by simp)
      ·rw[if_neg c7] at H
       have c7b0:decide (x17_2 < (l0.length:Int))=false:=decide_eq_false c7
       clear c7
       obtain rfl:=Option.some.inj H
       go_wp2
       go_ret
       exact⟨bR,bW⟩

/-! ### slices_Clone_int_int: function 98 -/
def slices_Clone_int_int.f (l0:List Int):Option (List Int):=(some (([]:List Int):List Int)).bind fun y126=>(if y126.length+l0.length < 17592186044416 then (some (y126++l0)) else (none))
set_option maxHeartbeats 8000000 in
set_option maxRecDepth 100000 in
theorem slices_Clone_int_int.calls (A0:Option Addr) (c0:Nat) (l0:List Int) (r:List Int) (w:World) (hr0:Kd.C (Kd.int .i64) w A0 l0.length l0) (hc0:l0.length≤c0) (h:slices_Clone_int_int.f l0=some r) :
  Calls Try.prog 98 #[.slice A0 l0.length c0] w fun e w' => ∃ v0_:Value,e=.returned (v0_)∧Kd.R (Kd.int .i64) 3 w' w.heap.size (fun _=>True) v0_ r∧Below w.heap.size w w':=by
 have HR0:=Aside0.mk hr0
 have HC0:=Aside0.mk hc0
 clear hr0 hc0
 by_cases hA_:A0=none
 ·have h0_:l0=[]:=by
   have z_:=HR0.out
   rw[hA_] at z_
   cases l0 with
   | nil=>rfl
   | cons x_ xs_ =>
    obtain⟨ad_,e_,_⟩:=z_.2.2 (by simp)
    cases e_
  subst hA_
  subst h0_
  have hr_:r=[]:=by simpa [slices_Clone_int_int.f] using h.symm
  subst hr_
  have hq_ : ∀ (w:World) (n c:Nat),(binOp .eql 37 (.slice none n c) (.slice none 0 0)).run Try.prog w=.ok (.bool true) w:=fun w n c=>by
   rw[Lib.run_eql_slice_nil w _ _ _ _ _ _ _ Try.underlying37]
   rfl
  go_enter Try.func98,Try.ntmps98
  go_wp2
  go_ret
  exact⟨_,rfl,Kd.R_nil _ _ _ _ _,Below.refl _ _⟩
 have hq_ : ∀ w,(binOp .eql 37 (.slice A0 l0.length c0) (.slice none 0 0)).run Try.prog w=.ok (.bool false) w:=fun w=>by
  rw[Lib.run_eql_slice_nil w _ _ _ _ _ _ _ Try.underlying37]
  cases A0 with
  | none=>exact absurd rfl hA_
  | some _=>rfl
 have HB:=Aside0.mk (Below.refl w.heap.size w)
 have H:((some (([]:List Int):List Int)).bind fun y126=>(if y126.length+l0.length < 17592186044416 then (some (y126++l0)) else (none)))=some r:=h
 clear h
 obtain⟨y126,hy126⟩ : ∃ y_:List Int,y_=(([]:List Int)):=⟨_,rfl⟩
 replace H:(if y126.length+l0.length < 17592186044416 then (some (y126++l0)) else (none))=some r:=by first|(rw[hy126];with_reducible exact H)|(have H2_:=(Option.bind_some _ _).symm.trans H;rw[hy126];with_reducible exact H2_)|(have H2_:=(Option.bind_some _ _).symm.trans H;with_reducible exact H2_)|with_reducible exact H|(rw[hy126];exact H)|exact H
 have Ny126:=Aside0.mk hy126
 clear hy126
 by_cases c2:y126.length+l0.length < 17592186044416
 ·rw[if_pos c2] at H
  have LMc2:=Aside0.mk c2
  clear c2
  obtain⟨y129,hy129⟩ : ∃ y_:List Int,y_=(y126++l0):=⟨_,rfl⟩
  replace H:(some y129)=some r:=by first|(rw[hy129];with_reducible exact H)|(have H2_:=(Option.bind_some _ _).symm.trans H;rw[hy129];with_reducible exact H2_)|(have H2_:=(Option.bind_some _ _).symm.trans H;with_reducible exact H2_)|with_reducible exact H|(rw[hy129];exact H)|exact H
  have Ny129:=Aside0.mk hy129
  clear hy129
  obtain rfl:=Option.some.inj H
  go_enter Try.func98,Try.ntmps98
  go_wp2_with (first|((with_reducible refine gate_dst (N:=5) rfl ?_);refine Kd.R_lit (Kd.int .i64) _ 3 ?hg (N:=5) ?hd (xs:=([]:List Int)) (inner:=[]) (ok:=fun _=>True) (okp:=fun _=>True) ?hr ?hp (fun _ hk=>hk) trivial (Below.refl _ _) (Nat.le_refl _) (by simp) ?_;(case hd=>rfl);(case hg=>rfl);(case hr=>first|(go_simp;done)|(go_simp;rfl));(case hp=>exact(Reps.none _ _));intro v127 w3 ho4 hb hg_ hnew_;clear hg_ hnew_;(first|rw[← Ny126.out] at ho4|(simp only[Int.reduceToNat] at ho4;rw[← Ny126.out] at ho4));have n0_:=Aside0.mk (Kd.R_lower ho4 (below_size (bB)));have n1_:=Aside0.mk (below_step (bB) hb);clear HB;have HO128:=n0_;have HB:=n1_;clear n0_ n1_;clear hb ho4)|((with_reducible refine gate_builtin (b:=.append) (xs:=#[.tmp 5,.tmp 6]) rfl ?_);at_builtin;refine Kd.R_append_rows (Kd.int .i64) (w0:=w) w.heap.size rfl (.tmp 5) (.tmp 6) 37 3 (.int .i64 0) 8 rfl Try.underlying37 info3 rfl (by decide) (by omega) v127 y126 l0 _ _ _ (fun _=>True) (fun _=>False) rfl rfl ?aO ?aR (fun _ _ h=>h) (fun _ h=>h.elim) ?aF ?aB ?aS ?aL ?_;(case aR=>exact bC HR0.out);(case aB=>exact(bB));(case aF=>exact(fun _ _=>trivial));(case aO=>exact(bK HO128.out));(case aS=>exact(below_size (bB)));(case aL=>have:=LMc2.out;omega);intro v130 w5 ho hb hg hat;rw[← Ny129.out] at ho;have n0_:=Aside0.mk (hb);have n1_:=Aside0.mk (ho);clear HB HO128;have HB:=n0_;have HO131:=n1_;clear n0_ n1_;clear ho hb hg hat))
  go_ret
  exact⟨_,by first|rfl|(simp[errW_none,errW_some]<;>rfl)|(simp[*,errW_none,errW_some]<;>rfl),by(with_reducible repeat (first|apply Kd.R_alloc|apply Kd.R_drewN|apply Kd.R_drew));exact HO131.out,bB⟩
 ·rw[if_neg c2] at H
  exact absurd H (by simp)

/-! ### impl_NewCustody: function 33 -/
def impl_NewCustody.f (k:Nat) (l0:List Int):Option (List Int × (List (S179)) × (List (S182)) × List Int × Bool):=(impl_isTree.f k l0).bind fun t133=>(if t133=true then ((slices_Clone_int_int.f l0).bind fun t134=>(if 0≤(l0.length:Int) then (if ((l0.length:Int):Int).toNat≤3909374676536 then (some (t134,(List.replicate ((l0.length:Int):Int).toNat z179),([]:List (S182)),([]:List Int),true)) else (none)) else (none))) else (some (([]:List Int),([]:List (S179)),([]:List (S182)),([]:List Int),false)))
theorem impl_NewCustody.mono : ∀ a0 k,LeO (impl_NewCustody.f k a0) (impl_NewCustody.f (k+1) a0):=by
 intro a0 k
 unfold impl_NewCustody.f
 repeat' first
  | (with_reducible exact impl_isTree.mono _ _)
  | (with_reducible exact LeO.refl _)
  | (with_reducible exact LeO.none _)
  | (with_reducible refine LeO.ite ?_ ?_)
  | (with_reducible refine LeO.bind ?_ (fun _ => ?_))
  | exact impl_isTree.mono _ _
  | exact LeO.none _
  | refine LeO.ite ?_ ?_
  | refine LeO.bind ?_ (fun _ => ?_)
def impl_NewCustody.T3:Bool × List (List Nat × List Nat):=(true,[([],[]),([0],[0]),([],[]),([2],[2]),([3,3],[3]),([1,4],[1,4]),([5,1,0,1,2,3,4,5],[5]),([6,0,1,2,3,4,5,6],[])])
def impl_NewCustody.B3:List Nat:=[0,1,0,4,12,31,63,127]
theorem impl_NewCustody.tab3:rtab .any (opsOf Try.f33 3)=impl_NewCustody.T3:=by kernel_rfl
theorem impl_NewCustody.bits3:waitsOk impl_NewCustody.T3.2 impl_NewCustody.B3=true:=by kernel_rfl
set_option maxHeartbeats 8000000 in
set_option maxRecDepth 100000 in
theorem impl_NewCustody.calls (k:Nat) (A0:Option Addr) (c0:Nat) (l0:List Int) (r1:List Int) (r2:List (S179)) (r3:List (S182)) (r4:List Int) (r5:Bool) (w:World) (hr0:Kd.C (Kd.int .i64) w A0 l0.length l0) (hc0:l0.length≤c0) (h:impl_NewCustody.f k l0=some (r1,r2,r3,r4,r5)) :
  Calls Try.prog 33 #[.slice A0 l0.length c0] w fun e w' => ∃ v0_ v1_ v2_ v3_:Value,e=.returned (.tuple #[.agg #[v0_,v1_,v2_,v3_],.bool r5])∧Kd.R (Kd.int .i64) 3 w' w.heap.size (fun k_=>some k_≠(v3_:Value).ownBlock) v0_ r1∧Kd.S k179 179 w' w.heap.size (fun k_=>some k_≠(v0_:Value).ownBlock∧some k_≠(v3_:Value).ownBlock) v1_ r2∧Kd.R k182 182 w' w.heap.size (fun _=>True) v2_ r3∧Kd.R (Kd.int .i64) 3 w' w.heap.size (fun k_=>some k_≠(v0_:Value).ownBlock) v3_ r4∧Below w.heap.size w w':=by
 have hu50:=Try.underlying50
 have HR0:=Aside0.mk hr0
 have HC0:=Aside0.mk hc0
 clear hr0 hc0
 have HB:=Aside0.mk (Below.refl w.heap.size w)
 have H:((impl_isTree.f k l0).bind fun t133=>(if t133=true then ((slices_Clone_int_int.f l0).bind fun t134=>(if 0≤(l0.length:Int) then (if ((l0.length:Int):Int).toNat≤3909374676536 then (some (t134,(List.replicate ((l0.length:Int):Int).toNat z179),([]:List (S182)),([]:List Int),true)) else (none)) else (none))) else (some (([]:List Int),([]:List (S179)),([]:List (S182)),([]:List Int),false))))=some (r1,r2,r3,r4,r5):=h
 clear h
 replace H:=Option.bind_eq_some_iff.mp H
 obtain⟨t133,A20,H⟩:=H
 replace H:(if t133=true then ((slices_Clone_int_int.f l0).bind fun t134=>(if 0≤(l0.length:Int) then (if ((l0.length:Int):Int).toNat≤3909374676536 then (some (t134,(List.replicate ((l0.length:Int):Int).toNat z179),([]:List (S182)),([]:List Int),true)) else (none)) else (none))) else (some (([]:List Int),([]:List (S179)),([]:List (S182)),([]:List Int),false)))=some (r1,r2,r3,r4,r5):=H
 have A2:=Aside0.mk A20
 clear A20
 by_cases c3:t133=true
 ·subst c3
  have H1:((slices_Clone_int_int.f l0).bind fun t134=>(if 0≤(l0.length:Int) then (if ((l0.length:Int):Int).toNat≤3909374676536 then (some (t134,(List.replicate ((l0.length:Int):Int).toNat z179),([]:List (S182)),([]:List Int),true)) else (none)) else (none)))=some (r1,r2,r3,r4,r5):=by rw[if_pos rfl] at H;exact H
  clear H
  have H:=H1
  clear H1
  replace H:=Option.bind_eq_some_iff.mp H
  obtain⟨t134,A40,H⟩:=H
  replace H:(if 0≤(l0.length:Int) then (if ((l0.length:Int):Int).toNat≤3909374676536 then (some (t134,(List.replicate ((l0.length:Int):Int).toNat z179),([]:List (S182)),([]:List Int),true)) else (none)) else (none))=some (r1,r2,r3,r4,r5):=H
  have A4:=Aside0.mk A40
  clear A40
  by_cases c5:0≤(l0.length:Int)
  ·rw[if_pos c5] at H
   have c5b0:=eq_true c5
   have c5b1:decide (0≤(l0.length:Int))=true:=decide_eq_true c5
   clear c5
   by_cases c6:((l0.length:Int):Int).toNat≤3909374676536
   ·rw[if_pos c6] at H
    have c6b0:=eq_true c6
    have c6b1:decide (((l0.length:Int):Int).toNat≤3909374676536)=true:=decide_eq_true c6
    clear c6
    obtain⟨y137,hy137⟩ : ∃ y_:List (S179),y_=(List.replicate ((l0.length:Int):Int).toNat z179):=⟨_,rfl⟩
    replace H:(some (t134,y137,([]:List (S182)),([]:List Int),true))=some (r1,r2,r3,r4,r5):=by first|(rw[hy137];with_reducible exact H)|(have H2_:=(Option.bind_some _ _).symm.trans H;rw[hy137];with_reducible exact H2_)|(have H2_:=(Option.bind_some _ _).symm.trans H;with_reducible exact H2_)|with_reducible exact H|(rw[hy137];exact H)|exact H
    have Ny137:=Aside0.mk hy137
    clear hy137
    simp only[Option.some.injEq,Prod.mk.injEq] at H
    obtain⟨rfl,rfl,rfl,rfl,rfl⟩:=H
    go_enter Try.func33,Try.ntmps33
    try go_wp2_with (first|((with_reducible refine gate_dst (N:=2) rfl ?_);refine box_event ?hg (N:=2) ?hd (cs:=#[.slice none 0 0,.slice none 0 0,.slice none 0 0,.slice none 0 0]) (t:=50) ?hr ?_;(case hd=>rfl);(case hg=>rfl);(case hr=>first|(go_simp;done)|(go_simp;rfl));intro gb132 hg w7 hbox hb;have n0_:=Aside0.mk (below_step (bB) hb);have n1_:=Aside0.mk (hbox);have n2_:=Aside0.mk ((bG:w.heap.size≤gb132));have n3_:=Aside0.mk ((bG:w.heap.size≤gb132));clear HB;have HB:=n0_;have BK132:=n1_;have GW132:=n2_;have GE132:=n3_;clear n0_ n1_ n2_ n3_;clear hb hbox hg)|((with_reducible refine gate_callee (f:=97) rfl ?_);refine goesA (some 5) rfl rfl Try.func97 #[.slice A0 l0.length c0] rfl ?_;(with_reducible refine(impl_isTree.calls k _ _ l0 true _ ?side1 ?side2 A2.out).mono ?_);(case side1=>exact bC HR0.out);(case side2=>exact HC0.out);rintro e w' ⟨rfl,⟨nd,rfl⟩⟩;refine⟨_,rfl,?_⟩;(try (rw[drewN_self w7];generalize hq_:World.drewN w7 _=w7;have n0_:Aside0 (w7.heap[gb132]?=some (.cells #[.slice none 0 0,.slice none 0 0,.slice none 0 0,.slice none 0 0] 50 (0,0))):=⟨by rw[← hq_];exact(bL BK132.out)⟩;have n1_:Aside0 (Below w.heap.size w w7):=⟨by rw[← hq_];exact(bS GE132.out)⟩;clear BK132 HB hq_;have BK132:=n0_;have HB:=n1_;clear n0_ n1_))))
    (try (rw[drewN_self w7];generalize hq_:World.drewN w7 _=w7;have n0_:=Aside0.mk (blk_at hq_ BK132.out);have n1_:=Aside0.mk (below_at hq_ HB.out);clear hq_ BK132 HB;have BK132:=n0_;have HB:=n1_;clear n0_ n1_))
    have n0_:=Aside0.mk (blk_drew BK132.out)
    have n1_:=Aside0.mk (below_drew1 HB.out)
    clear BK132 HB
    have BK132:=n0_
    have HB:=n1_
    clear n0_ n1_
    refine start_ (n:=8) (S:=fun w'=>True) (ds:=[]) #[false,false,false,false,false,false,false,false] (b1_) rfl rfl trivial (fun hHeld => ?_);refine with_tabW impl_NewCustody.tab3 impl_NewCustody.bits3 (fun HT_ HW_ => ?_)
    generalize w7.drew=w8 at BK132 HB hHeld ⊢
    refine pure_ (i:=0) (N:=some 8) (v:=?_) (a':=?_) #[true,false,false,false,false,false,false,false] rfl rfl (any_of HT_.out (b1_)) (fun _ _ _ h=>h) (Or.inl ⟨by rfl,?_⟩) ?_ ?_
    rotate_left
    ·intro w'
     go_simp
     with_reducible rfl
    rotate_left
    ·simp only[Act.put,List.setIfInBounds_toArray,List.set_cons_zero,List.set_cons_succ,i64_w,i32_w]
     rfl
    refine pure_ (i:=2) (N:=some 10) (v:=?_) (a':=?_) #[true,false,true,false,false,false,false,false] rfl rfl (any_of HT_.out (b1_)) (fun _ _ _ h=>h) (Or.inl ⟨by rfl,?_⟩) ?_ ?_
    rotate_left
    ·intro w'
     go_simp
     with_reducible rfl
    rotate_left
    ·simp only[Act.put,List.setIfInBounds_toArray,List.set_cons_zero,List.set_cons_succ,i64_w,i32_w]
     rfl
    refine pure_ (i:=3) (N:=some 11) (v:=?_) (a':=?_) #[true,false,true,true,false,false,false,false] rfl rfl (any_of HT_.out (b1_)) (fun _ _ _ h=>h) (Or.inl ⟨by rfl,?_⟩) ?_ ?_
    rotate_left
    ·intro w'
     go_simp
     with_reducible rfl
    rotate_left
    ·simp only[Act.put,List.setIfInBounds_toArray,List.set_cons_zero,List.set_cons_succ,i64_w,i32_w]
     rfl
    refine join_ (σ:=Value × Value) 3 #[true,true,true,true,true,false,false,false] (fun s_=>[(9,s_.1),(12,s_.2)]) (fun s_ w'=>(Kd.R (Kd.int .i64) 3 w' w.heap.size (fun _=>True) s_.1 t134)∧(Kd.S k179 179 w' w.heap.size (fun k_=>some k_≠(s_.1:Value).ownBlock) s_.2 y137)∧(w'.heap[gb132]?=some (.cells #[.slice none 0 0,.slice none 0 0,.slice none 0 0,.slice none 0 0] 50 (0,0)))∧(Below w.heap.size w w')) ?_ ?_
    rotate_left
    ·intro hCont
     refine two_ (i:=1) (j:=4) (Ni:=some 9) (Nj:=some 12) #[true,true,true,true,false,false,false,false] #[true,false,true,true,true,false,false,false] rfl rfl rfl rfl (two_of HT_.out (b1_)) (by decide) (by decide) (fun K hK => ?_) (fun K hK => ?_)
     ·skip
      refine goes_ Try.func98 (b1_) rfl #[.slice A0 l0.length c0] (by rfl) rfl rfl (b0_) ?_
      with_reducible refine(slices_Clone_int_int.calls _ _ l0 t134 _ ?side1 ?side2 A4.out).mono ?_
      (case side1=>exact bC HR0.out)
      (case side2=>exact HC0.out)
      rintro e w9 ⟨v135,rfl,ho0,hb⟩
      refine⟨_,rfl,?_⟩
      have n0_:=Aside0.mk (Kd.R_lower ho0 (below_size (bS GE132.out)))
      have n1_:=Aside0.mk (bM BK132.out hb)
      have n2_:=Aside0.mk (below_step (bS GE132.out) hb)
      clear BK132 HB
      have HO136:=n0_
      have BK132:=n1_
      have HB:=n2_
      clear n0_ n1_ n2_
      (try clear hb)
      (try clear hb2)
      (try clear hk)
      (try clear hi)
      (try clear ho0)
      refine hK.out _ _ trivial (fun hHeld => ?_)
      clear hK K
      refine norm_ (a':=?_) ?_ ?_
      rotate_left
      ·show Act.put _ (some 9) _=_
       simp only[Act.put,List.setIfInBounds_toArray,List.set_cons_zero,List.set_cons_succ,i64_w,i32_w]
       rfl
      refine one_ (i:=4) (N:=some 12) #[true,true,true,true,true,false,false,false] rfl rfl (one_of HT_.out (b1_)) (by decide) (fun K hK => ?_)
      refine Kd.S_make_step k179 _ 179 (by rfl) (N:=12) rfl 47 _ _ rfl (l0.length:Int) rfl rfl Try.underlying47 (.agg #[(.slice none 0 0),(.slice none 0 0),(.slice none 0 0)]) 72 info179 rfl (by decide) (by omega) z179 (ok:=fun _=>True) (okp:=fun _=>True) (k179_mkM _ _ _ z179 (Kd.R_nil _ _ _ _ _) (Kd.R_nil _ _ _ _ _) (Kd.R_nil _ _ _ _ _)) (fun _ hk=>hk) trivial (of_decide_eq_true (bD)) (Nat.le_trans (Nat.mul_le_mul_right _ (of_decide_eq_true (bD):(l0.length:Int).toNat≤3909374676536)) (by omega)) (Below.refl _ _) (Nat.le_refl _) ?_
      intro v138 w10 ho11 hb hg_ hnew_
      clear hg_ hnew_
      (first|rw[← Ny137.out] at ho11|(simp only[Int.reduceToNat] at ho11;rw[← Ny137.out] at ho11))
      have n0_:=Aside0.mk (Kd.R_below (bK HO136.out) hb)
      have n1_:=Aside0.mk (Kd.S_lower (Kd.S_new' ho11 (Kd.R_lt (bK HO136.out))) (below_size (bS GE132.out)))
      have n2_:=Aside0.mk (bM BK132.out hb)
      have n3_:=Aside0.mk (below_step (bS GE132.out) hb)
      clear HO136 BK132 HB
      have HO136:=n0_
      have HO139:=n1_
      have BK132:=n2_
      have HB:=n3_
      clear n0_ n1_ n2_ n3_ hb ho11
      obtain⟨Ao12,co12,eo12⟩:=Kd.S_slice HO139.out
      (first|subst eo12|(injection eo12 with f1_ f2_ f3_;have f4_:=f1_.symm;have f5_:=f3_.symm;clear f1_ f2_ f3_;subst f4_;subst f5_))
      obtain⟨Ao13,co13,eo13⟩:=Kd.R_slice HO136.out
      (first|subst eo13|(injection eo13 with f1_ f2_ f3_;have f4_:=f1_.symm;have f5_:=f3_.symm;clear f1_ f2_ f3_;subst f4_;subst f5_))
      refine hK.out _ _ trivial (fun hHeld => ?_)
      clear hK K
      refine norm_ (a':=?_) ?_ ?_
      rotate_left
      ·show Act.put _ (some 12) _=_
       simp only[Act.put,List.setIfInBounds_toArray,List.set_cons_zero,List.set_cons_succ,i64_w,i32_w]
       rfl
      exact norm_ (b3_) (hCont (.slice Ao13 t134.length co13,.slice Ao12 y137.length co12) _ ⟨(bK HO136.out),(by(with_reducible repeat (first|apply Kd.S_alloc|apply Kd.S_drewN|apply Kd.S_drew));exact Kd.S_mono HO139.out (fun _ hk=>hk.2)),(bL BK132.out),(bS GE132.out)⟩)
     ·skip
      refine Kd.S_make_step k179 _ 179 (by rfl) (N:=12) rfl 47 _ _ rfl (l0.length:Int) rfl rfl Try.underlying47 (.agg #[(.slice none 0 0),(.slice none 0 0),(.slice none 0 0)]) 72 info179 rfl (by decide) (by omega) z179 (ok:=fun _=>True) (okp:=fun _=>True) (k179_mkM _ _ _ z179 (Kd.R_nil _ _ _ _ _) (Kd.R_nil _ _ _ _ _) (Kd.R_nil _ _ _ _ _)) (fun _ hk=>hk) trivial (of_decide_eq_true (bD)) (Nat.le_trans (Nat.mul_le_mul_right _ (of_decide_eq_true (bD):(l0.length:Int).toNat≤3909374676536)) (by omega)) (Below.refl _ _) (Nat.le_refl _) ?_
      intro v138 w9 ho10 hb hg_ hnew_
      clear hg_ hnew_
      (first|rw[← Ny137.out] at ho10|(simp only[Int.reduceToNat] at ho10;rw[← Ny137.out] at ho10))
      have n0_:=Aside0.mk (Kd.S_lower ho10 (below_size (bS GE132.out)))
      have n1_:=Aside0.mk (bM BK132.out hb)
      have n2_:=Aside0.mk (below_step (bS GE132.out) hb)
      clear BK132 HB
      have HO139:=n0_
      have BK132:=n1_
      have HB:=n2_
      clear n0_ n1_ n2_ hb ho10
      refine hK.out _ _ trivial (fun hHeld => ?_)
      clear hK K
      refine norm_ (a':=?_) ?_ ?_
      rotate_left
      ·show Act.put _ (some 12) _=_
       simp only[Act.put,List.setIfInBounds_toArray,List.set_cons_zero,List.set_cons_succ,i64_w,i32_w]
       rfl
      refine one_ (i:=1) (N:=some 9) #[true,true,true,true,true,false,false,false] rfl rfl (one_of HT_.out (b1_)) (by decide) (fun K hK => ?_)
      refine goes_ Try.func98 (b1_) rfl #[.slice A0 l0.length c0] (by rfl) rfl rfl (b0_) ?_
      with_reducible refine(slices_Clone_int_int.calls _ _ l0 t134 _ ?side1 ?side2 A4.out).mono ?_
      (case side1=>exact bC HR0.out)
      (case side2=>exact HC0.out)
      rintro e w11 ⟨v135,rfl,ho0,hb⟩
      refine⟨_,rfl,?_⟩
      have n0_:=Aside0.mk (Kd.S_elder' (by(with_reducible repeat (first|apply Kd.S_alloc|apply Kd.S_drewN|apply Kd.S_drew));exact HO139.out) (Kd.R_base ho0) hb)
      have n1_:=Aside0.mk (Kd.R_lower ho0 (below_size (bS GE132.out)))
      have n2_:=Aside0.mk (bM BK132.out hb)
      have n3_:=Aside0.mk (below_step (bS GE132.out) hb)
      clear HO139 BK132 HB
      have HO139:=n0_
      have HO136:=n1_
      have BK132:=n2_
      have HB:=n3_
      clear n0_ n1_ n2_ n3_
      (try clear hb)
      (try clear hb2)
      (try clear hk)
      (try clear hi)
      (try clear ho0)
      obtain⟨Ao12,co12,eo12⟩:=Kd.S_slice HO139.out
      (first|subst eo12|(injection eo12 with f1_ f2_ f3_;have f4_:=f1_.symm;have f5_:=f3_.symm;clear f1_ f2_ f3_;subst f4_;subst f5_))
      obtain⟨Ao13,co13,eo13⟩:=Kd.R_slice HO136.out
      (first|subst eo13|(injection eo13 with f1_ f2_ f3_;have f4_:=f1_.symm;have f5_:=f3_.symm;clear f1_ f2_ f3_;subst f4_;subst f5_))
      refine hK.out _ _ trivial (fun hHeld => ?_)
      clear hK K
      refine norm_ (a':=?_) ?_ ?_
      rotate_left
      ·show Act.put _ (some 9) _=_
       simp only[Act.put,List.setIfInBounds_toArray,List.set_cons_zero,List.set_cons_succ,i64_w,i32_w]
       rfl
      exact norm_ (b3_) (hCont (.slice Ao13 t134.length co13,.slice Ao12 y137.length co12) _ ⟨(bK HO136.out),(by(with_reducible repeat (first|apply Kd.S_alloc|apply Kd.S_drewN|apply Kd.S_drew));exact Kd.S_mono HO139.out (fun _ hk=>hk.2)),(bL BK132.out),(bS GE132.out)⟩)
    rintro⟨v135,v138⟩ w14 ⟨h0_,h1_,h2_,h3_⟩
    have n0_:Aside0 (Kd.R (Kd.int .i64) 3 w14 w.heap.size (fun _=>True) v135 t134):=⟨h0_⟩
    have n1_:Aside0 (Kd.S k179 179 w14 w.heap.size (fun k_=>some k_≠(v135:Value).ownBlock) v138 y137):=⟨h1_⟩
    have n2_:Aside0 (w14.heap[gb132]?=some (.cells #[.slice none 0 0,.slice none 0 0,.slice none 0 0,.slice none 0 0] 50 (0,0))):=⟨h2_⟩
    have n3_:Aside0 (Below w.heap.size w w14):=⟨h3_⟩
    clear BK132 HB h0_ h1_ h2_ h3_
    have HO136:=n0_
    have HO139:=n1_
    have BK132:=n2_
    have HB:=n3_
    clear n0_ n1_ n2_ n3_
    have hHeld:=trivial
    obtain⟨Ao15,co15,eo15⟩:=Kd.S_slice HO139.out
    (first|subst eo15|(injection eo15 with f1_ f2_ f3_;have f4_:=f1_.symm;have f5_:=f3_.symm;clear f1_ f2_ f3_;subst f4_;subst f5_))
    obtain⟨Ao16,co16,eo16⟩:=Kd.R_slice HO136.out
    (first|subst eo16|(injection eo16 with f1_ f2_ f3_;have f4_:=f1_.symm;have f5_:=f3_.symm;clear f1_ f2_ f3_;subst f4_;subst f5_))
    refine norm_ (a':=?_) ?_ ?_
    rotate_left
    ·simp only[putAll,Act.put,List.setIfInBounds_toArray,List.set_cons_zero,List.set_cons_succ]
     rfl
    refine pure_ (i:=5) (N:=some 13) (v:=?_) (a':=?_) #[true,true,true,true,true,true,false,false] rfl rfl (any_of HT_.out (b1_)) (fun _ _ _ h=>h) (Or.inl ⟨by rfl,?_⟩) ?_ ?_
    rotate_left
    ·intro w'
     go_simp
     with_reducible rfl
    rotate_left
    ·simp only[Act.put,List.setIfInBounds_toArray,List.set_cons_zero,List.set_cons_succ,i64_w,i32_w]
     rfl
    refine one_ (i:=6) (N:=none) #[true,true,true,true,true,true,true,false] rfl rfl (one_of HT_.out (b1_)) (by decide) (fun K hK => ?_)
    have hs17:w14.cell? ⟨gb132,0,none⟩=some (.slice none 0 0):=(blk_cell BK132.out 0).trans rfl
    have hfs17:=blk_frozen BK132.out 0
    have hs18:w14.cell? ⟨gb132,1,none⟩=some (.slice none 0 0):=(blk_cell BK132.out 1).trans rfl
    have hfs18:=blk_frozen BK132.out 1
    have hs19:w14.cell? ⟨gb132,2,none⟩=some (.slice none 0 0):=(blk_cell BK132.out 2).trans rfl
    have hfs19:=blk_frozen BK132.out 2
    have hs20:w14.cell? ⟨gb132,3,none⟩=some (.slice none 0 0):=(blk_cell BK132.out 3).trans rfl
    have hfs20:=blk_frozen BK132.out 3
    refine skip_ (w1:=?_) (by rfl) rfl ?_ ?_
    rotate_left
    ·go_simp
     rfl
    refine hK.out _ _ trivial (fun hHeld => ?_)
    clear hK K
    refine pure_ (i:=7) (N:=some 3) (v:=?_) (a':=?_) #[true,true,true,true,true,true,true,true] rfl rfl (any_of HT_.out (b1_)) (fun _ _ _ h=>h) (Or.inl ⟨by rfl,?_⟩) ?_ ?_
    rotate_left
    ·intro w'
     go_simp
     with_reducible rfl
    rotate_left
    ·simp only[Act.put,List.setIfInBounds_toArray,List.set_cons_zero,List.set_cons_succ,i64_w,i32_w]
     rfl
    refine done_ (done_of HT_.out (b1_)) ?_
    try go_wp2
    refine bodyPost_ret (results_ct rfl _ _ gb132 50 #[.slice Ao16 t134.length co16,.slice Ao15 y137.length co15,.slice none 0 0,.slice none 0 0] (0,0) _ rfl (by(with_reducible repeat (first|refine blk_drewN ?_ _|refine blk_drew ?_|refine blk_alloc ?_ _));refine blk_put (cs:=#[.slice Ao16 t134.length co16,.slice Ao15 y137.length co15,.slice none 0 0,.slice none 0 0]) ?_ 3 _ rfl;(with_reducible repeat (first|refine blk_drewN ?_ _|refine blk_drew ?_|refine blk_alloc ?_ _));refine blk_put (cs:=#[.slice Ao16 t134.length co16,.slice Ao15 y137.length co15,.slice none 0 0,.slice none 0 0]) ?_ 2 _ rfl;(with_reducible repeat (first|refine blk_drewN ?_ _|refine blk_drew ?_|refine blk_alloc ?_ _));refine blk_put (cs:=#[.slice Ao16 t134.length co16,.slice none 0 0,.slice none 0 0,.slice none 0 0]) ?_ 1 _ rfl;(with_reducible repeat (first|refine blk_drewN ?_ _|refine blk_drew ?_|refine blk_alloc ?_ _));refine blk_put (cs:=#[.slice none 0 0,.slice none 0 0,.slice none 0 0,.slice none 0 0]) ?_ 0 _ rfl;(with_reducible repeat (first|refine blk_drewN ?_ _|refine blk_drew ?_|refine blk_alloc ?_ _));exact BK132.out) Try.underlying50 rfl (b1_)) rfl ?_
    exact⟨_,_,_,_,by first|rfl|(simp[errW_none,errW_some]<;>rfl)|(simp[*,errW_none,errW_some]<;>rfl),by(with_reducible repeat (first|apply Kd.R_alloc|apply Kd.R_drewN|apply Kd.R_drew));exact Kd.R_mono (Kd.R_far (p:=⟨gb132,3,none⟩) (Kd.R_far (p:=⟨gb132,2,none⟩) (Kd.R_far (p:=⟨gb132,1,none⟩) (Kd.R_far (p:=⟨gb132,0,none⟩) (Kd.R_types HO136.out BK132.out (by decide)) (fun _ hk=>hk.2) (.slice Ao16 t134.length co16)) (fun _ hk=>hk.2) (.slice Ao15 y137.length co15)) (fun _ hk=>hk.2) (.slice none 0 0)) (fun _ hk=>hk.2) (.slice none 0 0)) (fun _ hk=>(by simp[Value.ownBlock])),by(with_reducible repeat (first|apply Kd.S_alloc|apply Kd.S_drewN|apply Kd.S_drew));exact Kd.S_mono (Kd.S_far (p:=⟨gb132,3,none⟩) (Kd.S_far (p:=⟨gb132,2,none⟩) (Kd.S_far (p:=⟨gb132,1,none⟩) (Kd.S_far (p:=⟨gb132,0,none⟩) (Kd.S_types HO139.out BK132.out (by decide)) (fun _ hk=>hk.2) (.slice Ao16 t134.length co16)) (fun _ hk=>hk.2) (.slice Ao15 y137.length co15)) (fun _ hk=>hk.2) (.slice none 0 0)) (fun _ hk=>hk.2) (.slice none 0 0)) (fun _ hk=>⟨hk.1,(by simp[Value.ownBlock])⟩),by first|exact Kd.R_nil _ _ _ _ _|exact Kd.N_nil _ _ _ _ _|exact Kd.V_nil _ _ _ _ _|exact Kd.Q_nil _ _ _ _ _|exact Kd.S_nil _ _ _ _ _,by first|exact Kd.R_nil _ _ _ _ _|exact Kd.N_nil _ _ _ _ _|exact Kd.V_nil _ _ _ _ _|exact Kd.Q_nil _ _ _ _ _|exact Kd.S_nil _ _ _ _ _,bS GE132.out⟩
   ·rw[if_neg c6] at H
    exact absurd H (by simp)
  ·rw[if_neg c5] at H
   exact absurd H (by simp)
 ·replace c3:=Bool.eq_false_iff.mpr c3
  subst c3
  have H1:(some (([]:List Int),([]:List (S179)),([]:List (S182)),([]:List Int),false))=some (r1,r2,r3,r4,r5):=by rw[if_neg (show ¬ (false=true) by decide)] at H;exact H
  clear H
  have H:=H1
  clear H1
  simp only[Option.some.injEq,Prod.mk.injEq] at H
  obtain⟨rfl,rfl,rfl,rfl,rfl⟩:=H
  go_enter Try.func33,Try.ntmps33
  go_wp2_with (first|((with_reducible refine gate_dst (N:=2) rfl ?_);refine box_event ?hg (N:=2) ?hd (cs:=#[.slice none 0 0,.slice none 0 0,.slice none 0 0,.slice none 0 0]) (t:=50) ?hr ?_;(case hd=>rfl);(case hg=>rfl);(case hr=>first|(go_simp;done)|(go_simp;rfl));intro gb132 hg w21 hbox hb;have n0_:=Aside0.mk (below_step (bB) hb);have n1_:=Aside0.mk (hbox);have n2_:=Aside0.mk ((bG:w.heap.size≤gb132));have n3_:=Aside0.mk ((bG:w.heap.size≤gb132));clear HB;have HB:=n0_;have BK132:=n1_;have GW132:=n2_;have GE132:=n3_;clear n0_ n1_ n2_ n3_;clear hb hbox hg)|((with_reducible refine gate_callee (f:=97) rfl ?_);refine goesA (some 5) rfl rfl Try.func97 #[.slice A0 l0.length c0] rfl ?_;(with_reducible refine(impl_isTree.calls k _ _ l0 false _ ?side1 ?side2 A2.out).mono ?_);(case side1=>exact bC HR0.out);(case side2=>exact HC0.out);rintro e w' ⟨rfl,⟨nd,rfl⟩⟩;refine⟨_,rfl,?_⟩;(try (rw[drewN_self w21];generalize hq_:World.drewN w21 _=w21;have n0_:Aside0 (w21.heap[gb132]?=some (.cells #[.slice none 0 0,.slice none 0 0,.slice none 0 0,.slice none 0 0] 50 (0,0))):=⟨by rw[← hq_];exact(bL BK132.out)⟩;have n1_:Aside0 (Below w.heap.size w w21):=⟨by rw[← hq_];exact(bS GE132.out)⟩;clear BK132 HB hq_;have BK132:=n0_;have HB:=n1_;clear n0_ n1_));obtain⟨hcz22_0,hcz22_1,hcz22_2,hcz22_3⟩:=cC4 BK132.out;obtain⟨hfz22_0,hfz22_1,hfz22_2,hfz22_3⟩:=cF4 BK132.out))
  refine bodyPost_ret (results_ct rfl _ _ gb132 50 #[.slice none 0 0,.slice none 0 0,.slice none 0 0,.slice none 0 0] (0,0) _ rfl (by(with_reducible repeat (first|refine blk_drewN ?_ _|refine blk_drew ?_|refine blk_alloc ?_ _));refine blk_put (cs:=#[.slice none 0 0,.slice none 0 0,.slice none 0 0,.slice none 0 0]) ?_ 3 _ rfl;(with_reducible repeat (first|refine blk_drewN ?_ _|refine blk_drew ?_|refine blk_alloc ?_ _));refine blk_put (cs:=#[.slice none 0 0,.slice none 0 0,.slice none 0 0,.slice none 0 0]) ?_ 2 _ rfl;(with_reducible repeat (first|refine blk_drewN ?_ _|refine blk_drew ?_|refine blk_alloc ?_ _));refine blk_put (cs:=#[.slice none 0 0,.slice none 0 0,.slice none 0 0,.slice none 0 0]) ?_ 1 _ rfl;(with_reducible repeat (first|refine blk_drewN ?_ _|refine blk_drew ?_|refine blk_alloc ?_ _));refine blk_put (cs:=#[.slice none 0 0,.slice none 0 0,.slice none 0 0,.slice none 0 0]) ?_ 0 _ rfl;(with_reducible repeat (first|refine blk_drewN ?_ _|refine blk_drew ?_|refine blk_alloc ?_ _));exact BK132.out) Try.underlying50 rfl (b1_)) rfl ?_
  exact⟨_,_,_,_,by first|rfl|(simp[errW_none,errW_some]<;>rfl)|(simp[*,errW_none,errW_some]<;>rfl),by first|exact Kd.R_nil _ _ _ _ _|exact Kd.N_nil _ _ _ _ _|exact Kd.V_nil _ _ _ _ _|exact Kd.Q_nil _ _ _ _ _|exact Kd.S_nil _ _ _ _ _,by first|exact Kd.S_nil _ _ _ _ _|exact Kd.N_nil _ _ _ _ _|exact Kd.V_nil _ _ _ _ _|exact Kd.Q_nil _ _ _ _ _|exact Kd.R_nil _ _ _ _ _,by first|exact Kd.R_nil _ _ _ _ _|exact Kd.N_nil _ _ _ _ _|exact Kd.V_nil _ _ _ _ _|exact Kd.Q_nil _ _ _ _ _|exact Kd.S_nil _ _ _ _ _,by first|exact Kd.R_nil _ _ _ _ _|exact Kd.N_nil _ _ _ _ _|exact Kd.V_nil _ _ _ _ _|exact Kd.Q_nil _ _ _ _ _|exact Kd.S_nil _ _ _ _ _,bS GE132.out⟩

/-! ### laws_eqHold: function 186 -/
def laws_eqHold.f (a0_0:Int) (a0_1:Int) (a1_0:Int) (a1_1:Int):Option (Bool):=if a0_0=a1_0 then (if a0_1=a1_1 then (some true) else (some false)) else (some false)
set_option maxHeartbeats 8000000 in
set_option maxRecDepth 100000 in
theorem laws_eqHold.calls (a0_0:Int) (a0_1:Int) (a1_0:Int) (a1_1:Int) (r:Bool) (w:World) (h:laws_eqHold.f a0_0 a0_1 a1_0 a1_1=some r) :
  Calls Try.prog 186 #[.agg #[.int .i64 a0_0,.int .i64 a0_1],.agg #[.int .i64 a1_0,.int .i64 a1_1]] w fun e w'=>e=.returned (.bool r)∧Below w.heap.size w w':=by
 have hu198:=Try.underlying198
 have HB:=Aside0.mk (Below.refl w.heap.size w)
 have H:(if a0_0=a1_0 then (if a0_1=a1_1 then (some true) else (some false)) else (some false))=some r:=h
 clear h
 by_cases c3:a0_0=a1_0
 ·rw[if_pos c3] at H
  have c3b0:(a0_0 == a1_0)=true:=beq_iff_eq.mpr c3
  have c3b1:(a0_0 != a1_0)=false:=bne_eq_false_iff_eq.mpr c3
  clear c3
  by_cases c4:a0_1=a1_1
  ·rw[if_pos c4] at H
   have c4b0:(a0_1 == a1_1)=true:=beq_iff_eq.mpr c4
   have c4b1:(a0_1 != a1_1)=false:=bne_eq_false_iff_eq.mpr c4
   clear c4
   obtain rfl:=Option.some.inj H
   go_enter Try.func186,Try.ntmps186
   go_wp2_with (first|((with_reducible refine gate_dst (N:=2) rfl ?_);refine box_event ?hg (N:=2) ?hd (cs:=#[.int .i64 a0_0,.int .i64 a0_1]) (t:=198) ?hr ?_;(case hd=>rfl);(case hg=>rfl);(case hr=>first|(go_simp;done)|(go_simp;rfl));intro gb140 hg w5 hbox hb;have n0_:=Aside0.mk (below_step (bB) hb);have n1_:=Aside0.mk (hbox);have n2_:=Aside0.mk ((bG:w.heap.size≤gb140));have n3_:=Aside0.mk ((bG:w.heap.size≤gb140));clear HB;have HB:=n0_;have BK140:=n1_;have GW140:=n2_;have GE140:=n3_;clear n0_ n1_ n2_ n3_;clear hb hbox hg)|((with_reducible refine gate_dst (N:=3) rfl ?_);refine box_event ?hg (N:=3) ?hd (cs:=#[.int .i64 a1_0,.int .i64 a1_1]) (t:=198) ?hr ?_;(case hd=>rfl);(case hg=>rfl);(case hr=>first|(go_simp;done)|(go_simp;rfl));intro gb141 hg w6 hbox hb;have n0_:=Aside0.mk (bM BK140.out hb);have n1_:=Aside0.mk (below_step (bS GE140.out) hb);have n2_:=Aside0.mk (hbox);have n3_:=Aside0.mk ((by rw[hg];exact(below_size (bS GE140.out)):w.heap.size≤gb141));have n4_:=Aside0.mk ((by rw[hg];exact(below_size (bS GE140.out)):w.heap.size≤gb141));have n5_:=Aside0.mk ((bN BK140.out hg:gb140≠gb141));have n6_:=Aside0.mk ((bO BK140.out hg:gb141≠gb140));clear BK140 HB;have BK140:=n0_;have HB:=n1_;have BK141:=n2_;have GW141:=n3_;have GE141:=n4_;have NB140_141:=n5_;have NB141_140:=n6_;clear n0_ n1_ n2_ n3_ n4_ n5_ n6_;clear hb hbox hg;have hnb7:=NB140_141.out;have hnc7:=NB141_140.out;obtain⟨hcz8_0,hcz8_1⟩:=cC2 BK140.out;obtain⟨hfz8_0,hfz8_1⟩:=cF2 BK140.out;obtain⟨hcz9_0,hcz9_1⟩:=cC2 BK141.out;obtain⟨hfz9_0,hfz9_1⟩:=cF2 BK141.out))
   go_ret
   exact⟨bE,bS2 GE140.out GE141.out⟩
  ·rw[if_neg c4] at H
   have c4b0:(a0_1 == a1_1)=false:=beq_eq_false_iff_ne.mpr c4
   have c4b1:(a0_1 != a1_1)=true:=bne_iff_ne.mpr c4
   obtain rfl:=Option.some.inj H
   go_enter Try.func186,Try.ntmps186
   go_wp2_with (first|((with_reducible refine gate_dst (N:=2) rfl ?_);refine box_event ?hg (N:=2) ?hd (cs:=#[.int .i64 a0_0,.int .i64 a0_1]) (t:=198) ?hr ?_;(case hd=>rfl);(case hg=>rfl);(case hr=>first|(go_simp;done)|(go_simp;rfl));intro gb140 hg w10 hbox hb;have n0_:=Aside0.mk (below_step (bB) hb);have n1_:=Aside0.mk (hbox);have n2_:=Aside0.mk ((bG:w.heap.size≤gb140));have n3_:=Aside0.mk ((bG:w.heap.size≤gb140));clear HB;have HB:=n0_;have BK140:=n1_;have GW140:=n2_;have GE140:=n3_;clear n0_ n1_ n2_ n3_;clear hb hbox hg)|((with_reducible refine gate_dst (N:=3) rfl ?_);refine box_event ?hg (N:=3) ?hd (cs:=#[.int .i64 a1_0,.int .i64 a1_1]) (t:=198) ?hr ?_;(case hd=>rfl);(case hg=>rfl);(case hr=>first|(go_simp;done)|(go_simp;rfl));intro gb141 hg w11 hbox hb;have n0_:=Aside0.mk (bM BK140.out hb);have n1_:=Aside0.mk (below_step (bS GE140.out) hb);have n2_:=Aside0.mk (hbox);have n3_:=Aside0.mk ((by rw[hg];exact(below_size (bS GE140.out)):w.heap.size≤gb141));have n4_:=Aside0.mk ((by rw[hg];exact(below_size (bS GE140.out)):w.heap.size≤gb141));have n5_:=Aside0.mk ((bN BK140.out hg:gb140≠gb141));have n6_:=Aside0.mk ((bO BK140.out hg:gb141≠gb140));clear BK140 HB;have BK140:=n0_;have HB:=n1_;have BK141:=n2_;have GW141:=n3_;have GE141:=n4_;have NB140_141:=n5_;have NB141_140:=n6_;clear n0_ n1_ n2_ n3_ n4_ n5_ n6_;clear hb hbox hg;have hnb12:=NB140_141.out;have hnc12:=NB141_140.out;obtain⟨hcz13_0,hcz13_1⟩:=cC2 BK140.out;obtain⟨hfz13_0,hfz13_1⟩:=cF2 BK140.out;obtain⟨hcz14_0,hcz14_1⟩:=cC2 BK141.out;obtain⟨hfz14_0,hfz14_1⟩:=cF2 BK141.out))
   go_ret
   exact⟨bE,bS2 GE140.out GE141.out⟩
 ·rw[if_neg c3] at H
  have c3b0:(a0_0 == a1_0)=false:=beq_eq_false_iff_ne.mpr c3
  have c3b1:(a0_0 != a1_0)=true:=bne_iff_ne.mpr c3
  obtain rfl:=Option.some.inj H
  go_enter Try.func186,Try.ntmps186
  go_wp2_with (first|((with_reducible refine gate_dst (N:=2) rfl ?_);refine box_event ?hg (N:=2) ?hd (cs:=#[.int .i64 a0_0,.int .i64 a0_1]) (t:=198) ?hr ?_;(case hd=>rfl);(case hg=>rfl);(case hr=>first|(go_simp;done)|(go_simp;rfl));intro gb140 hg w15 hbox hb;have n0_:=Aside0.mk (below_step (bB) hb);have n1_:=Aside0.mk (hbox);have n2_:=Aside0.mk ((bG:w.heap.size≤gb140));have n3_:=Aside0.mk ((bG:w.heap.size≤gb140));clear HB;have HB:=n0_;have BK140:=n1_;have GW140:=n2_;have GE140:=n3_;clear n0_ n1_ n2_ n3_;clear hb hbox hg)|((with_reducible refine gate_dst (N:=3) rfl ?_);refine box_event ?hg (N:=3) ?hd (cs:=#[.int .i64 a1_0,.int .i64 a1_1]) (t:=198) ?hr ?_;(case hd=>rfl);(case hg=>rfl);(case hr=>first|(go_simp;done)|(go_simp;rfl));intro gb141 hg w16 hbox hb;have n0_:=Aside0.mk (bM BK140.out hb);have n1_:=Aside0.mk (below_step (bS GE140.out) hb);have n2_:=Aside0.mk (hbox);have n3_:=Aside0.mk ((by rw[hg];exact(below_size (bS GE140.out)):w.heap.size≤gb141));have n4_:=Aside0.mk ((by rw[hg];exact(below_size (bS GE140.out)):w.heap.size≤gb141));have n5_:=Aside0.mk ((bN BK140.out hg:gb140≠gb141));have n6_:=Aside0.mk ((bO BK140.out hg:gb141≠gb140));clear BK140 HB;have BK140:=n0_;have HB:=n1_;have BK141:=n2_;have GW141:=n3_;have GE141:=n4_;have NB140_141:=n5_;have NB141_140:=n6_;clear n0_ n1_ n2_ n3_ n4_ n5_ n6_;clear hb hbox hg;have hnb17:=NB140_141.out;have hnc17:=NB141_140.out;obtain⟨hcz18_0,hcz18_1⟩:=cC2 BK140.out;obtain⟨hfz18_0,hfz18_1⟩:=cF2 BK140.out;obtain⟨hcz19_0,hcz19_1⟩:=cC2 BK141.out;obtain⟨hfz19_0,hfz19_1⟩:=cF2 BK141.out))
  go_ret
  exact⟨bE,bS2 GE140.out GE141.out⟩

end Go.Proofs.Yteneeohaoplpbaa.XFnExactNewCustody
