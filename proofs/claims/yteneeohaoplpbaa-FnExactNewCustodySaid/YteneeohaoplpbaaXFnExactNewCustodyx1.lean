-- Written by this session's own program (wip/xprint.py) out of the translation; Lean checks it.
import Derived.Test.YteneeohaoplpbaaXFnExactNewCustodyx0
namespace Go.Proofs.Yteneeohaoplpbaa.XFnExactNewCustody
open Go.RowKit Go.Proofs.YteneeohaoplpbaaW.PrintWords Go.Proofs.YteneeohaoplpbaaW.PrintLast Go.Proofs.YteneeohaoplpbaaW.PrintMore
attribute [local go_sem] max2_int min2_int max_two min_two max_three min_three max_four min_four   -- for this text's walks alone
set_option linter.unusedVariables false
set_option linter.unusedSimpArgs false

/-! ### laws_eqIntS: function 26 -/
def laws_eqIntS.l0:Nat→List Int→List Int→Int→Option (Bool)
 | 0,_,_,_=>none
 | k+1,x0,x1,x5=>if x5 < (x0.length:Int) then (if 0≤x5 then (if x5 < (x1.length:Int) then (if (rd x0 x5)=(rd x1 x5) then (laws_eqIntS.l0 k x0 x1 (wrap64 (x5+1))) else (some false)) else (none)) else (none)) else (some true)
def laws_eqIntS.f (k:Nat) (l0:List Int) (l1:List Int):Option (Bool):=if (l0.length:Int)=(l1.length:Int) then (laws_eqIntS.l0 k l0 l1 0) else (some false)
theorem laws_eqIntS.mono_l : ∀ k,(∀ y0 y1 y2,LeO (laws_eqIntS.l0 k y0 y1 y2) (laws_eqIntS.l0 (k+1) y0 y1 y2))
 | 0=>fun _ _ _ r h=>by simp[laws_eqIntS.l0] at h
 | k+1=>by
  have ih0:=laws_eqIntS.mono_l k
  ·intro y0 y1 y2
   unfold laws_eqIntS.l0
   repeat' first
   | (with_reducible exact ih0 _ _ _)
   | (with_reducible exact LeO.refl _)
   | (with_reducible exact LeO.none _)
   | (with_reducible refine LeO.ite ?_ ?_)
   | (with_reducible refine LeO.bind ?_ (fun _ => ?_))
   | exact ih0 _ _ _
   | exact LeO.none _
   | refine LeO.ite ?_ ?_
   | refine LeO.bind ?_ (fun _ => ?_)
theorem laws_eqIntS.mono : ∀ a0 a1 k,LeO (laws_eqIntS.f k a0 a1) (laws_eqIntS.f (k+1) a0 a1):=by
 intro a0 a1 k
 have ih0:=laws_eqIntS.mono_l k
 unfold laws_eqIntS.f
 repeat' first
  | (with_reducible exact ih0 _ _ _)
  | (with_reducible exact LeO.refl _)
  | (with_reducible exact LeO.none _)
  | (with_reducible refine LeO.ite ?_ ?_)
  | (with_reducible refine LeO.bind ?_ (fun _ => ?_))
  | exact ih0 _ _ _
  | exact LeO.none _
  | refine LeO.ite ?_ ?_
  | refine LeO.bind ?_ (fun _ => ?_)
set_option maxHeartbeats 8000000 in
set_option maxRecDepth 100000 in
theorem laws_eqIntS.calls (k:Nat) (A0:Option Addr) (c0:Nat) (l0:List Int) (A1:Option Addr) (c1:Nat) (l1:List Int) (r:Bool) (w:World) (hr0:Kd.C (Kd.int .i64) w A0 l0.length l0) (hc0:l0.length≤c0) (hr1:Kd.C (Kd.int .i64) w A1 l1.length l1) (hc1:l1.length≤c1) (h:laws_eqIntS.f k l0 l1=some r) :
  Calls Try.prog 26 #[.slice A0 l0.length c0,.slice A1 l1.length c1] w fun e w'=>e=.returned (.bool r)∧Drawn0 w w':=by
 have HR0:=Aside0.mk hr0
 have HC0:=Aside0.mk hc0
 clear hr0 hc0
 have HR1:=Aside0.mk hr1
 have HC1:=Aside0.mk hc1
 clear hr1 hc1
 have H:(if (l0.length:Int)=(l1.length:Int) then (laws_eqIntS.l0 k l0 l1 0) else (some false))=some r:=h
 clear h
 by_cases c3:(l0.length:Int)=(l1.length:Int)
 ·rw[if_pos c3] at H
  have c3b0:((l0.length:Int) == (l1.length:Int))=true:=beq_iff_eq.mpr c3
  have c3b1:((l0.length:Int) != (l1.length:Int))=false:=bne_eq_false_iff_eq.mpr c3
  have c3b2:(l0.length == l1.length)=true:=by first|simpa using c3|(simp at c3 ⊢;omega)
  clear c3
  have H':=Aside0.mk H
  clear H
  go_enter Try.func26,Try.ntmps26
  go_wp2
  repeat (go_quiet (fail);try go_wp2)
  go_loopg [5] k (fun kq v5 w' => ∃ (x5_1:Int),v5=.int .i64 x5_1∧Aside0 (laws_eqIntS.l0 kq l0 l1 x5_1=some r)∧Aside0 (kq≤k)∧Drawn0 w w')
  case atStart=>exact⟨(0),(bR),H',⟨Nat.le_refl _⟩,bW⟩
  case round =>
   clear H'
   try clear c1
   try clear c2
   try clear p2
   try clear c3
   try clear c3b0
   try clear c3b1
   try clear c3b2
   obtain⟨x5_1,rfl,HA,HK1,⟨m1,rfl⟩⟩:=hrel
   cases gk with
   | zero=>exact absurd HA.out (by simp[laws_eqIntS.l0])
   | succ k1 =>
    have H:=HA.out
    clear HA
    simp only[laws_eqIntS.l0] at H
    by_cases c4:x5_1 < (l0.length:Int)
    ·rw[if_pos c4] at H
     have c4b0:decide (x5_1 < (l0.length:Int))=true:=decide_eq_true c4
     clear c4
     by_cases c5:0≤x5_1
     ·rw[if_pos c5] at H
      have c5b0:decide (0≤x5_1)=true:=decide_eq_true c5
      clear c5
      by_cases c6:x5_1 < (l1.length:Int)
      ·rw[if_pos c6] at H
       have c6b0:decide (x5_1 < (l1.length:Int))=true:=decide_eq_true c6
       clear c6
       by_cases c7:(rd l0 x5_1)=(rd l1 x5_1)
       ·rw[if_pos c7] at H
        have c7b0:((rd l0 x5_1) == (rd l1 x5_1))=true:=beq_iff_eq.mpr c7
        have c7b1:((rd l0 x5_1) != (rd l1 x5_1))=false:=bne_eq_false_iff_eq.mpr c7
        clear c7
        have H':=Aside0.mk H
        clear H
        have p101:0≤(x5_1:Int):=of_decide_eq_true (bD)
        have q101:x5_1 < (l0.length:Int):=of_decide_eq_true (bD)
        obtain⟨ad101,e101,hx101_0⟩:=Kd.at_int HR0.out x5_1 p101 q101
        cases e101
        replace p101:=eq_true p101
        replace q101:=eq_true q101
        have p102:0≤(x5_1:Int):=of_decide_eq_true (bD)
        have q102:x5_1 < (l1.length:Int):=of_decide_eq_true (bD)
        obtain⟨ad102,e102,hx102_0⟩:=Kd.at_int HR1.out x5_1 p102 q102
        cases e102
        replace p102:=eq_true p102
        replace q102:=eq_true q102
        go_wp2
        repeat (go_quiet (fail);try go_wp2)
        go_roundg k1
        case measure=>have:=HK1.out;omega
        case rel=>exact⟨(wrap64 (x5_1+1)),(bR),H',⟨by have:=HK1.out;omega⟩,bW⟩
       ·rw[if_neg c7] at H
        have c7b0:((rd l0 x5_1) == (rd l1 x5_1))=false:=beq_eq_false_iff_ne.mpr c7
        have c7b1:((rd l0 x5_1) != (rd l1 x5_1))=true:=bne_iff_ne.mpr c7
        obtain rfl:=Option.some.inj H
        have p101:0≤(x5_1:Int):=of_decide_eq_true (bD)
        have q101:x5_1 < (l0.length:Int):=of_decide_eq_true (bD)
        obtain⟨ad101,e101,hx101_0⟩:=Kd.at_int HR0.out x5_1 p101 q101
        cases e101
        replace p101:=eq_true p101
        replace q101:=eq_true q101
        have p102:0≤(x5_1:Int):=of_decide_eq_true (bD)
        have q102:x5_1 < (l1.length:Int):=of_decide_eq_true (bD)
        obtain⟨ad102,e102,hx102_0⟩:=Kd.at_int HR1.out x5_1 p102 q102
        cases e102
        replace p102:=eq_true p102
        replace q102:=eq_true q102
        go_wp2
        repeat (go_quiet (fail);try go_wp2)
        go_ret
        exact⟨bR,bW⟩
      ·rw[if_neg c6] at H
       exact absurd H (by simp)
     ·rw[if_neg c5] at H
      exact absurd H (by simp)
    ·rw[if_neg c4] at H
     have c4b0:decide (x5_1 < (l0.length:Int))=false:=decide_eq_false c4
     clear c4
     obtain rfl:=Option.some.inj H
     go_wp2
     repeat (go_quiet (fail);try go_wp2)
     go_ret
     exact⟨bR,bW⟩
 ·rw[if_neg c3] at H
  have c3b0:((l0.length:Int) == (l1.length:Int))=false:=beq_eq_false_iff_ne.mpr c3
  have c3b1:((l0.length:Int) != (l1.length:Int))=true:=bne_iff_ne.mpr c3
  have c3b2:(l0.length == l1.length)=false:=by first|simpa using c3|(simp at c3 ⊢;omega)
  obtain rfl:=Option.some.inj H
  go_enter Try.func26,Try.ntmps26
  go_wp2
  repeat (go_quiet (fail);try go_wp2)
  go_ret
  exact⟨bR,bW⟩

/-! ### laws_markIntS: function 29 -/
def laws_markIntS.l0:Nat→List Int→Int→Int→Option (Int × List Int)
 | 0,_,_,_=>none
 | k+1,x0,x1,x5=>if x5 < (x0.length:Int) then (if 0≤x5 then (laws_markIntS.l0 k (x0.set (x5:Int).toNat x1) (wrap64 (x1+1)) (wrap64 (x5+1))) else (none)) else (some (x1,x0))
def laws_markIntS.f (k:Nat) (l0:List Int) (a1:Int):Option (Int × List Int):=laws_markIntS.l0 k l0 a1 0
theorem laws_markIntS.mono_l : ∀ k,(∀ y0 y1 y2,LeO (laws_markIntS.l0 k y0 y1 y2) (laws_markIntS.l0 (k+1) y0 y1 y2))
 | 0=>fun _ _ _ r h=>by simp[laws_markIntS.l0] at h
 | k+1=>by
  have ih0:=laws_markIntS.mono_l k
  ·intro y0 y1 y2
   unfold laws_markIntS.l0
   repeat' first
   | (with_reducible exact ih0 _ _ _)
   | (with_reducible exact LeO.refl _)
   | (with_reducible exact LeO.none _)
   | (with_reducible refine LeO.ite ?_ ?_)
   | (with_reducible refine LeO.bind ?_ (fun _ => ?_))
   | exact ih0 _ _ _
   | exact LeO.none _
   | refine LeO.ite ?_ ?_
   | refine LeO.bind ?_ (fun _ => ?_)
theorem laws_markIntS.mono : ∀ a0 a1 k,LeO (laws_markIntS.f k a0 a1) (laws_markIntS.f (k+1) a0 a1):=by
 intro a0 a1 k
 have ih0:=laws_markIntS.mono_l k
 unfold laws_markIntS.f
 repeat' first
  | (with_reducible exact ih0 _ _ _)
  | (with_reducible exact LeO.refl _)
  | (with_reducible exact LeO.none _)
  | (with_reducible refine LeO.ite ?_ ?_)
  | (with_reducible refine LeO.bind ?_ (fun _ => ?_))
  | exact ih0 _ _ _
  | exact LeO.none _
  | refine LeO.ite ?_ ?_
  | refine LeO.bind ?_ (fun _ => ?_)
set_option maxHeartbeats 8000000 in
set_option maxRecDepth 100000 in
theorem laws_markIntS.calls (k:Nat) (P0_:Nat→Prop) (u9000_:Value) (l0:List Int) (a1:Int) (r1:Int) (r2:List Int) (w0 w:World) (hB:Below w0.heap.size w0 w) (ho0:Kd.R (Kd.int .i64) 3 w w0.heap.size P0_ u9000_ l0) (h:laws_markIntS.f k l0 a1=some (r1,r2)) :
  Calls Try.prog 29 #[u9000_,.int .i64 a1] w fun e w'=>e=.returned (.int .i64 r1)∧Kd.R (Kd.int .i64) 3 w' w0.heap.size (fun k_=>(P0_ k_∨w.heap.size≤k_)) u9000_ r2∧Below w0.heap.size w0 w'∧Kept w w' (fun k_=>P0_ k_):=by
 have HO0:=Aside0.mk (show Kd.R (Kd.int .i64) 3 w w0.heap.size (fun k_=>(P0_ k_∨w.heap.size≤k_)) u9000_ l0 from Kd.R_mono ho0 (fun k_ hk=>(.inl hk)))
 have HK:=Aside0.mk (Kept.refl w (fun k_=>P0_ k_))
 have HW0:=Aside0.mk hB.size
 have HB:=Aside0.mk hB
 clear hB
 have H:(laws_markIntS.l0 k l0 a1 0)=some (r1,r2):=h
 clear h
 have H':=Aside0.mk H
 clear H
 go_enter Try.func29,Try.ntmps29
 go_wp2
 go_loopg [1,5] k (fun kq v1 v5 w' => ∃ (x0_1:List Int) (x1_1:Int) (x5_1:Int),v1=.int .i64 x1_1∧v5=.int .i64 x5_1∧Aside0 (laws_markIntS.l0 kq x0_1 x1_1 x5_1=some (r1,r2))∧Aside0 (kq≤k)∧Aside0 (Kd.R (Kd.int .i64) 3 w' w0.heap.size (fun k_=>(P0_ k_∨w.heap.size≤k_)) u9000_ x0_1)∧Aside0 (Kept w w' (fun k_=>P0_ k_))∧Aside0 (Below w0.heap.size w0 w'))
 case atStart=>exact⟨(l0),(a1),(0),(bR),(bR),H',⟨Nat.le_refl _⟩,⟨by(with_reducible repeat (first|apply Kd.R_alloc|apply Kd.R_drewN|apply Kd.R_drew));exact HO0.out⟩,⟨by repeat (first|(with_reducible first|exact HK.out|apply Kept.alloc|apply Kept.drewN|apply Kept.drew)|exact HK.out)⟩,⟨by repeat (first|(with_reducible first|exact HB.out|apply below_alloc|apply pw_below_drewN|apply below_drew1)|exact HB.out)⟩⟩
 case round =>
  clear H'
  try clear c2
  try clear p2
  obtain⟨x0_1,x1_1,x5_1,rfl,rfl,HA,HK1,HO_0,HK,HB⟩:=hrel
  cases gk with
  | zero=>exact absurd HA.out (by simp[laws_markIntS.l0])
  | succ k1 =>
   have H:=HA.out
   clear HA
   simp only[laws_markIntS.l0] at H
   by_cases c3:x5_1 < (x0_1.length:Int)
   ·rw[if_pos c3] at H
    have c3b0:decide (x5_1 < (x0_1.length:Int))=true:=decide_eq_true c3
    clear c3
    by_cases c4:0≤x5_1
    ·rw[if_pos c4] at H
     have c4b0:decide (0≤x5_1)=true:=decide_eq_true c4
     clear c4
     obtain⟨y103,hy103⟩ : ∃ y_:List Int,y_=(x0_1.set (x5_1:Int).toNat x1_1):=⟨_,rfl⟩
     replace H:(laws_markIntS.l0 k1 y103 (wrap64 (x1_1+1)) (wrap64 (x5_1+1)))=some (r1,r2):=by first|(rw[hy103];with_reducible exact H)|(have H2_:=(Option.bind_some _ _).symm.trans H;rw[hy103];with_reducible exact H2_)|(have H2_:=(Option.bind_some _ _).symm.trans H;with_reducible exact H2_)|with_reducible exact H|(rw[hy103];exact H)|exact H
     have Ny103:=Aside0.mk hy103
     clear hy103
     have H':=Aside0.mk H
     clear H
     obtain⟨Ao6,co6,eo6⟩:=Kd.R_slice HO_0.out
     subst eo6
     have p5:0≤(x5_1:Int):=of_decide_eq_true (bD)
     have q5:(x5_1:Int) < ((x0_1.length:Int):Int):=of_decide_eq_true (bD)
     obtain⟨go5,co5,eo5,gb5,gl5,cl5,HG5⟩:=Kd.R_form HO_0.out (by omega)
     (first|cases eo5|(injection eo5 with ea_ en_ ec_;(first|subst ea_|(injection ea_ with ea_;subst ea_));subst ec_;clear en_))
     have GB5:=Aside0.mk gb5
     have GG5:=Aside0.mk HG5
     clear gb5 gl5 HG5
     have HMgo5:=Aside0.mk (show(P0_ go5∨w.heap.size≤go5) from (HO_0.out.1 _ rfl))
     obtain⟨hx5_0,hf5_0⟩:=Kd.R_celln 0 HO_0.out (x5_1:Int) p5 q5
     replace p5:=eq_true p5
     replace q5:=eq_true q5
     have HP7:=Kd.R_putg HO_0.out (x5_1:Int) x1_1
     go_wp2_with (first|((with_reducible refine gate_store (t:=3) (p:=15) rfl ?_);refine store_event (t:=3) (p:=15) (v:=?vo_w8) (w1:=(wr.setCell ⟨go5,(x5_1:Int).toNat,none⟩ (.int .i64 x1_1))) ?hg ?ho ?hn ?hr ?_;(case ho=>rfl);(case hg=>rfl);(case hn=>rfl);(case hr=>first|(go_simp;done)|(go_simp;rfl));intro w8 hw;have hg:wr.grownBy w8 (some go5):=(by rw[hw];exact HP7.2);have hp_:Kd.R (Kd.int .i64) 3 w8 w0.heap.size (fun k_=>(P0_ k_∨w.heap.size≤k_)) (.slice (some ⟨go5,0,none⟩) x0_1.length co6) y103:=(by rw[hw,Ny103.out];exact HP7.1);clear HP7;have n0_:=Aside0.mk (hp_);have n1_:=Aside0.mk ((by rw[hw];exact below_set (HB.out) GB5.out:Below w0.heap.size w0 w8));have n2_:=Aside0.mk (Kept.of_grown (S:=(fun k_=>P0_ k_)) hg (b2_) (fun k_ e_=>(HO_0.out.1 k_ e_)));clear HO_0 HB HK;have HO_0:=n0_;have HB:=n1_;have HK:=n2_;clear n0_ n1_ n2_;clear hg hw hp_))
     go_roundg k1
     case measure=>have:=HK1.out;omega
     case rel=>exact⟨(y103),(wrap64 (x1_1+1)),(wrap64 (x5_1+1)),(bR),(bR),H',⟨by have:=HK1.out;omega⟩,⟨by(with_reducible repeat (first|apply Kd.R_alloc|apply Kd.R_drewN|apply Kd.R_drew));exact HO_0.out⟩,⟨by repeat (first|(with_reducible first|exact HK.out|apply Kept.alloc|apply Kept.drewN|apply Kept.drew)|exact HK.out)⟩,⟨by repeat (first|(with_reducible first|exact HB.out|apply below_alloc|apply pw_below_drewN|apply below_drew1)|exact HB.out)⟩⟩
    ·rw[if_neg c4] at H
     exact absurd H (by simp)
   ·rw[if_neg c3] at H
    have c3b0:decide (x5_1 < (x0_1.length:Int))=false:=decide_eq_false c3
    clear c3
    simp only[Option.some.injEq,Prod.mk.injEq] at H
    obtain⟨rfl,rfl⟩:=H
    obtain⟨Ao9,co9,eo9⟩:=Kd.R_slice HO_0.out
    subst eo9
    go_wp2
    go_ret
    exact⟨bE,by(with_reducible repeat (first|apply Kd.R_alloc|apply Kd.R_drewN|apply Kd.R_drew));exact HO_0.out,b8_,by repeat (first|(with_reducible first|exact HK.out|apply Kept.alloc|apply Kept.drewN|apply Kept.drew)|exact HK.out)⟩

/-! ### spec_l1In: function 75 -/
def spec_l1In.f (a0:Int) (a1:Int) (a2:Int):Option (Bool):=if a0 ≥ a1 then (some (decide (a0≤a2))) else (some false)
set_option maxHeartbeats 8000000 in
set_option maxRecDepth 100000 in
theorem spec_l1In.calls (a0:Int) (a1:Int) (a2:Int) (r:Bool) (w:World) (h:spec_l1In.f a0 a1 a2=some r) :
  Calls Try.prog 75 #[.int .i64 a0,.int .i64 a1,.int .i64 a2] w fun e w'=>e=.returned (.bool r)∧Drawn0 w w':=by
 have H:(if a0 ≥ a1 then (some (decide (a0≤a2))) else (some false))=some r:=h
 clear h
 by_cases c4:a0 ≥ a1
 ·rw[if_pos c4] at H
  have c4b0:decide (a1≤a0)=true:=decide_eq_true c4
  clear c4
  obtain rfl:=Option.some.inj H
  go_enter Try.func75,Try.ntmps75
  go_wp2
  go_ret
  exact⟨bR,bW⟩
 ·rw[if_neg c4] at H
  have c4b0:decide (a1≤a0)=false:=decide_eq_false c4
  clear c4
  obtain rfl:=Option.some.inj H
  go_enter Try.func75,Try.ntmps75
  go_wp2
  go_ret
  exact⟨bR,bW⟩

/-! ### spec_l16Tree: function 96 -/
def spec_l16Tree.l0:Nat→List Int→List Int→Int→Int→Option (Bool)
 | 0,_,_,_,_=>none
 | k+1,x0,x5,x6,x7=>if x7 < x6 then (if 0≤x7 then (if x7 < (x5.length:Int) then (if ((x7 == 0) != ((rd x5 x7) == (-1)))=true then (some false) else (if (rd x5 x7) < (-1) then (some false) else (if (rd x5 x7) ≥ x7 then (some false) else (spec_l16Tree.l0 k x0 x5 x6 (wrap64 (x7+1)))))) else (none)) else (none)) else ((spec_l1In.f (x0.length:Int) 1 8).bind fun t105=>(some t105))
def spec_l16Tree.f (k:Nat) (l0:List Int):Option (Bool):=spec_l16Tree.l0 k l0 l0 (l0.length:Int) 0
theorem spec_l16Tree.mono_l : ∀ k,(∀ y0 y1 y2 y3,LeO (spec_l16Tree.l0 k y0 y1 y2 y3) (spec_l16Tree.l0 (k+1) y0 y1 y2 y3))
 | 0=>fun _ _ _ _ r h=>by simp[spec_l16Tree.l0] at h
 | k+1=>by
  have ih0:=spec_l16Tree.mono_l k
  ·intro y0 y1 y2 y3
   unfold spec_l16Tree.l0
   repeat' first
   | (with_reducible exact ih0 _ _ _ _)
   | (with_reducible exact LeO.refl _)
   | (with_reducible exact LeO.none _)
   | (with_reducible refine LeO.ite ?_ ?_)
   | (with_reducible refine LeO.bind ?_ (fun _ => ?_))
   | exact ih0 _ _ _ _
   | exact LeO.none _
   | refine LeO.ite ?_ ?_
   | refine LeO.bind ?_ (fun _ => ?_)
theorem spec_l16Tree.mono : ∀ a0 k,LeO (spec_l16Tree.f k a0) (spec_l16Tree.f (k+1) a0):=by
 intro a0 k
 have ih0:=spec_l16Tree.mono_l k
 unfold spec_l16Tree.f
 repeat' first
  | (with_reducible exact ih0 _ _ _ _)
  | (with_reducible exact LeO.refl _)
  | (with_reducible exact LeO.none _)
  | (with_reducible refine LeO.ite ?_ ?_)
  | (with_reducible refine LeO.bind ?_ (fun _ => ?_))
  | exact ih0 _ _ _ _
  | exact LeO.none _
  | refine LeO.ite ?_ ?_
  | refine LeO.bind ?_ (fun _ => ?_)
set_option maxHeartbeats 8000000 in
set_option maxRecDepth 100000 in
theorem spec_l16Tree.calls (k:Nat) (A0:Option Addr) (c0:Nat) (l0:List Int) (r:Bool) (w:World) (hr0:Kd.C (Kd.int .i64) w A0 l0.length l0) (hc0:l0.length≤c0) (h:spec_l16Tree.f k l0=some r) :
  Calls Try.prog 96 #[.slice A0 l0.length c0] w fun e w'=>e=.returned (.bool r)∧Drawn0 w w':=by
 have HR0:=Aside0.mk hr0
 have HC0:=Aside0.mk hc0
 clear hr0 hc0
 have H:(spec_l16Tree.l0 k l0 l0 (l0.length:Int) 0)=some r:=h
 clear h
 have H':=Aside0.mk H
 clear H
 go_enter Try.func96,Try.ntmps96
 go_wp2
 go_loopg [7] k (fun kq v7 w' => ∃ (x7_1:Int),v7=.int .i64 x7_1∧Aside0 (spec_l16Tree.l0 kq l0 l0 (l0.length:Int) x7_1=some r)∧Aside0 (kq≤k)∧Drawn0 w w')
 case atStart=>exact⟨(0),(bR),H',⟨Nat.le_refl _⟩,bW⟩
 case round =>
  clear H'
  obtain⟨x7_1,rfl,HA,HK1,⟨m1,rfl⟩⟩:=hrel
  cases gk with
  | zero=>exact absurd HA.out (by simp[spec_l16Tree.l0])
  | succ k1 =>
   have H:=HA.out
   clear HA
   simp only[spec_l16Tree.l0] at H
   by_cases c2:x7_1 < (l0.length:Int)
   ·rw[if_pos c2] at H
    have c2b0:decide (x7_1 < (l0.length:Int))=true:=decide_eq_true c2
    clear c2
    by_cases c3:0≤x7_1
    ·rw[if_pos c3] at H
     have c3b0:decide (0≤x7_1)=true:=decide_eq_true c3
     clear c3
     by_cases c4:x7_1 < (l0.length:Int)
     ·rw[if_pos c4] at H
      have c4b0:decide (x7_1 < (l0.length:Int))=true:=decide_eq_true c4
      clear c4
      by_cases c5:((x7_1 == 0) != ((rd l0 x7_1) == (-1)))=true
      ·rw[if_pos c5] at H
       have c5b0:((x7_1 == 0) != ((rd l0 x7_1) == (-1)))=true:=c5
       (try (have c5b1:decide ((x7_1 == 0)=((rd l0 x7_1) == (-1)))=false:=by simpa using c5))
       (try (have c5b2:((x7_1 == 0) == ((rd l0 x7_1) == (-1)))=false:=by simpa using c5))
       (try (have c5b3 : ¬ ((x7_1 == 0)=((rd l0 x7_1) == (-1))):=by simpa using c5))
       clear c5
       obtain rfl:=Option.some.inj H
       have p104:0≤(x7_1:Int):=of_decide_eq_true (bD)
       have q104:x7_1 < (l0.length:Int):=of_decide_eq_true (bD)
       obtain⟨ad104,e104,hx104_0⟩:=Kd.at_int HR0.out x7_1 p104 q104
       cases e104
       replace p104:=eq_true p104
       replace q104:=eq_true q104
       go_wp2
       go_ret
       exact⟨bR,bW⟩
      ·rw[if_neg c5] at H
       have c5b0:((x7_1 == 0) != ((rd l0 x7_1) == (-1)))=false:=by simpa using c5
       (try (have c5b1:decide ((x7_1 == 0)=((rd l0 x7_1) == (-1)))=true:=by simpa using c5))
       (try (have c5b2:((x7_1 == 0) == ((rd l0 x7_1) == (-1)))=true:=by simpa using c5))
       clear c5
       by_cases c6:(rd l0 x7_1) < (-1)
       ·rw[if_pos c6] at H
        have c6b0:decide ((rd l0 x7_1) < (-1))=true:=decide_eq_true c6
        clear c6
        obtain rfl:=Option.some.inj H
        have p104:0≤(x7_1:Int):=of_decide_eq_true (bD)
        have q104:x7_1 < (l0.length:Int):=of_decide_eq_true (bD)
        obtain⟨ad104,e104,hx104_0⟩:=Kd.at_int HR0.out x7_1 p104 q104
        cases e104
        replace p104:=eq_true p104
        replace q104:=eq_true q104
        go_wp2
        go_ret
        exact⟨bR,bW⟩
       ·rw[if_neg c6] at H
        have c6b0:decide ((rd l0 x7_1) < (-1))=false:=decide_eq_false c6
        clear c6
        by_cases c7:(rd l0 x7_1) ≥ x7_1
        ·rw[if_pos c7] at H
         have c7b0:decide (x7_1≤(rd l0 x7_1))=true:=decide_eq_true c7
         clear c7
         obtain rfl:=Option.some.inj H
         have p104:0≤(x7_1:Int):=of_decide_eq_true (bD)
         have q104:x7_1 < (l0.length:Int):=of_decide_eq_true (bD)
         obtain⟨ad104,e104,hx104_0⟩:=Kd.at_int HR0.out x7_1 p104 q104
         cases e104
         replace p104:=eq_true p104
         replace q104:=eq_true q104
         go_wp2
         go_ret
         exact⟨bR,bW⟩
        ·rw[if_neg c7] at H
         have c7b0:decide (x7_1≤(rd l0 x7_1))=false:=decide_eq_false c7
         clear c7
         have H':=Aside0.mk H
         clear H
         have p104:0≤(x7_1:Int):=of_decide_eq_true (bD)
         have q104:x7_1 < (l0.length:Int):=of_decide_eq_true (bD)
         obtain⟨ad104,e104,hx104_0⟩:=Kd.at_int HR0.out x7_1 p104 q104
         cases e104
         replace p104:=eq_true p104
         replace q104:=eq_true q104
         go_wp2
         go_roundg k1
         case measure=>have:=HK1.out;omega
         case rel=>exact⟨(wrap64 (x7_1+1)),(bR),H',⟨by have:=HK1.out;omega⟩,bW⟩
     ·rw[if_neg c4] at H
      exact absurd H (by simp)
    ·rw[if_neg c3] at H
     exact absurd H (by simp)
   ·rw[if_neg c2] at H
    have c2b0:decide (x7_1 < (l0.length:Int))=false:=decide_eq_false c2
    clear c2
    replace H:=Option.bind_eq_some_iff.mp H
    obtain⟨t105,A80,H⟩:=H
    have A8:=Aside0.mk A80
    clear A80
    obtain rfl:=Option.some.inj H
    go_wp2_with (first|((with_reducible refine gate_callee (f:=75) rfl ?_);refine goesA (some 29) rfl rfl Try.func75 #[.int .i64 (l0.length:Int),.int .i64 1,.int .i64 8] rfl ?_;(with_reducible refine(spec_l1In.calls (l0.length:Int) 1 8 t105 _ A8.out).mono ?_);rintro e w' ⟨rfl,⟨nd,rfl⟩⟩;refine⟨_,rfl,?_⟩))
    go_ret
    exact⟨bR,bW⟩

/-! ### spec_NewCustody: function 31 -/
def spec_NewCustody.f (k:Nat) (l0:List Int):Option (List Int × (List (S179)) × (List (S182)) × List Int × Bool):=(spec_l16Tree.f k l0).bind fun t107=>(if t107=true then ((some (([]:List Int):List Int)).bind fun y108=>(if y108.length+l0.length < 17592186044416 then (if 0≤(l0.length:Int) then (if ((l0.length:Int):Int).toNat≤3909374676536 then (some ((y108++l0),(List.replicate ((l0.length:Int):Int).toNat z179),([]:List (S182)),([]:List Int),true)) else (none)) else (none)) else (none))) else (some (([]:List Int),([]:List (S179)),([]:List (S182)),([]:List Int),false)))
theorem spec_NewCustody.mono : ∀ a0 k,LeO (spec_NewCustody.f k a0) (spec_NewCustody.f (k+1) a0):=by
 intro a0 k
 unfold spec_NewCustody.f
 repeat' first
  | (with_reducible exact spec_l16Tree.mono _ _)
  | (with_reducible exact LeO.refl _)
  | (with_reducible exact LeO.none _)
  | (with_reducible refine LeO.ite ?_ ?_)
  | (with_reducible refine LeO.bind ?_ (fun _ => ?_))
  | exact spec_l16Tree.mono _ _
  | exact LeO.none _
  | refine LeO.ite ?_ ?_
  | refine LeO.bind ?_ (fun _ => ?_)
def spec_NewCustody.T3:Bool × List (List Nat × List Nat):=(true,[([],[]),([],[]),([0,1],[0,1]),([],[]),([3],[3]),([4,4],[4]),([2,5],[2,5]),([6,2,0,1,2,3,4,5,6],[6]),([7,0,1,2,3,4,5,6,7],[])])
def spec_NewCustody.B3:List Nat:=[0,0,3,0,8,24,63,127,255]
theorem spec_NewCustody.tab3:rtab .any (opsOf Try.f31 3)=spec_NewCustody.T3:=by kernel_rfl
theorem spec_NewCustody.bits3:waitsOk spec_NewCustody.T3.2 spec_NewCustody.B3=true:=by kernel_rfl
set_option maxHeartbeats 8000000 in
set_option maxRecDepth 100000 in
theorem spec_NewCustody.calls (k:Nat) (A0:Option Addr) (c0:Nat) (l0:List Int) (r1:List Int) (r2:List (S179)) (r3:List (S182)) (r4:List Int) (r5:Bool) (w:World) (hr0:Kd.C (Kd.int .i64) w A0 l0.length l0) (hc0:l0.length≤c0) (h:spec_NewCustody.f k l0=some (r1,r2,r3,r4,r5)) :
  Calls Try.prog 31 #[.slice A0 l0.length c0] w fun e w' => ∃ v0_ v1_ v2_ v3_:Value,e=.returned (.tuple #[.agg #[v0_,v1_,v2_,v3_],.bool r5])∧Kd.R (Kd.int .i64) 3 w' w.heap.size (fun k_=>some k_≠(v3_:Value).ownBlock) v0_ r1∧Kd.S k179 179 w' w.heap.size (fun k_=>some k_≠(v0_:Value).ownBlock∧some k_≠(v3_:Value).ownBlock) v1_ r2∧Kd.R k182 182 w' w.heap.size (fun _=>True) v2_ r3∧Kd.R (Kd.int .i64) 3 w' w.heap.size (fun k_=>some k_≠(v0_:Value).ownBlock) v3_ r4∧Below w.heap.size w w':=by
 have hu50:=Try.underlying50
 have HR0:=Aside0.mk hr0
 have HC0:=Aside0.mk hc0
 clear hr0 hc0
 have HB:=Aside0.mk (Below.refl w.heap.size w)
 have H:((spec_l16Tree.f k l0).bind fun t107=>(if t107=true then ((some (([]:List Int):List Int)).bind fun y108=>(if y108.length+l0.length < 17592186044416 then (if 0≤(l0.length:Int) then (if ((l0.length:Int):Int).toNat≤3909374676536 then (some ((y108++l0),(List.replicate ((l0.length:Int):Int).toNat z179),([]:List (S182)),([]:List Int),true)) else (none)) else (none)) else (none))) else (some (([]:List Int),([]:List (S179)),([]:List (S182)),([]:List Int),false))))=some (r1,r2,r3,r4,r5):=h
 clear h
 replace H:=Option.bind_eq_some_iff.mp H
 obtain⟨t107,A20,H⟩:=H
 replace H:(if t107=true then ((some (([]:List Int):List Int)).bind fun y108=>(if y108.length+l0.length < 17592186044416 then (if 0≤(l0.length:Int) then (if ((l0.length:Int):Int).toNat≤3909374676536 then (some ((y108++l0),(List.replicate ((l0.length:Int):Int).toNat z179),([]:List (S182)),([]:List Int),true)) else (none)) else (none)) else (none))) else (some (([]:List Int),([]:List (S179)),([]:List (S182)),([]:List Int),false)))=some (r1,r2,r3,r4,r5):=H
 have A2:=Aside0.mk A20
 clear A20
 by_cases c3:t107=true
 ·subst c3
  have H1:((some (([]:List Int):List Int)).bind fun y108=>(if y108.length+l0.length < 17592186044416 then (if 0≤(l0.length:Int) then (if ((l0.length:Int):Int).toNat≤3909374676536 then (some ((y108++l0),(List.replicate ((l0.length:Int):Int).toNat z179),([]:List (S182)),([]:List Int),true)) else (none)) else (none)) else (none)))=some (r1,r2,r3,r4,r5):=by rw[if_pos rfl] at H;exact H
  clear H
  have H:=H1
  clear H1
  obtain⟨y108,hy108⟩ : ∃ y_:List Int,y_=(([]:List Int)):=⟨_,rfl⟩
  replace H:(if y108.length+l0.length < 17592186044416 then (if 0≤(l0.length:Int) then (if ((l0.length:Int):Int).toNat≤3909374676536 then (some ((y108++l0),(List.replicate ((l0.length:Int):Int).toNat z179),([]:List (S182)),([]:List Int),true)) else (none)) else (none)) else (none))=some (r1,r2,r3,r4,r5):=by first|(rw[hy108];with_reducible exact H)|(have H2_:=(Option.bind_some _ _).symm.trans H;rw[hy108];with_reducible exact H2_)|(have H2_:=(Option.bind_some _ _).symm.trans H;with_reducible exact H2_)|with_reducible exact H|(rw[hy108];exact H)|exact H
  have Ny108:=Aside0.mk hy108
  clear hy108
  by_cases c4:y108.length+l0.length < 17592186044416
  ·rw[if_pos c4] at H
   have LMc4:=Aside0.mk c4
   clear c4
   obtain⟨y111,hy111⟩ : ∃ y_:List Int,y_=(y108++l0):=⟨_,rfl⟩
   replace H:(if 0≤(l0.length:Int) then (if ((l0.length:Int):Int).toNat≤3909374676536 then (some (y111,(List.replicate ((l0.length:Int):Int).toNat z179),([]:List (S182)),([]:List Int),true)) else (none)) else (none))=some (r1,r2,r3,r4,r5):=by first|(rw[hy111];with_reducible exact H)|(have H2_:=(Option.bind_some _ _).symm.trans H;rw[hy111];with_reducible exact H2_)|(have H2_:=(Option.bind_some _ _).symm.trans H;with_reducible exact H2_)|with_reducible exact H|(rw[hy111];exact H)|exact H
   have Ny111:=Aside0.mk hy111
   clear hy111
   by_cases c5:0≤(l0.length:Int)
   ·rw[if_pos c5] at H
    have c5b0:=eq_true c5
    have c5b1:decide (0≤(l0.length:Int))=true:=decide_eq_true c5
    clear c5
    by_cases c6:((l0.length:Int):Int).toNat≤3909374676536
    ·rw[if_pos c6] at H
     have c6b0:=eq_true c6
     have c6b1:decide (((l0.length:Int):Int).toNat≤3909374676536)=true:=decide_eq_true c6
     clear c6
     obtain⟨y114,hy114⟩ : ∃ y_:List (S179),y_=(List.replicate ((l0.length:Int):Int).toNat z179):=⟨_,rfl⟩
     replace H:(some (y111,y114,([]:List (S182)),([]:List Int),true))=some (r1,r2,r3,r4,r5):=by first|(rw[hy114];with_reducible exact H)|(have H2_:=(Option.bind_some _ _).symm.trans H;rw[hy114];with_reducible exact H2_)|(have H2_:=(Option.bind_some _ _).symm.trans H;with_reducible exact H2_)|with_reducible exact H|(rw[hy114];exact H)|exact H
     have Ny114:=Aside0.mk hy114
     clear hy114
     simp only[Option.some.injEq,Prod.mk.injEq] at H
     obtain⟨rfl,rfl,rfl,rfl,rfl⟩:=H
     go_enter Try.func31,Try.ntmps31
     try go_wp2_with (first|((with_reducible refine gate_dst (N:=2) rfl ?_);refine box_event ?hg (N:=2) ?hd (cs:=#[.slice none 0 0,.slice none 0 0,.slice none 0 0,.slice none 0 0]) (t:=50) ?hr ?_;(case hd=>rfl);(case hg=>rfl);(case hr=>first|(go_simp;done)|(go_simp;rfl));intro gb106 hg w7 hbox hb;have n0_:=Aside0.mk (below_step (bB) hb);have n1_:=Aside0.mk (hbox);have n2_:=Aside0.mk ((bG:w.heap.size≤gb106));have n3_:=Aside0.mk ((bG:w.heap.size≤gb106));clear HB;have HB:=n0_;have BK106:=n1_;have GW106:=n2_;have GE106:=n3_;clear n0_ n1_ n2_ n3_;clear hb hbox hg)|((with_reducible refine gate_callee (f:=96) rfl ?_);refine goesA (some 5) rfl rfl Try.func96 #[.slice A0 l0.length c0] rfl ?_;(with_reducible refine(spec_l16Tree.calls k _ _ l0 true _ ?side1 ?side2 A2.out).mono ?_);(case side1=>exact bC HR0.out);(case side2=>exact HC0.out);rintro e w' ⟨rfl,⟨nd,rfl⟩⟩;refine⟨_,rfl,?_⟩;(try (rw[drewN_self w7];generalize hq_:World.drewN w7 _=w7;have n0_:Aside0 (w7.heap[gb106]?=some (.cells #[.slice none 0 0,.slice none 0 0,.slice none 0 0,.slice none 0 0] 50 (0,0))):=⟨by rw[← hq_];exact(bL BK106.out)⟩;have n1_:Aside0 (Below w.heap.size w w7):=⟨by rw[← hq_];exact(bS GE106.out)⟩;clear BK106 HB hq_;have BK106:=n0_;have HB:=n1_;clear n0_ n1_))))
     (try (rw[drewN_self w7];generalize hq_:World.drewN w7 _=w7;have n0_:=Aside0.mk (blk_at hq_ BK106.out);have n1_:=Aside0.mk (below_at hq_ HB.out);clear hq_ BK106 HB;have BK106:=n0_;have HB:=n1_;clear n0_ n1_))
     have n0_:=Aside0.mk (blk_drew BK106.out)
     have n1_:=Aside0.mk (below_drew1 HB.out)
     clear BK106 HB
     have BK106:=n0_
     have HB:=n1_
     clear n0_ n1_
     refine start_ (n:=9) (S:=fun w'=>True) (ds:=[]) #[false,false,false,false,false,false,false,false,false] (b1_) rfl rfl trivial (fun hHeld => ?_);refine with_tabW spec_NewCustody.tab3 spec_NewCustody.bits3 (fun HT_ HW_ => ?_)
     generalize w7.drew=w8 at BK106 HB hHeld ⊢
     refine pure_ (i:=1) (N:=some 9) (v:=?_) (a':=?_) #[false,true,false,false,false,false,false,false,false] rfl rfl (any_of HT_.out (b1_)) (fun _ _ _ h=>h) (Or.inl ⟨by rfl,?_⟩) ?_ ?_
     rotate_left
     ·intro w'
      go_simp
      with_reducible rfl
     rotate_left
     ·simp only[Act.put,List.setIfInBounds_toArray,List.set_cons_zero,List.set_cons_succ,i64_w,i32_w]
      rfl
     refine pure_ (i:=3) (N:=some 11) (v:=?_) (a':=?_) #[false,true,false,true,false,false,false,false,false] rfl rfl (any_of HT_.out (b1_)) (fun _ _ _ h=>h) (Or.inl ⟨by rfl,?_⟩) ?_ ?_
     rotate_left
     ·intro w'
      go_simp
      with_reducible rfl
     rotate_left
     ·simp only[Act.put,List.setIfInBounds_toArray,List.set_cons_zero,List.set_cons_succ,i64_w,i32_w]
      rfl
     refine pure_ (i:=4) (N:=some 12) (v:=?_) (a':=?_) #[false,true,false,true,true,false,false,false,false] rfl rfl (any_of HT_.out (b1_)) (fun _ _ _ h=>h) (Or.inl ⟨by rfl,?_⟩) ?_ ?_
     rotate_left
     ·intro w'
      go_simp
      with_reducible rfl
     rotate_left
     ·simp only[Act.put,List.setIfInBounds_toArray,List.set_cons_zero,List.set_cons_succ,i64_w,i32_w]
      rfl
     refine join_ (σ:=Value × Value × Value) 3 #[true,true,true,true,true,true,false,false,false] (fun s_=>[(8,s_.1),(10,s_.2.1),(13,s_.2.2)]) (fun s_ w'=>(Kd.R (Kd.int .i64) 3 w' w.heap.size (fun _=>True) s_.2.1 y111)∧(Kd.S k179 179 w' w.heap.size (fun k_=>some k_≠(s_.2.1:Value).ownBlock) s_.2.2 y114)∧(w'.heap[gb106]?=some (.cells #[.slice none 0 0,.slice none 0 0,.slice none 0 0,.slice none 0 0] 50 (0,0)))∧(Below w.heap.size w w')) ?_ ?_
     rotate_left
     ·intro hCont
      refine two_ (i:=0) (j:=5) (Ni:=some 8) (Nj:=some 13) #[true,true,false,true,true,false,false,false,false] #[false,true,false,true,true,true,false,false,false] rfl rfl rfl rfl (two_of HT_.out (b1_)) (by decide) (by decide) (fun K hK => ?_) (fun K hK => ?_)
      ·skip
       refine Kd.R_lit_step (Kd.int .i64) _ 3 ?hg (N:=8) ?hd (xs:=([]:List Int)) (inner:=[]) (ok:=fun _=>True) (okp:=fun _=>True) ?hr ?hp (fun _ hk=>hk) trivial (Below.refl _ _) (Nat.le_refl _) (by simp) ?_;(case hd=>rfl);(case hg=>rfl);(case hr=>first|(go_simp;done)|(go_simp;rfl));(case hp=>exact(Reps.none _ _))
       intro v109 w9 ho10 hb hg_ hnew_
       clear hg_ hnew_
       (first|rw[← Ny108.out] at ho10|(simp only[Int.reduceToNat] at ho10;rw[← Ny108.out] at ho10))
       have n0_:=Aside0.mk (Kd.R_lower ho10 (below_size (bS GE106.out)))
       have n1_:=Aside0.mk (bM BK106.out hb)
       have n2_:=Aside0.mk (below_step (bS GE106.out) hb)
       clear BK106 HB
       have HO110:=n0_
       have BK106:=n1_
       have HB:=n2_
       clear n0_ n1_ n2_ hb ho10
       refine hK.out _ _ trivial (fun hHeld => ?_)
       clear hK K
       refine norm_ (a':=?_) ?_ ?_
       rotate_left
       ·show Act.put _ (some 8) _=_
        simp only[Act.put,List.setIfInBounds_toArray,List.set_cons_zero,List.set_cons_succ,i64_w,i32_w]
        rfl
       refine two_ (i:=2) (j:=5) (Ni:=some 10) (Nj:=some 13) #[true,true,true,true,true,false,false,false,false] #[true,true,false,true,true,true,false,false,false] rfl rfl rfl rfl (two_of HT_.out (b1_)) (by decide) (by decide) (fun K hK => ?_) (fun K hK => ?_)
       ·skip
        refine Kd.R_append_rows_step (Kd.int .i64) (w0:=w) w.heap.size (by rfl) (.tmp 8) (.tmp 9) 37 3 (.int .i64 0) 8 rfl Try.underlying37 info3 rfl (by decide) (by omega) v109 y108 l0 _ _ _ (fun _=>True) (fun _=>False) rfl rfl ?aO ?aR (fun _ _ h=>h) (fun _ h=>h.elim) ?aF ?aB ?aS ?aL ?_
        (case aR=>exact bC HR0.out)
        (case aB=>exact(bS GE106.out))
        (case aF=>exact(fun _ _=>trivial))
        (case aO=>exact(bK HO110.out))
        (case aS=>exact(below_size (bS GE106.out)))
        (case aL=>have:=LMc4.out;omega)
        intro v112 w11 ho hb hg hat
        rw[← Ny111.out] at ho
        have n0_:=Aside0.mk (blk_grown (g:=gb106) (o:=.cells #[.slice none 0 0,.slice none 0 0,.slice none 0 0,.slice none 0 0] 50 (0,0)) (bL BK106.out) hg (Kd.R_ne HO110.out BK106.out (by decide)))
        have n1_:=Aside0.mk (hb)
        have n2_:=Aside0.mk (ho)
        clear BK106 HB HO110
        have BK106:=n0_
        have HB:=n1_
        have HO113:=n2_
        clear n0_ n1_ n2_ ho hb hg hat
        refine hK.out _ _ trivial (fun hHeld => ?_)
        clear hK K
        refine norm_ (a':=?_) ?_ ?_
        rotate_left
        ·show Act.put _ (some 10) _=_
         simp only[Act.put,List.setIfInBounds_toArray,List.set_cons_zero,List.set_cons_succ,i64_w,i32_w]
         rfl
        refine one_ (i:=5) (N:=some 13) #[true,true,true,true,true,true,false,false,false] rfl rfl (one_of HT_.out (b1_)) (by decide) (fun K hK => ?_)
        refine Kd.S_make_step k179 _ 179 (by rfl) (N:=13) rfl 47 _ _ rfl (l0.length:Int) rfl rfl Try.underlying47 (.agg #[(.slice none 0 0),(.slice none 0 0),(.slice none 0 0)]) 72 info179 rfl (by decide) (by omega) z179 (ok:=fun _=>True) (okp:=fun _=>True) (k179_mkM _ _ _ z179 (Kd.R_nil _ _ _ _ _) (Kd.R_nil _ _ _ _ _) (Kd.R_nil _ _ _ _ _)) (fun _ hk=>hk) trivial (of_decide_eq_true (bD)) (Nat.le_trans (Nat.mul_le_mul_right _ (of_decide_eq_true (bD):(l0.length:Int).toNat≤3909374676536)) (by omega)) (Below.refl _ _) (Nat.le_refl _) ?_
        intro v115 w12 ho13 hb hg_ hnew_
        clear hg_ hnew_
        (first|rw[← Ny114.out] at ho13|(simp only[Int.reduceToNat] at ho13;rw[← Ny114.out] at ho13))
        have n0_:=Aside0.mk (Kd.R_below (bK HO113.out) hb)
        have n1_:=Aside0.mk (Kd.S_lower (Kd.S_new' ho13 (Kd.R_lt (bK HO113.out))) (below_size (bS GE106.out)))
        have n2_:=Aside0.mk (bM BK106.out hb)
        have n3_:=Aside0.mk (below_step (bS GE106.out) hb)
        clear HO113 BK106 HB
        have HO113:=n0_
        have HO116:=n1_
        have BK106:=n2_
        have HB:=n3_
        clear n0_ n1_ n2_ n3_ hb ho13
        obtain⟨Ao14,co14,eo14⟩:=Kd.S_slice HO116.out
        (first|subst eo14|(injection eo14 with f1_ f2_ f3_;have f4_:=f1_.symm;have f5_:=f3_.symm;clear f1_ f2_ f3_;subst f4_;subst f5_))
        obtain⟨Ao15,co15,eo15⟩:=Kd.R_slice HO113.out
        (first|subst eo15|(injection eo15 with f1_ f2_ f3_;have f4_:=f1_.symm;have f5_:=f3_.symm;clear f1_ f2_ f3_;subst f4_;subst f5_))
        refine hK.out _ _ trivial (fun hHeld => ?_)
        clear hK K
        refine norm_ (a':=?_) ?_ ?_
        rotate_left
        ·show Act.put _ (some 13) _=_
         simp only[Act.put,List.setIfInBounds_toArray,List.set_cons_zero,List.set_cons_succ,i64_w,i32_w]
         rfl
        exact norm_ (b3_) (hCont (v109,.slice Ao15 y111.length co15,.slice Ao14 y114.length co14) _ ⟨(bK HO113.out),(by(with_reducible repeat (first|apply Kd.S_alloc|apply Kd.S_drewN|apply Kd.S_drew));exact Kd.S_mono HO116.out (fun _ hk=>hk.2)),(bL BK106.out),(bS GE106.out)⟩)
       ·skip
        refine Kd.S_make_step k179 _ 179 (by rfl) (N:=13) rfl 47 _ _ rfl (l0.length:Int) rfl rfl Try.underlying47 (.agg #[(.slice none 0 0),(.slice none 0 0),(.slice none 0 0)]) 72 info179 rfl (by decide) (by omega) z179 (ok:=fun _=>True) (okp:=fun _=>True) (k179_mkM _ _ _ z179 (Kd.R_nil _ _ _ _ _) (Kd.R_nil _ _ _ _ _) (Kd.R_nil _ _ _ _ _)) (fun _ hk=>hk) trivial (of_decide_eq_true (bD)) (Nat.le_trans (Nat.mul_le_mul_right _ (of_decide_eq_true (bD):(l0.length:Int).toNat≤3909374676536)) (by omega)) (Below.refl _ _) (Nat.le_refl _) ?_
        intro v115 w11 ho12 hb hg_ hnew_
        clear hg_ hnew_
        (first|rw[← Ny114.out] at ho12|(simp only[Int.reduceToNat] at ho12;rw[← Ny114.out] at ho12))
        have n0_:=Aside0.mk (Kd.R_below (bK HO110.out) hb)
        have n1_:=Aside0.mk (Kd.S_lower (Kd.S_new' ho12 (Kd.R_lt (bK HO110.out))) (below_size (bS GE106.out)))
        have n2_:=Aside0.mk (bM BK106.out hb)
        have n3_:=Aside0.mk (below_step (bS GE106.out) hb)
        clear HO110 BK106 HB
        have HO110:=n0_
        have HO116:=n1_
        have BK106:=n2_
        have HB:=n3_
        clear n0_ n1_ n2_ n3_ hb ho12
        refine hK.out _ _ trivial (fun hHeld => ?_)
        clear hK K
        refine norm_ (a':=?_) ?_ ?_
        rotate_left
        ·show Act.put _ (some 13) _=_
         simp only[Act.put,List.setIfInBounds_toArray,List.set_cons_zero,List.set_cons_succ,i64_w,i32_w]
         rfl
        refine one_ (i:=2) (N:=some 10) #[true,true,true,true,true,true,false,false,false] rfl rfl (one_of HT_.out (b1_)) (by decide) (fun K hK => ?_)
        refine Kd.R_append_rows_step (Kd.int .i64) (w0:=w) w.heap.size (by rfl) (.tmp 8) (.tmp 9) 37 3 (.int .i64 0) 8 rfl Try.underlying37 info3 rfl (by decide) (by omega) v109 y108 l0 _ _ _ (fun _=>True) (fun _=>False) rfl rfl ?aO ?aR (fun _ _ h=>h) (fun _ h=>h.elim) ?aF ?aB ?aS ?aL ?_
        (case aR=>exact bC HR0.out)
        (case aB=>exact(bS GE106.out))
        (case aF=>exact(fun _ _=>trivial))
        (case aO=>exact(bK HO110.out))
        (case aS=>exact(below_size (bS GE106.out)))
        (case aL=>have:=LMc4.out;omega)
        intro v112 w13 ho hb hg hat
        rw[← Ny111.out] at ho
        have n0_:=Aside0.mk (blk_grown (g:=gb106) (o:=.cells #[.slice none 0 0,.slice none 0 0,.slice none 0 0,.slice none 0 0] 50 (0,0)) (bL BK106.out) hg (Kd.R_ne HO110.out BK106.out (by decide)))
        have n1_:=Aside0.mk (Kd.S_after (ok:=(fun _=>True)) (by(with_reducible repeat (first|apply Kd.S_alloc|apply Kd.S_drewN|apply Kd.S_drew));exact HO116.out) hg hat)
        have n2_:=Aside0.mk (hb)
        have n3_:=Aside0.mk (ho)
        clear BK106 HO116 HB HO110
        have BK106:=n0_
        have HO116:=n1_
        have HB:=n2_
        have HO113:=n3_
        clear n0_ n1_ n2_ n3_ ho hb hg hat
        obtain⟨Ao14,co14,eo14⟩:=Kd.S_slice HO116.out
        (first|subst eo14|(injection eo14 with f1_ f2_ f3_;have f4_:=f1_.symm;have f5_:=f3_.symm;clear f1_ f2_ f3_;subst f4_;subst f5_))
        obtain⟨Ao15,co15,eo15⟩:=Kd.R_slice HO113.out
        (first|subst eo15|(injection eo15 with f1_ f2_ f3_;have f4_:=f1_.symm;have f5_:=f3_.symm;clear f1_ f2_ f3_;subst f4_;subst f5_))
        refine hK.out _ _ trivial (fun hHeld => ?_)
        clear hK K
        refine norm_ (a':=?_) ?_ ?_
        rotate_left
        ·show Act.put _ (some 10) _=_
         simp only[Act.put,List.setIfInBounds_toArray,List.set_cons_zero,List.set_cons_succ,i64_w,i32_w]
         rfl
        exact norm_ (b3_) (hCont (v109,.slice Ao15 y111.length co15,.slice Ao14 y114.length co14) _ ⟨(bK HO113.out),(by(with_reducible repeat (first|apply Kd.S_alloc|apply Kd.S_drewN|apply Kd.S_drew));exact Kd.S_mono HO116.out (fun _ hk=>hk.2)),(bL BK106.out),(bS GE106.out)⟩)
      ·skip
       refine Kd.S_make_step k179 _ 179 (by rfl) (N:=13) rfl 47 _ _ rfl (l0.length:Int) rfl rfl Try.underlying47 (.agg #[(.slice none 0 0),(.slice none 0 0),(.slice none 0 0)]) 72 info179 rfl (by decide) (by omega) z179 (ok:=fun _=>True) (okp:=fun _=>True) (k179_mkM _ _ _ z179 (Kd.R_nil _ _ _ _ _) (Kd.R_nil _ _ _ _ _) (Kd.R_nil _ _ _ _ _)) (fun _ hk=>hk) trivial (of_decide_eq_true (bD)) (Nat.le_trans (Nat.mul_le_mul_right _ (of_decide_eq_true (bD):(l0.length:Int).toNat≤3909374676536)) (by omega)) (Below.refl _ _) (Nat.le_refl _) ?_
       intro v115 w9 ho10 hb hg_ hnew_
       clear hg_ hnew_
       (first|rw[← Ny114.out] at ho10|(simp only[Int.reduceToNat] at ho10;rw[← Ny114.out] at ho10))
       have n0_:=Aside0.mk (Kd.S_lower ho10 (below_size (bS GE106.out)))
       have n1_:=Aside0.mk (bM BK106.out hb)
       have n2_:=Aside0.mk (below_step (bS GE106.out) hb)
       clear BK106 HB
       have HO116:=n0_
       have BK106:=n1_
       have HB:=n2_
       clear n0_ n1_ n2_ hb ho10
       refine hK.out _ _ trivial (fun hHeld => ?_)
       clear hK K
       refine norm_ (a':=?_) ?_ ?_
       rotate_left
       ·show Act.put _ (some 13) _=_
        simp only[Act.put,List.setIfInBounds_toArray,List.set_cons_zero,List.set_cons_succ,i64_w,i32_w]
        rfl
       refine one_ (i:=0) (N:=some 8) #[true,true,false,true,true,true,false,false,false] rfl rfl (one_of HT_.out (b1_)) (by decide) (fun K hK => ?_)
       refine Kd.R_lit_step (Kd.int .i64) _ 3 ?hg (N:=8) ?hd (xs:=([]:List Int)) (inner:=[]) (ok:=fun _=>True) (okp:=fun _=>True) ?hr ?hp (fun _ hk=>hk) trivial (Below.refl _ _) (Nat.le_refl _) (by simp) ?_;(case hd=>rfl);(case hg=>rfl);(case hr=>first|(go_simp;done)|(go_simp;rfl));(case hp=>exact(Reps.none _ _))
       intro v109 w11 ho12 hb hg_ hnew_
       clear hg_ hnew_
       (first|rw[← Ny108.out] at ho12|(simp only[Int.reduceToNat] at ho12;rw[← Ny108.out] at ho12))
       have n0_:=Aside0.mk (Kd.S_elder' (by(with_reducible repeat (first|apply Kd.S_alloc|apply Kd.S_drewN|apply Kd.S_drew));exact HO116.out) (Kd.R_base ho12) hb)
       have n1_:=Aside0.mk (Kd.R_lower ho12 (below_size (bS GE106.out)))
       have n2_:=Aside0.mk (bM BK106.out hb)
       have n3_:=Aside0.mk (below_step (bS GE106.out) hb)
       clear HO116 BK106 HB
       have HO116:=n0_
       have HO110:=n1_
       have BK106:=n2_
       have HB:=n3_
       clear n0_ n1_ n2_ n3_ hb ho12
       refine hK.out _ _ trivial (fun hHeld => ?_)
       clear hK K
       refine norm_ (a':=?_) ?_ ?_
       rotate_left
       ·show Act.put _ (some 8) _=_
        simp only[Act.put,List.setIfInBounds_toArray,List.set_cons_zero,List.set_cons_succ,i64_w,i32_w]
        rfl
       refine one_ (i:=2) (N:=some 10) #[true,true,true,true,true,true,false,false,false] rfl rfl (one_of HT_.out (b1_)) (by decide) (fun K hK => ?_)
       refine Kd.R_append_rows_step (Kd.int .i64) (w0:=w) w.heap.size (by rfl) (.tmp 8) (.tmp 9) 37 3 (.int .i64 0) 8 rfl Try.underlying37 info3 rfl (by decide) (by omega) v109 y108 l0 _ _ _ (fun _=>True) (fun _=>False) rfl rfl ?aO ?aR (fun _ _ h=>h) (fun _ h=>h.elim) ?aF ?aB ?aS ?aL ?_
       (case aR=>exact bC HR0.out)
       (case aB=>exact(bS GE106.out))
       (case aF=>exact(fun _ _=>trivial))
       (case aO=>exact(bK HO110.out))
       (case aS=>exact(below_size (bS GE106.out)))
       (case aL=>have:=LMc4.out;omega)
       intro v112 w13 ho hb hg hat
       rw[← Ny111.out] at ho
       have n0_:=Aside0.mk (blk_grown (g:=gb106) (o:=.cells #[.slice none 0 0,.slice none 0 0,.slice none 0 0,.slice none 0 0] 50 (0,0)) (bL BK106.out) hg (Kd.R_ne HO110.out BK106.out (by decide)))
       have n1_:=Aside0.mk (Kd.S_after (ok:=(fun _=>True)) (by(with_reducible repeat (first|apply Kd.S_alloc|apply Kd.S_drewN|apply Kd.S_drew));exact HO116.out) hg hat)
       have n2_:=Aside0.mk (hb)
       have n3_:=Aside0.mk (ho)
       clear BK106 HO116 HB HO110
       have BK106:=n0_
       have HO116:=n1_
       have HB:=n2_
       have HO113:=n3_
       clear n0_ n1_ n2_ n3_ ho hb hg hat
       obtain⟨Ao14,co14,eo14⟩:=Kd.S_slice HO116.out
       (first|subst eo14|(injection eo14 with f1_ f2_ f3_;have f4_:=f1_.symm;have f5_:=f3_.symm;clear f1_ f2_ f3_;subst f4_;subst f5_))
       obtain⟨Ao15,co15,eo15⟩:=Kd.R_slice HO113.out
       (first|subst eo15|(injection eo15 with f1_ f2_ f3_;have f4_:=f1_.symm;have f5_:=f3_.symm;clear f1_ f2_ f3_;subst f4_;subst f5_))
       refine hK.out _ _ trivial (fun hHeld => ?_)
       clear hK K
       refine norm_ (a':=?_) ?_ ?_
       rotate_left
       ·show Act.put _ (some 10) _=_
        simp only[Act.put,List.setIfInBounds_toArray,List.set_cons_zero,List.set_cons_succ,i64_w,i32_w]
        rfl
       exact norm_ (b3_) (hCont (v109,.slice Ao15 y111.length co15,.slice Ao14 y114.length co14) _ ⟨(bK HO113.out),(by(with_reducible repeat (first|apply Kd.S_alloc|apply Kd.S_drewN|apply Kd.S_drew));exact Kd.S_mono HO116.out (fun _ hk=>hk.2)),(bL BK106.out),(bS GE106.out)⟩)
     rintro⟨v109,v112,v115⟩ w16 ⟨h0_,h1_,h2_,h3_⟩
     have n0_:Aside0 (Kd.R (Kd.int .i64) 3 w16 w.heap.size (fun _=>True) v112 y111):=⟨h0_⟩
     have n1_:Aside0 (Kd.S k179 179 w16 w.heap.size (fun k_=>some k_≠(v112:Value).ownBlock) v115 y114):=⟨h1_⟩
     have n2_:Aside0 (w16.heap[gb106]?=some (.cells #[.slice none 0 0,.slice none 0 0,.slice none 0 0,.slice none 0 0] 50 (0,0))):=⟨h2_⟩
     have n3_:Aside0 (Below w.heap.size w w16):=⟨h3_⟩
     clear BK106 HB h0_ h1_ h2_ h3_
     have HO113:=n0_
     have HO116:=n1_
     have BK106:=n2_
     have HB:=n3_
     clear n0_ n1_ n2_ n3_
     have hHeld:=trivial
     obtain⟨Ao17,co17,eo17⟩:=Kd.S_slice HO116.out
     (first|subst eo17|(injection eo17 with f1_ f2_ f3_;have f4_:=f1_.symm;have f5_:=f3_.symm;clear f1_ f2_ f3_;subst f4_;subst f5_))
     obtain⟨Ao18,co18,eo18⟩:=Kd.R_slice HO113.out
     (first|subst eo18|(injection eo18 with f1_ f2_ f3_;have f4_:=f1_.symm;have f5_:=f3_.symm;clear f1_ f2_ f3_;subst f4_;subst f5_))
     refine norm_ (a':=?_) ?_ ?_
     rotate_left
     ·simp only[putAll,Act.put,List.setIfInBounds_toArray,List.set_cons_zero,List.set_cons_succ]
      rfl
     refine pure_ (i:=6) (N:=some 14) (v:=?_) (a':=?_) #[true,true,true,true,true,true,true,false,false] rfl rfl (any_of HT_.out (b1_)) (fun _ _ _ h=>h) (Or.inl ⟨by rfl,?_⟩) ?_ ?_
     rotate_left
     ·intro w'
      go_simp
      with_reducible rfl
     rotate_left
     ·simp only[Act.put,List.setIfInBounds_toArray,List.set_cons_zero,List.set_cons_succ,i64_w,i32_w]
      rfl
     refine one_ (i:=7) (N:=none) #[true,true,true,true,true,true,true,true,false] rfl rfl (one_of HT_.out (b1_)) (by decide) (fun K hK => ?_)
     have hs19:w16.cell? ⟨gb106,0,none⟩=some (.slice none 0 0):=(blk_cell BK106.out 0).trans rfl
     have hfs19:=blk_frozen BK106.out 0
     have hs20:w16.cell? ⟨gb106,1,none⟩=some (.slice none 0 0):=(blk_cell BK106.out 1).trans rfl
     have hfs20:=blk_frozen BK106.out 1
     have hs21:w16.cell? ⟨gb106,2,none⟩=some (.slice none 0 0):=(blk_cell BK106.out 2).trans rfl
     have hfs21:=blk_frozen BK106.out 2
     have hs22:w16.cell? ⟨gb106,3,none⟩=some (.slice none 0 0):=(blk_cell BK106.out 3).trans rfl
     have hfs22:=blk_frozen BK106.out 3
     refine skip_ (w1:=?_) (by rfl) rfl ?_ ?_
     rotate_left
     ·go_simp
      rfl
     refine hK.out _ _ trivial (fun hHeld => ?_)
     clear hK K
     refine pure_ (i:=8) (N:=some 3) (v:=?_) (a':=?_) #[true,true,true,true,true,true,true,true,true] rfl rfl (any_of HT_.out (b1_)) (fun _ _ _ h=>h) (Or.inl ⟨by rfl,?_⟩) ?_ ?_
     rotate_left
     ·intro w'
      go_simp
      with_reducible rfl
     rotate_left
     ·simp only[Act.put,List.setIfInBounds_toArray,List.set_cons_zero,List.set_cons_succ,i64_w,i32_w]
      rfl
     refine done_ (done_of HT_.out (b1_)) ?_
     try go_wp2
     refine bodyPost_ret (results_ct rfl _ _ gb106 50 #[.slice Ao18 y111.length co18,.slice Ao17 y114.length co17,.slice none 0 0,.slice none 0 0] (0,0) _ rfl (by(with_reducible repeat (first|refine blk_drewN ?_ _|refine blk_drew ?_|refine blk_alloc ?_ _));refine blk_put (cs:=#[.slice Ao18 y111.length co18,.slice Ao17 y114.length co17,.slice none 0 0,.slice none 0 0]) ?_ 3 _ rfl;(with_reducible repeat (first|refine blk_drewN ?_ _|refine blk_drew ?_|refine blk_alloc ?_ _));refine blk_put (cs:=#[.slice Ao18 y111.length co18,.slice Ao17 y114.length co17,.slice none 0 0,.slice none 0 0]) ?_ 2 _ rfl;(with_reducible repeat (first|refine blk_drewN ?_ _|refine blk_drew ?_|refine blk_alloc ?_ _));refine blk_put (cs:=#[.slice Ao18 y111.length co18,.slice none 0 0,.slice none 0 0,.slice none 0 0]) ?_ 1 _ rfl;(with_reducible repeat (first|refine blk_drewN ?_ _|refine blk_drew ?_|refine blk_alloc ?_ _));refine blk_put (cs:=#[.slice none 0 0,.slice none 0 0,.slice none 0 0,.slice none 0 0]) ?_ 0 _ rfl;(with_reducible repeat (first|refine blk_drewN ?_ _|refine blk_drew ?_|refine blk_alloc ?_ _));exact BK106.out) Try.underlying50 rfl (b1_)) rfl ?_
     exact⟨_,_,_,_,by first|rfl|(simp[errW_none,errW_some]<;>rfl)|(simp[*,errW_none,errW_some]<;>rfl),by(with_reducible repeat (first|apply Kd.R_alloc|apply Kd.R_drewN|apply Kd.R_drew));exact Kd.R_mono (Kd.R_far (p:=⟨gb106,3,none⟩) (Kd.R_far (p:=⟨gb106,2,none⟩) (Kd.R_far (p:=⟨gb106,1,none⟩) (Kd.R_far (p:=⟨gb106,0,none⟩) (Kd.R_types HO113.out BK106.out (by decide)) (fun _ hk=>hk.2) (.slice Ao18 y111.length co18)) (fun _ hk=>hk.2) (.slice Ao17 y114.length co17)) (fun _ hk=>hk.2) (.slice none 0 0)) (fun _ hk=>hk.2) (.slice none 0 0)) (fun _ hk=>(by simp[Value.ownBlock])),by(with_reducible repeat (first|apply Kd.S_alloc|apply Kd.S_drewN|apply Kd.S_drew));exact Kd.S_mono (Kd.S_far (p:=⟨gb106,3,none⟩) (Kd.S_far (p:=⟨gb106,2,none⟩) (Kd.S_far (p:=⟨gb106,1,none⟩) (Kd.S_far (p:=⟨gb106,0,none⟩) (Kd.S_types HO116.out BK106.out (by decide)) (fun _ hk=>hk.2) (.slice Ao18 y111.length co18)) (fun _ hk=>hk.2) (.slice Ao17 y114.length co17)) (fun _ hk=>hk.2) (.slice none 0 0)) (fun _ hk=>hk.2) (.slice none 0 0)) (fun _ hk=>⟨hk.1,(by simp[Value.ownBlock])⟩),by first|exact Kd.R_nil _ _ _ _ _|exact Kd.N_nil _ _ _ _ _|exact Kd.V_nil _ _ _ _ _|exact Kd.Q_nil _ _ _ _ _|exact Kd.S_nil _ _ _ _ _,by first|exact Kd.R_nil _ _ _ _ _|exact Kd.N_nil _ _ _ _ _|exact Kd.V_nil _ _ _ _ _|exact Kd.Q_nil _ _ _ _ _|exact Kd.S_nil _ _ _ _ _,bS GE106.out⟩
    ·rw[if_neg c6] at H
     exact absurd H (by simp)
   ·rw[if_neg c5] at H
    exact absurd H (by simp)
  ·rw[if_neg c4] at H
   exact absurd H (by simp)
 ·replace c3:=Bool.eq_false_iff.mpr c3
  subst c3
  have H1:(some (([]:List Int),([]:List (S179)),([]:List (S182)),([]:List Int),false))=some (r1,r2,r3,r4,r5):=by rw[if_neg (show ¬ (false=true) by decide)] at H;exact H
  clear H
  have H:=H1
  clear H1
  simp only[Option.some.injEq,Prod.mk.injEq] at H
  obtain⟨rfl,rfl,rfl,rfl,rfl⟩:=H
  go_enter Try.func31,Try.ntmps31
  go_wp2_with (first|((with_reducible refine gate_dst (N:=2) rfl ?_);refine box_event ?hg (N:=2) ?hd (cs:=#[.slice none 0 0,.slice none 0 0,.slice none 0 0,.slice none 0 0]) (t:=50) ?hr ?_;(case hd=>rfl);(case hg=>rfl);(case hr=>first|(go_simp;done)|(go_simp;rfl));intro gb106 hg w23 hbox hb;have n0_:=Aside0.mk (below_step (bB) hb);have n1_:=Aside0.mk (hbox);have n2_:=Aside0.mk ((bG:w.heap.size≤gb106));have n3_:=Aside0.mk ((bG:w.heap.size≤gb106));clear HB;have HB:=n0_;have BK106:=n1_;have GW106:=n2_;have GE106:=n3_;clear n0_ n1_ n2_ n3_;clear hb hbox hg)|((with_reducible refine gate_callee (f:=96) rfl ?_);refine goesA (some 5) rfl rfl Try.func96 #[.slice A0 l0.length c0] rfl ?_;(with_reducible refine(spec_l16Tree.calls k _ _ l0 false _ ?side1 ?side2 A2.out).mono ?_);(case side1=>exact bC HR0.out);(case side2=>exact HC0.out);rintro e w' ⟨rfl,⟨nd,rfl⟩⟩;refine⟨_,rfl,?_⟩;(try (rw[drewN_self w23];generalize hq_:World.drewN w23 _=w23;have n0_:Aside0 (w23.heap[gb106]?=some (.cells #[.slice none 0 0,.slice none 0 0,.slice none 0 0,.slice none 0 0] 50 (0,0))):=⟨by rw[← hq_];exact(bL BK106.out)⟩;have n1_:Aside0 (Below w.heap.size w w23):=⟨by rw[← hq_];exact(bS GE106.out)⟩;clear BK106 HB hq_;have BK106:=n0_;have HB:=n1_;clear n0_ n1_));obtain⟨hcz24_0,hcz24_1,hcz24_2,hcz24_3⟩:=cC4 BK106.out;obtain⟨hfz24_0,hfz24_1,hfz24_2,hfz24_3⟩:=cF4 BK106.out))
  refine bodyPost_ret (results_ct rfl _ _ gb106 50 #[.slice none 0 0,.slice none 0 0,.slice none 0 0,.slice none 0 0] (0,0) _ rfl (by(with_reducible repeat (first|refine blk_drewN ?_ _|refine blk_drew ?_|refine blk_alloc ?_ _));refine blk_put (cs:=#[.slice none 0 0,.slice none 0 0,.slice none 0 0,.slice none 0 0]) ?_ 3 _ rfl;(with_reducible repeat (first|refine blk_drewN ?_ _|refine blk_drew ?_|refine blk_alloc ?_ _));refine blk_put (cs:=#[.slice none 0 0,.slice none 0 0,.slice none 0 0,.slice none 0 0]) ?_ 2 _ rfl;(with_reducible repeat (first|refine blk_drewN ?_ _|refine blk_drew ?_|refine blk_alloc ?_ _));refine blk_put (cs:=#[.slice none 0 0,.slice none 0 0,.slice none 0 0,.slice none 0 0]) ?_ 1 _ rfl;(with_reducible repeat (first|refine blk_drewN ?_ _|refine blk_drew ?_|refine blk_alloc ?_ _));refine blk_put (cs:=#[.slice none 0 0,.slice none 0 0,.slice none 0 0,.slice none 0 0]) ?_ 0 _ rfl;(with_reducible repeat (first|refine blk_drewN ?_ _|refine blk_drew ?_|refine blk_alloc ?_ _));exact BK106.out) Try.underlying50 rfl (b1_)) rfl ?_
  exact⟨_,_,_,_,by first|rfl|(simp[errW_none,errW_some]<;>rfl)|(simp[*,errW_none,errW_some]<;>rfl),by first|exact Kd.R_nil _ _ _ _ _|exact Kd.N_nil _ _ _ _ _|exact Kd.V_nil _ _ _ _ _|exact Kd.Q_nil _ _ _ _ _|exact Kd.S_nil _ _ _ _ _,by first|exact Kd.S_nil _ _ _ _ _|exact Kd.N_nil _ _ _ _ _|exact Kd.V_nil _ _ _ _ _|exact Kd.Q_nil _ _ _ _ _|exact Kd.R_nil _ _ _ _ _,by first|exact Kd.R_nil _ _ _ _ _|exact Kd.N_nil _ _ _ _ _|exact Kd.V_nil _ _ _ _ _|exact Kd.Q_nil _ _ _ _ _|exact Kd.S_nil _ _ _ _ _,by first|exact Kd.R_nil _ _ _ _ _|exact Kd.N_nil _ _ _ _ _|exact Kd.V_nil _ _ _ _ _|exact Kd.Q_nil _ _ _ _ _|exact Kd.S_nil _ _ _ _ _,bS GE106.out⟩

end Go.Proofs.Yteneeohaoplpbaa.XFnExactNewCustody
