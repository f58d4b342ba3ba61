-- Written by this session's own program (wip/xprint.py) out of the translation; Lean checks it.
import Derived.Test.YteneeohaoplpbaaXFnExactFollowPlanx0
namespace Go.Proofs.Yteneeohaoplpbaa.XFnExactFollowPlan
open Go.RowKit Go.Proofs.YteneeohaoplpbaaW.PrintWords Go.Proofs.YteneeohaoplpbaaW.PrintLast Go.Proofs.YteneeohaoplpbaaW.PrintMore
attribute [local go_sem] max2_int min2_int max_two min_two max_three min_three max_four min_four   -- for this text's walks alone
set_option linter.unusedVariables false
set_option linter.unusedSimpArgs false

/-! ### laws_markContactS: function 28 -/
def laws_markContactS.l0:Nat→List (S104)→Int→Int→Option (Int × (List (S104)))
 | 0,_,_,_=>none
 | k+1,x0,x1,x5=>if x5 < (x0.length:Int) then (if 0≤x5 then ((some (x0.set (x5:Int).toNat (⟨x1,(rd_T104 x0 x5).f1,(rd_T104 x0 x5).f2,(rd_T104 x0 x5).f3,(rd_T104 x0 x5).f4⟩:S104):List (S104))).bind fun y121=>((some (y121.set (x5:Int).toNat (⟨(rd_T104 y121 x5).f0,wrap64 (x1+1),(rd_T104 y121 x5).f2,(rd_T104 y121 x5).f3,(rd_T104 y121 x5).f4⟩:S104):List (S104))).bind fun y122=>((some (y122.set (x5:Int).toNat (⟨(rd_T104 y122 x5).f0,(rd_T104 y122 x5).f1,wrap64 ((wrap64 (x1+1))+1),(rd_T104 y122 x5).f3,(rd_T104 y122 x5).f4⟩:S104):List (S104))).bind fun y123=>((some (y123.set (x5:Int).toNat (⟨(rd_T104 y123 x5).f0,(rd_T104 y123 x5).f1,(rd_T104 y123 x5).f2,wrap64 ((wrap64 ((wrap64 (x1+1))+1))+1),(rd_T104 y123 x5).f4⟩:S104):List (S104))).bind fun y124=>(laws_markContactS.l0 k (y124.set (x5:Int).toNat (⟨(rd_T104 y124 x5).f0,(rd_T104 y124 x5).f1,(rd_T104 y124 x5).f2,(rd_T104 y124 x5).f3,wrap64 ((wrap64 ((wrap64 ((wrap64 (x1+1))+1))+1))+1)⟩:S104)) (wrap64 ((wrap64 ((wrap64 ((wrap64 ((wrap64 (x1+1))+1))+1))+1))+1)) (wrap64 (x5+1))))))) else (none)) else (some (x1,x0))
def laws_markContactS.f (k:Nat) (l0:List (S104)) (a1:Int):Option (Int × (List (S104))):=laws_markContactS.l0 k l0 a1 0
theorem laws_markContactS.mono_l : ∀ k,(∀ y0 y1 y2,LeO (laws_markContactS.l0 k y0 y1 y2) (laws_markContactS.l0 (k+1) y0 y1 y2))
 | 0=>fun _ _ _ r h=>by simp[laws_markContactS.l0] at h
 | k+1=>by
  have ih0:=laws_markContactS.mono_l k
  ·intro y0 y1 y2
   unfold laws_markContactS.l0
   repeat' first
   | (with_reducible exact ih0 _ _ _)
   | (with_reducible exact LeO.refl _)
   | (with_reducible exact LeO.none _)
   | (with_reducible refine LeO.ite ?_ ?_)
   | (with_reducible refine LeO.bind ?_ (fun _ => ?_))
   | exact ih0 _ _ _
   | exact LeO.none _
   | refine LeO.ite ?_ ?_
   | refine LeO.bind ?_ (fun _ => ?_)
theorem laws_markContactS.mono : ∀ a0 a1 k,LeO (laws_markContactS.f k a0 a1) (laws_markContactS.f (k+1) a0 a1):=by
 intro a0 a1 k
 have ih0:=laws_markContactS.mono_l k
 unfold laws_markContactS.f
 repeat' first
  | (with_reducible exact ih0 _ _ _)
  | (with_reducible exact LeO.refl _)
  | (with_reducible exact LeO.none _)
  | (with_reducible refine LeO.ite ?_ ?_)
  | (with_reducible refine LeO.bind ?_ (fun _ => ?_))
  | exact ih0 _ _ _
  | exact LeO.none _
  | refine LeO.ite ?_ ?_
  | refine LeO.bind ?_ (fun _ => ?_)
set_option maxHeartbeats 8000000 in
set_option maxRecDepth 100000 in
theorem laws_markContactS.calls (k:Nat) (P0_:Nat→Prop) (u9000_:Value) (l0:List (S104)) (a1:Int) (r1:Int) (r2:List (S104)) (w0 w:World) (hB:Below w0.heap.size w0 w) (ho0:Kd.R k104 104 w w0.heap.size P0_ u9000_ l0) (h:laws_markContactS.f k l0 a1=some (r1,r2)) :
  Calls Try.prog 28 #[u9000_,.int .i64 a1] w fun e w'=>e=.returned (.int .i64 r1)∧Kd.R k104 104 w' w0.heap.size (fun k_=>(P0_ k_∨w.heap.size≤k_)) u9000_ r2∧Below w0.heap.size w0 w'∧Kept w w' (fun k_=>P0_ k_):=by
 have HO0:=Aside0.mk (show Kd.R k104 104 w w0.heap.size (fun k_=>(P0_ k_∨w.heap.size≤k_)) u9000_ l0 from Kd.R_mono ho0 (fun k_ hk=>(.inl hk)))
 have HK:=Aside0.mk (Kept.refl w (fun k_=>P0_ k_))
 have HW0:=Aside0.mk hB.size
 have HB:=Aside0.mk hB
 clear hB
 have H:(laws_markContactS.l0 k l0 a1 0)=some (r1,r2):=h
 clear h
 have H':=Aside0.mk H
 clear H
 go_enter Try.func28,Try.ntmps28
 go_wp2
 go_loopg [1,5] k (fun kq v1 v5 w' => ∃ (x0_1:List (S104)) (x1_1:Int) (x5_1:Int),v1=.int .i64 x1_1∧v5=.int .i64 x5_1∧Aside0 (laws_markContactS.l0 kq x0_1 x1_1 x5_1=some (r1,r2))∧Aside0 (kq≤k)∧Aside0 (Kd.R k104 104 w' w0.heap.size (fun k_=>(P0_ k_∨w.heap.size≤k_)) u9000_ x0_1)∧Aside0 (Kept w w' (fun k_=>P0_ k_))∧Aside0 (Below w0.heap.size w0 w'))
 case atStart=>exact⟨(l0),(a1),(0),(bR),(bR),H',⟨Nat.le_refl _⟩,⟨by(with_reducible repeat (first|apply Kd.R_alloc|apply Kd.R_drewN|apply Kd.R_drew));exact HO0.out⟩,⟨by repeat (first|(with_reducible first|exact HK.out|apply Kept.alloc|apply Kept.drewN|apply Kept.drew)|exact HK.out)⟩,⟨by repeat (first|(with_reducible first|exact HB.out|apply below_alloc|apply pw_below_drewN|apply below_drew1)|exact HB.out)⟩⟩
 case round =>
  clear H'
  try clear c2
  try clear p2
  obtain⟨x0_1,x1_1,x5_1,rfl,rfl,HA,HK1,HO_0,HK,HB⟩:=hrel
  cases gk with
  | zero=>exact absurd HA.out (by simp[laws_markContactS.l0])
  | succ k1 =>
   have H:=HA.out
   clear HA
   simp only[laws_markContactS.l0] at H
   by_cases c3:x5_1 < (x0_1.length:Int)
   ·rw[if_pos c3] at H
    have c3b0:decide (x5_1 < (x0_1.length:Int))=true:=decide_eq_true c3
    clear c3
    by_cases c4:0≤x5_1
    ·rw[if_pos c4] at H
     have c4b0:decide (0≤x5_1)=true:=decide_eq_true c4
     clear c4
     obtain⟨y121,hy121⟩ : ∃ y_:List (S104),y_=(x0_1.set (x5_1:Int).toNat (⟨x1_1,(rd_T104 x0_1 x5_1).f1,(rd_T104 x0_1 x5_1).f2,(rd_T104 x0_1 x5_1).f3,(rd_T104 x0_1 x5_1).f4⟩:S104)):=⟨_,rfl⟩
     replace H:((some (y121.set (x5_1:Int).toNat (⟨(rd_T104 y121 x5_1).f0,wrap64 (x1_1+1),(rd_T104 y121 x5_1).f2,(rd_T104 y121 x5_1).f3,(rd_T104 y121 x5_1).f4⟩:S104):List (S104))).bind fun y122=>((some (y122.set (x5_1:Int).toNat (⟨(rd_T104 y122 x5_1).f0,(rd_T104 y122 x5_1).f1,wrap64 ((wrap64 (x1_1+1))+1),(rd_T104 y122 x5_1).f3,(rd_T104 y122 x5_1).f4⟩:S104):List (S104))).bind fun y123=>((some (y123.set (x5_1:Int).toNat (⟨(rd_T104 y123 x5_1).f0,(rd_T104 y123 x5_1).f1,(rd_T104 y123 x5_1).f2,wrap64 ((wrap64 ((wrap64 (x1_1+1))+1))+1),(rd_T104 y123 x5_1).f4⟩:S104):List (S104))).bind fun y124=>(laws_markContactS.l0 k1 (y124.set (x5_1:Int).toNat (⟨(rd_T104 y124 x5_1).f0,(rd_T104 y124 x5_1).f1,(rd_T104 y124 x5_1).f2,(rd_T104 y124 x5_1).f3,wrap64 ((wrap64 ((wrap64 ((wrap64 (x1_1+1))+1))+1))+1)⟩:S104)) (wrap64 ((wrap64 ((wrap64 ((wrap64 ((wrap64 (x1_1+1))+1))+1))+1))+1)) (wrap64 (x5_1+1))))))=some (r1,r2):=by first|(rw[hy121];with_reducible exact H)|(have H2_:=(Option.bind_some _ _).symm.trans H;rw[hy121];with_reducible exact H2_)|(have H2_:=(Option.bind_some _ _).symm.trans H;with_reducible exact H2_)|with_reducible exact H|(rw[hy121];exact H)|exact H
     have Ny121:=Aside0.mk hy121
     clear hy121
     obtain⟨y122,hy122⟩ : ∃ y_:List (S104),y_=(y121.set (x5_1:Int).toNat (⟨(rd_T104 y121 x5_1).f0,wrap64 (x1_1+1),(rd_T104 y121 x5_1).f2,(rd_T104 y121 x5_1).f3,(rd_T104 y121 x5_1).f4⟩:S104)):=⟨_,rfl⟩
     replace H:((some (y122.set (x5_1:Int).toNat (⟨(rd_T104 y122 x5_1).f0,(rd_T104 y122 x5_1).f1,wrap64 ((wrap64 (x1_1+1))+1),(rd_T104 y122 x5_1).f3,(rd_T104 y122 x5_1).f4⟩:S104):List (S104))).bind fun y123=>((some (y123.set (x5_1:Int).toNat (⟨(rd_T104 y123 x5_1).f0,(rd_T104 y123 x5_1).f1,(rd_T104 y123 x5_1).f2,wrap64 ((wrap64 ((wrap64 (x1_1+1))+1))+1),(rd_T104 y123 x5_1).f4⟩:S104):List (S104))).bind fun y124=>(laws_markContactS.l0 k1 (y124.set (x5_1:Int).toNat (⟨(rd_T104 y124 x5_1).f0,(rd_T104 y124 x5_1).f1,(rd_T104 y124 x5_1).f2,(rd_T104 y124 x5_1).f3,wrap64 ((wrap64 ((wrap64 ((wrap64 (x1_1+1))+1))+1))+1)⟩:S104)) (wrap64 ((wrap64 ((wrap64 ((wrap64 ((wrap64 (x1_1+1))+1))+1))+1))+1)) (wrap64 (x5_1+1)))))=some (r1,r2):=by first|(rw[hy122];with_reducible exact H)|(have H2_:=(Option.bind_some _ _).symm.trans H;rw[hy122];with_reducible exact H2_)|(have H2_:=(Option.bind_some _ _).symm.trans H;with_reducible exact H2_)|with_reducible exact H|(rw[hy122];exact H)|exact H
     have Ny122:=Aside0.mk hy122
     clear hy122
     obtain⟨y123,hy123⟩ : ∃ y_:List (S104),y_=(y122.set (x5_1:Int).toNat (⟨(rd_T104 y122 x5_1).f0,(rd_T104 y122 x5_1).f1,wrap64 ((wrap64 (x1_1+1))+1),(rd_T104 y122 x5_1).f3,(rd_T104 y122 x5_1).f4⟩:S104)):=⟨_,rfl⟩
     replace H:((some (y123.set (x5_1:Int).toNat (⟨(rd_T104 y123 x5_1).f0,(rd_T104 y123 x5_1).f1,(rd_T104 y123 x5_1).f2,wrap64 ((wrap64 ((wrap64 (x1_1+1))+1))+1),(rd_T104 y123 x5_1).f4⟩:S104):List (S104))).bind fun y124=>(laws_markContactS.l0 k1 (y124.set (x5_1:Int).toNat (⟨(rd_T104 y124 x5_1).f0,(rd_T104 y124 x5_1).f1,(rd_T104 y124 x5_1).f2,(rd_T104 y124 x5_1).f3,wrap64 ((wrap64 ((wrap64 ((wrap64 (x1_1+1))+1))+1))+1)⟩:S104)) (wrap64 ((wrap64 ((wrap64 ((wrap64 ((wrap64 (x1_1+1))+1))+1))+1))+1)) (wrap64 (x5_1+1))))=some (r1,r2):=by first|(rw[hy123];with_reducible exact H)|(have H2_:=(Option.bind_some _ _).symm.trans H;rw[hy123];with_reducible exact H2_)|(have H2_:=(Option.bind_some _ _).symm.trans H;with_reducible exact H2_)|with_reducible exact H|(rw[hy123];exact H)|exact H
     have Ny123:=Aside0.mk hy123
     clear hy123
     obtain⟨y124,hy124⟩ : ∃ y_:List (S104),y_=(y123.set (x5_1:Int).toNat (⟨(rd_T104 y123 x5_1).f0,(rd_T104 y123 x5_1).f1,(rd_T104 y123 x5_1).f2,wrap64 ((wrap64 ((wrap64 (x1_1+1))+1))+1),(rd_T104 y123 x5_1).f4⟩:S104)):=⟨_,rfl⟩
     replace H:(laws_markContactS.l0 k1 (y124.set (x5_1:Int).toNat (⟨(rd_T104 y124 x5_1).f0,(rd_T104 y124 x5_1).f1,(rd_T104 y124 x5_1).f2,(rd_T104 y124 x5_1).f3,wrap64 ((wrap64 ((wrap64 ((wrap64 (x1_1+1))+1))+1))+1)⟩:S104)) (wrap64 ((wrap64 ((wrap64 ((wrap64 ((wrap64 (x1_1+1))+1))+1))+1))+1)) (wrap64 (x5_1+1)))=some (r1,r2):=by first|(rw[hy124];with_reducible exact H)|(have H2_:=(Option.bind_some _ _).symm.trans H;rw[hy124];with_reducible exact H2_)|(have H2_:=(Option.bind_some _ _).symm.trans H;with_reducible exact H2_)|with_reducible exact H|(rw[hy124];exact H)|exact H
     have Ny124:=Aside0.mk hy124
     clear hy124
     obtain⟨y125,hy125⟩ : ∃ y_:List (S104),y_=(y124.set (x5_1:Int).toNat (⟨(rd_T104 y124 x5_1).f0,(rd_T104 y124 x5_1).f1,(rd_T104 y124 x5_1).f2,(rd_T104 y124 x5_1).f3,wrap64 ((wrap64 ((wrap64 ((wrap64 (x1_1+1))+1))+1))+1)⟩:S104)):=⟨_,rfl⟩
     replace H:(laws_markContactS.l0 k1 y125 (wrap64 ((wrap64 ((wrap64 ((wrap64 ((wrap64 (x1_1+1))+1))+1))+1))+1)) (wrap64 (x5_1+1)))=some (r1,r2):=by first|(rw[hy125];with_reducible exact H)|(have H2_:=(Option.bind_some _ _).symm.trans H;rw[hy125];with_reducible exact H2_)|(have H2_:=(Option.bind_some _ _).symm.trans H;with_reducible exact H2_)|with_reducible exact H|(rw[hy125];exact H)|exact H
     have Ny125:=Aside0.mk hy125
     clear hy125
     have H':=Aside0.mk H
     clear H
     obtain⟨Ao10,co10,eo10⟩:=Kd.R_slice HO_0.out
     subst eo10
     have p5:0≤(x5_1:Int):=of_decide_eq_true (bD)
     have q5:(x5_1:Int) < ((x0_1.length:Int):Int):=of_decide_eq_true (bD)
     obtain⟨go5,co5,eo5,gb5,gl5,cl5,HG5⟩:=Kd.R_form HO_0.out (by omega)
     (first|cases eo5|(injection eo5 with ea_ en_ ec_;(first|subst ea_|(injection ea_ with ea_;subst ea_));subst ec_;clear en_))
     have GB5:=Aside0.mk gb5
     have GG5:=Aside0.mk HG5
     clear gb5 gl5 HG5
     have HMgo5:=Aside0.mk (show(P0_ go5∨w.heap.size≤go5) from (HO_0.out.1 _ rfl))
     obtain⟨ce5,hcl5,hM5,hcc5,hfr5⟩:=Kd.R_elem HO_0.out z104 (x5_1:Int) p5 q5
     obtain rfl:=k104_openM hM5
     have hx5_0:wr.cell? ⟨go5,(x5_1:Int).toNat * 5,none⟩=some (.int .i64 ((rd_T104 x0_1 x5_1).f0)):=hcc5 0 _ rfl
     have hx5_1:wr.cell? ⟨go5,(x5_1:Int).toNat * 5+1,none⟩=some (.int .i64 ((rd_T104 x0_1 x5_1).f1)):=hcc5 1 _ rfl
     have hx5_2:wr.cell? ⟨go5,(x5_1:Int).toNat * 5+2,none⟩=some (.int .i64 ((rd_T104 x0_1 x5_1).f2)):=hcc5 2 _ rfl
     have hx5_3:wr.cell? ⟨go5,(x5_1:Int).toNat * 5+3,none⟩=some (.int .i64 ((rd_T104 x0_1 x5_1).f3)):=hcc5 3 _ rfl
     have hx5_4:wr.cell? ⟨go5,(x5_1:Int).toNat * 5+4,none⟩=some (.int .i64 ((rd_T104 x0_1 x5_1).f4)):=hcc5 4 _ rfl
     have hf5_0:wr.frozen? ⟨go5,(x5_1:Int).toNat * 5,none⟩=false:=hfr5 0
     have hf5_1:wr.frozen? ⟨go5,(x5_1:Int).toNat * 5+1,none⟩=false:=hfr5 1
     have hf5_2:wr.frozen? ⟨go5,(x5_1:Int).toNat * 5+2,none⟩=false:=hfr5 2
     have hf5_3:wr.frozen? ⟨go5,(x5_1:Int).toNat * 5+3,none⟩=false:=hfr5 3
     have hf5_4:wr.frozen? ⟨go5,(x5_1:Int).toNat * 5+4,none⟩=false:=hfr5 4
     clear hcl5 hcc5 hfr5 hM5
     replace p5:=eq_true p5
     replace q5:=eq_true q5
     have HX11:=Aside0.mk (show Kd.R k104 104 wr w0.heap.size (fun k_=>(P0_ k_∨w.heap.size≤k_)) (.slice (some ⟨go5,0,none⟩) x0_1.length co10) x0_1 from (bK HO_0.out))
     obtain⟨ce11,hcl11,hM11,hcc11,hfr11⟩:=Kd.R_elem HX11.out z104 (x5_1:Int) (of_decide_eq_true (bD)) (by have h_:(x5_1:Int) < ((x0_1.length:Int):Int):=of_decide_eq_true (bD);first|exact h_|(have e_:=(Kd.R_reads' HO_0.out).1;omega)|simpa using h_)
     obtain rfl:=k104_openM hM11
     have HP11:=Kd.R_seg HX11.out (x5_1:Int) (of_decide_eq_true (bD)) (by have h_:(x5_1:Int) < ((x0_1.length:Int):Int):=of_decide_eq_true (bD);first|exact h_|(have e_:=(Kd.R_reads' HO_0.out).1;omega)|simpa using h_) (seg:=[.int .i64 x1_1]) (j:=0) hcl11 hcc11 (show 1≤5 from by decide) (x':=(⟨x1_1,(rd_T104 x0_1 x5_1).f1,(rd_T104 x0_1 x5_1).f2,(rd_T104 x0_1 x5_1).f3,(rd_T104 x0_1 x5_1).f4⟩:S104)) (k104_mkM _ _ _ (⟨x1_1,(rd_T104 x0_1 x5_1).f1,(rd_T104 x0_1 x5_1).f2,(rd_T104 x0_1 x5_1).f3,(rd_T104 x0_1 x5_1).f4⟩:S104) ) (fun _ hk=>hk)
     have hx11_0:=hcc11 0 _ rfl
     (try simp only[show(k104).sz=5 from rfl,Nat.mul_one,Nat.add_zero] at hx11_0)
     have hf11_0:=hfr11 0
     (try simp only[show(k104).sz=5 from rfl,Nat.mul_one,Nat.add_zero] at hf11_0)
     clear hcl11 hcc11 hfr11 hM11
     go_wp2_with (first|((with_reducible refine gate_store (t:=3) (p:=16) rfl ?_);refine store_event (t:=3) (p:=16) (v:=?vo_w12) (w1:=(wr.setCell ⟨go5,(x5_1:Int).toNat * 5,none⟩ (.int .i64 x1_1))) ?hg ?ho ?hn ?hr ?_;(case ho=>rfl);(case hg=>rfl);(case hn=>rfl);(case hr=>first|(go_simp;done)|(go_simp;rfl));intro w12 hw;have hg:wr.grownBy w12 (some go5):=(by rw[hw];exact HP11.2);have hp_:Kd.R k104 104 w12 w0.heap.size (fun k_=>(P0_ k_∨w.heap.size≤k_)) (.slice (some ⟨go5,0,none⟩) x0_1.length co10) y121:=(by rw[hw,Ny121.out];exact HP11.1);clear HP11;have n0_:=Aside0.mk (hp_);have n1_:=Aside0.mk ((by rw[hw];exact below_set (HB.out) GB5.out:Below w0.heap.size w0 w12));have n2_:=Aside0.mk (Kept.of_grown (S:=(fun k_=>P0_ k_)) hg (by repeat (first|(with_reducible first|exact HK.out|apply Kept.alloc|apply Kept.drewN|apply Kept.drew)|exact HK.out)) (fun k_ e_=>(HO_0.out.1 k_ e_)));clear HO_0 HB HK;have HO_0:=n0_;have HB:=n1_;have HK:=n2_;clear n0_ n1_ n2_;clear hg hw hp_;have p6:0≤(x5_1:Int):=of_decide_eq_true (bD);have q6:(x5_1:Int) < ((x0_1.length:Int):Int):=of_decide_eq_true (bD);obtain⟨ce6,hcl6,hM6,hcc6,hfr6⟩:=Kd.R_elem HO_0.out z104 (x5_1:Int) p6 q6;obtain rfl:=k104_openM hM6;have hx6_0:w12.cell? ⟨go5,(x5_1:Int).toNat * 5,none⟩=some (.int .i64 ((rd_T104 y121 x5_1).f0)):=hcc6 0 _ rfl;have hx6_1:w12.cell? ⟨go5,(x5_1:Int).toNat * 5+1,none⟩=some (.int .i64 ((rd_T104 y121 x5_1).f1)):=hcc6 1 _ rfl;have hx6_2:w12.cell? ⟨go5,(x5_1:Int).toNat * 5+2,none⟩=some (.int .i64 ((rd_T104 y121 x5_1).f2)):=hcc6 2 _ rfl;have hx6_3:w12.cell? ⟨go5,(x5_1:Int).toNat * 5+3,none⟩=some (.int .i64 ((rd_T104 y121 x5_1).f3)):=hcc6 3 _ rfl;have hx6_4:w12.cell? ⟨go5,(x5_1:Int).toNat * 5+4,none⟩=some (.int .i64 ((rd_T104 y121 x5_1).f4)):=hcc6 4 _ rfl;have hf6_0:w12.frozen? ⟨go5,(x5_1:Int).toNat * 5,none⟩=false:=hfr6 0;have hf6_1:w12.frozen? ⟨go5,(x5_1:Int).toNat * 5+1,none⟩=false:=hfr6 1;have hf6_2:w12.frozen? ⟨go5,(x5_1:Int).toNat * 5+2,none⟩=false:=hfr6 2;have hf6_3:w12.frozen? ⟨go5,(x5_1:Int).toNat * 5+3,none⟩=false:=hfr6 3;have hf6_4:w12.frozen? ⟨go5,(x5_1:Int).toNat * 5+4,none⟩=false:=hfr6 4;clear hcl6 hcc6 hfr6 hM6;replace p6:=eq_true p6;replace q6:=eq_true q6;have HX13:=Aside0.mk (show Kd.R k104 104 w12 w0.heap.size (fun k_=>(P0_ k_∨w.heap.size≤k_)) (.slice (some ⟨go5,0,none⟩) x0_1.length co10) y121 from (bK HO_0.out));obtain⟨ce13,hcl13,hM13,hcc13,hfr13⟩:=Kd.R_elem HX13.out z104 (x5_1:Int) (of_decide_eq_true (bD)) (by have h_:(x5_1:Int) < ((x0_1.length:Int):Int):=of_decide_eq_true (bD);first|exact h_|(have e_:=(Kd.R_reads' HO_0.out).1;omega)|simpa using h_);obtain rfl:=k104_openM hM13;have HP13:=Kd.R_seg HX13.out (x5_1:Int) (of_decide_eq_true (bD)) (by have h_:(x5_1:Int) < ((x0_1.length:Int):Int):=of_decide_eq_true (bD);first|exact h_|(have e_:=(Kd.R_reads' HO_0.out).1;omega)|simpa using h_) (seg:=[.int .i64 (wrap64 (x1_1+1))]) (j:=1) hcl13 hcc13 (show 2≤5 from by decide) (x':=(⟨(rd_T104 y121 x5_1).f0,wrap64 (x1_1+1),(rd_T104 y121 x5_1).f2,(rd_T104 y121 x5_1).f3,(rd_T104 y121 x5_1).f4⟩:S104)) (k104_mkM _ _ _ (⟨(rd_T104 y121 x5_1).f0,wrap64 (x1_1+1),(rd_T104 y121 x5_1).f2,(rd_T104 y121 x5_1).f3,(rd_T104 y121 x5_1).f4⟩:S104) ) (fun _ hk=>hk);have hx13_1:=hcc13 1 _ rfl;(try simp only[show(k104).sz=5 from rfl,Nat.mul_one,Nat.add_zero] at hx13_1);have hf13_1:=hfr13 1;(try simp only[show(k104).sz=5 from rfl,Nat.mul_one,Nat.add_zero] at hf13_1);clear hcl13 hcc13 hfr13 hM13)|((with_reducible refine gate_store (t:=3) (p:=23) rfl ?_);refine store_event (t:=3) (p:=23) (v:=?vo_w14) (w1:=(w12.setCell ⟨go5,(x5_1:Int).toNat * 5+1,none⟩ (.int .i64 (wrap64 (x1_1+1))))) ?hg ?ho ?hn ?hr ?_;(case ho=>rfl);(case hg=>rfl);(case hn=>rfl);(case hr=>first|(go_simp;done)|(go_simp;rfl));intro w14 hw;have hg:w12.grownBy w14 (some go5):=(by rw[hw];exact HP13.2);have hp_:Kd.R k104 104 w14 w0.heap.size (fun k_=>(P0_ k_∨w.heap.size≤k_)) (.slice (some ⟨go5,0,none⟩) x0_1.length co10) y122:=(by rw[hw,Ny122.out];exact HP13.1);clear HP13;have n0_:=Aside0.mk (hp_);have n1_:=Aside0.mk ((by rw[hw];exact below_set (HB.out) GB5.out:Below w0.heap.size w0 w14));have n2_:=Aside0.mk (Kept.of_grown (S:=(fun k_=>P0_ k_)) hg (by repeat (first|(with_reducible first|exact HK.out|apply Kept.alloc|apply Kept.drewN|apply Kept.drew)|exact HK.out)) (fun k_ e_=>(HO_0.out.1 k_ e_)));clear HO_0 HB HK;have HO_0:=n0_;have HB:=n1_;have HK:=n2_;clear n0_ n1_ n2_;clear hg hw hp_;have p7:0≤(x5_1:Int):=of_decide_eq_true (bD);have q7:(x5_1:Int) < ((x0_1.length:Int):Int):=of_decide_eq_true (bD);obtain⟨ce7,hcl7,hM7,hcc7,hfr7⟩:=Kd.R_elem HO_0.out z104 (x5_1:Int) p7 q7;obtain rfl:=k104_openM hM7;have hx7_0:w14.cell? ⟨go5,(x5_1:Int).toNat * 5,none⟩=some (.int .i64 ((rd_T104 y122 x5_1).f0)):=hcc7 0 _ rfl;have hx7_1:w14.cell? ⟨go5,(x5_1:Int).toNat * 5+1,none⟩=some (.int .i64 ((rd_T104 y122 x5_1).f1)):=hcc7 1 _ rfl;have hx7_2:w14.cell? ⟨go5,(x5_1:Int).toNat * 5+2,none⟩=some (.int .i64 ((rd_T104 y122 x5_1).f2)):=hcc7 2 _ rfl;have hx7_3:w14.cell? ⟨go5,(x5_1:Int).toNat * 5+3,none⟩=some (.int .i64 ((rd_T104 y122 x5_1).f3)):=hcc7 3 _ rfl;have hx7_4:w14.cell? ⟨go5,(x5_1:Int).toNat * 5+4,none⟩=some (.int .i64 ((rd_T104 y122 x5_1).f4)):=hcc7 4 _ rfl;have hf7_0:w14.frozen? ⟨go5,(x5_1:Int).toNat * 5,none⟩=false:=hfr7 0;have hf7_1:w14.frozen? ⟨go5,(x5_1:Int).toNat * 5+1,none⟩=false:=hfr7 1;have hf7_2:w14.frozen? ⟨go5,(x5_1:Int).toNat * 5+2,none⟩=false:=hfr7 2;have hf7_3:w14.frozen? ⟨go5,(x5_1:Int).toNat * 5+3,none⟩=false:=hfr7 3;have hf7_4:w14.frozen? ⟨go5,(x5_1:Int).toNat * 5+4,none⟩=false:=hfr7 4;clear hcl7 hcc7 hfr7 hM7;replace p7:=eq_true p7;replace q7:=eq_true q7;have HX15:=Aside0.mk (show Kd.R k104 104 w14 w0.heap.size (fun k_=>(P0_ k_∨w.heap.size≤k_)) (.slice (some ⟨go5,0,none⟩) x0_1.length co10) y122 from (bK HO_0.out));obtain⟨ce15,hcl15,hM15,hcc15,hfr15⟩:=Kd.R_elem HX15.out z104 (x5_1:Int) (of_decide_eq_true (bD)) (by have h_:(x5_1:Int) < ((x0_1.length:Int):Int):=of_decide_eq_true (bD);first|exact h_|(have e_:=(Kd.R_reads' HO_0.out).1;omega)|simpa using h_);obtain rfl:=k104_openM hM15;have HP15:=Kd.R_seg HX15.out (x5_1:Int) (of_decide_eq_true (bD)) (by have h_:(x5_1:Int) < ((x0_1.length:Int):Int):=of_decide_eq_true (bD);first|exact h_|(have e_:=(Kd.R_reads' HO_0.out).1;omega)|simpa using h_) (seg:=[.int .i64 (wrap64 ((wrap64 (x1_1+1))+1))]) (j:=2) hcl15 hcc15 (show 3≤5 from by decide) (x':=(⟨(rd_T104 y122 x5_1).f0,(rd_T104 y122 x5_1).f1,wrap64 ((wrap64 (x1_1+1))+1),(rd_T104 y122 x5_1).f3,(rd_T104 y122 x5_1).f4⟩:S104)) (k104_mkM _ _ _ (⟨(rd_T104 y122 x5_1).f0,(rd_T104 y122 x5_1).f1,wrap64 ((wrap64 (x1_1+1))+1),(rd_T104 y122 x5_1).f3,(rd_T104 y122 x5_1).f4⟩:S104) ) (fun _ hk=>hk);have hx15_2:=hcc15 2 _ rfl;(try simp only[show(k104).sz=5 from rfl,Nat.mul_one,Nat.add_zero] at hx15_2);have hf15_2:=hfr15 2;(try simp only[show(k104).sz=5 from rfl,Nat.mul_one,Nat.add_zero] at hf15_2);clear hcl15 hcc15 hfr15 hM15)|((with_reducible refine gate_store (t:=3) (p:=30) rfl ?_);refine store_event (t:=3) (p:=30) (v:=?vo_w16) (w1:=(w14.setCell ⟨go5,(x5_1:Int).toNat * 5+2,none⟩ (.int .i64 (wrap64 ((wrap64 (x1_1+1))+1))))) ?hg ?ho ?hn ?hr ?_;(case ho=>rfl);(case hg=>rfl);(case hn=>rfl);(case hr=>first|(go_simp;done)|(go_simp;rfl));intro w16 hw;have hg:w14.grownBy w16 (some go5):=(by rw[hw];exact HP15.2);have hp_:Kd.R k104 104 w16 w0.heap.size (fun k_=>(P0_ k_∨w.heap.size≤k_)) (.slice (some ⟨go5,0,none⟩) x0_1.length co10) y123:=(by rw[hw,Ny123.out];exact HP15.1);clear HP15;have n0_:=Aside0.mk (hp_);have n1_:=Aside0.mk ((by rw[hw];exact below_set (HB.out) GB5.out:Below w0.heap.size w0 w16));have n2_:=Aside0.mk (Kept.of_grown (S:=(fun k_=>P0_ k_)) hg (by repeat (first|(with_reducible first|exact HK.out|apply Kept.alloc|apply Kept.drewN|apply Kept.drew)|exact HK.out)) (fun k_ e_=>(HO_0.out.1 k_ e_)));clear HO_0 HB HK;have HO_0:=n0_;have HB:=n1_;have HK:=n2_;clear n0_ n1_ n2_;clear hg hw hp_;have p8:0≤(x5_1:Int):=of_decide_eq_true (bD);have q8:(x5_1:Int) < ((x0_1.length:Int):Int):=of_decide_eq_true (bD);obtain⟨ce8,hcl8,hM8,hcc8,hfr8⟩:=Kd.R_elem HO_0.out z104 (x5_1:Int) p8 q8;obtain rfl:=k104_openM hM8;have hx8_0:w16.cell? ⟨go5,(x5_1:Int).toNat * 5,none⟩=some (.int .i64 ((rd_T104 y123 x5_1).f0)):=hcc8 0 _ rfl;have hx8_1:w16.cell? ⟨go5,(x5_1:Int).toNat * 5+1,none⟩=some (.int .i64 ((rd_T104 y123 x5_1).f1)):=hcc8 1 _ rfl;have hx8_2:w16.cell? ⟨go5,(x5_1:Int).toNat * 5+2,none⟩=some (.int .i64 ((rd_T104 y123 x5_1).f2)):=hcc8 2 _ rfl;have hx8_3:w16.cell? ⟨go5,(x5_1:Int).toNat * 5+3,none⟩=some (.int .i64 ((rd_T104 y123 x5_1).f3)):=hcc8 3 _ rfl;have hx8_4:w16.cell? ⟨go5,(x5_1:Int).toNat * 5+4,none⟩=some (.int .i64 ((rd_T104 y123 x5_1).f4)):=hcc8 4 _ rfl;have hf8_0:w16.frozen? ⟨go5,(x5_1:Int).toNat * 5,none⟩=false:=hfr8 0;have hf8_1:w16.frozen? ⟨go5,(x5_1:Int).toNat * 5+1,none⟩=false:=hfr8 1;have hf8_2:w16.frozen? ⟨go5,(x5_1:Int).toNat * 5+2,none⟩=false:=hfr8 2;have hf8_3:w16.frozen? ⟨go5,(x5_1:Int).toNat * 5+3,none⟩=false:=hfr8 3;have hf8_4:w16.frozen? ⟨go5,(x5_1:Int).toNat * 5+4,none⟩=false:=hfr8 4;clear hcl8 hcc8 hfr8 hM8;replace p8:=eq_true p8;replace q8:=eq_true q8;have HX17:=Aside0.mk (show Kd.R k104 104 w16 w0.heap.size (fun k_=>(P0_ k_∨w.heap.size≤k_)) (.slice (some ⟨go5,0,none⟩) x0_1.length co10) y123 from (bK HO_0.out));obtain⟨ce17,hcl17,hM17,hcc17,hfr17⟩:=Kd.R_elem HX17.out z104 (x5_1:Int) (of_decide_eq_true (bD)) (by have h_:(x5_1:Int) < ((x0_1.length:Int):Int):=of_decide_eq_true (bD);first|exact h_|(have e_:=(Kd.R_reads' HO_0.out).1;omega)|simpa using h_);obtain rfl:=k104_openM hM17;have HP17:=Kd.R_seg HX17.out (x5_1:Int) (of_decide_eq_true (bD)) (by have h_:(x5_1:Int) < ((x0_1.length:Int):Int):=of_decide_eq_true (bD);first|exact h_|(have e_:=(Kd.R_reads' HO_0.out).1;omega)|simpa using h_) (seg:=[.int .i64 (wrap64 ((wrap64 ((wrap64 (x1_1+1))+1))+1))]) (j:=3) hcl17 hcc17 (show 4≤5 from by decide) (x':=(⟨(rd_T104 y123 x5_1).f0,(rd_T104 y123 x5_1).f1,(rd_T104 y123 x5_1).f2,wrap64 ((wrap64 ((wrap64 (x1_1+1))+1))+1),(rd_T104 y123 x5_1).f4⟩:S104)) (k104_mkM _ _ _ (⟨(rd_T104 y123 x5_1).f0,(rd_T104 y123 x5_1).f1,(rd_T104 y123 x5_1).f2,wrap64 ((wrap64 ((wrap64 (x1_1+1))+1))+1),(rd_T104 y123 x5_1).f4⟩:S104) ) (fun _ hk=>hk);have hx17_3:=hcc17 3 _ rfl;(try simp only[show(k104).sz=5 from rfl,Nat.mul_one,Nat.add_zero] at hx17_3);have hf17_3:=hfr17 3;(try simp only[show(k104).sz=5 from rfl,Nat.mul_one,Nat.add_zero] at hf17_3);clear hcl17 hcc17 hfr17 hM17)|((with_reducible refine gate_store (t:=3) (p:=37) rfl ?_);refine store_event (t:=3) (p:=37) (v:=?vo_w18) (w1:=(w16.setCell ⟨go5,(x5_1:Int).toNat * 5+3,none⟩ (.int .i64 (wrap64 ((wrap64 ((wrap64 (x1_1+1))+1))+1))))) ?hg ?ho ?hn ?hr ?_;(case ho=>rfl);(case hg=>rfl);(case hn=>rfl);(case hr=>first|(go_simp;done)|(go_simp;rfl));intro w18 hw;have hg:w16.grownBy w18 (some go5):=(by rw[hw];exact HP17.2);have hp_:Kd.R k104 104 w18 w0.heap.size (fun k_=>(P0_ k_∨w.heap.size≤k_)) (.slice (some ⟨go5,0,none⟩) x0_1.length co10) y124:=(by rw[hw,Ny124.out];exact HP17.1);clear HP17;have n0_:=Aside0.mk (hp_);have n1_:=Aside0.mk ((by rw[hw];exact below_set (HB.out) GB5.out:Below w0.heap.size w0 w18));have n2_:=Aside0.mk (Kept.of_grown (S:=(fun k_=>P0_ k_)) hg (by repeat (first|(with_reducible first|exact HK.out|apply Kept.alloc|apply Kept.drewN|apply Kept.drew)|exact HK.out)) (fun k_ e_=>(HO_0.out.1 k_ e_)));clear HO_0 HB HK;have HO_0:=n0_;have HB:=n1_;have HK:=n2_;clear n0_ n1_ n2_;clear hg hw hp_;have p9:0≤(x5_1:Int):=of_decide_eq_true (bD);have q9:(x5_1:Int) < ((x0_1.length:Int):Int):=of_decide_eq_true (bD);obtain⟨ce9,hcl9,hM9,hcc9,hfr9⟩:=Kd.R_elem HO_0.out z104 (x5_1:Int) p9 q9;obtain rfl:=k104_openM hM9;have hx9_0:w18.cell? ⟨go5,(x5_1:Int).toNat * 5,none⟩=some (.int .i64 ((rd_T104 y124 x5_1).f0)):=hcc9 0 _ rfl;have hx9_1:w18.cell? ⟨go5,(x5_1:Int).toNat * 5+1,none⟩=some (.int .i64 ((rd_T104 y124 x5_1).f1)):=hcc9 1 _ rfl;have hx9_2:w18.cell? ⟨go5,(x5_1:Int).toNat * 5+2,none⟩=some (.int .i64 ((rd_T104 y124 x5_1).f2)):=hcc9 2 _ rfl;have hx9_3:w18.cell? ⟨go5,(x5_1:Int).toNat * 5+3,none⟩=some (.int .i64 ((rd_T104 y124 x5_1).f3)):=hcc9 3 _ rfl;have hx9_4:w18.cell? ⟨go5,(x5_1:Int).toNat * 5+4,none⟩=some (.int .i64 ((rd_T104 y124 x5_1).f4)):=hcc9 4 _ rfl;have hf9_0:w18.frozen? ⟨go5,(x5_1:Int).toNat * 5,none⟩=false:=hfr9 0;have hf9_1:w18.frozen? ⟨go5,(x5_1:Int).toNat * 5+1,none⟩=false:=hfr9 1;have hf9_2:w18.frozen? ⟨go5,(x5_1:Int).toNat * 5+2,none⟩=false:=hfr9 2;have hf9_3:w18.frozen? ⟨go5,(x5_1:Int).toNat * 5+3,none⟩=false:=hfr9 3;have hf9_4:w18.frozen? ⟨go5,(x5_1:Int).toNat * 5+4,none⟩=false:=hfr9 4;clear hcl9 hcc9 hfr9 hM9;replace p9:=eq_true p9;replace q9:=eq_true q9;have HX19:=Aside0.mk (show Kd.R k104 104 w18 w0.heap.size (fun k_=>(P0_ k_∨w.heap.size≤k_)) (.slice (some ⟨go5,0,none⟩) x0_1.length co10) y124 from (bK HO_0.out));obtain⟨ce19,hcl19,hM19,hcc19,hfr19⟩:=Kd.R_elem HX19.out z104 (x5_1:Int) (of_decide_eq_true (bD)) (by have h_:(x5_1:Int) < ((x0_1.length:Int):Int):=of_decide_eq_true (bD);first|exact h_|(have e_:=(Kd.R_reads' HO_0.out).1;omega)|simpa using h_);obtain rfl:=k104_openM hM19;have HP19:=Kd.R_seg HX19.out (x5_1:Int) (of_decide_eq_true (bD)) (by have h_:(x5_1:Int) < ((x0_1.length:Int):Int):=of_decide_eq_true (bD);first|exact h_|(have e_:=(Kd.R_reads' HO_0.out).1;omega)|simpa using h_) (seg:=[.int .i64 (wrap64 ((wrap64 ((wrap64 ((wrap64 (x1_1+1))+1))+1))+1))]) (j:=4) hcl19 hcc19 (show 5≤5 from by decide) (x':=(⟨(rd_T104 y124 x5_1).f0,(rd_T104 y124 x5_1).f1,(rd_T104 y124 x5_1).f2,(rd_T104 y124 x5_1).f3,wrap64 ((wrap64 ((wrap64 ((wrap64 (x1_1+1))+1))+1))+1)⟩:S104)) (k104_mkM _ _ _ (⟨(rd_T104 y124 x5_1).f0,(rd_T104 y124 x5_1).f1,(rd_T104 y124 x5_1).f2,(rd_T104 y124 x5_1).f3,wrap64 ((wrap64 ((wrap64 ((wrap64 (x1_1+1))+1))+1))+1)⟩:S104) ) (fun _ hk=>hk);have hx19_4:=hcc19 4 _ rfl;(try simp only[show(k104).sz=5 from rfl,Nat.mul_one,Nat.add_zero] at hx19_4);have hf19_4:=hfr19 4;(try simp only[show(k104).sz=5 from rfl,Nat.mul_one,Nat.add_zero] at hf19_4);clear hcl19 hcc19 hfr19 hM19)|((with_reducible refine gate_store (t:=3) (p:=44) rfl ?_);refine store_event (t:=3) (p:=44) (v:=?vo_w20) (w1:=(w18.setCell ⟨go5,(x5_1:Int).toNat * 5+4,none⟩ (.int .i64 (wrap64 ((wrap64 ((wrap64 ((wrap64 (x1_1+1))+1))+1))+1))))) ?hg ?ho ?hn ?hr ?_;(case ho=>rfl);(case hg=>rfl);(case hn=>rfl);(case hr=>first|(go_simp;done)|(go_simp;rfl));intro w20 hw;have hg:w18.grownBy w20 (some go5):=(by rw[hw];exact HP19.2);have hp_:Kd.R k104 104 w20 w0.heap.size (fun k_=>(P0_ k_∨w.heap.size≤k_)) (.slice (some ⟨go5,0,none⟩) x0_1.length co10) y125:=(by rw[hw,Ny125.out];exact HP19.1);clear HP19;have n0_:=Aside0.mk (hp_);have n1_:=Aside0.mk ((by rw[hw];exact below_set (HB.out) GB5.out:Below w0.heap.size w0 w20));have n2_:=Aside0.mk (Kept.of_grown (S:=(fun k_=>P0_ k_)) hg (by repeat (first|(with_reducible first|exact HK.out|apply Kept.alloc|apply Kept.drewN|apply Kept.drew)|exact HK.out)) (fun k_ e_=>(HO_0.out.1 k_ e_)));clear HO_0 HB HK;have HO_0:=n0_;have HB:=n1_;have HK:=n2_;clear n0_ n1_ n2_;clear hg hw hp_))
     go_roundg k1
     case measure=>have:=HK1.out;omega
     case rel=>exact⟨(y125),(wrap64 ((wrap64 ((wrap64 ((wrap64 ((wrap64 (x1_1+1))+1))+1))+1))+1)),(wrap64 (x5_1+1)),(bR),(bR),H',⟨by have:=HK1.out;omega⟩,⟨by(with_reducible repeat (first|apply Kd.R_alloc|apply Kd.R_drewN|apply Kd.R_drew));exact HO_0.out⟩,⟨by repeat (first|(with_reducible first|exact HK.out|apply Kept.alloc|apply Kept.drewN|apply Kept.drew)|exact HK.out)⟩,⟨by repeat (first|(with_reducible first|exact HB.out|apply below_alloc|apply pw_below_drewN|apply below_drew1)|exact HB.out)⟩⟩
    ·rw[if_neg c4] at H
     exact absurd H (by simp)
   ·rw[if_neg c3] at H
    have c3b0:decide (x5_1 < (x0_1.length:Int))=false:=decide_eq_false c3
    clear c3
    simp only[Option.some.injEq,Prod.mk.injEq] at H
    obtain⟨rfl,rfl⟩:=H
    obtain⟨Ao21,co21,eo21⟩:=Kd.R_slice HO_0.out
    subst eo21
    go_wp2
    go_ret
    exact⟨bE,by(with_reducible repeat (first|apply Kd.R_alloc|apply Kd.R_drewN|apply Kd.R_drew));exact HO_0.out,by repeat (first|(with_reducible first|exact HB.out|apply below_alloc|apply pw_below_drewN|apply below_drew1)|exact HB.out),by repeat (first|(with_reducible first|exact HK.out|apply Kept.alloc|apply Kept.drewN|apply Kept.drew)|exact HK.out)⟩

/-! ### laws_markIntS: function 29 -/
def laws_markIntS.l0:Nat→List Int→Int→Int→Option (Int × List Int)
 | 0,_,_,_=>none
 | k+1,x0,x1,x5=>if x5 < (x0.length:Int) then (if 0≤x5 then (laws_markIntS.l0 k (x0.set (x5:Int).toNat x1) (wrap64 (x1+1)) (wrap64 (x5+1))) else (none)) else (some (x1,x0))
def laws_markIntS.f (k:Nat) (l0:List Int) (a1:Int):Option (Int × List Int):=laws_markIntS.l0 k l0 a1 0
theorem laws_markIntS.mono_l : ∀ k,(∀ y0 y1 y2,LeO (laws_markIntS.l0 k y0 y1 y2) (laws_markIntS.l0 (k+1) y0 y1 y2))
 | 0=>fun _ _ _ r h=>by simp[laws_markIntS.l0] at h
 | k+1=>by
  have ih0:=laws_markIntS.mono_l k
  ·intro y0 y1 y2
   unfold laws_markIntS.l0
   repeat' first
   | (with_reducible exact ih0 _ _ _)
   | (with_reducible exact LeO.refl _)
   | (with_reducible exact LeO.none _)
   | (with_reducible refine LeO.ite ?_ ?_)
   | (with_reducible refine LeO.bind ?_ (fun _ => ?_))
   | exact ih0 _ _ _
   | exact LeO.none _
   | refine LeO.ite ?_ ?_
   | refine LeO.bind ?_ (fun _ => ?_)
theorem laws_markIntS.mono : ∀ a0 a1 k,LeO (laws_markIntS.f k a0 a1) (laws_markIntS.f (k+1) a0 a1):=by
 intro a0 a1 k
 have ih0:=laws_markIntS.mono_l k
 unfold laws_markIntS.f
 repeat' first
  | (with_reducible exact ih0 _ _ _)
  | (with_reducible exact LeO.refl _)
  | (with_reducible exact LeO.none _)
  | (with_reducible refine LeO.ite ?_ ?_)
  | (with_reducible refine LeO.bind ?_ (fun _ => ?_))
  | exact ih0 _ _ _
  | exact LeO.none _
  | refine LeO.ite ?_ ?_
  | refine LeO.bind ?_ (fun _ => ?_)
set_option maxHeartbeats 8000000 in
set_option maxRecDepth 100000 in
theorem laws_markIntS.calls (k:Nat) (P0_:Nat→Prop) (u9000_:Value) (l0:List Int) (a1:Int) (r1:Int) (r2:List Int) (w0 w:World) (hB:Below w0.heap.size w0 w) (ho0:Kd.R (Kd.int .i64) 3 w w0.heap.size P0_ u9000_ l0) (h:laws_markIntS.f k l0 a1=some (r1,r2)) :
  Calls Try.prog 29 #[u9000_,.int .i64 a1] w fun e w'=>e=.returned (.int .i64 r1)∧Kd.R (Kd.int .i64) 3 w' w0.heap.size (fun k_=>(P0_ k_∨w.heap.size≤k_)) u9000_ r2∧Below w0.heap.size w0 w'∧Kept w w' (fun k_=>P0_ k_):=by
 have HO0:=Aside0.mk (show Kd.R (Kd.int .i64) 3 w w0.heap.size (fun k_=>(P0_ k_∨w.heap.size≤k_)) u9000_ l0 from Kd.R_mono ho0 (fun k_ hk=>(.inl hk)))
 have HK:=Aside0.mk (Kept.refl w (fun k_=>P0_ k_))
 have HW0:=Aside0.mk hB.size
 have HB:=Aside0.mk hB
 clear hB
 have H:(laws_markIntS.l0 k l0 a1 0)=some (r1,r2):=h
 clear h
 have H':=Aside0.mk H
 clear H
 go_enter Try.func29,Try.ntmps29
 go_wp2
 go_loopg [1,5] k (fun kq v1 v5 w' => ∃ (x0_1:List Int) (x1_1:Int) (x5_1:Int),v1=.int .i64 x1_1∧v5=.int .i64 x5_1∧Aside0 (laws_markIntS.l0 kq x0_1 x1_1 x5_1=some (r1,r2))∧Aside0 (kq≤k)∧Aside0 (Kd.R (Kd.int .i64) 3 w' w0.heap.size (fun k_=>(P0_ k_∨w.heap.size≤k_)) u9000_ x0_1)∧Aside0 (Kept w w' (fun k_=>P0_ k_))∧Aside0 (Below w0.heap.size w0 w'))
 case atStart=>exact⟨(l0),(a1),(0),(bR),(bR),H',⟨Nat.le_refl _⟩,⟨by(with_reducible repeat (first|apply Kd.R_alloc|apply Kd.R_drewN|apply Kd.R_drew));exact HO0.out⟩,⟨by repeat (first|(with_reducible first|exact HK.out|apply Kept.alloc|apply Kept.drewN|apply Kept.drew)|exact HK.out)⟩,⟨by repeat (first|(with_reducible first|exact HB.out|apply below_alloc|apply pw_below_drewN|apply below_drew1)|exact HB.out)⟩⟩
 case round =>
  clear H'
  try clear c2
  try clear p2
  obtain⟨x0_1,x1_1,x5_1,rfl,rfl,HA,HK1,HO_0,HK,HB⟩:=hrel
  cases gk with
  | zero=>exact absurd HA.out (by simp[laws_markIntS.l0])
  | succ k1 =>
   have H:=HA.out
   clear HA
   simp only[laws_markIntS.l0] at H
   by_cases c3:x5_1 < (x0_1.length:Int)
   ·rw[if_pos c3] at H
    have c3b0:decide (x5_1 < (x0_1.length:Int))=true:=decide_eq_true c3
    clear c3
    by_cases c4:0≤x5_1
    ·rw[if_pos c4] at H
     have c4b0:decide (0≤x5_1)=true:=decide_eq_true c4
     clear c4
     obtain⟨y126,hy126⟩ : ∃ y_:List Int,y_=(x0_1.set (x5_1:Int).toNat x1_1):=⟨_,rfl⟩
     replace H:(laws_markIntS.l0 k1 y126 (wrap64 (x1_1+1)) (wrap64 (x5_1+1)))=some (r1,r2):=by first|(rw[hy126];with_reducible exact H)|(have H2_:=(Option.bind_some _ _).symm.trans H;rw[hy126];with_reducible exact H2_)|(have H2_:=(Option.bind_some _ _).symm.trans H;with_reducible exact H2_)|with_reducible exact H|(rw[hy126];exact H)|exact H
     have Ny126:=Aside0.mk hy126
     clear hy126
     have H':=Aside0.mk H
     clear H
     obtain⟨Ao6,co6,eo6⟩:=Kd.R_slice HO_0.out
     subst eo6
     have p5:0≤(x5_1:Int):=of_decide_eq_true (bD)
     have q5:(x5_1:Int) < ((x0_1.length:Int):Int):=of_decide_eq_true (bD)
     obtain⟨go5,co5,eo5,gb5,gl5,cl5,HG5⟩:=Kd.R_form HO_0.out (by omega)
     (first|cases eo5|(injection eo5 with ea_ en_ ec_;(first|subst ea_|(injection ea_ with ea_;subst ea_));subst ec_;clear en_))
     have GB5:=Aside0.mk gb5
     have GG5:=Aside0.mk HG5
     clear gb5 gl5 HG5
     have HMgo5:=Aside0.mk (show(P0_ go5∨w.heap.size≤go5) from (HO_0.out.1 _ rfl))
     obtain⟨hx5_0,hf5_0⟩:=Kd.R_celln 0 HO_0.out (x5_1:Int) p5 q5
     replace p5:=eq_true p5
     replace q5:=eq_true q5
     have HP7:=Kd.R_putg HO_0.out (x5_1:Int) x1_1
     go_wp2_with (first|((with_reducible refine gate_store (t:=3) (p:=15) rfl ?_);refine store_event (t:=3) (p:=15) (v:=?vo_w8) (w1:=(wr.setCell ⟨go5,(x5_1:Int).toNat,none⟩ (.int .i64 x1_1))) ?hg ?ho ?hn ?hr ?_;(case ho=>rfl);(case hg=>rfl);(case hn=>rfl);(case hr=>first|(go_simp;done)|(go_simp;rfl));intro w8 hw;have hg:wr.grownBy w8 (some go5):=(by rw[hw];exact HP7.2);have hp_:Kd.R (Kd.int .i64) 3 w8 w0.heap.size (fun k_=>(P0_ k_∨w.heap.size≤k_)) (.slice (some ⟨go5,0,none⟩) x0_1.length co6) y126:=(by rw[hw,Ny126.out];exact HP7.1);clear HP7;have n0_:=Aside0.mk (hp_);have n1_:=Aside0.mk ((by rw[hw];exact below_set (HB.out) GB5.out:Below w0.heap.size w0 w8));have n2_:=Aside0.mk (Kept.of_grown (S:=(fun k_=>P0_ k_)) hg (by repeat (first|(with_reducible first|exact HK.out|apply Kept.alloc|apply Kept.drewN|apply Kept.drew)|exact HK.out)) (fun k_ e_=>(HO_0.out.1 k_ e_)));clear HO_0 HB HK;have HO_0:=n0_;have HB:=n1_;have HK:=n2_;clear n0_ n1_ n2_;clear hg hw hp_))
     go_roundg k1
     case measure=>have:=HK1.out;omega
     case rel=>exact⟨(y126),(wrap64 (x1_1+1)),(wrap64 (x5_1+1)),(bR),(bR),H',⟨by have:=HK1.out;omega⟩,⟨by(with_reducible repeat (first|apply Kd.R_alloc|apply Kd.R_drewN|apply Kd.R_drew));exact HO_0.out⟩,⟨by repeat (first|(with_reducible first|exact HK.out|apply Kept.alloc|apply Kept.drewN|apply Kept.drew)|exact HK.out)⟩,⟨by repeat (first|(with_reducible first|exact HB.out|apply below_alloc|apply pw_below_drewN|apply below_drew1)|exact HB.out)⟩⟩
    ·rw[if_neg c4] at H
     exact absurd H (by simp)
   ·rw[if_neg c3] at H
    have c3b0:decide (x5_1 < (x0_1.length:Int))=false:=decide_eq_false c3
    clear c3
    simp only[Option.some.injEq,Prod.mk.injEq] at H
    obtain⟨rfl,rfl⟩:=H
    obtain⟨Ao9,co9,eo9⟩:=Kd.R_slice HO_0.out
    subst eo9
    go_wp2
    go_ret
    exact⟨bE,by(with_reducible repeat (first|apply Kd.R_alloc|apply Kd.R_drewN|apply Kd.R_drew));exact HO_0.out,by repeat (first|(with_reducible first|exact HB.out|apply below_alloc|apply pw_below_drewN|apply below_drew1)|exact HB.out),by repeat (first|(with_reducible first|exact HK.out|apply Kept.alloc|apply Kept.drewN|apply Kept.drew)|exact HK.out)⟩

/-! ### laws_heldIntS: function 30 -/
def laws_heldIntS.l0:Nat→List Int→Int→Int→Option (Int)
 | 0,_,_,_=>none
 | k+1,x0,x1,x5=>if x5 < (x0.length:Int) then (if 0≤x5 then (if (rd x0 x5)=x1 then (laws_heldIntS.l0 k x0 (wrap64 (x1+1)) (wrap64 (x5+1))) else (some (-1))) else (none)) else (some x1)
def laws_heldIntS.f (k:Nat) (l0:List Int) (a1:Int):Option (Int):=laws_heldIntS.l0 k l0 a1 0
theorem laws_heldIntS.mono_l : ∀ k,(∀ y0 y1 y2,LeO (laws_heldIntS.l0 k y0 y1 y2) (laws_heldIntS.l0 (k+1) y0 y1 y2))
 | 0=>fun _ _ _ r h=>by simp[laws_heldIntS.l0] at h
 | k+1=>by
  have ih0:=laws_heldIntS.mono_l k
  ·intro y0 y1 y2
   unfold laws_heldIntS.l0
   repeat' first
   | (with_reducible exact ih0 _ _ _)
   | (with_reducible exact LeO.refl _)
   | (with_reducible exact LeO.none _)
   | (with_reducible refine LeO.ite ?_ ?_)
   | (with_reducible refine LeO.bind ?_ (fun _ => ?_))
   | exact ih0 _ _ _
   | exact LeO.none _
   | refine LeO.ite ?_ ?_
   | refine LeO.bind ?_ (fun _ => ?_)
theorem laws_heldIntS.mono : ∀ a0 a1 k,LeO (laws_heldIntS.f k a0 a1) (laws_heldIntS.f (k+1) a0 a1):=by
 intro a0 a1 k
 have ih0:=laws_heldIntS.mono_l k
 unfold laws_heldIntS.f
 repeat' first
  | (with_reducible exact ih0 _ _ _)
  | (with_reducible exact LeO.refl _)
  | (with_reducible exact LeO.none _)
  | (with_reducible refine LeO.ite ?_ ?_)
  | (with_reducible refine LeO.bind ?_ (fun _ => ?_))
  | exact ih0 _ _ _
  | exact LeO.none _
  | refine LeO.ite ?_ ?_
  | refine LeO.bind ?_ (fun _ => ?_)
set_option maxHeartbeats 8000000 in
set_option maxRecDepth 100000 in
theorem laws_heldIntS.calls (k:Nat) (A0:Option Addr) (c0:Nat) (l0:List Int) (a1:Int) (r:Int) (w:World) (hr0:Kd.C (Kd.int .i64) w A0 l0.length l0) (hc0:l0.length≤c0) (h:laws_heldIntS.f k l0 a1=some r) :
  Calls Try.prog 30 #[.slice A0 l0.length c0,.int .i64 a1] w fun e w'=>e=.returned (.int .i64 r)∧Drawn0 w w':=by
 have HR0:=Aside0.mk hr0
 have HC0:=Aside0.mk hc0
 clear hr0 hc0
 have H:(laws_heldIntS.l0 k l0 a1 0)=some r:=h
 clear h
 have H':=Aside0.mk H
 clear H
 go_enter Try.func30,Try.ntmps30
 go_wp2
 go_loopg [1,5] k (fun kq v1 v5 w' => ∃ (x1_1:Int) (x5_1:Int),v1=.int .i64 x1_1∧v5=.int .i64 x5_1∧Aside0 (laws_heldIntS.l0 kq l0 x1_1 x5_1=some r)∧Aside0 (kq≤k)∧Drawn0 w w')
 case atStart=>exact⟨(a1),(0),(bR),(bR),H',⟨Nat.le_refl _⟩,bW⟩
 case round =>
  clear H'
  try clear p2
  obtain⟨x1_1,x5_1,rfl,rfl,HA,HK1,⟨m1,rfl⟩⟩:=hrel
  cases gk with
  | zero=>exact absurd HA.out (by simp[laws_heldIntS.l0])
  | succ k1 =>
   have H:=HA.out
   clear HA
   simp only[laws_heldIntS.l0] at H
   by_cases c3:x5_1 < (l0.length:Int)
   ·rw[if_pos c3] at H
    have c3b0:decide (x5_1 < (l0.length:Int))=true:=decide_eq_true c3
    clear c3
    by_cases c4:0≤x5_1
    ·rw[if_pos c4] at H
     have c4b0:decide (0≤x5_1)=true:=decide_eq_true c4
     clear c4
     by_cases c5:(rd l0 x5_1)=x1_1
     ·rw[if_pos c5] at H
      have c5b0:((rd l0 x5_1) == x1_1)=true:=beq_iff_eq.mpr c5
      have c5b1:((rd l0 x5_1) != x1_1)=false:=bne_eq_false_iff_eq.mpr c5
      clear c5
      have H':=Aside0.mk H
      clear H
      have p127:0≤(x5_1:Int):=of_decide_eq_true (bD)
      have q127:x5_1 < (l0.length:Int):=of_decide_eq_true (bD)
      obtain⟨ad127,e127,hx127_0⟩:=Kd.at_int HR0.out x5_1 p127 q127
      cases e127
      replace p127:=eq_true p127
      replace q127:=eq_true q127
      go_wp2
      go_roundg k1
      case measure=>have:=HK1.out;omega
      case rel=>exact⟨(wrap64 (x1_1+1)),(wrap64 (x5_1+1)),(bR),(bR),H',⟨by have:=HK1.out;omega⟩,bW⟩
     ·rw[if_neg c5] at H
      have c5b0:((rd l0 x5_1) == x1_1)=false:=beq_eq_false_iff_ne.mpr c5
      have c5b1:((rd l0 x5_1) != x1_1)=true:=bne_iff_ne.mpr c5
      obtain rfl:=Option.some.inj H
      have p127:0≤(x5_1:Int):=of_decide_eq_true (bD)
      have q127:x5_1 < (l0.length:Int):=of_decide_eq_true (bD)
      obtain⟨ad127,e127,hx127_0⟩:=Kd.at_int HR0.out x5_1 p127 q127
      cases e127
      replace p127:=eq_true p127
      replace q127:=eq_true q127
      go_wp2
      go_ret
      exact⟨bR,bW⟩
    ·rw[if_neg c4] at H
     exact absurd H (by simp)
   ·rw[if_neg c3] at H
    have c3b0:decide (x5_1 < (l0.length:Int))=false:=decide_eq_false c3
    clear c3
    obtain rfl:=Option.some.inj H
    go_wp2
    go_ret
    exact⟨bR,bW⟩

/-! ### laws_szBundle: function 51 -/
def laws_szBundle.f (a0_0:Int) (a0_1:Int) (a0_2:Bool) (a0_3:Int) (a0_4:Int) (a0_5:Int) (a0_6:Int) (a0_7:Int) (a0_8:Int) (a0_9:ByteArray) (a1:Int):Option (Int):=if (wrap64 (a1 - (a0_9.size:Int))) < 0 then (some (-1)) else (some (wrap64 (a1 - (a0_9.size:Int))))
set_option maxHeartbeats 8000000 in
set_option maxRecDepth 100000 in
theorem laws_szBundle.calls (a0_0:Int) (a0_1:Int) (a0_2:Bool) (a0_3:Int) (a0_4:Int) (a0_5:Int) (a0_6:Int) (a0_7:Int) (a0_8:Int) (a0_9:ByteArray) (a1:Int) (r:Int) (w:World) (h:laws_szBundle.f a0_0 a0_1 a0_2 a0_3 a0_4 a0_5 a0_6 a0_7 a0_8 a0_9 a1=some r) :
  Calls Try.prog 51 #[.agg #[.int .i64 a0_0,.int .i64 a0_1,.bool a0_2,.int .i64 a0_3,.int .i64 a0_4,.int .i64 a0_5,.int .i64 a0_6,.int .i64 a0_7,.int .i64 a0_8,.string a0_9],.int .i64 a1] w fun e w'=>e=.returned (.int .i64 r)∧Below w.heap.size w w':=by
 have hu82:=Try.underlying82
 have HB:=Aside0.mk (Below.refl w.heap.size w)
 have H:(if (wrap64 (a1 - (a0_9.size:Int))) < 0 then (some (-1)) else (some (wrap64 (a1 - (a0_9.size:Int)))))=some r:=h
 clear h
 by_cases c3:(wrap64 (a1 - (a0_9.size:Int))) < 0
 ·rw[if_pos c3] at H
  have c3b0:decide ((wrap64 (a1 - (a0_9.size:Int))) < 0)=true:=decide_eq_true c3
  clear c3
  obtain rfl:=Option.some.inj H
  go_enter Try.func51,Try.ntmps51
  go_wp2_with (first|((with_reducible refine gate_dst (N:=2) rfl ?_);refine box_event ?hg (N:=2) ?hd (cs:=#[.int .i64 a0_0,.int .i64 a0_1,.bool a0_2,.int .i64 a0_3,.int .i64 a0_4,.int .i64 a0_5,.int .i64 a0_6,.int .i64 a0_7,.int .i64 a0_8,.string a0_9]) (t:=82) ?hr ?_;(case hd=>rfl);(case hg=>rfl);(case hr=>first|(go_simp;done)|(go_simp;rfl));intro gb128 hg w4 hbox hb;have n0_:=Aside0.mk (below_step (bB) hb);have n1_:=Aside0.mk (hbox);have n2_:=Aside0.mk ((bG:w.heap.size≤gb128));have n3_:=Aside0.mk ((bG:w.heap.size≤gb128));clear HB;have HB:=n0_;have BK128:=n1_;have GW128:=n2_;have GE128:=n3_;clear n0_ n1_ n2_ n3_;clear hb hbox hg;have hcz5_0:w4.cell? ⟨gb128,0,none⟩=some (.int .i64 a0_0):=(blk_cell BK128.out 0).trans rfl;have hcz5_1:w4.cell? ⟨gb128,1,none⟩=some (.int .i64 a0_1):=(blk_cell BK128.out 1).trans rfl;have hcz5_2:w4.cell? ⟨gb128,2,none⟩=some (.bool a0_2):=(blk_cell BK128.out 2).trans rfl;have hcz5_3:w4.cell? ⟨gb128,3,none⟩=some (.int .i64 a0_3):=(blk_cell BK128.out 3).trans rfl;have hcz5_4:w4.cell? ⟨gb128,4,none⟩=some (.int .i64 a0_4):=(blk_cell BK128.out 4).trans rfl;have hcz5_5:w4.cell? ⟨gb128,5,none⟩=some (.int .i64 a0_5):=(blk_cell BK128.out 5).trans rfl;have hcz5_6:w4.cell? ⟨gb128,6,none⟩=some (.int .i64 a0_6):=(blk_cell BK128.out 6).trans rfl;have hcz5_7:w4.cell? ⟨gb128,7,none⟩=some (.int .i64 a0_7):=(blk_cell BK128.out 7).trans rfl;have hcz5_8:w4.cell? ⟨gb128,8,none⟩=some (.int .i64 a0_8):=(blk_cell BK128.out 8).trans rfl;have hcz5_9:w4.cell? ⟨gb128,9,none⟩=some (.string a0_9):=(blk_cell BK128.out 9).trans rfl;have hfz5_0:=blk_frozen BK128.out 0;have hfz5_1:=blk_frozen BK128.out 1;have hfz5_2:=blk_frozen BK128.out 2;have hfz5_3:=blk_frozen BK128.out 3;have hfz5_4:=blk_frozen BK128.out 4;have hfz5_5:=blk_frozen BK128.out 5;have hfz5_6:=blk_frozen BK128.out 6;have hfz5_7:=blk_frozen BK128.out 7;have hfz5_8:=blk_frozen BK128.out 8;have hfz5_9:=blk_frozen BK128.out 9))
  go_ret
  exact⟨bE,bS GE128.out⟩
 ·rw[if_neg c3] at H
  have c3b0:decide ((wrap64 (a1 - (a0_9.size:Int))) < 0)=false:=decide_eq_false c3
  clear c3
  obtain rfl:=Option.some.inj H
  go_enter Try.func51,Try.ntmps51
  go_wp2_with (first|((with_reducible refine gate_dst (N:=2) rfl ?_);refine box_event ?hg (N:=2) ?hd (cs:=#[.int .i64 a0_0,.int .i64 a0_1,.bool a0_2,.int .i64 a0_3,.int .i64 a0_4,.int .i64 a0_5,.int .i64 a0_6,.int .i64 a0_7,.int .i64 a0_8,.string a0_9]) (t:=82) ?hr ?_;(case hd=>rfl);(case hg=>rfl);(case hr=>first|(go_simp;done)|(go_simp;rfl));intro gb128 hg w6 hbox hb;have n0_:=Aside0.mk (below_step (bB) hb);have n1_:=Aside0.mk (hbox);have n2_:=Aside0.mk ((bG:w.heap.size≤gb128));have n3_:=Aside0.mk ((bG:w.heap.size≤gb128));clear HB;have HB:=n0_;have BK128:=n1_;have GW128:=n2_;have GE128:=n3_;clear n0_ n1_ n2_ n3_;clear hb hbox hg;have hcz7_0:w6.cell? ⟨gb128,0,none⟩=some (.int .i64 a0_0):=(blk_cell BK128.out 0).trans rfl;have hcz7_1:w6.cell? ⟨gb128,1,none⟩=some (.int .i64 a0_1):=(blk_cell BK128.out 1).trans rfl;have hcz7_2:w6.cell? ⟨gb128,2,none⟩=some (.bool a0_2):=(blk_cell BK128.out 2).trans rfl;have hcz7_3:w6.cell? ⟨gb128,3,none⟩=some (.int .i64 a0_3):=(blk_cell BK128.out 3).trans rfl;have hcz7_4:w6.cell? ⟨gb128,4,none⟩=some (.int .i64 a0_4):=(blk_cell BK128.out 4).trans rfl;have hcz7_5:w6.cell? ⟨gb128,5,none⟩=some (.int .i64 a0_5):=(blk_cell BK128.out 5).trans rfl;have hcz7_6:w6.cell? ⟨gb128,6,none⟩=some (.int .i64 a0_6):=(blk_cell BK128.out 6).trans rfl;have hcz7_7:w6.cell? ⟨gb128,7,none⟩=some (.int .i64 a0_7):=(blk_cell BK128.out 7).trans rfl;have hcz7_8:w6.cell? ⟨gb128,8,none⟩=some (.int .i64 a0_8):=(blk_cell BK128.out 8).trans rfl;have hcz7_9:w6.cell? ⟨gb128,9,none⟩=some (.string a0_9):=(blk_cell BK128.out 9).trans rfl;have hfz7_0:=blk_frozen BK128.out 0;have hfz7_1:=blk_frozen BK128.out 1;have hfz7_2:=blk_frozen BK128.out 2;have hfz7_3:=blk_frozen BK128.out 3;have hfz7_4:=blk_frozen BK128.out 4;have hfz7_5:=blk_frozen BK128.out 5;have hfz7_6:=blk_frozen BK128.out 6;have hfz7_7:=blk_frozen BK128.out 7;have hfz7_8:=blk_frozen BK128.out 8;have hfz7_9:=blk_frozen BK128.out 9))
  go_ret
  exact⟨bE,bS GE128.out⟩

/-! ### laws_toBundle: function 53 -/
def laws_toBundle.f (a0_0:Int) (a0_1:Int) (a0_2:Bool) (a0_3:Int) (a0_4:Int) (a0_5:Int) (a0_6:Int) (a0_7:Int) (a0_8:Int) (a0_9:ByteArray):Option (Int × Int × Bool × Int × Int × Int × Int × Int × Int × ByteArray):=some (a0_0,a0_1,a0_2,a0_3,a0_4,a0_5,a0_6,a0_7,a0_8,a0_9)
set_option maxHeartbeats 8000000 in
set_option maxRecDepth 100000 in
theorem laws_toBundle.calls (a0_0:Int) (a0_1:Int) (a0_2:Bool) (a0_3:Int) (a0_4:Int) (a0_5:Int) (a0_6:Int) (a0_7:Int) (a0_8:Int) (a0_9:ByteArray) (r1:Int) (r2:Int) (r3:Bool) (r4:Int) (r5:Int) (r6:Int) (r7:Int) (r8:Int) (r9:Int) (r10:ByteArray) (w:World) (h:laws_toBundle.f a0_0 a0_1 a0_2 a0_3 a0_4 a0_5 a0_6 a0_7 a0_8 a0_9=some (r1,r2,r3,r4,r5,r6,r7,r8,r9,r10)) :
  Calls Try.prog 53 #[.agg #[.int .i64 a0_0,.int .i64 a0_1,.bool a0_2,.int .i64 a0_3,.int .i64 a0_4,.int .i64 a0_5,.int .i64 a0_6,.int .i64 a0_7,.int .i64 a0_8,.string a0_9]] w fun e w'=>e=.returned (.agg #[.int .i64 r1,.int .i64 r2,.bool r3,.int .i64 r4,.int .i64 r5,.int .i64 r6,.int .i64 r7,.int .i64 r8,.int .i64 r9,.string r10])∧Below w.heap.size w w':=by
 have hu82:=Try.underlying82
 have hu86:=Try.underlying86
 have HB:=Aside0.mk (Below.refl w.heap.size w)
 have H:(some (a0_0,a0_1,a0_2,a0_3,a0_4,a0_5,a0_6,a0_7,a0_8,a0_9))=some (r1,r2,r3,r4,r5,r6,r7,r8,r9,r10):=h
 clear h
 simp only[Option.some.injEq,Prod.mk.injEq] at H
 obtain⟨rfl,rfl,rfl,rfl,rfl,rfl,rfl,rfl,rfl,rfl⟩:=H
 go_enter Try.func53,Try.ntmps53
 go_wp2_with (first|((with_reducible refine gate_dst (N:=1) rfl ?_);refine box_event ?hg (N:=1) ?hd (cs:=#[.int .i64 a0_0,.int .i64 a0_1,.bool a0_2,.int .i64 a0_3,.int .i64 a0_4,.int .i64 a0_5,.int .i64 a0_6,.int .i64 a0_7,.int .i64 a0_8,.string a0_9]) (t:=82) ?hr ?_;(case hd=>rfl);(case hg=>rfl);(case hr=>first|(go_simp;done)|(go_simp;rfl));intro gb129 hg w2 hbox hb;have n0_:=Aside0.mk (below_step (bB) hb);have n1_:=Aside0.mk (hbox);have n2_:=Aside0.mk ((bG:w.heap.size≤gb129));have n3_:=Aside0.mk ((bG:w.heap.size≤gb129));clear HB;have HB:=n0_;have BK129:=n1_;have GW129:=n2_;have GE129:=n3_;clear n0_ n1_ n2_ n3_;clear hb hbox hg)|((with_reducible refine gate_dst (N:=2) rfl ?_);refine box_event ?hg (N:=2) ?hd (cs:=#[.int .i64 0,.int .i64 0,.bool false,.int .i64 0,.int .i64 0,.int .i64 0,.int .i64 0,.int .i64 0,.int .i64 0,.string (⟨#[]⟩:ByteArray)]) (t:=86) ?hr ?_;(case hd=>rfl);(case hg=>rfl);(case hr=>first|(go_simp;done)|(go_simp;rfl));intro gb130 hg w3 hbox hb;have n0_:=Aside0.mk (blk_below (g:=gb129) (o:=.cells #[.int .i64 a0_0,.int .i64 a0_1,.bool a0_2,.int .i64 a0_3,.int .i64 a0_4,.int .i64 a0_5,.int .i64 a0_6,.int .i64 a0_7,.int .i64 a0_8,.string a0_9] 82 (0,0)) (bL BK129.out) hb);have n1_:=Aside0.mk (below_step (bS GE129.out) hb);have n2_:=Aside0.mk (hbox);have n3_:=Aside0.mk ((by rw[hg];exact(below_size (bS GE129.out)):w.heap.size≤gb130));have n4_:=Aside0.mk ((by rw[hg];exact(below_size (bS GE129.out)):w.heap.size≤gb130));have n5_:=Aside0.mk ((by rw[hg];exact Nat.ne_of_lt (blk_lt (g:=gb129) (o:=.cells #[.int .i64 a0_0,.int .i64 a0_1,.bool a0_2,.int .i64 a0_3,.int .i64 a0_4,.int .i64 a0_5,.int .i64 a0_6,.int .i64 a0_7,.int .i64 a0_8,.string a0_9] 82 (0,0)) (bL BK129.out)):gb129≠gb130));have n6_:=Aside0.mk ((by rw[hg];exact Nat.ne_of_gt (blk_lt (g:=gb129) (o:=.cells #[.int .i64 a0_0,.int .i64 a0_1,.bool a0_2,.int .i64 a0_3,.int .i64 a0_4,.int .i64 a0_5,.int .i64 a0_6,.int .i64 a0_7,.int .i64 a0_8,.string a0_9] 82 (0,0)) (bL BK129.out)):gb130≠gb129));clear BK129 HB;have BK129:=n0_;have HB:=n1_;have BK130:=n2_;have GW130:=n3_;have GE130:=n4_;have NB129_130:=n5_;have NB130_129:=n6_;clear n0_ n1_ n2_ n3_ n4_ n5_ n6_;clear hb hbox hg)|((with_reducible refine gate_dst (N:=3) rfl ?_);refine box_event ?hg (N:=3) ?hd (cs:=#[.int .i64 0,.int .i64 0,.bool false,.int .i64 0,.int .i64 0,.int .i64 0,.int .i64 0,.int .i64 0,.int .i64 0,.string (⟨#[]⟩:ByteArray)]) (t:=86) ?hr ?_;(case hd=>rfl);(case hg=>rfl);(case hr=>first|(go_simp;done)|(go_simp;rfl));intro gb131 hg w4 hbox hb;have n0_:=Aside0.mk (blk_below (g:=gb129) (o:=.cells #[.int .i64 a0_0,.int .i64 a0_1,.bool a0_2,.int .i64 a0_3,.int .i64 a0_4,.int .i64 a0_5,.int .i64 a0_6,.int .i64 a0_7,.int .i64 a0_8,.string a0_9] 82 (0,0)) (bL BK129.out) hb);have n1_:=Aside0.mk (blk_below (g:=gb130) (o:=.cells #[.int .i64 0,.int .i64 0,.bool false,.int .i64 0,.int .i64 0,.int .i64 0,.int .i64 0,.int .i64 0,.int .i64 0,.string (⟨#[]⟩:ByteArray)] 86 (0,0)) (bL BK130.out) hb);have n2_:=Aside0.mk (below_step (by repeat (first|(with_reducible first|exact HB.out|apply below_alloc|apply pw_below_drewN|apply below_drew1|refine below_set ?_ GE129.out|refine below_set ?_ GE130.out)|exact HB.out)) hb);have n3_:=Aside0.mk (hbox);have n4_:=Aside0.mk ((by rw[hg];exact(below_size (by repeat (first|(with_reducible first|exact HB.out|apply below_alloc|apply pw_below_drewN|apply below_drew1|refine below_set ?_ GE129.out|refine below_set ?_ GE130.out)|exact HB.out))):w.heap.size≤gb131));have n5_:=Aside0.mk ((by rw[hg];exact(below_size (by repeat (first|(with_reducible first|exact HB.out|apply below_alloc|apply pw_below_drewN|apply below_drew1|refine below_set ?_ GE129.out|refine below_set ?_ GE130.out)|exact HB.out))):w.heap.size≤gb131));have n6_:=Aside0.mk ((by rw[hg];exact Nat.ne_of_lt (blk_lt (g:=gb129) (o:=.cells #[.int .i64 a0_0,.int .i64 a0_1,.bool a0_2,.int .i64 a0_3,.int .i64 a0_4,.int .i64 a0_5,.int .i64 a0_6,.int .i64 a0_7,.int .i64 a0_8,.string a0_9] 82 (0,0)) (bL BK129.out)):gb129≠gb131));have n7_:=Aside0.mk ((by rw[hg];exact Nat.ne_of_gt (blk_lt (g:=gb129) (o:=.cells #[.int .i64 a0_0,.int .i64 a0_1,.bool a0_2,.int .i64 a0_3,.int .i64 a0_4,.int .i64 a0_5,.int .i64 a0_6,.int .i64 a0_7,.int .i64 a0_8,.string a0_9] 82 (0,0)) (bL BK129.out)):gb131≠gb129));have n8_:=Aside0.mk ((by rw[hg];exact Nat.ne_of_lt (blk_lt (g:=gb130) (o:=.cells #[.int .i64 0,.int .i64 0,.bool false,.int .i64 0,.int .i64 0,.int .i64 0,.int .i64 0,.int .i64 0,.int .i64 0,.string (⟨#[]⟩:ByteArray)] 86 (0,0)) (bL BK130.out)):gb130≠gb131));have n9_:=Aside0.mk ((by rw[hg];exact Nat.ne_of_gt (blk_lt (g:=gb130) (o:=.cells #[.int .i64 0,.int .i64 0,.bool false,.int .i64 0,.int .i64 0,.int .i64 0,.int .i64 0,.int .i64 0,.int .i64 0,.string (⟨#[]⟩:ByteArray)] 86 (0,0)) (bL BK130.out)):gb131≠gb130));clear BK129 BK130 HB;have BK129:=n0_;have BK130:=n1_;have HB:=n2_;have BK131:=n3_;have GW131:=n4_;have GE131:=n5_;have NB129_131:=n6_;have NB131_129:=n7_;have NB130_131:=n8_;have NB131_130:=n9_;clear n0_ n1_ n2_ n3_ n4_ n5_ n6_ n7_ n8_ n9_;clear hb hbox hg;have hnb5:=NB129_130.out;have hnc5:=NB130_129.out;have hnb6:=NB129_131.out;have hnc6:=NB131_129.out;have hcz7_0:w4.cell? ⟨gb129,0,none⟩=some (.int .i64 a0_0):=(blk_cell BK129.out 0).trans rfl;have hcz7_1:w4.cell? ⟨gb129,1,none⟩=some (.int .i64 a0_1):=(blk_cell BK129.out 1).trans rfl;have hcz7_2:w4.cell? ⟨gb129,2,none⟩=some (.bool a0_2):=(blk_cell BK129.out 2).trans rfl;have hcz7_3:w4.cell? ⟨gb129,3,none⟩=some (.int .i64 a0_3):=(blk_cell BK129.out 3).trans rfl;have hcz7_4:w4.cell? ⟨gb129,4,none⟩=some (.int .i64 a0_4):=(blk_cell BK129.out 4).trans rfl;have hcz7_5:w4.cell? ⟨gb129,5,none⟩=some (.int .i64 a0_5):=(blk_cell BK129.out 5).trans rfl;have hcz7_6:w4.cell? ⟨gb129,6,none⟩=some (.int .i64 a0_6):=(blk_cell BK129.out 6).trans rfl;have hcz7_7:w4.cell? ⟨gb129,7,none⟩=some (.int .i64 a0_7):=(blk_cell BK129.out 7).trans rfl;have hcz7_8:w4.cell? ⟨gb129,8,none⟩=some (.int .i64 a0_8):=(blk_cell BK129.out 8).trans rfl;have hcz7_9:w4.cell? ⟨gb129,9,none⟩=some (.string a0_9):=(blk_cell BK129.out 9).trans rfl;have hfz7_0:=blk_frozen BK129.out 0;have hfz7_1:=blk_frozen BK129.out 1;have hfz7_2:=blk_frozen BK129.out 2;have hfz7_3:=blk_frozen BK129.out 3;have hfz7_4:=blk_frozen BK129.out 4;have hfz7_5:=blk_frozen BK129.out 5;have hfz7_6:=blk_frozen BK129.out 6;have hfz7_7:=blk_frozen BK129.out 7;have hfz7_8:=blk_frozen BK129.out 8;have hfz7_9:=blk_frozen BK129.out 9;have hnb8:=NB131_130.out;have hnc8:=NB130_131.out;have hcz9_0:w4.cell? ⟨gb131,0,none⟩=some (.int .i64 0):=(blk_cell BK131.out 0).trans rfl;have hcz9_1:w4.cell? ⟨gb131,1,none⟩=some (.int .i64 0):=(blk_cell BK131.out 1).trans rfl;have hcz9_2:w4.cell? ⟨gb131,2,none⟩=some (.bool false):=(blk_cell BK131.out 2).trans rfl;have hcz9_3:w4.cell? ⟨gb131,3,none⟩=some (.int .i64 0):=(blk_cell BK131.out 3).trans rfl;have hcz9_4:w4.cell? ⟨gb131,4,none⟩=some (.int .i64 0):=(blk_cell BK131.out 4).trans rfl;have hcz9_5:w4.cell? ⟨gb131,5,none⟩=some (.int .i64 0):=(blk_cell BK131.out 5).trans rfl;have hcz9_6:w4.cell? ⟨gb131,6,none⟩=some (.int .i64 0):=(blk_cell BK131.out 6).trans rfl;have hcz9_7:w4.cell? ⟨gb131,7,none⟩=some (.int .i64 0):=(blk_cell BK131.out 7).trans rfl;have hcz9_8:w4.cell? ⟨gb131,8,none⟩=some (.int .i64 0):=(blk_cell BK131.out 8).trans rfl;have hcz9_9:w4.cell? ⟨gb131,9,none⟩=some (.string (⟨#[]⟩:ByteArray)):=(blk_cell BK131.out 9).trans rfl;have hfz9_0:=blk_frozen BK131.out 0;have hfz9_1:=blk_frozen BK131.out 1;have hfz9_2:=blk_frozen BK131.out 2;have hfz9_3:=blk_frozen BK131.out 3;have hfz9_4:=blk_frozen BK131.out 4;have hfz9_5:=blk_frozen BK131.out 5;have hfz9_6:=blk_frozen BK131.out 6;have hfz9_7:=blk_frozen BK131.out 7;have hfz9_8:=blk_frozen BK131.out 8;have hfz9_9:=blk_frozen BK131.out 9;have hcz10_0:w4.cell? ⟨gb130,0,none⟩=some (.int .i64 0):=(blk_cell BK130.out 0).trans rfl;have hcz10_1:w4.cell? ⟨gb130,1,none⟩=some (.int .i64 0):=(blk_cell BK130.out 1).trans rfl;have hcz10_2:w4.cell? ⟨gb130,2,none⟩=some (.bool false):=(blk_cell BK130.out 2).trans rfl;have hcz10_3:w4.cell? ⟨gb130,3,none⟩=some (.int .i64 0):=(blk_cell BK130.out 3).trans rfl;have hcz10_4:w4.cell? ⟨gb130,4,none⟩=some (.int .i64 0):=(blk_cell BK130.out 4).trans rfl;have hcz10_5:w4.cell? ⟨gb130,5,none⟩=some (.int .i64 0):=(blk_cell BK130.out 5).trans rfl;have hcz10_6:w4.cell? ⟨gb130,6,none⟩=some (.int .i64 0):=(blk_cell BK130.out 6).trans rfl;have hcz10_7:w4.cell? ⟨gb130,7,none⟩=some (.int .i64 0):=(blk_cell BK130.out 7).trans rfl;have hcz10_8:w4.cell? ⟨gb130,8,none⟩=some (.int .i64 0):=(blk_cell BK130.out 8).trans rfl;have hcz10_9:w4.cell? ⟨gb130,9,none⟩=some (.string (⟨#[]⟩:ByteArray)):=(blk_cell BK130.out 9).trans rfl;have hfz10_0:=blk_frozen BK130.out 0;have hfz10_1:=blk_frozen BK130.out 1;have hfz10_2:=blk_frozen BK130.out 2;have hfz10_3:=blk_frozen BK130.out 3;have hfz10_4:=blk_frozen BK130.out 4;have hfz10_5:=blk_frozen BK130.out 5;have hfz10_6:=blk_frozen BK130.out 6;have hfz10_7:=blk_frozen BK130.out 7;have hfz10_8:=blk_frozen BK130.out 8;have hfz10_9:=blk_frozen BK130.out 9))
 refine bodyPost_ret (results_cell_row rfl _ _ gb130 86 #[.int .i64 a0_0,.int .i64 a0_1,.bool a0_2,.int .i64 a0_3,.int .i64 a0_4,.int .i64 a0_5,.int .i64 a0_6,.int .i64 a0_7,.int .i64 a0_8,.string a0_9] (0,0) _ rfl (by(with_reducible repeat (first|refine blk_drewN ?_ _|refine blk_drew ?_|refine blk_alloc ?_ _));refine blk_put (cs:=#[.int .i64 a0_0,.int .i64 a0_1,.bool a0_2,.int .i64 a0_3,.int .i64 a0_4,.int .i64 a0_5,.int .i64 a0_6,.int .i64 a0_7,.int .i64 a0_8,.string (⟨#[]⟩:ByteArray)]) ?_ 9 _ rfl;(with_reducible repeat (first|refine blk_drewN ?_ _|refine blk_drew ?_|refine blk_alloc ?_ _));refine blk_put (cs:=#[.int .i64 a0_0,.int .i64 a0_1,.bool a0_2,.int .i64 a0_3,.int .i64 a0_4,.int .i64 a0_5,.int .i64 a0_6,.int .i64 a0_7,.int .i64 0,.string (⟨#[]⟩:ByteArray)]) ?_ 8 _ rfl;(with_reducible repeat (first|refine blk_drewN ?_ _|refine blk_drew ?_|refine blk_alloc ?_ _));refine blk_put (cs:=#[.int .i64 a0_0,.int .i64 a0_1,.bool a0_2,.int .i64 a0_3,.int .i64 a0_4,.int .i64 a0_5,.int .i64 a0_6,.int .i64 0,.int .i64 0,.string (⟨#[]⟩:ByteArray)]) ?_ 7 _ rfl;(with_reducible repeat (first|refine blk_drewN ?_ _|refine blk_drew ?_|refine blk_alloc ?_ _));refine blk_put (cs:=#[.int .i64 a0_0,.int .i64 a0_1,.bool a0_2,.int .i64 a0_3,.int .i64 a0_4,.int .i64 a0_5,.int .i64 0,.int .i64 0,.int .i64 0,.string (⟨#[]⟩:ByteArray)]) ?_ 6 _ rfl;(with_reducible repeat (first|refine blk_drewN ?_ _|refine blk_drew ?_|refine blk_alloc ?_ _));refine blk_put (cs:=#[.int .i64 a0_0,.int .i64 a0_1,.bool a0_2,.int .i64 a0_3,.int .i64 a0_4,.int .i64 0,.int .i64 0,.int .i64 0,.int .i64 0,.string (⟨#[]⟩:ByteArray)]) ?_ 5 _ rfl;(with_reducible repeat (first|refine blk_drewN ?_ _|refine blk_drew ?_|refine blk_alloc ?_ _));refine blk_put (cs:=#[.int .i64 a0_0,.int .i64 a0_1,.bool a0_2,.int .i64 a0_3,.int .i64 0,.int .i64 0,.int .i64 0,.int .i64 0,.int .i64 0,.string (⟨#[]⟩:ByteArray)]) ?_ 4 _ rfl;(with_reducible repeat (first|refine blk_drewN ?_ _|refine blk_drew ?_|refine blk_alloc ?_ _));refine blk_put (cs:=#[.int .i64 a0_0,.int .i64 a0_1,.bool a0_2,.int .i64 0,.int .i64 0,.int .i64 0,.int .i64 0,.int .i64 0,.int .i64 0,.string (⟨#[]⟩:ByteArray)]) ?_ 3 _ rfl;(with_reducible repeat (first|refine blk_drewN ?_ _|refine blk_drew ?_|refine blk_alloc ?_ _));refine blk_put (cs:=#[.int .i64 a0_0,.int .i64 a0_1,.bool false,.int .i64 0,.int .i64 0,.int .i64 0,.int .i64 0,.int .i64 0,.int .i64 0,.string (⟨#[]⟩:ByteArray)]) ?_ 2 _ rfl;(with_reducible repeat (first|refine blk_drewN ?_ _|refine blk_drew ?_|refine blk_alloc ?_ _));refine blk_put (cs:=#[.int .i64 a0_0,.int .i64 0,.bool false,.int .i64 0,.int .i64 0,.int .i64 0,.int .i64 0,.int .i64 0,.int .i64 0,.string (⟨#[]⟩:ByteArray)]) ?_ 1 _ rfl;(with_reducible repeat (first|refine blk_drewN ?_ _|refine blk_drew ?_|refine blk_alloc ?_ _));refine blk_put (cs:=#[.int .i64 0,.int .i64 0,.bool false,.int .i64 0,.int .i64 0,.int .i64 0,.int .i64 0,.int .i64 0,.int .i64 0,.string (⟨#[]⟩:ByteArray)]) ?_ 0 _ rfl;(with_reducible repeat (first|refine blk_drewN ?_ _|refine blk_drew ?_|refine blk_alloc ?_ _));refine blk_far ?_ NB130_131.out _;(with_reducible repeat (first|refine blk_drewN ?_ _|refine blk_drew ?_|refine blk_alloc ?_ _));refine blk_far ?_ NB130_131.out _;(with_reducible repeat (first|refine blk_drewN ?_ _|refine blk_drew ?_|refine blk_alloc ?_ _));refine blk_far ?_ NB130_131.out _;(with_reducible repeat (first|refine blk_drewN ?_ _|refine blk_drew ?_|refine blk_alloc ?_ _));refine blk_far ?_ NB130_131.out _;(with_reducible repeat (first|refine blk_drewN ?_ _|refine blk_drew ?_|refine blk_alloc ?_ _));refine blk_far ?_ NB130_131.out _;(with_reducible repeat (first|refine blk_drewN ?_ _|refine blk_drew ?_|refine blk_alloc ?_ _));refine blk_far ?_ NB130_131.out _;(with_reducible repeat (first|refine blk_drewN ?_ _|refine blk_drew ?_|refine blk_alloc ?_ _));refine blk_far ?_ NB130_131.out _;(with_reducible repeat (first|refine blk_drewN ?_ _|refine blk_drew ?_|refine blk_alloc ?_ _));refine blk_far ?_ NB130_131.out _;(with_reducible repeat (first|refine blk_drewN ?_ _|refine blk_drew ?_|refine blk_alloc ?_ _));refine blk_far ?_ NB130_131.out _;(with_reducible repeat (first|refine blk_drewN ?_ _|refine blk_drew ?_|refine blk_alloc ?_ _));refine blk_far ?_ NB130_131.out _;(with_reducible repeat (first|refine blk_drewN ?_ _|refine blk_drew ?_|refine blk_alloc ?_ _));exact BK130.out) Try.underlying86 rfl (by kernel_rfl)) rfl ?_
 exact⟨bE,by repeat (first|(with_reducible first|exact HB.out|apply below_alloc|apply pw_below_drewN|apply below_drew1|refine below_set ?_ GE129.out|refine below_set ?_ GE130.out|refine below_set ?_ GE131.out)|exact HB.out)⟩

/-! ### spec_l1In: function 75 -/
def spec_l1In.f (a0:Int) (a1:Int) (a2:Int):Option (Bool):=if a0 ≥ a1 then (some (decide (a0≤a2))) else (some false)
set_option maxHeartbeats 8000000 in
set_option maxRecDepth 100000 in
theorem spec_l1In.calls (a0:Int) (a1:Int) (a2:Int) (r:Bool) (w:World) (h:spec_l1In.f a0 a1 a2=some r) :
  Calls Try.prog 75 #[.int .i64 a0,.int .i64 a1,.int .i64 a2] w fun e w'=>e=.returned (.bool r)∧Drawn0 w w':=by
 have H:(if a0 ≥ a1 then (some (decide (a0≤a2))) else (some false))=some r:=h
 clear h
 by_cases c4:a0 ≥ a1
 ·rw[if_pos c4] at H
  have c4b0:decide (a1≤a0)=true:=decide_eq_true c4
  clear c4
  obtain rfl:=Option.some.inj H
  go_enter Try.func75,Try.ntmps75
  go_wp2
  go_ret
  exact⟨bR,bW⟩
 ·rw[if_neg c4] at H
  have c4b0:decide (a1≤a0)=false:=decide_eq_false c4
  clear c4
  obtain rfl:=Option.some.inj H
  go_enter Try.func75,Try.ntmps75
  go_wp2
  go_ret
  exact⟨bR,bW⟩

/-! ### spec_l6Node: function 85 -/
def spec_l6Node.f (a0:Int):Option (Bool):=if a0 ≥ 0 then (some (decide (a0 < 8))) else (some false)
set_option maxHeartbeats 8000000 in
set_option maxRecDepth 100000 in
theorem spec_l6Node.calls (a0:Int) (r:Bool) (w:World) (h:spec_l6Node.f a0=some r) :
  Calls Try.prog 85 #[.int .i64 a0] w fun e w'=>e=.returned (.bool r)∧Drawn0 w w':=by
 have H:(if a0 ≥ 0 then (some (decide (a0 < 8))) else (some false))=some r:=h
 clear h
 by_cases c2:a0 ≥ 0
 ·rw[if_pos c2] at H
  have c2b0:decide (0≤a0)=true:=decide_eq_true c2
  clear c2
  obtain rfl:=Option.some.inj H
  go_enter Try.func85,Try.ntmps85
  go_wp2
  go_ret
  exact⟨bR,bW⟩
 ·rw[if_neg c2] at H
  have c2b0:decide (0≤a0)=false:=decide_eq_false c2
  clear c2
  obtain rfl:=Option.some.inj H
  go_enter Try.func85,Try.ntmps85
  go_wp2
  go_ret
  exact⟨bR,bW⟩

/-! ### spec_l6When: function 86 -/
def spec_l6When.f (a0:Int):Option (Bool):=(spec_l1In.f a0 0 1000).bind fun t132=>(some t132)
set_option maxHeartbeats 8000000 in
set_option maxRecDepth 100000 in
theorem spec_l6When.calls (a0:Int) (r:Bool) (w:World) (h:spec_l6When.f a0=some r) :
  Calls Try.prog 86 #[.int .i64 a0] w fun e w'=>e=.returned (.bool r)∧Drawn0 w w':=by
 have H:((spec_l1In.f a0 0 1000).bind fun t132=>(some t132))=some r:=h
 clear h
 replace H:=Option.bind_eq_some_iff.mp H
 obtain⟨t132,A20,H⟩:=H
 have A2:=Aside0.mk A20
 clear A20
 obtain rfl:=Option.some.inj H
 go_enter Try.func86,Try.ntmps86
 go_wp2_with (first|((with_reducible refine gate_callee (f:=75) rfl ?_);refine goesA (some 4) rfl rfl Try.func75 #[.int .i64 a0,.int .i64 0,.int .i64 1000] rfl ?_;(with_reducible refine(spec_l1In.calls a0 0 1000 t132 _ A2.out).mono ?_);rintro e w' ⟨rfl,⟨nd,rfl⟩⟩;refine⟨_,rfl,?_⟩))
 go_ret
 exact⟨bR,bW⟩

/-! ### spec_GoodPlan: function 84 -/
def spec_GoodPlan.l0:Nat→List (S104)→List (S104)→Int→Int→Option (Bool)
 | 0,_,_,_,_=>none
 | k+1,x0,x5,x6,x7=>if x7 < x6 then (if 0≤x7 then (if x7 < (x5.length:Int) then ((spec_l6Node.f ((rd_T104 x5 x7).f0)).bind fun t135=>(if t135=true then ((spec_l6Node.f ((rd_T104 x5 x7).f1)).bind fun t136=>(if t136=true then (if ((rd_T104 x5 x7).f0)=((rd_T104 x5 x7).f1) then (some false) else ((spec_l6When.f ((rd_T104 x5 x7).f3)).bind fun t137=>(if t137=true then (if ((rd_T104 x5 x7).f2) < 0 then (some false) else (if ((rd_T104 x5 x7).f2) ≥ ((rd_T104 x5 x7).f3) then (some false) else ((spec_l1In.f ((rd_T104 x5 x7).f4) 0 100).bind fun t138=>(if t138=true then (spec_GoodPlan.l0 k x0 x5 x6 (wrap64 (x7+1))) else (some false))))) else (some false)))) else (some false))) else (some false))) else (none)) else (none)) else (some (decide ((x0.length:Int)≤20)))
def spec_GoodPlan.f (k:Nat) (l0:List (S104)):Option (Bool):=spec_GoodPlan.l0 k l0 l0 (l0.length:Int) 0
theorem spec_GoodPlan.mono_l : ∀ k,(∀ y0 y1 y2 y3,LeO (spec_GoodPlan.l0 k y0 y1 y2 y3) (spec_GoodPlan.l0 (k+1) y0 y1 y2 y3))
 | 0=>fun _ _ _ _ r h=>by simp[spec_GoodPlan.l0] at h
 | k+1=>by
  have ih0:=spec_GoodPlan.mono_l k
  ·intro y0 y1 y2 y3
   unfold spec_GoodPlan.l0
   repeat' first
   | (with_reducible exact ih0 _ _ _ _)
   | (with_reducible exact LeO.refl _)
   | (with_reducible exact LeO.none _)
   | (with_reducible refine LeO.ite ?_ ?_)
   | (with_reducible refine LeO.bind ?_ (fun _ => ?_))
   | exact ih0 _ _ _ _
   | exact LeO.none _
   | refine LeO.ite ?_ ?_
   | refine LeO.bind ?_ (fun _ => ?_)
theorem spec_GoodPlan.mono : ∀ a0 k,LeO (spec_GoodPlan.f k a0) (spec_GoodPlan.f (k+1) a0):=by
 intro a0 k
 have ih0:=spec_GoodPlan.mono_l k
 unfold spec_GoodPlan.f
 repeat' first
  | (with_reducible exact ih0 _ _ _ _)
  | (with_reducible exact LeO.refl _)
  | (with_reducible exact LeO.none _)
  | (with_reducible refine LeO.ite ?_ ?_)
  | (with_reducible refine LeO.bind ?_ (fun _ => ?_))
  | exact ih0 _ _ _ _
  | exact LeO.none _
  | refine LeO.ite ?_ ?_
  | refine LeO.bind ?_ (fun _ => ?_)
set_option maxHeartbeats 8000000 in
set_option maxRecDepth 100000 in
theorem spec_GoodPlan.calls (k:Nat) (A0:Option Addr) (c0:Nat) (l0:List (S104)) (r:Bool) (w:World) (hr0:Kd.C k104 w A0 l0.length l0) (hc0:l0.length≤c0) (h:spec_GoodPlan.f k l0=some r) :
  Calls Try.prog 84 #[.slice A0 l0.length c0] w fun e w'=>e=.returned (.bool r)∧Below w.heap.size w w':=by
 have hu104:=Try.underlying104
 have HR0:=Aside0.mk hr0
 have HC0:=Aside0.mk hc0
 clear hr0 hc0
 have HB:=Aside0.mk (Below.refl w.heap.size w)
 have H:(spec_GoodPlan.l0 k l0 l0 (l0.length:Int) 0)=some r:=h
 clear h
 have H':=Aside0.mk H
 clear H
 go_enter Try.func84,Try.ntmps84
 go_wp2
 go_loopg [7] k (fun kq v7 w' => ∃ (x7_1:Int),v7=.int .i64 x7_1∧Aside0 (spec_GoodPlan.l0 kq l0 l0 (l0.length:Int) x7_1=some r)∧Aside0 (kq≤k)∧Aside0 (Below w.heap.size w w'))
 case atStart=>exact⟨(0),(bR),H',⟨Nat.le_refl _⟩,⟨by repeat (first|(with_reducible first|exact HB.out|apply below_alloc|apply pw_below_drewN|apply below_drew1)|exact HB.out)⟩⟩
 case round =>
  clear H'
  obtain⟨x7_1,rfl,HA,HK1,HB⟩:=hrel
  cases gk with
  | zero=>exact absurd HA.out (by simp[spec_GoodPlan.l0])
  | succ k1 =>
   have H:=HA.out
   clear HA
   simp only[spec_GoodPlan.l0] at H
   by_cases c2:x7_1 < (l0.length:Int)
   ·rw[if_pos c2] at H
    have c2b0:decide (x7_1 < (l0.length:Int))=true:=decide_eq_true c2
    clear c2
    by_cases c3:0≤x7_1
    ·rw[if_pos c3] at H
     have c3b0:decide (0≤x7_1)=true:=decide_eq_true c3
     clear c3
     by_cases c4:x7_1 < (l0.length:Int)
     ·rw[if_pos c4] at H
      have c4b0:decide (x7_1 < (l0.length:Int))=true:=decide_eq_true c4
      clear c4
      replace H:=Option.bind_eq_some_iff.mp H
      obtain⟨t135,A50,H⟩:=H
      have A5:=Aside0.mk A50
      clear A50
      by_cases c6:t135=true
      ·subst c6
       have H1:((spec_l6Node.f ((rd_T104 l0 x7_1).f1)).bind fun t136=>(if t136=true then (if ((rd_T104 l0 x7_1).f0)=((rd_T104 l0 x7_1).f1) then (some false) else ((spec_l6When.f ((rd_T104 l0 x7_1).f3)).bind fun t137=>(if t137=true then (if ((rd_T104 l0 x7_1).f2) < 0 then (some false) else (if ((rd_T104 l0 x7_1).f2) ≥ ((rd_T104 l0 x7_1).f3) then (some false) else ((spec_l1In.f ((rd_T104 l0 x7_1).f4) 0 100).bind fun t138=>(if t138=true then (spec_GoodPlan.l0 k1 l0 l0 (l0.length:Int) (wrap64 (x7_1+1))) else (some false))))) else (some false)))) else (some false)))=some r:=by rw[if_pos rfl] at H;exact H
       clear H
       have H:=H1
       clear H1
       replace H:=Option.bind_eq_some_iff.mp H
       obtain⟨t136,A70,H⟩:=H
       have A7:=Aside0.mk A70
       clear A70
       by_cases c8:t136=true
       ·subst c8
        have H1:(if ((rd_T104 l0 x7_1).f0)=((rd_T104 l0 x7_1).f1) then (some false) else ((spec_l6When.f ((rd_T104 l0 x7_1).f3)).bind fun t137=>(if t137=true then (if ((rd_T104 l0 x7_1).f2) < 0 then (some false) else (if ((rd_T104 l0 x7_1).f2) ≥ ((rd_T104 l0 x7_1).f3) then (some false) else ((spec_l1In.f ((rd_T104 l0 x7_1).f4) 0 100).bind fun t138=>(if t138=true then (spec_GoodPlan.l0 k1 l0 l0 (l0.length:Int) (wrap64 (x7_1+1))) else (some false))))) else (some false))))=some r:=by rw[if_pos rfl] at H;exact H
        clear H
        have H:=H1
        clear H1
        by_cases c9:((rd_T104 l0 x7_1).f0)=((rd_T104 l0 x7_1).f1)
        ·rw[if_pos c9] at H
         have c9b0:(((rd_T104 l0 x7_1).f0) == ((rd_T104 l0 x7_1).f1))=true:=beq_iff_eq.mpr c9
         have c9b1:(((rd_T104 l0 x7_1).f0) != ((rd_T104 l0 x7_1).f1))=false:=bne_eq_false_iff_eq.mpr c9
         clear c9
         obtain rfl:=Option.some.inj H
         have p133:0≤(x7_1:Int):=of_decide_eq_true (bD)
         have q133:x7_1 < (l0.length:Int):=of_decide_eq_true (bD)
         obtain⟨ad133,e133,hx133_0,hx133_1,hx133_2,hx133_3,hx133_4⟩:=at_T104 HR0.out x7_1 p133 q133
         cases e133
         replace hx133_0:=(HB.out.cell (World.block_lt_of_cell? w _ hx133_0)).trans hx133_0
         replace hx133_1:=(HB.out.cell (World.block_lt_of_cell? w _ hx133_1)).trans hx133_1
         replace hx133_2:=(HB.out.cell (World.block_lt_of_cell? w _ hx133_2)).trans hx133_2
         replace hx133_3:=(HB.out.cell (World.block_lt_of_cell? w _ hx133_3)).trans hx133_3
         replace hx133_4:=(HB.out.cell (World.block_lt_of_cell? w _ hx133_4)).trans hx133_4
         replace p133:=eq_true p133
         replace q133:=eq_true q133
         go_wp2_with (first|((with_reducible refine gate_dst (N:=4) rfl ?_);refine box_event ?hg (N:=4) ?hd (cs:=#[.int .i64 0,.int .i64 0,.int .i64 0,.int .i64 0,.int .i64 0]) (t:=104) ?hr ?_;(case hd=>rfl);(case hg=>rfl);(case hr=>first|(go_simp;done)|(go_simp;rfl));intro gb134 hg w10 hbox hb;have n0_:=Aside0.mk (below_step (bB) hb);have n1_:=Aside0.mk (hbox);have n2_:=Aside0.mk ((bG:w.heap.size≤gb134));have n3_:=Aside0.mk ((bG:w.heap.size≤gb134));clear HB;have HB:=n0_;have BK134:=n1_;have GW134:=n2_;have GE134:=n3_;clear n0_ n1_ n2_ n3_;clear hb hbox hg;have hcz11_0:w10.cell? ⟨gb134,0,none⟩=some (.int .i64 0):=(blk_cell BK134.out 0).trans rfl;have hcz11_1:w10.cell? ⟨gb134,1,none⟩=some (.int .i64 0):=(blk_cell BK134.out 1).trans rfl;have hcz11_2:w10.cell? ⟨gb134,2,none⟩=some (.int .i64 0):=(blk_cell BK134.out 2).trans rfl;have hcz11_3:w10.cell? ⟨gb134,3,none⟩=some (.int .i64 0):=(blk_cell BK134.out 3).trans rfl;have hcz11_4:w10.cell? ⟨gb134,4,none⟩=some (.int .i64 0):=(blk_cell BK134.out 4).trans rfl;have hfz11_0:=blk_frozen BK134.out 0;have hfz11_1:=blk_frozen BK134.out 1;have hfz11_2:=blk_frozen BK134.out 2;have hfz11_3:=blk_frozen BK134.out 3;have hfz11_4:=blk_frozen BK134.out 4)|((with_reducible refine gate_callee (f:=85) rfl ?_);refine goesA (some 13) rfl rfl Try.func85 #[.int .i64 ((rd_T104 l0 x7_1).f0)] rfl ?_;(with_reducible refine(spec_l6Node.calls ((rd_T104 l0 x7_1).f0) true _ A5.out).mono ?_);rintro e w' ⟨rfl,⟨nd,rfl⟩⟩;refine⟨_,rfl,?_⟩)|(go_at_call 85;(with_reducible refine(spec_l6Node.calls ((rd_T104 l0 x7_1).f1) true _ A7.out).mono ?_);rintro e w' ⟨rfl,⟨nd,rfl⟩⟩))
         go_ret
         exact⟨bE,bS GE134.out⟩
        ·rw[if_neg c9] at H
         have c9b0:(((rd_T104 l0 x7_1).f0) == ((rd_T104 l0 x7_1).f1))=false:=beq_eq_false_iff_ne.mpr c9
         have c9b1:(((rd_T104 l0 x7_1).f0) != ((rd_T104 l0 x7_1).f1))=true:=bne_iff_ne.mpr c9
         replace H:=Option.bind_eq_some_iff.mp H
         obtain⟨t137,A120,H⟩:=H
         have A12:=Aside0.mk A120
         clear A120
         by_cases c13:t137=true
         ·subst c13
          have H1:(if ((rd_T104 l0 x7_1).f2) < 0 then (some false) else (if ((rd_T104 l0 x7_1).f2) ≥ ((rd_T104 l0 x7_1).f3) then (some false) else ((spec_l1In.f ((rd_T104 l0 x7_1).f4) 0 100).bind fun t138=>(if t138=true then (spec_GoodPlan.l0 k1 l0 l0 (l0.length:Int) (wrap64 (x7_1+1))) else (some false)))))=some r:=by rw[if_pos rfl] at H;exact H
          clear H
          have H:=H1
          clear H1
          by_cases c14:((rd_T104 l0 x7_1).f2) < 0
          ·rw[if_pos c14] at H
           have c14b0:decide (((rd_T104 l0 x7_1).f2) < 0)=true:=decide_eq_true c14
           clear c14
           obtain rfl:=Option.some.inj H
           have p133:0≤(x7_1:Int):=of_decide_eq_true (bD)
           have q133:x7_1 < (l0.length:Int):=of_decide_eq_true (bD)
           obtain⟨ad133,e133,hx133_0,hx133_1,hx133_2,hx133_3,hx133_4⟩:=at_T104 HR0.out x7_1 p133 q133
           cases e133
           replace hx133_0:=(HB.out.cell (World.block_lt_of_cell? w _ hx133_0)).trans hx133_0
           replace hx133_1:=(HB.out.cell (World.block_lt_of_cell? w _ hx133_1)).trans hx133_1
           replace hx133_2:=(HB.out.cell (World.block_lt_of_cell? w _ hx133_2)).trans hx133_2
           replace hx133_3:=(HB.out.cell (World.block_lt_of_cell? w _ hx133_3)).trans hx133_3
           replace hx133_4:=(HB.out.cell (World.block_lt_of_cell? w _ hx133_4)).trans hx133_4
           replace p133:=eq_true p133
           replace q133:=eq_true q133
           go_wp2_with (first|((with_reducible refine gate_dst (N:=4) rfl ?_);refine box_event ?hg (N:=4) ?hd (cs:=#[.int .i64 0,.int .i64 0,.int .i64 0,.int .i64 0,.int .i64 0]) (t:=104) ?hr ?_;(case hd=>rfl);(case hg=>rfl);(case hr=>first|(go_simp;done)|(go_simp;rfl));intro gb134 hg w15 hbox hb;have n0_:=Aside0.mk (below_step (bB) hb);have n1_:=Aside0.mk (hbox);have n2_:=Aside0.mk ((bG:w.heap.size≤gb134));have n3_:=Aside0.mk ((bG:w.heap.size≤gb134));clear HB;have HB:=n0_;have BK134:=n1_;have GW134:=n2_;have GE134:=n3_;clear n0_ n1_ n2_ n3_;clear hb hbox hg;have hcz16_0:w15.cell? ⟨gb134,0,none⟩=some (.int .i64 0):=(blk_cell BK134.out 0).trans rfl;have hcz16_1:w15.cell? ⟨gb134,1,none⟩=some (.int .i64 0):=(blk_cell BK134.out 1).trans rfl;have hcz16_2:w15.cell? ⟨gb134,2,none⟩=some (.int .i64 0):=(blk_cell BK134.out 2).trans rfl;have hcz16_3:w15.cell? ⟨gb134,3,none⟩=some (.int .i64 0):=(blk_cell BK134.out 3).trans rfl;have hcz16_4:w15.cell? ⟨gb134,4,none⟩=some (.int .i64 0):=(blk_cell BK134.out 4).trans rfl;have hfz16_0:=blk_frozen BK134.out 0;have hfz16_1:=blk_frozen BK134.out 1;have hfz16_2:=blk_frozen BK134.out 2;have hfz16_3:=blk_frozen BK134.out 3;have hfz16_4:=blk_frozen BK134.out 4)|((with_reducible refine gate_callee (f:=85) rfl ?_);refine goesA (some 13) rfl rfl Try.func85 #[.int .i64 ((rd_T104 l0 x7_1).f0)] rfl ?_;(with_reducible refine(spec_l6Node.calls ((rd_T104 l0 x7_1).f0) true _ A5.out).mono ?_);rintro e w' ⟨rfl,⟨nd,rfl⟩⟩;refine⟨_,rfl,?_⟩)|(go_at_call 85;(with_reducible refine(spec_l6Node.calls ((rd_T104 l0 x7_1).f1) true _ A7.out).mono ?_);rintro e w' ⟨rfl,⟨nd,rfl⟩⟩)|(go_at_call 86;(with_reducible refine(spec_l6When.calls ((rd_T104 l0 x7_1).f3) true _ A12.out).mono ?_);rintro e w' ⟨rfl,⟨nd,rfl⟩⟩))
           go_ret
           exact⟨bE,bS GE134.out⟩
          ·rw[if_neg c14] at H
           have c14b0:decide (((rd_T104 l0 x7_1).f2) < 0)=false:=decide_eq_false c14
           clear c14
           by_cases c17:((rd_T104 l0 x7_1).f2) ≥ ((rd_T104 l0 x7_1).f3)
           ·rw[if_pos c17] at H
            have c17b0:decide (((rd_T104 l0 x7_1).f3)≤((rd_T104 l0 x7_1).f2))=true:=decide_eq_true c17
            clear c17
            obtain rfl:=Option.some.inj H
            have p133:0≤(x7_1:Int):=of_decide_eq_true (bD)
            have q133:x7_1 < (l0.length:Int):=of_decide_eq_true (bD)
            obtain⟨ad133,e133,hx133_0,hx133_1,hx133_2,hx133_3,hx133_4⟩:=at_T104 HR0.out x7_1 p133 q133
            cases e133
            replace hx133_0:=(HB.out.cell (World.block_lt_of_cell? w _ hx133_0)).trans hx133_0
            replace hx133_1:=(HB.out.cell (World.block_lt_of_cell? w _ hx133_1)).trans hx133_1
            replace hx133_2:=(HB.out.cell (World.block_lt_of_cell? w _ hx133_2)).trans hx133_2
            replace hx133_3:=(HB.out.cell (World.block_lt_of_cell? w _ hx133_3)).trans hx133_3
            replace hx133_4:=(HB.out.cell (World.block_lt_of_cell? w _ hx133_4)).trans hx133_4
            replace p133:=eq_true p133
            replace q133:=eq_true q133
            go_wp2_with (first|((with_reducible refine gate_dst (N:=4) rfl ?_);refine box_event ?hg (N:=4) ?hd (cs:=#[.int .i64 0,.int .i64 0,.int .i64 0,.int .i64 0,.int .i64 0]) (t:=104) ?hr ?_;(case hd=>rfl);(case hg=>rfl);(case hr=>first|(go_simp;done)|(go_simp;rfl));intro gb134 hg w18 hbox hb;have n0_:=Aside0.mk (below_step (bB) hb);have n1_:=Aside0.mk (hbox);have n2_:=Aside0.mk ((bG:w.heap.size≤gb134));have n3_:=Aside0.mk ((bG:w.heap.size≤gb134));clear HB;have HB:=n0_;have BK134:=n1_;have GW134:=n2_;have GE134:=n3_;clear n0_ n1_ n2_ n3_;clear hb hbox hg;have hcz19_0:w18.cell? ⟨gb134,0,none⟩=some (.int .i64 0):=(blk_cell BK134.out 0).trans rfl;have hcz19_1:w18.cell? ⟨gb134,1,none⟩=some (.int .i64 0):=(blk_cell BK134.out 1).trans rfl;have hcz19_2:w18.cell? ⟨gb134,2,none⟩=some (.int .i64 0):=(blk_cell BK134.out 2).trans rfl;have hcz19_3:w18.cell? ⟨gb134,3,none⟩=some (.int .i64 0):=(blk_cell BK134.out 3).trans rfl;have hcz19_4:w18.cell? ⟨gb134,4,none⟩=some (.int .i64 0):=(blk_cell BK134.out 4).trans rfl;have hfz19_0:=blk_frozen BK134.out 0;have hfz19_1:=blk_frozen BK134.out 1;have hfz19_2:=blk_frozen BK134.out 2;have hfz19_3:=blk_frozen BK134.out 3;have hfz19_4:=blk_frozen BK134.out 4)|((with_reducible refine gate_callee (f:=85) rfl ?_);refine goesA (some 13) rfl rfl Try.func85 #[.int .i64 ((rd_T104 l0 x7_1).f0)] rfl ?_;(with_reducible refine(spec_l6Node.calls ((rd_T104 l0 x7_1).f0) true _ A5.out).mono ?_);rintro e w' ⟨rfl,⟨nd,rfl⟩⟩;refine⟨_,rfl,?_⟩)|(go_at_call 85;(with_reducible refine(spec_l6Node.calls ((rd_T104 l0 x7_1).f1) true _ A7.out).mono ?_);rintro e w' ⟨rfl,⟨nd,rfl⟩⟩)|(go_at_call 86;(with_reducible refine(spec_l6When.calls ((rd_T104 l0 x7_1).f3) true _ A12.out).mono ?_);rintro e w' ⟨rfl,⟨nd,rfl⟩⟩))
            go_ret
            exact⟨bE,bS GE134.out⟩
           ·rw[if_neg c17] at H
            have c17b0:decide (((rd_T104 l0 x7_1).f3)≤((rd_T104 l0 x7_1).f2))=false:=decide_eq_false c17
            clear c17
            replace H:=Option.bind_eq_some_iff.mp H
            obtain⟨t138,A200,H⟩:=H
            have A20:=Aside0.mk A200
            clear A200
            by_cases c21:t138=true
            ·subst c21
             have H1:(spec_GoodPlan.l0 k1 l0 l0 (l0.length:Int) (wrap64 (x7_1+1)))=some r:=by rw[if_pos rfl] at H;exact H
             clear H
             have H:=H1
             clear H1
             have H':=Aside0.mk H
             clear H
             have p133:0≤(x7_1:Int):=of_decide_eq_true (bD)
             have q133:x7_1 < (l0.length:Int):=of_decide_eq_true (bD)
             obtain⟨ad133,e133,hx133_0,hx133_1,hx133_2,hx133_3,hx133_4⟩:=at_T104 HR0.out x7_1 p133 q133
             cases e133
             replace hx133_0:=(HB.out.cell (World.block_lt_of_cell? w _ hx133_0)).trans hx133_0
             replace hx133_1:=(HB.out.cell (World.block_lt_of_cell? w _ hx133_1)).trans hx133_1
             replace hx133_2:=(HB.out.cell (World.block_lt_of_cell? w _ hx133_2)).trans hx133_2
             replace hx133_3:=(HB.out.cell (World.block_lt_of_cell? w _ hx133_3)).trans hx133_3
             replace hx133_4:=(HB.out.cell (World.block_lt_of_cell? w _ hx133_4)).trans hx133_4
             replace p133:=eq_true p133
             replace q133:=eq_true q133
             go_wp2_with (first|((with_reducible refine gate_dst (N:=4) rfl ?_);refine box_event ?hg (N:=4) ?hd (cs:=#[.int .i64 0,.int .i64 0,.int .i64 0,.int .i64 0,.int .i64 0]) (t:=104) ?hr ?_;(case hd=>rfl);(case hg=>rfl);(case hr=>first|(go_simp;done)|(go_simp;rfl));intro gb134 hg w22 hbox hb;have n0_:=Aside0.mk (below_step (bB) hb);have n1_:=Aside0.mk (hbox);have n2_:=Aside0.mk ((bG:w.heap.size≤gb134));have n3_:=Aside0.mk ((bG:w.heap.size≤gb134));clear HB;have HB:=n0_;have BK134:=n1_;have GW134:=n2_;have GE134:=n3_;clear n0_ n1_ n2_ n3_;clear hb hbox hg;have hcz23_0:w22.cell? ⟨gb134,0,none⟩=some (.int .i64 0):=(blk_cell BK134.out 0).trans rfl;have hcz23_1:w22.cell? ⟨gb134,1,none⟩=some (.int .i64 0):=(blk_cell BK134.out 1).trans rfl;have hcz23_2:w22.cell? ⟨gb134,2,none⟩=some (.int .i64 0):=(blk_cell BK134.out 2).trans rfl;have hcz23_3:w22.cell? ⟨gb134,3,none⟩=some (.int .i64 0):=(blk_cell BK134.out 3).trans rfl;have hcz23_4:w22.cell? ⟨gb134,4,none⟩=some (.int .i64 0):=(blk_cell BK134.out 4).trans rfl;have hfz23_0:=blk_frozen BK134.out 0;have hfz23_1:=blk_frozen BK134.out 1;have hfz23_2:=blk_frozen BK134.out 2;have hfz23_3:=blk_frozen BK134.out 3;have hfz23_4:=blk_frozen BK134.out 4)|((with_reducible refine gate_callee (f:=85) rfl ?_);refine goesA (some 13) rfl rfl Try.func85 #[.int .i64 ((rd_T104 l0 x7_1).f0)] rfl ?_;(with_reducible refine(spec_l6Node.calls ((rd_T104 l0 x7_1).f0) true _ A5.out).mono ?_);rintro e w' ⟨rfl,⟨nd,rfl⟩⟩;refine⟨_,rfl,?_⟩)|(go_at_call 85;(with_reducible refine(spec_l6Node.calls ((rd_T104 l0 x7_1).f1) true _ A7.out).mono ?_);rintro e w' ⟨rfl,⟨nd,rfl⟩⟩)|(go_at_call 86;(with_reducible refine(spec_l6When.calls ((rd_T104 l0 x7_1).f3) true _ A12.out).mono ?_);rintro e w' ⟨rfl,⟨nd,rfl⟩⟩)|(go_at_call 75;(with_reducible refine(spec_l1In.calls ((rd_T104 l0 x7_1).f4) 0 100 true _ A20.out).mono ?_);rintro e w' ⟨rfl,⟨nd,rfl⟩⟩))
             go_roundg k1
             case measure=>have:=HK1.out;omega
             case rel=>exact⟨(wrap64 (x7_1+1)),(bR),H',⟨by have:=HK1.out;omega⟩,⟨bS GE134.out⟩⟩
            ·replace c21:=Bool.eq_false_iff.mpr c21
             subst c21
             have H1:(some false)=some r:=by rw[if_neg (show ¬ (false=true) by decide)] at H;exact H
             clear H
             have H:=H1
             clear H1
             obtain rfl:=Option.some.inj H
             have p133:0≤(x7_1:Int):=of_decide_eq_true (bD)
             have q133:x7_1 < (l0.length:Int):=of_decide_eq_true (bD)
             obtain⟨ad133,e133,hx133_0,hx133_1,hx133_2,hx133_3,hx133_4⟩:=at_T104 HR0.out x7_1 p133 q133
             cases e133
             replace hx133_0:=(HB.out.cell (World.block_lt_of_cell? w _ hx133_0)).trans hx133_0
             replace hx133_1:=(HB.out.cell (World.block_lt_of_cell? w _ hx133_1)).trans hx133_1
             replace hx133_2:=(HB.out.cell (World.block_lt_of_cell? w _ hx133_2)).trans hx133_2
             replace hx133_3:=(HB.out.cell (World.block_lt_of_cell? w _ hx133_3)).trans hx133_3
             replace hx133_4:=(HB.out.cell (World.block_lt_of_cell? w _ hx133_4)).trans hx133_4
             replace p133:=eq_true p133
             replace q133:=eq_true q133
             go_wp2_with (first|((with_reducible refine gate_dst (N:=4) rfl ?_);refine box_event ?hg (N:=4) ?hd (cs:=#[.int .i64 0,.int .i64 0,.int .i64 0,.int .i64 0,.int .i64 0]) (t:=104) ?hr ?_;(case hd=>rfl);(case hg=>rfl);(case hr=>first|(go_simp;done)|(go_simp;rfl));intro gb134 hg w24 hbox hb;have n0_:=Aside0.mk (below_step (bB) hb);have n1_:=Aside0.mk (hbox);have n2_:=Aside0.mk ((bG:w.heap.size≤gb134));have n3_:=Aside0.mk ((bG:w.heap.size≤gb134));clear HB;have HB:=n0_;have BK134:=n1_;have GW134:=n2_;have GE134:=n3_;clear n0_ n1_ n2_ n3_;clear hb hbox hg;have hcz25_0:w24.cell? ⟨gb134,0,none⟩=some (.int .i64 0):=(blk_cell BK134.out 0).trans rfl;have hcz25_1:w24.cell? ⟨gb134,1,none⟩=some (.int .i64 0):=(blk_cell BK134.out 1).trans rfl;have hcz25_2:w24.cell? ⟨gb134,2,none⟩=some (.int .i64 0):=(blk_cell BK134.out 2).trans rfl;have hcz25_3:w24.cell? ⟨gb134,3,none⟩=some (.int .i64 0):=(blk_cell BK134.out 3).trans rfl;have hcz25_4:w24.cell? ⟨gb134,4,none⟩=some (.int .i64 0):=(blk_cell BK134.out 4).trans rfl;have hfz25_0:=blk_frozen BK134.out 0;have hfz25_1:=blk_frozen BK134.out 1;have hfz25_2:=blk_frozen BK134.out 2;have hfz25_3:=blk_frozen BK134.out 3;have hfz25_4:=blk_frozen BK134.out 4)|((with_reducible refine gate_callee (f:=85) rfl ?_);refine goesA (some 13) rfl rfl Try.func85 #[.int .i64 ((rd_T104 l0 x7_1).f0)] rfl ?_;(with_reducible refine(spec_l6Node.calls ((rd_T104 l0 x7_1).f0) true _ A5.out).mono ?_);rintro e w' ⟨rfl,⟨nd,rfl⟩⟩;refine⟨_,rfl,?_⟩)|(go_at_call 85;(with_reducible refine(spec_l6Node.calls ((rd_T104 l0 x7_1).f1) true _ A7.out).mono ?_);rintro e w' ⟨rfl,⟨nd,rfl⟩⟩)|(go_at_call 86;(with_reducible refine(spec_l6When.calls ((rd_T104 l0 x7_1).f3) true _ A12.out).mono ?_);rintro e w' ⟨rfl,⟨nd,rfl⟩⟩)|(go_at_call 75;(with_reducible refine(spec_l1In.calls ((rd_T104 l0 x7_1).f4) 0 100 false _ A20.out).mono ?_);rintro e w' ⟨rfl,⟨nd,rfl⟩⟩))
             go_ret
             exact⟨bE,bS GE134.out⟩
         ·replace c13:=Bool.eq_false_iff.mpr c13
          subst c13
          have H1:(some false)=some r:=by rw[if_neg (show ¬ (false=true) by decide)] at H;exact H
          clear H
          have H:=H1
          clear H1
          obtain rfl:=Option.some.inj H
          have p133:0≤(x7_1:Int):=of_decide_eq_true (bD)
          have q133:x7_1 < (l0.length:Int):=of_decide_eq_true (bD)
          obtain⟨ad133,e133,hx133_0,hx133_1,hx133_2,hx133_3,hx133_4⟩:=at_T104 HR0.out x7_1 p133 q133
          cases e133
          replace hx133_0:=(HB.out.cell (World.block_lt_of_cell? w _ hx133_0)).trans hx133_0
          replace hx133_1:=(HB.out.cell (World.block_lt_of_cell? w _ hx133_1)).trans hx133_1
          replace hx133_2:=(HB.out.cell (World.block_lt_of_cell? w _ hx133_2)).trans hx133_2
          replace hx133_3:=(HB.out.cell (World.block_lt_of_cell? w _ hx133_3)).trans hx133_3
          replace hx133_4:=(HB.out.cell (World.block_lt_of_cell? w _ hx133_4)).trans hx133_4
          replace p133:=eq_true p133
          replace q133:=eq_true q133
          go_wp2_with (first|((with_reducible refine gate_dst (N:=4) rfl ?_);refine box_event ?hg (N:=4) ?hd (cs:=#[.int .i64 0,.int .i64 0,.int .i64 0,.int .i64 0,.int .i64 0]) (t:=104) ?hr ?_;(case hd=>rfl);(case hg=>rfl);(case hr=>first|(go_simp;done)|(go_simp;rfl));intro gb134 hg w26 hbox hb;have n0_:=Aside0.mk (below_step (bB) hb);have n1_:=Aside0.mk (hbox);have n2_:=Aside0.mk ((bG:w.heap.size≤gb134));have n3_:=Aside0.mk ((bG:w.heap.size≤gb134));clear HB;have HB:=n0_;have BK134:=n1_;have GW134:=n2_;have GE134:=n3_;clear n0_ n1_ n2_ n3_;clear hb hbox hg;have hcz27_0:w26.cell? ⟨gb134,0,none⟩=some (.int .i64 0):=(blk_cell BK134.out 0).trans rfl;have hcz27_1:w26.cell? ⟨gb134,1,none⟩=some (.int .i64 0):=(blk_cell BK134.out 1).trans rfl;have hcz27_2:w26.cell? ⟨gb134,2,none⟩=some (.int .i64 0):=(blk_cell BK134.out 2).trans rfl;have hcz27_3:w26.cell? ⟨gb134,3,none⟩=some (.int .i64 0):=(blk_cell BK134.out 3).trans rfl;have hcz27_4:w26.cell? ⟨gb134,4,none⟩=some (.int .i64 0):=(blk_cell BK134.out 4).trans rfl;have hfz27_0:=blk_frozen BK134.out 0;have hfz27_1:=blk_frozen BK134.out 1;have hfz27_2:=blk_frozen BK134.out 2;have hfz27_3:=blk_frozen BK134.out 3;have hfz27_4:=blk_frozen BK134.out 4)|((with_reducible refine gate_callee (f:=85) rfl ?_);refine goesA (some 13) rfl rfl Try.func85 #[.int .i64 ((rd_T104 l0 x7_1).f0)] rfl ?_;(with_reducible refine(spec_l6Node.calls ((rd_T104 l0 x7_1).f0) true _ A5.out).mono ?_);rintro e w' ⟨rfl,⟨nd,rfl⟩⟩;refine⟨_,rfl,?_⟩)|(go_at_call 85;(with_reducible refine(spec_l6Node.calls ((rd_T104 l0 x7_1).f1) true _ A7.out).mono ?_);rintro e w' ⟨rfl,⟨nd,rfl⟩⟩)|(go_at_call 86;(with_reducible refine(spec_l6When.calls ((rd_T104 l0 x7_1).f3) false _ A12.out).mono ?_);rintro e w' ⟨rfl,⟨nd,rfl⟩⟩))
          go_ret
          exact⟨bE,bS GE134.out⟩
       ·replace c8:=Bool.eq_false_iff.mpr c8
        subst c8
        have H1:(some false)=some r:=by rw[if_neg (show ¬ (false=true) by decide)] at H;exact H
        clear H
        have H:=H1
        clear H1
        obtain rfl:=Option.some.inj H
        have p133:0≤(x7_1:Int):=of_decide_eq_true (bD)
        have q133:x7_1 < (l0.length:Int):=of_decide_eq_true (bD)
        obtain⟨ad133,e133,hx133_0,hx133_1,hx133_2,hx133_3,hx133_4⟩:=at_T104 HR0.out x7_1 p133 q133
        cases e133
        replace hx133_0:=(HB.out.cell (World.block_lt_of_cell? w _ hx133_0)).trans hx133_0
        replace hx133_1:=(HB.out.cell (World.block_lt_of_cell? w _ hx133_1)).trans hx133_1
        replace hx133_2:=(HB.out.cell (World.block_lt_of_cell? w _ hx133_2)).trans hx133_2
        replace hx133_3:=(HB.out.cell (World.block_lt_of_cell? w _ hx133_3)).trans hx133_3
        replace hx133_4:=(HB.out.cell (World.block_lt_of_cell? w _ hx133_4)).trans hx133_4
        replace p133:=eq_true p133
        replace q133:=eq_true q133
        go_wp2_with (first|((with_reducible refine gate_dst (N:=4) rfl ?_);refine box_event ?hg (N:=4) ?hd (cs:=#[.int .i64 0,.int .i64 0,.int .i64 0,.int .i64 0,.int .i64 0]) (t:=104) ?hr ?_;(case hd=>rfl);(case hg=>rfl);(case hr=>first|(go_simp;done)|(go_simp;rfl));intro gb134 hg w28 hbox hb;have n0_:=Aside0.mk (below_step (bB) hb);have n1_:=Aside0.mk (hbox);have n2_:=Aside0.mk ((bG:w.heap.size≤gb134));have n3_:=Aside0.mk ((bG:w.heap.size≤gb134));clear HB;have HB:=n0_;have BK134:=n1_;have GW134:=n2_;have GE134:=n3_;clear n0_ n1_ n2_ n3_;clear hb hbox hg;have hcz29_0:w28.cell? ⟨gb134,0,none⟩=some (.int .i64 0):=(blk_cell BK134.out 0).trans rfl;have hcz29_1:w28.cell? ⟨gb134,1,none⟩=some (.int .i64 0):=(blk_cell BK134.out 1).trans rfl;have hcz29_2:w28.cell? ⟨gb134,2,none⟩=some (.int .i64 0):=(blk_cell BK134.out 2).trans rfl;have hcz29_3:w28.cell? ⟨gb134,3,none⟩=some (.int .i64 0):=(blk_cell BK134.out 3).trans rfl;have hcz29_4:w28.cell? ⟨gb134,4,none⟩=some (.int .i64 0):=(blk_cell BK134.out 4).trans rfl;have hfz29_0:=blk_frozen BK134.out 0;have hfz29_1:=blk_frozen BK134.out 1;have hfz29_2:=blk_frozen BK134.out 2;have hfz29_3:=blk_frozen BK134.out 3;have hfz29_4:=blk_frozen BK134.out 4)|((with_reducible refine gate_callee (f:=85) rfl ?_);refine goesA (some 13) rfl rfl Try.func85 #[.int .i64 ((rd_T104 l0 x7_1).f0)] rfl ?_;(with_reducible refine(spec_l6Node.calls ((rd_T104 l0 x7_1).f0) true _ A5.out).mono ?_);rintro e w' ⟨rfl,⟨nd,rfl⟩⟩;refine⟨_,rfl,?_⟩)|(go_at_call 85;(with_reducible refine(spec_l6Node.calls ((rd_T104 l0 x7_1).f1) false _ A7.out).mono ?_);rintro e w' ⟨rfl,⟨nd,rfl⟩⟩))
        go_ret
        exact⟨bE,bS GE134.out⟩
      ·replace c6:=Bool.eq_false_iff.mpr c6
       subst c6
       have H1:(some false)=some r:=by rw[if_neg (show ¬ (false=true) by decide)] at H;exact H
       clear H
       have H:=H1
       clear H1
       obtain rfl:=Option.some.inj H
       have p133:0≤(x7_1:Int):=of_decide_eq_true (bD)
       have q133:x7_1 < (l0.length:Int):=of_decide_eq_true (bD)
       obtain⟨ad133,e133,hx133_0,hx133_1,hx133_2,hx133_3,hx133_4⟩:=at_T104 HR0.out x7_1 p133 q133
       cases e133
       replace hx133_0:=(HB.out.cell (World.block_lt_of_cell? w _ hx133_0)).trans hx133_0
       replace hx133_1:=(HB.out.cell (World.block_lt_of_cell? w _ hx133_1)).trans hx133_1
       replace hx133_2:=(HB.out.cell (World.block_lt_of_cell? w _ hx133_2)).trans hx133_2
       replace hx133_3:=(HB.out.cell (World.block_lt_of_cell? w _ hx133_3)).trans hx133_3
       replace hx133_4:=(HB.out.cell (World.block_lt_of_cell? w _ hx133_4)).trans hx133_4
       replace p133:=eq_true p133
       replace q133:=eq_true q133
       go_wp2_with (first|((with_reducible refine gate_dst (N:=4) rfl ?_);refine box_event ?hg (N:=4) ?hd (cs:=#[.int .i64 0,.int .i64 0,.int .i64 0,.int .i64 0,.int .i64 0]) (t:=104) ?hr ?_;(case hd=>rfl);(case hg=>rfl);(case hr=>first|(go_simp;done)|(go_simp;rfl));intro gb134 hg w30 hbox hb;have n0_:=Aside0.mk (below_step (bB) hb);have n1_:=Aside0.mk (hbox);have n2_:=Aside0.mk ((bG:w.heap.size≤gb134));have n3_:=Aside0.mk ((bG:w.heap.size≤gb134));clear HB;have HB:=n0_;have BK134:=n1_;have GW134:=n2_;have GE134:=n3_;clear n0_ n1_ n2_ n3_;clear hb hbox hg;have hcz31_0:w30.cell? ⟨gb134,0,none⟩=some (.int .i64 0):=(blk_cell BK134.out 0).trans rfl;have hcz31_1:w30.cell? ⟨gb134,1,none⟩=some (.int .i64 0):=(blk_cell BK134.out 1).trans rfl;have hcz31_2:w30.cell? ⟨gb134,2,none⟩=some (.int .i64 0):=(blk_cell BK134.out 2).trans rfl;have hcz31_3:w30.cell? ⟨gb134,3,none⟩=some (.int .i64 0):=(blk_cell BK134.out 3).trans rfl;have hcz31_4:w30.cell? ⟨gb134,4,none⟩=some (.int .i64 0):=(blk_cell BK134.out 4).trans rfl;have hfz31_0:=blk_frozen BK134.out 0;have hfz31_1:=blk_frozen BK134.out 1;have hfz31_2:=blk_frozen BK134.out 2;have hfz31_3:=blk_frozen BK134.out 3;have hfz31_4:=blk_frozen BK134.out 4)|((with_reducible refine gate_callee (f:=85) rfl ?_);refine goesA (some 13) rfl rfl Try.func85 #[.int .i64 ((rd_T104 l0 x7_1).f0)] rfl ?_;(with_reducible refine(spec_l6Node.calls ((rd_T104 l0 x7_1).f0) false _ A5.out).mono ?_);rintro e w' ⟨rfl,⟨nd,rfl⟩⟩;refine⟨_,rfl,?_⟩))
       go_ret
       exact⟨bE,bS GE134.out⟩
     ·rw[if_neg c4] at H
      exact absurd H (by simp)
    ·rw[if_neg c3] at H
     exact absurd H (by simp)
   ·rw[if_neg c2] at H
    have c2b0:decide (x7_1 < (l0.length:Int))=false:=decide_eq_false c2
    clear c2
    obtain rfl:=Option.some.inj H
    go_wp2
    go_ret
    exact⟨bE,bB⟩

end Go.Proofs.Yteneeohaoplpbaa.XFnExactFollowPlan
