-- Written by this session's own program (wip/xprint.py) out of the translation; Lean checks it.
import Derived.Test.YteneeohaoplpbaaXFnExactReachAllx0
namespace Go.Proofs.Yteneeohaoplpbaa.XFnExactReachAll
open Go.RowKit Go.Proofs.YteneeohaoplpbaaW.PrintWords Go.Proofs.YteneeohaoplpbaaW.PrintLast Go.Proofs.YteneeohaoplpbaaW.PrintMore
attribute [local go_sem] max2_int min2_int max_two min_two max_three min_three max_four min_four   -- for this text's walks alone
set_option linter.unusedVariables false
set_option linter.unusedSimpArgs false

/-! ### laws_markContactS: function 28 -/
def laws_markContactS.l0:Nat→List (S104)→Int→Int→Option (Int × (List (S104)))
 | 0,_,_,_=>none
 | k+1,x0,x1,x5=>if x5 < (x0.length:Int) then (if 0≤x5 then ((some (x0.set (x5:Int).toNat (⟨x1,(rd_T104 x0 x5).f1,(rd_T104 x0 x5).f2,(rd_T104 x0 x5).f3,(rd_T104 x0 x5).f4⟩:S104):List (S104))).bind fun y121=>((some (y121.set (x5:Int).toNat (⟨(rd_T104 y121 x5).f0,wrap64 (x1+1),(rd_T104 y121 x5).f2,(rd_T104 y121 x5).f3,(rd_T104 y121 x5).f4⟩:S104):List (S104))).bind fun y122=>((some (y122.set (x5:Int).toNat (⟨(rd_T104 y122 x5).f0,(rd_T104 y122 x5).f1,wrap64 ((wrap64 (x1+1))+1),(rd_T104 y122 x5).f3,(rd_T104 y122 x5).f4⟩:S104):List (S104))).bind fun y123=>((some (y123.set (x5:Int).toNat (⟨(rd_T104 y123 x5).f0,(rd_T104 y123 x5).f1,(rd_T104 y123 x5).f2,wrap64 ((wrap64 ((wrap64 (x1+1))+1))+1),(rd_T104 y123 x5).f4⟩:S104):List (S104))).bind fun y124=>(laws_markContactS.l0 k (y124.set (x5:Int).toNat (⟨(rd_T104 y124 x5).f0,(rd_T104 y124 x5).f1,(rd_T104 y124 x5).f2,(rd_T104 y124 x5).f3,wrap64 ((wrap64 ((wrap64 ((wrap64 (x1+1))+1))+1))+1)⟩:S104)) (wrap64 ((wrap64 ((wrap64 ((wrap64 ((wrap64 (x1+1))+1))+1))+1))+1)) (wrap64 (x5+1))))))) else (none)) else (some (x1,x0))
def laws_markContactS.f (k:Nat) (l0:List (S104)) (a1:Int):Option (Int × (List (S104))):=laws_markContactS.l0 k l0 a1 0
theorem laws_markContactS.mono_l : ∀ k,(∀ y0 y1 y2,LeO (laws_markContactS.l0 k y0 y1 y2) (laws_markContactS.l0 (k+1) y0 y1 y2))
 | 0=>fun _ _ _ r h=>by simp[laws_markContactS.l0] at h
 | k+1=>by
  have ih0:=laws_markContactS.mono_l k
  ·intro y0 y1 y2
   unfold laws_markContactS.l0
   repeat' first
   | (with_reducible exact ih0 _ _ _)
   | (with_reducible exact LeO.refl _)
   | (with_reducible exact LeO.none _)
   | (with_reducible refine LeO.ite ?_ ?_)
   | (with_reducible refine LeO.bind ?_ (fun _ => ?_))
   | exact ih0 _ _ _
   | exact LeO.none _
   | refine LeO.ite ?_ ?_
   | refine LeO.bind ?_ (fun _ => ?_)
theorem laws_markContactS.mono : ∀ a0 a1 k,LeO (laws_markContactS.f k a0 a1) (laws_markContactS.f (k+1) a0 a1):=by
 intro a0 a1 k
 have ih0:=laws_markContactS.mono_l k
 unfold laws_markContactS.f
 repeat' first
  | (with_reducible exact ih0 _ _ _)
  | (with_reducible exact LeO.refl _)
  | (with_reducible exact LeO.none _)
  | (with_reducible refine LeO.ite ?_ ?_)
  | (with_reducible refine LeO.bind ?_ (fun _ => ?_))
  | exact ih0 _ _ _
  | exact LeO.none _
  | refine LeO.ite ?_ ?_
  | refine LeO.bind ?_ (fun _ => ?_)
set_option maxHeartbeats 8000000 in
set_option maxRecDepth 100000 in
theorem laws_markContactS.calls (k:Nat) (P0_:Nat→Prop) (u9000_:Value) (l0:List (S104)) (a1:Int) (r1:Int) (r2:List (S104)) (w0 w:World) (hB:Below w0.heap.size w0 w) (ho0:Kd.R k104 104 w w0.heap.size P0_ u9000_ l0) (h:laws_markContactS.f k l0 a1=some (r1,r2)) :
  Calls Try.prog 28 #[u9000_,.int .i64 a1] w fun e w'=>e=.returned (.int .i64 r1)∧Kd.R k104 104 w' w0.heap.size (fun k_=>(P0_ k_∨w.heap.size≤k_)) u9000_ r2∧Below w0.heap.size w0 w'∧Kept w w' (fun k_=>P0_ k_):=by
 have HO0:=Aside0.mk (show Kd.R k104 104 w w0.heap.size (fun k_=>(P0_ k_∨w.heap.size≤k_)) u9000_ l0 from Kd.R_mono ho0 (fun k_ hk=>(.inl hk)))
 have HK:=Aside0.mk (Kept.refl w (fun k_=>P0_ k_))
 have HW0:=Aside0.mk hB.size
 have HB:=Aside0.mk hB
 clear hB
 have H:(laws_markContactS.l0 k l0 a1 0)=some (r1,r2):=h
 clear h
 have H':=Aside0.mk H
 clear H
 go_enter Try.func28,Try.ntmps28
 go_wp2
 go_loopg [1,5] k (fun kq v1 v5 w' => ∃ (x0_1:List (S104)) (x1_1:Int) (x5_1:Int),v1=.int .i64 x1_1∧v5=.int .i64 x5_1∧Aside0 (laws_markContactS.l0 kq x0_1 x1_1 x5_1=some (r1,r2))∧Aside0 (kq≤k)∧Aside0 (Kd.R k104 104 w' w0.heap.size (fun k_=>(P0_ k_∨w.heap.size≤k_)) u9000_ x0_1)∧Aside0 (Kept w w' (fun k_=>P0_ k_))∧Aside0 (Below w0.heap.size w0 w'))
 case atStart=>exact⟨(l0),(a1),(0),(bR),(bR),H',⟨Nat.le_refl _⟩,⟨by(with_reducible repeat (first|apply Kd.R_alloc|apply Kd.R_drewN|apply Kd.R_drew));exact HO0.out⟩,⟨by repeat (first|(with_reducible first|exact HK.out|apply Kept.alloc|apply Kept.drewN|apply Kept.drew)|exact HK.out)⟩,⟨by repeat (first|(with_reducible first|exact HB.out|apply below_alloc|apply pw_below_drewN|apply below_drew1)|exact HB.out)⟩⟩
 case round =>
  clear H'
  try clear c2
  try clear p2
  obtain⟨x0_1,x1_1,x5_1,rfl,rfl,HA,HK1,HO_0,HK,HB⟩:=hrel
  cases gk with
  | zero=>exact absurd HA.out (by simp[laws_markContactS.l0])
  | succ k1 =>
   have H:=HA.out
   clear HA
   simp only[laws_markContactS.l0] at H
   by_cases c3:x5_1 < (x0_1.length:Int)
   ·rw[if_pos c3] at H
    have c3b0:decide (x5_1 < (x0_1.length:Int))=true:=decide_eq_true c3
    clear c3
    by_cases c4:0≤x5_1
    ·rw[if_pos c4] at H
     have c4b0:decide (0≤x5_1)=true:=decide_eq_true c4
     clear c4
     obtain⟨y121,hy121⟩ : ∃ y_:List (S104),y_=(x0_1.set (x5_1:Int).toNat (⟨x1_1,(rd_T104 x0_1 x5_1).f1,(rd_T104 x0_1 x5_1).f2,(rd_T104 x0_1 x5_1).f3,(rd_T104 x0_1 x5_1).f4⟩:S104)):=⟨_,rfl⟩
     replace H:((some (y121.set (x5_1:Int).toNat (⟨(rd_T104 y121 x5_1).f0,wrap64 (x1_1+1),(rd_T104 y121 x5_1).f2,(rd_T104 y121 x5_1).f3,(rd_T104 y121 x5_1).f4⟩:S104):List (S104))).bind fun y122=>((some (y122.set (x5_1:Int).toNat (⟨(rd_T104 y122 x5_1).f0,(rd_T104 y122 x5_1).f1,wrap64 ((wrap64 (x1_1+1))+1),(rd_T104 y122 x5_1).f3,(rd_T104 y122 x5_1).f4⟩:S104):List (S104))).bind fun y123=>((some (y123.set (x5_1:Int).toNat (⟨(rd_T104 y123 x5_1).f0,(rd_T104 y123 x5_1).f1,(rd_T104 y123 x5_1).f2,wrap64 ((wrap64 ((wrap64 (x1_1+1))+1))+1),(rd_T104 y123 x5_1).f4⟩:S104):List (S104))).bind fun y124=>(laws_markContactS.l0 k1 (y124.set (x5_1:Int).toNat (⟨(rd_T104 y124 x5_1).f0,(rd_T104 y124 x5_1).f1,(rd_T104 y124 x5_1).f2,(rd_T104 y124 x5_1).f3,wrap64 ((wrap64 ((wrap64 ((wrap64 (x1_1+1))+1))+1))+1)⟩:S104)) (wrap64 ((wrap64 ((wrap64 ((wrap64 ((wrap64 (x1_1+1))+1))+1))+1))+1)) (wrap64 (x5_1+1))))))=some (r1,r2):=by first|(rw[hy121];with_reducible exact H)|(have H2_:=(Option.bind_some _ _).symm.trans H;rw[hy121];with_reducible exact H2_)|(have H2_:=(Option.bind_some _ _).symm.trans H;with_reducible exact H2_)|with_reducible exact H|(rw[hy121];exact H)|exact H
     have Ny121:=Aside0.mk hy121
     clear hy121
     obtain⟨y122,hy122⟩ : ∃ y_:List (S104),y_=(y121.set (x5_1:Int).toNat (⟨(rd_T104 y121 x5_1).f0,wrap64 (x1_1+1),(rd_T104 y121 x5_1).f2,(rd_T104 y121 x5_1).f3,(rd_T104 y121 x5_1).f4⟩:S104)):=⟨_,rfl⟩
     replace H:((some (y122.set (x5_1:Int).toNat (⟨(rd_T104 y122 x5_1).f0,(rd_T104 y122 x5_1).f1,wrap64 ((wrap64 (x1_1+1))+1),(rd_T104 y122 x5_1).f3,(rd_T104 y122 x5_1).f4⟩:S104):List (S104))).bind fun y123=>((some (y123.set (x5_1:Int).toNat (⟨(rd_T104 y123 x5_1).f0,(rd_T104 y123 x5_1).f1,(rd_T104 y123 x5_1).f2,wrap64 ((wrap64 ((wrap64 (x1_1+1))+1))+1),(rd_T104 y123 x5_1).f4⟩:S104):List (S104))).bind fun y124=>(laws_markContactS.l0 k1 (y124.set (x5_1:Int).toNat (⟨(rd_T104 y124 x5_1).f0,(rd_T104 y124 x5_1).f1,(rd_T104 y124 x5_1).f2,(rd_T104 y124 x5_1).f3,wrap64 ((wrap64 ((wrap64 ((wrap64 (x1_1+1))+1))+1))+1)⟩:S104)) (wrap64 ((wrap64 ((wrap64 ((wrap64 ((wrap64 (x1_1+1))+1))+1))+1))+1)) (wrap64 (x5_1+1)))))=some (r1,r2):=by first|(rw[hy122];with_reducible exact H)|(have H2_:=(Option.bind_some _ _).symm.trans H;rw[hy122];with_reducible exact H2_)|(have H2_:=(Option.bind_some _ _).symm.trans H;with_reducible exact H2_)|with_reducible exact H|(rw[hy122];exact H)|exact H
     have Ny122:=Aside0.mk hy122
     clear hy122
     obtain⟨y123,hy123⟩ : ∃ y_:List (S104),y_=(y122.set (x5_1:Int).toNat (⟨(rd_T104 y122 x5_1).f0,(rd_T104 y122 x5_1).f1,wrap64 ((wrap64 (x1_1+1))+1),(rd_T104 y122 x5_1).f3,(rd_T104 y122 x5_1).f4⟩:S104)):=⟨_,rfl⟩
     replace H:((some (y123.set (x5_1:Int).toNat (⟨(rd_T104 y123 x5_1).f0,(rd_T104 y123 x5_1).f1,(rd_T104 y123 x5_1).f2,wrap64 ((wrap64 ((wrap64 (x1_1+1))+1))+1),(rd_T104 y123 x5_1).f4⟩:S104):List (S104))).bind fun y124=>(laws_markContactS.l0 k1 (y124.set (x5_1:Int).toNat (⟨(rd_T104 y124 x5_1).f0,(rd_T104 y124 x5_1).f1,(rd_T104 y124 x5_1).f2,(rd_T104 y124 x5_1).f3,wrap64 ((wrap64 ((wrap64 ((wrap64 (x1_1+1))+1))+1))+1)⟩:S104)) (wrap64 ((wrap64 ((wrap64 ((wrap64 ((wrap64 (x1_1+1))+1))+1))+1))+1)) (wrap64 (x5_1+1))))=some (r1,r2):=by first|(rw[hy123];with_reducible exact H)|(have H2_:=(Option.bind_some _ _).symm.trans H;rw[hy123];with_reducible exact H2_)|(have H2_:=(Option.bind_some _ _).symm.trans H;with_reducible exact H2_)|with_reducible exact H|(rw[hy123];exact H)|exact H
     have Ny123:=Aside0.mk hy123
     clear hy123
     obtain⟨y124,hy124⟩ : ∃ y_:List (S104),y_=(y123.set (x5_1:Int).toNat (⟨(rd_T104 y123 x5_1).f0,(rd_T104 y123 x5_1).f1,(rd_T104 y123 x5_1).f2,wrap64 ((wrap64 ((wrap64 (x1_1+1))+1))+1),(rd_T104 y123 x5_1).f4⟩:S104)):=⟨_,rfl⟩
     replace H:(laws_markContactS.l0 k1 (y124.set (x5_1:Int).toNat (⟨(rd_T104 y124 x5_1).f0,(rd_T104 y124 x5_1).f1,(rd_T104 y124 x5_1).f2,(rd_T104 y124 x5_1).f3,wrap64 ((wrap64 ((wrap64 ((wrap64 (x1_1+1))+1))+1))+1)⟩:S104)) (wrap64 ((wrap64 ((wrap64 ((wrap64 ((wrap64 (x1_1+1))+1))+1))+1))+1)) (wrap64 (x5_1+1)))=some (r1,r2):=by first|(rw[hy124];with_reducible exact H)|(have H2_:=(Option.bind_some _ _).symm.trans H;rw[hy124];with_reducible exact H2_)|(have H2_:=(Option.bind_some _ _).symm.trans H;with_reducible exact H2_)|with_reducible exact H|(rw[hy124];exact H)|exact H
     have Ny124:=Aside0.mk hy124
     clear hy124
     obtain⟨y125,hy125⟩ : ∃ y_:List (S104),y_=(y124.set (x5_1:Int).toNat (⟨(rd_T104 y124 x5_1).f0,(rd_T104 y124 x5_1).f1,(rd_T104 y124 x5_1).f2,(rd_T104 y124 x5_1).f3,wrap64 ((wrap64 ((wrap64 ((wrap64 (x1_1+1))+1))+1))+1)⟩:S104)):=⟨_,rfl⟩
     replace H:(laws_markContactS.l0 k1 y125 (wrap64 ((wrap64 ((wrap64 ((wrap64 ((wrap64 (x1_1+1))+1))+1))+1))+1)) (wrap64 (x5_1+1)))=some (r1,r2):=by first|(rw[hy125];with_reducible exact H)|(have H2_:=(Option.bind_some _ _).symm.trans H;rw[hy125];with_reducible exact H2_)|(have H2_:=(Option.bind_some _ _).symm.trans H;with_reducible exact H2_)|with_reducible exact H|(rw[hy125];exact H)|exact H
     have Ny125:=Aside0.mk hy125
     clear hy125
     have H':=Aside0.mk H
     clear H
     obtain⟨Ao10,co10,eo10⟩:=Kd.R_slice HO_0.out
     subst eo10
     have p5:0≤(x5_1:Int):=of_decide_eq_true (bD)
     have q5:(x5_1:Int) < ((x0_1.length:Int):Int):=of_decide_eq_true (bD)
     obtain⟨go5,co5,eo5,gb5,gl5,cl5,HG5⟩:=Kd.R_form HO_0.out (by omega)
     (first|cases eo5|(injection eo5 with ea_ en_ ec_;(first|subst ea_|(injection ea_ with ea_;subst ea_));subst ec_;clear en_))
     have GB5:=Aside0.mk gb5
     have GG5:=Aside0.mk HG5
     clear gb5 gl5 HG5
     have HMgo5:=Aside0.mk (show(P0_ go5∨w.heap.size≤go5) from (HO_0.out.1 _ rfl))
     obtain⟨ce5,hcl5,hM5,hcc5,hfr5⟩:=Kd.R_elem HO_0.out z104 (x5_1:Int) p5 q5
     obtain rfl:=k104_openM hM5
     have hx5_0:wr.cell? ⟨go5,(x5_1:Int).toNat * 5,none⟩=some (.int .i64 ((rd_T104 x0_1 x5_1).f0)):=hcc5 0 _ rfl
     have hx5_1:wr.cell? ⟨go5,(x5_1:Int).toNat * 5+1,none⟩=some (.int .i64 ((rd_T104 x0_1 x5_1).f1)):=hcc5 1 _ rfl
     have hx5_2:wr.cell? ⟨go5,(x5_1:Int).toNat * 5+2,none⟩=some (.int .i64 ((rd_T104 x0_1 x5_1).f2)):=hcc5 2 _ rfl
     have hx5_3:wr.cell? ⟨go5,(x5_1:Int).toNat * 5+3,none⟩=some (.int .i64 ((rd_T104 x0_1 x5_1).f3)):=hcc5 3 _ rfl
     have hx5_4:wr.cell? ⟨go5,(x5_1:Int).toNat * 5+4,none⟩=some (.int .i64 ((rd_T104 x0_1 x5_1).f4)):=hcc5 4 _ rfl
     have hf5_0:wr.frozen? ⟨go5,(x5_1:Int).toNat * 5,none⟩=false:=hfr5 0
     have hf5_1:wr.frozen? ⟨go5,(x5_1:Int).toNat * 5+1,none⟩=false:=hfr5 1
     have hf5_2:wr.frozen? ⟨go5,(x5_1:Int).toNat * 5+2,none⟩=false:=hfr5 2
     have hf5_3:wr.frozen? ⟨go5,(x5_1:Int).toNat * 5+3,none⟩=false:=hfr5 3
     have hf5_4:wr.frozen? ⟨go5,(x5_1:Int).toNat * 5+4,none⟩=false:=hfr5 4
     clear hcl5 hcc5 hfr5 hM5
     replace p5:=eq_true p5
     replace q5:=eq_true q5
     have HX11:=Aside0.mk (show Kd.R k104 104 wr w0.heap.size (fun k_=>(P0_ k_∨w.heap.size≤k_)) (.slice (some ⟨go5,0,none⟩) x0_1.length co10) x0_1 from (bK HO_0.out))
     obtain⟨ce11,hcl11,hM11,hcc11,hfr11⟩:=Kd.R_elem HX11.out z104 (x5_1:Int) (of_decide_eq_true (bD)) (by have h_:(x5_1:Int) < ((x0_1.length:Int):Int):=of_decide_eq_true (bD);first|exact h_|(have e_:=(Kd.R_reads' HO_0.out).1;omega)|simpa using h_)
     obtain rfl:=k104_openM hM11
     have HP11:=Kd.R_seg HX11.out (x5_1:Int) (of_decide_eq_true (bD)) (by have h_:(x5_1:Int) < ((x0_1.length:Int):Int):=of_decide_eq_true (bD);first|exact h_|(have e_:=(Kd.R_reads' HO_0.out).1;omega)|simpa using h_) (seg:=[.int .i64 x1_1]) (j:=0) hcl11 hcc11 (show 1≤5 from by decide) (x':=(⟨x1_1,(rd_T104 x0_1 x5_1).f1,(rd_T104 x0_1 x5_1).f2,(rd_T104 x0_1 x5_1).f3,(rd_T104 x0_1 x5_1).f4⟩:S104)) (k104_mkM _ _ _ (⟨x1_1,(rd_T104 x0_1 x5_1).f1,(rd_T104 x0_1 x5_1).f2,(rd_T104 x0_1 x5_1).f3,(rd_T104 x0_1 x5_1).f4⟩:S104) ) (fun _ hk=>hk)
     have hx11_0:=hcc11 0 _ rfl
     (try simp only[show(k104).sz=5 from rfl,Nat.mul_one,Nat.add_zero] at hx11_0)
     have hf11_0:=hfr11 0
     (try simp only[show(k104).sz=5 from rfl,Nat.mul_one,Nat.add_zero] at hf11_0)
     clear hcl11 hcc11 hfr11 hM11
     go_wp2_with (first|((with_reducible refine gate_store (t:=3) (p:=16) rfl ?_);refine store_event (t:=3) (p:=16) (v:=?vo_w12) (w1:=(wr.setCell ⟨go5,(x5_1:Int).toNat * 5,none⟩ (.int .i64 x1_1))) ?hg ?ho ?hn ?hr ?_;(case ho=>rfl);(case hg=>rfl);(case hn=>rfl);(case hr=>first|(go_simp;done)|(go_simp;rfl));intro w12 hw;have hg:wr.grownBy w12 (some go5):=(by rw[hw];exact HP11.2);have hp_:Kd.R k104 104 w12 w0.heap.size (fun k_=>(P0_ k_∨w.heap.size≤k_)) (.slice (some ⟨go5,0,none⟩) x0_1.length co10) y121:=(by rw[hw,Ny121.out];exact HP11.1);clear HP11;have n0_:=Aside0.mk (hp_);have n1_:=Aside0.mk ((by rw[hw];exact below_set (HB.out) GB5.out:Below w0.heap.size w0 w12));have n2_:=Aside0.mk (Kept.of_grown (S:=(fun k_=>P0_ k_)) hg (by repeat (first|(with_reducible first|exact HK.out|apply Kept.alloc|apply Kept.drewN|apply Kept.drew)|exact HK.out)) (fun k_ e_=>(HO_0.out.1 k_ e_)));clear HO_0 HB HK;have HO_0:=n0_;have HB:=n1_;have HK:=n2_;clear n0_ n1_ n2_;clear hg hw hp_;have p6:0≤(x5_1:Int):=of_decide_eq_true (bD);have q6:(x5_1:Int) < ((x0_1.length:Int):Int):=of_decide_eq_true (bD);obtain⟨ce6,hcl6,hM6,hcc6,hfr6⟩:=Kd.R_elem HO_0.out z104 (x5_1:Int) p6 q6;obtain rfl:=k104_openM hM6;have hx6_0:w12.cell? ⟨go5,(x5_1:Int).toNat * 5,none⟩=some (.int .i64 ((rd_T104 y121 x5_1).f0)):=hcc6 0 _ rfl;have hx6_1:w12.cell? ⟨go5,(x5_1:Int).toNat * 5+1,none⟩=some (.int .i64 ((rd_T104 y121 x5_1).f1)):=hcc6 1 _ rfl;have hx6_2:w12.cell? ⟨go5,(x5_1:Int).toNat * 5+2,none⟩=some (.int .i64 ((rd_T104 y121 x5_1).f2)):=hcc6 2 _ rfl;have hx6_3:w12.cell? ⟨go5,(x5_1:Int).toNat * 5+3,none⟩=some (.int .i64 ((rd_T104 y121 x5_1).f3)):=hcc6 3 _ rfl;have hx6_4:w12.cell? ⟨go5,(x5_1:Int).toNat * 5+4,none⟩=some (.int .i64 ((rd_T104 y121 x5_1).f4)):=hcc6 4 _ rfl;have hf6_0:w12.frozen? ⟨go5,(x5_1:Int).toNat * 5,none⟩=false:=hfr6 0;have hf6_1:w12.frozen? ⟨go5,(x5_1:Int).toNat * 5+1,none⟩=false:=hfr6 1;have hf6_2:w12.frozen? ⟨go5,(x5_1:Int).toNat * 5+2,none⟩=false:=hfr6 2;have hf6_3:w12.frozen? ⟨go5,(x5_1:Int).toNat * 5+3,none⟩=false:=hfr6 3;have hf6_4:w12.frozen? ⟨go5,(x5_1:Int).toNat * 5+4,none⟩=false:=hfr6 4;clear hcl6 hcc6 hfr6 hM6;replace p6:=eq_true p6;replace q6:=eq_true q6;have HX13:=Aside0.mk (show Kd.R k104 104 w12 w0.heap.size (fun k_=>(P0_ k_∨w.heap.size≤k_)) (.slice (some ⟨go5,0,none⟩) x0_1.length co10) y121 from (bK HO_0.out));obtain⟨ce13,hcl13,hM13,hcc13,hfr13⟩:=Kd.R_elem HX13.out z104 (x5_1:Int) (of_decide_eq_true (bD)) (by have h_:(x5_1:Int) < ((x0_1.length:Int):Int):=of_decide_eq_true (bD);first|exact h_|(have e_:=(Kd.R_reads' HO_0.out).1;omega)|simpa using h_);obtain rfl:=k104_openM hM13;have HP13:=Kd.R_seg HX13.out (x5_1:Int) (of_decide_eq_true (bD)) (by have h_:(x5_1:Int) < ((x0_1.length:Int):Int):=of_decide_eq_true (bD);first|exact h_|(have e_:=(Kd.R_reads' HO_0.out).1;omega)|simpa using h_) (seg:=[.int .i64 (wrap64 (x1_1+1))]) (j:=1) hcl13 hcc13 (show 2≤5 from by decide) (x':=(⟨(rd_T104 y121 x5_1).f0,wrap64 (x1_1+1),(rd_T104 y121 x5_1).f2,(rd_T104 y121 x5_1).f3,(rd_T104 y121 x5_1).f4⟩:S104)) (k104_mkM _ _ _ (⟨(rd_T104 y121 x5_1).f0,wrap64 (x1_1+1),(rd_T104 y121 x5_1).f2,(rd_T104 y121 x5_1).f3,(rd_T104 y121 x5_1).f4⟩:S104) ) (fun _ hk=>hk);have hx13_1:=hcc13 1 _ rfl;(try simp only[show(k104).sz=5 from rfl,Nat.mul_one,Nat.add_zero] at hx13_1);have hf13_1:=hfr13 1;(try simp only[show(k104).sz=5 from rfl,Nat.mul_one,Nat.add_zero] at hf13_1);clear hcl13 hcc13 hfr13 hM13)|((with_reducible refine gate_store (t:=3) (p:=23) rfl ?_);refine store_event (t:=3) (p:=23) (v:=?vo_w14) (w1:=(w12.setCell ⟨go5,(x5_1:Int).toNat * 5+1,none⟩ (.int .i64 (wrap64 (x1_1+1))))) ?hg ?ho ?hn ?hr ?_;(case ho=>rfl);(case hg=>rfl);(case hn=>rfl);(case hr=>first|(go_simp;done)|(go_simp;rfl));intro w14 hw;have hg:w12.grownBy w14 (some go5):=(by rw[hw];exact HP13.2);have hp_:Kd.R k104 104 w14 w0.heap.size (fun k_=>(P0_ k_∨w.heap.size≤k_)) (.slice (some ⟨go5,0,none⟩) x0_1.length co10) y122:=(by rw[hw,Ny122.out];exact HP13.1);clear HP13;have n0_:=Aside0.mk (hp_);have n1_:=Aside0.mk ((by rw[hw];exact below_set (HB.out) GB5.out:Below w0.heap.size w0 w14));have n2_:=Aside0.mk (Kept.of_grown (S:=(fun k_=>P0_ k_)) hg (by repeat (first|(with_reducible first|exact HK.out|apply Kept.alloc|apply Kept.drewN|apply Kept.drew)|exact HK.out)) (fun k_ e_=>(HO_0.out.1 k_ e_)));clear HO_0 HB HK;have HO_0:=n0_;have HB:=n1_;have HK:=n2_;clear n0_ n1_ n2_;clear hg hw hp_;have p7:0≤(x5_1:Int):=of_decide_eq_true (bD);have q7:(x5_1:Int) < ((x0_1.length:Int):Int):=of_decide_eq_true (bD);obtain⟨ce7,hcl7,hM7,hcc7,hfr7⟩:=Kd.R_elem HO_0.out z104 (x5_1:Int) p7 q7;obtain rfl:=k104_openM hM7;have hx7_0:w14.cell? ⟨go5,(x5_1:Int).toNat * 5,none⟩=some (.int .i64 ((rd_T104 y122 x5_1).f0)):=hcc7 0 _ rfl;have hx7_1:w14.cell? ⟨go5,(x5_1:Int).toNat * 5+1,none⟩=some (.int .i64 ((rd_T104 y122 x5_1).f1)):=hcc7 1 _ rfl;have hx7_2:w14.cell? ⟨go5,(x5_1:Int).toNat * 5+2,none⟩=some (.int .i64 ((rd_T104 y122 x5_1).f2)):=hcc7 2 _ rfl;have hx7_3:w14.cell? ⟨go5,(x5_1:Int).toNat * 5+3,none⟩=some (.int .i64 ((rd_T104 y122 x5_1).f3)):=hcc7 3 _ rfl;have hx7_4:w14.cell? ⟨go5,(x5_1:Int).toNat * 5+4,none⟩=some (.int .i64 ((rd_T104 y122 x5_1).f4)):=hcc7 4 _ rfl;have hf7_0:w14.frozen? ⟨go5,(x5_1:Int).toNat * 5,none⟩=false:=hfr7 0;have hf7_1:w14.frozen? ⟨go5,(x5_1:Int).toNat * 5+1,none⟩=false:=hfr7 1;have hf7_2:w14.frozen? ⟨go5,(x5_1:Int).toNat * 5+2,none⟩=false:=hfr7 2;have hf7_3:w14.frozen? ⟨go5,(x5_1:Int).toNat * 5+3,none⟩=false:=hfr7 3;have hf7_4:w14.frozen? ⟨go5,(x5_1:Int).toNat * 5+4,none⟩=false:=hfr7 4;clear hcl7 hcc7 hfr7 hM7;replace p7:=eq_true p7;replace q7:=eq_true q7;have HX15:=Aside0.mk (show Kd.R k104 104 w14 w0.heap.size (fun k_=>(P0_ k_∨w.heap.size≤k_)) (.slice (some ⟨go5,0,none⟩) x0_1.length co10) y122 from (bK HO_0.out));obtain⟨ce15,hcl15,hM15,hcc15,hfr15⟩:=Kd.R_elem HX15.out z104 (x5_1:Int) (of_decide_eq_true (bD)) (by have h_:(x5_1:Int) < ((x0_1.length:Int):Int):=of_decide_eq_true (bD);first|exact h_|(have e_:=(Kd.R_reads' HO_0.out).1;omega)|simpa using h_);obtain rfl:=k104_openM hM15;have HP15:=Kd.R_seg HX15.out (x5_1:Int) (of_decide_eq_true (bD)) (by have h_:(x5_1:Int) < ((x0_1.length:Int):Int):=of_decide_eq_true (bD);first|exact h_|(have e_:=(Kd.R_reads' HO_0.out).1;omega)|simpa using h_) (seg:=[.int .i64 (wrap64 ((wrap64 (x1_1+1))+1))]) (j:=2) hcl15 hcc15 (show 3≤5 from by decide) (x':=(⟨(rd_T104 y122 x5_1).f0,(rd_T104 y122 x5_1).f1,wrap64 ((wrap64 (x1_1+1))+1),(rd_T104 y122 x5_1).f3,(rd_T104 y122 x5_1).f4⟩:S104)) (k104_mkM _ _ _ (⟨(rd_T104 y122 x5_1).f0,(rd_T104 y122 x5_1).f1,wrap64 ((wrap64 (x1_1+1))+1),(rd_T104 y122 x5_1).f3,(rd_T104 y122 x5_1).f4⟩:S104) ) (fun _ hk=>hk);have hx15_2:=hcc15 2 _ rfl;(try simp only[show(k104).sz=5 from rfl,Nat.mul_one,Nat.add_zero] at hx15_2);have hf15_2:=hfr15 2;(try simp only[show(k104).sz=5 from rfl,Nat.mul_one,Nat.add_zero] at hf15_2);clear hcl15 hcc15 hfr15 hM15)|((with_reducible refine gate_store (t:=3) (p:=30) rfl ?_);refine store_event (t:=3) (p:=30) (v:=?vo_w16) (w1:=(w14.setCell ⟨go5,(x5_1:Int).toNat * 5+2,none⟩ (.int .i64 (wrap64 ((wrap64 (x1_1+1))+1))))) ?hg ?ho ?hn ?hr ?_;(case ho=>rfl);(case hg=>rfl);(case hn=>rfl);(case hr=>first|(go_simp;done)|(go_simp;rfl));intro w16 hw;have hg:w14.grownBy w16 (some go5):=(by rw[hw];exact HP15.2);have hp_:Kd.R k104 104 w16 w0.heap.size (fun k_=>(P0_ k_∨w.heap.size≤k_)) (.slice (some ⟨go5,0,none⟩) x0_1.length co10) y123:=(by rw[hw,Ny123.out];exact HP15.1);clear HP15;have n0_:=Aside0.mk (hp_);have n1_:=Aside0.mk ((by rw[hw];exact below_set (HB.out) GB5.out:Below w0.heap.size w0 w16));have n2_:=Aside0.mk (Kept.of_grown (S:=(fun k_=>P0_ k_)) hg (by repeat (first|(with_reducible first|exact HK.out|apply Kept.alloc|apply Kept.drewN|apply Kept.drew)|exact HK.out)) (fun k_ e_=>(HO_0.out.1 k_ e_)));clear HO_0 HB HK;have HO_0:=n0_;have HB:=n1_;have HK:=n2_;clear n0_ n1_ n2_;clear hg hw hp_;have p8:0≤(x5_1:Int):=of_decide_eq_true (bD);have q8:(x5_1:Int) < ((x0_1.length:Int):Int):=of_decide_eq_true (bD);obtain⟨ce8,hcl8,hM8,hcc8,hfr8⟩:=Kd.R_elem HO_0.out z104 (x5_1:Int) p8 q8;obtain rfl:=k104_openM hM8;have hx8_0:w16.cell? ⟨go5,(x5_1:Int).toNat * 5,none⟩=some (.int .i64 ((rd_T104 y123 x5_1).f0)):=hcc8 0 _ rfl;have hx8_1:w16.cell? ⟨go5,(x5_1:Int).toNat * 5+1,none⟩=some (.int .i64 ((rd_T104 y123 x5_1).f1)):=hcc8 1 _ rfl;have hx8_2:w16.cell? ⟨go5,(x5_1:Int).toNat * 5+2,none⟩=some (.int .i64 ((rd_T104 y123 x5_1).f2)):=hcc8 2 _ rfl;have hx8_3:w16.cell? ⟨go5,(x5_1:Int).toNat * 5+3,none⟩=some (.int .i64 ((rd_T104 y123 x5_1).f3)):=hcc8 3 _ rfl;have hx8_4:w16.cell? ⟨go5,(x5_1:Int).toNat * 5+4,none⟩=some (.int .i64 ((rd_T104 y123 x5_1).f4)):=hcc8 4 _ rfl;have hf8_0:w16.frozen? ⟨go5,(x5_1:Int).toNat * 5,none⟩=false:=hfr8 0;have hf8_1:w16.frozen? ⟨go5,(x5_1:Int).toNat * 5+1,none⟩=false:=hfr8 1;have hf8_2:w16.frozen? ⟨go5,(x5_1:Int).toNat * 5+2,none⟩=false:=hfr8 2;have hf8_3:w16.frozen? ⟨go5,(x5_1:Int).toNat * 5+3,none⟩=false:=hfr8 3;have hf8_4:w16.frozen? ⟨go5,(x5_1:Int).toNat * 5+4,none⟩=false:=hfr8 4;clear hcl8 hcc8 hfr8 hM8;replace p8:=eq_true p8;replace q8:=eq_true q8;have HX17:=Aside0.mk (show Kd.R k104 104 w16 w0.heap.size (fun k_=>(P0_ k_∨w.heap.size≤k_)) (.slice (some ⟨go5,0,none⟩) x0_1.length co10) y123 from (bK HO_0.out));obtain⟨ce17,hcl17,hM17,hcc17,hfr17⟩:=Kd.R_elem HX17.out z104 (x5_1:Int) (of_decide_eq_true (bD)) (by have h_:(x5_1:Int) < ((x0_1.length:Int):Int):=of_decide_eq_true (bD);first|exact h_|(have e_:=(Kd.R_reads' HO_0.out).1;omega)|simpa using h_);obtain rfl:=k104_openM hM17;have HP17:=Kd.R_seg HX17.out (x5_1:Int) (of_decide_eq_true (bD)) (by have h_:(x5_1:Int) < ((x0_1.length:Int):Int):=of_decide_eq_true (bD);first|exact h_|(have e_:=(Kd.R_reads' HO_0.out).1;omega)|simpa using h_) (seg:=[.int .i64 (wrap64 ((wrap64 ((wrap64 (x1_1+1))+1))+1))]) (j:=3) hcl17 hcc17 (show 4≤5 from by decide) (x':=(⟨(rd_T104 y123 x5_1).f0,(rd_T104 y123 x5_1).f1,(rd_T104 y123 x5_1).f2,wrap64 ((wrap64 ((wrap64 (x1_1+1))+1))+1),(rd_T104 y123 x5_1).f4⟩:S104)) (k104_mkM _ _ _ (⟨(rd_T104 y123 x5_1).f0,(rd_T104 y123 x5_1).f1,(rd_T104 y123 x5_1).f2,wrap64 ((wrap64 ((wrap64 (x1_1+1))+1))+1),(rd_T104 y123 x5_1).f4⟩:S104) ) (fun _ hk=>hk);have hx17_3:=hcc17 3 _ rfl;(try simp only[show(k104).sz=5 from rfl,Nat.mul_one,Nat.add_zero] at hx17_3);have hf17_3:=hfr17 3;(try simp only[show(k104).sz=5 from rfl,Nat.mul_one,Nat.add_zero] at hf17_3);clear hcl17 hcc17 hfr17 hM17)|((with_reducible refine gate_store (t:=3) (p:=37) rfl ?_);refine store_event (t:=3) (p:=37) (v:=?vo_w18) (w1:=(w16.setCell ⟨go5,(x5_1:Int).toNat * 5+3,none⟩ (.int .i64 (wrap64 ((wrap64 ((wrap64 (x1_1+1))+1))+1))))) ?hg ?ho ?hn ?hr ?_;(case ho=>rfl);(case hg=>rfl);(case hn=>rfl);(case hr=>first|(go_simp;done)|(go_simp;rfl));intro w18 hw;have hg:w16.grownBy w18 (some go5):=(by rw[hw];exact HP17.2);have hp_:Kd.R k104 104 w18 w0.heap.size (fun k_=>(P0_ k_∨w.heap.size≤k_)) (.slice (some ⟨go5,0,none⟩) x0_1.length co10) y124:=(by rw[hw,Ny124.out];exact HP17.1);clear HP17;have n0_:=Aside0.mk (hp_);have n1_:=Aside0.mk ((by rw[hw];exact below_set (HB.out) GB5.out:Below w0.heap.size w0 w18));have n2_:=Aside0.mk (Kept.of_grown (S:=(fun k_=>P0_ k_)) hg (by repeat (first|(with_reducible first|exact HK.out|apply Kept.alloc|apply Kept.drewN|apply Kept.drew)|exact HK.out)) (fun k_ e_=>(HO_0.out.1 k_ e_)));clear HO_0 HB HK;have HO_0:=n0_;have HB:=n1_;have HK:=n2_;clear n0_ n1_ n2_;clear hg hw hp_;have p9:0≤(x5_1:Int):=of_decide_eq_true (bD);have q9:(x5_1:Int) < ((x0_1.length:Int):Int):=of_decide_eq_true (bD);obtain⟨ce9,hcl9,hM9,hcc9,hfr9⟩:=Kd.R_elem HO_0.out z104 (x5_1:Int) p9 q9;obtain rfl:=k104_openM hM9;have hx9_0:w18.cell? ⟨go5,(x5_1:Int).toNat * 5,none⟩=some (.int .i64 ((rd_T104 y124 x5_1).f0)):=hcc9 0 _ rfl;have hx9_1:w18.cell? ⟨go5,(x5_1:Int).toNat * 5+1,none⟩=some (.int .i64 ((rd_T104 y124 x5_1).f1)):=hcc9 1 _ rfl;have hx9_2:w18.cell? ⟨go5,(x5_1:Int).toNat * 5+2,none⟩=some (.int .i64 ((rd_T104 y124 x5_1).f2)):=hcc9 2 _ rfl;have hx9_3:w18.cell? ⟨go5,(x5_1:Int).toNat * 5+3,none⟩=some (.int .i64 ((rd_T104 y124 x5_1).f3)):=hcc9 3 _ rfl;have hx9_4:w18.cell? ⟨go5,(x5_1:Int).toNat * 5+4,none⟩=some (.int .i64 ((rd_T104 y124 x5_1).f4)):=hcc9 4 _ rfl;have hf9_0:w18.frozen? ⟨go5,(x5_1:Int).toNat * 5,none⟩=false:=hfr9 0;have hf9_1:w18.frozen? ⟨go5,(x5_1:Int).toNat * 5+1,none⟩=false:=hfr9 1;have hf9_2:w18.frozen? ⟨go5,(x5_1:Int).toNat * 5+2,none⟩=false:=hfr9 2;have hf9_3:w18.frozen? ⟨go5,(x5_1:Int).toNat * 5+3,none⟩=false:=hfr9 3;have hf9_4:w18.frozen? ⟨go5,(x5_1:Int).toNat * 5+4,none⟩=false:=hfr9 4;clear hcl9 hcc9 hfr9 hM9;replace p9:=eq_true p9;replace q9:=eq_true q9;have HX19:=Aside0.mk (show Kd.R k104 104 w18 w0.heap.size (fun k_=>(P0_ k_∨w.heap.size≤k_)) (.slice (some ⟨go5,0,none⟩) x0_1.length co10) y124 from (bK HO_0.out));obtain⟨ce19,hcl19,hM19,hcc19,hfr19⟩:=Kd.R_elem HX19.out z104 (x5_1:Int) (of_decide_eq_true (bD)) (by have h_:(x5_1:Int) < ((x0_1.length:Int):Int):=of_decide_eq_true (bD);first|exact h_|(have e_:=(Kd.R_reads' HO_0.out).1;omega)|simpa using h_);obtain rfl:=k104_openM hM19;have HP19:=Kd.R_seg HX19.out (x5_1:Int) (of_decide_eq_true (bD)) (by have h_:(x5_1:Int) < ((x0_1.length:Int):Int):=of_decide_eq_true (bD);first|exact h_|(have e_:=(Kd.R_reads' HO_0.out).1;omega)|simpa using h_) (seg:=[.int .i64 (wrap64 ((wrap64 ((wrap64 ((wrap64 (x1_1+1))+1))+1))+1))]) (j:=4) hcl19 hcc19 (show 5≤5 from by decide) (x':=(⟨(rd_T104 y124 x5_1).f0,(rd_T104 y124 x5_1).f1,(rd_T104 y124 x5_1).f2,(rd_T104 y124 x5_1).f3,wrap64 ((wrap64 ((wrap64 ((wrap64 (x1_1+1))+1))+1))+1)⟩:S104)) (k104_mkM _ _ _ (⟨(rd_T104 y124 x5_1).f0,(rd_T104 y124 x5_1).f1,(rd_T104 y124 x5_1).f2,(rd_T104 y124 x5_1).f3,wrap64 ((wrap64 ((wrap64 ((wrap64 (x1_1+1))+1))+1))+1)⟩:S104) ) (fun _ hk=>hk);have hx19_4:=hcc19 4 _ rfl;(try simp only[show(k104).sz=5 from rfl,Nat.mul_one,Nat.add_zero] at hx19_4);have hf19_4:=hfr19 4;(try simp only[show(k104).sz=5 from rfl,Nat.mul_one,Nat.add_zero] at hf19_4);clear hcl19 hcc19 hfr19 hM19)|((with_reducible refine gate_store (t:=3) (p:=44) rfl ?_);refine store_event (t:=3) (p:=44) (v:=?vo_w20) (w1:=(w18.setCell ⟨go5,(x5_1:Int).toNat * 5+4,none⟩ (.int .i64 (wrap64 ((wrap64 ((wrap64 ((wrap64 (x1_1+1))+1))+1))+1))))) ?hg ?ho ?hn ?hr ?_;(case ho=>rfl);(case hg=>rfl);(case hn=>rfl);(case hr=>first|(go_simp;done)|(go_simp;rfl));intro w20 hw;have hg:w18.grownBy w20 (some go5):=(by rw[hw];exact HP19.2);have hp_:Kd.R k104 104 w20 w0.heap.size (fun k_=>(P0_ k_∨w.heap.size≤k_)) (.slice (some ⟨go5,0,none⟩) x0_1.length co10) y125:=(by rw[hw,Ny125.out];exact HP19.1);clear HP19;have n0_:=Aside0.mk (hp_);have n1_:=Aside0.mk ((by rw[hw];exact below_set (HB.out) GB5.out:Below w0.heap.size w0 w20));have n2_:=Aside0.mk (Kept.of_grown (S:=(fun k_=>P0_ k_)) hg (by repeat (first|(with_reducible first|exact HK.out|apply Kept.alloc|apply Kept.drewN|apply Kept.drew)|exact HK.out)) (fun k_ e_=>(HO_0.out.1 k_ e_)));clear HO_0 HB HK;have HO_0:=n0_;have HB:=n1_;have HK:=n2_;clear n0_ n1_ n2_;clear hg hw hp_))
     go_roundg k1
     case measure=>have:=HK1.out;omega
     case rel=>exact⟨(y125),(wrap64 ((wrap64 ((wrap64 ((wrap64 ((wrap64 (x1_1+1))+1))+1))+1))+1)),(wrap64 (x5_1+1)),(bR),(bR),H',⟨by have:=HK1.out;omega⟩,⟨by(with_reducible repeat (first|apply Kd.R_alloc|apply Kd.R_drewN|apply Kd.R_drew));exact HO_0.out⟩,⟨by repeat (first|(with_reducible first|exact HK.out|apply Kept.alloc|apply Kept.drewN|apply Kept.drew)|exact HK.out)⟩,⟨by repeat (first|(with_reducible first|exact HB.out|apply below_alloc|apply pw_below_drewN|apply below_drew1)|exact HB.out)⟩⟩
    ·rw[if_neg c4] at H
     exact absurd H (by simp)
   ·rw[if_neg c3] at H
    have c3b0:decide (x5_1 < (x0_1.length:Int))=false:=decide_eq_false c3
    clear c3
    simp only[Option.some.injEq,Prod.mk.injEq] at H
    obtain⟨rfl,rfl⟩:=H
    obtain⟨Ao21,co21,eo21⟩:=Kd.R_slice HO_0.out
    subst eo21
    go_wp2
    go_ret
    exact⟨bE,by(with_reducible repeat (first|apply Kd.R_alloc|apply Kd.R_drewN|apply Kd.R_drew));exact HO_0.out,by repeat (first|(with_reducible first|exact HB.out|apply below_alloc|apply pw_below_drewN|apply below_drew1)|exact HB.out),by repeat (first|(with_reducible first|exact HK.out|apply Kept.alloc|apply Kept.drewN|apply Kept.drew)|exact HK.out)⟩

/-! ### laws_markIntS: function 29 -/
def laws_markIntS.l0:Nat→List Int→Int→Int→Option (Int × List Int)
 | 0,_,_,_=>none
 | k+1,x0,x1,x5=>if x5 < (x0.length:Int) then (if 0≤x5 then (laws_markIntS.l0 k (x0.set (x5:Int).toNat x1) (wrap64 (x1+1)) (wrap64 (x5+1))) else (none)) else (some (x1,x0))
def laws_markIntS.f (k:Nat) (l0:List Int) (a1:Int):Option (Int × List Int):=laws_markIntS.l0 k l0 a1 0
theorem laws_markIntS.mono_l : ∀ k,(∀ y0 y1 y2,LeO (laws_markIntS.l0 k y0 y1 y2) (laws_markIntS.l0 (k+1) y0 y1 y2))
 | 0=>fun _ _ _ r h=>by simp[laws_markIntS.l0] at h
 | k+1=>by
  have ih0:=laws_markIntS.mono_l k
  ·intro y0 y1 y2
   unfold laws_markIntS.l0
   repeat' first
   | (with_reducible exact ih0 _ _ _)
   | (with_reducible exact LeO.refl _)
   | (with_reducible exact LeO.none _)
   | (with_reducible refine LeO.ite ?_ ?_)
   | (with_reducible refine LeO.bind ?_ (fun _ => ?_))
   | exact ih0 _ _ _
   | exact LeO.none _
   | refine LeO.ite ?_ ?_
   | refine LeO.bind ?_ (fun _ => ?_)
theorem laws_markIntS.mono : ∀ a0 a1 k,LeO (laws_markIntS.f k a0 a1) (laws_markIntS.f (k+1) a0 a1):=by
 intro a0 a1 k
 have ih0:=laws_markIntS.mono_l k
 unfold laws_markIntS.f
 repeat' first
  | (with_reducible exact ih0 _ _ _)
  | (with_reducible exact LeO.refl _)
  | (with_reducible exact LeO.none _)
  | (with_reducible refine LeO.ite ?_ ?_)
  | (with_reducible refine LeO.bind ?_ (fun _ => ?_))
  | exact ih0 _ _ _
  | exact LeO.none _
  | refine LeO.ite ?_ ?_
  | refine LeO.bind ?_ (fun _ => ?_)
set_option maxHeartbeats 8000000 in
set_option maxRecDepth 100000 in
theorem laws_markIntS.calls (k:Nat) (P0_:Nat→Prop) (u9000_:Value) (l0:List Int) (a1:Int) (r1:Int) (r2:List Int) (w0 w:World) (hB:Below w0.heap.size w0 w) (ho0:Kd.R (Kd.int .i64) 3 w w0.heap.size P0_ u9000_ l0) (h:laws_markIntS.f k l0 a1=some (r1,r2)) :
  Calls Try.prog 29 #[u9000_,.int .i64 a1] w fun e w'=>e=.returned (.int .i64 r1)∧Kd.R (Kd.int .i64) 3 w' w0.heap.size (fun k_=>(P0_ k_∨w.heap.size≤k_)) u9000_ r2∧Below w0.heap.size w0 w'∧Kept w w' (fun k_=>P0_ k_):=by
 have HO0:=Aside0.mk (show Kd.R (Kd.int .i64) 3 w w0.heap.size (fun k_=>(P0_ k_∨w.heap.size≤k_)) u9000_ l0 from Kd.R_mono ho0 (fun k_ hk=>(.inl hk)))
 have HK:=Aside0.mk (Kept.refl w (fun k_=>P0_ k_))
 have HW0:=Aside0.mk hB.size
 have HB:=Aside0.mk hB
 clear hB
 have H:(laws_markIntS.l0 k l0 a1 0)=some (r1,r2):=h
 clear h
 have H':=Aside0.mk H
 clear H
 go_enter Try.func29,Try.ntmps29
 go_wp2
 go_loopg [1,5] k (fun kq v1 v5 w' => ∃ (x0_1:List Int) (x1_1:Int) (x5_1:Int),v1=.int .i64 x1_1∧v5=.int .i64 x5_1∧Aside0 (laws_markIntS.l0 kq x0_1 x1_1 x5_1=some (r1,r2))∧Aside0 (kq≤k)∧Aside0 (Kd.R (Kd.int .i64) 3 w' w0.heap.size (fun k_=>(P0_ k_∨w.heap.size≤k_)) u9000_ x0_1)∧Aside0 (Kept w w' (fun k_=>P0_ k_))∧Aside0 (Below w0.heap.size w0 w'))
 case atStart=>exact⟨(l0),(a1),(0),(bR),(bR),H',⟨Nat.le_refl _⟩,⟨by(with_reducible repeat (first|apply Kd.R_alloc|apply Kd.R_drewN|apply Kd.R_drew));exact HO0.out⟩,⟨by repeat (first|(with_reducible first|exact HK.out|apply Kept.alloc|apply Kept.drewN|apply Kept.drew)|exact HK.out)⟩,⟨by repeat (first|(with_reducible first|exact HB.out|apply below_alloc|apply pw_below_drewN|apply below_drew1)|exact HB.out)⟩⟩
 case round =>
  clear H'
  try clear c2
  try clear p2
  obtain⟨x0_1,x1_1,x5_1,rfl,rfl,HA,HK1,HO_0,HK,HB⟩:=hrel
  cases gk with
  | zero=>exact absurd HA.out (by simp[laws_markIntS.l0])
  | succ k1 =>
   have H:=HA.out
   clear HA
   simp only[laws_markIntS.l0] at H
   by_cases c3:x5_1 < (x0_1.length:Int)
   ·rw[if_pos c3] at H
    have c3b0:decide (x5_1 < (x0_1.length:Int))=true:=decide_eq_true c3
    clear c3
    by_cases c4:0≤x5_1
    ·rw[if_pos c4] at H
     have c4b0:decide (0≤x5_1)=true:=decide_eq_true c4
     clear c4
     obtain⟨y126,hy126⟩ : ∃ y_:List Int,y_=(x0_1.set (x5_1:Int).toNat x1_1):=⟨_,rfl⟩
     replace H:(laws_markIntS.l0 k1 y126 (wrap64 (x1_1+1)) (wrap64 (x5_1+1)))=some (r1,r2):=by first|(rw[hy126];with_reducible exact H)|(have H2_:=(Option.bind_some _ _).symm.trans H;rw[hy126];with_reducible exact H2_)|(have H2_:=(Option.bind_some _ _).symm.trans H;with_reducible exact H2_)|with_reducible exact H|(rw[hy126];exact H)|exact H
     have Ny126:=Aside0.mk hy126
     clear hy126
     have H':=Aside0.mk H
     clear H
     obtain⟨Ao6,co6,eo6⟩:=Kd.R_slice HO_0.out
     subst eo6
     have p5:0≤(x5_1:Int):=of_decide_eq_true (bD)
     have q5:(x5_1:Int) < ((x0_1.length:Int):Int):=of_decide_eq_true (bD)
     obtain⟨go5,co5,eo5,gb5,gl5,cl5,HG5⟩:=Kd.R_form HO_0.out (by omega)
     (first|cases eo5|(injection eo5 with ea_ en_ ec_;(first|subst ea_|(injection ea_ with ea_;subst ea_));subst ec_;clear en_))
     have GB5:=Aside0.mk gb5
     have GG5:=Aside0.mk HG5
     clear gb5 gl5 HG5
     have HMgo5:=Aside0.mk (show(P0_ go5∨w.heap.size≤go5) from (HO_0.out.1 _ rfl))
     obtain⟨hx5_0,hf5_0⟩:=Kd.R_celln 0 HO_0.out (x5_1:Int) p5 q5
     replace p5:=eq_true p5
     replace q5:=eq_true q5
     have HP7:=Kd.R_putg HO_0.out (x5_1:Int) x1_1
     go_wp2_with (first|((with_reducible refine gate_store (t:=3) (p:=15) rfl ?_);refine store_event (t:=3) (p:=15) (v:=?vo_w8) (w1:=(wr.setCell ⟨go5,(x5_1:Int).toNat,none⟩ (.int .i64 x1_1))) ?hg ?ho ?hn ?hr ?_;(case ho=>rfl);(case hg=>rfl);(case hn=>rfl);(case hr=>first|(go_simp;done)|(go_simp;rfl));intro w8 hw;have hg:wr.grownBy w8 (some go5):=(by rw[hw];exact HP7.2);have hp_:Kd.R (Kd.int .i64) 3 w8 w0.heap.size (fun k_=>(P0_ k_∨w.heap.size≤k_)) (.slice (some ⟨go5,0,none⟩) x0_1.length co6) y126:=(by rw[hw,Ny126.out];exact HP7.1);clear HP7;have n0_:=Aside0.mk (hp_);have n1_:=Aside0.mk ((by rw[hw];exact below_set (HB.out) GB5.out:Below w0.heap.size w0 w8));have n2_:=Aside0.mk (Kept.of_grown (S:=(fun k_=>P0_ k_)) hg (by repeat (first|(with_reducible first|exact HK.out|apply Kept.alloc|apply Kept.drewN|apply Kept.drew)|exact HK.out)) (fun k_ e_=>(HO_0.out.1 k_ e_)));clear HO_0 HB HK;have HO_0:=n0_;have HB:=n1_;have HK:=n2_;clear n0_ n1_ n2_;clear hg hw hp_))
     go_roundg k1
     case measure=>have:=HK1.out;omega
     case rel=>exact⟨(y126),(wrap64 (x1_1+1)),(wrap64 (x5_1+1)),(bR),(bR),H',⟨by have:=HK1.out;omega⟩,⟨by(with_reducible repeat (first|apply Kd.R_alloc|apply Kd.R_drewN|apply Kd.R_drew));exact HO_0.out⟩,⟨by repeat (first|(with_reducible first|exact HK.out|apply Kept.alloc|apply Kept.drewN|apply Kept.drew)|exact HK.out)⟩,⟨by repeat (first|(with_reducible first|exact HB.out|apply below_alloc|apply pw_below_drewN|apply below_drew1)|exact HB.out)⟩⟩
    ·rw[if_neg c4] at H
     exact absurd H (by simp)
   ·rw[if_neg c3] at H
    have c3b0:decide (x5_1 < (x0_1.length:Int))=false:=decide_eq_false c3
    clear c3
    simp only[Option.some.injEq,Prod.mk.injEq] at H
    obtain⟨rfl,rfl⟩:=H
    obtain⟨Ao9,co9,eo9⟩:=Kd.R_slice HO_0.out
    subst eo9
    go_wp2
    go_ret
    exact⟨bE,by(with_reducible repeat (first|apply Kd.R_alloc|apply Kd.R_drewN|apply Kd.R_drew));exact HO_0.out,by repeat (first|(with_reducible first|exact HB.out|apply below_alloc|apply pw_below_drewN|apply below_drew1)|exact HB.out),by repeat (first|(with_reducible first|exact HK.out|apply Kept.alloc|apply Kept.drewN|apply Kept.drew)|exact HK.out)⟩

/-! ### laws_toIntS: function 32 -/
def laws_toIntS.l0:Nat→List Int→List Int→Int→Option (List Int)
 | 0,_,_,_=>none
 | k+1,x0,x3,x4=>if x4 < (x0.length:Int) then (if 0≤x4 then (if x4 < (x3.length:Int) then (laws_toIntS.l0 k x0 (x3.set (x4:Int).toNat (rd x0 x4)) (wrap64 (x4+1))) else (none)) else (none)) else (some x3)
def laws_toIntS.f (k:Nat) (l0:List Int):Option (List Int):=if 0≤(l0.length:Int) then (if ((l0.length:Int):Int).toNat≤35184372088832 then (laws_toIntS.l0 k l0 (List.replicate ((l0.length:Int):Int).toNat 0) 0) else (none)) else (none)
theorem laws_toIntS.mono_l : ∀ k,(∀ y0 y1 y2,LeO (laws_toIntS.l0 k y0 y1 y2) (laws_toIntS.l0 (k+1) y0 y1 y2))
 | 0=>fun _ _ _ r h=>by simp[laws_toIntS.l0] at h
 | k+1=>by
  have ih0:=laws_toIntS.mono_l k
  ·intro y0 y1 y2
   unfold laws_toIntS.l0
   repeat' first
   | (with_reducible exact ih0 _ _ _)
   | (with_reducible exact LeO.refl _)
   | (with_reducible exact LeO.none _)
   | (with_reducible refine LeO.ite ?_ ?_)
   | (with_reducible refine LeO.bind ?_ (fun _ => ?_))
   | exact ih0 _ _ _
   | exact LeO.none _
   | refine LeO.ite ?_ ?_
   | refine LeO.bind ?_ (fun _ => ?_)
theorem laws_toIntS.mono : ∀ a0 k,LeO (laws_toIntS.f k a0) (laws_toIntS.f (k+1) a0):=by
 intro a0 k
 have ih0:=laws_toIntS.mono_l k
 unfold laws_toIntS.f
 repeat' first
  | (with_reducible exact ih0 _ _ _)
  | (with_reducible exact LeO.refl _)
  | (with_reducible exact LeO.none _)
  | (with_reducible refine LeO.ite ?_ ?_)
  | (with_reducible refine LeO.bind ?_ (fun _ => ?_))
  | exact ih0 _ _ _
  | exact LeO.none _
  | refine LeO.ite ?_ ?_
  | refine LeO.bind ?_ (fun _ => ?_)
set_option maxHeartbeats 8000000 in
set_option maxRecDepth 100000 in
theorem laws_toIntS.calls (k:Nat) (A0:Option Addr) (c0:Nat) (l0:List Int) (r:List Int) (w:World) (hr0:Kd.C (Kd.int .i64) w A0 l0.length l0) (hc0:l0.length≤c0) (h:laws_toIntS.f k l0=some r) :
  Calls Try.prog 32 #[.slice A0 l0.length c0] w fun e w' => ∃ v0_:Value,e=.returned (v0_)∧Kd.R (Kd.int .i64) 3 w' w.heap.size (fun _=>True) v0_ r∧Below w.heap.size w w':=by
 have HR0:=Aside0.mk hr0
 have HC0:=Aside0.mk hc0
 clear hr0 hc0
 have HB:=Aside0.mk (Below.refl w.heap.size w)
 have H:(if 0≤(l0.length:Int) then (if ((l0.length:Int):Int).toNat≤35184372088832 then (laws_toIntS.l0 k l0 (List.replicate ((l0.length:Int):Int).toNat 0) 0) else (none)) else (none))=some r:=h
 clear h
 by_cases c2:0≤(l0.length:Int)
 ·rw[if_pos c2] at H
  have c2b0:=eq_true c2
  have c2b1:decide (0≤(l0.length:Int))=true:=decide_eq_true c2
  clear c2
  by_cases c3:((l0.length:Int):Int).toNat≤35184372088832
  ·rw[if_pos c3] at H
   have c3b0:=eq_true c3
   have c3b1:decide (((l0.length:Int):Int).toNat≤35184372088832)=true:=decide_eq_true c3
   clear c3
   obtain⟨y127,hy127⟩ : ∃ y_:List Int,y_=(List.replicate ((l0.length:Int):Int).toNat 0):=⟨_,rfl⟩
   replace H:(laws_toIntS.l0 k l0 y127 0)=some r:=by first|(rw[hy127];with_reducible exact H)|(have H2_:=(Option.bind_some _ _).symm.trans H;rw[hy127];with_reducible exact H2_)|(have H2_:=(Option.bind_some _ _).symm.trans H;with_reducible exact H2_)|with_reducible exact H|(rw[hy127];exact H)|exact H
   have Ny127:=Aside0.mk hy127
   clear hy127
   have H':=Aside0.mk H
   clear H
   go_enter Try.func32,Try.ntmps32
   go_wp2_with (first|((with_reducible refine gate_dst (N:=7) rfl ?_);refine Kd.R_make (Kd.int .i64) _ 3 rfl (N:=7) rfl 37 _ _ rfl (l0.length:Int) rfl rfl Try.underlying37 (.int .i64 0) 8 info3 rfl (by decide) (by omega) 0 (ok:=fun _=>True) (okp:=fun _=>True) rfl (fun _ hk=>hk) trivial (of_decide_eq_true (bD)) (Nat.le_trans (Nat.mul_le_mul_right _ (of_decide_eq_true (bD):(l0.length:Int).toNat≤35184372088832)) (by omega)) (Below.refl _ _) (Nat.le_refl _) ?_;intro v128 w4 ho5 hb hg_ hnew_;clear hg_ hnew_;(first|rw[← Ny127.out] at ho5|(simp only[Int.reduceToNat] at ho5;rw[← Ny127.out] at ho5));have n0_:=Aside0.mk (Kd.R_lower ho5 (below_size (bB)));have n1_:=Aside0.mk (below_step (bB) hb);clear HB;have HO129:=n0_;have HB:=n1_;clear n0_ n1_;clear hb ho5))
   go_loopg [4] k (fun kq v4 w' => ∃ (x3_1:List Int) (x4_1:Int),v4=.int .i64 x4_1∧Aside0 (laws_toIntS.l0 kq l0 x3_1 x4_1=some r)∧Aside0 (kq≤k)∧Aside0 (Kd.R (Kd.int .i64) 3 w' w.heap.size (fun _=>True) v128 x3_1)∧Aside0 (Below w.heap.size w w'))
   case atStart=>exact⟨(y127),(0),(bR),H',⟨Nat.le_refl _⟩,⟨by(with_reducible repeat (first|apply Kd.R_alloc|apply Kd.R_drewN|apply Kd.R_drew));exact HO129.out⟩,⟨by repeat (first|(with_reducible first|exact HB.out|apply below_alloc|apply pw_below_drewN|apply below_drew1)|exact HB.out)⟩⟩
   case round =>
    clear H'
    try clear c2
    try clear c2b0
    try clear c2b1
    try clear p2
    try clear c3
    try clear c3b0
    try clear c3b1
    obtain⟨x3_1,x4_1,rfl,HA,HK1,HO_3,HB⟩:=hrel
    cases gk with
    | zero=>exact absurd HA.out (by simp[laws_toIntS.l0])
    | succ k1 =>
     have H:=HA.out
     clear HA
     simp only[laws_toIntS.l0] at H
     by_cases c6:x4_1 < (l0.length:Int)
     ·rw[if_pos c6] at H
      have c6b0:decide (x4_1 < (l0.length:Int))=true:=decide_eq_true c6
      clear c6
      by_cases c7:0≤x4_1
      ·rw[if_pos c7] at H
       have c7b0:decide (0≤x4_1)=true:=decide_eq_true c7
       clear c7
       by_cases c8:x4_1 < (x3_1.length:Int)
       ·rw[if_pos c8] at H
        have c8b0:decide (x4_1 < (x3_1.length:Int))=true:=decide_eq_true c8
        clear c8
        obtain⟨y131,hy131⟩ : ∃ y_:List Int,y_=(x3_1.set (x4_1:Int).toNat (rd l0 x4_1)):=⟨_,rfl⟩
        replace H:(laws_toIntS.l0 k1 l0 y131 (wrap64 (x4_1+1)))=some r:=by first|(rw[hy131];with_reducible exact H)|(have H2_:=(Option.bind_some _ _).symm.trans H;rw[hy131];with_reducible exact H2_)|(have H2_:=(Option.bind_some _ _).symm.trans H;with_reducible exact H2_)|with_reducible exact H|(rw[hy131];exact H)|exact H
        have Ny131:=Aside0.mk hy131
        clear hy131
        have H':=Aside0.mk H
        clear H
        have p130:0≤(x4_1:Int):=of_decide_eq_true (bD)
        have q130:x4_1 < (l0.length:Int):=of_decide_eq_true (bD)
        obtain⟨ad130,e130,hx130_0⟩:=Kd.at_int HR0.out x4_1 p130 q130
        cases e130
        replace hx130_0:=(HB.out.cell (World.block_lt_of_cell? w _ hx130_0)).trans hx130_0
        replace p130:=eq_true p130
        replace q130:=eq_true q130
        have p9:0≤(x4_1:Int):=of_decide_eq_true (bD)
        have q9:(x4_1:Int) < ((x3_1.length:Int):Int):=of_decide_eq_true (bD)
        obtain⟨go9,co9,eo9,gb9,gl9,cl9,HG9⟩:=Kd.R_form HO_3.out (by omega)
        (first|cases eo9|(injection eo9 with ea_ en_ ec_;(first|subst ea_|(injection ea_ with ea_;subst ea_));subst ec_;clear en_))
        have GB9:=Aside0.mk gb9
        have GG9:=Aside0.mk HG9
        clear gb9 gl9 HG9
        obtain⟨hx9_0,hf9_0⟩:=Kd.R_celln 0 HO_3.out (x4_1:Int) p9 q9
        replace p9:=eq_true p9
        replace q9:=eq_true q9
        have HP10:=Kd.R_putg HO_3.out (x4_1:Int) (rd l0 x4_1)
        go_wp2_with (first|((with_reducible refine gate_store (t:=3) (p:=20) rfl ?_);refine store_event (t:=3) (p:=20) (v:=?vo_w11) (w1:=(wr.setCell ⟨go9,(x4_1:Int).toNat,none⟩ (.int .i64 (rd l0 x4_1)))) ?hg ?ho ?hn ?hr ?_;(case ho=>rfl);(case hg=>rfl);(case hn=>rfl);(case hr=>first|(go_simp;done)|(go_simp;rfl));intro w11 hw;have hg:wr.grownBy w11 (some go9):=(by rw[hw];exact HP10.2);have hp_:Kd.R (Kd.int .i64) 3 w11 w.heap.size (fun _=>True) (.slice (some ⟨go9,0,none⟩) x3_1.length co9) y131:=(by rw[hw,Ny131.out];exact HP10.1);clear HP10;have n0_:=Aside0.mk (hp_);have n1_:=Aside0.mk ((by rw[hw];exact below_set (HB.out) GB9.out:Below w.heap.size w w11));clear HO_3 HB;have HO_3:=n0_;have HB:=n1_;clear n0_ n1_;clear hg hw hp_))
        go_roundg k1
        case measure=>have:=HK1.out;omega
        case rel=>exact⟨(y131),(wrap64 (x4_1+1)),(bR),H',⟨by have:=HK1.out;omega⟩,⟨by(with_reducible repeat (first|apply Kd.R_alloc|apply Kd.R_drewN|apply Kd.R_drew));exact HO_3.out⟩,⟨by repeat (first|(with_reducible first|exact HB.out|apply below_alloc|apply pw_below_drewN|apply below_drew1)|exact HB.out)⟩⟩
       ·rw[if_neg c8] at H
        exact absurd H (by simp)
      ·rw[if_neg c7] at H
       exact absurd H (by simp)
     ·rw[if_neg c6] at H
      have c6b0:decide (x4_1 < (l0.length:Int))=false:=decide_eq_false c6
      clear c6
      obtain rfl:=Option.some.inj H
      go_wp2
      go_ret
      exact⟨_,by first|rfl|(simp[errW_none,errW_some]<;>rfl)|(simp[*,errW_none,errW_some]<;>rfl),by(with_reducible repeat (first|apply Kd.R_alloc|apply Kd.R_drewN|apply Kd.R_drew));exact HO_3.out,bB⟩
  ·rw[if_neg c3] at H
   exact absurd H (by simp)
 ·rw[if_neg c2] at H
  exact absurd H (by simp)

/-! ### laws_szBundle: function 51 -/
def laws_szBundle.f (a0_0:Int) (a0_1:Int) (a0_2:Bool) (a0_3:Int) (a0_4:Int) (a0_5:Int) (a0_6:Int) (a0_7:Int) (a0_8:Int) (a0_9:ByteArray) (a1:Int):Option (Int):=if (wrap64 (a1 - (a0_9.size:Int))) < 0 then (some (-1)) else (some (wrap64 (a1 - (a0_9.size:Int))))
set_option maxHeartbeats 8000000 in
set_option maxRecDepth 100000 in
theorem laws_szBundle.calls (a0_0:Int) (a0_1:Int) (a0_2:Bool) (a0_3:Int) (a0_4:Int) (a0_5:Int) (a0_6:Int) (a0_7:Int) (a0_8:Int) (a0_9:ByteArray) (a1:Int) (r:Int) (w:World) (h:laws_szBundle.f a0_0 a0_1 a0_2 a0_3 a0_4 a0_5 a0_6 a0_7 a0_8 a0_9 a1=some r) :
  Calls Try.prog 51 #[.agg #[.int .i64 a0_0,.int .i64 a0_1,.bool a0_2,.int .i64 a0_3,.int .i64 a0_4,.int .i64 a0_5,.int .i64 a0_6,.int .i64 a0_7,.int .i64 a0_8,.string a0_9],.int .i64 a1] w fun e w'=>e=.returned (.int .i64 r)∧Below w.heap.size w w':=by
 have hu82:=Try.underlying82
 have HB:=Aside0.mk (Below.refl w.heap.size w)
 have H:(if (wrap64 (a1 - (a0_9.size:Int))) < 0 then (some (-1)) else (some (wrap64 (a1 - (a0_9.size:Int)))))=some r:=h
 clear h
 by_cases c3:(wrap64 (a1 - (a0_9.size:Int))) < 0
 ·rw[if_pos c3] at H
  have c3b0:decide ((wrap64 (a1 - (a0_9.size:Int))) < 0)=true:=decide_eq_true c3
  clear c3
  obtain rfl:=Option.some.inj H
  go_enter Try.func51,Try.ntmps51
  go_wp2_with (first|((with_reducible refine gate_dst (N:=2) rfl ?_);refine box_event ?hg (N:=2) ?hd (cs:=#[.int .i64 a0_0,.int .i64 a0_1,.bool a0_2,.int .i64 a0_3,.int .i64 a0_4,.int .i64 a0_5,.int .i64 a0_6,.int .i64 a0_7,.int .i64 a0_8,.string a0_9]) (t:=82) ?hr ?_;(case hd=>rfl);(case hg=>rfl);(case hr=>first|(go_simp;done)|(go_simp;rfl));intro gb132 hg w4 hbox hb;have n0_:=Aside0.mk (below_step (bB) hb);have n1_:=Aside0.mk (hbox);have n2_:=Aside0.mk ((bG:w.heap.size≤gb132));have n3_:=Aside0.mk ((bG:w.heap.size≤gb132));clear HB;have HB:=n0_;have BK132:=n1_;have GW132:=n2_;have GE132:=n3_;clear n0_ n1_ n2_ n3_;clear hb hbox hg;obtain⟨hcz5_0,hcz5_1,hcz5_2,hcz5_3,hcz5_4,hcz5_5,hcz5_6,hcz5_7,hcz5_8,hcz5_9⟩:=cC10 BK132.out;obtain⟨hfz5_0,hfz5_1,hfz5_2,hfz5_3,hfz5_4,hfz5_5,hfz5_6,hfz5_7,hfz5_8,hfz5_9⟩:=cF10 BK132.out))
  go_ret
  exact⟨bE,bS GE132.out⟩
 ·rw[if_neg c3] at H
  have c3b0:decide ((wrap64 (a1 - (a0_9.size:Int))) < 0)=false:=decide_eq_false c3
  clear c3
  obtain rfl:=Option.some.inj H
  go_enter Try.func51,Try.ntmps51
  go_wp2_with (first|((with_reducible refine gate_dst (N:=2) rfl ?_);refine box_event ?hg (N:=2) ?hd (cs:=#[.int .i64 a0_0,.int .i64 a0_1,.bool a0_2,.int .i64 a0_3,.int .i64 a0_4,.int .i64 a0_5,.int .i64 a0_6,.int .i64 a0_7,.int .i64 a0_8,.string a0_9]) (t:=82) ?hr ?_;(case hd=>rfl);(case hg=>rfl);(case hr=>first|(go_simp;done)|(go_simp;rfl));intro gb132 hg w6 hbox hb;have n0_:=Aside0.mk (below_step (bB) hb);have n1_:=Aside0.mk (hbox);have n2_:=Aside0.mk ((bG:w.heap.size≤gb132));have n3_:=Aside0.mk ((bG:w.heap.size≤gb132));clear HB;have HB:=n0_;have BK132:=n1_;have GW132:=n2_;have GE132:=n3_;clear n0_ n1_ n2_ n3_;clear hb hbox hg;obtain⟨hcz7_0,hcz7_1,hcz7_2,hcz7_3,hcz7_4,hcz7_5,hcz7_6,hcz7_7,hcz7_8,hcz7_9⟩:=cC10 BK132.out;obtain⟨hfz7_0,hfz7_1,hfz7_2,hfz7_3,hfz7_4,hfz7_5,hfz7_6,hfz7_7,hfz7_8,hfz7_9⟩:=cF10 BK132.out))
  go_ret
  exact⟨bE,bS GE132.out⟩

/-! ### laws_toBundle: function 53 -/
def laws_toBundle.f (a0_0:Int) (a0_1:Int) (a0_2:Bool) (a0_3:Int) (a0_4:Int) (a0_5:Int) (a0_6:Int) (a0_7:Int) (a0_8:Int) (a0_9:ByteArray):Option (Int × Int × Bool × Int × Int × Int × Int × Int × Int × ByteArray):=some (a0_0,a0_1,a0_2,a0_3,a0_4,a0_5,a0_6,a0_7,a0_8,a0_9)
set_option maxHeartbeats 8000000 in
set_option maxRecDepth 100000 in
theorem laws_toBundle.calls (a0_0:Int) (a0_1:Int) (a0_2:Bool) (a0_3:Int) (a0_4:Int) (a0_5:Int) (a0_6:Int) (a0_7:Int) (a0_8:Int) (a0_9:ByteArray) (r1:Int) (r2:Int) (r3:Bool) (r4:Int) (r5:Int) (r6:Int) (r7:Int) (r8:Int) (r9:Int) (r10:ByteArray) (w:World) (h:laws_toBundle.f a0_0 a0_1 a0_2 a0_3 a0_4 a0_5 a0_6 a0_7 a0_8 a0_9=some (r1,r2,r3,r4,r5,r6,r7,r8,r9,r10)) :
  Calls Try.prog 53 #[.agg #[.int .i64 a0_0,.int .i64 a0_1,.bool a0_2,.int .i64 a0_3,.int .i64 a0_4,.int .i64 a0_5,.int .i64 a0_6,.int .i64 a0_7,.int .i64 a0_8,.string a0_9]] w fun e w'=>e=.returned (.agg #[.int .i64 r1,.int .i64 r2,.bool r3,.int .i64 r4,.int .i64 r5,.int .i64 r6,.int .i64 r7,.int .i64 r8,.int .i64 r9,.string r10])∧Below w.heap.size w w':=by
 have hu82:=Try.underlying82
 have hu86:=Try.underlying86
 have HB:=Aside0.mk (Below.refl w.heap.size w)
 have H:(some (a0_0,a0_1,a0_2,a0_3,a0_4,a0_5,a0_6,a0_7,a0_8,a0_9))=some (r1,r2,r3,r4,r5,r6,r7,r8,r9,r10):=h
 clear h
 simp only[Option.some.injEq,Prod.mk.injEq] at H
 obtain⟨rfl,rfl,rfl,rfl,rfl,rfl,rfl,rfl,rfl,rfl⟩:=H
 go_enter Try.func53,Try.ntmps53
 go_wp2_with (first|((with_reducible refine gate_dst (N:=1) rfl ?_);refine box_event ?hg (N:=1) ?hd (cs:=#[.int .i64 a0_0,.int .i64 a0_1,.bool a0_2,.int .i64 a0_3,.int .i64 a0_4,.int .i64 a0_5,.int .i64 a0_6,.int .i64 a0_7,.int .i64 a0_8,.string a0_9]) (t:=82) ?hr ?_;(case hd=>rfl);(case hg=>rfl);(case hr=>first|(go_simp;done)|(go_simp;rfl));intro gb133 hg w2 hbox hb;have n0_:=Aside0.mk (below_step (bB) hb);have n1_:=Aside0.mk (hbox);have n2_:=Aside0.mk ((bG:w.heap.size≤gb133));have n3_:=Aside0.mk ((bG:w.heap.size≤gb133));clear HB;have HB:=n0_;have BK133:=n1_;have GW133:=n2_;have GE133:=n3_;clear n0_ n1_ n2_ n3_;clear hb hbox hg)|((with_reducible refine gate_dst (N:=2) rfl ?_);refine box_event ?hg (N:=2) ?hd (cs:=#[.int .i64 0,.int .i64 0,.bool false,.int .i64 0,.int .i64 0,.int .i64 0,.int .i64 0,.int .i64 0,.int .i64 0,.string (⟨#[]⟩:ByteArray)]) (t:=86) ?hr ?_;(case hd=>rfl);(case hg=>rfl);(case hr=>first|(go_simp;done)|(go_simp;rfl));intro gb134 hg w3 hbox hb;have n0_:=Aside0.mk (bM BK133.out hb);have n1_:=Aside0.mk (below_step (bS GE133.out) hb);have n2_:=Aside0.mk (hbox);have n3_:=Aside0.mk ((by rw[hg];exact(below_size (bS GE133.out)):w.heap.size≤gb134));have n4_:=Aside0.mk ((by rw[hg];exact(below_size (bS GE133.out)):w.heap.size≤gb134));have n5_:=Aside0.mk ((bN BK133.out hg:gb133≠gb134));have n6_:=Aside0.mk ((bO BK133.out hg:gb134≠gb133));clear BK133 HB;have BK133:=n0_;have HB:=n1_;have BK134:=n2_;have GW134:=n3_;have GE134:=n4_;have NB133_134:=n5_;have NB134_133:=n6_;clear n0_ n1_ n2_ n3_ n4_ n5_ n6_;clear hb hbox hg)|((with_reducible refine gate_dst (N:=3) rfl ?_);refine box_event ?hg (N:=3) ?hd (cs:=#[.int .i64 0,.int .i64 0,.bool false,.int .i64 0,.int .i64 0,.int .i64 0,.int .i64 0,.int .i64 0,.int .i64 0,.string (⟨#[]⟩:ByteArray)]) (t:=86) ?hr ?_;(case hd=>rfl);(case hg=>rfl);(case hr=>first|(go_simp;done)|(go_simp;rfl));intro gb135 hg w4 hbox hb;have n0_:=Aside0.mk (bM BK133.out hb);have n1_:=Aside0.mk (bM BK134.out hb);have n2_:=Aside0.mk (below_step (bS2 GE133.out GE134.out) hb);have n3_:=Aside0.mk (hbox);have n4_:=Aside0.mk ((by rw[hg];exact(below_size (bS2 GE133.out GE134.out)):w.heap.size≤gb135));have n5_:=Aside0.mk ((by rw[hg];exact(below_size (bS2 GE133.out GE134.out)):w.heap.size≤gb135));have n6_:=Aside0.mk ((bN BK133.out hg:gb133≠gb135));have n7_:=Aside0.mk ((bO BK133.out hg:gb135≠gb133));have n8_:=Aside0.mk ((bN BK134.out hg:gb134≠gb135));have n9_:=Aside0.mk ((bO BK134.out hg:gb135≠gb134));clear BK133 BK134 HB;have BK133:=n0_;have BK134:=n1_;have HB:=n2_;have BK135:=n3_;have GW135:=n4_;have GE135:=n5_;have NB133_135:=n6_;have NB135_133:=n7_;have NB134_135:=n8_;have NB135_134:=n9_;clear n0_ n1_ n2_ n3_ n4_ n5_ n6_ n7_ n8_ n9_;clear hb hbox hg;have hnb5:=NB133_134.out;have hnc5:=NB134_133.out;have hnb6:=NB133_135.out;have hnc6:=NB135_133.out;obtain⟨hcz7_0,hcz7_1,hcz7_2,hcz7_3,hcz7_4,hcz7_5,hcz7_6,hcz7_7,hcz7_8,hcz7_9⟩:=cC10 BK133.out;obtain⟨hfz7_0,hfz7_1,hfz7_2,hfz7_3,hfz7_4,hfz7_5,hfz7_6,hfz7_7,hfz7_8,hfz7_9⟩:=cF10 BK133.out;have hnb8:=NB135_134.out;have hnc8:=NB134_135.out;obtain⟨hcz9_0,hcz9_1,hcz9_2,hcz9_3,hcz9_4,hcz9_5,hcz9_6,hcz9_7,hcz9_8,hcz9_9⟩:=cC10 BK135.out;obtain⟨hfz9_0,hfz9_1,hfz9_2,hfz9_3,hfz9_4,hfz9_5,hfz9_6,hfz9_7,hfz9_8,hfz9_9⟩:=cF10 BK135.out;obtain⟨hcz10_0,hcz10_1,hcz10_2,hcz10_3,hcz10_4,hcz10_5,hcz10_6,hcz10_7,hcz10_8,hcz10_9⟩:=cC10 BK134.out;obtain⟨hfz10_0,hfz10_1,hfz10_2,hfz10_3,hfz10_4,hfz10_5,hfz10_6,hfz10_7,hfz10_8,hfz10_9⟩:=cF10 BK134.out))
 refine bodyPost_ret (results_cell_row rfl _ _ gb134 86 #[.int .i64 a0_0,.int .i64 a0_1,.bool a0_2,.int .i64 a0_3,.int .i64 a0_4,.int .i64 a0_5,.int .i64 a0_6,.int .i64 a0_7,.int .i64 a0_8,.string a0_9] (0,0) _ rfl (by(with_reducible repeat (first|refine blk_drewN ?_ _|refine blk_drew ?_|refine blk_alloc ?_ _));refine blk_put (cs:=#[.int .i64 a0_0,.int .i64 a0_1,.bool a0_2,.int .i64 a0_3,.int .i64 a0_4,.int .i64 a0_5,.int .i64 a0_6,.int .i64 a0_7,.int .i64 a0_8,.string (⟨#[]⟩:ByteArray)]) ?_ 9 _ rfl;(with_reducible repeat (first|refine blk_drewN ?_ _|refine blk_drew ?_|refine blk_alloc ?_ _));refine blk_put (cs:=#[.int .i64 a0_0,.int .i64 a0_1,.bool a0_2,.int .i64 a0_3,.int .i64 a0_4,.int .i64 a0_5,.int .i64 a0_6,.int .i64 a0_7,.int .i64 0,.string (⟨#[]⟩:ByteArray)]) ?_ 8 _ rfl;(with_reducible repeat (first|refine blk_drewN ?_ _|refine blk_drew ?_|refine blk_alloc ?_ _));refine blk_put (cs:=#[.int .i64 a0_0,.int .i64 a0_1,.bool a0_2,.int .i64 a0_3,.int .i64 a0_4,.int .i64 a0_5,.int .i64 a0_6,.int .i64 0,.int .i64 0,.string (⟨#[]⟩:ByteArray)]) ?_ 7 _ rfl;(with_reducible repeat (first|refine blk_drewN ?_ _|refine blk_drew ?_|refine blk_alloc ?_ _));refine blk_put (cs:=#[.int .i64 a0_0,.int .i64 a0_1,.bool a0_2,.int .i64 a0_3,.int .i64 a0_4,.int .i64 a0_5,.int .i64 0,.int .i64 0,.int .i64 0,.string (⟨#[]⟩:ByteArray)]) ?_ 6 _ rfl;(with_reducible repeat (first|refine blk_drewN ?_ _|refine blk_drew ?_|refine blk_alloc ?_ _));refine blk_put (cs:=#[.int .i64 a0_0,.int .i64 a0_1,.bool a0_2,.int .i64 a0_3,.int .i64 a0_4,.int .i64 0,.int .i64 0,.int .i64 0,.int .i64 0,.string (⟨#[]⟩:ByteArray)]) ?_ 5 _ rfl;(with_reducible repeat (first|refine blk_drewN ?_ _|refine blk_drew ?_|refine blk_alloc ?_ _));refine blk_put (cs:=#[.int .i64 a0_0,.int .i64 a0_1,.bool a0_2,.int .i64 a0_3,.int .i64 0,.int .i64 0,.int .i64 0,.int .i64 0,.int .i64 0,.string (⟨#[]⟩:ByteArray)]) ?_ 4 _ rfl;(with_reducible repeat (first|refine blk_drewN ?_ _|refine blk_drew ?_|refine blk_alloc ?_ _));refine blk_put (cs:=#[.int .i64 a0_0,.int .i64 a0_1,.bool a0_2,.int .i64 0,.int .i64 0,.int .i64 0,.int .i64 0,.int .i64 0,.int .i64 0,.string (⟨#[]⟩:ByteArray)]) ?_ 3 _ rfl;(with_reducible repeat (first|refine blk_drewN ?_ _|refine blk_drew ?_|refine blk_alloc ?_ _));refine blk_put (cs:=#[.int .i64 a0_0,.int .i64 a0_1,.bool false,.int .i64 0,.int .i64 0,.int .i64 0,.int .i64 0,.int .i64 0,.int .i64 0,.string (⟨#[]⟩:ByteArray)]) ?_ 2 _ rfl;(with_reducible repeat (first|refine blk_drewN ?_ _|refine blk_drew ?_|refine blk_alloc ?_ _));refine blk_put (cs:=#[.int .i64 a0_0,.int .i64 0,.bool false,.int .i64 0,.int .i64 0,.int .i64 0,.int .i64 0,.int .i64 0,.int .i64 0,.string (⟨#[]⟩:ByteArray)]) ?_ 1 _ rfl;(with_reducible repeat (first|refine blk_drewN ?_ _|refine blk_drew ?_|refine blk_alloc ?_ _));refine blk_put (cs:=#[.int .i64 0,.int .i64 0,.bool false,.int .i64 0,.int .i64 0,.int .i64 0,.int .i64 0,.int .i64 0,.int .i64 0,.string (⟨#[]⟩:ByteArray)]) ?_ 0 _ rfl;(with_reducible repeat (first|refine blk_drewN ?_ _|refine blk_drew ?_|refine blk_alloc ?_ _));refine blk_far ?_ NB134_135.out _;(with_reducible repeat (first|refine blk_drewN ?_ _|refine blk_drew ?_|refine blk_alloc ?_ _));refine blk_far ?_ NB134_135.out _;(with_reducible repeat (first|refine blk_drewN ?_ _|refine blk_drew ?_|refine blk_alloc ?_ _));refine blk_far ?_ NB134_135.out _;(with_reducible repeat (first|refine blk_drewN ?_ _|refine blk_drew ?_|refine blk_alloc ?_ _));refine blk_far ?_ NB134_135.out _;(with_reducible repeat (first|refine blk_drewN ?_ _|refine blk_drew ?_|refine blk_alloc ?_ _));refine blk_far ?_ NB134_135.out _;(with_reducible repeat (first|refine blk_drewN ?_ _|refine blk_drew ?_|refine blk_alloc ?_ _));refine blk_far ?_ NB134_135.out _;(with_reducible repeat (first|refine blk_drewN ?_ _|refine blk_drew ?_|refine blk_alloc ?_ _));refine blk_far ?_ NB134_135.out _;(with_reducible repeat (first|refine blk_drewN ?_ _|refine blk_drew ?_|refine blk_alloc ?_ _));refine blk_far ?_ NB134_135.out _;(with_reducible repeat (first|refine blk_drewN ?_ _|refine blk_drew ?_|refine blk_alloc ?_ _));refine blk_far ?_ NB134_135.out _;(with_reducible repeat (first|refine blk_drewN ?_ _|refine blk_drew ?_|refine blk_alloc ?_ _));refine blk_far ?_ NB134_135.out _;(with_reducible repeat (first|refine blk_drewN ?_ _|refine blk_drew ?_|refine blk_alloc ?_ _));exact BK134.out) Try.underlying86 rfl (by kernel_rfl)) rfl ?_
 exact⟨bE,bS3 GE133.out GE134.out GE135.out⟩

/-! ### spec_l1In: function 75 -/
def spec_l1In.f (a0:Int) (a1:Int) (a2:Int):Option (Bool):=if a0 ≥ a1 then (some (decide (a0≤a2))) else (some false)
set_option maxHeartbeats 8000000 in
set_option maxRecDepth 100000 in
theorem spec_l1In.calls (a0:Int) (a1:Int) (a2:Int) (r:Bool) (w:World) (h:spec_l1In.f a0 a1 a2=some r) :
  Calls Try.prog 75 #[.int .i64 a0,.int .i64 a1,.int .i64 a2] w fun e w'=>e=.returned (.bool r)∧Drawn0 w w':=by
 have H:(if a0 ≥ a1 then (some (decide (a0≤a2))) else (some false))=some r:=h
 clear h
 by_cases c4:a0 ≥ a1
 ·rw[if_pos c4] at H
  have c4b0:decide (a1≤a0)=true:=decide_eq_true c4
  clear c4
  obtain rfl:=Option.some.inj H
  go_enter Try.func75,Try.ntmps75
  go_wp2
  go_ret
  exact⟨bR,bW⟩
 ·rw[if_neg c4] at H
  have c4b0:decide (a1≤a0)=false:=decide_eq_false c4
  clear c4
  obtain rfl:=Option.some.inj H
  go_enter Try.func75,Try.ntmps75
  go_wp2
  go_ret
  exact⟨bR,bW⟩

/-! ### spec_l6Node: function 85 -/
def spec_l6Node.f (a0:Int):Option (Bool):=if a0 ≥ 0 then (some (decide (a0 < 8))) else (some false)
set_option maxHeartbeats 8000000 in
set_option maxRecDepth 100000 in
theorem spec_l6Node.calls (a0:Int) (r:Bool) (w:World) (h:spec_l6Node.f a0=some r) :
  Calls Try.prog 85 #[.int .i64 a0] w fun e w'=>e=.returned (.bool r)∧Drawn0 w w':=by
 have H:(if a0 ≥ 0 then (some (decide (a0 < 8))) else (some false))=some r:=h
 clear h
 by_cases c2:a0 ≥ 0
 ·rw[if_pos c2] at H
  have c2b0:decide (0≤a0)=true:=decide_eq_true c2
  clear c2
  obtain rfl:=Option.some.inj H
  go_enter Try.func85,Try.ntmps85
  go_wp2
  go_ret
  exact⟨bR,bW⟩
 ·rw[if_neg c2] at H
  have c2b0:decide (0≤a0)=false:=decide_eq_false c2
  clear c2
  obtain rfl:=Option.some.inj H
  go_enter Try.func85,Try.ntmps85
  go_wp2
  go_ret
  exact⟨bR,bW⟩

/-! ### spec_l6When: function 86 -/
def spec_l6When.f (a0:Int):Option (Bool):=(spec_l1In.f a0 0 1000).bind fun t136=>(some t136)
set_option maxHeartbeats 8000000 in
set_option maxRecDepth 100000 in
theorem spec_l6When.calls (a0:Int) (r:Bool) (w:World) (h:spec_l6When.f a0=some r) :
  Calls Try.prog 86 #[.int .i64 a0] w fun e w'=>e=.returned (.bool r)∧Drawn0 w w':=by
 have H:((spec_l1In.f a0 0 1000).bind fun t136=>(some t136))=some r:=h
 clear h
 replace H:=Option.bind_eq_some_iff.mp H
 obtain⟨t136,A20,H⟩:=H
 have A2:=Aside0.mk A20
 clear A20
 obtain rfl:=Option.some.inj H
 go_enter Try.func86,Try.ntmps86
 go_wp2_with (first|((with_reducible refine gate_callee (f:=75) rfl ?_);refine goesA (some 4) rfl rfl Try.func75 #[.int .i64 a0,.int .i64 0,.int .i64 1000] rfl ?_;(with_reducible refine(spec_l1In.calls a0 0 1000 t136 _ A2.out).mono ?_);rintro e w' ⟨rfl,⟨nd,rfl⟩⟩;refine⟨_,rfl,?_⟩))
 go_ret
 exact⟨bR,bW⟩

/-! ### spec_GoodPlan: function 84 -/
def spec_GoodPlan.l0:Nat→List (S104)→List (S104)→Int→Int→Option (Bool)
 | 0,_,_,_,_=>none
 | k+1,x0,x5,x6,x7=>if x7 < x6 then (if 0≤x7 then (if x7 < (x5.length:Int) then ((spec_l6Node.f ((rd_T104 x5 x7).f0)).bind fun t139=>(if t139=true then ((spec_l6Node.f ((rd_T104 x5 x7).f1)).bind fun t140=>(if t140=true then (if ((rd_T104 x5 x7).f0)=((rd_T104 x5 x7).f1) then (some false) else ((spec_l6When.f ((rd_T104 x5 x7).f3)).bind fun t141=>(if t141=true then (if ((rd_T104 x5 x7).f2) < 0 then (some false) else (if ((rd_T104 x5 x7).f2) ≥ ((rd_T104 x5 x7).f3) then (some false) else ((spec_l1In.f ((rd_T104 x5 x7).f4) 0 100).bind fun t142=>(if t142=true then (spec_GoodPlan.l0 k x0 x5 x6 (wrap64 (x7+1))) else (some false))))) else (some false)))) else (some false))) else (some false))) else (none)) else (none)) else (some (decide ((x0.length:Int)≤20)))
def spec_GoodPlan.f (k:Nat) (l0:List (S104)):Option (Bool):=spec_GoodPlan.l0 k l0 l0 (l0.length:Int) 0
theorem spec_GoodPlan.mono_l : ∀ k,(∀ y0 y1 y2 y3,LeO (spec_GoodPlan.l0 k y0 y1 y2 y3) (spec_GoodPlan.l0 (k+1) y0 y1 y2 y3))
 | 0=>fun _ _ _ _ r h=>by simp[spec_GoodPlan.l0] at h
 | k+1=>by
  have ih0:=spec_GoodPlan.mono_l k
  ·intro y0 y1 y2 y3
   unfold spec_GoodPlan.l0
   repeat' first
   | (with_reducible exact ih0 _ _ _ _)
   | (with_reducible exact LeO.refl _)
   | (with_reducible exact LeO.none _)
   | (with_reducible refine LeO.ite ?_ ?_)
   | (with_reducible refine LeO.bind ?_ (fun _ => ?_))
   | exact ih0 _ _ _ _
   | exact LeO.none _
   | refine LeO.ite ?_ ?_
   | refine LeO.bind ?_ (fun _ => ?_)
theorem spec_GoodPlan.mono : ∀ a0 k,LeO (spec_GoodPlan.f k a0) (spec_GoodPlan.f (k+1) a0):=by
 intro a0 k
 have ih0:=spec_GoodPlan.mono_l k
 unfold spec_GoodPlan.f
 repeat' first
  | (with_reducible exact ih0 _ _ _ _)
  | (with_reducible exact LeO.refl _)
  | (with_reducible exact LeO.none _)
  | (with_reducible refine LeO.ite ?_ ?_)
  | (with_reducible refine LeO.bind ?_ (fun _ => ?_))
  | exact ih0 _ _ _ _
  | exact LeO.none _
  | refine LeO.ite ?_ ?_
  | refine LeO.bind ?_ (fun _ => ?_)
set_option maxHeartbeats 8000000 in
set_option maxRecDepth 100000 in
theorem spec_GoodPlan.calls (k:Nat) (A0:Option Addr) (c0:Nat) (l0:List (S104)) (r:Bool) (w:World) (hr0:Kd.C k104 w A0 l0.length l0) (hc0:l0.length≤c0) (h:spec_GoodPlan.f k l0=some r) :
  Calls Try.prog 84 #[.slice A0 l0.length c0] w fun e w'=>e=.returned (.bool r)∧Below w.heap.size w w':=by
 have hu104:=Try.underlying104
 have HR0:=Aside0.mk hr0
 have HC0:=Aside0.mk hc0
 clear hr0 hc0
 have HB:=Aside0.mk (Below.refl w.heap.size w)
 have H:(spec_GoodPlan.l0 k l0 l0 (l0.length:Int) 0)=some r:=h
 clear h
 have H':=Aside0.mk H
 clear H
 go_enter Try.func84,Try.ntmps84
 go_wp2
 go_loopg [7] k (fun kq v7 w' => ∃ (x7_1:Int),v7=.int .i64 x7_1∧Aside0 (spec_GoodPlan.l0 kq l0 l0 (l0.length:Int) x7_1=some r)∧Aside0 (kq≤k)∧Aside0 (Below w.heap.size w w'))
 case atStart=>exact⟨(0),(bR),H',⟨Nat.le_refl _⟩,⟨by repeat (first|(with_reducible first|exact HB.out|apply below_alloc|apply pw_below_drewN|apply below_drew1)|exact HB.out)⟩⟩
 case round =>
  clear H'
  obtain⟨x7_1,rfl,HA,HK1,HB⟩:=hrel
  cases gk with
  | zero=>exact absurd HA.out (by simp[spec_GoodPlan.l0])
  | succ k1 =>
   have H:=HA.out
   clear HA
   simp only[spec_GoodPlan.l0] at H
   by_cases c2:x7_1 < (l0.length:Int)
   ·rw[if_pos c2] at H
    have c2b0:decide (x7_1 < (l0.length:Int))=true:=decide_eq_true c2
    clear c2
    by_cases c3:0≤x7_1
    ·rw[if_pos c3] at H
     have c3b0:decide (0≤x7_1)=true:=decide_eq_true c3
     clear c3
     by_cases c4:x7_1 < (l0.length:Int)
     ·rw[if_pos c4] at H
      have c4b0:decide (x7_1 < (l0.length:Int))=true:=decide_eq_true c4
      clear c4
      replace H:=Option.bind_eq_some_iff.mp H
      obtain⟨t139,A50,H⟩:=H
      have A5:=Aside0.mk A50
      clear A50
      by_cases c6:t139=true
      ·subst c6
       have H1:((spec_l6Node.f ((rd_T104 l0 x7_1).f1)).bind fun t140=>(if t140=true then (if ((rd_T104 l0 x7_1).f0)=((rd_T104 l0 x7_1).f1) then (some false) else ((spec_l6When.f ((rd_T104 l0 x7_1).f3)).bind fun t141=>(if t141=true then (if ((rd_T104 l0 x7_1).f2) < 0 then (some false) else (if ((rd_T104 l0 x7_1).f2) ≥ ((rd_T104 l0 x7_1).f3) then (some false) else ((spec_l1In.f ((rd_T104 l0 x7_1).f4) 0 100).bind fun t142=>(if t142=true then (spec_GoodPlan.l0 k1 l0 l0 (l0.length:Int) (wrap64 (x7_1+1))) else (some false))))) else (some false)))) else (some false)))=some r:=by rw[if_pos rfl] at H;exact H
       clear H
       have H:=H1
       clear H1
       replace H:=Option.bind_eq_some_iff.mp H
       obtain⟨t140,A70,H⟩:=H
       have A7:=Aside0.mk A70
       clear A70
       by_cases c8:t140=true
       ·subst c8
        have H1:(if ((rd_T104 l0 x7_1).f0)=((rd_T104 l0 x7_1).f1) then (some false) else ((spec_l6When.f ((rd_T104 l0 x7_1).f3)).bind fun t141=>(if t141=true then (if ((rd_T104 l0 x7_1).f2) < 0 then (some false) else (if ((rd_T104 l0 x7_1).f2) ≥ ((rd_T104 l0 x7_1).f3) then (some false) else ((spec_l1In.f ((rd_T104 l0 x7_1).f4) 0 100).bind fun t142=>(if t142=true then (spec_GoodPlan.l0 k1 l0 l0 (l0.length:Int) (wrap64 (x7_1+1))) else (some false))))) else (some false))))=some r:=by rw[if_pos rfl] at H;exact H
        clear H
        have H:=H1
        clear H1
        by_cases c9:((rd_T104 l0 x7_1).f0)=((rd_T104 l0 x7_1).f1)
        ·rw[if_pos c9] at H
         have c9b0:(((rd_T104 l0 x7_1).f0) == ((rd_T104 l0 x7_1).f1))=true:=beq_iff_eq.mpr c9
         have c9b1:(((rd_T104 l0 x7_1).f0) != ((rd_T104 l0 x7_1).f1))=false:=bne_eq_false_iff_eq.mpr c9
         clear c9
         obtain rfl:=Option.some.inj H
         have p137:0≤(x7_1:Int):=of_decide_eq_true (bD)
         have q137:x7_1 < (l0.length:Int):=of_decide_eq_true (bD)
         obtain⟨ad137,e137,hx137_0,hx137_1,hx137_2,hx137_3,hx137_4⟩:=at_T104 HR0.out x7_1 p137 q137
         cases e137
         replace hx137_0:=(HB.out.cell (World.block_lt_of_cell? w _ hx137_0)).trans hx137_0
         replace hx137_1:=(HB.out.cell (World.block_lt_of_cell? w _ hx137_1)).trans hx137_1
         replace hx137_2:=(HB.out.cell (World.block_lt_of_cell? w _ hx137_2)).trans hx137_2
         replace hx137_3:=(HB.out.cell (World.block_lt_of_cell? w _ hx137_3)).trans hx137_3
         replace hx137_4:=(HB.out.cell (World.block_lt_of_cell? w _ hx137_4)).trans hx137_4
         replace p137:=eq_true p137
         replace q137:=eq_true q137
         go_wp2_with (first|((with_reducible refine gate_dst (N:=4) rfl ?_);refine box_event ?hg (N:=4) ?hd (cs:=#[.int .i64 0,.int .i64 0,.int .i64 0,.int .i64 0,.int .i64 0]) (t:=104) ?hr ?_;(case hd=>rfl);(case hg=>rfl);(case hr=>first|(go_simp;done)|(go_simp;rfl));intro gb138 hg w10 hbox hb;have n0_:=Aside0.mk (below_step (bB) hb);have n1_:=Aside0.mk (hbox);have n2_:=Aside0.mk ((bG:w.heap.size≤gb138));have n3_:=Aside0.mk ((bG:w.heap.size≤gb138));clear HB;have HB:=n0_;have BK138:=n1_;have GW138:=n2_;have GE138:=n3_;clear n0_ n1_ n2_ n3_;clear hb hbox hg;obtain⟨hcz11_0,hcz11_1,hcz11_2,hcz11_3,hcz11_4⟩:=cC5 BK138.out;obtain⟨hfz11_0,hfz11_1,hfz11_2,hfz11_3,hfz11_4⟩:=cF5 BK138.out)|((with_reducible refine gate_callee (f:=85) rfl ?_);refine goesA (some 13) rfl rfl Try.func85 #[.int .i64 ((rd_T104 l0 x7_1).f0)] rfl ?_;(with_reducible refine(spec_l6Node.calls ((rd_T104 l0 x7_1).f0) true _ A5.out).mono ?_);rintro e w' ⟨rfl,⟨nd,rfl⟩⟩;refine⟨_,rfl,?_⟩)|(go_at_call 85;(with_reducible refine(spec_l6Node.calls ((rd_T104 l0 x7_1).f1) true _ A7.out).mono ?_);rintro e w' ⟨rfl,⟨nd,rfl⟩⟩))
         go_ret
         exact⟨bE,bS GE138.out⟩
        ·rw[if_neg c9] at H
         have c9b0:(((rd_T104 l0 x7_1).f0) == ((rd_T104 l0 x7_1).f1))=false:=beq_eq_false_iff_ne.mpr c9
         have c9b1:(((rd_T104 l0 x7_1).f0) != ((rd_T104 l0 x7_1).f1))=true:=bne_iff_ne.mpr c9
         replace H:=Option.bind_eq_some_iff.mp H
         obtain⟨t141,A120,H⟩:=H
         have A12:=Aside0.mk A120
         clear A120
         by_cases c13:t141=true
         ·subst c13
          have H1:(if ((rd_T104 l0 x7_1).f2) < 0 then (some false) else (if ((rd_T104 l0 x7_1).f2) ≥ ((rd_T104 l0 x7_1).f3) then (some false) else ((spec_l1In.f ((rd_T104 l0 x7_1).f4) 0 100).bind fun t142=>(if t142=true then (spec_GoodPlan.l0 k1 l0 l0 (l0.length:Int) (wrap64 (x7_1+1))) else (some false)))))=some r:=by rw[if_pos rfl] at H;exact H
          clear H
          have H:=H1
          clear H1
          by_cases c14:((rd_T104 l0 x7_1).f2) < 0
          ·rw[if_pos c14] at H
           have c14b0:decide (((rd_T104 l0 x7_1).f2) < 0)=true:=decide_eq_true c14
           clear c14
           obtain rfl:=Option.some.inj H
           have p137:0≤(x7_1:Int):=of_decide_eq_true (bD)
           have q137:x7_1 < (l0.length:Int):=of_decide_eq_true (bD)
           obtain⟨ad137,e137,hx137_0,hx137_1,hx137_2,hx137_3,hx137_4⟩:=at_T104 HR0.out x7_1 p137 q137
           cases e137
           replace hx137_0:=(HB.out.cell (World.block_lt_of_cell? w _ hx137_0)).trans hx137_0
           replace hx137_1:=(HB.out.cell (World.block_lt_of_cell? w _ hx137_1)).trans hx137_1
           replace hx137_2:=(HB.out.cell (World.block_lt_of_cell? w _ hx137_2)).trans hx137_2
           replace hx137_3:=(HB.out.cell (World.block_lt_of_cell? w _ hx137_3)).trans hx137_3
           replace hx137_4:=(HB.out.cell (World.block_lt_of_cell? w _ hx137_4)).trans hx137_4
           replace p137:=eq_true p137
           replace q137:=eq_true q137
           go_wp2_with (first|((with_reducible refine gate_dst (N:=4) rfl ?_);refine box_event ?hg (N:=4) ?hd (cs:=#[.int .i64 0,.int .i64 0,.int .i64 0,.int .i64 0,.int .i64 0]) (t:=104) ?hr ?_;(case hd=>rfl);(case hg=>rfl);(case hr=>first|(go_simp;done)|(go_simp;rfl));intro gb138 hg w15 hbox hb;have n0_:=Aside0.mk (below_step (bB) hb);have n1_:=Aside0.mk (hbox);have n2_:=Aside0.mk ((bG:w.heap.size≤gb138));have n3_:=Aside0.mk ((bG:w.heap.size≤gb138));clear HB;have HB:=n0_;have BK138:=n1_;have GW138:=n2_;have GE138:=n3_;clear n0_ n1_ n2_ n3_;clear hb hbox hg;obtain⟨hcz16_0,hcz16_1,hcz16_2,hcz16_3,hcz16_4⟩:=cC5 BK138.out;obtain⟨hfz16_0,hfz16_1,hfz16_2,hfz16_3,hfz16_4⟩:=cF5 BK138.out)|((with_reducible refine gate_callee (f:=85) rfl ?_);refine goesA (some 13) rfl rfl Try.func85 #[.int .i64 ((rd_T104 l0 x7_1).f0)] rfl ?_;(with_reducible refine(spec_l6Node.calls ((rd_T104 l0 x7_1).f0) true _ A5.out).mono ?_);rintro e w' ⟨rfl,⟨nd,rfl⟩⟩;refine⟨_,rfl,?_⟩)|(go_at_call 85;(with_reducible refine(spec_l6Node.calls ((rd_T104 l0 x7_1).f1) true _ A7.out).mono ?_);rintro e w' ⟨rfl,⟨nd,rfl⟩⟩)|(go_at_call 86;(with_reducible refine(spec_l6When.calls ((rd_T104 l0 x7_1).f3) true _ A12.out).mono ?_);rintro e w' ⟨rfl,⟨nd,rfl⟩⟩))
           go_ret
           exact⟨bE,bS GE138.out⟩
          ·rw[if_neg c14] at H
           have c14b0:decide (((rd_T104 l0 x7_1).f2) < 0)=false:=decide_eq_false c14
           clear c14
           by_cases c17:((rd_T104 l0 x7_1).f2) ≥ ((rd_T104 l0 x7_1).f3)
           ·rw[if_pos c17] at H
            have c17b0:decide (((rd_T104 l0 x7_1).f3)≤((rd_T104 l0 x7_1).f2))=true:=decide_eq_true c17
            clear c17
            obtain rfl:=Option.some.inj H
            have p137:0≤(x7_1:Int):=of_decide_eq_true (bD)
            have q137:x7_1 < (l0.length:Int):=of_decide_eq_true (bD)
            obtain⟨ad137,e137,hx137_0,hx137_1,hx137_2,hx137_3,hx137_4⟩:=at_T104 HR0.out x7_1 p137 q137
            cases e137
            replace hx137_0:=(HB.out.cell (World.block_lt_of_cell? w _ hx137_0)).trans hx137_0
            replace hx137_1:=(HB.out.cell (World.block_lt_of_cell? w _ hx137_1)).trans hx137_1
            replace hx137_2:=(HB.out.cell (World.block_lt_of_cell? w _ hx137_2)).trans hx137_2
            replace hx137_3:=(HB.out.cell (World.block_lt_of_cell? w _ hx137_3)).trans hx137_3
            replace hx137_4:=(HB.out.cell (World.block_lt_of_cell? w _ hx137_4)).trans hx137_4
            replace p137:=eq_true p137
            replace q137:=eq_true q137
            go_wp2_with (first|((with_reducible refine gate_dst (N:=4) rfl ?_);refine box_event ?hg (N:=4) ?hd (cs:=#[.int .i64 0,.int .i64 0,.int .i64 0,.int .i64 0,.int .i64 0]) (t:=104) ?hr ?_;(case hd=>rfl);(case hg=>rfl);(case hr=>first|(go_simp;done)|(go_simp;rfl));intro gb138 hg w18 hbox hb;have n0_:=Aside0.mk (below_step (bB) hb);have n1_:=Aside0.mk (hbox);have n2_:=Aside0.mk ((bG:w.heap.size≤gb138));have n3_:=Aside0.mk ((bG:w.heap.size≤gb138));clear HB;have HB:=n0_;have BK138:=n1_;have GW138:=n2_;have GE138:=n3_;clear n0_ n1_ n2_ n3_;clear hb hbox hg;obtain⟨hcz19_0,hcz19_1,hcz19_2,hcz19_3,hcz19_4⟩:=cC5 BK138.out;obtain⟨hfz19_0,hfz19_1,hfz19_2,hfz19_3,hfz19_4⟩:=cF5 BK138.out)|((with_reducible refine gate_callee (f:=85) rfl ?_);refine goesA (some 13) rfl rfl Try.func85 #[.int .i64 ((rd_T104 l0 x7_1).f0)] rfl ?_;(with_reducible refine(spec_l6Node.calls ((rd_T104 l0 x7_1).f0) true _ A5.out).mono ?_);rintro e w' ⟨rfl,⟨nd,rfl⟩⟩;refine⟨_,rfl,?_⟩)|(go_at_call 85;(with_reducible refine(spec_l6Node.calls ((rd_T104 l0 x7_1).f1) true _ A7.out).mono ?_);rintro e w' ⟨rfl,⟨nd,rfl⟩⟩)|(go_at_call 86;(with_reducible refine(spec_l6When.calls ((rd_T104 l0 x7_1).f3) true _ A12.out).mono ?_);rintro e w' ⟨rfl,⟨nd,rfl⟩⟩))
            go_ret
            exact⟨bE,bS GE138.out⟩
           ·rw[if_neg c17] at H
            have c17b0:decide (((rd_T104 l0 x7_1).f3)≤((rd_T104 l0 x7_1).f2))=false:=decide_eq_false c17
            clear c17
            replace H:=Option.bind_eq_some_iff.mp H
            obtain⟨t142,A200,H⟩:=H
            have A20:=Aside0.mk A200
            clear A200
            by_cases c21:t142=true
            ·subst c21
             have H1:(spec_GoodPlan.l0 k1 l0 l0 (l0.length:Int) (wrap64 (x7_1+1)))=some r:=by rw[if_pos rfl] at H;exact H
             clear H
             have H:=H1
             clear H1
             have H':=Aside0.mk H
             clear H
             have p137:0≤(x7_1:Int):=of_decide_eq_true (bD)
             have q137:x7_1 < (l0.length:Int):=of_decide_eq_true (bD)
             obtain⟨ad137,e137,hx137_0,hx137_1,hx137_2,hx137_3,hx137_4⟩:=at_T104 HR0.out x7_1 p137 q137
             cases e137
             replace hx137_0:=(HB.out.cell (World.block_lt_of_cell? w _ hx137_0)).trans hx137_0
             replace hx137_1:=(HB.out.cell (World.block_lt_of_cell? w _ hx137_1)).trans hx137_1
             replace hx137_2:=(HB.out.cell (World.block_lt_of_cell? w _ hx137_2)).trans hx137_2
             replace hx137_3:=(HB.out.cell (World.block_lt_of_cell? w _ hx137_3)).trans hx137_3
             replace hx137_4:=(HB.out.cell (World.block_lt_of_cell? w _ hx137_4)).trans hx137_4
             replace p137:=eq_true p137
             replace q137:=eq_true q137
             go_wp2_with (first|((with_reducible refine gate_dst (N:=4) rfl ?_);refine box_event ?hg (N:=4) ?hd (cs:=#[.int .i64 0,.int .i64 0,.int .i64 0,.int .i64 0,.int .i64 0]) (t:=104) ?hr ?_;(case hd=>rfl);(case hg=>rfl);(case hr=>first|(go_simp;done)|(go_simp;rfl));intro gb138 hg w22 hbox hb;have n0_:=Aside0.mk (below_step (bB) hb);have n1_:=Aside0.mk (hbox);have n2_:=Aside0.mk ((bG:w.heap.size≤gb138));have n3_:=Aside0.mk ((bG:w.heap.size≤gb138));clear HB;have HB:=n0_;have BK138:=n1_;have GW138:=n2_;have GE138:=n3_;clear n0_ n1_ n2_ n3_;clear hb hbox hg;obtain⟨hcz23_0,hcz23_1,hcz23_2,hcz23_3,hcz23_4⟩:=cC5 BK138.out;obtain⟨hfz23_0,hfz23_1,hfz23_2,hfz23_3,hfz23_4⟩:=cF5 BK138.out)|((with_reducible refine gate_callee (f:=85) rfl ?_);refine goesA (some 13) rfl rfl Try.func85 #[.int .i64 ((rd_T104 l0 x7_1).f0)] rfl ?_;(with_reducible refine(spec_l6Node.calls ((rd_T104 l0 x7_1).f0) true _ A5.out).mono ?_);rintro e w' ⟨rfl,⟨nd,rfl⟩⟩;refine⟨_,rfl,?_⟩)|(go_at_call 85;(with_reducible refine(spec_l6Node.calls ((rd_T104 l0 x7_1).f1) true _ A7.out).mono ?_);rintro e w' ⟨rfl,⟨nd,rfl⟩⟩)|(go_at_call 86;(with_reducible refine(spec_l6When.calls ((rd_T104 l0 x7_1).f3) true _ A12.out).mono ?_);rintro e w' ⟨rfl,⟨nd,rfl⟩⟩)|(go_at_call 75;(with_reducible refine(spec_l1In.calls ((rd_T104 l0 x7_1).f4) 0 100 true _ A20.out).mono ?_);rintro e w' ⟨rfl,⟨nd,rfl⟩⟩))
             go_roundg k1
             case measure=>have:=HK1.out;omega
             case rel=>exact⟨(wrap64 (x7_1+1)),(bR),H',⟨by have:=HK1.out;omega⟩,⟨bS GE138.out⟩⟩
            ·replace c21:=Bool.eq_false_iff.mpr c21
             subst c21
             have H1:(some false)=some r:=by rw[if_neg (show ¬ (false=true) by decide)] at H;exact H
             clear H
             have H:=H1
             clear H1
             obtain rfl:=Option.some.inj H
             have p137:0≤(x7_1:Int):=of_decide_eq_true (bD)
             have q137:x7_1 < (l0.length:Int):=of_decide_eq_true (bD)
             obtain⟨ad137,e137,hx137_0,hx137_1,hx137_2,hx137_3,hx137_4⟩:=at_T104 HR0.out x7_1 p137 q137
             cases e137
             replace hx137_0:=(HB.out.cell (World.block_lt_of_cell? w _ hx137_0)).trans hx137_0
             replace hx137_1:=(HB.out.cell (World.block_lt_of_cell? w _ hx137_1)).trans hx137_1
             replace hx137_2:=(HB.out.cell (World.block_lt_of_cell? w _ hx137_2)).trans hx137_2
             replace hx137_3:=(HB.out.cell (World.block_lt_of_cell? w _ hx137_3)).trans hx137_3
             replace hx137_4:=(HB.out.cell (World.block_lt_of_cell? w _ hx137_4)).trans hx137_4
             replace p137:=eq_true p137
             replace q137:=eq_true q137
             go_wp2_with (first|((with_reducible refine gate_dst (N:=4) rfl ?_);refine box_event ?hg (N:=4) ?hd (cs:=#[.int .i64 0,.int .i64 0,.int .i64 0,.int .i64 0,.int .i64 0]) (t:=104) ?hr ?_;(case hd=>rfl);(case hg=>rfl);(case hr=>first|(go_simp;done)|(go_simp;rfl));intro gb138 hg w24 hbox hb;have n0_:=Aside0.mk (below_step (bB) hb);have n1_:=Aside0.mk (hbox);have n2_:=Aside0.mk ((bG:w.heap.size≤gb138));have n3_:=Aside0.mk ((bG:w.heap.size≤gb138));clear HB;have HB:=n0_;have BK138:=n1_;have GW138:=n2_;have GE138:=n3_;clear n0_ n1_ n2_ n3_;clear hb hbox hg;obtain⟨hcz25_0,hcz25_1,hcz25_2,hcz25_3,hcz25_4⟩:=cC5 BK138.out;obtain⟨hfz25_0,hfz25_1,hfz25_2,hfz25_3,hfz25_4⟩:=cF5 BK138.out)|((with_reducible refine gate_callee (f:=85) rfl ?_);refine goesA (some 13) rfl rfl Try.func85 #[.int .i64 ((rd_T104 l0 x7_1).f0)] rfl ?_;(with_reducible refine(spec_l6Node.calls ((rd_T104 l0 x7_1).f0) true _ A5.out).mono ?_);rintro e w' ⟨rfl,⟨nd,rfl⟩⟩;refine⟨_,rfl,?_⟩)|(go_at_call 85;(with_reducible refine(spec_l6Node.calls ((rd_T104 l0 x7_1).f1) true _ A7.out).mono ?_);rintro e w' ⟨rfl,⟨nd,rfl⟩⟩)|(go_at_call 86;(with_reducible refine(spec_l6When.calls ((rd_T104 l0 x7_1).f3) true _ A12.out).mono ?_);rintro e w' ⟨rfl,⟨nd,rfl⟩⟩)|(go_at_call 75;(with_reducible refine(spec_l1In.calls ((rd_T104 l0 x7_1).f4) 0 100 false _ A20.out).mono ?_);rintro e w' ⟨rfl,⟨nd,rfl⟩⟩))
             go_ret
             exact⟨bE,bS GE138.out⟩
         ·replace c13:=Bool.eq_false_iff.mpr c13
          subst c13
          have H1:(some false)=some r:=by rw[if_neg (show ¬ (false=true) by decide)] at H;exact H
          clear H
          have H:=H1
          clear H1
          obtain rfl:=Option.some.inj H
          have p137:0≤(x7_1:Int):=of_decide_eq_true (bD)
          have q137:x7_1 < (l0.length:Int):=of_decide_eq_true (bD)
          obtain⟨ad137,e137,hx137_0,hx137_1,hx137_2,hx137_3,hx137_4⟩:=at_T104 HR0.out x7_1 p137 q137
          cases e137
          replace hx137_0:=(HB.out.cell (World.block_lt_of_cell? w _ hx137_0)).trans hx137_0
          replace hx137_1:=(HB.out.cell (World.block_lt_of_cell? w _ hx137_1)).trans hx137_1
          replace hx137_2:=(HB.out.cell (World.block_lt_of_cell? w _ hx137_2)).trans hx137_2
          replace hx137_3:=(HB.out.cell (World.block_lt_of_cell? w _ hx137_3)).trans hx137_3
          replace hx137_4:=(HB.out.cell (World.block_lt_of_cell? w _ hx137_4)).trans hx137_4
          replace p137:=eq_true p137
          replace q137:=eq_true q137
          go_wp2_with (first|((with_reducible refine gate_dst (N:=4) rfl ?_);refine box_event ?hg (N:=4) ?hd (cs:=#[.int .i64 0,.int .i64 0,.int .i64 0,.int .i64 0,.int .i64 0]) (t:=104) ?hr ?_;(case hd=>rfl);(case hg=>rfl);(case hr=>first|(go_simp;done)|(go_simp;rfl));intro gb138 hg w26 hbox hb;have n0_:=Aside0.mk (below_step (bB) hb);have n1_:=Aside0.mk (hbox);have n2_:=Aside0.mk ((bG:w.heap.size≤gb138));have n3_:=Aside0.mk ((bG:w.heap.size≤gb138));clear HB;have HB:=n0_;have BK138:=n1_;have GW138:=n2_;have GE138:=n3_;clear n0_ n1_ n2_ n3_;clear hb hbox hg;obtain⟨hcz27_0,hcz27_1,hcz27_2,hcz27_3,hcz27_4⟩:=cC5 BK138.out;obtain⟨hfz27_0,hfz27_1,hfz27_2,hfz27_3,hfz27_4⟩:=cF5 BK138.out)|((with_reducible refine gate_callee (f:=85) rfl ?_);refine goesA (some 13) rfl rfl Try.func85 #[.int .i64 ((rd_T104 l0 x7_1).f0)] rfl ?_;(with_reducible refine(spec_l6Node.calls ((rd_T104 l0 x7_1).f0) true _ A5.out).mono ?_);rintro e w' ⟨rfl,⟨nd,rfl⟩⟩;refine⟨_,rfl,?_⟩)|(go_at_call 85;(with_reducible refine(spec_l6Node.calls ((rd_T104 l0 x7_1).f1) true _ A7.out).mono ?_);rintro e w' ⟨rfl,⟨nd,rfl⟩⟩)|(go_at_call 86;(with_reducible refine(spec_l6When.calls ((rd_T104 l0 x7_1).f3) false _ A12.out).mono ?_);rintro e w' ⟨rfl,⟨nd,rfl⟩⟩))
          go_ret
          exact⟨bE,bS GE138.out⟩
       ·replace c8:=Bool.eq_false_iff.mpr c8
        subst c8
        have H1:(some false)=some r:=by rw[if_neg (show ¬ (false=true) by decide)] at H;exact H
        clear H
        have H:=H1
        clear H1
        obtain rfl:=Option.some.inj H
        have p137:0≤(x7_1:Int):=of_decide_eq_true (bD)
        have q137:x7_1 < (l0.length:Int):=of_decide_eq_true (bD)
        obtain⟨ad137,e137,hx137_0,hx137_1,hx137_2,hx137_3,hx137_4⟩:=at_T104 HR0.out x7_1 p137 q137
        cases e137
        replace hx137_0:=(HB.out.cell (World.block_lt_of_cell? w _ hx137_0)).trans hx137_0
        replace hx137_1:=(HB.out.cell (World.block_lt_of_cell? w _ hx137_1)).trans hx137_1
        replace hx137_2:=(HB.out.cell (World.block_lt_of_cell? w _ hx137_2)).trans hx137_2
        replace hx137_3:=(HB.out.cell (World.block_lt_of_cell? w _ hx137_3)).trans hx137_3
        replace hx137_4:=(HB.out.cell (World.block_lt_of_cell? w _ hx137_4)).trans hx137_4
        replace p137:=eq_true p137
        replace q137:=eq_true q137
        go_wp2_with (first|((with_reducible refine gate_dst (N:=4) rfl ?_);refine box_event ?hg (N:=4) ?hd (cs:=#[.int .i64 0,.int .i64 0,.int .i64 0,.int .i64 0,.int .i64 0]) (t:=104) ?hr ?_;(case hd=>rfl);(case hg=>rfl);(case hr=>first|(go_simp;done)|(go_simp;rfl));intro gb138 hg w28 hbox hb;have n0_:=Aside0.mk (below_step (bB) hb);have n1_:=Aside0.mk (hbox);have n2_:=Aside0.mk ((bG:w.heap.size≤gb138));have n3_:=Aside0.mk ((bG:w.heap.size≤gb138));clear HB;have HB:=n0_;have BK138:=n1_;have GW138:=n2_;have GE138:=n3_;clear n0_ n1_ n2_ n3_;clear hb hbox hg;obtain⟨hcz29_0,hcz29_1,hcz29_2,hcz29_3,hcz29_4⟩:=cC5 BK138.out;obtain⟨hfz29_0,hfz29_1,hfz29_2,hfz29_3,hfz29_4⟩:=cF5 BK138.out)|((with_reducible refine gate_callee (f:=85) rfl ?_);refine goesA (some 13) rfl rfl Try.func85 #[.int .i64 ((rd_T104 l0 x7_1).f0)] rfl ?_;(with_reducible refine(spec_l6Node.calls ((rd_T104 l0 x7_1).f0) true _ A5.out).mono ?_);rintro e w' ⟨rfl,⟨nd,rfl⟩⟩;refine⟨_,rfl,?_⟩)|(go_at_call 85;(with_reducible refine(spec_l6Node.calls ((rd_T104 l0 x7_1).f1) false _ A7.out).mono ?_);rintro e w' ⟨rfl,⟨nd,rfl⟩⟩))
        go_ret
        exact⟨bE,bS GE138.out⟩
      ·replace c6:=Bool.eq_false_iff.mpr c6
       subst c6
       have H1:(some false)=some r:=by rw[if_neg (show ¬ (false=true) by decide)] at H;exact H
       clear H
       have H:=H1
       clear H1
       obtain rfl:=Option.some.inj H
       have p137:0≤(x7_1:Int):=of_decide_eq_true (bD)
       have q137:x7_1 < (l0.length:Int):=of_decide_eq_true (bD)
       obtain⟨ad137,e137,hx137_0,hx137_1,hx137_2,hx137_3,hx137_4⟩:=at_T104 HR0.out x7_1 p137 q137
       cases e137
       replace hx137_0:=(HB.out.cell (World.block_lt_of_cell? w _ hx137_0)).trans hx137_0
       replace hx137_1:=(HB.out.cell (World.block_lt_of_cell? w _ hx137_1)).trans hx137_1
       replace hx137_2:=(HB.out.cell (World.block_lt_of_cell? w _ hx137_2)).trans hx137_2
       replace hx137_3:=(HB.out.cell (World.block_lt_of_cell? w _ hx137_3)).trans hx137_3
       replace hx137_4:=(HB.out.cell (World.block_lt_of_cell? w _ hx137_4)).trans hx137_4
       replace p137:=eq_true p137
       replace q137:=eq_true q137
       go_wp2_with (first|((with_reducible refine gate_dst (N:=4) rfl ?_);refine box_event ?hg (N:=4) ?hd (cs:=#[.int .i64 0,.int .i64 0,.int .i64 0,.int .i64 0,.int .i64 0]) (t:=104) ?hr ?_;(case hd=>rfl);(case hg=>rfl);(case hr=>first|(go_simp;done)|(go_simp;rfl));intro gb138 hg w30 hbox hb;have n0_:=Aside0.mk (below_step (bB) hb);have n1_:=Aside0.mk (hbox);have n2_:=Aside0.mk ((bG:w.heap.size≤gb138));have n3_:=Aside0.mk ((bG:w.heap.size≤gb138));clear HB;have HB:=n0_;have BK138:=n1_;have GW138:=n2_;have GE138:=n3_;clear n0_ n1_ n2_ n3_;clear hb hbox hg;obtain⟨hcz31_0,hcz31_1,hcz31_2,hcz31_3,hcz31_4⟩:=cC5 BK138.out;obtain⟨hfz31_0,hfz31_1,hfz31_2,hfz31_3,hfz31_4⟩:=cF5 BK138.out)|((with_reducible refine gate_callee (f:=85) rfl ?_);refine goesA (some 13) rfl rfl Try.func85 #[.int .i64 ((rd_T104 l0 x7_1).f0)] rfl ?_;(with_reducible refine(spec_l6Node.calls ((rd_T104 l0 x7_1).f0) false _ A5.out).mono ?_);rintro e w' ⟨rfl,⟨nd,rfl⟩⟩;refine⟨_,rfl,?_⟩))
       go_ret
       exact⟨bE,bS GE138.out⟩
     ·rw[if_neg c4] at H
      exact absurd H (by simp)
    ·rw[if_neg c3] at H
     exact absurd H (by simp)
   ·rw[if_neg c2] at H
    have c2b0:decide (x7_1 < (l0.length:Int))=false:=decide_eq_false c2
    clear c2
    obtain rfl:=Option.some.inj H
    go_wp2
    go_ret
    exact⟨bE,bB⟩

end Go.Proofs.Yteneeohaoplpbaa.XFnExactReachAll
