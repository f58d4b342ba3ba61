-- Written by this session's own program (wip/xprint.py) out of the translation; Lean checks it.
import Derived.Test.YteneeohaoplpbaaXFnExactNewCustodyx0
import Derived.Test.YteneeohaoplpbaaXFnExactNewCustodyx1
import Derived.Test.YteneeohaoplpbaaXFnExactNewCustodyx5
namespace Go.Proofs.Yteneeohaoplpbaa.XFnExactNewCustody
open Go.RowKit Go.Proofs.YteneeohaoplpbaaW.PrintWords Go.Proofs.YteneeohaoplpbaaW.PrintLast Go.Proofs.YteneeohaoplpbaaW.PrintMore
attribute [local go_sem] max2_int min2_int max_two min_two max_three min_three max_four min_four   -- for this text's walks alone
set_option linter.unusedVariables false
set_option linter.unusedSimpArgs false

/-! ### laws_markSlipS: function 102 -/
def laws_markSlipS.l0:Nat→List (S182)→Int→Int→Option (Int × (List (S182)))
 | 0,_,_,_=>none
 | k+1,x0,x1,x5=>if x5 < (x0.length:Int) then (if 0≤x5 then ((some (x0.set (x5:Int).toNat (⟨x1,(rd_T182 x0 x5).f1,(rd_T182 x0 x5).f2,(rd_T182 x0 x5).f3⟩:S182):List (S182))).bind fun y166=>((some (y166.set (x5:Int).toNat (⟨(rd_T182 y166 x5).f0,wrap64 (x1+1),(rd_T182 y166 x5).f2,(rd_T182 y166 x5).f3⟩:S182):List (S182))).bind fun y167=>((some (y167.set (x5:Int).toNat (⟨(rd_T182 y167 x5).f0,(rd_T182 y167 x5).f1,wrap64 ((wrap64 (x1+1))+1),(rd_T182 y167 x5).f3⟩:S182):List (S182))).bind fun y168=>(laws_markSlipS.l0 k (y168.set (x5:Int).toNat (⟨(rd_T182 y168 x5).f0,(rd_T182 y168 x5).f1,(rd_T182 y168 x5).f2,wrap64 ((wrap64 ((wrap64 (x1+1))+1))+1)⟩:S182)) (wrap64 ((wrap64 ((wrap64 ((wrap64 (x1+1))+1))+1))+1)) (wrap64 (x5+1)))))) else (none)) else (some (x1,x0))
def laws_markSlipS.f (k:Nat) (l0:List (S182)) (a1:Int):Option (Int × (List (S182))):=laws_markSlipS.l0 k l0 a1 0
theorem laws_markSlipS.mono_l : ∀ k,(∀ y0 y1 y2,LeO (laws_markSlipS.l0 k y0 y1 y2) (laws_markSlipS.l0 (k+1) y0 y1 y2))
 | 0=>fun _ _ _ r h=>by simp[laws_markSlipS.l0] at h
 | k+1=>by
  have ih0:=laws_markSlipS.mono_l k
  ·intro y0 y1 y2
   unfold laws_markSlipS.l0
   repeat' first
   | (with_reducible exact ih0 _ _ _)
   | (with_reducible exact LeO.refl _)
   | (with_reducible exact LeO.none _)
   | (with_reducible refine LeO.ite ?_ ?_)
   | (with_reducible refine LeO.bind ?_ (fun _ => ?_))
   | exact ih0 _ _ _
   | exact LeO.none _
   | refine LeO.ite ?_ ?_
   | refine LeO.bind ?_ (fun _ => ?_)
theorem laws_markSlipS.mono : ∀ a0 a1 k,LeO (laws_markSlipS.f k a0 a1) (laws_markSlipS.f (k+1) a0 a1):=by
 intro a0 a1 k
 have ih0:=laws_markSlipS.mono_l k
 unfold laws_markSlipS.f
 repeat' first
  | (with_reducible exact ih0 _ _ _)
  | (with_reducible exact LeO.refl _)
  | (with_reducible exact LeO.none _)
  | (with_reducible refine LeO.ite ?_ ?_)
  | (with_reducible refine LeO.bind ?_ (fun _ => ?_))
  | exact ih0 _ _ _
  | exact LeO.none _
  | refine LeO.ite ?_ ?_
  | refine LeO.bind ?_ (fun _ => ?_)
set_option maxHeartbeats 8000000 in
set_option maxRecDepth 100000 in
theorem laws_markSlipS.calls (k:Nat) (P0_:Nat→Prop) (u9000_:Value) (l0:List (S182)) (a1:Int) (r1:Int) (r2:List (S182)) (w0 w:World) (hB:Below w0.heap.size w0 w) (ho0:Kd.R k182 182 w w0.heap.size P0_ u9000_ l0) (h:laws_markSlipS.f k l0 a1=some (r1,r2)) :
  Calls Try.prog 102 #[u9000_,.int .i64 a1] w fun e w'=>e=.returned (.int .i64 r1)∧Kd.R k182 182 w' w0.heap.size (fun k_=>(P0_ k_∨w.heap.size≤k_)) u9000_ r2∧Below w0.heap.size w0 w'∧Kept w w' (fun k_=>P0_ k_):=by
 have HO0:=Aside0.mk (show Kd.R k182 182 w w0.heap.size (fun k_=>(P0_ k_∨w.heap.size≤k_)) u9000_ l0 from Kd.R_mono ho0 (fun k_ hk=>(.inl hk)))
 have HK:=Aside0.mk (Kept.refl w (fun k_=>P0_ k_))
 have HW0:=Aside0.mk hB.size
 have HB:=Aside0.mk hB
 clear hB
 have H:(laws_markSlipS.l0 k l0 a1 0)=some (r1,r2):=h
 clear h
 have H':=Aside0.mk H
 clear H
 go_enter Try.func102,Try.ntmps102
 go_wp2
 go_loopg [1,5] k (fun kq v1 v5 w' => ∃ (x0_1:List (S182)) (x1_1:Int) (x5_1:Int),v1=.int .i64 x1_1∧v5=.int .i64 x5_1∧Aside0 (laws_markSlipS.l0 kq x0_1 x1_1 x5_1=some (r1,r2))∧Aside0 (kq≤k)∧Aside0 (Kd.R k182 182 w' w0.heap.size (fun k_=>(P0_ k_∨w.heap.size≤k_)) u9000_ x0_1)∧Aside0 (Kept w w' (fun k_=>P0_ k_))∧Aside0 (Below w0.heap.size w0 w'))
 case atStart=>exact⟨(l0),(a1),(0),(bR),(bR),H',⟨Nat.le_refl _⟩,⟨by(with_reducible repeat (first|apply Kd.R_alloc|apply Kd.R_drewN|apply Kd.R_drew));exact HO0.out⟩,⟨by repeat (first|(with_reducible first|exact HK.out|apply Kept.alloc|apply Kept.drewN|apply Kept.drew)|exact HK.out)⟩,⟨by repeat (first|(with_reducible first|exact HB.out|apply below_alloc|apply pw_below_drewN|apply below_drew1)|exact HB.out)⟩⟩
 case round =>
  clear H'
  try clear c1
  try clear p2
  obtain⟨x0_1,x1_1,x5_1,rfl,rfl,HA,HK1,HO_0,HK,HB⟩:=hrel
  cases gk with
  | zero=>exact absurd HA.out (by simp[laws_markSlipS.l0])
  | succ k1 =>
   have H:=HA.out
   clear HA
   simp only[laws_markSlipS.l0] at H
   by_cases c3:x5_1 < (x0_1.length:Int)
   ·rw[if_pos c3] at H
    have c3b0:decide (x5_1 < (x0_1.length:Int))=true:=decide_eq_true c3
    clear c3
    by_cases c4:0≤x5_1
    ·rw[if_pos c4] at H
     have c4b0:decide (0≤x5_1)=true:=decide_eq_true c4
     clear c4
     obtain⟨y166,hy166⟩ : ∃ y_:List (S182),y_=(x0_1.set (x5_1:Int).toNat (⟨x1_1,(rd_T182 x0_1 x5_1).f1,(rd_T182 x0_1 x5_1).f2,(rd_T182 x0_1 x5_1).f3⟩:S182)):=⟨_,rfl⟩
     replace H:((some (y166.set (x5_1:Int).toNat (⟨(rd_T182 y166 x5_1).f0,wrap64 (x1_1+1),(rd_T182 y166 x5_1).f2,(rd_T182 y166 x5_1).f3⟩:S182):List (S182))).bind fun y167=>((some (y167.set (x5_1:Int).toNat (⟨(rd_T182 y167 x5_1).f0,(rd_T182 y167 x5_1).f1,wrap64 ((wrap64 (x1_1+1))+1),(rd_T182 y167 x5_1).f3⟩:S182):List (S182))).bind fun y168=>(laws_markSlipS.l0 k1 (y168.set (x5_1:Int).toNat (⟨(rd_T182 y168 x5_1).f0,(rd_T182 y168 x5_1).f1,(rd_T182 y168 x5_1).f2,wrap64 ((wrap64 ((wrap64 (x1_1+1))+1))+1)⟩:S182)) (wrap64 ((wrap64 ((wrap64 ((wrap64 (x1_1+1))+1))+1))+1)) (wrap64 (x5_1+1)))))=some (r1,r2):=by first|(rw[hy166];with_reducible exact H)|(have H2_:=(Option.bind_some _ _).symm.trans H;rw[hy166];with_reducible exact H2_)|(have H2_:=(Option.bind_some _ _).symm.trans H;with_reducible exact H2_)|with_reducible exact H|(rw[hy166];exact H)|exact H
     have Ny166:=Aside0.mk hy166
     clear hy166
     obtain⟨y167,hy167⟩ : ∃ y_:List (S182),y_=(y166.set (x5_1:Int).toNat (⟨(rd_T182 y166 x5_1).f0,wrap64 (x1_1+1),(rd_T182 y166 x5_1).f2,(rd_T182 y166 x5_1).f3⟩:S182)):=⟨_,rfl⟩
     replace H:((some (y167.set (x5_1:Int).toNat (⟨(rd_T182 y167 x5_1).f0,(rd_T182 y167 x5_1).f1,wrap64 ((wrap64 (x1_1+1))+1),(rd_T182 y167 x5_1).f3⟩:S182):List (S182))).bind fun y168=>(laws_markSlipS.l0 k1 (y168.set (x5_1:Int).toNat (⟨(rd_T182 y168 x5_1).f0,(rd_T182 y168 x5_1).f1,(rd_T182 y168 x5_1).f2,wrap64 ((wrap64 ((wrap64 (x1_1+1))+1))+1)⟩:S182)) (wrap64 ((wrap64 ((wrap64 ((wrap64 (x1_1+1))+1))+1))+1)) (wrap64 (x5_1+1))))=some (r1,r2):=by first|(rw[hy167];with_reducible exact H)|(have H2_:=(Option.bind_some _ _).symm.trans H;rw[hy167];with_reducible exact H2_)|(have H2_:=(Option.bind_some _ _).symm.trans H;with_reducible exact H2_)|with_reducible exact H|(rw[hy167];exact H)|exact H
     have Ny167:=Aside0.mk hy167
     clear hy167
     obtain⟨y168,hy168⟩ : ∃ y_:List (S182),y_=(y167.set (x5_1:Int).toNat (⟨(rd_T182 y167 x5_1).f0,(rd_T182 y167 x5_1).f1,wrap64 ((wrap64 (x1_1+1))+1),(rd_T182 y167 x5_1).f3⟩:S182)):=⟨_,rfl⟩
     replace H:(laws_markSlipS.l0 k1 (y168.set (x5_1:Int).toNat (⟨(rd_T182 y168 x5_1).f0,(rd_T182 y168 x5_1).f1,(rd_T182 y168 x5_1).f2,wrap64 ((wrap64 ((wrap64 (x1_1+1))+1))+1)⟩:S182)) (wrap64 ((wrap64 ((wrap64 ((wrap64 (x1_1+1))+1))+1))+1)) (wrap64 (x5_1+1)))=some (r1,r2):=by first|(rw[hy168];with_reducible exact H)|(have H2_:=(Option.bind_some _ _).symm.trans H;rw[hy168];with_reducible exact H2_)|(have H2_:=(Option.bind_some _ _).symm.trans H;with_reducible exact H2_)|with_reducible exact H|(rw[hy168];exact H)|exact H
     have Ny168:=Aside0.mk hy168
     clear hy168
     obtain⟨y169,hy169⟩ : ∃ y_:List (S182),y_=(y168.set (x5_1:Int).toNat (⟨(rd_T182 y168 x5_1).f0,(rd_T182 y168 x5_1).f1,(rd_T182 y168 x5_1).f2,wrap64 ((wrap64 ((wrap64 (x1_1+1))+1))+1)⟩:S182)):=⟨_,rfl⟩
     replace H:(laws_markSlipS.l0 k1 y169 (wrap64 ((wrap64 ((wrap64 ((wrap64 (x1_1+1))+1))+1))+1)) (wrap64 (x5_1+1)))=some (r1,r2):=by first|(rw[hy169];with_reducible exact H)|(have H2_:=(Option.bind_some _ _).symm.trans H;rw[hy169];with_reducible exact H2_)|(have H2_:=(Option.bind_some _ _).symm.trans H;with_reducible exact H2_)|with_reducible exact H|(rw[hy169];exact H)|exact H
     have Ny169:=Aside0.mk hy169
     clear hy169
     have H':=Aside0.mk H
     clear H
     obtain⟨Ao9,co9,eo9⟩:=Kd.R_slice HO_0.out
     subst eo9
     have p5:0≤(x5_1:Int):=of_decide_eq_true (bD)
     have q5:(x5_1:Int) < ((x0_1.length:Int):Int):=of_decide_eq_true (bD)
     obtain⟨go5,co5,eo5,gb5,gl5,cl5,HG5⟩:=Kd.R_form HO_0.out (by omega)
     (first|cases eo5|(injection eo5 with ea_ en_ ec_;(first|subst ea_|(injection ea_ with ea_;subst ea_));subst ec_;clear en_))
     have GB5:=Aside0.mk gb5
     have GG5:=Aside0.mk HG5
     clear gb5 gl5 HG5
     have HMgo5:=Aside0.mk (show(P0_ go5∨w.heap.size≤go5) from (HO_0.out.1 _ rfl))
     obtain⟨ce5,hcl5,hM5,hcc5,hfr5⟩:=Kd.R_elem HO_0.out z182 (x5_1:Int) p5 q5
     obtain rfl:=k182_openM hM5
     have hx5_0:wr.cell? ⟨go5,(x5_1:Int).toNat * 4,none⟩=some (.int .i64 ((rd_T182 x0_1 x5_1).f0)):=hcc5 0 _ rfl
     have hx5_1:wr.cell? ⟨go5,(x5_1:Int).toNat * 4+1,none⟩=some (.int .i64 ((rd_T182 x0_1 x5_1).f1)):=hcc5 1 _ rfl
     have hx5_2:wr.cell? ⟨go5,(x5_1:Int).toNat * 4+2,none⟩=some (.int .i64 ((rd_T182 x0_1 x5_1).f2)):=hcc5 2 _ rfl
     have hx5_3:wr.cell? ⟨go5,(x5_1:Int).toNat * 4+3,none⟩=some (.int .i64 ((rd_T182 x0_1 x5_1).f3)):=hcc5 3 _ rfl
     have hf5_0:wr.frozen? ⟨go5,(x5_1:Int).toNat * 4,none⟩=false:=hfr5 0
     have hf5_1:wr.frozen? ⟨go5,(x5_1:Int).toNat * 4+1,none⟩=false:=hfr5 1
     have hf5_2:wr.frozen? ⟨go5,(x5_1:Int).toNat * 4+2,none⟩=false:=hfr5 2
     have hf5_3:wr.frozen? ⟨go5,(x5_1:Int).toNat * 4+3,none⟩=false:=hfr5 3
     clear hcl5 hcc5 hfr5 hM5
     replace p5:=eq_true p5
     replace q5:=eq_true q5
     have HX10:=Aside0.mk (show Kd.R k182 182 wr w0.heap.size (fun k_=>(P0_ k_∨w.heap.size≤k_)) (.slice (some ⟨go5,0,none⟩) x0_1.length co9) x0_1 from (bK HO_0.out))
     obtain⟨ce10,hcl10,hM10,hcc10,hfr10⟩:=Kd.R_elem HX10.out z182 (x5_1:Int) (of_decide_eq_true (bD)) (by have h_:(x5_1:Int) < ((x0_1.length:Int):Int):=of_decide_eq_true (bD);first|exact h_|(have e_:=(Kd.R_reads' HO_0.out).1;omega)|simpa using h_)
     obtain rfl:=k182_openM hM10
     have HP10:=Kd.R_seg HX10.out (x5_1:Int) (of_decide_eq_true (bD)) (by have h_:(x5_1:Int) < ((x0_1.length:Int):Int):=of_decide_eq_true (bD);first|exact h_|(have e_:=(Kd.R_reads' HO_0.out).1;omega)|simpa using h_) (seg:=[.int .i64 x1_1]) (j:=0) hcl10 hcc10 (show 1≤4 from by decide) (x':=(⟨x1_1,(rd_T182 x0_1 x5_1).f1,(rd_T182 x0_1 x5_1).f2,(rd_T182 x0_1 x5_1).f3⟩:S182)) (k182_mkM _ _ _ (⟨x1_1,(rd_T182 x0_1 x5_1).f1,(rd_T182 x0_1 x5_1).f2,(rd_T182 x0_1 x5_1).f3⟩:S182) ) (fun _ hk=>hk)
     have hx10_0:=hcc10 0 _ rfl
     (try simp only[show(k182).sz=4 from rfl,Nat.mul_one,Nat.add_zero] at hx10_0)
     have hf10_0:=hfr10 0
     (try simp only[show(k182).sz=4 from rfl,Nat.mul_one,Nat.add_zero] at hf10_0)
     clear hcl10 hcc10 hfr10 hM10
     go_wp2_with (first|((with_reducible refine gate_store (t:=3) (p:=16) rfl ?_);refine store_event (t:=3) (p:=16) (v:=?vo_w11) (w1:=(wr.setCell ⟨go5,(x5_1:Int).toNat * 4,none⟩ (.int .i64 x1_1))) ?hg ?ho ?hn ?hr ?_;(case ho=>rfl);(case hg=>rfl);(case hn=>rfl);(case hr=>first|(go_simp;done)|(go_simp;rfl));intro w11 hw;have hg:wr.grownBy w11 (some go5):=(by rw[hw];exact HP10.2);have hp_:Kd.R k182 182 w11 w0.heap.size (fun k_=>(P0_ k_∨w.heap.size≤k_)) (.slice (some ⟨go5,0,none⟩) x0_1.length co9) y166:=(by rw[hw,Ny166.out];exact HP10.1);clear HP10;have n0_:=Aside0.mk (hp_);have n1_:=Aside0.mk ((by rw[hw];exact below_set (HB.out) GB5.out:Below w0.heap.size w0 w11));have n2_:=Aside0.mk (Kept.of_grown (S:=(fun k_=>P0_ k_)) hg (b2_) (fun k_ e_=>(HO_0.out.1 k_ e_)));clear HO_0 HB HK;have HO_0:=n0_;have HB:=n1_;have HK:=n2_;clear n0_ n1_ n2_;clear hg hw hp_;have p6:0≤(x5_1:Int):=of_decide_eq_true (bD);have q6:(x5_1:Int) < ((x0_1.length:Int):Int):=of_decide_eq_true (bD);obtain⟨ce6,hcl6,hM6,hcc6,hfr6⟩:=Kd.R_elem HO_0.out z182 (x5_1:Int) p6 q6;obtain rfl:=k182_openM hM6;have hx6_0:w11.cell? ⟨go5,(x5_1:Int).toNat * 4,none⟩=some (.int .i64 ((rd_T182 y166 x5_1).f0)):=hcc6 0 _ rfl;have hx6_1:w11.cell? ⟨go5,(x5_1:Int).toNat * 4+1,none⟩=some (.int .i64 ((rd_T182 y166 x5_1).f1)):=hcc6 1 _ rfl;have hx6_2:w11.cell? ⟨go5,(x5_1:Int).toNat * 4+2,none⟩=some (.int .i64 ((rd_T182 y166 x5_1).f2)):=hcc6 2 _ rfl;have hx6_3:w11.cell? ⟨go5,(x5_1:Int).toNat * 4+3,none⟩=some (.int .i64 ((rd_T182 y166 x5_1).f3)):=hcc6 3 _ rfl;have hf6_0:w11.frozen? ⟨go5,(x5_1:Int).toNat * 4,none⟩=false:=hfr6 0;have hf6_1:w11.frozen? ⟨go5,(x5_1:Int).toNat * 4+1,none⟩=false:=hfr6 1;have hf6_2:w11.frozen? ⟨go5,(x5_1:Int).toNat * 4+2,none⟩=false:=hfr6 2;have hf6_3:w11.frozen? ⟨go5,(x5_1:Int).toNat * 4+3,none⟩=false:=hfr6 3;clear hcl6 hcc6 hfr6 hM6;replace p6:=eq_true p6;replace q6:=eq_true q6;have HX12:=Aside0.mk (show Kd.R k182 182 w11 w0.heap.size (fun k_=>(P0_ k_∨w.heap.size≤k_)) (.slice (some ⟨go5,0,none⟩) x0_1.length co9) y166 from (bK HO_0.out));obtain⟨ce12,hcl12,hM12,hcc12,hfr12⟩:=Kd.R_elem HX12.out z182 (x5_1:Int) (of_decide_eq_true (bD)) (by have h_:(x5_1:Int) < ((x0_1.length:Int):Int):=of_decide_eq_true (bD);first|exact h_|(have e_:=(Kd.R_reads' HO_0.out).1;omega)|simpa using h_);obtain rfl:=k182_openM hM12;have HP12:=Kd.R_seg HX12.out (x5_1:Int) (of_decide_eq_true (bD)) (by have h_:(x5_1:Int) < ((x0_1.length:Int):Int):=of_decide_eq_true (bD);first|exact h_|(have e_:=(Kd.R_reads' HO_0.out).1;omega)|simpa using h_) (seg:=[.int .i64 (wrap64 (x1_1+1))]) (j:=1) hcl12 hcc12 (show 2≤4 from by decide) (x':=(⟨(rd_T182 y166 x5_1).f0,wrap64 (x1_1+1),(rd_T182 y166 x5_1).f2,(rd_T182 y166 x5_1).f3⟩:S182)) (k182_mkM _ _ _ (⟨(rd_T182 y166 x5_1).f0,wrap64 (x1_1+1),(rd_T182 y166 x5_1).f2,(rd_T182 y166 x5_1).f3⟩:S182) ) (fun _ hk=>hk);have hx12_1:=hcc12 1 _ rfl;(try simp only[show(k182).sz=4 from rfl,Nat.mul_one,Nat.add_zero] at hx12_1);have hf12_1:=hfr12 1;(try simp only[show(k182).sz=4 from rfl,Nat.mul_one,Nat.add_zero] at hf12_1);clear hcl12 hcc12 hfr12 hM12)|((with_reducible refine gate_store (t:=3) (p:=23) rfl ?_);refine store_event (t:=3) (p:=23) (v:=?vo_w13) (w1:=(w11.setCell ⟨go5,(x5_1:Int).toNat * 4+1,none⟩ (.int .i64 (wrap64 (x1_1+1))))) ?hg ?ho ?hn ?hr ?_;(case ho=>rfl);(case hg=>rfl);(case hn=>rfl);(case hr=>first|(go_simp;done)|(go_simp;rfl));intro w13 hw;have hg:w11.grownBy w13 (some go5):=(by rw[hw];exact HP12.2);have hp_:Kd.R k182 182 w13 w0.heap.size (fun k_=>(P0_ k_∨w.heap.size≤k_)) (.slice (some ⟨go5,0,none⟩) x0_1.length co9) y167:=(by rw[hw,Ny167.out];exact HP12.1);clear HP12;have n0_:=Aside0.mk (hp_);have n1_:=Aside0.mk ((by rw[hw];exact below_set (HB.out) GB5.out:Below w0.heap.size w0 w13));have n2_:=Aside0.mk (Kept.of_grown (S:=(fun k_=>P0_ k_)) hg (b2_) (fun k_ e_=>(HO_0.out.1 k_ e_)));clear HO_0 HB HK;have HO_0:=n0_;have HB:=n1_;have HK:=n2_;clear n0_ n1_ n2_;clear hg hw hp_;have p7:0≤(x5_1:Int):=of_decide_eq_true (bD);have q7:(x5_1:Int) < ((x0_1.length:Int):Int):=of_decide_eq_true (bD);obtain⟨ce7,hcl7,hM7,hcc7,hfr7⟩:=Kd.R_elem HO_0.out z182 (x5_1:Int) p7 q7;obtain rfl:=k182_openM hM7;have hx7_0:w13.cell? ⟨go5,(x5_1:Int).toNat * 4,none⟩=some (.int .i64 ((rd_T182 y167 x5_1).f0)):=hcc7 0 _ rfl;have hx7_1:w13.cell? ⟨go5,(x5_1:Int).toNat * 4+1,none⟩=some (.int .i64 ((rd_T182 y167 x5_1).f1)):=hcc7 1 _ rfl;have hx7_2:w13.cell? ⟨go5,(x5_1:Int).toNat * 4+2,none⟩=some (.int .i64 ((rd_T182 y167 x5_1).f2)):=hcc7 2 _ rfl;have hx7_3:w13.cell? ⟨go5,(x5_1:Int).toNat * 4+3,none⟩=some (.int .i64 ((rd_T182 y167 x5_1).f3)):=hcc7 3 _ rfl;have hf7_0:w13.frozen? ⟨go5,(x5_1:Int).toNat * 4,none⟩=false:=hfr7 0;have hf7_1:w13.frozen? ⟨go5,(x5_1:Int).toNat * 4+1,none⟩=false:=hfr7 1;have hf7_2:w13.frozen? ⟨go5,(x5_1:Int).toNat * 4+2,none⟩=false:=hfr7 2;have hf7_3:w13.frozen? ⟨go5,(x5_1:Int).toNat * 4+3,none⟩=false:=hfr7 3;clear hcl7 hcc7 hfr7 hM7;replace p7:=eq_true p7;replace q7:=eq_true q7;have HX14:=Aside0.mk (show Kd.R k182 182 w13 w0.heap.size (fun k_=>(P0_ k_∨w.heap.size≤k_)) (.slice (some ⟨go5,0,none⟩) x0_1.length co9) y167 from (bK HO_0.out));obtain⟨ce14,hcl14,hM14,hcc14,hfr14⟩:=Kd.R_elem HX14.out z182 (x5_1:Int) (of_decide_eq_true (bD)) (by have h_:(x5_1:Int) < ((x0_1.length:Int):Int):=of_decide_eq_true (bD);first|exact h_|(have e_:=(Kd.R_reads' HO_0.out).1;omega)|simpa using h_);obtain rfl:=k182_openM hM14;have HP14:=Kd.R_seg HX14.out (x5_1:Int) (of_decide_eq_true (bD)) (by have h_:(x5_1:Int) < ((x0_1.length:Int):Int):=of_decide_eq_true (bD);first|exact h_|(have e_:=(Kd.R_reads' HO_0.out).1;omega)|simpa using h_) (seg:=[.int .i64 (wrap64 ((wrap64 (x1_1+1))+1))]) (j:=2) hcl14 hcc14 (show 3≤4 from by decide) (x':=(⟨(rd_T182 y167 x5_1).f0,(rd_T182 y167 x5_1).f1,wrap64 ((wrap64 (x1_1+1))+1),(rd_T182 y167 x5_1).f3⟩:S182)) (k182_mkM _ _ _ (⟨(rd_T182 y167 x5_1).f0,(rd_T182 y167 x5_1).f1,wrap64 ((wrap64 (x1_1+1))+1),(rd_T182 y167 x5_1).f3⟩:S182) ) (fun _ hk=>hk);have hx14_2:=hcc14 2 _ rfl;(try simp only[show(k182).sz=4 from rfl,Nat.mul_one,Nat.add_zero] at hx14_2);have hf14_2:=hfr14 2;(try simp only[show(k182).sz=4 from rfl,Nat.mul_one,Nat.add_zero] at hf14_2);clear hcl14 hcc14 hfr14 hM14)|((with_reducible refine gate_store (t:=3) (p:=30) rfl ?_);refine store_event (t:=3) (p:=30) (v:=?vo_w15) (w1:=(w13.setCell ⟨go5,(x5_1:Int).toNat * 4+2,none⟩ (.int .i64 (wrap64 ((wrap64 (x1_1+1))+1))))) ?hg ?ho ?hn ?hr ?_;(case ho=>rfl);(case hg=>rfl);(case hn=>rfl);(case hr=>first|(go_simp;done)|(go_simp;rfl));intro w15 hw;have hg:w13.grownBy w15 (some go5):=(by rw[hw];exact HP14.2);have hp_:Kd.R k182 182 w15 w0.heap.size (fun k_=>(P0_ k_∨w.heap.size≤k_)) (.slice (some ⟨go5,0,none⟩) x0_1.length co9) y168:=(by rw[hw,Ny168.out];exact HP14.1);clear HP14;have n0_:=Aside0.mk (hp_);have n1_:=Aside0.mk ((by rw[hw];exact below_set (HB.out) GB5.out:Below w0.heap.size w0 w15));have n2_:=Aside0.mk (Kept.of_grown (S:=(fun k_=>P0_ k_)) hg (b2_) (fun k_ e_=>(HO_0.out.1 k_ e_)));clear HO_0 HB HK;have HO_0:=n0_;have HB:=n1_;have HK:=n2_;clear n0_ n1_ n2_;clear hg hw hp_;have p8:0≤(x5_1:Int):=of_decide_eq_true (bD);have q8:(x5_1:Int) < ((x0_1.length:Int):Int):=of_decide_eq_true (bD);obtain⟨ce8,hcl8,hM8,hcc8,hfr8⟩:=Kd.R_elem HO_0.out z182 (x5_1:Int) p8 q8;obtain rfl:=k182_openM hM8;have hx8_0:w15.cell? ⟨go5,(x5_1:Int).toNat * 4,none⟩=some (.int .i64 ((rd_T182 y168 x5_1).f0)):=hcc8 0 _ rfl;have hx8_1:w15.cell? ⟨go5,(x5_1:Int).toNat * 4+1,none⟩=some (.int .i64 ((rd_T182 y168 x5_1).f1)):=hcc8 1 _ rfl;have hx8_2:w15.cell? ⟨go5,(x5_1:Int).toNat * 4+2,none⟩=some (.int .i64 ((rd_T182 y168 x5_1).f2)):=hcc8 2 _ rfl;have hx8_3:w15.cell? ⟨go5,(x5_1:Int).toNat * 4+3,none⟩=some (.int .i64 ((rd_T182 y168 x5_1).f3)):=hcc8 3 _ rfl;have hf8_0:w15.frozen? ⟨go5,(x5_1:Int).toNat * 4,none⟩=false:=hfr8 0;have hf8_1:w15.frozen? ⟨go5,(x5_1:Int).toNat * 4+1,none⟩=false:=hfr8 1;have hf8_2:w15.frozen? ⟨go5,(x5_1:Int).toNat * 4+2,none⟩=false:=hfr8 2;have hf8_3:w15.frozen? ⟨go5,(x5_1:Int).toNat * 4+3,none⟩=false:=hfr8 3;clear hcl8 hcc8 hfr8 hM8;replace p8:=eq_true p8;replace q8:=eq_true q8;have HX16:=Aside0.mk (show Kd.R k182 182 w15 w0.heap.size (fun k_=>(P0_ k_∨w.heap.size≤k_)) (.slice (some ⟨go5,0,none⟩) x0_1.length co9) y168 from (bK HO_0.out));obtain⟨ce16,hcl16,hM16,hcc16,hfr16⟩:=Kd.R_elem HX16.out z182 (x5_1:Int) (of_decide_eq_true (bD)) (by have h_:(x5_1:Int) < ((x0_1.length:Int):Int):=of_decide_eq_true (bD);first|exact h_|(have e_:=(Kd.R_reads' HO_0.out).1;omega)|simpa using h_);obtain rfl:=k182_openM hM16;have HP16:=Kd.R_seg HX16.out (x5_1:Int) (of_decide_eq_true (bD)) (by have h_:(x5_1:Int) < ((x0_1.length:Int):Int):=of_decide_eq_true (bD);first|exact h_|(have e_:=(Kd.R_reads' HO_0.out).1;omega)|simpa using h_) (seg:=[.int .i64 (wrap64 ((wrap64 ((wrap64 (x1_1+1))+1))+1))]) (j:=3) hcl16 hcc16 (show 4≤4 from by decide) (x':=(⟨(rd_T182 y168 x5_1).f0,(rd_T182 y168 x5_1).f1,(rd_T182 y168 x5_1).f2,wrap64 ((wrap64 ((wrap64 (x1_1+1))+1))+1)⟩:S182)) (k182_mkM _ _ _ (⟨(rd_T182 y168 x5_1).f0,(rd_T182 y168 x5_1).f1,(rd_T182 y168 x5_1).f2,wrap64 ((wrap64 ((wrap64 (x1_1+1))+1))+1)⟩:S182) ) (fun _ hk=>hk);have hx16_3:=hcc16 3 _ rfl;(try simp only[show(k182).sz=4 from rfl,Nat.mul_one,Nat.add_zero] at hx16_3);have hf16_3:=hfr16 3;(try simp only[show(k182).sz=4 from rfl,Nat.mul_one,Nat.add_zero] at hf16_3);clear hcl16 hcc16 hfr16 hM16)|((with_reducible refine gate_store (t:=3) (p:=37) rfl ?_);refine store_event (t:=3) (p:=37) (v:=?vo_w17) (w1:=(w15.setCell ⟨go5,(x5_1:Int).toNat * 4+3,none⟩ (.int .i64 (wrap64 ((wrap64 ((wrap64 (x1_1+1))+1))+1))))) ?hg ?ho ?hn ?hr ?_;(case ho=>rfl);(case hg=>rfl);(case hn=>rfl);(case hr=>first|(go_simp;done)|(go_simp;rfl));intro w17 hw;have hg:w15.grownBy w17 (some go5):=(by rw[hw];exact HP16.2);have hp_:Kd.R k182 182 w17 w0.heap.size (fun k_=>(P0_ k_∨w.heap.size≤k_)) (.slice (some ⟨go5,0,none⟩) x0_1.length co9) y169:=(by rw[hw,Ny169.out];exact HP16.1);clear HP16;have n0_:=Aside0.mk (hp_);have n1_:=Aside0.mk ((by rw[hw];exact below_set (HB.out) GB5.out:Below w0.heap.size w0 w17));have n2_:=Aside0.mk (Kept.of_grown (S:=(fun k_=>P0_ k_)) hg (b2_) (fun k_ e_=>(HO_0.out.1 k_ e_)));clear HO_0 HB HK;have HO_0:=n0_;have HB:=n1_;have HK:=n2_;clear n0_ n1_ n2_;clear hg hw hp_))
     go_roundg k1
     case measure=>have:=HK1.out;omega
     case rel=>exact⟨(y169),(wrap64 ((wrap64 ((wrap64 ((wrap64 (x1_1+1))+1))+1))+1)),(wrap64 (x5_1+1)),(bR),(bR),H',⟨by have:=HK1.out;omega⟩,⟨by(with_reducible repeat (first|apply Kd.R_alloc|apply Kd.R_drewN|apply Kd.R_drew));exact HO_0.out⟩,⟨by repeat (first|(with_reducible first|exact HK.out|apply Kept.alloc|apply Kept.drewN|apply Kept.drew)|exact HK.out)⟩,⟨by repeat (first|(with_reducible first|exact HB.out|apply below_alloc|apply pw_below_drewN|apply below_drew1)|exact HB.out)⟩⟩
    ·rw[if_neg c4] at H
     exact absurd H (by simp)
   ·rw[if_neg c3] at H
    have c3b0:decide (x5_1 < (x0_1.length:Int))=false:=decide_eq_false c3
    clear c3
    simp only[Option.some.injEq,Prod.mk.injEq] at H
    obtain⟨rfl,rfl⟩:=H
    obtain⟨Ao18,co18,eo18⟩:=Kd.R_slice HO_0.out
    subst eo18
    go_wp2
    go_ret
    exact⟨bE,by(with_reducible repeat (first|apply Kd.R_alloc|apply Kd.R_drewN|apply Kd.R_drew));exact HO_0.out,b8_,by repeat (first|(with_reducible first|exact HK.out|apply Kept.alloc|apply Kept.drewN|apply Kept.drew)|exact HK.out)⟩

/-! ### laws_markCustody: function 35, by hand -/
def laws_markCustody.f (k:Nat) (l0:List Int) (l1:List (S179)) (a1:Int):Option (Int × List Int):=(laws_markIntS.f k l0 a1).bind fun bt=>(laws_markKeeperS.f k l1 bt.1).bind fun t=>some (t,bt.2)
theorem laws_markCustody.mono : ∀ a0 a1 a2 k,LeO (laws_markCustody.f k a0 a1 a2) (laws_markCustody.f (k+1) a0 a1 a2):=fun a0 a1 a2 k=>LeO.bind (laws_markIntS.mono _ _ _) (fun _=>LeO.bind (laws_markKeeperS.mono _ _ _) (fun _=>LeO.refl _))
set_option maxHeartbeats 8000000 in
theorem markSlipS_nil (A0:Option Addr) (c0:Nat) (a1:Int) (w:World):Calls Try.prog 102 #[.slice A0 0 c0,.int .i64 a1] w fun e w'=>e=.returned (.int .i64 a1)∧Drawn0 w w':=by
 go_enter Try.func102,Try.ntmps102
 go_wp2
 go_loopg [1,5] 1 (fun kq v1 v5 w'=>v1=.int .i64 a1∧v5=.int .i64 0∧Drawn0 w w')
 case atStart=>exact⟨(bR),(bR),bW⟩
 case round =>
  obtain⟨rfl,rfl,⟨m1,rfl⟩⟩:=hrel
  go_wp2
  go_ret
  exact⟨bR,bW⟩
set_option maxHeartbeats 8000000 in
set_option maxRecDepth 100000 in
/-- Marking a custody whose keepers hold nothing, without slips, nothing sent: its tree alone is written. -/
theorem laws_markCustody.calls (k:Nat) (ok:Nat→Prop) (A0:Option Addr) (c0:Nat) (l0:List Int) (A1:Option Addr) (c1:Nat) (l1:List (S179)) (A2:Option Addr) (c2:Nat) (A3:Option Addr) (c3:Nat) (a1:Int) (r1:Int) (r2:List Int) (w0 w:World) (hB:Below w0.heap.size w0 w) (hok : ∀ k_,ok k_→k_ < w.heap.size) (ho0:Kd.R (Kd.int .i64) 3 w w0.heap.size ok (.slice A0 l0.length c0) l0) (hr1 : ∀ W_,Kept w W_ ok→Kd.C k179 W_ A1 l1.length l1) (hc1:l1.length≤c1) (h:laws_markCustody.f k l0 l1 a1=some (r1,r2)) :
  Calls Try.prog 35 #[.agg #[.slice A0 l0.length c0,.slice A1 l1.length c1,.slice A2 0 c2,.slice A3 0 c3],.int .i64 a1] w fun e w'=>e=.returned (.int .i64 r1)∧Kd.R (Kd.int .i64) 3 w' w0.heap.size ok (.slice A0 l0.length c0) r2∧Below w0.heap.size w0 w'∧Kept w w' ok:=by
 unfold laws_markCustody.f at h
 replace h:=Option.bind_eq_some_iff.mp h
 obtain⟨⟨t1,t2⟩,e1,h⟩:=h
 replace h:=Option.bind_eq_some_iff.mp h
 obtain⟨t3,e2,h⟩:=h
 simp only[Option.some.injEq,Prod.mk.injEq] at h
 obtain⟨rfl,rfl⟩:=h
 have E1:=Aside0.mk e1
 have E2:Aside0 (laws_markKeeperS.f k l1 t1=some t3):=Aside0.mk e2
 have HO:=Aside0.mk ho0
 have HB:=Aside0.mk hB
 have HL:=Aside0.mk (below_size hB)
 have HOK:=Aside0.mk hok
 have HR:=Aside0.mk hr1
 have HC1:=Aside0.mk hc1
 clear e1 e2 ho0 hB hok hr1 hc1
 go_enter Try.func35,Try.ntmps35
 go_wp2_with (first|((with_reducible refine gate_dst (N:=2) rfl ?_);refine box_event ?hg (N:=2) ?hd (cs:=#[.slice A0 l0.length c0,.slice A1 l1.length c1,.slice A2 0 c2,.slice A3 0 c3]) (t:=50) ?hr ?_;(case hd=>rfl);(case hg=>rfl);(case hr=>first|(go_simp;done)|(go_simp;rfl));intro gb2 hg w6 hbox hb;have n0_:=Aside0.mk (Kd.R_below HO.out hb);have n1_:=Aside0.mk (below_weaken HB.out HL.out hb);have HK:=Aside0.mk (Kept.of_below hb ok);have n2_:Aside0 (∀ W_,Kept w6 W_ ok→Kd.C k179 W_ A1 l1.length l1):=Aside0.mk (fun W_ h_=>HR.out W_ (Kept.then_ (Kept.of_below hb ok) h_ (fun _ z_=>.inl z_)));have BK2:=Aside0.mk hbox;have NE2:Aside0 (¬ ok gb2):=Aside0.mk (fun z_=>by have h1_:=HOK.out gb2 z_;rw[hg] at h1_;exact Nat.lt_irrefl _ h1_);clear HO HB HR hb hbox hg;have HO:=n0_;have HB:=n1_;have HR:=n2_;clear n0_ n1_ n2_;obtain⟨hcz0,hcz1,hcz2,hcz3⟩:=cC4 BK2.out)|((with_reducible refine gate_callee (f:=29) rfl ?_);refine goesA (some 8) rfl rfl Try.func29 #[.slice A0 l0.length c0,.int .i64 a1] rfl ?_;(with_reducible refine(laws_markIntS.calls k ok (.slice A0 l0.length c0) l0 a1 t1 t2 w0 _ ?side1 ?side2 E1.out).mono ?_);(case side1=>exact HB.out);(case side2=>exact HO.out);rintro e w7 ⟨rfl,ho,hb,hkp⟩;refine⟨_,rfl,?_⟩;have n0_:=Aside0.mk (Kd.R_reok rfl ho (fun k_ e_=>HO.out.1 k_ e_));have n1_:=Aside0.mk hb;have n2_:Aside0 (Kept w w7 ok):=Aside0.mk (Kept.then_ HK.out hkp (fun _ h_=>.inl h_));have n3_:Aside0 (Kd.C k179 w7 A1 l1.length l1):=Aside0.mk (HR.out w7 hkp);have n4_:=Aside0.mk (blk_kept BK2.out hkp NE2.out);clear HO HB HK HR BK2 ho hb hkp;have HO:=n0_;have HB:=n1_;have HK:=n2_;have HR:=n3_;have BK2:=n4_;clear n0_ n1_ n2_ n3_ n4_;(try clear hcz0 hcz1 hcz2 hcz3);obtain⟨hcz0,hcz1,hcz2,hcz3⟩:=cC4 BK2.out)|((with_reducible refine gate_callee (f:=101) rfl ?_);refine goesA (some 12) rfl rfl Try.func101 #[.slice A1 l1.length c1,.int .i64 t1] rfl ?_;(with_reducible refine(laws_markKeeperS.calls k A1 c1 l1 t1 t3 _ ?side1 ?side2 E2.out).mono ?_);(case side1=>repeat (first|exact HR.out|(with_reducible refine Kd.C_alloc ?_ _)|(with_reducible refine Kd.C_drewN ?_ _)|(with_reducible refine Kd.C_drew ?_)));(case side2=>exact HC1.out);rintro e w' ⟨rfl,⟨nd,rfl⟩⟩;refine⟨_,rfl,?_⟩)|((with_reducible refine gate_callee (f:=102) rfl ?_);refine goesA (some 16) rfl rfl Try.func102 #[.slice A2 0 c2,.int .i64 t3] rfl ?_;(with_reducible refine(markSlipS_nil A2 c2 t3 _).mono ?_);rintro e w' ⟨rfl,⟨nd,rfl⟩⟩;refine⟨_,rfl,?_⟩)|((with_reducible refine gate_callee (f:=29) rfl ?_);refine goesA (some 20) rfl rfl Try.func29 #[.slice A3 0 c3,.int .i64 t3] rfl ?_;(with_reducible refine(markIntS_nil A3 c3 t3 _).mono ?_);rintro e w' ⟨rfl,⟨nd,rfl⟩⟩;refine⟨_,rfl,?_⟩))
 go_ret
 exact⟨bR,by(with_reducible repeat (first|apply Kd.R_alloc|apply Kd.R_drewN|apply Kd.R_drew));exact HO.out,b8_,by repeat (first|(with_reducible first|exact HK.out|apply Kept.alloc|apply Kept.drewN|apply Kept.drew)|exact HK.out)⟩


/-! ### laws_heldIntS: function 30 -/
def laws_heldIntS.l0:Nat→List Int→Int→Int→Option (Int)
 | 0,_,_,_=>none
 | k+1,x0,x1,x5=>if x5 < (x0.length:Int) then (if 0≤x5 then (if (rd x0 x5)=x1 then (laws_heldIntS.l0 k x0 (wrap64 (x1+1)) (wrap64 (x5+1))) else (some (-1))) else (none)) else (some x1)
def laws_heldIntS.f (k:Nat) (l0:List Int) (a1:Int):Option (Int):=laws_heldIntS.l0 k l0 a1 0
theorem laws_heldIntS.mono_l : ∀ k,(∀ y0 y1 y2,LeO (laws_heldIntS.l0 k y0 y1 y2) (laws_heldIntS.l0 (k+1) y0 y1 y2))
 | 0=>fun _ _ _ r h=>by simp[laws_heldIntS.l0] at h
 | k+1=>by
  have ih0:=laws_heldIntS.mono_l k
  ·intro y0 y1 y2
   unfold laws_heldIntS.l0
   repeat' first
   | (with_reducible exact ih0 _ _ _)
   | (with_reducible exact LeO.refl _)
   | (with_reducible exact LeO.none _)
   | (with_reducible refine LeO.ite ?_ ?_)
   | (with_reducible refine LeO.bind ?_ (fun _ => ?_))
   | exact ih0 _ _ _
   | exact LeO.none _
   | refine LeO.ite ?_ ?_
   | refine LeO.bind ?_ (fun _ => ?_)
theorem laws_heldIntS.mono : ∀ a0 a1 k,LeO (laws_heldIntS.f k a0 a1) (laws_heldIntS.f (k+1) a0 a1):=by
 intro a0 a1 k
 have ih0:=laws_heldIntS.mono_l k
 unfold laws_heldIntS.f
 repeat' first
  | (with_reducible exact ih0 _ _ _)
  | (with_reducible exact LeO.refl _)
  | (with_reducible exact LeO.none _)
  | (with_reducible refine LeO.ite ?_ ?_)
  | (with_reducible refine LeO.bind ?_ (fun _ => ?_))
  | exact ih0 _ _ _
  | exact LeO.none _
  | refine LeO.ite ?_ ?_
  | refine LeO.bind ?_ (fun _ => ?_)
set_option maxHeartbeats 8000000 in
set_option maxRecDepth 100000 in
theorem laws_heldIntS.calls (k:Nat) (A0:Option Addr) (c0:Nat) (l0:List Int) (a1:Int) (r:Int) (w:World) (hr0:Kd.C (Kd.int .i64) w A0 l0.length l0) (hc0:l0.length≤c0) (h:laws_heldIntS.f k l0 a1=some r) :
  Calls Try.prog 30 #[.slice A0 l0.length c0,.int .i64 a1] w fun e w'=>e=.returned (.int .i64 r)∧Drawn0 w w':=by
 have HR0:=Aside0.mk hr0
 have HC0:=Aside0.mk hc0
 clear hr0 hc0
 have H:(laws_heldIntS.l0 k l0 a1 0)=some r:=h
 clear h
 have H':=Aside0.mk H
 clear H
 go_enter Try.func30,Try.ntmps30
 go_wp2
 go_loopg [1,5] k (fun kq v1 v5 w' => ∃ (x1_1:Int) (x5_1:Int),v1=.int .i64 x1_1∧v5=.int .i64 x5_1∧Aside0 (laws_heldIntS.l0 kq l0 x1_1 x5_1=some r)∧Aside0 (kq≤k)∧Drawn0 w w')
 case atStart=>exact⟨(a1),(0),(bR),(bR),H',⟨Nat.le_refl _⟩,bW⟩
 case round =>
  clear H'
  try clear p2
  obtain⟨x1_1,x5_1,rfl,rfl,HA,HK1,⟨m1,rfl⟩⟩:=hrel
  cases gk with
  | zero=>exact absurd HA.out (by simp[laws_heldIntS.l0])
  | succ k1 =>
   have H:=HA.out
   clear HA
   simp only[laws_heldIntS.l0] at H
   by_cases c3:x5_1 < (l0.length:Int)
   ·rw[if_pos c3] at H
    have c3b0:decide (x5_1 < (l0.length:Int))=true:=decide_eq_true c3
    clear c3
    by_cases c4:0≤x5_1
    ·rw[if_pos c4] at H
     have c4b0:decide (0≤x5_1)=true:=decide_eq_true c4
     clear c4
     by_cases c5:(rd l0 x5_1)=x1_1
     ·rw[if_pos c5] at H
      have c5b0:((rd l0 x5_1) == x1_1)=true:=beq_iff_eq.mpr c5
      have c5b1:((rd l0 x5_1) != x1_1)=false:=bne_eq_false_iff_eq.mpr c5
      clear c5
      have H':=Aside0.mk H
      clear H
      have p170:0≤(x5_1:Int):=of_decide_eq_true (bD)
      have q170:x5_1 < (l0.length:Int):=of_decide_eq_true (bD)
      obtain⟨ad170,e170,hx170_0⟩:=Kd.at_int HR0.out x5_1 p170 q170
      cases e170
      replace p170:=eq_true p170
      replace q170:=eq_true q170
      go_wp2
      go_roundg k1
      case measure=>have:=HK1.out;omega
      case rel=>exact⟨(wrap64 (x1_1+1)),(wrap64 (x5_1+1)),(bR),(bR),H',⟨by have:=HK1.out;omega⟩,bW⟩
     ·rw[if_neg c5] at H
      have c5b0:((rd l0 x5_1) == x1_1)=false:=beq_eq_false_iff_ne.mpr c5
      have c5b1:((rd l0 x5_1) != x1_1)=true:=bne_iff_ne.mpr c5
      obtain rfl:=Option.some.inj H
      have p170:0≤(x5_1:Int):=of_decide_eq_true (bD)
      have q170:x5_1 < (l0.length:Int):=of_decide_eq_true (bD)
      obtain⟨ad170,e170,hx170_0⟩:=Kd.at_int HR0.out x5_1 p170 q170
      cases e170
      replace p170:=eq_true p170
      replace q170:=eq_true q170
      go_wp2
      go_ret
      exact⟨bR,bW⟩
    ·rw[if_neg c4] at H
     exact absurd H (by simp)
   ·rw[if_neg c3] at H
    have c3b0:decide (x5_1 < (l0.length:Int))=false:=decide_eq_false c3
    clear c3
    obtain rfl:=Option.some.inj H
    go_wp2
    go_ret
    exact⟨bR,bW⟩

/-! ### laws_heldHoldS: function 152 -/
def laws_heldHoldS.l0:Nat→List (S198)→Int→Int→Option (Int)
 | 0,_,_,_=>none
 | k+1,x0,x1,x5=>if x5 < (x0.length:Int) then (if 0≤x5 then (if ((rd_T198 x0 x5).f0)=x1 then (if ((rd_T198 x0 x5).f1)=(wrap64 (x1+1)) then (laws_heldHoldS.l0 k x0 (wrap64 ((wrap64 (x1+1))+1)) (wrap64 (x5+1))) else (some (-1))) else (some (-1))) else (none)) else (some x1)
def laws_heldHoldS.f (k:Nat) (l0:List (S198)) (a1:Int):Option (Int):=laws_heldHoldS.l0 k l0 a1 0
theorem laws_heldHoldS.mono_l : ∀ k,(∀ y0 y1 y2,LeO (laws_heldHoldS.l0 k y0 y1 y2) (laws_heldHoldS.l0 (k+1) y0 y1 y2))
 | 0=>fun _ _ _ r h=>by simp[laws_heldHoldS.l0] at h
 | k+1=>by
  have ih0:=laws_heldHoldS.mono_l k
  ·intro y0 y1 y2
   unfold laws_heldHoldS.l0
   repeat' first
   | (with_reducible exact ih0 _ _ _)
   | (with_reducible exact LeO.refl _)
   | (with_reducible exact LeO.none _)
   | (with_reducible refine LeO.ite ?_ ?_)
   | (with_reducible refine LeO.bind ?_ (fun _ => ?_))
   | exact ih0 _ _ _
   | exact LeO.none _
   | refine LeO.ite ?_ ?_
   | refine LeO.bind ?_ (fun _ => ?_)
theorem laws_heldHoldS.mono : ∀ a0 a1 k,LeO (laws_heldHoldS.f k a0 a1) (laws_heldHoldS.f (k+1) a0 a1):=by
 intro a0 a1 k
 have ih0:=laws_heldHoldS.mono_l k
 unfold laws_heldHoldS.f
 repeat' first
  | (with_reducible exact ih0 _ _ _)
  | (with_reducible exact LeO.refl _)
  | (with_reducible exact LeO.none _)
  | (with_reducible refine LeO.ite ?_ ?_)
  | (with_reducible refine LeO.bind ?_ (fun _ => ?_))
  | exact ih0 _ _ _
  | exact LeO.none _
  | refine LeO.ite ?_ ?_
  | refine LeO.bind ?_ (fun _ => ?_)
set_option maxHeartbeats 8000000 in
set_option maxRecDepth 100000 in
theorem laws_heldHoldS.calls (k:Nat) (A0:Option Addr) (c0:Nat) (l0:List (S198)) (a1:Int) (r:Int) (w:World) (hr0:Kd.C k198 w A0 l0.length l0) (hc0:l0.length≤c0) (h:laws_heldHoldS.f k l0 a1=some r) :
  Calls Try.prog 152 #[.slice A0 l0.length c0,.int .i64 a1] w fun e w'=>e=.returned (.int .i64 r)∧Drawn0 w w':=by
 have HR0:=Aside0.mk hr0
 have HC0:=Aside0.mk hc0
 clear hr0 hc0
 have H:(laws_heldHoldS.l0 k l0 a1 0)=some r:=h
 clear h
 have H':=Aside0.mk H
 clear H
 go_enter Try.func152,Try.ntmps152
 go_wp2
 go_loopg [1,5] k (fun kq v1 v5 w' => ∃ (x1_1:Int) (x5_1:Int),v1=.int .i64 x1_1∧v5=.int .i64 x5_1∧Aside0 (laws_heldHoldS.l0 kq l0 x1_1 x5_1=some r)∧Aside0 (kq≤k)∧Drawn0 w w')
 case atStart=>exact⟨(a1),(0),(bR),(bR),H',⟨Nat.le_refl _⟩,bW⟩
 case round =>
  clear H'
  try clear c1
  try clear p2
  obtain⟨x1_1,x5_1,rfl,rfl,HA,HK1,⟨m1,rfl⟩⟩:=hrel
  cases gk with
  | zero=>exact absurd HA.out (by simp[laws_heldHoldS.l0])
  | succ k1 =>
   have H:=HA.out
   clear HA
   simp only[laws_heldHoldS.l0] at H
   by_cases c3:x5_1 < (l0.length:Int)
   ·rw[if_pos c3] at H
    have c3b0:decide (x5_1 < (l0.length:Int))=true:=decide_eq_true c3
    clear c3
    by_cases c4:0≤x5_1
    ·rw[if_pos c4] at H
     have c4b0:decide (0≤x5_1)=true:=decide_eq_true c4
     clear c4
     by_cases c5:((rd_T198 l0 x5_1).f0)=x1_1
     ·rw[if_pos c5] at H
      have c5b0:(((rd_T198 l0 x5_1).f0) == x1_1)=true:=beq_iff_eq.mpr c5
      have c5b1:(((rd_T198 l0 x5_1).f0) != x1_1)=false:=bne_eq_false_iff_eq.mpr c5
      clear c5
      by_cases c6:((rd_T198 l0 x5_1).f1)=(wrap64 (x1_1+1))
      ·rw[if_pos c6] at H
       have c6b0:(((rd_T198 l0 x5_1).f1) == (wrap64 (x1_1+1)))=true:=beq_iff_eq.mpr c6
       have c6b1:(((rd_T198 l0 x5_1).f1) != (wrap64 (x1_1+1)))=false:=bne_eq_false_iff_eq.mpr c6
       clear c6
       have H':=Aside0.mk H
       clear H
       have p171:0≤(x5_1:Int):=of_decide_eq_true (bD)
       have q171:x5_1 < (l0.length:Int):=of_decide_eq_true (bD)
       obtain⟨ad171,e171,hx171_0,hx171_1⟩:=at_T198 HR0.out x5_1 p171 q171
       cases e171
       replace p171:=eq_true p171
       replace q171:=eq_true q171
       have p172:0≤(x5_1:Int):=of_decide_eq_true (bD)
       have q172:x5_1 < (l0.length:Int):=of_decide_eq_true (bD)
       obtain⟨ad172,e172,hx172_0,hx172_1⟩:=at_T198 HR0.out x5_1 p172 q172
       obtain rfl:ad171=ad172:=(by injection e172)
       replace p172:=eq_true p172
       replace q172:=eq_true q172
       go_wp2
       go_roundg k1
       case measure=>have:=HK1.out;omega
       case rel=>exact⟨(wrap64 ((wrap64 (x1_1+1))+1)),(wrap64 (x5_1+1)),(bR),(bR),H',⟨by have:=HK1.out;omega⟩,bW⟩
      ·rw[if_neg c6] at H
       have c6b0:(((rd_T198 l0 x5_1).f1) == (wrap64 (x1_1+1)))=false:=beq_eq_false_iff_ne.mpr c6
       have c6b1:(((rd_T198 l0 x5_1).f1) != (wrap64 (x1_1+1)))=true:=bne_iff_ne.mpr c6
       obtain rfl:=Option.some.inj H
       have p171:0≤(x5_1:Int):=of_decide_eq_true (bD)
       have q171:x5_1 < (l0.length:Int):=of_decide_eq_true (bD)
       obtain⟨ad171,e171,hx171_0,hx171_1⟩:=at_T198 HR0.out x5_1 p171 q171
       cases e171
       replace p171:=eq_true p171
       replace q171:=eq_true q171
       have p172:0≤(x5_1:Int):=of_decide_eq_true (bD)
       have q172:x5_1 < (l0.length:Int):=of_decide_eq_true (bD)
       obtain⟨ad172,e172,hx172_0,hx172_1⟩:=at_T198 HR0.out x5_1 p172 q172
       obtain rfl:ad171=ad172:=(by injection e172)
       replace p172:=eq_true p172
       replace q172:=eq_true q172
       go_wp2
       go_ret
       exact⟨bR,bW⟩
     ·rw[if_neg c5] at H
      have c5b0:(((rd_T198 l0 x5_1).f0) == x1_1)=false:=beq_eq_false_iff_ne.mpr c5
      have c5b1:(((rd_T198 l0 x5_1).f0) != x1_1)=true:=bne_iff_ne.mpr c5
      obtain rfl:=Option.some.inj H
      have p171:0≤(x5_1:Int):=of_decide_eq_true (bD)
      have q171:x5_1 < (l0.length:Int):=of_decide_eq_true (bD)
      obtain⟨ad171,e171,hx171_0,hx171_1⟩:=at_T198 HR0.out x5_1 p171 q171
      cases e171
      replace p171:=eq_true p171
      replace q171:=eq_true q171
      go_wp2
      go_ret
      exact⟨bR,bW⟩
    ·rw[if_neg c4] at H
     exact absurd H (by simp)
   ·rw[if_neg c3] at H
    have c3b0:decide (x5_1 < (l0.length:Int))=false:=decide_eq_false c3
    clear c3
    obtain rfl:=Option.some.inj H
    go_wp2
    go_ret
    exact⟨bR,bW⟩

/-! ### laws_heldKeeperS: function 103 -/
def laws_heldKeeperS.l0:Nat→List (S179)→Int→Int→Option (Int)
 | 0,_,_,_=>none
 | k+1,x0,x1,x5=>if x5 < (x0.length:Int) then (if 0≤x5 then ((laws_heldIntS.f k ((rd_T179 x0 x5).f0) x1).bind fun t174=>(if t174 < 0 then (some (-1)) else ((laws_heldHoldS.f k ((rd_T179 x0 x5).f1) t174).bind fun t176=>(if t176 < 0 then (some (-1)) else ((laws_heldIntS.f k ((rd_T179 x0 x5).f2) t176).bind fun t178=>(if t178 < 0 then (some (-1)) else (laws_heldKeeperS.l0 k x0 t178 (wrap64 (x5+1))))))))) else (none)) else (some x1)
def laws_heldKeeperS.f (k:Nat) (l0:List (S179)) (a1:Int):Option (Int):=laws_heldKeeperS.l0 k l0 a1 0
theorem laws_heldKeeperS.mono_l : ∀ k,(∀ y0 y1 y2,LeO (laws_heldKeeperS.l0 k y0 y1 y2) (laws_heldKeeperS.l0 (k+1) y0 y1 y2))
 | 0=>fun _ _ _ r h=>by simp[laws_heldKeeperS.l0] at h
 | k+1=>by
  have ih0:=laws_heldKeeperS.mono_l k
  ·intro y0 y1 y2
   unfold laws_heldKeeperS.l0
   repeat' first
   | (with_reducible exact ih0 _ _ _)
   | (with_reducible exact laws_heldHoldS.mono _ _ _)
   | (with_reducible exact laws_heldIntS.mono _ _ _)
   | (with_reducible exact LeO.refl _)
   | (with_reducible exact LeO.none _)
   | (with_reducible refine LeO.ite ?_ ?_)
   | (with_reducible refine LeO.bind ?_ (fun _ => ?_))
   | exact ih0 _ _ _
   | exact laws_heldHoldS.mono _ _ _
   | exact laws_heldIntS.mono _ _ _
   | exact LeO.none _
   | refine LeO.ite ?_ ?_
   | refine LeO.bind ?_ (fun _ => ?_)
theorem laws_heldKeeperS.mono : ∀ a0 a1 k,LeO (laws_heldKeeperS.f k a0 a1) (laws_heldKeeperS.f (k+1) a0 a1):=by
 intro a0 a1 k
 have ih0:=laws_heldKeeperS.mono_l k
 unfold laws_heldKeeperS.f
 repeat' first
  | (with_reducible exact ih0 _ _ _)
  | (with_reducible exact laws_heldHoldS.mono _ _ _)
  | (with_reducible exact laws_heldIntS.mono _ _ _)
  | (with_reducible exact LeO.refl _)
  | (with_reducible exact LeO.none _)
  | (with_reducible refine LeO.ite ?_ ?_)
  | (with_reducible refine LeO.bind ?_ (fun _ => ?_))
  | exact ih0 _ _ _
  | exact laws_heldHoldS.mono _ _ _
  | exact laws_heldIntS.mono _ _ _
  | exact LeO.none _
  | refine LeO.ite ?_ ?_
  | refine LeO.bind ?_ (fun _ => ?_)
set_option maxHeartbeats 8000000 in
set_option maxRecDepth 100000 in
theorem laws_heldKeeperS.calls (k:Nat) (A0:Option Addr) (c0:Nat) (l0:List (S179)) (a1:Int) (r:Int) (w:World) (hr0:Kd.C k179 w A0 l0.length l0) (hc0:l0.length≤c0) (h:laws_heldKeeperS.f k l0 a1=some r) :
  Calls Try.prog 103 #[.slice A0 l0.length c0,.int .i64 a1] w fun e w'=>e=.returned (.int .i64 r)∧Drawn0 w w':=by
 have HR0:=Aside0.mk hr0
 have HC0:=Aside0.mk hc0
 clear hr0 hc0
 have H:(laws_heldKeeperS.l0 k l0 a1 0)=some r:=h
 clear h
 have H':=Aside0.mk H
 clear H
 go_enter Try.func103,Try.ntmps103
 go_wp2
 go_loopg [1,5] k (fun kq v1 v5 w' => ∃ (x1_1:Int) (x5_1:Int),v1=.int .i64 x1_1∧v5=.int .i64 x5_1∧Aside0 (laws_heldKeeperS.l0 kq l0 x1_1 x5_1=some r)∧Aside0 (kq≤k)∧Drawn0 w w')
 case atStart=>exact⟨(a1),(0),(bR),(bR),H',⟨Nat.le_refl _⟩,bW⟩
 case round =>
  clear H'
  try clear c1
  try clear p2
  obtain⟨x1_1,x5_1,rfl,rfl,HA,HK1,⟨m1,rfl⟩⟩:=hrel
  cases gk with
  | zero=>exact absurd HA.out (by simp[laws_heldKeeperS.l0])
  | succ k1 =>
   have H:=HA.out
   clear HA
   simp only[laws_heldKeeperS.l0] at H
   by_cases c3:x5_1 < (l0.length:Int)
   ·rw[if_pos c3] at H
    have c3b0:decide (x5_1 < (l0.length:Int))=true:=decide_eq_true c3
    clear c3
    by_cases c4:0≤x5_1
    ·rw[if_pos c4] at H
     have c4b0:decide (0≤x5_1)=true:=decide_eq_true c4
     clear c4
     replace H:=Option.bind_eq_some_iff.mp H
     obtain⟨t174,A50,H⟩:=H
     have A5:=Aside0.mk A50
     clear A50
     by_cases c6:t174 < 0
     ·rw[if_pos c6] at H
      have c6b0:decide (t174 < 0)=true:=decide_eq_true c6
      clear c6
      obtain rfl:=Option.some.inj H
      have p173:0≤(x5_1:Int):=of_decide_eq_true (bD)
      have q173:x5_1 < (l0.length:Int):=of_decide_eq_true (bD)
      obtain⟨ad173,A173_0,c173_0,A173_1,c173_1,A173_2,c173_2,e173,hx173_0,hx173_1,hx173_2,hl173_0,hi173_0,hl173_1,hi173_1,hl173_2,hi173_2⟩:=at_T179 HR0.out x5_1 p173 q173
      cases e173
      have HR173_0:=Aside0.mk hi173_0
      have HC173_0:=Aside0.mk hl173_0
      clear hi173_0 hl173_0
      have HR173_1:=Aside0.mk hi173_1
      have HC173_1:=Aside0.mk hl173_1
      clear hi173_1 hl173_1
      have HR173_2:=Aside0.mk hi173_2
      have HC173_2:=Aside0.mk hl173_2
      clear hi173_2 hl173_2
      replace p173:=eq_true p173
      replace q173:=eq_true q173
      go_wp2_with (first|((with_reducible refine gate_callee (f:=30) rfl ?_);refine goesA (some 18) rfl rfl Try.func30 #[.slice A173_0 ((rd_T179 l0 x5_1).f0).length c173_0,.int .i64 x1_1] rfl ?_;(with_reducible refine(laws_heldIntS.calls k1 _ _ ((rd_T179 l0 x5_1).f0) x1_1 t174 _ ?side1 ?side2 A5.out).mono ?_);(case side1=>exact b7_);(case side2=>exact HC173_0.out);rintro e w' ⟨rfl,⟨nd,rfl⟩⟩;refine⟨_,rfl,?_⟩))
      go_ret
      exact⟨bR,bW⟩
     ·rw[if_neg c6] at H
      have c6b0:decide (t174 < 0)=false:=decide_eq_false c6
      clear c6
      replace H:=Option.bind_eq_some_iff.mp H
      obtain⟨t176,A70,H⟩:=H
      have A7:=Aside0.mk A70
      clear A70
      by_cases c8:t176 < 0
      ·rw[if_pos c8] at H
       have c8b0:decide (t176 < 0)=true:=decide_eq_true c8
       clear c8
       obtain rfl:=Option.some.inj H
       have p173:0≤(x5_1:Int):=of_decide_eq_true (bD)
       have q173:x5_1 < (l0.length:Int):=of_decide_eq_true (bD)
       obtain⟨ad173,A173_0,c173_0,A173_1,c173_1,A173_2,c173_2,e173,hx173_0,hx173_1,hx173_2,hl173_0,hi173_0,hl173_1,hi173_1,hl173_2,hi173_2⟩:=at_T179 HR0.out x5_1 p173 q173
       cases e173
       have HR173_0:=Aside0.mk hi173_0
       have HC173_0:=Aside0.mk hl173_0
       clear hi173_0 hl173_0
       have HR173_1:=Aside0.mk hi173_1
       have HC173_1:=Aside0.mk hl173_1
       clear hi173_1 hl173_1
       have HR173_2:=Aside0.mk hi173_2
       have HC173_2:=Aside0.mk hl173_2
       clear hi173_2 hl173_2
       replace p173:=eq_true p173
       replace q173:=eq_true q173
       go_wp2_with (first|((with_reducible refine gate_callee (f:=30) rfl ?_);refine goesA (some 18) rfl rfl Try.func30 #[.slice A173_0 ((rd_T179 l0 x5_1).f0).length c173_0,.int .i64 x1_1] rfl ?_;(with_reducible refine(laws_heldIntS.calls k1 _ _ ((rd_T179 l0 x5_1).f0) x1_1 t174 _ ?side1 ?side2 A5.out).mono ?_);(case side1=>exact b7_);(case side2=>exact HC173_0.out);rintro e w' ⟨rfl,⟨nd,rfl⟩⟩;refine⟨_,rfl,?_⟩;have p175:0≤(x5_1:Int):=of_decide_eq_true (bD);have q175:x5_1 < (l0.length:Int):=of_decide_eq_true (bD);obtain⟨ad175,A175_0,c175_0,A175_1,c175_1,A175_2,c175_2,e175,hx175_0,hx175_1,hx175_2,hl175_0,hi175_0,hl175_1,hi175_1,hl175_2,hi175_2⟩:=at_T179 HR0.out x5_1 p175 q175;obtain rfl:ad173=ad175:=(by injection e175);have HR175_0:=Aside0.mk hi175_0;have HC175_0:=Aside0.mk hl175_0;clear hi175_0 hl175_0;have HR175_1:=Aside0.mk hi175_1;have HC175_1:=Aside0.mk hl175_1;clear hi175_1 hl175_1;have HR175_2:=Aside0.mk hi175_2;have HC175_2:=Aside0.mk hl175_2;clear hi175_2 hl175_2;replace p175:=eq_true p175;replace q175:=eq_true q175;have ea_:=Option.some.inj (hx173_0.symm.trans hx175_0);injection ea_ with ea_ en_ ec_;subst ea_;subst ec_;clear en_;have ea_:=Option.some.inj (hx173_1.symm.trans hx175_1);injection ea_ with ea_ en_ ec_;subst ea_;subst ec_;clear en_;have ea_:=Option.some.inj (hx173_2.symm.trans hx175_2);injection ea_ with ea_ en_ ec_;subst ea_;subst ec_;clear en_)|((with_reducible refine gate_callee (f:=152) rfl ?_);refine goesA (some 27) rfl rfl Try.func152 #[.slice A173_1 ((rd_T179 l0 x5_1).f1).length c173_1,.int .i64 t174] rfl ?_;(with_reducible refine(laws_heldHoldS.calls k1 _ _ ((rd_T179 l0 x5_1).f1) t174 t176 _ ?side1 ?side2 A7.out).mono ?_);(case side1=>repeat (first|exact HR175_1.out|(with_reducible refine Kd.C_alloc ?_ _)|(with_reducible refine Kd.C_drewN ?_ _)|(with_reducible refine Kd.C_drew ?_)));(case side2=>exact HC175_1.out);rintro e w' ⟨rfl,⟨nd,rfl⟩⟩;refine⟨_,rfl,?_⟩))
       go_ret
       exact⟨bR,bW⟩
      ·rw[if_neg c8] at H
       have c8b0:decide (t176 < 0)=false:=decide_eq_false c8
       clear c8
       replace H:=Option.bind_eq_some_iff.mp H
       obtain⟨t178,A90,H⟩:=H
       have A9:=Aside0.mk A90
       clear A90
       by_cases c10:t178 < 0
       ·rw[if_pos c10] at H
        have c10b0:decide (t178 < 0)=true:=decide_eq_true c10
        clear c10
        obtain rfl:=Option.some.inj H
        have p173:0≤(x5_1:Int):=of_decide_eq_true (bD)
        have q173:x5_1 < (l0.length:Int):=of_decide_eq_true (bD)
        obtain⟨ad173,A173_0,c173_0,A173_1,c173_1,A173_2,c173_2,e173,hx173_0,hx173_1,hx173_2,hl173_0,hi173_0,hl173_1,hi173_1,hl173_2,hi173_2⟩:=at_T179 HR0.out x5_1 p173 q173
        cases e173
        have HR173_0:=Aside0.mk hi173_0
        have HC173_0:=Aside0.mk hl173_0
        clear hi173_0 hl173_0
        have HR173_1:=Aside0.mk hi173_1
        have HC173_1:=Aside0.mk hl173_1
        clear hi173_1 hl173_1
        have HR173_2:=Aside0.mk hi173_2
        have HC173_2:=Aside0.mk hl173_2
        clear hi173_2 hl173_2
        replace p173:=eq_true p173
        replace q173:=eq_true q173
        go_wp2_with (first|((with_reducible refine gate_callee (f:=30) rfl ?_);refine goesA (some 18) rfl rfl Try.func30 #[.slice A173_0 ((rd_T179 l0 x5_1).f0).length c173_0,.int .i64 x1_1] rfl ?_;(with_reducible refine(laws_heldIntS.calls k1 _ _ ((rd_T179 l0 x5_1).f0) x1_1 t174 _ ?side1 ?side2 A5.out).mono ?_);(case side1=>exact b7_);(case side2=>exact HC173_0.out);rintro e w' ⟨rfl,⟨nd,rfl⟩⟩;refine⟨_,rfl,?_⟩;have p175:0≤(x5_1:Int):=of_decide_eq_true (bD);have q175:x5_1 < (l0.length:Int):=of_decide_eq_true (bD);obtain⟨ad175,A175_0,c175_0,A175_1,c175_1,A175_2,c175_2,e175,hx175_0,hx175_1,hx175_2,hl175_0,hi175_0,hl175_1,hi175_1,hl175_2,hi175_2⟩:=at_T179 HR0.out x5_1 p175 q175;obtain rfl:ad173=ad175:=(by injection e175);have HR175_0:=Aside0.mk hi175_0;have HC175_0:=Aside0.mk hl175_0;clear hi175_0 hl175_0;have HR175_1:=Aside0.mk hi175_1;have HC175_1:=Aside0.mk hl175_1;clear hi175_1 hl175_1;have HR175_2:=Aside0.mk hi175_2;have HC175_2:=Aside0.mk hl175_2;clear hi175_2 hl175_2;replace p175:=eq_true p175;replace q175:=eq_true q175;have ea_:=Option.some.inj (hx173_0.symm.trans hx175_0);injection ea_ with ea_ en_ ec_;subst ea_;subst ec_;clear en_;have ea_:=Option.some.inj (hx173_1.symm.trans hx175_1);injection ea_ with ea_ en_ ec_;subst ea_;subst ec_;clear en_;have ea_:=Option.some.inj (hx173_2.symm.trans hx175_2);injection ea_ with ea_ en_ ec_;subst ea_;subst ec_;clear en_)|((with_reducible refine gate_callee (f:=152) rfl ?_);refine goesA (some 27) rfl rfl Try.func152 #[.slice A173_1 ((rd_T179 l0 x5_1).f1).length c173_1,.int .i64 t174] rfl ?_;(with_reducible refine(laws_heldHoldS.calls k1 _ _ ((rd_T179 l0 x5_1).f1) t174 t176 _ ?side1 ?side2 A7.out).mono ?_);(case side1=>repeat (first|exact HR175_1.out|(with_reducible refine Kd.C_alloc ?_ _)|(with_reducible refine Kd.C_drewN ?_ _)|(with_reducible refine Kd.C_drew ?_)));(case side2=>exact HC175_1.out);rintro e w' ⟨rfl,⟨nd,rfl⟩⟩;refine⟨_,rfl,?_⟩;have p177:0≤(x5_1:Int):=of_decide_eq_true (bD);have q177:x5_1 < (l0.length:Int):=of_decide_eq_true (bD);obtain⟨ad177,A177_0,c177_0,A177_1,c177_1,A177_2,c177_2,e177,hx177_0,hx177_1,hx177_2,hl177_0,hi177_0,hl177_1,hi177_1,hl177_2,hi177_2⟩:=at_T179 HR0.out x5_1 p177 q177;obtain rfl:ad173=ad177:=(by injection e177);have HR177_0:=Aside0.mk hi177_0;have HC177_0:=Aside0.mk hl177_0;clear hi177_0 hl177_0;have HR177_1:=Aside0.mk hi177_1;have HC177_1:=Aside0.mk hl177_1;clear hi177_1 hl177_1;have HR177_2:=Aside0.mk hi177_2;have HC177_2:=Aside0.mk hl177_2;clear hi177_2 hl177_2;replace p177:=eq_true p177;replace q177:=eq_true q177;have ea_:=Option.some.inj (hx173_0.symm.trans hx177_0);injection ea_ with ea_ en_ ec_;subst ea_;subst ec_;clear en_;have ea_:=Option.some.inj (hx173_1.symm.trans hx177_1);injection ea_ with ea_ en_ ec_;subst ea_;subst ec_;clear en_;have ea_:=Option.some.inj (hx173_2.symm.trans hx177_2);injection ea_ with ea_ en_ ec_;subst ea_;subst ec_;clear en_)|((with_reducible refine gate_callee (f:=30) rfl ?_);refine goesA (some 36) rfl rfl Try.func30 #[.slice A173_2 ((rd_T179 l0 x5_1).f2).length c173_2,.int .i64 t176] rfl ?_;(with_reducible refine(laws_heldIntS.calls k1 _ _ ((rd_T179 l0 x5_1).f2) t176 t178 _ ?side1 ?side2 A9.out).mono ?_);(case side1=>repeat (first|exact HR177_2.out|(with_reducible refine Kd.C_alloc ?_ _)|(with_reducible refine Kd.C_drewN ?_ _)|(with_reducible refine Kd.C_drew ?_)));(case side2=>exact HC177_2.out);rintro e w' ⟨rfl,⟨nd,rfl⟩⟩;refine⟨_,rfl,?_⟩))
        go_ret
        exact⟨bR,bW⟩
       ·rw[if_neg c10] at H
        have c10b0:decide (t178 < 0)=false:=decide_eq_false c10
        clear c10
        have H':=Aside0.mk H
        clear H
        have p173:0≤(x5_1:Int):=of_decide_eq_true (bD)
        have q173:x5_1 < (l0.length:Int):=of_decide_eq_true (bD)
        obtain⟨ad173,A173_0,c173_0,A173_1,c173_1,A173_2,c173_2,e173,hx173_0,hx173_1,hx173_2,hl173_0,hi173_0,hl173_1,hi173_1,hl173_2,hi173_2⟩:=at_T179 HR0.out x5_1 p173 q173
        cases e173
        have HR173_0:=Aside0.mk hi173_0
        have HC173_0:=Aside0.mk hl173_0
        clear hi173_0 hl173_0
        have HR173_1:=Aside0.mk hi173_1
        have HC173_1:=Aside0.mk hl173_1
        clear hi173_1 hl173_1
        have HR173_2:=Aside0.mk hi173_2
        have HC173_2:=Aside0.mk hl173_2
        clear hi173_2 hl173_2
        replace p173:=eq_true p173
        replace q173:=eq_true q173
        go_wp2_with (first|((with_reducible refine gate_callee (f:=30) rfl ?_);refine goesA (some 18) rfl rfl Try.func30 #[.slice A173_0 ((rd_T179 l0 x5_1).f0).length c173_0,.int .i64 x1_1] rfl ?_;(with_reducible refine(laws_heldIntS.calls k1 _ _ ((rd_T179 l0 x5_1).f0) x1_1 t174 _ ?side1 ?side2 A5.out).mono ?_);(case side1=>exact b7_);(case side2=>exact HC173_0.out);rintro e w' ⟨rfl,⟨nd,rfl⟩⟩;refine⟨_,rfl,?_⟩;have p175:0≤(x5_1:Int):=of_decide_eq_true (bD);have q175:x5_1 < (l0.length:Int):=of_decide_eq_true (bD);obtain⟨ad175,A175_0,c175_0,A175_1,c175_1,A175_2,c175_2,e175,hx175_0,hx175_1,hx175_2,hl175_0,hi175_0,hl175_1,hi175_1,hl175_2,hi175_2⟩:=at_T179 HR0.out x5_1 p175 q175;obtain rfl:ad173=ad175:=(by injection e175);have HR175_0:=Aside0.mk hi175_0;have HC175_0:=Aside0.mk hl175_0;clear hi175_0 hl175_0;have HR175_1:=Aside0.mk hi175_1;have HC175_1:=Aside0.mk hl175_1;clear hi175_1 hl175_1;have HR175_2:=Aside0.mk hi175_2;have HC175_2:=Aside0.mk hl175_2;clear hi175_2 hl175_2;replace p175:=eq_true p175;replace q175:=eq_true q175;have ea_:=Option.some.inj (hx173_0.symm.trans hx175_0);injection ea_ with ea_ en_ ec_;subst ea_;subst ec_;clear en_;have ea_:=Option.some.inj (hx173_1.symm.trans hx175_1);injection ea_ with ea_ en_ ec_;subst ea_;subst ec_;clear en_;have ea_:=Option.some.inj (hx173_2.symm.trans hx175_2);injection ea_ with ea_ en_ ec_;subst ea_;subst ec_;clear en_)|((with_reducible refine gate_callee (f:=152) rfl ?_);refine goesA (some 27) rfl rfl Try.func152 #[.slice A173_1 ((rd_T179 l0 x5_1).f1).length c173_1,.int .i64 t174] rfl ?_;(with_reducible refine(laws_heldHoldS.calls k1 _ _ ((rd_T179 l0 x5_1).f1) t174 t176 _ ?side1 ?side2 A7.out).mono ?_);(case side1=>repeat (first|exact HR175_1.out|(with_reducible refine Kd.C_alloc ?_ _)|(with_reducible refine Kd.C_drewN ?_ _)|(with_reducible refine Kd.C_drew ?_)));(case side2=>exact HC175_1.out);rintro e w' ⟨rfl,⟨nd,rfl⟩⟩;refine⟨_,rfl,?_⟩;have p177:0≤(x5_1:Int):=of_decide_eq_true (bD);have q177:x5_1 < (l0.length:Int):=of_decide_eq_true (bD);obtain⟨ad177,A177_0,c177_0,A177_1,c177_1,A177_2,c177_2,e177,hx177_0,hx177_1,hx177_2,hl177_0,hi177_0,hl177_1,hi177_1,hl177_2,hi177_2⟩:=at_T179 HR0.out x5_1 p177 q177;obtain rfl:ad173=ad177:=(by injection e177);have HR177_0:=Aside0.mk hi177_0;have HC177_0:=Aside0.mk hl177_0;clear hi177_0 hl177_0;have HR177_1:=Aside0.mk hi177_1;have HC177_1:=Aside0.mk hl177_1;clear hi177_1 hl177_1;have HR177_2:=Aside0.mk hi177_2;have HC177_2:=Aside0.mk hl177_2;clear hi177_2 hl177_2;replace p177:=eq_true p177;replace q177:=eq_true q177;have ea_:=Option.some.inj (hx173_0.symm.trans hx177_0);injection ea_ with ea_ en_ ec_;subst ea_;subst ec_;clear en_;have ea_:=Option.some.inj (hx173_1.symm.trans hx177_1);injection ea_ with ea_ en_ ec_;subst ea_;subst ec_;clear en_;have ea_:=Option.some.inj (hx173_2.symm.trans hx177_2);injection ea_ with ea_ en_ ec_;subst ea_;subst ec_;clear en_)|((with_reducible refine gate_callee (f:=30) rfl ?_);refine goesA (some 36) rfl rfl Try.func30 #[.slice A173_2 ((rd_T179 l0 x5_1).f2).length c173_2,.int .i64 t176] rfl ?_;(with_reducible refine(laws_heldIntS.calls k1 _ _ ((rd_T179 l0 x5_1).f2) t176 t178 _ ?side1 ?side2 A9.out).mono ?_);(case side1=>repeat (first|exact HR177_2.out|(with_reducible refine Kd.C_alloc ?_ _)|(with_reducible refine Kd.C_drewN ?_ _)|(with_reducible refine Kd.C_drew ?_)));(case side2=>exact HC177_2.out);rintro e w' ⟨rfl,⟨nd,rfl⟩⟩;refine⟨_,rfl,?_⟩))
        go_roundg k1
        case measure=>have:=HK1.out;omega
        case rel=>exact⟨(t178),(wrap64 (x5_1+1)),(bR),(bR),H',⟨by have:=HK1.out;omega⟩,bW⟩
    ·rw[if_neg c4] at H
     exact absurd H (by simp)
   ·rw[if_neg c3] at H
    have c3b0:decide (x5_1 < (l0.length:Int))=false:=decide_eq_false c3
    clear c3
    obtain rfl:=Option.some.inj H
    go_wp2
    go_ret
    exact⟨bR,bW⟩

/-! ### laws_heldSlipS: function 104 -/
def laws_heldSlipS.l0:Nat→List (S182)→Int→Int→Option (Int)
 | 0,_,_,_=>none
 | k+1,x0,x1,x5=>if x5 < (x0.length:Int) then (if 0≤x5 then (if ((rd_T182 x0 x5).f0)=x1 then (if ((rd_T182 x0 x5).f1)=(wrap64 (x1+1)) then (if ((rd_T182 x0 x5).f2)=(wrap64 ((wrap64 (x1+1))+1)) then (if ((rd_T182 x0 x5).f3)=(wrap64 ((wrap64 ((wrap64 (x1+1))+1))+1)) then (laws_heldSlipS.l0 k x0 (wrap64 ((wrap64 ((wrap64 ((wrap64 (x1+1))+1))+1))+1)) (wrap64 (x5+1))) else (some (-1))) else (some (-1))) else (some (-1))) else (some (-1))) else (none)) else (some x1)
def laws_heldSlipS.f (k:Nat) (l0:List (S182)) (a1:Int):Option (Int):=laws_heldSlipS.l0 k l0 a1 0
theorem laws_heldSlipS.mono_l : ∀ k,(∀ y0 y1 y2,LeO (laws_heldSlipS.l0 k y0 y1 y2) (laws_heldSlipS.l0 (k+1) y0 y1 y2))
 | 0=>fun _ _ _ r h=>by simp[laws_heldSlipS.l0] at h
 | k+1=>by
  have ih0:=laws_heldSlipS.mono_l k
  ·intro y0 y1 y2
   unfold laws_heldSlipS.l0
   repeat' first
   | (with_reducible exact ih0 _ _ _)
   | (with_reducible exact LeO.refl _)
   | (with_reducible exact LeO.none _)
   | (with_reducible refine LeO.ite ?_ ?_)
   | (with_reducible refine LeO.bind ?_ (fun _ => ?_))
   | exact ih0 _ _ _
   | exact LeO.none _
   | refine LeO.ite ?_ ?_
   | refine LeO.bind ?_ (fun _ => ?_)
theorem laws_heldSlipS.mono : ∀ a0 a1 k,LeO (laws_heldSlipS.f k a0 a1) (laws_heldSlipS.f (k+1) a0 a1):=by
 intro a0 a1 k
 have ih0:=laws_heldSlipS.mono_l k
 unfold laws_heldSlipS.f
 repeat' first
  | (with_reducible exact ih0 _ _ _)
  | (with_reducible exact LeO.refl _)
  | (with_reducible exact LeO.none _)
  | (with_reducible refine LeO.ite ?_ ?_)
  | (with_reducible refine LeO.bind ?_ (fun _ => ?_))
  | exact ih0 _ _ _
  | exact LeO.none _
  | refine LeO.ite ?_ ?_
  | refine LeO.bind ?_ (fun _ => ?_)
set_option maxHeartbeats 8000000 in
set_option maxRecDepth 100000 in
theorem laws_heldSlipS.calls (k:Nat) (A0:Option Addr) (c0:Nat) (l0:List (S182)) (a1:Int) (r:Int) (w:World) (hr0:Kd.C k182 w A0 l0.length l0) (hc0:l0.length≤c0) (h:laws_heldSlipS.f k l0 a1=some r) :
  Calls Try.prog 104 #[.slice A0 l0.length c0,.int .i64 a1] w fun e w'=>e=.returned (.int .i64 r)∧Drawn0 w w':=by
 have HR0:=Aside0.mk hr0
 have HC0:=Aside0.mk hc0
 clear hr0 hc0
 have H:(laws_heldSlipS.l0 k l0 a1 0)=some r:=h
 clear h
 have H':=Aside0.mk H
 clear H
 go_enter Try.func104,Try.ntmps104
 go_wp2
 go_loopg [1,5] k (fun kq v1 v5 w' => ∃ (x1_1:Int) (x5_1:Int),v1=.int .i64 x1_1∧v5=.int .i64 x5_1∧Aside0 (laws_heldSlipS.l0 kq l0 x1_1 x5_1=some r)∧Aside0 (kq≤k)∧Drawn0 w w')
 case atStart=>exact⟨(a1),(0),(bR),(bR),H',⟨Nat.le_refl _⟩,bW⟩
 case round =>
  clear H'
  try clear c1
  try clear p2
  obtain⟨x1_1,x5_1,rfl,rfl,HA,HK1,⟨m1,rfl⟩⟩:=hrel
  cases gk with
  | zero=>exact absurd HA.out (by simp[laws_heldSlipS.l0])
  | succ k1 =>
   have H:=HA.out
   clear HA
   simp only[laws_heldSlipS.l0] at H
   by_cases c3:x5_1 < (l0.length:Int)
   ·rw[if_pos c3] at H
    have c3b0:decide (x5_1 < (l0.length:Int))=true:=decide_eq_true c3
    clear c3
    by_cases c4:0≤x5_1
    ·rw[if_pos c4] at H
     have c4b0:decide (0≤x5_1)=true:=decide_eq_true c4
     clear c4
     by_cases c5:((rd_T182 l0 x5_1).f0)=x1_1
     ·rw[if_pos c5] at H
      have c5b0:(((rd_T182 l0 x5_1).f0) == x1_1)=true:=beq_iff_eq.mpr c5
      have c5b1:(((rd_T182 l0 x5_1).f0) != x1_1)=false:=bne_eq_false_iff_eq.mpr c5
      clear c5
      by_cases c6:((rd_T182 l0 x5_1).f1)=(wrap64 (x1_1+1))
      ·rw[if_pos c6] at H
       have c6b0:(((rd_T182 l0 x5_1).f1) == (wrap64 (x1_1+1)))=true:=beq_iff_eq.mpr c6
       have c6b1:(((rd_T182 l0 x5_1).f1) != (wrap64 (x1_1+1)))=false:=bne_eq_false_iff_eq.mpr c6
       clear c6
       by_cases c7:((rd_T182 l0 x5_1).f2)=(wrap64 ((wrap64 (x1_1+1))+1))
       ·rw[if_pos c7] at H
        have c7b0:(((rd_T182 l0 x5_1).f2) == (wrap64 ((wrap64 (x1_1+1))+1)))=true:=beq_iff_eq.mpr c7
        have c7b1:(((rd_T182 l0 x5_1).f2) != (wrap64 ((wrap64 (x1_1+1))+1)))=false:=bne_eq_false_iff_eq.mpr c7
        clear c7
        by_cases c8:((rd_T182 l0 x5_1).f3)=(wrap64 ((wrap64 ((wrap64 (x1_1+1))+1))+1))
        ·rw[if_pos c8] at H
         have c8b0:(((rd_T182 l0 x5_1).f3) == (wrap64 ((wrap64 ((wrap64 (x1_1+1))+1))+1)))=true:=beq_iff_eq.mpr c8
         have c8b1:(((rd_T182 l0 x5_1).f3) != (wrap64 ((wrap64 ((wrap64 (x1_1+1))+1))+1)))=false:=bne_eq_false_iff_eq.mpr c8
         clear c8
         have H':=Aside0.mk H
         clear H
         have p179:0≤(x5_1:Int):=of_decide_eq_true (bD)
         have q179:x5_1 < (l0.length:Int):=of_decide_eq_true (bD)
         obtain⟨ad179,e179,hx179_0,hx179_1,hx179_2,hx179_3⟩:=at_T182 HR0.out x5_1 p179 q179
         cases e179
         replace p179:=eq_true p179
         replace q179:=eq_true q179
         have p180:0≤(x5_1:Int):=of_decide_eq_true (bD)
         have q180:x5_1 < (l0.length:Int):=of_decide_eq_true (bD)
         obtain⟨ad180,e180,hx180_0,hx180_1,hx180_2,hx180_3⟩:=at_T182 HR0.out x5_1 p180 q180
         obtain rfl:ad179=ad180:=(by injection e180)
         replace p180:=eq_true p180
         replace q180:=eq_true q180
         have p181:0≤(x5_1:Int):=of_decide_eq_true (bD)
         have q181:x5_1 < (l0.length:Int):=of_decide_eq_true (bD)
         obtain⟨ad181,e181,hx181_0,hx181_1,hx181_2,hx181_3⟩:=at_T182 HR0.out x5_1 p181 q181
         obtain rfl:ad179=ad181:=(by injection e181)
         replace p181:=eq_true p181
         replace q181:=eq_true q181
         have p182:0≤(x5_1:Int):=of_decide_eq_true (bD)
         have q182:x5_1 < (l0.length:Int):=of_decide_eq_true (bD)
         obtain⟨ad182,e182,hx182_0,hx182_1,hx182_2,hx182_3⟩:=at_T182 HR0.out x5_1 p182 q182
         obtain rfl:ad179=ad182:=(by injection e182)
         replace p182:=eq_true p182
         replace q182:=eq_true q182
         go_wp2
         go_roundg k1
         case measure=>have:=HK1.out;omega
         case rel=>exact⟨(wrap64 ((wrap64 ((wrap64 ((wrap64 (x1_1+1))+1))+1))+1)),(wrap64 (x5_1+1)),(bR),(bR),H',⟨by have:=HK1.out;omega⟩,bW⟩
        ·rw[if_neg c8] at H
         have c8b0:(((rd_T182 l0 x5_1).f3) == (wrap64 ((wrap64 ((wrap64 (x1_1+1))+1))+1)))=false:=beq_eq_false_iff_ne.mpr c8
         have c8b1:(((rd_T182 l0 x5_1).f3) != (wrap64 ((wrap64 ((wrap64 (x1_1+1))+1))+1)))=true:=bne_iff_ne.mpr c8
         obtain rfl:=Option.some.inj H
         have p179:0≤(x5_1:Int):=of_decide_eq_true (bD)
         have q179:x5_1 < (l0.length:Int):=of_decide_eq_true (bD)
         obtain⟨ad179,e179,hx179_0,hx179_1,hx179_2,hx179_3⟩:=at_T182 HR0.out x5_1 p179 q179
         cases e179
         replace p179:=eq_true p179
         replace q179:=eq_true q179
         have p180:0≤(x5_1:Int):=of_decide_eq_true (bD)
         have q180:x5_1 < (l0.length:Int):=of_decide_eq_true (bD)
         obtain⟨ad180,e180,hx180_0,hx180_1,hx180_2,hx180_3⟩:=at_T182 HR0.out x5_1 p180 q180
         obtain rfl:ad179=ad180:=(by injection e180)
         replace p180:=eq_true p180
         replace q180:=eq_true q180
         have p181:0≤(x5_1:Int):=of_decide_eq_true (bD)
         have q181:x5_1 < (l0.length:Int):=of_decide_eq_true (bD)
         obtain⟨ad181,e181,hx181_0,hx181_1,hx181_2,hx181_3⟩:=at_T182 HR0.out x5_1 p181 q181
         obtain rfl:ad179=ad181:=(by injection e181)
         replace p181:=eq_true p181
         replace q181:=eq_true q181
         have p182:0≤(x5_1:Int):=of_decide_eq_true (bD)
         have q182:x5_1 < (l0.length:Int):=of_decide_eq_true (bD)
         obtain⟨ad182,e182,hx182_0,hx182_1,hx182_2,hx182_3⟩:=at_T182 HR0.out x5_1 p182 q182
         obtain rfl:ad179=ad182:=(by injection e182)
         replace p182:=eq_true p182
         replace q182:=eq_true q182
         go_wp2
         go_ret
         exact⟨bR,bW⟩
       ·rw[if_neg c7] at H
        have c7b0:(((rd_T182 l0 x5_1).f2) == (wrap64 ((wrap64 (x1_1+1))+1)))=false:=beq_eq_false_iff_ne.mpr c7
        have c7b1:(((rd_T182 l0 x5_1).f2) != (wrap64 ((wrap64 (x1_1+1))+1)))=true:=bne_iff_ne.mpr c7
        obtain rfl:=Option.some.inj H
        have p179:0≤(x5_1:Int):=of_decide_eq_true (bD)
        have q179:x5_1 < (l0.length:Int):=of_decide_eq_true (bD)
        obtain⟨ad179,e179,hx179_0,hx179_1,hx179_2,hx179_3⟩:=at_T182 HR0.out x5_1 p179 q179
        cases e179
        replace p179:=eq_true p179
        replace q179:=eq_true q179
        have p180:0≤(x5_1:Int):=of_decide_eq_true (bD)
        have q180:x5_1 < (l0.length:Int):=of_decide_eq_true (bD)
        obtain⟨ad180,e180,hx180_0,hx180_1,hx180_2,hx180_3⟩:=at_T182 HR0.out x5_1 p180 q180
        obtain rfl:ad179=ad180:=(by injection e180)
        replace p180:=eq_true p180
        replace q180:=eq_true q180
        have p181:0≤(x5_1:Int):=of_decide_eq_true (bD)
        have q181:x5_1 < (l0.length:Int):=of_decide_eq_true (bD)
        obtain⟨ad181,e181,hx181_0,hx181_1,hx181_2,hx181_3⟩:=at_T182 HR0.out x5_1 p181 q181
        obtain rfl:ad179=ad181:=(by injection e181)
        replace p181:=eq_true p181
        replace q181:=eq_true q181
        go_wp2
        go_ret
        exact⟨bR,bW⟩
      ·rw[if_neg c6] at H
       have c6b0:(((rd_T182 l0 x5_1).f1) == (wrap64 (x1_1+1)))=false:=beq_eq_false_iff_ne.mpr c6
       have c6b1:(((rd_T182 l0 x5_1).f1) != (wrap64 (x1_1+1)))=true:=bne_iff_ne.mpr c6
       obtain rfl:=Option.some.inj H
       have p179:0≤(x5_1:Int):=of_decide_eq_true (bD)
       have q179:x5_1 < (l0.length:Int):=of_decide_eq_true (bD)
       obtain⟨ad179,e179,hx179_0,hx179_1,hx179_2,hx179_3⟩:=at_T182 HR0.out x5_1 p179 q179
       cases e179
       replace p179:=eq_true p179
       replace q179:=eq_true q179
       have p180:0≤(x5_1:Int):=of_decide_eq_true (bD)
       have q180:x5_1 < (l0.length:Int):=of_decide_eq_true (bD)
       obtain⟨ad180,e180,hx180_0,hx180_1,hx180_2,hx180_3⟩:=at_T182 HR0.out x5_1 p180 q180
       obtain rfl:ad179=ad180:=(by injection e180)
       replace p180:=eq_true p180
       replace q180:=eq_true q180
       go_wp2
       go_ret
       exact⟨bR,bW⟩
     ·rw[if_neg c5] at H
      have c5b0:(((rd_T182 l0 x5_1).f0) == x1_1)=false:=beq_eq_false_iff_ne.mpr c5
      have c5b1:(((rd_T182 l0 x5_1).f0) != x1_1)=true:=bne_iff_ne.mpr c5
      obtain rfl:=Option.some.inj H
      have p179:0≤(x5_1:Int):=of_decide_eq_true (bD)
      have q179:x5_1 < (l0.length:Int):=of_decide_eq_true (bD)
      obtain⟨ad179,e179,hx179_0,hx179_1,hx179_2,hx179_3⟩:=at_T182 HR0.out x5_1 p179 q179
      cases e179
      replace p179:=eq_true p179
      replace q179:=eq_true q179
      go_wp2
      go_ret
      exact⟨bR,bW⟩
    ·rw[if_neg c4] at H
     exact absurd H (by simp)
   ·rw[if_neg c3] at H
    have c3b0:decide (x5_1 < (l0.length:Int))=false:=decide_eq_false c3
    clear c3
    obtain rfl:=Option.some.inj H
    go_wp2
    go_ret
    exact⟨bR,bW⟩

end Go.Proofs.Yteneeohaoplpbaa.XFnExactNewCustody
