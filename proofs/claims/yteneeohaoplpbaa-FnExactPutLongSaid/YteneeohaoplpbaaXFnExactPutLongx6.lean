-- Written by this session's own program (wip/xprint.py) out of the translation; Lean checks it.
import Derived.Test.YteneeohaoplpbaaXFnExactPutLongx0
import Derived.Test.YteneeohaoplpbaaXFnExactPutLongx4
import Derived.Test.YteneeohaoplpbaaXFnExactPutLongx5
namespace Go.Proofs.Yteneeohaoplpbaa.XFnExactPutLong
open Go.RowKit Go.Proofs.YteneeohaoplpbaaW.PrintWords Go.Proofs.YteneeohaoplpbaaW.PrintLast Go.Proofs.YteneeohaoplpbaaW.PrintMore
attribute [local go_sem] max2_int min2_int max_two min_two max_three min_three max_four min_four   -- for this text's walks alone
set_option linter.unusedVariables false
set_option linter.unusedSimpArgs false

/-! ### laws_markQueueS: function 82, by hand -/
def laws_markQueueS.l0:Nat→List (S116)→Int→Int→Option (Int × (List (S116)))
 | 0,_,_,_=>none
 | k+1,x0,x1,x5=>if x5 < (x0.length:Int) then (if 0≤x5 then ((laws_markIntS.f k (rd_T116 x0 x5).f0 x1).bind fun bt=>(laws_markQueueS.l0 k (x0.set (x5:Int).toNat (⟨bt.2,bt.1,wrap64 (bt.1+1)⟩:S116)) (wrap64 ((wrap64 (bt.1+1))+1)) (wrap64 (x5+1)))) else (none)) else (some (x1,x0))
def laws_markQueueS.f (k:Nat) (l0:List (S116)) (a1:Int):Option (Int × (List (S116))):=laws_markQueueS.l0 k l0 a1 0
/-- Element i of a row of queues: its own row, written, and two of its cells, stored into. -/
theorem markQ_step {W:World} {base:Nat} {ok:Nat→Prop} {g n cap:Nat} {xs:List S116} (h:Kd.S k116 116 W base ok (.slice (some ⟨g,0,none⟩) n cap) xs) (i:Int) (h0:0≤i) (h1:i < n) :
  ∃ v,W.cell? ⟨g,i.toNat * 3,none⟩=some v∧Kd.R (Kd.int .i64) 3 W base (fun k=>some k=v.ownBlock) v (rd_T116 xs i).f0∧(∀ k,v.ownBlock=some k→ok k) ∧
   ∀ (W1:World) (ys:List Int),W.grownBy W1 v.ownBlock→(∃ ok1,Kd.R (Kd.int .i64) 3 W1 base ok1 v ys) →
    W1.cell? ⟨g,i.toNat * 3+1,none⟩=some (.int .i64 (rd_T116 xs i).f1)∧W1.cell? ⟨g,i.toNat * 3+2,none⟩=some (.int .i64 (rd_T116 xs i).f2)∧W1.frozen? ⟨g,i.toNat * 3+1,none⟩=false∧W1.frozen? ⟨g,i.toNat * 3+2,none⟩=false ∧
    ∀ a b:Int,Kd.S k116 116 ((W1.setCell ⟨g,i.toNat * 3+1,none⟩ (.int .i64 a)).setCell ⟨g,i.toNat * 3+2,none⟩ (.int .i64 b)) base ok (.slice (some ⟨g,0,none⟩) n cap) (xs.set i.toNat ⟨ys,a,b⟩):=by
 obtain⟨oki,c,hcl,hM,hcc,hfr,hok,hH⟩:=Kd.S_elem h z116 i h0 h1
 have hn:=(Kd.S_reads' h).1
 obtain⟨v,rfl,hv⟩:=k116_openM hM
 refine⟨v,hcc 0 _ rfl,Kd.R_tight rfl hv,fun k hk=>(hok k (hv.1 k hk)).1,fun W1 ys hg hy => ?_⟩
 obtain⟨ok1,hy⟩:=hy
 have hS1:=Kd.H_back (Kd.H_grown hH hg (fun k e=>hv.1 k e)) (k116_mkM W1 base oki (⟨ys,(rd_T116 xs i).f1,(rd_T116 xs i).f2⟩:S116) (Kd.R_reok rfl hy hv.1)) (fun _ hk=>hk)
 obtain⟨oki',c',hcl',hM',hcc',hfr',hok',hH'⟩:=Kd.S_elem hS1 z116 i h0 h1
 have e:(xs.set i.toNat (⟨ys,(rd_T116 xs i).f1,(rd_T116 xs i).f2⟩:S116)).getD i.toNat z116=⟨ys,(rd_T116 xs i).f1,(rd_T116 xs i).f2⟩:=by
  rw[List.getD_eq_getElem?_getD,List.getElem?_set_self (by omega)]
  rfl
 rw[e] at hM'
 obtain⟨v',rfl,hv'⟩:=k116_openM hM'
 refine⟨hcc' 1 _ rfl,hcc' 2 _ rfl,hfr' 1,hfr' 2,fun a b => ?_⟩
 have hS2:=(Kd.S_seg0 hH' h0 h1 (seg:=[.int .i64 a,.int .i64 b]) (j:=1) (show 3≤3 from Nat.le_refl _) (x':=(⟨ys,a,b⟩:S116)) (k116_mkM W1 base oki' (⟨ys,a,b⟩:S116) hv') (fun _ hk=>hk)).1
 rw[List.set_set] at hS2
 exact hS2
theorem grown_of_kept {w0 W W1:World} {row:Option Nat} (h0:Below w0.heap.size w0 W) (h1:Below w0.heap.size w0 W1) (hk:Kept W W1 (fun k=>some k=row)):W.grownBy W1 row :=
 ⟨h1.os.trans h0.os.symm,h1.tape.trans h0.tape.symm,h1.output.trans h0.output.symm,hk.1,fun k hk2 hne=>hk.2 k hk2 hne⟩
theorem laws_markQueueS.mono_l : ∀ k,(∀ y0 y1 y2,LeO (laws_markQueueS.l0 k y0 y1 y2) (laws_markQueueS.l0 (k+1) y0 y1 y2))
 | 0=>fun _ _ _ r h=>by simp[laws_markQueueS.l0] at h
 | k+1=>by
  have ih0:=laws_markQueueS.mono_l k
  intro y0 y1 y2
  unfold laws_markQueueS.l0
  repeat' first
  | exact ih0 _ _ _
  | exact laws_markIntS.mono _ _ _
  | exact LeO.refl _
  | exact LeO.none _
  | refine LeO.ite ?_ ?_
  | refine LeO.bind ?_ (fun _ => ?_)
theorem laws_markQueueS.mono : ∀ a0 a1 k,LeO (laws_markQueueS.f k a0 a1) (laws_markQueueS.f (k+1) a0 a1):=fun a0 a1 k=>laws_markQueueS.mono_l k a0 a1 0
set_option maxHeartbeats 8000000 in
set_option maxRecDepth 100000 in
theorem laws_markQueueS.calls (k:Nat) (ok:Nat→Prop) (u9000_:Value) (l0:List (S116)) (a1:Int) (r1:Int) (r2:List (S116)) (w0 w:World) (hB:Below w0.heap.size w0 w) (ho0:Kd.S k116 116 w w0.heap.size ok u9000_ l0) (h:laws_markQueueS.f k l0 a1=some (r1,r2)) :
  Calls Try.prog 82 #[u9000_,.int .i64 a1] w fun e w'=>e=.returned (.int .i64 r1)∧Kd.S k116 116 w' w0.heap.size ok u9000_ r2∧Below w0.heap.size w0 w'∧Kept w w' ok:=by
 have HO0:=Aside0.mk ho0
 have HB:=Aside0.mk hB
 have HK:=Aside0.mk (Kept.refl w ok)
 clear hB ho0
 have H:(laws_markQueueS.l0 k l0 a1 0)=some (r1,r2):=h
 clear h
 have H':=Aside0.mk H
 clear H
 go_enter Try.func82,Try.ntmps82
 go_wp2
 go_loopg [1,5] k (fun kq v1 v5 w' => ∃ (x0_1:List (S116)) (x1_1:Int) (x5_1:Int),v1=.int .i64 x1_1∧v5=.int .i64 x5_1∧Aside0 (laws_markQueueS.l0 kq x0_1 x1_1 x5_1=some (r1,r2))∧Aside0 (kq≤k)∧Aside0 (Kd.S k116 116 w' w0.heap.size ok u9000_ x0_1)∧Aside0 (Kept w w' ok)∧Aside0 (Below w0.heap.size w0 w'))
 case atStart=>exact⟨(l0),(a1),(0),(bR),(bR),H',⟨Nat.le_refl _⟩,⟨by(with_reducible repeat (first|apply Kd.S_alloc|apply Kd.S_drewN|apply Kd.S_drew));exact HO0.out⟩,⟨by repeat (first|(with_reducible first|exact HK.out|apply Kept.alloc|apply Kept.drewN|apply Kept.drew)|exact HK.out)⟩,⟨by repeat (first|(with_reducible first|exact HB.out|apply below_alloc|apply pw_below_drewN|apply below_drew1)|exact HB.out)⟩⟩
 case round =>
  clear H'
  try clear p2
  obtain⟨x0_1,x1_1,x5_1,rfl,rfl,HA,HK1,HO_0,HK,HB⟩:=hrel
  cases gk with
  | zero=>exact absurd HA.out (by simp[laws_markQueueS.l0])
  | succ k1 =>
   have H:=HA.out
   clear HA
   simp only[laws_markQueueS.l0] at H
   by_cases c3:x5_1 < (x0_1.length:Int)
   ·rw[if_pos c3] at H
    have c3b0:decide (x5_1 < (x0_1.length:Int))=true:=decide_eq_true c3
    clear c3
    by_cases c4:0≤x5_1
    ·rw[if_pos c4] at H
     have c4b0:decide (0≤x5_1)=true:=decide_eq_true c4
     clear c4
     replace H:=Option.bind_eq_some_iff.mp H
     obtain⟨⟨t1,t2⟩,A50,H⟩:=H
     have A5:=Aside0.mk A50
     clear A50
     have H':=Aside0.mk H
     clear H
     obtain⟨Ao6,co6,eo6⟩:=Kd.S_slice HO_0.out
     subst eo6
     have p5:0≤(x5_1:Int):=of_decide_eq_true (bD)
     have q5:(x5_1:Int) < ((x0_1.length:Int):Int):=of_decide_eq_true (bD)
     obtain⟨go5,co5,eo5,gb5,gl5,cl5,HG5⟩:=Kd.S_form HO_0.out (by omega)
     (first|cases eo5|(injection eo5 with ea_ en_ ec_;(first|subst ea_|(injection ea_ with ea_;subst ea_));subst ec_;clear en_))
     have GB5:=Aside0.mk gb5
     clear gb5 gl5 HG5
     have HG5:Aside0 (ok go5):=Aside0.mk ((Kd.S_R HO_0.out).1 _ rfl)
     obtain⟨vi,hx5_0,hR5,hok5,hst5⟩:=markQ_step HO_0.out (x5_1:Int) p5 q5
     obtain⟨Ai,ci,ei⟩:=Kd.R_slice hR5
     subst ei
     have HR5:=Aside0.mk hR5
     have HS5:=Aside0.mk hst5
     have HOK5:=Aside0.mk hok5
     clear hR5 hst5 hok5
     replace p5:=eq_true p5
     replace q5:=eq_true q5
     go_wp2_with (first|((with_reducible refine gate_callee (f:=29) rfl ?_);refine goesA (some 18) rfl rfl Try.func29 #[.slice Ai (rd_T116 x0_1 x5_1).f0.length ci,.int .i64 x1_1] rfl ?_;(with_reducible refine(laws_markIntS.calls k1 (fun k_=>some k_=(.slice Ai (rd_T116 x0_1 x5_1).f0.length ci:Value).ownBlock) (.slice Ai (rd_T116 x0_1 x5_1).f0.length ci) (rd_T116 x0_1 x5_1).f0 x1_1 t1 t2 w0 _ ?side1 ?side2 A5.out).mono ?_);(case side1=>exact HB.out);(case side2=>exact HR5.out);rintro e w12 ⟨rfl,hy,hb,hkp⟩;refine⟨_,rfl,?_⟩;obtain⟨hx1,hx2,hf1,hf2,hfin⟩:=HS5.out w12 t2 (grown_of_kept HB.out hb hkp) ⟨_,hy⟩;have n0_:=Aside0.mk hb;have n1_:Aside0 (Kept w w12 ok):=Aside0.mk (Kept.then_ HK.out hkp (fun k_ hk_=>.inl (HOK5.out k_ hk_.symm)));have HF:=Aside0.mk hfin;clear HB HK hb hkp hfin;have HB:=n0_;have HK:=n1_;clear n0_ n1_ hy))
     go_roundg k1
     case measure=>have:=HK1.out;omega
     case rel=>exact⟨_,(wrap64 ((wrap64 (t1+1))+1)),(wrap64 (x5_1+1)),(bR),(bR),H',⟨by have:=HK1.out;omega⟩,⟨HF.out _ _⟩,⟨Kept.setCell (Kept.setCell HK.out (.inl HG5.out) _) (.inl HG5.out) _⟩,⟨below_set (below_set HB.out GB5.out) GB5.out⟩⟩
    ·rw[if_neg c4] at H
     exact absurd H (by simp)
   ·rw[if_neg c3] at H
    have c3b0:decide (x5_1 < (x0_1.length:Int))=false:=decide_eq_false c3
    clear c3
    simp only[Option.some.injEq,Prod.mk.injEq] at H
    obtain⟨rfl,rfl⟩:=H
    obtain⟨Ao9,co9,eo9⟩:=Kd.S_slice HO_0.out
    subst eo9
    go_wp2
    go_ret
    exact⟨bE,by(with_reducible repeat (first|apply Kd.S_alloc|apply Kd.S_drewN|apply Kd.S_drew));exact HO_0.out,by repeat (first|(with_reducible first|exact HB.out|apply below_alloc|apply pw_below_drewN|apply below_drew1)|exact HB.out),by repeat (first|(with_reducible first|exact HK.out|apply Kept.alloc|apply Kept.drewN|apply Kept.drew)|exact HK.out)⟩


/-! ### laws_markTurns: function 20, by hand -/
def laws_markTurns.f (k:Nat) (a0_0:Int) (l0_1:List (S116)) (a0_2:Int) (a1:Int):Option (Int × (List (S116))):=laws_markQueueS.f k l0_1 a1
theorem sizeof_ {w w1:World} (_hb:Below w.heap.size w w1) : ∃ n,n=w.heap.size:=⟨_,rfl⟩
theorem S_oldN {α:Type} {d:Kd α} {e b n:Nat} {ok:Nat→Prop} {W w1:World} {u:Value} {xs:List α} (h:Kd.S d e W b ok u xs) (hb:Below W.heap.size W w1) (hn:n=W.heap.size):Kd.S d e w1 b (fun k=>ok k∧k < n) u xs:=by
 subst hn
 exact Kd.S_old h hb
theorem S_newN {α:Type} {d:Kd α} {e n n':Nat} {ok:Nat→Prop} {w1:World} {v:Value} {xs:List α} (h:Kd.S d e w1 n' ok v xs) (hn:n=n'):Kd.S d e w1 n' (fun k=>ok k∧n≤k) v xs:=by
 subst hn
 exact Kd.S_mono (Kd.S_bound h) (fun _ hk=>⟨hk.1,hk.2.1⟩)
theorem markable_ {α:Type} {d:Kd α} {e b:Nat} {ok:Nat→Prop} {W:World} {v:Value} {xs:List α} (h:Kd.S d e W b ok v xs) : ∃ P:Nat→Prop,Kd.S d e W b P v xs∧(∀ k,P k→ok k) ∧ ∀ (g t:Nat) (cs:Array Value),W.heap[g]?=some (.cells cs t (0,0))→(∀ q,q ∈ e::d.E→q≠t) → ¬ P g :=
 ⟨_,Kd.S_bound h,fun _ hk=>hk.1,fun g t cs hb ht hk=>by
  obtain⟨_,_,_,q,hq,cs2,h2⟩:=hk
  rw[hb] at h2
  injection h2 with h2
  injection h2 with _ h3
  exact ht q hq h3.symm⟩
theorem laws_markTurns.mono : ∀ a0 a1 a2 a3 k,LeO (laws_markTurns.f k a0 a1 a2 a3) (laws_markTurns.f (k+1) a0 a1 a2 a3):=fun _ a1 _ a3 k=>laws_markQueueS.mono a1 a3 k
set_option maxHeartbeats 8000000 in
set_option maxRecDepth 100000 in
theorem laws_markTurns.calls (k:Nat) (a0_0:Int) (ok:Nat→Prop) (u9000_:Value) (l0_1:List (S116)) (a0_2:Int) (a1:Int) (r1:Int) (r2:List (S116)) (w0 w:World) (hB:Below w0.heap.size w0 w) (ho0:Kd.S k116 116 w w0.heap.size ok u9000_ l0_1) (h:laws_markTurns.f k a0_0 l0_1 a0_2 a1=some (r1,r2)) :
  Calls Try.prog 20 #[.agg #[.int .i64 a0_0,u9000_,.int .i64 a0_2],.int .i64 a1] w fun e w'=>e=.returned (.int .i64 r1)∧Kd.S k116 116 w' w0.heap.size ok u9000_ r2∧Below w0.heap.size w0 w'∧Kept w w' ok:=by
 obtain⟨A0,c0,e0⟩:=Kd.S_slice ho0
 subst e0
 have HO:=Aside0.mk ho0
 have HB:=Aside0.mk hB
 have HL:=Aside0.mk (below_size hB)
 have HA:=Aside0.mk (show laws_markQueueS.f k l0_1 a1=some (r1,r2) from h)
 clear hB ho0 h
 go_enter Try.func20,Try.ntmps20
 go_wp2_with (first|((with_reducible refine gate_dst (N:=2) rfl ?_);refine box_event ?hg (N:=2) ?hd (cs:=#[.int .i64 a0_0,.slice A0 l0_1.length c0,.int .i64 a0_2]) (t:=28) ?hr ?_;(case hd=>rfl);(case hg=>rfl);(case hr=>first|(go_simp;done)|(go_simp;rfl));intro gb2 hg w6 hbox hb;have n0_:=Aside0.mk (Kd.S_below HO.out hb);have n1_:=Aside0.mk (below_weaken HB.out HL.out hb);have HK:=Aside0.mk (Kept.of_below hb ok);have hcz1:w6.cell? ⟨gb2,1,none⟩=some (.slice A0 l0_1.length c0):=(blk_cell hbox 1).trans rfl;clear HO HB hb hbox hg;have HO:=n0_;have HB:=n1_;clear n0_ n1_)|((with_reducible refine gate_callee (f:=82) rfl ?_);refine goesA (some 8) rfl rfl Try.func82 #[.slice A0 l0_1.length c0,.int .i64 a1] rfl ?_;(with_reducible refine(laws_markQueueS.calls k ok (.slice A0 l0_1.length c0) l0_1 a1 r1 r2 w0 _ ?side1 ?side2 HA.out).mono ?_);(case side1=>exact HB.out);(case side2=>exact HO.out);rintro e w7 ⟨rfl,ho,hb,hkp⟩;refine⟨_,rfl,?_⟩;have n0_:=Aside0.mk ho;have n1_:=Aside0.mk hb;have n2_:Aside0 (Kept w w7 ok):=Aside0.mk (Kept.then_ HK.out hkp (fun _ h_=>.inl h_));clear HO HB HK ho hb hkp;have HO:=n0_;have HB:=n1_;have HK:=n2_;clear n0_ n1_ n2_))
 go_ret
 exact⟨bE,HO.out,HB.out,HK.out⟩


/-! ### laws_heldIntS: function 30 -/
def laws_heldIntS.l0:Nat→List Int→Int→Int→Option (Int)
 | 0,_,_,_=>none
 | k+1,x0,x1,x5=>if x5 < (x0.length:Int) then (if 0≤x5 then (if (rd x0 x5)=x1 then (laws_heldIntS.l0 k x0 (wrap64 (x1+1)) (wrap64 (x5+1))) else (some (-1))) else (none)) else (some x1)
def laws_heldIntS.f (k:Nat) (l0:List Int) (a1:Int):Option (Int):=laws_heldIntS.l0 k l0 a1 0
theorem laws_heldIntS.mono_l : ∀ k,(∀ y0 y1 y2,LeO (laws_heldIntS.l0 k y0 y1 y2) (laws_heldIntS.l0 (k+1) y0 y1 y2))
 | 0=>fun _ _ _ r h=>by simp[laws_heldIntS.l0] at h
 | k+1=>by
  have ih0:=laws_heldIntS.mono_l k
  ·intro y0 y1 y2
   unfold laws_heldIntS.l0
   repeat' first
   | (with_reducible exact ih0 _ _ _)
   | (with_reducible exact LeO.refl _)
   | (with_reducible exact LeO.none _)
   | (with_reducible refine LeO.ite ?_ ?_)
   | (with_reducible refine LeO.bind ?_ (fun _ => ?_))
   | exact ih0 _ _ _
   | exact LeO.none _
   | refine LeO.ite ?_ ?_
   | refine LeO.bind ?_ (fun _ => ?_)
theorem laws_heldIntS.mono : ∀ a0 a1 k,LeO (laws_heldIntS.f k a0 a1) (laws_heldIntS.f (k+1) a0 a1):=by
 intro a0 a1 k
 have ih0:=laws_heldIntS.mono_l k
 unfold laws_heldIntS.f
 repeat' first
  | (with_reducible exact ih0 _ _ _)
  | (with_reducible exact LeO.refl _)
  | (with_reducible exact LeO.none _)
  | (with_reducible refine LeO.ite ?_ ?_)
  | (with_reducible refine LeO.bind ?_ (fun _ => ?_))
  | exact ih0 _ _ _
  | exact LeO.none _
  | refine LeO.ite ?_ ?_
  | refine LeO.bind ?_ (fun _ => ?_)
set_option maxHeartbeats 8000000 in
set_option maxRecDepth 100000 in
theorem laws_heldIntS.calls (k:Nat) (A0:Option Addr) (c0:Nat) (l0:List Int) (a1:Int) (r:Int) (w:World) (hr0:Kd.C (Kd.int .i64) w A0 l0.length l0) (hc0:l0.length≤c0) (h:laws_heldIntS.f k l0 a1=some r) :
  Calls Try.prog 30 #[.slice A0 l0.length c0,.int .i64 a1] w fun e w'=>e=.returned (.int .i64 r)∧Drawn0 w w':=by
 have HR0:=Aside0.mk hr0
 have HC0:=Aside0.mk hc0
 clear hr0 hc0
 have H:(laws_heldIntS.l0 k l0 a1 0)=some r:=h
 clear h
 have H':=Aside0.mk H
 clear H
 go_enter Try.func30,Try.ntmps30
 go_wp2
 go_loopg [1,5] k (fun kq v1 v5 w' => ∃ (x1_1:Int) (x5_1:Int),v1=.int .i64 x1_1∧v5=.int .i64 x5_1∧Aside0 (laws_heldIntS.l0 kq l0 x1_1 x5_1=some r)∧Aside0 (kq≤k)∧Drawn0 w w')
 case atStart=>exact⟨(a1),(0),(bR),(bR),H',⟨Nat.le_refl _⟩,bW⟩
 case round =>
  clear H'
  try clear p2
  obtain⟨x1_1,x5_1,rfl,rfl,HA,HK1,⟨m1,rfl⟩⟩:=hrel
  cases gk with
  | zero=>exact absurd HA.out (by simp[laws_heldIntS.l0])
  | succ k1 =>
   have H:=HA.out
   clear HA
   simp only[laws_heldIntS.l0] at H
   by_cases c3:x5_1 < (l0.length:Int)
   ·rw[if_pos c3] at H
    have c3b0:decide (x5_1 < (l0.length:Int))=true:=decide_eq_true c3
    clear c3
    by_cases c4:0≤x5_1
    ·rw[if_pos c4] at H
     have c4b0:decide (0≤x5_1)=true:=decide_eq_true c4
     clear c4
     by_cases c5:(rd l0 x5_1)=x1_1
     ·rw[if_pos c5] at H
      have c5b0:((rd l0 x5_1) == x1_1)=true:=beq_iff_eq.mpr c5
      have c5b1:((rd l0 x5_1) != x1_1)=false:=bne_eq_false_iff_eq.mpr c5
      clear c5
      have H':=Aside0.mk H
      clear H
      have p230:0≤(x5_1:Int):=of_decide_eq_true (bD)
      have q230:x5_1 < (l0.length:Int):=of_decide_eq_true (bD)
      obtain⟨ad230,e230,hx230_0⟩:=Kd.at_int HR0.out x5_1 p230 q230
      cases e230
      replace p230:=eq_true p230
      replace q230:=eq_true q230
      go_wp2
      go_roundg k1
      case measure=>have:=HK1.out;omega
      case rel=>exact⟨(wrap64 (x1_1+1)),(wrap64 (x5_1+1)),(bR),(bR),H',⟨by have:=HK1.out;omega⟩,bW⟩
     ·rw[if_neg c5] at H
      have c5b0:((rd l0 x5_1) == x1_1)=false:=beq_eq_false_iff_ne.mpr c5
      have c5b1:((rd l0 x5_1) != x1_1)=true:=bne_iff_ne.mpr c5
      obtain rfl:=Option.some.inj H
      have p230:0≤(x5_1:Int):=of_decide_eq_true (bD)
      have q230:x5_1 < (l0.length:Int):=of_decide_eq_true (bD)
      obtain⟨ad230,e230,hx230_0⟩:=Kd.at_int HR0.out x5_1 p230 q230
      cases e230
      replace p230:=eq_true p230
      replace q230:=eq_true q230
      go_wp2
      go_ret
      exact⟨bR,bW⟩
    ·rw[if_neg c4] at H
     exact absurd H (by simp)
   ·rw[if_neg c3] at H
    have c3b0:decide (x5_1 < (l0.length:Int))=false:=decide_eq_false c3
    clear c3
    obtain rfl:=Option.some.inj H
    go_wp2
    go_ret
    exact⟨bR,bW⟩

/-! ### laws_heldQueueS: function 83 -/
def laws_heldQueueS.l0:Nat→List (S116)→Int→Int→Option (Int)
 | 0,_,_,_=>none
 | k+1,x0,x1,x5=>if x5 < (x0.length:Int) then (if 0≤x5 then ((laws_heldIntS.f k ((rd_T116 x0 x5).f0) x1).bind fun t232=>(if t232 < 0 then (some (-1)) else (if ((rd_T116 x0 x5).f1)=t232 then (if ((rd_T116 x0 x5).f2)=(wrap64 (t232+1)) then (laws_heldQueueS.l0 k x0 (wrap64 ((wrap64 (t232+1))+1)) (wrap64 (x5+1))) else (some (-1))) else (some (-1))))) else (none)) else (some x1)
def laws_heldQueueS.f (k:Nat) (l0:List (S116)) (a1:Int):Option (Int):=laws_heldQueueS.l0 k l0 a1 0
theorem laws_heldQueueS.mono_l : ∀ k,(∀ y0 y1 y2,LeO (laws_heldQueueS.l0 k y0 y1 y2) (laws_heldQueueS.l0 (k+1) y0 y1 y2))
 | 0=>fun _ _ _ r h=>by simp[laws_heldQueueS.l0] at h
 | k+1=>by
  have ih0:=laws_heldQueueS.mono_l k
  ·intro y0 y1 y2
   unfold laws_heldQueueS.l0
   repeat' first
   | (with_reducible exact ih0 _ _ _)
   | (with_reducible exact laws_heldIntS.mono _ _ _)
   | (with_reducible exact LeO.refl _)
   | (with_reducible exact LeO.none _)
   | (with_reducible refine LeO.ite ?_ ?_)
   | (with_reducible refine LeO.bind ?_ (fun _ => ?_))
   | exact ih0 _ _ _
   | exact laws_heldIntS.mono _ _ _
   | exact LeO.none _
   | refine LeO.ite ?_ ?_
   | refine LeO.bind ?_ (fun _ => ?_)
theorem laws_heldQueueS.mono : ∀ a0 a1 k,LeO (laws_heldQueueS.f k a0 a1) (laws_heldQueueS.f (k+1) a0 a1):=by
 intro a0 a1 k
 have ih0:=laws_heldQueueS.mono_l k
 unfold laws_heldQueueS.f
 repeat' first
  | (with_reducible exact ih0 _ _ _)
  | (with_reducible exact laws_heldIntS.mono _ _ _)
  | (with_reducible exact LeO.refl _)
  | (with_reducible exact LeO.none _)
  | (with_reducible refine LeO.ite ?_ ?_)
  | (with_reducible refine LeO.bind ?_ (fun _ => ?_))
  | exact ih0 _ _ _
  | exact laws_heldIntS.mono _ _ _
  | exact LeO.none _
  | refine LeO.ite ?_ ?_
  | refine LeO.bind ?_ (fun _ => ?_)
set_option maxHeartbeats 8000000 in
set_option maxRecDepth 100000 in
theorem laws_heldQueueS.calls (k:Nat) (A0:Option Addr) (c0:Nat) (l0:List (S116)) (a1:Int) (r:Int) (w:World) (hr0:Kd.C k116 w A0 l0.length l0) (hc0:l0.length≤c0) (h:laws_heldQueueS.f k l0 a1=some r) :
  Calls Try.prog 83 #[.slice A0 l0.length c0,.int .i64 a1] w fun e w'=>e=.returned (.int .i64 r)∧Drawn0 w w':=by
 have HR0:=Aside0.mk hr0
 have HC0:=Aside0.mk hc0
 clear hr0 hc0
 have H:(laws_heldQueueS.l0 k l0 a1 0)=some r:=h
 clear h
 have H':=Aside0.mk H
 clear H
 go_enter Try.func83,Try.ntmps83
 go_wp2
 go_loopg [1,5] k (fun kq v1 v5 w' => ∃ (x1_1:Int) (x5_1:Int),v1=.int .i64 x1_1∧v5=.int .i64 x5_1∧Aside0 (laws_heldQueueS.l0 kq l0 x1_1 x5_1=some r)∧Aside0 (kq≤k)∧Drawn0 w w')
 case atStart=>exact⟨(a1),(0),(bR),(bR),H',⟨Nat.le_refl _⟩,bW⟩
 case round =>
  clear H'
  try clear p2
  obtain⟨x1_1,x5_1,rfl,rfl,HA,HK1,⟨m1,rfl⟩⟩:=hrel
  cases gk with
  | zero=>exact absurd HA.out (by simp[laws_heldQueueS.l0])
  | succ k1 =>
   have H:=HA.out
   clear HA
   simp only[laws_heldQueueS.l0] at H
   by_cases c3:x5_1 < (l0.length:Int)
   ·rw[if_pos c3] at H
    have c3b0:decide (x5_1 < (l0.length:Int))=true:=decide_eq_true c3
    clear c3
    by_cases c4:0≤x5_1
    ·rw[if_pos c4] at H
     have c4b0:decide (0≤x5_1)=true:=decide_eq_true c4
     clear c4
     replace H:=Option.bind_eq_some_iff.mp H
     obtain⟨t232,A50,H⟩:=H
     replace H:(if t232 < 0 then (some (-1)) else (if ((rd_T116 l0 x5_1).f1)=t232 then (if ((rd_T116 l0 x5_1).f2)=(wrap64 (t232+1)) then (laws_heldQueueS.l0 k1 l0 (wrap64 ((wrap64 (t232+1))+1)) (wrap64 (x5_1+1))) else (some (-1))) else (some (-1))))=some r:=H
     have A5:=Aside0.mk A50
     clear A50
     by_cases c6:t232 < 0
     ·rw[if_pos c6] at H
      have c6b0:decide (t232 < 0)=true:=decide_eq_true c6
      clear c6
      obtain rfl:=Option.some.inj H
      have p231:0≤(x5_1:Int):=of_decide_eq_true (bD)
      have q231:x5_1 < (l0.length:Int):=of_decide_eq_true (bD)
      obtain⟨ad231,A231_0,c231_0,e231,hx231_0,hx231_1,hx231_2,hl231_0,hi231_0⟩:=at_T116 HR0.out x5_1 p231 q231
      cases e231
      have HR231_0:=Aside0.mk hi231_0
      have HC231_0:=Aside0.mk hl231_0
      clear hi231_0 hl231_0
      replace p231:=eq_true p231
      replace q231:=eq_true q231
      go_wp2_with (first|((with_reducible refine gate_callee (f:=30) rfl ?_);refine goesA (some 18) rfl rfl Try.func30 #[.slice A231_0 ((rd_T116 l0 x5_1).f0).length c231_0,.int .i64 x1_1] rfl ?_;(with_reducible refine(laws_heldIntS.calls k1 _ _ ((rd_T116 l0 x5_1).f0) x1_1 t232 _ ?side1 ?side2 A5.out).mono ?_);(case side1=>repeat (first|exact HR231_0.out|(with_reducible refine Kd.C_alloc ?_ _)|(with_reducible refine Kd.C_drewN ?_ _)|(with_reducible refine Kd.C_drew ?_)));(case side2=>exact HC231_0.out);rintro e w' ⟨rfl,⟨nd,rfl⟩⟩;refine⟨_,rfl,?_⟩))
      go_ret
      exact⟨bR,bW⟩
     ·rw[if_neg c6] at H
      have c6b0:decide (t232 < 0)=false:=decide_eq_false c6
      clear c6
      by_cases c7:((rd_T116 l0 x5_1).f1)=t232
      ·rw[if_pos c7] at H
       have c7b0:(((rd_T116 l0 x5_1).f1) == t232)=true:=beq_iff_eq.mpr c7
       have c7b1:(((rd_T116 l0 x5_1).f1) != t232)=false:=bne_eq_false_iff_eq.mpr c7
       clear c7
       by_cases c8:((rd_T116 l0 x5_1).f2)=(wrap64 (t232+1))
       ·rw[if_pos c8] at H
        have c8b0:(((rd_T116 l0 x5_1).f2) == (wrap64 (t232+1)))=true:=beq_iff_eq.mpr c8
        have c8b1:(((rd_T116 l0 x5_1).f2) != (wrap64 (t232+1)))=false:=bne_eq_false_iff_eq.mpr c8
        clear c8
        have H':=Aside0.mk H
        clear H
        have p231:0≤(x5_1:Int):=of_decide_eq_true (bD)
        have q231:x5_1 < (l0.length:Int):=of_decide_eq_true (bD)
        obtain⟨ad231,A231_0,c231_0,e231,hx231_0,hx231_1,hx231_2,hl231_0,hi231_0⟩:=at_T116 HR0.out x5_1 p231 q231
        cases e231
        have HR231_0:=Aside0.mk hi231_0
        have HC231_0:=Aside0.mk hl231_0
        clear hi231_0 hl231_0
        replace p231:=eq_true p231
        replace q231:=eq_true q231
        go_wp2_with (first|((with_reducible refine gate_callee (f:=30) rfl ?_);refine goesA (some 18) rfl rfl Try.func30 #[.slice A231_0 ((rd_T116 l0 x5_1).f0).length c231_0,.int .i64 x1_1] rfl ?_;(with_reducible refine(laws_heldIntS.calls k1 _ _ ((rd_T116 l0 x5_1).f0) x1_1 t232 _ ?side1 ?side2 A5.out).mono ?_);(case side1=>repeat (first|exact HR231_0.out|(with_reducible refine Kd.C_alloc ?_ _)|(with_reducible refine Kd.C_drewN ?_ _)|(with_reducible refine Kd.C_drew ?_)));(case side2=>exact HC231_0.out);rintro e w' ⟨rfl,⟨nd,rfl⟩⟩;refine⟨_,rfl,?_⟩;have p233:0≤(x5_1:Int):=of_decide_eq_true (bD);have q233:x5_1 < (l0.length:Int):=of_decide_eq_true (bD);obtain⟨ad233,A233_0,c233_0,e233,hx233_0,hx233_1,hx233_2,hl233_0,hi233_0⟩:=at_T116 HR0.out x5_1 p233 q233;obtain rfl:ad231=ad233:=(by injection e233);have HR233_0:=Aside0.mk hi233_0;have HC233_0:=Aside0.mk hl233_0;clear hi233_0 hl233_0;replace p233:=eq_true p233;replace q233:=eq_true q233;have ea_:=Option.some.inj (hx231_0.symm.trans hx233_0);injection ea_ with ea_ en_ ec_;subst ea_;subst ec_;clear en_;have p234:0≤(x5_1:Int):=of_decide_eq_true (bD);have q234:x5_1 < (l0.length:Int):=of_decide_eq_true (bD);obtain⟨ad234,A234_0,c234_0,e234,hx234_0,hx234_1,hx234_2,hl234_0,hi234_0⟩:=at_T116 HR0.out x5_1 p234 q234;obtain rfl:ad231=ad234:=(by injection e234);have HR234_0:=Aside0.mk hi234_0;have HC234_0:=Aside0.mk hl234_0;clear hi234_0 hl234_0;replace p234:=eq_true p234;replace q234:=eq_true q234;have ea_:=Option.some.inj (hx231_0.symm.trans hx234_0);injection ea_ with ea_ en_ ec_;subst ea_;subst ec_;clear en_))
        go_roundg k1
        case measure=>have:=HK1.out;omega
        case rel=>exact⟨(wrap64 ((wrap64 (t232+1))+1)),(wrap64 (x5_1+1)),(bR),(bR),H',⟨by have:=HK1.out;omega⟩,bW⟩
       ·rw[if_neg c8] at H
        have c8b0:(((rd_T116 l0 x5_1).f2) == (wrap64 (t232+1)))=false:=beq_eq_false_iff_ne.mpr c8
        have c8b1:(((rd_T116 l0 x5_1).f2) != (wrap64 (t232+1)))=true:=bne_iff_ne.mpr c8
        obtain rfl:=Option.some.inj H
        have p231:0≤(x5_1:Int):=of_decide_eq_true (bD)
        have q231:x5_1 < (l0.length:Int):=of_decide_eq_true (bD)
        obtain⟨ad231,A231_0,c231_0,e231,hx231_0,hx231_1,hx231_2,hl231_0,hi231_0⟩:=at_T116 HR0.out x5_1 p231 q231
        cases e231
        have HR231_0:=Aside0.mk hi231_0
        have HC231_0:=Aside0.mk hl231_0
        clear hi231_0 hl231_0
        replace p231:=eq_true p231
        replace q231:=eq_true q231
        go_wp2_with (first|((with_reducible refine gate_callee (f:=30) rfl ?_);refine goesA (some 18) rfl rfl Try.func30 #[.slice A231_0 ((rd_T116 l0 x5_1).f0).length c231_0,.int .i64 x1_1] rfl ?_;(with_reducible refine(laws_heldIntS.calls k1 _ _ ((rd_T116 l0 x5_1).f0) x1_1 t232 _ ?side1 ?side2 A5.out).mono ?_);(case side1=>repeat (first|exact HR231_0.out|(with_reducible refine Kd.C_alloc ?_ _)|(with_reducible refine Kd.C_drewN ?_ _)|(with_reducible refine Kd.C_drew ?_)));(case side2=>exact HC231_0.out);rintro e w' ⟨rfl,⟨nd,rfl⟩⟩;refine⟨_,rfl,?_⟩;have p233:0≤(x5_1:Int):=of_decide_eq_true (bD);have q233:x5_1 < (l0.length:Int):=of_decide_eq_true (bD);obtain⟨ad233,A233_0,c233_0,e233,hx233_0,hx233_1,hx233_2,hl233_0,hi233_0⟩:=at_T116 HR0.out x5_1 p233 q233;obtain rfl:ad231=ad233:=(by injection e233);have HR233_0:=Aside0.mk hi233_0;have HC233_0:=Aside0.mk hl233_0;clear hi233_0 hl233_0;replace p233:=eq_true p233;replace q233:=eq_true q233;have ea_:=Option.some.inj (hx231_0.symm.trans hx233_0);injection ea_ with ea_ en_ ec_;subst ea_;subst ec_;clear en_;have p234:0≤(x5_1:Int):=of_decide_eq_true (bD);have q234:x5_1 < (l0.length:Int):=of_decide_eq_true (bD);obtain⟨ad234,A234_0,c234_0,e234,hx234_0,hx234_1,hx234_2,hl234_0,hi234_0⟩:=at_T116 HR0.out x5_1 p234 q234;obtain rfl:ad231=ad234:=(by injection e234);have HR234_0:=Aside0.mk hi234_0;have HC234_0:=Aside0.mk hl234_0;clear hi234_0 hl234_0;replace p234:=eq_true p234;replace q234:=eq_true q234;have ea_:=Option.some.inj (hx231_0.symm.trans hx234_0);injection ea_ with ea_ en_ ec_;subst ea_;subst ec_;clear en_))
        go_ret
        exact⟨bR,bW⟩
      ·rw[if_neg c7] at H
       have c7b0:(((rd_T116 l0 x5_1).f1) == t232)=false:=beq_eq_false_iff_ne.mpr c7
       have c7b1:(((rd_T116 l0 x5_1).f1) != t232)=true:=bne_iff_ne.mpr c7
       obtain rfl:=Option.some.inj H
       have p231:0≤(x5_1:Int):=of_decide_eq_true (bD)
       have q231:x5_1 < (l0.length:Int):=of_decide_eq_true (bD)
       obtain⟨ad231,A231_0,c231_0,e231,hx231_0,hx231_1,hx231_2,hl231_0,hi231_0⟩:=at_T116 HR0.out x5_1 p231 q231
       cases e231
       have HR231_0:=Aside0.mk hi231_0
       have HC231_0:=Aside0.mk hl231_0
       clear hi231_0 hl231_0
       replace p231:=eq_true p231
       replace q231:=eq_true q231
       go_wp2_with (first|((with_reducible refine gate_callee (f:=30) rfl ?_);refine goesA (some 18) rfl rfl Try.func30 #[.slice A231_0 ((rd_T116 l0 x5_1).f0).length c231_0,.int .i64 x1_1] rfl ?_;(with_reducible refine(laws_heldIntS.calls k1 _ _ ((rd_T116 l0 x5_1).f0) x1_1 t232 _ ?side1 ?side2 A5.out).mono ?_);(case side1=>repeat (first|exact HR231_0.out|(with_reducible refine Kd.C_alloc ?_ _)|(with_reducible refine Kd.C_drewN ?_ _)|(with_reducible refine Kd.C_drew ?_)));(case side2=>exact HC231_0.out);rintro e w' ⟨rfl,⟨nd,rfl⟩⟩;refine⟨_,rfl,?_⟩;have p233:0≤(x5_1:Int):=of_decide_eq_true (bD);have q233:x5_1 < (l0.length:Int):=of_decide_eq_true (bD);obtain⟨ad233,A233_0,c233_0,e233,hx233_0,hx233_1,hx233_2,hl233_0,hi233_0⟩:=at_T116 HR0.out x5_1 p233 q233;obtain rfl:ad231=ad233:=(by injection e233);have HR233_0:=Aside0.mk hi233_0;have HC233_0:=Aside0.mk hl233_0;clear hi233_0 hl233_0;replace p233:=eq_true p233;replace q233:=eq_true q233;have ea_:=Option.some.inj (hx231_0.symm.trans hx233_0);injection ea_ with ea_ en_ ec_;subst ea_;subst ec_;clear en_))
       go_ret
       exact⟨bR,bW⟩
    ·rw[if_neg c4] at H
     exact absurd H (by simp)
   ·rw[if_neg c3] at H
    have c3b0:decide (x5_1 < (l0.length:Int))=false:=decide_eq_false c3
    clear c3
    obtain rfl:=Option.some.inj H
    go_wp2
    go_ret
    exact⟨bR,bW⟩

/-! ### laws_heldTurns: function 21 -/
def laws_heldTurns.f (k:Nat) (a0_0:Int) (l0_1:List (S116)) (a0_2:Int) (a1:Int):Option (Int):=(laws_heldQueueS.f k l0_1 a1).bind fun t236=>(if t236 < 0 then (some (-1)) else (some t236))
theorem laws_heldTurns.mono : ∀ a0 a1 a2 a3 k,LeO (laws_heldTurns.f k a0 a1 a2 a3) (laws_heldTurns.f (k+1) a0 a1 a2 a3):=by
 intro a0 a1 a2 a3 k
 unfold laws_heldTurns.f
 repeat' first
  | (with_reducible exact laws_heldQueueS.mono _ _ _)
  | (with_reducible exact LeO.refl _)
  | (with_reducible exact LeO.none _)
  | (with_reducible refine LeO.ite ?_ ?_)
  | (with_reducible refine LeO.bind ?_ (fun _ => ?_))
  | exact laws_heldQueueS.mono _ _ _
  | exact LeO.none _
  | refine LeO.ite ?_ ?_
  | refine LeO.bind ?_ (fun _ => ?_)
set_option maxHeartbeats 8000000 in
set_option maxRecDepth 100000 in
theorem laws_heldTurns.calls (k:Nat) (a0_0:Int) (A0_1:Option Addr) (c0_1:Nat) (l0_1:List (S116)) (a0_2:Int) (a1:Int) (r:Int) (w:World) (hr0_1:Kd.C k116 w A0_1 l0_1.length l0_1) (hc0_1:l0_1.length≤c0_1) (h:laws_heldTurns.f k a0_0 l0_1 a0_2 a1=some r) :
  Calls Try.prog 21 #[.agg #[.int .i64 a0_0,.slice A0_1 l0_1.length c0_1,.int .i64 a0_2],.int .i64 a1] w fun e w'=>e=.returned (.int .i64 r)∧Below w.heap.size w w':=by
 have hu28:=Try.underlying28
 have HR0_1:=Aside0.mk hr0_1
 have HC0_1:=Aside0.mk hc0_1
 clear hr0_1 hc0_1
 have HB:=Aside0.mk (Below.refl w.heap.size w)
 have H:((laws_heldQueueS.f k l0_1 a1).bind fun t236=>(if t236 < 0 then (some (-1)) else (some t236)))=some r:=h
 clear h
 replace H:=Option.bind_eq_some_iff.mp H
 obtain⟨t236,A30,H⟩:=H
 replace H:(if t236 < 0 then (some (-1)) else (some t236))=some r:=H
 have A3:=Aside0.mk A30
 clear A30
 by_cases c4:t236 < 0
 ·rw[if_pos c4] at H
  have c4b0:decide (t236 < 0)=true:=decide_eq_true c4
  clear c4
  obtain rfl:=Option.some.inj H
  go_enter Try.func21,Try.ntmps21
  go_wp2_with (first|((with_reducible refine gate_dst (N:=2) rfl ?_);refine box_event ?hg (N:=2) ?hd (cs:=#[.int .i64 a0_0,.slice A0_1 l0_1.length c0_1,.int .i64 a0_2]) (t:=28) ?hr ?_;(case hd=>rfl);(case hg=>rfl);(case hr=>first|(go_simp;done)|(go_simp;rfl));intro gb235 hg w5 hbox hb;have n0_:=Aside0.mk (below_step (bB) hb);have n1_:=Aside0.mk (hbox);have n2_:=Aside0.mk ((bG:w.heap.size≤gb235));have n3_:=Aside0.mk ((bG:w.heap.size≤gb235));clear HB;have HB:=n0_;have BK235:=n1_;have GW235:=n2_;have GE235:=n3_;clear n0_ n1_ n2_ n3_;clear hb hbox hg;obtain⟨hcz6_0,hcz6_1,hcz6_2⟩:=cC3 BK235.out;obtain⟨hfz6_0,hfz6_1,hfz6_2⟩:=cF3 BK235.out)|((with_reducible refine gate_callee (f:=83) rfl ?_);refine goesA (some 8) rfl rfl Try.func83 #[.slice A0_1 l0_1.length c0_1,.int .i64 a1] rfl ?_;(with_reducible refine(laws_heldQueueS.calls k _ _ l0_1 a1 t236 _ ?side1 ?side2 A3.out).mono ?_);(case side1=>exact bC HR0_1.out);(case side2=>exact HC0_1.out);rintro e w' ⟨rfl,⟨nd,rfl⟩⟩;refine⟨_,rfl,?_⟩))
  go_ret
  exact⟨bE,bS GE235.out⟩
 ·rw[if_neg c4] at H
  have c4b0:decide (t236 < 0)=false:=decide_eq_false c4
  clear c4
  obtain rfl:=Option.some.inj H
  go_enter Try.func21,Try.ntmps21
  go_wp2_with (first|((with_reducible refine gate_dst (N:=2) rfl ?_);refine box_event ?hg (N:=2) ?hd (cs:=#[.int .i64 a0_0,.slice A0_1 l0_1.length c0_1,.int .i64 a0_2]) (t:=28) ?hr ?_;(case hd=>rfl);(case hg=>rfl);(case hr=>first|(go_simp;done)|(go_simp;rfl));intro gb235 hg w7 hbox hb;have n0_:=Aside0.mk (below_step (bB) hb);have n1_:=Aside0.mk (hbox);have n2_:=Aside0.mk ((bG:w.heap.size≤gb235));have n3_:=Aside0.mk ((bG:w.heap.size≤gb235));clear HB;have HB:=n0_;have BK235:=n1_;have GW235:=n2_;have GE235:=n3_;clear n0_ n1_ n2_ n3_;clear hb hbox hg;obtain⟨hcz8_0,hcz8_1,hcz8_2⟩:=cC3 BK235.out;obtain⟨hfz8_0,hfz8_1,hfz8_2⟩:=cF3 BK235.out)|((with_reducible refine gate_callee (f:=83) rfl ?_);refine goesA (some 8) rfl rfl Try.func83 #[.slice A0_1 l0_1.length c0_1,.int .i64 a1] rfl ?_;(with_reducible refine(laws_heldQueueS.calls k _ _ l0_1 a1 t236 _ ?side1 ?side2 A3.out).mono ?_);(case side1=>exact bC HR0_1.out);(case side2=>exact HC0_1.out);rintro e w' ⟨rfl,⟨nd,rfl⟩⟩;refine⟨_,rfl,?_⟩))
  go_ret
  exact⟨bE,bS GE235.out⟩

end Go.Proofs.Yteneeohaoplpbaa.XFnExactPutLong
