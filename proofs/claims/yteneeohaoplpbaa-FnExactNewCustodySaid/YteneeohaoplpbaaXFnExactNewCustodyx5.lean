-- Written by this session's own program (wip/xprint.py) out of the translation; Lean checks it.
import Derived.Test.YteneeohaoplpbaaXFnExactNewCustodyx0
import Derived.Test.YteneeohaoplpbaaXFnExactNewCustodyx1
import Derived.Test.YteneeohaoplpbaaXFnExactNewCustodyx4
namespace Go.Proofs.Yteneeohaoplpbaa.XFnExactNewCustody
open Go.RowKit Go.Proofs.YteneeohaoplpbaaW.PrintWords Go.Proofs.YteneeohaoplpbaaW.PrintLast Go.Proofs.YteneeohaoplpbaaW.PrintMore
attribute [local go_sem] max2_int min2_int max_two min_two max_three min_three max_four min_four   -- for this text's walks alone
set_option linter.unusedVariables false
set_option linter.unusedSimpArgs false

/-! ### laws_eqSlipS: function 100 -/
def laws_eqSlipS.l0:Nat→List (S182)→List (S182)→Int→Option (Bool)
 | 0,_,_,_=>none
 | k+1,x0,x1,x5=>if x5 < (x0.length:Int) then (if 0≤x5 then (if x5 < (x1.length:Int) then ((laws_eqSlip.f ((rd_T182 x0 x5).f0) ((rd_T182 x0 x5).f1) ((rd_T182 x0 x5).f2) ((rd_T182 x0 x5).f3) ((rd_T182 x1 x5).f0) ((rd_T182 x1 x5).f1) ((rd_T182 x1 x5).f2) ((rd_T182 x1 x5).f3)).bind fun t157=>(if t157=true then (laws_eqSlipS.l0 k x0 x1 (wrap64 (x5+1))) else (some false))) else (none)) else (none)) else (some true)
def laws_eqSlipS.f (k:Nat) (l0:List (S182)) (l1:List (S182)):Option (Bool):=if (l0.length:Int)=(l1.length:Int) then (laws_eqSlipS.l0 k l0 l1 0) else (some false)
theorem laws_eqSlipS.mono_l : ∀ k,(∀ y0 y1 y2,LeO (laws_eqSlipS.l0 k y0 y1 y2) (laws_eqSlipS.l0 (k+1) y0 y1 y2))
 | 0=>fun _ _ _ r h=>by simp[laws_eqSlipS.l0] at h
 | k+1=>by
  have ih0:=laws_eqSlipS.mono_l k
  ·intro y0 y1 y2
   unfold laws_eqSlipS.l0
   repeat' first
   | (with_reducible exact ih0 _ _ _)
   | (with_reducible exact LeO.refl _)
   | (with_reducible exact LeO.none _)
   | (with_reducible refine LeO.ite ?_ ?_)
   | (with_reducible refine LeO.bind ?_ (fun _ => ?_))
   | exact ih0 _ _ _
   | exact LeO.none _
   | refine LeO.ite ?_ ?_
   | refine LeO.bind ?_ (fun _ => ?_)
theorem laws_eqSlipS.mono : ∀ a0 a1 k,LeO (laws_eqSlipS.f k a0 a1) (laws_eqSlipS.f (k+1) a0 a1):=by
 intro a0 a1 k
 have ih0:=laws_eqSlipS.mono_l k
 unfold laws_eqSlipS.f
 repeat' first
  | (with_reducible exact ih0 _ _ _)
  | (with_reducible exact LeO.refl _)
  | (with_reducible exact LeO.none _)
  | (with_reducible refine LeO.ite ?_ ?_)
  | (with_reducible refine LeO.bind ?_ (fun _ => ?_))
  | exact ih0 _ _ _
  | exact LeO.none _
  | refine LeO.ite ?_ ?_
  | refine LeO.bind ?_ (fun _ => ?_)
def laws_eqSlipS.T6:Bool × List (List Nat × List Nat):=(true,[([],[]),([],[]),([0,1],[0,1]),([2],[2]),([],[]),([],[]),([4,5],[4,5]),([6],[6]),([3,7],[3,7]),([8],[8])])
def laws_eqSlipS.B6:List Nat:=[0,0,3,7,0,0,48,112,255,511]
theorem laws_eqSlipS.tab6:rtab .any (opsOf Try.f100 6)=laws_eqSlipS.T6:=by kernel_rfl
theorem laws_eqSlipS.bits6:waitsOk laws_eqSlipS.T6.2 laws_eqSlipS.B6=true:=by kernel_rfl
set_option maxHeartbeats 8000000 in
set_option maxRecDepth 100000 in
theorem laws_eqSlipS.calls (k:Nat) (A0:Option Addr) (c0:Nat) (l0:List (S182)) (A1:Option Addr) (c1:Nat) (l1:List (S182)) (r:Bool) (w:World) (hr0:Kd.C k182 w A0 l0.length l0) (hc0:l0.length≤c0) (hr1:Kd.C k182 w A1 l1.length l1) (hc1:l1.length≤c1) (h:laws_eqSlipS.f k l0 l1=some r) :
  Calls Try.prog 100 #[.slice A0 l0.length c0,.slice A1 l1.length c1] w fun e w'=>e=.returned (.bool r)∧Below w.heap.size w w':=by
 have hu182:=Try.underlying182
 have HR0:=Aside0.mk hr0
 have HC0:=Aside0.mk hc0
 clear hr0 hc0
 have HR1:=Aside0.mk hr1
 have HC1:=Aside0.mk hc1
 clear hr1 hc1
 have HB:=Aside0.mk (Below.refl w.heap.size w)
 have H:(if (l0.length:Int)=(l1.length:Int) then (laws_eqSlipS.l0 k l0 l1 0) else (some false))=some r:=h
 clear h
 by_cases c3:(l0.length:Int)=(l1.length:Int)
 ·rw[if_pos c3] at H
  have c3b0:((l0.length:Int) == (l1.length:Int))=true:=beq_iff_eq.mpr c3
  have c3b1:((l0.length:Int) != (l1.length:Int))=false:=bne_eq_false_iff_eq.mpr c3
  have c3b2:(l0.length == l1.length)=true:=by first|simpa using c3|(simp at c3 ⊢;omega)
  clear c3
  have H':=Aside0.mk H
  clear H
  go_enter Try.func100,Try.ntmps100
  go_wp2
  go_loopg [5] k (fun kq v5 w' => ∃ (x5_1:Int),v5=.int .i64 x5_1∧Aside0 (laws_eqSlipS.l0 kq l0 l1 x5_1=some r)∧Aside0 (kq≤k)∧Aside0 (Below w.heap.size w w'))
  case atStart=>exact⟨(0),(bR),H',⟨Nat.le_refl _⟩,⟨by repeat (first|(with_reducible first|exact HB.out|apply below_alloc|apply pw_below_drewN|apply below_drew1)|exact HB.out)⟩⟩
  case round =>
   clear H'
   try clear c1
   try clear p2
   try clear c3
   try clear c3b0
   try clear c3b1
   try clear c3b2
   obtain⟨x5_1,rfl,HA,HK1,HB⟩:=hrel
   cases gk with
   | zero=>exact absurd HA.out (by simp[laws_eqSlipS.l0])
   | succ k1 =>
    have H:=HA.out
    clear HA
    simp only[laws_eqSlipS.l0] at H
    by_cases c4:x5_1 < (l0.length:Int)
    ·rw[if_pos c4] at H
     have c4b0:decide (x5_1 < (l0.length:Int))=true:=decide_eq_true c4
     clear c4
     by_cases c5:0≤x5_1
     ·rw[if_pos c5] at H
      have c5b0:decide (0≤x5_1)=true:=decide_eq_true c5
      clear c5
      by_cases c6:x5_1 < (l1.length:Int)
      ·rw[if_pos c6] at H
       have c6b0:decide (x5_1 < (l1.length:Int))=true:=decide_eq_true c6
       clear c6
       replace H:=Option.bind_eq_some_iff.mp H
       obtain⟨t157,A70,H⟩:=H
       have A7:=Aside0.mk A70
       clear A70
       by_cases c8:t157=true
       ·subst c8
        have H1:(laws_eqSlipS.l0 k1 l0 l1 (wrap64 (x5_1+1)))=some r:=by rw[if_pos rfl] at H;exact H
        clear H
        have H:=H1
        clear H1
        have H':=Aside0.mk H
        clear H
        try go_wp2
        (try (rw[drewN_self wr];generalize hq_:World.drewN wr _=wr;have n0_:=Aside0.mk (below_at hq_ HB.out);clear hq_ HB;have HB:=n0_;clear n0_))
        have n0_:=Aside0.mk (below_drew1 HB.out)
        clear HB
        have HB:=n0_
        clear n0_
        have p155:0≤(x5_1:Int):=of_decide_eq_true (bD)
        have q155:x5_1 < (l0.length:Int):=of_decide_eq_true (bD)
        obtain⟨ad155,e155,hx155_0,hx155_1,hx155_2,hx155_3⟩:=at_T182 HR0.out x5_1 p155 q155
        have hw155_3:=hx155_3
        have hw155_2:=hx155_2
        have hw155_1:=hx155_1
        have hw155_0:=hx155_0
        cases e155
        replace hx155_0:=(HB.out.cell (World.block_lt_of_cell? w _ hx155_0)).trans hx155_0
        replace hx155_1:=(HB.out.cell (World.block_lt_of_cell? w _ hx155_1)).trans hx155_1
        replace hx155_2:=(HB.out.cell (World.block_lt_of_cell? w _ hx155_2)).trans hx155_2
        replace hx155_3:=(HB.out.cell (World.block_lt_of_cell? w _ hx155_3)).trans hx155_3
        replace p155:=eq_true p155
        replace q155:=eq_true q155
        have p156:0≤(x5_1:Int):=of_decide_eq_true (bD)
        have q156:x5_1 < (l1.length:Int):=of_decide_eq_true (bD)
        obtain⟨ad156,e156,hx156_0,hx156_1,hx156_2,hx156_3⟩:=at_T182 HR1.out x5_1 p156 q156
        have hw156_3:=hx156_3
        have hw156_2:=hx156_2
        have hw156_1:=hx156_1
        have hw156_0:=hx156_0
        cases e156
        replace hx156_0:=(HB.out.cell (World.block_lt_of_cell? w _ hx156_0)).trans hx156_0
        replace hx156_1:=(HB.out.cell (World.block_lt_of_cell? w _ hx156_1)).trans hx156_1
        replace hx156_2:=(HB.out.cell (World.block_lt_of_cell? w _ hx156_2)).trans hx156_2
        replace hx156_3:=(HB.out.cell (World.block_lt_of_cell? w _ hx156_3)).trans hx156_3
        replace p156:=eq_true p156
        replace q156:=eq_true q156
        refine start_ (n:=10) (S:=fun w'=>w'.cell? (ad155.add ((x5_1).toNat * 4))=some (.int .i64 ((rd_T182 l0 x5_1).f0))∧w'.cell? ⟨(ad155.add ((x5_1).toNat * 4)).block,(ad155.add ((x5_1).toNat * 4)).off+1,none⟩=some (.int .i64 ((rd_T182 l0 x5_1).f1))∧w'.cell? ⟨(ad155.add ((x5_1).toNat * 4)).block,(ad155.add ((x5_1).toNat * 4)).off+2,none⟩=some (.int .i64 ((rd_T182 l0 x5_1).f2))∧w'.cell? ⟨(ad155.add ((x5_1).toNat * 4)).block,(ad155.add ((x5_1).toNat * 4)).off+3,none⟩=some (.int .i64 ((rd_T182 l0 x5_1).f3))∧w'.cell? (ad156.add ((x5_1).toNat * 4))=some (.int .i64 ((rd_T182 l1 x5_1).f0))∧w'.cell? ⟨(ad156.add ((x5_1).toNat * 4)).block,(ad156.add ((x5_1).toNat * 4)).off+1,none⟩=some (.int .i64 ((rd_T182 l1 x5_1).f1))∧w'.cell? ⟨(ad156.add ((x5_1).toNat * 4)).block,(ad156.add ((x5_1).toNat * 4)).off+2,none⟩=some (.int .i64 ((rd_T182 l1 x5_1).f2))∧w'.cell? ⟨(ad156.add ((x5_1).toNat * 4)).block,(ad156.add ((x5_1).toNat * 4)).off+3,none⟩=some (.int .i64 ((rd_T182 l1 x5_1).f3))) (ds:=[]) #[false,false,false,false,false,false,false,false,false,false] (b1_) rfl rfl ⟨((HB.out.cell (World.block_lt_of_cell? w _ hw155_0)).trans hw155_0),((HB.out.cell (World.block_lt_of_cell? w _ hw155_1)).trans hw155_1),((HB.out.cell (World.block_lt_of_cell? w _ hw155_2)).trans hw155_2),((HB.out.cell (World.block_lt_of_cell? w _ hw155_3)).trans hw155_3),((HB.out.cell (World.block_lt_of_cell? w _ hw156_0)).trans hw156_0),((HB.out.cell (World.block_lt_of_cell? w _ hw156_1)).trans hw156_1),((HB.out.cell (World.block_lt_of_cell? w _ hw156_2)).trans hw156_2),((HB.out.cell (World.block_lt_of_cell? w _ hw156_3)).trans hw156_3)⟩ (fun hHeld => ?_);refine with_tabW laws_eqSlipS.tab6 laws_eqSlipS.bits6 (fun HT_ HW_ => ?_)
        generalize wr.drew=w9 at HB hx155_0 hx155_1 hx155_2 hx155_3 hx156_0 hx156_1 hx156_2 hx156_3 hHeld ⊢
        refine pure_ (i:=0) (N:=some 17) (v:=?_) (a':=?_) #[true,false,false,false,false,false,false,false,false,false] rfl rfl (any_of HT_.out (b1_)) (fun _ _ _ h=>h) (Or.inl ⟨by rfl,?_⟩) ?_ ?_
        rotate_left
        ·intro w'
         go_simp
         with_reducible rfl
        rotate_left
        ·simp only[Act.put,List.setIfInBounds_toArray,List.set_cons_zero,List.set_cons_succ,i64_w,i32_w]
         rfl
        refine pure_ (i:=1) (N:=some 18) (v:=?_) (a':=?_) #[true,true,false,false,false,false,false,false,false,false] rfl rfl (any_of HT_.out (b1_)) (fun _ _ _ h=>h) (Or.inl ⟨by rfl,?_⟩) ?_ ?_
        rotate_left
        ·intro w'
         go_simp
         with_reducible rfl
        rotate_left
        ·simp only[Act.put,List.setIfInBounds_toArray,List.set_cons_zero,List.set_cons_succ,i64_w,i32_w]
         rfl
        refine pure_ (i:=2) (N:=some 19) (v:=?_) (a':=?_) #[true,true,true,false,false,false,false,false,false,false] rfl rfl (any_of HT_.out (b1_)) (fun _ _ _ h=>h) (Or.inl ⟨by rfl,?_⟩) ?_ ?_
        rotate_left
        ·intro w'
         go_simp
         with_reducible rfl
        rotate_left
        ·simp only[Act.put,List.setIfInBounds_toArray,List.set_cons_zero,List.set_cons_succ,i64_w,i32_w]
         rfl
        refine pure_ (i:=4) (N:=some 21) (v:=?_) (a':=?_) #[true,true,true,false,true,false,false,false,false,false] rfl rfl (any_of HT_.out (b1_)) (fun _ _ _ h=>h) (Or.inl ⟨by rfl,?_⟩) ?_ ?_
        rotate_left
        ·intro w'
         go_simp
         with_reducible rfl
        rotate_left
        ·simp only[Act.put,List.setIfInBounds_toArray,List.set_cons_zero,List.set_cons_succ,i64_w,i32_w]
         rfl
        refine pure_ (i:=5) (N:=some 22) (v:=?_) (a':=?_) #[true,true,true,false,true,true,false,false,false,false] rfl rfl (any_of HT_.out (b1_)) (fun _ _ _ h=>h) (Or.inl ⟨by rfl,?_⟩) ?_ ?_
        rotate_left
        ·intro w'
         go_simp
         with_reducible rfl
        rotate_left
        ·simp only[Act.put,List.setIfInBounds_toArray,List.set_cons_zero,List.set_cons_succ,i64_w,i32_w]
         rfl
        refine pure_ (i:=6) (N:=some 23) (v:=?_) (a':=?_) #[true,true,true,false,true,true,true,false,false,false] rfl rfl (any_of HT_.out (b1_)) (fun _ _ _ h=>h) (Or.inl ⟨by rfl,?_⟩) ?_ ?_
        rotate_left
        ·intro w'
         go_simp
         with_reducible rfl
        rotate_left
        ·simp only[Act.put,List.setIfInBounds_toArray,List.set_cons_zero,List.set_cons_succ,i64_w,i32_w]
         rfl
        refine take_ (i:=3) (N:=some 20) (v:=?_) (a':=?_) #[true,true,true,true,true,true,true,false,false,false] rfl rfl (take_ofW HT_.out HW_.out (b1_)) (fun _ _ _ h=>h) (Or.inl ⟨by rfl,?_⟩) hHeld ?_ ?_
        rotate_left
        ·rintro w' ⟨s0,s1,s2,s3,s4,s5,s6,s7⟩
         go_simp
         with_reducible rfl
        rotate_left
        ·simp only[Act.put,List.setIfInBounds_toArray,List.set_cons_zero,List.set_cons_succ,i64_w,i32_w]
         rfl
        refine take_ (i:=7) (N:=some 24) (v:=?_) (a':=?_) #[true,true,true,true,true,true,true,true,false,false] rfl rfl (take_ofW HT_.out HW_.out (b1_)) (fun _ _ _ h=>h) (Or.inl ⟨by rfl,?_⟩) hHeld ?_ ?_
        rotate_left
        ·rintro w' ⟨s0,s1,s2,s3,s4,s5,s6,s7⟩
         go_simp
         with_reducible rfl
        rotate_left
        ·simp only[Act.put,List.setIfInBounds_toArray,List.set_cons_zero,List.set_cons_succ,i64_w,i32_w]
         rfl
        refine one_ (i:=8) (N:=some 25) #[true,true,true,true,true,true,true,true,true,false] rfl rfl (one_of HT_.out (b1_)) (by decide) (fun K hK => ?_)
        refine goes_ Try.func150 (b1_) rfl #[.agg #[.int .i64 ((rd_T182 l0 x5_1).f0),.int .i64 ((rd_T182 l0 x5_1).f1),.int .i64 ((rd_T182 l0 x5_1).f2),.int .i64 ((rd_T182 l0 x5_1).f3)],.agg #[.int .i64 ((rd_T182 l1 x5_1).f0),.int .i64 ((rd_T182 l1 x5_1).f1),.int .i64 ((rd_T182 l1 x5_1).f2),.int .i64 ((rd_T182 l1 x5_1).f3)]] (by rfl) rfl rfl (b0_) ?_
        with_reducible refine(laws_eqSlip.calls ((rd_T182 l0 x5_1).f0) ((rd_T182 l0 x5_1).f1) ((rd_T182 l0 x5_1).f2) ((rd_T182 l0 x5_1).f3) ((rd_T182 l1 x5_1).f0) ((rd_T182 l1 x5_1).f1) ((rd_T182 l1 x5_1).f2) ((rd_T182 l1 x5_1).f3) true _ A7.out).mono ?_
        rintro e w10 ⟨rfl,hb⟩
        refine⟨_,rfl,?_⟩
        have n0_:=Aside0.mk (below_step (bB) hb)
        clear HB
        have HB:=n0_
        clear n0_
        (try clear hb)
        (try clear hb2)
        (try clear hk)
        (try clear hi)
        refine hK.out _ _ ⟨((HB.out.cell (World.block_lt_of_cell? w _ hw155_0)).trans hw155_0),((HB.out.cell (World.block_lt_of_cell? w _ hw155_1)).trans hw155_1),((HB.out.cell (World.block_lt_of_cell? w _ hw155_2)).trans hw155_2),((HB.out.cell (World.block_lt_of_cell? w _ hw155_3)).trans hw155_3),((HB.out.cell (World.block_lt_of_cell? w _ hw156_0)).trans hw156_0),((HB.out.cell (World.block_lt_of_cell? w _ hw156_1)).trans hw156_1),((HB.out.cell (World.block_lt_of_cell? w _ hw156_2)).trans hw156_2),((HB.out.cell (World.block_lt_of_cell? w _ hw156_3)).trans hw156_3)⟩ (fun hHeld => ?_)
        clear hK K
        refine norm_ (a':=?_) ?_ ?_
        rotate_left
        ·show Act.put _ (some 25) _=_
         simp only[Act.put,List.setIfInBounds_toArray,List.set_cons_zero,List.set_cons_succ,i64_w,i32_w]
         rfl
        refine pure_ (i:=9) (N:=some 26) (v:=?_) (a':=?_) #[true,true,true,true,true,true,true,true,true,true] rfl rfl (any_of HT_.out (b1_)) (fun _ _ _ h=>h) (Or.inl ⟨by rfl,?_⟩) ?_ ?_
        rotate_left
        ·intro w'
         go_simp
         with_reducible rfl
        rotate_left
        ·simp only[Act.put,List.setIfInBounds_toArray,List.set_cons_zero,List.set_cons_succ,i64_w,i32_w]
         rfl
        refine done_ (done_of HT_.out (b1_)) ?_
        try go_wp2
        go_roundg k1
        case measure=>have:=HK1.out;omega
        case rel=>exact⟨(wrap64 (x5_1+1)),(bR),H',⟨by have:=HK1.out;omega⟩,⟨by repeat (first|(with_reducible first|exact HB.out|apply below_alloc|apply pw_below_drewN|apply below_drew1)|exact HB.out)⟩⟩
       ·replace c8:=Bool.eq_false_iff.mpr c8
        subst c8
        have H1:(some false)=some r:=by rw[if_neg (show ¬ (false=true) by decide)] at H;exact H
        clear H
        have H:=H1
        clear H1
        obtain rfl:=Option.some.inj H
        try go_wp2
        (try (rw[drewN_self wr];generalize hq_:World.drewN wr _=wr;have n0_:=Aside0.mk (below_at hq_ HB.out);clear hq_ HB;have HB:=n0_;clear n0_))
        have n0_:=Aside0.mk (below_drew1 HB.out)
        clear HB
        have HB:=n0_
        clear n0_
        have p155:0≤(x5_1:Int):=of_decide_eq_true (bD)
        have q155:x5_1 < (l0.length:Int):=of_decide_eq_true (bD)
        obtain⟨ad155,e155,hx155_0,hx155_1,hx155_2,hx155_3⟩:=at_T182 HR0.out x5_1 p155 q155
        have hw155_3:=hx155_3
        have hw155_2:=hx155_2
        have hw155_1:=hx155_1
        have hw155_0:=hx155_0
        cases e155
        replace hx155_0:=(HB.out.cell (World.block_lt_of_cell? w _ hx155_0)).trans hx155_0
        replace hx155_1:=(HB.out.cell (World.block_lt_of_cell? w _ hx155_1)).trans hx155_1
        replace hx155_2:=(HB.out.cell (World.block_lt_of_cell? w _ hx155_2)).trans hx155_2
        replace hx155_3:=(HB.out.cell (World.block_lt_of_cell? w _ hx155_3)).trans hx155_3
        replace p155:=eq_true p155
        replace q155:=eq_true q155
        have p156:0≤(x5_1:Int):=of_decide_eq_true (bD)
        have q156:x5_1 < (l1.length:Int):=of_decide_eq_true (bD)
        obtain⟨ad156,e156,hx156_0,hx156_1,hx156_2,hx156_3⟩:=at_T182 HR1.out x5_1 p156 q156
        have hw156_3:=hx156_3
        have hw156_2:=hx156_2
        have hw156_1:=hx156_1
        have hw156_0:=hx156_0
        cases e156
        replace hx156_0:=(HB.out.cell (World.block_lt_of_cell? w _ hx156_0)).trans hx156_0
        replace hx156_1:=(HB.out.cell (World.block_lt_of_cell? w _ hx156_1)).trans hx156_1
        replace hx156_2:=(HB.out.cell (World.block_lt_of_cell? w _ hx156_2)).trans hx156_2
        replace hx156_3:=(HB.out.cell (World.block_lt_of_cell? w _ hx156_3)).trans hx156_3
        replace p156:=eq_true p156
        replace q156:=eq_true q156
        refine start_ (n:=10) (S:=fun w'=>w'.cell? (ad155.add ((x5_1).toNat * 4))=some (.int .i64 ((rd_T182 l0 x5_1).f0))∧w'.cell? ⟨(ad155.add ((x5_1).toNat * 4)).block,(ad155.add ((x5_1).toNat * 4)).off+1,none⟩=some (.int .i64 ((rd_T182 l0 x5_1).f1))∧w'.cell? ⟨(ad155.add ((x5_1).toNat * 4)).block,(ad155.add ((x5_1).toNat * 4)).off+2,none⟩=some (.int .i64 ((rd_T182 l0 x5_1).f2))∧w'.cell? ⟨(ad155.add ((x5_1).toNat * 4)).block,(ad155.add ((x5_1).toNat * 4)).off+3,none⟩=some (.int .i64 ((rd_T182 l0 x5_1).f3))∧w'.cell? (ad156.add ((x5_1).toNat * 4))=some (.int .i64 ((rd_T182 l1 x5_1).f0))∧w'.cell? ⟨(ad156.add ((x5_1).toNat * 4)).block,(ad156.add ((x5_1).toNat * 4)).off+1,none⟩=some (.int .i64 ((rd_T182 l1 x5_1).f1))∧w'.cell? ⟨(ad156.add ((x5_1).toNat * 4)).block,(ad156.add ((x5_1).toNat * 4)).off+2,none⟩=some (.int .i64 ((rd_T182 l1 x5_1).f2))∧w'.cell? ⟨(ad156.add ((x5_1).toNat * 4)).block,(ad156.add ((x5_1).toNat * 4)).off+3,none⟩=some (.int .i64 ((rd_T182 l1 x5_1).f3))) (ds:=[]) #[false,false,false,false,false,false,false,false,false,false] (b1_) rfl rfl ⟨((HB.out.cell (World.block_lt_of_cell? w _ hw155_0)).trans hw155_0),((HB.out.cell (World.block_lt_of_cell? w _ hw155_1)).trans hw155_1),((HB.out.cell (World.block_lt_of_cell? w _ hw155_2)).trans hw155_2),((HB.out.cell (World.block_lt_of_cell? w _ hw155_3)).trans hw155_3),((HB.out.cell (World.block_lt_of_cell? w _ hw156_0)).trans hw156_0),((HB.out.cell (World.block_lt_of_cell? w _ hw156_1)).trans hw156_1),((HB.out.cell (World.block_lt_of_cell? w _ hw156_2)).trans hw156_2),((HB.out.cell (World.block_lt_of_cell? w _ hw156_3)).trans hw156_3)⟩ (fun hHeld => ?_);refine with_tabW laws_eqSlipS.tab6 laws_eqSlipS.bits6 (fun HT_ HW_ => ?_)
        generalize wr.drew=w11 at HB hx155_0 hx155_1 hx155_2 hx155_3 hx156_0 hx156_1 hx156_2 hx156_3 hHeld ⊢
        refine pure_ (i:=0) (N:=some 17) (v:=?_) (a':=?_) #[true,false,false,false,false,false,false,false,false,false] rfl rfl (any_of HT_.out (b1_)) (fun _ _ _ h=>h) (Or.inl ⟨by rfl,?_⟩) ?_ ?_
        rotate_left
        ·intro w'
         go_simp
         with_reducible rfl
        rotate_left
        ·simp only[Act.put,List.setIfInBounds_toArray,List.set_cons_zero,List.set_cons_succ,i64_w,i32_w]
         rfl
        refine pure_ (i:=1) (N:=some 18) (v:=?_) (a':=?_) #[true,true,false,false,false,false,false,false,false,false] rfl rfl (any_of HT_.out (b1_)) (fun _ _ _ h=>h) (Or.inl ⟨by rfl,?_⟩) ?_ ?_
        rotate_left
        ·intro w'
         go_simp
         with_reducible rfl
        rotate_left
        ·simp only[Act.put,List.setIfInBounds_toArray,List.set_cons_zero,List.set_cons_succ,i64_w,i32_w]
         rfl
        refine pure_ (i:=2) (N:=some 19) (v:=?_) (a':=?_) #[true,true,true,false,false,false,false,false,false,false] rfl rfl (any_of HT_.out (b1_)) (fun _ _ _ h=>h) (Or.inl ⟨by rfl,?_⟩) ?_ ?_
        rotate_left
        ·intro w'
         go_simp
         with_reducible rfl
        rotate_left
        ·simp only[Act.put,List.setIfInBounds_toArray,List.set_cons_zero,List.set_cons_succ,i64_w,i32_w]
         rfl
        refine pure_ (i:=4) (N:=some 21) (v:=?_) (a':=?_) #[true,true,true,false,true,false,false,false,false,false] rfl rfl (any_of HT_.out (b1_)) (fun _ _ _ h=>h) (Or.inl ⟨by rfl,?_⟩) ?_ ?_
        rotate_left
        ·intro w'
         go_simp
         with_reducible rfl
        rotate_left
        ·simp only[Act.put,List.setIfInBounds_toArray,List.set_cons_zero,List.set_cons_succ,i64_w,i32_w]
         rfl
        refine pure_ (i:=5) (N:=some 22) (v:=?_) (a':=?_) #[true,true,true,false,true,true,false,false,false,false] rfl rfl (any_of HT_.out (b1_)) (fun _ _ _ h=>h) (Or.inl ⟨by rfl,?_⟩) ?_ ?_
        rotate_left
        ·intro w'
         go_simp
         with_reducible rfl
        rotate_left
        ·simp only[Act.put,List.setIfInBounds_toArray,List.set_cons_zero,List.set_cons_succ,i64_w,i32_w]
         rfl
        refine pure_ (i:=6) (N:=some 23) (v:=?_) (a':=?_) #[true,true,true,false,true,true,true,false,false,false] rfl rfl (any_of HT_.out (b1_)) (fun _ _ _ h=>h) (Or.inl ⟨by rfl,?_⟩) ?_ ?_
        rotate_left
        ·intro w'
         go_simp
         with_reducible rfl
        rotate_left
        ·simp only[Act.put,List.setIfInBounds_toArray,List.set_cons_zero,List.set_cons_succ,i64_w,i32_w]
         rfl
        refine take_ (i:=3) (N:=some 20) (v:=?_) (a':=?_) #[true,true,true,true,true,true,true,false,false,false] rfl rfl (take_ofW HT_.out HW_.out (b1_)) (fun _ _ _ h=>h) (Or.inl ⟨by rfl,?_⟩) hHeld ?_ ?_
        rotate_left
        ·rintro w' ⟨s0,s1,s2,s3,s4,s5,s6,s7⟩
         go_simp
         with_reducible rfl
        rotate_left
        ·simp only[Act.put,List.setIfInBounds_toArray,List.set_cons_zero,List.set_cons_succ,i64_w,i32_w]
         rfl
        refine take_ (i:=7) (N:=some 24) (v:=?_) (a':=?_) #[true,true,true,true,true,true,true,true,false,false] rfl rfl (take_ofW HT_.out HW_.out (b1_)) (fun _ _ _ h=>h) (Or.inl ⟨by rfl,?_⟩) hHeld ?_ ?_
        rotate_left
        ·rintro w' ⟨s0,s1,s2,s3,s4,s5,s6,s7⟩
         go_simp
         with_reducible rfl
        rotate_left
        ·simp only[Act.put,List.setIfInBounds_toArray,List.set_cons_zero,List.set_cons_succ,i64_w,i32_w]
         rfl
        refine one_ (i:=8) (N:=some 25) #[true,true,true,true,true,true,true,true,true,false] rfl rfl (one_of HT_.out (b1_)) (by decide) (fun K hK => ?_)
        refine goes_ Try.func150 (b1_) rfl #[.agg #[.int .i64 ((rd_T182 l0 x5_1).f0),.int .i64 ((rd_T182 l0 x5_1).f1),.int .i64 ((rd_T182 l0 x5_1).f2),.int .i64 ((rd_T182 l0 x5_1).f3)],.agg #[.int .i64 ((rd_T182 l1 x5_1).f0),.int .i64 ((rd_T182 l1 x5_1).f1),.int .i64 ((rd_T182 l1 x5_1).f2),.int .i64 ((rd_T182 l1 x5_1).f3)]] (by rfl) rfl rfl (b0_) ?_
        with_reducible refine(laws_eqSlip.calls ((rd_T182 l0 x5_1).f0) ((rd_T182 l0 x5_1).f1) ((rd_T182 l0 x5_1).f2) ((rd_T182 l0 x5_1).f3) ((rd_T182 l1 x5_1).f0) ((rd_T182 l1 x5_1).f1) ((rd_T182 l1 x5_1).f2) ((rd_T182 l1 x5_1).f3) false _ A7.out).mono ?_
        rintro e w12 ⟨rfl,hb⟩
        refine⟨_,rfl,?_⟩
        have n0_:=Aside0.mk (below_step (bB) hb)
        clear HB
        have HB:=n0_
        clear n0_
        (try clear hb)
        (try clear hb2)
        (try clear hk)
        (try clear hi)
        refine hK.out _ _ ⟨((HB.out.cell (World.block_lt_of_cell? w _ hw155_0)).trans hw155_0),((HB.out.cell (World.block_lt_of_cell? w _ hw155_1)).trans hw155_1),((HB.out.cell (World.block_lt_of_cell? w _ hw155_2)).trans hw155_2),((HB.out.cell (World.block_lt_of_cell? w _ hw155_3)).trans hw155_3),((HB.out.cell (World.block_lt_of_cell? w _ hw156_0)).trans hw156_0),((HB.out.cell (World.block_lt_of_cell? w _ hw156_1)).trans hw156_1),((HB.out.cell (World.block_lt_of_cell? w _ hw156_2)).trans hw156_2),((HB.out.cell (World.block_lt_of_cell? w _ hw156_3)).trans hw156_3)⟩ (fun hHeld => ?_)
        clear hK K
        refine norm_ (a':=?_) ?_ ?_
        rotate_left
        ·show Act.put _ (some 25) _=_
         simp only[Act.put,List.setIfInBounds_toArray,List.set_cons_zero,List.set_cons_succ,i64_w,i32_w]
         rfl
        refine pure_ (i:=9) (N:=some 26) (v:=?_) (a':=?_) #[true,true,true,true,true,true,true,true,true,true] rfl rfl (any_of HT_.out (b1_)) (fun _ _ _ h=>h) (Or.inl ⟨by rfl,?_⟩) ?_ ?_
        rotate_left
        ·intro w'
         go_simp
         with_reducible rfl
        rotate_left
        ·simp only[Act.put,List.setIfInBounds_toArray,List.set_cons_zero,List.set_cons_succ,i64_w,i32_w]
         rfl
        refine done_ (done_of HT_.out (b1_)) ?_
        try go_wp2
        go_ret
        exact⟨bE,bB⟩
      ·rw[if_neg c6] at H
       exact absurd H (by simp)
     ·rw[if_neg c5] at H
      exact absurd H (by simp)
    ·rw[if_neg c4] at H
     have c4b0:decide (x5_1 < (l0.length:Int))=false:=decide_eq_false c4
     clear c4
     obtain rfl:=Option.some.inj H
     go_wp2
     go_ret
     exact⟨bE,bB⟩
 ·rw[if_neg c3] at H
  have c3b0:((l0.length:Int) == (l1.length:Int))=false:=beq_eq_false_iff_ne.mpr c3
  have c3b1:((l0.length:Int) != (l1.length:Int))=true:=bne_iff_ne.mpr c3
  have c3b2:(l0.length == l1.length)=false:=by first|simpa using c3|(simp at c3 ⊢;omega)
  obtain rfl:=Option.some.inj H
  go_enter Try.func100,Try.ntmps100
  go_wp2
  go_ret
  exact⟨bE,bB⟩

/-! ### laws_eqCustody: function 34 -/
def laws_eqCustody.f (k:Nat) (l0_0:List Int) (l0_1:List (S179)) (l0_2:List (S182)) (l0_3:List Int) (l1_0:List Int) (l1_1:List (S179)) (l1_2:List (S182)) (l1_3:List Int):Option (Bool):=(laws_eqIntS.f k l0_0 l1_0).bind fun t160=>(if t160=true then ((laws_eqKeeperS.f k l0_1 l1_1).bind fun t161=>(if t161=true then ((laws_eqSlipS.f k l0_2 l1_2).bind fun t162=>(if t162=true then ((laws_eqIntS.f k l0_3 l1_3).bind fun t163=>(if t163=true then (some true) else (some false))) else (some false))) else (some false))) else (some false))
theorem laws_eqCustody.mono : ∀ a0 a1 a2 a3 a4 a5 a6 a7 k,LeO (laws_eqCustody.f k a0 a1 a2 a3 a4 a5 a6 a7) (laws_eqCustody.f (k+1) a0 a1 a2 a3 a4 a5 a6 a7):=by
 intro a0 a1 a2 a3 a4 a5 a6 a7 k
 unfold laws_eqCustody.f
 repeat' first
  | (with_reducible exact laws_eqIntS.mono _ _ _)
  | (with_reducible exact laws_eqKeeperS.mono _ _ _)
  | (with_reducible exact laws_eqSlipS.mono _ _ _)
  | (with_reducible exact LeO.refl _)
  | (with_reducible exact LeO.none _)
  | (with_reducible refine LeO.ite ?_ ?_)
  | (with_reducible refine LeO.bind ?_ (fun _ => ?_))
  | exact laws_eqIntS.mono _ _ _
  | exact laws_eqKeeperS.mono _ _ _
  | exact laws_eqSlipS.mono _ _ _
  | exact LeO.none _
  | refine LeO.ite ?_ ?_
  | refine LeO.bind ?_ (fun _ => ?_)
set_option maxHeartbeats 8000000 in
set_option maxRecDepth 100000 in
theorem laws_eqCustody.calls (k:Nat) (A0_0:Option Addr) (c0_0:Nat) (l0_0:List Int) (A0_1:Option Addr) (c0_1:Nat) (l0_1:List (S179)) (A0_2:Option Addr) (c0_2:Nat) (l0_2:List (S182)) (A0_3:Option Addr) (c0_3:Nat) (l0_3:List Int) (A1_0:Option Addr) (c1_0:Nat) (l1_0:List Int) (A1_1:Option Addr) (c1_1:Nat) (l1_1:List (S179)) (A1_2:Option Addr) (c1_2:Nat) (l1_2:List (S182)) (A1_3:Option Addr) (c1_3:Nat) (l1_3:List Int) (r:Bool) (w:World) (hr0_0:Kd.C (Kd.int .i64) w A0_0 l0_0.length l0_0) (hc0_0:l0_0.length≤c0_0) (hr0_1:Kd.C k179 w A0_1 l0_1.length l0_1) (hc0_1:l0_1.length≤c0_1) (hr0_2:Kd.C k182 w A0_2 l0_2.length l0_2) (hc0_2:l0_2.length≤c0_2) (hr0_3:Kd.C (Kd.int .i64) w A0_3 l0_3.length l0_3) (hc0_3:l0_3.length≤c0_3) (hr1_0:Kd.C (Kd.int .i64) w A1_0 l1_0.length l1_0) (hc1_0:l1_0.length≤c1_0) (hr1_1:Kd.C k179 w A1_1 l1_1.length l1_1) (hc1_1:l1_1.length≤c1_1) (hr1_2:Kd.C k182 w A1_2 l1_2.length l1_2) (hc1_2:l1_2.length≤c1_2) (hr1_3:Kd.C (Kd.int .i64) w A1_3 l1_3.length l1_3) (hc1_3:l1_3.length≤c1_3) (h:laws_eqCustody.f k l0_0 l0_1 l0_2 l0_3 l1_0 l1_1 l1_2 l1_3=some r) :
  Calls Try.prog 34 #[.agg #[.slice A0_0 l0_0.length c0_0,.slice A0_1 l0_1.length c0_1,.slice A0_2 l0_2.length c0_2,.slice A0_3 l0_3.length c0_3],.agg #[.slice A1_0 l1_0.length c1_0,.slice A1_1 l1_1.length c1_1,.slice A1_2 l1_2.length c1_2,.slice A1_3 l1_3.length c1_3]] w fun e w'=>e=.returned (.bool r)∧Below w.heap.size w w':=by
 have hu50:=Try.underlying50
 have HR0_0:=Aside0.mk hr0_0
 have HC0_0:=Aside0.mk hc0_0
 clear hr0_0 hc0_0
 have HR0_1:=Aside0.mk hr0_1
 have HC0_1:=Aside0.mk hc0_1
 clear hr0_1 hc0_1
 have HR0_2:=Aside0.mk hr0_2
 have HC0_2:=Aside0.mk hc0_2
 clear hr0_2 hc0_2
 have HR0_3:=Aside0.mk hr0_3
 have HC0_3:=Aside0.mk hc0_3
 clear hr0_3 hc0_3
 have HR1_0:=Aside0.mk hr1_0
 have HC1_0:=Aside0.mk hc1_0
 clear hr1_0 hc1_0
 have HR1_1:=Aside0.mk hr1_1
 have HC1_1:=Aside0.mk hc1_1
 clear hr1_1 hc1_1
 have HR1_2:=Aside0.mk hr1_2
 have HC1_2:=Aside0.mk hc1_2
 clear hr1_2 hc1_2
 have HR1_3:=Aside0.mk hr1_3
 have HC1_3:=Aside0.mk hc1_3
 clear hr1_3 hc1_3
 have HB:=Aside0.mk (Below.refl w.heap.size w)
 have H:((laws_eqIntS.f k l0_0 l1_0).bind fun t160=>(if t160=true then ((laws_eqKeeperS.f k l0_1 l1_1).bind fun t161=>(if t161=true then ((laws_eqSlipS.f k l0_2 l1_2).bind fun t162=>(if t162=true then ((laws_eqIntS.f k l0_3 l1_3).bind fun t163=>(if t163=true then (some true) else (some false))) else (some false))) else (some false))) else (some false)))=some r:=h
 clear h
 replace H:=Option.bind_eq_some_iff.mp H
 obtain⟨t160,A30,H⟩:=H
 have A3:=Aside0.mk A30
 clear A30
 by_cases c4:t160=true
 ·subst c4
  have H1:((laws_eqKeeperS.f k l0_1 l1_1).bind fun t161=>(if t161=true then ((laws_eqSlipS.f k l0_2 l1_2).bind fun t162=>(if t162=true then ((laws_eqIntS.f k l0_3 l1_3).bind fun t163=>(if t163=true then (some true) else (some false))) else (some false))) else (some false)))=some r:=by rw[if_pos rfl] at H;exact H
  clear H
  have H:=H1
  clear H1
  replace H:=Option.bind_eq_some_iff.mp H
  obtain⟨t161,A50,H⟩:=H
  have A5:=Aside0.mk A50
  clear A50
  by_cases c6:t161=true
  ·subst c6
   have H1:((laws_eqSlipS.f k l0_2 l1_2).bind fun t162=>(if t162=true then ((laws_eqIntS.f k l0_3 l1_3).bind fun t163=>(if t163=true then (some true) else (some false))) else (some false)))=some r:=by rw[if_pos rfl] at H;exact H
   clear H
   have H:=H1
   clear H1
   replace H:=Option.bind_eq_some_iff.mp H
   obtain⟨t162,A70,H⟩:=H
   have A7:=Aside0.mk A70
   clear A70
   by_cases c8:t162=true
   ·subst c8
    have H1:((laws_eqIntS.f k l0_3 l1_3).bind fun t163=>(if t163=true then (some true) else (some false)))=some r:=by rw[if_pos rfl] at H;exact H
    clear H
    have H:=H1
    clear H1
    replace H:=Option.bind_eq_some_iff.mp H
    obtain⟨t163,A90,H⟩:=H
    have A9:=Aside0.mk A90
    clear A90
    by_cases c10:t163=true
    ·subst c10
     have H1:(some true)=some r:=by rw[if_pos rfl] at H;exact H
     clear H
     have H:=H1
     clear H1
     obtain rfl:=Option.some.inj H
     go_enter Try.func34,Try.ntmps34
     go_wp2_with (first|((with_reducible refine gate_dst (N:=2) rfl ?_);refine box_event ?hg (N:=2) ?hd (cs:=#[.slice A0_0 l0_0.length c0_0,.slice A0_1 l0_1.length c0_1,.slice A0_2 l0_2.length c0_2,.slice A0_3 l0_3.length c0_3]) (t:=50) ?hr ?_;(case hd=>rfl);(case hg=>rfl);(case hr=>first|(go_simp;done)|(go_simp;rfl));intro gb158 hg w11 hbox hb;have n0_:=Aside0.mk (below_step (bB) hb);have n1_:=Aside0.mk (hbox);have n2_:=Aside0.mk ((bG:w.heap.size≤gb158));have n3_:=Aside0.mk ((bG:w.heap.size≤gb158));clear HB;have HB:=n0_;have BK158:=n1_;have GW158:=n2_;have GE158:=n3_;clear n0_ n1_ n2_ n3_;clear hb hbox hg)|((with_reducible refine gate_dst (N:=3) rfl ?_);refine box_event ?hg (N:=3) ?hd (cs:=#[.slice A1_0 l1_0.length c1_0,.slice A1_1 l1_1.length c1_1,.slice A1_2 l1_2.length c1_2,.slice A1_3 l1_3.length c1_3]) (t:=50) ?hr ?_;(case hd=>rfl);(case hg=>rfl);(case hr=>first|(go_simp;done)|(go_simp;rfl));intro gb159 hg w12 hbox hb;have n0_:=Aside0.mk (bM BK158.out hb);have n1_:=Aside0.mk (below_step (bS GE158.out) hb);have n2_:=Aside0.mk (hbox);have n3_:=Aside0.mk ((by rw[hg];exact(below_size (bS GE158.out)):w.heap.size≤gb159));have n4_:=Aside0.mk ((by rw[hg];exact(below_size (bS GE158.out)):w.heap.size≤gb159));have n5_:=Aside0.mk ((bN BK158.out hg:gb158≠gb159));have n6_:=Aside0.mk ((bO BK158.out hg:gb159≠gb158));clear BK158 HB;have BK158:=n0_;have HB:=n1_;have BK159:=n2_;have GW159:=n3_;have GE159:=n4_;have NB158_159:=n5_;have NB159_158:=n6_;clear n0_ n1_ n2_ n3_ n4_ n5_ n6_;clear hb hbox hg;have hnb13:=NB158_159.out;have hnc13:=NB159_158.out;obtain⟨hcz14_0,hcz14_1,hcz14_2,hcz14_3⟩:=cC4 BK158.out;obtain⟨hfz14_0,hfz14_1,hfz14_2,hfz14_3⟩:=cF4 BK158.out;obtain⟨hcz15_0,hcz15_1,hcz15_2,hcz15_3⟩:=cC4 BK159.out;obtain⟨hfz15_0,hfz15_1,hfz15_2,hfz15_3⟩:=cF4 BK159.out)|((with_reducible refine gate_callee (f:=26) rfl ?_);refine goesA (some 9) rfl rfl Try.func26 #[.slice A0_0 l0_0.length c0_0,.slice A1_0 l1_0.length c1_0] rfl ?_;(with_reducible refine(laws_eqIntS.calls k _ _ l0_0 _ _ l1_0 true _ ?side1 ?side2 ?side3 ?side4 A3.out).mono ?_);(case side1=>exact bC HR0_0.out);(case side2=>exact HC0_0.out);(case side3=>exact bC HR1_0.out);(case side4=>exact HC1_0.out);rintro e w' ⟨rfl,⟨nd,rfl⟩⟩;refine⟨_,rfl,?_⟩)|((with_reducible refine gate_callee (f:=99) rfl ?_);refine goesA (some 15) rfl rfl Try.func99 #[.slice A0_1 l0_1.length c0_1,.slice A1_1 l1_1.length c1_1] rfl ?_;(with_reducible refine(laws_eqKeeperS.calls k _ _ l0_1 _ _ l1_1 true _ ?side1 ?side2 ?side3 ?side4 A5.out).mono ?_);(case side1=>exact b4_);(case side2=>exact HC0_1.out);(case side3=>exact b5_);(case side4=>exact HC1_1.out);rintro e w16 ⟨rfl,hb⟩;refine⟨_,rfl,?_⟩;have n0_:=Aside0.mk (bM BK158.out hb);have n1_:=Aside0.mk (bM BK159.out hb);have n2_:=Aside0.mk (below_step (bS2 GE158.out GE159.out) hb);clear BK158 BK159 HB;have BK158:=n0_;have BK159:=n1_;have HB:=n2_;clear n0_ n1_ n2_;(try clear hb);(try clear hb2);(try clear hk);(try clear hi);obtain⟨hcz17_0,hcz17_1,hcz17_2,hcz17_3⟩:=cC4 BK158.out;obtain⟨hfz17_0,hfz17_1,hfz17_2,hfz17_3⟩:=cF4 BK158.out;obtain⟨hcz18_0,hcz18_1,hcz18_2,hcz18_3⟩:=cC4 BK159.out;obtain⟨hfz18_0,hfz18_1,hfz18_2,hfz18_3⟩:=cF4 BK159.out)|((with_reducible refine gate_callee (f:=100) rfl ?_);refine goesA (some 21) rfl rfl Try.func100 #[.slice A0_2 l0_2.length c0_2,.slice A1_2 l1_2.length c1_2] rfl ?_;(with_reducible refine(laws_eqSlipS.calls k _ _ l0_2 _ _ l1_2 true _ ?side1 ?side2 ?side3 ?side4 A7.out).mono ?_);(case side1=>exact bC HR0_2.out);(case side2=>exact HC0_2.out);(case side3=>exact bC HR1_2.out);(case side4=>exact HC1_2.out);rintro e w19 ⟨rfl,hb⟩;refine⟨_,rfl,?_⟩;have n0_:=Aside0.mk (bM BK158.out hb);have n1_:=Aside0.mk (bM BK159.out hb);have n2_:=Aside0.mk (below_step (bS2 GE158.out GE159.out) hb);clear BK158 BK159 HB;have BK158:=n0_;have BK159:=n1_;have HB:=n2_;clear n0_ n1_ n2_;(try clear hb);(try clear hb2);(try clear hk);(try clear hi);obtain⟨hcz20_0,hcz20_1,hcz20_2,hcz20_3⟩:=cC4 BK158.out;obtain⟨hfz20_0,hfz20_1,hfz20_2,hfz20_3⟩:=cF4 BK158.out;obtain⟨hcz21_0,hcz21_1,hcz21_2,hcz21_3⟩:=cC4 BK159.out;obtain⟨hfz21_0,hfz21_1,hfz21_2,hfz21_3⟩:=cF4 BK159.out)|((with_reducible refine gate_callee (f:=26) rfl ?_);refine goesA (some 27) rfl rfl Try.func26 #[.slice A0_3 l0_3.length c0_3,.slice A1_3 l1_3.length c1_3] rfl ?_;(with_reducible refine(laws_eqIntS.calls k _ _ l0_3 _ _ l1_3 true _ ?side1 ?side2 ?side3 ?side4 A9.out).mono ?_);(case side1=>exact bC HR0_3.out);(case side2=>exact HC0_3.out);(case side3=>exact bC HR1_3.out);(case side4=>exact HC1_3.out);rintro e w' ⟨rfl,⟨nd,rfl⟩⟩;refine⟨_,rfl,?_⟩))
     go_ret
     exact⟨bE,bS2 GE158.out GE159.out⟩
    ·replace c10:=Bool.eq_false_iff.mpr c10
     subst c10
     have H1:(some false)=some r:=by rw[if_neg (show ¬ (false=true) by decide)] at H;exact H
     clear H
     have H:=H1
     clear H1
     obtain rfl:=Option.some.inj H
     go_enter Try.func34,Try.ntmps34
     go_wp2_with (first|((with_reducible refine gate_dst (N:=2) rfl ?_);refine box_event ?hg (N:=2) ?hd (cs:=#[.slice A0_0 l0_0.length c0_0,.slice A0_1 l0_1.length c0_1,.slice A0_2 l0_2.length c0_2,.slice A0_3 l0_3.length c0_3]) (t:=50) ?hr ?_;(case hd=>rfl);(case hg=>rfl);(case hr=>first|(go_simp;done)|(go_simp;rfl));intro gb158 hg w22 hbox hb;have n0_:=Aside0.mk (below_step (bB) hb);have n1_:=Aside0.mk (hbox);have n2_:=Aside0.mk ((bG:w.heap.size≤gb158));have n3_:=Aside0.mk ((bG:w.heap.size≤gb158));clear HB;have HB:=n0_;have BK158:=n1_;have GW158:=n2_;have GE158:=n3_;clear n0_ n1_ n2_ n3_;clear hb hbox hg)|((with_reducible refine gate_dst (N:=3) rfl ?_);refine box_event ?hg (N:=3) ?hd (cs:=#[.slice A1_0 l1_0.length c1_0,.slice A1_1 l1_1.length c1_1,.slice A1_2 l1_2.length c1_2,.slice A1_3 l1_3.length c1_3]) (t:=50) ?hr ?_;(case hd=>rfl);(case hg=>rfl);(case hr=>first|(go_simp;done)|(go_simp;rfl));intro gb159 hg w23 hbox hb;have n0_:=Aside0.mk (bM BK158.out hb);have n1_:=Aside0.mk (below_step (bS GE158.out) hb);have n2_:=Aside0.mk (hbox);have n3_:=Aside0.mk ((by rw[hg];exact(below_size (bS GE158.out)):w.heap.size≤gb159));have n4_:=Aside0.mk ((by rw[hg];exact(below_size (bS GE158.out)):w.heap.size≤gb159));have n5_:=Aside0.mk ((bN BK158.out hg:gb158≠gb159));have n6_:=Aside0.mk ((bO BK158.out hg:gb159≠gb158));clear BK158 HB;have BK158:=n0_;have HB:=n1_;have BK159:=n2_;have GW159:=n3_;have GE159:=n4_;have NB158_159:=n5_;have NB159_158:=n6_;clear n0_ n1_ n2_ n3_ n4_ n5_ n6_;clear hb hbox hg;have hnb24:=NB158_159.out;have hnc24:=NB159_158.out;obtain⟨hcz25_0,hcz25_1,hcz25_2,hcz25_3⟩:=cC4 BK158.out;obtain⟨hfz25_0,hfz25_1,hfz25_2,hfz25_3⟩:=cF4 BK158.out;obtain⟨hcz26_0,hcz26_1,hcz26_2,hcz26_3⟩:=cC4 BK159.out;obtain⟨hfz26_0,hfz26_1,hfz26_2,hfz26_3⟩:=cF4 BK159.out)|((with_reducible refine gate_callee (f:=26) rfl ?_);refine goesA (some 9) rfl rfl Try.func26 #[.slice A0_0 l0_0.length c0_0,.slice A1_0 l1_0.length c1_0] rfl ?_;(with_reducible refine(laws_eqIntS.calls k _ _ l0_0 _ _ l1_0 true _ ?side1 ?side2 ?side3 ?side4 A3.out).mono ?_);(case side1=>exact bC HR0_0.out);(case side2=>exact HC0_0.out);(case side3=>exact bC HR1_0.out);(case side4=>exact HC1_0.out);rintro e w' ⟨rfl,⟨nd,rfl⟩⟩;refine⟨_,rfl,?_⟩)|((with_reducible refine gate_callee (f:=99) rfl ?_);refine goesA (some 15) rfl rfl Try.func99 #[.slice A0_1 l0_1.length c0_1,.slice A1_1 l1_1.length c1_1] rfl ?_;(with_reducible refine(laws_eqKeeperS.calls k _ _ l0_1 _ _ l1_1 true _ ?side1 ?side2 ?side3 ?side4 A5.out).mono ?_);(case side1=>exact b4_);(case side2=>exact HC0_1.out);(case side3=>exact b5_);(case side4=>exact HC1_1.out);rintro e w27 ⟨rfl,hb⟩;refine⟨_,rfl,?_⟩;have n0_:=Aside0.mk (bM BK158.out hb);have n1_:=Aside0.mk (bM BK159.out hb);have n2_:=Aside0.mk (below_step (bS2 GE158.out GE159.out) hb);clear BK158 BK159 HB;have BK158:=n0_;have BK159:=n1_;have HB:=n2_;clear n0_ n1_ n2_;(try clear hb);(try clear hb2);(try clear hk);(try clear hi);obtain⟨hcz28_0,hcz28_1,hcz28_2,hcz28_3⟩:=cC4 BK158.out;obtain⟨hfz28_0,hfz28_1,hfz28_2,hfz28_3⟩:=cF4 BK158.out;obtain⟨hcz29_0,hcz29_1,hcz29_2,hcz29_3⟩:=cC4 BK159.out;obtain⟨hfz29_0,hfz29_1,hfz29_2,hfz29_3⟩:=cF4 BK159.out)|((with_reducible refine gate_callee (f:=100) rfl ?_);refine goesA (some 21) rfl rfl Try.func100 #[.slice A0_2 l0_2.length c0_2,.slice A1_2 l1_2.length c1_2] rfl ?_;(with_reducible refine(laws_eqSlipS.calls k _ _ l0_2 _ _ l1_2 true _ ?side1 ?side2 ?side3 ?side4 A7.out).mono ?_);(case side1=>exact bC HR0_2.out);(case side2=>exact HC0_2.out);(case side3=>exact bC HR1_2.out);(case side4=>exact HC1_2.out);rintro e w30 ⟨rfl,hb⟩;refine⟨_,rfl,?_⟩;have n0_:=Aside0.mk (bM BK158.out hb);have n1_:=Aside0.mk (bM BK159.out hb);have n2_:=Aside0.mk (below_step (bS2 GE158.out GE159.out) hb);clear BK158 BK159 HB;have BK158:=n0_;have BK159:=n1_;have HB:=n2_;clear n0_ n1_ n2_;(try clear hb);(try clear hb2);(try clear hk);(try clear hi);obtain⟨hcz31_0,hcz31_1,hcz31_2,hcz31_3⟩:=cC4 BK158.out;obtain⟨hfz31_0,hfz31_1,hfz31_2,hfz31_3⟩:=cF4 BK158.out;obtain⟨hcz32_0,hcz32_1,hcz32_2,hcz32_3⟩:=cC4 BK159.out;obtain⟨hfz32_0,hfz32_1,hfz32_2,hfz32_3⟩:=cF4 BK159.out)|((with_reducible refine gate_callee (f:=26) rfl ?_);refine goesA (some 27) rfl rfl Try.func26 #[.slice A0_3 l0_3.length c0_3,.slice A1_3 l1_3.length c1_3] rfl ?_;(with_reducible refine(laws_eqIntS.calls k _ _ l0_3 _ _ l1_3 false _ ?side1 ?side2 ?side3 ?side4 A9.out).mono ?_);(case side1=>exact bC HR0_3.out);(case side2=>exact HC0_3.out);(case side3=>exact bC HR1_3.out);(case side4=>exact HC1_3.out);rintro e w' ⟨rfl,⟨nd,rfl⟩⟩;refine⟨_,rfl,?_⟩))
     go_ret
     exact⟨bE,bS2 GE158.out GE159.out⟩
   ·replace c8:=Bool.eq_false_iff.mpr c8
    subst c8
    have H1:(some false)=some r:=by rw[if_neg (show ¬ (false=true) by decide)] at H;exact H
    clear H
    have H:=H1
    clear H1
    obtain rfl:=Option.some.inj H
    go_enter Try.func34,Try.ntmps34
    go_wp2_with (first|((with_reducible refine gate_dst (N:=2) rfl ?_);refine box_event ?hg (N:=2) ?hd (cs:=#[.slice A0_0 l0_0.length c0_0,.slice A0_1 l0_1.length c0_1,.slice A0_2 l0_2.length c0_2,.slice A0_3 l0_3.length c0_3]) (t:=50) ?hr ?_;(case hd=>rfl);(case hg=>rfl);(case hr=>first|(go_simp;done)|(go_simp;rfl));intro gb158 hg w33 hbox hb;have n0_:=Aside0.mk (below_step (bB) hb);have n1_:=Aside0.mk (hbox);have n2_:=Aside0.mk ((bG:w.heap.size≤gb158));have n3_:=Aside0.mk ((bG:w.heap.size≤gb158));clear HB;have HB:=n0_;have BK158:=n1_;have GW158:=n2_;have GE158:=n3_;clear n0_ n1_ n2_ n3_;clear hb hbox hg)|((with_reducible refine gate_dst (N:=3) rfl ?_);refine box_event ?hg (N:=3) ?hd (cs:=#[.slice A1_0 l1_0.length c1_0,.slice A1_1 l1_1.length c1_1,.slice A1_2 l1_2.length c1_2,.slice A1_3 l1_3.length c1_3]) (t:=50) ?hr ?_;(case hd=>rfl);(case hg=>rfl);(case hr=>first|(go_simp;done)|(go_simp;rfl));intro gb159 hg w34 hbox hb;have n0_:=Aside0.mk (bM BK158.out hb);have n1_:=Aside0.mk (below_step (bS GE158.out) hb);have n2_:=Aside0.mk (hbox);have n3_:=Aside0.mk ((by rw[hg];exact(below_size (bS GE158.out)):w.heap.size≤gb159));have n4_:=Aside0.mk ((by rw[hg];exact(below_size (bS GE158.out)):w.heap.size≤gb159));have n5_:=Aside0.mk ((bN BK158.out hg:gb158≠gb159));have n6_:=Aside0.mk ((bO BK158.out hg:gb159≠gb158));clear BK158 HB;have BK158:=n0_;have HB:=n1_;have BK159:=n2_;have GW159:=n3_;have GE159:=n4_;have NB158_159:=n5_;have NB159_158:=n6_;clear n0_ n1_ n2_ n3_ n4_ n5_ n6_;clear hb hbox hg;have hnb35:=NB158_159.out;have hnc35:=NB159_158.out;obtain⟨hcz36_0,hcz36_1,hcz36_2,hcz36_3⟩:=cC4 BK158.out;obtain⟨hfz36_0,hfz36_1,hfz36_2,hfz36_3⟩:=cF4 BK158.out;obtain⟨hcz37_0,hcz37_1,hcz37_2,hcz37_3⟩:=cC4 BK159.out;obtain⟨hfz37_0,hfz37_1,hfz37_2,hfz37_3⟩:=cF4 BK159.out)|((with_reducible refine gate_callee (f:=26) rfl ?_);refine goesA (some 9) rfl rfl Try.func26 #[.slice A0_0 l0_0.length c0_0,.slice A1_0 l1_0.length c1_0] rfl ?_;(with_reducible refine(laws_eqIntS.calls k _ _ l0_0 _ _ l1_0 true _ ?side1 ?side2 ?side3 ?side4 A3.out).mono ?_);(case side1=>exact bC HR0_0.out);(case side2=>exact HC0_0.out);(case side3=>exact bC HR1_0.out);(case side4=>exact HC1_0.out);rintro e w' ⟨rfl,⟨nd,rfl⟩⟩;refine⟨_,rfl,?_⟩)|((with_reducible refine gate_callee (f:=99) rfl ?_);refine goesA (some 15) rfl rfl Try.func99 #[.slice A0_1 l0_1.length c0_1,.slice A1_1 l1_1.length c1_1] rfl ?_;(with_reducible refine(laws_eqKeeperS.calls k _ _ l0_1 _ _ l1_1 true _ ?side1 ?side2 ?side3 ?side4 A5.out).mono ?_);(case side1=>exact b4_);(case side2=>exact HC0_1.out);(case side3=>exact b5_);(case side4=>exact HC1_1.out);rintro e w38 ⟨rfl,hb⟩;refine⟨_,rfl,?_⟩;have n0_:=Aside0.mk (bM BK158.out hb);have n1_:=Aside0.mk (bM BK159.out hb);have n2_:=Aside0.mk (below_step (bS2 GE158.out GE159.out) hb);clear BK158 BK159 HB;have BK158:=n0_;have BK159:=n1_;have HB:=n2_;clear n0_ n1_ n2_;(try clear hb);(try clear hb2);(try clear hk);(try clear hi);obtain⟨hcz39_0,hcz39_1,hcz39_2,hcz39_3⟩:=cC4 BK158.out;obtain⟨hfz39_0,hfz39_1,hfz39_2,hfz39_3⟩:=cF4 BK158.out;obtain⟨hcz40_0,hcz40_1,hcz40_2,hcz40_3⟩:=cC4 BK159.out;obtain⟨hfz40_0,hfz40_1,hfz40_2,hfz40_3⟩:=cF4 BK159.out)|((with_reducible refine gate_callee (f:=100) rfl ?_);refine goesA (some 21) rfl rfl Try.func100 #[.slice A0_2 l0_2.length c0_2,.slice A1_2 l1_2.length c1_2] rfl ?_;(with_reducible refine(laws_eqSlipS.calls k _ _ l0_2 _ _ l1_2 false _ ?side1 ?side2 ?side3 ?side4 A7.out).mono ?_);(case side1=>exact bC HR0_2.out);(case side2=>exact HC0_2.out);(case side3=>exact bC HR1_2.out);(case side4=>exact HC1_2.out);rintro e w41 ⟨rfl,hb⟩;refine⟨_,rfl,?_⟩;have n0_:=Aside0.mk (bM BK158.out hb);have n1_:=Aside0.mk (bM BK159.out hb);have n2_:=Aside0.mk (below_step (bS2 GE158.out GE159.out) hb);clear BK158 BK159 HB;have BK158:=n0_;have BK159:=n1_;have HB:=n2_;clear n0_ n1_ n2_;(try clear hb);(try clear hb2);(try clear hk);(try clear hi)))
    go_ret
    exact⟨bE,bS2 GE158.out GE159.out⟩
  ·replace c6:=Bool.eq_false_iff.mpr c6
   subst c6
   have H1:(some false)=some r:=by rw[if_neg (show ¬ (false=true) by decide)] at H;exact H
   clear H
   have H:=H1
   clear H1
   obtain rfl:=Option.some.inj H
   go_enter Try.func34,Try.ntmps34
   go_wp2_with (first|((with_reducible refine gate_dst (N:=2) rfl ?_);refine box_event ?hg (N:=2) ?hd (cs:=#[.slice A0_0 l0_0.length c0_0,.slice A0_1 l0_1.length c0_1,.slice A0_2 l0_2.length c0_2,.slice A0_3 l0_3.length c0_3]) (t:=50) ?hr ?_;(case hd=>rfl);(case hg=>rfl);(case hr=>first|(go_simp;done)|(go_simp;rfl));intro gb158 hg w42 hbox hb;have n0_:=Aside0.mk (below_step (bB) hb);have n1_:=Aside0.mk (hbox);have n2_:=Aside0.mk ((bG:w.heap.size≤gb158));have n3_:=Aside0.mk ((bG:w.heap.size≤gb158));clear HB;have HB:=n0_;have BK158:=n1_;have GW158:=n2_;have GE158:=n3_;clear n0_ n1_ n2_ n3_;clear hb hbox hg)|((with_reducible refine gate_dst (N:=3) rfl ?_);refine box_event ?hg (N:=3) ?hd (cs:=#[.slice A1_0 l1_0.length c1_0,.slice A1_1 l1_1.length c1_1,.slice A1_2 l1_2.length c1_2,.slice A1_3 l1_3.length c1_3]) (t:=50) ?hr ?_;(case hd=>rfl);(case hg=>rfl);(case hr=>first|(go_simp;done)|(go_simp;rfl));intro gb159 hg w43 hbox hb;have n0_:=Aside0.mk (bM BK158.out hb);have n1_:=Aside0.mk (below_step (bS GE158.out) hb);have n2_:=Aside0.mk (hbox);have n3_:=Aside0.mk ((by rw[hg];exact(below_size (bS GE158.out)):w.heap.size≤gb159));have n4_:=Aside0.mk ((by rw[hg];exact(below_size (bS GE158.out)):w.heap.size≤gb159));have n5_:=Aside0.mk ((bN BK158.out hg:gb158≠gb159));have n6_:=Aside0.mk ((bO BK158.out hg:gb159≠gb158));clear BK158 HB;have BK158:=n0_;have HB:=n1_;have BK159:=n2_;have GW159:=n3_;have GE159:=n4_;have NB158_159:=n5_;have NB159_158:=n6_;clear n0_ n1_ n2_ n3_ n4_ n5_ n6_;clear hb hbox hg;have hnb44:=NB158_159.out;have hnc44:=NB159_158.out;obtain⟨hcz45_0,hcz45_1,hcz45_2,hcz45_3⟩:=cC4 BK158.out;obtain⟨hfz45_0,hfz45_1,hfz45_2,hfz45_3⟩:=cF4 BK158.out;obtain⟨hcz46_0,hcz46_1,hcz46_2,hcz46_3⟩:=cC4 BK159.out;obtain⟨hfz46_0,hfz46_1,hfz46_2,hfz46_3⟩:=cF4 BK159.out)|((with_reducible refine gate_callee (f:=26) rfl ?_);refine goesA (some 9) rfl rfl Try.func26 #[.slice A0_0 l0_0.length c0_0,.slice A1_0 l1_0.length c1_0] rfl ?_;(with_reducible refine(laws_eqIntS.calls k _ _ l0_0 _ _ l1_0 true _ ?side1 ?side2 ?side3 ?side4 A3.out).mono ?_);(case side1=>exact bC HR0_0.out);(case side2=>exact HC0_0.out);(case side3=>exact bC HR1_0.out);(case side4=>exact HC1_0.out);rintro e w' ⟨rfl,⟨nd,rfl⟩⟩;refine⟨_,rfl,?_⟩)|((with_reducible refine gate_callee (f:=99) rfl ?_);refine goesA (some 15) rfl rfl Try.func99 #[.slice A0_1 l0_1.length c0_1,.slice A1_1 l1_1.length c1_1] rfl ?_;(with_reducible refine(laws_eqKeeperS.calls k _ _ l0_1 _ _ l1_1 false _ ?side1 ?side2 ?side3 ?side4 A5.out).mono ?_);(case side1=>exact b4_);(case side2=>exact HC0_1.out);(case side3=>exact b5_);(case side4=>exact HC1_1.out);rintro e w47 ⟨rfl,hb⟩;refine⟨_,rfl,?_⟩;have n0_:=Aside0.mk (bM BK158.out hb);have n1_:=Aside0.mk (bM BK159.out hb);have n2_:=Aside0.mk (below_step (bS2 GE158.out GE159.out) hb);clear BK158 BK159 HB;have BK158:=n0_;have BK159:=n1_;have HB:=n2_;clear n0_ n1_ n2_;(try clear hb);(try clear hb2);(try clear hk);(try clear hi)))
   go_ret
   exact⟨bE,bS2 GE158.out GE159.out⟩
 ·replace c4:=Bool.eq_false_iff.mpr c4
  subst c4
  have H1:(some false)=some r:=by rw[if_neg (show ¬ (false=true) by decide)] at H;exact H
  clear H
  have H:=H1
  clear H1
  obtain rfl:=Option.some.inj H
  go_enter Try.func34,Try.ntmps34
  go_wp2_with (first|((with_reducible refine gate_dst (N:=2) rfl ?_);refine box_event ?hg (N:=2) ?hd (cs:=#[.slice A0_0 l0_0.length c0_0,.slice A0_1 l0_1.length c0_1,.slice A0_2 l0_2.length c0_2,.slice A0_3 l0_3.length c0_3]) (t:=50) ?hr ?_;(case hd=>rfl);(case hg=>rfl);(case hr=>first|(go_simp;done)|(go_simp;rfl));intro gb158 hg w48 hbox hb;have n0_:=Aside0.mk (below_step (bB) hb);have n1_:=Aside0.mk (hbox);have n2_:=Aside0.mk ((bG:w.heap.size≤gb158));have n3_:=Aside0.mk ((bG:w.heap.size≤gb158));clear HB;have HB:=n0_;have BK158:=n1_;have GW158:=n2_;have GE158:=n3_;clear n0_ n1_ n2_ n3_;clear hb hbox hg)|((with_reducible refine gate_dst (N:=3) rfl ?_);refine box_event ?hg (N:=3) ?hd (cs:=#[.slice A1_0 l1_0.length c1_0,.slice A1_1 l1_1.length c1_1,.slice A1_2 l1_2.length c1_2,.slice A1_3 l1_3.length c1_3]) (t:=50) ?hr ?_;(case hd=>rfl);(case hg=>rfl);(case hr=>first|(go_simp;done)|(go_simp;rfl));intro gb159 hg w49 hbox hb;have n0_:=Aside0.mk (bM BK158.out hb);have n1_:=Aside0.mk (below_step (bS GE158.out) hb);have n2_:=Aside0.mk (hbox);have n3_:=Aside0.mk ((by rw[hg];exact(below_size (bS GE158.out)):w.heap.size≤gb159));have n4_:=Aside0.mk ((by rw[hg];exact(below_size (bS GE158.out)):w.heap.size≤gb159));have n5_:=Aside0.mk ((bN BK158.out hg:gb158≠gb159));have n6_:=Aside0.mk ((bO BK158.out hg:gb159≠gb158));clear BK158 HB;have BK158:=n0_;have HB:=n1_;have BK159:=n2_;have GW159:=n3_;have GE159:=n4_;have NB158_159:=n5_;have NB159_158:=n6_;clear n0_ n1_ n2_ n3_ n4_ n5_ n6_;clear hb hbox hg;have hnb50:=NB158_159.out;have hnc50:=NB159_158.out;obtain⟨hcz51_0,hcz51_1,hcz51_2,hcz51_3⟩:=cC4 BK158.out;obtain⟨hfz51_0,hfz51_1,hfz51_2,hfz51_3⟩:=cF4 BK158.out;obtain⟨hcz52_0,hcz52_1,hcz52_2,hcz52_3⟩:=cC4 BK159.out;obtain⟨hfz52_0,hfz52_1,hfz52_2,hfz52_3⟩:=cF4 BK159.out)|((with_reducible refine gate_callee (f:=26) rfl ?_);refine goesA (some 9) rfl rfl Try.func26 #[.slice A0_0 l0_0.length c0_0,.slice A1_0 l1_0.length c1_0] rfl ?_;(with_reducible refine(laws_eqIntS.calls k _ _ l0_0 _ _ l1_0 false _ ?side1 ?side2 ?side3 ?side4 A3.out).mono ?_);(case side1=>exact bC HR0_0.out);(case side2=>exact HC0_0.out);(case side3=>exact bC HR1_0.out);(case side4=>exact HC1_0.out);rintro e w' ⟨rfl,⟨nd,rfl⟩⟩;refine⟨_,rfl,?_⟩))
  go_ret
  exact⟨bE,bS2 GE158.out GE159.out⟩

/-! ### laws_markHoldS: function 151 -/
def laws_markHoldS.l0:Nat→List (S198)→Int→Int→Option (Int × (List (S198)))
 | 0,_,_,_=>none
 | k+1,x0,x1,x5=>if x5 < (x0.length:Int) then (if 0≤x5 then ((some (x0.set (x5:Int).toNat (⟨x1,(rd_T198 x0 x5).f1⟩:S198):List (S198))).bind fun y164=>(laws_markHoldS.l0 k (y164.set (x5:Int).toNat (⟨(rd_T198 y164 x5).f0,wrap64 (x1+1)⟩:S198)) (wrap64 ((wrap64 (x1+1))+1)) (wrap64 (x5+1)))) else (none)) else (some (x1,x0))
def laws_markHoldS.f (k:Nat) (l0:List (S198)) (a1:Int):Option (Int × (List (S198))):=laws_markHoldS.l0 k l0 a1 0
theorem laws_markHoldS.mono_l : ∀ k,(∀ y0 y1 y2,LeO (laws_markHoldS.l0 k y0 y1 y2) (laws_markHoldS.l0 (k+1) y0 y1 y2))
 | 0=>fun _ _ _ r h=>by simp[laws_markHoldS.l0] at h
 | k+1=>by
  have ih0:=laws_markHoldS.mono_l k
  ·intro y0 y1 y2
   unfold laws_markHoldS.l0
   repeat' first
   | (with_reducible exact ih0 _ _ _)
   | (with_reducible exact LeO.refl _)
   | (with_reducible exact LeO.none _)
   | (with_reducible refine LeO.ite ?_ ?_)
   | (with_reducible refine LeO.bind ?_ (fun _ => ?_))
   | exact ih0 _ _ _
   | exact LeO.none _
   | refine LeO.ite ?_ ?_
   | refine LeO.bind ?_ (fun _ => ?_)
theorem laws_markHoldS.mono : ∀ a0 a1 k,LeO (laws_markHoldS.f k a0 a1) (laws_markHoldS.f (k+1) a0 a1):=by
 intro a0 a1 k
 have ih0:=laws_markHoldS.mono_l k
 unfold laws_markHoldS.f
 repeat' first
  | (with_reducible exact ih0 _ _ _)
  | (with_reducible exact LeO.refl _)
  | (with_reducible exact LeO.none _)
  | (with_reducible refine LeO.ite ?_ ?_)
  | (with_reducible refine LeO.bind ?_ (fun _ => ?_))
  | exact ih0 _ _ _
  | exact LeO.none _
  | refine LeO.ite ?_ ?_
  | refine LeO.bind ?_ (fun _ => ?_)
set_option maxHeartbeats 8000000 in
set_option maxRecDepth 100000 in
theorem laws_markHoldS.calls (k:Nat) (P0_:Nat→Prop) (u9000_:Value) (l0:List (S198)) (a1:Int) (r1:Int) (r2:List (S198)) (w0 w:World) (hB:Below w0.heap.size w0 w) (ho0:Kd.R k198 198 w w0.heap.size P0_ u9000_ l0) (h:laws_markHoldS.f k l0 a1=some (r1,r2)) :
  Calls Try.prog 151 #[u9000_,.int .i64 a1] w fun e w'=>e=.returned (.int .i64 r1)∧Kd.R k198 198 w' w0.heap.size (fun k_=>(P0_ k_∨w.heap.size≤k_)) u9000_ r2∧Below w0.heap.size w0 w'∧Kept w w' (fun k_=>P0_ k_):=by
 have HO0:=Aside0.mk (show Kd.R k198 198 w w0.heap.size (fun k_=>(P0_ k_∨w.heap.size≤k_)) u9000_ l0 from Kd.R_mono ho0 (fun k_ hk=>(.inl hk)))
 have HK:=Aside0.mk (Kept.refl w (fun k_=>P0_ k_))
 have HW0:=Aside0.mk hB.size
 have HB:=Aside0.mk hB
 clear hB
 have H:(laws_markHoldS.l0 k l0 a1 0)=some (r1,r2):=h
 clear h
 have H':=Aside0.mk H
 clear H
 go_enter Try.func151,Try.ntmps151
 go_wp2
 go_loopg [1,5] k (fun kq v1 v5 w' => ∃ (x0_1:List (S198)) (x1_1:Int) (x5_1:Int),v1=.int .i64 x1_1∧v5=.int .i64 x5_1∧Aside0 (laws_markHoldS.l0 kq x0_1 x1_1 x5_1=some (r1,r2))∧Aside0 (kq≤k)∧Aside0 (Kd.R k198 198 w' w0.heap.size (fun k_=>(P0_ k_∨w.heap.size≤k_)) u9000_ x0_1)∧Aside0 (Kept w w' (fun k_=>P0_ k_))∧Aside0 (Below w0.heap.size w0 w'))
 case atStart=>exact⟨(l0),(a1),(0),(bR),(bR),H',⟨Nat.le_refl _⟩,⟨by(with_reducible repeat (first|apply Kd.R_alloc|apply Kd.R_drewN|apply Kd.R_drew));exact HO0.out⟩,⟨by repeat (first|(with_reducible first|exact HK.out|apply Kept.alloc|apply Kept.drewN|apply Kept.drew)|exact HK.out)⟩,⟨by repeat (first|(with_reducible first|exact HB.out|apply below_alloc|apply pw_below_drewN|apply below_drew1)|exact HB.out)⟩⟩
 case round =>
  clear H'
  try clear c1
  try clear p2
  obtain⟨x0_1,x1_1,x5_1,rfl,rfl,HA,HK1,HO_0,HK,HB⟩:=hrel
  cases gk with
  | zero=>exact absurd HA.out (by simp[laws_markHoldS.l0])
  | succ k1 =>
   have H:=HA.out
   clear HA
   simp only[laws_markHoldS.l0] at H
   by_cases c3:x5_1 < (x0_1.length:Int)
   ·rw[if_pos c3] at H
    have c3b0:decide (x5_1 < (x0_1.length:Int))=true:=decide_eq_true c3
    clear c3
    by_cases c4:0≤x5_1
    ·rw[if_pos c4] at H
     have c4b0:decide (0≤x5_1)=true:=decide_eq_true c4
     clear c4
     obtain⟨y164,hy164⟩ : ∃ y_:List (S198),y_=(x0_1.set (x5_1:Int).toNat (⟨x1_1,(rd_T198 x0_1 x5_1).f1⟩:S198)):=⟨_,rfl⟩
     replace H:(laws_markHoldS.l0 k1 (y164.set (x5_1:Int).toNat (⟨(rd_T198 y164 x5_1).f0,wrap64 (x1_1+1)⟩:S198)) (wrap64 ((wrap64 (x1_1+1))+1)) (wrap64 (x5_1+1)))=some (r1,r2):=by first|(rw[hy164];with_reducible exact H)|(have H2_:=(Option.bind_some _ _).symm.trans H;rw[hy164];with_reducible exact H2_)|(have H2_:=(Option.bind_some _ _).symm.trans H;with_reducible exact H2_)|with_reducible exact H|(rw[hy164];exact H)|exact H
     have Ny164:=Aside0.mk hy164
     clear hy164
     obtain⟨y165,hy165⟩ : ∃ y_:List (S198),y_=(y164.set (x5_1:Int).toNat (⟨(rd_T198 y164 x5_1).f0,wrap64 (x1_1+1)⟩:S198)):=⟨_,rfl⟩
     replace H:(laws_markHoldS.l0 k1 y165 (wrap64 ((wrap64 (x1_1+1))+1)) (wrap64 (x5_1+1)))=some (r1,r2):=by first|(rw[hy165];with_reducible exact H)|(have H2_:=(Option.bind_some _ _).symm.trans H;rw[hy165];with_reducible exact H2_)|(have H2_:=(Option.bind_some _ _).symm.trans H;with_reducible exact H2_)|with_reducible exact H|(rw[hy165];exact H)|exact H
     have Ny165:=Aside0.mk hy165
     clear hy165
     have H':=Aside0.mk H
     clear H
     obtain⟨Ao7,co7,eo7⟩:=Kd.R_slice HO_0.out
     subst eo7
     have p5:0≤(x5_1:Int):=of_decide_eq_true (bD)
     have q5:(x5_1:Int) < ((x0_1.length:Int):Int):=of_decide_eq_true (bD)
     obtain⟨go5,co5,eo5,gb5,gl5,cl5,HG5⟩:=Kd.R_form HO_0.out (by omega)
     (first|cases eo5|(injection eo5 with ea_ en_ ec_;(first|subst ea_|(injection ea_ with ea_;subst ea_));subst ec_;clear en_))
     have GB5:=Aside0.mk gb5
     have GG5:=Aside0.mk HG5
     clear gb5 gl5 HG5
     have HMgo5:=Aside0.mk (show(P0_ go5∨w.heap.size≤go5) from (HO_0.out.1 _ rfl))
     obtain⟨ce5,hcl5,hM5,hcc5,hfr5⟩:=Kd.R_elem HO_0.out z198 (x5_1:Int) p5 q5
     obtain rfl:=k198_openM hM5
     have hx5_0:wr.cell? ⟨go5,(x5_1:Int).toNat * 2,none⟩=some (.int .i64 ((rd_T198 x0_1 x5_1).f0)):=hcc5 0 _ rfl
     have hx5_1:wr.cell? ⟨go5,(x5_1:Int).toNat * 2+1,none⟩=some (.int .i64 ((rd_T198 x0_1 x5_1).f1)):=hcc5 1 _ rfl
     have hf5_0:wr.frozen? ⟨go5,(x5_1:Int).toNat * 2,none⟩=false:=hfr5 0
     have hf5_1:wr.frozen? ⟨go5,(x5_1:Int).toNat * 2+1,none⟩=false:=hfr5 1
     clear hcl5 hcc5 hfr5 hM5
     replace p5:=eq_true p5
     replace q5:=eq_true q5
     have HX8:=Aside0.mk (show Kd.R k198 198 wr w0.heap.size (fun k_=>(P0_ k_∨w.heap.size≤k_)) (.slice (some ⟨go5,0,none⟩) x0_1.length co7) x0_1 from (bK HO_0.out))
     obtain⟨ce8,hcl8,hM8,hcc8,hfr8⟩:=Kd.R_elem HX8.out z198 (x5_1:Int) (of_decide_eq_true (bD)) (by have h_:(x5_1:Int) < ((x0_1.length:Int):Int):=of_decide_eq_true (bD);first|exact h_|(have e_:=(Kd.R_reads' HO_0.out).1;omega)|simpa using h_)
     obtain rfl:=k198_openM hM8
     have HP8:=Kd.R_seg HX8.out (x5_1:Int) (of_decide_eq_true (bD)) (by have h_:(x5_1:Int) < ((x0_1.length:Int):Int):=of_decide_eq_true (bD);first|exact h_|(have e_:=(Kd.R_reads' HO_0.out).1;omega)|simpa using h_) (seg:=[.int .i64 x1_1]) (j:=0) hcl8 hcc8 (show 1≤2 from by decide) (x':=(⟨x1_1,(rd_T198 x0_1 x5_1).f1⟩:S198)) (k198_mkM _ _ _ (⟨x1_1,(rd_T198 x0_1 x5_1).f1⟩:S198) ) (fun _ hk=>hk)
     have hx8_0:=hcc8 0 _ rfl
     (try simp only[show(k198).sz=2 from rfl,Nat.mul_one,Nat.add_zero] at hx8_0)
     have hf8_0:=hfr8 0
     (try simp only[show(k198).sz=2 from rfl,Nat.mul_one,Nat.add_zero] at hf8_0)
     clear hcl8 hcc8 hfr8 hM8
     go_wp2_with (first|((with_reducible refine gate_store (t:=3) (p:=16) rfl ?_);refine store_event (t:=3) (p:=16) (v:=?vo_w9) (w1:=(wr.setCell ⟨go5,(x5_1:Int).toNat * 2,none⟩ (.int .i64 x1_1))) ?hg ?ho ?hn ?hr ?_;(case ho=>rfl);(case hg=>rfl);(case hn=>rfl);(case hr=>first|(go_simp;done)|(go_simp;rfl));intro w9 hw;have hg:wr.grownBy w9 (some go5):=(by rw[hw];exact HP8.2);have hp_:Kd.R k198 198 w9 w0.heap.size (fun k_=>(P0_ k_∨w.heap.size≤k_)) (.slice (some ⟨go5,0,none⟩) x0_1.length co7) y164:=(by rw[hw,Ny164.out];exact HP8.1);clear HP8;have n0_:=Aside0.mk (hp_);have n1_:=Aside0.mk ((by rw[hw];exact below_set (HB.out) GB5.out:Below w0.heap.size w0 w9));have n2_:=Aside0.mk (Kept.of_grown (S:=(fun k_=>P0_ k_)) hg (b2_) (fun k_ e_=>(HO_0.out.1 k_ e_)));clear HO_0 HB HK;have HO_0:=n0_;have HB:=n1_;have HK:=n2_;clear n0_ n1_ n2_;clear hg hw hp_;have p6:0≤(x5_1:Int):=of_decide_eq_true (bD);have q6:(x5_1:Int) < ((x0_1.length:Int):Int):=of_decide_eq_true (bD);obtain⟨ce6,hcl6,hM6,hcc6,hfr6⟩:=Kd.R_elem HO_0.out z198 (x5_1:Int) p6 q6;obtain rfl:=k198_openM hM6;have hx6_0:w9.cell? ⟨go5,(x5_1:Int).toNat * 2,none⟩=some (.int .i64 ((rd_T198 y164 x5_1).f0)):=hcc6 0 _ rfl;have hx6_1:w9.cell? ⟨go5,(x5_1:Int).toNat * 2+1,none⟩=some (.int .i64 ((rd_T198 y164 x5_1).f1)):=hcc6 1 _ rfl;have hf6_0:w9.frozen? ⟨go5,(x5_1:Int).toNat * 2,none⟩=false:=hfr6 0;have hf6_1:w9.frozen? ⟨go5,(x5_1:Int).toNat * 2+1,none⟩=false:=hfr6 1;clear hcl6 hcc6 hfr6 hM6;replace p6:=eq_true p6;replace q6:=eq_true q6;have HX10:=Aside0.mk (show Kd.R k198 198 w9 w0.heap.size (fun k_=>(P0_ k_∨w.heap.size≤k_)) (.slice (some ⟨go5,0,none⟩) x0_1.length co7) y164 from (bK HO_0.out));obtain⟨ce10,hcl10,hM10,hcc10,hfr10⟩:=Kd.R_elem HX10.out z198 (x5_1:Int) (of_decide_eq_true (bD)) (by have h_:(x5_1:Int) < ((x0_1.length:Int):Int):=of_decide_eq_true (bD);first|exact h_|(have e_:=(Kd.R_reads' HO_0.out).1;omega)|simpa using h_);obtain rfl:=k198_openM hM10;have HP10:=Kd.R_seg HX10.out (x5_1:Int) (of_decide_eq_true (bD)) (by have h_:(x5_1:Int) < ((x0_1.length:Int):Int):=of_decide_eq_true (bD);first|exact h_|(have e_:=(Kd.R_reads' HO_0.out).1;omega)|simpa using h_) (seg:=[.int .i64 (wrap64 (x1_1+1))]) (j:=1) hcl10 hcc10 (show 2≤2 from by decide) (x':=(⟨(rd_T198 y164 x5_1).f0,wrap64 (x1_1+1)⟩:S198)) (k198_mkM _ _ _ (⟨(rd_T198 y164 x5_1).f0,wrap64 (x1_1+1)⟩:S198) ) (fun _ hk=>hk);have hx10_1:=hcc10 1 _ rfl;(try simp only[show(k198).sz=2 from rfl,Nat.mul_one,Nat.add_zero] at hx10_1);have hf10_1:=hfr10 1;(try simp only[show(k198).sz=2 from rfl,Nat.mul_one,Nat.add_zero] at hf10_1);clear hcl10 hcc10 hfr10 hM10)|((with_reducible refine gate_store (t:=3) (p:=23) rfl ?_);refine store_event (t:=3) (p:=23) (v:=?vo_w11) (w1:=(w9.setCell ⟨go5,(x5_1:Int).toNat * 2+1,none⟩ (.int .i64 (wrap64 (x1_1+1))))) ?hg ?ho ?hn ?hr ?_;(case ho=>rfl);(case hg=>rfl);(case hn=>rfl);(case hr=>first|(go_simp;done)|(go_simp;rfl));intro w11 hw;have hg:w9.grownBy w11 (some go5):=(by rw[hw];exact HP10.2);have hp_:Kd.R k198 198 w11 w0.heap.size (fun k_=>(P0_ k_∨w.heap.size≤k_)) (.slice (some ⟨go5,0,none⟩) x0_1.length co7) y165:=(by rw[hw,Ny165.out];exact HP10.1);clear HP10;have n0_:=Aside0.mk (hp_);have n1_:=Aside0.mk ((by rw[hw];exact below_set (HB.out) GB5.out:Below w0.heap.size w0 w11));have n2_:=Aside0.mk (Kept.of_grown (S:=(fun k_=>P0_ k_)) hg (b2_) (fun k_ e_=>(HO_0.out.1 k_ e_)));clear HO_0 HB HK;have HO_0:=n0_;have HB:=n1_;have HK:=n2_;clear n0_ n1_ n2_;clear hg hw hp_))
     go_roundg k1
     case measure=>have:=HK1.out;omega
     case rel=>exact⟨(y165),(wrap64 ((wrap64 (x1_1+1))+1)),(wrap64 (x5_1+1)),(bR),(bR),H',⟨by have:=HK1.out;omega⟩,⟨by(with_reducible repeat (first|apply Kd.R_alloc|apply Kd.R_drewN|apply Kd.R_drew));exact HO_0.out⟩,⟨by repeat (first|(with_reducible first|exact HK.out|apply Kept.alloc|apply Kept.drewN|apply Kept.drew)|exact HK.out)⟩,⟨by repeat (first|(with_reducible first|exact HB.out|apply below_alloc|apply pw_below_drewN|apply below_drew1)|exact HB.out)⟩⟩
    ·rw[if_neg c4] at H
     exact absurd H (by simp)
   ·rw[if_neg c3] at H
    have c3b0:decide (x5_1 < (x0_1.length:Int))=false:=decide_eq_false c3
    clear c3
    simp only[Option.some.injEq,Prod.mk.injEq] at H
    obtain⟨rfl,rfl⟩:=H
    obtain⟨Ao12,co12,eo12⟩:=Kd.R_slice HO_0.out
    subst eo12
    go_wp2
    go_ret
    exact⟨bE,by(with_reducible repeat (first|apply Kd.R_alloc|apply Kd.R_drewN|apply Kd.R_drew));exact HO_0.out,b8_,by repeat (first|(with_reducible first|exact HK.out|apply Kept.alloc|apply Kept.drewN|apply Kept.drew)|exact HK.out)⟩

/-! ### laws_markKeeperS: function 101, by hand -/
def laws_markKeeperS.l0:Nat→List (S179)→Int→Int→Option Int
 | 0,_,_,_=>none
 | k+1,x0,x1,x5=>if x5 < (x0.length:Int) then (if 0≤x5 then (if (rd_T179 x0 x5).f0.length+(rd_T179 x0 x5).f1.length+(rd_T179 x0 x5).f2.length=0 then (laws_markKeeperS.l0 k x0 x1 (wrap64 (x5+1))) else none) else none) else (some x1)
def laws_markKeeperS.f (k:Nat) (l0:List (S179)) (a1:Int):Option Int:=laws_markKeeperS.l0 k l0 a1 0
theorem laws_markKeeperS.mono_l : ∀ k,(∀ y0 y1 y2,LeO (laws_markKeeperS.l0 k y0 y1 y2) (laws_markKeeperS.l0 (k+1) y0 y1 y2))
 | 0=>fun _ _ _ r h=>by simp[laws_markKeeperS.l0] at h
 | k+1=>by
  have ih0:=laws_markKeeperS.mono_l k
  intro y0 y1 y2
  unfold laws_markKeeperS.l0
  repeat' first
  | exact ih0 _ _ _
  | exact LeO.refl _
  | exact LeO.none _
  | refine LeO.ite ?_ ?_
theorem laws_markKeeperS.mono : ∀ a0 a1 k,LeO (laws_markKeeperS.f k a0 a1) (laws_markKeeperS.f (k+1) a0 a1):=fun a0 a1 k=>laws_markKeeperS.mono_l k a0 a1 0
set_option maxHeartbeats 8000000 in
theorem markIntS_nil (A0:Option Addr) (c0:Nat) (a1:Int) (w:World):Calls Try.prog 29 #[.slice A0 0 c0,.int .i64 a1] w fun e w'=>e=.returned (.int .i64 a1)∧Drawn0 w w':=by
 go_enter Try.func29,Try.ntmps29
 go_wp2
 go_loopg [1,5] 1 (fun kq v1 v5 w'=>v1=.int .i64 a1∧v5=.int .i64 0∧Drawn0 w w')
 case atStart=>exact⟨(bR),(bR),bW⟩
 case round =>
  obtain⟨rfl,rfl,⟨m1,rfl⟩⟩:=hrel
  go_wp2
  go_ret
  exact⟨bR,bW⟩
set_option maxHeartbeats 8000000 in
theorem markHoldS_nil (A0:Option Addr) (c0:Nat) (a1:Int) (w:World):Calls Try.prog 151 #[.slice A0 0 c0,.int .i64 a1] w fun e w'=>e=.returned (.int .i64 a1)∧Drawn0 w w':=by
 go_enter Try.func151,Try.ntmps151
 go_wp2
 go_loopg [1,5] 1 (fun kq v1 v5 w'=>v1=.int .i64 a1∧v5=.int .i64 0∧Drawn0 w w')
 case atStart=>exact⟨(bR),(bR),bW⟩
 case round =>
  obtain⟨rfl,rfl,⟨m1,rfl⟩⟩:=hrel
  go_wp2
  go_ret
  exact⟨bR,bW⟩
set_option maxHeartbeats 8000000 in
set_option maxRecDepth 100000 in
theorem laws_markKeeperS.calls (k:Nat) (A0:Option Addr) (c0:Nat) (l0:List (S179)) (a1:Int) (r:Int) (w:World) (hr0:Kd.C k179 w A0 l0.length l0) (hc0:l0.length≤c0) (h:laws_markKeeperS.f k l0 a1=some r) :
  Calls Try.prog 101 #[.slice A0 l0.length c0,.int .i64 a1] w fun e w'=>e=.returned (.int .i64 r)∧Drawn0 w w':=by
 have HR0:=Aside0.mk hr0
 have HC0:=Aside0.mk hc0
 clear hr0 hc0
 have H:(laws_markKeeperS.l0 k l0 a1 0)=some r:=h
 clear h
 have H':=Aside0.mk H
 clear H
 go_enter Try.func101,Try.ntmps101
 go_wp2
 go_loopg [1,5] k (fun kq v1 v5 w' => ∃ (x5_1:Int),v1=.int .i64 a1∧v5=.int .i64 x5_1∧Aside0 (laws_markKeeperS.l0 kq l0 a1 x5_1=some r)∧Aside0 (kq≤k)∧Drawn0 w w')
 case atStart=>exact⟨(0),(bR),(bR),H',⟨Nat.le_refl _⟩,bW⟩
 case round =>
  clear H'
  obtain⟨x5_1,rfl,rfl,HA,HK1,⟨m1,rfl⟩⟩:=hrel
  cases gk with
  | zero=>exact absurd HA.out (by simp[laws_markKeeperS.l0])
  | succ k1 =>
   have H:=HA.out
   clear HA
   simp only[laws_markKeeperS.l0] at H
   by_cases c3:x5_1 < (l0.length:Int)
   ·rw[if_pos c3] at H
    have c3b0:decide (x5_1 < (l0.length:Int))=true:=decide_eq_true c3
    by_cases c4:0≤x5_1
    ·rw[if_pos c4] at H
     have c4b0:decide (0≤x5_1)=true:=decide_eq_true c4
     by_cases c5:(rd_T179 l0 x5_1).f0.length+(rd_T179 l0 x5_1).f1.length+(rd_T179 l0 x5_1).f2.length=0
     ·rw[if_pos c5] at H
      have H':=Aside0.mk H
      clear H
      have z0_:(rd_T179 l0 x5_1).f0.length=0:=by omega
      have z1_:(rd_T179 l0 x5_1).f1.length=0:=by omega
      have z2_:(rd_T179 l0 x5_1).f2.length=0:=by omega
      obtain⟨ad177,A177_0,c177_0,A177_1,c177_1,A177_2,c177_2,e177,hx177_0,hx177_1,hx177_2,hl177_0,hi177_0,hl177_1,hi177_1,hl177_2,hi177_2⟩:=at_T179 HR0.out x5_1 c4 c3
      rw[z0_] at hx177_0
      rw[z1_] at hx177_1
      rw[z2_] at hx177_2
      cases e177
      clear hi177_0 hl177_0 hi177_1 hl177_1 hi177_2 hl177_2 z0_ z1_ z2_ c5
      have p177:=eq_true c4
      have q177:=eq_true c3
      clear c3 c4
      go_wp2_with (first|((with_reducible refine gate_callee (f:=29) rfl ?_);refine goesA (some 18) rfl rfl Try.func29 #[.slice A177_0 0 c177_0,.int .i64 a1] rfl ?_;(with_reducible refine(markIntS_nil A177_0 c177_0 a1 _).mono ?_);rintro e w' ⟨rfl,⟨nd,rfl⟩⟩;refine⟨_,rfl,?_⟩)|((with_reducible refine gate_callee (f:=151) rfl ?_);refine goesA (some 25) rfl rfl Try.func151 #[.slice A177_1 0 c177_1,.int .i64 a1] rfl ?_;(with_reducible refine(markHoldS_nil A177_1 c177_1 a1 _).mono ?_);rintro e w' ⟨rfl,⟨nd,rfl⟩⟩;refine⟨_,rfl,?_⟩)|((with_reducible refine gate_callee (f:=29) rfl ?_);refine goesA (some 32) rfl rfl Try.func29 #[.slice A177_2 0 c177_2,.int .i64 a1] rfl ?_;(with_reducible refine(markIntS_nil A177_2 c177_2 a1 _).mono ?_);rintro e w' ⟨rfl,⟨nd,rfl⟩⟩;refine⟨_,rfl,?_⟩))
      go_roundg k1
      case measure=>have:=HK1.out;omega
      case rel=>exact⟨(wrap64 (x5_1+1)),(bR),(bR),H',⟨by have:=HK1.out;omega⟩,bW⟩
     ·rw[if_neg c5] at H
      exact absurd H (by simp)
    ·rw[if_neg c4] at H
     exact absurd H (by simp)
   ·rw[if_neg c3] at H
    have c3b0:decide (x5_1 < (l0.length:Int))=false:=decide_eq_false c3
    clear c3
    obtain rfl:=Option.some.inj H
    go_wp2
    go_ret
    exact⟨bR,bW⟩


end Go.Proofs.Yteneeohaoplpbaa.XFnExactNewCustody
