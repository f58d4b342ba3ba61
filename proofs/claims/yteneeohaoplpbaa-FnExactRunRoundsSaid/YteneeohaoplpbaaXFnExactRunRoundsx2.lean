-- Written by this session's own program (wip/xprint.py) out of the translation; Lean checks it.
import Derived.Test.YteneeohaoplpbaaXFnExactRunRoundsx0
import Derived.Test.YteneeohaoplpbaaXFnExactRunRoundsx1
namespace Go.Proofs.Yteneeohaoplpbaa.XFnExactRunRounds
open Go.RowKit Go.Proofs.YteneeohaoplpbaaW.PrintWords Go.Proofs.YteneeohaoplpbaaW.PrintLast Go.Proofs.YteneeohaoplpbaaW.PrintMore
attribute [local go_sem] max2_int min2_int max_two min_two max_three min_three max_four min_four   -- for this text's walks alone
set_option linter.unusedVariables false
set_option linter.unusedSimpArgs false

/-! ### laws_eqQueueS: function 81 -/
def laws_eqQueueS.l0:Nat→List (S116)→List (S116)→Int→Option (Bool)
 | 0,_,_,_=>none
 | k+1,x0,x1,x5=>if x5 < (x0.length:Int) then (if 0≤x5 then (if x5 < (x1.length:Int) then ((laws_eqQueue.f k ((rd_T116 x0 x5).f0) ((rd_T116 x0 x5).f1) ((rd_T116 x0 x5).f2) ((rd_T116 x1 x5).f0) ((rd_T116 x1 x5).f1) ((rd_T116 x1 x5).f2)).bind fun t141=>(if t141=true then (laws_eqQueueS.l0 k x0 x1 (wrap64 (x5+1))) else (some false))) else (none)) else (none)) else (some true)
def laws_eqQueueS.f (k:Nat) (l0:List (S116)) (l1:List (S116)):Option (Bool):=if (l0.length:Int)=(l1.length:Int) then (laws_eqQueueS.l0 k l0 l1 0) else (some false)
theorem laws_eqQueueS.mono_l : ∀ k,(∀ y0 y1 y2,LeO (laws_eqQueueS.l0 k y0 y1 y2) (laws_eqQueueS.l0 (k+1) y0 y1 y2))
 | 0=>fun _ _ _ r h=>by simp[laws_eqQueueS.l0] at h
 | k+1=>by
  have ih0:=laws_eqQueueS.mono_l k
  ·intro y0 y1 y2
   unfold laws_eqQueueS.l0
   repeat' first
   | (with_reducible exact ih0 _ _ _)
   | (with_reducible exact laws_eqQueue.mono _ _ _ _ _ _ _)
   | (with_reducible exact LeO.refl _)
   | (with_reducible exact LeO.none _)
   | (with_reducible refine LeO.ite ?_ ?_)
   | (with_reducible refine LeO.bind ?_ (fun _ => ?_))
   | exact ih0 _ _ _
   | exact laws_eqQueue.mono _ _ _ _ _ _ _
   | exact LeO.none _
   | refine LeO.ite ?_ ?_
   | refine LeO.bind ?_ (fun _ => ?_)
theorem laws_eqQueueS.mono : ∀ a0 a1 k,LeO (laws_eqQueueS.f k a0 a1) (laws_eqQueueS.f (k+1) a0 a1):=by
 intro a0 a1 k
 have ih0:=laws_eqQueueS.mono_l k
 unfold laws_eqQueueS.f
 repeat' first
  | (with_reducible exact ih0 _ _ _)
  | (with_reducible exact laws_eqQueue.mono _ _ _ _ _ _ _)
  | (with_reducible exact LeO.refl _)
  | (with_reducible exact LeO.none _)
  | (with_reducible refine LeO.ite ?_ ?_)
  | (with_reducible refine LeO.bind ?_ (fun _ => ?_))
  | exact ih0 _ _ _
  | exact laws_eqQueue.mono _ _ _ _ _ _ _
  | exact LeO.none _
  | refine LeO.ite ?_ ?_
  | refine LeO.bind ?_ (fun _ => ?_)
def laws_eqQueueS.T6:Bool × List (List Nat × List Nat):=(true,[([],[]),([],[]),([0,1],[0,1]),([2],[2]),([],[]),([],[]),([4,5],[4,5]),([6],[6]),([3,7],[3,7]),([8],[8])])
def laws_eqQueueS.B6:List Nat:=[0,0,3,7,0,0,48,112,255,511]
theorem laws_eqQueueS.tab6:rtab .any (opsOf Try.f81 6)=laws_eqQueueS.T6:=by kernel_rfl
theorem laws_eqQueueS.bits6:waitsOk laws_eqQueueS.T6.2 laws_eqQueueS.B6=true:=by kernel_rfl
set_option maxHeartbeats 8000000 in
set_option maxRecDepth 100000 in
theorem laws_eqQueueS.calls (k:Nat) (A0:Option Addr) (c0:Nat) (l0:List (S116)) (A1:Option Addr) (c1:Nat) (l1:List (S116)) (r:Bool) (w:World) (hr0:Kd.C k116 w A0 l0.length l0) (hc0:l0.length≤c0) (hr1:Kd.C k116 w A1 l1.length l1) (hc1:l1.length≤c1) (h:laws_eqQueueS.f k l0 l1=some r) :
  Calls Try.prog 81 #[.slice A0 l0.length c0,.slice A1 l1.length c1] w fun e w'=>e=.returned (.bool r)∧Below w.heap.size w w':=by
 have hu116:=Try.underlying116
 have HR0:=Aside0.mk hr0
 have HC0:=Aside0.mk hc0
 clear hr0 hc0
 have HR1:=Aside0.mk hr1
 have HC1:=Aside0.mk hc1
 clear hr1 hc1
 have HB:=Aside0.mk (Below.refl w.heap.size w)
 have H:(if (l0.length:Int)=(l1.length:Int) then (laws_eqQueueS.l0 k l0 l1 0) else (some false))=some r:=h
 clear h
 by_cases c3:(l0.length:Int)=(l1.length:Int)
 ·rw[if_pos c3] at H
  have c3b0:((l0.length:Int) == (l1.length:Int))=true:=beq_iff_eq.mpr c3
  have c3b1:((l0.length:Int) != (l1.length:Int))=false:=bne_eq_false_iff_eq.mpr c3
  have c3b2:(l0.length == l1.length)=true:=by first|simpa using c3|(simp at c3 ⊢;omega)
  clear c3
  have H':=Aside0.mk H
  clear H
  go_enter Try.func81,Try.ntmps81
  go_wp2
  go_loopg [5] k (fun kq v5 w' => ∃ (x5_1:Int),v5=.int .i64 x5_1∧Aside0 (laws_eqQueueS.l0 kq l0 l1 x5_1=some r)∧Aside0 (kq≤k)∧Aside0 (Below w.heap.size w w'))
  case atStart=>exact⟨(0),(bR),H',⟨Nat.le_refl _⟩,⟨by repeat (first|(with_reducible first|exact HB.out|apply below_alloc|apply pw_below_drewN|apply below_drew1)|exact HB.out)⟩⟩
  case round =>
   clear H'
   try clear c1
   try clear p2
   try clear c3
   try clear c3b0
   try clear c3b1
   try clear c3b2
   obtain⟨x5_1,rfl,HA,HK1,HB⟩:=hrel
   cases gk with
   | zero=>exact absurd HA.out (by simp[laws_eqQueueS.l0])
   | succ k1 =>
    have H:=HA.out
    clear HA
    simp only[laws_eqQueueS.l0] at H
    by_cases c4:x5_1 < (l0.length:Int)
    ·rw[if_pos c4] at H
     have c4b0:decide (x5_1 < (l0.length:Int))=true:=decide_eq_true c4
     clear c4
     by_cases c5:0≤x5_1
     ·rw[if_pos c5] at H
      have c5b0:decide (0≤x5_1)=true:=decide_eq_true c5
      clear c5
      by_cases c6:x5_1 < (l1.length:Int)
      ·rw[if_pos c6] at H
       have c6b0:decide (x5_1 < (l1.length:Int))=true:=decide_eq_true c6
       clear c6
       replace H:=Option.bind_eq_some_iff.mp H
       obtain⟨t141,A70,H⟩:=H
       have A7:=Aside0.mk A70
       clear A70
       by_cases c8:t141=true
       ·subst c8
        have H1:(laws_eqQueueS.l0 k1 l0 l1 (wrap64 (x5_1+1)))=some r:=by rw[if_pos rfl] at H;exact H
        clear H
        have H:=H1
        clear H1
        have H':=Aside0.mk H
        clear H
        try go_wp2
        (try (rw[drewN_self wr];generalize hq_:World.drewN wr _=wr;have n0_:=Aside0.mk (below_at hq_ HB.out);clear hq_ HB;have HB:=n0_;clear n0_))
        have n0_:=Aside0.mk (below_drew1 HB.out)
        clear HB
        have HB:=n0_
        clear n0_
        have p139:0≤(x5_1:Int):=of_decide_eq_true (bD)
        have q139:x5_1 < (l0.length:Int):=of_decide_eq_true (bD)
        obtain⟨ad139,A139_0,c139_0,e139,hx139_0,hx139_1,hx139_2,hl139_0,hi139_0⟩:=at_T116 HR0.out x5_1 p139 q139
        have hw139_2:=hx139_2
        have hw139_1:=hx139_1
        have hw139_0:=hx139_0
        cases e139
        replace hx139_0:=(HB.out.cell (World.block_lt_of_cell? w _ hx139_0)).trans hx139_0
        replace hx139_1:=(HB.out.cell (World.block_lt_of_cell? w _ hx139_1)).trans hx139_1
        replace hx139_2:=(HB.out.cell (World.block_lt_of_cell? w _ hx139_2)).trans hx139_2
        have HR139_0:=Aside0.mk hi139_0
        have HC139_0:=Aside0.mk hl139_0
        clear hi139_0 hl139_0
        replace p139:=eq_true p139
        replace q139:=eq_true q139
        have p140:0≤(x5_1:Int):=of_decide_eq_true (bD)
        have q140:x5_1 < (l1.length:Int):=of_decide_eq_true (bD)
        obtain⟨ad140,A140_0,c140_0,e140,hx140_0,hx140_1,hx140_2,hl140_0,hi140_0⟩:=at_T116 HR1.out x5_1 p140 q140
        have hw140_2:=hx140_2
        have hw140_1:=hx140_1
        have hw140_0:=hx140_0
        cases e140
        replace hx140_0:=(HB.out.cell (World.block_lt_of_cell? w _ hx140_0)).trans hx140_0
        replace hx140_1:=(HB.out.cell (World.block_lt_of_cell? w _ hx140_1)).trans hx140_1
        replace hx140_2:=(HB.out.cell (World.block_lt_of_cell? w _ hx140_2)).trans hx140_2
        have HR140_0:=Aside0.mk hi140_0
        have HC140_0:=Aside0.mk hl140_0
        clear hi140_0 hl140_0
        replace p140:=eq_true p140
        replace q140:=eq_true q140
        refine start_ (n:=10) (S:=fun w'=>w'.cell? (ad139.add ((x5_1).toNat * 3))=some (.slice A139_0 ((rd_T116 l0 x5_1).f0).length c139_0)∧w'.cell? ⟨(ad139.add ((x5_1).toNat * 3)).block,(ad139.add ((x5_1).toNat * 3)).off+1,none⟩=some (.int .i64 ((rd_T116 l0 x5_1).f1))∧w'.cell? ⟨(ad139.add ((x5_1).toNat * 3)).block,(ad139.add ((x5_1).toNat * 3)).off+2,none⟩=some (.int .i64 ((rd_T116 l0 x5_1).f2))∧w'.cell? (ad140.add ((x5_1).toNat * 3))=some (.slice A140_0 ((rd_T116 l1 x5_1).f0).length c140_0)∧w'.cell? ⟨(ad140.add ((x5_1).toNat * 3)).block,(ad140.add ((x5_1).toNat * 3)).off+1,none⟩=some (.int .i64 ((rd_T116 l1 x5_1).f1))∧w'.cell? ⟨(ad140.add ((x5_1).toNat * 3)).block,(ad140.add ((x5_1).toNat * 3)).off+2,none⟩=some (.int .i64 ((rd_T116 l1 x5_1).f2))) (ds:=[]) #[false,false,false,false,false,false,false,false,false,false] (by kernel_rfl) rfl rfl ⟨((HB.out.cell (World.block_lt_of_cell? w _ hw139_0)).trans hw139_0),((HB.out.cell (World.block_lt_of_cell? w _ hw139_1)).trans hw139_1),((HB.out.cell (World.block_lt_of_cell? w _ hw139_2)).trans hw139_2),((HB.out.cell (World.block_lt_of_cell? w _ hw140_0)).trans hw140_0),((HB.out.cell (World.block_lt_of_cell? w _ hw140_1)).trans hw140_1),((HB.out.cell (World.block_lt_of_cell? w _ hw140_2)).trans hw140_2)⟩ (fun hHeld => ?_);refine with_tabW laws_eqQueueS.tab6 laws_eqQueueS.bits6 (fun HT_ HW_ => ?_)
        generalize wr.drew=w9 at HB HR139_0 HR140_0 hx139_0 hx139_1 hx139_2 hx140_0 hx140_1 hx140_2 hHeld ⊢
        refine pure_ (i:=0) (N:=some 17) (v:=?_) (a':=?_) #[true,false,false,false,false,false,false,false,false,false] rfl rfl (any_of HT_.out (by kernel_rfl)) (fun _ _ _ h=>h) (Or.inl ⟨by rfl,?_⟩) ?_ ?_
        rotate_left
        ·intro w'
         go_simp
         with_reducible rfl
        rotate_left
        ·simp only[Act.put,List.setIfInBounds_toArray,List.set_cons_zero,List.set_cons_succ,i64_w,i32_w]
         rfl
        refine pure_ (i:=1) (N:=some 18) (v:=?_) (a':=?_) #[true,true,false,false,false,false,false,false,false,false] rfl rfl (any_of HT_.out (by kernel_rfl)) (fun _ _ _ h=>h) (Or.inl ⟨by rfl,?_⟩) ?_ ?_
        rotate_left
        ·intro w'
         go_simp
         with_reducible rfl
        rotate_left
        ·simp only[Act.put,List.setIfInBounds_toArray,List.set_cons_zero,List.set_cons_succ,i64_w,i32_w]
         rfl
        refine pure_ (i:=2) (N:=some 19) (v:=?_) (a':=?_) #[true,true,true,false,false,false,false,false,false,false] rfl rfl (any_of HT_.out (by kernel_rfl)) (fun _ _ _ h=>h) (Or.inl ⟨by rfl,?_⟩) ?_ ?_
        rotate_left
        ·intro w'
         go_simp
         with_reducible rfl
        rotate_left
        ·simp only[Act.put,List.setIfInBounds_toArray,List.set_cons_zero,List.set_cons_succ,i64_w,i32_w]
         rfl
        refine pure_ (i:=4) (N:=some 21) (v:=?_) (a':=?_) #[true,true,true,false,true,false,false,false,false,false] rfl rfl (any_of HT_.out (by kernel_rfl)) (fun _ _ _ h=>h) (Or.inl ⟨by rfl,?_⟩) ?_ ?_
        rotate_left
        ·intro w'
         go_simp
         with_reducible rfl
        rotate_left
        ·simp only[Act.put,List.setIfInBounds_toArray,List.set_cons_zero,List.set_cons_succ,i64_w,i32_w]
         rfl
        refine pure_ (i:=5) (N:=some 22) (v:=?_) (a':=?_) #[true,true,true,false,true,true,false,false,false,false] rfl rfl (any_of HT_.out (by kernel_rfl)) (fun _ _ _ h=>h) (Or.inl ⟨by rfl,?_⟩) ?_ ?_
        rotate_left
        ·intro w'
         go_simp
         with_reducible rfl
        rotate_left
        ·simp only[Act.put,List.setIfInBounds_toArray,List.set_cons_zero,List.set_cons_succ,i64_w,i32_w]
         rfl
        refine pure_ (i:=6) (N:=some 23) (v:=?_) (a':=?_) #[true,true,true,false,true,true,true,false,false,false] rfl rfl (any_of HT_.out (by kernel_rfl)) (fun _ _ _ h=>h) (Or.inl ⟨by rfl,?_⟩) ?_ ?_
        rotate_left
        ·intro w'
         go_simp
         with_reducible rfl
        rotate_left
        ·simp only[Act.put,List.setIfInBounds_toArray,List.set_cons_zero,List.set_cons_succ,i64_w,i32_w]
         rfl
        refine take_ (i:=3) (N:=some 20) (v:=?_) (a':=?_) #[true,true,true,true,true,true,true,false,false,false] rfl rfl (take_ofW HT_.out HW_.out (by kernel_rfl)) (fun _ _ _ h=>h) (Or.inl ⟨by rfl,?_⟩) hHeld ?_ ?_
        rotate_left
        ·rintro w' ⟨s0,s1,s2,s3,s4,s5⟩
         go_simp
         with_reducible rfl
        rotate_left
        ·simp only[Act.put,List.setIfInBounds_toArray,List.set_cons_zero,List.set_cons_succ,i64_w,i32_w]
         rfl
        refine take_ (i:=7) (N:=some 24) (v:=?_) (a':=?_) #[true,true,true,true,true,true,true,true,false,false] rfl rfl (take_ofW HT_.out HW_.out (by kernel_rfl)) (fun _ _ _ h=>h) (Or.inl ⟨by rfl,?_⟩) hHeld ?_ ?_
        rotate_left
        ·rintro w' ⟨s0,s1,s2,s3,s4,s5⟩
         go_simp
         with_reducible rfl
        rotate_left
        ·simp only[Act.put,List.setIfInBounds_toArray,List.set_cons_zero,List.set_cons_succ,i64_w,i32_w]
         rfl
        refine one_ (i:=8) (N:=some 25) #[true,true,true,true,true,true,true,true,true,false] rfl rfl (one_of HT_.out (by kernel_rfl)) (by decide) (fun K hK => ?_)
        refine goes_ Try.func143 (by kernel_rfl) rfl #[.agg #[.slice A139_0 ((rd_T116 l0 x5_1).f0).length c139_0,.int .i64 ((rd_T116 l0 x5_1).f1),.int .i64 ((rd_T116 l0 x5_1).f2)],.agg #[.slice A140_0 ((rd_T116 l1 x5_1).f0).length c140_0,.int .i64 ((rd_T116 l1 x5_1).f1),.int .i64 ((rd_T116 l1 x5_1).f2)]] (by rfl) rfl rfl (by(try simp only[List.map_toArray,List.map_cons,List.map_nil]);first|done|rfl|(simp only[List.length_drop,List.length_take];rfl)) ?_
        with_reducible refine(laws_eqQueue.calls k1 _ _ ((rd_T116 l0 x5_1).f0) ((rd_T116 l0 x5_1).f1) ((rd_T116 l0 x5_1).f2) _ _ ((rd_T116 l1 x5_1).f0) ((rd_T116 l1 x5_1).f1) ((rd_T116 l1 x5_1).f2) true _ ?side1 ?side2 ?side3 ?side4 A7.out).mono ?_
        (case side1=>exact bC HR139_0.out)
        (case side2=>exact HC139_0.out)
        (case side3=>exact bC HR140_0.out)
        (case side4=>exact HC140_0.out)
        rintro e w10 ⟨rfl,hb⟩
        refine⟨_,rfl,?_⟩
        have n0_:=Aside0.mk (below_step (bB) hb)
        clear HB
        have HB:=n0_
        clear n0_
        (try clear hb)
        (try clear hb2)
        (try clear hk)
        (try clear hi)
        refine hK.out _ _ ⟨((HB.out.cell (World.block_lt_of_cell? w _ hw139_0)).trans hw139_0),((HB.out.cell (World.block_lt_of_cell? w _ hw139_1)).trans hw139_1),((HB.out.cell (World.block_lt_of_cell? w _ hw139_2)).trans hw139_2),((HB.out.cell (World.block_lt_of_cell? w _ hw140_0)).trans hw140_0),((HB.out.cell (World.block_lt_of_cell? w _ hw140_1)).trans hw140_1),((HB.out.cell (World.block_lt_of_cell? w _ hw140_2)).trans hw140_2)⟩ (fun hHeld => ?_)
        clear hK K
        refine norm_ (a':=?_) ?_ ?_
        rotate_left
        ·show Act.put _ (some 25) _=_
         simp only[Act.put,List.setIfInBounds_toArray,List.set_cons_zero,List.set_cons_succ,i64_w,i32_w]
         rfl
        refine pure_ (i:=9) (N:=some 26) (v:=?_) (a':=?_) #[true,true,true,true,true,true,true,true,true,true] rfl rfl (any_of HT_.out (by kernel_rfl)) (fun _ _ _ h=>h) (Or.inl ⟨by rfl,?_⟩) ?_ ?_
        rotate_left
        ·intro w'
         go_simp
         with_reducible rfl
        rotate_left
        ·simp only[Act.put,List.setIfInBounds_toArray,List.set_cons_zero,List.set_cons_succ,i64_w,i32_w]
         rfl
        refine done_ (done_of HT_.out (by kernel_rfl)) ?_
        try go_wp2
        go_roundg k1
        case measure=>have:=HK1.out;omega
        case rel=>exact⟨(wrap64 (x5_1+1)),(bR),H',⟨by have:=HK1.out;omega⟩,⟨by repeat (first|(with_reducible first|exact HB.out|apply below_alloc|apply pw_below_drewN|apply below_drew1)|exact HB.out)⟩⟩
       ·replace c8:=Bool.eq_false_iff.mpr c8
        subst c8
        have H1:(some false)=some r:=by rw[if_neg (show ¬ (false=true) by decide)] at H;exact H
        clear H
        have H:=H1
        clear H1
        obtain rfl:=Option.some.inj H
        try go_wp2
        (try (rw[drewN_self wr];generalize hq_:World.drewN wr _=wr;have n0_:=Aside0.mk (below_at hq_ HB.out);clear hq_ HB;have HB:=n0_;clear n0_))
        have n0_:=Aside0.mk (below_drew1 HB.out)
        clear HB
        have HB:=n0_
        clear n0_
        have p139:0≤(x5_1:Int):=of_decide_eq_true (bD)
        have q139:x5_1 < (l0.length:Int):=of_decide_eq_true (bD)
        obtain⟨ad139,A139_0,c139_0,e139,hx139_0,hx139_1,hx139_2,hl139_0,hi139_0⟩:=at_T116 HR0.out x5_1 p139 q139
        have hw139_2:=hx139_2
        have hw139_1:=hx139_1
        have hw139_0:=hx139_0
        cases e139
        replace hx139_0:=(HB.out.cell (World.block_lt_of_cell? w _ hx139_0)).trans hx139_0
        replace hx139_1:=(HB.out.cell (World.block_lt_of_cell? w _ hx139_1)).trans hx139_1
        replace hx139_2:=(HB.out.cell (World.block_lt_of_cell? w _ hx139_2)).trans hx139_2
        have HR139_0:=Aside0.mk hi139_0
        have HC139_0:=Aside0.mk hl139_0
        clear hi139_0 hl139_0
        replace p139:=eq_true p139
        replace q139:=eq_true q139
        have p140:0≤(x5_1:Int):=of_decide_eq_true (bD)
        have q140:x5_1 < (l1.length:Int):=of_decide_eq_true (bD)
        obtain⟨ad140,A140_0,c140_0,e140,hx140_0,hx140_1,hx140_2,hl140_0,hi140_0⟩:=at_T116 HR1.out x5_1 p140 q140
        have hw140_2:=hx140_2
        have hw140_1:=hx140_1
        have hw140_0:=hx140_0
        cases e140
        replace hx140_0:=(HB.out.cell (World.block_lt_of_cell? w _ hx140_0)).trans hx140_0
        replace hx140_1:=(HB.out.cell (World.block_lt_of_cell? w _ hx140_1)).trans hx140_1
        replace hx140_2:=(HB.out.cell (World.block_lt_of_cell? w _ hx140_2)).trans hx140_2
        have HR140_0:=Aside0.mk hi140_0
        have HC140_0:=Aside0.mk hl140_0
        clear hi140_0 hl140_0
        replace p140:=eq_true p140
        replace q140:=eq_true q140
        refine start_ (n:=10) (S:=fun w'=>w'.cell? (ad139.add ((x5_1).toNat * 3))=some (.slice A139_0 ((rd_T116 l0 x5_1).f0).length c139_0)∧w'.cell? ⟨(ad139.add ((x5_1).toNat * 3)).block,(ad139.add ((x5_1).toNat * 3)).off+1,none⟩=some (.int .i64 ((rd_T116 l0 x5_1).f1))∧w'.cell? ⟨(ad139.add ((x5_1).toNat * 3)).block,(ad139.add ((x5_1).toNat * 3)).off+2,none⟩=some (.int .i64 ((rd_T116 l0 x5_1).f2))∧w'.cell? (ad140.add ((x5_1).toNat * 3))=some (.slice A140_0 ((rd_T116 l1 x5_1).f0).length c140_0)∧w'.cell? ⟨(ad140.add ((x5_1).toNat * 3)).block,(ad140.add ((x5_1).toNat * 3)).off+1,none⟩=some (.int .i64 ((rd_T116 l1 x5_1).f1))∧w'.cell? ⟨(ad140.add ((x5_1).toNat * 3)).block,(ad140.add ((x5_1).toNat * 3)).off+2,none⟩=some (.int .i64 ((rd_T116 l1 x5_1).f2))) (ds:=[]) #[false,false,false,false,false,false,false,false,false,false] (by kernel_rfl) rfl rfl ⟨((HB.out.cell (World.block_lt_of_cell? w _ hw139_0)).trans hw139_0),((HB.out.cell (World.block_lt_of_cell? w _ hw139_1)).trans hw139_1),((HB.out.cell (World.block_lt_of_cell? w _ hw139_2)).trans hw139_2),((HB.out.cell (World.block_lt_of_cell? w _ hw140_0)).trans hw140_0),((HB.out.cell (World.block_lt_of_cell? w _ hw140_1)).trans hw140_1),((HB.out.cell (World.block_lt_of_cell? w _ hw140_2)).trans hw140_2)⟩ (fun hHeld => ?_);refine with_tabW laws_eqQueueS.tab6 laws_eqQueueS.bits6 (fun HT_ HW_ => ?_)
        generalize wr.drew=w11 at HB HR139_0 HR140_0 hx139_0 hx139_1 hx139_2 hx140_0 hx140_1 hx140_2 hHeld ⊢
        refine pure_ (i:=0) (N:=some 17) (v:=?_) (a':=?_) #[true,false,false,false,false,false,false,false,false,false] rfl rfl (any_of HT_.out (by kernel_rfl)) (fun _ _ _ h=>h) (Or.inl ⟨by rfl,?_⟩) ?_ ?_
        rotate_left
        ·intro w'
         go_simp
         with_reducible rfl
        rotate_left
        ·simp only[Act.put,List.setIfInBounds_toArray,List.set_cons_zero,List.set_cons_succ,i64_w,i32_w]
         rfl
        refine pure_ (i:=1) (N:=some 18) (v:=?_) (a':=?_) #[true,true,false,false,false,false,false,false,false,false] rfl rfl (any_of HT_.out (by kernel_rfl)) (fun _ _ _ h=>h) (Or.inl ⟨by rfl,?_⟩) ?_ ?_
        rotate_left
        ·intro w'
         go_simp
         with_reducible rfl
        rotate_left
        ·simp only[Act.put,List.setIfInBounds_toArray,List.set_cons_zero,List.set_cons_succ,i64_w,i32_w]
         rfl
        refine pure_ (i:=2) (N:=some 19) (v:=?_) (a':=?_) #[true,true,true,false,false,false,false,false,false,false] rfl rfl (any_of HT_.out (by kernel_rfl)) (fun _ _ _ h=>h) (Or.inl ⟨by rfl,?_⟩) ?_ ?_
        rotate_left
        ·intro w'
         go_simp
         with_reducible rfl
        rotate_left
        ·simp only[Act.put,List.setIfInBounds_toArray,List.set_cons_zero,List.set_cons_succ,i64_w,i32_w]
         rfl
        refine pure_ (i:=4) (N:=some 21) (v:=?_) (a':=?_) #[true,true,true,false,true,false,false,false,false,false] rfl rfl (any_of HT_.out (by kernel_rfl)) (fun _ _ _ h=>h) (Or.inl ⟨by rfl,?_⟩) ?_ ?_
        rotate_left
        ·intro w'
         go_simp
         with_reducible rfl
        rotate_left
        ·simp only[Act.put,List.setIfInBounds_toArray,List.set_cons_zero,List.set_cons_succ,i64_w,i32_w]
         rfl
        refine pure_ (i:=5) (N:=some 22) (v:=?_) (a':=?_) #[true,true,true,false,true,true,false,false,false,false] rfl rfl (any_of HT_.out (by kernel_rfl)) (fun _ _ _ h=>h) (Or.inl ⟨by rfl,?_⟩) ?_ ?_
        rotate_left
        ·intro w'
         go_simp
         with_reducible rfl
        rotate_left
        ·simp only[Act.put,List.setIfInBounds_toArray,List.set_cons_zero,List.set_cons_succ,i64_w,i32_w]
         rfl
        refine pure_ (i:=6) (N:=some 23) (v:=?_) (a':=?_) #[true,true,true,false,true,true,true,false,false,false] rfl rfl (any_of HT_.out (by kernel_rfl)) (fun _ _ _ h=>h) (Or.inl ⟨by rfl,?_⟩) ?_ ?_
        rotate_left
        ·intro w'
         go_simp
         with_reducible rfl
        rotate_left
        ·simp only[Act.put,List.setIfInBounds_toArray,List.set_cons_zero,List.set_cons_succ,i64_w,i32_w]
         rfl
        refine take_ (i:=3) (N:=some 20) (v:=?_) (a':=?_) #[true,true,true,true,true,true,true,false,false,false] rfl rfl (take_ofW HT_.out HW_.out (by kernel_rfl)) (fun _ _ _ h=>h) (Or.inl ⟨by rfl,?_⟩) hHeld ?_ ?_
        rotate_left
        ·rintro w' ⟨s0,s1,s2,s3,s4,s5⟩
         go_simp
         with_reducible rfl
        rotate_left
        ·simp only[Act.put,List.setIfInBounds_toArray,List.set_cons_zero,List.set_cons_succ,i64_w,i32_w]
         rfl
        refine take_ (i:=7) (N:=some 24) (v:=?_) (a':=?_) #[true,true,true,true,true,true,true,true,false,false] rfl rfl (take_ofW HT_.out HW_.out (by kernel_rfl)) (fun _ _ _ h=>h) (Or.inl ⟨by rfl,?_⟩) hHeld ?_ ?_
        rotate_left
        ·rintro w' ⟨s0,s1,s2,s3,s4,s5⟩
         go_simp
         with_reducible rfl
        rotate_left
        ·simp only[Act.put,List.setIfInBounds_toArray,List.set_cons_zero,List.set_cons_succ,i64_w,i32_w]
         rfl
        refine one_ (i:=8) (N:=some 25) #[true,true,true,true,true,true,true,true,true,false] rfl rfl (one_of HT_.out (by kernel_rfl)) (by decide) (fun K hK => ?_)
        refine goes_ Try.func143 (by kernel_rfl) rfl #[.agg #[.slice A139_0 ((rd_T116 l0 x5_1).f0).length c139_0,.int .i64 ((rd_T116 l0 x5_1).f1),.int .i64 ((rd_T116 l0 x5_1).f2)],.agg #[.slice A140_0 ((rd_T116 l1 x5_1).f0).length c140_0,.int .i64 ((rd_T116 l1 x5_1).f1),.int .i64 ((rd_T116 l1 x5_1).f2)]] (by rfl) rfl rfl (by(try simp only[List.map_toArray,List.map_cons,List.map_nil]);first|done|rfl|(simp only[List.length_drop,List.length_take];rfl)) ?_
        with_reducible refine(laws_eqQueue.calls k1 _ _ ((rd_T116 l0 x5_1).f0) ((rd_T116 l0 x5_1).f1) ((rd_T116 l0 x5_1).f2) _ _ ((rd_T116 l1 x5_1).f0) ((rd_T116 l1 x5_1).f1) ((rd_T116 l1 x5_1).f2) false _ ?side1 ?side2 ?side3 ?side4 A7.out).mono ?_
        (case side1=>exact bC HR139_0.out)
        (case side2=>exact HC139_0.out)
        (case side3=>exact bC HR140_0.out)
        (case side4=>exact HC140_0.out)
        rintro e w12 ⟨rfl,hb⟩
        refine⟨_,rfl,?_⟩
        have n0_:=Aside0.mk (below_step (bB) hb)
        clear HB
        have HB:=n0_
        clear n0_
        (try clear hb)
        (try clear hb2)
        (try clear hk)
        (try clear hi)
        refine hK.out _ _ ⟨((HB.out.cell (World.block_lt_of_cell? w _ hw139_0)).trans hw139_0),((HB.out.cell (World.block_lt_of_cell? w _ hw139_1)).trans hw139_1),((HB.out.cell (World.block_lt_of_cell? w _ hw139_2)).trans hw139_2),((HB.out.cell (World.block_lt_of_cell? w _ hw140_0)).trans hw140_0),((HB.out.cell (World.block_lt_of_cell? w _ hw140_1)).trans hw140_1),((HB.out.cell (World.block_lt_of_cell? w _ hw140_2)).trans hw140_2)⟩ (fun hHeld => ?_)
        clear hK K
        refine norm_ (a':=?_) ?_ ?_
        rotate_left
        ·show Act.put _ (some 25) _=_
         simp only[Act.put,List.setIfInBounds_toArray,List.set_cons_zero,List.set_cons_succ,i64_w,i32_w]
         rfl
        refine pure_ (i:=9) (N:=some 26) (v:=?_) (a':=?_) #[true,true,true,true,true,true,true,true,true,true] rfl rfl (any_of HT_.out (by kernel_rfl)) (fun _ _ _ h=>h) (Or.inl ⟨by rfl,?_⟩) ?_ ?_
        rotate_left
        ·intro w'
         go_simp
         with_reducible rfl
        rotate_left
        ·simp only[Act.put,List.setIfInBounds_toArray,List.set_cons_zero,List.set_cons_succ,i64_w,i32_w]
         rfl
        refine done_ (done_of HT_.out (by kernel_rfl)) ?_
        try go_wp2
        go_ret
        exact⟨bE,bB⟩
      ·rw[if_neg c6] at H
       exact absurd H (by simp)
     ·rw[if_neg c5] at H
      exact absurd H (by simp)
    ·rw[if_neg c4] at H
     have c4b0:decide (x5_1 < (l0.length:Int))=false:=decide_eq_false c4
     clear c4
     obtain rfl:=Option.some.inj H
     go_wp2
     go_ret
     exact⟨bE,bB⟩
 ·rw[if_neg c3] at H
  have c3b0:((l0.length:Int) == (l1.length:Int))=false:=beq_eq_false_iff_ne.mpr c3
  have c3b1:((l0.length:Int) != (l1.length:Int))=true:=bne_iff_ne.mpr c3
  have c3b2:(l0.length == l1.length)=false:=by first|simpa using c3|(simp at c3 ⊢;omega)
  obtain rfl:=Option.some.inj H
  go_enter Try.func81,Try.ntmps81
  go_wp2
  go_ret
  exact⟨bE,bB⟩

/-! ### laws_eqTurns: function 19 -/
def laws_eqTurns.f (k:Nat) (a0_0:Int) (l0_1:List (S116)) (a0_2:Int) (a1_0:Int) (l1_1:List (S116)) (a1_2:Int):Option (Bool):=if a0_0=a1_0 then ((laws_eqQueueS.f k l0_1 l1_1).bind fun t144=>(if t144=true then (if a0_2=a1_2 then (some true) else (some false)) else (some false))) else (some false)
theorem laws_eqTurns.mono : ∀ a0 a1 a2 a3 a4 a5 k,LeO (laws_eqTurns.f k a0 a1 a2 a3 a4 a5) (laws_eqTurns.f (k+1) a0 a1 a2 a3 a4 a5):=by
 intro a0 a1 a2 a3 a4 a5 k
 unfold laws_eqTurns.f
 repeat' first
  | (with_reducible exact laws_eqQueueS.mono _ _ _)
  | (with_reducible exact LeO.refl _)
  | (with_reducible exact LeO.none _)
  | (with_reducible refine LeO.ite ?_ ?_)
  | (with_reducible refine LeO.bind ?_ (fun _ => ?_))
  | exact laws_eqQueueS.mono _ _ _
  | exact LeO.none _
  | refine LeO.ite ?_ ?_
  | refine LeO.bind ?_ (fun _ => ?_)
set_option maxHeartbeats 8000000 in
set_option maxRecDepth 100000 in
theorem laws_eqTurns.calls (k:Nat) (a0_0:Int) (A0_1:Option Addr) (c0_1:Nat) (l0_1:List (S116)) (a0_2:Int) (a1_0:Int) (A1_1:Option Addr) (c1_1:Nat) (l1_1:List (S116)) (a1_2:Int) (r:Bool) (w:World) (hr0_1:Kd.C k116 w A0_1 l0_1.length l0_1) (hc0_1:l0_1.length≤c0_1) (hr1_1:Kd.C k116 w A1_1 l1_1.length l1_1) (hc1_1:l1_1.length≤c1_1) (h:laws_eqTurns.f k a0_0 l0_1 a0_2 a1_0 l1_1 a1_2=some r) :
  Calls Try.prog 19 #[.agg #[.int .i64 a0_0,.slice A0_1 l0_1.length c0_1,.int .i64 a0_2],.agg #[.int .i64 a1_0,.slice A1_1 l1_1.length c1_1,.int .i64 a1_2]] w fun e w'=>e=.returned (.bool r)∧Below w.heap.size w w':=by
 have hu28:=Try.underlying28
 have HR0_1:=Aside0.mk hr0_1
 have HC0_1:=Aside0.mk hc0_1
 clear hr0_1 hc0_1
 have HR1_1:=Aside0.mk hr1_1
 have HC1_1:=Aside0.mk hc1_1
 clear hr1_1 hc1_1
 have HB:=Aside0.mk (Below.refl w.heap.size w)
 have H:(if a0_0=a1_0 then ((laws_eqQueueS.f k l0_1 l1_1).bind fun t144=>(if t144=true then (if a0_2=a1_2 then (some true) else (some false)) else (some false))) else (some false))=some r:=h
 clear h
 by_cases c3:a0_0=a1_0
 ·rw[if_pos c3] at H
  have c3b0:(a0_0 == a1_0)=true:=beq_iff_eq.mpr c3
  have c3b1:(a0_0 != a1_0)=false:=bne_eq_false_iff_eq.mpr c3
  clear c3
  replace H:=Option.bind_eq_some_iff.mp H
  obtain⟨t144,A40,H⟩:=H
  have A4:=Aside0.mk A40
  clear A40
  by_cases c5:t144=true
  ·subst c5
   have H1:(if a0_2=a1_2 then (some true) else (some false))=some r:=by rw[if_pos rfl] at H;exact H
   clear H
   have H:=H1
   clear H1
   by_cases c6:a0_2=a1_2
   ·rw[if_pos c6] at H
    have c6b0:(a0_2 == a1_2)=true:=beq_iff_eq.mpr c6
    have c6b1:(a0_2 != a1_2)=false:=bne_eq_false_iff_eq.mpr c6
    clear c6
    obtain rfl:=Option.some.inj H
    go_enter Try.func19,Try.ntmps19
    go_wp2_with (first|((with_reducible refine gate_dst (N:=2) rfl ?_);refine box_event ?hg (N:=2) ?hd (cs:=#[.int .i64 a0_0,.slice A0_1 l0_1.length c0_1,.int .i64 a0_2]) (t:=28) ?hr ?_;(case hd=>rfl);(case hg=>rfl);(case hr=>first|(go_simp;done)|(go_simp;rfl));intro gb142 hg w7 hbox hb;have n0_:=Aside0.mk (below_step (bB) hb);have n1_:=Aside0.mk (hbox);have n2_:=Aside0.mk ((bG:w.heap.size≤gb142));have n3_:=Aside0.mk ((bG:w.heap.size≤gb142));clear HB;have HB:=n0_;have BK142:=n1_;have GW142:=n2_;have GE142:=n3_;clear n0_ n1_ n2_ n3_;clear hb hbox hg)|((with_reducible refine gate_dst (N:=3) rfl ?_);refine box_event ?hg (N:=3) ?hd (cs:=#[.int .i64 a1_0,.slice A1_1 l1_1.length c1_1,.int .i64 a1_2]) (t:=28) ?hr ?_;(case hd=>rfl);(case hg=>rfl);(case hr=>first|(go_simp;done)|(go_simp;rfl));intro gb143 hg w8 hbox hb;have n0_:=Aside0.mk (bM BK142.out hb);have n1_:=Aside0.mk (below_step (bS GE142.out) hb);have n2_:=Aside0.mk (hbox);have n3_:=Aside0.mk ((by rw[hg];exact(below_size (bS GE142.out)):w.heap.size≤gb143));have n4_:=Aside0.mk ((by rw[hg];exact(below_size (bS GE142.out)):w.heap.size≤gb143));have n5_:=Aside0.mk ((bN BK142.out hg:gb142≠gb143));have n6_:=Aside0.mk ((bO BK142.out hg:gb143≠gb142));clear BK142 HB;have BK142:=n0_;have HB:=n1_;have BK143:=n2_;have GW143:=n3_;have GE143:=n4_;have NB142_143:=n5_;have NB143_142:=n6_;clear n0_ n1_ n2_ n3_ n4_ n5_ n6_;clear hb hbox hg;have hnb9:=NB142_143.out;have hnc9:=NB143_142.out;obtain⟨hcz10_0,hcz10_1,hcz10_2⟩:=cC3 BK142.out;obtain⟨hfz10_0,hfz10_1,hfz10_2⟩:=cF3 BK142.out;obtain⟨hcz11_0,hcz11_1,hcz11_2⟩:=cC3 BK143.out;obtain⟨hfz11_0,hfz11_1,hfz11_2⟩:=cF3 BK143.out)|((with_reducible refine gate_callee (f:=81) rfl ?_);refine goesA (some 14) rfl rfl Try.func81 #[.slice A0_1 l0_1.length c0_1,.slice A1_1 l1_1.length c1_1] rfl ?_;(with_reducible refine(laws_eqQueueS.calls k _ _ l0_1 _ _ l1_1 true _ ?side1 ?side2 ?side3 ?side4 A4.out).mono ?_);(case side1=>exact bC HR0_1.out);(case side2=>exact HC0_1.out);(case side3=>exact bC HR1_1.out);(case side4=>exact HC1_1.out);rintro e w12 ⟨rfl,hb⟩;refine⟨_,rfl,?_⟩;have n0_:=Aside0.mk (bM BK142.out hb);have n1_:=Aside0.mk (bM BK143.out hb);have n2_:=Aside0.mk (below_step (bS2 GE142.out GE143.out) hb);clear BK142 BK143 HB;have BK142:=n0_;have BK143:=n1_;have HB:=n2_;clear n0_ n1_ n2_;(try clear hb);(try clear hb2);(try clear hk);(try clear hi);obtain⟨hcz13_0,hcz13_1,hcz13_2⟩:=cC3 BK142.out;obtain⟨hfz13_0,hfz13_1,hfz13_2⟩:=cF3 BK142.out;obtain⟨hcz14_0,hcz14_1,hcz14_2⟩:=cC3 BK143.out;obtain⟨hfz14_0,hfz14_1,hfz14_2⟩:=cF3 BK143.out))
    go_ret
    exact⟨bE,bS2 GE142.out GE143.out⟩
   ·rw[if_neg c6] at H
    have c6b0:(a0_2 == a1_2)=false:=beq_eq_false_iff_ne.mpr c6
    have c6b1:(a0_2 != a1_2)=true:=bne_iff_ne.mpr c6
    obtain rfl:=Option.some.inj H
    go_enter Try.func19,Try.ntmps19
    go_wp2_with (first|((with_reducible refine gate_dst (N:=2) rfl ?_);refine box_event ?hg (N:=2) ?hd (cs:=#[.int .i64 a0_0,.slice A0_1 l0_1.length c0_1,.int .i64 a0_2]) (t:=28) ?hr ?_;(case hd=>rfl);(case hg=>rfl);(case hr=>first|(go_simp;done)|(go_simp;rfl));intro gb142 hg w15 hbox hb;have n0_:=Aside0.mk (below_step (bB) hb);have n1_:=Aside0.mk (hbox);have n2_:=Aside0.mk ((bG:w.heap.size≤gb142));have n3_:=Aside0.mk ((bG:w.heap.size≤gb142));clear HB;have HB:=n0_;have BK142:=n1_;have GW142:=n2_;have GE142:=n3_;clear n0_ n1_ n2_ n3_;clear hb hbox hg)|((with_reducible refine gate_dst (N:=3) rfl ?_);refine box_event ?hg (N:=3) ?hd (cs:=#[.int .i64 a1_0,.slice A1_1 l1_1.length c1_1,.int .i64 a1_2]) (t:=28) ?hr ?_;(case hd=>rfl);(case hg=>rfl);(case hr=>first|(go_simp;done)|(go_simp;rfl));intro gb143 hg w16 hbox hb;have n0_:=Aside0.mk (bM BK142.out hb);have n1_:=Aside0.mk (below_step (bS GE142.out) hb);have n2_:=Aside0.mk (hbox);have n3_:=Aside0.mk ((by rw[hg];exact(below_size (bS GE142.out)):w.heap.size≤gb143));have n4_:=Aside0.mk ((by rw[hg];exact(below_size (bS GE142.out)):w.heap.size≤gb143));have n5_:=Aside0.mk ((bN BK142.out hg:gb142≠gb143));have n6_:=Aside0.mk ((bO BK142.out hg:gb143≠gb142));clear BK142 HB;have BK142:=n0_;have HB:=n1_;have BK143:=n2_;have GW143:=n3_;have GE143:=n4_;have NB142_143:=n5_;have NB143_142:=n6_;clear n0_ n1_ n2_ n3_ n4_ n5_ n6_;clear hb hbox hg;have hnb17:=NB142_143.out;have hnc17:=NB143_142.out;obtain⟨hcz18_0,hcz18_1,hcz18_2⟩:=cC3 BK142.out;obtain⟨hfz18_0,hfz18_1,hfz18_2⟩:=cF3 BK142.out;obtain⟨hcz19_0,hcz19_1,hcz19_2⟩:=cC3 BK143.out;obtain⟨hfz19_0,hfz19_1,hfz19_2⟩:=cF3 BK143.out)|((with_reducible refine gate_callee (f:=81) rfl ?_);refine goesA (some 14) rfl rfl Try.func81 #[.slice A0_1 l0_1.length c0_1,.slice A1_1 l1_1.length c1_1] rfl ?_;(with_reducible refine(laws_eqQueueS.calls k _ _ l0_1 _ _ l1_1 true _ ?side1 ?side2 ?side3 ?side4 A4.out).mono ?_);(case side1=>exact bC HR0_1.out);(case side2=>exact HC0_1.out);(case side3=>exact bC HR1_1.out);(case side4=>exact HC1_1.out);rintro e w20 ⟨rfl,hb⟩;refine⟨_,rfl,?_⟩;have n0_:=Aside0.mk (bM BK142.out hb);have n1_:=Aside0.mk (bM BK143.out hb);have n2_:=Aside0.mk (below_step (bS2 GE142.out GE143.out) hb);clear BK142 BK143 HB;have BK142:=n0_;have BK143:=n1_;have HB:=n2_;clear n0_ n1_ n2_;(try clear hb);(try clear hb2);(try clear hk);(try clear hi);obtain⟨hcz21_0,hcz21_1,hcz21_2⟩:=cC3 BK142.out;obtain⟨hfz21_0,hfz21_1,hfz21_2⟩:=cF3 BK142.out;obtain⟨hcz22_0,hcz22_1,hcz22_2⟩:=cC3 BK143.out;obtain⟨hfz22_0,hfz22_1,hfz22_2⟩:=cF3 BK143.out))
    go_ret
    exact⟨bE,bS2 GE142.out GE143.out⟩
  ·replace c5:=Bool.eq_false_iff.mpr c5
   subst c5
   have H1:(some false)=some r:=by rw[if_neg (show ¬ (false=true) by decide)] at H;exact H
   clear H
   have H:=H1
   clear H1
   obtain rfl:=Option.some.inj H
   go_enter Try.func19,Try.ntmps19
   go_wp2_with (first|((with_reducible refine gate_dst (N:=2) rfl ?_);refine box_event ?hg (N:=2) ?hd (cs:=#[.int .i64 a0_0,.slice A0_1 l0_1.length c0_1,.int .i64 a0_2]) (t:=28) ?hr ?_;(case hd=>rfl);(case hg=>rfl);(case hr=>first|(go_simp;done)|(go_simp;rfl));intro gb142 hg w23 hbox hb;have n0_:=Aside0.mk (below_step (bB) hb);have n1_:=Aside0.mk (hbox);have n2_:=Aside0.mk ((bG:w.heap.size≤gb142));have n3_:=Aside0.mk ((bG:w.heap.size≤gb142));clear HB;have HB:=n0_;have BK142:=n1_;have GW142:=n2_;have GE142:=n3_;clear n0_ n1_ n2_ n3_;clear hb hbox hg)|((with_reducible refine gate_dst (N:=3) rfl ?_);refine box_event ?hg (N:=3) ?hd (cs:=#[.int .i64 a1_0,.slice A1_1 l1_1.length c1_1,.int .i64 a1_2]) (t:=28) ?hr ?_;(case hd=>rfl);(case hg=>rfl);(case hr=>first|(go_simp;done)|(go_simp;rfl));intro gb143 hg w24 hbox hb;have n0_:=Aside0.mk (bM BK142.out hb);have n1_:=Aside0.mk (below_step (bS GE142.out) hb);have n2_:=Aside0.mk (hbox);have n3_:=Aside0.mk ((by rw[hg];exact(below_size (bS GE142.out)):w.heap.size≤gb143));have n4_:=Aside0.mk ((by rw[hg];exact(below_size (bS GE142.out)):w.heap.size≤gb143));have n5_:=Aside0.mk ((bN BK142.out hg:gb142≠gb143));have n6_:=Aside0.mk ((bO BK142.out hg:gb143≠gb142));clear BK142 HB;have BK142:=n0_;have HB:=n1_;have BK143:=n2_;have GW143:=n3_;have GE143:=n4_;have NB142_143:=n5_;have NB143_142:=n6_;clear n0_ n1_ n2_ n3_ n4_ n5_ n6_;clear hb hbox hg;have hnb25:=NB142_143.out;have hnc25:=NB143_142.out;obtain⟨hcz26_0,hcz26_1,hcz26_2⟩:=cC3 BK142.out;obtain⟨hfz26_0,hfz26_1,hfz26_2⟩:=cF3 BK142.out;obtain⟨hcz27_0,hcz27_1,hcz27_2⟩:=cC3 BK143.out;obtain⟨hfz27_0,hfz27_1,hfz27_2⟩:=cF3 BK143.out)|((with_reducible refine gate_callee (f:=81) rfl ?_);refine goesA (some 14) rfl rfl Try.func81 #[.slice A0_1 l0_1.length c0_1,.slice A1_1 l1_1.length c1_1] rfl ?_;(with_reducible refine(laws_eqQueueS.calls k _ _ l0_1 _ _ l1_1 false _ ?side1 ?side2 ?side3 ?side4 A4.out).mono ?_);(case side1=>exact bC HR0_1.out);(case side2=>exact HC0_1.out);(case side3=>exact bC HR1_1.out);(case side4=>exact HC1_1.out);rintro e w28 ⟨rfl,hb⟩;refine⟨_,rfl,?_⟩;have n0_:=Aside0.mk (bM BK142.out hb);have n1_:=Aside0.mk (bM BK143.out hb);have n2_:=Aside0.mk (below_step (bS2 GE142.out GE143.out) hb);clear BK142 BK143 HB;have BK142:=n0_;have BK143:=n1_;have HB:=n2_;clear n0_ n1_ n2_;(try clear hb);(try clear hb2);(try clear hk);(try clear hi)))
   go_ret
   exact⟨bE,bS2 GE142.out GE143.out⟩
 ·rw[if_neg c3] at H
  have c3b0:(a0_0 == a1_0)=false:=beq_eq_false_iff_ne.mpr c3
  have c3b1:(a0_0 != a1_0)=true:=bne_iff_ne.mpr c3
  obtain rfl:=Option.some.inj H
  go_enter Try.func19,Try.ntmps19
  go_wp2_with (first|((with_reducible refine gate_dst (N:=2) rfl ?_);refine box_event ?hg (N:=2) ?hd (cs:=#[.int .i64 a0_0,.slice A0_1 l0_1.length c0_1,.int .i64 a0_2]) (t:=28) ?hr ?_;(case hd=>rfl);(case hg=>rfl);(case hr=>first|(go_simp;done)|(go_simp;rfl));intro gb142 hg w29 hbox hb;have n0_:=Aside0.mk (below_step (bB) hb);have n1_:=Aside0.mk (hbox);have n2_:=Aside0.mk ((bG:w.heap.size≤gb142));have n3_:=Aside0.mk ((bG:w.heap.size≤gb142));clear HB;have HB:=n0_;have BK142:=n1_;have GW142:=n2_;have GE142:=n3_;clear n0_ n1_ n2_ n3_;clear hb hbox hg)|((with_reducible refine gate_dst (N:=3) rfl ?_);refine box_event ?hg (N:=3) ?hd (cs:=#[.int .i64 a1_0,.slice A1_1 l1_1.length c1_1,.int .i64 a1_2]) (t:=28) ?hr ?_;(case hd=>rfl);(case hg=>rfl);(case hr=>first|(go_simp;done)|(go_simp;rfl));intro gb143 hg w30 hbox hb;have n0_:=Aside0.mk (bM BK142.out hb);have n1_:=Aside0.mk (below_step (bS GE142.out) hb);have n2_:=Aside0.mk (hbox);have n3_:=Aside0.mk ((by rw[hg];exact(below_size (bS GE142.out)):w.heap.size≤gb143));have n4_:=Aside0.mk ((by rw[hg];exact(below_size (bS GE142.out)):w.heap.size≤gb143));have n5_:=Aside0.mk ((bN BK142.out hg:gb142≠gb143));have n6_:=Aside0.mk ((bO BK142.out hg:gb143≠gb142));clear BK142 HB;have BK142:=n0_;have HB:=n1_;have BK143:=n2_;have GW143:=n3_;have GE143:=n4_;have NB142_143:=n5_;have NB143_142:=n6_;clear n0_ n1_ n2_ n3_ n4_ n5_ n6_;clear hb hbox hg;have hnb31:=NB142_143.out;have hnc31:=NB143_142.out;obtain⟨hcz32_0,hcz32_1,hcz32_2⟩:=cC3 BK142.out;obtain⟨hfz32_0,hfz32_1,hfz32_2⟩:=cF3 BK142.out;obtain⟨hcz33_0,hcz33_1,hcz33_2⟩:=cC3 BK143.out;obtain⟨hfz33_0,hfz33_1,hfz33_2⟩:=cF3 BK143.out))
  go_ret
  exact⟨bE,bS2 GE142.out GE143.out⟩

/-! ### laws_markIntS: function 29 -/
def laws_markIntS.l0:Nat→List Int→Int→Int→Option (Int × List Int)
 | 0,_,_,_=>none
 | k+1,x0,x1,x5=>if x5 < (x0.length:Int) then (if 0≤x5 then (laws_markIntS.l0 k (x0.set (x5:Int).toNat x1) (wrap64 (x1+1)) (wrap64 (x5+1))) else (none)) else (some (x1,x0))
def laws_markIntS.f (k:Nat) (l0:List Int) (a1:Int):Option (Int × List Int):=laws_markIntS.l0 k l0 a1 0
theorem laws_markIntS.mono_l : ∀ k,(∀ y0 y1 y2,LeO (laws_markIntS.l0 k y0 y1 y2) (laws_markIntS.l0 (k+1) y0 y1 y2))
 | 0=>fun _ _ _ r h=>by simp[laws_markIntS.l0] at h
 | k+1=>by
  have ih0:=laws_markIntS.mono_l k
  ·intro y0 y1 y2
   unfold laws_markIntS.l0
   repeat' first
   | (with_reducible exact ih0 _ _ _)
   | (with_reducible exact LeO.refl _)
   | (with_reducible exact LeO.none _)
   | (with_reducible refine LeO.ite ?_ ?_)
   | (with_reducible refine LeO.bind ?_ (fun _ => ?_))
   | exact ih0 _ _ _
   | exact LeO.none _
   | refine LeO.ite ?_ ?_
   | refine LeO.bind ?_ (fun _ => ?_)
theorem laws_markIntS.mono : ∀ a0 a1 k,LeO (laws_markIntS.f k a0 a1) (laws_markIntS.f (k+1) a0 a1):=by
 intro a0 a1 k
 have ih0:=laws_markIntS.mono_l k
 unfold laws_markIntS.f
 repeat' first
  | (with_reducible exact ih0 _ _ _)
  | (with_reducible exact LeO.refl _)
  | (with_reducible exact LeO.none _)
  | (with_reducible refine LeO.ite ?_ ?_)
  | (with_reducible refine LeO.bind ?_ (fun _ => ?_))
  | exact ih0 _ _ _
  | exact LeO.none _
  | refine LeO.ite ?_ ?_
  | refine LeO.bind ?_ (fun _ => ?_)
set_option maxHeartbeats 8000000 in
set_option maxRecDepth 100000 in
theorem laws_markIntS.calls (k:Nat) (P0_:Nat→Prop) (u9000_:Value) (l0:List Int) (a1:Int) (r1:Int) (r2:List Int) (w0 w:World) (hB:Below w0.heap.size w0 w) (ho0:Kd.R (Kd.int .i64) 3 w w0.heap.size P0_ u9000_ l0) (h:laws_markIntS.f k l0 a1=some (r1,r2)) :
  Calls Try.prog 29 #[u9000_,.int .i64 a1] w fun e w'=>e=.returned (.int .i64 r1)∧Kd.R (Kd.int .i64) 3 w' w0.heap.size (fun k_=>(P0_ k_∨w.heap.size≤k_)) u9000_ r2∧Below w0.heap.size w0 w'∧Kept w w' (fun k_=>P0_ k_):=by
 have HO0:=Aside0.mk (show Kd.R (Kd.int .i64) 3 w w0.heap.size (fun k_=>(P0_ k_∨w.heap.size≤k_)) u9000_ l0 from Kd.R_mono ho0 (fun k_ hk=>(.inl hk)))
 have HK:=Aside0.mk (Kept.refl w (fun k_=>P0_ k_))
 have HW0:=Aside0.mk hB.size
 have HB:=Aside0.mk hB
 clear hB
 have H:(laws_markIntS.l0 k l0 a1 0)=some (r1,r2):=h
 clear h
 have H':=Aside0.mk H
 clear H
 go_enter Try.func29,Try.ntmps29
 go_wp2
 go_loopg [1,5] k (fun kq v1 v5 w' => ∃ (x0_1:List Int) (x1_1:Int) (x5_1:Int),v1=.int .i64 x1_1∧v5=.int .i64 x5_1∧Aside0 (laws_markIntS.l0 kq x0_1 x1_1 x5_1=some (r1,r2))∧Aside0 (kq≤k)∧Aside0 (Kd.R (Kd.int .i64) 3 w' w0.heap.size (fun k_=>(P0_ k_∨w.heap.size≤k_)) u9000_ x0_1)∧Aside0 (Kept w w' (fun k_=>P0_ k_))∧Aside0 (Below w0.heap.size w0 w'))
 case atStart=>exact⟨(l0),(a1),(0),(bR),(bR),H',⟨Nat.le_refl _⟩,⟨by(with_reducible repeat (first|apply Kd.R_alloc|apply Kd.R_drewN|apply Kd.R_drew));exact HO0.out⟩,⟨by repeat (first|(with_reducible first|exact HK.out|apply Kept.alloc|apply Kept.drewN|apply Kept.drew)|exact HK.out)⟩,⟨by repeat (first|(with_reducible first|exact HB.out|apply below_alloc|apply pw_below_drewN|apply below_drew1)|exact HB.out)⟩⟩
 case round =>
  clear H'
  try clear c2
  try clear p2
  obtain⟨x0_1,x1_1,x5_1,rfl,rfl,HA,HK1,HO_0,HK,HB⟩:=hrel
  cases gk with
  | zero=>exact absurd HA.out (by simp[laws_markIntS.l0])
  | succ k1 =>
   have H:=HA.out
   clear HA
   simp only[laws_markIntS.l0] at H
   by_cases c3:x5_1 < (x0_1.length:Int)
   ·rw[if_pos c3] at H
    have c3b0:decide (x5_1 < (x0_1.length:Int))=true:=decide_eq_true c3
    clear c3
    by_cases c4:0≤x5_1
    ·rw[if_pos c4] at H
     have c4b0:decide (0≤x5_1)=true:=decide_eq_true c4
     clear c4
     obtain⟨y145,hy145⟩ : ∃ y_:List Int,y_=(x0_1.set (x5_1:Int).toNat x1_1):=⟨_,rfl⟩
     replace H:(laws_markIntS.l0 k1 y145 (wrap64 (x1_1+1)) (wrap64 (x5_1+1)))=some (r1,r2):=by first|(rw[hy145];with_reducible exact H)|(have H2_:=(Option.bind_some _ _).symm.trans H;rw[hy145];with_reducible exact H2_)|(have H2_:=(Option.bind_some _ _).symm.trans H;with_reducible exact H2_)|with_reducible exact H|(rw[hy145];exact H)|exact H
     have Ny145:=Aside0.mk hy145
     clear hy145
     have H':=Aside0.mk H
     clear H
     obtain⟨Ao6,co6,eo6⟩:=Kd.R_slice HO_0.out
     subst eo6
     have p5:0≤(x5_1:Int):=of_decide_eq_true (bD)
     have q5:(x5_1:Int) < ((x0_1.length:Int):Int):=of_decide_eq_true (bD)
     obtain⟨go5,co5,eo5,gb5,gl5,cl5,HG5⟩:=Kd.R_form HO_0.out (by omega)
     (first|cases eo5|(injection eo5 with ea_ en_ ec_;(first|subst ea_|(injection ea_ with ea_;subst ea_));subst ec_;clear en_))
     have GB5:=Aside0.mk gb5
     have GG5:=Aside0.mk HG5
     clear gb5 gl5 HG5
     have HMgo5:=Aside0.mk (show(P0_ go5∨w.heap.size≤go5) from (HO_0.out.1 _ rfl))
     obtain⟨hx5_0,hf5_0⟩:=Kd.R_celln 0 HO_0.out (x5_1:Int) p5 q5
     replace p5:=eq_true p5
     replace q5:=eq_true q5
     have HP7:=Kd.R_putg HO_0.out (x5_1:Int) x1_1
     go_wp2_with (first|((with_reducible refine gate_store (t:=3) (p:=15) rfl ?_);refine store_event (t:=3) (p:=15) (v:=?vo_w8) (w1:=(wr.setCell ⟨go5,(x5_1:Int).toNat,none⟩ (.int .i64 x1_1))) ?hg ?ho ?hn ?hr ?_;(case ho=>rfl);(case hg=>rfl);(case hn=>rfl);(case hr=>first|(go_simp;done)|(go_simp;rfl));intro w8 hw;have hg:wr.grownBy w8 (some go5):=(by rw[hw];exact HP7.2);have hp_:Kd.R (Kd.int .i64) 3 w8 w0.heap.size (fun k_=>(P0_ k_∨w.heap.size≤k_)) (.slice (some ⟨go5,0,none⟩) x0_1.length co6) y145:=(by rw[hw,Ny145.out];exact HP7.1);clear HP7;have n0_:=Aside0.mk (hp_);have n1_:=Aside0.mk ((by rw[hw];exact below_set (HB.out) GB5.out:Below w0.heap.size w0 w8));have n2_:=Aside0.mk (Kept.of_grown (S:=(fun k_=>P0_ k_)) hg (by repeat (first|(with_reducible first|exact HK.out|apply Kept.alloc|apply Kept.drewN|apply Kept.drew)|exact HK.out)) (fun k_ e_=>(HO_0.out.1 k_ e_)));clear HO_0 HB HK;have HO_0:=n0_;have HB:=n1_;have HK:=n2_;clear n0_ n1_ n2_;clear hg hw hp_))
     go_roundg k1
     case measure=>have:=HK1.out;omega
     case rel=>exact⟨(y145),(wrap64 (x1_1+1)),(wrap64 (x5_1+1)),(bR),(bR),H',⟨by have:=HK1.out;omega⟩,⟨by(with_reducible repeat (first|apply Kd.R_alloc|apply Kd.R_drewN|apply Kd.R_drew));exact HO_0.out⟩,⟨by repeat (first|(with_reducible first|exact HK.out|apply Kept.alloc|apply Kept.drewN|apply Kept.drew)|exact HK.out)⟩,⟨by repeat (first|(with_reducible first|exact HB.out|apply below_alloc|apply pw_below_drewN|apply below_drew1)|exact HB.out)⟩⟩
    ·rw[if_neg c4] at H
     exact absurd H (by simp)
   ·rw[if_neg c3] at H
    have c3b0:decide (x5_1 < (x0_1.length:Int))=false:=decide_eq_false c3
    clear c3
    simp only[Option.some.injEq,Prod.mk.injEq] at H
    obtain⟨rfl,rfl⟩:=H
    obtain⟨Ao9,co9,eo9⟩:=Kd.R_slice HO_0.out
    subst eo9
    go_wp2
    go_ret
    exact⟨bE,by(with_reducible repeat (first|apply Kd.R_alloc|apply Kd.R_drewN|apply Kd.R_drew));exact HO_0.out,by repeat (first|(with_reducible first|exact HB.out|apply below_alloc|apply pw_below_drewN|apply below_drew1)|exact HB.out),by repeat (first|(with_reducible first|exact HK.out|apply Kept.alloc|apply Kept.drewN|apply Kept.drew)|exact HK.out)⟩

/-! ### laws_markQueueS: function 82, by hand -/
def laws_markQueueS.l0:Nat→List (S116)→Int→Int→Option (Int × (List (S116)))
 | 0,_,_,_=>none
 | k+1,x0,x1,x5=>if x5 < (x0.length:Int) then (if 0≤x5 then ((laws_markIntS.f k (rd_T116 x0 x5).f0 x1).bind fun bt=>(laws_markQueueS.l0 k (x0.set (x5:Int).toNat (⟨bt.2,bt.1,wrap64 (bt.1+1)⟩:S116)) (wrap64 ((wrap64 (bt.1+1))+1)) (wrap64 (x5+1)))) else (none)) else (some (x1,x0))
def laws_markQueueS.f (k:Nat) (l0:List (S116)) (a1:Int):Option (Int × (List (S116))):=laws_markQueueS.l0 k l0 a1 0
/-- Element i of a row of queues: its own row, written, and two of its cells, stored into. -/
theorem markQ_step {W:World} {base:Nat} {ok:Nat→Prop} {g n cap:Nat} {xs:List S116} (h:Kd.S k116 116 W base ok (.slice (some ⟨g,0,none⟩) n cap) xs) (i:Int) (h0:0≤i) (h1:i < n) :
  ∃ v,W.cell? ⟨g,i.toNat * 3,none⟩=some v∧Kd.R (Kd.int .i64) 3 W base (fun k=>some k=v.ownBlock) v (rd_T116 xs i).f0∧(∀ k,v.ownBlock=some k→ok k) ∧
   ∀ (W1:World) (ys:List Int),W.grownBy W1 v.ownBlock→(∃ ok1,Kd.R (Kd.int .i64) 3 W1 base ok1 v ys) →
    W1.cell? ⟨g,i.toNat * 3+1,none⟩=some (.int .i64 (rd_T116 xs i).f1)∧W1.cell? ⟨g,i.toNat * 3+2,none⟩=some (.int .i64 (rd_T116 xs i).f2)∧W1.frozen? ⟨g,i.toNat * 3+1,none⟩=false∧W1.frozen? ⟨g,i.toNat * 3+2,none⟩=false ∧
    ∀ a b:Int,Kd.S k116 116 ((W1.setCell ⟨g,i.toNat * 3+1,none⟩ (.int .i64 a)).setCell ⟨g,i.toNat * 3+2,none⟩ (.int .i64 b)) base ok (.slice (some ⟨g,0,none⟩) n cap) (xs.set i.toNat ⟨ys,a,b⟩):=by
 obtain⟨oki,c,hcl,hM,hcc,hfr,hok,hH⟩:=Kd.S_elem h z116 i h0 h1
 have hn:=(Kd.S_reads' h).1
 obtain⟨v,rfl,hv⟩:=k116_openM hM
 refine⟨v,hcc 0 _ rfl,Kd.R_tight rfl hv,fun k hk=>(hok k (hv.1 k hk)).1,fun W1 ys hg hy => ?_⟩
 obtain⟨ok1,hy⟩:=hy
 have hS1:=Kd.H_back (Kd.H_grown hH hg (fun k e=>hv.1 k e)) (k116_mkM W1 base oki (⟨ys,(rd_T116 xs i).f1,(rd_T116 xs i).f2⟩:S116) (Kd.R_reok rfl hy hv.1)) (fun _ hk=>hk)
 obtain⟨oki',c',hcl',hM',hcc',hfr',hok',hH'⟩:=Kd.S_elem hS1 z116 i h0 h1
 have e:(xs.set i.toNat (⟨ys,(rd_T116 xs i).f1,(rd_T116 xs i).f2⟩:S116)).getD i.toNat z116=⟨ys,(rd_T116 xs i).f1,(rd_T116 xs i).f2⟩:=by
  rw[List.getD_eq_getElem?_getD,List.getElem?_set_self (by omega)]
  rfl
 rw[e] at hM'
 obtain⟨v',rfl,hv'⟩:=k116_openM hM'
 refine⟨hcc' 1 _ rfl,hcc' 2 _ rfl,hfr' 1,hfr' 2,fun a b => ?_⟩
 have hS2:=(Kd.S_seg0 hH' h0 h1 (seg:=[.int .i64 a,.int .i64 b]) (j:=1) (show 3≤3 from Nat.le_refl _) (x':=(⟨ys,a,b⟩:S116)) (k116_mkM W1 base oki' (⟨ys,a,b⟩:S116) hv') (fun _ hk=>hk)).1
 rw[List.set_set] at hS2
 exact hS2
theorem grown_of_kept {w0 W W1:World} {row:Option Nat} (h0:Below w0.heap.size w0 W) (h1:Below w0.heap.size w0 W1) (hk:Kept W W1 (fun k=>some k=row)):W.grownBy W1 row :=
 ⟨h1.os.trans h0.os.symm,h1.tape.trans h0.tape.symm,h1.output.trans h0.output.symm,hk.1,fun k hk2 hne=>hk.2 k hk2 hne⟩
theorem laws_markQueueS.mono_l : ∀ k,(∀ y0 y1 y2,LeO (laws_markQueueS.l0 k y0 y1 y2) (laws_markQueueS.l0 (k+1) y0 y1 y2))
 | 0=>fun _ _ _ r h=>by simp[laws_markQueueS.l0] at h
 | k+1=>by
  have ih0:=laws_markQueueS.mono_l k
  intro y0 y1 y2
  unfold laws_markQueueS.l0
  repeat' first
  | exact ih0 _ _ _
  | exact laws_markIntS.mono _ _ _
  | exact LeO.refl _
  | exact LeO.none _
  | refine LeO.ite ?_ ?_
  | refine LeO.bind ?_ (fun _ => ?_)
theorem laws_markQueueS.mono : ∀ a0 a1 k,LeO (laws_markQueueS.f k a0 a1) (laws_markQueueS.f (k+1) a0 a1):=fun a0 a1 k=>laws_markQueueS.mono_l k a0 a1 0
set_option maxHeartbeats 8000000 in
set_option maxRecDepth 100000 in
theorem laws_markQueueS.calls (k:Nat) (ok:Nat→Prop) (u9000_:Value) (l0:List (S116)) (a1:Int) (r1:Int) (r2:List (S116)) (w0 w:World) (hB:Below w0.heap.size w0 w) (ho0:Kd.S k116 116 w w0.heap.size ok u9000_ l0) (h:laws_markQueueS.f k l0 a1=some (r1,r2)) :
  Calls Try.prog 82 #[u9000_,.int .i64 a1] w fun e w'=>e=.returned (.int .i64 r1)∧Kd.S k116 116 w' w0.heap.size ok u9000_ r2∧Below w0.heap.size w0 w'∧Kept w w' ok:=by
 have HO0:=Aside0.mk ho0
 have HB:=Aside0.mk hB
 have HK:=Aside0.mk (Kept.refl w ok)
 clear hB ho0
 have H:(laws_markQueueS.l0 k l0 a1 0)=some (r1,r2):=h
 clear h
 have H':=Aside0.mk H
 clear H
 go_enter Try.func82,Try.ntmps82
 go_wp2
 go_loopg [1,5] k (fun kq v1 v5 w' => ∃ (x0_1:List (S116)) (x1_1:Int) (x5_1:Int),v1=.int .i64 x1_1∧v5=.int .i64 x5_1∧Aside0 (laws_markQueueS.l0 kq x0_1 x1_1 x5_1=some (r1,r2))∧Aside0 (kq≤k)∧Aside0 (Kd.S k116 116 w' w0.heap.size ok u9000_ x0_1)∧Aside0 (Kept w w' ok)∧Aside0 (Below w0.heap.size w0 w'))
 case atStart=>exact⟨(l0),(a1),(0),(bR),(bR),H',⟨Nat.le_refl _⟩,⟨by(with_reducible repeat (first|apply Kd.S_alloc|apply Kd.S_drewN|apply Kd.S_drew));exact HO0.out⟩,⟨by repeat (first|(with_reducible first|exact HK.out|apply Kept.alloc|apply Kept.drewN|apply Kept.drew)|exact HK.out)⟩,⟨by repeat (first|(with_reducible first|exact HB.out|apply below_alloc|apply pw_below_drewN|apply below_drew1)|exact HB.out)⟩⟩
 case round =>
  clear H'
  try clear p2
  obtain⟨x0_1,x1_1,x5_1,rfl,rfl,HA,HK1,HO_0,HK,HB⟩:=hrel
  cases gk with
  | zero=>exact absurd HA.out (by simp[laws_markQueueS.l0])
  | succ k1 =>
   have H:=HA.out
   clear HA
   simp only[laws_markQueueS.l0] at H
   by_cases c3:x5_1 < (x0_1.length:Int)
   ·rw[if_pos c3] at H
    have c3b0:decide (x5_1 < (x0_1.length:Int))=true:=decide_eq_true c3
    clear c3
    by_cases c4:0≤x5_1
    ·rw[if_pos c4] at H
     have c4b0:decide (0≤x5_1)=true:=decide_eq_true c4
     clear c4
     replace H:=Option.bind_eq_some_iff.mp H
     obtain⟨⟨t1,t2⟩,A50,H⟩:=H
     have A5:=Aside0.mk A50
     clear A50
     have H':=Aside0.mk H
     clear H
     obtain⟨Ao6,co6,eo6⟩:=Kd.S_slice HO_0.out
     subst eo6
     have p5:0≤(x5_1:Int):=of_decide_eq_true (bD)
     have q5:(x5_1:Int) < ((x0_1.length:Int):Int):=of_decide_eq_true (bD)
     obtain⟨go5,co5,eo5,gb5,gl5,cl5,HG5⟩:=Kd.S_form HO_0.out (by omega)
     (first|cases eo5|(injection eo5 with ea_ en_ ec_;(first|subst ea_|(injection ea_ with ea_;subst ea_));subst ec_;clear en_))
     have GB5:=Aside0.mk gb5
     clear gb5 gl5 HG5
     have HG5:Aside0 (ok go5):=Aside0.mk ((Kd.S_R HO_0.out).1 _ rfl)
     obtain⟨vi,hx5_0,hR5,hok5,hst5⟩:=markQ_step HO_0.out (x5_1:Int) p5 q5
     obtain⟨Ai,ci,ei⟩:=Kd.R_slice hR5
     subst ei
     have HR5:=Aside0.mk hR5
     have HS5:=Aside0.mk hst5
     have HOK5:=Aside0.mk hok5
     clear hR5 hst5 hok5
     replace p5:=eq_true p5
     replace q5:=eq_true q5
     go_wp2_with (first|((with_reducible refine gate_callee (f:=29) rfl ?_);refine goesA (some 18) rfl rfl Try.func29 #[.slice Ai (rd_T116 x0_1 x5_1).f0.length ci,.int .i64 x1_1] rfl ?_;(with_reducible refine(laws_markIntS.calls k1 (fun k_=>some k_=(.slice Ai (rd_T116 x0_1 x5_1).f0.length ci:Value).ownBlock) (.slice Ai (rd_T116 x0_1 x5_1).f0.length ci) (rd_T116 x0_1 x5_1).f0 x1_1 t1 t2 w0 _ ?side1 ?side2 A5.out).mono ?_);(case side1=>exact HB.out);(case side2=>exact HR5.out);rintro e w12 ⟨rfl,hy,hb,hkp⟩;refine⟨_,rfl,?_⟩;obtain⟨hx1,hx2,hf1,hf2,hfin⟩:=HS5.out w12 t2 (grown_of_kept HB.out hb hkp) ⟨_,hy⟩;have n0_:=Aside0.mk hb;have n1_:Aside0 (Kept w w12 ok):=Aside0.mk (Kept.then_ HK.out hkp (fun k_ hk_=>.inl (HOK5.out k_ hk_.symm)));have HF:=Aside0.mk hfin;clear HB HK hb hkp hfin;have HB:=n0_;have HK:=n1_;clear n0_ n1_ hy))
     go_roundg k1
     case measure=>have:=HK1.out;omega
     case rel=>exact⟨_,(wrap64 ((wrap64 (t1+1))+1)),(wrap64 (x5_1+1)),(bR),(bR),H',⟨by have:=HK1.out;omega⟩,⟨HF.out _ _⟩,⟨Kept.setCell (Kept.setCell HK.out (.inl HG5.out) _) (.inl HG5.out) _⟩,⟨below_set (below_set HB.out GB5.out) GB5.out⟩⟩
    ·rw[if_neg c4] at H
     exact absurd H (by simp)
   ·rw[if_neg c3] at H
    have c3b0:decide (x5_1 < (x0_1.length:Int))=false:=decide_eq_false c3
    clear c3
    simp only[Option.some.injEq,Prod.mk.injEq] at H
    obtain⟨rfl,rfl⟩:=H
    obtain⟨Ao9,co9,eo9⟩:=Kd.S_slice HO_0.out
    subst eo9
    go_wp2
    go_ret
    exact⟨bE,by(with_reducible repeat (first|apply Kd.S_alloc|apply Kd.S_drewN|apply Kd.S_drew));exact HO_0.out,by repeat (first|(with_reducible first|exact HB.out|apply below_alloc|apply pw_below_drewN|apply below_drew1)|exact HB.out),by repeat (first|(with_reducible first|exact HK.out|apply Kept.alloc|apply Kept.drewN|apply Kept.drew)|exact HK.out)⟩


/-! ### laws_markTurns: function 20, by hand -/
def laws_markTurns.f (k:Nat) (a0_0:Int) (l0_1:List (S116)) (a0_2:Int) (a1:Int):Option (Int × (List (S116))):=laws_markQueueS.f k l0_1 a1
theorem sizeof_ {w w1:World} (_hb:Below w.heap.size w w1) : ∃ n,n=w.heap.size:=⟨_,rfl⟩
theorem S_oldN {α:Type} {d:Kd α} {e b n:Nat} {ok:Nat→Prop} {W w1:World} {u:Value} {xs:List α} (h:Kd.S d e W b ok u xs) (hb:Below W.heap.size W w1) (hn:n=W.heap.size):Kd.S d e w1 b (fun k=>ok k∧k < n) u xs:=by
 subst hn
 exact Kd.S_old h hb
theorem S_oldN2 {α:Type} {d:Kd α} {e b n:Nat} {ok:Nat→Prop} {W w1:World} {u v:Value} {xs:List α} (h:Kd.S d e W b ok u xs) (hb:Below W.heap.size W w1) (hn:n=W.heap.size) (h1 : ∀ k,v.ownBlock=some k→W.heap.size≤k):Kd.S d e w1 b (fun k=>(ok k∧k < n)∧some k≠v.ownBlock) u xs:=by
 subst hn
 exact Kd.S_mono (Kd.S_told (Kd.S_old h hb) h1) (fun _ hk=>⟨⟨hk.1.1,hk.2⟩,hk.1.2⟩)
theorem S_newN {α:Type} {d:Kd α} {e n n':Nat} {ok:Nat→Prop} {w1:World} {v:Value} {xs:List α} (h:Kd.S d e w1 n' ok v xs) (hn:n=n'):Kd.S d e w1 n' (fun k=>ok k∧n≤k) v xs:=by
 subst hn
 exact Kd.S_mono (Kd.S_bound h) (fun _ hk=>⟨hk.1,hk.2.1⟩)
theorem markable_ {α:Type} {d:Kd α} {e b:Nat} {ok:Nat→Prop} {W:World} {v:Value} {xs:List α} (h:Kd.S d e W b ok v xs) : ∃ P:Nat→Prop,Kd.S d e W b P v xs∧(∀ k,P k→ok k) ∧ ∀ (g t:Nat) (cs:Array Value),W.heap[g]?=some (.cells cs t (0,0))→(∀ q,q ∈ e::d.E→q≠t) → ¬ P g :=
 ⟨_,Kd.S_bound h,fun _ hk=>hk.1,fun g t cs hb ht hk=>by
  obtain⟨_,_,_,q,hq,cs2,h2⟩:=hk
  rw[hb] at h2
  injection h2 with h2
  injection h2 with _ h3
  exact ht q hq h3.symm⟩
theorem laws_markTurns.mono : ∀ a0 a1 a2 a3 k,LeO (laws_markTurns.f k a0 a1 a2 a3) (laws_markTurns.f (k+1) a0 a1 a2 a3):=fun _ a1 _ a3 k=>laws_markQueueS.mono a1 a3 k
set_option maxHeartbeats 8000000 in
set_option maxRecDepth 100000 in
theorem laws_markTurns.calls (k:Nat) (a0_0:Int) (ok:Nat→Prop) (u9000_:Value) (l0_1:List (S116)) (a0_2:Int) (a1:Int) (r1:Int) (r2:List (S116)) (w0 w:World) (hB:Below w0.heap.size w0 w) (ho0:Kd.S k116 116 w w0.heap.size ok u9000_ l0_1) (h:laws_markTurns.f k a0_0 l0_1 a0_2 a1=some (r1,r2)) :
  Calls Try.prog 20 #[.agg #[.int .i64 a0_0,u9000_,.int .i64 a0_2],.int .i64 a1] w fun e w'=>e=.returned (.int .i64 r1)∧Kd.S k116 116 w' w0.heap.size ok u9000_ r2∧Below w0.heap.size w0 w'∧Kept w w' ok:=by
 obtain⟨A0,c0,e0⟩:=Kd.S_slice ho0
 subst e0
 have HO:=Aside0.mk ho0
 have HB:=Aside0.mk hB
 have HL:=Aside0.mk (below_size hB)
 have HA:=Aside0.mk (show laws_markQueueS.f k l0_1 a1=some (r1,r2) from h)
 clear hB ho0 h
 go_enter Try.func20,Try.ntmps20
 go_wp2_with (first|((with_reducible refine gate_dst (N:=2) rfl ?_);refine box_event ?hg (N:=2) ?hd (cs:=#[.int .i64 a0_0,.slice A0 l0_1.length c0,.int .i64 a0_2]) (t:=28) ?hr ?_;(case hd=>rfl);(case hg=>rfl);(case hr=>first|(go_simp;done)|(go_simp;rfl));intro gb2 hg w6 hbox hb;have n0_:=Aside0.mk (Kd.S_below HO.out hb);have n1_:=Aside0.mk (below_weaken HB.out HL.out hb);have HK:=Aside0.mk (Kept.of_below hb ok);have hcz1:w6.cell? ⟨gb2,1,none⟩=some (.slice A0 l0_1.length c0):=(blk_cell hbox 1).trans rfl;clear HO HB hb hbox hg;have HO:=n0_;have HB:=n1_;clear n0_ n1_)|((with_reducible refine gate_callee (f:=82) rfl ?_);refine goesA (some 8) rfl rfl Try.func82 #[.slice A0 l0_1.length c0,.int .i64 a1] rfl ?_;(with_reducible refine(laws_markQueueS.calls k ok (.slice A0 l0_1.length c0) l0_1 a1 r1 r2 w0 _ ?side1 ?side2 HA.out).mono ?_);(case side1=>exact HB.out);(case side2=>exact HO.out);rintro e w7 ⟨rfl,ho,hb,hkp⟩;refine⟨_,rfl,?_⟩;have n0_:=Aside0.mk ho;have n1_:=Aside0.mk hb;have n2_:Aside0 (Kept w w7 ok):=Aside0.mk (Kept.then_ HK.out hkp (fun _ h_=>.inl h_));clear HO HB HK ho hb hkp;have HO:=n0_;have HB:=n1_;have HK:=n2_;clear n0_ n1_ n2_))
 go_ret
 exact⟨bE,HO.out,HB.out,HK.out⟩


/-! ### laws_heldIntS: function 30 -/
def laws_heldIntS.l0:Nat→List Int→Int→Int→Option (Int)
 | 0,_,_,_=>none
 | k+1,x0,x1,x5=>if x5 < (x0.length:Int) then (if 0≤x5 then (if (rd x0 x5)=x1 then (laws_heldIntS.l0 k x0 (wrap64 (x1+1)) (wrap64 (x5+1))) else (some (-1))) else (none)) else (some x1)
def laws_heldIntS.f (k:Nat) (l0:List Int) (a1:Int):Option (Int):=laws_heldIntS.l0 k l0 a1 0
theorem laws_heldIntS.mono_l : ∀ k,(∀ y0 y1 y2,LeO (laws_heldIntS.l0 k y0 y1 y2) (laws_heldIntS.l0 (k+1) y0 y1 y2))
 | 0=>fun _ _ _ r h=>by simp[laws_heldIntS.l0] at h
 | k+1=>by
  have ih0:=laws_heldIntS.mono_l k
  ·intro y0 y1 y2
   unfold laws_heldIntS.l0
   repeat' first
   | (with_reducible exact ih0 _ _ _)
   | (with_reducible exact LeO.refl _)
   | (with_reducible exact LeO.none _)
   | (with_reducible refine LeO.ite ?_ ?_)
   | (with_reducible refine LeO.bind ?_ (fun _ => ?_))
   | exact ih0 _ _ _
   | exact LeO.none _
   | refine LeO.ite ?_ ?_
   | refine LeO.bind ?_ (fun _ => ?_)
theorem laws_heldIntS.mono : ∀ a0 a1 k,LeO (laws_heldIntS.f k a0 a1) (laws_heldIntS.f (k+1) a0 a1):=by
 intro a0 a1 k
 have ih0:=laws_heldIntS.mono_l k
 unfold laws_heldIntS.f
 repeat' first
  | (with_reducible exact ih0 _ _ _)
  | (with_reducible exact LeO.refl _)
  | (with_reducible exact LeO.none _)
  | (with_reducible refine LeO.ite ?_ ?_)
  | (with_reducible refine LeO.bind ?_ (fun _ => ?_))
  | exact ih0 _ _ _
  | exact LeO.none _
  | refine LeO.ite ?_ ?_
  | refine LeO.bind ?_ (fun _ => ?_)
set_option maxHeartbeats 8000000 in
set_option maxRecDepth 100000 in
theorem laws_heldIntS.calls (k:Nat) (A0:Option Addr) (c0:Nat) (l0:List Int) (a1:Int) (r:Int) (w:World) (hr0:Kd.C (Kd.int .i64) w A0 l0.length l0) (hc0:l0.length≤c0) (h:laws_heldIntS.f k l0 a1=some r) :
  Calls Try.prog 30 #[.slice A0 l0.length c0,.int .i64 a1] w fun e w'=>e=.returned (.int .i64 r)∧Drawn0 w w':=by
 have HR0:=Aside0.mk hr0
 have HC0:=Aside0.mk hc0
 clear hr0 hc0
 have H:(laws_heldIntS.l0 k l0 a1 0)=some r:=h
 clear h
 have H':=Aside0.mk H
 clear H
 go_enter Try.func30,Try.ntmps30
 go_wp2
 go_loopg [1,5] k (fun kq v1 v5 w' => ∃ (x1_1:Int) (x5_1:Int),v1=.int .i64 x1_1∧v5=.int .i64 x5_1∧Aside0 (laws_heldIntS.l0 kq l0 x1_1 x5_1=some r)∧Aside0 (kq≤k)∧Drawn0 w w')
 case atStart=>exact⟨(a1),(0),(bR),(bR),H',⟨Nat.le_refl _⟩,bW⟩
 case round =>
  clear H'
  try clear p2
  obtain⟨x1_1,x5_1,rfl,rfl,HA,HK1,⟨m1,rfl⟩⟩:=hrel
  cases gk with
  | zero=>exact absurd HA.out (by simp[laws_heldIntS.l0])
  | succ k1 =>
   have H:=HA.out
   clear HA
   simp only[laws_heldIntS.l0] at H
   by_cases c3:x5_1 < (l0.length:Int)
   ·rw[if_pos c3] at H
    have c3b0:decide (x5_1 < (l0.length:Int))=true:=decide_eq_true c3
    clear c3
    by_cases c4:0≤x5_1
    ·rw[if_pos c4] at H
     have c4b0:decide (0≤x5_1)=true:=decide_eq_true c4
     clear c4
     by_cases c5:(rd l0 x5_1)=x1_1
     ·rw[if_pos c5] at H
      have c5b0:((rd l0 x5_1) == x1_1)=true:=beq_iff_eq.mpr c5
      have c5b1:((rd l0 x5_1) != x1_1)=false:=bne_eq_false_iff_eq.mpr c5
      clear c5
      have H':=Aside0.mk H
      clear H
      have p146:0≤(x5_1:Int):=of_decide_eq_true (bD)
      have q146:x5_1 < (l0.length:Int):=of_decide_eq_true (bD)
      obtain⟨ad146,e146,hx146_0⟩:=Kd.at_int HR0.out x5_1 p146 q146
      cases e146
      replace p146:=eq_true p146
      replace q146:=eq_true q146
      go_wp2
      go_roundg k1
      case measure=>have:=HK1.out;omega
      case rel=>exact⟨(wrap64 (x1_1+1)),(wrap64 (x5_1+1)),(bR),(bR),H',⟨by have:=HK1.out;omega⟩,bW⟩
     ·rw[if_neg c5] at H
      have c5b0:((rd l0 x5_1) == x1_1)=false:=beq_eq_false_iff_ne.mpr c5
      have c5b1:((rd l0 x5_1) != x1_1)=true:=bne_iff_ne.mpr c5
      obtain rfl:=Option.some.inj H
      have p146:0≤(x5_1:Int):=of_decide_eq_true (bD)
      have q146:x5_1 < (l0.length:Int):=of_decide_eq_true (bD)
      obtain⟨ad146,e146,hx146_0⟩:=Kd.at_int HR0.out x5_1 p146 q146
      cases e146
      replace p146:=eq_true p146
      replace q146:=eq_true q146
      go_wp2
      go_ret
      exact⟨bR,bW⟩
    ·rw[if_neg c4] at H
     exact absurd H (by simp)
   ·rw[if_neg c3] at H
    have c3b0:decide (x5_1 < (l0.length:Int))=false:=decide_eq_false c3
    clear c3
    obtain rfl:=Option.some.inj H
    go_wp2
    go_ret
    exact⟨bR,bW⟩

end Go.Proofs.Yteneeohaoplpbaa.XFnExactRunRounds
