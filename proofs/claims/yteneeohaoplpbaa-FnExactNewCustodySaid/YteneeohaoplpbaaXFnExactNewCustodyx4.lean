-- Written by this session's own program (wip/xprint.py) out of the translation; Lean checks it.
import Derived.Test.YteneeohaoplpbaaXFnExactNewCustodyx0
import Derived.Test.YteneeohaoplpbaaXFnExactNewCustodyx3
namespace Go.Proofs.Yteneeohaoplpbaa.XFnExactNewCustody
open Go.RowKit Go.Proofs.YteneeohaoplpbaaW.PrintWords Go.Proofs.YteneeohaoplpbaaW.PrintLast Go.Proofs.YteneeohaoplpbaaW.PrintMore
attribute [local go_sem] max2_int min2_int max_two min_two max_three min_three max_four min_four   -- for this text's walks alone
set_option linter.unusedVariables false
set_option linter.unusedSimpArgs false

/-! ### laws_eqKeeperS: function 99 -/
def laws_eqKeeperS.l0:Nat→List (S179)→List (S179)→Int→Option (Bool)
 | 0,_,_,_=>none
 | k+1,x0,x1,x5=>if x5 < (x0.length:Int) then (if 0≤x5 then (if x5 < (x1.length:Int) then ((laws_eqKeeper.f k ((rd_T179 x0 x5).f0) ((rd_T179 x0 x5).f1) ((rd_T179 x0 x5).f2) ((rd_T179 x1 x5).f0) ((rd_T179 x1 x5).f1) ((rd_T179 x1 x5).f2)).bind fun t152=>(if t152=true then (laws_eqKeeperS.l0 k x0 x1 (wrap64 (x5+1))) else (some false))) else (none)) else (none)) else (some true)
def laws_eqKeeperS.f (k:Nat) (l0:List (S179)) (l1:List (S179)):Option (Bool):=if (l0.length:Int)=(l1.length:Int) then (laws_eqKeeperS.l0 k l0 l1 0) else (some false)
theorem laws_eqKeeperS.mono_l : ∀ k,(∀ y0 y1 y2,LeO (laws_eqKeeperS.l0 k y0 y1 y2) (laws_eqKeeperS.l0 (k+1) y0 y1 y2))
 | 0=>fun _ _ _ r h=>by simp[laws_eqKeeperS.l0] at h
 | k+1=>by
  have ih0:=laws_eqKeeperS.mono_l k
  ·intro y0 y1 y2
   unfold laws_eqKeeperS.l0
   repeat' first
   | (with_reducible exact ih0 _ _ _)
   | (with_reducible exact laws_eqKeeper.mono _ _ _ _ _ _ _)
   | (with_reducible exact LeO.refl _)
   | (with_reducible exact LeO.none _)
   | (with_reducible refine LeO.ite ?_ ?_)
   | (with_reducible refine LeO.bind ?_ (fun _ => ?_))
   | exact ih0 _ _ _
   | exact laws_eqKeeper.mono _ _ _ _ _ _ _
   | exact LeO.none _
   | refine LeO.ite ?_ ?_
   | refine LeO.bind ?_ (fun _ => ?_)
theorem laws_eqKeeperS.mono : ∀ a0 a1 k,LeO (laws_eqKeeperS.f k a0 a1) (laws_eqKeeperS.f (k+1) a0 a1):=by
 intro a0 a1 k
 have ih0:=laws_eqKeeperS.mono_l k
 unfold laws_eqKeeperS.f
 repeat' first
  | (with_reducible exact ih0 _ _ _)
  | (with_reducible exact laws_eqKeeper.mono _ _ _ _ _ _ _)
  | (with_reducible exact LeO.refl _)
  | (with_reducible exact LeO.none _)
  | (with_reducible refine LeO.ite ?_ ?_)
  | (with_reducible refine LeO.bind ?_ (fun _ => ?_))
  | exact ih0 _ _ _
  | exact laws_eqKeeper.mono _ _ _ _ _ _ _
  | exact LeO.none _
  | refine LeO.ite ?_ ?_
  | refine LeO.bind ?_ (fun _ => ?_)
def laws_eqKeeperS.T6:Bool × List (List Nat × List Nat):=(true,[([],[]),([],[]),([0,1],[0,1]),([2],[2]),([],[]),([],[]),([4,5],[4,5]),([6],[6]),([3,7],[3,7]),([8],[8])])
def laws_eqKeeperS.B6:List Nat:=[0,0,3,7,0,0,48,112,255,511]
theorem laws_eqKeeperS.tab6:rtab .any (opsOf Try.f99 6)=laws_eqKeeperS.T6:=by kernel_rfl
theorem laws_eqKeeperS.bits6:waitsOk laws_eqKeeperS.T6.2 laws_eqKeeperS.B6=true:=by kernel_rfl
set_option maxHeartbeats 8000000 in
set_option maxRecDepth 100000 in
theorem laws_eqKeeperS.calls (k:Nat) (A0:Option Addr) (c0:Nat) (l0:List (S179)) (A1:Option Addr) (c1:Nat) (l1:List (S179)) (r:Bool) (w:World) (hr0:Kd.C k179 w A0 l0.length l0) (hc0:l0.length≤c0) (hr1:Kd.C k179 w A1 l1.length l1) (hc1:l1.length≤c1) (h:laws_eqKeeperS.f k l0 l1=some r) :
  Calls Try.prog 99 #[.slice A0 l0.length c0,.slice A1 l1.length c1] w fun e w'=>e=.returned (.bool r)∧Below w.heap.size w w':=by
 have hu179:=Try.underlying179
 have HR0:=Aside0.mk hr0
 have HC0:=Aside0.mk hc0
 clear hr0 hc0
 have HR1:=Aside0.mk hr1
 have HC1:=Aside0.mk hc1
 clear hr1 hc1
 have HB:=Aside0.mk (Below.refl w.heap.size w)
 have H:(if (l0.length:Int)=(l1.length:Int) then (laws_eqKeeperS.l0 k l0 l1 0) else (some false))=some r:=h
 clear h
 by_cases c3:(l0.length:Int)=(l1.length:Int)
 ·rw[if_pos c3] at H
  have c3b0:((l0.length:Int) == (l1.length:Int))=true:=beq_iff_eq.mpr c3
  have c3b1:((l0.length:Int) != (l1.length:Int))=false:=bne_eq_false_iff_eq.mpr c3
  have c3b2:(l0.length == l1.length)=true:=by first|simpa using c3|(simp at c3 ⊢;omega)
  clear c3
  have H':=Aside0.mk H
  clear H
  go_enter Try.func99,Try.ntmps99
  go_wp2
  go_loopg [5] k (fun kq v5 w' => ∃ (x5_1:Int),v5=.int .i64 x5_1∧Aside0 (laws_eqKeeperS.l0 kq l0 l1 x5_1=some r)∧Aside0 (kq≤k)∧Aside0 (Below w.heap.size w w'))
  case atStart=>exact⟨(0),(bR),H',⟨Nat.le_refl _⟩,⟨by repeat (first|(with_reducible first|exact HB.out|apply below_alloc|apply pw_below_drewN|apply below_drew1)|exact HB.out)⟩⟩
  case round =>
   clear H'
   try clear c1
   try clear p2
   try clear c3
   try clear c3b0
   try clear c3b1
   try clear c3b2
   obtain⟨x5_1,rfl,HA,HK1,HB⟩:=hrel
   cases gk with
   | zero=>exact absurd HA.out (by simp[laws_eqKeeperS.l0])
   | succ k1 =>
    have H:=HA.out
    clear HA
    simp only[laws_eqKeeperS.l0] at H
    by_cases c4:x5_1 < (l0.length:Int)
    ·rw[if_pos c4] at H
     have c4b0:decide (x5_1 < (l0.length:Int))=true:=decide_eq_true c4
     clear c4
     by_cases c5:0≤x5_1
     ·rw[if_pos c5] at H
      have c5b0:decide (0≤x5_1)=true:=decide_eq_true c5
      clear c5
      by_cases c6:x5_1 < (l1.length:Int)
      ·rw[if_pos c6] at H
       have c6b0:decide (x5_1 < (l1.length:Int))=true:=decide_eq_true c6
       clear c6
       replace H:=Option.bind_eq_some_iff.mp H
       obtain⟨t152,A70,H⟩:=H
       have A7:=Aside0.mk A70
       clear A70
       by_cases c8:t152=true
       ·subst c8
        have H1:(laws_eqKeeperS.l0 k1 l0 l1 (wrap64 (x5_1+1)))=some r:=by rw[if_pos rfl] at H;exact H
        clear H
        have H:=H1
        clear H1
        have H':=Aside0.mk H
        clear H
        try go_wp2
        (try (rw[drewN_self wr];generalize hq_:World.drewN wr _=wr;have n0_:=Aside0.mk (below_at hq_ HB.out);clear hq_ HB;have HB:=n0_;clear n0_))
        have n0_:=Aside0.mk (below_drew1 HB.out)
        clear HB
        have HB:=n0_
        clear n0_
        have p150:0≤(x5_1:Int):=of_decide_eq_true (bD)
        have q150:x5_1 < (l0.length:Int):=of_decide_eq_true (bD)
        obtain⟨ad150,A150_0,c150_0,A150_1,c150_1,A150_2,c150_2,e150,hx150_0,hx150_1,hx150_2,hl150_0,hi150_0,hl150_1,hi150_1,hl150_2,hi150_2⟩:=at_T179 HR0.out x5_1 p150 q150
        have hw150_2:=hx150_2
        have hw150_1:=hx150_1
        have hw150_0:=hx150_0
        cases e150
        replace hx150_0:=(HB.out.cell (World.block_lt_of_cell? w _ hx150_0)).trans hx150_0
        replace hx150_1:=(HB.out.cell (World.block_lt_of_cell? w _ hx150_1)).trans hx150_1
        replace hx150_2:=(HB.out.cell (World.block_lt_of_cell? w _ hx150_2)).trans hx150_2
        have HR150_0:=Aside0.mk hi150_0
        have HC150_0:=Aside0.mk hl150_0
        clear hi150_0 hl150_0
        have HR150_1:=Aside0.mk hi150_1
        have HC150_1:=Aside0.mk hl150_1
        clear hi150_1 hl150_1
        have HR150_2:=Aside0.mk hi150_2
        have HC150_2:=Aside0.mk hl150_2
        clear hi150_2 hl150_2
        replace p150:=eq_true p150
        replace q150:=eq_true q150
        have p151:0≤(x5_1:Int):=of_decide_eq_true (bD)
        have q151:x5_1 < (l1.length:Int):=of_decide_eq_true (bD)
        obtain⟨ad151,A151_0,c151_0,A151_1,c151_1,A151_2,c151_2,e151,hx151_0,hx151_1,hx151_2,hl151_0,hi151_0,hl151_1,hi151_1,hl151_2,hi151_2⟩:=at_T179 HR1.out x5_1 p151 q151
        have hw151_2:=hx151_2
        have hw151_1:=hx151_1
        have hw151_0:=hx151_0
        cases e151
        replace hx151_0:=(HB.out.cell (World.block_lt_of_cell? w _ hx151_0)).trans hx151_0
        replace hx151_1:=(HB.out.cell (World.block_lt_of_cell? w _ hx151_1)).trans hx151_1
        replace hx151_2:=(HB.out.cell (World.block_lt_of_cell? w _ hx151_2)).trans hx151_2
        have HR151_0:=Aside0.mk hi151_0
        have HC151_0:=Aside0.mk hl151_0
        clear hi151_0 hl151_0
        have HR151_1:=Aside0.mk hi151_1
        have HC151_1:=Aside0.mk hl151_1
        clear hi151_1 hl151_1
        have HR151_2:=Aside0.mk hi151_2
        have HC151_2:=Aside0.mk hl151_2
        clear hi151_2 hl151_2
        replace p151:=eq_true p151
        replace q151:=eq_true q151
        refine start_ (n:=10) (S:=fun w'=>w'.cell? (ad150.add ((x5_1).toNat * 3))=some (.slice A150_0 ((rd_T179 l0 x5_1).f0).length c150_0)∧w'.cell? ⟨(ad150.add ((x5_1).toNat * 3)).block,(ad150.add ((x5_1).toNat * 3)).off+1,none⟩=some (.slice A150_1 ((rd_T179 l0 x5_1).f1).length c150_1)∧w'.cell? ⟨(ad150.add ((x5_1).toNat * 3)).block,(ad150.add ((x5_1).toNat * 3)).off+2,none⟩=some (.slice A150_2 ((rd_T179 l0 x5_1).f2).length c150_2)∧w'.cell? (ad151.add ((x5_1).toNat * 3))=some (.slice A151_0 ((rd_T179 l1 x5_1).f0).length c151_0)∧w'.cell? ⟨(ad151.add ((x5_1).toNat * 3)).block,(ad151.add ((x5_1).toNat * 3)).off+1,none⟩=some (.slice A151_1 ((rd_T179 l1 x5_1).f1).length c151_1)∧w'.cell? ⟨(ad151.add ((x5_1).toNat * 3)).block,(ad151.add ((x5_1).toNat * 3)).off+2,none⟩=some (.slice A151_2 ((rd_T179 l1 x5_1).f2).length c151_2)) (ds:=[]) #[false,false,false,false,false,false,false,false,false,false] (b1_) rfl rfl ⟨((HB.out.cell (World.block_lt_of_cell? w _ hw150_0)).trans hw150_0),((HB.out.cell (World.block_lt_of_cell? w _ hw150_1)).trans hw150_1),((HB.out.cell (World.block_lt_of_cell? w _ hw150_2)).trans hw150_2),((HB.out.cell (World.block_lt_of_cell? w _ hw151_0)).trans hw151_0),((HB.out.cell (World.block_lt_of_cell? w _ hw151_1)).trans hw151_1),((HB.out.cell (World.block_lt_of_cell? w _ hw151_2)).trans hw151_2)⟩ (fun hHeld => ?_);refine with_tabW laws_eqKeeperS.tab6 laws_eqKeeperS.bits6 (fun HT_ HW_ => ?_)
        generalize wr.drew=w9 at HB HR150_0 HR150_1 HR150_2 HR151_0 HR151_1 HR151_2 hx150_0 hx150_1 hx150_2 hx151_0 hx151_1 hx151_2 hHeld ⊢
        refine pure_ (i:=0) (N:=some 17) (v:=?_) (a':=?_) #[true,false,false,false,false,false,false,false,false,false] rfl rfl (any_of HT_.out (b1_)) (fun _ _ _ h=>h) (Or.inl ⟨by rfl,?_⟩) ?_ ?_
        rotate_left
        ·intro w'
         go_simp
         with_reducible rfl
        rotate_left
        ·simp only[Act.put,List.setIfInBounds_toArray,List.set_cons_zero,List.set_cons_succ,i64_w,i32_w]
         rfl
        refine pure_ (i:=1) (N:=some 18) (v:=?_) (a':=?_) #[true,true,false,false,false,false,false,false,false,false] rfl rfl (any_of HT_.out (b1_)) (fun _ _ _ h=>h) (Or.inl ⟨by rfl,?_⟩) ?_ ?_
        rotate_left
        ·intro w'
         go_simp
         with_reducible rfl
        rotate_left
        ·simp only[Act.put,List.setIfInBounds_toArray,List.set_cons_zero,List.set_cons_succ,i64_w,i32_w]
         rfl
        refine pure_ (i:=2) (N:=some 19) (v:=?_) (a':=?_) #[true,true,true,false,false,false,false,false,false,false] rfl rfl (any_of HT_.out (b1_)) (fun _ _ _ h=>h) (Or.inl ⟨by rfl,?_⟩) ?_ ?_
        rotate_left
        ·intro w'
         go_simp
         with_reducible rfl
        rotate_left
        ·simp only[Act.put,List.setIfInBounds_toArray,List.set_cons_zero,List.set_cons_succ,i64_w,i32_w]
         rfl
        refine pure_ (i:=4) (N:=some 21) (v:=?_) (a':=?_) #[true,true,true,false,true,false,false,false,false,false] rfl rfl (any_of HT_.out (b1_)) (fun _ _ _ h=>h) (Or.inl ⟨by rfl,?_⟩) ?_ ?_
        rotate_left
        ·intro w'
         go_simp
         with_reducible rfl
        rotate_left
        ·simp only[Act.put,List.setIfInBounds_toArray,List.set_cons_zero,List.set_cons_succ,i64_w,i32_w]
         rfl
        refine pure_ (i:=5) (N:=some 22) (v:=?_) (a':=?_) #[true,true,true,false,true,true,false,false,false,false] rfl rfl (any_of HT_.out (b1_)) (fun _ _ _ h=>h) (Or.inl ⟨by rfl,?_⟩) ?_ ?_
        rotate_left
        ·intro w'
         go_simp
         with_reducible rfl
        rotate_left
        ·simp only[Act.put,List.setIfInBounds_toArray,List.set_cons_zero,List.set_cons_succ,i64_w,i32_w]
         rfl
        refine pure_ (i:=6) (N:=some 23) (v:=?_) (a':=?_) #[true,true,true,false,true,true,true,false,false,false] rfl rfl (any_of HT_.out (b1_)) (fun _ _ _ h=>h) (Or.inl ⟨by rfl,?_⟩) ?_ ?_
        rotate_left
        ·intro w'
         go_simp
         with_reducible rfl
        rotate_left
        ·simp only[Act.put,List.setIfInBounds_toArray,List.set_cons_zero,List.set_cons_succ,i64_w,i32_w]
         rfl
        refine take_ (i:=3) (N:=some 20) (v:=?_) (a':=?_) #[true,true,true,true,true,true,true,false,false,false] rfl rfl (take_ofW HT_.out HW_.out (b1_)) (fun _ _ _ h=>h) (Or.inl ⟨by rfl,?_⟩) hHeld ?_ ?_
        rotate_left
        ·rintro w' ⟨s0,s1,s2,s3,s4,s5⟩
         go_simp
         with_reducible rfl
        rotate_left
        ·simp only[Act.put,List.setIfInBounds_toArray,List.set_cons_zero,List.set_cons_succ,i64_w,i32_w]
         rfl
        refine take_ (i:=7) (N:=some 24) (v:=?_) (a':=?_) #[true,true,true,true,true,true,true,true,false,false] rfl rfl (take_ofW HT_.out HW_.out (b1_)) (fun _ _ _ h=>h) (Or.inl ⟨by rfl,?_⟩) hHeld ?_ ?_
        rotate_left
        ·rintro w' ⟨s0,s1,s2,s3,s4,s5⟩
         go_simp
         with_reducible rfl
        rotate_left
        ·simp only[Act.put,List.setIfInBounds_toArray,List.set_cons_zero,List.set_cons_succ,i64_w,i32_w]
         rfl
        refine one_ (i:=8) (N:=some 25) #[true,true,true,true,true,true,true,true,true,false] rfl rfl (one_of HT_.out (b1_)) (by decide) (fun K hK => ?_)
        refine goes_ Try.func149 (b1_) rfl #[.agg #[.slice A150_0 ((rd_T179 l0 x5_1).f0).length c150_0,.slice A150_1 ((rd_T179 l0 x5_1).f1).length c150_1,.slice A150_2 ((rd_T179 l0 x5_1).f2).length c150_2],.agg #[.slice A151_0 ((rd_T179 l1 x5_1).f0).length c151_0,.slice A151_1 ((rd_T179 l1 x5_1).f1).length c151_1,.slice A151_2 ((rd_T179 l1 x5_1).f2).length c151_2]] (by rfl) rfl rfl (b0_) ?_
        with_reducible refine(laws_eqKeeper.calls k1 _ _ ((rd_T179 l0 x5_1).f0) _ _ ((rd_T179 l0 x5_1).f1) _ _ ((rd_T179 l0 x5_1).f2) _ _ ((rd_T179 l1 x5_1).f0) _ _ ((rd_T179 l1 x5_1).f1) _ _ ((rd_T179 l1 x5_1).f2) true _ ?side1 ?side2 ?side3 ?side4 ?side5 ?side6 ?side7 ?side8 ?side9 ?side10 ?side11 ?side12 A7.out).mono ?_
        (case side1=>exact bC HR150_0.out)
        (case side2=>exact HC150_0.out)
        (case side3=>exact bC HR150_1.out)
        (case side4=>exact HC150_1.out)
        (case side5=>exact bC HR150_2.out)
        (case side6=>exact HC150_2.out)
        (case side7=>exact bC HR151_0.out)
        (case side8=>exact HC151_0.out)
        (case side9=>exact bC HR151_1.out)
        (case side10=>exact HC151_1.out)
        (case side11=>exact bC HR151_2.out)
        (case side12=>exact HC151_2.out)
        rintro e w10 ⟨rfl,hb⟩
        refine⟨_,rfl,?_⟩
        have n0_:=Aside0.mk (below_step (bB) hb)
        clear HB
        have HB:=n0_
        clear n0_
        (try clear hb)
        (try clear hb2)
        (try clear hk)
        (try clear hi)
        refine hK.out _ _ ⟨((HB.out.cell (World.block_lt_of_cell? w _ hw150_0)).trans hw150_0),((HB.out.cell (World.block_lt_of_cell? w _ hw150_1)).trans hw150_1),((HB.out.cell (World.block_lt_of_cell? w _ hw150_2)).trans hw150_2),((HB.out.cell (World.block_lt_of_cell? w _ hw151_0)).trans hw151_0),((HB.out.cell (World.block_lt_of_cell? w _ hw151_1)).trans hw151_1),((HB.out.cell (World.block_lt_of_cell? w _ hw151_2)).trans hw151_2)⟩ (fun hHeld => ?_)
        clear hK K
        refine norm_ (a':=?_) ?_ ?_
        rotate_left
        ·show Act.put _ (some 25) _=_
         simp only[Act.put,List.setIfInBounds_toArray,List.set_cons_zero,List.set_cons_succ,i64_w,i32_w]
         rfl
        refine pure_ (i:=9) (N:=some 26) (v:=?_) (a':=?_) #[true,true,true,true,true,true,true,true,true,true] rfl rfl (any_of HT_.out (b1_)) (fun _ _ _ h=>h) (Or.inl ⟨by rfl,?_⟩) ?_ ?_
        rotate_left
        ·intro w'
         go_simp
         with_reducible rfl
        rotate_left
        ·simp only[Act.put,List.setIfInBounds_toArray,List.set_cons_zero,List.set_cons_succ,i64_w,i32_w]
         rfl
        refine done_ (done_of HT_.out (b1_)) ?_
        try go_wp2
        go_roundg k1
        case measure=>have:=HK1.out;omega
        case rel=>exact⟨(wrap64 (x5_1+1)),(bR),H',⟨by have:=HK1.out;omega⟩,⟨by repeat (first|(with_reducible first|exact HB.out|apply below_alloc|apply pw_below_drewN|apply below_drew1)|exact HB.out)⟩⟩
       ·replace c8:=Bool.eq_false_iff.mpr c8
        subst c8
        have H1:(some false)=some r:=by rw[if_neg (show ¬ (false=true) by decide)] at H;exact H
        clear H
        have H:=H1
        clear H1
        obtain rfl:=Option.some.inj H
        try go_wp2
        (try (rw[drewN_self wr];generalize hq_:World.drewN wr _=wr;have n0_:=Aside0.mk (below_at hq_ HB.out);clear hq_ HB;have HB:=n0_;clear n0_))
        have n0_:=Aside0.mk (below_drew1 HB.out)
        clear HB
        have HB:=n0_
        clear n0_
        have p150:0≤(x5_1:Int):=of_decide_eq_true (bD)
        have q150:x5_1 < (l0.length:Int):=of_decide_eq_true (bD)
        obtain⟨ad150,A150_0,c150_0,A150_1,c150_1,A150_2,c150_2,e150,hx150_0,hx150_1,hx150_2,hl150_0,hi150_0,hl150_1,hi150_1,hl150_2,hi150_2⟩:=at_T179 HR0.out x5_1 p150 q150
        have hw150_2:=hx150_2
        have hw150_1:=hx150_1
        have hw150_0:=hx150_0
        cases e150
        replace hx150_0:=(HB.out.cell (World.block_lt_of_cell? w _ hx150_0)).trans hx150_0
        replace hx150_1:=(HB.out.cell (World.block_lt_of_cell? w _ hx150_1)).trans hx150_1
        replace hx150_2:=(HB.out.cell (World.block_lt_of_cell? w _ hx150_2)).trans hx150_2
        have HR150_0:=Aside0.mk hi150_0
        have HC150_0:=Aside0.mk hl150_0
        clear hi150_0 hl150_0
        have HR150_1:=Aside0.mk hi150_1
        have HC150_1:=Aside0.mk hl150_1
        clear hi150_1 hl150_1
        have HR150_2:=Aside0.mk hi150_2
        have HC150_2:=Aside0.mk hl150_2
        clear hi150_2 hl150_2
        replace p150:=eq_true p150
        replace q150:=eq_true q150
        have p151:0≤(x5_1:Int):=of_decide_eq_true (bD)
        have q151:x5_1 < (l1.length:Int):=of_decide_eq_true (bD)
        obtain⟨ad151,A151_0,c151_0,A151_1,c151_1,A151_2,c151_2,e151,hx151_0,hx151_1,hx151_2,hl151_0,hi151_0,hl151_1,hi151_1,hl151_2,hi151_2⟩:=at_T179 HR1.out x5_1 p151 q151
        have hw151_2:=hx151_2
        have hw151_1:=hx151_1
        have hw151_0:=hx151_0
        cases e151
        replace hx151_0:=(HB.out.cell (World.block_lt_of_cell? w _ hx151_0)).trans hx151_0
        replace hx151_1:=(HB.out.cell (World.block_lt_of_cell? w _ hx151_1)).trans hx151_1
        replace hx151_2:=(HB.out.cell (World.block_lt_of_cell? w _ hx151_2)).trans hx151_2
        have HR151_0:=Aside0.mk hi151_0
        have HC151_0:=Aside0.mk hl151_0
        clear hi151_0 hl151_0
        have HR151_1:=Aside0.mk hi151_1
        have HC151_1:=Aside0.mk hl151_1
        clear hi151_1 hl151_1
        have HR151_2:=Aside0.mk hi151_2
        have HC151_2:=Aside0.mk hl151_2
        clear hi151_2 hl151_2
        replace p151:=eq_true p151
        replace q151:=eq_true q151
        refine start_ (n:=10) (S:=fun w'=>w'.cell? (ad150.add ((x5_1).toNat * 3))=some (.slice A150_0 ((rd_T179 l0 x5_1).f0).length c150_0)∧w'.cell? ⟨(ad150.add ((x5_1).toNat * 3)).block,(ad150.add ((x5_1).toNat * 3)).off+1,none⟩=some (.slice A150_1 ((rd_T179 l0 x5_1).f1).length c150_1)∧w'.cell? ⟨(ad150.add ((x5_1).toNat * 3)).block,(ad150.add ((x5_1).toNat * 3)).off+2,none⟩=some (.slice A150_2 ((rd_T179 l0 x5_1).f2).length c150_2)∧w'.cell? (ad151.add ((x5_1).toNat * 3))=some (.slice A151_0 ((rd_T179 l1 x5_1).f0).length c151_0)∧w'.cell? ⟨(ad151.add ((x5_1).toNat * 3)).block,(ad151.add ((x5_1).toNat * 3)).off+1,none⟩=some (.slice A151_1 ((rd_T179 l1 x5_1).f1).length c151_1)∧w'.cell? ⟨(ad151.add ((x5_1).toNat * 3)).block,(ad151.add ((x5_1).toNat * 3)).off+2,none⟩=some (.slice A151_2 ((rd_T179 l1 x5_1).f2).length c151_2)) (ds:=[]) #[false,false,false,false,false,false,false,false,false,false] (b1_) rfl rfl ⟨((HB.out.cell (World.block_lt_of_cell? w _ hw150_0)).trans hw150_0),((HB.out.cell (World.block_lt_of_cell? w _ hw150_1)).trans hw150_1),((HB.out.cell (World.block_lt_of_cell? w _ hw150_2)).trans hw150_2),((HB.out.cell (World.block_lt_of_cell? w _ hw151_0)).trans hw151_0),((HB.out.cell (World.block_lt_of_cell? w _ hw151_1)).trans hw151_1),((HB.out.cell (World.block_lt_of_cell? w _ hw151_2)).trans hw151_2)⟩ (fun hHeld => ?_);refine with_tabW laws_eqKeeperS.tab6 laws_eqKeeperS.bits6 (fun HT_ HW_ => ?_)
        generalize wr.drew=w11 at HB HR150_0 HR150_1 HR150_2 HR151_0 HR151_1 HR151_2 hx150_0 hx150_1 hx150_2 hx151_0 hx151_1 hx151_2 hHeld ⊢
        refine pure_ (i:=0) (N:=some 17) (v:=?_) (a':=?_) #[true,false,false,false,false,false,false,false,false,false] rfl rfl (any_of HT_.out (b1_)) (fun _ _ _ h=>h) (Or.inl ⟨by rfl,?_⟩) ?_ ?_
        rotate_left
        ·intro w'
         go_simp
         with_reducible rfl
        rotate_left
        ·simp only[Act.put,List.setIfInBounds_toArray,List.set_cons_zero,List.set_cons_succ,i64_w,i32_w]
         rfl
        refine pure_ (i:=1) (N:=some 18) (v:=?_) (a':=?_) #[true,true,false,false,false,false,false,false,false,false] rfl rfl (any_of HT_.out (b1_)) (fun _ _ _ h=>h) (Or.inl ⟨by rfl,?_⟩) ?_ ?_
        rotate_left
        ·intro w'
         go_simp
         with_reducible rfl
        rotate_left
        ·simp only[Act.put,List.setIfInBounds_toArray,List.set_cons_zero,List.set_cons_succ,i64_w,i32_w]
         rfl
        refine pure_ (i:=2) (N:=some 19) (v:=?_) (a':=?_) #[true,true,true,false,false,false,false,false,false,false] rfl rfl (any_of HT_.out (b1_)) (fun _ _ _ h=>h) (Or.inl ⟨by rfl,?_⟩) ?_ ?_
        rotate_left
        ·intro w'
         go_simp
         with_reducible rfl
        rotate_left
        ·simp only[Act.put,List.setIfInBounds_toArray,List.set_cons_zero,List.set_cons_succ,i64_w,i32_w]
         rfl
        refine pure_ (i:=4) (N:=some 21) (v:=?_) (a':=?_) #[true,true,true,false,true,false,false,false,false,false] rfl rfl (any_of HT_.out (b1_)) (fun _ _ _ h=>h) (Or.inl ⟨by rfl,?_⟩) ?_ ?_
        rotate_left
        ·intro w'
         go_simp
         with_reducible rfl
        rotate_left
        ·simp only[Act.put,List.setIfInBounds_toArray,List.set_cons_zero,List.set_cons_succ,i64_w,i32_w]
         rfl
        refine pure_ (i:=5) (N:=some 22) (v:=?_) (a':=?_) #[true,true,true,false,true,true,false,false,false,false] rfl rfl (any_of HT_.out (b1_)) (fun _ _ _ h=>h) (Or.inl ⟨by rfl,?_⟩) ?_ ?_
        rotate_left
        ·intro w'
         go_simp
         with_reducible rfl
        rotate_left
        ·simp only[Act.put,List.setIfInBounds_toArray,List.set_cons_zero,List.set_cons_succ,i64_w,i32_w]
         rfl
        refine pure_ (i:=6) (N:=some 23) (v:=?_) (a':=?_) #[true,true,true,false,true,true,true,false,false,false] rfl rfl (any_of HT_.out (b1_)) (fun _ _ _ h=>h) (Or.inl ⟨by rfl,?_⟩) ?_ ?_
        rotate_left
        ·intro w'
         go_simp
         with_reducible rfl
        rotate_left
        ·simp only[Act.put,List.setIfInBounds_toArray,List.set_cons_zero,List.set_cons_succ,i64_w,i32_w]
         rfl
        refine take_ (i:=3) (N:=some 20) (v:=?_) (a':=?_) #[true,true,true,true,true,true,true,false,false,false] rfl rfl (take_ofW HT_.out HW_.out (b1_)) (fun _ _ _ h=>h) (Or.inl ⟨by rfl,?_⟩) hHeld ?_ ?_
        rotate_left
        ·rintro w' ⟨s0,s1,s2,s3,s4,s5⟩
         go_simp
         with_reducible rfl
        rotate_left
        ·simp only[Act.put,List.setIfInBounds_toArray,List.set_cons_zero,List.set_cons_succ,i64_w,i32_w]
         rfl
        refine take_ (i:=7) (N:=some 24) (v:=?_) (a':=?_) #[true,true,true,true,true,true,true,true,false,false] rfl rfl (take_ofW HT_.out HW_.out (b1_)) (fun _ _ _ h=>h) (Or.inl ⟨by rfl,?_⟩) hHeld ?_ ?_
        rotate_left
        ·rintro w' ⟨s0,s1,s2,s3,s4,s5⟩
         go_simp
         with_reducible rfl
        rotate_left
        ·simp only[Act.put,List.setIfInBounds_toArray,List.set_cons_zero,List.set_cons_succ,i64_w,i32_w]
         rfl
        refine one_ (i:=8) (N:=some 25) #[true,true,true,true,true,true,true,true,true,false] rfl rfl (one_of HT_.out (b1_)) (by decide) (fun K hK => ?_)
        refine goes_ Try.func149 (b1_) rfl #[.agg #[.slice A150_0 ((rd_T179 l0 x5_1).f0).length c150_0,.slice A150_1 ((rd_T179 l0 x5_1).f1).length c150_1,.slice A150_2 ((rd_T179 l0 x5_1).f2).length c150_2],.agg #[.slice A151_0 ((rd_T179 l1 x5_1).f0).length c151_0,.slice A151_1 ((rd_T179 l1 x5_1).f1).length c151_1,.slice A151_2 ((rd_T179 l1 x5_1).f2).length c151_2]] (by rfl) rfl rfl (b0_) ?_
        with_reducible refine(laws_eqKeeper.calls k1 _ _ ((rd_T179 l0 x5_1).f0) _ _ ((rd_T179 l0 x5_1).f1) _ _ ((rd_T179 l0 x5_1).f2) _ _ ((rd_T179 l1 x5_1).f0) _ _ ((rd_T179 l1 x5_1).f1) _ _ ((rd_T179 l1 x5_1).f2) false _ ?side1 ?side2 ?side3 ?side4 ?side5 ?side6 ?side7 ?side8 ?side9 ?side10 ?side11 ?side12 A7.out).mono ?_
        (case side1=>exact bC HR150_0.out)
        (case side2=>exact HC150_0.out)
        (case side3=>exact bC HR150_1.out)
        (case side4=>exact HC150_1.out)
        (case side5=>exact bC HR150_2.out)
        (case side6=>exact HC150_2.out)
        (case side7=>exact bC HR151_0.out)
        (case side8=>exact HC151_0.out)
        (case side9=>exact bC HR151_1.out)
        (case side10=>exact HC151_1.out)
        (case side11=>exact bC HR151_2.out)
        (case side12=>exact HC151_2.out)
        rintro e w12 ⟨rfl,hb⟩
        refine⟨_,rfl,?_⟩
        have n0_:=Aside0.mk (below_step (bB) hb)
        clear HB
        have HB:=n0_
        clear n0_
        (try clear hb)
        (try clear hb2)
        (try clear hk)
        (try clear hi)
        refine hK.out _ _ ⟨((HB.out.cell (World.block_lt_of_cell? w _ hw150_0)).trans hw150_0),((HB.out.cell (World.block_lt_of_cell? w _ hw150_1)).trans hw150_1),((HB.out.cell (World.block_lt_of_cell? w _ hw150_2)).trans hw150_2),((HB.out.cell (World.block_lt_of_cell? w _ hw151_0)).trans hw151_0),((HB.out.cell (World.block_lt_of_cell? w _ hw151_1)).trans hw151_1),((HB.out.cell (World.block_lt_of_cell? w _ hw151_2)).trans hw151_2)⟩ (fun hHeld => ?_)
        clear hK K
        refine norm_ (a':=?_) ?_ ?_
        rotate_left
        ·show Act.put _ (some 25) _=_
         simp only[Act.put,List.setIfInBounds_toArray,List.set_cons_zero,List.set_cons_succ,i64_w,i32_w]
         rfl
        refine pure_ (i:=9) (N:=some 26) (v:=?_) (a':=?_) #[true,true,true,true,true,true,true,true,true,true] rfl rfl (any_of HT_.out (b1_)) (fun _ _ _ h=>h) (Or.inl ⟨by rfl,?_⟩) ?_ ?_
        rotate_left
        ·intro w'
         go_simp
         with_reducible rfl
        rotate_left
        ·simp only[Act.put,List.setIfInBounds_toArray,List.set_cons_zero,List.set_cons_succ,i64_w,i32_w]
         rfl
        refine done_ (done_of HT_.out (b1_)) ?_
        try go_wp2
        go_ret
        exact⟨bE,bB⟩
      ·rw[if_neg c6] at H
       exact absurd H (by simp)
     ·rw[if_neg c5] at H
      exact absurd H (by simp)
    ·rw[if_neg c4] at H
     have c4b0:decide (x5_1 < (l0.length:Int))=false:=decide_eq_false c4
     clear c4
     obtain rfl:=Option.some.inj H
     go_wp2
     go_ret
     exact⟨bE,bB⟩
 ·rw[if_neg c3] at H
  have c3b0:((l0.length:Int) == (l1.length:Int))=false:=beq_eq_false_iff_ne.mpr c3
  have c3b1:((l0.length:Int) != (l1.length:Int))=true:=bne_iff_ne.mpr c3
  have c3b2:(l0.length == l1.length)=false:=by first|simpa using c3|(simp at c3 ⊢;omega)
  obtain rfl:=Option.some.inj H
  go_enter Try.func99,Try.ntmps99
  go_wp2
  go_ret
  exact⟨bE,bB⟩

/-! ### laws_eqSlip: function 150 -/
def laws_eqSlip.f (a0_0:Int) (a0_1:Int) (a0_2:Int) (a0_3:Int) (a1_0:Int) (a1_1:Int) (a1_2:Int) (a1_3:Int):Option (Bool):=if a0_0=a1_0 then (if a0_1=a1_1 then (if a0_2=a1_2 then (if a0_3=a1_3 then (some true) else (some false)) else (some false)) else (some false)) else (some false)
set_option maxHeartbeats 8000000 in
set_option maxRecDepth 100000 in
theorem laws_eqSlip.calls (a0_0:Int) (a0_1:Int) (a0_2:Int) (a0_3:Int) (a1_0:Int) (a1_1:Int) (a1_2:Int) (a1_3:Int) (r:Bool) (w:World) (h:laws_eqSlip.f a0_0 a0_1 a0_2 a0_3 a1_0 a1_1 a1_2 a1_3=some r) :
  Calls Try.prog 150 #[.agg #[.int .i64 a0_0,.int .i64 a0_1,.int .i64 a0_2,.int .i64 a0_3],.agg #[.int .i64 a1_0,.int .i64 a1_1,.int .i64 a1_2,.int .i64 a1_3]] w fun e w'=>e=.returned (.bool r)∧Below w.heap.size w w':=by
 have hu182:=Try.underlying182
 have HB:=Aside0.mk (Below.refl w.heap.size w)
 have H:(if a0_0=a1_0 then (if a0_1=a1_1 then (if a0_2=a1_2 then (if a0_3=a1_3 then (some true) else (some false)) else (some false)) else (some false)) else (some false))=some r:=h
 clear h
 by_cases c3:a0_0=a1_0
 ·rw[if_pos c3] at H
  have c3b0:(a0_0 == a1_0)=true:=beq_iff_eq.mpr c3
  have c3b1:(a0_0 != a1_0)=false:=bne_eq_false_iff_eq.mpr c3
  clear c3
  by_cases c4:a0_1=a1_1
  ·rw[if_pos c4] at H
   have c4b0:(a0_1 == a1_1)=true:=beq_iff_eq.mpr c4
   have c4b1:(a0_1 != a1_1)=false:=bne_eq_false_iff_eq.mpr c4
   clear c4
   by_cases c5:a0_2=a1_2
   ·rw[if_pos c5] at H
    have c5b0:(a0_2 == a1_2)=true:=beq_iff_eq.mpr c5
    have c5b1:(a0_2 != a1_2)=false:=bne_eq_false_iff_eq.mpr c5
    clear c5
    by_cases c6:a0_3=a1_3
    ·rw[if_pos c6] at H
     have c6b0:(a0_3 == a1_3)=true:=beq_iff_eq.mpr c6
     have c6b1:(a0_3 != a1_3)=false:=bne_eq_false_iff_eq.mpr c6
     clear c6
     obtain rfl:=Option.some.inj H
     go_enter Try.func150,Try.ntmps150
     go_wp2_with (first|((with_reducible refine gate_dst (N:=2) rfl ?_);refine box_event ?hg (N:=2) ?hd (cs:=#[.int .i64 a0_0,.int .i64 a0_1,.int .i64 a0_2,.int .i64 a0_3]) (t:=182) ?hr ?_;(case hd=>rfl);(case hg=>rfl);(case hr=>first|(go_simp;done)|(go_simp;rfl));intro gb153 hg w7 hbox hb;have n0_:=Aside0.mk (below_step (bB) hb);have n1_:=Aside0.mk (hbox);have n2_:=Aside0.mk ((bG:w.heap.size≤gb153));have n3_:=Aside0.mk ((bG:w.heap.size≤gb153));clear HB;have HB:=n0_;have BK153:=n1_;have GW153:=n2_;have GE153:=n3_;clear n0_ n1_ n2_ n3_;clear hb hbox hg)|((with_reducible refine gate_dst (N:=3) rfl ?_);refine box_event ?hg (N:=3) ?hd (cs:=#[.int .i64 a1_0,.int .i64 a1_1,.int .i64 a1_2,.int .i64 a1_3]) (t:=182) ?hr ?_;(case hd=>rfl);(case hg=>rfl);(case hr=>first|(go_simp;done)|(go_simp;rfl));intro gb154 hg w8 hbox hb;have n0_:=Aside0.mk (bM BK153.out hb);have n1_:=Aside0.mk (below_step (bS GE153.out) hb);have n2_:=Aside0.mk (hbox);have n3_:=Aside0.mk ((by rw[hg];exact(below_size (bS GE153.out)):w.heap.size≤gb154));have n4_:=Aside0.mk ((by rw[hg];exact(below_size (bS GE153.out)):w.heap.size≤gb154));have n5_:=Aside0.mk ((bN BK153.out hg:gb153≠gb154));have n6_:=Aside0.mk ((bO BK153.out hg:gb154≠gb153));clear BK153 HB;have BK153:=n0_;have HB:=n1_;have BK154:=n2_;have GW154:=n3_;have GE154:=n4_;have NB153_154:=n5_;have NB154_153:=n6_;clear n0_ n1_ n2_ n3_ n4_ n5_ n6_;clear hb hbox hg;have hnb9:=NB153_154.out;have hnc9:=NB154_153.out;obtain⟨hcz10_0,hcz10_1,hcz10_2,hcz10_3⟩:=cC4 BK153.out;obtain⟨hfz10_0,hfz10_1,hfz10_2,hfz10_3⟩:=cF4 BK153.out;obtain⟨hcz11_0,hcz11_1,hcz11_2,hcz11_3⟩:=cC4 BK154.out;obtain⟨hfz11_0,hfz11_1,hfz11_2,hfz11_3⟩:=cF4 BK154.out))
     go_ret
     exact⟨bE,bS2 GE153.out GE154.out⟩
    ·rw[if_neg c6] at H
     have c6b0:(a0_3 == a1_3)=false:=beq_eq_false_iff_ne.mpr c6
     have c6b1:(a0_3 != a1_3)=true:=bne_iff_ne.mpr c6
     obtain rfl:=Option.some.inj H
     go_enter Try.func150,Try.ntmps150
     go_wp2_with (first|((with_reducible refine gate_dst (N:=2) rfl ?_);refine box_event ?hg (N:=2) ?hd (cs:=#[.int .i64 a0_0,.int .i64 a0_1,.int .i64 a0_2,.int .i64 a0_3]) (t:=182) ?hr ?_;(case hd=>rfl);(case hg=>rfl);(case hr=>first|(go_simp;done)|(go_simp;rfl));intro gb153 hg w12 hbox hb;have n0_:=Aside0.mk (below_step (bB) hb);have n1_:=Aside0.mk (hbox);have n2_:=Aside0.mk ((bG:w.heap.size≤gb153));have n3_:=Aside0.mk ((bG:w.heap.size≤gb153));clear HB;have HB:=n0_;have BK153:=n1_;have GW153:=n2_;have GE153:=n3_;clear n0_ n1_ n2_ n3_;clear hb hbox hg)|((with_reducible refine gate_dst (N:=3) rfl ?_);refine box_event ?hg (N:=3) ?hd (cs:=#[.int .i64 a1_0,.int .i64 a1_1,.int .i64 a1_2,.int .i64 a1_3]) (t:=182) ?hr ?_;(case hd=>rfl);(case hg=>rfl);(case hr=>first|(go_simp;done)|(go_simp;rfl));intro gb154 hg w13 hbox hb;have n0_:=Aside0.mk (bM BK153.out hb);have n1_:=Aside0.mk (below_step (bS GE153.out) hb);have n2_:=Aside0.mk (hbox);have n3_:=Aside0.mk ((by rw[hg];exact(below_size (bS GE153.out)):w.heap.size≤gb154));have n4_:=Aside0.mk ((by rw[hg];exact(below_size (bS GE153.out)):w.heap.size≤gb154));have n5_:=Aside0.mk ((bN BK153.out hg:gb153≠gb154));have n6_:=Aside0.mk ((bO BK153.out hg:gb154≠gb153));clear BK153 HB;have BK153:=n0_;have HB:=n1_;have BK154:=n2_;have GW154:=n3_;have GE154:=n4_;have NB153_154:=n5_;have NB154_153:=n6_;clear n0_ n1_ n2_ n3_ n4_ n5_ n6_;clear hb hbox hg;have hnb14:=NB153_154.out;have hnc14:=NB154_153.out;obtain⟨hcz15_0,hcz15_1,hcz15_2,hcz15_3⟩:=cC4 BK153.out;obtain⟨hfz15_0,hfz15_1,hfz15_2,hfz15_3⟩:=cF4 BK153.out;obtain⟨hcz16_0,hcz16_1,hcz16_2,hcz16_3⟩:=cC4 BK154.out;obtain⟨hfz16_0,hfz16_1,hfz16_2,hfz16_3⟩:=cF4 BK154.out))
     go_ret
     exact⟨bE,bS2 GE153.out GE154.out⟩
   ·rw[if_neg c5] at H
    have c5b0:(a0_2 == a1_2)=false:=beq_eq_false_iff_ne.mpr c5
    have c5b1:(a0_2 != a1_2)=true:=bne_iff_ne.mpr c5
    obtain rfl:=Option.some.inj H
    go_enter Try.func150,Try.ntmps150
    go_wp2_with (first|((with_reducible refine gate_dst (N:=2) rfl ?_);refine box_event ?hg (N:=2) ?hd (cs:=#[.int .i64 a0_0,.int .i64 a0_1,.int .i64 a0_2,.int .i64 a0_3]) (t:=182) ?hr ?_;(case hd=>rfl);(case hg=>rfl);(case hr=>first|(go_simp;done)|(go_simp;rfl));intro gb153 hg w17 hbox hb;have n0_:=Aside0.mk (below_step (bB) hb);have n1_:=Aside0.mk (hbox);have n2_:=Aside0.mk ((bG:w.heap.size≤gb153));have n3_:=Aside0.mk ((bG:w.heap.size≤gb153));clear HB;have HB:=n0_;have BK153:=n1_;have GW153:=n2_;have GE153:=n3_;clear n0_ n1_ n2_ n3_;clear hb hbox hg)|((with_reducible refine gate_dst (N:=3) rfl ?_);refine box_event ?hg (N:=3) ?hd (cs:=#[.int .i64 a1_0,.int .i64 a1_1,.int .i64 a1_2,.int .i64 a1_3]) (t:=182) ?hr ?_;(case hd=>rfl);(case hg=>rfl);(case hr=>first|(go_simp;done)|(go_simp;rfl));intro gb154 hg w18 hbox hb;have n0_:=Aside0.mk (bM BK153.out hb);have n1_:=Aside0.mk (below_step (bS GE153.out) hb);have n2_:=Aside0.mk (hbox);have n3_:=Aside0.mk ((by rw[hg];exact(below_size (bS GE153.out)):w.heap.size≤gb154));have n4_:=Aside0.mk ((by rw[hg];exact(below_size (bS GE153.out)):w.heap.size≤gb154));have n5_:=Aside0.mk ((bN BK153.out hg:gb153≠gb154));have n6_:=Aside0.mk ((bO BK153.out hg:gb154≠gb153));clear BK153 HB;have BK153:=n0_;have HB:=n1_;have BK154:=n2_;have GW154:=n3_;have GE154:=n4_;have NB153_154:=n5_;have NB154_153:=n6_;clear n0_ n1_ n2_ n3_ n4_ n5_ n6_;clear hb hbox hg;have hnb19:=NB153_154.out;have hnc19:=NB154_153.out;obtain⟨hcz20_0,hcz20_1,hcz20_2,hcz20_3⟩:=cC4 BK153.out;obtain⟨hfz20_0,hfz20_1,hfz20_2,hfz20_3⟩:=cF4 BK153.out;obtain⟨hcz21_0,hcz21_1,hcz21_2,hcz21_3⟩:=cC4 BK154.out;obtain⟨hfz21_0,hfz21_1,hfz21_2,hfz21_3⟩:=cF4 BK154.out))
    go_ret
    exact⟨bE,bS2 GE153.out GE154.out⟩
  ·rw[if_neg c4] at H
   have c4b0:(a0_1 == a1_1)=false:=beq_eq_false_iff_ne.mpr c4
   have c4b1:(a0_1 != a1_1)=true:=bne_iff_ne.mpr c4
   obtain rfl:=Option.some.inj H
   go_enter Try.func150,Try.ntmps150
   go_wp2_with (first|((with_reducible refine gate_dst (N:=2) rfl ?_);refine box_event ?hg (N:=2) ?hd (cs:=#[.int .i64 a0_0,.int .i64 a0_1,.int .i64 a0_2,.int .i64 a0_3]) (t:=182) ?hr ?_;(case hd=>rfl);(case hg=>rfl);(case hr=>first|(go_simp;done)|(go_simp;rfl));intro gb153 hg w22 hbox hb;have n0_:=Aside0.mk (below_step (bB) hb);have n1_:=Aside0.mk (hbox);have n2_:=Aside0.mk ((bG:w.heap.size≤gb153));have n3_:=Aside0.mk ((bG:w.heap.size≤gb153));clear HB;have HB:=n0_;have BK153:=n1_;have GW153:=n2_;have GE153:=n3_;clear n0_ n1_ n2_ n3_;clear hb hbox hg)|((with_reducible refine gate_dst (N:=3) rfl ?_);refine box_event ?hg (N:=3) ?hd (cs:=#[.int .i64 a1_0,.int .i64 a1_1,.int .i64 a1_2,.int .i64 a1_3]) (t:=182) ?hr ?_;(case hd=>rfl);(case hg=>rfl);(case hr=>first|(go_simp;done)|(go_simp;rfl));intro gb154 hg w23 hbox hb;have n0_:=Aside0.mk (bM BK153.out hb);have n1_:=Aside0.mk (below_step (bS GE153.out) hb);have n2_:=Aside0.mk (hbox);have n3_:=Aside0.mk ((by rw[hg];exact(below_size (bS GE153.out)):w.heap.size≤gb154));have n4_:=Aside0.mk ((by rw[hg];exact(below_size (bS GE153.out)):w.heap.size≤gb154));have n5_:=Aside0.mk ((bN BK153.out hg:gb153≠gb154));have n6_:=Aside0.mk ((bO BK153.out hg:gb154≠gb153));clear BK153 HB;have BK153:=n0_;have HB:=n1_;have BK154:=n2_;have GW154:=n3_;have GE154:=n4_;have NB153_154:=n5_;have NB154_153:=n6_;clear n0_ n1_ n2_ n3_ n4_ n5_ n6_;clear hb hbox hg;have hnb24:=NB153_154.out;have hnc24:=NB154_153.out;obtain⟨hcz25_0,hcz25_1,hcz25_2,hcz25_3⟩:=cC4 BK153.out;obtain⟨hfz25_0,hfz25_1,hfz25_2,hfz25_3⟩:=cF4 BK153.out;obtain⟨hcz26_0,hcz26_1,hcz26_2,hcz26_3⟩:=cC4 BK154.out;obtain⟨hfz26_0,hfz26_1,hfz26_2,hfz26_3⟩:=cF4 BK154.out))
   go_ret
   exact⟨bE,bS2 GE153.out GE154.out⟩
 ·rw[if_neg c3] at H
  have c3b0:(a0_0 == a1_0)=false:=beq_eq_false_iff_ne.mpr c3
  have c3b1:(a0_0 != a1_0)=true:=bne_iff_ne.mpr c3
  obtain rfl:=Option.some.inj H
  go_enter Try.func150,Try.ntmps150
  go_wp2_with (first|((with_reducible refine gate_dst (N:=2) rfl ?_);refine box_event ?hg (N:=2) ?hd (cs:=#[.int .i64 a0_0,.int .i64 a0_1,.int .i64 a0_2,.int .i64 a0_3]) (t:=182) ?hr ?_;(case hd=>rfl);(case hg=>rfl);(case hr=>first|(go_simp;done)|(go_simp;rfl));intro gb153 hg w27 hbox hb;have n0_:=Aside0.mk (below_step (bB) hb);have n1_:=Aside0.mk (hbox);have n2_:=Aside0.mk ((bG:w.heap.size≤gb153));have n3_:=Aside0.mk ((bG:w.heap.size≤gb153));clear HB;have HB:=n0_;have BK153:=n1_;have GW153:=n2_;have GE153:=n3_;clear n0_ n1_ n2_ n3_;clear hb hbox hg)|((with_reducible refine gate_dst (N:=3) rfl ?_);refine box_event ?hg (N:=3) ?hd (cs:=#[.int .i64 a1_0,.int .i64 a1_1,.int .i64 a1_2,.int .i64 a1_3]) (t:=182) ?hr ?_;(case hd=>rfl);(case hg=>rfl);(case hr=>first|(go_simp;done)|(go_simp;rfl));intro gb154 hg w28 hbox hb;have n0_:=Aside0.mk (bM BK153.out hb);have n1_:=Aside0.mk (below_step (bS GE153.out) hb);have n2_:=Aside0.mk (hbox);have n3_:=Aside0.mk ((by rw[hg];exact(below_size (bS GE153.out)):w.heap.size≤gb154));have n4_:=Aside0.mk ((by rw[hg];exact(below_size (bS GE153.out)):w.heap.size≤gb154));have n5_:=Aside0.mk ((bN BK153.out hg:gb153≠gb154));have n6_:=Aside0.mk ((bO BK153.out hg:gb154≠gb153));clear BK153 HB;have BK153:=n0_;have HB:=n1_;have BK154:=n2_;have GW154:=n3_;have GE154:=n4_;have NB153_154:=n5_;have NB154_153:=n6_;clear n0_ n1_ n2_ n3_ n4_ n5_ n6_;clear hb hbox hg;have hnb29:=NB153_154.out;have hnc29:=NB154_153.out;obtain⟨hcz30_0,hcz30_1,hcz30_2,hcz30_3⟩:=cC4 BK153.out;obtain⟨hfz30_0,hfz30_1,hfz30_2,hfz30_3⟩:=cF4 BK153.out;obtain⟨hcz31_0,hcz31_1,hcz31_2,hcz31_3⟩:=cC4 BK154.out;obtain⟨hfz31_0,hfz31_1,hfz31_2,hfz31_3⟩:=cF4 BK154.out))
  go_ret
  exact⟨bE,bS2 GE153.out GE154.out⟩

end Go.Proofs.Yteneeohaoplpbaa.XFnExactNewCustody
