-- Written by this session's own program (wip/xprint.py) out of the translation; Lean checks it.
import Derived.Test.YteneeohaoplpbaaXFnExactReachAllx0
import Derived.Test.YteneeohaoplpbaaXFnExactReachAllx2
import Derived.Test.YteneeohaoplpbaaXFnExactReachAllx10
namespace Go.Proofs.Yteneeohaoplpbaa.XFnExactReachAll
open Go.RowKit Go.Proofs.YteneeohaoplpbaaW.PrintWords Go.Proofs.YteneeohaoplpbaaW.PrintLast Go.Proofs.YteneeohaoplpbaaW.PrintMore
attribute [local go_sem] max2_int min2_int max_two min_two max_three min_three max_four min_four   -- for this text's walks alone
set_option linter.unusedVariables false
set_option linter.unusedSimpArgs false

/-! ### laws_eqReachS: function 68 -/
def laws_eqReachS.l0:Nat→List (S157)→List (S157)→Int→Option (Bool)
 | 0,_,_,_=>none
 | k+1,x0,x1,x5=>if x5 < (x0.length:Int) then (if 0≤x5 then (if x5 < (x1.length:Int) then ((laws_eqReach.f k ((rd_T157 x0 x5).f0) ((rd_T157 x0 x5).f1) ((rd_T157 x0 x5).f2) ((rd_T157 x1 x5).f0) ((rd_T157 x1 x5).f1) ((rd_T157 x1 x5).f2)).bind fun t321=>(if t321=true then (laws_eqReachS.l0 k x0 x1 (wrap64 (x5+1))) else (some false))) else (none)) else (none)) else (some true)
def laws_eqReachS.f (k:Nat) (l0:List (S157)) (l1:List (S157)):Option (Bool):=if (l0.length:Int)=(l1.length:Int) then (laws_eqReachS.l0 k l0 l1 0) else (some false)
theorem laws_eqReachS.mono_l : ∀ k,(∀ y0 y1 y2,LeO (laws_eqReachS.l0 k y0 y1 y2) (laws_eqReachS.l0 (k+1) y0 y1 y2))
 | 0=>fun _ _ _ r h=>by simp[laws_eqReachS.l0] at h
 | k+1=>by
  have ih0:=laws_eqReachS.mono_l k
  ·intro y0 y1 y2
   unfold laws_eqReachS.l0
   repeat' first
   | (with_reducible exact ih0 _ _ _)
   | (with_reducible exact laws_eqReach.mono _ _ _ _ _ _ _)
   | (with_reducible exact LeO.refl _)
   | (with_reducible exact LeO.none _)
   | (with_reducible refine LeO.ite ?_ ?_)
   | (with_reducible refine LeO.bind ?_ (fun _ => ?_))
   | exact ih0 _ _ _
   | exact laws_eqReach.mono _ _ _ _ _ _ _
   | exact LeO.none _
   | refine LeO.ite ?_ ?_
   | refine LeO.bind ?_ (fun _ => ?_)
theorem laws_eqReachS.mono : ∀ a0 a1 k,LeO (laws_eqReachS.f k a0 a1) (laws_eqReachS.f (k+1) a0 a1):=by
 intro a0 a1 k
 have ih0:=laws_eqReachS.mono_l k
 unfold laws_eqReachS.f
 repeat' first
  | (with_reducible exact ih0 _ _ _)
  | (with_reducible exact laws_eqReach.mono _ _ _ _ _ _ _)
  | (with_reducible exact LeO.refl _)
  | (with_reducible exact LeO.none _)
  | (with_reducible refine LeO.ite ?_ ?_)
  | (with_reducible refine LeO.bind ?_ (fun _ => ?_))
  | exact ih0 _ _ _
  | exact laws_eqReach.mono _ _ _ _ _ _ _
  | exact LeO.none _
  | refine LeO.ite ?_ ?_
  | refine LeO.bind ?_ (fun _ => ?_)
def laws_eqReachS.T6:Bool × List (List Nat × List Nat):=(true,[([],[]),([],[]),([0,1],[0,1]),([2],[2]),([],[]),([],[]),([4,5],[4,5]),([6],[6]),([3,7],[3,7]),([8],[8])])
def laws_eqReachS.B6:List Nat:=[0,0,3,7,0,0,48,112,255,511]
theorem laws_eqReachS.tab6:rtab .any (opsOf Try.f68 6)=laws_eqReachS.T6:=by kernel_rfl
theorem laws_eqReachS.bits6:waitsOk laws_eqReachS.T6.2 laws_eqReachS.B6=true:=by kernel_rfl
set_option maxHeartbeats 8000000 in
set_option maxRecDepth 100000 in
theorem laws_eqReachS.calls (k:Nat) (A0:Option Addr) (c0:Nat) (l0:List (S157)) (A1:Option Addr) (c1:Nat) (l1:List (S157)) (r:Bool) (w:World) (hr0:Kd.C k157 w A0 l0.length l0) (hc0:l0.length≤c0) (hr1:Kd.C k157 w A1 l1.length l1) (hc1:l1.length≤c1) (h:laws_eqReachS.f k l0 l1=some r) :
  Calls Try.prog 68 #[.slice A0 l0.length c0,.slice A1 l1.length c1] w fun e w'=>e=.returned (.bool r)∧Below w.heap.size w w':=by
 have hu157:=Try.underlying157
 have HR0:=Aside0.mk hr0
 have HC0:=Aside0.mk hc0
 clear hr0 hc0
 have HR1:=Aside0.mk hr1
 have HC1:=Aside0.mk hc1
 clear hr1 hc1
 have HB:=Aside0.mk (Below.refl w.heap.size w)
 have H:(if (l0.length:Int)=(l1.length:Int) then (laws_eqReachS.l0 k l0 l1 0) else (some false))=some r:=h
 clear h
 by_cases c3:(l0.length:Int)=(l1.length:Int)
 ·rw[if_pos c3] at H
  have c3b0:((l0.length:Int) == (l1.length:Int))=true:=beq_iff_eq.mpr c3
  have c3b1:((l0.length:Int) != (l1.length:Int))=false:=bne_eq_false_iff_eq.mpr c3
  have c3b2:(l0.length == l1.length)=true:=by first|simpa using c3|(simp at c3 ⊢;omega)
  clear c3
  have H':=Aside0.mk H
  clear H
  go_enter Try.func68,Try.ntmps68
  go_wp2
  go_loopg [5] k (fun kq v5 w' => ∃ (x5_1:Int),v5=.int .i64 x5_1∧Aside0 (laws_eqReachS.l0 kq l0 l1 x5_1=some r)∧Aside0 (kq≤k)∧Aside0 (Below w.heap.size w w'))
  case atStart=>exact⟨(0),(bR),H',⟨Nat.le_refl _⟩,⟨by repeat (first|(with_reducible first|exact HB.out|apply below_alloc|apply pw_below_drewN|apply below_drew1)|exact HB.out)⟩⟩
  case round =>
   clear H'
   try clear c1
   try clear p2
   try clear c3
   try clear c3b0
   try clear c3b1
   try clear c3b2
   obtain⟨x5_1,rfl,HA,HK1,HB⟩:=hrel
   cases gk with
   | zero=>exact absurd HA.out (by simp[laws_eqReachS.l0])
   | succ k1 =>
    have H:=HA.out
    clear HA
    simp only[laws_eqReachS.l0] at H
    by_cases c4:x5_1 < (l0.length:Int)
    ·rw[if_pos c4] at H
     have c4b0:decide (x5_1 < (l0.length:Int))=true:=decide_eq_true c4
     clear c4
     by_cases c5:0≤x5_1
     ·rw[if_pos c5] at H
      have c5b0:decide (0≤x5_1)=true:=decide_eq_true c5
      clear c5
      by_cases c6:x5_1 < (l1.length:Int)
      ·rw[if_pos c6] at H
       have c6b0:decide (x5_1 < (l1.length:Int))=true:=decide_eq_true c6
       clear c6
       replace H:=Option.bind_eq_some_iff.mp H
       obtain⟨t321,A70,H⟩:=H
       have A7:=Aside0.mk A70
       clear A70
       by_cases c8:t321=true
       ·subst c8
        have H1:(laws_eqReachS.l0 k1 l0 l1 (wrap64 (x5_1+1)))=some r:=by rw[if_pos rfl] at H;exact H
        clear H
        have H:=H1
        clear H1
        have H':=Aside0.mk H
        clear H
        try go_wp2
        (try (rw[drewN_self wr];generalize hq_:World.drewN wr _=wr;have n0_:=Aside0.mk (below_at hq_ HB.out);clear hq_ HB;have HB:=n0_;clear n0_))
        have n0_:=Aside0.mk (below_drew1 HB.out)
        clear HB
        have HB:=n0_
        clear n0_
        have p319:0≤(x5_1:Int):=of_decide_eq_true (bD)
        have q319:x5_1 < (l0.length:Int):=of_decide_eq_true (bD)
        obtain⟨ad319,A319_2,c319_2,e319,hx319_0,hx319_1,hx319_2,hl319_2,hi319_2⟩:=at_T157 HR0.out x5_1 p319 q319
        have hw319_2:=hx319_2
        have hw319_1:=hx319_1
        have hw319_0:=hx319_0
        cases e319
        replace hx319_0:=(HB.out.cell (World.block_lt_of_cell? w _ hx319_0)).trans hx319_0
        replace hx319_1:=(HB.out.cell (World.block_lt_of_cell? w _ hx319_1)).trans hx319_1
        replace hx319_2:=(HB.out.cell (World.block_lt_of_cell? w _ hx319_2)).trans hx319_2
        have HR319_2:=Aside0.mk hi319_2
        have HC319_2:=Aside0.mk hl319_2
        clear hi319_2 hl319_2
        replace p319:=eq_true p319
        replace q319:=eq_true q319
        have p320:0≤(x5_1:Int):=of_decide_eq_true (bD)
        have q320:x5_1 < (l1.length:Int):=of_decide_eq_true (bD)
        obtain⟨ad320,A320_2,c320_2,e320,hx320_0,hx320_1,hx320_2,hl320_2,hi320_2⟩:=at_T157 HR1.out x5_1 p320 q320
        have hw320_2:=hx320_2
        have hw320_1:=hx320_1
        have hw320_0:=hx320_0
        cases e320
        replace hx320_0:=(HB.out.cell (World.block_lt_of_cell? w _ hx320_0)).trans hx320_0
        replace hx320_1:=(HB.out.cell (World.block_lt_of_cell? w _ hx320_1)).trans hx320_1
        replace hx320_2:=(HB.out.cell (World.block_lt_of_cell? w _ hx320_2)).trans hx320_2
        have HR320_2:=Aside0.mk hi320_2
        have HC320_2:=Aside0.mk hl320_2
        clear hi320_2 hl320_2
        replace p320:=eq_true p320
        replace q320:=eq_true q320
        refine start_ (n:=10) (S:=fun w'=>w'.cell? (ad319.add ((x5_1).toNat * 3))=some (.int .i64 ((rd_T157 l0 x5_1).f0))∧w'.cell? ⟨(ad319.add ((x5_1).toNat * 3)).block,(ad319.add ((x5_1).toNat * 3)).off+1,none⟩=some (.int .i64 ((rd_T157 l0 x5_1).f1))∧w'.cell? ⟨(ad319.add ((x5_1).toNat * 3)).block,(ad319.add ((x5_1).toNat * 3)).off+2,none⟩=some (.slice A319_2 ((rd_T157 l0 x5_1).f2).length c319_2)∧w'.cell? (ad320.add ((x5_1).toNat * 3))=some (.int .i64 ((rd_T157 l1 x5_1).f0))∧w'.cell? ⟨(ad320.add ((x5_1).toNat * 3)).block,(ad320.add ((x5_1).toNat * 3)).off+1,none⟩=some (.int .i64 ((rd_T157 l1 x5_1).f1))∧w'.cell? ⟨(ad320.add ((x5_1).toNat * 3)).block,(ad320.add ((x5_1).toNat * 3)).off+2,none⟩=some (.slice A320_2 ((rd_T157 l1 x5_1).f2).length c320_2)) (ds:=[]) #[false,false,false,false,false,false,false,false,false,false] (by kernel_rfl) rfl rfl ⟨((HB.out.cell (World.block_lt_of_cell? w _ hw319_0)).trans hw319_0),((HB.out.cell (World.block_lt_of_cell? w _ hw319_1)).trans hw319_1),((HB.out.cell (World.block_lt_of_cell? w _ hw319_2)).trans hw319_2),((HB.out.cell (World.block_lt_of_cell? w _ hw320_0)).trans hw320_0),((HB.out.cell (World.block_lt_of_cell? w _ hw320_1)).trans hw320_1),((HB.out.cell (World.block_lt_of_cell? w _ hw320_2)).trans hw320_2)⟩ (fun hHeld => ?_);refine with_tabW laws_eqReachS.tab6 laws_eqReachS.bits6 (fun HT_ HW_ => ?_)
        generalize wr.drew=w9 at HB HR319_2 HR320_2 hx319_0 hx319_1 hx319_2 hx320_0 hx320_1 hx320_2 hHeld ⊢
        refine pure_ (i:=0) (N:=some 17) (v:=?_) (a':=?_) #[true,false,false,false,false,false,false,false,false,false] rfl rfl (any_of HT_.out (by kernel_rfl)) (fun _ _ _ h=>h) (Or.inl ⟨by rfl,?_⟩) ?_ ?_
        rotate_left
        ·intro w'
         go_simp
         with_reducible rfl
        rotate_left
        ·simp only[Act.put,List.setIfInBounds_toArray,List.set_cons_zero,List.set_cons_succ,i64_w,i32_w]
         rfl
        refine pure_ (i:=1) (N:=some 18) (v:=?_) (a':=?_) #[true,true,false,false,false,false,false,false,false,false] rfl rfl (any_of HT_.out (by kernel_rfl)) (fun _ _ _ h=>h) (Or.inl ⟨by rfl,?_⟩) ?_ ?_
        rotate_left
        ·intro w'
         go_simp
         with_reducible rfl
        rotate_left
        ·simp only[Act.put,List.setIfInBounds_toArray,List.set_cons_zero,List.set_cons_succ,i64_w,i32_w]
         rfl
        refine pure_ (i:=2) (N:=some 19) (v:=?_) (a':=?_) #[true,true,true,false,false,false,false,false,false,false] rfl rfl (any_of HT_.out (by kernel_rfl)) (fun _ _ _ h=>h) (Or.inl ⟨by rfl,?_⟩) ?_ ?_
        rotate_left
        ·intro w'
         go_simp
         with_reducible rfl
        rotate_left
        ·simp only[Act.put,List.setIfInBounds_toArray,List.set_cons_zero,List.set_cons_succ,i64_w,i32_w]
         rfl
        refine pure_ (i:=4) (N:=some 21) (v:=?_) (a':=?_) #[true,true,true,false,true,false,false,false,false,false] rfl rfl (any_of HT_.out (by kernel_rfl)) (fun _ _ _ h=>h) (Or.inl ⟨by rfl,?_⟩) ?_ ?_
        rotate_left
        ·intro w'
         go_simp
         with_reducible rfl
        rotate_left
        ·simp only[Act.put,List.setIfInBounds_toArray,List.set_cons_zero,List.set_cons_succ,i64_w,i32_w]
         rfl
        refine pure_ (i:=5) (N:=some 22) (v:=?_) (a':=?_) #[true,true,true,false,true,true,false,false,false,false] rfl rfl (any_of HT_.out (by kernel_rfl)) (fun _ _ _ h=>h) (Or.inl ⟨by rfl,?_⟩) ?_ ?_
        rotate_left
        ·intro w'
         go_simp
         with_reducible rfl
        rotate_left
        ·simp only[Act.put,List.setIfInBounds_toArray,List.set_cons_zero,List.set_cons_succ,i64_w,i32_w]
         rfl
        refine pure_ (i:=6) (N:=some 23) (v:=?_) (a':=?_) #[true,true,true,false,true,true,true,false,false,false] rfl rfl (any_of HT_.out (by kernel_rfl)) (fun _ _ _ h=>h) (Or.inl ⟨by rfl,?_⟩) ?_ ?_
        rotate_left
        ·intro w'
         go_simp
         with_reducible rfl
        rotate_left
        ·simp only[Act.put,List.setIfInBounds_toArray,List.set_cons_zero,List.set_cons_succ,i64_w,i32_w]
         rfl
        refine take_ (i:=3) (N:=some 20) (v:=?_) (a':=?_) #[true,true,true,true,true,true,true,false,false,false] rfl rfl (take_ofW HT_.out HW_.out (by kernel_rfl)) (fun _ _ _ h=>h) (Or.inl ⟨by rfl,?_⟩) hHeld ?_ ?_
        rotate_left
        ·rintro w' ⟨s0,s1,s2,s3,s4,s5⟩
         go_simp
         with_reducible rfl
        rotate_left
        ·simp only[Act.put,List.setIfInBounds_toArray,List.set_cons_zero,List.set_cons_succ,i64_w,i32_w]
         rfl
        refine take_ (i:=7) (N:=some 24) (v:=?_) (a':=?_) #[true,true,true,true,true,true,true,true,false,false] rfl rfl (take_ofW HT_.out HW_.out (by kernel_rfl)) (fun _ _ _ h=>h) (Or.inl ⟨by rfl,?_⟩) hHeld ?_ ?_
        rotate_left
        ·rintro w' ⟨s0,s1,s2,s3,s4,s5⟩
         go_simp
         with_reducible rfl
        rotate_left
        ·simp only[Act.put,List.setIfInBounds_toArray,List.set_cons_zero,List.set_cons_succ,i64_w,i32_w]
         rfl
        refine one_ (i:=8) (N:=some 25) #[true,true,true,true,true,true,true,true,true,false] rfl rfl (one_of HT_.out (by kernel_rfl)) (by decide) (fun K hK => ?_)
        refine goes_ Try.func131 (by kernel_rfl) rfl #[.agg #[.int .i64 ((rd_T157 l0 x5_1).f0),.int .i64 ((rd_T157 l0 x5_1).f1),.slice A319_2 ((rd_T157 l0 x5_1).f2).length c319_2],.agg #[.int .i64 ((rd_T157 l1 x5_1).f0),.int .i64 ((rd_T157 l1 x5_1).f1),.slice A320_2 ((rd_T157 l1 x5_1).f2).length c320_2]] (by rfl) rfl rfl (by(try simp only[List.map_toArray,List.map_cons,List.map_nil]);first|done|rfl|(simp only[List.length_drop,List.length_take];rfl)) ?_
        with_reducible refine(laws_eqReach.calls k1 ((rd_T157 l0 x5_1).f0) ((rd_T157 l0 x5_1).f1) _ _ ((rd_T157 l0 x5_1).f2) ((rd_T157 l1 x5_1).f0) ((rd_T157 l1 x5_1).f1) _ _ ((rd_T157 l1 x5_1).f2) true _ ?side1 ?side2 ?side3 ?side4 A7.out).mono ?_
        (case side1=>exact bC HR319_2.out)
        (case side2=>exact HC319_2.out)
        (case side3=>exact bC HR320_2.out)
        (case side4=>exact HC320_2.out)
        rintro e w10 ⟨rfl,hb⟩
        refine⟨_,rfl,?_⟩
        have n0_:=Aside0.mk (below_step (bB) hb)
        clear HB
        have HB:=n0_
        clear n0_
        (try clear hb)
        (try clear hb2)
        (try clear hk)
        (try clear hi)
        refine hK.out _ _ ⟨((HB.out.cell (World.block_lt_of_cell? w _ hw319_0)).trans hw319_0),((HB.out.cell (World.block_lt_of_cell? w _ hw319_1)).trans hw319_1),((HB.out.cell (World.block_lt_of_cell? w _ hw319_2)).trans hw319_2),((HB.out.cell (World.block_lt_of_cell? w _ hw320_0)).trans hw320_0),((HB.out.cell (World.block_lt_of_cell? w _ hw320_1)).trans hw320_1),((HB.out.cell (World.block_lt_of_cell? w _ hw320_2)).trans hw320_2)⟩ (fun hHeld => ?_)
        clear hK K
        refine norm_ (a':=?_) ?_ ?_
        rotate_left
        ·show Act.put _ (some 25) _=_
         simp only[Act.put,List.setIfInBounds_toArray,List.set_cons_zero,List.set_cons_succ,i64_w,i32_w]
         rfl
        refine pure_ (i:=9) (N:=some 26) (v:=?_) (a':=?_) #[true,true,true,true,true,true,true,true,true,true] rfl rfl (any_of HT_.out (by kernel_rfl)) (fun _ _ _ h=>h) (Or.inl ⟨by rfl,?_⟩) ?_ ?_
        rotate_left
        ·intro w'
         go_simp
         with_reducible rfl
        rotate_left
        ·simp only[Act.put,List.setIfInBounds_toArray,List.set_cons_zero,List.set_cons_succ,i64_w,i32_w]
         rfl
        refine done_ (done_of HT_.out (by kernel_rfl)) ?_
        try go_wp2
        go_roundg k1
        case measure=>have:=HK1.out;omega
        case rel=>exact⟨(wrap64 (x5_1+1)),(bR),H',⟨by have:=HK1.out;omega⟩,⟨by repeat (first|(with_reducible first|exact HB.out|apply below_alloc|apply pw_below_drewN|apply below_drew1)|exact HB.out)⟩⟩
       ·replace c8:=Bool.eq_false_iff.mpr c8
        subst c8
        have H1:(some false)=some r:=by rw[if_neg (show ¬ (false=true) by decide)] at H;exact H
        clear H
        have H:=H1
        clear H1
        obtain rfl:=Option.some.inj H
        try go_wp2
        (try (rw[drewN_self wr];generalize hq_:World.drewN wr _=wr;have n0_:=Aside0.mk (below_at hq_ HB.out);clear hq_ HB;have HB:=n0_;clear n0_))
        have n0_:=Aside0.mk (below_drew1 HB.out)
        clear HB
        have HB:=n0_
        clear n0_
        have p319:0≤(x5_1:Int):=of_decide_eq_true (bD)
        have q319:x5_1 < (l0.length:Int):=of_decide_eq_true (bD)
        obtain⟨ad319,A319_2,c319_2,e319,hx319_0,hx319_1,hx319_2,hl319_2,hi319_2⟩:=at_T157 HR0.out x5_1 p319 q319
        have hw319_2:=hx319_2
        have hw319_1:=hx319_1
        have hw319_0:=hx319_0
        cases e319
        replace hx319_0:=(HB.out.cell (World.block_lt_of_cell? w _ hx319_0)).trans hx319_0
        replace hx319_1:=(HB.out.cell (World.block_lt_of_cell? w _ hx319_1)).trans hx319_1
        replace hx319_2:=(HB.out.cell (World.block_lt_of_cell? w _ hx319_2)).trans hx319_2
        have HR319_2:=Aside0.mk hi319_2
        have HC319_2:=Aside0.mk hl319_2
        clear hi319_2 hl319_2
        replace p319:=eq_true p319
        replace q319:=eq_true q319
        have p320:0≤(x5_1:Int):=of_decide_eq_true (bD)
        have q320:x5_1 < (l1.length:Int):=of_decide_eq_true (bD)
        obtain⟨ad320,A320_2,c320_2,e320,hx320_0,hx320_1,hx320_2,hl320_2,hi320_2⟩:=at_T157 HR1.out x5_1 p320 q320
        have hw320_2:=hx320_2
        have hw320_1:=hx320_1
        have hw320_0:=hx320_0
        cases e320
        replace hx320_0:=(HB.out.cell (World.block_lt_of_cell? w _ hx320_0)).trans hx320_0
        replace hx320_1:=(HB.out.cell (World.block_lt_of_cell? w _ hx320_1)).trans hx320_1
        replace hx320_2:=(HB.out.cell (World.block_lt_of_cell? w _ hx320_2)).trans hx320_2
        have HR320_2:=Aside0.mk hi320_2
        have HC320_2:=Aside0.mk hl320_2
        clear hi320_2 hl320_2
        replace p320:=eq_true p320
        replace q320:=eq_true q320
        refine start_ (n:=10) (S:=fun w'=>w'.cell? (ad319.add ((x5_1).toNat * 3))=some (.int .i64 ((rd_T157 l0 x5_1).f0))∧w'.cell? ⟨(ad319.add ((x5_1).toNat * 3)).block,(ad319.add ((x5_1).toNat * 3)).off+1,none⟩=some (.int .i64 ((rd_T157 l0 x5_1).f1))∧w'.cell? ⟨(ad319.add ((x5_1).toNat * 3)).block,(ad319.add ((x5_1).toNat * 3)).off+2,none⟩=some (.slice A319_2 ((rd_T157 l0 x5_1).f2).length c319_2)∧w'.cell? (ad320.add ((x5_1).toNat * 3))=some (.int .i64 ((rd_T157 l1 x5_1).f0))∧w'.cell? ⟨(ad320.add ((x5_1).toNat * 3)).block,(ad320.add ((x5_1).toNat * 3)).off+1,none⟩=some (.int .i64 ((rd_T157 l1 x5_1).f1))∧w'.cell? ⟨(ad320.add ((x5_1).toNat * 3)).block,(ad320.add ((x5_1).toNat * 3)).off+2,none⟩=some (.slice A320_2 ((rd_T157 l1 x5_1).f2).length c320_2)) (ds:=[]) #[false,false,false,false,false,false,false,false,false,false] (by kernel_rfl) rfl rfl ⟨((HB.out.cell (World.block_lt_of_cell? w _ hw319_0)).trans hw319_0),((HB.out.cell (World.block_lt_of_cell? w _ hw319_1)).trans hw319_1),((HB.out.cell (World.block_lt_of_cell? w _ hw319_2)).trans hw319_2),((HB.out.cell (World.block_lt_of_cell? w _ hw320_0)).trans hw320_0),((HB.out.cell (World.block_lt_of_cell? w _ hw320_1)).trans hw320_1),((HB.out.cell (World.block_lt_of_cell? w _ hw320_2)).trans hw320_2)⟩ (fun hHeld => ?_);refine with_tabW laws_eqReachS.tab6 laws_eqReachS.bits6 (fun HT_ HW_ => ?_)
        generalize wr.drew=w11 at HB HR319_2 HR320_2 hx319_0 hx319_1 hx319_2 hx320_0 hx320_1 hx320_2 hHeld ⊢
        refine pure_ (i:=0) (N:=some 17) (v:=?_) (a':=?_) #[true,false,false,false,false,false,false,false,false,false] rfl rfl (any_of HT_.out (by kernel_rfl)) (fun _ _ _ h=>h) (Or.inl ⟨by rfl,?_⟩) ?_ ?_
        rotate_left
        ·intro w'
         go_simp
         with_reducible rfl
        rotate_left
        ·simp only[Act.put,List.setIfInBounds_toArray,List.set_cons_zero,List.set_cons_succ,i64_w,i32_w]
         rfl
        refine pure_ (i:=1) (N:=some 18) (v:=?_) (a':=?_) #[true,true,false,false,false,false,false,false,false,false] rfl rfl (any_of HT_.out (by kernel_rfl)) (fun _ _ _ h=>h) (Or.inl ⟨by rfl,?_⟩) ?_ ?_
        rotate_left
        ·intro w'
         go_simp
         with_reducible rfl
        rotate_left
        ·simp only[Act.put,List.setIfInBounds_toArray,List.set_cons_zero,List.set_cons_succ,i64_w,i32_w]
         rfl
        refine pure_ (i:=2) (N:=some 19) (v:=?_) (a':=?_) #[true,true,true,false,false,false,false,false,false,false] rfl rfl (any_of HT_.out (by kernel_rfl)) (fun _ _ _ h=>h) (Or.inl ⟨by rfl,?_⟩) ?_ ?_
        rotate_left
        ·intro w'
         go_simp
         with_reducible rfl
        rotate_left
        ·simp only[Act.put,List.setIfInBounds_toArray,List.set_cons_zero,List.set_cons_succ,i64_w,i32_w]
         rfl
        refine pure_ (i:=4) (N:=some 21) (v:=?_) (a':=?_) #[true,true,true,false,true,false,false,false,false,false] rfl rfl (any_of HT_.out (by kernel_rfl)) (fun _ _ _ h=>h) (Or.inl ⟨by rfl,?_⟩) ?_ ?_
        rotate_left
        ·intro w'
         go_simp
         with_reducible rfl
        rotate_left
        ·simp only[Act.put,List.setIfInBounds_toArray,List.set_cons_zero,List.set_cons_succ,i64_w,i32_w]
         rfl
        refine pure_ (i:=5) (N:=some 22) (v:=?_) (a':=?_) #[true,true,true,false,true,true,false,false,false,false] rfl rfl (any_of HT_.out (by kernel_rfl)) (fun _ _ _ h=>h) (Or.inl ⟨by rfl,?_⟩) ?_ ?_
        rotate_left
        ·intro w'
         go_simp
         with_reducible rfl
        rotate_left
        ·simp only[Act.put,List.setIfInBounds_toArray,List.set_cons_zero,List.set_cons_succ,i64_w,i32_w]
         rfl
        refine pure_ (i:=6) (N:=some 23) (v:=?_) (a':=?_) #[true,true,true,false,true,true,true,false,false,false] rfl rfl (any_of HT_.out (by kernel_rfl)) (fun _ _ _ h=>h) (Or.inl ⟨by rfl,?_⟩) ?_ ?_
        rotate_left
        ·intro w'
         go_simp
         with_reducible rfl
        rotate_left
        ·simp only[Act.put,List.setIfInBounds_toArray,List.set_cons_zero,List.set_cons_succ,i64_w,i32_w]
         rfl
        refine take_ (i:=3) (N:=some 20) (v:=?_) (a':=?_) #[true,true,true,true,true,true,true,false,false,false] rfl rfl (take_ofW HT_.out HW_.out (by kernel_rfl)) (fun _ _ _ h=>h) (Or.inl ⟨by rfl,?_⟩) hHeld ?_ ?_
        rotate_left
        ·rintro w' ⟨s0,s1,s2,s3,s4,s5⟩
         go_simp
         with_reducible rfl
        rotate_left
        ·simp only[Act.put,List.setIfInBounds_toArray,List.set_cons_zero,List.set_cons_succ,i64_w,i32_w]
         rfl
        refine take_ (i:=7) (N:=some 24) (v:=?_) (a':=?_) #[true,true,true,true,true,true,true,true,false,false] rfl rfl (take_ofW HT_.out HW_.out (by kernel_rfl)) (fun _ _ _ h=>h) (Or.inl ⟨by rfl,?_⟩) hHeld ?_ ?_
        rotate_left
        ·rintro w' ⟨s0,s1,s2,s3,s4,s5⟩
         go_simp
         with_reducible rfl
        rotate_left
        ·simp only[Act.put,List.setIfInBounds_toArray,List.set_cons_zero,List.set_cons_succ,i64_w,i32_w]
         rfl
        refine one_ (i:=8) (N:=some 25) #[true,true,true,true,true,true,true,true,true,false] rfl rfl (one_of HT_.out (by kernel_rfl)) (by decide) (fun K hK => ?_)
        refine goes_ Try.func131 (by kernel_rfl) rfl #[.agg #[.int .i64 ((rd_T157 l0 x5_1).f0),.int .i64 ((rd_T157 l0 x5_1).f1),.slice A319_2 ((rd_T157 l0 x5_1).f2).length c319_2],.agg #[.int .i64 ((rd_T157 l1 x5_1).f0),.int .i64 ((rd_T157 l1 x5_1).f1),.slice A320_2 ((rd_T157 l1 x5_1).f2).length c320_2]] (by rfl) rfl rfl (by(try simp only[List.map_toArray,List.map_cons,List.map_nil]);first|done|rfl|(simp only[List.length_drop,List.length_take];rfl)) ?_
        with_reducible refine(laws_eqReach.calls k1 ((rd_T157 l0 x5_1).f0) ((rd_T157 l0 x5_1).f1) _ _ ((rd_T157 l0 x5_1).f2) ((rd_T157 l1 x5_1).f0) ((rd_T157 l1 x5_1).f1) _ _ ((rd_T157 l1 x5_1).f2) false _ ?side1 ?side2 ?side3 ?side4 A7.out).mono ?_
        (case side1=>exact bC HR319_2.out)
        (case side2=>exact HC319_2.out)
        (case side3=>exact bC HR320_2.out)
        (case side4=>exact HC320_2.out)
        rintro e w12 ⟨rfl,hb⟩
        refine⟨_,rfl,?_⟩
        have n0_:=Aside0.mk (below_step (bB) hb)
        clear HB
        have HB:=n0_
        clear n0_
        (try clear hb)
        (try clear hb2)
        (try clear hk)
        (try clear hi)
        refine hK.out _ _ ⟨((HB.out.cell (World.block_lt_of_cell? w _ hw319_0)).trans hw319_0),((HB.out.cell (World.block_lt_of_cell? w _ hw319_1)).trans hw319_1),((HB.out.cell (World.block_lt_of_cell? w _ hw319_2)).trans hw319_2),((HB.out.cell (World.block_lt_of_cell? w _ hw320_0)).trans hw320_0),((HB.out.cell (World.block_lt_of_cell? w _ hw320_1)).trans hw320_1),((HB.out.cell (World.block_lt_of_cell? w _ hw320_2)).trans hw320_2)⟩ (fun hHeld => ?_)
        clear hK K
        refine norm_ (a':=?_) ?_ ?_
        rotate_left
        ·show Act.put _ (some 25) _=_
         simp only[Act.put,List.setIfInBounds_toArray,List.set_cons_zero,List.set_cons_succ,i64_w,i32_w]
         rfl
        refine pure_ (i:=9) (N:=some 26) (v:=?_) (a':=?_) #[true,true,true,true,true,true,true,true,true,true] rfl rfl (any_of HT_.out (by kernel_rfl)) (fun _ _ _ h=>h) (Or.inl ⟨by rfl,?_⟩) ?_ ?_
        rotate_left
        ·intro w'
         go_simp
         with_reducible rfl
        rotate_left
        ·simp only[Act.put,List.setIfInBounds_toArray,List.set_cons_zero,List.set_cons_succ,i64_w,i32_w]
         rfl
        refine done_ (done_of HT_.out (by kernel_rfl)) ?_
        try go_wp2
        go_ret
        exact⟨bE,bB⟩
      ·rw[if_neg c6] at H
       exact absurd H (by simp)
     ·rw[if_neg c5] at H
      exact absurd H (by simp)
    ·rw[if_neg c4] at H
     have c4b0:decide (x5_1 < (l0.length:Int))=false:=decide_eq_false c4
     clear c4
     obtain rfl:=Option.some.inj H
     go_wp2
     go_ret
     exact⟨bE,bB⟩
 ·rw[if_neg c3] at H
  have c3b0:((l0.length:Int) == (l1.length:Int))=false:=beq_eq_false_iff_ne.mpr c3
  have c3b1:((l0.length:Int) != (l1.length:Int))=true:=bne_iff_ne.mpr c3
  have c3b2:(l0.length == l1.length)=false:=by first|simpa using c3|(simp at c3 ⊢;omega)
  obtain rfl:=Option.some.inj H
  go_enter Try.func68,Try.ntmps68
  go_wp2
  go_ret
  exact⟨bE,bB⟩

/-! ### laws_markReachS: function 69, by hand -/
def laws_markReachS.l0:Nat→List (S157)→Int→Int→Option (Int × (List (S157)))
 | 0,_,_,_=>none
 | k+1,x0,x1,x5=>if x5 < (x0.length:Int) then (if 0≤x5 then ((laws_markIntS.f k (rd_T157 x0 x5).f2 (wrap64 (wrap64 (x1+1)+1))).bind fun bt=>(laws_markReachS.l0 k (x0.set (x5:Int).toNat (⟨x1,wrap64 (x1+1),bt.2⟩:S157)) bt.1 (wrap64 (x5+1)))) else (none)) else (some (x1,x0))
def laws_markReachS.f (k:Nat) (l0:List (S157)) (a1:Int):Option (Int × (List (S157))):=laws_markReachS.l0 k l0 a1 0
theorem laws_markReachS.mono_l : ∀ k,(∀ y0 y1 y2,LeO (laws_markReachS.l0 k y0 y1 y2) (laws_markReachS.l0 (k+1) y0 y1 y2))
 | 0=>fun _ _ _ r h=>by simp[laws_markReachS.l0] at h
 | k+1=>by
  have ih0:=laws_markReachS.mono_l k
  intro y0 y1 y2
  unfold laws_markReachS.l0
  repeat' first
  | exact ih0 _ _ _
  | exact laws_markIntS.mono _ _ _
  | exact LeO.refl _
  | exact LeO.none _
  | refine LeO.ite ?_ ?_
  | refine LeO.bind ?_ (fun _ => ?_)
theorem laws_markReachS.mono : ∀ a0 a1 k,LeO (laws_markReachS.f k a0 a1) (laws_markReachS.f (k+1) a0 a1):=fun a0 a1 k=>laws_markReachS.mono_l k a0 a1 0
/-! HAND: the walk. -/
/-- Element i of a row of reaches: two of its cells are stored into, then its own row is written. -/
theorem markR_step {W:World} {base:Nat} {ok:Nat→Prop} {g n cap:Nat} {xs:List S157} (h:Kd.S k157 157 W base ok (.slice (some ⟨g,0,none⟩) n cap) xs) (i:Int) (h0:0≤i) (h1:i < n) (a b:Int) :
  ∃ v,(∃ u0 u1,W.cell? ⟨g,i.toNat * 3,none⟩=some u0∧W.cell? ⟨g,i.toNat * 3+1,none⟩=some u1∧W.frozen? ⟨g,i.toNat * 3,none⟩=false∧W.frozen? ⟨g,i.toNat * 3+1,none⟩=false) ∧
   W.cell? ⟨g,i.toNat * 3+2,none⟩=some v ∧
   Kd.R (Kd.int .i64) 3 ((W.setCell ⟨g,i.toNat * 3,none⟩ (.int .i64 a)).setCell ⟨g,i.toNat * 3+1,none⟩ (.int .i64 b)) base (fun k=>some k=v.ownBlock) v (rd_T157 xs i).f2∧(∀ k,v.ownBlock=some k→ok k) ∧
   ∀ (W1:World) (ys:List Int),((W.setCell ⟨g,i.toNat * 3,none⟩ (.int .i64 a)).setCell ⟨g,i.toNat * 3+1,none⟩ (.int .i64 b)).grownBy W1 v.ownBlock→(∃ ok1,Kd.R (Kd.int .i64) 3 W1 base ok1 v ys) →
    Kd.S k157 157 W1 base ok (.slice (some ⟨g,0,none⟩) n cap) (xs.set i.toNat ⟨a,b,ys⟩):=by
 obtain⟨oki,c,hcl,hM,hcc,hfr,hok,hH⟩:=Kd.S_elem h z157 i h0 h1
 have hn:=(Kd.S_reads' h).1
 obtain⟨v,rfl,hv⟩:=k157_openM hM
 have hS1:=(Kd.S_seg0 hH h0 h1 (seg:=[.int .i64 a,.int .i64 b]) (j:=0) (show 2≤3 by decide) (x':=(⟨a,b,(rd_T157 xs i).f2⟩:S157)) (k157_mkM W base oki (⟨a,b,(rd_T157 xs i).f2⟩:S157) hv) (fun _ hk=>hk)).1
 have hS2:Kd.S k157 157 ((W.setCell ⟨g,i.toNat * 3,none⟩ (.int .i64 a)).setCell ⟨g,i.toNat * 3+1,none⟩ (.int .i64 b)) base ok (.slice (some ⟨g,0,none⟩) n cap) (xs.set i.toNat ⟨a,b,(rd_T157 xs i).f2⟩):=hS1
 obtain⟨oki',c',hcl',hM',hcc',hfr',hok',hH'⟩:=Kd.S_elem hS2 z157 i h0 h1
 have e:(xs.set i.toNat (⟨a,b,(rd_T157 xs i).f2⟩:S157)).getD i.toNat z157=⟨a,b,(rd_T157 xs i).f2⟩:=by
  rw[List.getD_eq_getElem?_getD,List.getElem?_set_self (by omega)]
  rfl
 rw[e] at hM'
 obtain⟨v',rfl,hv'⟩:=k157_openM hM'
 have hc2:=hcc' 2 _ rfl
 have hc0:W.cell? ⟨g,i.toNat * 3+2,none⟩=some v:=hcc 2 _ rfl
 have ev:v'=v:=by
  have h3:((W.setCell ⟨g,i.toNat * 3,none⟩ (.int .i64 a)).setCell ⟨g,i.toNat * 3+1,none⟩ (.int .i64 b)).cell? ⟨g,i.toNat * 3+2,none⟩=some v:=by
   rw[World.cell?_setCell_other _ _ _ _ (by intro q;injection q with _ q2;omega),World.cell?_setCell_other _ _ _ _ (by intro q;injection q with _ q2;omega)]
   exact hc0
  have h4:((W.setCell ⟨g,i.toNat * 3,none⟩ (.int .i64 a)).setCell ⟨g,i.toNat * 3+1,none⟩ (.int .i64 b)).cell? ⟨g,i.toNat * 3+2,none⟩=some v':=hc2
  rw[h3] at h4
  injection h4 with h4
  exact h4.symm
 subst ev
 refine⟨v',⟨_,_,hcc 0 _ rfl,hcc 1 _ rfl,hfr 0,hfr 1⟩,hc0,Kd.R_tight rfl hv',fun k hk=>(hok' k (hv'.1 k hk)).1,fun W1 ys hg hy => ?_⟩
 obtain⟨ok1,hy⟩:=hy
 have hS3:=Kd.H_back (Kd.H_grown hH' hg (fun k e=>hv'.1 k e)) (k157_mkM W1 base oki' (⟨a,b,ys⟩:S157) (Kd.R_reok rfl hy hv'.1)) (fun _ hk=>hk)
 rw[List.set_set] at hS3
 exact hS3
theorem apart_made {α:Type} {d:Kd α} {e b:Nat} {ok ok2:Nat→Prop} {wP w1:World} {u v:Value} {xs ys:List α} {g:Nat} {o:Obj} (hb:Below wP.heap.size wP w1) (h1:Kd.S d e wP b ok u xs) (h2:Kd.S d e w1 wP.heap.size ok2 v ys) (hg:wP.heap[g]?=some o) :
  ∃ AP1 AP2:Nat→Prop,(∀ k,AP1 k→AP2 k→False) ∧ ¬ AP2 g∧Kd.S d e w1 b (fun k=>ok k∧AP1 k) u xs∧Kd.S d e w1 wP.heap.size (fun k=>ok2 k∧AP2 k) v ys :=
 ⟨fun k=>k < wP.heap.size,fun k=>wP.heap.size≤k,fun _ h1 h2=>Nat.not_lt.2 h2 h1,fun h=>Nat.not_lt.2 h (blk_lt hg),Kd.S_old h1 hb,Kd.S_mono (Kd.S_bound h2) (fun _ hk=>⟨hk.1,hk.2.1⟩)⟩
theorem grown_of_keptR {w0 W W1:World} {row:Option Nat} (h0:Below w0.heap.size w0 W) (h1:Below w0.heap.size w0 W1) (hk:Kept W W1 (fun k=>some k=row)):W.grownBy W1 row :=
 ⟨h1.os.trans h0.os.symm,h1.tape.trans h0.tape.symm,h1.output.trans h0.output.symm,hk.1,fun k hk2 hne=>hk.2 k hk2 hne⟩
set_option maxHeartbeats 8000000 in
set_option maxRecDepth 100000 in
theorem laws_markReachS.calls (k:Nat) (P0_:Nat→Prop) (u9000_:Value) (l0:List (S157)) (a1:Int) (r1:Int) (r2:List (S157)) (w0 w:World) (hB:Below w0.heap.size w0 w) (ho0:Kd.S k157 157 w w0.heap.size P0_ u9000_ l0) (h:laws_markReachS.f k l0 a1=some (r1,r2)) :
  Calls Try.prog 69 #[u9000_,.int .i64 a1] w fun e w'=>e=.returned (.int .i64 r1)∧Kd.S k157 157 w' w0.heap.size (fun k_=>P0_ k_) u9000_ r2∧Below w0.heap.size w0 w'∧Kept w w' (fun k_=>P0_ k_):=by
 have HO0:=Aside0.mk ho0
 have HB:=Aside0.mk hB
 have HK:=Aside0.mk (Kept.refl w P0_)
 clear hB ho0
 have H:(laws_markReachS.l0 k l0 a1 0)=some (r1,r2):=h
 clear h
 have H':=Aside0.mk H
 clear H
 go_enter Try.func69,Try.ntmps69
 go_wp2
 go_loopg [1,5] k (fun kq v1 v5 w' => ∃ (x0_1:List (S157)) (x1_1:Int) (x5_1:Int),v1=.int .i64 x1_1∧v5=.int .i64 x5_1∧Aside0 (laws_markReachS.l0 kq x0_1 x1_1 x5_1=some (r1,r2))∧Aside0 (kq≤k)∧Aside0 (Kd.S k157 157 w' w0.heap.size P0_ u9000_ x0_1)∧Aside0 (Kept w w' P0_)∧Aside0 (Below w0.heap.size w0 w'))
 case atStart=>exact⟨(l0),(a1),(0),(bR),(bR),H',⟨Nat.le_refl _⟩,⟨by(with_reducible repeat (first|apply Kd.S_alloc|apply Kd.S_drewN|apply Kd.S_drew));exact HO0.out⟩,⟨by repeat (first|(with_reducible first|exact HK.out|apply Kept.alloc|apply Kept.drewN|apply Kept.drew)|exact HK.out)⟩,⟨by repeat (first|(with_reducible first|exact HB.out|apply below_alloc|apply pw_below_drewN|apply below_drew1)|exact HB.out)⟩⟩
 case round =>
  clear H'
  try clear p2
  obtain⟨x0_1,x1_1,x5_1,rfl,rfl,HA,HK1,HO_0,HK,HB⟩:=hrel
  cases gk with
  | zero=>exact absurd HA.out (by simp[laws_markReachS.l0])
  | succ k1 =>
   have H:=HA.out
   clear HA
   simp only[laws_markReachS.l0] at H
   by_cases c3:x5_1 < (x0_1.length:Int)
   ·rw[if_pos c3] at H
    have c3b0:decide (x5_1 < (x0_1.length:Int))=true:=decide_eq_true c3
    clear c3
    by_cases c4:0≤x5_1
    ·rw[if_pos c4] at H
     have c4b0:decide (0≤x5_1)=true:=decide_eq_true c4
     clear c4
     replace H:=Option.bind_eq_some_iff.mp H
     obtain⟨⟨t1,t2⟩,A50,H⟩:=H
     have A5:=Aside0.mk A50
     clear A50
     have H':=Aside0.mk H
     clear H
     obtain⟨Ao6,co6,eo6⟩:=Kd.S_slice HO_0.out
     subst eo6
     have p5:0≤(x5_1:Int):=of_decide_eq_true (bD)
     have q5:(x5_1:Int) < ((x0_1.length:Int):Int):=of_decide_eq_true (bD)
     obtain⟨go5,co5,eo5,gb5,gl5,cl5,HG5⟩:=Kd.S_form HO_0.out (by omega)
     (first|cases eo5|(injection eo5 with ea_ en_ ec_;(first|subst ea_|(injection ea_ with ea_;subst ea_));subst ec_;clear en_))
     have GB5:=Aside0.mk gb5
     clear gb5 gl5 HG5
     have HG5:Aside0 (P0_ go5):=Aside0.mk ((Kd.S_R HO_0.out).1 _ rfl)
     obtain⟨vi,⟨u0_,u1_,hx5_0,hx5_1,hf5_0,hf5_1⟩,hx5_2,hR5,hok5,hst5⟩:=markR_step HO_0.out (x5_1:Int) p5 q5 x1_1 (wrap64 (x1_1+1))
     obtain⟨Ai,ci,ei⟩:=Kd.R_slice hR5
     subst ei
     have HR5:=Aside0.mk hR5
     have HS5:=Aside0.mk hst5
     have HOK5:=Aside0.mk hok5
     clear hR5 hst5 hok5
     replace p5:=eq_true p5
     replace q5:=eq_true q5
     go_wp2_with (first|((with_reducible refine gate_callee (f:=29) rfl ?_);refine goesA (some 32) rfl rfl Try.func29 #[.slice Ai (rd_T157 x0_1 x5_1).f2.length ci,.int .i64 (wrap64 (wrap64 (x1_1+1)+1))] rfl ?_;(with_reducible refine(laws_markIntS.calls k1 (fun k_=>some k_=(.slice Ai (rd_T157 x0_1 x5_1).f2.length ci:Value).ownBlock) (.slice Ai (rd_T157 x0_1 x5_1).f2.length ci) (rd_T157 x0_1 x5_1).f2 (wrap64 (wrap64 (x1_1+1)+1)) t1 t2 w0 _ ?side1 ?side2 A5.out).mono ?_);(case side1=>exact below_set (below_set HB.out GB5.out) GB5.out);(case side2=>exact HR5.out);rintro e w12 ⟨rfl,hy,hb,hkp⟩;refine⟨_,rfl,?_⟩;have n2_:=Aside0.mk (HS5.out w12 t2 (grown_of_keptR (below_set (below_set HB.out GB5.out) GB5.out) hb hkp) ⟨_,hy⟩);have n0_:=Aside0.mk hb;have n1_:Aside0 (Kept w w12 P0_):=Aside0.mk (Kept.then_ (Kept.setCell (Kept.setCell HK.out (.inl HG5.out) _) (.inl HG5.out) _) hkp (fun k_ hk_=>.inl (HOK5.out k_ hk_.symm)));clear HB HK hb hkp;have HB:=n0_;have HK:=n1_;have HO_0:=n2_;clear n0_ n1_ n2_ hy))
     go_roundg k1
     case measure=>have:=HK1.out;omega
     case rel=>exact⟨_,t1,(wrap64 (x5_1+1)),(bR),(bR),H',⟨by have:=HK1.out;omega⟩,HO_0,HK,HB⟩
    ·rw[if_neg c4] at H
     exact absurd H (by simp)
   ·rw[if_neg c3] at H
    have c3b0:decide (x5_1 < (x0_1.length:Int))=false:=decide_eq_false c3
    clear c3
    simp only[Option.some.injEq,Prod.mk.injEq] at H
    obtain⟨rfl,rfl⟩:=H
    obtain⟨Ao9,co9,eo9⟩:=Kd.S_slice HO_0.out
    subst eo9
    go_wp2
    go_ret
    exact⟨bE,by(with_reducible repeat (first|apply Kd.S_alloc|apply Kd.S_drewN|apply Kd.S_drew));exact HO_0.out,by repeat (first|(with_reducible first|exact HB.out|apply below_alloc|apply pw_below_drewN|apply below_drew1)|exact HB.out),by repeat (first|(with_reducible first|exact HK.out|apply Kept.alloc|apply Kept.drewN|apply Kept.drew)|exact HK.out)⟩


/-! ### laws_heldIntS: function 30 -/
def laws_heldIntS.l0:Nat→List Int→Int→Int→Option (Int)
 | 0,_,_,_=>none
 | k+1,x0,x1,x5=>if x5 < (x0.length:Int) then (if 0≤x5 then (if (rd x0 x5)=x1 then (laws_heldIntS.l0 k x0 (wrap64 (x1+1)) (wrap64 (x5+1))) else (some (-1))) else (none)) else (some x1)
def laws_heldIntS.f (k:Nat) (l0:List Int) (a1:Int):Option (Int):=laws_heldIntS.l0 k l0 a1 0
theorem laws_heldIntS.mono_l : ∀ k,(∀ y0 y1 y2,LeO (laws_heldIntS.l0 k y0 y1 y2) (laws_heldIntS.l0 (k+1) y0 y1 y2))
 | 0=>fun _ _ _ r h=>by simp[laws_heldIntS.l0] at h
 | k+1=>by
  have ih0:=laws_heldIntS.mono_l k
  ·intro y0 y1 y2
   unfold laws_heldIntS.l0
   repeat' first
   | (with_reducible exact ih0 _ _ _)
   | (with_reducible exact LeO.refl _)
   | (with_reducible exact LeO.none _)
   | (with_reducible refine LeO.ite ?_ ?_)
   | (with_reducible refine LeO.bind ?_ (fun _ => ?_))
   | exact ih0 _ _ _
   | exact LeO.none _
   | refine LeO.ite ?_ ?_
   | refine LeO.bind ?_ (fun _ => ?_)
theorem laws_heldIntS.mono : ∀ a0 a1 k,LeO (laws_heldIntS.f k a0 a1) (laws_heldIntS.f (k+1) a0 a1):=by
 intro a0 a1 k
 have ih0:=laws_heldIntS.mono_l k
 unfold laws_heldIntS.f
 repeat' first
  | (with_reducible exact ih0 _ _ _)
  | (with_reducible exact LeO.refl _)
  | (with_reducible exact LeO.none _)
  | (with_reducible refine LeO.ite ?_ ?_)
  | (with_reducible refine LeO.bind ?_ (fun _ => ?_))
  | exact ih0 _ _ _
  | exact LeO.none _
  | refine LeO.ite ?_ ?_
  | refine LeO.bind ?_ (fun _ => ?_)
set_option maxHeartbeats 8000000 in
set_option maxRecDepth 100000 in
theorem laws_heldIntS.calls (k:Nat) (A0:Option Addr) (c0:Nat) (l0:List Int) (a1:Int) (r:Int) (w:World) (hr0:Kd.C (Kd.int .i64) w A0 l0.length l0) (hc0:l0.length≤c0) (h:laws_heldIntS.f k l0 a1=some r) :
  Calls Try.prog 30 #[.slice A0 l0.length c0,.int .i64 a1] w fun e w'=>e=.returned (.int .i64 r)∧Drawn0 w w':=by
 have HR0:=Aside0.mk hr0
 have HC0:=Aside0.mk hc0
 clear hr0 hc0
 have H:(laws_heldIntS.l0 k l0 a1 0)=some r:=h
 clear h
 have H':=Aside0.mk H
 clear H
 go_enter Try.func30,Try.ntmps30
 go_wp2
 go_loopg [1,5] k (fun kq v1 v5 w' => ∃ (x1_1:Int) (x5_1:Int),v1=.int .i64 x1_1∧v5=.int .i64 x5_1∧Aside0 (laws_heldIntS.l0 kq l0 x1_1 x5_1=some r)∧Aside0 (kq≤k)∧Drawn0 w w')
 case atStart=>exact⟨(a1),(0),(bR),(bR),H',⟨Nat.le_refl _⟩,bW⟩
 case round =>
  clear H'
  try clear p2
  obtain⟨x1_1,x5_1,rfl,rfl,HA,HK1,⟨m1,rfl⟩⟩:=hrel
  cases gk with
  | zero=>exact absurd HA.out (by simp[laws_heldIntS.l0])
  | succ k1 =>
   have H:=HA.out
   clear HA
   simp only[laws_heldIntS.l0] at H
   by_cases c3:x5_1 < (l0.length:Int)
   ·rw[if_pos c3] at H
    have c3b0:decide (x5_1 < (l0.length:Int))=true:=decide_eq_true c3
    clear c3
    by_cases c4:0≤x5_1
    ·rw[if_pos c4] at H
     have c4b0:decide (0≤x5_1)=true:=decide_eq_true c4
     clear c4
     by_cases c5:(rd l0 x5_1)=x1_1
     ·rw[if_pos c5] at H
      have c5b0:((rd l0 x5_1) == x1_1)=true:=beq_iff_eq.mpr c5
      have c5b1:((rd l0 x5_1) != x1_1)=false:=bne_eq_false_iff_eq.mpr c5
      clear c5
      have H':=Aside0.mk H
      clear H
      have p322:0≤(x5_1:Int):=of_decide_eq_true (bD)
      have q322:x5_1 < (l0.length:Int):=of_decide_eq_true (bD)
      obtain⟨ad322,e322,hx322_0⟩:=Kd.at_int HR0.out x5_1 p322 q322
      cases e322
      replace p322:=eq_true p322
      replace q322:=eq_true q322
      go_wp2
      go_roundg k1
      case measure=>have:=HK1.out;omega
      case rel=>exact⟨(wrap64 (x1_1+1)),(wrap64 (x5_1+1)),(bR),(bR),H',⟨by have:=HK1.out;omega⟩,bW⟩
     ·rw[if_neg c5] at H
      have c5b0:((rd l0 x5_1) == x1_1)=false:=beq_eq_false_iff_ne.mpr c5
      have c5b1:((rd l0 x5_1) != x1_1)=true:=bne_iff_ne.mpr c5
      obtain rfl:=Option.some.inj H
      have p322:0≤(x5_1:Int):=of_decide_eq_true (bD)
      have q322:x5_1 < (l0.length:Int):=of_decide_eq_true (bD)
      obtain⟨ad322,e322,hx322_0⟩:=Kd.at_int HR0.out x5_1 p322 q322
      cases e322
      replace p322:=eq_true p322
      replace q322:=eq_true q322
      go_wp2
      go_ret
      exact⟨bR,bW⟩
    ·rw[if_neg c4] at H
     exact absurd H (by simp)
   ·rw[if_neg c3] at H
    have c3b0:decide (x5_1 < (l0.length:Int))=false:=decide_eq_false c3
    clear c3
    obtain rfl:=Option.some.inj H
    go_wp2
    go_ret
    exact⟨bR,bW⟩

/-! ### laws_heldReachS: function 70 -/
def laws_heldReachS.l0:Nat→List (S157)→Int→Int→Option (Int)
 | 0,_,_,_=>none
 | k+1,x0,x1,x5=>if x5 < (x0.length:Int) then (if 0≤x5 then (if ((rd_T157 x0 x5).f0)=x1 then (if ((rd_T157 x0 x5).f1)=(wrap64 (x1+1)) then ((laws_heldIntS.f k ((rd_T157 x0 x5).f2) (wrap64 ((wrap64 (x1+1))+1))).bind fun t326=>(if t326 < 0 then (some (-1)) else (laws_heldReachS.l0 k x0 t326 (wrap64 (x5+1))))) else (some (-1))) else (some (-1))) else (none)) else (some x1)
def laws_heldReachS.f (k:Nat) (l0:List (S157)) (a1:Int):Option (Int):=laws_heldReachS.l0 k l0 a1 0
theorem laws_heldReachS.mono_l : ∀ k,(∀ y0 y1 y2,LeO (laws_heldReachS.l0 k y0 y1 y2) (laws_heldReachS.l0 (k+1) y0 y1 y2))
 | 0=>fun _ _ _ r h=>by simp[laws_heldReachS.l0] at h
 | k+1=>by
  have ih0:=laws_heldReachS.mono_l k
  ·intro y0 y1 y2
   unfold laws_heldReachS.l0
   repeat' first
   | (with_reducible exact ih0 _ _ _)
   | (with_reducible exact laws_heldIntS.mono _ _ _)
   | (with_reducible exact LeO.refl _)
   | (with_reducible exact LeO.none _)
   | (with_reducible refine LeO.ite ?_ ?_)
   | (with_reducible refine LeO.bind ?_ (fun _ => ?_))
   | exact ih0 _ _ _
   | exact laws_heldIntS.mono _ _ _
   | exact LeO.none _
   | refine LeO.ite ?_ ?_
   | refine LeO.bind ?_ (fun _ => ?_)
theorem laws_heldReachS.mono : ∀ a0 a1 k,LeO (laws_heldReachS.f k a0 a1) (laws_heldReachS.f (k+1) a0 a1):=by
 intro a0 a1 k
 have ih0:=laws_heldReachS.mono_l k
 unfold laws_heldReachS.f
 repeat' first
  | (with_reducible exact ih0 _ _ _)
  | (with_reducible exact laws_heldIntS.mono _ _ _)
  | (with_reducible exact LeO.refl _)
  | (with_reducible exact LeO.none _)
  | (with_reducible refine LeO.ite ?_ ?_)
  | (with_reducible refine LeO.bind ?_ (fun _ => ?_))
  | exact ih0 _ _ _
  | exact laws_heldIntS.mono _ _ _
  | exact LeO.none _
  | refine LeO.ite ?_ ?_
  | refine LeO.bind ?_ (fun _ => ?_)
set_option maxHeartbeats 8000000 in
set_option maxRecDepth 100000 in
theorem laws_heldReachS.calls (k:Nat) (A0:Option Addr) (c0:Nat) (l0:List (S157)) (a1:Int) (r:Int) (w:World) (hr0:Kd.C k157 w A0 l0.length l0) (hc0:l0.length≤c0) (h:laws_heldReachS.f k l0 a1=some r) :
  Calls Try.prog 70 #[.slice A0 l0.length c0,.int .i64 a1] w fun e w'=>e=.returned (.int .i64 r)∧Drawn0 w w':=by
 have HR0:=Aside0.mk hr0
 have HC0:=Aside0.mk hc0
 clear hr0 hc0
 have H:(laws_heldReachS.l0 k l0 a1 0)=some r:=h
 clear h
 have H':=Aside0.mk H
 clear H
 go_enter Try.func70,Try.ntmps70
 go_wp2
 go_loopg [1,5] k (fun kq v1 v5 w' => ∃ (x1_1:Int) (x5_1:Int),v1=.int .i64 x1_1∧v5=.int .i64 x5_1∧Aside0 (laws_heldReachS.l0 kq l0 x1_1 x5_1=some r)∧Aside0 (kq≤k)∧Drawn0 w w')
 case atStart=>exact⟨(a1),(0),(bR),(bR),H',⟨Nat.le_refl _⟩,bW⟩
 case round =>
  clear H'
  try clear p2
  obtain⟨x1_1,x5_1,rfl,rfl,HA,HK1,⟨m1,rfl⟩⟩:=hrel
  cases gk with
  | zero=>exact absurd HA.out (by simp[laws_heldReachS.l0])
  | succ k1 =>
   have H:=HA.out
   clear HA
   simp only[laws_heldReachS.l0] at H
   by_cases c3:x5_1 < (l0.length:Int)
   ·rw[if_pos c3] at H
    have c3b0:decide (x5_1 < (l0.length:Int))=true:=decide_eq_true c3
    clear c3
    by_cases c4:0≤x5_1
    ·rw[if_pos c4] at H
     have c4b0:decide (0≤x5_1)=true:=decide_eq_true c4
     clear c4
     by_cases c5:((rd_T157 l0 x5_1).f0)=x1_1
     ·rw[if_pos c5] at H
      have c5b0:(((rd_T157 l0 x5_1).f0) == x1_1)=true:=beq_iff_eq.mpr c5
      have c5b1:(((rd_T157 l0 x5_1).f0) != x1_1)=false:=bne_eq_false_iff_eq.mpr c5
      clear c5
      by_cases c6:((rd_T157 l0 x5_1).f1)=(wrap64 (x1_1+1))
      ·rw[if_pos c6] at H
       have c6b0:(((rd_T157 l0 x5_1).f1) == (wrap64 (x1_1+1)))=true:=beq_iff_eq.mpr c6
       have c6b1:(((rd_T157 l0 x5_1).f1) != (wrap64 (x1_1+1)))=false:=bne_eq_false_iff_eq.mpr c6
       clear c6
       replace H:=Option.bind_eq_some_iff.mp H
       obtain⟨t326,A70,H⟩:=H
       have A7:=Aside0.mk A70
       clear A70
       by_cases c8:t326 < 0
       ·rw[if_pos c8] at H
        have c8b0:decide (t326 < 0)=true:=decide_eq_true c8
        clear c8
        obtain rfl:=Option.some.inj H
        have p323:0≤(x5_1:Int):=of_decide_eq_true (bD)
        have q323:x5_1 < (l0.length:Int):=of_decide_eq_true (bD)
        obtain⟨ad323,A323_2,c323_2,e323,hx323_0,hx323_1,hx323_2,hl323_2,hi323_2⟩:=at_T157 HR0.out x5_1 p323 q323
        cases e323
        have HR323_2:=Aside0.mk hi323_2
        have HC323_2:=Aside0.mk hl323_2
        clear hi323_2 hl323_2
        replace p323:=eq_true p323
        replace q323:=eq_true q323
        have p324:0≤(x5_1:Int):=of_decide_eq_true (bD)
        have q324:x5_1 < (l0.length:Int):=of_decide_eq_true (bD)
        obtain⟨ad324,A324_2,c324_2,e324,hx324_0,hx324_1,hx324_2,hl324_2,hi324_2⟩:=at_T157 HR0.out x5_1 p324 q324
        obtain rfl:ad323=ad324:=(by injection e324)
        have HR324_2:=Aside0.mk hi324_2
        have HC324_2:=Aside0.mk hl324_2
        clear hi324_2 hl324_2
        replace p324:=eq_true p324
        replace q324:=eq_true q324
        have ea_:=Option.some.inj (hx323_2.symm.trans hx324_2)
        injection ea_ with ea_ en_ ec_
        subst ea_
        subst ec_
        clear en_
        have p325:0≤(x5_1:Int):=of_decide_eq_true (bD)
        have q325:x5_1 < (l0.length:Int):=of_decide_eq_true (bD)
        obtain⟨ad325,A325_2,c325_2,e325,hx325_0,hx325_1,hx325_2,hl325_2,hi325_2⟩:=at_T157 HR0.out x5_1 p325 q325
        obtain rfl:ad323=ad325:=(by injection e325)
        have HR325_2:=Aside0.mk hi325_2
        have HC325_2:=Aside0.mk hl325_2
        clear hi325_2 hl325_2
        replace p325:=eq_true p325
        replace q325:=eq_true q325
        have ea_:=Option.some.inj (hx323_2.symm.trans hx325_2)
        injection ea_ with ea_ en_ ec_
        subst ea_
        subst ec_
        clear en_
        go_wp2_with (first|((with_reducible refine gate_callee (f:=30) rfl ?_);refine goesA (some 36) rfl rfl Try.func30 #[.slice A323_2 ((rd_T157 l0 x5_1).f2).length c323_2,.int .i64 (wrap64 ((wrap64 (x1_1+1))+1))] rfl ?_;(with_reducible refine(laws_heldIntS.calls k1 _ _ ((rd_T157 l0 x5_1).f2) (wrap64 ((wrap64 (x1_1+1))+1)) t326 _ ?side1 ?side2 A7.out).mono ?_);(case side1=>repeat (first|exact HR325_2.out|(with_reducible refine Kd.C_alloc ?_ _)|(with_reducible refine Kd.C_drewN ?_ _)|(with_reducible refine Kd.C_drew ?_)));(case side2=>exact HC325_2.out);rintro e w' ⟨rfl,⟨nd,rfl⟩⟩;refine⟨_,rfl,?_⟩))
        go_ret
        exact⟨bR,bW⟩
       ·rw[if_neg c8] at H
        have c8b0:decide (t326 < 0)=false:=decide_eq_false c8
        clear c8
        have H':=Aside0.mk H
        clear H
        have p323:0≤(x5_1:Int):=of_decide_eq_true (bD)
        have q323:x5_1 < (l0.length:Int):=of_decide_eq_true (bD)
        obtain⟨ad323,A323_2,c323_2,e323,hx323_0,hx323_1,hx323_2,hl323_2,hi323_2⟩:=at_T157 HR0.out x5_1 p323 q323
        cases e323
        have HR323_2:=Aside0.mk hi323_2
        have HC323_2:=Aside0.mk hl323_2
        clear hi323_2 hl323_2
        replace p323:=eq_true p323
        replace q323:=eq_true q323
        have p324:0≤(x5_1:Int):=of_decide_eq_true (bD)
        have q324:x5_1 < (l0.length:Int):=of_decide_eq_true (bD)
        obtain⟨ad324,A324_2,c324_2,e324,hx324_0,hx324_1,hx324_2,hl324_2,hi324_2⟩:=at_T157 HR0.out x5_1 p324 q324
        obtain rfl:ad323=ad324:=(by injection e324)
        have HR324_2:=Aside0.mk hi324_2
        have HC324_2:=Aside0.mk hl324_2
        clear hi324_2 hl324_2
        replace p324:=eq_true p324
        replace q324:=eq_true q324
        have ea_:=Option.some.inj (hx323_2.symm.trans hx324_2)
        injection ea_ with ea_ en_ ec_
        subst ea_
        subst ec_
        clear en_
        have p325:0≤(x5_1:Int):=of_decide_eq_true (bD)
        have q325:x5_1 < (l0.length:Int):=of_decide_eq_true (bD)
        obtain⟨ad325,A325_2,c325_2,e325,hx325_0,hx325_1,hx325_2,hl325_2,hi325_2⟩:=at_T157 HR0.out x5_1 p325 q325
        obtain rfl:ad323=ad325:=(by injection e325)
        have HR325_2:=Aside0.mk hi325_2
        have HC325_2:=Aside0.mk hl325_2
        clear hi325_2 hl325_2
        replace p325:=eq_true p325
        replace q325:=eq_true q325
        have ea_:=Option.some.inj (hx323_2.symm.trans hx325_2)
        injection ea_ with ea_ en_ ec_
        subst ea_
        subst ec_
        clear en_
        go_wp2_with (first|((with_reducible refine gate_callee (f:=30) rfl ?_);refine goesA (some 36) rfl rfl Try.func30 #[.slice A323_2 ((rd_T157 l0 x5_1).f2).length c323_2,.int .i64 (wrap64 ((wrap64 (x1_1+1))+1))] rfl ?_;(with_reducible refine(laws_heldIntS.calls k1 _ _ ((rd_T157 l0 x5_1).f2) (wrap64 ((wrap64 (x1_1+1))+1)) t326 _ ?side1 ?side2 A7.out).mono ?_);(case side1=>repeat (first|exact HR325_2.out|(with_reducible refine Kd.C_alloc ?_ _)|(with_reducible refine Kd.C_drewN ?_ _)|(with_reducible refine Kd.C_drew ?_)));(case side2=>exact HC325_2.out);rintro e w' ⟨rfl,⟨nd,rfl⟩⟩;refine⟨_,rfl,?_⟩))
        go_roundg k1
        case measure=>have:=HK1.out;omega
        case rel=>exact⟨(t326),(wrap64 (x5_1+1)),(bR),(bR),H',⟨by have:=HK1.out;omega⟩,bW⟩
      ·rw[if_neg c6] at H
       have c6b0:(((rd_T157 l0 x5_1).f1) == (wrap64 (x1_1+1)))=false:=beq_eq_false_iff_ne.mpr c6
       have c6b1:(((rd_T157 l0 x5_1).f1) != (wrap64 (x1_1+1)))=true:=bne_iff_ne.mpr c6
       obtain rfl:=Option.some.inj H
       have p323:0≤(x5_1:Int):=of_decide_eq_true (bD)
       have q323:x5_1 < (l0.length:Int):=of_decide_eq_true (bD)
       obtain⟨ad323,A323_2,c323_2,e323,hx323_0,hx323_1,hx323_2,hl323_2,hi323_2⟩:=at_T157 HR0.out x5_1 p323 q323
       cases e323
       have HR323_2:=Aside0.mk hi323_2
       have HC323_2:=Aside0.mk hl323_2
       clear hi323_2 hl323_2
       replace p323:=eq_true p323
       replace q323:=eq_true q323
       have p324:0≤(x5_1:Int):=of_decide_eq_true (bD)
       have q324:x5_1 < (l0.length:Int):=of_decide_eq_true (bD)
       obtain⟨ad324,A324_2,c324_2,e324,hx324_0,hx324_1,hx324_2,hl324_2,hi324_2⟩:=at_T157 HR0.out x5_1 p324 q324
       obtain rfl:ad323=ad324:=(by injection e324)
       have HR324_2:=Aside0.mk hi324_2
       have HC324_2:=Aside0.mk hl324_2
       clear hi324_2 hl324_2
       replace p324:=eq_true p324
       replace q324:=eq_true q324
       have ea_:=Option.some.inj (hx323_2.symm.trans hx324_2)
       injection ea_ with ea_ en_ ec_
       subst ea_
       subst ec_
       clear en_
       go_wp2
       go_ret
       exact⟨bR,bW⟩
     ·rw[if_neg c5] at H
      have c5b0:(((rd_T157 l0 x5_1).f0) == x1_1)=false:=beq_eq_false_iff_ne.mpr c5
      have c5b1:(((rd_T157 l0 x5_1).f0) != x1_1)=true:=bne_iff_ne.mpr c5
      obtain rfl:=Option.some.inj H
      have p323:0≤(x5_1:Int):=of_decide_eq_true (bD)
      have q323:x5_1 < (l0.length:Int):=of_decide_eq_true (bD)
      obtain⟨ad323,A323_2,c323_2,e323,hx323_0,hx323_1,hx323_2,hl323_2,hi323_2⟩:=at_T157 HR0.out x5_1 p323 q323
      cases e323
      have HR323_2:=Aside0.mk hi323_2
      have HC323_2:=Aside0.mk hl323_2
      clear hi323_2 hl323_2
      replace p323:=eq_true p323
      replace q323:=eq_true q323
      go_wp2
      go_ret
      exact⟨bR,bW⟩
    ·rw[if_neg c4] at H
     exact absurd H (by simp)
   ·rw[if_neg c3] at H
    have c3b0:decide (x5_1 < (l0.length:Int))=false:=decide_eq_false c3
    clear c3
    obtain rfl:=Option.some.inj H
    go_wp2
    go_ret
    exact⟨bR,bW⟩

end Go.Proofs.Yteneeohaoplpbaa.XFnExactReachAll
