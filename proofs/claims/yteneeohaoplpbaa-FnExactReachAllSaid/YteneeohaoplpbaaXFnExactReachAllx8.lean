-- Written by this session's own program (wip/xprint.py) out of the translation; Lean checks it.
import Derived.Test.YteneeohaoplpbaaXFnExactReachAllx0
import Derived.Test.YteneeohaoplpbaaXFnExactReachAllx5
import Derived.Test.YteneeohaoplpbaaXFnExactReachAllx6
import Derived.Test.YteneeohaoplpbaaXFnExactReachAllx7
namespace Go.Proofs.Yteneeohaoplpbaa.XFnExactReachAll
open Go.RowKit Go.Proofs.YteneeohaoplpbaaW.PrintWords Go.Proofs.YteneeohaoplpbaaW.PrintLast Go.Proofs.YteneeohaoplpbaaW.PrintMore
attribute [local go_sem] max2_int min2_int max_two min_two max_three min_three max_four min_four   -- for this text's walks alone
set_option linter.unusedVariables false
set_option linter.unusedSimpArgs false

/-! ### slices_Reverse_int_int: function 126 -/
def slices_Reverse_int_int.l0:Nat→List Int→Int→Int→Option (List Int)
 | 0,_,_,_=>none
 | k+1,x0,x2,x3=>if x2 < x3 then (if 0≤x3 then (if x3 < (x0.length:Int) then (if 0≤x2 then (if x2 < (x0.length:Int) then (slices_Reverse_int_int.l0 k ((x0.set (x2:Int).toNat (rd x0 x3)).set (x3:Int).toNat (rd x0 x2)) (wrap64 (x2+1)) (wrap64 (x3 - 1))) else (none)) else (none)) else (none)) else (none)) else (some x0)
def slices_Reverse_int_int.f (k:Nat) (l0:List Int):Option (List Int):=slices_Reverse_int_int.l0 k l0 0 (wrap64 ((l0.length:Int) - 1))
theorem slices_Reverse_int_int.mono_l : ∀ k,(∀ y0 y1 y2,LeO (slices_Reverse_int_int.l0 k y0 y1 y2) (slices_Reverse_int_int.l0 (k+1) y0 y1 y2))
 | 0=>fun _ _ _ r h=>by simp[slices_Reverse_int_int.l0] at h
 | k+1=>by
  have ih0:=slices_Reverse_int_int.mono_l k
  ·intro y0 y1 y2
   unfold slices_Reverse_int_int.l0
   repeat' first
   | (with_reducible exact ih0 _ _ _)
   | (with_reducible exact LeO.refl _)
   | (with_reducible exact LeO.none _)
   | (with_reducible refine LeO.ite ?_ ?_)
   | (with_reducible refine LeO.bind ?_ (fun _ => ?_))
   | exact ih0 _ _ _
   | exact LeO.none _
   | refine LeO.ite ?_ ?_
   | refine LeO.bind ?_ (fun _ => ?_)
theorem slices_Reverse_int_int.mono : ∀ a0 k,LeO (slices_Reverse_int_int.f k a0) (slices_Reverse_int_int.f (k+1) a0):=by
 intro a0 k
 have ih0:=slices_Reverse_int_int.mono_l k
 unfold slices_Reverse_int_int.f
 repeat' first
  | (with_reducible exact ih0 _ _ _)
  | (with_reducible exact LeO.refl _)
  | (with_reducible exact LeO.none _)
  | (with_reducible refine LeO.ite ?_ ?_)
  | (with_reducible refine LeO.bind ?_ (fun _ => ?_))
  | exact ih0 _ _ _
  | exact LeO.none _
  | refine LeO.ite ?_ ?_
  | refine LeO.bind ?_ (fun _ => ?_)
def slices_Reverse_int_int.T3:Bool × List (List Nat × List Nat):=(true,[([],[]),([],[]),([],[]),([],[]),([],[]),([],[]),([4,5],[4,5]),([6],[6]),([],[]),([],[]),([8,9],[8,9]),([10],[10]),([0,1,0,1,4,5,6,7,11],[0,1]),([12,7,0,1,4,5,6,7,11],[7,12]),([2,3,0,1,2,3,4,5,6,7,8,9,10,11,12,13],[2,3]),([14,11,13,0,1,2,3,4,5,6,7,8,9,10,11,12,13],[11,14])])
def slices_Reverse_int_int.B3:List Nat:=[0,0,0,0,0,0,48,112,0,0,768,1792,4083,8179,16383,32767]
theorem slices_Reverse_int_int.tab3:rtab .any (opsOf Try.f126 3)=slices_Reverse_int_int.T3:=by kernel_rfl
theorem slices_Reverse_int_int.bits3:waitsOk slices_Reverse_int_int.T3.2 slices_Reverse_int_int.B3=true:=by kernel_rfl
set_option maxHeartbeats 8000000 in
set_option maxRecDepth 100000 in
theorem slices_Reverse_int_int.calls (k:Nat) (P0_:Nat→Prop) (u9000_:Value) (l0:List Int) (r:List Int) (w0 w:World) (hB:Below w0.heap.size w0 w) (ho0:Kd.R (Kd.int .i64) 3 w w0.heap.size P0_ u9000_ l0) (h:slices_Reverse_int_int.f k l0=some r) :
  Calls Try.prog 126 #[u9000_] w fun e w'=>e=.returned (.tuple #[])∧Kd.R (Kd.int .i64) 3 w' w0.heap.size (fun k_=>(P0_ k_∨w.heap.size≤k_)) u9000_ r∧Below w0.heap.size w0 w'∧Kept w w' (fun k_=>P0_ k_):=by
 have HO0:=Aside0.mk (show Kd.R (Kd.int .i64) 3 w w0.heap.size (fun k_=>(P0_ k_∨w.heap.size≤k_)) u9000_ l0 from Kd.R_mono ho0 (fun k_ hk=>(.inl hk)))
 have HK:=Aside0.mk (Kept.refl w (fun k_=>P0_ k_))
 have HW0:=Aside0.mk hB.size
 have HB:=Aside0.mk hB
 clear hB
 have H:(slices_Reverse_int_int.l0 k l0 0 (wrap64 ((l0.length:Int) - 1)))=some r:=h
 clear h
 have H':=Aside0.mk H
 clear H
 obtain⟨Ao2,co2,eo2⟩:=Kd.R_slice HO0.out
 subst eo2
 go_enter Try.func126,Try.ntmps126
 go_wp2
 go_loopg [2,3] k (fun kq v2 v3 w' => ∃ (x0_1:List Int) (x2_1:Int) (x3_1:Int),v2=.int .i64 x2_1∧v3=.int .i64 x3_1∧Aside0 (slices_Reverse_int_int.l0 kq x0_1 x2_1 x3_1=some r)∧Aside0 (kq≤k)∧Aside0 (Kd.R (Kd.int .i64) 3 w' w0.heap.size (fun k_=>(P0_ k_∨w.heap.size≤k_)) (.slice Ao2 l0.length co2) x0_1)∧Aside0 (Kept w w' (fun k_=>P0_ k_))∧Aside0 (Below w0.heap.size w0 w'))
 case atStart=>exact⟨(l0),(0),(wrap64 ((l0.length:Int) - 1)),(bR),(bR),H',⟨Nat.le_refl _⟩,⟨by(with_reducible repeat (first|apply Kd.R_alloc|apply Kd.R_drewN|apply Kd.R_drew));exact HO0.out⟩,⟨by repeat (first|(with_reducible first|exact HK.out|apply Kept.alloc|apply Kept.drewN|apply Kept.drew)|exact HK.out)⟩,⟨by repeat (first|(with_reducible first|exact HB.out|apply below_alloc|apply pw_below_drewN|apply below_drew1)|exact HB.out)⟩⟩
 case round =>
  clear H'
  try clear c1
  try clear p2
  obtain⟨x0_1,x2_1,x3_1,rfl,rfl,HA,HK1,HO_0,HK,HB⟩:=hrel
  have hl0_1:=(Kd.R_reads' HO_0.out).1
  rw[hl0_1] at HO_0
  (try simp only[hl0_1])
  cases gk with
  | zero=>exact absurd HA.out (by simp[slices_Reverse_int_int.l0])
  | succ k1 =>
   have H:=HA.out
   clear HA
   simp only[slices_Reverse_int_int.l0] at H
   by_cases c3:x2_1 < x3_1
   ·rw[if_pos c3] at H
    have c3b0:decide (x2_1 < x3_1)=true:=decide_eq_true c3
    clear c3
    by_cases c4:0≤x3_1
    ·rw[if_pos c4] at H
     have c4b0:decide (0≤x3_1)=true:=decide_eq_true c4
     clear c4
     by_cases c5:x3_1 < (x0_1.length:Int)
     ·rw[if_pos c5] at H
      have c5b0:decide (x3_1 < (x0_1.length:Int))=true:=decide_eq_true c5
      clear c5
      by_cases c6:0≤x2_1
      ·rw[if_pos c6] at H
       have c6b0:decide (0≤x2_1)=true:=decide_eq_true c6
       clear c6
       by_cases c7:x2_1 < (x0_1.length:Int)
       ·rw[if_pos c7] at H
        have c7b0:decide (x2_1 < (x0_1.length:Int))=true:=decide_eq_true c7
        clear c7
        obtain⟨y260,hy260⟩ : ∃ y_:List Int,y_=(x0_1.set (x2_1:Int).toNat (rd x0_1 x3_1)):=⟨_,rfl⟩
        replace H:(slices_Reverse_int_int.l0 k1 (y260.set (x3_1:Int).toNat (rd x0_1 x2_1)) (wrap64 (x2_1+1)) (wrap64 (x3_1 - 1)))=some r:=by first|(rw[hy260];with_reducible exact H)|(have H2_:=(Option.bind_some _ _).symm.trans H;rw[hy260];with_reducible exact H2_)|(have H2_:=(Option.bind_some _ _).symm.trans H;with_reducible exact H2_)|with_reducible exact H|(rw[hy260];exact H)|exact H
        have Ny260:=Aside0.mk hy260
        clear hy260
        obtain⟨y261,hy261⟩ : ∃ y_:List Int,y_=(y260.set (x3_1:Int).toNat (rd x0_1 x2_1)):=⟨_,rfl⟩
        replace H:(slices_Reverse_int_int.l0 k1 y261 (wrap64 (x2_1+1)) (wrap64 (x3_1 - 1)))=some r:=by first|(rw[hy261];with_reducible exact H)|(have H2_:=(Option.bind_some _ _).symm.trans H;rw[hy261];with_reducible exact H2_)|(have H2_:=(Option.bind_some _ _).symm.trans H;with_reducible exact H2_)|with_reducible exact H|(rw[hy261];exact H)|exact H
        have Ny261:=Aside0.mk hy261
        clear hy261
        have H':=Aside0.mk H
        clear H
        try go_wp2
        (try (rw[drewN_self wr];generalize hq_:World.drewN wr _=wr;have n0_:=Aside0.mk (Kd.R_at hq_ HO_0.out);have n1_:=Aside0.mk (kept_at hq_ HK.out);have n2_:=Aside0.mk (below_at hq_ HB.out);clear hq_ HO_0 HK HB;have HO_0:=n0_;have HK:=n1_;have HB:=n2_;clear n0_ n1_ n2_))
        have n0_:=Aside0.mk (Kd.R_drew HO_0.out)
        have n1_:=Aside0.mk (Kept.drew HK.out)
        have n2_:=Aside0.mk (below_drew1 HB.out)
        clear HO_0 HK HB
        have HO_0:=n0_
        have HK:=n1_
        have HB:=n2_
        clear n0_ n1_ n2_
        have p258:0≤(x3_1:Int):=of_decide_eq_true (bD)
        have q258:x3_1 < (x0_1.length:Int):=of_decide_eq_true (bD)
        obtain⟨ad258,e258,hx258_0⟩:=Kd.at_int (Kd.R_reads' HO_0.out).2.2 x3_1 p258 q258
        cases e258
        replace p258:=eq_true p258
        replace q258:=eq_true q258
        have p259:0≤(x2_1:Int):=of_decide_eq_true (bD)
        have q259:x2_1 < (x0_1.length:Int):=of_decide_eq_true (bD)
        obtain⟨ad259,e259,hx259_0⟩:=Kd.at_int (Kd.R_reads' HO_0.out).2.2 x2_1 p259 q259
        obtain rfl:ad258=ad259:=(by injection e259)
        replace p259:=eq_true p259
        replace q259:=eq_true q259
        have p8:0≤(x2_1:Int):=of_decide_eq_true (bD)
        have q8:(x2_1:Int) < ((x0_1.length:Int):Int):=of_decide_eq_true (bD)
        obtain⟨go8,co8,eo8,gb8,gl8,cl8,HG8⟩:=Kd.R_form HO_0.out (by omega)
        (first|cases eo8|(injection eo8 with ea_ en_ ec_;(first|subst ea_|(injection ea_ with ea_;subst ea_));subst ec_;clear en_))
        have GB8:=Aside0.mk gb8
        have GG8:=Aside0.mk HG8
        clear gb8 gl8 HG8
        have HMgo8:=Aside0.mk (show(P0_ go8∨w.heap.size≤go8) from (HO_0.out.1 _ rfl))
        (first|simp only[add_plain] at hx258_0|skip)
        (first|simp only[add_plain] at hx259_0|skip)
        obtain⟨hx8_0,hf8_0⟩:=Kd.R_celln 0 HO_0.out (x2_1:Int) p8 q8
        replace p8:=eq_true p8
        replace q8:=eq_true q8
        have HP11:=Kd.R_putn HO_0.out (x2_1:Int) (rd x0_1 x3_1)
        rw[← Ny260.out] at HP11
        have HQ11:=Aside0.mk HP11
        clear HP11
        have p9:0≤(x3_1:Int):=of_decide_eq_true (bD)
        have q9:(x3_1:Int) < ((x0_1.length:Int):Int):=of_decide_eq_true (bD)
        obtain⟨hx9_0,hf9_0⟩:=Kd.R_celln 0 HQ11.out (x3_1:Int) p9 q9
        replace p9:=eq_true p9
        replace q9:=eq_true q9
        have HP12:=Kd.R_putn HQ11.out (x3_1:Int) (rd x0_1 x2_1)
        rw[← Ny261.out] at HP12
        have HQ12:=Aside0.mk HP12
        clear HP12
        refine start_ (n:=16) (S:=fun w'=>w'.cell? ⟨go8,(x3_1).toNat,none⟩=some (.int .i64 (rd x0_1 x3_1))∧w'.cell? ⟨go8,(x2_1).toNat,none⟩=some (.int .i64 (rd x0_1 x2_1))) (ds:=[13,15]) #[false,false,false,false,false,false,false,false,false,false,false,false,false,false,false,false] (by kernel_rfl) rfl rfl ⟨hx258_0,hx259_0⟩ (fun hHeld => ?_);refine with_tabW slices_Reverse_int_int.tab3 slices_Reverse_int_int.bits3 (fun HT_ HW_ => ?_)
        generalize wr.drew=w10 at HO_0 HK HB GG8 HQ11 HQ12 hf8_0 hf9_0 hx258_0 hx259_0 hx8_0 hx9_0 hHeld ⊢
        refine pure_ (i:=0) (N:=some 14) (v:=?_) (a':=?_) #[true,false,false,false,false,false,false,false,false,false,false,false,false,false,false,false] rfl rfl (any_of HT_.out (by kernel_rfl)) (fun _ _ _ h=>h) (Or.inl ⟨by rfl,?_⟩) ?_ ?_
        rotate_left
        ·intro w'
         go_simp
         with_reducible rfl
        rotate_left
        ·simp only[Act.put,List.setIfInBounds_toArray,List.set_cons_zero,List.set_cons_succ,i64_w,i32_w]
         rfl
        refine pure_ (i:=1) (N:=some 15) (v:=?_) (a':=?_) #[true,true,false,false,false,false,false,false,false,false,false,false,false,false,false,false] rfl rfl (any_of HT_.out (by kernel_rfl)) (fun _ _ _ h=>h) (Or.inl ⟨by rfl,?_⟩) ?_ ?_
        rotate_left
        ·intro w'
         go_simp
         with_reducible rfl
        rotate_left
        ·simp only[Act.put,List.setIfInBounds_toArray,List.set_cons_zero,List.set_cons_succ,i64_w,i32_w]
         rfl
        refine pure_ (i:=2) (N:=some 16) (v:=?_) (a':=?_) #[true,true,true,false,false,false,false,false,false,false,false,false,false,false,false,false] rfl rfl (any_of HT_.out (by kernel_rfl)) (fun _ _ _ h=>h) (Or.inl ⟨by rfl,?_⟩) ?_ ?_
        rotate_left
        ·intro w'
         go_simp
         with_reducible rfl
        rotate_left
        ·simp only[Act.put,List.setIfInBounds_toArray,List.set_cons_zero,List.set_cons_succ,i64_w,i32_w]
         rfl
        refine pure_ (i:=3) (N:=some 17) (v:=?_) (a':=?_) #[true,true,true,true,false,false,false,false,false,false,false,false,false,false,false,false] rfl rfl (any_of HT_.out (by kernel_rfl)) (fun _ _ _ h=>h) (Or.inl ⟨by rfl,?_⟩) ?_ ?_
        rotate_left
        ·intro w'
         go_simp
         with_reducible rfl
        rotate_left
        ·simp only[Act.put,List.setIfInBounds_toArray,List.set_cons_zero,List.set_cons_succ,i64_w,i32_w]
         rfl
        refine pure_ (i:=4) (N:=some 18) (v:=?_) (a':=?_) #[true,true,true,true,true,false,false,false,false,false,false,false,false,false,false,false] rfl rfl (any_of HT_.out (by kernel_rfl)) (fun _ _ _ h=>h) (Or.inl ⟨by rfl,?_⟩) ?_ ?_
        rotate_left
        ·intro w'
         go_simp
         with_reducible rfl
        rotate_left
        ·simp only[Act.put,List.setIfInBounds_toArray,List.set_cons_zero,List.set_cons_succ,i64_w,i32_w]
         rfl
        refine pure_ (i:=5) (N:=some 19) (v:=?_) (a':=?_) #[true,true,true,true,true,true,false,false,false,false,false,false,false,false,false,false] rfl rfl (any_of HT_.out (by kernel_rfl)) (fun _ _ _ h=>h) (Or.inl ⟨by rfl,?_⟩) ?_ ?_
        rotate_left
        ·intro w'
         go_simp
         with_reducible rfl
        rotate_left
        ·simp only[Act.put,List.setIfInBounds_toArray,List.set_cons_zero,List.set_cons_succ,i64_w,i32_w]
         rfl
        refine pure_ (i:=6) (N:=some 20) (v:=?_) (a':=?_) #[true,true,true,true,true,true,true,false,false,false,false,false,false,false,false,false] rfl rfl (any_of HT_.out (by kernel_rfl)) (fun _ _ _ h=>h) (Or.inl ⟨by rfl,?_⟩) ?_ ?_
        rotate_left
        ·intro w'
         go_simp
         with_reducible rfl
        rotate_left
        ·simp only[Act.put,List.setIfInBounds_toArray,List.set_cons_zero,List.set_cons_succ,i64_w,i32_w]
         rfl
        refine pure_ (i:=8) (N:=some 22) (v:=?_) (a':=?_) #[true,true,true,true,true,true,true,false,true,false,false,false,false,false,false,false] rfl rfl (any_of HT_.out (by kernel_rfl)) (fun _ _ _ h=>h) (Or.inl ⟨by rfl,?_⟩) ?_ ?_
        rotate_left
        ·intro w'
         go_simp
         with_reducible rfl
        rotate_left
        ·simp only[Act.put,List.setIfInBounds_toArray,List.set_cons_zero,List.set_cons_succ,i64_w,i32_w]
         rfl
        refine pure_ (i:=9) (N:=some 23) (v:=?_) (a':=?_) #[true,true,true,true,true,true,true,false,true,true,false,false,false,false,false,false] rfl rfl (any_of HT_.out (by kernel_rfl)) (fun _ _ _ h=>h) (Or.inl ⟨by rfl,?_⟩) ?_ ?_
        rotate_left
        ·intro w'
         go_simp
         with_reducible rfl
        rotate_left
        ·simp only[Act.put,List.setIfInBounds_toArray,List.set_cons_zero,List.set_cons_succ,i64_w,i32_w]
         rfl
        refine pure_ (i:=10) (N:=some 24) (v:=?_) (a':=?_) #[true,true,true,true,true,true,true,false,true,true,true,false,false,false,false,false] rfl rfl (any_of HT_.out (by kernel_rfl)) (fun _ _ _ h=>h) (Or.inl ⟨by rfl,?_⟩) ?_ ?_
        rotate_left
        ·intro w'
         go_simp
         with_reducible rfl
        rotate_left
        ·simp only[Act.put,List.setIfInBounds_toArray,List.set_cons_zero,List.set_cons_succ,i64_w,i32_w]
         rfl
        refine take_ (i:=7) (N:=some 21) (v:=?_) (a':=?_) #[true,true,true,true,true,true,true,true,true,true,true,false,false,false,false,false] rfl rfl (take_ofW HT_.out HW_.out (by kernel_rfl)) (fun _ _ _ h=>h) (Or.inl ⟨by rfl,?_⟩) hHeld ?_ ?_
        rotate_left
        ·rintro w' ⟨s0,s1⟩
         go_simp
         with_reducible rfl
        rotate_left
        ·simp only[Act.put,List.setIfInBounds_toArray,List.set_cons_zero,List.set_cons_succ,i64_w,i32_w]
         rfl
        refine take_ (i:=11) (N:=some 25) (v:=?_) (a':=?_) #[true,true,true,true,true,true,true,true,true,true,true,true,false,false,false,false] rfl rfl (take_ofW HT_.out HW_.out (by kernel_rfl)) (fun _ _ _ h=>h) (Or.inl ⟨by rfl,?_⟩) hHeld ?_ ?_
        rotate_left
        ·rintro w' ⟨s0,s1⟩
         go_simp
         with_reducible rfl
        rotate_left
        ·simp only[Act.put,List.setIfInBounds_toArray,List.set_cons_zero,List.set_cons_succ,i64_w,i32_w]
         rfl
        refine pure_ (i:=12) (N:=some 26) (v:=?_) (a':=?_) #[true,true,true,true,true,true,true,true,true,true,true,true,true,false,false,false] rfl rfl (any_of HT_.out (by kernel_rfl)) (fun _ _ _ h=>h) (Or.inl ⟨by rfl,?_⟩) ?_ ?_
        rotate_left
        ·intro w'
         go_simp
         with_reducible rfl
        rotate_left
        ·simp only[Act.put,List.setIfInBounds_toArray,List.set_cons_zero,List.set_cons_succ,i64_w,i32_w]
         rfl
        refine last_ (i:=13) (N:=none) #[true,true,true,true,true,true,true,true,true,true,true,true,true,true,false,false] rfl rfl (one_of HT_.out (by kernel_rfl)) (by decide) (fun K hK => ?_)
        refine skip_ (w1:=?_) (by rfl) rfl ?_ ?_
        rotate_left
        ·go_simp
         rfl
        refine hK.out _ _ ?_
        clear hK K
        refine pure_ (i:=14) (N:=some 27) (v:=?_) (a':=?_) #[true,true,true,true,true,true,true,true,true,true,true,true,true,true,true,false] rfl rfl (any_of HT_.out (by kernel_rfl)) (fun _ _ _ h=>h) (Or.inl ⟨by rfl,?_⟩) ?_ ?_
        rotate_left
        ·intro w'
         go_simp
         with_reducible rfl
        rotate_left
        ·simp only[Act.put,List.setIfInBounds_toArray,List.set_cons_zero,List.set_cons_succ,i64_w,i32_w]
         rfl
        refine last_ (i:=15) (N:=none) #[true,true,true,true,true,true,true,true,true,true,true,true,true,true,true,true] rfl rfl (one_of HT_.out (by kernel_rfl)) (by decide) (fun K hK => ?_)
        refine skip_ (w1:=?_) (by rfl) rfl ?_ ?_
        rotate_left
        ·go_simp
         rfl
        refine hK.out _ _ ?_
        clear hK K
        refine done_ (done_of HT_.out (by kernel_rfl)) ?_
        try go_wp2
        (try simp only[← hl0_1])
        go_roundg k1
        case measure=>have:=HK1.out;omega
        case rel=>exact⟨(y261),(wrap64 (x2_1+1)),(wrap64 (x3_1 - 1)),(bR),(bR),H',⟨by have:=HK1.out;omega⟩,⟨by(try simp only[hl0_1]);(with_reducible repeat (first|apply Kd.R_alloc|apply Kd.R_drewN|apply Kd.R_drew));exact HQ12.out⟩,⟨by repeat (first|(with_reducible first|exact HK.out|apply Kept.alloc|apply Kept.drewN|apply Kept.drew|refine Kept.setCell ?_ HMgo8.out _|refine Kept.setCell ?_ HMgo8.out _)|exact HK.out)⟩,⟨bS2 GB8.out GB8.out⟩⟩
       ·rw[if_neg c7] at H
        exact absurd H (by simp)
      ·rw[if_neg c6] at H
       exact absurd H (by simp)
     ·rw[if_neg c5] at H
      exact absurd H (by simp)
    ·rw[if_neg c4] at H
     exact absurd H (by simp)
   ·rw[if_neg c3] at H
    have c3b0:decide (x2_1 < x3_1)=false:=decide_eq_false c3
    clear c3
    obtain rfl:=Option.some.inj H
    go_wp2
    first|go_end0|((try simp only[Exit.inBlock,Exit.then]);refine bodyPost_ret (results_none rfl _ _ _) rfl ?_)
    exact⟨bE,(by first|exact(bK HO_0.out)|(simp only[hl0_1];exact(bK HO_0.out))),by repeat (first|(with_reducible first|exact HB.out|apply below_alloc|apply pw_below_drewN|apply below_drew1)|exact HB.out),by repeat (first|(with_reducible first|exact HK.out|apply Kept.alloc|apply Kept.drewN|apply Kept.drew)|exact HK.out)⟩

/-! ### impl_RouteTo: function 63 -/
mutual
def impl_RouteTo.j0:Nat→List (S104)→Int→Int→Int→Bool→Option (List Int × Int × Bool)
 | 0,_,_,_,_,_=>none
 | k+1,x0,x1,x2,x3,x32=>if x32=true then (some (([]:List Int),0,false)) else ((impl_reach.f k x0 x1 x2).bind fun bt266=>(if 0≤x3 then (if x3 < (bt266.1.length:Int) then (if (rd bt266.1 x3) < 0 then (some (([]:List Int),0,false)) else (impl_RouteTo.l0 k x0 x1 x3 bt266.1 bt266.2 (([]:List Int)) x3)) else (none)) else (none)))
def impl_RouteTo.l0:Nat→List (S104)→Int→Int→List Int→List Int→List Int→Int→Option (List Int × Int × Bool)
 | 0,_,_,_,_,_,_,_=>none
 | k+1,x0,x1,x3,x11,x12,x13,x14=>if x14=x1 then ((slices_Reverse_int_int.f k x13).bind fun t276=>(if 0≤x3 then (if x3 < (x11.length:Int) then (some (t276,rd x11 x3,true)) else (none)) else (none))) else (if 0≤x14 then (if x14 < (x12.length:Int) then (if x13.length < 17592186044416 then (if 0≤(rd x12 x14) then (if (rd x12 x14) < (x0.length:Int) then (impl_RouteTo.l0 k x0 x1 x3 x11 x12 (x13++[rd x12 x14]) ((rd_T104 x0 (rd x12 x14)).f0)) else (none)) else (none)) else (none)) else (none)) else (none))
end
def impl_RouteTo.f (k:Nat) (l0:List (S104)) (a1:Int) (a2:Int) (a3:Int):Option (List Int × Int × Bool):=(impl_GoodPlan.f k l0).bind fun t262=>(if t262=true then ((impl_isNode.f a1).bind fun t263=>(if t263=true then ((impl_isWhen.f a2).bind fun t264=>(if t264=true then ((impl_isNode.f a3).bind fun t265=>(impl_RouteTo.j0 k l0 a1 a2 a3 (!t265))) else (impl_RouteTo.j0 k l0 a1 a2 a3 true))) else (impl_RouteTo.j0 k l0 a1 a2 a3 true))) else (impl_RouteTo.j0 k l0 a1 a2 a3 true))
theorem impl_RouteTo.mono_l : ∀ k,(∀ y0 y1 y2 y3 y4,LeO (impl_RouteTo.j0 k y0 y1 y2 y3 y4) (impl_RouteTo.j0 (k+1) y0 y1 y2 y3 y4))∧(∀ y0 y1 y2 y3 y4 y5 y6,LeO (impl_RouteTo.l0 k y0 y1 y2 y3 y4 y5 y6) (impl_RouteTo.l0 (k+1) y0 y1 y2 y3 y4 y5 y6))
 | 0=>⟨fun _ _ _ _ _ r h=>by simp[impl_RouteTo.j0] at h,fun _ _ _ _ _ _ _ r h=>by simp[impl_RouteTo.l0] at h⟩
 | k+1=>by
  obtain⟨ih0,ih1⟩:=impl_RouteTo.mono_l k
  refine⟨?_,?_⟩
  ·intro y0 y1 y2 y3 y4
   unfold impl_RouteTo.j0
   repeat' first
   | (with_reducible exact ih0 _ _ _ _ _)
   | (with_reducible exact ih1 _ _ _ _ _ _ _)
   | (with_reducible exact impl_GoodPlan.mono _ _)
   | (with_reducible exact impl_reach.mono _ _ _ _)
   | (with_reducible exact slices_Reverse_int_int.mono _ _)
   | (with_reducible exact LeO.refl _)
   | (with_reducible exact LeO.none _)
   | (with_reducible refine LeO.ite ?_ ?_)
   | (with_reducible refine LeO.bind ?_ (fun _ => ?_))
   | exact ih0 _ _ _ _ _
   | exact ih1 _ _ _ _ _ _ _
   | exact impl_GoodPlan.mono _ _
   | exact impl_reach.mono _ _ _ _
   | exact slices_Reverse_int_int.mono _ _
   | exact LeO.none _
   | refine LeO.ite ?_ ?_
   | refine LeO.bind ?_ (fun _ => ?_)
  ·intro y0 y1 y2 y3 y4 y5 y6
   unfold impl_RouteTo.l0
   repeat' first
   | (with_reducible exact ih0 _ _ _ _ _)
   | (with_reducible exact ih1 _ _ _ _ _ _ _)
   | (with_reducible exact impl_GoodPlan.mono _ _)
   | (with_reducible exact impl_reach.mono _ _ _ _)
   | (with_reducible exact slices_Reverse_int_int.mono _ _)
   | (with_reducible exact LeO.refl _)
   | (with_reducible exact LeO.none _)
   | (with_reducible refine LeO.ite ?_ ?_)
   | (with_reducible refine LeO.bind ?_ (fun _ => ?_))
   | exact ih0 _ _ _ _ _
   | exact ih1 _ _ _ _ _ _ _
   | exact impl_GoodPlan.mono _ _
   | exact impl_reach.mono _ _ _ _
   | exact slices_Reverse_int_int.mono _ _
   | exact LeO.none _
   | refine LeO.ite ?_ ?_
   | refine LeO.bind ?_ (fun _ => ?_)
theorem impl_RouteTo.mono : ∀ a0 a1 a2 a3 k,LeO (impl_RouteTo.f k a0 a1 a2 a3) (impl_RouteTo.f (k+1) a0 a1 a2 a3):=by
 intro a0 a1 a2 a3 k
 obtain⟨ih0,ih1⟩:=impl_RouteTo.mono_l k
 unfold impl_RouteTo.f
 repeat' first
  | (with_reducible exact ih0 _ _ _ _ _)
  | (with_reducible exact ih1 _ _ _ _ _ _ _)
  | (with_reducible exact impl_GoodPlan.mono _ _)
  | (with_reducible exact impl_reach.mono _ _ _ _)
  | (with_reducible exact slices_Reverse_int_int.mono _ _)
  | (with_reducible exact LeO.refl _)
  | (with_reducible exact LeO.none _)
  | (with_reducible refine LeO.ite ?_ ?_)
  | (with_reducible refine LeO.bind ?_ (fun _ => ?_))
  | exact ih0 _ _ _ _ _
  | exact ih1 _ _ _ _ _ _ _
  | exact impl_GoodPlan.mono _ _
  | exact impl_reach.mono _ _ _ _
  | exact slices_Reverse_int_int.mono _ _
  | exact LeO.none _
  | refine LeO.ite ?_ ?_
  | refine LeO.bind ?_ (fun _ => ?_)
set_option maxHeartbeats 8000000 in
set_option maxRecDepth 100000 in
theorem impl_RouteTo.calls (k:Nat) (A0:Option Addr) (c0:Nat) (l0:List (S104)) (a1:Int) (a2:Int) (a3:Int) (r1:List Int) (r2:Int) (r3:Bool) (w:World) (hr0:Kd.C k104 w A0 l0.length l0) (hc0:l0.length≤c0) (h:impl_RouteTo.f k l0 a1 a2 a3=some (r1,r2,r3)) :
  Calls Try.prog 63 #[.slice A0 l0.length c0,.int .i64 a1,.int .i64 a2,.int .i64 a3] w fun e w' => ∃ v0_:Value,e=.returned (.tuple #[v0_,.int .i64 r2,.bool r3])∧Kd.R (Kd.int .i64) 3 w' w.heap.size (fun _=>True) v0_ r1∧Below w.heap.size w w':=by
 have HR0:=Aside0.mk hr0
 have HC0:=Aside0.mk hc0
 clear hr0 hc0
 have HB:=Aside0.mk (Below.refl w.heap.size w)
 have H:((impl_GoodPlan.f k l0).bind fun t262=>(if t262=true then ((impl_isNode.f a1).bind fun t263=>(if t263=true then ((impl_isWhen.f a2).bind fun t264=>(if t264=true then ((impl_isNode.f a3).bind fun t265=>(impl_RouteTo.j0 k l0 a1 a2 a3 (!t265))) else (impl_RouteTo.j0 k l0 a1 a2 a3 true))) else (impl_RouteTo.j0 k l0 a1 a2 a3 true))) else (impl_RouteTo.j0 k l0 a1 a2 a3 true)))=some (r1,r2,r3):=h
 clear h
 have HC5:=Aside0.mk H
 clear H
 go_enter Try.func63,Try.ntmps63
 go_upto_region 1 with (fail)
 repeat (go_quiet (fail);go_upto_region 1 with (fail))
 go_cut [32] (fun v32 wc => ∃ (kq:Nat) (x32_4:Bool),v32=.bool x32_4∧Aside0 (impl_RouteTo.j0 kq l0 a1 a2 a3 x32_4=some (r1,r2,r3))∧Aside0 (kq≤k)∧Aside0 (Below w.heap.size w wc))
 case first =>
  have H:=HC5.out
  clear HC5
  replace H:=Option.bind_eq_some_iff.mp H
  obtain⟨t262,A60,H⟩:=H
  replace H:(if t262=true then ((impl_isNode.f a1).bind fun t263=>(if t263=true then ((impl_isWhen.f a2).bind fun t264=>(if t264=true then ((impl_isNode.f a3).bind fun t265=>(impl_RouteTo.j0 k l0 a1 a2 a3 (!t265))) else (impl_RouteTo.j0 k l0 a1 a2 a3 true))) else (impl_RouteTo.j0 k l0 a1 a2 a3 true))) else (impl_RouteTo.j0 k l0 a1 a2 a3 true))=some (r1,r2,r3):=H
  have A6:=Aside0.mk A60
  clear A60
  by_cases c7:t262=true
  ·subst c7
   have H1:((impl_isNode.f a1).bind fun t263=>(if t263=true then ((impl_isWhen.f a2).bind fun t264=>(if t264=true then ((impl_isNode.f a3).bind fun t265=>(impl_RouteTo.j0 k l0 a1 a2 a3 (!t265))) else (impl_RouteTo.j0 k l0 a1 a2 a3 true))) else (impl_RouteTo.j0 k l0 a1 a2 a3 true)))=some (r1,r2,r3):=by rw[if_pos rfl] at H;exact H
   clear H
   have H:=H1
   clear H1
   replace H:=Option.bind_eq_some_iff.mp H
   obtain⟨t263,A80,H⟩:=H
   replace H:(if t263=true then ((impl_isWhen.f a2).bind fun t264=>(if t264=true then ((impl_isNode.f a3).bind fun t265=>(impl_RouteTo.j0 k l0 a1 a2 a3 (!t265))) else (impl_RouteTo.j0 k l0 a1 a2 a3 true))) else (impl_RouteTo.j0 k l0 a1 a2 a3 true))=some (r1,r2,r3):=H
   have A8:=Aside0.mk A80
   clear A80
   by_cases c9:t263=true
   ·subst c9
    have H1:((impl_isWhen.f a2).bind fun t264=>(if t264=true then ((impl_isNode.f a3).bind fun t265=>(impl_RouteTo.j0 k l0 a1 a2 a3 (!t265))) else (impl_RouteTo.j0 k l0 a1 a2 a3 true)))=some (r1,r2,r3):=by rw[if_pos rfl] at H;exact H
    clear H
    have H:=H1
    clear H1
    replace H:=Option.bind_eq_some_iff.mp H
    obtain⟨t264,A100,H⟩:=H
    replace H:(if t264=true then ((impl_isNode.f a3).bind fun t265=>(impl_RouteTo.j0 k l0 a1 a2 a3 (!t265))) else (impl_RouteTo.j0 k l0 a1 a2 a3 true))=some (r1,r2,r3):=H
    have A10:=Aside0.mk A100
    clear A100
    by_cases c11:t264=true
    ·subst c11
     have H1:((impl_isNode.f a3).bind fun t265=>(impl_RouteTo.j0 k l0 a1 a2 a3 (!t265)))=some (r1,r2,r3):=by rw[if_pos rfl] at H;exact H
     clear H
     have H:=H1
     clear H1
     replace H:=Option.bind_eq_some_iff.mp H
     obtain⟨t265,A120,H⟩:=H
     replace H:(impl_RouteTo.j0 k l0 a1 a2 a3 (!t265))=some (r1,r2,r3):=H
     have A12:=Aside0.mk A120
     clear A120
     have H':=Aside0.mk H
     clear H
     go_wp2_with (first|(go_at_call 88;(with_reducible refine(impl_GoodPlan.calls k _ _ l0 true _ ?side1 ?side2 A6.out).mono ?_);(case side1=>exact bC HR0.out);(case side2=>exact HC0.out);rintro e w13 ⟨rfl,hb⟩;have n0_:=Aside0.mk (below_step (bB) hb);clear HB;have HB:=n0_;clear n0_;(try clear hb);(try clear hb2);(try clear hk);(try clear hi))|(go_at_call 89;(with_reducible refine(impl_isNode.calls a1 true _ A8.out).mono ?_);rintro e w' ⟨rfl,⟨nd,rfl⟩⟩;(try first|exact⟨rfl,_,World.drewN_drewN _ _ _⟩|exact⟨rfl,_,Eq.trans (World.drewN_drewN _ _ _) (congrArg (World.drewN _) (Nat.add_assoc _ _ _))⟩))|(go_at_call 90;(with_reducible refine(impl_isWhen.calls a2 true _ A10.out).mono ?_);rintro e w' ⟨rfl,⟨nd,rfl⟩⟩;(try first|exact⟨rfl,_,World.drewN_drewN _ _ _⟩|exact⟨rfl,_,Eq.trans (World.drewN_drewN _ _ _) (congrArg (World.drewN _) (Nat.add_assoc _ _ _))⟩))|(go_at_call 89;(with_reducible refine(impl_isNode.calls a3 t265 _ A12.out).mono ?_);rintro e w' ⟨rfl,⟨nd,rfl⟩⟩;(try first|exact⟨rfl,_,World.drewN_drewN _ _ _⟩|exact⟨rfl,_,Eq.trans (World.drewN_drewN _ _ _) (congrArg (World.drewN _) (Nat.add_assoc _ _ _))⟩)))
     repeat (go_quiet (first|(go_at_call 88;(with_reducible refine(impl_GoodPlan.calls k _ _ l0 true _ ?side1 ?side2 A6.out).mono ?_);(case side1=>exact bC HR0.out);(case side2=>exact HC0.out);rintro e w13 ⟨rfl,hb⟩;have n0_:=Aside0.mk (below_step (bB) hb);clear HB;have HB:=n0_;clear n0_;(try clear hb);(try clear hb2);(try clear hk);(try clear hi))|(go_at_call 89;(with_reducible refine(impl_isNode.calls a1 true _ A8.out).mono ?_);rintro e w' ⟨rfl,⟨nd,rfl⟩⟩;(try first|exact⟨rfl,_,World.drewN_drewN _ _ _⟩|exact⟨rfl,_,Eq.trans (World.drewN_drewN _ _ _) (congrArg (World.drewN _) (Nat.add_assoc _ _ _))⟩))|(go_at_call 90;(with_reducible refine(impl_isWhen.calls a2 true _ A10.out).mono ?_);rintro e w' ⟨rfl,⟨nd,rfl⟩⟩;(try first|exact⟨rfl,_,World.drewN_drewN _ _ _⟩|exact⟨rfl,_,Eq.trans (World.drewN_drewN _ _ _) (congrArg (World.drewN _) (Nat.add_assoc _ _ _))⟩))|(go_at_call 89;(with_reducible refine(impl_isNode.calls a3 t265 _ A12.out).mono ?_);rintro e w' ⟨rfl,⟨nd,rfl⟩⟩;(try first|exact⟨rfl,_,World.drewN_drewN _ _ _⟩|exact⟨rfl,_,Eq.trans (World.drewN_drewN _ _ _) (congrArg (World.drewN _) (Nat.add_assoc _ _ _))⟩)));try go_wp2_with (first|(go_at_call 88;(with_reducible refine(impl_GoodPlan.calls k _ _ l0 true _ ?side1 ?side2 A6.out).mono ?_);(case side1=>exact bC HR0.out);(case side2=>exact HC0.out);rintro e w13 ⟨rfl,hb⟩;have n0_:=Aside0.mk (below_step (bB) hb);clear HB;have HB:=n0_;clear n0_;(try clear hb);(try clear hb2);(try clear hk);(try clear hi))|(go_at_call 89;(with_reducible refine(impl_isNode.calls a1 true _ A8.out).mono ?_);rintro e w' ⟨rfl,⟨nd,rfl⟩⟩;(try first|exact⟨rfl,_,World.drewN_drewN _ _ _⟩|exact⟨rfl,_,Eq.trans (World.drewN_drewN _ _ _) (congrArg (World.drewN _) (Nat.add_assoc _ _ _))⟩))|(go_at_call 90;(with_reducible refine(impl_isWhen.calls a2 true _ A10.out).mono ?_);rintro e w' ⟨rfl,⟨nd,rfl⟩⟩;(try first|exact⟨rfl,_,World.drewN_drewN _ _ _⟩|exact⟨rfl,_,Eq.trans (World.drewN_drewN _ _ _) (congrArg (World.drewN _) (Nat.add_assoc _ _ _))⟩))|(go_at_call 89;(with_reducible refine(impl_isNode.calls a3 t265 _ A12.out).mono ?_);rintro e w' ⟨rfl,⟨nd,rfl⟩⟩;(try first|exact⟨rfl,_,World.drewN_drewN _ _ _⟩|exact⟨rfl,_,Eq.trans (World.drewN_drewN _ _ _) (congrArg (World.drewN _) (Nat.add_assoc _ _ _))⟩))))
     go_meet
     case rel=>exact⟨_,(!t265),(bR),H',⟨by first|omega|exact Nat.le_refl _⟩,⟨by repeat (first|(with_reducible first|exact HB.out|apply below_alloc|apply pw_below_drewN|apply below_drew1)|exact HB.out)⟩⟩
    ·replace c11:=Bool.eq_false_iff.mpr c11
     subst c11
     have H1:(impl_RouteTo.j0 k l0 a1 a2 a3 true)=some (r1,r2,r3):=by rw[if_neg (show ¬ (false=true) by decide)] at H;exact H
     clear H
     have H:=H1
     clear H1
     have H':=Aside0.mk H
     clear H
     go_wp2_with (first|(go_at_call 88;(with_reducible refine(impl_GoodPlan.calls k _ _ l0 true _ ?side1 ?side2 A6.out).mono ?_);(case side1=>exact bC HR0.out);(case side2=>exact HC0.out);rintro e w14 ⟨rfl,hb⟩;have n0_:=Aside0.mk (below_step (bB) hb);clear HB;have HB:=n0_;clear n0_;(try clear hb);(try clear hb2);(try clear hk);(try clear hi))|(go_at_call 89;(with_reducible refine(impl_isNode.calls a1 true _ A8.out).mono ?_);rintro e w' ⟨rfl,⟨nd,rfl⟩⟩;(try first|exact⟨rfl,_,World.drewN_drewN _ _ _⟩|exact⟨rfl,_,Eq.trans (World.drewN_drewN _ _ _) (congrArg (World.drewN _) (Nat.add_assoc _ _ _))⟩))|(go_at_call 90;(with_reducible refine(impl_isWhen.calls a2 false _ A10.out).mono ?_);rintro e w' ⟨rfl,⟨nd,rfl⟩⟩;(try first|exact⟨rfl,_,World.drewN_drewN _ _ _⟩|exact⟨rfl,_,Eq.trans (World.drewN_drewN _ _ _) (congrArg (World.drewN _) (Nat.add_assoc _ _ _))⟩)))
     repeat (go_quiet (first|(go_at_call 88;(with_reducible refine(impl_GoodPlan.calls k _ _ l0 true _ ?side1 ?side2 A6.out).mono ?_);(case side1=>exact bC HR0.out);(case side2=>exact HC0.out);rintro e w14 ⟨rfl,hb⟩;have n0_:=Aside0.mk (below_step (bB) hb);clear HB;have HB:=n0_;clear n0_;(try clear hb);(try clear hb2);(try clear hk);(try clear hi))|(go_at_call 89;(with_reducible refine(impl_isNode.calls a1 true _ A8.out).mono ?_);rintro e w' ⟨rfl,⟨nd,rfl⟩⟩;(try first|exact⟨rfl,_,World.drewN_drewN _ _ _⟩|exact⟨rfl,_,Eq.trans (World.drewN_drewN _ _ _) (congrArg (World.drewN _) (Nat.add_assoc _ _ _))⟩))|(go_at_call 90;(with_reducible refine(impl_isWhen.calls a2 false _ A10.out).mono ?_);rintro e w' ⟨rfl,⟨nd,rfl⟩⟩;(try first|exact⟨rfl,_,World.drewN_drewN _ _ _⟩|exact⟨rfl,_,Eq.trans (World.drewN_drewN _ _ _) (congrArg (World.drewN _) (Nat.add_assoc _ _ _))⟩)));try go_wp2_with (first|(go_at_call 88;(with_reducible refine(impl_GoodPlan.calls k _ _ l0 true _ ?side1 ?side2 A6.out).mono ?_);(case side1=>exact bC HR0.out);(case side2=>exact HC0.out);rintro e w14 ⟨rfl,hb⟩;have n0_:=Aside0.mk (below_step (bB) hb);clear HB;have HB:=n0_;clear n0_;(try clear hb);(try clear hb2);(try clear hk);(try clear hi))|(go_at_call 89;(with_reducible refine(impl_isNode.calls a1 true _ A8.out).mono ?_);rintro e w' ⟨rfl,⟨nd,rfl⟩⟩;(try first|exact⟨rfl,_,World.drewN_drewN _ _ _⟩|exact⟨rfl,_,Eq.trans (World.drewN_drewN _ _ _) (congrArg (World.drewN _) (Nat.add_assoc _ _ _))⟩))|(go_at_call 90;(with_reducible refine(impl_isWhen.calls a2 false _ A10.out).mono ?_);rintro e w' ⟨rfl,⟨nd,rfl⟩⟩;(try first|exact⟨rfl,_,World.drewN_drewN _ _ _⟩|exact⟨rfl,_,Eq.trans (World.drewN_drewN _ _ _) (congrArg (World.drewN _) (Nat.add_assoc _ _ _))⟩))))
     go_meet
     case rel=>exact⟨_,(true),(bR),H',⟨by first|omega|exact Nat.le_refl _⟩,⟨by repeat (first|(with_reducible first|exact HB.out|apply below_alloc|apply pw_below_drewN|apply below_drew1)|exact HB.out)⟩⟩
   ·replace c9:=Bool.eq_false_iff.mpr c9
    subst c9
    have H1:(impl_RouteTo.j0 k l0 a1 a2 a3 true)=some (r1,r2,r3):=by rw[if_neg (show ¬ (false=true) by decide)] at H;exact H
    clear H
    have H:=H1
    clear H1
    have H':=Aside0.mk H
    clear H
    go_wp2_with (first|(go_at_call 88;(with_reducible refine(impl_GoodPlan.calls k _ _ l0 true _ ?side1 ?side2 A6.out).mono ?_);(case side1=>exact bC HR0.out);(case side2=>exact HC0.out);rintro e w15 ⟨rfl,hb⟩;have n0_:=Aside0.mk (below_step (bB) hb);clear HB;have HB:=n0_;clear n0_;(try clear hb);(try clear hb2);(try clear hk);(try clear hi))|(go_at_call 89;(with_reducible refine(impl_isNode.calls a1 false _ A8.out).mono ?_);rintro e w' ⟨rfl,⟨nd,rfl⟩⟩;(try first|exact⟨rfl,_,World.drewN_drewN _ _ _⟩|exact⟨rfl,_,Eq.trans (World.drewN_drewN _ _ _) (congrArg (World.drewN _) (Nat.add_assoc _ _ _))⟩)))
    repeat (go_quiet (first|(go_at_call 88;(with_reducible refine(impl_GoodPlan.calls k _ _ l0 true _ ?side1 ?side2 A6.out).mono ?_);(case side1=>exact bC HR0.out);(case side2=>exact HC0.out);rintro e w15 ⟨rfl,hb⟩;have n0_:=Aside0.mk (below_step (bB) hb);clear HB;have HB:=n0_;clear n0_;(try clear hb);(try clear hb2);(try clear hk);(try clear hi))|(go_at_call 89;(with_reducible refine(impl_isNode.calls a1 false _ A8.out).mono ?_);rintro e w' ⟨rfl,⟨nd,rfl⟩⟩;(try first|exact⟨rfl,_,World.drewN_drewN _ _ _⟩|exact⟨rfl,_,Eq.trans (World.drewN_drewN _ _ _) (congrArg (World.drewN _) (Nat.add_assoc _ _ _))⟩)));try go_wp2_with (first|(go_at_call 88;(with_reducible refine(impl_GoodPlan.calls k _ _ l0 true _ ?side1 ?side2 A6.out).mono ?_);(case side1=>exact bC HR0.out);(case side2=>exact HC0.out);rintro e w15 ⟨rfl,hb⟩;have n0_:=Aside0.mk (below_step (bB) hb);clear HB;have HB:=n0_;clear n0_;(try clear hb);(try clear hb2);(try clear hk);(try clear hi))|(go_at_call 89;(with_reducible refine(impl_isNode.calls a1 false _ A8.out).mono ?_);rintro e w' ⟨rfl,⟨nd,rfl⟩⟩;(try first|exact⟨rfl,_,World.drewN_drewN _ _ _⟩|exact⟨rfl,_,Eq.trans (World.drewN_drewN _ _ _) (congrArg (World.drewN _) (Nat.add_assoc _ _ _))⟩))))
    go_meet
    case rel=>exact⟨_,(true),(bR),H',⟨by first|omega|exact Nat.le_refl _⟩,⟨by repeat (first|(with_reducible first|exact HB.out|apply below_alloc|apply pw_below_drewN|apply below_drew1)|exact HB.out)⟩⟩
  ·replace c7:=Bool.eq_false_iff.mpr c7
   subst c7
   have H1:(impl_RouteTo.j0 k l0 a1 a2 a3 true)=some (r1,r2,r3):=by rw[if_neg (show ¬ (false=true) by decide)] at H;exact H
   clear H
   have H:=H1
   clear H1
   have H':=Aside0.mk H
   clear H
   go_wp2_with (first|(go_at_call 88;(with_reducible refine(impl_GoodPlan.calls k _ _ l0 false _ ?side1 ?side2 A6.out).mono ?_);(case side1=>exact bC HR0.out);(case side2=>exact HC0.out);rintro e w16 ⟨rfl,hb⟩;have n0_:=Aside0.mk (below_step (bB) hb);clear HB;have HB:=n0_;clear n0_;(try clear hb);(try clear hb2);(try clear hk);(try clear hi)))
   repeat (go_quiet (first|(go_at_call 88;(with_reducible refine(impl_GoodPlan.calls k _ _ l0 false _ ?side1 ?side2 A6.out).mono ?_);(case side1=>exact bC HR0.out);(case side2=>exact HC0.out);rintro e w16 ⟨rfl,hb⟩;have n0_:=Aside0.mk (below_step (bB) hb);clear HB;have HB:=n0_;clear n0_;(try clear hb);(try clear hb2);(try clear hk);(try clear hi)));try go_wp2_with (first|(go_at_call 88;(with_reducible refine(impl_GoodPlan.calls k _ _ l0 false _ ?side1 ?side2 A6.out).mono ?_);(case side1=>exact bC HR0.out);(case side2=>exact HC0.out);rintro e w16 ⟨rfl,hb⟩;have n0_:=Aside0.mk (below_step (bB) hb);clear HB;have HB:=n0_;clear n0_;(try clear hb);(try clear hb2);(try clear hk);(try clear hi))))
   go_meet
   case rel=>exact⟨_,(true),(bR),H',⟨by first|omega|exact Nat.le_refl _⟩,⟨by repeat (first|(with_reducible first|exact HB.out|apply below_alloc|apply pw_below_drewN|apply below_drew1)|exact HB.out)⟩⟩
 case rest =>
  clear HC5
  try clear c1
  try clear p2
  try clear c6
  try clear c7
  try clear c9
  try clear c11
  obtain⟨kq,x32_4,rfl,HA,HJ4,HB⟩:=hcut
  cases kq with
  | zero=>exact absurd HA.out (by simp[impl_RouteTo.j0])
  | succ kj4 =>
   have H:=HA.out
   clear HA
   simp only[impl_RouteTo.j0] at H
   by_cases c17:x32_4=true
   ·subst c17
    have H1:(some (([]:List Int),0,false))=some (r1,r2,r3):=by rw[if_pos rfl] at H;exact H
    clear H
    have H:=H1
    clear H1
    simp only[Option.some.injEq,Prod.mk.injEq] at H
    obtain⟨rfl,rfl,rfl⟩:=H
    go_wp2
    repeat (go_quiet (fail);try go_wp2)
    go_ret3
    exact⟨_,by first|rfl|(simp[errW_none,errW_some]<;>rfl)|(simp[*,errW_none,errW_some]<;>rfl),by first|exact Kd.R_nil _ _ _ _ _|exact Kd.N_nil _ _ _ _ _|exact Kd.V_nil _ _ _ _ _|exact Kd.Q_nil _ _ _ _ _|exact Kd.S_nil _ _ _ _ _,bB⟩
   ·replace c17:=Bool.eq_false_iff.mpr c17
    subst c17
    have H1:((impl_reach.f kj4 l0 a1 a2).bind fun bt266=>(if 0≤a3 then (if a3 < (bt266.1.length:Int) then (if (rd bt266.1 a3) < 0 then (some (([]:List Int),0,false)) else (impl_RouteTo.l0 kj4 l0 a1 a3 bt266.1 bt266.2 (([]:List Int)) a3)) else (none)) else (none)))=some (r1,r2,r3):=by rw[if_neg (show ¬ (false=true) by decide)] at H;exact H
    clear H
    have H:=H1
    clear H1
    replace H:=Option.bind_eq_some_iff.mp H
    obtain⟨⟨t266,t267⟩,A180,H⟩:=H
    replace H:(if 0≤a3 then (if a3 < (t266.length:Int) then (if (rd t266 a3) < 0 then (some (([]:List Int),0,false)) else (impl_RouteTo.l0 kj4 l0 a1 a3 t266 t267 (([]:List Int)) a3)) else (none)) else (none))=some (r1,r2,r3):=H
    have A18:=Aside0.mk A180
    clear A180
    by_cases c19:0≤a3
    ·rw[if_pos c19] at H
     have c19b0:decide (0≤a3)=true:=decide_eq_true c19
     clear c19
     by_cases c20:a3 < (t266.length:Int)
     ·rw[if_pos c20] at H
      have c20b0:decide (a3 < (t266.length:Int))=true:=decide_eq_true c20
      clear c20
      by_cases c21:(rd t266 a3) < 0
      ·rw[if_pos c21] at H
       have c21b0:decide ((rd t266 a3) < 0)=true:=decide_eq_true c21
       clear c21
       simp only[Option.some.injEq,Prod.mk.injEq] at H
       obtain⟨rfl,rfl,rfl⟩:=H
       go_wp2_with (first|(go_at_call 91;(with_reducible refine(impl_reach.calls kj4 _ _ l0 a1 a2 t266 t267 _ ?side1 ?side2 A18.out).mono ?_);(case side1=>exact bC HR0.out);(case side2=>exact HC0.out);rintro e w22 ⟨v268,v270,rfl,ho0,ho1,hb⟩;have n0_:=Aside0.mk (Kd.R_lower ho0 (below_size (bB)));have n1_:=Aside0.mk (Kd.R_lower ho1 (below_size (bB)));have n2_:=Aside0.mk (below_step (bB) hb);clear HB;have HO269:=n0_;have HO271:=n1_;have HB:=n2_;clear n0_ n1_ n2_;(try clear hb);(try clear hb2);(try clear hk);(try clear hi);(try clear ho0);(try clear ho1);obtain⟨Ao23,co23,eo23⟩:=Kd.R_slice HO269.out;subst eo23;have p272:0≤(a3:Int):=of_decide_eq_true (bD);have q272:a3 < (t266.length:Int):=of_decide_eq_true (bD);obtain⟨ad272,e272,hx272_0⟩:=Kd.at_int (Kd.R_reads' HO269.out).2.2 a3 p272 q272;cases e272;replace p272:=eq_true p272;replace q272:=eq_true q272))
       repeat (go_quiet (first|(go_at_call 91;(with_reducible refine(impl_reach.calls kj4 _ _ l0 a1 a2 t266 t267 _ ?side1 ?side2 A18.out).mono ?_);(case side1=>exact bC HR0.out);(case side2=>exact HC0.out);rintro e w22 ⟨v268,v270,rfl,ho0,ho1,hb⟩;have n0_:=Aside0.mk (Kd.R_lower ho0 (below_size (bB)));have n1_:=Aside0.mk (Kd.R_lower ho1 (below_size (bB)));have n2_:=Aside0.mk (below_step (bB) hb);clear HB;have HO269:=n0_;have HO271:=n1_;have HB:=n2_;clear n0_ n1_ n2_;(try clear hb);(try clear hb2);(try clear hk);(try clear hi);(try clear ho0);(try clear ho1);obtain⟨Ao23,co23,eo23⟩:=Kd.R_slice HO269.out;subst eo23;have p272:0≤(a3:Int):=of_decide_eq_true (bD);have q272:a3 < (t266.length:Int):=of_decide_eq_true (bD);obtain⟨ad272,e272,hx272_0⟩:=Kd.at_int (Kd.R_reads' HO269.out).2.2 a3 p272 q272;cases e272;replace p272:=eq_true p272;replace q272:=eq_true q272));try go_wp2_with (first|(go_at_call 91;(with_reducible refine(impl_reach.calls kj4 _ _ l0 a1 a2 t266 t267 _ ?side1 ?side2 A18.out).mono ?_);(case side1=>exact bC HR0.out);(case side2=>exact HC0.out);rintro e w22 ⟨v268,v270,rfl,ho0,ho1,hb⟩;have n0_:=Aside0.mk (Kd.R_lower ho0 (below_size (bB)));have n1_:=Aside0.mk (Kd.R_lower ho1 (below_size (bB)));have n2_:=Aside0.mk (below_step (bB) hb);clear HB;have HO269:=n0_;have HO271:=n1_;have HB:=n2_;clear n0_ n1_ n2_;(try clear hb);(try clear hb2);(try clear hk);(try clear hi);(try clear ho0);(try clear ho1);obtain⟨Ao23,co23,eo23⟩:=Kd.R_slice HO269.out;subst eo23;have p272:0≤(a3:Int):=of_decide_eq_true (bD);have q272:a3 < (t266.length:Int):=of_decide_eq_true (bD);obtain⟨ad272,e272,hx272_0⟩:=Kd.at_int (Kd.R_reads' HO269.out).2.2 a3 p272 q272;cases e272;replace p272:=eq_true p272;replace q272:=eq_true q272)))
       go_ret3
       exact⟨_,by first|rfl|(simp[errW_none,errW_some]<;>rfl)|(simp[*,errW_none,errW_some]<;>rfl),by first|exact Kd.R_nil _ _ _ _ _|exact Kd.N_nil _ _ _ _ _|exact Kd.V_nil _ _ _ _ _|exact Kd.Q_nil _ _ _ _ _|exact Kd.S_nil _ _ _ _ _,bB⟩
      ·rw[if_neg c21] at H
       have c21b0:decide ((rd t266 a3) < 0)=false:=decide_eq_false c21
       clear c21
       obtain⟨y273,hy273⟩ : ∃ y_:List Int,y_=(([]:List Int)):=⟨_,rfl⟩
       replace H:(impl_RouteTo.l0 kj4 l0 a1 a3 t266 t267 y273 a3)=some (r1,r2,r3):=by first|(rw[hy273];with_reducible exact H)|(have H2_:=(Option.bind_some _ _).symm.trans H;rw[hy273];with_reducible exact H2_)|(have H2_:=(Option.bind_some _ _).symm.trans H;with_reducible exact H2_)|with_reducible exact H|(rw[hy273];exact H)|exact H
       have Ny273:=Aside0.mk hy273
       clear hy273
       have H':=Aside0.mk H
       clear H
       go_wp2_with (first|(go_at_call 91;(with_reducible refine(impl_reach.calls kj4 _ _ l0 a1 a2 t266 t267 _ ?side1 ?side2 A18.out).mono ?_);(case side1=>exact bC HR0.out);(case side2=>exact HC0.out);rintro e w24 ⟨v268,v270,rfl,ho0,ho1,hb⟩;have n0_:=Aside0.mk (Kd.R_lower ho0 (below_size (bB)));have n1_:=Aside0.mk (Kd.R_lower ho1 (below_size (bB)));have n2_:=Aside0.mk (below_step (bB) hb);clear HB;have HO269:=n0_;have HO271:=n1_;have HB:=n2_;clear n0_ n1_ n2_;(try clear hb);(try clear hb2);(try clear hk);(try clear hi);(try clear ho0);(try clear ho1);obtain⟨Ao25,co25,eo25⟩:=Kd.R_slice HO269.out;subst eo25;have p272:0≤(a3:Int):=of_decide_eq_true (bD);have q272:a3 < (t266.length:Int):=of_decide_eq_true (bD);obtain⟨ad272,e272,hx272_0⟩:=Kd.at_int (Kd.R_reads' HO269.out).2.2 a3 p272 q272;cases e272;replace p272:=eq_true p272;replace q272:=eq_true q272)|((with_reducible refine gate_dst (N:=45) rfl ?_);refine Kd.R_lit (Kd.int .i64) _ 3 ?hg (N:=45) ?hd (xs:=([]:List Int)) (inner:=[]) (ok:=fun _=>True) (okp:=fun _=>True) ?hr ?hp (fun _ hk=>hk) trivial (Below.refl _ _) (Nat.le_refl _) (by simp) ?_;(case hd=>rfl);(case hg=>rfl);(case hr=>first|(go_simp;done)|(go_simp;rfl));(case hp=>exact(Reps.none _ _));intro v274 w26 ho27 hb hg_ hnew_;clear hg_ hnew_;(first|rw[← Ny273.out] at ho27|(simp only[Int.reduceToNat] at ho27;rw[← Ny273.out] at ho27));have n0_:=Aside0.mk (Kd.R_elder' (bK HO269.out) (Kd.R_base ho27) hb);have n1_:=Aside0.mk (Kd.R_elder' (bK HO271.out) (Kd.R_base ho27) hb);have n2_:=Aside0.mk (Kd.R_lower (Kd.R_new' (Kd.R_new' ho27 (Kd.R_lt (bK HO269.out))) (Kd.R_lt (bK HO271.out))) (below_size (bB)));have n3_:=Aside0.mk (below_step (bB) hb);clear HO269 HO271 HB;have HO269:=n0_;have HO271:=n1_;have HO275:=n2_;have HB:=n3_;clear n0_ n1_ n2_ n3_;clear hb ho27))
       repeat (go_quiet (first|(go_at_call 91;(with_reducible refine(impl_reach.calls kj4 _ _ l0 a1 a2 t266 t267 _ ?side1 ?side2 A18.out).mono ?_);(case side1=>exact bC HR0.out);(case side2=>exact HC0.out);rintro e w24 ⟨v268,v270,rfl,ho0,ho1,hb⟩;have n0_:=Aside0.mk (Kd.R_lower ho0 (below_size (bB)));have n1_:=Aside0.mk (Kd.R_lower ho1 (below_size (bB)));have n2_:=Aside0.mk (below_step (bB) hb);clear HB;have HO269:=n0_;have HO271:=n1_;have HB:=n2_;clear n0_ n1_ n2_;(try clear hb);(try clear hb2);(try clear hk);(try clear hi);(try clear ho0);(try clear ho1);obtain⟨Ao25,co25,eo25⟩:=Kd.R_slice HO269.out;subst eo25;have p272:0≤(a3:Int):=of_decide_eq_true (bD);have q272:a3 < (t266.length:Int):=of_decide_eq_true (bD);obtain⟨ad272,e272,hx272_0⟩:=Kd.at_int (Kd.R_reads' HO269.out).2.2 a3 p272 q272;cases e272;replace p272:=eq_true p272;replace q272:=eq_true q272)|((with_reducible refine gate_dst (N:=45) rfl ?_);refine Kd.R_lit (Kd.int .i64) _ 3 ?hg (N:=45) ?hd (xs:=([]:List Int)) (inner:=[]) (ok:=fun _=>True) (okp:=fun _=>True) ?hr ?hp (fun _ hk=>hk) trivial (Below.refl _ _) (Nat.le_refl _) (by simp) ?_;(case hd=>rfl);(case hg=>rfl);(case hr=>first|(go_simp;done)|(go_simp;rfl));(case hp=>exact(Reps.none _ _));intro v274 w26 ho27 hb hg_ hnew_;clear hg_ hnew_;(first|rw[← Ny273.out] at ho27|(simp only[Int.reduceToNat] at ho27;rw[← Ny273.out] at ho27));have n0_:=Aside0.mk (Kd.R_elder' (bK HO269.out) (Kd.R_base ho27) hb);have n1_:=Aside0.mk (Kd.R_elder' (bK HO271.out) (Kd.R_base ho27) hb);have n2_:=Aside0.mk (Kd.R_lower (Kd.R_new' (Kd.R_new' ho27 (Kd.R_lt (bK HO269.out))) (Kd.R_lt (bK HO271.out))) (below_size (bB)));have n3_:=Aside0.mk (below_step (bB) hb);clear HO269 HO271 HB;have HO269:=n0_;have HO271:=n1_;have HO275:=n2_;have HB:=n3_;clear n0_ n1_ n2_ n3_;clear hb ho27));try go_wp2_with (first|(go_at_call 91;(with_reducible refine(impl_reach.calls kj4 _ _ l0 a1 a2 t266 t267 _ ?side1 ?side2 A18.out).mono ?_);(case side1=>exact bC HR0.out);(case side2=>exact HC0.out);rintro e w24 ⟨v268,v270,rfl,ho0,ho1,hb⟩;have n0_:=Aside0.mk (Kd.R_lower ho0 (below_size (bB)));have n1_:=Aside0.mk (Kd.R_lower ho1 (below_size (bB)));have n2_:=Aside0.mk (below_step (bB) hb);clear HB;have HO269:=n0_;have HO271:=n1_;have HB:=n2_;clear n0_ n1_ n2_;(try clear hb);(try clear hb2);(try clear hk);(try clear hi);(try clear ho0);(try clear ho1);obtain⟨Ao25,co25,eo25⟩:=Kd.R_slice HO269.out;subst eo25;have p272:0≤(a3:Int):=of_decide_eq_true (bD);have q272:a3 < (t266.length:Int):=of_decide_eq_true (bD);obtain⟨ad272,e272,hx272_0⟩:=Kd.at_int (Kd.R_reads' HO269.out).2.2 a3 p272 q272;cases e272;replace p272:=eq_true p272;replace q272:=eq_true q272)|((with_reducible refine gate_dst (N:=45) rfl ?_);refine Kd.R_lit (Kd.int .i64) _ 3 ?hg (N:=45) ?hd (xs:=([]:List Int)) (inner:=[]) (ok:=fun _=>True) (okp:=fun _=>True) ?hr ?hp (fun _ hk=>hk) trivial (Below.refl _ _) (Nat.le_refl _) (by simp) ?_;(case hd=>rfl);(case hg=>rfl);(case hr=>first|(go_simp;done)|(go_simp;rfl));(case hp=>exact(Reps.none _ _));intro v274 w26 ho27 hb hg_ hnew_;clear hg_ hnew_;(first|rw[← Ny273.out] at ho27|(simp only[Int.reduceToNat] at ho27;rw[← Ny273.out] at ho27));have n0_:=Aside0.mk (Kd.R_elder' (bK HO269.out) (Kd.R_base ho27) hb);have n1_:=Aside0.mk (Kd.R_elder' (bK HO271.out) (Kd.R_base ho27) hb);have n2_:=Aside0.mk (Kd.R_lower (Kd.R_new' (Kd.R_new' ho27 (Kd.R_lt (bK HO269.out))) (Kd.R_lt (bK HO271.out))) (below_size (bB)));have n3_:=Aside0.mk (below_step (bB) hb);clear HO269 HO271 HB;have HO269:=n0_;have HO271:=n1_;have HO275:=n2_;have HB:=n3_;clear n0_ n1_ n2_ n3_;clear hb ho27)))
       go_loopg [13,14] kj4 (fun kq v13 v14 w' => ∃ (x13_2:List Int) (x14_2:Int),v14=.int .i64 x14_2∧Aside0 (impl_RouteTo.l0 kq l0 a1 a3 t266 t267 x13_2 x14_2=some (r1,r2,r3))∧Aside0 (kq≤kj4)∧Aside0 (Kd.R (Kd.int .i64) 3 w' w.heap.size (fun k_=>some k_≠(v270:Value).ownBlock∧some k_≠(v13:Value).ownBlock) (.slice (some ad272) t266.length co25) t266)∧Aside0 (Kd.R (Kd.int .i64) 3 w' w.heap.size (fun k_=>some k_≠((.slice (some ad272) t266.length co25):Value).ownBlock∧some k_≠(v13:Value).ownBlock) v270 t267)∧Aside0 (Kd.R (Kd.int .i64) 3 w' w.heap.size (fun k_=>some k_≠((.slice (some ad272) t266.length co25):Value).ownBlock∧some k_≠(v270:Value).ownBlock) v13 x13_2)∧Aside0 (Below w.heap.size w w'))
       case atStart=>exact⟨(y273),(a3),(bR),H',⟨Nat.le_refl _⟩,⟨by(with_reducible repeat (first|apply Kd.R_alloc|apply Kd.R_drewN|apply Kd.R_drew));exact HO269.out⟩,⟨by(with_reducible repeat (first|apply Kd.R_alloc|apply Kd.R_drewN|apply Kd.R_drew));exact HO271.out⟩,⟨by(with_reducible repeat (first|apply Kd.R_alloc|apply Kd.R_drewN|apply Kd.R_drew));exact Kd.R_mono HO275.out (fun _ hk=>⟨hk.1.2,hk.2⟩)⟩,⟨by repeat (first|(with_reducible first|exact HB.out|apply below_alloc|apply pw_below_drewN|apply below_drew1)|exact HB.out)⟩⟩
       case round =>
        clear H'
        try clear c1
        try clear c2
        try clear p2
        try clear q2
        try clear hx2
        try clear c6
        try clear c7
        try clear c9
        try clear c11
        try clear c17
        try clear c19
        try clear c19b0
        try clear c20
        try clear c20b0
        try clear c21
        try clear c21b0
        try clear p27
        try clear q27
        try clear hx27
        try clear hx272_0
        try clear p2
        try clear p272
        try clear q272
        obtain⟨x13_2,x14_2,rfl,HA,HK2,HO_11,HO_12,HO_13,HB⟩:=hrel
        cases gk with
        | zero=>exact absurd HA.out (by simp[impl_RouteTo.l0])
        | succ k2 =>
         have H:=HA.out
         clear HA
         simp only[impl_RouteTo.l0] at H
         by_cases c28:x14_2=a1
         ·rw[if_pos c28] at H
          have c28b0:(x14_2 == a1)=true:=beq_iff_eq.mpr c28
          have c28b1:(x14_2 != a1)=false:=bne_eq_false_iff_eq.mpr c28
          clear c28
          replace H:=Option.bind_eq_some_iff.mp H
          obtain⟨t276,A290,H⟩:=H
          replace H:(if 0≤a3 then (if a3 < (t266.length:Int) then (some (t276,rd t266 a3,true)) else (none)) else (none))=some (r1,r2,r3):=H
          have A29:=Aside0.mk A290
          clear A290
          by_cases c30:0≤a3
          ·rw[if_pos c30] at H
           have c30b0:decide (0≤a3)=true:=decide_eq_true c30
           clear c30
           by_cases c31:a3 < (t266.length:Int)
           ·rw[if_pos c31] at H
            have c31b0:decide (a3 < (t266.length:Int))=true:=decide_eq_true c31
            clear c31
            simp only[Option.some.injEq,Prod.mk.injEq] at H
            obtain⟨rfl,rfl,rfl⟩:=H
            obtain⟨Ao32,co32,eo32⟩:=Kd.R_slice HO_13.out
            subst eo32
            go_wp2_with (first|(go_at_call 126;(with_reducible refine(slices_Reverse_int_int.calls k2 (fun k_=>some k_=(.slice Ao32 x13_2.length co32:Value).ownBlock) (.slice Ao32 x13_2.length co32) x13_2 t276 w _ ?side1 ?side2 A29.out).mono ?_);(case side1=>repeat (first|(with_reducible first|exact HB.out|apply below_alloc|apply pw_below_drewN|apply below_drew1)|exact HB.out));(case side2=>exact Kd.R_tight rfl HO_13.out);rintro e w33 ⟨rfl,hy0,hb,hkp⟩;have n0_:=Aside0.mk (Kd.R_mono (ok':=fun k_=>some k_≠(v270:Value).ownBlock∧some k_≠(.slice Ao32 x13_2.length co32:Value).ownBlock) (Kd.R_keptB (HO_11.out) hkp (fun k_ hk_ hs_=>(hk_.2) hs_)) (fun k_ hk_=>⟨hk_.1.1,hk_.1.2⟩));have n1_:=Aside0.mk (Kd.R_mono (ok':=fun k_=>some k_≠(.slice (some ad272) t266.length co25:Value).ownBlock∧some k_≠(.slice Ao32 x13_2.length co32:Value).ownBlock) (Kd.R_keptB (HO_12.out) hkp (fun k_ hk_ hs_=>(hk_.2) hs_)) (fun k_ hk_=>⟨hk_.1.1,hk_.1.2⟩));have n2_:=Aside0.mk (Kd.R_reok rfl hy0 (fun k_ e_=>HO_13.out.1 k_ e_));have n3_:=Aside0.mk (hb);clear HO_11 HO_12 HO_13 HB;have HO_11:=n0_;have HO_12:=n1_;have HO_13:=n2_;have HB:=n3_;clear n0_ n1_ n2_ n3_;(try clear hb);(try clear hkp);(try clear hy0);have p277:0≤(a3:Int):=of_decide_eq_true (bD);have q277:a3 < (t266.length:Int):=of_decide_eq_true (bD);obtain⟨ad277,e277,hx277_0⟩:=Kd.at_int (Kd.R_reads' HO_11.out).2.2 a3 p277 q277;obtain rfl:ad272=ad277:=(by injection e277);replace p277:=eq_true p277;replace q277:=eq_true q277))
            repeat (go_quiet (first|(go_at_call 126;(with_reducible refine(slices_Reverse_int_int.calls k2 (fun k_=>some k_=(.slice Ao32 x13_2.length co32:Value).ownBlock) (.slice Ao32 x13_2.length co32) x13_2 t276 w _ ?side1 ?side2 A29.out).mono ?_);(case side1=>repeat (first|(with_reducible first|exact HB.out|apply below_alloc|apply pw_below_drewN|apply below_drew1)|exact HB.out));(case side2=>exact Kd.R_tight rfl HO_13.out);rintro e w33 ⟨rfl,hy0,hb,hkp⟩;have n0_:=Aside0.mk (Kd.R_mono (ok':=fun k_=>some k_≠(v270:Value).ownBlock∧some k_≠(.slice Ao32 x13_2.length co32:Value).ownBlock) (Kd.R_keptB (HO_11.out) hkp (fun k_ hk_ hs_=>(hk_.2) hs_)) (fun k_ hk_=>⟨hk_.1.1,hk_.1.2⟩));have n1_:=Aside0.mk (Kd.R_mono (ok':=fun k_=>some k_≠(.slice (some ad272) t266.length co25:Value).ownBlock∧some k_≠(.slice Ao32 x13_2.length co32:Value).ownBlock) (Kd.R_keptB (HO_12.out) hkp (fun k_ hk_ hs_=>(hk_.2) hs_)) (fun k_ hk_=>⟨hk_.1.1,hk_.1.2⟩));have n2_:=Aside0.mk (Kd.R_reok rfl hy0 (fun k_ e_=>HO_13.out.1 k_ e_));have n3_:=Aside0.mk (hb);clear HO_11 HO_12 HO_13 HB;have HO_11:=n0_;have HO_12:=n1_;have HO_13:=n2_;have HB:=n3_;clear n0_ n1_ n2_ n3_;(try clear hb);(try clear hkp);(try clear hy0);have p277:0≤(a3:Int):=of_decide_eq_true (bD);have q277:a3 < (t266.length:Int):=of_decide_eq_true (bD);obtain⟨ad277,e277,hx277_0⟩:=Kd.at_int (Kd.R_reads' HO_11.out).2.2 a3 p277 q277;obtain rfl:ad272=ad277:=(by injection e277);replace p277:=eq_true p277;replace q277:=eq_true q277));try go_wp2_with (first|(go_at_call 126;(with_reducible refine(slices_Reverse_int_int.calls k2 (fun k_=>some k_=(.slice Ao32 x13_2.length co32:Value).ownBlock) (.slice Ao32 x13_2.length co32) x13_2 t276 w _ ?side1 ?side2 A29.out).mono ?_);(case side1=>repeat (first|(with_reducible first|exact HB.out|apply below_alloc|apply pw_below_drewN|apply below_drew1)|exact HB.out));(case side2=>exact Kd.R_tight rfl HO_13.out);rintro e w33 ⟨rfl,hy0,hb,hkp⟩;have n0_:=Aside0.mk (Kd.R_mono (ok':=fun k_=>some k_≠(v270:Value).ownBlock∧some k_≠(.slice Ao32 x13_2.length co32:Value).ownBlock) (Kd.R_keptB (HO_11.out) hkp (fun k_ hk_ hs_=>(hk_.2) hs_)) (fun k_ hk_=>⟨hk_.1.1,hk_.1.2⟩));have n1_:=Aside0.mk (Kd.R_mono (ok':=fun k_=>some k_≠(.slice (some ad272) t266.length co25:Value).ownBlock∧some k_≠(.slice Ao32 x13_2.length co32:Value).ownBlock) (Kd.R_keptB (HO_12.out) hkp (fun k_ hk_ hs_=>(hk_.2) hs_)) (fun k_ hk_=>⟨hk_.1.1,hk_.1.2⟩));have n2_:=Aside0.mk (Kd.R_reok rfl hy0 (fun k_ e_=>HO_13.out.1 k_ e_));have n3_:=Aside0.mk (hb);clear HO_11 HO_12 HO_13 HB;have HO_11:=n0_;have HO_12:=n1_;have HO_13:=n2_;have HB:=n3_;clear n0_ n1_ n2_ n3_;(try clear hb);(try clear hkp);(try clear hy0);have p277:0≤(a3:Int):=of_decide_eq_true (bD);have q277:a3 < (t266.length:Int):=of_decide_eq_true (bD);obtain⟨ad277,e277,hx277_0⟩:=Kd.at_int (Kd.R_reads' HO_11.out).2.2 a3 p277 q277;obtain rfl:ad272=ad277:=(by injection e277);replace p277:=eq_true p277;replace q277:=eq_true q277)))
            go_ret3
            exact⟨_,by first|rfl|(simp[errW_none,errW_some]<;>rfl)|(simp[*,errW_none,errW_some]<;>rfl),by(with_reducible repeat (first|apply Kd.R_alloc|apply Kd.R_drewN|apply Kd.R_drew));exact Kd.R_mono HO_13.out (fun _ hk=>trivial),bB⟩
           ·rw[if_neg c31] at H
            exact absurd H (by simp)
          ·rw[if_neg c30] at H
           exact absurd H (by simp)
         ·rw[if_neg c28] at H
          have c28b0:(x14_2 == a1)=false:=beq_eq_false_iff_ne.mpr c28
          have c28b1:(x14_2 != a1)=true:=bne_iff_ne.mpr c28
          by_cases c34:0≤x14_2
          ·rw[if_pos c34] at H
           have c34b0:decide (0≤x14_2)=true:=decide_eq_true c34
           clear c34
           by_cases c35:x14_2 < (t267.length:Int)
           ·rw[if_pos c35] at H
            have c35b0:decide (x14_2 < (t267.length:Int))=true:=decide_eq_true c35
            clear c35
            by_cases c36:x13_2.length < 17592186044416
            ·rw[if_pos c36] at H
             have LMc36:=Aside0.mk c36
             clear c36
             obtain⟨y279,hy279⟩ : ∃ y_:List Int,y_=(x13_2++[rd t267 x14_2]):=⟨_,rfl⟩
             replace H:(if 0≤(rd t267 x14_2) then (if (rd t267 x14_2) < (l0.length:Int) then (impl_RouteTo.l0 k2 l0 a1 a3 t266 t267 y279 ((rd_T104 l0 (rd t267 x14_2)).f0)) else (none)) else (none))=some (r1,r2,r3):=by first|(rw[hy279];with_reducible exact H)|(have H2_:=(Option.bind_some _ _).symm.trans H;rw[hy279];with_reducible exact H2_)|(have H2_:=(Option.bind_some _ _).symm.trans H;with_reducible exact H2_)|with_reducible exact H|(rw[hy279];exact H)|exact H
             have Ny279:=Aside0.mk hy279
             clear hy279
             by_cases c37:0≤(rd t267 x14_2)
             ·rw[if_pos c37] at H
              have c37b0:decide (0≤(rd t267 x14_2))=true:=decide_eq_true c37
              clear c37
              by_cases c38:(rd t267 x14_2) < (l0.length:Int)
              ·rw[if_pos c38] at H
               have c38b0:decide ((rd t267 x14_2) < (l0.length:Int))=true:=decide_eq_true c38
               clear c38
               have H':=Aside0.mk H
               clear H
               obtain⟨Ao39,co39,eo39⟩:=Kd.R_slice HO_12.out
               subst eo39
               have p278:0≤(x14_2:Int):=of_decide_eq_true (bD)
               have q278:x14_2 < (t267.length:Int):=of_decide_eq_true (bD)
               obtain⟨ad278,e278,hx278_0⟩:=Kd.at_int (Kd.R_reads' HO_12.out).2.2 x14_2 p278 q278
               cases e278
               replace p278:=eq_true p278
               replace q278:=eq_true q278
               go_wp2_with (first|((with_reducible refine gate_builtin (b:=.append) (xs:=#[.tmp 58,.tmp 63]) rfl ?_);at_builtin;refine Kd.R_append (Kd.int .i64) (w0:=w) w.heap.size rfl (.tmp 58) (.tmp 63) 37 3 (.int .i64 0) 8 rfl Try.underlying37 info3 rfl (by decide) (by omega) u13 x13_2 (rd t267 x14_2) [.int .i64 (rd t267 x14_2)] (fun k_=>some k_≠(.slice (some ad272) t266.length co25:Value).ownBlock∧some k_≠(.slice (some ad278) t267.length co39:Value).ownBlock) (fun _=>False) rfl rfl ?aP (fun _ hk=>hk.elim) ?aF ?aO ?aB ?aS ?aL ?_;(case aP=>exact rfl);(case aB=>exact(bB));(case aF=>exact(fun k_ hk=>⟨Kd.fresh' (Kd.R_lt (bK HO_11.out)) k_ hk,Kd.fresh' (Kd.R_lt (bK HO_12.out)) k_ hk⟩));(case aO=>exact(bK HO_13.out));(case aS=>exact(below_size (bB)));(case aL=>have:=LMc36.out;omega);intro v280 w40 ho hb hg hat;rw[← Ny279.out] at ho;have n0_:=Aside0.mk (Kd.R_after (ok:=(fun k_=>some k_≠(.slice (some ad278) t267.length co39:Value).ownBlock)) (bK HO_11.out) hg hat);have n1_:=Aside0.mk (Kd.R_after (ok:=(fun k_=>some k_≠(.slice (some ad272) t266.length co25:Value).ownBlock)) (bK HO_12.out) hg hat);have n2_:=Aside0.mk (hb);have n3_:=Aside0.mk (ho);clear HO_11 HO_12 HB HO_13;have HO_11:=n0_;have HO_12:=n1_;have HB:=n2_;have HO281:=n3_;clear n0_ n1_ n2_ n3_;clear ho hb hg hat;have p282:0≤(x14_2:Int):=of_decide_eq_true (bD);have q282:x14_2 < (t267.length:Int):=of_decide_eq_true (bD);obtain⟨ad282,e282,hx282_0⟩:=Kd.at_int (Kd.R_reads' HO_12.out).2.2 x14_2 p282 q282;obtain rfl:ad278=ad282:=(by injection e282);replace p282:=eq_true p282;replace q282:=eq_true q282;have p283:0≤((rd t267 x14_2):Int):=of_decide_eq_true (bD);have q283:(rd t267 x14_2) < (l0.length:Int):=of_decide_eq_true (bD);obtain⟨ad283,e283,hx283_0,hx283_1,hx283_2,hx283_3,hx283_4⟩:=at_T104 HR0.out (rd t267 x14_2) p283 q283;cases e283;replace hx283_0:=(HB.out.cell (World.block_lt_of_cell? w _ hx283_0)).trans hx283_0;replace hx283_1:=(HB.out.cell (World.block_lt_of_cell? w _ hx283_1)).trans hx283_1;replace hx283_2:=(HB.out.cell (World.block_lt_of_cell? w _ hx283_2)).trans hx283_2;replace hx283_3:=(HB.out.cell (World.block_lt_of_cell? w _ hx283_3)).trans hx283_3;replace hx283_4:=(HB.out.cell (World.block_lt_of_cell? w _ hx283_4)).trans hx283_4;replace p283:=eq_true p283;replace q283:=eq_true q283))
               repeat (go_quiet (first|((with_reducible refine gate_builtin (b:=.append) (xs:=#[.tmp 58,.tmp 63]) rfl ?_);at_builtin;refine Kd.R_append (Kd.int .i64) (w0:=w) w.heap.size rfl (.tmp 58) (.tmp 63) 37 3 (.int .i64 0) 8 rfl Try.underlying37 info3 rfl (by decide) (by omega) u13 x13_2 (rd t267 x14_2) [.int .i64 (rd t267 x14_2)] (fun k_=>some k_≠(.slice (some ad272) t266.length co25:Value).ownBlock∧some k_≠(.slice (some ad278) t267.length co39:Value).ownBlock) (fun _=>False) rfl rfl ?aP (fun _ hk=>hk.elim) ?aF ?aO ?aB ?aS ?aL ?_;(case aP=>exact rfl);(case aB=>exact(bB));(case aF=>exact(fun k_ hk=>⟨Kd.fresh' (Kd.R_lt (bK HO_11.out)) k_ hk,Kd.fresh' (Kd.R_lt (bK HO_12.out)) k_ hk⟩));(case aO=>exact(bK HO_13.out));(case aS=>exact(below_size (bB)));(case aL=>have:=LMc36.out;omega);intro v280 w40 ho hb hg hat;rw[← Ny279.out] at ho;have n0_:=Aside0.mk (Kd.R_after (ok:=(fun k_=>some k_≠(.slice (some ad278) t267.length co39:Value).ownBlock)) (bK HO_11.out) hg hat);have n1_:=Aside0.mk (Kd.R_after (ok:=(fun k_=>some k_≠(.slice (some ad272) t266.length co25:Value).ownBlock)) (bK HO_12.out) hg hat);have n2_:=Aside0.mk (hb);have n3_:=Aside0.mk (ho);clear HO_11 HO_12 HB HO_13;have HO_11:=n0_;have HO_12:=n1_;have HB:=n2_;have HO281:=n3_;clear n0_ n1_ n2_ n3_;clear ho hb hg hat;have p282:0≤(x14_2:Int):=of_decide_eq_true (bD);have q282:x14_2 < (t267.length:Int):=of_decide_eq_true (bD);obtain⟨ad282,e282,hx282_0⟩:=Kd.at_int (Kd.R_reads' HO_12.out).2.2 x14_2 p282 q282;obtain rfl:ad278=ad282:=(by injection e282);replace p282:=eq_true p282;replace q282:=eq_true q282;have p283:0≤((rd t267 x14_2):Int):=of_decide_eq_true (bD);have q283:(rd t267 x14_2) < (l0.length:Int):=of_decide_eq_true (bD);obtain⟨ad283,e283,hx283_0,hx283_1,hx283_2,hx283_3,hx283_4⟩:=at_T104 HR0.out (rd t267 x14_2) p283 q283;cases e283;replace hx283_0:=(HB.out.cell (World.block_lt_of_cell? w _ hx283_0)).trans hx283_0;replace hx283_1:=(HB.out.cell (World.block_lt_of_cell? w _ hx283_1)).trans hx283_1;replace hx283_2:=(HB.out.cell (World.block_lt_of_cell? w _ hx283_2)).trans hx283_2;replace hx283_3:=(HB.out.cell (World.block_lt_of_cell? w _ hx283_3)).trans hx283_3;replace hx283_4:=(HB.out.cell (World.block_lt_of_cell? w _ hx283_4)).trans hx283_4;replace p283:=eq_true p283;replace q283:=eq_true q283));try go_wp2_with (first|((with_reducible refine gate_builtin (b:=.append) (xs:=#[.tmp 58,.tmp 63]) rfl ?_);at_builtin;refine Kd.R_append (Kd.int .i64) (w0:=w) w.heap.size rfl (.tmp 58) (.tmp 63) 37 3 (.int .i64 0) 8 rfl Try.underlying37 info3 rfl (by decide) (by omega) u13 x13_2 (rd t267 x14_2) [.int .i64 (rd t267 x14_2)] (fun k_=>some k_≠(.slice (some ad272) t266.length co25:Value).ownBlock∧some k_≠(.slice (some ad278) t267.length co39:Value).ownBlock) (fun _=>False) rfl rfl ?aP (fun _ hk=>hk.elim) ?aF ?aO ?aB ?aS ?aL ?_;(case aP=>exact rfl);(case aB=>exact(bB));(case aF=>exact(fun k_ hk=>⟨Kd.fresh' (Kd.R_lt (bK HO_11.out)) k_ hk,Kd.fresh' (Kd.R_lt (bK HO_12.out)) k_ hk⟩));(case aO=>exact(bK HO_13.out));(case aS=>exact(below_size (bB)));(case aL=>have:=LMc36.out;omega);intro v280 w40 ho hb hg hat;rw[← Ny279.out] at ho;have n0_:=Aside0.mk (Kd.R_after (ok:=(fun k_=>some k_≠(.slice (some ad278) t267.length co39:Value).ownBlock)) (bK HO_11.out) hg hat);have n1_:=Aside0.mk (Kd.R_after (ok:=(fun k_=>some k_≠(.slice (some ad272) t266.length co25:Value).ownBlock)) (bK HO_12.out) hg hat);have n2_:=Aside0.mk (hb);have n3_:=Aside0.mk (ho);clear HO_11 HO_12 HB HO_13;have HO_11:=n0_;have HO_12:=n1_;have HB:=n2_;have HO281:=n3_;clear n0_ n1_ n2_ n3_;clear ho hb hg hat;have p282:0≤(x14_2:Int):=of_decide_eq_true (bD);have q282:x14_2 < (t267.length:Int):=of_decide_eq_true (bD);obtain⟨ad282,e282,hx282_0⟩:=Kd.at_int (Kd.R_reads' HO_12.out).2.2 x14_2 p282 q282;obtain rfl:ad278=ad282:=(by injection e282);replace p282:=eq_true p282;replace q282:=eq_true q282;have p283:0≤((rd t267 x14_2):Int):=of_decide_eq_true (bD);have q283:(rd t267 x14_2) < (l0.length:Int):=of_decide_eq_true (bD);obtain⟨ad283,e283,hx283_0,hx283_1,hx283_2,hx283_3,hx283_4⟩:=at_T104 HR0.out (rd t267 x14_2) p283 q283;cases e283;replace hx283_0:=(HB.out.cell (World.block_lt_of_cell? w _ hx283_0)).trans hx283_0;replace hx283_1:=(HB.out.cell (World.block_lt_of_cell? w _ hx283_1)).trans hx283_1;replace hx283_2:=(HB.out.cell (World.block_lt_of_cell? w _ hx283_2)).trans hx283_2;replace hx283_3:=(HB.out.cell (World.block_lt_of_cell? w _ hx283_3)).trans hx283_3;replace hx283_4:=(HB.out.cell (World.block_lt_of_cell? w _ hx283_4)).trans hx283_4;replace p283:=eq_true p283;replace q283:=eq_true q283)))
               go_roundg k2
               case measure=>have:=HJ4.out;have:=HK2.out;omega
               case rel=>exact⟨(y279),((rd_T104 l0 (rd t267 x14_2)).f0),(bR),H',⟨by have:=HJ4.out;have:=HK2.out;omega⟩,⟨by(with_reducible repeat (first|apply Kd.R_alloc|apply Kd.R_drewN|apply Kd.R_drew));exact HO_11.out⟩,⟨by(with_reducible repeat (first|apply Kd.R_alloc|apply Kd.R_drewN|apply Kd.R_drew));exact HO_12.out⟩,⟨by(with_reducible repeat (first|apply Kd.R_alloc|apply Kd.R_drewN|apply Kd.R_drew));exact HO281.out⟩,⟨by repeat (first|(with_reducible first|exact HB.out|apply below_alloc|apply pw_below_drewN|apply below_drew1)|exact HB.out)⟩⟩
              ·rw[if_neg c38] at H
               exact absurd H (by simp)
             ·rw[if_neg c37] at H
              exact absurd H (by simp)
            ·rw[if_neg c36] at H
             exact absurd H (by simp)
           ·rw[if_neg c35] at H
            exact absurd H (by simp)
          ·rw[if_neg c34] at H
           exact absurd H (by simp)
     ·rw[if_neg c20] at H
      exact absurd H (by simp)
    ·rw[if_neg c19] at H
     exact absurd H (by simp)

end Go.Proofs.Yteneeohaoplpbaa.XFnExactReachAll
