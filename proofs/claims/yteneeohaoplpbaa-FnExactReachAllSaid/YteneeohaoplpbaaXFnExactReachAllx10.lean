-- Written by this session's own program (wip/xprint.py) out of the translation; Lean checks it.
import Derived.Test.YteneeohaoplpbaaXFnExactReachAllx0
import Derived.Test.YteneeohaoplpbaaXFnExactReachAllx1
import Derived.Test.YteneeohaoplpbaaXFnExactReachAllx8
import Derived.Test.YteneeohaoplpbaaXFnExactReachAllx9
namespace Go.Proofs.Yteneeohaoplpbaa.XFnExactReachAll
open Go.RowKit Go.Proofs.YteneeohaoplpbaaW.PrintWords Go.Proofs.YteneeohaoplpbaaW.PrintLast Go.Proofs.YteneeohaoplpbaaW.PrintMore
attribute [local go_sem] max2_int min2_int max_two min_two max_three min_three max_four min_four   -- for this text's walks alone
set_option linter.unusedVariables false
set_option linter.unusedSimpArgs false

/-! ### impl_rise: function 164 -/
def impl_rise.l0:Nat→List Int→Int→List Int→Int→Int→Option (Bool)
 | 0,_,_,_,_,_=>none
 | k+1,x0,x1,x7,x8,x9=>if x9 < x8 then (if 0≤x9 then (if x9 < (x7.length:Int) then (if (rd x7 x9) < 0 then (some false) else (if (rd x7 x9) ≥ x1 then (some false) else (if x9 > 0 then (if 0≤(wrap64 (x9 - 1)) then (if (wrap64 (x9 - 1)) < (x0.length:Int) then (if (rd x7 x9)≤(rd x0 (wrap64 (x9 - 1))) then (some false) else (impl_rise.l0 k x0 x1 x7 x8 (wrap64 (x9+1)))) else (none)) else (none)) else (impl_rise.l0 k x0 x1 x7 x8 (wrap64 (x9+1)))))) else (none)) else (none)) else (some true)
def impl_rise.f (k:Nat) (l0:List Int) (a1:Int):Option (Bool):=impl_rise.l0 k l0 a1 l0 (l0.length:Int) 0
theorem impl_rise.mono_l : ∀ k,(∀ y0 y1 y2 y3 y4,LeO (impl_rise.l0 k y0 y1 y2 y3 y4) (impl_rise.l0 (k+1) y0 y1 y2 y3 y4))
 | 0=>fun _ _ _ _ _ r h=>by simp[impl_rise.l0] at h
 | k+1=>by
  have ih0:=impl_rise.mono_l k
  ·intro y0 y1 y2 y3 y4
   unfold impl_rise.l0
   repeat' first
   | (with_reducible exact ih0 _ _ _ _ _)
   | (with_reducible exact LeO.refl _)
   | (with_reducible exact LeO.none _)
   | (with_reducible refine LeO.ite ?_ ?_)
   | (with_reducible refine LeO.bind ?_ (fun _ => ?_))
   | exact ih0 _ _ _ _ _
   | exact LeO.none _
   | refine LeO.ite ?_ ?_
   | refine LeO.bind ?_ (fun _ => ?_)
theorem impl_rise.mono : ∀ a0 a1 k,LeO (impl_rise.f k a0 a1) (impl_rise.f (k+1) a0 a1):=by
 intro a0 a1 k
 have ih0:=impl_rise.mono_l k
 unfold impl_rise.f
 repeat' first
  | (with_reducible exact ih0 _ _ _ _ _)
  | (with_reducible exact LeO.refl _)
  | (with_reducible exact LeO.none _)
  | (with_reducible refine LeO.ite ?_ ?_)
  | (with_reducible refine LeO.bind ?_ (fun _ => ?_))
  | exact ih0 _ _ _ _ _
  | exact LeO.none _
  | refine LeO.ite ?_ ?_
  | refine LeO.bind ?_ (fun _ => ?_)
set_option maxHeartbeats 8000000 in
set_option maxRecDepth 100000 in
theorem impl_rise.calls (k:Nat) (A0:Option Addr) (c0:Nat) (l0:List Int) (a1:Int) (r:Bool) (w:World) (hr0:Kd.C (Kd.int .i64) w A0 l0.length l0) (hc0:l0.length≤c0) (h:impl_rise.f k l0 a1=some r) :
  Calls Try.prog 164 #[.slice A0 l0.length c0,.int .i64 a1] w fun e w'=>e=.returned (.bool r)∧Drawn0 w w':=by
 have HR0:=Aside0.mk hr0
 have HC0:=Aside0.mk hc0
 clear hr0 hc0
 have H:(impl_rise.l0 k l0 a1 l0 (l0.length:Int) 0)=some r:=h
 clear h
 have H':=Aside0.mk H
 clear H
 go_enter Try.func164,Try.ntmps164
 go_wp2
 go_loopg [9] k (fun kq v9 w' => ∃ (x9_1:Int),v9=.int .i64 x9_1∧Aside0 (impl_rise.l0 kq l0 a1 l0 (l0.length:Int) x9_1=some r)∧Aside0 (kq≤k)∧Drawn0 w w')
 case atStart=>exact⟨(0),(bR),H',⟨Nat.le_refl _⟩,bW⟩
 case round =>
  clear H'
  try clear c1
  try clear p2
  obtain⟨x9_1,rfl,HA,HK1,⟨m1,rfl⟩⟩:=hrel
  cases gk with
  | zero=>exact absurd HA.out (by simp[impl_rise.l0])
  | succ k1 =>
   have H:=HA.out
   clear HA
   simp only[impl_rise.l0] at H
   by_cases c3:x9_1 < (l0.length:Int)
   ·rw[if_pos c3] at H
    have c3b0:decide (x9_1 < (l0.length:Int))=true:=decide_eq_true c3
    clear c3
    by_cases c4:0≤x9_1
    ·rw[if_pos c4] at H
     have c4b0:decide (0≤x9_1)=true:=decide_eq_true c4
     clear c4
     by_cases c5:x9_1 < (l0.length:Int)
     ·rw[if_pos c5] at H
      have c5b0:decide (x9_1 < (l0.length:Int))=true:=decide_eq_true c5
      clear c5
      by_cases c6:(rd l0 x9_1) < 0
      ·rw[if_pos c6] at H
       have c6b0:decide ((rd l0 x9_1) < 0)=true:=decide_eq_true c6
       clear c6
       obtain rfl:=Option.some.inj H
       have p298:0≤(x9_1:Int):=of_decide_eq_true (bD)
       have q298:x9_1 < (l0.length:Int):=of_decide_eq_true (bD)
       obtain⟨ad298,e298,hx298_0⟩:=Kd.at_int HR0.out x9_1 p298 q298
       cases e298
       replace p298:=eq_true p298
       replace q298:=eq_true q298
       go_wp2
       go_ret
       exact⟨bR,bW⟩
      ·rw[if_neg c6] at H
       have c6b0:decide ((rd l0 x9_1) < 0)=false:=decide_eq_false c6
       clear c6
       by_cases c7:(rd l0 x9_1) ≥ a1
       ·rw[if_pos c7] at H
        have c7b0:decide (a1≤(rd l0 x9_1))=true:=decide_eq_true c7
        clear c7
        obtain rfl:=Option.some.inj H
        have p298:0≤(x9_1:Int):=of_decide_eq_true (bD)
        have q298:x9_1 < (l0.length:Int):=of_decide_eq_true (bD)
        obtain⟨ad298,e298,hx298_0⟩:=Kd.at_int HR0.out x9_1 p298 q298
        cases e298
        replace p298:=eq_true p298
        replace q298:=eq_true q298
        go_wp2
        go_ret
        exact⟨bR,bW⟩
       ·rw[if_neg c7] at H
        have c7b0:decide (a1≤(rd l0 x9_1))=false:=decide_eq_false c7
        clear c7
        by_cases c8:x9_1 > 0
        ·rw[if_pos c8] at H
         have c8b0:decide (0 < x9_1)=true:=decide_eq_true c8
         clear c8
         obtain⟨ji9,hji9⟩ : ∃ j_:Int,(wrap64 (x9_1 - 1))=j_:=⟨_,rfl⟩
         replace H:(if 0≤(ji9) then (if (ji9) < (l0.length:Int) then (if (rd l0 x9_1)≤(rd l0 (ji9)) then (some false) else (impl_rise.l0 k1 l0 a1 l0 (l0.length:Int) (wrap64 (x9_1+1)))) else (none)) else (none))=some r:=by first|(rw[hji9] at H;exact H)|(simp only[hji9] at H ⊢;exact H)
         have hji9w:(IntKind.i64.wrap (x9_1 - 1))=ji9:=(i64_w _).trans hji9
         by_cases c10:0≤(ji9)
         ·rw[if_pos c10] at H
          have c10b0:decide (0≤(ji9))=true:=decide_eq_true c10
          clear c10
          by_cases c11:(ji9) < (l0.length:Int)
          ·rw[if_pos c11] at H
           have c11b0:decide ((ji9) < (l0.length:Int))=true:=decide_eq_true c11
           clear c11
           by_cases c12:(rd l0 x9_1)≤(rd l0 (ji9))
           ·rw[if_pos c12] at H
            have c12b0:decide ((rd l0 x9_1)≤(rd l0 (ji9)))=true:=decide_eq_true c12
            clear c12
            obtain rfl:=Option.some.inj H
            have p298:0≤(x9_1:Int):=of_decide_eq_true (bD)
            have q298:x9_1 < (l0.length:Int):=of_decide_eq_true (bD)
            obtain⟨ad298,e298,hx298_0⟩:=Kd.at_int HR0.out x9_1 p298 q298
            cases e298
            replace p298:=eq_true p298
            replace q298:=eq_true q298
            have p299:0≤((ji9):Int):=of_decide_eq_true (bD)
            have q299:(ji9) < (l0.length:Int):=of_decide_eq_true (bD)
            obtain⟨ad299,e299,hx299_0⟩:=Kd.at_int HR0.out (ji9) p299 q299
            obtain rfl:ad298=ad299:=(by injection e299)
            replace p299:=eq_true p299
            replace q299:=eq_true q299
            go_wp2
            go_ret
            exact⟨by first|rfl|(simp;done)|(simp only[← hji9]<;>(first|rfl|simp))|(simp[*];done),bW⟩
           ·rw[if_neg c12] at H
            have c12b0:decide ((rd l0 x9_1)≤(rd l0 (ji9)))=false:=decide_eq_false c12
            clear c12
            have H':=Aside0.mk H
            clear H
            have p298:0≤(x9_1:Int):=of_decide_eq_true (bD)
            have q298:x9_1 < (l0.length:Int):=of_decide_eq_true (bD)
            obtain⟨ad298,e298,hx298_0⟩:=Kd.at_int HR0.out x9_1 p298 q298
            cases e298
            replace p298:=eq_true p298
            replace q298:=eq_true q298
            have p299:0≤((ji9):Int):=of_decide_eq_true (bD)
            have q299:(ji9) < (l0.length:Int):=of_decide_eq_true (bD)
            obtain⟨ad299,e299,hx299_0⟩:=Kd.at_int HR0.out (ji9) p299 q299
            obtain rfl:ad298=ad299:=(by injection e299)
            replace p299:=eq_true p299
            replace q299:=eq_true q299
            go_wp2
            go_roundg k1
            case measure=>have:=HK1.out;omega
            case rel=>exact⟨(wrap64 (x9_1+1)),(bR),H',⟨by have:=HK1.out;omega⟩,bW⟩
          ·rw[if_neg c11] at H
           exact absurd H (by simp)
         ·rw[if_neg c10] at H
          exact absurd H (by simp)
        ·rw[if_neg c8] at H
         have c8b0:decide (0 < x9_1)=false:=decide_eq_false c8
         clear c8
         have H':=Aside0.mk H
         clear H
         have p298:0≤(x9_1:Int):=of_decide_eq_true (bD)
         have q298:x9_1 < (l0.length:Int):=of_decide_eq_true (bD)
         obtain⟨ad298,e298,hx298_0⟩:=Kd.at_int HR0.out x9_1 p298 q298
         cases e298
         replace p298:=eq_true p298
         replace q298:=eq_true q298
         go_wp2
         go_roundg k1
         case measure=>have:=HK1.out;omega
         case rel=>exact⟨(wrap64 (x9_1+1)),(bR),H',⟨by have:=HK1.out;omega⟩,bW⟩
     ·rw[if_neg c5] at H
      exact absurd H (by simp)
    ·rw[if_neg c4] at H
     exact absurd H (by simp)
   ·rw[if_neg c3] at H
    have c3b0:decide (x9_1 < (l0.length:Int))=false:=decide_eq_false c3
    clear c3
    obtain rfl:=Option.some.inj H
    go_wp2
    go_ret
    exact⟨bR,bW⟩

/-! ### impl_areMembers: function 130 -/
def impl_areMembers.f (k:Nat) (l0:List Int):Option (Bool):=(impl_rise.f k l0 8).bind fun t300=>(some t300)
theorem impl_areMembers.mono : ∀ a0 k,LeO (impl_areMembers.f k a0) (impl_areMembers.f (k+1) a0):=by
 intro a0 k
 unfold impl_areMembers.f
 repeat' first
  | (with_reducible exact impl_rise.mono _ _ _)
  | (with_reducible exact LeO.refl _)
  | (with_reducible exact LeO.none _)
  | (with_reducible refine LeO.ite ?_ ?_)
  | (with_reducible refine LeO.bind ?_ (fun _ => ?_))
  | exact impl_rise.mono _ _ _
  | exact LeO.none _
  | refine LeO.ite ?_ ?_
  | refine LeO.bind ?_ (fun _ => ?_)
set_option maxHeartbeats 8000000 in
set_option maxRecDepth 100000 in
theorem impl_areMembers.calls (k:Nat) (A0:Option Addr) (c0:Nat) (l0:List Int) (r:Bool) (w:World) (hr0:Kd.C (Kd.int .i64) w A0 l0.length l0) (hc0:l0.length≤c0) (h:impl_areMembers.f k l0=some r) :
  Calls Try.prog 130 #[.slice A0 l0.length c0] w fun e w'=>e=.returned (.bool r)∧Drawn0 w w':=by
 have HR0:=Aside0.mk hr0
 have HC0:=Aside0.mk hc0
 clear hr0 hc0
 have H:((impl_rise.f k l0 8).bind fun t300=>(some t300))=some r:=h
 clear h
 replace H:=Option.bind_eq_some_iff.mp H
 obtain⟨t300,A20,H⟩:=H
 have A2:=Aside0.mk A20
 clear A20
 obtain rfl:=Option.some.inj H
 go_enter Try.func130,Try.ntmps130
 go_wp2_with (first|((with_reducible refine gate_callee (f:=164) rfl ?_);refine goesA (some 4) rfl rfl Try.func164 #[.slice A0 l0.length c0,.int .i64 8] rfl ?_;(with_reducible refine(impl_rise.calls k _ _ l0 8 t300 _ ?side1 ?side2 A2.out).mono ?_);(case side1=>repeat (first|exact HR0.out|(with_reducible refine Kd.C_alloc ?_ _)|(with_reducible refine Kd.C_drewN ?_ _)|(with_reducible refine Kd.C_drew ?_)));(case side2=>exact HC0.out);rintro e w' ⟨rfl,⟨nd,rfl⟩⟩;refine⟨_,rfl,?_⟩))
 go_ret
 exact⟨bR,bW⟩

/-! ### impl_ReachAll: function 67 -/
mutual
def impl_ReachAll.j0:Nat→List (S104)→List Int→Bool→Int→Int→Bool→Int→Int→Int→Int→Int→Int→ByteArray→Option ((List (S157)) × Bool)
 | 0,_,_,_,_,_,_,_,_,_,_,_,_,_=>none
 | k+1,x0,x2,x22,x302000,x302001,x302002,x302003,x302004,x302005,x302006,x302007,x302008,x302009=>if x22=true then (some (([]:List (S157)),false)) else (impl_ReachAll.l0 k x0 (([]:List (S157))) x2 (x2.length:Int) 0 x302000 x302001 x302002 x302003 x302004 x302005 x302006 x302007 x302008 x302009)
def impl_ReachAll.l0:Nat→List (S104)→List (S157)→List Int→Int→Int→Int→Int→Bool→Int→Int→Int→Int→Int→Int→ByteArray→Option ((List (S157)) × Bool)
 | 0,_,_,_,_,_,_,_,_,_,_,_,_,_,_,_=>none
 | k+1,x0,x8,x24,x25,x26,x302000,x302001,x302002,x302003,x302004,x302005,x302006,x302007,x302008,x302009=>if x26 < x25 then (if 0≤x26 then (if x26 < (x24.length:Int) then ((impl_RouteTo.f k x0 x302000 x302003 (rd x24 x26)).bind fun bt308=>(if bt308.2.2=true then (if bt308.2.1≤(wrap64 (x302003+x302005)) then (if (bt308.1.length:Int)≤x302006 then (if x8.length < 3518437208883 then (impl_ReachAll.l0 k x0 (x8++[(⟨rd x24 x26,bt308.2.1,bt308.1⟩:S157)]) x24 x25 (wrap64 (x26+1)) x302000 x302001 x302002 x302003 x302004 x302005 x302006 x302007 x302008 x302009) else (none)) else (impl_ReachAll.l0 k x0 x8 x24 x25 (wrap64 (x26+1)) x302000 x302001 x302002 x302003 x302004 x302005 x302006 x302007 x302008 x302009)) else (impl_ReachAll.l0 k x0 x8 x24 x25 (wrap64 (x26+1)) x302000 x302001 x302002 x302003 x302004 x302005 x302006 x302007 x302008 x302009)) else (impl_ReachAll.l0 k x0 x8 x24 x25 (wrap64 (x26+1)) x302000 x302001 x302002 x302003 x302004 x302005 x302006 x302007 x302008 x302009))) else (none)) else (none)) else (some (x8,true))
end
def impl_ReachAll.f (k:Nat) (l0:List (S104)) (a1_0:Int) (a1_1:Int) (a1_2:Bool) (a1_3:Int) (a1_4:Int) (a1_5:Int) (a1_6:Int) (a1_7:Int) (a1_8:Int) (a1_9:ByteArray) (l2:List Int):Option ((List (S157)) × Bool):=(impl_fits.f k l0 a1_0 a1_1 a1_2 a1_3 a1_4 a1_5 a1_6 a1_7 a1_8 a1_9).bind fun t302=>(if t302=true then ((impl_areMembers.f k l2).bind fun t303=>(impl_ReachAll.j0 k l0 l2 (!t303) a1_0 a1_1 a1_2 a1_3 a1_4 a1_5 a1_6 a1_7 a1_8 a1_9)) else (impl_ReachAll.j0 k l0 l2 true a1_0 a1_1 a1_2 a1_3 a1_4 a1_5 a1_6 a1_7 a1_8 a1_9))
theorem impl_ReachAll.mono_l : ∀ k,(∀ y0 y1 y2 y3 y4 y5 y6 y7 y8 y9 y10 y11 y12,LeO (impl_ReachAll.j0 k y0 y1 y2 y3 y4 y5 y6 y7 y8 y9 y10 y11 y12) (impl_ReachAll.j0 (k+1) y0 y1 y2 y3 y4 y5 y6 y7 y8 y9 y10 y11 y12))∧(∀ y0 y1 y2 y3 y4 y5 y6 y7 y8 y9 y10 y11 y12 y13 y14,LeO (impl_ReachAll.l0 k y0 y1 y2 y3 y4 y5 y6 y7 y8 y9 y10 y11 y12 y13 y14) (impl_ReachAll.l0 (k+1) y0 y1 y2 y3 y4 y5 y6 y7 y8 y9 y10 y11 y12 y13 y14))
 | 0=>⟨fun _ _ _ _ _ _ _ _ _ _ _ _ _ r h=>by simp[impl_ReachAll.j0] at h,fun _ _ _ _ _ _ _ _ _ _ _ _ _ _ _ r h=>by simp[impl_ReachAll.l0] at h⟩
 | k+1=>by
  obtain⟨ih0,ih1⟩:=impl_ReachAll.mono_l k
  refine⟨?_,?_⟩
  ·intro y0 y1 y2 y3 y4 y5 y6 y7 y8 y9 y10 y11 y12
   unfold impl_ReachAll.j0
   repeat' first
   | (with_reducible exact ih0 _ _ _ _ _ _ _ _ _ _ _ _ _)
   | (with_reducible exact ih1 _ _ _ _ _ _ _ _ _ _ _ _ _ _ _)
   | (with_reducible exact impl_RouteTo.mono _ _ _ _ _)
   | (with_reducible exact impl_areMembers.mono _ _)
   | (with_reducible exact impl_fits.mono _ _ _ _ _ _ _ _ _ _ _ _)
   | (with_reducible exact LeO.refl _)
   | (with_reducible exact LeO.none _)
   | (with_reducible refine LeO.ite ?_ ?_)
   | (with_reducible refine LeO.bind ?_ (fun _ => ?_))
   | exact ih0 _ _ _ _ _ _ _ _ _ _ _ _ _
   | exact ih1 _ _ _ _ _ _ _ _ _ _ _ _ _ _ _
   | exact impl_RouteTo.mono _ _ _ _ _
   | exact impl_areMembers.mono _ _
   | exact impl_fits.mono _ _ _ _ _ _ _ _ _ _ _ _
   | exact LeO.none _
   | refine LeO.ite ?_ ?_
   | refine LeO.bind ?_ (fun _ => ?_)
  ·intro y0 y1 y2 y3 y4 y5 y6 y7 y8 y9 y10 y11 y12 y13 y14
   unfold impl_ReachAll.l0
   repeat' first
   | (with_reducible exact ih0 _ _ _ _ _ _ _ _ _ _ _ _ _)
   | (with_reducible exact ih1 _ _ _ _ _ _ _ _ _ _ _ _ _ _ _)
   | (with_reducible exact impl_RouteTo.mono _ _ _ _ _)
   | (with_reducible exact impl_areMembers.mono _ _)
   | (with_reducible exact impl_fits.mono _ _ _ _ _ _ _ _ _ _ _ _)
   | (with_reducible exact LeO.refl _)
   | (with_reducible exact LeO.none _)
   | (with_reducible refine LeO.ite ?_ ?_)
   | (with_reducible refine LeO.bind ?_ (fun _ => ?_))
   | exact ih0 _ _ _ _ _ _ _ _ _ _ _ _ _
   | exact ih1 _ _ _ _ _ _ _ _ _ _ _ _ _ _ _
   | exact impl_RouteTo.mono _ _ _ _ _
   | exact impl_areMembers.mono _ _
   | exact impl_fits.mono _ _ _ _ _ _ _ _ _ _ _ _
   | exact LeO.none _
   | refine LeO.ite ?_ ?_
   | refine LeO.bind ?_ (fun _ => ?_)
theorem impl_ReachAll.mono : ∀ a0 a1 a2 a3 a4 a5 a6 a7 a8 a9 a10 a11 k,LeO (impl_ReachAll.f k a0 a1 a2 a3 a4 a5 a6 a7 a8 a9 a10 a11) (impl_ReachAll.f (k+1) a0 a1 a2 a3 a4 a5 a6 a7 a8 a9 a10 a11):=by
 intro a0 a1 a2 a3 a4 a5 a6 a7 a8 a9 a10 a11 k
 obtain⟨ih0,ih1⟩:=impl_ReachAll.mono_l k
 unfold impl_ReachAll.f
 repeat' first
  | (with_reducible exact ih0 _ _ _ _ _ _ _ _ _ _ _ _ _)
  | (with_reducible exact ih1 _ _ _ _ _ _ _ _ _ _ _ _ _ _ _)
  | (with_reducible exact impl_RouteTo.mono _ _ _ _ _)
  | (with_reducible exact impl_areMembers.mono _ _)
  | (with_reducible exact impl_fits.mono _ _ _ _ _ _ _ _ _ _ _ _)
  | (with_reducible exact LeO.refl _)
  | (with_reducible exact LeO.none _)
  | (with_reducible refine LeO.ite ?_ ?_)
  | (with_reducible refine LeO.bind ?_ (fun _ => ?_))
  | exact ih0 _ _ _ _ _ _ _ _ _ _ _ _ _
  | exact ih1 _ _ _ _ _ _ _ _ _ _ _ _ _ _ _
  | exact impl_RouteTo.mono _ _ _ _ _
  | exact impl_areMembers.mono _ _
  | exact impl_fits.mono _ _ _ _ _ _ _ _ _ _ _ _
  | exact LeO.none _
  | refine LeO.ite ?_ ?_
  | refine LeO.bind ?_ (fun _ => ?_)
set_option maxHeartbeats 8000000 in
set_option maxRecDepth 100000 in
theorem impl_ReachAll.calls (k:Nat) (A0:Option Addr) (c0:Nat) (l0:List (S104)) (a1_0:Int) (a1_1:Int) (a1_2:Bool) (a1_3:Int) (a1_4:Int) (a1_5:Int) (a1_6:Int) (a1_7:Int) (a1_8:Int) (a1_9:ByteArray) (A2:Option Addr) (c2:Nat) (l2:List Int) (r1:List (S157)) (r2:Bool) (w:World) (hr0:Kd.C k104 w A0 l0.length l0) (hc0:l0.length≤c0) (hr2:Kd.C (Kd.int .i64) w A2 l2.length l2) (hc2:l2.length≤c2) (h:impl_ReachAll.f k l0 a1_0 a1_1 a1_2 a1_3 a1_4 a1_5 a1_6 a1_7 a1_8 a1_9 l2=some (r1,r2)) :
  Calls Try.prog 67 #[.slice A0 l0.length c0,.agg #[.int .i64 a1_0,.int .i64 a1_1,.bool a1_2,.int .i64 a1_3,.int .i64 a1_4,.int .i64 a1_5,.int .i64 a1_6,.int .i64 a1_7,.int .i64 a1_8,.string a1_9],.slice A2 l2.length c2] w fun e w' => ∃ v0_:Value,e=.returned (.tuple #[v0_,.bool r2])∧Kd.S k157 157 w' w.heap.size (fun _=>True) v0_ r1∧Below w.heap.size w w':=by
 have hu86:=Try.underlying86
 have hu157:=Try.underlying157
 have HR0:=Aside0.mk hr0
 have HC0:=Aside0.mk hc0
 clear hr0 hc0
 have HR2:=Aside0.mk hr2
 have HC2:=Aside0.mk hc2
 clear hr2 hc2
 have HB:=Aside0.mk (Below.refl w.heap.size w)
 have H:((impl_fits.f k l0 a1_0 a1_1 a1_2 a1_3 a1_4 a1_5 a1_6 a1_7 a1_8 a1_9).bind fun t302=>(if t302=true then ((impl_areMembers.f k l2).bind fun t303=>(impl_ReachAll.j0 k l0 l2 (!t303) a1_0 a1_1 a1_2 a1_3 a1_4 a1_5 a1_6 a1_7 a1_8 a1_9)) else (impl_ReachAll.j0 k l0 l2 true a1_0 a1_1 a1_2 a1_3 a1_4 a1_5 a1_6 a1_7 a1_8 a1_9)))=some (r1,r2):=h
 clear h
 have HC4:=Aside0.mk H
 clear H
 go_enter Try.func67,Try.ntmps67
 go_upto_region 1 with (first|((with_reducible refine gate_dst (N:=4) rfl ?_);(try (refine gate_guard (by rfl) ?_;dsimp only));refine box_event ?hg (N:=4) ?hd (cs:=#[.int .i64 a1_0,.int .i64 a1_1,.bool a1_2,.int .i64 a1_3,.int .i64 a1_4,.int .i64 a1_5,.int .i64 a1_6,.int .i64 a1_7,.int .i64 a1_8,.string a1_9]) (t:=86) ?hr ?_;(case hd=>rfl);(case hg=>rfl);(case hr=>first|(go_simp;done)|(go_simp;rfl));intro gb301 hg w5 hbox hb;have n0_:=Aside0.mk (below_step (bB) hb);have n1_:=Aside0.mk (hbox);have n2_:=Aside0.mk ((bG:w.heap.size≤gb301));have n3_:=Aside0.mk ((bG:w.heap.size≤gb301));clear HB;have HB:=n0_;have BK301:=n1_;have GW301:=n2_;have GE301:=n3_;clear n0_ n1_ n2_ n3_;clear hb hbox hg))
 (try simp only[Act.put,List.setIfInBounds_toArray,List.set_cons_zero,List.set_cons_succ])
 go_cut [22] (fun v22 wc => ∃ (kq:Nat) (x22_3:Bool),v22=.bool x22_3∧Aside0 (impl_ReachAll.j0 kq l0 l2 x22_3 a1_0 a1_1 a1_2 a1_3 a1_4 a1_5 a1_6 a1_7 a1_8 a1_9=some (r1,r2))∧Aside0 (kq≤k)∧Aside0 (wc.heap[gb301]?=some (.cells #[.int .i64 a1_0,.int .i64 a1_1,.bool a1_2,.int .i64 a1_3,.int .i64 a1_4,.int .i64 a1_5,.int .i64 a1_6,.int .i64 a1_7,.int .i64 a1_8,.string a1_9] 86 (0,0)))∧Aside0 (Below w.heap.size w wc))
 case first =>
  have H:=HC4.out
  clear HC4
  replace H:=Option.bind_eq_some_iff.mp H
  obtain⟨t302,A60,H⟩:=H
  replace H:(if t302=true then ((impl_areMembers.f k l2).bind fun t303=>(impl_ReachAll.j0 k l0 l2 (!t303) a1_0 a1_1 a1_2 a1_3 a1_4 a1_5 a1_6 a1_7 a1_8 a1_9)) else (impl_ReachAll.j0 k l0 l2 true a1_0 a1_1 a1_2 a1_3 a1_4 a1_5 a1_6 a1_7 a1_8 a1_9))=some (r1,r2):=H
  have A6:=Aside0.mk A60
  clear A60
  by_cases c7:t302=true
  ·subst c7
   have H1:((impl_areMembers.f k l2).bind fun t303=>(impl_ReachAll.j0 k l0 l2 (!t303) a1_0 a1_1 a1_2 a1_3 a1_4 a1_5 a1_6 a1_7 a1_8 a1_9))=some (r1,r2):=by rw[if_pos rfl] at H;exact H
   clear H
   have H:=H1
   clear H1
   replace H:=Option.bind_eq_some_iff.mp H
   obtain⟨t303,A80,H⟩:=H
   replace H:(impl_ReachAll.j0 k l0 l2 (!t303) a1_0 a1_1 a1_2 a1_3 a1_4 a1_5 a1_6 a1_7 a1_8 a1_9)=some (r1,r2):=H
   have A8:=Aside0.mk A80
   clear A80
   have H':=Aside0.mk H
   clear H
   obtain⟨hcz9_0,hcz9_1,hcz9_2,hcz9_3,hcz9_4,hcz9_5,hcz9_6,hcz9_7,hcz9_8,hcz9_9⟩:=cC10 BK301.out
   obtain⟨hfz9_0,hfz9_1,hfz9_2,hfz9_3,hfz9_4,hfz9_5,hfz9_6,hfz9_7,hfz9_8,hfz9_9⟩:=cF10 BK301.out
   go_wp2_with (first|((with_reducible refine gate_callee (f:=121) rfl ?_);refine goesA (some 16) rfl rfl Try.func121 #[.slice A0 l0.length c0,.agg #[.int .i64 a1_0,.int .i64 a1_1,.bool a1_2,.int .i64 a1_3,.int .i64 a1_4,.int .i64 a1_5,.int .i64 a1_6,.int .i64 a1_7,.int .i64 a1_8,.string a1_9]] rfl ?_;(with_reducible refine(impl_fits.calls k _ _ l0 a1_0 a1_1 a1_2 a1_3 a1_4 a1_5 a1_6 a1_7 a1_8 a1_9 true _ ?side1 ?side2 A6.out).mono ?_);(case side1=>exact bC HR0.out);(case side2=>exact HC0.out);rintro e w10 ⟨rfl,hb⟩;refine⟨_,rfl,?_⟩;have n0_:=Aside0.mk (bM BK301.out hb);have n1_:=Aside0.mk (below_step (bS GE301.out) hb);clear BK301 HB;have BK301:=n0_;have HB:=n1_;clear n0_ n1_;(try clear hb);(try clear hb2);(try clear hk);(try clear hi))|(go_at_call 130;(with_reducible refine(impl_areMembers.calls k _ _ l2 t303 _ ?side1 ?side2 A8.out).mono ?_);(case side1=>exact bC HR2.out);(case side2=>exact HC2.out);rintro e w' ⟨rfl,⟨nd,rfl⟩⟩))
   go_meet
   case rel=>exact⟨_,(!t303),(bR),H',⟨by first|omega|exact Nat.le_refl _⟩,⟨by(with_reducible repeat (first|refine blk_drewN ?_ _|refine blk_drew ?_|refine blk_alloc ?_ _));exact BK301.out⟩,⟨bS GE301.out⟩⟩
  ·replace c7:=Bool.eq_false_iff.mpr c7
   subst c7
   have H1:(impl_ReachAll.j0 k l0 l2 true a1_0 a1_1 a1_2 a1_3 a1_4 a1_5 a1_6 a1_7 a1_8 a1_9)=some (r1,r2):=by rw[if_neg (show ¬ (false=true) by decide)] at H;exact H
   clear H
   have H:=H1
   clear H1
   have H':=Aside0.mk H
   clear H
   obtain⟨hcz11_0,hcz11_1,hcz11_2,hcz11_3,hcz11_4,hcz11_5,hcz11_6,hcz11_7,hcz11_8,hcz11_9⟩:=cC10 BK301.out
   obtain⟨hfz11_0,hfz11_1,hfz11_2,hfz11_3,hfz11_4,hfz11_5,hfz11_6,hfz11_7,hfz11_8,hfz11_9⟩:=cF10 BK301.out
   go_wp2_with (first|((with_reducible refine gate_callee (f:=121) rfl ?_);refine goesA (some 16) rfl rfl Try.func121 #[.slice A0 l0.length c0,.agg #[.int .i64 a1_0,.int .i64 a1_1,.bool a1_2,.int .i64 a1_3,.int .i64 a1_4,.int .i64 a1_5,.int .i64 a1_6,.int .i64 a1_7,.int .i64 a1_8,.string a1_9]] rfl ?_;(with_reducible refine(impl_fits.calls k _ _ l0 a1_0 a1_1 a1_2 a1_3 a1_4 a1_5 a1_6 a1_7 a1_8 a1_9 false _ ?side1 ?side2 A6.out).mono ?_);(case side1=>exact bC HR0.out);(case side2=>exact HC0.out);rintro e w12 ⟨rfl,hb⟩;refine⟨_,rfl,?_⟩;have n0_:=Aside0.mk (bM BK301.out hb);have n1_:=Aside0.mk (below_step (bS GE301.out) hb);clear BK301 HB;have BK301:=n0_;have HB:=n1_;clear n0_ n1_;(try clear hb);(try clear hb2);(try clear hk);(try clear hi)))
   go_meet
   case rel=>exact⟨_,(true),(bR),H',⟨by first|omega|exact Nat.le_refl _⟩,⟨by(with_reducible repeat (first|refine blk_drewN ?_ _|refine blk_drew ?_|refine blk_alloc ?_ _));exact BK301.out⟩,⟨bS GE301.out⟩⟩
 case rest =>
  clear HC4
  try clear c1
  try clear c2
  try clear p2
  try clear c6
  try clear c7
  try clear c12
  try clear hcz11_0 hcz11_1 hcz11_2 hcz11_3 hcz11_4 hcz11_5 hcz11_6 hcz11_7 hcz11_8 hcz11_9
  try clear hcz9_0 hcz9_1 hcz9_2 hcz9_3 hcz9_4 hcz9_5 hcz9_6 hcz9_7 hcz9_8 hcz9_9
  try clear hfz11_0 hfz11_1 hfz11_2 hfz11_3 hfz11_4 hfz11_5 hfz11_6 hfz11_7 hfz11_8 hfz11_9
  try clear hfz9_0 hfz9_1 hfz9_2 hfz9_3 hfz9_4 hfz9_5 hfz9_6 hfz9_7 hfz9_8 hfz9_9
  obtain⟨kq,x22_3,rfl,HA,HJ3,BK301,HB⟩:=hcut
  cases kq with
  | zero=>exact absurd HA.out (by simp[impl_ReachAll.j0])
  | succ kj3 =>
   have H:=HA.out
   clear HA
   simp only[impl_ReachAll.j0] at H
   by_cases c13:x22_3=true
   ·subst c13
    have H1:(some (([]:List (S157)),false))=some (r1,r2):=by rw[if_pos rfl] at H;exact H
    clear H
    have H:=H1
    clear H1
    simp only[Option.some.injEq,Prod.mk.injEq] at H
    obtain⟨rfl,rfl⟩:=H
    go_wp2
    go_ret2
    exact⟨_,by first|rfl|(simp[errW_none,errW_some]<;>rfl)|(simp[*,errW_none,errW_some]<;>rfl),by first|exact Kd.S_nil _ _ _ _ _|exact Kd.N_nil _ _ _ _ _|exact Kd.V_nil _ _ _ _ _|exact Kd.Q_nil _ _ _ _ _|exact Kd.R_nil _ _ _ _ _,bS GE301.out⟩
   ·replace c13:=Bool.eq_false_iff.mpr c13
    subst c13
    have H1:(impl_ReachAll.l0 kj3 l0 (([]:List (S157))) l2 (l2.length:Int) 0 a1_0 a1_1 a1_2 a1_3 a1_4 a1_5 a1_6 a1_7 a1_8 a1_9)=some (r1,r2):=by rw[if_neg (show ¬ (false=true) by decide)] at H;exact H
    clear H
    have H:=H1
    clear H1
    obtain⟨y304,hy304⟩ : ∃ y_:List (S157),y_=(([]:List (S157))):=⟨_,rfl⟩
    replace H:(impl_ReachAll.l0 kj3 l0 y304 l2 (l2.length:Int) 0 a1_0 a1_1 a1_2 a1_3 a1_4 a1_5 a1_6 a1_7 a1_8 a1_9)=some (r1,r2):=by first|(rw[hy304];with_reducible exact H)|(have H2_:=(Option.bind_some _ _).symm.trans H;rw[hy304];with_reducible exact H2_)|(have H2_:=(Option.bind_some _ _).symm.trans H;with_reducible exact H2_)|with_reducible exact H|(rw[hy304];exact H)|exact H
    have Ny304:=Aside0.mk hy304
    clear hy304
    have H':=Aside0.mk H
    clear H
    go_wp2_with (first|((with_reducible refine gate_dst (N:=23) rfl ?_);(try (refine gate_guard (by rfl) ?_;dsimp only));refine Kd.S_lit k157 _ 157 ?hg (N:=23) ?hd (xs:=([]:List (S157))) (inner:=[]) (ok:=fun _=>True) (okp:=fun _=>True) ?hr ?hp (fun _ hk=>hk) trivial (Below.refl _ _) (Nat.le_refl _) (by simp) ?_;(case hd=>rfl);(case hg=>rfl);(case hr=>first|(go_simp;done)|(go_simp;rfl));(case hp=>exact(Reps.none _ _));intro v305 w14 ho15 hb hg_ hnew_;clear hg_ hnew_;(first|rw[← Ny304.out] at ho15|(simp only[Int.reduceToNat] at ho15;rw[← Ny304.out] at ho15));have n0_:=Aside0.mk (Kd.S_lower ho15 (below_size (bS GE301.out)));have n1_:=Aside0.mk (bM BK301.out hb);have n2_:=Aside0.mk (below_step (bS GE301.out) hb);clear BK301 HB;have HO306:=n0_;have BK301:=n1_;have HB:=n2_;clear n0_ n1_ n2_;clear hb ho15))
    go_loopg [8,26] kj3 (fun kq v8 v26 w' => ∃ (x8_2:List (S157)) (x26_2:Int),v26=.int .i64 x26_2∧Aside0 (impl_ReachAll.l0 kq l0 x8_2 l2 (l2.length:Int) x26_2 a1_0 a1_1 a1_2 a1_3 a1_4 a1_5 a1_6 a1_7 a1_8 a1_9=some (r1,r2))∧Aside0 (kq≤kj3)∧Aside0 (Kd.S k157 157 w' w.heap.size (fun _=>True) v8 x8_2)∧Aside0 (w'.heap[gb301]?=some (.cells #[.int .i64 a1_0,.int .i64 a1_1,.bool a1_2,.int .i64 a1_3,.int .i64 a1_4,.int .i64 a1_5,.int .i64 a1_6,.int .i64 a1_7,.int .i64 a1_8,.string a1_9] 86 (0,0)))∧Aside0 (Below w.heap.size w w'))
    case atStart=>exact⟨(y304),(0),(bR),H',⟨Nat.le_refl _⟩,⟨by(with_reducible repeat (first|apply Kd.S_alloc|apply Kd.S_drewN|apply Kd.S_drew));exact HO306.out⟩,⟨by(with_reducible repeat (first|refine blk_drewN ?_ _|refine blk_drew ?_|refine blk_alloc ?_ _));exact BK301.out⟩,⟨bS GE301.out⟩⟩
    case round =>
     clear H'
     try clear c1
     try clear c2
     try clear p2
     try clear c6
     try clear c7
     try clear c12
     try clear c13
     try clear hcz11_0 hcz11_1 hcz11_2 hcz11_3 hcz11_4 hcz11_5 hcz11_6 hcz11_7 hcz11_8 hcz11_9
     try clear hcz9_0 hcz9_1 hcz9_2 hcz9_3 hcz9_4 hcz9_5 hcz9_6 hcz9_7 hcz9_8 hcz9_9
     try clear hfz11_0 hfz11_1 hfz11_2 hfz11_3 hfz11_4 hfz11_5 hfz11_6 hfz11_7 hfz11_8 hfz11_9
     try clear hfz9_0 hfz9_1 hfz9_2 hfz9_3 hfz9_4 hfz9_5 hfz9_6 hfz9_7 hfz9_8 hfz9_9
     try clear p2
     obtain⟨x8_2,x26_2,rfl,HA,HK2,HO_8,BK301,HB⟩:=hrel
     cases gk with
     | zero=>exact absurd HA.out (by simp[impl_ReachAll.l0])
     | succ k2 =>
      have H:=HA.out
      clear HA
      simp only[impl_ReachAll.l0] at H
      by_cases c16:x26_2 < (l2.length:Int)
      ·rw[if_pos c16] at H
       have c16b0:decide (x26_2 < (l2.length:Int))=true:=decide_eq_true c16
       clear c16
       by_cases c17:0≤x26_2
       ·rw[if_pos c17] at H
        have c17b0:decide (0≤x26_2)=true:=decide_eq_true c17
        clear c17
        by_cases c18:x26_2 < (l2.length:Int)
        ·rw[if_pos c18] at H
         have c18b0:decide (x26_2 < (l2.length:Int))=true:=decide_eq_true c18
         clear c18
         replace H:=Option.bind_eq_some_iff.mp H
         obtain⟨⟨t308,t309,t310⟩,A190,H⟩:=H
         replace H:(if t310=true then (if t309≤(wrap64 (a1_3+a1_5)) then (if (t308.length:Int)≤a1_6 then (if x8_2.length < 3518437208883 then (impl_ReachAll.l0 k2 l0 (x8_2++[(⟨rd l2 x26_2,t309,t308⟩:S157)]) l2 (l2.length:Int) (wrap64 (x26_2+1)) a1_0 a1_1 a1_2 a1_3 a1_4 a1_5 a1_6 a1_7 a1_8 a1_9) else (none)) else (impl_ReachAll.l0 k2 l0 x8_2 l2 (l2.length:Int) (wrap64 (x26_2+1)) a1_0 a1_1 a1_2 a1_3 a1_4 a1_5 a1_6 a1_7 a1_8 a1_9)) else (impl_ReachAll.l0 k2 l0 x8_2 l2 (l2.length:Int) (wrap64 (x26_2+1)) a1_0 a1_1 a1_2 a1_3 a1_4 a1_5 a1_6 a1_7 a1_8 a1_9)) else (impl_ReachAll.l0 k2 l0 x8_2 l2 (l2.length:Int) (wrap64 (x26_2+1)) a1_0 a1_1 a1_2 a1_3 a1_4 a1_5 a1_6 a1_7 a1_8 a1_9))=some (r1,r2):=H
         have A19:=Aside0.mk A190
         clear A190
         by_cases c20:t310=true
         ·subst c20
          have H1:(if t309≤(wrap64 (a1_3+a1_5)) then (if (t308.length:Int)≤a1_6 then (if x8_2.length < 3518437208883 then (impl_ReachAll.l0 k2 l0 (x8_2++[(⟨rd l2 x26_2,t309,t308⟩:S157)]) l2 (l2.length:Int) (wrap64 (x26_2+1)) a1_0 a1_1 a1_2 a1_3 a1_4 a1_5 a1_6 a1_7 a1_8 a1_9) else (none)) else (impl_ReachAll.l0 k2 l0 x8_2 l2 (l2.length:Int) (wrap64 (x26_2+1)) a1_0 a1_1 a1_2 a1_3 a1_4 a1_5 a1_6 a1_7 a1_8 a1_9)) else (impl_ReachAll.l0 k2 l0 x8_2 l2 (l2.length:Int) (wrap64 (x26_2+1)) a1_0 a1_1 a1_2 a1_3 a1_4 a1_5 a1_6 a1_7 a1_8 a1_9))=some (r1,r2):=by rw[if_pos rfl] at H;exact H
          clear H
          have H:=H1
          clear H1
          by_cases c21:t309≤(wrap64 (a1_3+a1_5))
          ·rw[if_pos c21] at H
           have c21b0:decide (t309≤(wrap64 (a1_3+a1_5)))=true:=decide_eq_true c21
           clear c21
           by_cases c22:(t308.length:Int)≤a1_6
           ·rw[if_pos c22] at H
            have c22b0:decide ((t308.length:Int)≤a1_6)=true:=decide_eq_true c22
            clear c22
            by_cases c23:x8_2.length < 3518437208883
            ·rw[if_pos c23] at H
             have LMc23:=Aside0.mk c23
             clear c23
             obtain⟨y313,hy313⟩ : ∃ y_:List (S157),y_=(x8_2++[(⟨rd l2 x26_2,t309,t308⟩:S157)]):=⟨_,rfl⟩
             replace H:(impl_ReachAll.l0 k2 l0 y313 l2 (l2.length:Int) (wrap64 (x26_2+1)) a1_0 a1_1 a1_2 a1_3 a1_4 a1_5 a1_6 a1_7 a1_8 a1_9)=some (r1,r2):=by first|(rw[hy313];with_reducible exact H)|(have H2_:=(Option.bind_some _ _).symm.trans H;rw[hy313];with_reducible exact H2_)|(have H2_:=(Option.bind_some _ _).symm.trans H;with_reducible exact H2_)|with_reducible exact H|(rw[hy313];exact H)|exact H
             have Ny313:=Aside0.mk hy313
             clear hy313
             have H':=Aside0.mk H
             clear H
             have p307:0≤(x26_2:Int):=of_decide_eq_true (bD)
             have q307:x26_2 < (l2.length:Int):=of_decide_eq_true (bD)
             obtain⟨ad307,e307,hx307_0⟩:=Kd.at_int HR2.out x26_2 p307 q307
             cases e307
             replace hx307_0:=(HB.out.cell (World.block_lt_of_cell? w _ hx307_0)).trans hx307_0
             replace p307:=eq_true p307
             replace q307:=eq_true q307
             obtain⟨hcz24_0,hcz24_1,hcz24_2,hcz24_3,hcz24_4,hcz24_5,hcz24_6,hcz24_7,hcz24_8,hcz24_9⟩:=cC10 BK301.out
             obtain⟨hfz24_0,hfz24_1,hfz24_2,hfz24_3,hfz24_4,hfz24_5,hfz24_6,hfz24_7,hfz24_8,hfz24_9⟩:=cF10 BK301.out
             go_wp2_with (first|((with_reducible refine gate_callee (f:=63) rfl ?_);refine goesA (some 37) rfl rfl Try.func63 #[.slice A0 l0.length c0,.int .i64 a1_0,.int .i64 a1_3,.int .i64 (rd l2 x26_2)] rfl ?_;(with_reducible refine(impl_RouteTo.calls k2 _ _ l0 a1_0 a1_3 (rd l2 x26_2) t308 t309 true _ ?side1 ?side2 A19.out).mono ?_);(case side1=>exact bC HR0.out);(case side2=>exact HC0.out);rintro e w25 ⟨v311,rfl,ho0,hb⟩;refine⟨_,rfl,?_⟩;have n0_:=Aside0.mk (Kd.S_elder' (by(with_reducible repeat (first|apply Kd.S_alloc|apply Kd.S_drewN|apply Kd.S_drew));exact HO_8.out) (Kd.R_base ho0) hb);have n1_:=Aside0.mk (Kd.R_lower ho0 (below_size (bS GE301.out)));have n2_:=Aside0.mk (bM BK301.out hb);have n3_:=Aside0.mk (below_step (bS GE301.out) hb);clear HO_8 BK301 HB;have HO_8:=n0_;have HO312:=n1_;have BK301:=n2_;have HB:=n3_;clear n0_ n1_ n2_ n3_;(try clear hb);(try clear hb2);(try clear hk);(try clear hi);(try clear ho0);obtain⟨hcz26_0,hcz26_1,hcz26_2,hcz26_3,hcz26_4,hcz26_5,hcz26_6,hcz26_7,hcz26_8,hcz26_9⟩:=cC10 BK301.out;obtain⟨hfz26_0,hfz26_1,hfz26_2,hfz26_3,hfz26_4,hfz26_5,hfz26_6,hfz26_7,hfz26_8,hfz26_9⟩:=cF10 BK301.out;obtain⟨Ao27,co27,eo27⟩:=Kd.R_slice HO312.out;subst eo27)|((with_reducible refine gate_builtin (b:=.append) (xs:=#[.tmp 58,.tmp 63]) rfl ?_);(try (refine gate_guard (by rfl) ?_;dsimp only));at_builtin;refine Kd.S_append k157 (w0:=w) w.heap.size rfl (.tmp 58) (.tmp 63) 105 157 (.agg #[(.int .i64 0),(.int .i64 0),(.slice none 0 0)]) 40 rfl Try.underlying105 info157 rfl (by decide) (by omega) u8 x8_2 (⟨rd l2 x26_2,t309,t308⟩:S157) [.int .i64 (rd l2 x26_2),.int .i64 t309,.slice Ao27 t308.length co27] (fun _=>True) (fun k_=>some k_=(.slice Ao27 t308.length co27:Value).ownBlock) rfl rfl ?aP (fun k_ hk_=>((Kd.R_mono (ok':=fun k_=>((fun _=>True)) k_∧some k_≠(u8:Value).ownBlock) (Kd.R_apart' (HO312.out) (Kd.S_typed HO_8.out) (by decide)) (fun k_ hk=>⟨trivial,hk.2⟩))).1 k_ hk_.symm) ?aF ?aO ?aB ?aS ?aL ?_;(case aP=>exact k157_mkM _ _ _ (⟨rd l2 x26_2,t309,t308⟩:S157) (Kd.R_mono (Kd.R_tight rfl (Kd.R_mono (ok':=fun k_=>((fun _=>True)) k_∧some k_≠(u8:Value).ownBlock) (Kd.R_apart' (HO312.out) (Kd.S_typed HO_8.out) (by decide)) (fun k_ hk=>⟨trivial,hk.2⟩))) (fun _ h_=>h_)));(case aB=>exact(bS GE301.out));(case aF=>exact(fun _ _=>trivial));(case aO=>exact(by(with_reducible repeat (first|apply Kd.S_alloc|apply Kd.S_drewN|apply Kd.S_drew));exact Kd.S_mono HO_8.out (fun k_ hk=>⟨trivial,fun e_=>hk.2 e_⟩)));(case aS=>exact(below_size (bS GE301.out)));(case aL=>have:=LMc23.out;omega);intro v314 w28 ho hb hg hat;rw[← Ny313.out] at ho;have n0_:=Aside0.mk (blk_grown (g:=gb301) (o:=.cells #[.int .i64 a1_0,.int .i64 a1_1,.bool a1_2,.int .i64 a1_3,.int .i64 a1_4,.int .i64 a1_5,.int .i64 a1_6,.int .i64 a1_7,.int .i64 a1_8,.string a1_9] 86 (0,0)) (bL BK301.out) hg (Kd.S_ne HO_8.out BK301.out (by decide)));have n1_:=Aside0.mk (hb);have n2_:=Aside0.mk (ho);clear BK301 HB HO_8 HO312;have BK301:=n0_;have HB:=n1_;have HO315:=n2_;clear n0_ n1_ n2_;clear ho hb hg hat))
             go_roundg k2
             case measure=>have:=HJ3.out;have:=HK2.out;omega
             case rel=>exact⟨(y313),(wrap64 (x26_2+1)),(bR),H',⟨by have:=HJ3.out;have:=HK2.out;omega⟩,⟨by(with_reducible repeat (first|apply Kd.S_alloc|apply Kd.S_drewN|apply Kd.S_drew));exact HO315.out⟩,⟨by(with_reducible repeat (first|refine blk_drewN ?_ _|refine blk_drew ?_|refine blk_alloc ?_ _));exact BK301.out⟩,⟨bS GE301.out⟩⟩
            ·rw[if_neg c23] at H
             exact absurd H (by simp)
           ·rw[if_neg c22] at H
            have c22b0:decide ((t308.length:Int)≤a1_6)=false:=decide_eq_false c22
            clear c22
            have H':=Aside0.mk H
            clear H
            have p307:0≤(x26_2:Int):=of_decide_eq_true (bD)
            have q307:x26_2 < (l2.length:Int):=of_decide_eq_true (bD)
            obtain⟨ad307,e307,hx307_0⟩:=Kd.at_int HR2.out x26_2 p307 q307
            cases e307
            replace hx307_0:=(HB.out.cell (World.block_lt_of_cell? w _ hx307_0)).trans hx307_0
            replace p307:=eq_true p307
            replace q307:=eq_true q307
            obtain⟨hcz29_0,hcz29_1,hcz29_2,hcz29_3,hcz29_4,hcz29_5,hcz29_6,hcz29_7,hcz29_8,hcz29_9⟩:=cC10 BK301.out
            obtain⟨hfz29_0,hfz29_1,hfz29_2,hfz29_3,hfz29_4,hfz29_5,hfz29_6,hfz29_7,hfz29_8,hfz29_9⟩:=cF10 BK301.out
            go_wp2_with (first|((with_reducible refine gate_callee (f:=63) rfl ?_);refine goesA (some 37) rfl rfl Try.func63 #[.slice A0 l0.length c0,.int .i64 a1_0,.int .i64 a1_3,.int .i64 (rd l2 x26_2)] rfl ?_;(with_reducible refine(impl_RouteTo.calls k2 _ _ l0 a1_0 a1_3 (rd l2 x26_2) t308 t309 true _ ?side1 ?side2 A19.out).mono ?_);(case side1=>exact bC HR0.out);(case side2=>exact HC0.out);rintro e w30 ⟨v311,rfl,ho0,hb⟩;refine⟨_,rfl,?_⟩;have n0_:=Aside0.mk (Kd.S_elder' (by(with_reducible repeat (first|apply Kd.S_alloc|apply Kd.S_drewN|apply Kd.S_drew));exact HO_8.out) (Kd.R_base ho0) hb);have n1_:=Aside0.mk (Kd.R_lower ho0 (below_size (bS GE301.out)));have n2_:=Aside0.mk (bM BK301.out hb);have n3_:=Aside0.mk (below_step (bS GE301.out) hb);clear HO_8 BK301 HB;have HO_8:=n0_;have HO312:=n1_;have BK301:=n2_;have HB:=n3_;clear n0_ n1_ n2_ n3_;(try clear hb);(try clear hb2);(try clear hk);(try clear hi);(try clear ho0);obtain⟨hcz31_0,hcz31_1,hcz31_2,hcz31_3,hcz31_4,hcz31_5,hcz31_6,hcz31_7,hcz31_8,hcz31_9⟩:=cC10 BK301.out;obtain⟨hfz31_0,hfz31_1,hfz31_2,hfz31_3,hfz31_4,hfz31_5,hfz31_6,hfz31_7,hfz31_8,hfz31_9⟩:=cF10 BK301.out;obtain⟨Ao32,co32,eo32⟩:=Kd.R_slice HO312.out;subst eo32))
            go_roundg k2
            case measure=>have:=HJ3.out;have:=HK2.out;omega
            case rel=>exact⟨(x8_2),(wrap64 (x26_2+1)),(bR),H',⟨by have:=HJ3.out;have:=HK2.out;omega⟩,⟨by(with_reducible repeat (first|apply Kd.S_alloc|apply Kd.S_drewN|apply Kd.S_drew));exact Kd.S_mono HO_8.out (fun _ hk=>trivial)⟩,⟨by(with_reducible repeat (first|refine blk_drewN ?_ _|refine blk_drew ?_|refine blk_alloc ?_ _));exact BK301.out⟩,⟨bS GE301.out⟩⟩
          ·rw[if_neg c21] at H
           have c21b0:decide (t309≤(wrap64 (a1_3+a1_5)))=false:=decide_eq_false c21
           clear c21
           have H':=Aside0.mk H
           clear H
           have p307:0≤(x26_2:Int):=of_decide_eq_true (bD)
           have q307:x26_2 < (l2.length:Int):=of_decide_eq_true (bD)
           obtain⟨ad307,e307,hx307_0⟩:=Kd.at_int HR2.out x26_2 p307 q307
           cases e307
           replace hx307_0:=(HB.out.cell (World.block_lt_of_cell? w _ hx307_0)).trans hx307_0
           replace p307:=eq_true p307
           replace q307:=eq_true q307
           obtain⟨hcz33_0,hcz33_1,hcz33_2,hcz33_3,hcz33_4,hcz33_5,hcz33_6,hcz33_7,hcz33_8,hcz33_9⟩:=cC10 BK301.out
           obtain⟨hfz33_0,hfz33_1,hfz33_2,hfz33_3,hfz33_4,hfz33_5,hfz33_6,hfz33_7,hfz33_8,hfz33_9⟩:=cF10 BK301.out
           go_wp2_with (first|((with_reducible refine gate_callee (f:=63) rfl ?_);refine goesA (some 37) rfl rfl Try.func63 #[.slice A0 l0.length c0,.int .i64 a1_0,.int .i64 a1_3,.int .i64 (rd l2 x26_2)] rfl ?_;(with_reducible refine(impl_RouteTo.calls k2 _ _ l0 a1_0 a1_3 (rd l2 x26_2) t308 t309 true _ ?side1 ?side2 A19.out).mono ?_);(case side1=>exact bC HR0.out);(case side2=>exact HC0.out);rintro e w34 ⟨v311,rfl,ho0,hb⟩;refine⟨_,rfl,?_⟩;have n0_:=Aside0.mk (Kd.S_elder' (by(with_reducible repeat (first|apply Kd.S_alloc|apply Kd.S_drewN|apply Kd.S_drew));exact HO_8.out) (Kd.R_base ho0) hb);have n1_:=Aside0.mk (Kd.R_lower ho0 (below_size (bS GE301.out)));have n2_:=Aside0.mk (bM BK301.out hb);have n3_:=Aside0.mk (below_step (bS GE301.out) hb);clear HO_8 BK301 HB;have HO_8:=n0_;have HO312:=n1_;have BK301:=n2_;have HB:=n3_;clear n0_ n1_ n2_ n3_;(try clear hb);(try clear hb2);(try clear hk);(try clear hi);(try clear ho0);obtain⟨hcz35_0,hcz35_1,hcz35_2,hcz35_3,hcz35_4,hcz35_5,hcz35_6,hcz35_7,hcz35_8,hcz35_9⟩:=cC10 BK301.out;obtain⟨hfz35_0,hfz35_1,hfz35_2,hfz35_3,hfz35_4,hfz35_5,hfz35_6,hfz35_7,hfz35_8,hfz35_9⟩:=cF10 BK301.out))
           go_roundg k2
           case measure=>have:=HJ3.out;have:=HK2.out;omega
           case rel=>exact⟨(x8_2),(wrap64 (x26_2+1)),(bR),H',⟨by have:=HJ3.out;have:=HK2.out;omega⟩,⟨by(with_reducible repeat (first|apply Kd.S_alloc|apply Kd.S_drewN|apply Kd.S_drew));exact Kd.S_mono HO_8.out (fun _ hk=>trivial)⟩,⟨by(with_reducible repeat (first|refine blk_drewN ?_ _|refine blk_drew ?_|refine blk_alloc ?_ _));exact BK301.out⟩,⟨bS GE301.out⟩⟩
         ·replace c20:=Bool.eq_false_iff.mpr c20
          subst c20
          have H1:(impl_ReachAll.l0 k2 l0 x8_2 l2 (l2.length:Int) (wrap64 (x26_2+1)) a1_0 a1_1 a1_2 a1_3 a1_4 a1_5 a1_6 a1_7 a1_8 a1_9)=some (r1,r2):=by rw[if_neg (show ¬ (false=true) by decide)] at H;exact H
          clear H
          have H:=H1
          clear H1
          have H':=Aside0.mk H
          clear H
          have p307:0≤(x26_2:Int):=of_decide_eq_true (bD)
          have q307:x26_2 < (l2.length:Int):=of_decide_eq_true (bD)
          obtain⟨ad307,e307,hx307_0⟩:=Kd.at_int HR2.out x26_2 p307 q307
          cases e307
          replace hx307_0:=(HB.out.cell (World.block_lt_of_cell? w _ hx307_0)).trans hx307_0
          replace p307:=eq_true p307
          replace q307:=eq_true q307
          obtain⟨hcz36_0,hcz36_1,hcz36_2,hcz36_3,hcz36_4,hcz36_5,hcz36_6,hcz36_7,hcz36_8,hcz36_9⟩:=cC10 BK301.out
          obtain⟨hfz36_0,hfz36_1,hfz36_2,hfz36_3,hfz36_4,hfz36_5,hfz36_6,hfz36_7,hfz36_8,hfz36_9⟩:=cF10 BK301.out
          go_wp2_with (first|((with_reducible refine gate_callee (f:=63) rfl ?_);refine goesA (some 37) rfl rfl Try.func63 #[.slice A0 l0.length c0,.int .i64 a1_0,.int .i64 a1_3,.int .i64 (rd l2 x26_2)] rfl ?_;(with_reducible refine(impl_RouteTo.calls k2 _ _ l0 a1_0 a1_3 (rd l2 x26_2) t308 t309 false _ ?side1 ?side2 A19.out).mono ?_);(case side1=>exact bC HR0.out);(case side2=>exact HC0.out);rintro e w37 ⟨v311,rfl,ho0,hb⟩;refine⟨_,rfl,?_⟩;have n0_:=Aside0.mk (Kd.S_elder' (by(with_reducible repeat (first|apply Kd.S_alloc|apply Kd.S_drewN|apply Kd.S_drew));exact HO_8.out) (Kd.R_base ho0) hb);have n1_:=Aside0.mk (Kd.R_lower ho0 (below_size (bS GE301.out)));have n2_:=Aside0.mk (bM BK301.out hb);have n3_:=Aside0.mk (below_step (bS GE301.out) hb);clear HO_8 BK301 HB;have HO_8:=n0_;have HO312:=n1_;have BK301:=n2_;have HB:=n3_;clear n0_ n1_ n2_ n3_;(try clear hb);(try clear hb2);(try clear hk);(try clear hi);(try clear ho0)))
          go_roundg k2
          case measure=>have:=HJ3.out;have:=HK2.out;omega
          case rel=>exact⟨(x8_2),(wrap64 (x26_2+1)),(bR),H',⟨by have:=HJ3.out;have:=HK2.out;omega⟩,⟨by(with_reducible repeat (first|apply Kd.S_alloc|apply Kd.S_drewN|apply Kd.S_drew));exact Kd.S_mono HO_8.out (fun _ hk=>trivial)⟩,⟨by(with_reducible repeat (first|refine blk_drewN ?_ _|refine blk_drew ?_|refine blk_alloc ?_ _));exact BK301.out⟩,⟨bS GE301.out⟩⟩
        ·rw[if_neg c18] at H
         exact absurd H (by simp)
       ·rw[if_neg c17] at H
        exact absurd H (by simp)
      ·rw[if_neg c16] at H
       have c16b0:decide (x26_2 < (l2.length:Int))=false:=decide_eq_false c16
       clear c16
       simp only[Option.some.injEq,Prod.mk.injEq] at H
       obtain⟨rfl,rfl⟩:=H
       go_wp2
       go_ret2
       exact⟨_,by first|rfl|(simp[errW_none,errW_some]<;>rfl)|(simp[*,errW_none,errW_some]<;>rfl),by(with_reducible repeat (first|apply Kd.S_alloc|apply Kd.S_drewN|apply Kd.S_drew));exact HO_8.out,bS GE301.out⟩

/-! ### laws_eqReach: function 131 -/
def laws_eqReach.f (k:Nat) (a0_0:Int) (a0_1:Int) (l0_2:List Int) (a1_0:Int) (a1_1:Int) (l1_2:List Int):Option (Bool):=if a0_0=a1_0 then (if a0_1=a1_1 then ((laws_eqIntS.f k l0_2 l1_2).bind fun t318=>(if t318=true then (some true) else (some false))) else (some false)) else (some false)
theorem laws_eqReach.mono : ∀ a0 a1 a2 a3 a4 a5 k,LeO (laws_eqReach.f k a0 a1 a2 a3 a4 a5) (laws_eqReach.f (k+1) a0 a1 a2 a3 a4 a5):=by
 intro a0 a1 a2 a3 a4 a5 k
 unfold laws_eqReach.f
 repeat' first
  | (with_reducible exact laws_eqIntS.mono _ _ _)
  | (with_reducible exact LeO.refl _)
  | (with_reducible exact LeO.none _)
  | (with_reducible refine LeO.ite ?_ ?_)
  | (with_reducible refine LeO.bind ?_ (fun _ => ?_))
  | exact laws_eqIntS.mono _ _ _
  | exact LeO.none _
  | refine LeO.ite ?_ ?_
  | refine LeO.bind ?_ (fun _ => ?_)
set_option maxHeartbeats 8000000 in
set_option maxRecDepth 100000 in
theorem laws_eqReach.calls (k:Nat) (a0_0:Int) (a0_1:Int) (A0_2:Option Addr) (c0_2:Nat) (l0_2:List Int) (a1_0:Int) (a1_1:Int) (A1_2:Option Addr) (c1_2:Nat) (l1_2:List Int) (r:Bool) (w:World) (hr0_2:Kd.C (Kd.int .i64) w A0_2 l0_2.length l0_2) (hc0_2:l0_2.length≤c0_2) (hr1_2:Kd.C (Kd.int .i64) w A1_2 l1_2.length l1_2) (hc1_2:l1_2.length≤c1_2) (h:laws_eqReach.f k a0_0 a0_1 l0_2 a1_0 a1_1 l1_2=some r) :
  Calls Try.prog 131 #[.agg #[.int .i64 a0_0,.int .i64 a0_1,.slice A0_2 l0_2.length c0_2],.agg #[.int .i64 a1_0,.int .i64 a1_1,.slice A1_2 l1_2.length c1_2]] w fun e w'=>e=.returned (.bool r)∧Below w.heap.size w w':=by
 have hu157:=Try.underlying157
 have HR0_2:=Aside0.mk hr0_2
 have HC0_2:=Aside0.mk hc0_2
 clear hr0_2 hc0_2
 have HR1_2:=Aside0.mk hr1_2
 have HC1_2:=Aside0.mk hc1_2
 clear hr1_2 hc1_2
 have HB:=Aside0.mk (Below.refl w.heap.size w)
 have H:(if a0_0=a1_0 then (if a0_1=a1_1 then ((laws_eqIntS.f k l0_2 l1_2).bind fun t318=>(if t318=true then (some true) else (some false))) else (some false)) else (some false))=some r:=h
 clear h
 by_cases c3:a0_0=a1_0
 ·rw[if_pos c3] at H
  have c3b0:(a0_0 == a1_0)=true:=beq_iff_eq.mpr c3
  have c3b1:(a0_0 != a1_0)=false:=bne_eq_false_iff_eq.mpr c3
  clear c3
  by_cases c4:a0_1=a1_1
  ·rw[if_pos c4] at H
   have c4b0:(a0_1 == a1_1)=true:=beq_iff_eq.mpr c4
   have c4b1:(a0_1 != a1_1)=false:=bne_eq_false_iff_eq.mpr c4
   clear c4
   replace H:=Option.bind_eq_some_iff.mp H
   obtain⟨t318,A50,H⟩:=H
   have A5:=Aside0.mk A50
   clear A50
   by_cases c6:t318=true
   ·subst c6
    have H1:(some true)=some r:=by rw[if_pos rfl] at H;exact H
    clear H
    have H:=H1
    clear H1
    obtain rfl:=Option.some.inj H
    go_enter Try.func131,Try.ntmps131
    go_wp2_with (first|((with_reducible refine gate_dst (N:=2) rfl ?_);refine box_event ?hg (N:=2) ?hd (cs:=#[.int .i64 a0_0,.int .i64 a0_1,.slice A0_2 l0_2.length c0_2]) (t:=157) ?hr ?_;(case hd=>rfl);(case hg=>rfl);(case hr=>first|(go_simp;done)|(go_simp;rfl));intro gb316 hg w7 hbox hb;have n0_:=Aside0.mk (below_step (bB) hb);have n1_:=Aside0.mk (hbox);have n2_:=Aside0.mk ((bG:w.heap.size≤gb316));have n3_:=Aside0.mk ((bG:w.heap.size≤gb316));clear HB;have HB:=n0_;have BK316:=n1_;have GW316:=n2_;have GE316:=n3_;clear n0_ n1_ n2_ n3_;clear hb hbox hg)|((with_reducible refine gate_dst (N:=3) rfl ?_);refine box_event ?hg (N:=3) ?hd (cs:=#[.int .i64 a1_0,.int .i64 a1_1,.slice A1_2 l1_2.length c1_2]) (t:=157) ?hr ?_;(case hd=>rfl);(case hg=>rfl);(case hr=>first|(go_simp;done)|(go_simp;rfl));intro gb317 hg w8 hbox hb;have n0_:=Aside0.mk (bM BK316.out hb);have n1_:=Aside0.mk (below_step (bS GE316.out) hb);have n2_:=Aside0.mk (hbox);have n3_:=Aside0.mk ((by rw[hg];exact(below_size (bS GE316.out)):w.heap.size≤gb317));have n4_:=Aside0.mk ((by rw[hg];exact(below_size (bS GE316.out)):w.heap.size≤gb317));have n5_:=Aside0.mk ((bN BK316.out hg:gb316≠gb317));have n6_:=Aside0.mk ((bO BK316.out hg:gb317≠gb316));clear BK316 HB;have BK316:=n0_;have HB:=n1_;have BK317:=n2_;have GW317:=n3_;have GE317:=n4_;have NB316_317:=n5_;have NB317_316:=n6_;clear n0_ n1_ n2_ n3_ n4_ n5_ n6_;clear hb hbox hg;have hnb9:=NB316_317.out;have hnc9:=NB317_316.out;obtain⟨hcz10_0,hcz10_1,hcz10_2⟩:=cC3 BK316.out;obtain⟨hfz10_0,hfz10_1,hfz10_2⟩:=cF3 BK316.out;obtain⟨hcz11_0,hcz11_1,hcz11_2⟩:=cC3 BK317.out;obtain⟨hfz11_0,hfz11_1,hfz11_2⟩:=cF3 BK317.out)|((with_reducible refine gate_callee (f:=26) rfl ?_);refine goesA (some 19) rfl rfl Try.func26 #[.slice A0_2 l0_2.length c0_2,.slice A1_2 l1_2.length c1_2] rfl ?_;(with_reducible refine(laws_eqIntS.calls k _ _ l0_2 _ _ l1_2 true _ ?side1 ?side2 ?side3 ?side4 A5.out).mono ?_);(case side1=>exact bC HR0_2.out);(case side2=>exact HC0_2.out);(case side3=>exact bC HR1_2.out);(case side4=>exact HC1_2.out);rintro e w' ⟨rfl,⟨nd,rfl⟩⟩;refine⟨_,rfl,?_⟩))
    go_ret
    exact⟨bE,bS2 GE316.out GE317.out⟩
   ·replace c6:=Bool.eq_false_iff.mpr c6
    subst c6
    have H1:(some false)=some r:=by rw[if_neg (show ¬ (false=true) by decide)] at H;exact H
    clear H
    have H:=H1
    clear H1
    obtain rfl:=Option.some.inj H
    go_enter Try.func131,Try.ntmps131
    go_wp2_with (first|((with_reducible refine gate_dst (N:=2) rfl ?_);refine box_event ?hg (N:=2) ?hd (cs:=#[.int .i64 a0_0,.int .i64 a0_1,.slice A0_2 l0_2.length c0_2]) (t:=157) ?hr ?_;(case hd=>rfl);(case hg=>rfl);(case hr=>first|(go_simp;done)|(go_simp;rfl));intro gb316 hg w12 hbox hb;have n0_:=Aside0.mk (below_step (bB) hb);have n1_:=Aside0.mk (hbox);have n2_:=Aside0.mk ((bG:w.heap.size≤gb316));have n3_:=Aside0.mk ((bG:w.heap.size≤gb316));clear HB;have HB:=n0_;have BK316:=n1_;have GW316:=n2_;have GE316:=n3_;clear n0_ n1_ n2_ n3_;clear hb hbox hg)|((with_reducible refine gate_dst (N:=3) rfl ?_);refine box_event ?hg (N:=3) ?hd (cs:=#[.int .i64 a1_0,.int .i64 a1_1,.slice A1_2 l1_2.length c1_2]) (t:=157) ?hr ?_;(case hd=>rfl);(case hg=>rfl);(case hr=>first|(go_simp;done)|(go_simp;rfl));intro gb317 hg w13 hbox hb;have n0_:=Aside0.mk (bM BK316.out hb);have n1_:=Aside0.mk (below_step (bS GE316.out) hb);have n2_:=Aside0.mk (hbox);have n3_:=Aside0.mk ((by rw[hg];exact(below_size (bS GE316.out)):w.heap.size≤gb317));have n4_:=Aside0.mk ((by rw[hg];exact(below_size (bS GE316.out)):w.heap.size≤gb317));have n5_:=Aside0.mk ((bN BK316.out hg:gb316≠gb317));have n6_:=Aside0.mk ((bO BK316.out hg:gb317≠gb316));clear BK316 HB;have BK316:=n0_;have HB:=n1_;have BK317:=n2_;have GW317:=n3_;have GE317:=n4_;have NB316_317:=n5_;have NB317_316:=n6_;clear n0_ n1_ n2_ n3_ n4_ n5_ n6_;clear hb hbox hg;have hnb14:=NB316_317.out;have hnc14:=NB317_316.out;obtain⟨hcz15_0,hcz15_1,hcz15_2⟩:=cC3 BK316.out;obtain⟨hfz15_0,hfz15_1,hfz15_2⟩:=cF3 BK316.out;obtain⟨hcz16_0,hcz16_1,hcz16_2⟩:=cC3 BK317.out;obtain⟨hfz16_0,hfz16_1,hfz16_2⟩:=cF3 BK317.out)|((with_reducible refine gate_callee (f:=26) rfl ?_);refine goesA (some 19) rfl rfl Try.func26 #[.slice A0_2 l0_2.length c0_2,.slice A1_2 l1_2.length c1_2] rfl ?_;(with_reducible refine(laws_eqIntS.calls k _ _ l0_2 _ _ l1_2 false _ ?side1 ?side2 ?side3 ?side4 A5.out).mono ?_);(case side1=>exact bC HR0_2.out);(case side2=>exact HC0_2.out);(case side3=>exact bC HR1_2.out);(case side4=>exact HC1_2.out);rintro e w' ⟨rfl,⟨nd,rfl⟩⟩;refine⟨_,rfl,?_⟩))
    go_ret
    exact⟨bE,bS2 GE316.out GE317.out⟩
  ·rw[if_neg c4] at H
   have c4b0:(a0_1 == a1_1)=false:=beq_eq_false_iff_ne.mpr c4
   have c4b1:(a0_1 != a1_1)=true:=bne_iff_ne.mpr c4
   obtain rfl:=Option.some.inj H
   go_enter Try.func131,Try.ntmps131
   go_wp2_with (first|((with_reducible refine gate_dst (N:=2) rfl ?_);refine box_event ?hg (N:=2) ?hd (cs:=#[.int .i64 a0_0,.int .i64 a0_1,.slice A0_2 l0_2.length c0_2]) (t:=157) ?hr ?_;(case hd=>rfl);(case hg=>rfl);(case hr=>first|(go_simp;done)|(go_simp;rfl));intro gb316 hg w17 hbox hb;have n0_:=Aside0.mk (below_step (bB) hb);have n1_:=Aside0.mk (hbox);have n2_:=Aside0.mk ((bG:w.heap.size≤gb316));have n3_:=Aside0.mk ((bG:w.heap.size≤gb316));clear HB;have HB:=n0_;have BK316:=n1_;have GW316:=n2_;have GE316:=n3_;clear n0_ n1_ n2_ n3_;clear hb hbox hg)|((with_reducible refine gate_dst (N:=3) rfl ?_);refine box_event ?hg (N:=3) ?hd (cs:=#[.int .i64 a1_0,.int .i64 a1_1,.slice A1_2 l1_2.length c1_2]) (t:=157) ?hr ?_;(case hd=>rfl);(case hg=>rfl);(case hr=>first|(go_simp;done)|(go_simp;rfl));intro gb317 hg w18 hbox hb;have n0_:=Aside0.mk (bM BK316.out hb);have n1_:=Aside0.mk (below_step (bS GE316.out) hb);have n2_:=Aside0.mk (hbox);have n3_:=Aside0.mk ((by rw[hg];exact(below_size (bS GE316.out)):w.heap.size≤gb317));have n4_:=Aside0.mk ((by rw[hg];exact(below_size (bS GE316.out)):w.heap.size≤gb317));have n5_:=Aside0.mk ((bN BK316.out hg:gb316≠gb317));have n6_:=Aside0.mk ((bO BK316.out hg:gb317≠gb316));clear BK316 HB;have BK316:=n0_;have HB:=n1_;have BK317:=n2_;have GW317:=n3_;have GE317:=n4_;have NB316_317:=n5_;have NB317_316:=n6_;clear n0_ n1_ n2_ n3_ n4_ n5_ n6_;clear hb hbox hg;have hnb19:=NB316_317.out;have hnc19:=NB317_316.out;obtain⟨hcz20_0,hcz20_1,hcz20_2⟩:=cC3 BK316.out;obtain⟨hfz20_0,hfz20_1,hfz20_2⟩:=cF3 BK316.out;obtain⟨hcz21_0,hcz21_1,hcz21_2⟩:=cC3 BK317.out;obtain⟨hfz21_0,hfz21_1,hfz21_2⟩:=cF3 BK317.out))
   go_ret
   exact⟨bE,bS2 GE316.out GE317.out⟩
 ·rw[if_neg c3] at H
  have c3b0:(a0_0 == a1_0)=false:=beq_eq_false_iff_ne.mpr c3
  have c3b1:(a0_0 != a1_0)=true:=bne_iff_ne.mpr c3
  obtain rfl:=Option.some.inj H
  go_enter Try.func131,Try.ntmps131
  go_wp2_with (first|((with_reducible refine gate_dst (N:=2) rfl ?_);refine box_event ?hg (N:=2) ?hd (cs:=#[.int .i64 a0_0,.int .i64 a0_1,.slice A0_2 l0_2.length c0_2]) (t:=157) ?hr ?_;(case hd=>rfl);(case hg=>rfl);(case hr=>first|(go_simp;done)|(go_simp;rfl));intro gb316 hg w22 hbox hb;have n0_:=Aside0.mk (below_step (bB) hb);have n1_:=Aside0.mk (hbox);have n2_:=Aside0.mk ((bG:w.heap.size≤gb316));have n3_:=Aside0.mk ((bG:w.heap.size≤gb316));clear HB;have HB:=n0_;have BK316:=n1_;have GW316:=n2_;have GE316:=n3_;clear n0_ n1_ n2_ n3_;clear hb hbox hg)|((with_reducible refine gate_dst (N:=3) rfl ?_);refine box_event ?hg (N:=3) ?hd (cs:=#[.int .i64 a1_0,.int .i64 a1_1,.slice A1_2 l1_2.length c1_2]) (t:=157) ?hr ?_;(case hd=>rfl);(case hg=>rfl);(case hr=>first|(go_simp;done)|(go_simp;rfl));intro gb317 hg w23 hbox hb;have n0_:=Aside0.mk (bM BK316.out hb);have n1_:=Aside0.mk (below_step (bS GE316.out) hb);have n2_:=Aside0.mk (hbox);have n3_:=Aside0.mk ((by rw[hg];exact(below_size (bS GE316.out)):w.heap.size≤gb317));have n4_:=Aside0.mk ((by rw[hg];exact(below_size (bS GE316.out)):w.heap.size≤gb317));have n5_:=Aside0.mk ((bN BK316.out hg:gb316≠gb317));have n6_:=Aside0.mk ((bO BK316.out hg:gb317≠gb316));clear BK316 HB;have BK316:=n0_;have HB:=n1_;have BK317:=n2_;have GW317:=n3_;have GE317:=n4_;have NB316_317:=n5_;have NB317_316:=n6_;clear n0_ n1_ n2_ n3_ n4_ n5_ n6_;clear hb hbox hg;have hnb24:=NB316_317.out;have hnc24:=NB317_316.out;obtain⟨hcz25_0,hcz25_1,hcz25_2⟩:=cC3 BK316.out;obtain⟨hfz25_0,hfz25_1,hfz25_2⟩:=cF3 BK316.out;obtain⟨hcz26_0,hcz26_1,hcz26_2⟩:=cC3 BK317.out;obtain⟨hfz26_0,hfz26_1,hfz26_2⟩:=cF3 BK317.out))
  go_ret
  exact⟨bE,bS2 GE316.out GE317.out⟩

end Go.Proofs.Yteneeohaoplpbaa.XFnExactReachAll
