-- Written by this session's own program (wip/xprint.py) out of the translation; Lean checks it.
import Derived.Test.YteneeohaoplpbaaXFnExactFloodUntilx0
import Derived.Test.YteneeohaoplpbaaXFnExactFloodUntilx1
import Derived.Test.YteneeohaoplpbaaXFnExactFloodUntilx2
import Derived.Test.YteneeohaoplpbaaXFnExactFloodUntilx3
import Derived.Test.YteneeohaoplpbaaXFnExactFloodUntilx6
import Derived.Test.YteneeohaoplpbaaXFnExactFloodUntilx7
namespace Go.Proofs.Yteneeohaoplpbaa.XFnExactFloodUntil
open Go.RowKit Go.Proofs.YteneeohaoplpbaaW.PrintWords Go.Proofs.YteneeohaoplpbaaW.PrintLast Go.Proofs.YteneeohaoplpbaaW.PrintMore
attribute [local go_sem] max2_int min2_int max_two min_two max_three min_three max_four min_four   -- for this text's walks alone
set_option linter.unusedVariables false
set_option linter.unusedSimpArgs false

/-! ### laws_heldIntS: function 30 -/
def laws_heldIntS.l0:Nat→List Int→Int→Int→Option (Int)
 | 0,_,_,_=>none
 | k+1,x0,x1,x5=>if x5 < (x0.length:Int) then (if 0≤x5 then (if (rd x0 x5)=x1 then (laws_heldIntS.l0 k x0 (wrap64 (x1+1)) (wrap64 (x5+1))) else (some (-1))) else (none)) else (some x1)
def laws_heldIntS.f (k:Nat) (l0:List Int) (a1:Int):Option (Int):=laws_heldIntS.l0 k l0 a1 0
theorem laws_heldIntS.mono_l : ∀ k,(∀ y0 y1 y2,LeO (laws_heldIntS.l0 k y0 y1 y2) (laws_heldIntS.l0 (k+1) y0 y1 y2))
 | 0=>fun _ _ _ r h=>by simp[laws_heldIntS.l0] at h
 | k+1=>by
  have ih0:=laws_heldIntS.mono_l k
  ·intro y0 y1 y2
   unfold laws_heldIntS.l0
   repeat' first
   | (with_reducible exact ih0 _ _ _)
   | (with_reducible exact LeO.refl _)
   | (with_reducible exact LeO.none _)
   | (with_reducible refine LeO.ite ?_ ?_)
   | (with_reducible refine LeO.bind ?_ (fun _ => ?_))
   | exact ih0 _ _ _
   | exact LeO.none _
   | refine LeO.ite ?_ ?_
   | refine LeO.bind ?_ (fun _ => ?_)
theorem laws_heldIntS.mono : ∀ a0 a1 k,LeO (laws_heldIntS.f k a0 a1) (laws_heldIntS.f (k+1) a0 a1):=by
 intro a0 a1 k
 have ih0:=laws_heldIntS.mono_l k
 unfold laws_heldIntS.f
 repeat' first
  | (with_reducible exact ih0 _ _ _)
  | (with_reducible exact LeO.refl _)
  | (with_reducible exact LeO.none _)
  | (with_reducible refine LeO.ite ?_ ?_)
  | (with_reducible refine LeO.bind ?_ (fun _ => ?_))
  | exact ih0 _ _ _
  | exact LeO.none _
  | refine LeO.ite ?_ ?_
  | refine LeO.bind ?_ (fun _ => ?_)
set_option maxHeartbeats 8000000 in
set_option maxRecDepth 100000 in
theorem laws_heldIntS.calls (k:Nat) (A0:Option Addr) (c0:Nat) (l0:List Int) (a1:Int) (r:Int) (w:World) (hr0:Kd.C (Kd.int .i64) w A0 l0.length l0) (hc0:l0.length≤c0) (h:laws_heldIntS.f k l0 a1=some r) :
  Calls Try.prog 30 #[.slice A0 l0.length c0,.int .i64 a1] w fun e w'=>e=.returned (.int .i64 r)∧Drawn0 w w':=by
 have HR0:=Aside0.mk hr0
 have HC0:=Aside0.mk hc0
 clear hr0 hc0
 have H:(laws_heldIntS.l0 k l0 a1 0)=some r:=h
 clear h
 have H':=Aside0.mk H
 clear H
 go_enter Try.func30,Try.ntmps30
 go_wp2
 go_loopg [1,5] k (fun kq v1 v5 w' => ∃ (x1_1:Int) (x5_1:Int),v1=.int .i64 x1_1∧v5=.int .i64 x5_1∧Aside0 (laws_heldIntS.l0 kq l0 x1_1 x5_1=some r)∧Aside0 (kq≤k)∧Drawn0 w w')
 case atStart=>exact⟨(a1),(0),(bR),(bR),H',⟨Nat.le_refl _⟩,bW⟩
 case round =>
  clear H'
  try clear p2
  obtain⟨x1_1,x5_1,rfl,rfl,HA,HK1,⟨m1,rfl⟩⟩:=hrel
  cases gk with
  | zero=>exact absurd HA.out (by simp[laws_heldIntS.l0])
  | succ k1 =>
   have H:=HA.out
   clear HA
   simp only[laws_heldIntS.l0] at H
   by_cases c3:x5_1 < (l0.length:Int)
   ·rw[if_pos c3] at H
    have c3b0:decide (x5_1 < (l0.length:Int))=true:=decide_eq_true c3
    clear c3
    by_cases c4:0≤x5_1
    ·rw[if_pos c4] at H
     have c4b0:decide (0≤x5_1)=true:=decide_eq_true c4
     clear c4
     by_cases c5:(rd l0 x5_1)=x1_1
     ·rw[if_pos c5] at H
      have c5b0:((rd l0 x5_1) == x1_1)=true:=beq_iff_eq.mpr c5
      have c5b1:((rd l0 x5_1) != x1_1)=false:=bne_eq_false_iff_eq.mpr c5
      clear c5
      have H':=Aside0.mk H
      clear H
      have p221:0≤(x5_1:Int):=of_decide_eq_true (bD)
      have q221:x5_1 < (l0.length:Int):=of_decide_eq_true (bD)
      obtain⟨ad221,e221,hx221_0⟩:=Kd.at_int HR0.out x5_1 p221 q221
      cases e221
      replace p221:=eq_true p221
      replace q221:=eq_true q221
      go_wp2
      go_roundg k1
      case measure=>have:=HK1.out;omega
      case rel=>exact⟨(wrap64 (x1_1+1)),(wrap64 (x5_1+1)),(bR),(bR),H',⟨by have:=HK1.out;omega⟩,bW⟩
     ·rw[if_neg c5] at H
      have c5b0:((rd l0 x5_1) == x1_1)=false:=beq_eq_false_iff_ne.mpr c5
      have c5b1:((rd l0 x5_1) != x1_1)=true:=bne_iff_ne.mpr c5
      obtain rfl:=Option.some.inj H
      have p221:0≤(x5_1:Int):=of_decide_eq_true (bD)
      have q221:x5_1 < (l0.length:Int):=of_decide_eq_true (bD)
      obtain⟨ad221,e221,hx221_0⟩:=Kd.at_int HR0.out x5_1 p221 q221
      cases e221
      replace p221:=eq_true p221
      replace q221:=eq_true q221
      go_wp2
      go_ret
      exact⟨bR,bW⟩
    ·rw[if_neg c4] at H
     exact absurd H (by simp)
   ·rw[if_neg c3] at H
    have c3b0:decide (x5_1 < (l0.length:Int))=false:=decide_eq_false c3
    clear c3
    obtain rfl:=Option.some.inj H
    go_wp2
    go_ret
    exact⟨bR,bW⟩

/-! ### laws_FnExactFloodUntil: function 4 -/
mutual
def laws_FnExactFloodUntil.j0:Nat→List (S125)→Int→Int→Int→List Int→Bool→List (S104)→List Int→Bool→Bool→Option (Bool)
 | 0,_,_,_,_,_,_,_,_,_,_=>none
 | k+1,x0,x1,x2,x3,x10,x11,x12,x13,x14,x52=>if x52=true then (some false) else ((laws_toContactS.f k x0).bind fun t238=>((laws_eqContactS.f k x12 t238).bind fun t241=>(if t241=true then ((laws_markContactS.f k x12 1).bind fun bt242=>(if bt242.1 < 0 then (laws_FnExactFloodUntil.j1 k x0 x1 x2 x3 x10 x11 x13 true) else ((laws_eqIntS.f k x13 x10).bind fun t244=>(if t244=true then (laws_FnExactFloodUntil.j1 k x0 x1 x2 x3 x10 x11 x13 (x14 != x11)) else (laws_FnExactFloodUntil.j1 k x0 x1 x2 x3 x10 x11 x13 true))))) else (some false))))
def laws_FnExactFloodUntil.j1:Nat→List (S125)→Int→Int→Int→List Int→Bool→List Int→Bool→Option (Bool)
 | 0,_,_,_,_,_,_,_,_=>none
 | k+1,x0,x1,x2,x3,x10,x11,x13,x73=>if x73=true then (some false) else ((laws_markIntS.f k x13 1).bind fun bt245=>((laws_heldIntS.f k bt245.2 1).bind fun t247=>(if t247 < 0 then (some false) else (if t247=bt245.1 then ((laws_toContactS.f k x0).bind fun t248=>((impl_FloodUntil.f k t248 x1 x2 x3).bind fun bt251=>((laws_eqIntS.f k bt251.1 x10).bind fun t255=>(if t255=true then (laws_FnExactFloodUntil.j2 k bt245.2 bt245.1 (bt251.2 != x11)) else (laws_FnExactFloodUntil.j2 k bt245.2 bt245.1 true))))) else (some false)))))
def laws_FnExactFloodUntil.j2:Nat→List Int→Int→Bool→Option (Bool)
 | 0,_,_,_=>none
 | k+1,x13,x16,x102=>if x102=true then (some false) else ((laws_heldIntS.f k x13 1).bind fun t256=>(if t256 < 0 then (some false) else (if t256=x16 then (some true) else (some false))))
end
def laws_FnExactFloodUntil.f (k:Nat) (l0:List (S125)) (a1:Int) (a2:Int) (a3:Int):Option (Bool):=(laws_szContactS.f l0 1048576).bind fun t222=>(if t222 < 0 then (some true) else ((laws_toContactS.f k l0).bind fun t223=>((spec_FloodUntil.f k t223 a1 a2 a3).bind fun bt226=>((laws_toContactS.f k l0).bind fun t230=>((impl_FloodUntil.f k t230 a1 a2 a3).bind fun bt233=>((laws_eqIntS.f k bt233.1 bt226.1).bind fun t237=>(if t237=true then (laws_FnExactFloodUntil.j0 k l0 a1 a2 a3 bt226.1 bt226.2 t230 bt233.1 bt233.2 (bt233.2 != bt226.2)) else (laws_FnExactFloodUntil.j0 k l0 a1 a2 a3 bt226.1 bt226.2 t230 bt233.1 bt233.2 true))))))))
theorem laws_FnExactFloodUntil.mono_l : ∀ k,(∀ y0 y1 y2 y3 y4 y5 y6 y7 y8 y9,LeO (laws_FnExactFloodUntil.j0 k y0 y1 y2 y3 y4 y5 y6 y7 y8 y9) (laws_FnExactFloodUntil.j0 (k+1) y0 y1 y2 y3 y4 y5 y6 y7 y8 y9))∧(∀ y0 y1 y2 y3 y4 y5 y6 y7,LeO (laws_FnExactFloodUntil.j1 k y0 y1 y2 y3 y4 y5 y6 y7) (laws_FnExactFloodUntil.j1 (k+1) y0 y1 y2 y3 y4 y5 y6 y7))∧(∀ y0 y1 y2,LeO (laws_FnExactFloodUntil.j2 k y0 y1 y2) (laws_FnExactFloodUntil.j2 (k+1) y0 y1 y2))
 | 0=>⟨fun _ _ _ _ _ _ _ _ _ _ r h=>by simp[laws_FnExactFloodUntil.j0] at h,fun _ _ _ _ _ _ _ _ r h=>by simp[laws_FnExactFloodUntil.j1] at h,fun _ _ _ r h=>by simp[laws_FnExactFloodUntil.j2] at h⟩
 | k+1=>by
  obtain⟨ih0,ih1,ih2⟩:=laws_FnExactFloodUntil.mono_l k
  refine⟨?_,?_,?_⟩
  ·intro y0 y1 y2 y3 y4 y5 y6 y7 y8 y9
   unfold laws_FnExactFloodUntil.j0
   repeat' first
   | (with_reducible exact ih0 _ _ _ _ _ _ _ _ _ _)
   | (with_reducible exact ih1 _ _ _ _ _ _ _ _)
   | (with_reducible exact ih2 _ _ _)
   | (with_reducible exact impl_FloodUntil.mono _ _ _ _ _)
   | (with_reducible exact laws_eqContactS.mono _ _ _)
   | (with_reducible exact laws_eqIntS.mono _ _ _)
   | (with_reducible exact laws_heldIntS.mono _ _ _)
   | (with_reducible exact laws_markContactS.mono _ _ _)
   | (with_reducible exact laws_markIntS.mono _ _ _)
   | (with_reducible exact laws_toContactS.mono _ _)
   | (with_reducible exact spec_FloodUntil.mono _ _ _ _ _)
   | (with_reducible exact LeO.refl _)
   | (with_reducible exact LeO.none _)
   | (with_reducible refine LeO.ite ?_ ?_)
   | (with_reducible refine LeO.bind ?_ (fun _ => ?_))
   | exact ih0 _ _ _ _ _ _ _ _ _ _
   | exact ih1 _ _ _ _ _ _ _ _
   | exact ih2 _ _ _
   | exact impl_FloodUntil.mono _ _ _ _ _
   | exact laws_eqContactS.mono _ _ _
   | exact laws_eqIntS.mono _ _ _
   | exact laws_heldIntS.mono _ _ _
   | exact laws_markContactS.mono _ _ _
   | exact laws_markIntS.mono _ _ _
   | exact laws_toContactS.mono _ _
   | exact spec_FloodUntil.mono _ _ _ _ _
   | exact LeO.none _
   | refine LeO.ite ?_ ?_
   | refine LeO.bind ?_ (fun _ => ?_)
  ·intro y0 y1 y2 y3 y4 y5 y6 y7
   unfold laws_FnExactFloodUntil.j1
   repeat' first
   | (with_reducible exact ih0 _ _ _ _ _ _ _ _ _ _)
   | (with_reducible exact ih1 _ _ _ _ _ _ _ _)
   | (with_reducible exact ih2 _ _ _)
   | (with_reducible exact impl_FloodUntil.mono _ _ _ _ _)
   | (with_reducible exact laws_eqContactS.mono _ _ _)
   | (with_reducible exact laws_eqIntS.mono _ _ _)
   | (with_reducible exact laws_heldIntS.mono _ _ _)
   | (with_reducible exact laws_markContactS.mono _ _ _)
   | (with_reducible exact laws_markIntS.mono _ _ _)
   | (with_reducible exact laws_toContactS.mono _ _)
   | (with_reducible exact spec_FloodUntil.mono _ _ _ _ _)
   | (with_reducible exact LeO.refl _)
   | (with_reducible exact LeO.none _)
   | (with_reducible refine LeO.ite ?_ ?_)
   | (with_reducible refine LeO.bind ?_ (fun _ => ?_))
   | exact ih0 _ _ _ _ _ _ _ _ _ _
   | exact ih1 _ _ _ _ _ _ _ _
   | exact ih2 _ _ _
   | exact impl_FloodUntil.mono _ _ _ _ _
   | exact laws_eqContactS.mono _ _ _
   | exact laws_eqIntS.mono _ _ _
   | exact laws_heldIntS.mono _ _ _
   | exact laws_markContactS.mono _ _ _
   | exact laws_markIntS.mono _ _ _
   | exact laws_toContactS.mono _ _
   | exact spec_FloodUntil.mono _ _ _ _ _
   | exact LeO.none _
   | refine LeO.ite ?_ ?_
   | refine LeO.bind ?_ (fun _ => ?_)
  ·intro y0 y1 y2
   unfold laws_FnExactFloodUntil.j2
   repeat' first
   | (with_reducible exact ih0 _ _ _ _ _ _ _ _ _ _)
   | (with_reducible exact ih1 _ _ _ _ _ _ _ _)
   | (with_reducible exact ih2 _ _ _)
   | (with_reducible exact impl_FloodUntil.mono _ _ _ _ _)
   | (with_reducible exact laws_eqContactS.mono _ _ _)
   | (with_reducible exact laws_eqIntS.mono _ _ _)
   | (with_reducible exact laws_heldIntS.mono _ _ _)
   | (with_reducible exact laws_markContactS.mono _ _ _)
   | (with_reducible exact laws_markIntS.mono _ _ _)
   | (with_reducible exact laws_toContactS.mono _ _)
   | (with_reducible exact spec_FloodUntil.mono _ _ _ _ _)
   | (with_reducible exact LeO.refl _)
   | (with_reducible exact LeO.none _)
   | (with_reducible refine LeO.ite ?_ ?_)
   | (with_reducible refine LeO.bind ?_ (fun _ => ?_))
   | exact ih0 _ _ _ _ _ _ _ _ _ _
   | exact ih1 _ _ _ _ _ _ _ _
   | exact ih2 _ _ _
   | exact impl_FloodUntil.mono _ _ _ _ _
   | exact laws_eqContactS.mono _ _ _
   | exact laws_eqIntS.mono _ _ _
   | exact laws_heldIntS.mono _ _ _
   | exact laws_markContactS.mono _ _ _
   | exact laws_markIntS.mono _ _ _
   | exact laws_toContactS.mono _ _
   | exact spec_FloodUntil.mono _ _ _ _ _
   | exact LeO.none _
   | refine LeO.ite ?_ ?_
   | refine LeO.bind ?_ (fun _ => ?_)
theorem laws_FnExactFloodUntil.mono : ∀ a0 a1 a2 a3 k,LeO (laws_FnExactFloodUntil.f k a0 a1 a2 a3) (laws_FnExactFloodUntil.f (k+1) a0 a1 a2 a3):=by
 intro a0 a1 a2 a3 k
 obtain⟨ih0,ih1,ih2⟩:=laws_FnExactFloodUntil.mono_l k
 unfold laws_FnExactFloodUntil.f
 repeat' first
  | (with_reducible exact ih0 _ _ _ _ _ _ _ _ _ _)
  | (with_reducible exact ih1 _ _ _ _ _ _ _ _)
  | (with_reducible exact ih2 _ _ _)
  | (with_reducible exact impl_FloodUntil.mono _ _ _ _ _)
  | (with_reducible exact laws_eqContactS.mono _ _ _)
  | (with_reducible exact laws_eqIntS.mono _ _ _)
  | (with_reducible exact laws_heldIntS.mono _ _ _)
  | (with_reducible exact laws_markContactS.mono _ _ _)
  | (with_reducible exact laws_markIntS.mono _ _ _)
  | (with_reducible exact laws_toContactS.mono _ _)
  | (with_reducible exact spec_FloodUntil.mono _ _ _ _ _)
  | (with_reducible exact LeO.refl _)
  | (with_reducible exact LeO.none _)
  | (with_reducible refine LeO.ite ?_ ?_)
  | (with_reducible refine LeO.bind ?_ (fun _ => ?_))
  | exact ih0 _ _ _ _ _ _ _ _ _ _
  | exact ih1 _ _ _ _ _ _ _ _
  | exact ih2 _ _ _
  | exact impl_FloodUntil.mono _ _ _ _ _
  | exact laws_eqContactS.mono _ _ _
  | exact laws_eqIntS.mono _ _ _
  | exact laws_heldIntS.mono _ _ _
  | exact laws_markContactS.mono _ _ _
  | exact laws_markIntS.mono _ _ _
  | exact laws_toContactS.mono _ _
  | exact spec_FloodUntil.mono _ _ _ _ _
  | exact LeO.none _
  | refine LeO.ite ?_ ?_
  | refine LeO.bind ?_ (fun _ => ?_)
set_option maxHeartbeats 8000000 in
set_option maxRecDepth 100000 in
theorem laws_FnExactFloodUntil.calls (k:Nat) (A0:Option Addr) (c0:Nat) (l0:List (S125)) (a1:Int) (a2:Int) (a3:Int) (r:Bool) (w:World) (hr0:Kd.C k125 w A0 l0.length l0) (hc0:l0.length≤c0) (h:laws_FnExactFloodUntil.f k l0 a1 a2 a3=some r) :
  Calls Try.prog 4 #[.slice A0 l0.length c0,.int .i64 a1,.int .i64 a2,.int .i64 a3] w fun e w'=>e=.returned (.bool r)∧Below w.heap.size w w':=by
 have HR0:=Aside0.mk hr0
 have HC0:=Aside0.mk hc0
 clear hr0 hc0
 have HB:=Aside0.mk (Below.refl w.heap.size w)
 have H:((laws_szContactS.f l0 1048576).bind fun t222=>(if t222 < 0 then (some true) else ((laws_toContactS.f k l0).bind fun t223=>((spec_FloodUntil.f k t223 a1 a2 a3).bind fun bt226=>((laws_toContactS.f k l0).bind fun t230=>((impl_FloodUntil.f k t230 a1 a2 a3).bind fun bt233=>((laws_eqIntS.f k bt233.1 bt226.1).bind fun t237=>(if t237=true then (laws_FnExactFloodUntil.j0 k l0 a1 a2 a3 bt226.1 bt226.2 t230 bt233.1 bt233.2 (bt233.2 != bt226.2)) else (laws_FnExactFloodUntil.j0 k l0 a1 a2 a3 bt226.1 bt226.2 t230 bt233.1 bt233.2 true)))))))))=some r:=h
 clear h
 replace H:=Option.bind_eq_some_iff.mp H
 obtain⟨t222,A50,H⟩:=H
 have A5:=Aside0.mk A50
 clear A50
 by_cases c6:t222 < 0
 ·rw[if_pos c6] at H
  have c6b0:decide (t222 < 0)=true:=decide_eq_true c6
  clear c6
  obtain rfl:=Option.some.inj H
  go_enter Try.func4,Try.ntmps4
  go_wp2_with (first|((with_reducible refine gate_callee (f:=22) rfl ?_);refine goesA (some 22) rfl rfl Try.func22 #[.slice A0 l0.length c0,.int .i64 1048576] rfl ?_;(with_reducible refine(laws_szContactS.calls _ _ l0 1048576 t222 _ ?side1 ?side2 A5.out).mono ?_);(case side1=>exact b8_);(case side2=>exact HC0.out);rintro e w' ⟨rfl,⟨nd,rfl⟩⟩;refine⟨_,rfl,?_⟩))
  go_ret
  exact⟨bE,bB⟩
 ·rw[if_neg c6] at H
  have c6b0:decide (t222 < 0)=false:=decide_eq_false c6
  clear c6
  replace H:=Option.bind_eq_some_iff.mp H
  obtain⟨t223,A70,H⟩:=H
  have A7:=Aside0.mk A70
  clear A70
  replace H:=Option.bind_eq_some_iff.mp H
  obtain⟨⟨t226,t227⟩,A80,H⟩:=H
  have A8:=Aside0.mk A80
  clear A80
  replace H:=Option.bind_eq_some_iff.mp H
  obtain⟨t230,A90,H⟩:=H
  have A9:=Aside0.mk A90
  clear A90
  replace H:=Option.bind_eq_some_iff.mp H
  obtain⟨⟨t233,t234⟩,A100,H⟩:=H
  have A10:=Aside0.mk A100
  clear A100
  have HC11:=Aside0.mk H
  clear H
  go_enter Try.func4,Try.ntmps4
  go_upto_region 8 with (first|((with_reducible refine gate_callee (f:=22) rfl ?_);refine goesA (some 22) rfl rfl Try.func22 #[.slice A0 l0.length c0,.int .i64 1048576] rfl ?_;(with_reducible refine(laws_szContactS.calls _ _ l0 1048576 t222 _ ?side1 ?side2 A5.out).mono ?_);(case side1=>exact b8_);(case side2=>exact HC0.out);rintro e w' ⟨rfl,⟨nd,rfl⟩⟩;refine⟨_,rfl,?_⟩)|((with_reducible refine gate_callee (f:=24) rfl ?_);refine goesA (some 27) rfl rfl Try.func24 #[.slice A0 l0.length c0] rfl ?_;(with_reducible refine(laws_toContactS.calls k _ _ l0 t223 _ ?side1 ?side2 A7.out).mono ?_);(case side1=>exact b8_);(case side2=>exact HC0.out);rintro e w12 ⟨v224,rfl,ho0,hb⟩;refine⟨_,rfl,?_⟩;have n0_:=Aside0.mk (Kd.R_lower ho0 (below_size (bB)));have n1_:=Aside0.mk (below_step (bB) hb);clear HB;have HO225:=n0_;have HB:=n1_;clear n0_ n1_;(try clear hb);(try clear hb2);(try clear hk);(try clear hi);(try clear ho0);obtain⟨Ao13,co13,eo13⟩:=Kd.R_slice HO225.out;subst eo13)|((with_reducible refine gate_callee (f:=23) rfl ?_);refine goesA (some 31) rfl rfl Try.func23 #[.slice Ao13 t223.length co13,.int .i64 a1,.int .i64 a2,.int .i64 a3] rfl ?_;(with_reducible refine(spec_FloodUntil.calls k _ _ t223 a1 a2 a3 t226 t227 _ ?side1 ?side2 A8.out).mono ?_);(case side1=>exact bT HO225.out);(case side2=>exact(Kd.R_reads' HO225.out).2.1);rintro e w14 ⟨v228,rfl,ho0,hb⟩;refine⟨_,rfl,?_⟩;have n0_:=Aside0.mk (Kd.R_below (bK HO225.out) hb);have n1_:=Aside0.mk (Kd.R_lower ho0 (below_size (bB)));have n2_:=Aside0.mk (below_step (bB) hb);clear HO225 HB;have HO225:=n0_;have HO229:=n1_;have HB:=n2_;clear n0_ n1_ n2_;(try clear hb);(try clear hb2);(try clear hk);(try clear hi);(try clear ho0))|((with_reducible refine gate_callee (f:=24) rfl ?_);refine goesA (some 35) rfl rfl Try.func24 #[.slice A0 l0.length c0] rfl ?_;(with_reducible refine(laws_toContactS.calls k _ _ l0 t230 _ ?side1 ?side2 A9.out).mono ?_);(case side1=>exact bC HR0.out);(case side2=>exact HC0.out);rintro e w15 ⟨v231,rfl,ho0,hb⟩;refine⟨_,rfl,?_⟩;have n0_:=Aside0.mk (Kd.R_elder' (bK HO225.out) (Kd.R_base ho0) hb);have n1_:=Aside0.mk (Kd.R_below (bK HO229.out) hb);have n2_:=Aside0.mk (Kd.R_lower (Kd.R_new' ho0 (Kd.R_lt (bK HO225.out))) (below_size (bB)));have n3_:=Aside0.mk (below_step (bB) hb);clear HO225 HO229 HB;have HO225:=n0_;have HO229:=n1_;have HO232:=n2_;have HB:=n3_;clear n0_ n1_ n2_ n3_;(try clear hb);(try clear hb2);(try clear hk);(try clear hi);(try clear ho0);obtain⟨Ao16,co16,eo16⟩:=Kd.R_slice HO232.out;subst eo16)|((with_reducible refine gate_callee (f:=25) rfl ?_);refine goesA (some 41) rfl rfl Try.func25 #[.slice Ao16 t230.length co16,.int .i64 a1,.int .i64 a2,.int .i64 a3] rfl ?_;(with_reducible refine(impl_FloodUntil.calls k _ _ t230 a1 a2 a3 t233 t234 _ ?side1 ?side2 A10.out).mono ?_);(case side1=>exact bT HO232.out);(case side2=>exact(Kd.R_reads' HO232.out).2.1);rintro e w17 ⟨v235,rfl,ho0,hb⟩;refine⟨_,rfl,?_⟩;have n0_:=Aside0.mk (Kd.R_below (bK HO225.out) hb);have n1_:=Aside0.mk (Kd.R_elder' (bK HO229.out) (Kd.R_base ho0) hb);have n2_:=Aside0.mk (Kd.R_below (bK HO232.out) hb);have n3_:=Aside0.mk (Kd.R_lower (Kd.R_new' ho0 (Kd.R_lt (bK HO229.out))) (below_size (bB)));have n4_:=Aside0.mk (below_step (bB) hb);clear HO225 HO229 HO232 HB;have HO225:=n0_;have HO229:=n1_;have HO232:=n2_;have HO236:=n3_;have HB:=n4_;clear n0_ n1_ n2_ n3_ n4_;(try clear hb);(try clear hb2);(try clear hk);(try clear hi);(try clear ho0)))
  (try simp only[Act.put,List.setIfInBounds_toArray,List.set_cons_zero,List.set_cons_succ])
  go_cut [52] (fun v52 wc => ∃ (kq:Nat) (x52_10:Bool),v52=.bool x52_10∧Aside0 (laws_FnExactFloodUntil.j0 kq l0 a1 a2 a3 t226 t227 t230 t233 t234 x52_10=some r)∧Aside0 (kq≤k)∧Aside0 (Kd.R (Kd.int .i64) 3 wc w.heap.size (fun k_=>some k_≠(v235:Value).ownBlock) v228 t226)∧Aside0 (Kd.R k104 104 wc w.heap.size (fun _=>True) (.slice Ao16 t230.length co16) t230)∧Aside0 (Kd.R (Kd.int .i64) 3 wc w.heap.size (fun k_=>some k_≠(v228:Value).ownBlock) v235 t233)∧Aside0 (Below w.heap.size w wc))
  case first =>
   have H:=HC11.out
   clear HC11
   replace H:=Option.bind_eq_some_iff.mp H
   obtain⟨t237,A180,H⟩:=H
   have A18:=Aside0.mk A180
   clear A180
   by_cases c19:t237=true
   ·subst c19
    have H1:(laws_FnExactFloodUntil.j0 k l0 a1 a2 a3 t226 t227 t230 t233 t234 (t234 != t227))=some r:=by rw[if_pos rfl] at H;exact H
    clear H
    have H:=H1
    clear H1
    have H':=Aside0.mk H
    clear H
    obtain⟨Ao20,co20,eo20⟩:=Kd.R_slice HO236.out
    subst eo20
    obtain⟨Ao21,co21,eo21⟩:=Kd.R_slice HO229.out
    subst eo21
    go_wp2_with (first|((with_reducible refine gate_callee (f:=26) rfl ?_);refine goesA (some 46) rfl rfl Try.func26 #[.slice Ao20 t233.length co20,.slice Ao21 t226.length co21] rfl ?_;(with_reducible refine(laws_eqIntS.calls k _ _ t233 _ _ t226 true _ ?side1 ?side2 ?side3 ?side4 A18.out).mono ?_);(case side1=>exact bT HO236.out);(case side2=>exact(Kd.R_reads' HO236.out).2.1);(case side3=>exact bT HO229.out);(case side4=>exact(Kd.R_reads' HO229.out).2.1);rintro e w' ⟨rfl,⟨nd,rfl⟩⟩;refine⟨_,rfl,?_⟩))
    go_meet
    case rel=>exact⟨_,((t234 != t227)),(bR),H',⟨by first|omega|exact Nat.le_refl _⟩,⟨by(with_reducible repeat (first|apply Kd.R_alloc|apply Kd.R_drewN|apply Kd.R_drew));exact Kd.R_mono HO229.out (fun _ hk=>hk.2)⟩,⟨by(with_reducible repeat (first|apply Kd.R_alloc|apply Kd.R_drewN|apply Kd.R_drew));exact Kd.R_mono HO232.out (fun _ hk=>trivial)⟩,⟨by(with_reducible repeat (first|apply Kd.R_alloc|apply Kd.R_drewN|apply Kd.R_drew));exact Kd.R_mono HO236.out (fun _ hk=>hk.2)⟩,⟨by repeat (first|(with_reducible first|exact HB.out|apply below_alloc|apply pw_below_drewN|apply below_drew1)|exact HB.out)⟩⟩
   ·replace c19:=Bool.eq_false_iff.mpr c19
    subst c19
    have H1:(laws_FnExactFloodUntil.j0 k l0 a1 a2 a3 t226 t227 t230 t233 t234 true)=some r:=by rw[if_neg (show ¬ (false=true) by decide)] at H;exact H
    clear H
    have H:=H1
    clear H1
    have H':=Aside0.mk H
    clear H
    obtain⟨Ao22,co22,eo22⟩:=Kd.R_slice HO236.out
    subst eo22
    obtain⟨Ao23,co23,eo23⟩:=Kd.R_slice HO229.out
    subst eo23
    go_wp2_with (first|((with_reducible refine gate_callee (f:=26) rfl ?_);refine goesA (some 46) rfl rfl Try.func26 #[.slice Ao22 t233.length co22,.slice Ao23 t226.length co23] rfl ?_;(with_reducible refine(laws_eqIntS.calls k _ _ t233 _ _ t226 false _ ?side1 ?side2 ?side3 ?side4 A18.out).mono ?_);(case side1=>exact bT HO236.out);(case side2=>exact(Kd.R_reads' HO236.out).2.1);(case side3=>exact bT HO229.out);(case side4=>exact(Kd.R_reads' HO229.out).2.1);rintro e w' ⟨rfl,⟨nd,rfl⟩⟩;refine⟨_,rfl,?_⟩))
    go_meet
    case rel=>exact⟨_,(true),(bR),H',⟨by first|omega|exact Nat.le_refl _⟩,⟨by(with_reducible repeat (first|apply Kd.R_alloc|apply Kd.R_drewN|apply Kd.R_drew));exact Kd.R_mono HO229.out (fun _ hk=>hk.2)⟩,⟨by(with_reducible repeat (first|apply Kd.R_alloc|apply Kd.R_drewN|apply Kd.R_drew));exact Kd.R_mono HO232.out (fun _ hk=>trivial)⟩,⟨by(with_reducible repeat (first|apply Kd.R_alloc|apply Kd.R_drewN|apply Kd.R_drew));exact Kd.R_mono HO236.out (fun _ hk=>hk.2)⟩,⟨by repeat (first|(with_reducible first|exact HB.out|apply below_alloc|apply pw_below_drewN|apply below_drew1)|exact HB.out)⟩⟩
  case rest =>
   clear HC11
   try clear c1
   try clear c2
   try clear p2
   try clear c4
   try clear c6
   try clear c6b0
   try clear c19
   try clear c22
   try clear c23
   obtain⟨kq,x52_10,rfl,HA,HJ10,HO_10,HO_12,HO_13,HB⟩:=hcut
   cases kq with
   | zero=>exact absurd HA.out (by simp[laws_FnExactFloodUntil.j0])
   | succ kj10 =>
    have H:=HA.out
    clear HA
    simp only[laws_FnExactFloodUntil.j0] at H
    by_cases c24:x52_10=true
    ·subst c24
     have H1:(some false)=some r:=by rw[if_pos rfl] at H;exact H
     clear H
     have H:=H1
     clear H1
     obtain rfl:=Option.some.inj H
     go_wp2
     go_ret
     exact⟨bE,bB⟩
    ·replace c24:=Bool.eq_false_iff.mpr c24
     subst c24
     have H1:((laws_toContactS.f kj10 l0).bind fun t238=>((laws_eqContactS.f kj10 t230 t238).bind fun t241=>(if t241=true then ((laws_markContactS.f kj10 t230 1).bind fun bt242=>(if bt242.1 < 0 then (laws_FnExactFloodUntil.j1 kj10 l0 a1 a2 a3 t226 t227 t233 true) else ((laws_eqIntS.f kj10 t233 t226).bind fun t244=>(if t244=true then (laws_FnExactFloodUntil.j1 kj10 l0 a1 a2 a3 t226 t227 t233 (t234 != t227)) else (laws_FnExactFloodUntil.j1 kj10 l0 a1 a2 a3 t226 t227 t233 true))))) else (some false))))=some r:=by rw[if_neg (show ¬ (false=true) by decide)] at H;exact H
     clear H
     have H:=H1
     clear H1
     replace H:=Option.bind_eq_some_iff.mp H
     obtain⟨t238,A250,H⟩:=H
     have A25:=Aside0.mk A250
     clear A250
     replace H:=Option.bind_eq_some_iff.mp H
     obtain⟨t241,A260,H⟩:=H
     have A26:=Aside0.mk A260
     clear A260
     by_cases c27:t241=true
     ·subst c27
      have H1:((laws_markContactS.f kj10 t230 1).bind fun bt242=>(if bt242.1 < 0 then (laws_FnExactFloodUntil.j1 kj10 l0 a1 a2 a3 t226 t227 t233 true) else ((laws_eqIntS.f kj10 t233 t226).bind fun t244=>(if t244=true then (laws_FnExactFloodUntil.j1 kj10 l0 a1 a2 a3 t226 t227 t233 (t234 != t227)) else (laws_FnExactFloodUntil.j1 kj10 l0 a1 a2 a3 t226 t227 t233 true)))))=some r:=by rw[if_pos rfl] at H;exact H
      clear H
      have H:=H1
      clear H1
      replace H:=Option.bind_eq_some_iff.mp H
      obtain⟨⟨t242,t243⟩,A280,H⟩:=H
      have A28:=Aside0.mk A280
      clear A280
      have HC29:=Aside0.mk H
      clear H
      go_upto_region 14 with (first|((with_reducible refine gate_callee (f:=24) rfl ?_);refine goesA (some 55) rfl rfl Try.func24 #[.slice A0 l0.length c0] rfl ?_;(with_reducible refine(laws_toContactS.calls kj10 _ _ l0 t238 _ ?side1 ?side2 A25.out).mono ?_);(case side1=>exact bC HR0.out);(case side2=>exact HC0.out);rintro e w30 ⟨v239,rfl,ho0,hb⟩;refine⟨_,rfl,?_⟩;have n0_:=Aside0.mk (Kd.R_below (bK HO_10.out) hb);have n1_:=Aside0.mk (Kd.R_elder' (bK HO_12.out) (Kd.R_base ho0) hb);have n2_:=Aside0.mk (Kd.R_below (bK HO_13.out) hb);have n3_:=Aside0.mk (Kd.R_lower (Kd.R_new' ho0 (Kd.R_lt (bK HO_12.out))) (below_size (bB)));have n4_:=Aside0.mk (below_step (bB) hb);clear HO_10 HO_12 HO_13 HB;have HO_10:=n0_;have HO_12:=n1_;have HO_13:=n2_;have HO240:=n3_;have HB:=n4_;clear n0_ n1_ n2_ n3_ n4_;(try clear hb);(try clear hb2);(try clear hk);(try clear hi);(try clear ho0);obtain⟨Ao31,co31,eo31⟩:=Kd.R_slice HO240.out;subst eo31)|((with_reducible refine gate_callee (f:=27) rfl ?_);refine goesA (some 56) rfl rfl Try.func27 #[.slice Ao16 t230.length co16,.slice Ao31 t238.length co31] rfl ?_;(with_reducible refine(laws_eqContactS.calls kj10 _ _ t230 _ _ t238 true _ ?side1 ?side2 ?side3 ?side4 A26.out).mono ?_);(case side1=>exact bT HO_12.out);(case side2=>exact(Kd.R_reads' HO_12.out).2.1);(case side3=>exact bT HO240.out);(case side4=>exact(Kd.R_reads' HO240.out).2.1);rintro e w32 ⟨rfl,hb⟩;refine⟨_,rfl,?_⟩;have n0_:=Aside0.mk (Kd.R_below (bK HO_10.out) hb);have n1_:=Aside0.mk (Kd.R_below (bK HO_12.out) hb);have n2_:=Aside0.mk (Kd.R_below (bK HO_13.out) hb);have n3_:=Aside0.mk (Kd.R_below (bK HO240.out) hb);have n4_:=Aside0.mk (below_step (bB) hb);clear HO_10 HO_12 HO_13 HO240 HB;have HO_10:=n0_;have HO_12:=n1_;have HO_13:=n2_;have HO240:=n3_;have HB:=n4_;clear n0_ n1_ n2_ n3_ n4_;(try clear hb);(try clear hb2);(try clear hk);(try clear hi))|((with_reducible refine gate_callee (f:=28) rfl ?_);refine goesA (some 60) rfl rfl Try.func28 #[.slice Ao16 t230.length co16,.int .i64 1] rfl ?_;(with_reducible refine(laws_markContactS.calls kj10 (fun k_=>some k_=(.slice Ao16 t230.length co16:Value).ownBlock) (.slice Ao16 t230.length co16) t230 1 t242 t243 w _ ?side1 ?side2 A28.out).mono ?_);(case side1=>repeat (first|(with_reducible first|exact HB.out|apply below_alloc|apply pw_below_drewN|apply below_drew1)|exact HB.out));(case side2=>exact Kd.R_tight rfl HO_12.out);rintro e w33 ⟨rfl,hy0,hb,hkp⟩;refine⟨_,rfl,?_⟩;have n0_:=Aside0.mk (Kd.R_mono (ok':=fun k_=>some k_≠(v235:Value).ownBlock) (Kd.R_keptB ((Kd.R_apart' HO_10.out (Kd.R_typed HO_12.out) (b4_))) hkp (fun k_ hk_ hs_=>(hk_.2) hs_)) (fun k_ hk_=>hk_.1.1));have n1_:=Aside0.mk (Kd.R_reok rfl hy0 (fun k_ e_=>HO_12.out.1 k_ e_));have n2_:=Aside0.mk (Kd.R_mono (ok':=fun k_=>some k_≠(v228:Value).ownBlock) (Kd.R_keptB ((Kd.R_apart' HO_13.out (Kd.R_typed HO_12.out) (b4_))) hkp (fun k_ hk_ hs_=>(hk_.2) hs_)) (fun k_ hk_=>hk_.1.1));have n3_:=Aside0.mk (Kd.R_mono (ok':=fun k_=>some k_≠(.slice Ao16 t230.length co16:Value).ownBlock) (Kd.R_keptB (HO240.out) hkp (fun k_ hk_ hs_=>(hk_.2) hs_)) (fun k_ hk_=>hk_.1.2));have n4_:=Aside0.mk (hb);clear HO_10 HO_12 HO_13 HO240 HB;have HO_10:=n0_;have HO_12:=n1_;have HO_13:=n2_;have HO240:=n3_;have HB:=n4_;clear n0_ n1_ n2_ n3_ n4_;(try clear hb);(try clear hkp);(try clear hy0)))
      (try simp only[Act.put,List.setIfInBounds_toArray,List.set_cons_zero,List.set_cons_succ])
      go_cut [73] (fun v73 wc => ∃ (kq:Nat) (x73_28:Bool),v73=.bool x73_28∧Aside0 (laws_FnExactFloodUntil.j1 kq l0 a1 a2 a3 t226 t227 t233 x73_28=some r)∧Aside0 (kq≤kj10)∧Aside0 (Kd.R (Kd.int .i64) 3 wc w.heap.size (fun k_=>some k_≠(v235:Value).ownBlock) v228 t226)∧Aside0 (Kd.R (Kd.int .i64) 3 wc w.heap.size (fun k_=>some k_≠(v228:Value).ownBlock) v235 t233)∧Aside0 (Below w.heap.size w wc))
      case first =>
       have H:=HC29.out
       clear HC29
       by_cases c34:t242 < 0
       ·rw[if_pos c34] at H
        have c34b0:decide (t242 < 0)=true:=decide_eq_true c34
        clear c34
        (first|rw[c34b0]|(simp only[i64_w,i32_w];rw[c34b0])|skip)
        have H':=Aside0.mk H
        clear H
        go_wp2
        go_meet
        case rel=>exact⟨_,(true),(bR),H',⟨by have:=HJ10.out;first|omega|exact Nat.le_refl _⟩,⟨by(with_reducible repeat (first|apply Kd.R_alloc|apply Kd.R_drewN|apply Kd.R_drew));exact HO_10.out⟩,⟨by(with_reducible repeat (first|apply Kd.R_alloc|apply Kd.R_drewN|apply Kd.R_drew));exact HO_13.out⟩,⟨by repeat (first|(with_reducible first|exact HB.out|apply below_alloc|apply pw_below_drewN|apply below_drew1)|exact HB.out)⟩⟩
       ·rw[if_neg c34] at H
        have c34b0:decide (t242 < 0)=false:=decide_eq_false c34
        clear c34
        (first|rw[c34b0]|(simp only[i64_w,i32_w];rw[c34b0])|skip)
        replace H:=Option.bind_eq_some_iff.mp H
        obtain⟨t244,A350,H⟩:=H
        have A35:=Aside0.mk A350
        clear A350
        by_cases c36:t244=true
        ·subst c36
         have H1:(laws_FnExactFloodUntil.j1 kj10 l0 a1 a2 a3 t226 t227 t233 (t234 != t227))=some r:=by rw[if_pos rfl] at H;exact H
         clear H
         have H:=H1
         clear H1
         have H':=Aside0.mk H
         clear H
         obtain⟨Ao37,co37,eo37⟩:=Kd.R_slice HO_13.out
         subst eo37
         obtain⟨Ao38,co38,eo38⟩:=Kd.R_slice HO_10.out
         subst eo38
         go_wp2_with (first|(go_at_call 26;(with_reducible refine(laws_eqIntS.calls kj10 _ _ t233 _ _ t226 true _ ?side1 ?side2 ?side3 ?side4 A35.out).mono ?_);(case side1=>exact bT HO_13.out);(case side2=>exact(Kd.R_reads' HO_13.out).2.1);(case side3=>exact bT HO_10.out);(case side4=>exact(Kd.R_reads' HO_10.out).2.1);rintro e w' ⟨rfl,⟨nd,rfl⟩⟩))
         go_meet
         case rel=>exact⟨_,((t234 != t227)),(bR),H',⟨by have:=HJ10.out;first|omega|exact Nat.le_refl _⟩,⟨by(with_reducible repeat (first|apply Kd.R_alloc|apply Kd.R_drewN|apply Kd.R_drew));exact HO_10.out⟩,⟨by(with_reducible repeat (first|apply Kd.R_alloc|apply Kd.R_drewN|apply Kd.R_drew));exact HO_13.out⟩,⟨by repeat (first|(with_reducible first|exact HB.out|apply below_alloc|apply pw_below_drewN|apply below_drew1)|exact HB.out)⟩⟩
        ·replace c36:=Bool.eq_false_iff.mpr c36
         subst c36
         have H1:(laws_FnExactFloodUntil.j1 kj10 l0 a1 a2 a3 t226 t227 t233 true)=some r:=by rw[if_neg (show ¬ (false=true) by decide)] at H;exact H
         clear H
         have H:=H1
         clear H1
         have H':=Aside0.mk H
         clear H
         obtain⟨Ao39,co39,eo39⟩:=Kd.R_slice HO_13.out
         subst eo39
         obtain⟨Ao40,co40,eo40⟩:=Kd.R_slice HO_10.out
         subst eo40
         go_wp2_with (first|(go_at_call 26;(with_reducible refine(laws_eqIntS.calls kj10 _ _ t233 _ _ t226 false _ ?side1 ?side2 ?side3 ?side4 A35.out).mono ?_);(case side1=>exact bT HO_13.out);(case side2=>exact(Kd.R_reads' HO_13.out).2.1);(case side3=>exact bT HO_10.out);(case side4=>exact(Kd.R_reads' HO_10.out).2.1);rintro e w' ⟨rfl,⟨nd,rfl⟩⟩))
         go_meet
         case rel=>exact⟨_,(true),(bR),H',⟨by have:=HJ10.out;first|omega|exact Nat.le_refl _⟩,⟨by(with_reducible repeat (first|apply Kd.R_alloc|apply Kd.R_drewN|apply Kd.R_drew));exact HO_10.out⟩,⟨by(with_reducible repeat (first|apply Kd.R_alloc|apply Kd.R_drewN|apply Kd.R_drew));exact HO_13.out⟩,⟨by repeat (first|(with_reducible first|exact HB.out|apply below_alloc|apply pw_below_drewN|apply below_drew1)|exact HB.out)⟩⟩
      case rest =>
       clear HC29
       try clear c1
       try clear c2
       try clear p2
       try clear c3
       try clear c4
       try clear c6
       try clear c6b0
       try clear c19
       try clear c22
       try clear c23
       try clear c24
       try clear c25
       try clear c26
       try clear c27
       try clear c28
       try clear c34
       try clear c34b0
       try clear c36
       try clear p2
       obtain⟨kq,x73_28,rfl,HA,HJ28,HO_10,HO_13,HB⟩:=hcut
       cases kq with
       | zero=>exact absurd HA.out (by simp[laws_FnExactFloodUntil.j1])
       | succ kj28 =>
        have H:=HA.out
        clear HA
        simp only[laws_FnExactFloodUntil.j1] at H
        by_cases c41:x73_28=true
        ·subst c41
         have H1:(some false)=some r:=by rw[if_pos rfl] at H;exact H
         clear H
         have H:=H1
         clear H1
         obtain rfl:=Option.some.inj H
         go_wp2
         go_ret
         exact⟨bE,bB⟩
        ·replace c41:=Bool.eq_false_iff.mpr c41
         subst c41
         have H1:((laws_markIntS.f kj28 t233 1).bind fun bt245=>((laws_heldIntS.f kj28 bt245.2 1).bind fun t247=>(if t247 < 0 then (some false) else (if t247=bt245.1 then ((laws_toContactS.f kj28 l0).bind fun t248=>((impl_FloodUntil.f kj28 t248 a1 a2 a3).bind fun bt251=>((laws_eqIntS.f kj28 bt251.1 t226).bind fun t255=>(if t255=true then (laws_FnExactFloodUntil.j2 kj28 bt245.2 bt245.1 (bt251.2 != t227)) else (laws_FnExactFloodUntil.j2 kj28 bt245.2 bt245.1 true))))) else (some false)))))=some r:=by rw[if_neg (show ¬ (false=true) by decide)] at H;exact H
         clear H
         have H:=H1
         clear H1
         replace H:=Option.bind_eq_some_iff.mp H
         obtain⟨⟨t245,t246⟩,A420,H⟩:=H
         have A42:=Aside0.mk A420
         clear A420
         replace H:=Option.bind_eq_some_iff.mp H
         obtain⟨t247,A430,H⟩:=H
         have A43:=Aside0.mk A430
         clear A430
         by_cases c44:t247 < 0
         ·rw[if_pos c44] at H
          have c44b0:decide (t247 < 0)=true:=decide_eq_true c44
          clear c44
          obtain rfl:=Option.some.inj H
          obtain⟨Ao45,co45,eo45⟩:=Kd.R_slice HO_13.out
          subst eo45
          go_wp2_with (first|((with_reducible refine gate_callee (f:=29) rfl ?_);refine goesA (some 76) rfl rfl Try.func29 #[.slice Ao45 t233.length co45,.int .i64 1] rfl ?_;(with_reducible refine(laws_markIntS.calls kj28 (fun k_=>some k_=(.slice Ao45 t233.length co45:Value).ownBlock) (.slice Ao45 t233.length co45) t233 1 t245 t246 w _ ?side1 ?side2 A42.out).mono ?_);(case side1=>repeat (first|(with_reducible first|exact HB.out|apply below_alloc|apply pw_below_drewN|apply below_drew1)|exact HB.out));(case side2=>exact Kd.R_tight rfl HO_13.out);rintro e w46 ⟨rfl,hy0,hb,hkp⟩;refine⟨_,rfl,?_⟩;have n0_:=Aside0.mk (Kd.R_mono (ok':=fun k_=>some k_≠(.slice Ao45 t233.length co45:Value).ownBlock) (Kd.R_keptB (HO_10.out) hkp (fun k_ hk_ hs_=>(hk_) hs_)) (fun k_ hk_=>hk_.1));have n1_:=Aside0.mk (Kd.R_reok rfl hy0 (fun k_ e_=>HO_13.out.1 k_ e_));have n2_:=Aside0.mk (hb);clear HO_10 HO_13 HB;have HO_10:=n0_;have HO_13:=n1_;have HB:=n2_;clear n0_ n1_ n2_;(try clear hb);(try clear hkp);(try clear hy0))|((with_reducible refine gate_callee (f:=30) rfl ?_);refine goesL_ (some 79) rfl rfl Try.func30 (b0_) rfl #[.slice Ao45 t246.length co45,.int .i64 1] rfl (b5_) ?_;(with_reducible refine(laws_heldIntS.calls kj28 _ _ t246 1 t247 _ ?side1 ?side2 A43.out).mono ?_);(case side1=>exact bT HO_13.out);(case side2=>rw[show t246.length=t233.length from (Kd.R_reads' HO_13.out).1.symm];exact(Kd.R_reads' HO_13.out).2.1);rintro e w' ⟨rfl,⟨nd,rfl⟩⟩;refine⟨_,rfl,?_⟩))
          go_ret
          exact⟨bE,bB⟩
         ·rw[if_neg c44] at H
          have c44b0:decide (t247 < 0)=false:=decide_eq_false c44
          clear c44
          by_cases c47:t247=t245
          ·rw[if_pos c47] at H
           have c47b0:(t247 == t245)=true:=beq_iff_eq.mpr c47
           have c47b1:(t247 != t245)=false:=bne_eq_false_iff_eq.mpr c47
           clear c47
           replace H:=Option.bind_eq_some_iff.mp H
           obtain⟨t248,A480,H⟩:=H
           have A48:=Aside0.mk A480
           clear A480
           replace H:=Option.bind_eq_some_iff.mp H
           obtain⟨⟨t251,t252⟩,A490,H⟩:=H
           have A49:=Aside0.mk A490
           clear A490
           have HC50:=Aside0.mk H
           clear H
           obtain⟨Ao51,co51,eo51⟩:=Kd.R_slice HO_13.out
           subst eo51
           go_upto_region 25 with (first|((with_reducible refine gate_callee (f:=29) rfl ?_);refine goesA (some 76) rfl rfl Try.func29 #[.slice Ao51 t233.length co51,.int .i64 1] rfl ?_;(with_reducible refine(laws_markIntS.calls kj28 (fun k_=>some k_=(.slice Ao51 t233.length co51:Value).ownBlock) (.slice Ao51 t233.length co51) t233 1 t245 t246 w _ ?side1 ?side2 A42.out).mono ?_);(case side1=>repeat (first|(with_reducible first|exact HB.out|apply below_alloc|apply pw_below_drewN|apply below_drew1)|exact HB.out));(case side2=>exact Kd.R_tight rfl HO_13.out);rintro e w52 ⟨rfl,hy0,hb,hkp⟩;refine⟨_,rfl,?_⟩;have n0_:=Aside0.mk (Kd.R_mono (ok':=fun k_=>some k_≠(.slice Ao51 t233.length co51:Value).ownBlock) (Kd.R_keptB (HO_10.out) hkp (fun k_ hk_ hs_=>(hk_) hs_)) (fun k_ hk_=>hk_.1));have n1_:=Aside0.mk (Kd.R_reok rfl hy0 (fun k_ e_=>HO_13.out.1 k_ e_));have n2_:=Aside0.mk (hb);clear HO_10 HO_13 HB;have HO_10:=n0_;have HO_13:=n1_;have HB:=n2_;clear n0_ n1_ n2_;(try clear hb);(try clear hkp);(try clear hy0))|((with_reducible refine gate_callee (f:=30) rfl ?_);refine goesL_ (some 79) rfl rfl Try.func30 (b0_) rfl #[.slice Ao51 t246.length co51,.int .i64 1] rfl (b5_) ?_;(with_reducible refine(laws_heldIntS.calls kj28 _ _ t246 1 t247 _ ?side1 ?side2 A43.out).mono ?_);(case side1=>exact bT HO_13.out);(case side2=>rw[show t246.length=t233.length from (Kd.R_reads' HO_13.out).1.symm];exact(Kd.R_reads' HO_13.out).2.1);rintro e w' ⟨rfl,⟨nd,rfl⟩⟩;refine⟨_,rfl,?_⟩)|((with_reducible refine gate_callee (f:=24) rfl ?_);refine goesA (some 87) rfl rfl Try.func24 #[.slice A0 l0.length c0] rfl ?_;(with_reducible refine(laws_toContactS.calls kj28 _ _ l0 t248 _ ?side1 ?side2 A48.out).mono ?_);(case side1=>repeat (first|exact(Kd.C_below HR0.out (bB))|(with_reducible refine Kd.C_alloc ?_ _)|(with_reducible refine Kd.C_drewN ?_ _)|(with_reducible refine Kd.C_drew ?_)));(case side2=>exact HC0.out);rintro e w53 ⟨v249,rfl,ho0,hb⟩;refine⟨_,rfl,?_⟩;have n0_:=Aside0.mk (Kd.R_below (bK HO_10.out) hb);have n1_:=Aside0.mk (Kd.R_below (bK HO_13.out) hb);have n2_:=Aside0.mk (Kd.R_lower ho0 (below_size (bB)));have n3_:=Aside0.mk (below_step (bB) hb);clear HO_10 HO_13 HB;have HO_10:=n0_;have HO_13:=n1_;have HO250:=n2_;have HB:=n3_;clear n0_ n1_ n2_ n3_;(try clear hb);(try clear hb2);(try clear hk);(try clear hi);(try clear ho0);obtain⟨Ao54,co54,eo54⟩:=Kd.R_slice HO250.out;subst eo54)|((with_reducible refine gate_callee (f:=25) rfl ?_);refine goesA (some 91) rfl rfl Try.func25 #[.slice Ao54 t248.length co54,.int .i64 a1,.int .i64 a2,.int .i64 a3] rfl ?_;(with_reducible refine(impl_FloodUntil.calls kj28 _ _ t248 a1 a2 a3 t251 t252 _ ?side1 ?side2 A49.out).mono ?_);(case side1=>exact bT HO250.out);(case side2=>exact(Kd.R_reads' HO250.out).2.1);rintro e w55 ⟨v253,rfl,ho0,hb⟩;refine⟨_,rfl,?_⟩;have n0_:=Aside0.mk (Kd.R_elder' (bK HO_10.out) (Kd.R_base ho0) hb);have n1_:=Aside0.mk (Kd.R_elder' (bK HO_13.out) (Kd.R_base ho0) hb);have n2_:=Aside0.mk (Kd.R_below (bK HO250.out) hb);have n3_:=Aside0.mk (Kd.R_lower (Kd.R_new' (Kd.R_new' ho0 (Kd.R_lt (bK HO_10.out))) (Kd.R_lt (bK HO_13.out))) (below_size (bB)));have n4_:=Aside0.mk (below_step (bB) hb);clear HO_10 HO_13 HO250 HB;have HO_10:=n0_;have HO_13:=n1_;have HO250:=n2_;have HO254:=n3_;have HB:=n4_;clear n0_ n1_ n2_ n3_ n4_;(try clear hb);(try clear hb2);(try clear hk);(try clear hi);(try clear ho0)))
           (try simp only[Act.put,List.setIfInBounds_toArray,List.set_cons_zero,List.set_cons_succ])
           go_cut [102] (fun v102 wc => ∃ (kq:Nat) (x102_49:Bool),v102=.bool x102_49∧Aside0 (laws_FnExactFloodUntil.j2 kq t246 t245 x102_49=some r)∧Aside0 (kq≤kj28)∧Aside0 (Kd.R (Kd.int .i64) 3 wc w.heap.size (fun _=>True) (.slice Ao51 t233.length co51) t246)∧Aside0 (Below w.heap.size w wc))
           case first =>
            have H:=HC50.out
            clear HC50
            replace H:=Option.bind_eq_some_iff.mp H
            obtain⟨t255,A560,H⟩:=H
            have A56:=Aside0.mk A560
            clear A560
            by_cases c57:t255=true
            ·subst c57
             have H1:(laws_FnExactFloodUntil.j2 kj28 t246 t245 (t252 != t227))=some r:=by rw[if_pos rfl] at H;exact H
             clear H
             have H:=H1
             clear H1
             have H':=Aside0.mk H
             clear H
             obtain⟨Ao58,co58,eo58⟩:=Kd.R_slice HO254.out
             subst eo58
             obtain⟨Ao59,co59,eo59⟩:=Kd.R_slice HO_10.out
             subst eo59
             go_wp2_with (first|((with_reducible refine gate_callee (f:=26) rfl ?_);refine goesA (some 96) rfl rfl Try.func26 #[.slice Ao58 t251.length co58,.slice Ao59 t226.length co59] rfl ?_;(with_reducible refine(laws_eqIntS.calls kj28 _ _ t251 _ _ t226 true _ ?side1 ?side2 ?side3 ?side4 A56.out).mono ?_);(case side1=>exact bT HO254.out);(case side2=>exact(Kd.R_reads' HO254.out).2.1);(case side3=>exact bT HO_10.out);(case side4=>exact(Kd.R_reads' HO_10.out).2.1);rintro e w' ⟨rfl,⟨nd,rfl⟩⟩;refine⟨_,rfl,?_⟩))
             go_meet
             case rel=>exact⟨_,((t252 != t227)),(bR),H',⟨by have:=HJ10.out;have:=HJ28.out;first|omega|exact Nat.le_refl _⟩,⟨by(with_reducible repeat (first|apply Kd.R_alloc|apply Kd.R_drewN|apply Kd.R_drew));exact Kd.R_mono HO_13.out (fun _ hk=>trivial)⟩,⟨by repeat (first|(with_reducible first|exact HB.out|apply below_alloc|apply pw_below_drewN|apply below_drew1)|exact HB.out)⟩⟩
            ·replace c57:=Bool.eq_false_iff.mpr c57
             subst c57
             have H1:(laws_FnExactFloodUntil.j2 kj28 t246 t245 true)=some r:=by rw[if_neg (show ¬ (false=true) by decide)] at H;exact H
             clear H
             have H:=H1
             clear H1
             have H':=Aside0.mk H
             clear H
             obtain⟨Ao60,co60,eo60⟩:=Kd.R_slice HO254.out
             subst eo60
             obtain⟨Ao61,co61,eo61⟩:=Kd.R_slice HO_10.out
             subst eo61
             go_wp2_with (first|((with_reducible refine gate_callee (f:=26) rfl ?_);refine goesA (some 96) rfl rfl Try.func26 #[.slice Ao60 t251.length co60,.slice Ao61 t226.length co61] rfl ?_;(with_reducible refine(laws_eqIntS.calls kj28 _ _ t251 _ _ t226 false _ ?side1 ?side2 ?side3 ?side4 A56.out).mono ?_);(case side1=>exact bT HO254.out);(case side2=>exact(Kd.R_reads' HO254.out).2.1);(case side3=>exact bT HO_10.out);(case side4=>exact(Kd.R_reads' HO_10.out).2.1);rintro e w' ⟨rfl,⟨nd,rfl⟩⟩;refine⟨_,rfl,?_⟩))
             go_meet
             case rel=>exact⟨_,(true),(bR),H',⟨by have:=HJ10.out;have:=HJ28.out;first|omega|exact Nat.le_refl _⟩,⟨by(with_reducible repeat (first|apply Kd.R_alloc|apply Kd.R_drewN|apply Kd.R_drew));exact Kd.R_mono HO_13.out (fun _ hk=>trivial)⟩,⟨by repeat (first|(with_reducible first|exact HB.out|apply below_alloc|apply pw_below_drewN|apply below_drew1)|exact HB.out)⟩⟩
           case rest =>
            clear HC50
            try clear c1
            try clear c2
            try clear p2
            try clear c3
            try clear c4
            try clear c5
            try clear c6
            try clear c6b0
            try clear c19
            try clear c22
            try clear c23
            try clear c24
            try clear c25
            try clear c26
            try clear c27
            try clear c28
            try clear c29
            try clear c30
            try clear c34
            try clear c34b0
            try clear c36
            try clear c41
            try clear c44
            try clear c44b0
            try clear c47
            try clear c47b0
            try clear c47b1
            try clear c57
            try clear p2
            obtain⟨kq,x102_49,rfl,HA,HJ49,HO_13,HB⟩:=hcut
            have hl13_49:=(Kd.R_reads' HO_13.out).1
            rw[hl13_49] at HO_13
            (try simp only[hl13_49])
            cases kq with
            | zero=>exact absurd HA.out (by simp[laws_FnExactFloodUntil.j2])
            | succ kj49 =>
             have H:=HA.out
             clear HA
             simp only[laws_FnExactFloodUntil.j2] at H
             by_cases c62:x102_49=true
             ·subst c62
              have H1:(some false)=some r:=by rw[if_pos rfl] at H;exact H
              clear H
              have H:=H1
              clear H1
              obtain rfl:=Option.some.inj H
              go_wp2
              go_ret
              exact⟨bE,bB⟩
             ·replace c62:=Bool.eq_false_iff.mpr c62
              subst c62
              have H1:((laws_heldIntS.f kj49 t246 1).bind fun t256=>(if t256 < 0 then (some false) else (if t256=t245 then (some true) else (some false))))=some r:=by rw[if_neg (show ¬ (false=true) by decide)] at H;exact H
              clear H
              have H:=H1
              clear H1
              replace H:=Option.bind_eq_some_iff.mp H
              obtain⟨t256,A630,H⟩:=H
              have A63:=Aside0.mk A630
              clear A630
              by_cases c64:t256 < 0
              ·rw[if_pos c64] at H
               have c64b0:decide (t256 < 0)=true:=decide_eq_true c64
               clear c64
               obtain rfl:=Option.some.inj H
               go_wp2_with (first|((with_reducible refine gate_callee (f:=30) rfl ?_);refine goesA (some 105) rfl rfl Try.func30 #[.slice Ao51 t246.length co51,.int .i64 1] rfl ?_;(with_reducible refine(laws_heldIntS.calls kj49 _ _ t246 1 t256 _ ?side1 ?side2 A63.out).mono ?_);(case side1=>exact bT HO_13.out);(case side2=>exact(Kd.R_reads' HO_13.out).2.1);rintro e w' ⟨rfl,⟨nd,rfl⟩⟩;refine⟨_,rfl,?_⟩))
               go_ret
               exact⟨bE,bB⟩
              ·rw[if_neg c64] at H
               have c64b0:decide (t256 < 0)=false:=decide_eq_false c64
               clear c64
               by_cases c65:t256=t245
               ·rw[if_pos c65] at H
                have c65b0:(t256 == t245)=true:=beq_iff_eq.mpr c65
                have c65b1:(t256 != t245)=false:=bne_eq_false_iff_eq.mpr c65
                clear c65
                obtain rfl:=Option.some.inj H
                go_wp2_with (first|((with_reducible refine gate_callee (f:=30) rfl ?_);refine goesA (some 105) rfl rfl Try.func30 #[.slice Ao51 t246.length co51,.int .i64 1] rfl ?_;(with_reducible refine(laws_heldIntS.calls kj49 _ _ t246 1 t256 _ ?side1 ?side2 A63.out).mono ?_);(case side1=>exact bT HO_13.out);(case side2=>exact(Kd.R_reads' HO_13.out).2.1);rintro e w' ⟨rfl,⟨nd,rfl⟩⟩;refine⟨_,rfl,?_⟩))
                go_ret
                exact⟨bE,bB⟩
               ·rw[if_neg c65] at H
                have c65b0:(t256 == t245)=false:=beq_eq_false_iff_ne.mpr c65
                have c65b1:(t256 != t245)=true:=bne_iff_ne.mpr c65
                obtain rfl:=Option.some.inj H
                go_wp2_with (first|((with_reducible refine gate_callee (f:=30) rfl ?_);refine goesA (some 105) rfl rfl Try.func30 #[.slice Ao51 t246.length co51,.int .i64 1] rfl ?_;(with_reducible refine(laws_heldIntS.calls kj49 _ _ t246 1 t256 _ ?side1 ?side2 A63.out).mono ?_);(case side1=>exact bT HO_13.out);(case side2=>exact(Kd.R_reads' HO_13.out).2.1);rintro e w' ⟨rfl,⟨nd,rfl⟩⟩;refine⟨_,rfl,?_⟩))
                go_ret
                exact⟨bE,bB⟩
          ·rw[if_neg c47] at H
           have c47b0:(t247 == t245)=false:=beq_eq_false_iff_ne.mpr c47
           have c47b1:(t247 != t245)=true:=bne_iff_ne.mpr c47
           obtain rfl:=Option.some.inj H
           obtain⟨Ao66,co66,eo66⟩:=Kd.R_slice HO_13.out
           subst eo66
           go_wp2_with (first|((with_reducible refine gate_callee (f:=29) rfl ?_);refine goesA (some 76) rfl rfl Try.func29 #[.slice Ao66 t233.length co66,.int .i64 1] rfl ?_;(with_reducible refine(laws_markIntS.calls kj28 (fun k_=>some k_=(.slice Ao66 t233.length co66:Value).ownBlock) (.slice Ao66 t233.length co66) t233 1 t245 t246 w _ ?side1 ?side2 A42.out).mono ?_);(case side1=>repeat (first|(with_reducible first|exact HB.out|apply below_alloc|apply pw_below_drewN|apply below_drew1)|exact HB.out));(case side2=>exact Kd.R_tight rfl HO_13.out);rintro e w67 ⟨rfl,hy0,hb,hkp⟩;refine⟨_,rfl,?_⟩;have n0_:=Aside0.mk (Kd.R_mono (ok':=fun k_=>some k_≠(.slice Ao66 t233.length co66:Value).ownBlock) (Kd.R_keptB (HO_10.out) hkp (fun k_ hk_ hs_=>(hk_) hs_)) (fun k_ hk_=>hk_.1));have n1_:=Aside0.mk (Kd.R_reok rfl hy0 (fun k_ e_=>HO_13.out.1 k_ e_));have n2_:=Aside0.mk (hb);clear HO_10 HO_13 HB;have HO_10:=n0_;have HO_13:=n1_;have HB:=n2_;clear n0_ n1_ n2_;(try clear hb);(try clear hkp);(try clear hy0))|((with_reducible refine gate_callee (f:=30) rfl ?_);refine goesL_ (some 79) rfl rfl Try.func30 (b0_) rfl #[.slice Ao66 t246.length co66,.int .i64 1] rfl (b5_) ?_;(with_reducible refine(laws_heldIntS.calls kj28 _ _ t246 1 t247 _ ?side1 ?side2 A43.out).mono ?_);(case side1=>exact bT HO_13.out);(case side2=>rw[show t246.length=t233.length from (Kd.R_reads' HO_13.out).1.symm];exact(Kd.R_reads' HO_13.out).2.1);rintro e w' ⟨rfl,⟨nd,rfl⟩⟩;refine⟨_,rfl,?_⟩))
           go_ret
           exact⟨bE,bB⟩
     ·replace c27:=Bool.eq_false_iff.mpr c27
      subst c27
      have H1:(some false)=some r:=by rw[if_neg (show ¬ (false=true) by decide)] at H;exact H
      clear H
      have H:=H1
      clear H1
      obtain rfl:=Option.some.inj H
      go_wp2_with (first|((with_reducible refine gate_callee (f:=24) rfl ?_);refine goesA (some 55) rfl rfl Try.func24 #[.slice A0 l0.length c0] rfl ?_;(with_reducible refine(laws_toContactS.calls kj10 _ _ l0 t238 _ ?side1 ?side2 A25.out).mono ?_);(case side1=>exact bC HR0.out);(case side2=>exact HC0.out);rintro e w68 ⟨v239,rfl,ho0,hb⟩;refine⟨_,rfl,?_⟩;have n0_:=Aside0.mk (Kd.R_below (bK HO_10.out) hb);have n1_:=Aside0.mk (Kd.R_elder' (bK HO_12.out) (Kd.R_base ho0) hb);have n2_:=Aside0.mk (Kd.R_below (bK HO_13.out) hb);have n3_:=Aside0.mk (Kd.R_lower (Kd.R_new' ho0 (Kd.R_lt (bK HO_12.out))) (below_size (bB)));have n4_:=Aside0.mk (below_step (bB) hb);clear HO_10 HO_12 HO_13 HB;have HO_10:=n0_;have HO_12:=n1_;have HO_13:=n2_;have HO240:=n3_;have HB:=n4_;clear n0_ n1_ n2_ n3_ n4_;(try clear hb);(try clear hb2);(try clear hk);(try clear hi);(try clear ho0);obtain⟨Ao69,co69,eo69⟩:=Kd.R_slice HO240.out;subst eo69)|((with_reducible refine gate_callee (f:=27) rfl ?_);refine goesA (some 56) rfl rfl Try.func27 #[.slice Ao16 t230.length co16,.slice Ao69 t238.length co69] rfl ?_;(with_reducible refine(laws_eqContactS.calls kj10 _ _ t230 _ _ t238 false _ ?side1 ?side2 ?side3 ?side4 A26.out).mono ?_);(case side1=>exact bT HO_12.out);(case side2=>exact(Kd.R_reads' HO_12.out).2.1);(case side3=>exact bT HO240.out);(case side4=>exact(Kd.R_reads' HO240.out).2.1);rintro e w70 ⟨rfl,hb⟩;refine⟨_,rfl,?_⟩;have n0_:=Aside0.mk (Kd.R_below (bK HO_10.out) hb);have n1_:=Aside0.mk (Kd.R_below (bK HO_12.out) hb);have n2_:=Aside0.mk (Kd.R_below (bK HO_13.out) hb);have n3_:=Aside0.mk (Kd.R_below (bK HO240.out) hb);have n4_:=Aside0.mk (below_step (bB) hb);clear HO_10 HO_12 HO_13 HO240 HB;have HO_10:=n0_;have HO_12:=n1_;have HO_13:=n2_;have HO240:=n3_;have HB:=n4_;clear n0_ n1_ n2_ n3_ n4_;(try clear hb);(try clear hb2);(try clear hk);(try clear hi)))
      go_ret
      exact⟨bE,bB⟩

end Go.Proofs.Yteneeohaoplpbaa.XFnExactFloodUntil
