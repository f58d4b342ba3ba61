-- Written by this session's own program (wip/xprint.py) out of the translation; Lean checks it.
import Derived.Test.YthghcoepkknkeaaXFnFairx0
import Derived.Test.YthghcoepkknkeaaXFnFairx2
import Derived.Test.YthghcoepkknkeaaXFnFairx8
import Derived.Test.YthghcoepkknkeaaXFnFairx11
namespace Go.Proofs.Ythghcoepkknkeaa.XFnFair
open Go.RowKit Go.Proofs.YthghcoepkknkeaaW.PrintWords Go.Proofs.YthghcoepkknkeaaW.PrintLast Go.Proofs.YthghcoepkknkeaaW.PrintMore
open Go.Proofs.YthghcoepkknkeaaW.PrintWords.Aside0 renaming mk → am
open List renaming setIfInBounds_toArray → zA, set_cons_zero → zB, set_cons_succ → zC
attribute [local go_sem] max2_int min2_int max_two min_two max_three min_three max_four min_four   -- for this text's walks alone
set_option linter.unusedVariables false
set_option linter.unusedSimpArgs false

/-! ### laws_FnFair: function 4 -/
mutual
def laws_FnFair.j0:Nat→Int→Int→Bool→Bool→Int→List (S34)→Int→Int→List (S34)→Int→Option (Bool)
 | 0,_,_,_,_,_,_,_,_,_,_=>none
 | k+1,x4,x6,x7,x52,x414000,x414001,x414002,x422000,x422001,x422002=>if x52=true then (some false) else (if x7=true then (laws_FnFair.l0 k x4 x422001 (x422001.length:Int) 0 x414000 x414001 x414002 x422000 x422001 x422002) else (some (x6 == 0)))
def laws_FnFair.l0:Nat→Int→List (S34)→Int→Int→Int→List (S34)→Int→Int→List (S34)→Int→Option (Bool)
 | 0,_,_,_,_,_,_,_,_,_,_=>none
 | k+1,x4,x58,x59,x60,x414000,x414001,x414002,x422000,x422001,x422002=>if x60 < x59 then (if 0≤x60 then (if x60 < (x58.length:Int) then (laws_FnFair.l1 k x4 x60 x58 x59 x60 x422001 (x422001.length:Int) 0 x414000 x414001 x414002 x422000 x422001 x422002 ((rd_T34 x58 x60).f0) ((rd_T34 x58 x60).f1) ((rd_T34 x58 x60).f2)) else (none)) else (none)) else (some (x422002 == (wrap64 (x414002+x4))))
def laws_FnFair.l1:Nat→Int→Int→List (S34)→Int→Int→List (S34)→Int→Int→Int→List (S34)→Int→Int→List (S34)→Int→List Int→Int→Int→Option (Bool)
 | 0,_,_,_,_,_,_,_,_,_,_,_,_,_,_,_,_,_=>none
 | k+1,x4,x11,x58,x59,x60,x66,x67,x68,x414000,x414001,x414002,x422000,x422001,x422002,x433000,x433001,x433002=>if x68 < x67 then (if 0≤x68 then (if x68 < (x66.length:Int) then (if (x433000.length:Int)=0 then (laws_FnFair.j3 k x4 x11 x68 x58 x59 x60 x66 x67 x68 true x414000 x414001 x414002 x422000 x422001 x422002 x433000 x433001 x433002 ((rd_T34 x66 x68).f0) ((rd_T34 x66 x68).f1) ((rd_T34 x66 x68).f2)) else (laws_FnFair.j3 k x4 x11 x68 x58 x59 x60 x66 x67 x68 ((((rd_T34 x66 x68).f0).length:Int) == 0) x414000 x414001 x414002 x422000 x422001 x422002 x433000 x433001 x433002 ((rd_T34 x66 x68).f0) ((rd_T34 x66 x68).f1) ((rd_T34 x66 x68).f2))) else (none)) else (none)) else (laws_FnFair.l0 k x4 x58 x59 (wrap64 (x60+1)) x414000 x414001 x414002 x422000 x422001 x422002)
def laws_FnFair.j3:Nat→Int→Int→Int→List (S34)→Int→Int→List (S34)→Int→Int→Bool→Int→List (S34)→Int→Int→List (S34)→Int→List Int→Int→Int→List Int→Int→Int→Option (Bool)
 | 0,_,_,_,_,_,_,_,_,_,_,_,_,_,_,_,_,_,_,_,_,_,_=>none
 | k+1,x4,x11,x13,x58,x59,x60,x66,x67,x68,x82,x414000,x414001,x414002,x422000,x422001,x422002,x433000,x433001,x433002,x435000,x435001,x435002=>if x82=true then (laws_FnFair.l1 k x4 x11 x58 x59 x60 x66 x67 (wrap64 (x68+1)) x414000 x414001 x414002 x422000 x422001 x422002 x433000 x433001 x433002) else (if 0≤x11 then (if x11 < (x414001.length:Int) then (if 0≤x13 then (if x13 < (x414001.length:Int) then (if x4 > 0 then (if (wrap64 ((wrap64 (x433002 - ((rd_T34 x414001 x11).f2))) - (wrap64 (x435002 - ((rd_T34 x414001 x13).f2))))) > (wrap64 (50+((rd_T34 x414001 x11).f1))) then (some false) else (if (wrap64 (x433002 - ((rd_T34 x414001 x11).f2))) > (wrap64 ((wrap64 (x4 * x414000))+((rd_T34 x414001 x11).f1))) then (some false) else (laws_FnFair.l1 k x4 x11 x58 x59 x60 x66 x67 (wrap64 (x68+1)) x414000 x414001 x414002 x422000 x422001 x422002 x433000 x433001 x433002))) else (laws_FnFair.l1 k x4 x11 x58 x59 x60 x66 x67 (wrap64 (x68+1)) x414000 x414001 x414002 x422000 x422001 x422002 x433000 x433001 x433002)) else (none)) else (none)) else (none)) else (none))
end
def laws_FnFair.f (k:Nat) (l0:List Int):Option (Bool):=if (l0.length:Int) > 1048576 then (some true) else ((spec_DrawRunRounds.f k l0).bind fun bt407=>((impl_RunRounds.f k bt407.1 bt407.2.1 bt407.2.2.1 bt407.2.2.2).bind fun bt414=>((spec_RunRounds.f k bt407.1 bt407.2.1 bt407.2.2.1 bt407.2.2.2).bind fun bt422=>(if (bt414.2.2.2.2 != bt422.2.2.2.2)=true then (laws_FnFair.j0 k bt407.2.2.2 bt414.2.2.2.1 bt414.2.2.2.2 true bt407.1 bt407.2.1 bt407.2.2.1 bt414.1 bt414.2.1 bt414.2.2.1) else (if bt414.2.2.2.1=bt422.2.2.2.1 then ((laws_sameTurns.f k bt414.1 bt414.2.1 bt414.2.2.1 bt422.1 bt422.2.1 bt422.2.2.1).bind fun t430=>(laws_FnFair.j0 k bt407.2.2.2 bt414.2.2.2.1 bt414.2.2.2.2 (!t430) bt407.1 bt407.2.1 bt407.2.2.1 bt414.1 bt414.2.1 bt414.2.2.1)) else (laws_FnFair.j0 k bt407.2.2.2 bt414.2.2.2.1 bt414.2.2.2.2 true bt407.1 bt407.2.1 bt407.2.2.1 bt414.1 bt414.2.1 bt414.2.2.1))))))
theorem laws_FnFair.mono_l : ∀ k,(∀ y0 y1 y2 y3 y4 y5 y6 y7 y8 y9,LeO (laws_FnFair.j0 k y0 y1 y2 y3 y4 y5 y6 y7 y8 y9) (laws_FnFair.j0 (k+1) y0 y1 y2 y3 y4 y5 y6 y7 y8 y9))∧(∀ y0 y1 y2 y3 y4 y5 y6 y7 y8 y9,LeO (laws_FnFair.l0 k y0 y1 y2 y3 y4 y5 y6 y7 y8 y9) (laws_FnFair.l0 (k+1) y0 y1 y2 y3 y4 y5 y6 y7 y8 y9))∧(∀ y0 y1 y2 y3 y4 y5 y6 y7 y8 y9 y10 y11 y12 y13 y14 y15 y16,LeO (laws_FnFair.l1 k y0 y1 y2 y3 y4 y5 y6 y7 y8 y9 y10 y11 y12 y13 y14 y15 y16) (laws_FnFair.l1 (k+1) y0 y1 y2 y3 y4 y5 y6 y7 y8 y9 y10 y11 y12 y13 y14 y15 y16))∧(∀ y0 y1 y2 y3 y4 y5 y6 y7 y8 y9 y10 y11 y12 y13 y14 y15 y16 y17 y18 y19 y20 y21,LeO (laws_FnFair.j3 k y0 y1 y2 y3 y4 y5 y6 y7 y8 y9 y10 y11 y12 y13 y14 y15 y16 y17 y18 y19 y20 y21) (laws_FnFair.j3 (k+1) y0 y1 y2 y3 y4 y5 y6 y7 y8 y9 y10 y11 y12 y13 y14 y15 y16 y17 y18 y19 y20 y21))
 | 0=>⟨fun _ _ _ _ _ _ _ _ _ _ r h=>by simp[laws_FnFair.j0] at h,fun _ _ _ _ _ _ _ _ _ _ r h=>by simp[laws_FnFair.l0] at h,fun _ _ _ _ _ _ _ _ _ _ _ _ _ _ _ _ _ r h=>by simp[laws_FnFair.l1] at h,fun _ _ _ _ _ _ _ _ _ _ _ _ _ _ _ _ _ _ _ _ _ _ r h=>by simp[laws_FnFair.j3] at h⟩
 | k+1=>by
  obtain⟨ih0,ih1,ih2,ih3⟩:=laws_FnFair.mono_l k
  refine⟨?_,?_,?_,?_⟩
  ·intro y0 y1 y2 y3 y4 y5 y6 y7 y8 y9
   unfold laws_FnFair.j0
   repeat' first
   | (with_reducible exact ih0 _ _ _ _ _ _ _ _ _ _)
   | (with_reducible exact ih1 _ _ _ _ _ _ _ _ _ _)
   | (with_reducible exact ih2 _ _ _ _ _ _ _ _ _ _ _ _ _ _ _ _ _)
   | (with_reducible exact ih3 _ _ _ _ _ _ _ _ _ _ _ _ _ _ _ _ _ _ _ _ _ _)
   | (with_reducible exact impl_RunRounds.mono _ _ _ _ _)
   | (with_reducible exact laws_sameTurns.mono _ _ _ _ _ _ _)
   | (with_reducible exact spec_DrawRunRounds.mono _ _)
   | (with_reducible exact spec_RunRounds.mono _ _ _ _ _)
   | (with_reducible exact LeO.refl _)
   | (with_reducible exact LeO.none _)
   | (with_reducible refine LeO.ite ?_ ?_)
   | (with_reducible refine LeO.bind ?_ (fun _ => ?_))
  ·intro y0 y1 y2 y3 y4 y5 y6 y7 y8 y9
   unfold laws_FnFair.l0
   repeat' first
   | (with_reducible exact ih0 _ _ _ _ _ _ _ _ _ _)
   | (with_reducible exact ih1 _ _ _ _ _ _ _ _ _ _)
   | (with_reducible exact ih2 _ _ _ _ _ _ _ _ _ _ _ _ _ _ _ _ _)
   | (with_reducible exact ih3 _ _ _ _ _ _ _ _ _ _ _ _ _ _ _ _ _ _ _ _ _ _)
   | (with_reducible exact impl_RunRounds.mono _ _ _ _ _)
   | (with_reducible exact laws_sameTurns.mono _ _ _ _ _ _ _)
   | (with_reducible exact spec_DrawRunRounds.mono _ _)
   | (with_reducible exact spec_RunRounds.mono _ _ _ _ _)
   | (with_reducible exact LeO.refl _)
   | (with_reducible exact LeO.none _)
   | (with_reducible refine LeO.ite ?_ ?_)
   | (with_reducible refine LeO.bind ?_ (fun _ => ?_))
  ·intro y0 y1 y2 y3 y4 y5 y6 y7 y8 y9 y10 y11 y12 y13 y14 y15 y16
   unfold laws_FnFair.l1
   repeat' first
   | (with_reducible exact ih0 _ _ _ _ _ _ _ _ _ _)
   | (with_reducible exact ih1 _ _ _ _ _ _ _ _ _ _)
   | (with_reducible exact ih2 _ _ _ _ _ _ _ _ _ _ _ _ _ _ _ _ _)
   | (with_reducible exact ih3 _ _ _ _ _ _ _ _ _ _ _ _ _ _ _ _ _ _ _ _ _ _)
   | (with_reducible exact impl_RunRounds.mono _ _ _ _ _)
   | (with_reducible exact laws_sameTurns.mono _ _ _ _ _ _ _)
   | (with_reducible exact spec_DrawRunRounds.mono _ _)
   | (with_reducible exact spec_RunRounds.mono _ _ _ _ _)
   | (with_reducible exact LeO.refl _)
   | (with_reducible exact LeO.none _)
   | (with_reducible refine LeO.ite ?_ ?_)
   | (with_reducible refine LeO.bind ?_ (fun _ => ?_))
  ·intro y0 y1 y2 y3 y4 y5 y6 y7 y8 y9 y10 y11 y12 y13 y14 y15 y16 y17 y18 y19 y20 y21
   unfold laws_FnFair.j3
   repeat' first
   | (with_reducible exact ih0 _ _ _ _ _ _ _ _ _ _)
   | (with_reducible exact ih1 _ _ _ _ _ _ _ _ _ _)
   | (with_reducible exact ih2 _ _ _ _ _ _ _ _ _ _ _ _ _ _ _ _ _)
   | (with_reducible exact ih3 _ _ _ _ _ _ _ _ _ _ _ _ _ _ _ _ _ _ _ _ _ _)
   | (with_reducible exact impl_RunRounds.mono _ _ _ _ _)
   | (with_reducible exact laws_sameTurns.mono _ _ _ _ _ _ _)
   | (with_reducible exact spec_DrawRunRounds.mono _ _)
   | (with_reducible exact spec_RunRounds.mono _ _ _ _ _)
   | (with_reducible exact LeO.refl _)
   | (with_reducible exact LeO.none _)
   | (with_reducible refine LeO.ite ?_ ?_)
   | (with_reducible refine LeO.bind ?_ (fun _ => ?_))
theorem laws_FnFair.mono : ∀ a0 k,LeO (laws_FnFair.f k a0) (laws_FnFair.f (k+1) a0):=by
 intro a0 k
 obtain⟨ih0,ih1,ih2,ih3⟩:=laws_FnFair.mono_l k
 unfold laws_FnFair.f
 repeat' first
  | (with_reducible exact ih0 _ _ _ _ _ _ _ _ _ _)
  | (with_reducible exact ih1 _ _ _ _ _ _ _ _ _ _)
  | (with_reducible exact ih2 _ _ _ _ _ _ _ _ _ _ _ _ _ _ _ _ _)
  | (with_reducible exact ih3 _ _ _ _ _ _ _ _ _ _ _ _ _ _ _ _ _ _ _ _ _ _)
  | (with_reducible exact impl_RunRounds.mono _ _ _ _ _)
  | (with_reducible exact laws_sameTurns.mono _ _ _ _ _ _ _)
  | (with_reducible exact spec_DrawRunRounds.mono _ _)
  | (with_reducible exact spec_RunRounds.mono _ _ _ _ _)
  | (with_reducible exact LeO.refl _)
  | (with_reducible exact LeO.none _)
  | (with_reducible refine LeO.ite ?_ ?_)
  | (with_reducible refine LeO.bind ?_ (fun _ => ?_))
set_option maxHeartbeats 8000000 in
set_option maxRecDepth 100000 in
theorem laws_FnFair.calls (k:Nat) (A0:Option Addr) (c0:Nat) (l0:List Int) (r:Bool) (w:World) (hr0:Kd.C (Kd.int .u8) w A0 l0.length l0) (hc0:l0.length≤c0) (h:laws_FnFair.f k l0=some r) (ht:r=true) :
  Calls Try.prog 4 #[.slice A0 l0.length c0] w fun e w'=>e=.returned (.bool r)∧Below w.heap.size w w':=by
 have HT:=am ht
 clear ht
 have hu25:=Try.underlying25
 have hu34:=Try.underlying34
 have HR0:=am hr0
 have HC0:=am hc0
 clear hr0 hc0
 have HB:=am (Below.refl w.heap.size w)
 have H:(if (l0.length:Int) > 1048576 then (some true) else ((spec_DrawRunRounds.f k l0).bind fun bt407=>((impl_RunRounds.f k bt407.1 bt407.2.1 bt407.2.2.1 bt407.2.2.2).bind fun bt414=>((spec_RunRounds.f k bt407.1 bt407.2.1 bt407.2.2.1 bt407.2.2.2).bind fun bt422=>(if (bt414.2.2.2.2 != bt422.2.2.2.2)=true then (laws_FnFair.j0 k bt407.2.2.2 bt414.2.2.2.1 bt414.2.2.2.2 true bt407.1 bt407.2.1 bt407.2.2.1 bt414.1 bt414.2.1 bt414.2.2.1) else (if bt414.2.2.2.1=bt422.2.2.2.1 then ((laws_sameTurns.f k bt414.1 bt414.2.1 bt414.2.2.1 bt422.1 bt422.2.1 bt422.2.2.1).bind fun t430=>(laws_FnFair.j0 k bt407.2.2.2 bt414.2.2.2.1 bt414.2.2.2.2 (!t430) bt407.1 bt407.2.1 bt407.2.2.1 bt414.1 bt414.2.1 bt414.2.2.1)) else (laws_FnFair.j0 k bt407.2.2.2 bt414.2.2.2.1 bt414.2.2.2.2 true bt407.1 bt407.2.1 bt407.2.2.1 bt414.1 bt414.2.1 bt414.2.2.1)))))))=some r:=h
 clear h
 by_cases c2:(l0.length:Int) > 1048576
 ·rw[if_pos c2] at H
  have c2b0:decide (1048576 < (l0.length:Int))=true:=decide_eq_true c2
  have c2b1:decide (1048576 < l0.length)=true:=decide_eq_true (by omega)
  clear c2
  obtain rfl:=Option.some.inj H
  go_enter Try.func4,Try.ntmps4
  go_wp2
  repeat (go_quiet (fail);try go_wp2)
  go_ret
  exact⟨bE,bB⟩
 ·rw[if_neg c2] at H
  have c2b0:decide (1048576 < (l0.length:Int))=false:=decide_eq_false c2
  have c2b1:decide (1048576 < l0.length)=false:=decide_eq_false (by omega)
  clear c2
  replace H:=bI_ H
  obtain⟨⟨t407,t408,t411,t412⟩,A30,H⟩:=H
  have A3:=am A30
  clear A30
  replace H:=bI_ H
  obtain⟨⟨t414,t415,t418,t419,t420⟩,A40,H⟩:=H
  have A4:=am A40
  clear A40
  replace H:=bI_ H
  obtain⟨⟨t422,t423,t426,t427,t428⟩,A50,H⟩:=H
  have A5:=am A50
  clear A50
  have HC6:=am H
  clear H
  go_enter Try.func4,Try.ntmps4
  go_upto_region 6 with (first|(go_at_call 16;(with_reducible refine(spec_DrawRunRounds.calls k _ _ l0 t407 t408 t411 t412 _ ?side1 ?side2 A3.out).mono ?_);(case side1=>repeat (first|exact HR0.out|(with_reducible refine Kd.C_alloc ?_ _)|(with_reducible refine Kd.C_drewN ?_ _)|(with_reducible refine Kd.C_drew ?_)));(case side2=>exact HC0.out);rintro e w7 ⟨v409,rfl,ho0,hb⟩;have n0_:=am (Kd.S_lower ho0 (below_size (bB)));have n1_:=am (below_step (bB) hb);clear HB;have HO410:=n0_;have HB:=n1_;clear n0_ n1_;(try clear hb);(try clear hb2);(try clear hk);(try clear hi);(try clear ho0))|((with_reducible refine gate_dst (N:=3) rfl ?_);(try (refine gate_guard (by rfl) ?_;dsimp only));refine box_event ?hg (N:=3) ?hd (cs:=#[.int .i64 0,.slice none 0 0,.int .i64 0]) (t:=25) ?hr ?_;(case hd=>rfl);(case hg=>rfl);(case hr=>first|(go_simp;done)|(go_simp;rfl));intro gb413 hg w8 hbox hb;have n0_:=am (Kd.S_below (by(with_reducible repeat (first|apply Kd.S_alloc|apply Kd.S_drewN|apply Kd.S_drew));exact HO410.out) hb);have n1_:=am (below_step (bB) hb);have n2_:=am (hbox);have n3_:=am ((bG:w.heap.size≤gb413));have n4_:=am ((bG:w.heap.size≤gb413));clear HO410 HB;have HO410:=n0_;have HB:=n1_;have BK413:=n2_;have GW413:=n3_;have GE413:=n4_;clear n0_ n1_ n2_ n3_ n4_;clear hb hbox hg;obtain⟨hcz9_0,hcz9_1,hcz9_2⟩:=cC3 BK413.out;obtain⟨hfz9_0,hfz9_1,hfz9_2⟩:=cF3 BK413.out;obtain⟨Ao10,co10,eo10⟩:=Kd.S_slice HO410.out;subst eo10)|(go_at_call 17;(with_reducible refine(impl_RunRounds.calls k t407 _ _ t408 t411 t412 t414 t415 t418 t419 t420 _ ?side1 ?side2 A4.out).mono ?_);(case side1=>refine(Kd.S_reads' (e:=34) (base:=w.heap.size) (ok:=fun k_=>True) (n:=t408.length) (c:=co10) ?_).2.2;exact(by(with_reducible repeat (first|apply Kd.S_alloc|apply Kd.S_drewN|apply Kd.S_drew));exact(Kd.S_mono (Kd.S_far (p:=⟨gb413,2,none⟩) (Kd.S_far (p:=⟨gb413,1,none⟩) (Kd.S_far (p:=⟨gb413,0,none⟩) (Kd.S_types HO410.out BK413.out (by decide)) (fun _ hk=>hk.2) (.int .i64 t407)) (fun _ hk=>hk.2) (.slice Ao10 t408.length co10)) (fun _ hk=>hk.2) (.int .i64 t411)) (fun _ h_=>h_.1))));(case side2=>exact(Kd.S_reads' HO410.out).2.1);rintro e w11 ⟨v416,rfl,ho0,hb⟩;have n0_:=am (Kd.S_elder' (by(with_reducible repeat (first|apply Kd.S_alloc|apply Kd.S_drewN|apply Kd.S_drew));exact(Kd.S_mono (Kd.S_far (p:=⟨gb413,2,none⟩) (Kd.S_far (p:=⟨gb413,1,none⟩) (Kd.S_far (p:=⟨gb413,0,none⟩) (Kd.S_types HO410.out BK413.out (by decide)) (fun _ hk=>hk.2) (.int .i64 t407)) (fun _ hk=>hk.2) (.slice Ao10 t408.length co10)) (fun _ hk=>hk.2) (.int .i64 t411)) (fun _ h_=>h_.1))) (Kd.S_base ho0) hb);have n1_:=am (Kd.S_lower (Kd.S_new' ho0 (Kd.S_lt (by(with_reducible repeat (first|apply Kd.S_alloc|apply Kd.S_drewN|apply Kd.S_drew));exact(Kd.S_mono (Kd.S_far (p:=⟨gb413,2,none⟩) (Kd.S_far (p:=⟨gb413,1,none⟩) (Kd.S_far (p:=⟨gb413,0,none⟩) (Kd.S_types HO410.out BK413.out (by decide)) (fun _ hk=>hk.2) (.int .i64 t407)) (fun _ hk=>hk.2) (.slice Ao10 t408.length co10)) (fun _ hk=>hk.2) (.int .i64 t411)) (fun _ h_=>h_.1))))) (below_size (bS GE413.out)));have n2_:=am (blk_below (g:=gb413) (o:=.cells #[.int .i64 t407,.slice Ao10 t408.length co10,.int .i64 t411] 25 (0,0)) (by(with_reducible repeat (first|refine blk_drewN ?_ _|refine blk_drew ?_|refine blk_alloc ?_ _));apply bU3;(with_reducible repeat (first|refine blk_drewN ?_ _|refine blk_drew ?_|refine blk_alloc ?_ _));exact BK413.out) hb);have n3_:=am (below_step (bS GE413.out) hb);clear HO410 BK413 HB;have HO410:=n0_;have HO417:=n1_;have BK413:=n2_;have HB:=n3_;clear n0_ n1_ n2_ n3_;(try clear hb);(try clear hb2);(try clear hk);(try clear hi);(try clear ho0))|((with_reducible refine gate_dst (N:=5) rfl ?_);(try (refine gate_guard (by rfl) ?_;dsimp only));refine box_event ?hg (N:=5) ?hd (cs:=#[.int .i64 0,.slice none 0 0,.int .i64 0]) (t:=25) ?hr ?_;(case hd=>rfl);(case hg=>rfl);(case hr=>first|(go_simp;done)|(go_simp;rfl));intro gb421 hg w12 hbox hb;have n0_:=am (Kd.S_below (by(with_reducible repeat (first|apply Kd.S_alloc|apply Kd.S_drewN|apply Kd.S_drew));exact HO410.out) hb);have n1_:=am (Kd.S_below (by(with_reducible repeat (first|apply Kd.S_alloc|apply Kd.S_drewN|apply Kd.S_drew));exact HO417.out) hb);have n2_:=am (bM BK413.out hb);have n3_:=am (below_step (bS GE413.out) hb);have n4_:=am (hbox);have n5_:=am ((by rw[hg];exact(below_size (bS GE413.out)):w.heap.size≤gb421));have n6_:=am ((by rw[hg];exact(below_size (bS GE413.out)):w.heap.size≤gb421));have n7_:=am ((bN BK413.out hg:gb413≠gb421));have n8_:=am ((bO BK413.out hg:gb421≠gb413));clear HO410 HO417 BK413 HB;have HO410:=n0_;have HO417:=n1_;have BK413:=n2_;have HB:=n3_;have BK421:=n4_;have GW421:=n5_;have GE421:=n6_;have NB413_421:=n7_;have NB421_413:=n8_;clear n0_ n1_ n2_ n3_ n4_ n5_ n6_ n7_ n8_;clear hb hbox hg;have hnb13:=NB421_413.out;have hnc13:=NB413_421.out;obtain⟨hcz14_0,hcz14_1,hcz14_2⟩:=cC3 BK421.out;obtain⟨hfz14_0,hfz14_1,hfz14_2⟩:=cF3 BK421.out;obtain⟨Ao15,co15,eo15⟩:=Kd.S_slice HO417.out;subst eo15;obtain⟨hcz16_0,hcz16_1,hcz16_2⟩:=cC3 BK413.out;obtain⟨hfz16_0,hfz16_1,hfz16_2⟩:=cF3 BK413.out)|(go_at_call 18;(with_reducible refine(spec_RunRounds.calls k t407 _ _ t408 t411 t412 t422 t423 t426 t427 t428 _ ?side1 ?side2 A5.out).mono ?_);(case side1=>refine(Kd.S_reads' (e:=34) (base:=w.heap.size) (ok:=fun k_=>(True∧some k_≠(.slice Ao15 t415.length co15:Value).ownBlock)) (n:=t408.length) (c:=co10) ?_).2.2;exact(by(with_reducible repeat (first|apply Kd.S_alloc|apply Kd.S_drewN|apply Kd.S_drew));exact(Kd.S_mono (Kd.S_far (p:=⟨gb421,2,none⟩) (Kd.S_far (p:=⟨gb421,1,none⟩) (Kd.S_far (p:=⟨gb421,0,none⟩) (Kd.S_types HO410.out BK421.out (by decide)) (fun _ hk=>hk.2) (.int .i64 t414)) (fun _ hk=>hk.2) (.slice Ao15 t415.length co15)) (fun _ hk=>hk.2) (.int .i64 t418)) (fun _ h_=>h_.1))));(case side2=>exact(Kd.S_reads' HO410.out).2.1);rintro e w17 ⟨v424,rfl,ho0,hb⟩;have n0_:=am (Kd.S_elder' (by(with_reducible repeat (first|apply Kd.S_alloc|apply Kd.S_drewN|apply Kd.S_drew));exact(Kd.S_mono (Kd.S_far (p:=⟨gb421,2,none⟩) (Kd.S_far (p:=⟨gb421,1,none⟩) (Kd.S_far (p:=⟨gb421,0,none⟩) (Kd.S_types HO410.out BK421.out (by decide)) (fun _ hk=>hk.2) (.int .i64 t414)) (fun _ hk=>hk.2) (.slice Ao15 t415.length co15)) (fun _ hk=>hk.2) (.int .i64 t418)) (fun _ h_=>h_.1))) (Kd.S_base ho0) hb);have n1_:=am (Kd.S_elder' (by(with_reducible repeat (first|apply Kd.S_alloc|apply Kd.S_drewN|apply Kd.S_drew));exact(Kd.S_mono (Kd.S_far (p:=⟨gb421,2,none⟩) (Kd.S_far (p:=⟨gb421,1,none⟩) (Kd.S_far (p:=⟨gb421,0,none⟩) (Kd.S_types HO417.out BK421.out (by decide)) (fun _ hk=>hk.2) (.int .i64 t414)) (fun _ hk=>hk.2) (.slice Ao15 t415.length co15)) (fun _ hk=>hk.2) (.int .i64 t418)) (fun _ h_=>h_.1))) (Kd.S_base ho0) hb);have n2_:=am (Kd.S_lower (Kd.S_new' (Kd.S_new' ho0 (Kd.S_lt (by(with_reducible repeat (first|apply Kd.S_alloc|apply Kd.S_drewN|apply Kd.S_drew));exact(Kd.S_mono (Kd.S_far (p:=⟨gb421,2,none⟩) (Kd.S_far (p:=⟨gb421,1,none⟩) (Kd.S_far (p:=⟨gb421,0,none⟩) (Kd.S_types HO410.out BK421.out (by decide)) (fun _ hk=>hk.2) (.int .i64 t414)) (fun _ hk=>hk.2) (.slice Ao15 t415.length co15)) (fun _ hk=>hk.2) (.int .i64 t418)) (fun _ h_=>h_.1))))) (Kd.S_lt (by(with_reducible repeat (first|apply Kd.S_alloc|apply Kd.S_drewN|apply Kd.S_drew));exact(Kd.S_mono (Kd.S_far (p:=⟨gb421,2,none⟩) (Kd.S_far (p:=⟨gb421,1,none⟩) (Kd.S_far (p:=⟨gb421,0,none⟩) (Kd.S_types HO417.out BK421.out (by decide)) (fun _ hk=>hk.2) (.int .i64 t414)) (fun _ hk=>hk.2) (.slice Ao15 t415.length co15)) (fun _ hk=>hk.2) (.int .i64 t418)) (fun _ h_=>h_.1))))) (below_size (bS2 GE413.out GE421.out)));have n3_:=am (blk_below (g:=gb413) (o:=.cells #[.int .i64 t407,.slice Ao10 t408.length co10,.int .i64 t411] 25 (0,0)) (by(with_reducible repeat (first|refine blk_drewN ?_ _|refine blk_drew ?_|refine blk_alloc ?_ _));refine blk_far ?_ NB413_421.out _;(with_reducible repeat (first|refine blk_drewN ?_ _|refine blk_drew ?_|refine blk_alloc ?_ _));refine blk_far ?_ NB413_421.out _;(with_reducible repeat (first|refine blk_drewN ?_ _|refine blk_drew ?_|refine blk_alloc ?_ _));refine blk_far ?_ NB413_421.out _;(with_reducible repeat (first|refine blk_drewN ?_ _|refine blk_drew ?_|refine blk_alloc ?_ _));exact BK413.out) hb);have n4_:=am (blk_below (g:=gb421) (o:=.cells #[.int .i64 t414,.slice Ao15 t415.length co15,.int .i64 t418] 25 (0,0)) (by(with_reducible repeat (first|refine blk_drewN ?_ _|refine blk_drew ?_|refine blk_alloc ?_ _));apply bU3;(with_reducible repeat (first|refine blk_drewN ?_ _|refine blk_drew ?_|refine blk_alloc ?_ _));exact BK421.out) hb);have n5_:=am (below_step (bS2 GE413.out GE421.out) hb);clear HO410 HO417 BK413 BK421 HB;have HO410:=n0_;have HO417:=n1_;have HO425:=n2_;have BK413:=n3_;have BK421:=n4_;have HB:=n5_;clear n0_ n1_ n2_ n3_ n4_ n5_;(try clear hb);(try clear hb2);(try clear hk);(try clear hi);(try clear ho0))|((with_reducible refine gate_dst (N:=8) rfl ?_);(try (refine gate_guard (by rfl) ?_;dsimp only));refine box_event ?hg (N:=8) ?hd (cs:=#[.int .i64 0,.slice none 0 0,.int .i64 0]) (t:=25) ?hr ?_;(case hd=>rfl);(case hg=>rfl);(case hr=>first|(go_simp;done)|(go_simp;rfl));intro gb429 hg w18 hbox hb;have n0_:=am (Kd.S_below (by(with_reducible repeat (first|apply Kd.S_alloc|apply Kd.S_drewN|apply Kd.S_drew));exact HO410.out) hb);have n1_:=am (Kd.S_below (by(with_reducible repeat (first|apply Kd.S_alloc|apply Kd.S_drewN|apply Kd.S_drew));exact HO417.out) hb);have n2_:=am (Kd.S_below (by(with_reducible repeat (first|apply Kd.S_alloc|apply Kd.S_drewN|apply Kd.S_drew));exact HO425.out) hb);have n3_:=am (bM BK413.out hb);have n4_:=am (bM BK421.out hb);have n5_:=am (below_step (bS2 GE413.out GE421.out) hb);have n6_:=am (hbox);have n7_:=am ((by rw[hg];exact(below_size (bS2 GE413.out GE421.out)):w.heap.size≤gb429));have n8_:=am ((by rw[hg];exact(below_size (bS2 GE413.out GE421.out)):w.heap.size≤gb429));have n9_:=am ((bN BK413.out hg:gb413≠gb429));have n10_:=am ((bO BK413.out hg:gb429≠gb413));have n11_:=am ((bN BK421.out hg:gb421≠gb429));have n12_:=am ((bO BK421.out hg:gb429≠gb421));clear HO410 HO417 HO425 BK413 BK421 HB;have HO410:=n0_;have HO417:=n1_;have HO425:=n2_;have BK413:=n3_;have BK421:=n4_;have HB:=n5_;have BK429:=n6_;have GW429:=n7_;have GE429:=n8_;have NB413_429:=n9_;have NB429_413:=n10_;have NB421_429:=n11_;have NB429_421:=n12_;clear n0_ n1_ n2_ n3_ n4_ n5_ n6_ n7_ n8_ n9_ n10_ n11_ n12_;clear hb hbox hg;have hnb19:=NB429_413.out;have hnc19:=NB413_429.out;have hnb20:=NB429_421.out;have hnc20:=NB421_429.out;obtain⟨hcz21_0,hcz21_1,hcz21_2⟩:=cC3 BK429.out;obtain⟨hfz21_0,hfz21_1,hfz21_2⟩:=cF3 BK429.out;obtain⟨Ao22,co22,eo22⟩:=Kd.S_slice HO425.out;subst eo22))
  repeat (go_quiet (first|(go_at_call 16;(with_reducible refine(spec_DrawRunRounds.calls k _ _ l0 t407 t408 t411 t412 _ ?side1 ?side2 A3.out).mono ?_);(case side1=>repeat (first|exact HR0.out|(with_reducible refine Kd.C_alloc ?_ _)|(with_reducible refine Kd.C_drewN ?_ _)|(with_reducible refine Kd.C_drew ?_)));(case side2=>exact HC0.out);rintro e w7 ⟨v409,rfl,ho0,hb⟩;have n0_:=am (Kd.S_lower ho0 (below_size (bB)));have n1_:=am (below_step (bB) hb);clear HB;have HO410:=n0_;have HB:=n1_;clear n0_ n1_;(try clear hb);(try clear hb2);(try clear hk);(try clear hi);(try clear ho0))|((with_reducible refine gate_dst (N:=3) rfl ?_);(try (refine gate_guard (by rfl) ?_;dsimp only));refine box_event ?hg (N:=3) ?hd (cs:=#[.int .i64 0,.slice none 0 0,.int .i64 0]) (t:=25) ?hr ?_;(case hd=>rfl);(case hg=>rfl);(case hr=>first|(go_simp;done)|(go_simp;rfl));intro gb413 hg w8 hbox hb;have n0_:=am (Kd.S_below (by(with_reducible repeat (first|apply Kd.S_alloc|apply Kd.S_drewN|apply Kd.S_drew));exact HO410.out) hb);have n1_:=am (below_step (bB) hb);have n2_:=am (hbox);have n3_:=am ((bG:w.heap.size≤gb413));have n4_:=am ((bG:w.heap.size≤gb413));clear HO410 HB;have HO410:=n0_;have HB:=n1_;have BK413:=n2_;have GW413:=n3_;have GE413:=n4_;clear n0_ n1_ n2_ n3_ n4_;clear hb hbox hg;obtain⟨hcz9_0,hcz9_1,hcz9_2⟩:=cC3 BK413.out;obtain⟨hfz9_0,hfz9_1,hfz9_2⟩:=cF3 BK413.out;obtain⟨Ao10,co10,eo10⟩:=Kd.S_slice HO410.out;subst eo10)|(go_at_call 17;(with_reducible refine(impl_RunRounds.calls k t407 _ _ t408 t411 t412 t414 t415 t418 t419 t420 _ ?side1 ?side2 A4.out).mono ?_);(case side1=>refine(Kd.S_reads' (e:=34) (base:=w.heap.size) (ok:=fun k_=>True) (n:=t408.length) (c:=co10) ?_).2.2;exact(by(with_reducible repeat (first|apply Kd.S_alloc|apply Kd.S_drewN|apply Kd.S_drew));exact(Kd.S_mono (Kd.S_far (p:=⟨gb413,2,none⟩) (Kd.S_far (p:=⟨gb413,1,none⟩) (Kd.S_far (p:=⟨gb413,0,none⟩) (Kd.S_types HO410.out BK413.out (by decide)) (fun _ hk=>hk.2) (.int .i64 t407)) (fun _ hk=>hk.2) (.slice Ao10 t408.length co10)) (fun _ hk=>hk.2) (.int .i64 t411)) (fun _ h_=>h_.1))));(case side2=>exact(Kd.S_reads' HO410.out).2.1);rintro e w11 ⟨v416,rfl,ho0,hb⟩;have n0_:=am (Kd.S_elder' (by(with_reducible repeat (first|apply Kd.S_alloc|apply Kd.S_drewN|apply Kd.S_drew));exact(Kd.S_mono (Kd.S_far (p:=⟨gb413,2,none⟩) (Kd.S_far (p:=⟨gb413,1,none⟩) (Kd.S_far (p:=⟨gb413,0,none⟩) (Kd.S_types HO410.out BK413.out (by decide)) (fun _ hk=>hk.2) (.int .i64 t407)) (fun _ hk=>hk.2) (.slice Ao10 t408.length co10)) (fun _ hk=>hk.2) (.int .i64 t411)) (fun _ h_=>h_.1))) (Kd.S_base ho0) hb);have n1_:=am (Kd.S_lower (Kd.S_new' ho0 (Kd.S_lt (by(with_reducible repeat (first|apply Kd.S_alloc|apply Kd.S_drewN|apply Kd.S_drew));exact(Kd.S_mono (Kd.S_far (p:=⟨gb413,2,none⟩) (Kd.S_far (p:=⟨gb413,1,none⟩) (Kd.S_far (p:=⟨gb413,0,none⟩) (Kd.S_types HO410.out BK413.out (by decide)) (fun _ hk=>hk.2) (.int .i64 t407)) (fun _ hk=>hk.2) (.slice Ao10 t408.length co10)) (fun _ hk=>hk.2) (.int .i64 t411)) (fun _ h_=>h_.1))))) (below_size (bS GE413.out)));have n2_:=am (blk_below (g:=gb413) (o:=.cells #[.int .i64 t407,.slice Ao10 t408.length co10,.int .i64 t411] 25 (0,0)) (by(with_reducible repeat (first|refine blk_drewN ?_ _|refine blk_drew ?_|refine blk_alloc ?_ _));apply bU3;(with_reducible repeat (first|refine blk_drewN ?_ _|refine blk_drew ?_|refine blk_alloc ?_ _));exact BK413.out) hb);have n3_:=am (below_step (bS GE413.out) hb);clear HO410 BK413 HB;have HO410:=n0_;have HO417:=n1_;have BK413:=n2_;have HB:=n3_;clear n0_ n1_ n2_ n3_;(try clear hb);(try clear hb2);(try clear hk);(try clear hi);(try clear ho0))|((with_reducible refine gate_dst (N:=5) rfl ?_);(try (refine gate_guard (by rfl) ?_;dsimp only));refine box_event ?hg (N:=5) ?hd (cs:=#[.int .i64 0,.slice none 0 0,.int .i64 0]) (t:=25) ?hr ?_;(case hd=>rfl);(case hg=>rfl);(case hr=>first|(go_simp;done)|(go_simp;rfl));intro gb421 hg w12 hbox hb;have n0_:=am (Kd.S_below (by(with_reducible repeat (first|apply Kd.S_alloc|apply Kd.S_drewN|apply Kd.S_drew));exact HO410.out) hb);have n1_:=am (Kd.S_below (by(with_reducible repeat (first|apply Kd.S_alloc|apply Kd.S_drewN|apply Kd.S_drew));exact HO417.out) hb);have n2_:=am (bM BK413.out hb);have n3_:=am (below_step (bS GE413.out) hb);have n4_:=am (hbox);have n5_:=am ((by rw[hg];exact(below_size (bS GE413.out)):w.heap.size≤gb421));have n6_:=am ((by rw[hg];exact(below_size (bS GE413.out)):w.heap.size≤gb421));have n7_:=am ((bN BK413.out hg:gb413≠gb421));have n8_:=am ((bO BK413.out hg:gb421≠gb413));clear HO410 HO417 BK413 HB;have HO410:=n0_;have HO417:=n1_;have BK413:=n2_;have HB:=n3_;have BK421:=n4_;have GW421:=n5_;have GE421:=n6_;have NB413_421:=n7_;have NB421_413:=n8_;clear n0_ n1_ n2_ n3_ n4_ n5_ n6_ n7_ n8_;clear hb hbox hg;have hnb13:=NB421_413.out;have hnc13:=NB413_421.out;obtain⟨hcz14_0,hcz14_1,hcz14_2⟩:=cC3 BK421.out;obtain⟨hfz14_0,hfz14_1,hfz14_2⟩:=cF3 BK421.out;obtain⟨Ao15,co15,eo15⟩:=Kd.S_slice HO417.out;subst eo15;obtain⟨hcz16_0,hcz16_1,hcz16_2⟩:=cC3 BK413.out;obtain⟨hfz16_0,hfz16_1,hfz16_2⟩:=cF3 BK413.out)|(go_at_call 18;(with_reducible refine(spec_RunRounds.calls k t407 _ _ t408 t411 t412 t422 t423 t426 t427 t428 _ ?side1 ?side2 A5.out).mono ?_);(case side1=>refine(Kd.S_reads' (e:=34) (base:=w.heap.size) (ok:=fun k_=>(True∧some k_≠(.slice Ao15 t415.length co15:Value).ownBlock)) (n:=t408.length) (c:=co10) ?_).2.2;exact(by(with_reducible repeat (first|apply Kd.S_alloc|apply Kd.S_drewN|apply Kd.S_drew));exact(Kd.S_mono (Kd.S_far (p:=⟨gb421,2,none⟩) (Kd.S_far (p:=⟨gb421,1,none⟩) (Kd.S_far (p:=⟨gb421,0,none⟩) (Kd.S_types HO410.out BK421.out (by decide)) (fun _ hk=>hk.2) (.int .i64 t414)) (fun _ hk=>hk.2) (.slice Ao15 t415.length co15)) (fun _ hk=>hk.2) (.int .i64 t418)) (fun _ h_=>h_.1))));(case side2=>exact(Kd.S_reads' HO410.out).2.1);rintro e w17 ⟨v424,rfl,ho0,hb⟩;have n0_:=am (Kd.S_elder' (by(with_reducible repeat (first|apply Kd.S_alloc|apply Kd.S_drewN|apply Kd.S_drew));exact(Kd.S_mono (Kd.S_far (p:=⟨gb421,2,none⟩) (Kd.S_far (p:=⟨gb421,1,none⟩) (Kd.S_far (p:=⟨gb421,0,none⟩) (Kd.S_types HO410.out BK421.out (by decide)) (fun _ hk=>hk.2) (.int .i64 t414)) (fun _ hk=>hk.2) (.slice Ao15 t415.length co15)) (fun _ hk=>hk.2) (.int .i64 t418)) (fun _ h_=>h_.1))) (Kd.S_base ho0) hb);have n1_:=am (Kd.S_elder' (by(with_reducible repeat (first|apply Kd.S_alloc|apply Kd.S_drewN|apply Kd.S_drew));exact(Kd.S_mono (Kd.S_far (p:=⟨gb421,2,none⟩) (Kd.S_far (p:=⟨gb421,1,none⟩) (Kd.S_far (p:=⟨gb421,0,none⟩) (Kd.S_types HO417.out BK421.out (by decide)) (fun _ hk=>hk.2) (.int .i64 t414)) (fun _ hk=>hk.2) (.slice Ao15 t415.length co15)) (fun _ hk=>hk.2) (.int .i64 t418)) (fun _ h_=>h_.1))) (Kd.S_base ho0) hb);have n2_:=am (Kd.S_lower (Kd.S_new' (Kd.S_new' ho0 (Kd.S_lt (by(with_reducible repeat (first|apply Kd.S_alloc|apply Kd.S_drewN|apply Kd.S_drew));exact(Kd.S_mono (Kd.S_far (p:=⟨gb421,2,none⟩) (Kd.S_far (p:=⟨gb421,1,none⟩) (Kd.S_far (p:=⟨gb421,0,none⟩) (Kd.S_types HO410.out BK421.out (by decide)) (fun _ hk=>hk.2) (.int .i64 t414)) (fun _ hk=>hk.2) (.slice Ao15 t415.length co15)) (fun _ hk=>hk.2) (.int .i64 t418)) (fun _ h_=>h_.1))))) (Kd.S_lt (by(with_reducible repeat (first|apply Kd.S_alloc|apply Kd.S_drewN|apply Kd.S_drew));exact(Kd.S_mono (Kd.S_far (p:=⟨gb421,2,none⟩) (Kd.S_far (p:=⟨gb421,1,none⟩) (Kd.S_far (p:=⟨gb421,0,none⟩) (Kd.S_types HO417.out BK421.out (by decide)) (fun _ hk=>hk.2) (.int .i64 t414)) (fun _ hk=>hk.2) (.slice Ao15 t415.length co15)) (fun _ hk=>hk.2) (.int .i64 t418)) (fun _ h_=>h_.1))))) (below_size (bS2 GE413.out GE421.out)));have n3_:=am (blk_below (g:=gb413) (o:=.cells #[.int .i64 t407,.slice Ao10 t408.length co10,.int .i64 t411] 25 (0,0)) (by(with_reducible repeat (first|refine blk_drewN ?_ _|refine blk_drew ?_|refine blk_alloc ?_ _));refine blk_far ?_ NB413_421.out _;(with_reducible repeat (first|refine blk_drewN ?_ _|refine blk_drew ?_|refine blk_alloc ?_ _));refine blk_far ?_ NB413_421.out _;(with_reducible repeat (first|refine blk_drewN ?_ _|refine blk_drew ?_|refine blk_alloc ?_ _));refine blk_far ?_ NB413_421.out _;(with_reducible repeat (first|refine blk_drewN ?_ _|refine blk_drew ?_|refine blk_alloc ?_ _));exact BK413.out) hb);have n4_:=am (blk_below (g:=gb421) (o:=.cells #[.int .i64 t414,.slice Ao15 t415.length co15,.int .i64 t418] 25 (0,0)) (by(with_reducible repeat (first|refine blk_drewN ?_ _|refine blk_drew ?_|refine blk_alloc ?_ _));apply bU3;(with_reducible repeat (first|refine blk_drewN ?_ _|refine blk_drew ?_|refine blk_alloc ?_ _));exact BK421.out) hb);have n5_:=am (below_step (bS2 GE413.out GE421.out) hb);clear HO410 HO417 BK413 BK421 HB;have HO410:=n0_;have HO417:=n1_;have HO425:=n2_;have BK413:=n3_;have BK421:=n4_;have HB:=n5_;clear n0_ n1_ n2_ n3_ n4_ n5_;(try clear hb);(try clear hb2);(try clear hk);(try clear hi);(try clear ho0))|((with_reducible refine gate_dst (N:=8) rfl ?_);(try (refine gate_guard (by rfl) ?_;dsimp only));refine box_event ?hg (N:=8) ?hd (cs:=#[.int .i64 0,.slice none 0 0,.int .i64 0]) (t:=25) ?hr ?_;(case hd=>rfl);(case hg=>rfl);(case hr=>first|(go_simp;done)|(go_simp;rfl));intro gb429 hg w18 hbox hb;have n0_:=am (Kd.S_below (by(with_reducible repeat (first|apply Kd.S_alloc|apply Kd.S_drewN|apply Kd.S_drew));exact HO410.out) hb);have n1_:=am (Kd.S_below (by(with_reducible repeat (first|apply Kd.S_alloc|apply Kd.S_drewN|apply Kd.S_drew));exact HO417.out) hb);have n2_:=am (Kd.S_below (by(with_reducible repeat (first|apply Kd.S_alloc|apply Kd.S_drewN|apply Kd.S_drew));exact HO425.out) hb);have n3_:=am (bM BK413.out hb);have n4_:=am (bM BK421.out hb);have n5_:=am (below_step (bS2 GE413.out GE421.out) hb);have n6_:=am (hbox);have n7_:=am ((by rw[hg];exact(below_size (bS2 GE413.out GE421.out)):w.heap.size≤gb429));have n8_:=am ((by rw[hg];exact(below_size (bS2 GE413.out GE421.out)):w.heap.size≤gb429));have n9_:=am ((bN BK413.out hg:gb413≠gb429));have n10_:=am ((bO BK413.out hg:gb429≠gb413));have n11_:=am ((bN BK421.out hg:gb421≠gb429));have n12_:=am ((bO BK421.out hg:gb429≠gb421));clear HO410 HO417 HO425 BK413 BK421 HB;have HO410:=n0_;have HO417:=n1_;have HO425:=n2_;have BK413:=n3_;have BK421:=n4_;have HB:=n5_;have BK429:=n6_;have GW429:=n7_;have GE429:=n8_;have NB413_429:=n9_;have NB429_413:=n10_;have NB421_429:=n11_;have NB429_421:=n12_;clear n0_ n1_ n2_ n3_ n4_ n5_ n6_ n7_ n8_ n9_ n10_ n11_ n12_;clear hb hbox hg;have hnb19:=NB429_413.out;have hnc19:=NB413_429.out;have hnb20:=NB429_421.out;have hnc20:=NB421_429.out;obtain⟨hcz21_0,hcz21_1,hcz21_2⟩:=cC3 BK429.out;obtain⟨hfz21_0,hfz21_1,hfz21_2⟩:=cF3 BK429.out;obtain⟨Ao22,co22,eo22⟩:=Kd.S_slice HO425.out;subst eo22));go_upto_region 6 with (first|(go_at_call 16;(with_reducible refine(spec_DrawRunRounds.calls k _ _ l0 t407 t408 t411 t412 _ ?side1 ?side2 A3.out).mono ?_);(case side1=>repeat (first|exact HR0.out|(with_reducible refine Kd.C_alloc ?_ _)|(with_reducible refine Kd.C_drewN ?_ _)|(with_reducible refine Kd.C_drew ?_)));(case side2=>exact HC0.out);rintro e w7 ⟨v409,rfl,ho0,hb⟩;have n0_:=am (Kd.S_lower ho0 (below_size (bB)));have n1_:=am (below_step (bB) hb);clear HB;have HO410:=n0_;have HB:=n1_;clear n0_ n1_;(try clear hb);(try clear hb2);(try clear hk);(try clear hi);(try clear ho0))|((with_reducible refine gate_dst (N:=3) rfl ?_);(try (refine gate_guard (by rfl) ?_;dsimp only));refine box_event ?hg (N:=3) ?hd (cs:=#[.int .i64 0,.slice none 0 0,.int .i64 0]) (t:=25) ?hr ?_;(case hd=>rfl);(case hg=>rfl);(case hr=>first|(go_simp;done)|(go_simp;rfl));intro gb413 hg w8 hbox hb;have n0_:=am (Kd.S_below (by(with_reducible repeat (first|apply Kd.S_alloc|apply Kd.S_drewN|apply Kd.S_drew));exact HO410.out) hb);have n1_:=am (below_step (bB) hb);have n2_:=am (hbox);have n3_:=am ((bG:w.heap.size≤gb413));have n4_:=am ((bG:w.heap.size≤gb413));clear HO410 HB;have HO410:=n0_;have HB:=n1_;have BK413:=n2_;have GW413:=n3_;have GE413:=n4_;clear n0_ n1_ n2_ n3_ n4_;clear hb hbox hg;obtain⟨hcz9_0,hcz9_1,hcz9_2⟩:=cC3 BK413.out;obtain⟨hfz9_0,hfz9_1,hfz9_2⟩:=cF3 BK413.out;obtain⟨Ao10,co10,eo10⟩:=Kd.S_slice HO410.out;subst eo10)|(go_at_call 17;(with_reducible refine(impl_RunRounds.calls k t407 _ _ t408 t411 t412 t414 t415 t418 t419 t420 _ ?side1 ?side2 A4.out).mono ?_);(case side1=>refine(Kd.S_reads' (e:=34) (base:=w.heap.size) (ok:=fun k_=>True) (n:=t408.length) (c:=co10) ?_).2.2;exact(by(with_reducible repeat (first|apply Kd.S_alloc|apply Kd.S_drewN|apply Kd.S_drew));exact(Kd.S_mono (Kd.S_far (p:=⟨gb413,2,none⟩) (Kd.S_far (p:=⟨gb413,1,none⟩) (Kd.S_far (p:=⟨gb413,0,none⟩) (Kd.S_types HO410.out BK413.out (by decide)) (fun _ hk=>hk.2) (.int .i64 t407)) (fun _ hk=>hk.2) (.slice Ao10 t408.length co10)) (fun _ hk=>hk.2) (.int .i64 t411)) (fun _ h_=>h_.1))));(case side2=>exact(Kd.S_reads' HO410.out).2.1);rintro e w11 ⟨v416,rfl,ho0,hb⟩;have n0_:=am (Kd.S_elder' (by(with_reducible repeat (first|apply Kd.S_alloc|apply Kd.S_drewN|apply Kd.S_drew));exact(Kd.S_mono (Kd.S_far (p:=⟨gb413,2,none⟩) (Kd.S_far (p:=⟨gb413,1,none⟩) (Kd.S_far (p:=⟨gb413,0,none⟩) (Kd.S_types HO410.out BK413.out (by decide)) (fun _ hk=>hk.2) (.int .i64 t407)) (fun _ hk=>hk.2) (.slice Ao10 t408.length co10)) (fun _ hk=>hk.2) (.int .i64 t411)) (fun _ h_=>h_.1))) (Kd.S_base ho0) hb);have n1_:=am (Kd.S_lower (Kd.S_new' ho0 (Kd.S_lt (by(with_reducible repeat (first|apply Kd.S_alloc|apply Kd.S_drewN|apply Kd.S_drew));exact(Kd.S_mono (Kd.S_far (p:=⟨gb413,2,none⟩) (Kd.S_far (p:=⟨gb413,1,none⟩) (Kd.S_far (p:=⟨gb413,0,none⟩) (Kd.S_types HO410.out BK413.out (by decide)) (fun _ hk=>hk.2) (.int .i64 t407)) (fun _ hk=>hk.2) (.slice Ao10 t408.length co10)) (fun _ hk=>hk.2) (.int .i64 t411)) (fun _ h_=>h_.1))))) (below_size (bS GE413.out)));have n2_:=am (blk_below (g:=gb413) (o:=.cells #[.int .i64 t407,.slice Ao10 t408.length co10,.int .i64 t411] 25 (0,0)) (by(with_reducible repeat (first|refine blk_drewN ?_ _|refine blk_drew ?_|refine blk_alloc ?_ _));apply bU3;(with_reducible repeat (first|refine blk_drewN ?_ _|refine blk_drew ?_|refine blk_alloc ?_ _));exact BK413.out) hb);have n3_:=am (below_step (bS GE413.out) hb);clear HO410 BK413 HB;have HO410:=n0_;have HO417:=n1_;have BK413:=n2_;have HB:=n3_;clear n0_ n1_ n2_ n3_;(try clear hb);(try clear hb2);(try clear hk);(try clear hi);(try clear ho0))|((with_reducible refine gate_dst (N:=5) rfl ?_);(try (refine gate_guard (by rfl) ?_;dsimp only));refine box_event ?hg (N:=5) ?hd (cs:=#[.int .i64 0,.slice none 0 0,.int .i64 0]) (t:=25) ?hr ?_;(case hd=>rfl);(case hg=>rfl);(case hr=>first|(go_simp;done)|(go_simp;rfl));intro gb421 hg w12 hbox hb;have n0_:=am (Kd.S_below (by(with_reducible repeat (first|apply Kd.S_alloc|apply Kd.S_drewN|apply Kd.S_drew));exact HO410.out) hb);have n1_:=am (Kd.S_below (by(with_reducible repeat (first|apply Kd.S_alloc|apply Kd.S_drewN|apply Kd.S_drew));exact HO417.out) hb);have n2_:=am (bM BK413.out hb);have n3_:=am (below_step (bS GE413.out) hb);have n4_:=am (hbox);have n5_:=am ((by rw[hg];exact(below_size (bS GE413.out)):w.heap.size≤gb421));have n6_:=am ((by rw[hg];exact(below_size (bS GE413.out)):w.heap.size≤gb421));have n7_:=am ((bN BK413.out hg:gb413≠gb421));have n8_:=am ((bO BK413.out hg:gb421≠gb413));clear HO410 HO417 BK413 HB;have HO410:=n0_;have HO417:=n1_;have BK413:=n2_;have HB:=n3_;have BK421:=n4_;have GW421:=n5_;have GE421:=n6_;have NB413_421:=n7_;have NB421_413:=n8_;clear n0_ n1_ n2_ n3_ n4_ n5_ n6_ n7_ n8_;clear hb hbox hg;have hnb13:=NB421_413.out;have hnc13:=NB413_421.out;obtain⟨hcz14_0,hcz14_1,hcz14_2⟩:=cC3 BK421.out;obtain⟨hfz14_0,hfz14_1,hfz14_2⟩:=cF3 BK421.out;obtain⟨Ao15,co15,eo15⟩:=Kd.S_slice HO417.out;subst eo15;obtain⟨hcz16_0,hcz16_1,hcz16_2⟩:=cC3 BK413.out;obtain⟨hfz16_0,hfz16_1,hfz16_2⟩:=cF3 BK413.out)|(go_at_call 18;(with_reducible refine(spec_RunRounds.calls k t407 _ _ t408 t411 t412 t422 t423 t426 t427 t428 _ ?side1 ?side2 A5.out).mono ?_);(case side1=>refine(Kd.S_reads' (e:=34) (base:=w.heap.size) (ok:=fun k_=>(True∧some k_≠(.slice Ao15 t415.length co15:Value).ownBlock)) (n:=t408.length) (c:=co10) ?_).2.2;exact(by(with_reducible repeat (first|apply Kd.S_alloc|apply Kd.S_drewN|apply Kd.S_drew));exact(Kd.S_mono (Kd.S_far (p:=⟨gb421,2,none⟩) (Kd.S_far (p:=⟨gb421,1,none⟩) (Kd.S_far (p:=⟨gb421,0,none⟩) (Kd.S_types HO410.out BK421.out (by decide)) (fun _ hk=>hk.2) (.int .i64 t414)) (fun _ hk=>hk.2) (.slice Ao15 t415.length co15)) (fun _ hk=>hk.2) (.int .i64 t418)) (fun _ h_=>h_.1))));(case side2=>exact(Kd.S_reads' HO410.out).2.1);rintro e w17 ⟨v424,rfl,ho0,hb⟩;have n0_:=am (Kd.S_elder' (by(with_reducible repeat (first|apply Kd.S_alloc|apply Kd.S_drewN|apply Kd.S_drew));exact(Kd.S_mono (Kd.S_far (p:=⟨gb421,2,none⟩) (Kd.S_far (p:=⟨gb421,1,none⟩) (Kd.S_far (p:=⟨gb421,0,none⟩) (Kd.S_types HO410.out BK421.out (by decide)) (fun _ hk=>hk.2) (.int .i64 t414)) (fun _ hk=>hk.2) (.slice Ao15 t415.length co15)) (fun _ hk=>hk.2) (.int .i64 t418)) (fun _ h_=>h_.1))) (Kd.S_base ho0) hb);have n1_:=am (Kd.S_elder' (by(with_reducible repeat (first|apply Kd.S_alloc|apply Kd.S_drewN|apply Kd.S_drew));exact(Kd.S_mono (Kd.S_far (p:=⟨gb421,2,none⟩) (Kd.S_far (p:=⟨gb421,1,none⟩) (Kd.S_far (p:=⟨gb421,0,none⟩) (Kd.S_types HO417.out BK421.out (by decide)) (fun _ hk=>hk.2) (.int .i64 t414)) (fun _ hk=>hk.2) (.slice Ao15 t415.length co15)) (fun _ hk=>hk.2) (.int .i64 t418)) (fun _ h_=>h_.1))) (Kd.S_base ho0) hb);have n2_:=am (Kd.S_lower (Kd.S_new' (Kd.S_new' ho0 (Kd.S_lt (by(with_reducible repeat (first|apply Kd.S_alloc|apply Kd.S_drewN|apply Kd.S_drew));exact(Kd.S_mono (Kd.S_far (p:=⟨gb421,2,none⟩) (Kd.S_far (p:=⟨gb421,1,none⟩) (Kd.S_far (p:=⟨gb421,0,none⟩) (Kd.S_types HO410.out BK421.out (by decide)) (fun _ hk=>hk.2) (.int .i64 t414)) (fun _ hk=>hk.2) (.slice Ao15 t415.length co15)) (fun _ hk=>hk.2) (.int .i64 t418)) (fun _ h_=>h_.1))))) (Kd.S_lt (by(with_reducible repeat (first|apply Kd.S_alloc|apply Kd.S_drewN|apply Kd.S_drew));exact(Kd.S_mono (Kd.S_far (p:=⟨gb421,2,none⟩) (Kd.S_far (p:=⟨gb421,1,none⟩) (Kd.S_far (p:=⟨gb421,0,none⟩) (Kd.S_types HO417.out BK421.out (by decide)) (fun _ hk=>hk.2) (.int .i64 t414)) (fun _ hk=>hk.2) (.slice Ao15 t415.length co15)) (fun _ hk=>hk.2) (.int .i64 t418)) (fun _ h_=>h_.1))))) (below_size (bS2 GE413.out GE421.out)));have n3_:=am (blk_below (g:=gb413) (o:=.cells #[.int .i64 t407,.slice Ao10 t408.length co10,.int .i64 t411] 25 (0,0)) (by(with_reducible repeat (first|refine blk_drewN ?_ _|refine blk_drew ?_|refine blk_alloc ?_ _));refine blk_far ?_ NB413_421.out _;(with_reducible repeat (first|refine blk_drewN ?_ _|refine blk_drew ?_|refine blk_alloc ?_ _));refine blk_far ?_ NB413_421.out _;(with_reducible repeat (first|refine blk_drewN ?_ _|refine blk_drew ?_|refine blk_alloc ?_ _));refine blk_far ?_ NB413_421.out _;(with_reducible repeat (first|refine blk_drewN ?_ _|refine blk_drew ?_|refine blk_alloc ?_ _));exact BK413.out) hb);have n4_:=am (blk_below (g:=gb421) (o:=.cells #[.int .i64 t414,.slice Ao15 t415.length co15,.int .i64 t418] 25 (0,0)) (by(with_reducible repeat (first|refine blk_drewN ?_ _|refine blk_drew ?_|refine blk_alloc ?_ _));apply bU3;(with_reducible repeat (first|refine blk_drewN ?_ _|refine blk_drew ?_|refine blk_alloc ?_ _));exact BK421.out) hb);have n5_:=am (below_step (bS2 GE413.out GE421.out) hb);clear HO410 HO417 BK413 BK421 HB;have HO410:=n0_;have HO417:=n1_;have HO425:=n2_;have BK413:=n3_;have BK421:=n4_;have HB:=n5_;clear n0_ n1_ n2_ n3_ n4_ n5_;(try clear hb);(try clear hb2);(try clear hk);(try clear hi);(try clear ho0))|((with_reducible refine gate_dst (N:=8) rfl ?_);(try (refine gate_guard (by rfl) ?_;dsimp only));refine box_event ?hg (N:=8) ?hd (cs:=#[.int .i64 0,.slice none 0 0,.int .i64 0]) (t:=25) ?hr ?_;(case hd=>rfl);(case hg=>rfl);(case hr=>first|(go_simp;done)|(go_simp;rfl));intro gb429 hg w18 hbox hb;have n0_:=am (Kd.S_below (by(with_reducible repeat (first|apply Kd.S_alloc|apply Kd.S_drewN|apply Kd.S_drew));exact HO410.out) hb);have n1_:=am (Kd.S_below (by(with_reducible repeat (first|apply Kd.S_alloc|apply Kd.S_drewN|apply Kd.S_drew));exact HO417.out) hb);have n2_:=am (Kd.S_below (by(with_reducible repeat (first|apply Kd.S_alloc|apply Kd.S_drewN|apply Kd.S_drew));exact HO425.out) hb);have n3_:=am (bM BK413.out hb);have n4_:=am (bM BK421.out hb);have n5_:=am (below_step (bS2 GE413.out GE421.out) hb);have n6_:=am (hbox);have n7_:=am ((by rw[hg];exact(below_size (bS2 GE413.out GE421.out)):w.heap.size≤gb429));have n8_:=am ((by rw[hg];exact(below_size (bS2 GE413.out GE421.out)):w.heap.size≤gb429));have n9_:=am ((bN BK413.out hg:gb413≠gb429));have n10_:=am ((bO BK413.out hg:gb429≠gb413));have n11_:=am ((bN BK421.out hg:gb421≠gb429));have n12_:=am ((bO BK421.out hg:gb429≠gb421));clear HO410 HO417 HO425 BK413 BK421 HB;have HO410:=n0_;have HO417:=n1_;have HO425:=n2_;have BK413:=n3_;have BK421:=n4_;have HB:=n5_;have BK429:=n6_;have GW429:=n7_;have GE429:=n8_;have NB413_429:=n9_;have NB429_413:=n10_;have NB421_429:=n11_;have NB429_421:=n12_;clear n0_ n1_ n2_ n3_ n4_ n5_ n6_ n7_ n8_ n9_ n10_ n11_ n12_;clear hb hbox hg;have hnb19:=NB429_413.out;have hnc19:=NB413_429.out;have hnb20:=NB429_421.out;have hnc20:=NB421_429.out;obtain⟨hcz21_0,hcz21_1,hcz21_2⟩:=cC3 BK429.out;obtain⟨hfz21_0,hfz21_1,hfz21_2⟩:=cF3 BK429.out;obtain⟨Ao22,co22,eo22⟩:=Kd.S_slice HO425.out;subst eo22)))
  (try simp only[Act.put,zA,zB,zC])
  go_cut [52] (fun v52 wc => ∃ (kq:Nat) (x52_5:Bool),v52=.bool x52_5∧Aside0 (laws_FnFair.j0 kq t412 t419 t420 x52_5 t407 t408 t411 t414 t415 t418=some r)∧Aside0 (kq≤k)∧Aside0 (Kd.S k34 34 wc w.heap.size (fun k_=>some k_≠((.slice Ao15 t415.length co15):Value).ownBlock∧some k_≠((.slice Ao22 t423.length co22):Value).ownBlock) (.slice Ao10 t408.length co10) t408)∧Aside0 (Kd.S k34 34 wc w.heap.size (fun k_=>some k_≠((.slice Ao10 t408.length co10):Value).ownBlock∧some k_≠((.slice Ao22 t423.length co22):Value).ownBlock) (.slice Ao15 t415.length co15) t415)∧Aside0 (Kd.S k34 34 wc w.heap.size (fun k_=>some k_≠((.slice Ao10 t408.length co10):Value).ownBlock∧some k_≠((.slice Ao15 t415.length co15):Value).ownBlock) (.slice Ao22 t423.length co22) t423)∧Aside0 (wc.heap[gb413]?=some (.cells #[.int .i64 t407,(.slice Ao10 t408.length co10),.int .i64 t411] 25 (0,0)))∧Aside0 (wc.heap[gb421]?=some (.cells #[.int .i64 t414,(.slice Ao15 t415.length co15),.int .i64 t418] 25 (0,0)))∧Aside0 (wc.heap[gb429]?=some (.cells #[.int .i64 t422,(.slice Ao22 t423.length co22),.int .i64 t426] 25 (0,0)))∧Aside0 (Below w.heap.size w wc))
  case first =>
   have H:=HC6.out
   clear HC6
   by_cases c23:(t420 != t428)=true
   ·rw[if_pos c23] at H
    have c23b0:(t420 != t428)=true:=c23
    (try (have c23b1:decide (t420=t428)=false:=by simpa using c23))
    (try (have c23b2:(t420 == t428)=false:=by simpa using c23))
    (try (have c23b3 : ¬ (t420=t428):=by simpa using c23))
    clear c23
    (first|rw[c23b0]|(simp only[i64_w,i32_w];rw[c23b0])|skip)
    exact absurd H (by cases k<;>(first|(simp only[laws_FnFair.j0];intro h_;cases h_;done)|(rw[laws_FnFair.j0,if_pos rfl];exact fun h_=>Bool.noConfusion ((Option.some.inj h_).trans HT.out))))
   ·rw[if_neg c23] at H
    have c23b0:(t420 != t428)=false:=by simpa using c23
    (try (have c23b1:decide (t420=t428)=true:=by simpa using c23))
    (try (have c23b2:(t420 == t428)=true:=by simpa using c23))
    clear c23
    (first|rw[c23b0]|(simp only[i64_w,i32_w];rw[c23b0])|skip)
    by_cases c24:t419=t427
    ·rw[if_pos c24] at H
     have c24b0:(t419 == t427)=true:=beq_iff_eq.mpr c24
     have c24b1:(t419 != t427)=false:=bne_eq_false_iff_eq.mpr c24
     clear c24
     replace H:=bI_ H
     obtain⟨t430,A250,H⟩:=H
     have A25:=am A250
     clear A250
     have HT430:=am (show t430=true from by(rcases t430 with _|_;(exact absurd H (by cases k<;>(first|(simp only[laws_FnFair.j0];intro h_;cases h_;done)|(simp only[laws_FnFair.j0,Bool.not_false,↓reduceIte];exact fun h_=>Bool.noConfusion ((Option.some.inj h_).trans HT.out)))));rfl))
     have H':=am H
     clear H
     have hnb26:=NB421_413.out
     have hnc26:=NB413_421.out
     have hnb27:=NB421_429.out
     have hnc27:=NB429_421.out
     obtain⟨hcz28_0,hcz28_1,hcz28_2⟩:=cC3 BK421.out
     obtain⟨hfz28_0,hfz28_1,hfz28_2⟩:=cF3 BK421.out
     have hnb29:=NB429_413.out
     have hnc29:=NB413_429.out
     obtain⟨hcz30_0,hcz30_1,hcz30_2⟩:=cC3 BK429.out
     obtain⟨hfz30_0,hfz30_1,hfz30_2⟩:=cF3 BK429.out
     go_wp2_with (first|(go_at_call 9;(with_reducible refine(laws_sameTurns.calls k t414 _ _ t415 t418 t422 _ _ t423 t426 t430 _ ?side1 ?side2 ?side3 ?side4 A25.out HT430.out).mono ?_);(case side1=>refine(Kd.S_reads' (e:=34) (base:=w.heap.size) (ok:=fun k_=>((True∧some k_≠(.slice Ao10 t408.length co10:Value).ownBlock)∧some k_≠(.slice Ao22 t423.length co22:Value).ownBlock)) (n:=t415.length) (c:=co15) ?_).2.2;exact(by(with_reducible repeat (first|apply Kd.S_alloc|apply Kd.S_drewN|apply Kd.S_drew));exact(Kd.S_mono (Kd.S_far (p:=⟨gb429,2,none⟩) (Kd.S_far (p:=⟨gb429,1,none⟩) (Kd.S_far (p:=⟨gb429,0,none⟩) (Kd.S_types HO417.out BK429.out (by decide)) (fun _ hk=>hk.2) (.int .i64 t422)) (fun _ hk=>hk.2) (.slice Ao22 t423.length co22)) (fun _ hk=>hk.2) (.int .i64 t426)) (fun _ h_=>h_.1))));(case side2=>exact(Kd.S_reads' HO417.out).2.1);(case side3=>refine(Kd.S_reads' (e:=34) (base:=w.heap.size) (ok:=fun k_=>((True∧some k_≠(.slice Ao10 t408.length co10:Value).ownBlock)∧some k_≠(.slice Ao15 t415.length co15:Value).ownBlock)) (n:=t423.length) (c:=co22) ?_).2.2;exact(by(with_reducible repeat (first|apply Kd.S_alloc|apply Kd.S_drewN|apply Kd.S_drew));exact(Kd.S_mono (Kd.S_far (p:=⟨gb429,2,none⟩) (Kd.S_far (p:=⟨gb429,1,none⟩) (Kd.S_far (p:=⟨gb429,0,none⟩) (Kd.S_types HO425.out BK429.out (by decide)) (fun _ hk=>hk.2) (.int .i64 t422)) (fun _ hk=>hk.2) (.slice Ao22 t423.length co22)) (fun _ hk=>hk.2) (.int .i64 t426)) (fun _ h_=>h_.1))));(case side4=>exact(Kd.S_reads' HO425.out).2.1);rintro e w31 ⟨rfl,hb⟩;have n0_:=am (Kd.S_below (by(with_reducible repeat (first|apply Kd.S_alloc|apply Kd.S_drewN|apply Kd.S_drew));exact(Kd.S_mono (Kd.S_far (p:=⟨gb429,2,none⟩) (Kd.S_far (p:=⟨gb429,1,none⟩) (Kd.S_far (p:=⟨gb429,0,none⟩) (Kd.S_types HO410.out BK429.out (by decide)) (fun _ hk=>hk.2) (.int .i64 t422)) (fun _ hk=>hk.2) (.slice Ao22 t423.length co22)) (fun _ hk=>hk.2) (.int .i64 t426)) (fun _ h_=>h_.1))) hb);have n1_:=am (Kd.S_below (by(with_reducible repeat (first|apply Kd.S_alloc|apply Kd.S_drewN|apply Kd.S_drew));exact(Kd.S_mono (Kd.S_far (p:=⟨gb429,2,none⟩) (Kd.S_far (p:=⟨gb429,1,none⟩) (Kd.S_far (p:=⟨gb429,0,none⟩) (Kd.S_types HO417.out BK429.out (by decide)) (fun _ hk=>hk.2) (.int .i64 t422)) (fun _ hk=>hk.2) (.slice Ao22 t423.length co22)) (fun _ hk=>hk.2) (.int .i64 t426)) (fun _ h_=>h_.1))) hb);have n2_:=am (Kd.S_below (by(with_reducible repeat (first|apply Kd.S_alloc|apply Kd.S_drewN|apply Kd.S_drew));exact(Kd.S_mono (Kd.S_far (p:=⟨gb429,2,none⟩) (Kd.S_far (p:=⟨gb429,1,none⟩) (Kd.S_far (p:=⟨gb429,0,none⟩) (Kd.S_types HO425.out BK429.out (by decide)) (fun _ hk=>hk.2) (.int .i64 t422)) (fun _ hk=>hk.2) (.slice Ao22 t423.length co22)) (fun _ hk=>hk.2) (.int .i64 t426)) (fun _ h_=>h_.1))) hb);have n3_:=am (blk_below (g:=gb413) (o:=.cells #[.int .i64 t407,.slice Ao10 t408.length co10,.int .i64 t411] 25 (0,0)) (by(with_reducible repeat (first|refine blk_drewN ?_ _|refine blk_drew ?_|refine blk_alloc ?_ _));refine blk_far ?_ NB413_429.out _;(with_reducible repeat (first|refine blk_drewN ?_ _|refine blk_drew ?_|refine blk_alloc ?_ _));refine blk_far ?_ NB413_429.out _;(with_reducible repeat (first|refine blk_drewN ?_ _|refine blk_drew ?_|refine blk_alloc ?_ _));refine blk_far ?_ NB413_429.out _;(with_reducible repeat (first|refine blk_drewN ?_ _|refine blk_drew ?_|refine blk_alloc ?_ _));exact BK413.out) hb);have n4_:=am (blk_below (g:=gb421) (o:=.cells #[.int .i64 t414,.slice Ao15 t415.length co15,.int .i64 t418] 25 (0,0)) (by(with_reducible repeat (first|refine blk_drewN ?_ _|refine blk_drew ?_|refine blk_alloc ?_ _));refine blk_far ?_ NB421_429.out _;(with_reducible repeat (first|refine blk_drewN ?_ _|refine blk_drew ?_|refine blk_alloc ?_ _));refine blk_far ?_ NB421_429.out _;(with_reducible repeat (first|refine blk_drewN ?_ _|refine blk_drew ?_|refine blk_alloc ?_ _));refine blk_far ?_ NB421_429.out _;(with_reducible repeat (first|refine blk_drewN ?_ _|refine blk_drew ?_|refine blk_alloc ?_ _));exact BK421.out) hb);have n5_:=am (blk_below (g:=gb429) (o:=.cells #[.int .i64 t422,.slice Ao22 t423.length co22,.int .i64 t426] 25 (0,0)) (by(with_reducible repeat (first|refine blk_drewN ?_ _|refine blk_drew ?_|refine blk_alloc ?_ _));apply bU3;(with_reducible repeat (first|refine blk_drewN ?_ _|refine blk_drew ?_|refine blk_alloc ?_ _));exact BK429.out) hb);have n6_:=am (below_step (bS3 GE413.out GE421.out GE429.out) hb);clear HO410 HO417 HO425 BK413 BK421 BK429 HB;have HO410:=n0_;have HO417:=n1_;have HO425:=n2_;have BK413:=n3_;have BK421:=n4_;have BK429:=n5_;have HB:=n6_;clear n0_ n1_ n2_ n3_ n4_ n5_ n6_;(try clear hb);(try clear hb2);(try clear hk);(try clear hi)))
     repeat (go_quiet (first|(go_at_call 9;(with_reducible refine(laws_sameTurns.calls k t414 _ _ t415 t418 t422 _ _ t423 t426 t430 _ ?side1 ?side2 ?side3 ?side4 A25.out HT430.out).mono ?_);(case side1=>refine(Kd.S_reads' (e:=34) (base:=w.heap.size) (ok:=fun k_=>((True∧some k_≠(.slice Ao10 t408.length co10:Value).ownBlock)∧some k_≠(.slice Ao22 t423.length co22:Value).ownBlock)) (n:=t415.length) (c:=co15) ?_).2.2;exact(by(with_reducible repeat (first|apply Kd.S_alloc|apply Kd.S_drewN|apply Kd.S_drew));exact(Kd.S_mono (Kd.S_far (p:=⟨gb429,2,none⟩) (Kd.S_far (p:=⟨gb429,1,none⟩) (Kd.S_far (p:=⟨gb429,0,none⟩) (Kd.S_types HO417.out BK429.out (by decide)) (fun _ hk=>hk.2) (.int .i64 t422)) (fun _ hk=>hk.2) (.slice Ao22 t423.length co22)) (fun _ hk=>hk.2) (.int .i64 t426)) (fun _ h_=>h_.1))));(case side2=>exact(Kd.S_reads' HO417.out).2.1);(case side3=>refine(Kd.S_reads' (e:=34) (base:=w.heap.size) (ok:=fun k_=>((True∧some k_≠(.slice Ao10 t408.length co10:Value).ownBlock)∧some k_≠(.slice Ao15 t415.length co15:Value).ownBlock)) (n:=t423.length) (c:=co22) ?_).2.2;exact(by(with_reducible repeat (first|apply Kd.S_alloc|apply Kd.S_drewN|apply Kd.S_drew));exact(Kd.S_mono (Kd.S_far (p:=⟨gb429,2,none⟩) (Kd.S_far (p:=⟨gb429,1,none⟩) (Kd.S_far (p:=⟨gb429,0,none⟩) (Kd.S_types HO425.out BK429.out (by decide)) (fun _ hk=>hk.2) (.int .i64 t422)) (fun _ hk=>hk.2) (.slice Ao22 t423.length co22)) (fun _ hk=>hk.2) (.int .i64 t426)) (fun _ h_=>h_.1))));(case side4=>exact(Kd.S_reads' HO425.out).2.1);rintro e w31 ⟨rfl,hb⟩;have n0_:=am (Kd.S_below (by(with_reducible repeat (first|apply Kd.S_alloc|apply Kd.S_drewN|apply Kd.S_drew));exact(Kd.S_mono (Kd.S_far (p:=⟨gb429,2,none⟩) (Kd.S_far (p:=⟨gb429,1,none⟩) (Kd.S_far (p:=⟨gb429,0,none⟩) (Kd.S_types HO410.out BK429.out (by decide)) (fun _ hk=>hk.2) (.int .i64 t422)) (fun _ hk=>hk.2) (.slice Ao22 t423.length co22)) (fun _ hk=>hk.2) (.int .i64 t426)) (fun _ h_=>h_.1))) hb);have n1_:=am (Kd.S_below (by(with_reducible repeat (first|apply Kd.S_alloc|apply Kd.S_drewN|apply Kd.S_drew));exact(Kd.S_mono (Kd.S_far (p:=⟨gb429,2,none⟩) (Kd.S_far (p:=⟨gb429,1,none⟩) (Kd.S_far (p:=⟨gb429,0,none⟩) (Kd.S_types HO417.out BK429.out (by decide)) (fun _ hk=>hk.2) (.int .i64 t422)) (fun _ hk=>hk.2) (.slice Ao22 t423.length co22)) (fun _ hk=>hk.2) (.int .i64 t426)) (fun _ h_=>h_.1))) hb);have n2_:=am (Kd.S_below (by(with_reducible repeat (first|apply Kd.S_alloc|apply Kd.S_drewN|apply Kd.S_drew));exact(Kd.S_mono (Kd.S_far (p:=⟨gb429,2,none⟩) (Kd.S_far (p:=⟨gb429,1,none⟩) (Kd.S_far (p:=⟨gb429,0,none⟩) (Kd.S_types HO425.out BK429.out (by decide)) (fun _ hk=>hk.2) (.int .i64 t422)) (fun _ hk=>hk.2) (.slice Ao22 t423.length co22)) (fun _ hk=>hk.2) (.int .i64 t426)) (fun _ h_=>h_.1))) hb);have n3_:=am (blk_below (g:=gb413) (o:=.cells #[.int .i64 t407,.slice Ao10 t408.length co10,.int .i64 t411] 25 (0,0)) (by(with_reducible repeat (first|refine blk_drewN ?_ _|refine blk_drew ?_|refine blk_alloc ?_ _));refine blk_far ?_ NB413_429.out _;(with_reducible repeat (first|refine blk_drewN ?_ _|refine blk_drew ?_|refine blk_alloc ?_ _));refine blk_far ?_ NB413_429.out _;(with_reducible repeat (first|refine blk_drewN ?_ _|refine blk_drew ?_|refine blk_alloc ?_ _));refine blk_far ?_ NB413_429.out _;(with_reducible repeat (first|refine blk_drewN ?_ _|refine blk_drew ?_|refine blk_alloc ?_ _));exact BK413.out) hb);have n4_:=am (blk_below (g:=gb421) (o:=.cells #[.int .i64 t414,.slice Ao15 t415.length co15,.int .i64 t418] 25 (0,0)) (by(with_reducible repeat (first|refine blk_drewN ?_ _|refine blk_drew ?_|refine blk_alloc ?_ _));refine blk_far ?_ NB421_429.out _;(with_reducible repeat (first|refine blk_drewN ?_ _|refine blk_drew ?_|refine blk_alloc ?_ _));refine blk_far ?_ NB421_429.out _;(with_reducible repeat (first|refine blk_drewN ?_ _|refine blk_drew ?_|refine blk_alloc ?_ _));refine blk_far ?_ NB421_429.out _;(with_reducible repeat (first|refine blk_drewN ?_ _|refine blk_drew ?_|refine blk_alloc ?_ _));exact BK421.out) hb);have n5_:=am (blk_below (g:=gb429) (o:=.cells #[.int .i64 t422,.slice Ao22 t423.length co22,.int .i64 t426] 25 (0,0)) (by(with_reducible repeat (first|refine blk_drewN ?_ _|refine blk_drew ?_|refine blk_alloc ?_ _));apply bU3;(with_reducible repeat (first|refine blk_drewN ?_ _|refine blk_drew ?_|refine blk_alloc ?_ _));exact BK429.out) hb);have n6_:=am (below_step (bS3 GE413.out GE421.out GE429.out) hb);clear HO410 HO417 HO425 BK413 BK421 BK429 HB;have HO410:=n0_;have HO417:=n1_;have HO425:=n2_;have BK413:=n3_;have BK421:=n4_;have BK429:=n5_;have HB:=n6_;clear n0_ n1_ n2_ n3_ n4_ n5_ n6_;(try clear hb);(try clear hb2);(try clear hk);(try clear hi)));try go_wp2_with (first|(go_at_call 9;(with_reducible refine(laws_sameTurns.calls k t414 _ _ t415 t418 t422 _ _ t423 t426 t430 _ ?side1 ?side2 ?side3 ?side4 A25.out HT430.out).mono ?_);(case side1=>refine(Kd.S_reads' (e:=34) (base:=w.heap.size) (ok:=fun k_=>((True∧some k_≠(.slice Ao10 t408.length co10:Value).ownBlock)∧some k_≠(.slice Ao22 t423.length co22:Value).ownBlock)) (n:=t415.length) (c:=co15) ?_).2.2;exact(by(with_reducible repeat (first|apply Kd.S_alloc|apply Kd.S_drewN|apply Kd.S_drew));exact(Kd.S_mono (Kd.S_far (p:=⟨gb429,2,none⟩) (Kd.S_far (p:=⟨gb429,1,none⟩) (Kd.S_far (p:=⟨gb429,0,none⟩) (Kd.S_types HO417.out BK429.out (by decide)) (fun _ hk=>hk.2) (.int .i64 t422)) (fun _ hk=>hk.2) (.slice Ao22 t423.length co22)) (fun _ hk=>hk.2) (.int .i64 t426)) (fun _ h_=>h_.1))));(case side2=>exact(Kd.S_reads' HO417.out).2.1);(case side3=>refine(Kd.S_reads' (e:=34) (base:=w.heap.size) (ok:=fun k_=>((True∧some k_≠(.slice Ao10 t408.length co10:Value).ownBlock)∧some k_≠(.slice Ao15 t415.length co15:Value).ownBlock)) (n:=t423.length) (c:=co22) ?_).2.2;exact(by(with_reducible repeat (first|apply Kd.S_alloc|apply Kd.S_drewN|apply Kd.S_drew));exact(Kd.S_mono (Kd.S_far (p:=⟨gb429,2,none⟩) (Kd.S_far (p:=⟨gb429,1,none⟩) (Kd.S_far (p:=⟨gb429,0,none⟩) (Kd.S_types HO425.out BK429.out (by decide)) (fun _ hk=>hk.2) (.int .i64 t422)) (fun _ hk=>hk.2) (.slice Ao22 t423.length co22)) (fun _ hk=>hk.2) (.int .i64 t426)) (fun _ h_=>h_.1))));(case side4=>exact(Kd.S_reads' HO425.out).2.1);rintro e w31 ⟨rfl,hb⟩;have n0_:=am (Kd.S_below (by(with_reducible repeat (first|apply Kd.S_alloc|apply Kd.S_drewN|apply Kd.S_drew));exact(Kd.S_mono (Kd.S_far (p:=⟨gb429,2,none⟩) (Kd.S_far (p:=⟨gb429,1,none⟩) (Kd.S_far (p:=⟨gb429,0,none⟩) (Kd.S_types HO410.out BK429.out (by decide)) (fun _ hk=>hk.2) (.int .i64 t422)) (fun _ hk=>hk.2) (.slice Ao22 t423.length co22)) (fun _ hk=>hk.2) (.int .i64 t426)) (fun _ h_=>h_.1))) hb);have n1_:=am (Kd.S_below (by(with_reducible repeat (first|apply Kd.S_alloc|apply Kd.S_drewN|apply Kd.S_drew));exact(Kd.S_mono (Kd.S_far (p:=⟨gb429,2,none⟩) (Kd.S_far (p:=⟨gb429,1,none⟩) (Kd.S_far (p:=⟨gb429,0,none⟩) (Kd.S_types HO417.out BK429.out (by decide)) (fun _ hk=>hk.2) (.int .i64 t422)) (fun _ hk=>hk.2) (.slice Ao22 t423.length co22)) (fun _ hk=>hk.2) (.int .i64 t426)) (fun _ h_=>h_.1))) hb);have n2_:=am (Kd.S_below (by(with_reducible repeat (first|apply Kd.S_alloc|apply Kd.S_drewN|apply Kd.S_drew));exact(Kd.S_mono (Kd.S_far (p:=⟨gb429,2,none⟩) (Kd.S_far (p:=⟨gb429,1,none⟩) (Kd.S_far (p:=⟨gb429,0,none⟩) (Kd.S_types HO425.out BK429.out (by decide)) (fun _ hk=>hk.2) (.int .i64 t422)) (fun _ hk=>hk.2) (.slice Ao22 t423.length co22)) (fun _ hk=>hk.2) (.int .i64 t426)) (fun _ h_=>h_.1))) hb);have n3_:=am (blk_below (g:=gb413) (o:=.cells #[.int .i64 t407,.slice Ao10 t408.length co10,.int .i64 t411] 25 (0,0)) (by(with_reducible repeat (first|refine blk_drewN ?_ _|refine blk_drew ?_|refine blk_alloc ?_ _));refine blk_far ?_ NB413_429.out _;(with_reducible repeat (first|refine blk_drewN ?_ _|refine blk_drew ?_|refine blk_alloc ?_ _));refine blk_far ?_ NB413_429.out _;(with_reducible repeat (first|refine blk_drewN ?_ _|refine blk_drew ?_|refine blk_alloc ?_ _));refine blk_far ?_ NB413_429.out _;(with_reducible repeat (first|refine blk_drewN ?_ _|refine blk_drew ?_|refine blk_alloc ?_ _));exact BK413.out) hb);have n4_:=am (blk_below (g:=gb421) (o:=.cells #[.int .i64 t414,.slice Ao15 t415.length co15,.int .i64 t418] 25 (0,0)) (by(with_reducible repeat (first|refine blk_drewN ?_ _|refine blk_drew ?_|refine blk_alloc ?_ _));refine blk_far ?_ NB421_429.out _;(with_reducible repeat (first|refine blk_drewN ?_ _|refine blk_drew ?_|refine blk_alloc ?_ _));refine blk_far ?_ NB421_429.out _;(with_reducible repeat (first|refine blk_drewN ?_ _|refine blk_drew ?_|refine blk_alloc ?_ _));refine blk_far ?_ NB421_429.out _;(with_reducible repeat (first|refine blk_drewN ?_ _|refine blk_drew ?_|refine blk_alloc ?_ _));exact BK421.out) hb);have n5_:=am (blk_below (g:=gb429) (o:=.cells #[.int .i64 t422,.slice Ao22 t423.length co22,.int .i64 t426] 25 (0,0)) (by(with_reducible repeat (first|refine blk_drewN ?_ _|refine blk_drew ?_|refine blk_alloc ?_ _));apply bU3;(with_reducible repeat (first|refine blk_drewN ?_ _|refine blk_drew ?_|refine blk_alloc ?_ _));exact BK429.out) hb);have n6_:=am (below_step (bS3 GE413.out GE421.out GE429.out) hb);clear HO410 HO417 HO425 BK413 BK421 BK429 HB;have HO410:=n0_;have HO417:=n1_;have HO425:=n2_;have BK413:=n3_;have BK421:=n4_;have BK429:=n5_;have HB:=n6_;clear n0_ n1_ n2_ n3_ n4_ n5_ n6_;(try clear hb);(try clear hb2);(try clear hk);(try clear hi))))
     go_meet
     case rel=>exact⟨_,(!t430),(bR),H',⟨by first|omega|exact Nat.le_refl _⟩,⟨by(with_reducible repeat (first|apply Kd.S_alloc|apply Kd.S_drewN|apply Kd.S_drew));exact Kd.S_mono HO410.out (fun _ hk=>⟨hk.1.2,hk.2⟩)⟩,⟨by(with_reducible repeat (first|apply Kd.S_alloc|apply Kd.S_drewN|apply Kd.S_drew));exact Kd.S_mono HO417.out (fun _ hk=>⟨hk.1.2,hk.2⟩)⟩,⟨by(with_reducible repeat (first|apply Kd.S_alloc|apply Kd.S_drewN|apply Kd.S_drew));exact Kd.S_mono HO425.out (fun _ hk=>⟨hk.1.2,hk.2⟩)⟩,⟨by(with_reducible repeat (first|refine blk_drewN ?_ _|refine blk_drew ?_|refine blk_alloc ?_ _));exact BK413.out⟩,⟨by(with_reducible repeat (first|refine blk_drewN ?_ _|refine blk_drew ?_|refine blk_alloc ?_ _));exact BK421.out⟩,⟨by(with_reducible repeat (first|refine blk_drewN ?_ _|refine blk_drew ?_|refine blk_alloc ?_ _));exact BK429.out⟩,⟨bS3 GE413.out GE421.out GE429.out⟩⟩
    ·rw[if_neg c24] at H
     have c24b0:(t419 == t427)=false:=beq_eq_false_iff_ne.mpr c24
     have c24b1:(t419 != t427)=true:=bne_iff_ne.mpr c24
     exact absurd H (by cases k<;>(first|(simp only[laws_FnFair.j0];intro h_;cases h_;done)|(rw[laws_FnFair.j0,if_pos rfl];exact fun h_=>Bool.noConfusion ((Option.some.inj h_).trans HT.out))))
  case rest =>
   clear HC6
   try clear c1
   try clear c2
   try clear c2b0
   try clear c2b1
   try clear p2
   try clear c4
   try clear c13
   try clear c19
   try clear c20
   try clear c23
   try clear c23b0
   try clear c23b1
   try clear c23b2
   try clear c24
   try clear c24b0
   try clear c24b1
   try clear c26
   try clear c27
   try clear c29
   try clear hcz14_0 hcz14_1 hcz14_2
   try clear hcz16_0 hcz16_1 hcz16_2
   try clear hcz21_0 hcz21_1 hcz21_2
   try clear hcz28_0 hcz28_1 hcz28_2
   try clear hcz30_0 hcz30_1 hcz30_2
   try clear hcz9_0 hcz9_1 hcz9_2
   try clear hfz14_0 hfz14_1 hfz14_2
   try clear hfz16_0 hfz16_1 hfz16_2
   try clear hfz21_0 hfz21_1 hfz21_2
   try clear hfz28_0 hfz28_1 hfz28_2
   try clear hfz30_0 hfz30_1 hfz30_2
   try clear hfz9_0 hfz9_1 hfz9_2
   obtain⟨kq,x52_5,rfl,HA,HJ5,HO_414001,HO_422001,HO_430001,BK413,BK421,BK429,HB⟩:=hcut
   cases kq with
   | zero=>exact absurd HA.out (by simp[laws_FnFair.j0])
   | succ kj5 =>
    have H:=HA.out
    clear HA
    simp only[laws_FnFair.j0] at H
    by_cases c32:x52_5=true
    ·subst c32
     have H1:(some false)=some r:=by rw[if_pos rfl] at H;exact H
     clear H
     have H:=H1
     clear H1
     exact Bool.noConfusion ((Option.some.inj H).trans HT.out)
    ·replace c32:=Bool.eq_false_iff.mpr c32
     subst c32
     have H1:(if t420=true then (laws_FnFair.l0 kj5 t412 t415 (t415.length:Int) 0 t407 t408 t411 t414 t415 t418) else (some (t419 == 0)))=some r:=by rw[if_neg (show ¬ (false=true) by decide)] at H;exact H
     clear H
     have H:=H1
     clear H1
     by_cases c33:t420=true
     ·subst c33
      have H1:(laws_FnFair.l0 kj5 t412 t415 (t415.length:Int) 0 t407 t408 t411 t414 t415 t418)=some r:=by rw[if_pos rfl] at H;exact H
      clear H
      have H:=H1
      clear H1
      have H':=am H
      clear H
      have hnb34:=NB421_413.out
      have hnc34:=NB413_421.out
      have hnb35:=NB421_429.out
      have hnc35:=NB429_421.out
      obtain⟨hcz36_0,hcz36_1,hcz36_2⟩:=cC3 BK421.out
      obtain⟨hfz36_0,hfz36_1,hfz36_2⟩:=cF3 BK421.out
      go_wp2
      repeat (go_quiet (fail);try go_wp2)
      go_loopg [60] kj5 (fun kq v60 w' => ∃ (x60_2:Int),v60=.int .i64 x60_2∧Aside0 (laws_FnFair.l0 kq t412 t415 (t415.length:Int) x60_2 t407 t408 t411 t414 t415 t418=some r)∧Aside0 (kq≤kj5)∧Aside0 (Kd.S k34 34 w' w.heap.size (fun k_=>some k_≠((.slice Ao10 t408.length co10):Value).ownBlock∧some k_≠((.slice Ao22 t423.length co22):Value).ownBlock) (.slice Ao15 t415.length co15) t415)∧Aside0 (Kd.S k34 34 w' w.heap.size (fun k_=>some k_≠((.slice Ao15 t415.length co15):Value).ownBlock∧some k_≠((.slice Ao15 t415.length co15):Value).ownBlock∧some k_≠((.slice Ao22 t423.length co22):Value).ownBlock) (.slice Ao10 t408.length co10) t408)∧Aside0 (Kd.S k34 34 w' w.heap.size (fun k_=>some k_≠((.slice Ao10 t408.length co10):Value).ownBlock∧some k_≠((.slice Ao22 t423.length co22):Value).ownBlock) (.slice Ao15 t415.length co15) t415)∧Aside0 (Kd.S k34 34 w' w.heap.size (fun k_=>some k_≠((.slice Ao15 t415.length co15):Value).ownBlock∧some k_≠((.slice Ao10 t408.length co10):Value).ownBlock∧some k_≠((.slice Ao15 t415.length co15):Value).ownBlock) (.slice Ao22 t423.length co22) t423)∧Aside0 (w'.heap[gb413]?=some (.cells #[.int .i64 t407,(.slice Ao10 t408.length co10),.int .i64 t411] 25 (0,0)))∧Aside0 (w'.heap[gb421]?=some (.cells #[.int .i64 t414,(.slice Ao15 t415.length co15),.int .i64 t418] 25 (0,0)))∧Aside0 (w'.heap[gb429]?=some (.cells #[.int .i64 t422,(.slice Ao22 t423.length co22),.int .i64 t426] 25 (0,0)))∧Aside0 (Below w.heap.size w w'))
      case atStart=>exact⟨(0),(bR),H',⟨Nat.le_refl _⟩,⟨by(with_reducible repeat (first|apply Kd.S_alloc|apply Kd.S_drewN|apply Kd.S_drew));exact HO_422001.out⟩,⟨by(with_reducible repeat (first|apply Kd.S_alloc|apply Kd.S_drewN|apply Kd.S_drew));exact Kd.S_mono HO_414001.out (fun _ hk=>⟨hk.1,⟨hk.1,hk.2⟩⟩)⟩,⟨by(with_reducible repeat (first|apply Kd.S_alloc|apply Kd.S_drewN|apply Kd.S_drew));exact HO_422001.out⟩,⟨by(with_reducible repeat (first|apply Kd.S_alloc|apply Kd.S_drewN|apply Kd.S_drew));exact Kd.S_mono HO_430001.out (fun _ hk=>⟨hk.2,⟨hk.1,hk.2⟩⟩)⟩,⟨by(with_reducible repeat (first|refine blk_drewN ?_ _|refine blk_drew ?_|refine blk_alloc ?_ _));exact BK413.out⟩,⟨by(with_reducible repeat (first|refine blk_drewN ?_ _|refine blk_drew ?_|refine blk_alloc ?_ _));exact BK421.out⟩,⟨by(with_reducible repeat (first|refine blk_drewN ?_ _|refine blk_drew ?_|refine blk_alloc ?_ _));exact BK429.out⟩,⟨bS3 GE413.out GE421.out GE429.out⟩⟩
      case round =>
       clear H'
       try clear c1
       try clear c2
       try clear c2b0
       try clear c2b1
       try clear p2
       try clear c3
       try clear c4
       try clear c13
       try clear c19
       try clear c20
       try clear c23
       try clear c23b0
       try clear c23b1
       try clear c23b2
       try clear c24
       try clear c24b0
       try clear c24b1
       try clear c26
       try clear c27
       try clear c29
       try clear c32
       try clear c33
       try clear c34
       try clear c35
       try clear hcz14_0 hcz14_1 hcz14_2
       try clear hcz16_0 hcz16_1 hcz16_2
       try clear hcz21_0 hcz21_1 hcz21_2
       try clear hcz28_0 hcz28_1 hcz28_2
       try clear hcz30_0 hcz30_1 hcz30_2
       try clear hcz36_0 hcz36_1 hcz36_2
       try clear hcz9_0 hcz9_1 hcz9_2
       try clear hfz14_0 hfz14_1 hfz14_2
       try clear hfz16_0 hfz16_1 hfz16_2
       try clear hfz21_0 hfz21_1 hfz21_2
       try clear hfz28_0 hfz28_1 hfz28_2
       try clear hfz30_0 hfz30_1 hfz30_2
       try clear hfz36_0 hfz36_1 hfz36_2
       try clear hfz9_0 hfz9_1 hfz9_2
       try clear p2
       obtain⟨x60_2,rfl,HA,HK2,HO_58,HO_414001,HO_422001,HO_430001,BK413,BK421,BK429,HB⟩:=hrel
       cases gk with
       | zero=>exact absurd HA.out (by simp[laws_FnFair.l0])
       | succ k2 =>
        have H:=HA.out
        clear HA
        simp only[laws_FnFair.l0] at H
        by_cases c37:x60_2 < (t415.length:Int)
        ·rw[if_pos c37] at H
         have c37b0:decide (x60_2 < (t415.length:Int))=true:=decide_eq_true c37
         clear c37
         by_cases c38:0≤x60_2
         ·rw[if_pos c38] at H
          have c38b0:decide (0≤x60_2)=true:=decide_eq_true c38
          clear c38
          by_cases c39:x60_2 < (t415.length:Int)
          ·rw[if_pos c39] at H
           have c39b0:decide (x60_2 < (t415.length:Int))=true:=decide_eq_true c39
           clear c39
           have H':=am H
           clear H
           have p431:0≤(x60_2:Int):=bD_
           have q431:x60_2 < (t415.length:Int):=bD_
           obtain⟨ad431,A431_0,c431_0,e431,hx431_0,hx431_1,hx431_2,hl431_0,hi431_0⟩:=at_T34 (Kd.S_reads' HO_58.out).2.2 x60_2 p431 q431
           cases e431
           obtain⟨ce431,hce431,hMe431,hcc431⟩:=Kd.S_get HO_58.out z34 x60_2 p431 (by first|exact q431|exact bD_|(have e_:=(Kd.S_reads' HO_58.out).1;omega))
           obtain⟨ve431_0,rfl,ge431_0⟩:=k34_openM hMe431
           have hv431_0:=hcc431 0 _ rfl
           rw[Nat.add_zero] at hv431_0
           replace hv431_0:=Option.some.inj (hv431_0.symm.trans hx431_0)
           rw[hv431_0] at ge431_0
           have HL431_0:=am (show Kd.R (Kd.int .i64) 3 _ _ _ _ ((rd_T34 t415 x60_2).f0) from ge431_0)
           clear hv431_0 ge431_0 hcc431 hce431
           have HR431_0:=am hi431_0
           have HC431_0:=am hl431_0
           clear hi431_0 hl431_0
           replace p431:=eq_true p431
           replace q431:=eq_true q431
           go_wp2_with (first|((with_reducible refine gate_dst (N:=12) rfl ?_);(try (refine gate_guard (by rfl) ?_;dsimp only));refine box_event ?hg (N:=12) ?hd (cs:=#[.slice none 0 0,.int .i64 0,.int .i64 0]) (t:=34) ?hr ?_;(case hd=>rfl);(case hg=>rfl);(case hr=>first|(go_simp;done)|(go_simp;rfl));intro gb432 hg w40 hbox hb;have n0_:=am (Kd.S_below (Kd.S_elderB (by(with_reducible repeat (first|apply Kd.S_alloc|apply Kd.S_drewN|apply Kd.S_drew));exact HO_58.out) gb432 (Nat.le_of_eq hg.symm)) hb);have n1_:=am (Kd.S_below (Kd.S_elderB (by(with_reducible repeat (first|apply Kd.S_alloc|apply Kd.S_drewN|apply Kd.S_drew));exact HO_414001.out) gb432 (Nat.le_of_eq hg.symm)) hb);have n2_:=am (Kd.S_below (Kd.S_elderB (by(with_reducible repeat (first|apply Kd.S_alloc|apply Kd.S_drewN|apply Kd.S_drew));exact HO_422001.out) gb432 (Nat.le_of_eq hg.symm)) hb);have n3_:=am (Kd.S_below (Kd.S_elderB (by(with_reducible repeat (first|apply Kd.S_alloc|apply Kd.S_drewN|apply Kd.S_drew));exact HO_430001.out) gb432 (Nat.le_of_eq hg.symm)) hb);have n4_:=am (Kd.R_below (bK HL431_0.out) hb);have n5_:=am (bM BK413.out hb);have n6_:=am (bM BK421.out hb);have n7_:=am (bM BK429.out hb);have n8_:=am (Kd.C_below (by repeat (first|(with_reducible exact HR431_0.out)|(with_reducible refine Kd.C_alloc ?_ _)|(with_reducible refine Kd.C_drewN ?_ _)|(with_reducible refine Kd.C_drew ?_)|exact HR431_0.out)) hb);have n9_:=am (below_step (bS3 GE413.out GE421.out GE429.out) hb);have n10_:=am (hbox);have n11_:=am ((by rw[hg];exact(below_size (bS3 GE413.out GE421.out GE429.out)):w.heap.size≤gb432));have n12_:=am ((by rw[hg];exact(below_size (bS3 GE413.out GE421.out GE429.out)):w.heap.size≤gb432));have n13_:=am ((bN BK413.out hg:gb413≠gb432));have n14_:=am ((bO BK413.out hg:gb432≠gb413));have n15_:=am ((bN BK421.out hg:gb421≠gb432));have n16_:=am ((bO BK421.out hg:gb432≠gb421));have n17_:=am ((bN BK429.out hg:gb429≠gb432));have n18_:=am ((bO BK429.out hg:gb432≠gb429));clear HO_58 HO_414001 HO_422001 HO_430001 HL431_0 BK413 BK421 BK429 HR431_0 HB;have HO_58:=n0_;have HO_414001:=n1_;have HO_422001:=n2_;have HO_430001:=n3_;have HL431_0:=n4_;have BK413:=n5_;have BK421:=n6_;have BK429:=n7_;have HR431_0:=n8_;have HB:=n9_;have BK432:=n10_;have GW432:=n11_;have GE432:=n12_;have NB413_432:=n13_;have NB432_413:=n14_;have NB421_432:=n15_;have NB432_421:=n16_;have NB429_432:=n17_;have NB432_429:=n18_;clear n0_ n1_ n2_ n3_ n4_ n5_ n6_ n7_ n8_ n9_ n10_ n11_ n12_ n13_ n14_ n15_ n16_ n17_ n18_;clear hb hbox hg;have hnb41:=NB432_413.out;have hnc41:=NB413_432.out;have hnb42:=NB432_421.out;have hnc42:=NB421_432.out;have hnb43:=NB432_429.out;have hnc43:=NB429_432.out;obtain⟨hcz44_0,hcz44_1,hcz44_2⟩:=cC3 BK432.out;obtain⟨hfz44_0,hfz44_1,hfz44_2⟩:=cF3 BK432.out;have hnb45:=NB421_413.out;have hnc45:=NB413_421.out;have hnb46:=NB421_429.out;have hnc46:=NB429_421.out;obtain⟨hcz47_0,hcz47_1,hcz47_2⟩:=cC3 BK421.out;obtain⟨hfz47_0,hfz47_1,hfz47_2⟩:=cF3 BK421.out))
           repeat (go_quiet (first|((with_reducible refine gate_dst (N:=12) rfl ?_);(try (refine gate_guard (by rfl) ?_;dsimp only));refine box_event ?hg (N:=12) ?hd (cs:=#[.slice none 0 0,.int .i64 0,.int .i64 0]) (t:=34) ?hr ?_;(case hd=>rfl);(case hg=>rfl);(case hr=>first|(go_simp;done)|(go_simp;rfl));intro gb432 hg w40 hbox hb;have n0_:=am (Kd.S_below (Kd.S_elderB (by(with_reducible repeat (first|apply Kd.S_alloc|apply Kd.S_drewN|apply Kd.S_drew));exact HO_58.out) gb432 (Nat.le_of_eq hg.symm)) hb);have n1_:=am (Kd.S_below (Kd.S_elderB (by(with_reducible repeat (first|apply Kd.S_alloc|apply Kd.S_drewN|apply Kd.S_drew));exact HO_414001.out) gb432 (Nat.le_of_eq hg.symm)) hb);have n2_:=am (Kd.S_below (Kd.S_elderB (by(with_reducible repeat (first|apply Kd.S_alloc|apply Kd.S_drewN|apply Kd.S_drew));exact HO_422001.out) gb432 (Nat.le_of_eq hg.symm)) hb);have n3_:=am (Kd.S_below (Kd.S_elderB (by(with_reducible repeat (first|apply Kd.S_alloc|apply Kd.S_drewN|apply Kd.S_drew));exact HO_430001.out) gb432 (Nat.le_of_eq hg.symm)) hb);have n4_:=am (Kd.R_below (bK HL431_0.out) hb);have n5_:=am (bM BK413.out hb);have n6_:=am (bM BK421.out hb);have n7_:=am (bM BK429.out hb);have n8_:=am (Kd.C_below (by repeat (first|(with_reducible exact HR431_0.out)|(with_reducible refine Kd.C_alloc ?_ _)|(with_reducible refine Kd.C_drewN ?_ _)|(with_reducible refine Kd.C_drew ?_)|exact HR431_0.out)) hb);have n9_:=am (below_step (bS3 GE413.out GE421.out GE429.out) hb);have n10_:=am (hbox);have n11_:=am ((by rw[hg];exact(below_size (bS3 GE413.out GE421.out GE429.out)):w.heap.size≤gb432));have n12_:=am ((by rw[hg];exact(below_size (bS3 GE413.out GE421.out GE429.out)):w.heap.size≤gb432));have n13_:=am ((bN BK413.out hg:gb413≠gb432));have n14_:=am ((bO BK413.out hg:gb432≠gb413));have n15_:=am ((bN BK421.out hg:gb421≠gb432));have n16_:=am ((bO BK421.out hg:gb432≠gb421));have n17_:=am ((bN BK429.out hg:gb429≠gb432));have n18_:=am ((bO BK429.out hg:gb432≠gb429));clear HO_58 HO_414001 HO_422001 HO_430001 HL431_0 BK413 BK421 BK429 HR431_0 HB;have HO_58:=n0_;have HO_414001:=n1_;have HO_422001:=n2_;have HO_430001:=n3_;have HL431_0:=n4_;have BK413:=n5_;have BK421:=n6_;have BK429:=n7_;have HR431_0:=n8_;have HB:=n9_;have BK432:=n10_;have GW432:=n11_;have GE432:=n12_;have NB413_432:=n13_;have NB432_413:=n14_;have NB421_432:=n15_;have NB432_421:=n16_;have NB429_432:=n17_;have NB432_429:=n18_;clear n0_ n1_ n2_ n3_ n4_ n5_ n6_ n7_ n8_ n9_ n10_ n11_ n12_ n13_ n14_ n15_ n16_ n17_ n18_;clear hb hbox hg;have hnb41:=NB432_413.out;have hnc41:=NB413_432.out;have hnb42:=NB432_421.out;have hnc42:=NB421_432.out;have hnb43:=NB432_429.out;have hnc43:=NB429_432.out;obtain⟨hcz44_0,hcz44_1,hcz44_2⟩:=cC3 BK432.out;obtain⟨hfz44_0,hfz44_1,hfz44_2⟩:=cF3 BK432.out;have hnb45:=NB421_413.out;have hnc45:=NB413_421.out;have hnb46:=NB421_429.out;have hnc46:=NB429_421.out;obtain⟨hcz47_0,hcz47_1,hcz47_2⟩:=cC3 BK421.out;obtain⟨hfz47_0,hfz47_1,hfz47_2⟩:=cF3 BK421.out));try go_wp2_with (first|((with_reducible refine gate_dst (N:=12) rfl ?_);(try (refine gate_guard (by rfl) ?_;dsimp only));refine box_event ?hg (N:=12) ?hd (cs:=#[.slice none 0 0,.int .i64 0,.int .i64 0]) (t:=34) ?hr ?_;(case hd=>rfl);(case hg=>rfl);(case hr=>first|(go_simp;done)|(go_simp;rfl));intro gb432 hg w40 hbox hb;have n0_:=am (Kd.S_below (Kd.S_elderB (by(with_reducible repeat (first|apply Kd.S_alloc|apply Kd.S_drewN|apply Kd.S_drew));exact HO_58.out) gb432 (Nat.le_of_eq hg.symm)) hb);have n1_:=am (Kd.S_below (Kd.S_elderB (by(with_reducible repeat (first|apply Kd.S_alloc|apply Kd.S_drewN|apply Kd.S_drew));exact HO_414001.out) gb432 (Nat.le_of_eq hg.symm)) hb);have n2_:=am (Kd.S_below (Kd.S_elderB (by(with_reducible repeat (first|apply Kd.S_alloc|apply Kd.S_drewN|apply Kd.S_drew));exact HO_422001.out) gb432 (Nat.le_of_eq hg.symm)) hb);have n3_:=am (Kd.S_below (Kd.S_elderB (by(with_reducible repeat (first|apply Kd.S_alloc|apply Kd.S_drewN|apply Kd.S_drew));exact HO_430001.out) gb432 (Nat.le_of_eq hg.symm)) hb);have n4_:=am (Kd.R_below (bK HL431_0.out) hb);have n5_:=am (bM BK413.out hb);have n6_:=am (bM BK421.out hb);have n7_:=am (bM BK429.out hb);have n8_:=am (Kd.C_below (by repeat (first|(with_reducible exact HR431_0.out)|(with_reducible refine Kd.C_alloc ?_ _)|(with_reducible refine Kd.C_drewN ?_ _)|(with_reducible refine Kd.C_drew ?_)|exact HR431_0.out)) hb);have n9_:=am (below_step (bS3 GE413.out GE421.out GE429.out) hb);have n10_:=am (hbox);have n11_:=am ((by rw[hg];exact(below_size (bS3 GE413.out GE421.out GE429.out)):w.heap.size≤gb432));have n12_:=am ((by rw[hg];exact(below_size (bS3 GE413.out GE421.out GE429.out)):w.heap.size≤gb432));have n13_:=am ((bN BK413.out hg:gb413≠gb432));have n14_:=am ((bO BK413.out hg:gb432≠gb413));have n15_:=am ((bN BK421.out hg:gb421≠gb432));have n16_:=am ((bO BK421.out hg:gb432≠gb421));have n17_:=am ((bN BK429.out hg:gb429≠gb432));have n18_:=am ((bO BK429.out hg:gb432≠gb429));clear HO_58 HO_414001 HO_422001 HO_430001 HL431_0 BK413 BK421 BK429 HR431_0 HB;have HO_58:=n0_;have HO_414001:=n1_;have HO_422001:=n2_;have HO_430001:=n3_;have HL431_0:=n4_;have BK413:=n5_;have BK421:=n6_;have BK429:=n7_;have HR431_0:=n8_;have HB:=n9_;have BK432:=n10_;have GW432:=n11_;have GE432:=n12_;have NB413_432:=n13_;have NB432_413:=n14_;have NB421_432:=n15_;have NB432_421:=n16_;have NB429_432:=n17_;have NB432_429:=n18_;clear n0_ n1_ n2_ n3_ n4_ n5_ n6_ n7_ n8_ n9_ n10_ n11_ n12_ n13_ n14_ n15_ n16_ n17_ n18_;clear hb hbox hg;have hnb41:=NB432_413.out;have hnc41:=NB413_432.out;have hnb42:=NB432_421.out;have hnc42:=NB421_432.out;have hnb43:=NB432_429.out;have hnc43:=NB429_432.out;obtain⟨hcz44_0,hcz44_1,hcz44_2⟩:=cC3 BK432.out;obtain⟨hfz44_0,hfz44_1,hfz44_2⟩:=cF3 BK432.out;have hnb45:=NB421_413.out;have hnc45:=NB413_421.out;have hnb46:=NB421_429.out;have hnc46:=NB429_421.out;obtain⟨hcz47_0,hcz47_1,hcz47_2⟩:=cC3 BK421.out;obtain⟨hfz47_0,hfz47_1,hfz47_2⟩:=cF3 BK421.out)))
           go_loopg [68] k2 (fun kq v68 w' => ∃ (x68_3:Int),v68=.int .i64 x68_3∧Aside0 (laws_FnFair.l1 kq t412 x60_2 t415 (t415.length:Int) x60_2 t415 (t415.length:Int) x68_3 t407 t408 t411 t414 t415 t418 ((rd_T34 t415 x60_2).f0) ((rd_T34 t415 x60_2).f1) ((rd_T34 t415 x60_2).f2)=some r)∧Aside0 (kq≤k2)∧Aside0 (Kd.S k34 34 w' w.heap.size (fun k_=>some k_≠((.slice Ao10 t408.length co10):Value).ownBlock∧some k_≠((.slice Ao22 t423.length co22):Value).ownBlock∧k_≠gb432) (.slice (some ad431) t415.length co15) t415)∧Aside0 (Kd.S k34 34 w' w.heap.size (fun k_=>some k_≠((.slice Ao10 t408.length co10):Value).ownBlock∧some k_≠((.slice Ao22 t423.length co22):Value).ownBlock∧k_≠gb432) (.slice (some ad431) t415.length co15) t415)∧Aside0 (Kd.S k34 34 w' w.heap.size (fun k_=>some k_≠((.slice (some ad431) t415.length co15):Value).ownBlock∧some k_≠((.slice (some ad431) t415.length co15):Value).ownBlock∧some k_≠((.slice (some ad431) t415.length co15):Value).ownBlock∧some k_≠((.slice Ao22 t423.length co22):Value).ownBlock∧k_≠gb432) (.slice Ao10 t408.length co10) t408)∧Aside0 (Kd.S k34 34 w' w.heap.size (fun k_=>some k_≠((.slice Ao10 t408.length co10):Value).ownBlock∧some k_≠((.slice Ao22 t423.length co22):Value).ownBlock∧k_≠gb432) (.slice (some ad431) t415.length co15) t415)∧Aside0 (Kd.S k34 34 w' w.heap.size (fun k_=>some k_≠((.slice (some ad431) t415.length co15):Value).ownBlock∧some k_≠((.slice (some ad431) t415.length co15):Value).ownBlock∧some k_≠((.slice Ao10 t408.length co10):Value).ownBlock∧some k_≠((.slice (some ad431) t415.length co15):Value).ownBlock∧k_≠gb432) (.slice Ao22 t423.length co22) t423)∧Aside0 (w'.heap[gb413]?=some (.cells #[.int .i64 t407,(.slice Ao10 t408.length co10),.int .i64 t411] 25 (0,0)))∧Aside0 (w'.heap[gb421]?=some (.cells #[.int .i64 t414,(.slice (some ad431) t415.length co15),.int .i64 t418] 25 (0,0)))∧Aside0 (w'.heap[gb429]?=some (.cells #[.int .i64 t422,(.slice Ao22 t423.length co22),.int .i64 t426] 25 (0,0)))∧Aside0 (w'.heap[gb432]?=some (.cells #[(.slice A431_0 ((rd_T34 t415 x60_2).f0).length c431_0),.int .i64 ((rd_T34 t415 x60_2).f1),.int .i64 ((rd_T34 t415 x60_2).f2)] 34 (0,0)))∧Aside0 (Below w.heap.size w w'))
           case atStart=>exact⟨(0),(bR),H',⟨Nat.le_refl _⟩,⟨by(with_reducible repeat (first|apply Kd.S_alloc|apply Kd.S_drewN|apply Kd.S_drew));exact Kd.S_mono (Kd.S_far (p:=⟨gb432,2,none⟩) (Kd.S_far (p:=⟨gb432,1,none⟩) (Kd.S_far (p:=⟨gb432,0,none⟩) (Kd.S_mono HO_58.out (fun k_ hk=>(⟨hk,hk.2⟩:_∧k_≠gb432))) (fun _ hk=>hk.2) (.slice A431_0 ((rd_T34 t415 x60_2).f0).length c431_0)) (fun _ hk=>hk.2) (.int .i64 ((rd_T34 t415 x60_2).f1))) (fun _ hk=>hk.2) (.int .i64 ((rd_T34 t415 x60_2).f2))) (fun _ hk=>⟨hk.1.1.1,⟨hk.1.1.2,hk.1.2⟩⟩)⟩,⟨by(with_reducible repeat (first|apply Kd.S_alloc|apply Kd.S_drewN|apply Kd.S_drew));exact Kd.S_mono (Kd.S_far (p:=⟨gb432,2,none⟩) (Kd.S_far (p:=⟨gb432,1,none⟩) (Kd.S_far (p:=⟨gb432,0,none⟩) (Kd.S_mono HO_422001.out (fun k_ hk=>(⟨hk,hk.2⟩:_∧k_≠gb432))) (fun _ hk=>hk.2) (.slice A431_0 ((rd_T34 t415 x60_2).f0).length c431_0)) (fun _ hk=>hk.2) (.int .i64 ((rd_T34 t415 x60_2).f1))) (fun _ hk=>hk.2) (.int .i64 ((rd_T34 t415 x60_2).f2))) (fun _ hk=>⟨hk.1.1.1,⟨hk.1.1.2,hk.1.2⟩⟩)⟩,⟨by(with_reducible repeat (first|apply Kd.S_alloc|apply Kd.S_drewN|apply Kd.S_drew));exact Kd.S_mono (Kd.S_far (p:=⟨gb432,2,none⟩) (Kd.S_far (p:=⟨gb432,1,none⟩) (Kd.S_far (p:=⟨gb432,0,none⟩) (Kd.S_mono HO_414001.out (fun k_ hk=>(⟨hk,hk.2⟩:_∧k_≠gb432))) (fun _ hk=>hk.2) (.slice A431_0 ((rd_T34 t415 x60_2).f0).length c431_0)) (fun _ hk=>hk.2) (.int .i64 ((rd_T34 t415 x60_2).f1))) (fun _ hk=>hk.2) (.int .i64 ((rd_T34 t415 x60_2).f2))) (fun _ hk=>⟨hk.1.1.1,⟨hk.1.1.2.1,⟨hk.1.1.2.1,⟨hk.1.1.2.2,hk.1.2⟩⟩⟩⟩)⟩,⟨by(with_reducible repeat (first|apply Kd.S_alloc|apply Kd.S_drewN|apply Kd.S_drew));exact Kd.S_mono (Kd.S_far (p:=⟨gb432,2,none⟩) (Kd.S_far (p:=⟨gb432,1,none⟩) (Kd.S_far (p:=⟨gb432,0,none⟩) (Kd.S_mono HO_422001.out (fun k_ hk=>(⟨hk,hk.2⟩:_∧k_≠gb432))) (fun _ hk=>hk.2) (.slice A431_0 ((rd_T34 t415 x60_2).f0).length c431_0)) (fun _ hk=>hk.2) (.int .i64 ((rd_T34 t415 x60_2).f1))) (fun _ hk=>hk.2) (.int .i64 ((rd_T34 t415 x60_2).f2))) (fun _ hk=>⟨hk.1.1.1,⟨hk.1.1.2,hk.1.2⟩⟩)⟩,⟨by(with_reducible repeat (first|apply Kd.S_alloc|apply Kd.S_drewN|apply Kd.S_drew));exact Kd.S_mono (Kd.S_far (p:=⟨gb432,2,none⟩) (Kd.S_far (p:=⟨gb432,1,none⟩) (Kd.S_far (p:=⟨gb432,0,none⟩) (Kd.S_mono HO_430001.out (fun k_ hk=>(⟨hk,hk.2⟩:_∧k_≠gb432))) (fun _ hk=>hk.2) (.slice A431_0 ((rd_T34 t415 x60_2).f0).length c431_0)) (fun _ hk=>hk.2) (.int .i64 ((rd_T34 t415 x60_2).f1))) (fun _ hk=>hk.2) (.int .i64 ((rd_T34 t415 x60_2).f2))) (fun _ hk=>⟨hk.1.1.1,⟨hk.1.1.2.2,⟨hk.1.1.2.1,⟨hk.1.1.2.2,hk.1.2⟩⟩⟩⟩)⟩,⟨by(with_reducible repeat (first|refine blk_drewN ?_ _|refine blk_drew ?_|refine blk_alloc ?_ _));refine blk_far ?_ NB413_432.out _;(with_reducible repeat (first|refine blk_drewN ?_ _|refine blk_drew ?_|refine blk_alloc ?_ _));refine blk_far ?_ NB413_432.out _;(with_reducible repeat (first|refine blk_drewN ?_ _|refine blk_drew ?_|refine blk_alloc ?_ _));refine blk_far ?_ NB413_432.out _;(with_reducible repeat (first|refine blk_drewN ?_ _|refine blk_drew ?_|refine blk_alloc ?_ _));exact BK413.out⟩,⟨by(with_reducible repeat (first|refine blk_drewN ?_ _|refine blk_drew ?_|refine blk_alloc ?_ _));refine blk_far ?_ NB421_432.out _;(with_reducible repeat (first|refine blk_drewN ?_ _|refine blk_drew ?_|refine blk_alloc ?_ _));refine blk_far ?_ NB421_432.out _;(with_reducible repeat (first|refine blk_drewN ?_ _|refine blk_drew ?_|refine blk_alloc ?_ _));refine blk_far ?_ NB421_432.out _;(with_reducible repeat (first|refine blk_drewN ?_ _|refine blk_drew ?_|refine blk_alloc ?_ _));exact BK421.out⟩,⟨by(with_reducible repeat (first|refine blk_drewN ?_ _|refine blk_drew ?_|refine blk_alloc ?_ _));refine blk_far ?_ NB429_432.out _;(with_reducible repeat (first|refine blk_drewN ?_ _|refine blk_drew ?_|refine blk_alloc ?_ _));refine blk_far ?_ NB429_432.out _;(with_reducible repeat (first|refine blk_drewN ?_ _|refine blk_drew ?_|refine blk_alloc ?_ _));refine blk_far ?_ NB429_432.out _;(with_reducible repeat (first|refine blk_drewN ?_ _|refine blk_drew ?_|refine blk_alloc ?_ _));exact BK429.out⟩,⟨by(with_reducible repeat (first|refine blk_drewN ?_ _|refine blk_drew ?_|refine blk_alloc ?_ _));apply bU3;(with_reducible repeat (first|refine blk_drewN ?_ _|refine blk_drew ?_|refine blk_alloc ?_ _));exact BK432.out⟩,⟨bS4 GE413.out GE421.out GE429.out GE432.out⟩⟩
           case round =>
            clear H'
            try clear c1
            try clear c2
            try clear c2b0
            try clear c2b1
            try clear p2
            try clear c3
            try clear c4
            try clear p4
            try clear q4
            try clear hx4
            try clear c13
            try clear c19
            try clear c20
            try clear c23
            try clear c23b0
            try clear c23b1
            try clear c23b2
            try clear c24
            try clear c24b0
            try clear c24b1
            try clear c26
            try clear c27
            try clear c29
            try clear c32
            try clear c33
            try clear c34
            try clear c35
            try clear c37
            try clear c37b0
            try clear c38
            try clear c38b0
            try clear c39
            try clear c39b0
            try clear c41
            try clear c42
            try clear c43
            try clear p43
            try clear q43
            try clear hx43
            try clear c45
            try clear c46
            try clear hcz14_0 hcz14_1 hcz14_2
            try clear hcz16_0 hcz16_1 hcz16_2
            try clear hcz21_0 hcz21_1 hcz21_2
            try clear hcz28_0 hcz28_1 hcz28_2
            try clear hcz30_0 hcz30_1 hcz30_2
            try clear hcz36_0 hcz36_1 hcz36_2
            try clear hcz44_0 hcz44_1 hcz44_2
            try clear hcz47_0 hcz47_1 hcz47_2
            try clear hcz9_0 hcz9_1 hcz9_2
            try clear hfz14_0 hfz14_1 hfz14_2
            try clear hfz16_0 hfz16_1 hfz16_2
            try clear hfz21_0 hfz21_1 hfz21_2
            try clear hfz28_0 hfz28_1 hfz28_2
            try clear hfz30_0 hfz30_1 hfz30_2
            try clear hfz36_0 hfz36_1 hfz36_2
            try clear hfz44_0 hfz44_1 hfz44_2
            try clear hfz47_0 hfz47_1 hfz47_2
            try clear hfz9_0 hfz9_1 hfz9_2
            try clear hx431_0
            try clear hx431_1
            try clear hx431_2
            try clear p2
            try clear p431
            try clear q431
            obtain⟨x68_3,rfl,HA,HK3,HO_58,HO_66,HO_414001,HO_422001,HO_430001,BK413,BK421,BK429,BK432,HB⟩:=hrel
            cases gk with
            | zero=>exact absurd HA.out (by simp[laws_FnFair.l1])
            | succ k3 =>
             have H:=HA.out
             clear HA
             simp only[laws_FnFair.l1] at H
             by_cases c48:x68_3 < (t415.length:Int)
             ·rw[if_pos c48] at H
              have c48b0:decide (x68_3 < (t415.length:Int))=true:=decide_eq_true c48
              clear c48
              by_cases c49:0≤x68_3
              ·rw[if_pos c49] at H
               have c49b0:decide (0≤x68_3)=true:=decide_eq_true c49
               clear c49
               by_cases c50:x68_3 < (t415.length:Int)
               ·rw[if_pos c50] at H
                have c50b0:decide (x68_3 < (t415.length:Int))=true:=decide_eq_true c50
                clear c50
                have HC51:=am H
                clear H
                have p433:0≤(x68_3:Int):=bD_
                have q433:x68_3 < (t415.length:Int):=bD_
                obtain⟨ad433,A433_0,c433_0,e433,hx433_0,hx433_1,hx433_2,hl433_0,hi433_0⟩:=at_T34 (Kd.S_reads' HO_66.out).2.2 x68_3 p433 q433
                obtain rfl:ad431=ad433:=(by injection e433)
                obtain⟨ce433,hce433,hMe433,hcc433⟩:=Kd.S_get HO_66.out z34 x68_3 p433 (by first|exact q433|exact bD_|(have e_:=(Kd.S_reads' HO_66.out).1;omega))
                obtain⟨ve433_0,rfl,ge433_0⟩:=k34_openM hMe433
                have hv433_0:=hcc433 0 _ rfl
                rw[Nat.add_zero] at hv433_0
                replace hv433_0:=Option.some.inj (hv433_0.symm.trans hx433_0)
                rw[hv433_0] at ge433_0
                have HL433_0:=am (show Kd.R (Kd.int .i64) 3 _ _ _ _ ((rd_T34 t415 x68_3).f0) from ge433_0)
                clear hv433_0 ge433_0 hcc433 hce433
                have HR433_0:=am hi433_0
                have HC433_0:=am hl433_0
                clear hi433_0 hl433_0
                replace p433:=eq_true p433
                replace q433:=eq_true q433
                go_upto_region 16 with (first|((with_reducible refine gate_dst (N:=14) rfl ?_);(try (refine gate_guard (by rfl) ?_;dsimp only));refine box_event ?hg (N:=14) ?hd (cs:=#[.slice none 0 0,.int .i64 0,.int .i64 0]) (t:=34) ?hr ?_;(case hd=>rfl);(case hg=>rfl);(case hr=>first|(go_simp;done)|(go_simp;rfl));intro gb434 hg w52 hbox hb;have n0_:=am (Kd.S_below (Kd.S_elderB (by(with_reducible repeat (first|apply Kd.S_alloc|apply Kd.S_drewN|apply Kd.S_drew));exact HO_58.out) gb434 (Nat.le_of_eq hg.symm)) hb);have n1_:=am (Kd.S_below (Kd.S_elderB (by(with_reducible repeat (first|apply Kd.S_alloc|apply Kd.S_drewN|apply Kd.S_drew));exact HO_66.out) gb434 (Nat.le_of_eq hg.symm)) hb);have n2_:=am (Kd.S_below (Kd.S_elderB (by(with_reducible repeat (first|apply Kd.S_alloc|apply Kd.S_drewN|apply Kd.S_drew));exact HO_414001.out) gb434 (Nat.le_of_eq hg.symm)) hb);have n3_:=am (Kd.S_below (Kd.S_elderB (by(with_reducible repeat (first|apply Kd.S_alloc|apply Kd.S_drewN|apply Kd.S_drew));exact HO_422001.out) gb434 (Nat.le_of_eq hg.symm)) hb);have n4_:=am (Kd.S_below (Kd.S_elderB (by(with_reducible repeat (first|apply Kd.S_alloc|apply Kd.S_drewN|apply Kd.S_drew));exact HO_430001.out) gb434 (Nat.le_of_eq hg.symm)) hb);have n5_:=am (Kd.R_below (bK HL433_0.out) hb);have n6_:=am (bM BK413.out hb);have n7_:=am (bM BK421.out hb);have n8_:=am (bM BK429.out hb);have n9_:=am (bM BK432.out hb);have n10_:=am (Kd.C_below (by repeat (first|(with_reducible exact HR433_0.out)|(with_reducible refine Kd.C_alloc ?_ _)|(with_reducible refine Kd.C_drewN ?_ _)|(with_reducible refine Kd.C_drew ?_)|exact HR433_0.out)) hb);have n11_:=am (below_step (bS4 GE413.out GE421.out GE429.out GE432.out) hb);have n12_:=am (hbox);have n13_:=am ((by rw[hg];exact(below_size (bS4 GE413.out GE421.out GE429.out GE432.out)):w.heap.size≤gb434));have n14_:=am ((by rw[hg];exact(below_size (bS4 GE413.out GE421.out GE429.out GE432.out)):w.heap.size≤gb434));have n15_:=am ((bN BK413.out hg:gb413≠gb434));have n16_:=am ((bO BK413.out hg:gb434≠gb413));have n17_:=am ((bN BK421.out hg:gb421≠gb434));have n18_:=am ((bO BK421.out hg:gb434≠gb421));have n19_:=am ((bN BK429.out hg:gb429≠gb434));have n20_:=am ((bO BK429.out hg:gb434≠gb429));have n21_:=am ((bN BK432.out hg:gb432≠gb434));have n22_:=am ((bO BK432.out hg:gb434≠gb432));clear HO_58 HO_66 HO_414001 HO_422001 HO_430001 HL433_0 BK413 BK421 BK429 BK432 HR433_0 HB;have HO_58:=n0_;have HO_66:=n1_;have HO_414001:=n2_;have HO_422001:=n3_;have HO_430001:=n4_;have HL433_0:=n5_;have BK413:=n6_;have BK421:=n7_;have BK429:=n8_;have BK432:=n9_;have HR433_0:=n10_;have HB:=n11_;have BK434:=n12_;have GW434:=n13_;have GE434:=n14_;have NB413_434:=n15_;have NB434_413:=n16_;have NB421_434:=n17_;have NB434_421:=n18_;have NB429_434:=n19_;have NB434_429:=n20_;have NB432_434:=n21_;have NB434_432:=n22_;clear n0_ n1_ n2_ n3_ n4_ n5_ n6_ n7_ n8_ n9_ n10_ n11_ n12_ n13_ n14_ n15_ n16_ n17_ n18_ n19_ n20_ n21_ n22_;clear hb hbox hg;have hnb53:=NB434_413.out;have hnc53:=NB413_434.out;have hnb54:=NB434_421.out;have hnc54:=NB421_434.out;have hnb55:=NB434_429.out;have hnc55:=NB429_434.out;have hnb56:=NB434_432.out;have hnc56:=NB432_434.out;obtain⟨hcz57_0,hcz57_1,hcz57_2⟩:=cC3 BK434.out;obtain⟨hfz57_0,hfz57_1,hfz57_2⟩:=cF3 BK434.out))
                repeat (go_quiet (first|((with_reducible refine gate_dst (N:=14) rfl ?_);(try (refine gate_guard (by rfl) ?_;dsimp only));refine box_event ?hg (N:=14) ?hd (cs:=#[.slice none 0 0,.int .i64 0,.int .i64 0]) (t:=34) ?hr ?_;(case hd=>rfl);(case hg=>rfl);(case hr=>first|(go_simp;done)|(go_simp;rfl));intro gb434 hg w52 hbox hb;have n0_:=am (Kd.S_below (Kd.S_elderB (by(with_reducible repeat (first|apply Kd.S_alloc|apply Kd.S_drewN|apply Kd.S_drew));exact HO_58.out) gb434 (Nat.le_of_eq hg.symm)) hb);have n1_:=am (Kd.S_below (Kd.S_elderB (by(with_reducible repeat (first|apply Kd.S_alloc|apply Kd.S_drewN|apply Kd.S_drew));exact HO_66.out) gb434 (Nat.le_of_eq hg.symm)) hb);have n2_:=am (Kd.S_below (Kd.S_elderB (by(with_reducible repeat (first|apply Kd.S_alloc|apply Kd.S_drewN|apply Kd.S_drew));exact HO_414001.out) gb434 (Nat.le_of_eq hg.symm)) hb);have n3_:=am (Kd.S_below (Kd.S_elderB (by(with_reducible repeat (first|apply Kd.S_alloc|apply Kd.S_drewN|apply Kd.S_drew));exact HO_422001.out) gb434 (Nat.le_of_eq hg.symm)) hb);have n4_:=am (Kd.S_below (Kd.S_elderB (by(with_reducible repeat (first|apply Kd.S_alloc|apply Kd.S_drewN|apply Kd.S_drew));exact HO_430001.out) gb434 (Nat.le_of_eq hg.symm)) hb);have n5_:=am (Kd.R_below (bK HL433_0.out) hb);have n6_:=am (bM BK413.out hb);have n7_:=am (bM BK421.out hb);have n8_:=am (bM BK429.out hb);have n9_:=am (bM BK432.out hb);have n10_:=am (Kd.C_below (by repeat (first|(with_reducible exact HR433_0.out)|(with_reducible refine Kd.C_alloc ?_ _)|(with_reducible refine Kd.C_drewN ?_ _)|(with_reducible refine Kd.C_drew ?_)|exact HR433_0.out)) hb);have n11_:=am (below_step (bS4 GE413.out GE421.out GE429.out GE432.out) hb);have n12_:=am (hbox);have n13_:=am ((by rw[hg];exact(below_size (bS4 GE413.out GE421.out GE429.out GE432.out)):w.heap.size≤gb434));have n14_:=am ((by rw[hg];exact(below_size (bS4 GE413.out GE421.out GE429.out GE432.out)):w.heap.size≤gb434));have n15_:=am ((bN BK413.out hg:gb413≠gb434));have n16_:=am ((bO BK413.out hg:gb434≠gb413));have n17_:=am ((bN BK421.out hg:gb421≠gb434));have n18_:=am ((bO BK421.out hg:gb434≠gb421));have n19_:=am ((bN BK429.out hg:gb429≠gb434));have n20_:=am ((bO BK429.out hg:gb434≠gb429));have n21_:=am ((bN BK432.out hg:gb432≠gb434));have n22_:=am ((bO BK432.out hg:gb434≠gb432));clear HO_58 HO_66 HO_414001 HO_422001 HO_430001 HL433_0 BK413 BK421 BK429 BK432 HR433_0 HB;have HO_58:=n0_;have HO_66:=n1_;have HO_414001:=n2_;have HO_422001:=n3_;have HO_430001:=n4_;have HL433_0:=n5_;have BK413:=n6_;have BK421:=n7_;have BK429:=n8_;have BK432:=n9_;have HR433_0:=n10_;have HB:=n11_;have BK434:=n12_;have GW434:=n13_;have GE434:=n14_;have NB413_434:=n15_;have NB434_413:=n16_;have NB421_434:=n17_;have NB434_421:=n18_;have NB429_434:=n19_;have NB434_429:=n20_;have NB432_434:=n21_;have NB434_432:=n22_;clear n0_ n1_ n2_ n3_ n4_ n5_ n6_ n7_ n8_ n9_ n10_ n11_ n12_ n13_ n14_ n15_ n16_ n17_ n18_ n19_ n20_ n21_ n22_;clear hb hbox hg;have hnb53:=NB434_413.out;have hnc53:=NB413_434.out;have hnb54:=NB434_421.out;have hnc54:=NB421_434.out;have hnb55:=NB434_429.out;have hnc55:=NB429_434.out;have hnb56:=NB434_432.out;have hnc56:=NB432_434.out;obtain⟨hcz57_0,hcz57_1,hcz57_2⟩:=cC3 BK434.out;obtain⟨hfz57_0,hfz57_1,hfz57_2⟩:=cF3 BK434.out));go_upto_region 16 with (first|((with_reducible refine gate_dst (N:=14) rfl ?_);(try (refine gate_guard (by rfl) ?_;dsimp only));refine box_event ?hg (N:=14) ?hd (cs:=#[.slice none 0 0,.int .i64 0,.int .i64 0]) (t:=34) ?hr ?_;(case hd=>rfl);(case hg=>rfl);(case hr=>first|(go_simp;done)|(go_simp;rfl));intro gb434 hg w52 hbox hb;have n0_:=am (Kd.S_below (Kd.S_elderB (by(with_reducible repeat (first|apply Kd.S_alloc|apply Kd.S_drewN|apply Kd.S_drew));exact HO_58.out) gb434 (Nat.le_of_eq hg.symm)) hb);have n1_:=am (Kd.S_below (Kd.S_elderB (by(with_reducible repeat (first|apply Kd.S_alloc|apply Kd.S_drewN|apply Kd.S_drew));exact HO_66.out) gb434 (Nat.le_of_eq hg.symm)) hb);have n2_:=am (Kd.S_below (Kd.S_elderB (by(with_reducible repeat (first|apply Kd.S_alloc|apply Kd.S_drewN|apply Kd.S_drew));exact HO_414001.out) gb434 (Nat.le_of_eq hg.symm)) hb);have n3_:=am (Kd.S_below (Kd.S_elderB (by(with_reducible repeat (first|apply Kd.S_alloc|apply Kd.S_drewN|apply Kd.S_drew));exact HO_422001.out) gb434 (Nat.le_of_eq hg.symm)) hb);have n4_:=am (Kd.S_below (Kd.S_elderB (by(with_reducible repeat (first|apply Kd.S_alloc|apply Kd.S_drewN|apply Kd.S_drew));exact HO_430001.out) gb434 (Nat.le_of_eq hg.symm)) hb);have n5_:=am (Kd.R_below (bK HL433_0.out) hb);have n6_:=am (bM BK413.out hb);have n7_:=am (bM BK421.out hb);have n8_:=am (bM BK429.out hb);have n9_:=am (bM BK432.out hb);have n10_:=am (Kd.C_below (by repeat (first|(with_reducible exact HR433_0.out)|(with_reducible refine Kd.C_alloc ?_ _)|(with_reducible refine Kd.C_drewN ?_ _)|(with_reducible refine Kd.C_drew ?_)|exact HR433_0.out)) hb);have n11_:=am (below_step (bS4 GE413.out GE421.out GE429.out GE432.out) hb);have n12_:=am (hbox);have n13_:=am ((by rw[hg];exact(below_size (bS4 GE413.out GE421.out GE429.out GE432.out)):w.heap.size≤gb434));have n14_:=am ((by rw[hg];exact(below_size (bS4 GE413.out GE421.out GE429.out GE432.out)):w.heap.size≤gb434));have n15_:=am ((bN BK413.out hg:gb413≠gb434));have n16_:=am ((bO BK413.out hg:gb434≠gb413));have n17_:=am ((bN BK421.out hg:gb421≠gb434));have n18_:=am ((bO BK421.out hg:gb434≠gb421));have n19_:=am ((bN BK429.out hg:gb429≠gb434));have n20_:=am ((bO BK429.out hg:gb434≠gb429));have n21_:=am ((bN BK432.out hg:gb432≠gb434));have n22_:=am ((bO BK432.out hg:gb434≠gb432));clear HO_58 HO_66 HO_414001 HO_422001 HO_430001 HL433_0 BK413 BK421 BK429 BK432 HR433_0 HB;have HO_58:=n0_;have HO_66:=n1_;have HO_414001:=n2_;have HO_422001:=n3_;have HO_430001:=n4_;have HL433_0:=n5_;have BK413:=n6_;have BK421:=n7_;have BK429:=n8_;have BK432:=n9_;have HR433_0:=n10_;have HB:=n11_;have BK434:=n12_;have GW434:=n13_;have GE434:=n14_;have NB413_434:=n15_;have NB434_413:=n16_;have NB421_434:=n17_;have NB434_421:=n18_;have NB429_434:=n19_;have NB434_429:=n20_;have NB432_434:=n21_;have NB434_432:=n22_;clear n0_ n1_ n2_ n3_ n4_ n5_ n6_ n7_ n8_ n9_ n10_ n11_ n12_ n13_ n14_ n15_ n16_ n17_ n18_ n19_ n20_ n21_ n22_;clear hb hbox hg;have hnb53:=NB434_413.out;have hnc53:=NB413_434.out;have hnb54:=NB434_421.out;have hnc54:=NB421_434.out;have hnb55:=NB434_429.out;have hnc55:=NB429_434.out;have hnb56:=NB434_432.out;have hnc56:=NB432_434.out;obtain⟨hcz57_0,hcz57_1,hcz57_2⟩:=cC3 BK434.out;obtain⟨hfz57_0,hfz57_1,hfz57_2⟩:=cF3 BK434.out)))
                (try simp only[Act.put,zA,zB,zC])
                go_cut [82] (fun v82 wc => ∃ (kq:Nat) (x82_50:Bool),v82=.bool x82_50∧Aside0 (laws_FnFair.j3 kq t412 x60_2 x68_3 t415 (t415.length:Int) x60_2 t415 (t415.length:Int) x68_3 x82_50 t407 t408 t411 t414 t415 t418 ((rd_T34 t415 x60_2).f0) ((rd_T34 t415 x60_2).f1) ((rd_T34 t415 x60_2).f2) ((rd_T34 t415 x68_3).f0) ((rd_T34 t415 x68_3).f1) ((rd_T34 t415 x68_3).f2)=some r)∧Aside0 (kq≤k3)∧Aside0 (Kd.S k34 34 wc w.heap.size (fun k_=>some k_≠((.slice Ao10 t408.length co10):Value).ownBlock∧some k_≠((.slice Ao22 t423.length co22):Value).ownBlock∧k_≠gb432∧k_≠gb434) (.slice (some ad431) t415.length co15) t415)∧Aside0 (Kd.S k34 34 wc w.heap.size (fun k_=>some k_≠((.slice Ao10 t408.length co10):Value).ownBlock∧some k_≠((.slice Ao22 t423.length co22):Value).ownBlock∧k_≠gb432∧k_≠gb434) (.slice (some ad431) t415.length co15) t415)∧Aside0 (Kd.S k34 34 wc w.heap.size (fun k_=>some k_≠((.slice (some ad431) t415.length co15):Value).ownBlock∧some k_≠((.slice (some ad431) t415.length co15):Value).ownBlock∧some k_≠((.slice (some ad431) t415.length co15):Value).ownBlock∧some k_≠((.slice Ao22 t423.length co22):Value).ownBlock∧k_≠gb432∧k_≠gb434) (.slice Ao10 t408.length co10) t408)∧Aside0 (Kd.S k34 34 wc w.heap.size (fun k_=>some k_≠((.slice Ao10 t408.length co10):Value).ownBlock∧some k_≠((.slice Ao22 t423.length co22):Value).ownBlock∧k_≠gb432∧k_≠gb434) (.slice (some ad431) t415.length co15) t415)∧Aside0 (Kd.S k34 34 wc w.heap.size (fun k_=>some k_≠((.slice (some ad431) t415.length co15):Value).ownBlock∧some k_≠((.slice (some ad431) t415.length co15):Value).ownBlock∧some k_≠((.slice Ao10 t408.length co10):Value).ownBlock∧some k_≠((.slice (some ad431) t415.length co15):Value).ownBlock∧k_≠gb432∧k_≠gb434) (.slice Ao22 t423.length co22) t423)∧Aside0 (wc.heap[gb413]?=some (.cells #[.int .i64 t407,(.slice Ao10 t408.length co10),.int .i64 t411] 25 (0,0)))∧Aside0 (wc.heap[gb421]?=some (.cells #[.int .i64 t414,(.slice (some ad431) t415.length co15),.int .i64 t418] 25 (0,0)))∧Aside0 (wc.heap[gb429]?=some (.cells #[.int .i64 t422,(.slice Ao22 t423.length co22),.int .i64 t426] 25 (0,0)))∧Aside0 (wc.heap[gb432]?=some (.cells #[(.slice A431_0 ((rd_T34 t415 x60_2).f0).length c431_0),.int .i64 ((rd_T34 t415 x60_2).f1),.int .i64 ((rd_T34 t415 x60_2).f2)] 34 (0,0)))∧Aside0 (wc.heap[gb434]?=some (.cells #[(.slice A433_0 ((rd_T34 t415 x68_3).f0).length c433_0),.int .i64 ((rd_T34 t415 x68_3).f1),.int .i64 ((rd_T34 t415 x68_3).f2)] 34 (0,0)))∧Aside0 (Below w.heap.size w wc))
                case first =>
                 have H:=HC51.out
                 clear HC51
                 by_cases c58:(((rd_T34 t415 x60_2).f0).length:Int)=0
                 ·rw[if_pos c58] at H
                  have c58b0:((((rd_T34 t415 x60_2).f0).length:Int) == 0)=true:=beq_iff_eq.mpr c58
                  have c58b1:((((rd_T34 t415 x60_2).f0).length:Int) != 0)=false:=bne_eq_false_iff_eq.mpr c58
                  clear c58
                  (first|rw[c58b0]|(simp only[i64_w,i32_w];rw[c58b0])|skip)
                  have H':=am H
                  clear H
                  have hnb59:=NB432_413.out
                  have hnc59:=NB413_432.out
                  have hnb60:=NB432_421.out
                  have hnc60:=NB421_432.out
                  have hnb61:=NB432_429.out
                  have hnc61:=NB429_432.out
                  have hnb62:=NB432_434.out
                  have hnc62:=NB434_432.out
                  obtain⟨hcz63_0,hcz63_1,hcz63_2⟩:=cC3 BK432.out
                  obtain⟨hfz63_0,hfz63_1,hfz63_2⟩:=cF3 BK432.out
                  go_wp2
                  repeat (go_quiet (fail);try go_wp2)
                  go_meet
                  case rel=>exact⟨_,(true),(bR),H',⟨by have:=HJ5.out;have:=HK2.out;have:=HK3.out;first|omega|exact Nat.le_refl _⟩,⟨by(with_reducible repeat (first|apply Kd.S_alloc|apply Kd.S_drewN|apply Kd.S_drew));exact Kd.S_mono (Kd.S_far (p:=⟨gb434,2,none⟩) (Kd.S_far (p:=⟨gb434,1,none⟩) (Kd.S_far (p:=⟨gb434,0,none⟩) (Kd.S_mono HO_58.out (fun k_ hk=>(⟨hk,hk.2⟩:_∧k_≠gb434))) (fun _ hk=>hk.2) (.slice A433_0 ((rd_T34 t415 x68_3).f0).length c433_0)) (fun _ hk=>hk.2) (.int .i64 ((rd_T34 t415 x68_3).f1))) (fun _ hk=>hk.2) (.int .i64 ((rd_T34 t415 x68_3).f2))) (fun _ hk=>⟨hk.1.1.1,⟨hk.1.1.2.1,⟨hk.1.1.2.2,hk.1.2⟩⟩⟩)⟩,⟨by(with_reducible repeat (first|apply Kd.S_alloc|apply Kd.S_drewN|apply Kd.S_drew));exact Kd.S_mono (Kd.S_far (p:=⟨gb434,2,none⟩) (Kd.S_far (p:=⟨gb434,1,none⟩) (Kd.S_far (p:=⟨gb434,0,none⟩) (Kd.S_mono HO_66.out (fun k_ hk=>(⟨hk,hk.2⟩:_∧k_≠gb434))) (fun _ hk=>hk.2) (.slice A433_0 ((rd_T34 t415 x68_3).f0).length c433_0)) (fun _ hk=>hk.2) (.int .i64 ((rd_T34 t415 x68_3).f1))) (fun _ hk=>hk.2) (.int .i64 ((rd_T34 t415 x68_3).f2))) (fun _ hk=>⟨hk.1.1.1,⟨hk.1.1.2.1,⟨hk.1.1.2.2,hk.1.2⟩⟩⟩)⟩,⟨by(with_reducible repeat (first|apply Kd.S_alloc|apply Kd.S_drewN|apply Kd.S_drew));exact Kd.S_mono (Kd.S_far (p:=⟨gb434,2,none⟩) (Kd.S_far (p:=⟨gb434,1,none⟩) (Kd.S_far (p:=⟨gb434,0,none⟩) (Kd.S_mono HO_414001.out (fun k_ hk=>(⟨hk,hk.2⟩:_∧k_≠gb434))) (fun _ hk=>hk.2) (.slice A433_0 ((rd_T34 t415 x68_3).f0).length c433_0)) (fun _ hk=>hk.2) (.int .i64 ((rd_T34 t415 x68_3).f1))) (fun _ hk=>hk.2) (.int .i64 ((rd_T34 t415 x68_3).f2))) (fun _ hk=>⟨hk.1.1.1,⟨hk.1.1.2.1,⟨hk.1.1.2.2.1,⟨hk.1.1.2.2.2.1,⟨hk.1.1.2.2.2.2,hk.1.2⟩⟩⟩⟩⟩)⟩,⟨by(with_reducible repeat (first|apply Kd.S_alloc|apply Kd.S_drewN|apply Kd.S_drew));exact Kd.S_mono (Kd.S_far (p:=⟨gb434,2,none⟩) (Kd.S_far (p:=⟨gb434,1,none⟩) (Kd.S_far (p:=⟨gb434,0,none⟩) (Kd.S_mono HO_422001.out (fun k_ hk=>(⟨hk,hk.2⟩:_∧k_≠gb434))) (fun _ hk=>hk.2) (.slice A433_0 ((rd_T34 t415 x68_3).f0).length c433_0)) (fun _ hk=>hk.2) (.int .i64 ((rd_T34 t415 x68_3).f1))) (fun _ hk=>hk.2) (.int .i64 ((rd_T34 t415 x68_3).f2))) (fun _ hk=>⟨hk.1.1.1,⟨hk.1.1.2.1,⟨hk.1.1.2.2,hk.1.2⟩⟩⟩)⟩,⟨by(with_reducible repeat (first|apply Kd.S_alloc|apply Kd.S_drewN|apply Kd.S_drew));exact Kd.S_mono (Kd.S_far (p:=⟨gb434,2,none⟩) (Kd.S_far (p:=⟨gb434,1,none⟩) (Kd.S_far (p:=⟨gb434,0,none⟩) (Kd.S_mono HO_430001.out (fun k_ hk=>(⟨hk,hk.2⟩:_∧k_≠gb434))) (fun _ hk=>hk.2) (.slice A433_0 ((rd_T34 t415 x68_3).f0).length c433_0)) (fun _ hk=>hk.2) (.int .i64 ((rd_T34 t415 x68_3).f1))) (fun _ hk=>hk.2) (.int .i64 ((rd_T34 t415 x68_3).f2))) (fun _ hk=>⟨hk.1.1.1,⟨hk.1.1.2.1,⟨hk.1.1.2.2.1,⟨hk.1.1.2.2.2.1,⟨hk.1.1.2.2.2.2,hk.1.2⟩⟩⟩⟩⟩)⟩,⟨by(with_reducible repeat (first|refine blk_drewN ?_ _|refine blk_drew ?_|refine blk_alloc ?_ _));refine blk_far ?_ NB413_434.out _;(with_reducible repeat (first|refine blk_drewN ?_ _|refine blk_drew ?_|refine blk_alloc ?_ _));refine blk_far ?_ NB413_434.out _;(with_reducible repeat (first|refine blk_drewN ?_ _|refine blk_drew ?_|refine blk_alloc ?_ _));refine blk_far ?_ NB413_434.out _;(with_reducible repeat (first|refine blk_drewN ?_ _|refine blk_drew ?_|refine blk_alloc ?_ _));exact BK413.out⟩,⟨by(with_reducible repeat (first|refine blk_drewN ?_ _|refine blk_drew ?_|refine blk_alloc ?_ _));refine blk_far ?_ NB421_434.out _;(with_reducible repeat (first|refine blk_drewN ?_ _|refine blk_drew ?_|refine blk_alloc ?_ _));refine blk_far ?_ NB421_434.out _;(with_reducible repeat (first|refine blk_drewN ?_ _|refine blk_drew ?_|refine blk_alloc ?_ _));refine blk_far ?_ NB421_434.out _;(with_reducible repeat (first|refine blk_drewN ?_ _|refine blk_drew ?_|refine blk_alloc ?_ _));exact BK421.out⟩,⟨by(with_reducible repeat (first|refine blk_drewN ?_ _|refine blk_drew ?_|refine blk_alloc ?_ _));refine blk_far ?_ NB429_434.out _;(with_reducible repeat (first|refine blk_drewN ?_ _|refine blk_drew ?_|refine blk_alloc ?_ _));refine blk_far ?_ NB429_434.out _;(with_reducible repeat (first|refine blk_drewN ?_ _|refine blk_drew ?_|refine blk_alloc ?_ _));refine blk_far ?_ NB429_434.out _;(with_reducible repeat (first|refine blk_drewN ?_ _|refine blk_drew ?_|refine blk_alloc ?_ _));exact BK429.out⟩,⟨by(with_reducible repeat (first|refine blk_drewN ?_ _|refine blk_drew ?_|refine blk_alloc ?_ _));refine blk_far ?_ NB432_434.out _;(with_reducible repeat (first|refine blk_drewN ?_ _|refine blk_drew ?_|refine blk_alloc ?_ _));refine blk_far ?_ NB432_434.out _;(with_reducible repeat (first|refine blk_drewN ?_ _|refine blk_drew ?_|refine blk_alloc ?_ _));refine blk_far ?_ NB432_434.out _;(with_reducible repeat (first|refine blk_drewN ?_ _|refine blk_drew ?_|refine blk_alloc ?_ _));exact BK432.out⟩,⟨by(with_reducible repeat (first|refine blk_drewN ?_ _|refine blk_drew ?_|refine blk_alloc ?_ _));apply bU3;(with_reducible repeat (first|refine blk_drewN ?_ _|refine blk_drew ?_|refine blk_alloc ?_ _));exact BK434.out⟩,⟨bS5 GE413.out GE421.out GE429.out GE432.out GE434.out⟩⟩
                 ·rw[if_neg c58] at H
                  have c58b0:((((rd_T34 t415 x60_2).f0).length:Int) == 0)=false:=beq_eq_false_iff_ne.mpr c58
                  have c58b1:((((rd_T34 t415 x60_2).f0).length:Int) != 0)=true:=bne_iff_ne.mpr c58
                  have c58b2 : ¬ (((rd_T34 t415 x60_2).f0)=[]):=fun h_=>c58 (by rw[h_];rfl)
                  (first|rw[c58b0]|(simp only[i64_w,i32_w];rw[c58b0])|skip)
                  have H':=am H
                  clear H
                  have hnb64:=NB432_413.out
                  have hnc64:=NB413_432.out
                  have hnb65:=NB432_421.out
                  have hnc65:=NB421_432.out
                  have hnb66:=NB432_429.out
                  have hnc66:=NB429_432.out
                  have hnb67:=NB432_434.out
                  have hnc67:=NB434_432.out
                  obtain⟨hcz68_0,hcz68_1,hcz68_2⟩:=cC3 BK432.out
                  obtain⟨hfz68_0,hfz68_1,hfz68_2⟩:=cF3 BK432.out
                  have hnb69:=NB434_413.out
                  have hnc69:=NB413_434.out
                  have hnb70:=NB434_421.out
                  have hnc70:=NB421_434.out
                  have hnb71:=NB434_429.out
                  have hnc71:=NB429_434.out
                  obtain⟨hcz72_0,hcz72_1,hcz72_2⟩:=cC3 BK434.out
                  obtain⟨hfz72_0,hfz72_1,hfz72_2⟩:=cF3 BK434.out
                  go_wp2
                  repeat (go_quiet (fail);try go_wp2)
                  go_meet
                  case rel=>exact⟨_,(((((rd_T34 t415 x68_3).f0).length:Int) == 0)),(bR),H',⟨by have:=HJ5.out;have:=HK2.out;have:=HK3.out;first|omega|exact Nat.le_refl _⟩,⟨by(with_reducible repeat (first|apply Kd.S_alloc|apply Kd.S_drewN|apply Kd.S_drew));exact Kd.S_mono (Kd.S_far (p:=⟨gb434,2,none⟩) (Kd.S_far (p:=⟨gb434,1,none⟩) (Kd.S_far (p:=⟨gb434,0,none⟩) (Kd.S_mono HO_58.out (fun k_ hk=>(⟨hk,hk.2⟩:_∧k_≠gb434))) (fun _ hk=>hk.2) (.slice A433_0 ((rd_T34 t415 x68_3).f0).length c433_0)) (fun _ hk=>hk.2) (.int .i64 ((rd_T34 t415 x68_3).f1))) (fun _ hk=>hk.2) (.int .i64 ((rd_T34 t415 x68_3).f2))) (fun _ hk=>⟨hk.1.1.1,⟨hk.1.1.2.1,⟨hk.1.1.2.2,hk.1.2⟩⟩⟩)⟩,⟨by(with_reducible repeat (first|apply Kd.S_alloc|apply Kd.S_drewN|apply Kd.S_drew));exact Kd.S_mono (Kd.S_far (p:=⟨gb434,2,none⟩) (Kd.S_far (p:=⟨gb434,1,none⟩) (Kd.S_far (p:=⟨gb434,0,none⟩) (Kd.S_mono HO_66.out (fun k_ hk=>(⟨hk,hk.2⟩:_∧k_≠gb434))) (fun _ hk=>hk.2) (.slice A433_0 ((rd_T34 t415 x68_3).f0).length c433_0)) (fun _ hk=>hk.2) (.int .i64 ((rd_T34 t415 x68_3).f1))) (fun _ hk=>hk.2) (.int .i64 ((rd_T34 t415 x68_3).f2))) (fun _ hk=>⟨hk.1.1.1,⟨hk.1.1.2.1,⟨hk.1.1.2.2,hk.1.2⟩⟩⟩)⟩,⟨by(with_reducible repeat (first|apply Kd.S_alloc|apply Kd.S_drewN|apply Kd.S_drew));exact Kd.S_mono (Kd.S_far (p:=⟨gb434,2,none⟩) (Kd.S_far (p:=⟨gb434,1,none⟩) (Kd.S_far (p:=⟨gb434,0,none⟩) (Kd.S_mono HO_414001.out (fun k_ hk=>(⟨hk,hk.2⟩:_∧k_≠gb434))) (fun _ hk=>hk.2) (.slice A433_0 ((rd_T34 t415 x68_3).f0).length c433_0)) (fun _ hk=>hk.2) (.int .i64 ((rd_T34 t415 x68_3).f1))) (fun _ hk=>hk.2) (.int .i64 ((rd_T34 t415 x68_3).f2))) (fun _ hk=>⟨hk.1.1.1,⟨hk.1.1.2.1,⟨hk.1.1.2.2.1,⟨hk.1.1.2.2.2.1,⟨hk.1.1.2.2.2.2,hk.1.2⟩⟩⟩⟩⟩)⟩,⟨by(with_reducible repeat (first|apply Kd.S_alloc|apply Kd.S_drewN|apply Kd.S_drew));exact Kd.S_mono (Kd.S_far (p:=⟨gb434,2,none⟩) (Kd.S_far (p:=⟨gb434,1,none⟩) (Kd.S_far (p:=⟨gb434,0,none⟩) (Kd.S_mono HO_422001.out (fun k_ hk=>(⟨hk,hk.2⟩:_∧k_≠gb434))) (fun _ hk=>hk.2) (.slice A433_0 ((rd_T34 t415 x68_3).f0).length c433_0)) (fun _ hk=>hk.2) (.int .i64 ((rd_T34 t415 x68_3).f1))) (fun _ hk=>hk.2) (.int .i64 ((rd_T34 t415 x68_3).f2))) (fun _ hk=>⟨hk.1.1.1,⟨hk.1.1.2.1,⟨hk.1.1.2.2,hk.1.2⟩⟩⟩)⟩,⟨by(with_reducible repeat (first|apply Kd.S_alloc|apply Kd.S_drewN|apply Kd.S_drew));exact Kd.S_mono (Kd.S_far (p:=⟨gb434,2,none⟩) (Kd.S_far (p:=⟨gb434,1,none⟩) (Kd.S_far (p:=⟨gb434,0,none⟩) (Kd.S_mono HO_430001.out (fun k_ hk=>(⟨hk,hk.2⟩:_∧k_≠gb434))) (fun _ hk=>hk.2) (.slice A433_0 ((rd_T34 t415 x68_3).f0).length c433_0)) (fun _ hk=>hk.2) (.int .i64 ((rd_T34 t415 x68_3).f1))) (fun _ hk=>hk.2) (.int .i64 ((rd_T34 t415 x68_3).f2))) (fun _ hk=>⟨hk.1.1.1,⟨hk.1.1.2.1,⟨hk.1.1.2.2.1,⟨hk.1.1.2.2.2.1,⟨hk.1.1.2.2.2.2,hk.1.2⟩⟩⟩⟩⟩)⟩,⟨by(with_reducible repeat (first|refine blk_drewN ?_ _|refine blk_drew ?_|refine blk_alloc ?_ _));refine blk_far ?_ NB413_434.out _;(with_reducible repeat (first|refine blk_drewN ?_ _|refine blk_drew ?_|refine blk_alloc ?_ _));refine blk_far ?_ NB413_434.out _;(with_reducible repeat (first|refine blk_drewN ?_ _|refine blk_drew ?_|refine blk_alloc ?_ _));refine blk_far ?_ NB413_434.out _;(with_reducible repeat (first|refine blk_drewN ?_ _|refine blk_drew ?_|refine blk_alloc ?_ _));exact BK413.out⟩,⟨by(with_reducible repeat (first|refine blk_drewN ?_ _|refine blk_drew ?_|refine blk_alloc ?_ _));refine blk_far ?_ NB421_434.out _;(with_reducible repeat (first|refine blk_drewN ?_ _|refine blk_drew ?_|refine blk_alloc ?_ _));refine blk_far ?_ NB421_434.out _;(with_reducible repeat (first|refine blk_drewN ?_ _|refine blk_drew ?_|refine blk_alloc ?_ _));refine blk_far ?_ NB421_434.out _;(with_reducible repeat (first|refine blk_drewN ?_ _|refine blk_drew ?_|refine blk_alloc ?_ _));exact BK421.out⟩,⟨by(with_reducible repeat (first|refine blk_drewN ?_ _|refine blk_drew ?_|refine blk_alloc ?_ _));refine blk_far ?_ NB429_434.out _;(with_reducible repeat (first|refine blk_drewN ?_ _|refine blk_drew ?_|refine blk_alloc ?_ _));refine blk_far ?_ NB429_434.out _;(with_reducible repeat (first|refine blk_drewN ?_ _|refine blk_drew ?_|refine blk_alloc ?_ _));refine blk_far ?_ NB429_434.out _;(with_reducible repeat (first|refine blk_drewN ?_ _|refine blk_drew ?_|refine blk_alloc ?_ _));exact BK429.out⟩,⟨by(with_reducible repeat (first|refine blk_drewN ?_ _|refine blk_drew ?_|refine blk_alloc ?_ _));refine blk_far ?_ NB432_434.out _;(with_reducible repeat (first|refine blk_drewN ?_ _|refine blk_drew ?_|refine blk_alloc ?_ _));refine blk_far ?_ NB432_434.out _;(with_reducible repeat (first|refine blk_drewN ?_ _|refine blk_drew ?_|refine blk_alloc ?_ _));refine blk_far ?_ NB432_434.out _;(with_reducible repeat (first|refine blk_drewN ?_ _|refine blk_drew ?_|refine blk_alloc ?_ _));exact BK432.out⟩,⟨by(with_reducible repeat (first|refine blk_drewN ?_ _|refine blk_drew ?_|refine blk_alloc ?_ _));apply bU3;(with_reducible repeat (first|refine blk_drewN ?_ _|refine blk_drew ?_|refine blk_alloc ?_ _));exact BK434.out⟩,⟨bS5 GE413.out GE421.out GE429.out GE432.out GE434.out⟩⟩
                case rest =>
                 clear HC51
                 try clear c1
                 try clear c2
                 try clear c2b0
                 try clear c2b1
                 try clear p2
                 try clear c3
                 try clear c4
                 try clear p4
                 try clear q4
                 try clear hx4
                 try clear c5
                 try clear c6
                 try clear c7
                 try clear c13
                 try clear c19
                 try clear c20
                 try clear c23
                 try clear c23b0
                 try clear c23b1
                 try clear c23b2
                 try clear c24
                 try clear c24b0
                 try clear c24b1
                 try clear c26
                 try clear c27
                 try clear c29
                 try clear c32
                 try clear c33
                 try clear c34
                 try clear c35
                 try clear c37
                 try clear c37b0
                 try clear c38
                 try clear c38b0
                 try clear c39
                 try clear c39b0
                 try clear c41
                 try clear c42
                 try clear c43
                 try clear p43
                 try clear q43
                 try clear hx43
                 try clear c45
                 try clear c46
                 try clear c48
                 try clear c48b0
                 try clear c49
                 try clear c49b0
                 try clear c50
                 try clear c50b0
                 try clear c53
                 try clear c54
                 try clear c55
                 try clear c56
                 try clear c58
                 try clear c58b0
                 try clear c58b1
                 try clear c58b2
                 try clear c59
                 try clear c60
                 try clear c61
                 try clear c62
                 try clear c64
                 try clear c65
                 try clear c66
                 try clear c67
                 try clear c69
                 try clear c70
                 try clear c71
                 try clear hcz14_0 hcz14_1 hcz14_2
                 try clear hcz16_0 hcz16_1 hcz16_2
                 try clear hcz21_0 hcz21_1 hcz21_2
                 try clear hcz28_0 hcz28_1 hcz28_2
                 try clear hcz30_0 hcz30_1 hcz30_2
                 try clear hcz36_0 hcz36_1 hcz36_2
                 try clear hcz44_0 hcz44_1 hcz44_2
                 try clear hcz47_0 hcz47_1 hcz47_2
                 try clear hcz57_0 hcz57_1 hcz57_2
                 try clear hcz63_0 hcz63_1 hcz63_2
                 try clear hcz68_0 hcz68_1 hcz68_2
                 try clear hcz72_0 hcz72_1 hcz72_2
                 try clear hcz9_0 hcz9_1 hcz9_2
                 try clear hfz14_0 hfz14_1 hfz14_2
                 try clear hfz16_0 hfz16_1 hfz16_2
                 try clear hfz21_0 hfz21_1 hfz21_2
                 try clear hfz28_0 hfz28_1 hfz28_2
                 try clear hfz30_0 hfz30_1 hfz30_2
                 try clear hfz36_0 hfz36_1 hfz36_2
                 try clear hfz44_0 hfz44_1 hfz44_2
                 try clear hfz47_0 hfz47_1 hfz47_2
                 try clear hfz57_0 hfz57_1 hfz57_2
                 try clear hfz63_0 hfz63_1 hfz63_2
                 try clear hfz68_0 hfz68_1 hfz68_2
                 try clear hfz72_0 hfz72_1 hfz72_2
                 try clear hfz9_0 hfz9_1 hfz9_2
                 try clear hx431_0
                 try clear hx431_1
                 try clear hx431_2
                 try clear hx433_0
                 try clear hx433_1
                 try clear hx433_2
                 try clear p2
                 try clear p4
                 try clear p43
                 try clear p431
                 try clear p433
                 try clear q4
                 try clear q43
                 try clear q431
                 try clear q433
                 obtain⟨kq,x82_50,rfl,HA,HJ50,HO_58,HO_66,HO_414001,HO_422001,HO_430001,BK413,BK421,BK429,BK432,BK434,HB⟩:=hcut
                 cases kq with
                 | zero=>exact absurd HA.out (by simp[laws_FnFair.j3])
                 | succ kj50 =>
                  have H:=HA.out
                  clear HA
                  simp only[laws_FnFair.j3] at H
                  by_cases c73:x82_50=true
                  ·subst c73
                   have H1:(laws_FnFair.l1 kj50 t412 x60_2 t415 (t415.length:Int) x60_2 t415 (t415.length:Int) (wrap64 (x68_3+1)) t407 t408 t411 t414 t415 t418 ((rd_T34 t415 x60_2).f0) ((rd_T34 t415 x60_2).f1) ((rd_T34 t415 x60_2).f2))=some r:=by rw[if_pos rfl] at H;exact H
                   clear H
                   have H:=H1
                   clear H1
                   have H':=am H
                   clear H
                   go_wp2
                   repeat (go_quiet (fail);try go_wp2)
                   go_roundg kj50
                   case measure=>have:=HJ5.out;have:=HK2.out;have:=HK3.out;have:=HJ50.out;omega
                   case rel=>exact⟨(wrap64 (x68_3+1)),(bR),H',⟨by have:=HJ5.out;have:=HK2.out;have:=HK3.out;have:=HJ50.out;omega⟩,⟨by(with_reducible repeat (first|apply Kd.S_alloc|apply Kd.S_drewN|apply Kd.S_drew));exact Kd.S_mono HO_58.out (fun _ hk=>⟨hk.1,⟨hk.2.1,hk.2.2.1⟩⟩)⟩,⟨by(with_reducible repeat (first|apply Kd.S_alloc|apply Kd.S_drewN|apply Kd.S_drew));exact Kd.S_mono HO_66.out (fun _ hk=>⟨hk.1,⟨hk.2.1,hk.2.2.1⟩⟩)⟩,⟨by(with_reducible repeat (first|apply Kd.S_alloc|apply Kd.S_drewN|apply Kd.S_drew));exact Kd.S_mono HO_414001.out (fun _ hk=>⟨hk.1,⟨hk.2.1,⟨hk.2.2.1,⟨hk.2.2.2.1,hk.2.2.2.2.1⟩⟩⟩⟩)⟩,⟨by(with_reducible repeat (first|apply Kd.S_alloc|apply Kd.S_drewN|apply Kd.S_drew));exact Kd.S_mono HO_422001.out (fun _ hk=>⟨hk.1,⟨hk.2.1,hk.2.2.1⟩⟩)⟩,⟨by(with_reducible repeat (first|apply Kd.S_alloc|apply Kd.S_drewN|apply Kd.S_drew));exact Kd.S_mono HO_430001.out (fun _ hk=>⟨hk.1,⟨hk.2.1,⟨hk.2.2.1,⟨hk.2.2.2.1,hk.2.2.2.2.1⟩⟩⟩⟩)⟩,⟨by(with_reducible repeat (first|refine blk_drewN ?_ _|refine blk_drew ?_|refine blk_alloc ?_ _));exact BK413.out⟩,⟨by(with_reducible repeat (first|refine blk_drewN ?_ _|refine blk_drew ?_|refine blk_alloc ?_ _));exact BK421.out⟩,⟨by(with_reducible repeat (first|refine blk_drewN ?_ _|refine blk_drew ?_|refine blk_alloc ?_ _));exact BK429.out⟩,⟨by(with_reducible repeat (first|refine blk_drewN ?_ _|refine blk_drew ?_|refine blk_alloc ?_ _));exact BK432.out⟩,⟨bS5 GE413.out GE421.out GE429.out GE432.out GE434.out⟩⟩
                  ·replace c73:=Bool.eq_false_iff.mpr c73
                   subst c73
                   have H1:(if 0≤x60_2 then (if x60_2 < (t408.length:Int) then (if 0≤x68_3 then (if x68_3 < (t408.length:Int) then (if t412 > 0 then (if (wrap64 ((wrap64 (((rd_T34 t415 x60_2).f2) - ((rd_T34 t408 x60_2).f2))) - (wrap64 (((rd_T34 t415 x68_3).f2) - ((rd_T34 t408 x68_3).f2))))) > (wrap64 (50+((rd_T34 t408 x60_2).f1))) then (some false) else (if (wrap64 (((rd_T34 t415 x60_2).f2) - ((rd_T34 t408 x60_2).f2))) > (wrap64 ((wrap64 (t412 * t407))+((rd_T34 t408 x60_2).f1))) then (some false) else (laws_FnFair.l1 kj50 t412 x60_2 t415 (t415.length:Int) x60_2 t415 (t415.length:Int) (wrap64 (x68_3+1)) t407 t408 t411 t414 t415 t418 ((rd_T34 t415 x60_2).f0) ((rd_T34 t415 x60_2).f1) ((rd_T34 t415 x60_2).f2)))) else (laws_FnFair.l1 kj50 t412 x60_2 t415 (t415.length:Int) x60_2 t415 (t415.length:Int) (wrap64 (x68_3+1)) t407 t408 t411 t414 t415 t418 ((rd_T34 t415 x60_2).f0) ((rd_T34 t415 x60_2).f1) ((rd_T34 t415 x60_2).f2))) else (none)) else (none)) else (none)) else (none))=some r:=by rw[if_neg (show ¬ (false=true) by decide)] at H;exact H
                   clear H
                   have H:=H1
                   clear H1
                   by_cases c74:0≤x60_2
                   ·rw[if_pos c74] at H
                    have c74b0:decide (0≤x60_2)=true:=decide_eq_true c74
                    clear c74
                    by_cases c75:x60_2 < (t408.length:Int)
                    ·rw[if_pos c75] at H
                     have c75b0:decide (x60_2 < (t408.length:Int))=true:=decide_eq_true c75
                     clear c75
                     by_cases c76:0≤x68_3
                     ·rw[if_pos c76] at H
                      have c76b0:decide (0≤x68_3)=true:=decide_eq_true c76
                      clear c76
                      by_cases c77:x68_3 < (t408.length:Int)
                      ·rw[if_pos c77] at H
                       have c77b0:decide (x68_3 < (t408.length:Int))=true:=decide_eq_true c77
                       clear c77
                       by_cases c78:t412 > 0
                       ·rw[if_pos c78] at H
                        have c78b0:decide (0 < t412)=true:=decide_eq_true c78
                        clear c78
                        by_cases c79:(wrap64 ((wrap64 (((rd_T34 t415 x60_2).f2) - ((rd_T34 t408 x60_2).f2))) - (wrap64 (((rd_T34 t415 x68_3).f2) - ((rd_T34 t408 x68_3).f2))))) > (wrap64 (50+((rd_T34 t408 x60_2).f1)))
                        ·rw[if_pos c79] at H
                         have c79b0:decide ((wrap64 (50+((rd_T34 t408 x60_2).f1))) < (wrap64 ((wrap64 (((rd_T34 t415 x60_2).f2) - ((rd_T34 t408 x60_2).f2))) - (wrap64 (((rd_T34 t415 x68_3).f2) - ((rd_T34 t408 x68_3).f2))))))=true:=decide_eq_true c79
                         clear c79
                         exact Bool.noConfusion ((Option.some.inj H).trans HT.out)
                        ·rw[if_neg c79] at H
                         have c79b0:decide ((wrap64 (50+((rd_T34 t408 x60_2).f1))) < (wrap64 ((wrap64 (((rd_T34 t415 x60_2).f2) - ((rd_T34 t408 x60_2).f2))) - (wrap64 (((rd_T34 t415 x68_3).f2) - ((rd_T34 t408 x68_3).f2))))))=false:=decide_eq_false c79
                         clear c79
                         by_cases c80:(wrap64 (((rd_T34 t415 x60_2).f2) - ((rd_T34 t408 x60_2).f2))) > (wrap64 ((wrap64 (t412 * t407))+((rd_T34 t408 x60_2).f1)))
                         ·rw[if_pos c80] at H
                          have c80b0:decide ((wrap64 ((wrap64 (t412 * t407))+((rd_T34 t408 x60_2).f1))) < (wrap64 (((rd_T34 t415 x60_2).f2) - ((rd_T34 t408 x60_2).f2))))=true:=decide_eq_true c80
                          clear c80
                          exact Bool.noConfusion ((Option.some.inj H).trans HT.out)
                         ·rw[if_neg c80] at H
                          have c80b0:decide ((wrap64 ((wrap64 (t412 * t407))+((rd_T34 t408 x60_2).f1))) < (wrap64 (((rd_T34 t415 x60_2).f2) - ((rd_T34 t408 x60_2).f2))))=false:=decide_eq_false c80
                          clear c80
                          have H':=am H
                          clear H
                          have hnb81:=NB432_413.out
                          have hnc81:=NB413_432.out
                          have hnb82:=NB432_421.out
                          have hnc82:=NB421_432.out
                          have hnb83:=NB432_429.out
                          have hnc83:=NB429_432.out
                          have hnb84:=NB432_434.out
                          have hnc84:=NB434_432.out
                          obtain⟨hcz85_0,hcz85_1,hcz85_2⟩:=cC3 BK432.out
                          obtain⟨hfz85_0,hfz85_1,hfz85_2⟩:=cF3 BK432.out
                          have hnb86:=NB413_421.out
                          have hnc86:=NB421_413.out
                          have hnb87:=NB413_429.out
                          have hnc87:=NB429_413.out
                          have hnb88:=NB413_434.out
                          have hnc88:=NB434_413.out
                          obtain⟨hcz89_0,hcz89_1,hcz89_2⟩:=cC3 BK413.out
                          obtain⟨hfz89_0,hfz89_1,hfz89_2⟩:=cF3 BK413.out
                          have p435:0≤(x60_2:Int):=bD_
                          have q435:x60_2 < (t408.length:Int):=bD_
                          obtain⟨ad435,A435_0,c435_0,e435,hx435_0,hx435_1,hx435_2,hl435_0,hi435_0⟩:=at_T34 (Kd.S_reads' HO_414001.out).2.2 x60_2 p435 q435
                          cases e435
                          obtain⟨ce435,hce435,hMe435,hcc435⟩:=Kd.S_get HO_414001.out z34 x60_2 p435 (by first|exact q435|exact bD_|(have e_:=(Kd.S_reads' HO_414001.out).1;omega))
                          obtain⟨ve435_0,rfl,ge435_0⟩:=k34_openM hMe435
                          have hv435_0:=hcc435 0 _ rfl
                          rw[Nat.add_zero] at hv435_0
                          replace hv435_0:=Option.some.inj (hv435_0.symm.trans hx435_0)
                          rw[hv435_0] at ge435_0
                          have HL435_0:=am (show Kd.R (Kd.int .i64) 3 _ _ _ _ ((rd_T34 t408 x60_2).f0) from ge435_0)
                          clear hv435_0 ge435_0 hcc435 hce435
                          have HR435_0:=am hi435_0
                          have HC435_0:=am hl435_0
                          clear hi435_0 hl435_0
                          replace p435:=eq_true p435
                          replace q435:=eq_true q435
                          have hnb90:=NB434_421.out
                          have hnc90:=NB421_434.out
                          have hnb91:=NB434_429.out
                          have hnc91:=NB429_434.out
                          obtain⟨hcz92_0,hcz92_1,hcz92_2⟩:=cC3 BK434.out
                          obtain⟨hfz92_0,hfz92_1,hfz92_2⟩:=cF3 BK434.out
                          have p436:0≤(x68_3:Int):=bD_
                          have q436:x68_3 < (t408.length:Int):=bD_
                          obtain⟨ad436,A436_0,c436_0,e436,hx436_0,hx436_1,hx436_2,hl436_0,hi436_0⟩:=at_T34 (Kd.S_reads' HO_414001.out).2.2 x68_3 p436 q436
                          obtain rfl:ad435=ad436:=(by injection e436)
                          obtain⟨ce436,hce436,hMe436,hcc436⟩:=Kd.S_get HO_414001.out z34 x68_3 p436 (by first|exact q436|exact bD_|(have e_:=(Kd.S_reads' HO_414001.out).1;omega))
                          obtain⟨ve436_0,rfl,ge436_0⟩:=k34_openM hMe436
                          have hv436_0:=hcc436 0 _ rfl
                          rw[Nat.add_zero] at hv436_0
                          replace hv436_0:=Option.some.inj (hv436_0.symm.trans hx436_0)
                          rw[hv436_0] at ge436_0
                          have HL436_0:=am (show Kd.R (Kd.int .i64) 3 _ _ _ _ ((rd_T34 t408 x68_3).f0) from ge436_0)
                          clear hv436_0 ge436_0 hcc436 hce436
                          have HR436_0:=am hi436_0
                          have HC436_0:=am hl436_0
                          clear hi436_0 hl436_0
                          replace p436:=eq_true p436
                          replace q436:=eq_true q436
                          have p437:0≤(x60_2:Int):=bD_
                          have q437:x60_2 < (t408.length:Int):=bD_
                          obtain⟨ad437,A437_0,c437_0,e437,hx437_0,hx437_1,hx437_2,hl437_0,hi437_0⟩:=at_T34 (Kd.S_reads' HO_414001.out).2.2 x60_2 p437 q437
                          obtain rfl:ad435=ad437:=(by injection e437)
                          obtain⟨ce437,hce437,hMe437,hcc437⟩:=Kd.S_get HO_414001.out z34 x60_2 p437 (by first|exact q437|exact bD_|(have e_:=(Kd.S_reads' HO_414001.out).1;omega))
                          obtain⟨ve437_0,rfl,ge437_0⟩:=k34_openM hMe437
                          have hv437_0:=hcc437 0 _ rfl
                          rw[Nat.add_zero] at hv437_0
                          replace hv437_0:=Option.some.inj (hv437_0.symm.trans hx437_0)
                          rw[hv437_0] at ge437_0
                          have HL437_0:=am (show Kd.R (Kd.int .i64) 3 _ _ _ _ ((rd_T34 t408 x60_2).f0) from ge437_0)
                          clear hv437_0 ge437_0 hcc437 hce437
                          have HR437_0:=am hi437_0
                          have HC437_0:=am hl437_0
                          clear hi437_0 hl437_0
                          replace p437:=eq_true p437
                          replace q437:=eq_true q437
                          have ea_:=Option.some.inj (hx435_0.symm.trans hx437_0)
                          injection ea_ with ea_ en_ ec_
                          subst ea_
                          subst ec_
                          clear en_
                          have p438:0≤(x60_2:Int):=bD_
                          have q438:x60_2 < (t408.length:Int):=bD_
                          obtain⟨ad438,A438_0,c438_0,e438,hx438_0,hx438_1,hx438_2,hl438_0,hi438_0⟩:=at_T34 (Kd.S_reads' HO_414001.out).2.2 x60_2 p438 q438
                          obtain rfl:ad435=ad438:=(by injection e438)
                          obtain⟨ce438,hce438,hMe438,hcc438⟩:=Kd.S_get HO_414001.out z34 x60_2 p438 (by first|exact q438|exact bD_|(have e_:=(Kd.S_reads' HO_414001.out).1;omega))
                          obtain⟨ve438_0,rfl,ge438_0⟩:=k34_openM hMe438
                          have hv438_0:=hcc438 0 _ rfl
                          rw[Nat.add_zero] at hv438_0
                          replace hv438_0:=Option.some.inj (hv438_0.symm.trans hx438_0)
                          rw[hv438_0] at ge438_0
                          have HL438_0:=am (show Kd.R (Kd.int .i64) 3 _ _ _ _ ((rd_T34 t408 x60_2).f0) from ge438_0)
                          clear hv438_0 ge438_0 hcc438 hce438
                          have HR438_0:=am hi438_0
                          have HC438_0:=am hl438_0
                          clear hi438_0 hl438_0
                          replace p438:=eq_true p438
                          replace q438:=eq_true q438
                          have ea_:=Option.some.inj (hx435_0.symm.trans hx438_0)
                          injection ea_ with ea_ en_ ec_
                          subst ea_
                          subst ec_
                          clear en_
                          go_wp2
                          repeat (go_quiet (fail);try go_wp2)
                          go_roundg kj50
                          case measure=>have:=HJ5.out;have:=HK2.out;have:=HK3.out;have:=HJ50.out;omega
                          case rel=>exact⟨(wrap64 (x68_3+1)),(bR),H',⟨by have:=HJ5.out;have:=HK2.out;have:=HK3.out;have:=HJ50.out;omega⟩,⟨by(with_reducible repeat (first|apply Kd.S_alloc|apply Kd.S_drewN|apply Kd.S_drew));exact Kd.S_mono HO_58.out (fun _ hk=>⟨hk.1,⟨hk.2.1,hk.2.2.1⟩⟩)⟩,⟨by(with_reducible repeat (first|apply Kd.S_alloc|apply Kd.S_drewN|apply Kd.S_drew));exact Kd.S_mono HO_66.out (fun _ hk=>⟨hk.1,⟨hk.2.1,hk.2.2.1⟩⟩)⟩,⟨by(with_reducible repeat (first|apply Kd.S_alloc|apply Kd.S_drewN|apply Kd.S_drew));exact Kd.S_mono HO_414001.out (fun _ hk=>⟨hk.1,⟨hk.2.1,⟨hk.2.2.1,⟨hk.2.2.2.1,hk.2.2.2.2.1⟩⟩⟩⟩)⟩,⟨by(with_reducible repeat (first|apply Kd.S_alloc|apply Kd.S_drewN|apply Kd.S_drew));exact Kd.S_mono HO_422001.out (fun _ hk=>⟨hk.1,⟨hk.2.1,hk.2.2.1⟩⟩)⟩,⟨by(with_reducible repeat (first|apply Kd.S_alloc|apply Kd.S_drewN|apply Kd.S_drew));exact Kd.S_mono HO_430001.out (fun _ hk=>⟨hk.1,⟨hk.2.1,⟨hk.2.2.1,⟨hk.2.2.2.1,hk.2.2.2.2.1⟩⟩⟩⟩)⟩,⟨by(with_reducible repeat (first|refine blk_drewN ?_ _|refine blk_drew ?_|refine blk_alloc ?_ _));exact BK413.out⟩,⟨by(with_reducible repeat (first|refine blk_drewN ?_ _|refine blk_drew ?_|refine blk_alloc ?_ _));exact BK421.out⟩,⟨by(with_reducible repeat (first|refine blk_drewN ?_ _|refine blk_drew ?_|refine blk_alloc ?_ _));exact BK429.out⟩,⟨by(with_reducible repeat (first|refine blk_drewN ?_ _|refine blk_drew ?_|refine blk_alloc ?_ _));exact BK432.out⟩,⟨bS5 GE413.out GE421.out GE429.out GE432.out GE434.out⟩⟩
                       ·rw[if_neg c78] at H
                        have c78b0:decide (0 < t412)=false:=decide_eq_false c78
                        clear c78
                        have H':=am H
                        clear H
                        have hnb93:=NB432_413.out
                        have hnc93:=NB413_432.out
                        have hnb94:=NB432_421.out
                        have hnc94:=NB421_432.out
                        have hnb95:=NB432_429.out
                        have hnc95:=NB429_432.out
                        have hnb96:=NB432_434.out
                        have hnc96:=NB434_432.out
                        obtain⟨hcz97_0,hcz97_1,hcz97_2⟩:=cC3 BK432.out
                        obtain⟨hfz97_0,hfz97_1,hfz97_2⟩:=cF3 BK432.out
                        have hnb98:=NB413_421.out
                        have hnc98:=NB421_413.out
                        have hnb99:=NB413_429.out
                        have hnc99:=NB429_413.out
                        have hnb100:=NB413_434.out
                        have hnc100:=NB434_413.out
                        obtain⟨hcz101_0,hcz101_1,hcz101_2⟩:=cC3 BK413.out
                        obtain⟨hfz101_0,hfz101_1,hfz101_2⟩:=cF3 BK413.out
                        have p435:0≤(x60_2:Int):=bD_
                        have q435:x60_2 < (t408.length:Int):=bD_
                        obtain⟨ad435,A435_0,c435_0,e435,hx435_0,hx435_1,hx435_2,hl435_0,hi435_0⟩:=at_T34 (Kd.S_reads' HO_414001.out).2.2 x60_2 p435 q435
                        cases e435
                        obtain⟨ce435,hce435,hMe435,hcc435⟩:=Kd.S_get HO_414001.out z34 x60_2 p435 (by first|exact q435|exact bD_|(have e_:=(Kd.S_reads' HO_414001.out).1;omega))
                        obtain⟨ve435_0,rfl,ge435_0⟩:=k34_openM hMe435
                        have hv435_0:=hcc435 0 _ rfl
                        rw[Nat.add_zero] at hv435_0
                        replace hv435_0:=Option.some.inj (hv435_0.symm.trans hx435_0)
                        rw[hv435_0] at ge435_0
                        have HL435_0:=am (show Kd.R (Kd.int .i64) 3 _ _ _ _ ((rd_T34 t408 x60_2).f0) from ge435_0)
                        clear hv435_0 ge435_0 hcc435 hce435
                        have HR435_0:=am hi435_0
                        have HC435_0:=am hl435_0
                        clear hi435_0 hl435_0
                        replace p435:=eq_true p435
                        replace q435:=eq_true q435
                        have hnb102:=NB434_421.out
                        have hnc102:=NB421_434.out
                        have hnb103:=NB434_429.out
                        have hnc103:=NB429_434.out
                        obtain⟨hcz104_0,hcz104_1,hcz104_2⟩:=cC3 BK434.out
                        obtain⟨hfz104_0,hfz104_1,hfz104_2⟩:=cF3 BK434.out
                        have p436:0≤(x68_3:Int):=bD_
                        have q436:x68_3 < (t408.length:Int):=bD_
                        obtain⟨ad436,A436_0,c436_0,e436,hx436_0,hx436_1,hx436_2,hl436_0,hi436_0⟩:=at_T34 (Kd.S_reads' HO_414001.out).2.2 x68_3 p436 q436
                        obtain rfl:ad435=ad436:=(by injection e436)
                        obtain⟨ce436,hce436,hMe436,hcc436⟩:=Kd.S_get HO_414001.out z34 x68_3 p436 (by first|exact q436|exact bD_|(have e_:=(Kd.S_reads' HO_414001.out).1;omega))
                        obtain⟨ve436_0,rfl,ge436_0⟩:=k34_openM hMe436
                        have hv436_0:=hcc436 0 _ rfl
                        rw[Nat.add_zero] at hv436_0
                        replace hv436_0:=Option.some.inj (hv436_0.symm.trans hx436_0)
                        rw[hv436_0] at ge436_0
                        have HL436_0:=am (show Kd.R (Kd.int .i64) 3 _ _ _ _ ((rd_T34 t408 x68_3).f0) from ge436_0)
                        clear hv436_0 ge436_0 hcc436 hce436
                        have HR436_0:=am hi436_0
                        have HC436_0:=am hl436_0
                        clear hi436_0 hl436_0
                        replace p436:=eq_true p436
                        replace q436:=eq_true q436
                        go_wp2
                        repeat (go_quiet (fail);try go_wp2)
                        go_roundg kj50
                        case measure=>have:=HJ5.out;have:=HK2.out;have:=HK3.out;have:=HJ50.out;omega
                        case rel=>exact⟨(wrap64 (x68_3+1)),(bR),H',⟨by have:=HJ5.out;have:=HK2.out;have:=HK3.out;have:=HJ50.out;omega⟩,⟨by(with_reducible repeat (first|apply Kd.S_alloc|apply Kd.S_drewN|apply Kd.S_drew));exact Kd.S_mono HO_58.out (fun _ hk=>⟨hk.1,⟨hk.2.1,hk.2.2.1⟩⟩)⟩,⟨by(with_reducible repeat (first|apply Kd.S_alloc|apply Kd.S_drewN|apply Kd.S_drew));exact Kd.S_mono HO_66.out (fun _ hk=>⟨hk.1,⟨hk.2.1,hk.2.2.1⟩⟩)⟩,⟨by(with_reducible repeat (first|apply Kd.S_alloc|apply Kd.S_drewN|apply Kd.S_drew));exact Kd.S_mono HO_414001.out (fun _ hk=>⟨hk.1,⟨hk.2.1,⟨hk.2.2.1,⟨hk.2.2.2.1,hk.2.2.2.2.1⟩⟩⟩⟩)⟩,⟨by(with_reducible repeat (first|apply Kd.S_alloc|apply Kd.S_drewN|apply Kd.S_drew));exact Kd.S_mono HO_422001.out (fun _ hk=>⟨hk.1,⟨hk.2.1,hk.2.2.1⟩⟩)⟩,⟨by(with_reducible repeat (first|apply Kd.S_alloc|apply Kd.S_drewN|apply Kd.S_drew));exact Kd.S_mono HO_430001.out (fun _ hk=>⟨hk.1,⟨hk.2.1,⟨hk.2.2.1,⟨hk.2.2.2.1,hk.2.2.2.2.1⟩⟩⟩⟩)⟩,⟨by(with_reducible repeat (first|refine blk_drewN ?_ _|refine blk_drew ?_|refine blk_alloc ?_ _));exact BK413.out⟩,⟨by(with_reducible repeat (first|refine blk_drewN ?_ _|refine blk_drew ?_|refine blk_alloc ?_ _));exact BK421.out⟩,⟨by(with_reducible repeat (first|refine blk_drewN ?_ _|refine blk_drew ?_|refine blk_alloc ?_ _));exact BK429.out⟩,⟨by(with_reducible repeat (first|refine blk_drewN ?_ _|refine blk_drew ?_|refine blk_alloc ?_ _));exact BK432.out⟩,⟨bS5 GE413.out GE421.out GE429.out GE432.out GE434.out⟩⟩
                      ·rw[if_neg c77] at H
                       exact absurd H (by simp)
                     ·rw[if_neg c76] at H
                      exact absurd H (by simp)
                    ·rw[if_neg c75] at H
                     exact absurd H (by simp)
                   ·rw[if_neg c74] at H
                    exact absurd H (by simp)
               ·rw[if_neg c50] at H
                exact absurd H (by simp)
              ·rw[if_neg c49] at H
               exact absurd H (by simp)
             ·rw[if_neg c48] at H
              have c48b0:decide (x68_3 < (t415.length:Int))=false:=decide_eq_false c48
              clear c48
              have H':=am H
              clear H
              go_wp2
              repeat (go_quiet (fail);try go_wp2)
              go_roundg k3
              case measure=>have:=HJ5.out;have:=HK2.out;have:=HK3.out;omega
              case rel=>exact⟨(wrap64 (x60_2+1)),(bR),H',⟨by have:=HJ5.out;have:=HK2.out;have:=HK3.out;omega⟩,⟨by(with_reducible repeat (first|apply Kd.S_alloc|apply Kd.S_drewN|apply Kd.S_drew));exact Kd.S_mono HO_58.out (fun _ hk=>⟨hk.1,hk.2.1⟩)⟩,⟨by(with_reducible repeat (first|apply Kd.S_alloc|apply Kd.S_drewN|apply Kd.S_drew));exact Kd.S_mono HO_414001.out (fun _ hk=>⟨hk.1,⟨hk.2.2.1,hk.2.2.2.1⟩⟩)⟩,⟨by(with_reducible repeat (first|apply Kd.S_alloc|apply Kd.S_drewN|apply Kd.S_drew));exact Kd.S_mono HO_422001.out (fun _ hk=>⟨hk.1,hk.2.1⟩)⟩,⟨by(with_reducible repeat (first|apply Kd.S_alloc|apply Kd.S_drewN|apply Kd.S_drew));exact Kd.S_mono HO_430001.out (fun _ hk=>⟨hk.1,⟨hk.2.2.1,hk.2.2.2.1⟩⟩)⟩,⟨by(with_reducible repeat (first|refine blk_drewN ?_ _|refine blk_drew ?_|refine blk_alloc ?_ _));exact BK413.out⟩,⟨by(with_reducible repeat (first|refine blk_drewN ?_ _|refine blk_drew ?_|refine blk_alloc ?_ _));exact BK421.out⟩,⟨by(with_reducible repeat (first|refine blk_drewN ?_ _|refine blk_drew ?_|refine blk_alloc ?_ _));exact BK429.out⟩,⟨bS4 GE413.out GE421.out GE429.out GE432.out⟩⟩
          ·rw[if_neg c39] at H
           exact absurd H (by simp)
         ·rw[if_neg c38] at H
          exact absurd H (by simp)
        ·rw[if_neg c37] at H
         have c37b0:decide (x60_2 < (t415.length:Int))=false:=decide_eq_false c37
         clear c37
         obtain rfl:=Option.some.inj H
         have hnb105:=NB421_413.out
         have hnc105:=NB413_421.out
         have hnb106:=NB421_429.out
         have hnc106:=NB429_421.out
         obtain⟨hcz107_0,hcz107_1,hcz107_2⟩:=cC3 BK421.out
         obtain⟨hfz107_0,hfz107_1,hfz107_2⟩:=cF3 BK421.out
         have hnb108:=NB413_429.out
         have hnc108:=NB429_413.out
         obtain⟨hcz109_0,hcz109_1,hcz109_2⟩:=cC3 BK413.out
         obtain⟨hfz109_0,hfz109_1,hfz109_2⟩:=cF3 BK413.out
         go_wp2
         repeat (go_quiet (fail);try go_wp2)
         go_ret
         exact⟨bE,bS3 GE413.out GE421.out GE429.out⟩
     ·replace c33:=Bool.eq_false_iff.mpr c33
      subst c33
      have H1:(some (t419 == 0))=some r:=by rw[if_neg (show ¬ (false=true) by decide)] at H;exact H
      clear H
      have H:=H1
      clear H1
      obtain rfl:=Option.some.inj H
      go_wp2
      repeat (go_quiet (fail);try go_wp2)
      go_ret
      exact⟨bE,bS3 GE413.out GE421.out GE429.out⟩

end Go.Proofs.Ythghcoepkknkeaa.XFnFair
