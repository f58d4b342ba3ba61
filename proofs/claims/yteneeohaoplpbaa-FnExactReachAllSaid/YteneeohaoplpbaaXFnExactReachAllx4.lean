-- Written by this session's own program (wip/xprint.py) out of the translation; Lean checks it.
import Derived.Test.YteneeohaoplpbaaXFnExactReachAllx0
import Derived.Test.YteneeohaoplpbaaXFnExactReachAllx3
namespace Go.Proofs.Yteneeohaoplpbaa.XFnExactReachAll
open Go.RowKit Go.Proofs.YteneeohaoplpbaaW.PrintWords Go.Proofs.YteneeohaoplpbaaW.PrintLast Go.Proofs.YteneeohaoplpbaaW.PrintMore
attribute [local go_sem] max2_int min2_int max_two min_two max_three min_three max_four min_four   -- for this text's walks alone
set_option linter.unusedVariables false
set_option linter.unusedSimpArgs false

/-! ### spec_l6Search: function 158 -/
mutual
def spec_l6Search.l0:Nat→List (S104)→Int→Int→List Int→List Int→Int→Option (List Int × List Int)
 | 0,_,_,_,_,_,_=>none
 | k+1,x0,x1,x2,x8,x9,x10=>if x10 < 8 then (if x8.length < 17592186044416 then (if x9.length < 17592186044416 then (spec_l6Search.l0 k x0 x1 x2 (x8++[(-1)]) (x9++[(-1)]) (wrap64 (x10+1))) else (none)) else (none)) else (if 0≤x1 then (if x1 < (x8.length:Int) then (spec_l6Search.l1 k x0 (x8.set (x1:Int).toNat x2) x9) else (none)) else (none))
def spec_l6Search.l1:Nat→List (S104)→List Int→List Int→Option (List Int × List Int)
 | 0,_,_,_=>none
 | k+1,x0,x8,x9=>spec_l6Search.l2 k x0 x8 x9 (-1) 0 x0 (x0.length:Int) 0
def spec_l6Search.l2:Nat→List (S104)→List Int→List Int→Int→Int→List (S104)→Int→Int→Option (List Int × List Int)
 | 0,_,_,_,_,_,_,_,_=>none
 | k+1,x0,x8,x9,x11,x12,x30,x31,x32=>if x32 < x31 then (if 0≤x32 then (if x32 < (x30.length:Int) then (if 0≤((rd_T104 x30 x32).f0) then (if ((rd_T104 x30 x32).f0) < (x8.length:Int) then (if (rd x8 ((rd_T104 x30 x32).f0)) < 0 then (spec_l6Search.l2 k x0 x8 x9 x11 x12 x30 x31 (wrap64 (x32+1))) else ((spec_l6Over.f ((rd_T104 x30 x32).f0) ((rd_T104 x30 x32).f1) ((rd_T104 x30 x32).f2) ((rd_T104 x30 x32).f3) ((rd_T104 x30 x32).f4) (rd x8 ((rd_T104 x30 x32).f0))).bind fun t178=>(if t178 < 0 then (spec_l6Search.j3 k x0 x8 x9 x11 x12 x32 t178 x30 x31 x32 true) else (if 0≤((rd_T104 x30 x32).f1) then (if ((rd_T104 x30 x32).f1) < (x8.length:Int) then (if (rd x8 ((rd_T104 x30 x32).f1)) ≥ 0 then (spec_l6Search.j3 k x0 x8 x9 x11 x12 x32 t178 x30 x31 x32 (decide ((rd x8 ((rd_T104 x30 x32).f1))≤t178))) else (spec_l6Search.j3 k x0 x8 x9 x11 x12 x32 t178 x30 x31 x32 false)) else (none)) else (none))))) else (none)) else (none)) else (none)) else (none)) else (if x11 < 0 then (some (x8,x9)) else (if 0≤x11 then (if x11 < (x0.length:Int) then (if 0≤((rd_T104 x0 x11).f1) then (if ((rd_T104 x0 x11).f1) < (x8.length:Int) then (if ((rd_T104 x0 x11).f1) < (x9.length:Int) then (spec_l6Search.l1 k x0 (x8.set (((rd_T104 x0 x11).f1):Int).toNat x12) (x9.set (((rd_T104 x0 x11).f1):Int).toNat x11)) else (none)) else (none)) else (none)) else (none)) else (none)))
def spec_l6Search.j3:Nat→List (S104)→List Int→List Int→Int→Int→Int→Int→List (S104)→Int→Int→Bool→Option (List Int × List Int)
 | 0,_,_,_,_,_,_,_,_,_,_,_=>none
 | k+1,x0,x8,x9,x11,x12,x13,x15,x30,x31,x32,x68=>if x68=true then (spec_l6Search.l2 k x0 x8 x9 x11 x12 x30 x31 (wrap64 (x32+1))) else (if x11 < 0 then (spec_l6Search.l2 k x0 x8 x9 x13 x15 x30 x31 (wrap64 (x32+1))) else (if x15 < x12 then (spec_l6Search.l2 k x0 x8 x9 x13 x15 x30 x31 (wrap64 (x32+1))) else (spec_l6Search.l2 k x0 x8 x9 x11 x12 x30 x31 (wrap64 (x32+1)))))
end
def spec_l6Search.f (k:Nat) (l0:List (S104)) (a1:Int) (a2:Int):Option (List Int × List Int):=spec_l6Search.l0 k l0 a1 a2 ([]:List Int) ([]:List Int) 0
theorem spec_l6Search.mono_l : ∀ k,(∀ y0 y1 y2 y3 y4 y5,LeO (spec_l6Search.l0 k y0 y1 y2 y3 y4 y5) (spec_l6Search.l0 (k+1) y0 y1 y2 y3 y4 y5))∧(∀ y0 y1 y2,LeO (spec_l6Search.l1 k y0 y1 y2) (spec_l6Search.l1 (k+1) y0 y1 y2))∧(∀ y0 y1 y2 y3 y4 y5 y6 y7,LeO (spec_l6Search.l2 k y0 y1 y2 y3 y4 y5 y6 y7) (spec_l6Search.l2 (k+1) y0 y1 y2 y3 y4 y5 y6 y7))∧(∀ y0 y1 y2 y3 y4 y5 y6 y7 y8 y9 y10,LeO (spec_l6Search.j3 k y0 y1 y2 y3 y4 y5 y6 y7 y8 y9 y10) (spec_l6Search.j3 (k+1) y0 y1 y2 y3 y4 y5 y6 y7 y8 y9 y10))
 | 0=>⟨fun _ _ _ _ _ _ r h=>by simp[spec_l6Search.l0] at h,fun _ _ _ r h=>by simp[spec_l6Search.l1] at h,fun _ _ _ _ _ _ _ _ r h=>by simp[spec_l6Search.l2] at h,fun _ _ _ _ _ _ _ _ _ _ _ r h=>by simp[spec_l6Search.j3] at h⟩
 | k+1=>by
  obtain⟨ih0,ih1,ih2,ih3⟩:=spec_l6Search.mono_l k
  refine⟨?_,?_,?_,?_⟩
  ·intro y0 y1 y2 y3 y4 y5
   unfold spec_l6Search.l0
   repeat' first
   | (with_reducible exact ih0 _ _ _ _ _ _)
   | (with_reducible exact ih1 _ _ _)
   | (with_reducible exact ih2 _ _ _ _ _ _ _ _)
   | (with_reducible exact ih3 _ _ _ _ _ _ _ _ _ _ _)
   | (with_reducible exact LeO.refl _)
   | (with_reducible exact LeO.none _)
   | (with_reducible refine LeO.ite ?_ ?_)
   | (with_reducible refine LeO.bind ?_ (fun _ => ?_))
   | exact ih0 _ _ _ _ _ _
   | exact ih1 _ _ _
   | exact ih2 _ _ _ _ _ _ _ _
   | exact ih3 _ _ _ _ _ _ _ _ _ _ _
   | exact LeO.none _
   | refine LeO.ite ?_ ?_
   | refine LeO.bind ?_ (fun _ => ?_)
  ·intro y0 y1 y2
   unfold spec_l6Search.l1
   repeat' first
   | (with_reducible exact ih0 _ _ _ _ _ _)
   | (with_reducible exact ih1 _ _ _)
   | (with_reducible exact ih2 _ _ _ _ _ _ _ _)
   | (with_reducible exact ih3 _ _ _ _ _ _ _ _ _ _ _)
   | (with_reducible exact LeO.refl _)
   | (with_reducible exact LeO.none _)
   | (with_reducible refine LeO.ite ?_ ?_)
   | (with_reducible refine LeO.bind ?_ (fun _ => ?_))
   | exact ih0 _ _ _ _ _ _
   | exact ih1 _ _ _
   | exact ih2 _ _ _ _ _ _ _ _
   | exact ih3 _ _ _ _ _ _ _ _ _ _ _
   | exact LeO.none _
   | refine LeO.ite ?_ ?_
   | refine LeO.bind ?_ (fun _ => ?_)
  ·intro y0 y1 y2 y3 y4 y5 y6 y7
   unfold spec_l6Search.l2
   repeat' first
   | (with_reducible exact ih0 _ _ _ _ _ _)
   | (with_reducible exact ih1 _ _ _)
   | (with_reducible exact ih2 _ _ _ _ _ _ _ _)
   | (with_reducible exact ih3 _ _ _ _ _ _ _ _ _ _ _)
   | (with_reducible exact LeO.refl _)
   | (with_reducible exact LeO.none _)
   | (with_reducible refine LeO.ite ?_ ?_)
   | (with_reducible refine LeO.bind ?_ (fun _ => ?_))
   | exact ih0 _ _ _ _ _ _
   | exact ih1 _ _ _
   | exact ih2 _ _ _ _ _ _ _ _
   | exact ih3 _ _ _ _ _ _ _ _ _ _ _
   | exact LeO.none _
   | refine LeO.ite ?_ ?_
   | refine LeO.bind ?_ (fun _ => ?_)
  ·intro y0 y1 y2 y3 y4 y5 y6 y7 y8 y9 y10
   unfold spec_l6Search.j3
   repeat' first
   | (with_reducible exact ih0 _ _ _ _ _ _)
   | (with_reducible exact ih1 _ _ _)
   | (with_reducible exact ih2 _ _ _ _ _ _ _ _)
   | (with_reducible exact ih3 _ _ _ _ _ _ _ _ _ _ _)
   | (with_reducible exact LeO.refl _)
   | (with_reducible exact LeO.none _)
   | (with_reducible refine LeO.ite ?_ ?_)
   | (with_reducible refine LeO.bind ?_ (fun _ => ?_))
   | exact ih0 _ _ _ _ _ _
   | exact ih1 _ _ _
   | exact ih2 _ _ _ _ _ _ _ _
   | exact ih3 _ _ _ _ _ _ _ _ _ _ _
   | exact LeO.none _
   | refine LeO.ite ?_ ?_
   | refine LeO.bind ?_ (fun _ => ?_)
theorem spec_l6Search.mono : ∀ a0 a1 a2 k,LeO (spec_l6Search.f k a0 a1 a2) (spec_l6Search.f (k+1) a0 a1 a2):=by
 intro a0 a1 a2 k
 obtain⟨ih0,ih1,ih2,ih3⟩:=spec_l6Search.mono_l k
 unfold spec_l6Search.f
 repeat' first
  | (with_reducible exact ih0 _ _ _ _ _ _)
  | (with_reducible exact ih1 _ _ _)
  | (with_reducible exact ih2 _ _ _ _ _ _ _ _)
  | (with_reducible exact ih3 _ _ _ _ _ _ _ _ _ _ _)
  | (with_reducible exact LeO.refl _)
  | (with_reducible exact LeO.none _)
  | (with_reducible refine LeO.ite ?_ ?_)
  | (with_reducible refine LeO.bind ?_ (fun _ => ?_))
  | exact ih0 _ _ _ _ _ _
  | exact ih1 _ _ _
  | exact ih2 _ _ _ _ _ _ _ _
  | exact ih3 _ _ _ _ _ _ _ _ _ _ _
  | exact LeO.none _
  | refine LeO.ite ?_ ?_
  | refine LeO.bind ?_ (fun _ => ?_)
def spec_l6Search.T14:Bool × List (List Nat × List Nat):=(true,[([],[]),([],[]),([],[]),([2],[2]),([1,3],[1,3]),([4],[4]),([0,5],[0,5]),([6,6,0,1,2,3,4,5,6],[6])])
def spec_l6Search.B14:List Nat:=[0,0,0,4,14,30,63,127]
theorem spec_l6Search.tab14:rtab .any (opsOf Try.f158 14)=spec_l6Search.T14:=by kernel_rfl
theorem spec_l6Search.bits14:waitsOk spec_l6Search.T14.2 spec_l6Search.B14=true:=by kernel_rfl
set_option maxHeartbeats 8000000 in
set_option maxRecDepth 100000 in
theorem spec_l6Search.calls (k:Nat) (A0:Option Addr) (c0:Nat) (l0:List (S104)) (a1:Int) (a2:Int) (r1:List Int) (r2:List Int) (w:World) (hr0:Kd.C k104 w A0 l0.length l0) (hc0:l0.length≤c0) (h:spec_l6Search.f k l0 a1 a2=some (r1,r2)) :
  Calls Try.prog 158 #[.slice A0 l0.length c0,.int .i64 a1,.int .i64 a2] w fun e w' => ∃ v0_ v1_:Value,e=.returned (.tuple #[v0_,v1_])∧Kd.R (Kd.int .i64) 3 w' w.heap.size (fun k_=>some k_≠(v1_:Value).ownBlock) v0_ r1∧Kd.R (Kd.int .i64) 3 w' w.heap.size (fun k_=>some k_≠(v0_:Value).ownBlock) v1_ r2∧Below w.heap.size w w':=by
 have hu104:=Try.underlying104
 have HR0:=Aside0.mk hr0
 have HC0:=Aside0.mk hc0
 clear hr0 hc0
 have HB:=Aside0.mk (Below.refl w.heap.size w)
 have H:(spec_l6Search.l0 k l0 a1 a2 ([]:List Int) ([]:List Int) 0)=some (r1,r2):=h
 clear h
 have H':=Aside0.mk H
 clear H
 go_enter Try.func158,Try.ntmps158
 go_wp2
 go_loopg [8,9,10] k (fun kq v8 v9 v10 w' => ∃ (x8_1:List Int) (x9_1:List Int) (x10_1:Int),v10=.int .i64 x10_1∧Aside0 (spec_l6Search.l0 kq l0 a1 a2 x8_1 x9_1 x10_1=some (r1,r2))∧Aside0 (kq≤k)∧Aside0 (Kd.R (Kd.int .i64) 3 w' w.heap.size (fun k_=>some k_≠(v9:Value).ownBlock) v8 x8_1)∧Aside0 (Kd.R (Kd.int .i64) 3 w' w.heap.size (fun k_=>some k_≠(v8:Value).ownBlock) v9 x9_1)∧Aside0 (Below w.heap.size w w'))
 case atStart=>exact⟨(([]:List Int)),(([]:List Int)),(0),(bR),H',⟨Nat.le_refl _⟩,⟨by first|exact Kd.R_nil _ _ _ _ _|exact Kd.N_nil _ _ _ _ _|exact Kd.V_nil _ _ _ _ _|exact Kd.Q_nil _ _ _ _ _|exact Kd.S_nil _ _ _ _ _⟩,⟨by first|exact Kd.R_nil _ _ _ _ _|exact Kd.N_nil _ _ _ _ _|exact Kd.V_nil _ _ _ _ _|exact Kd.Q_nil _ _ _ _ _|exact Kd.S_nil _ _ _ _ _⟩,⟨by repeat (first|(with_reducible first|exact HB.out|apply below_alloc|apply pw_below_drewN|apply below_drew1)|exact HB.out)⟩⟩
 case round =>
  clear H'
  try clear c1
  try clear p2
  obtain⟨x8_1,x9_1,x10_1,rfl,HA,HK1,HO_8,HO_9,HB⟩:=hrel
  cases gk with
  | zero=>exact absurd HA.out (by simp[spec_l6Search.l0])
  | succ k1 =>
   have H:=HA.out
   clear HA
   simp only[spec_l6Search.l0] at H
   by_cases c4:x10_1 < 8
   ·rw[if_pos c4] at H
    have c4b0:decide (x10_1 < 8)=true:=decide_eq_true c4
    clear c4
    by_cases c5:x8_1.length < 17592186044416
    ·rw[if_pos c5] at H
     have LMc5:=Aside0.mk c5
     clear c5
     obtain⟨y163,hy163⟩ : ∃ y_:List Int,y_=(x8_1++[(-1)]):=⟨_,rfl⟩
     replace H:(if x9_1.length < 17592186044416 then (spec_l6Search.l0 k1 l0 a1 a2 y163 (x9_1++[(-1)]) (wrap64 (x10_1+1))) else (none))=some (r1,r2):=by first|(rw[hy163];with_reducible exact H)|(have H2_:=(Option.bind_some _ _).symm.trans H;rw[hy163];with_reducible exact H2_)|(have H2_:=(Option.bind_some _ _).symm.trans H;with_reducible exact H2_)|with_reducible exact H|(rw[hy163];exact H)|exact H
     have Ny163:=Aside0.mk hy163
     clear hy163
     by_cases c6:x9_1.length < 17592186044416
     ·rw[if_pos c6] at H
      have LMc6:=Aside0.mk c6
      clear c6
      obtain⟨y166,hy166⟩ : ∃ y_:List Int,y_=(x9_1++[(-1)]):=⟨_,rfl⟩
      replace H:(spec_l6Search.l0 k1 l0 a1 a2 y163 y166 (wrap64 (x10_1+1)))=some (r1,r2):=by first|(rw[hy166];with_reducible exact H)|(have H2_:=(Option.bind_some _ _).symm.trans H;rw[hy166];with_reducible exact H2_)|(have H2_:=(Option.bind_some _ _).symm.trans H;with_reducible exact H2_)|with_reducible exact H|(rw[hy166];exact H)|exact H
      have Ny166:=Aside0.mk hy166
      clear hy166
      have H':=Aside0.mk H
      clear H
      go_wp2_with (first|((with_reducible refine gate_builtin (b:=.append) (xs:=#[.tmp 20,.tmp 21]) rfl ?_);at_builtin;refine Kd.R_append (Kd.int .i64) (w0:=w) w.heap.size rfl (.tmp 20) (.tmp 21) 37 3 (.int .i64 0) 8 rfl Try.underlying37 info3 rfl (by decide) (by omega) u8 x8_1 (-1) [.int .i64 (-1)] (fun k_=>some k_≠(u9:Value).ownBlock) (fun _=>False) rfl rfl ?aP (fun _ hk=>hk.elim) ?aF ?aO ?aB ?aS ?aL ?_;(case aP=>exact rfl);(case aB=>exact(bB));(case aF=>exact(fun k_ hk=>Kd.fresh' (Kd.R_lt (bK HO_9.out)) k_ hk));(case aO=>exact(bK HO_8.out));(case aS=>exact(below_size (bB)));(case aL=>have:=LMc5.out;omega);intro v164 w7 ho hb hg hat;rw[← Ny163.out] at ho;have n0_:=Aside0.mk (Kd.R_after (ok:=(fun _=>True)) (by(with_reducible repeat (first|apply Kd.R_alloc|apply Kd.R_drewN|apply Kd.R_drew));exact Kd.R_mono HO_9.out (fun _ hk=>⟨trivial,hk⟩)) hg hat);have n1_:=Aside0.mk (hb);have n2_:=Aside0.mk (ho);clear HO_9 HB HO_8;have HO_9:=n0_;have HB:=n1_;have HO165:=n2_;clear n0_ n1_ n2_;clear ho hb hg hat)|((with_reducible refine gate_builtin (b:=.append) (xs:=#[.tmp 23,.tmp 24]) rfl ?_);at_builtin;refine Kd.R_append (Kd.int .i64) (w0:=w) w.heap.size rfl (.tmp 23) (.tmp 24) 37 3 (.int .i64 0) 8 rfl Try.underlying37 info3 rfl (by decide) (by omega) u9 x9_1 (-1) [.int .i64 (-1)] (fun k_=>some k_≠(v164:Value).ownBlock) (fun _=>False) rfl rfl ?aP (fun _ hk=>hk.elim) ?aF ?aO ?aB ?aS ?aL ?_;(case aP=>exact rfl);(case aB=>exact(bB));(case aF=>exact(fun k_ hk=>Kd.fresh' (Kd.R_lt (bK HO165.out)) k_ hk));(case aO=>exact(by(with_reducible repeat (first|apply Kd.R_alloc|apply Kd.R_drewN|apply Kd.R_drew));exact Kd.R_mono HO_9.out (fun _ hk=>hk.2)));(case aS=>exact(below_size (bB)));(case aL=>have:=LMc6.out;omega);intro v167 w8 ho hb hg hat;rw[← Ny166.out] at ho;have n0_:=Aside0.mk (Kd.R_after (ok:=(fun _=>True)) (by(with_reducible repeat (first|apply Kd.R_alloc|apply Kd.R_drewN|apply Kd.R_drew));exact Kd.R_mono HO165.out (fun _ hk=>⟨trivial,hk⟩)) hg hat);have n1_:=Aside0.mk (hb);have n2_:=Aside0.mk (ho);clear HO165 HB HO_9;have HO165:=n0_;have HB:=n1_;have HO168:=n2_;clear n0_ n1_ n2_;clear ho hb hg hat))
      go_roundg k1
      case measure=>have:=HK1.out;omega
      case rel=>exact⟨(y163),(y166),(wrap64 (x10_1+1)),(bR),H',⟨by have:=HK1.out;omega⟩,⟨by(with_reducible repeat (first|apply Kd.R_alloc|apply Kd.R_drewN|apply Kd.R_drew));exact Kd.R_mono HO165.out (fun _ hk=>hk.2)⟩,⟨by(with_reducible repeat (first|apply Kd.R_alloc|apply Kd.R_drewN|apply Kd.R_drew));exact HO168.out⟩,⟨by repeat (first|(with_reducible first|exact HB.out|apply below_alloc|apply pw_below_drewN|apply below_drew1)|exact HB.out)⟩⟩
     ·rw[if_neg c6] at H
      exact absurd H (by simp)
    ·rw[if_neg c5] at H
     exact absurd H (by simp)
   ·rw[if_neg c4] at H
    have c4b0:decide (x10_1 < 8)=false:=decide_eq_false c4
    clear c4
    by_cases c9:0≤a1
    ·rw[if_pos c9] at H
     have c9b0:decide (0≤a1)=true:=decide_eq_true c9
     clear c9
     by_cases c10:a1 < (x8_1.length:Int)
     ·rw[if_pos c10] at H
      have c10b0:decide (a1 < (x8_1.length:Int))=true:=decide_eq_true c10
      clear c10
      obtain⟨y169,hy169⟩ : ∃ y_:List Int,y_=(x8_1.set (a1:Int).toNat a2):=⟨_,rfl⟩
      replace H:(spec_l6Search.l1 k1 l0 y169 x9_1)=some (r1,r2):=by first|(rw[hy169];with_reducible exact H)|(have H2_:=(Option.bind_some _ _).symm.trans H;rw[hy169];with_reducible exact H2_)|(have H2_:=(Option.bind_some _ _).symm.trans H;with_reducible exact H2_)|with_reducible exact H|(rw[hy169];exact H)|exact H
      have Ny169:=Aside0.mk hy169
      clear hy169
      have H':=Aside0.mk H
      clear H
      have p11:0≤(a1:Int):=of_decide_eq_true (bD)
      have q11:(a1:Int) < ((x8_1.length:Int):Int):=of_decide_eq_true (bD)
      obtain⟨go11,co11,eo11,gb11,gl11,cl11,HG11⟩:=Kd.R_form HO_8.out (by omega)
      (first|cases eo11|(injection eo11 with ea_ en_ ec_;(first|subst ea_|(injection ea_ with ea_;subst ea_));subst ec_;clear en_))
      have GB11:=Aside0.mk gb11
      have GG11:=Aside0.mk HG11
      clear gb11 gl11 HG11
      obtain⟨hx11_0,hf11_0⟩:=Kd.R_celln 0 HO_8.out (a1:Int) p11 q11
      replace p11:=eq_true p11
      replace q11:=eq_true q11
      have HP12:=Kd.R_putg HO_8.out (a1:Int) a2
      go_wp2_with (first|((with_reducible refine gate_store (t:=3) (p:=29) rfl ?_);refine store_event (t:=3) (p:=29) (v:=?vo_w13) (w1:=(wr.setCell ⟨go11,(a1:Int).toNat,none⟩ (.int .i64 a2))) ?hg ?ho ?hn ?hr ?_;(case ho=>rfl);(case hg=>rfl);(case hn=>rfl);(case hr=>first|(go_simp;done)|(go_simp;rfl));intro w13 hw;have hg:wr.grownBy w13 (some go11):=(by rw[hw];exact HP12.2);have hp_:Kd.R (Kd.int .i64) 3 w13 w.heap.size (fun k_=>some k_≠(u9:Value).ownBlock) (.slice (some ⟨go11,0,none⟩) x8_1.length co11) y169:=(by rw[hw,Ny169.out];exact HP12.1);clear HP12;have n0_:=Aside0.mk (hp_);have n1_:=Aside0.mk (Kd.R_after (v:=(.slice (some ⟨go11,0,none⟩) x8_1.length co11)) (v1:=(.slice (some ⟨go11,0,none⟩) x8_1.length co11)) (ok:=(fun _=>True)) (by(with_reducible repeat (first|apply Kd.R_alloc|apply Kd.R_drewN|apply Kd.R_drew));exact Kd.R_mono HO_9.out (fun _ hk=>⟨trivial,hk⟩)) hg (.inl rfl));have n2_:=Aside0.mk ((by rw[hw];exact below_set (HB.out) GB11.out:Below w.heap.size w w13));clear HO_8 HO_9 HB;have HO_8:=n0_;have HO_9:=n1_;have HB:=n2_;clear n0_ n1_ n2_;clear hg hw hp_))
      go_loopg [] k1 (fun kq w' => ∃ (x8_2:List Int) (x9_2:List Int),Aside0 (spec_l6Search.l1 kq l0 x8_2 x9_2=some (r1,r2))∧Aside0 (kq≤k1)∧Aside0 (Kd.R (Kd.int .i64) 3 w' w.heap.size (fun k_=>some k_≠(u9:Value).ownBlock) (.slice (some ⟨go11,0,none⟩) x8_1.length co11) x8_2)∧Aside0 (Kd.R (Kd.int .i64) 3 w' w.heap.size (fun k_=>some k_≠((.slice (some ⟨go11,0,none⟩) x8_1.length co11):Value).ownBlock) u9 x9_2)∧Aside0 (Below w.heap.size w w'))
      case atStart=>exact⟨(y169),(x9_1),H',⟨Nat.le_refl _⟩,⟨by(with_reducible repeat (first|apply Kd.R_alloc|apply Kd.R_drewN|apply Kd.R_drew));exact HO_8.out⟩,⟨by(with_reducible repeat (first|apply Kd.R_alloc|apply Kd.R_drewN|apply Kd.R_drew));exact Kd.R_mono HO_9.out (fun _ hk=>hk.2)⟩,⟨by repeat (first|(with_reducible first|exact HB.out|apply below_alloc|apply pw_below_drewN|apply below_drew1)|exact HB.out)⟩⟩
      case round =>
       clear H'
       try clear c1
       try clear p1
       try clear q1
       try clear hx1
       try clear p2
       try clear c4
       try clear c4b0
       try clear c5
       try clear c6
       try clear p6
       try clear c9
       try clear c9b0
       try clear c10
       try clear c10b0
       try clear p11
       try clear q11
       try clear hx11
       try clear hf11
       try clear hx11_0
       try clear p11
       try clear p2
       try clear q11
       obtain⟨x8_2,x9_2,HA,HK2,HO_8,HO_9,HB⟩:=hrel
       have hl8_2:=(Kd.R_reads' HO_8.out).1
       rw[hl8_2] at HO_8
       (try simp only[hl8_2])
       (try simp only[hl8_2] at HO_9)
       cases gk with
       | zero=>exact absurd HA.out (by simp[spec_l6Search.l1])
       | succ k2 =>
        have H:=HA.out
        clear HA
        simp only[spec_l6Search.l1] at H
        have H':=Aside0.mk H
        clear H
        go_wp2
        go_loopg [11,12,32] k2 (fun kq v11 v12 v32 w' => ∃ (x11_3:Int) (x12_3:Int) (x32_3:Int),v11=.int .i64 x11_3∧v12=.int .i64 x12_3∧v32=.int .i64 x32_3∧Aside0 (spec_l6Search.l2 kq l0 x8_2 x9_2 x11_3 x12_3 l0 (l0.length:Int) x32_3=some (r1,r2))∧Aside0 (kq≤k2)∧Aside0 (Kd.R (Kd.int .i64) 3 w' w.heap.size (fun k_=>some k_≠(u9:Value).ownBlock) (.slice (some ⟨go11,0,none⟩) x8_2.length co11) x8_2)∧Aside0 (Kd.R (Kd.int .i64) 3 w' w.heap.size (fun k_=>some k_≠((.slice (some ⟨go11,0,none⟩) x8_2.length co11):Value).ownBlock) u9 x9_2)∧Aside0 (Below w.heap.size w w'))
        case atStart=>exact⟨((-1)),(0),(0),(bR),(bR),(bR),H',⟨Nat.le_refl _⟩,⟨by(try simp only[hl8_2]);(with_reducible repeat (first|apply Kd.R_alloc|apply Kd.R_drewN|apply Kd.R_drew));exact HO_8.out⟩,⟨by(try simp only[hl8_2]);(with_reducible repeat (first|apply Kd.R_alloc|apply Kd.R_drewN|apply Kd.R_drew));exact HO_9.out⟩,⟨by repeat (first|(with_reducible first|exact HB.out|apply below_alloc|apply pw_below_drewN|apply below_drew1)|exact HB.out)⟩⟩
        case round =>
         clear H'
         try clear c1
         try clear p1
         try clear q1
         try clear hx1
         try clear p2
         try clear c4
         try clear c4b0
         try clear c5
         try clear c6
         try clear p6
         try clear c9
         try clear c9b0
         try clear c10
         try clear c10b0
         try clear p11
         try clear q11
         try clear hx11
         try clear hf11
         try clear hx11_0
         try clear p1
         try clear p11
         try clear p2
         try clear p6
         try clear q1
         try clear q11
         obtain⟨x11_3,x12_3,x32_3,rfl,rfl,rfl,HA,HK3,HO_8,HO_9,HB⟩:=hrel
         cases gk with
         | zero=>exact absurd HA.out (by simp[spec_l6Search.l2])
         | succ k3 =>
          have H:=HA.out
          clear HA
          simp only[spec_l6Search.l2] at H
          by_cases c14:x32_3 < (l0.length:Int)
          ·rw[if_pos c14] at H
           have c14b0:decide (x32_3 < (l0.length:Int))=true:=decide_eq_true c14
           clear c14
           by_cases c15:0≤x32_3
           ·rw[if_pos c15] at H
            have c15b0:decide (0≤x32_3)=true:=decide_eq_true c15
            clear c15
            by_cases c16:x32_3 < (l0.length:Int)
            ·rw[if_pos c16] at H
             have c16b0:decide (x32_3 < (l0.length:Int))=true:=decide_eq_true c16
             clear c16
             by_cases c17:0≤((rd_T104 l0 x32_3).f0)
             ·rw[if_pos c17] at H
              have c17b0:decide (0≤((rd_T104 l0 x32_3).f0))=true:=decide_eq_true c17
              clear c17
              by_cases c18:((rd_T104 l0 x32_3).f0) < (x8_2.length:Int)
              ·rw[if_pos c18] at H
               have c18b0:decide (((rd_T104 l0 x32_3).f0) < (x8_2.length:Int))=true:=decide_eq_true c18
               clear c18
               by_cases c19:(rd x8_2 ((rd_T104 l0 x32_3).f0)) < 0
               ·rw[if_pos c19] at H
                have c19b0:decide ((rd x8_2 ((rd_T104 l0 x32_3).f0)) < 0)=true:=decide_eq_true c19
                clear c19
                have H':=Aside0.mk H
                clear H
                have p174:0≤(x32_3:Int):=of_decide_eq_true (bD)
                have q174:x32_3 < (l0.length:Int):=of_decide_eq_true (bD)
                obtain⟨ad174,e174,hx174_0,hx174_1,hx174_2,hx174_3,hx174_4⟩:=at_T104 HR0.out x32_3 p174 q174
                cases e174
                replace hx174_0:=(HB.out.cell (World.block_lt_of_cell? w _ hx174_0)).trans hx174_0
                replace hx174_1:=(HB.out.cell (World.block_lt_of_cell? w _ hx174_1)).trans hx174_1
                replace hx174_2:=(HB.out.cell (World.block_lt_of_cell? w _ hx174_2)).trans hx174_2
                replace hx174_3:=(HB.out.cell (World.block_lt_of_cell? w _ hx174_3)).trans hx174_3
                replace hx174_4:=(HB.out.cell (World.block_lt_of_cell? w _ hx174_4)).trans hx174_4
                replace p174:=eq_true p174
                replace q174:=eq_true q174
                go_wp2_with (first|((with_reducible refine gate_dst (N:=14) rfl ?_);refine box_event ?hg (N:=14) ?hd (cs:=#[.int .i64 0,.int .i64 0,.int .i64 0,.int .i64 0,.int .i64 0]) (t:=104) ?hr ?_;(case hd=>rfl);(case hg=>rfl);(case hr=>first|(go_simp;done)|(go_simp;rfl));intro gb175 hg w20 hbox hb;have n0_:=Aside0.mk (Kd.R_below (bK HO_8.out) hb);have n1_:=Aside0.mk (Kd.R_below (bK HO_9.out) hb);have n2_:=Aside0.mk (below_step (bB) hb);have n3_:=Aside0.mk (hbox);have n4_:=Aside0.mk ((bG:w.heap.size≤gb175));have n5_:=Aside0.mk ((bG:w.heap.size≤gb175));clear HO_8 HO_9 HB;have HO_8:=n0_;have HO_9:=n1_;have HB:=n2_;have BK175:=n3_;have GW175:=n4_;have GE175:=n5_;clear n0_ n1_ n2_ n3_ n4_ n5_;clear hb hbox hg;obtain⟨hcz21_0,hcz21_1,hcz21_2,hcz21_3,hcz21_4⟩:=cC5 BK175.out;obtain⟨hfz21_0,hfz21_1,hfz21_2,hfz21_3,hfz21_4⟩:=cF5 BK175.out;have p176:0≤(((rd_T104 l0 x32_3).f0):Int):=of_decide_eq_true (bD);have q176:((rd_T104 l0 x32_3).f0) < (x8_2.length:Int):=of_decide_eq_true (bD);obtain⟨ad176,e176,hx176_0⟩:=Kd.at_int (Kd.R_reads' HO_8.out).2.2 ((rd_T104 l0 x32_3).f0) p176 q176;obtain rfl:(⟨go11,0,none⟩:Addr)=ad176:=(by injection e176);(first|simp only[add_plain] at hx176_0|simp only[add_at] at hx176_0|simp only[Addr.add,Nat.zero_add] at hx176_0|skip);have hn176_0:(⟨go11,0,none⟩:Addr).block≠gb175:=Kd.own_blk (Kd.R_ne HO_8.out BK175.out (by decide));have hn176_1:(⟨go11,0,none⟩:Addr).block≠gb175:=Kd.own_blk (Kd.R_ne HO_8.out BK175.out (by decide));have hn176_2:(⟨go11,0,none⟩:Addr).block≠gb175:=Kd.own_blk (Kd.R_ne HO_8.out BK175.out (by decide));have hn176_3:(⟨go11,0,none⟩:Addr).block≠gb175:=Kd.own_blk (Kd.R_ne HO_8.out BK175.out (by decide));have hn176_4:(⟨go11,0,none⟩:Addr).block≠gb175:=Kd.own_blk (Kd.R_ne HO_8.out BK175.out (by decide));replace hx176_0:=(cell_far (p:=⟨gb175,0,none⟩) (bA hn176_0) (.int .i64 ((rd_T104 l0 x32_3).f0))).trans hx176_0;replace hx176_0:=(cell_far (p:=⟨gb175,1,none⟩) (bA hn176_1) (.int .i64 ((rd_T104 l0 x32_3).f1))).trans hx176_0;replace hx176_0:=(cell_far (p:=⟨gb175,2,none⟩) (bA hn176_2) (.int .i64 ((rd_T104 l0 x32_3).f2))).trans hx176_0;replace hx176_0:=(cell_far (p:=⟨gb175,3,none⟩) (bA hn176_3) (.int .i64 ((rd_T104 l0 x32_3).f3))).trans hx176_0;replace hx176_0:=(cell_far (p:=⟨gb175,4,none⟩) (bA hn176_4) (.int .i64 ((rd_T104 l0 x32_3).f4))).trans hx176_0;clear hn176_0 hn176_1 hn176_2 hn176_3 hn176_4;replace p176:=eq_true p176;replace q176:=eq_true q176))
                go_roundg k3
                case measure=>have:=HK1.out;have:=HK2.out;have:=HK3.out;omega
                case rel=>exact⟨(x11_3),(x12_3),(wrap64 (x32_3+1)),(bR),(bR),(bR),H',⟨by have:=HK1.out;have:=HK2.out;have:=HK3.out;omega⟩,⟨by(try simp only[hl8_2]);(with_reducible repeat (first|apply Kd.R_alloc|apply Kd.R_drewN|apply Kd.R_drew));exact Kd.R_mono (Kd.R_far (p:=⟨gb175,4,none⟩) (Kd.R_far (p:=⟨gb175,3,none⟩) (Kd.R_far (p:=⟨gb175,2,none⟩) (Kd.R_far (p:=⟨gb175,1,none⟩) (Kd.R_far (p:=⟨gb175,0,none⟩) (Kd.R_types HO_8.out BK175.out (by decide)) (fun _ hk=>hk.2) (.int .i64 ((rd_T104 l0 x32_3).f0))) (fun _ hk=>hk.2) (.int .i64 ((rd_T104 l0 x32_3).f1))) (fun _ hk=>hk.2) (.int .i64 ((rd_T104 l0 x32_3).f2))) (fun _ hk=>hk.2) (.int .i64 ((rd_T104 l0 x32_3).f3))) (fun _ hk=>hk.2) (.int .i64 ((rd_T104 l0 x32_3).f4))) (fun _ hk=>hk.1)⟩,⟨by(try simp only[hl8_2]);(with_reducible repeat (first|apply Kd.R_alloc|apply Kd.R_drewN|apply Kd.R_drew));exact Kd.R_mono (Kd.R_far (p:=⟨gb175,4,none⟩) (Kd.R_far (p:=⟨gb175,3,none⟩) (Kd.R_far (p:=⟨gb175,2,none⟩) (Kd.R_far (p:=⟨gb175,1,none⟩) (Kd.R_far (p:=⟨gb175,0,none⟩) (Kd.R_types HO_9.out BK175.out (by decide)) (fun _ hk=>hk.2) (.int .i64 ((rd_T104 l0 x32_3).f0))) (fun _ hk=>hk.2) (.int .i64 ((rd_T104 l0 x32_3).f1))) (fun _ hk=>hk.2) (.int .i64 ((rd_T104 l0 x32_3).f2))) (fun _ hk=>hk.2) (.int .i64 ((rd_T104 l0 x32_3).f3))) (fun _ hk=>hk.2) (.int .i64 ((rd_T104 l0 x32_3).f4))) (fun _ hk=>hk.1)⟩,⟨bS GE175.out⟩⟩
               ·rw[if_neg c19] at H
                have c19b0:decide ((rd x8_2 ((rd_T104 l0 x32_3).f0)) < 0)=false:=decide_eq_false c19
                clear c19
                replace H:=Option.bind_eq_some_iff.mp H
                obtain⟨t178,A220,H⟩:=H
                replace H:(if t178 < 0 then (spec_l6Search.j3 k3 l0 x8_2 x9_2 x11_3 x12_3 x32_3 t178 l0 (l0.length:Int) x32_3 true) else (if 0≤((rd_T104 l0 x32_3).f1) then (if ((rd_T104 l0 x32_3).f1) < (x8_2.length:Int) then (if (rd x8_2 ((rd_T104 l0 x32_3).f1)) ≥ 0 then (spec_l6Search.j3 k3 l0 x8_2 x9_2 x11_3 x12_3 x32_3 t178 l0 (l0.length:Int) x32_3 (decide ((rd x8_2 ((rd_T104 l0 x32_3).f1))≤t178))) else (spec_l6Search.j3 k3 l0 x8_2 x9_2 x11_3 x12_3 x32_3 t178 l0 (l0.length:Int) x32_3 false)) else (none)) else (none)))=some (r1,r2):=H
                have A22:=Aside0.mk A220
                clear A220
                have HC23:=Aside0.mk H
                clear H
                have p174:0≤(x32_3:Int):=of_decide_eq_true (bD)
                have q174:x32_3 < (l0.length:Int):=of_decide_eq_true (bD)
                obtain⟨ad174,e174,hx174_0,hx174_1,hx174_2,hx174_3,hx174_4⟩:=at_T104 HR0.out x32_3 p174 q174
                cases e174
                replace hx174_0:=(HB.out.cell (World.block_lt_of_cell? w _ hx174_0)).trans hx174_0
                replace hx174_1:=(HB.out.cell (World.block_lt_of_cell? w _ hx174_1)).trans hx174_1
                replace hx174_2:=(HB.out.cell (World.block_lt_of_cell? w _ hx174_2)).trans hx174_2
                replace hx174_3:=(HB.out.cell (World.block_lt_of_cell? w _ hx174_3)).trans hx174_3
                replace hx174_4:=(HB.out.cell (World.block_lt_of_cell? w _ hx174_4)).trans hx174_4
                replace p174:=eq_true p174
                replace q174:=eq_true q174
                try go_wp2_with (first|((with_reducible refine gate_dst (N:=14) rfl ?_);refine box_event ?hg (N:=14) ?hd (cs:=#[.int .i64 0,.int .i64 0,.int .i64 0,.int .i64 0,.int .i64 0]) (t:=104) ?hr ?_;(case hd=>rfl);(case hg=>rfl);(case hr=>first|(go_simp;done)|(go_simp;rfl));intro gb175 hg w24 hbox hb;have n0_:=Aside0.mk (Kd.R_below (bK HO_8.out) hb);have n1_:=Aside0.mk (Kd.R_below (bK HO_9.out) hb);have n2_:=Aside0.mk (below_step (bB) hb);have n3_:=Aside0.mk (hbox);have n4_:=Aside0.mk ((bG:w.heap.size≤gb175));have n5_:=Aside0.mk ((bG:w.heap.size≤gb175));clear HO_8 HO_9 HB;have HO_8:=n0_;have HO_9:=n1_;have HB:=n2_;have BK175:=n3_;have GW175:=n4_;have GE175:=n5_;clear n0_ n1_ n2_ n3_ n4_ n5_;clear hb hbox hg;obtain⟨hcz25_0,hcz25_1,hcz25_2,hcz25_3,hcz25_4⟩:=cC5 BK175.out;obtain⟨hfz25_0,hfz25_1,hfz25_2,hfz25_3,hfz25_4⟩:=cF5 BK175.out;have p176:0≤(((rd_T104 l0 x32_3).f0):Int):=of_decide_eq_true (bD);have q176:((rd_T104 l0 x32_3).f0) < (x8_2.length:Int):=of_decide_eq_true (bD);obtain⟨ad176,e176,hx176_0⟩:=Kd.at_int (Kd.R_reads' HO_8.out).2.2 ((rd_T104 l0 x32_3).f0) p176 q176;obtain rfl:(⟨go11,0,none⟩:Addr)=ad176:=(by injection e176);(first|simp only[add_plain] at hx176_0|simp only[add_at] at hx176_0|simp only[Addr.add,Nat.zero_add] at hx176_0|skip);have hn176_0:(⟨go11,0,none⟩:Addr).block≠gb175:=Kd.own_blk (Kd.R_ne HO_8.out BK175.out (by decide));have hn176_1:(⟨go11,0,none⟩:Addr).block≠gb175:=Kd.own_blk (Kd.R_ne HO_8.out BK175.out (by decide));have hn176_2:(⟨go11,0,none⟩:Addr).block≠gb175:=Kd.own_blk (Kd.R_ne HO_8.out BK175.out (by decide));have hn176_3:(⟨go11,0,none⟩:Addr).block≠gb175:=Kd.own_blk (Kd.R_ne HO_8.out BK175.out (by decide));have hn176_4:(⟨go11,0,none⟩:Addr).block≠gb175:=Kd.own_blk (Kd.R_ne HO_8.out BK175.out (by decide));replace hx176_0:=(cell_far (p:=⟨gb175,0,none⟩) (bA hn176_0) (.int .i64 ((rd_T104 l0 x32_3).f0))).trans hx176_0;replace hx176_0:=(cell_far (p:=⟨gb175,1,none⟩) (bA hn176_1) (.int .i64 ((rd_T104 l0 x32_3).f1))).trans hx176_0;replace hx176_0:=(cell_far (p:=⟨gb175,2,none⟩) (bA hn176_2) (.int .i64 ((rd_T104 l0 x32_3).f2))).trans hx176_0;replace hx176_0:=(cell_far (p:=⟨gb175,3,none⟩) (bA hn176_3) (.int .i64 ((rd_T104 l0 x32_3).f3))).trans hx176_0;replace hx176_0:=(cell_far (p:=⟨gb175,4,none⟩) (bA hn176_4) (.int .i64 ((rd_T104 l0 x32_3).f4))).trans hx176_0;clear hn176_0 hn176_1 hn176_2 hn176_3 hn176_4;replace p176:=eq_true p176;replace q176:=eq_true q176))
                have n0_:Aside0 (Kd.R (Kd.int .i64) 3 (((((w24.setCell ⟨gb175,0,none⟩ (.int .i64 ((rd_T104 l0 x32_3).f0))).setCell ⟨gb175,1,none⟩ (.int .i64 ((rd_T104 l0 x32_3).f1))).setCell ⟨gb175,2,none⟩ (.int .i64 ((rd_T104 l0 x32_3).f2))).setCell ⟨gb175,3,none⟩ (.int .i64 ((rd_T104 l0 x32_3).f3))).setCell ⟨gb175,4,none⟩ (.int .i64 ((rd_T104 l0 x32_3).f4))) w.heap.size (fun k_=>some k_≠(u9:Value).ownBlock) (.slice (some ⟨go11,0,none⟩) x8_2.length co11) x8_2):=⟨by(with_reducible repeat (first|apply Kd.R_alloc|apply Kd.R_drewN|apply Kd.R_drew));exact Kd.R_mono (Kd.R_far (p:=⟨gb175,4,none⟩) (Kd.R_far (p:=⟨gb175,3,none⟩) (Kd.R_far (p:=⟨gb175,2,none⟩) (Kd.R_far (p:=⟨gb175,1,none⟩) (Kd.R_far (p:=⟨gb175,0,none⟩) (Kd.R_types HO_8.out BK175.out (by decide)) (fun _ hk=>hk.2) (.int .i64 ((rd_T104 l0 x32_3).f0))) (fun _ hk=>hk.2) (.int .i64 ((rd_T104 l0 x32_3).f1))) (fun _ hk=>hk.2) (.int .i64 ((rd_T104 l0 x32_3).f2))) (fun _ hk=>hk.2) (.int .i64 ((rd_T104 l0 x32_3).f3))) (fun _ hk=>hk.2) (.int .i64 ((rd_T104 l0 x32_3).f4))) (fun _ hk=>hk.1)⟩
                have n1_:Aside0 (Kd.R (Kd.int .i64) 3 (((((w24.setCell ⟨gb175,0,none⟩ (.int .i64 ((rd_T104 l0 x32_3).f0))).setCell ⟨gb175,1,none⟩ (.int .i64 ((rd_T104 l0 x32_3).f1))).setCell ⟨gb175,2,none⟩ (.int .i64 ((rd_T104 l0 x32_3).f2))).setCell ⟨gb175,3,none⟩ (.int .i64 ((rd_T104 l0 x32_3).f3))).setCell ⟨gb175,4,none⟩ (.int .i64 ((rd_T104 l0 x32_3).f4))) w.heap.size (fun k_=>some k_≠(.slice (some ⟨go11,0,none⟩) x8_2.length co11:Value).ownBlock) u9 x9_2):=⟨by(with_reducible repeat (first|apply Kd.R_alloc|apply Kd.R_drewN|apply Kd.R_drew));exact Kd.R_mono (Kd.R_far (p:=⟨gb175,4,none⟩) (Kd.R_far (p:=⟨gb175,3,none⟩) (Kd.R_far (p:=⟨gb175,2,none⟩) (Kd.R_far (p:=⟨gb175,1,none⟩) (Kd.R_far (p:=⟨gb175,0,none⟩) (Kd.R_types HO_9.out BK175.out (by decide)) (fun _ hk=>hk.2) (.int .i64 ((rd_T104 l0 x32_3).f0))) (fun _ hk=>hk.2) (.int .i64 ((rd_T104 l0 x32_3).f1))) (fun _ hk=>hk.2) (.int .i64 ((rd_T104 l0 x32_3).f2))) (fun _ hk=>hk.2) (.int .i64 ((rd_T104 l0 x32_3).f3))) (fun _ hk=>hk.2) (.int .i64 ((rd_T104 l0 x32_3).f4))) (fun _ hk=>hk.1)⟩
                have n2_:Aside0 ((((((w24.setCell ⟨gb175,0,none⟩ (.int .i64 ((rd_T104 l0 x32_3).f0))).setCell ⟨gb175,1,none⟩ (.int .i64 ((rd_T104 l0 x32_3).f1))).setCell ⟨gb175,2,none⟩ (.int .i64 ((rd_T104 l0 x32_3).f2))).setCell ⟨gb175,3,none⟩ (.int .i64 ((rd_T104 l0 x32_3).f3))).setCell ⟨gb175,4,none⟩ (.int .i64 ((rd_T104 l0 x32_3).f4))).heap[gb175]?=some (.cells #[.int .i64 ((rd_T104 l0 x32_3).f0),.int .i64 ((rd_T104 l0 x32_3).f1),.int .i64 ((rd_T104 l0 x32_3).f2),.int .i64 ((rd_T104 l0 x32_3).f3),.int .i64 ((rd_T104 l0 x32_3).f4)] 104 (0,0))):=⟨by(with_reducible repeat (first|refine blk_drewN ?_ _|refine blk_drew ?_|refine blk_alloc ?_ _));refine blk_put (cs:=#[.int .i64 ((rd_T104 l0 x32_3).f0),.int .i64 ((rd_T104 l0 x32_3).f1),.int .i64 ((rd_T104 l0 x32_3).f2),.int .i64 ((rd_T104 l0 x32_3).f3),.int .i64 0]) ?_ 4 _ rfl;(with_reducible repeat (first|refine blk_drewN ?_ _|refine blk_drew ?_|refine blk_alloc ?_ _));refine blk_put (cs:=#[.int .i64 ((rd_T104 l0 x32_3).f0),.int .i64 ((rd_T104 l0 x32_3).f1),.int .i64 ((rd_T104 l0 x32_3).f2),.int .i64 0,.int .i64 0]) ?_ 3 _ rfl;(with_reducible repeat (first|refine blk_drewN ?_ _|refine blk_drew ?_|refine blk_alloc ?_ _));refine blk_put (cs:=#[.int .i64 ((rd_T104 l0 x32_3).f0),.int .i64 ((rd_T104 l0 x32_3).f1),.int .i64 0,.int .i64 0,.int .i64 0]) ?_ 2 _ rfl;(with_reducible repeat (first|refine blk_drewN ?_ _|refine blk_drew ?_|refine blk_alloc ?_ _));refine blk_put (cs:=#[.int .i64 ((rd_T104 l0 x32_3).f0),.int .i64 0,.int .i64 0,.int .i64 0,.int .i64 0]) ?_ 1 _ rfl;(with_reducible repeat (first|refine blk_drewN ?_ _|refine blk_drew ?_|refine blk_alloc ?_ _));refine blk_put (cs:=#[.int .i64 0,.int .i64 0,.int .i64 0,.int .i64 0,.int .i64 0]) ?_ 0 _ rfl;(with_reducible repeat (first|refine blk_drewN ?_ _|refine blk_drew ?_|refine blk_alloc ?_ _));exact BK175.out⟩
                have n3_:Aside0 (Below w.heap.size w (((((w24.setCell ⟨gb175,0,none⟩ (.int .i64 ((rd_T104 l0 x32_3).f0))).setCell ⟨gb175,1,none⟩ (.int .i64 ((rd_T104 l0 x32_3).f1))).setCell ⟨gb175,2,none⟩ (.int .i64 ((rd_T104 l0 x32_3).f2))).setCell ⟨gb175,3,none⟩ (.int .i64 ((rd_T104 l0 x32_3).f3))).setCell ⟨gb175,4,none⟩ (.int .i64 ((rd_T104 l0 x32_3).f4)))):=⟨bS GE175.out⟩
                (try clear HO_8)
                (try clear HO_9)
                (try clear BK175)
                (try clear HB)
                generalize (((((w24.setCell ⟨gb175,0,none⟩ (.int .i64 ((rd_T104 l0 x32_3).f0))).setCell ⟨gb175,1,none⟩ (.int .i64 ((rd_T104 l0 x32_3).f1))).setCell ⟨gb175,2,none⟩ (.int .i64 ((rd_T104 l0 x32_3).f2))).setCell ⟨gb175,3,none⟩ (.int .i64 ((rd_T104 l0 x32_3).f3))).setCell ⟨gb175,4,none⟩ (.int .i64 ((rd_T104 l0 x32_3).f4)))=w26 at n0_ n1_ n2_ n3_ ⊢
                have HO_8:=n0_
                have HO_9:=n1_
                have BK175:=n2_
                have HB:=n3_
                clear n0_ n1_ n2_ n3_
                (try (rw[drewN_self w26];generalize hq_:World.drewN w26 _=w26;have n0_:=Aside0.mk (Kd.R_at hq_ HO_8.out);have n1_:=Aside0.mk (Kd.R_at hq_ HO_9.out);have n2_:=Aside0.mk (blk_at hq_ BK175.out);have n3_:=Aside0.mk (below_at hq_ HB.out);clear hq_ HO_8 HO_9 BK175 HB;have HO_8:=n0_;have HO_9:=n1_;have BK175:=n2_;have HB:=n3_;clear n0_ n1_ n2_ n3_))
                have n0_:=Aside0.mk (Kd.R_drew HO_8.out)
                have n1_:=Aside0.mk (Kd.R_drew HO_9.out)
                have n2_:=Aside0.mk (blk_drew BK175.out)
                have n3_:=Aside0.mk (below_drew1 HB.out)
                clear HO_8 HO_9 BK175 HB
                have HO_8:=n0_
                have HO_9:=n1_
                have BK175:=n2_
                have HB:=n3_
                clear n0_ n1_ n2_ n3_
                have p177:0≤(((rd_T104 l0 x32_3).f0):Int):=of_decide_eq_true (bD)
                have q177:((rd_T104 l0 x32_3).f0) < (x8_2.length:Int):=of_decide_eq_true (bD)
                obtain⟨ad177,e177,hx177_0⟩:=Kd.at_int (Kd.R_reads' HO_8.out).2.2 ((rd_T104 l0 x32_3).f0) p177 q177
                obtain rfl:(⟨go11,0,none⟩:Addr)=ad177:=(by injection e177)
                (first|simp only[add_plain] at hx177_0|simp only[add_at] at hx177_0|simp only[Addr.add,Nat.zero_add] at hx177_0|skip)
                replace p177:=eq_true p177
                replace q177:=eq_true q177
                refine start_ (n:=8) (S:=fun w'=>w'.cell? ⟨gb175,0,none⟩=some (.int .i64 ((rd_T104 l0 x32_3).f0))∧w'.cell? ⟨gb175,1,none⟩=some (.int .i64 ((rd_T104 l0 x32_3).f1))∧w'.cell? ⟨gb175,2,none⟩=some (.int .i64 ((rd_T104 l0 x32_3).f2))∧w'.cell? ⟨gb175,3,none⟩=some (.int .i64 ((rd_T104 l0 x32_3).f3))∧w'.cell? ⟨gb175,4,none⟩=some (.int .i64 ((rd_T104 l0 x32_3).f4))∧w'.cell? ⟨go11,(((rd_T104 l0 x32_3).f0)).toNat,none⟩=some (.int .i64 (rd x8_2 ((rd_T104 l0 x32_3).f0)))) (ds:=[]) #[false,false,false,false,false,false,false,false] (by kernel_rfl) rfl rfl ⟨(blk_cell BK175.out 0).trans rfl,(blk_cell BK175.out 1).trans rfl,(blk_cell BK175.out 2).trans rfl,(blk_cell BK175.out 3).trans rfl,(blk_cell BK175.out 4).trans rfl,hx177_0⟩ (fun hHeld => ?_);refine with_tabW spec_l6Search.tab14 spec_l6Search.bits14 (fun HT_ HW_ => ?_)
                generalize w26.drew=w27 at HO_8 HO_9 BK175 HB hx177_0 hHeld ⊢
                refine pure_ (i:=1) (N:=some 44) (v:=?_) (a':=?_) #[false,true,false,false,false,false,false,false] rfl rfl (any_of HT_.out (by kernel_rfl)) (fun _ _ _ h=>h) (Or.inl ⟨by rfl,?_⟩) ?_ ?_
                rotate_left
                ·intro w'
                 go_simp
                 with_reducible rfl
                rotate_left
                ·simp only[Act.put,List.setIfInBounds_toArray,List.set_cons_zero,List.set_cons_succ,i64_w,i32_w]
                 rfl
                refine pure_ (i:=2) (N:=some 45) (v:=?_) (a':=?_) #[false,true,true,false,false,false,false,false] rfl rfl (any_of HT_.out (by kernel_rfl)) (fun _ _ _ h=>h) (Or.inl ⟨by rfl,?_⟩) ?_ ?_
                rotate_left
                ·intro w'
                 go_simp
                 with_reducible rfl
                rotate_left
                ·simp only[Act.put,List.setIfInBounds_toArray,List.set_cons_zero,List.set_cons_succ,i64_w,i32_w]
                 rfl
                refine take_ (i:=0) (N:=some 43) (v:=?_) (a':=?_) #[true,true,true,false,false,false,false,false] rfl rfl (take_ofW HT_.out HW_.out (by kernel_rfl)) (fun _ _ _ h=>h) (Or.inl ⟨by rfl,?_⟩) hHeld ?_ ?_
                rotate_left
                ·rintro w' ⟨s0,s1,s2,s3,s4,s5⟩
                 go_simp
                 with_reducible rfl
                rotate_left
                ·simp only[Act.put,List.setIfInBounds_toArray,List.set_cons_zero,List.set_cons_succ,i64_w,i32_w]
                 rfl
                refine take_ (i:=3) (N:=some 46) (v:=?_) (a':=?_) #[true,true,true,true,false,false,false,false] rfl rfl (take_ofW HT_.out HW_.out (by kernel_rfl)) (fun _ _ _ h=>h) (Or.inl ⟨by rfl,?_⟩) hHeld ?_ ?_
                rotate_left
                ·rintro w' ⟨s0,s1,s2,s3,s4,s5⟩
                 go_simp
                 with_reducible rfl
                rotate_left
                ·simp only[Act.put,List.setIfInBounds_toArray,List.set_cons_zero,List.set_cons_succ,i64_w,i32_w]
                 rfl
                refine pure_ (i:=4) (N:=some 47) (v:=?_) (a':=?_) #[true,true,true,true,true,false,false,false] rfl rfl (any_of HT_.out (by kernel_rfl)) (fun _ _ _ h=>h) (Or.inl ⟨by rfl,?_⟩) ?_ ?_
                rotate_left
                ·intro w'
                 go_simp
                 with_reducible rfl
                rotate_left
                ·simp only[Act.put,List.setIfInBounds_toArray,List.set_cons_zero,List.set_cons_succ,i64_w,i32_w]
                 rfl
                refine take_ (i:=5) (N:=some 48) (v:=?_) (a':=?_) #[true,true,true,true,true,true,false,false] rfl rfl (take_ofW HT_.out HW_.out (by kernel_rfl)) (fun _ _ _ h=>h) (Or.inl ⟨by rfl,?_⟩) hHeld ?_ ?_
                rotate_left
                ·rintro w' ⟨s0,s1,s2,s3,s4,s5⟩
                 go_simp
                 with_reducible rfl
                rotate_left
                ·simp only[Act.put,List.setIfInBounds_toArray,List.set_cons_zero,List.set_cons_succ,i64_w,i32_w]
                 rfl
                refine one_ (i:=6) (N:=some 49) #[true,true,true,true,true,true,true,false] rfl rfl (one_of HT_.out (by kernel_rfl)) (by decide) (fun K hK => ?_)
                refine goes_ Try.func120 (by kernel_rfl) rfl #[.agg #[.int .i64 ((rd_T104 l0 x32_3).f0),.int .i64 ((rd_T104 l0 x32_3).f1),.int .i64 ((rd_T104 l0 x32_3).f2),.int .i64 ((rd_T104 l0 x32_3).f3),.int .i64 ((rd_T104 l0 x32_3).f4)],.int .i64 (rd x8_2 ((rd_T104 l0 x32_3).f0))] (by rfl) rfl rfl (by(try simp only[List.map_toArray,List.map_cons,List.map_nil]);first|done|rfl|(simp only[List.length_drop,List.length_take];rfl)) ?_
                with_reducible refine(spec_l6Over.calls ((rd_T104 l0 x32_3).f0) ((rd_T104 l0 x32_3).f1) ((rd_T104 l0 x32_3).f2) ((rd_T104 l0 x32_3).f3) ((rd_T104 l0 x32_3).f4) (rd x8_2 ((rd_T104 l0 x32_3).f0)) t178 _ A22.out).mono ?_
                rintro e w28 ⟨rfl,hb⟩
                have HS5_:=(hb.cell (World.block_lt_of_cell? _ _ (hHeld.2.2.2.2.2))).trans (hHeld.2.2.2.2.2)
                refine⟨_,rfl,?_⟩
                have n0_:=Aside0.mk (Kd.R_below (bK HO_8.out) hb)
                have n1_:=Aside0.mk (Kd.R_below (bK HO_9.out) hb)
                have n2_:=Aside0.mk (bM BK175.out hb)
                have n3_:=Aside0.mk (below_step (bS GE175.out) hb)
                clear HO_8 HO_9 BK175 HB
                have HO_8:=n0_
                have HO_9:=n1_
                have BK175:=n2_
                have HB:=n3_
                clear n0_ n1_ n2_ n3_
                (try clear hb)
                (try clear hb2)
                (try clear hk)
                (try clear hi)
                refine hK.out _ _ ⟨(blk_cell BK175.out 0).trans rfl,(blk_cell BK175.out 1).trans rfl,(blk_cell BK175.out 2).trans rfl,(blk_cell BK175.out 3).trans rfl,(blk_cell BK175.out 4).trans rfl,HS5_⟩ (fun hHeld => ?_)
                clear hK K
                refine norm_ (a':=?_) ?_ ?_
                rotate_left
                ·show Act.put _ (some 49) _=_
                 simp only[Act.put,List.setIfInBounds_toArray,List.set_cons_zero,List.set_cons_succ,i64_w,i32_w]
                 rfl
                refine pure_ (i:=7) (N:=some 15) (v:=?_) (a':=?_) #[true,true,true,true,true,true,true,true] rfl rfl (any_of HT_.out (by kernel_rfl)) (fun _ _ _ h=>h) (Or.inl ⟨by rfl,?_⟩) ?_ ?_
                rotate_left
                ·intro w'
                 go_simp
                 with_reducible rfl
                rotate_left
                ·simp only[Act.put,List.setIfInBounds_toArray,List.set_cons_zero,List.set_cons_succ,i64_w,i32_w]
                 rfl
                refine done_ (done_of HT_.out (by kernel_rfl)) ?_
                go_upto_region 15 with (fail)
                go_cut [68] (fun v68 wc => ∃ (kq:Nat) (x68_22:Bool),v68=.bool x68_22∧Aside0 (spec_l6Search.j3 kq l0 x8_2 x9_2 x11_3 x12_3 x32_3 t178 l0 (l0.length:Int) x32_3 x68_22=some (r1,r2))∧Aside0 (kq≤k3)∧Aside0 (Kd.R (Kd.int .i64) 3 wc w.heap.size (fun k_=>some k_≠(u9:Value).ownBlock) (.slice (some ⟨go11,0,none⟩) x8_2.length co11) x8_2)∧Aside0 (Kd.R (Kd.int .i64) 3 wc w.heap.size (fun k_=>some k_≠((.slice (some ⟨go11,0,none⟩) x8_2.length co11):Value).ownBlock) u9 x9_2)∧Aside0 (wc.heap[gb175]?=some (.cells #[.int .i64 ((rd_T104 l0 x32_3).f0),.int .i64 ((rd_T104 l0 x32_3).f1),.int .i64 ((rd_T104 l0 x32_3).f2),.int .i64 ((rd_T104 l0 x32_3).f3),.int .i64 ((rd_T104 l0 x32_3).f4)] 104 (0,0)))∧Aside0 (Below w.heap.size w wc))
                case first =>
                 have H:=HC23.out
                 clear HC23
                 by_cases c29:t178 < 0
                 ·rw[if_pos c29] at H
                  have c29b0:decide (t178 < 0)=true:=decide_eq_true c29
                  clear c29
                  (first|rw[c29b0]|(simp only[i64_w,i32_w];rw[c29b0])|skip)
                  have H':=Aside0.mk H
                  clear H
                  go_wp2
                  go_meet
                  case rel=>exact⟨_,(true),(bR),H',⟨by have:=HK1.out;have:=HK2.out;have:=HK3.out;first|omega|exact Nat.le_refl _⟩,⟨by(try simp only[hl8_2]);(with_reducible repeat (first|apply Kd.R_alloc|apply Kd.R_drewN|apply Kd.R_drew));exact HO_8.out⟩,⟨by(try simp only[hl8_2]);(with_reducible repeat (first|apply Kd.R_alloc|apply Kd.R_drewN|apply Kd.R_drew));exact HO_9.out⟩,⟨by(try simp only[hl8_2]);(with_reducible repeat (first|refine blk_drewN ?_ _|refine blk_drew ?_|refine blk_alloc ?_ _));exact BK175.out⟩,⟨bS GE175.out⟩⟩
                 ·rw[if_neg c29] at H
                  have c29b0:decide (t178 < 0)=false:=decide_eq_false c29
                  clear c29
                  (first|rw[c29b0]|(simp only[i64_w,i32_w];rw[c29b0])|skip)
                  by_cases c30:0≤((rd_T104 l0 x32_3).f1)
                  ·rw[if_pos c30] at H
                   have c30b0:decide (0≤((rd_T104 l0 x32_3).f1))=true:=decide_eq_true c30
                   clear c30
                   by_cases c31:((rd_T104 l0 x32_3).f1) < (x8_2.length:Int)
                   ·rw[if_pos c31] at H
                    have c31b0:decide (((rd_T104 l0 x32_3).f1) < (x8_2.length:Int))=true:=decide_eq_true c31
                    clear c31
                    by_cases c32:(rd x8_2 ((rd_T104 l0 x32_3).f1)) ≥ 0
                    ·rw[if_pos c32] at H
                     have c32b0:decide (0≤(rd x8_2 ((rd_T104 l0 x32_3).f1)))=true:=decide_eq_true c32
                     clear c32
                     have H':=Aside0.mk H
                     clear H
                     obtain⟨hcz33_0,hcz33_1,hcz33_2,hcz33_3,hcz33_4⟩:=cC5 BK175.out
                     obtain⟨hfz33_0,hfz33_1,hfz33_2,hfz33_3,hfz33_4⟩:=cF5 BK175.out
                     have p179:0≤(((rd_T104 l0 x32_3).f1):Int):=of_decide_eq_true (bD)
                     have q179:((rd_T104 l0 x32_3).f1) < (x8_2.length:Int):=of_decide_eq_true (bD)
                     obtain⟨ad179,e179,hx179_0⟩:=Kd.at_int (Kd.R_reads' HO_8.out).2.2 ((rd_T104 l0 x32_3).f1) p179 q179
                     obtain rfl:(⟨go11,0,none⟩:Addr)=ad179:=(by injection e179)
                     (first|simp only[add_plain] at hx179_0|simp only[add_at] at hx179_0|simp only[Addr.add,Nat.zero_add] at hx179_0|skip)
                     replace p179:=eq_true p179
                     replace q179:=eq_true q179
                     have p180:0≤(((rd_T104 l0 x32_3).f1):Int):=of_decide_eq_true (bD)
                     have q180:((rd_T104 l0 x32_3).f1) < (x8_2.length:Int):=of_decide_eq_true (bD)
                     obtain⟨ad180,e180,hx180_0⟩:=Kd.at_int (Kd.R_reads' HO_8.out).2.2 ((rd_T104 l0 x32_3).f1) p180 q180
                     obtain rfl:(⟨go11,0,none⟩:Addr)=ad180:=(by injection e180)
                     (first|simp only[add_plain] at hx180_0|simp only[add_at] at hx180_0|simp only[Addr.add,Nat.zero_add] at hx180_0|skip)
                     replace p180:=eq_true p180
                     replace q180:=eq_true q180
                     go_wp2
                     go_meet
                     case rel=>exact⟨_,(decide ((rd x8_2 ((rd_T104 l0 x32_3).f1))≤t178)),(bR),H',⟨by have:=HK1.out;have:=HK2.out;have:=HK3.out;first|omega|exact Nat.le_refl _⟩,⟨by(try simp only[hl8_2]);(with_reducible repeat (first|apply Kd.R_alloc|apply Kd.R_drewN|apply Kd.R_drew));exact HO_8.out⟩,⟨by(try simp only[hl8_2]);(with_reducible repeat (first|apply Kd.R_alloc|apply Kd.R_drewN|apply Kd.R_drew));exact HO_9.out⟩,⟨by(try simp only[hl8_2]);(with_reducible repeat (first|refine blk_drewN ?_ _|refine blk_drew ?_|refine blk_alloc ?_ _));exact BK175.out⟩,⟨bS GE175.out⟩⟩
                    ·rw[if_neg c32] at H
                     have c32b0:decide (0≤(rd x8_2 ((rd_T104 l0 x32_3).f1)))=false:=decide_eq_false c32
                     clear c32
                     have H':=Aside0.mk H
                     clear H
                     obtain⟨hcz34_0,hcz34_1,hcz34_2,hcz34_3,hcz34_4⟩:=cC5 BK175.out
                     obtain⟨hfz34_0,hfz34_1,hfz34_2,hfz34_3,hfz34_4⟩:=cF5 BK175.out
                     have p179:0≤(((rd_T104 l0 x32_3).f1):Int):=of_decide_eq_true (bD)
                     have q179:((rd_T104 l0 x32_3).f1) < (x8_2.length:Int):=of_decide_eq_true (bD)
                     obtain⟨ad179,e179,hx179_0⟩:=Kd.at_int (Kd.R_reads' HO_8.out).2.2 ((rd_T104 l0 x32_3).f1) p179 q179
                     obtain rfl:(⟨go11,0,none⟩:Addr)=ad179:=(by injection e179)
                     (first|simp only[add_plain] at hx179_0|simp only[add_at] at hx179_0|simp only[Addr.add,Nat.zero_add] at hx179_0|skip)
                     replace p179:=eq_true p179
                     replace q179:=eq_true q179
                     go_wp2
                     go_meet
                     case rel=>exact⟨_,(false),(bR),H',⟨by have:=HK1.out;have:=HK2.out;have:=HK3.out;first|omega|exact Nat.le_refl _⟩,⟨by(try simp only[hl8_2]);(with_reducible repeat (first|apply Kd.R_alloc|apply Kd.R_drewN|apply Kd.R_drew));exact HO_8.out⟩,⟨by(try simp only[hl8_2]);(with_reducible repeat (first|apply Kd.R_alloc|apply Kd.R_drewN|apply Kd.R_drew));exact HO_9.out⟩,⟨by(try simp only[hl8_2]);(with_reducible repeat (first|refine blk_drewN ?_ _|refine blk_drew ?_|refine blk_alloc ?_ _));exact BK175.out⟩,⟨bS GE175.out⟩⟩
                   ·rw[if_neg c31] at H
                    exact absurd H (by simp)
                  ·rw[if_neg c30] at H
                   exact absurd H (by simp)
                case rest =>
                 clear HC23
                 try clear c1
                 try clear p1
                 try clear q1
                 try clear hx1
                 try clear c2
                 try clear p2
                 try clear c3
                 try clear c4
                 try clear c4b0
                 try clear c5
                 try clear c6
                 try clear p6
                 try clear c9
                 try clear c9b0
                 try clear c10
                 try clear c10b0
                 try clear p11
                 try clear q11
                 try clear hx11
                 try clear hf11
                 try clear c12
                 try clear c14
                 try clear c14b0
                 try clear c15
                 try clear c15b0
                 try clear c16
                 try clear c16b0
                 try clear c17
                 try clear c17b0
                 try clear p17
                 try clear q17
                 try clear hx17
                 try clear c18
                 try clear c18b0
                 try clear p18
                 try clear q18
                 try clear hx18
                 try clear c19
                 try clear c19b0
                 try clear c29
                 try clear c29b0
                 try clear c30
                 try clear c30b0
                 try clear c31
                 try clear c31b0
                 try clear c32
                 try clear c32b0
                 try clear hcz21_0 hcz21_1 hcz21_2 hcz21_3 hcz21_4
                 try clear hcz25_0 hcz25_1 hcz25_2 hcz25_3 hcz25_4
                 try clear hcz33_0 hcz33_1 hcz33_2 hcz33_3 hcz33_4
                 try clear hcz34_0 hcz34_1 hcz34_2 hcz34_3 hcz34_4
                 try clear hfz21_0 hfz21_1 hfz21_2 hfz21_3 hfz21_4
                 try clear hfz25_0 hfz25_1 hfz25_2 hfz25_3 hfz25_4
                 try clear hfz33_0 hfz33_1 hfz33_2 hfz33_3 hfz33_4
                 try clear hfz34_0 hfz34_1 hfz34_2 hfz34_3 hfz34_4
                 try clear hx11_0
                 try clear hx174_0
                 try clear hx174_1
                 try clear hx174_2
                 try clear hx174_3
                 try clear hx174_4
                 try clear hx176_0
                 try clear hx177_0
                 try clear hx179_0
                 try clear hx180_0
                 try clear p1
                 try clear p11
                 try clear p174
                 try clear p176
                 try clear p177
                 try clear p179
                 try clear p180
                 try clear p2
                 try clear p6
                 try clear q1
                 try clear q11
                 try clear q174
                 try clear q176
                 try clear q177
                 try clear q179
                 try clear q180
                 obtain⟨kq,x68_22,rfl,HA,HJ22,HO_8,HO_9,BK175,HB⟩:=hcut
                 cases kq with
                 | zero=>exact absurd HA.out (by simp[spec_l6Search.j3])
                 | succ kj22 =>
                  have H:=HA.out
                  clear HA
                  simp only[spec_l6Search.j3] at H
                  by_cases c35:x68_22=true
                  ·subst c35
                   have H1:(spec_l6Search.l2 kj22 l0 x8_2 x9_2 x11_3 x12_3 l0 (l0.length:Int) (wrap64 (x32_3+1)))=some (r1,r2):=by rw[if_pos rfl] at H;exact H
                   clear H
                   have H:=H1
                   clear H1
                   have H':=Aside0.mk H
                   clear H
                   go_wp2
                   go_roundg kj22
                   case measure=>have:=HK1.out;have:=HK2.out;have:=HK3.out;have:=HJ22.out;omega
                   case rel=>exact⟨(x11_3),(x12_3),(wrap64 (x32_3+1)),(bR),(bR),(bR),H',⟨by have:=HK1.out;have:=HK2.out;have:=HK3.out;have:=HJ22.out;omega⟩,⟨by(try simp only[hl8_2]);(with_reducible repeat (first|apply Kd.R_alloc|apply Kd.R_drewN|apply Kd.R_drew));exact HO_8.out⟩,⟨by(try simp only[hl8_2]);(with_reducible repeat (first|apply Kd.R_alloc|apply Kd.R_drewN|apply Kd.R_drew));exact HO_9.out⟩,⟨bS GE175.out⟩⟩
                  ·replace c35:=Bool.eq_false_iff.mpr c35
                   subst c35
                   have H1:(if x11_3 < 0 then (spec_l6Search.l2 kj22 l0 x8_2 x9_2 x32_3 t178 l0 (l0.length:Int) (wrap64 (x32_3+1))) else (if t178 < x12_3 then (spec_l6Search.l2 kj22 l0 x8_2 x9_2 x32_3 t178 l0 (l0.length:Int) (wrap64 (x32_3+1))) else (spec_l6Search.l2 kj22 l0 x8_2 x9_2 x11_3 x12_3 l0 (l0.length:Int) (wrap64 (x32_3+1)))))=some (r1,r2):=by rw[if_neg (show ¬ (false=true) by decide)] at H;exact H
                   clear H
                   have H:=H1
                   clear H1
                   by_cases c36:x11_3 < 0
                   ·rw[if_pos c36] at H
                    have c36b0:decide (x11_3 < 0)=true:=decide_eq_true c36
                    clear c36
                    have H':=Aside0.mk H
                    clear H
                    go_wp2
                    go_roundg kj22
                    case measure=>have:=HK1.out;have:=HK2.out;have:=HK3.out;have:=HJ22.out;omega
                    case rel=>exact⟨(x32_3),(t178),(wrap64 (x32_3+1)),(bR),(bR),(bR),H',⟨by have:=HK1.out;have:=HK2.out;have:=HK3.out;have:=HJ22.out;omega⟩,⟨by(try simp only[hl8_2]);(with_reducible repeat (first|apply Kd.R_alloc|apply Kd.R_drewN|apply Kd.R_drew));exact HO_8.out⟩,⟨by(try simp only[hl8_2]);(with_reducible repeat (first|apply Kd.R_alloc|apply Kd.R_drewN|apply Kd.R_drew));exact HO_9.out⟩,⟨bS GE175.out⟩⟩
                   ·rw[if_neg c36] at H
                    have c36b0:decide (x11_3 < 0)=false:=decide_eq_false c36
                    clear c36
                    by_cases c37:t178 < x12_3
                    ·rw[if_pos c37] at H
                     have c37b0:decide (t178 < x12_3)=true:=decide_eq_true c37
                     clear c37
                     have H':=Aside0.mk H
                     clear H
                     go_wp2
                     go_roundg kj22
                     case measure=>have:=HK1.out;have:=HK2.out;have:=HK3.out;have:=HJ22.out;omega
                     case rel=>exact⟨(x32_3),(t178),(wrap64 (x32_3+1)),(bR),(bR),(bR),H',⟨by have:=HK1.out;have:=HK2.out;have:=HK3.out;have:=HJ22.out;omega⟩,⟨by(try simp only[hl8_2]);(with_reducible repeat (first|apply Kd.R_alloc|apply Kd.R_drewN|apply Kd.R_drew));exact HO_8.out⟩,⟨by(try simp only[hl8_2]);(with_reducible repeat (first|apply Kd.R_alloc|apply Kd.R_drewN|apply Kd.R_drew));exact HO_9.out⟩,⟨bS GE175.out⟩⟩
                    ·rw[if_neg c37] at H
                     have c37b0:decide (t178 < x12_3)=false:=decide_eq_false c37
                     clear c37
                     have H':=Aside0.mk H
                     clear H
                     go_wp2
                     go_roundg kj22
                     case measure=>have:=HK1.out;have:=HK2.out;have:=HK3.out;have:=HJ22.out;omega
                     case rel=>exact⟨(x11_3),(x12_3),(wrap64 (x32_3+1)),(bR),(bR),(bR),H',⟨by have:=HK1.out;have:=HK2.out;have:=HK3.out;have:=HJ22.out;omega⟩,⟨by(try simp only[hl8_2]);(with_reducible repeat (first|apply Kd.R_alloc|apply Kd.R_drewN|apply Kd.R_drew));exact HO_8.out⟩,⟨by(try simp only[hl8_2]);(with_reducible repeat (first|apply Kd.R_alloc|apply Kd.R_drewN|apply Kd.R_drew));exact HO_9.out⟩,⟨bS GE175.out⟩⟩
              ·rw[if_neg c18] at H
               exact absurd H (by simp)
             ·rw[if_neg c17] at H
              exact absurd H (by simp)
            ·rw[if_neg c16] at H
             exact absurd H (by simp)
           ·rw[if_neg c15] at H
            exact absurd H (by simp)
          ·rw[if_neg c14] at H
           have c14b0:decide (x32_3 < (l0.length:Int))=false:=decide_eq_false c14
           clear c14
           by_cases c38:x11_3 < 0
           ·rw[if_pos c38] at H
            have c38b0:decide (x11_3 < 0)=true:=decide_eq_true c38
            clear c38
            simp only[Option.some.injEq,Prod.mk.injEq] at H
            obtain⟨rfl,rfl⟩:=H
            go_wp2
            go_ret2
            exact⟨_,_,by first|rfl|(simp[errW_none,errW_some]<;>rfl)|(simp[*,errW_none,errW_some]<;>rfl),by(with_reducible repeat (first|apply Kd.R_alloc|apply Kd.R_drewN|apply Kd.R_drew));exact HO_8.out,by(with_reducible repeat (first|apply Kd.R_alloc|apply Kd.R_drewN|apply Kd.R_drew));exact HO_9.out,bB⟩
           ·rw[if_neg c38] at H
            have c38b0:decide (x11_3 < 0)=false:=decide_eq_false c38
            clear c38
            by_cases c39:0≤x11_3
            ·rw[if_pos c39] at H
             have c39b0:decide (0≤x11_3)=true:=decide_eq_true c39
             clear c39
             by_cases c40:x11_3 < (l0.length:Int)
             ·rw[if_pos c40] at H
              have c40b0:decide (x11_3 < (l0.length:Int))=true:=decide_eq_true c40
              clear c40
              by_cases c41:0≤((rd_T104 l0 x11_3).f1)
              ·rw[if_pos c41] at H
               have c41b0:decide (0≤((rd_T104 l0 x11_3).f1))=true:=decide_eq_true c41
               clear c41
               by_cases c42:((rd_T104 l0 x11_3).f1) < (x8_2.length:Int)
               ·rw[if_pos c42] at H
                have c42b0:decide (((rd_T104 l0 x11_3).f1) < (x8_2.length:Int))=true:=decide_eq_true c42
                clear c42
                obtain⟨y171,hy171⟩ : ∃ y_:List Int,y_=(x8_2.set (((rd_T104 l0 x11_3).f1):Int).toNat x12_3):=⟨_,rfl⟩
                replace H:(if ((rd_T104 l0 x11_3).f1) < (x9_2.length:Int) then (spec_l6Search.l1 k3 l0 y171 (x9_2.set (((rd_T104 l0 x11_3).f1):Int).toNat x11_3)) else (none))=some (r1,r2):=by first|(rw[hy171];with_reducible exact H)|(have H2_:=(Option.bind_some _ _).symm.trans H;rw[hy171];with_reducible exact H2_)|(have H2_:=(Option.bind_some _ _).symm.trans H;with_reducible exact H2_)|with_reducible exact H|(rw[hy171];exact H)|exact H
                have Ny171:=Aside0.mk hy171
                clear hy171
                by_cases c44:((rd_T104 l0 x11_3).f1) < (x9_2.length:Int)
                ·rw[if_pos c44] at H
                 have c44b0:decide (((rd_T104 l0 x11_3).f1) < (x9_2.length:Int))=true:=decide_eq_true c44
                 clear c44
                 obtain⟨y173,hy173⟩ : ∃ y_:List Int,y_=(x9_2.set (((rd_T104 l0 x11_3).f1):Int).toNat x11_3):=⟨_,rfl⟩
                 replace H:(spec_l6Search.l1 k3 l0 y171 y173)=some (r1,r2):=by first|(rw[hy173];with_reducible exact H)|(have H2_:=(Option.bind_some _ _).symm.trans H;rw[hy173];with_reducible exact H2_)|(have H2_:=(Option.bind_some _ _).symm.trans H;with_reducible exact H2_)|with_reducible exact H|(rw[hy173];exact H)|exact H
                 have Ny173:=Aside0.mk hy173
                 clear hy173
                 have H':=Aside0.mk H
                 clear H
                 have p170:0≤(x11_3:Int):=of_decide_eq_true (bD)
                 have q170:x11_3 < (l0.length:Int):=of_decide_eq_true (bD)
                 obtain⟨ad170,e170,hx170_0,hx170_1,hx170_2,hx170_3,hx170_4⟩:=at_T104 HR0.out x11_3 p170 q170
                 cases e170
                 replace hx170_0:=(HB.out.cell (World.block_lt_of_cell? w _ hx170_0)).trans hx170_0
                 replace hx170_1:=(HB.out.cell (World.block_lt_of_cell? w _ hx170_1)).trans hx170_1
                 replace hx170_2:=(HB.out.cell (World.block_lt_of_cell? w _ hx170_2)).trans hx170_2
                 replace hx170_3:=(HB.out.cell (World.block_lt_of_cell? w _ hx170_3)).trans hx170_3
                 replace hx170_4:=(HB.out.cell (World.block_lt_of_cell? w _ hx170_4)).trans hx170_4
                 replace p170:=eq_true p170
                 replace q170:=eq_true q170
                 have p43:0≤(((rd_T104 l0 x11_3).f1):Int):=of_decide_eq_true (bD)
                 have q43:(((rd_T104 l0 x11_3).f1):Int) < ((x8_2.length:Int):Int):=of_decide_eq_true (bD)
                 obtain⟨hx43_0,hf43_0⟩:=Kd.R_celln 0 HO_8.out (((rd_T104 l0 x11_3).f1):Int) p43 q43
                 replace p43:=eq_true p43
                 replace q43:=eq_true q43
                 have HP46:=Kd.R_putg HO_8.out (((rd_T104 l0 x11_3).f1):Int) x12_3
                 go_wp2_with (first|((with_reducible refine gate_store (t:=3) (p:=90) rfl ?_);refine store_event (t:=3) (p:=90) (v:=?vo_w47) (w1:=(wr.setCell ⟨go11,(((rd_T104 l0 x11_3).f1):Int).toNat,none⟩ (.int .i64 x12_3))) ?hg ?ho ?hn ?hr ?_;(case ho=>rfl);(case hg=>rfl);(case hn=>rfl);(case hr=>first|(go_simp;done)|(go_simp;rfl));intro w47 hw;have hg:wr.grownBy w47 (some go11):=(by rw[hw];exact HP46.2);have hp_:Kd.R (Kd.int .i64) 3 w47 w.heap.size (fun k_=>some k_≠(u9:Value).ownBlock) (.slice (some ⟨go11,0,none⟩) x8_2.length co11) y171:=(by rw[hw,Ny171.out];exact HP46.1);clear HP46;have n0_:=Aside0.mk (hp_);have n1_:=Aside0.mk (Kd.R_after (v:=(.slice (some ⟨go11,0,none⟩) x8_2.length co11)) (v1:=(.slice (some ⟨go11,0,none⟩) x8_2.length co11)) (ok:=(fun _=>True)) (by(with_reducible repeat (first|apply Kd.R_alloc|apply Kd.R_drewN|apply Kd.R_drew));exact Kd.R_mono HO_9.out (fun _ hk=>⟨trivial,hk⟩)) hg (.inl rfl));have n2_:=Aside0.mk ((by rw[hw];exact below_set (HB.out) GB11.out:Below w.heap.size w w47));clear HO_8 HO_9 HB;have HO_8:=n0_;have HO_9:=n1_;have HB:=n2_;clear n0_ n1_ n2_;clear hg hw hp_;have p172:0≤(x11_3:Int):=of_decide_eq_true (bD);have q172:x11_3 < (l0.length:Int):=of_decide_eq_true (bD);obtain⟨ad172,e172,hx172_0,hx172_1,hx172_2,hx172_3,hx172_4⟩:=at_T104 HR0.out x11_3 p172 q172;obtain rfl:ad170=ad172:=(by injection e172);replace hx172_0:=(HB.out.cell (World.block_lt_of_cell? w _ hx172_0)).trans hx172_0;replace hx172_1:=(HB.out.cell (World.block_lt_of_cell? w _ hx172_1)).trans hx172_1;replace hx172_2:=(HB.out.cell (World.block_lt_of_cell? w _ hx172_2)).trans hx172_2;replace hx172_3:=(HB.out.cell (World.block_lt_of_cell? w _ hx172_3)).trans hx172_3;replace hx172_4:=(HB.out.cell (World.block_lt_of_cell? w _ hx172_4)).trans hx172_4;replace p172:=eq_true p172;replace q172:=eq_true q172;have p45:0≤(((rd_T104 l0 x11_3).f1):Int):=of_decide_eq_true (bD);have q45:(((rd_T104 l0 x11_3).f1):Int) < ((x9_2.length:Int):Int):=of_decide_eq_true (bD);obtain⟨go45,co45,eo45,gb45,gl45,cl45,HG45⟩:=Kd.R_form HO_9.out (by omega);(first|cases eo45|(injection eo45 with ea_ en_ ec_;(first|subst ea_|(injection ea_ with ea_;subst ea_));subst ec_;clear en_));have GB45:=Aside0.mk gb45;have GG45:=Aside0.mk HG45;clear gb45 gl45 HG45;obtain⟨hx45_0,hf45_0⟩:=Kd.R_celln 0 HO_9.out (((rd_T104 l0 x11_3).f1):Int) p45 q45;replace p45:=eq_true p45;replace q45:=eq_true q45;have n_:=Aside0.mk (Kd.R_mono (ok':=(fun k_=>some k_≠(.slice (some ⟨go11,0,none⟩) x8_2.length co11:Value).ownBlock)) HO_9.out (fun k_ hk=>hk.2));clear HO_9;have HO_9:=n_;clear n_;obtain⟨hy48_,hz48_⟩:=Kd.R_celln 0 HO_9.out (((rd_T104 l0 x11_3).f1):Int) (of_decide_eq_true (bD)) (of_decide_eq_true (bD));have HP48:=Kd.R_putg HO_9.out (((rd_T104 l0 x11_3).f1):Int) x11_3)|((with_reducible refine gate_store (t:=3) (p:=98) rfl ?_);refine store_event (t:=3) (p:=98) (v:=?vo_w49) (w1:=(w47.setCell ⟨go45,(((rd_T104 l0 x11_3).f1):Int).toNat,none⟩ (.int .i64 x11_3))) ?hg ?ho ?hn ?hr ?_;(case ho=>rfl);(case hg=>rfl);(case hn=>rfl);(case hr=>first|(go_simp;done)|(go_simp;rfl));intro w49 hw;have hg:w47.grownBy w49 (some go45):=(by rw[hw];exact HP48.2);have hp_:Kd.R (Kd.int .i64) 3 w49 w.heap.size (fun k_=>some k_≠(.slice (some ⟨go11,0,none⟩) x8_2.length co11:Value).ownBlock) (.slice (some ⟨go45,0,none⟩) x9_2.length co45) y173:=(by rw[hw,Ny173.out];exact HP48.1);clear HP48;have n0_:=Aside0.mk (Kd.R_after (v:=(.slice (some ⟨go45,0,none⟩) x9_2.length co45)) (v1:=(.slice (some ⟨go45,0,none⟩) x9_2.length co45)) (ok:=(fun _=>True)) (by(with_reducible repeat (first|apply Kd.R_alloc|apply Kd.R_drewN|apply Kd.R_drew));exact Kd.R_mono HO_8.out (fun _ hk=>⟨trivial,hk⟩)) hg (.inl rfl));have n1_:=Aside0.mk (hp_);have n2_:=Aside0.mk ((by rw[hw];exact below_set (HB.out) GB45.out:Below w.heap.size w w49));clear HO_8 HO_9 HB;have HO_8:=n0_;have HO_9:=n1_;have HB:=n2_;clear n0_ n1_ n2_;clear hg hw hp_))
                 (try simp only[← hl8_2])
                 go_roundg k3
                 case measure=>have:=HK1.out;have:=HK2.out;have:=HK3.out;omega
                 case rel=>exact⟨(y171),(y173),H',⟨by have:=HK1.out;have:=HK2.out;have:=HK3.out;omega⟩,⟨by(try simp only[hl8_2]);(with_reducible repeat (first|apply Kd.R_alloc|apply Kd.R_drewN|apply Kd.R_drew));exact Kd.R_mono HO_8.out (fun _ hk=>hk.2)⟩,⟨by(try simp only[hl8_2]);(with_reducible repeat (first|apply Kd.R_alloc|apply Kd.R_drewN|apply Kd.R_drew));exact HO_9.out⟩,⟨by repeat (first|(with_reducible first|exact HB.out|apply below_alloc|apply pw_below_drewN|apply below_drew1)|exact HB.out)⟩⟩
                ·rw[if_neg c44] at H
                 exact absurd H (by simp)
               ·rw[if_neg c42] at H
                exact absurd H (by simp)
              ·rw[if_neg c41] at H
               exact absurd H (by simp)
             ·rw[if_neg c40] at H
              exact absurd H (by simp)
            ·rw[if_neg c39] at H
             exact absurd H (by simp)
     ·rw[if_neg c10] at H
      exact absurd H (by simp)
    ·rw[if_neg c9] at H
     exact absurd H (by simp)

end Go.Proofs.Yteneeohaoplpbaa.XFnExactReachAll
