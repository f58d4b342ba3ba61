-- Written by this session's own program (wip/xprint.py) out of the translation; Lean checks it.
import Derived.Test.YteneeohaoplpbaaXFnFollowx0
import Derived.Test.YteneeohaoplpbaaXFnFollowx9
import Derived.Test.YteneeohaoplpbaaXFnFollowx10
namespace Go.Proofs.Yteneeohaoplpbaa.XFnFollow
open Go.RowKit Go.Proofs.YteneeohaoplpbaaW.PrintWords Go.Proofs.YteneeohaoplpbaaW.PrintLast Go.Proofs.YteneeohaoplpbaaW.PrintMore
open Go.Proofs.YteneeohaoplpbaaW.PrintWords.Aside0 renaming mk → am
open List renaming setIfInBounds_toArray → zA, set_cons_zero → zB, set_cons_succ → zC
attribute [local go_sem] max2_int min2_int max_two min_two max_three min_three max_four min_four   -- for this text's walks alone
set_option linter.unusedVariables false
set_option linter.unusedSimpArgs false

/-! ### spec_l1Cur_plan: function 162 -/
mutual
def spec_l1Cur_plan.j0:Nat→List (S104)→Int→List Int→Int→Int→Option ((List (S104)) × Int × Int)
 | 0,_,_,_,_,_=>none
 | k+1,x3,x4,x1000,x1001,x1002=>spec_l1Cur_plan.l0 k x3 x4 x1000 x1001 x1002
def spec_l1Cur_plan.l0:Nat→List (S104)→Int→List Int→Int→Int→Option ((List (S104)) × Int × Int)
 | 0,_,_,_,_,_=>none
 | k+1,x3,x4,x1000,x1001,x1002=>if x4 > 0 then ((spec_l1Cur_pick.f x1000 x1001 x1002 5).bind fun bt401=>((spec_l1Cur_pick.f x1000 bt401.2.1 bt401.2.2 5).bind fun bt404=>((spec_l1Cur_pick.f x1000 bt404.2.1 bt404.2.2 40).bind fun bt407=>((spec_l1Cur_pick.f x1000 bt407.2.1 bt407.2.2 6).bind fun bt410=>((spec_l1Cur_pick.f x1000 bt410.2.1 bt410.2.2 30).bind fun bt414=>(if bt401.1=bt404.1 then (if x3.length < 3518437208883 then (spec_l1Cur_plan.l0 k (x3++[(⟨bt401.1,Int.tmod (wrap64 (bt404.1+1)) 5,bt407.1,wrap64 ((wrap64 (bt407.1+1))+bt414.1),bt410.1⟩:S104)]) (wrap64 (x4 - 1)) x1000 bt414.2.1 bt414.2.2) else (none)) else (if x3.length < 3518437208883 then (spec_l1Cur_plan.l0 k (x3++[(⟨bt401.1,bt404.1,bt407.1,wrap64 ((wrap64 (bt407.1+1))+bt414.1),bt410.1⟩:S104)]) (wrap64 (x4 - 1)) x1000 bt414.2.1 bt414.2.2) else (none)))))))) else (if (x3.length:Int) > 0 then ((spec_l1Cur_one.f x1000 x1001 x1002 30).bind fun bt423=>(if bt423.1=true then ((spec_l1Cur_among.f x1000 bt423.2.1 bt423.2.2 (([0,1000,1001]:List Int))).bind fun bt429=>(if 0 < (x3.length:Int) then (some ((x3.set (0:Int).toNat (⟨(rd_T104 x3 0).f0,(rd_T104 x3 0).f1,(rd_T104 x3 0).f2,bt429.1,(rd_T104 x3 0).f4⟩:S104)),bt429.2.1,bt429.2.2)) else (none))) else (some (x3,bt423.2.1,bt423.2.2)))) else (some (x3,x1001,x1002)))
end
def spec_l1Cur_plan.f (k:Nat) (s0_0:List Int) (s0_1:Int) (s0_2:Int):Option ((List (S104)) × Int × Int):=(spec_l1Cur_pick.f s0_0 s0_1 s0_2 10).bind fun bt392=>((spec_l1Cur_one.f s0_0 bt392.2.1 bt392.2.2 20).bind fun bt395=>(if bt395.1=true then ((spec_l1Cur_pick.f s0_0 bt395.2.1 bt395.2.2 2).bind fun bt398=>(spec_l1Cur_plan.j0 k ([]:List (S104)) (wrap64 (20+bt398.1)) s0_0 bt398.2.1 bt398.2.2)) else (spec_l1Cur_plan.j0 k ([]:List (S104)) bt392.1 s0_0 bt395.2.1 bt395.2.2)))
theorem spec_l1Cur_plan.mono_l : ∀ k,(∀ y0 y1 y2 y3 y4,LeO (spec_l1Cur_plan.j0 k y0 y1 y2 y3 y4) (spec_l1Cur_plan.j0 (k+1) y0 y1 y2 y3 y4))∧(∀ y0 y1 y2 y3 y4,LeO (spec_l1Cur_plan.l0 k y0 y1 y2 y3 y4) (spec_l1Cur_plan.l0 (k+1) y0 y1 y2 y3 y4))
 | 0=>⟨fun _ _ _ _ _ r h=>by simp[spec_l1Cur_plan.j0] at h,fun _ _ _ _ _ r h=>by simp[spec_l1Cur_plan.l0] at h⟩
 | k+1=>by
  obtain⟨ih0,ih1⟩:=spec_l1Cur_plan.mono_l k
  refine⟨?_,?_⟩
  ·intro y0 y1 y2 y3 y4
   unfold spec_l1Cur_plan.j0
   repeat' first
   | (with_reducible exact ih0 _ _ _ _ _)
   | (with_reducible exact ih1 _ _ _ _ _)
   | (with_reducible exact LeO.refl _)
   | (with_reducible exact LeO.none _)
   | (with_reducible refine LeO.ite ?_ ?_)
   | (with_reducible refine LeO.bind ?_ (fun _ => ?_))
  ·intro y0 y1 y2 y3 y4
   unfold spec_l1Cur_plan.l0
   repeat' first
   | (with_reducible exact ih0 _ _ _ _ _)
   | (with_reducible exact ih1 _ _ _ _ _)
   | (with_reducible exact LeO.refl _)
   | (with_reducible exact LeO.none _)
   | (with_reducible refine LeO.ite ?_ ?_)
   | (with_reducible refine LeO.bind ?_ (fun _ => ?_))
theorem spec_l1Cur_plan.mono : ∀ a0 a1 a2 k,LeO (spec_l1Cur_plan.f k a0 a1 a2) (spec_l1Cur_plan.f (k+1) a0 a1 a2):=by
 intro a0 a1 a2 k
 obtain⟨ih0,ih1⟩:=spec_l1Cur_plan.mono_l k
 unfold spec_l1Cur_plan.f
 repeat' first
  | (with_reducible exact ih0 _ _ _ _ _)
  | (with_reducible exact ih1 _ _ _ _ _)
  | (with_reducible exact LeO.refl _)
  | (with_reducible exact LeO.none _)
  | (with_reducible refine LeO.ite ?_ ?_)
  | (with_reducible refine LeO.bind ?_ (fun _ => ?_))
def spec_l1Cur_plan.T8:Bool × List (List Nat × List Nat):=(true,[([],[]),([0],[0]),([1],[1]),([],[]),([3],[3]),([2,4],[2,4]),([0,1,2,3,4,5],[]),([6,5,4,0,1,2,3,4,5],[5,6])])
def spec_l1Cur_plan.B8:List Nat:=[0,1,3,0,8,31,63,127]
theorem spec_l1Cur_plan.tab8:rtab .any (opsOf Try.f162 8)=spec_l1Cur_plan.T8:=by kernel_rfl
theorem spec_l1Cur_plan.bits8:waitsOk spec_l1Cur_plan.T8.2 spec_l1Cur_plan.B8=true:=by kernel_rfl
set_option maxHeartbeats 8000000 in
set_option maxRecDepth 100000 in
theorem spec_l1Cur_plan.calls (k:Nat) (g:Nat) (s0_0:List Int) (s0_1:Int) (s0_2:Int) (r1:List (S104)) (r2:Int) (r3:Int) (w0 w:World) (hI:IsS138 w0 w g s0_0 s0_1 s0_2) (hB:Below w0.heap.size w0 w) (h:spec_l1Cur_plan.f k s0_0 s0_1 s0_2=some (r1,r2,r3)) :
  Calls Try.prog 162 #[.pointer (some ⟨g,0,none⟩)] w fun e w' => ∃ v0_:Value,e=.returned (v0_)∧Kd.R k104 104 w' w.heap.size (fun _=>True) v0_ r1∧IsS138 w0 w' g s0_0 r2 r3∧Below w0.heap.size w0 w'∧KeepBut w w' g none:=by
 have hu104:=Try.underlying104
 have HI0:=am hI
 have HK:=am (KeepBut.refl w g none)
 have HL:=am hB.size
 clear hI
 have HW0:=am hB.size
 have HB:=am hB
 clear hB
 have H:((spec_l1Cur_pick.f s0_0 s0_1 s0_2 10).bind fun bt392=>((spec_l1Cur_one.f s0_0 bt392.2.1 bt392.2.2 20).bind fun bt395=>(if bt395.1=true then ((spec_l1Cur_pick.f s0_0 bt395.2.1 bt395.2.2 2).bind fun bt398=>(spec_l1Cur_plan.j0 k ([]:List (S104)) (wrap64 (20+bt398.1)) s0_0 bt398.2.1 bt398.2.2)) else (spec_l1Cur_plan.j0 k ([]:List (S104)) bt392.1 s0_0 bt395.2.1 bt395.2.2))))=some (r1,r2,r3):=h
 clear h
 replace H:=bI_ H
 obtain⟨⟨t392,t393,t394⟩,A20,H⟩:=H
 replace H:((spec_l1Cur_one.f s0_0 t393 t394 20).bind fun bt395=>(if bt395.1=true then ((spec_l1Cur_pick.f s0_0 bt395.2.1 bt395.2.2 2).bind fun bt398=>(spec_l1Cur_plan.j0 k ([]:List (S104)) (wrap64 (20+bt398.1)) s0_0 bt398.2.1 bt398.2.2)) else (spec_l1Cur_plan.j0 k ([]:List (S104)) t392 s0_0 bt395.2.1 bt395.2.2)))=some (r1,r2,r3):=H
 have A2:=am A20
 clear A20
 replace H:=bI_ H
 obtain⟨⟨t395,t396,t397⟩,A30,H⟩:=H
 replace H:(if t395=true then ((spec_l1Cur_pick.f s0_0 t396 t397 2).bind fun bt398=>(spec_l1Cur_plan.j0 k ([]:List (S104)) (wrap64 (20+bt398.1)) s0_0 bt398.2.1 bt398.2.2)) else (spec_l1Cur_plan.j0 k ([]:List (S104)) t392 s0_0 t396 t397))=some (r1,r2,r3):=H
 have A3:=am A30
 clear A30
 have HC4:=am H
 clear H
 go_enter Try.func162,Try.ntmps162
 go_upto_if 9 with (first|((with_reducible refine gate_callee (f:=116) rfl ?_);refine goesA (some 7) rfl rfl Try.func116 #[.pointer (some ⟨g,0,none⟩),.int .i64 10] rfl ?_;(with_reducible refine(spec_l1Cur_pick.calls g s0_0 s0_1 s0_2 10 t392 t393 t394 w0 _ ?side1 ?side2 A2.out).mono ?_);(case side1=>exact b29_);(case side2=>exact b30_);rintro e w5 ⟨rfl,hi,hb,hk⟩;refine⟨_,rfl,?_⟩;have n0_:=am (KeepBut.trans (b0_) hk (.inl rfl));have n1_:=am (hb);have n2_:=am (hi);clear HK HB;(try clear HI0);have HK:=n0_;have HB:=n1_;have HI0:=n2_;clear n0_ n1_ n2_;(try clear hb);(try clear hb2);(try clear hk);(try clear hi))|((with_reducible refine gate_callee (f:=153) rfl ?_);refine goesA (some 9) rfl rfl Try.func153 #[.pointer (some ⟨g,0,none⟩),.int .i64 20] rfl ?_;(with_reducible refine(spec_l1Cur_one.calls g s0_0 t393 t394 20 t395 t396 t397 w0 _ ?side1 ?side2 A3.out).mono ?_);(case side1=>exact b29_);(case side2=>exact b30_);rintro e w6 ⟨rfl,hi,hb,hk⟩;refine⟨_,rfl,?_⟩;have n0_:=am (KeepBut.trans (b0_) hk (.inl rfl));have n1_:=am (hb);have n2_:=am (hi);clear HK HB;(try clear HI0);have HK:=n0_;have HB:=n1_;have HI0:=n2_;clear n0_ n1_ n2_;(try clear hb);(try clear hb2);(try clear hk);(try clear hi)))
 (try simp only[Act.put,zA,zB,zC])
 go_cut [4] (fun v4 wc => ∃ (kq:Nat) (x4_3:Int) (x1001_3:Int) (x1002_3:Int),v4=.int .i64 x4_3∧Aside0 (spec_l1Cur_plan.j0 kq ([]:List (S104)) x4_3 s0_0 x1001_3 x1002_3=some (r1,r2,r3))∧Aside0 (kq≤k)∧Aside0 (Kd.R k104 104 wc w.heap.size (fun _=>True) (.slice none 0 0) ([]:List (S104)))∧Aside0 (IsS138 w0 wc g s0_0 x1001_3 x1002_3)∧Aside0 (KeepBut w wc g none)∧Aside0 (Below w0.heap.size w0 wc))
 case first =>
  have H:=HC4.out
  clear HC4
  by_cases c7:t395=true
  ·subst c7
   have H1:((spec_l1Cur_pick.f s0_0 t396 t397 2).bind fun bt398=>(spec_l1Cur_plan.j0 k ([]:List (S104)) (wrap64 (20+bt398.1)) s0_0 bt398.2.1 bt398.2.2))=some (r1,r2,r3):=by rw[if_pos rfl] at H;exact H
   clear H
   have H:=H1
   clear H1
   replace H:=bI_ H
   obtain⟨⟨t398,t399,t400⟩,A80,H⟩:=H
   replace H:(spec_l1Cur_plan.j0 k ([]:List (S104)) (wrap64 (20+t398)) s0_0 t399 t400)=some (r1,r2,r3):=H
   have A8:=am A80
   clear A80
   have H':=am H
   clear H
   go_wp2_with (first|((with_reducible refine gate_callee (f:=116) rfl ?_);refine goesA (some 11) rfl rfl Try.func116 #[.pointer (some ⟨g,0,none⟩),.int .i64 2] rfl ?_;(with_reducible refine(spec_l1Cur_pick.calls g s0_0 t396 t397 2 t398 t399 t400 w0 _ ?side1 ?side2 A8.out).mono ?_);(case side1=>exact b29_);(case side2=>exact b30_);rintro e w9 ⟨rfl,hi,hb,hk⟩;refine⟨_,rfl,?_⟩;have n0_:=am (KeepBut.trans (b0_) hk (.inl rfl));have n1_:=am (hb);have n2_:=am (hi);clear HK HB;(try clear HI0);have HK:=n0_;have HB:=n1_;have HI0:=n2_;clear n0_ n1_ n2_;(try clear hb);(try clear hb2);(try clear hk);(try clear hi)))
   go_meet
   case rel=>exact⟨_,(wrap64 (20+t398)),(t399),(t400),(bR),H',⟨by first|omega|exact Nat.le_refl _⟩,⟨by first|exact Kd.R_nil _ _ _ _ _|exact Kd.N_nil _ _ _ _ _|exact Kd.V_nil _ _ _ _ _|exact Kd.Q_nil _ _ _ _ _|exact Kd.S_nil _ _ _ _ _⟩,⟨by repeat (first|(with_reducible first|exact HI0.out|apply IsS138.alloc|apply IsS138.drewN|apply IsS138.drew|apply IsS138.set_1|apply IsS138.set_2)|exact HI0.out)⟩,⟨by repeat (first|(with_reducible first|exact HK.out|apply KeepBut.set_|apply keep_drewN|apply keep_drew|apply keep_alloc)|exact HK.out)⟩,⟨by repeat (first|(with_reducible first|exact HB.out|apply below_alloc|apply pw_below_drewN|apply below_drew1|refine below_set ?_ (IsS138.ge HI0.out))|exact HB.out)⟩⟩
  ·replace c7:=Bool.eq_false_iff.mpr c7
   subst c7
   have H1:(spec_l1Cur_plan.j0 k ([]:List (S104)) t392 s0_0 t396 t397)=some (r1,r2,r3):=by rw[if_neg (show ¬ (false=true) by decide)] at H;exact H
   clear H
   have H:=H1
   clear H1
   have H':=am H
   clear H
   go_wp2
   go_meet
   case rel=>exact⟨_,(t392),(t396),(t397),(bR),H',⟨by first|omega|exact Nat.le_refl _⟩,⟨by first|exact Kd.R_nil _ _ _ _ _|exact Kd.N_nil _ _ _ _ _|exact Kd.V_nil _ _ _ _ _|exact Kd.Q_nil _ _ _ _ _|exact Kd.S_nil _ _ _ _ _⟩,⟨by repeat (first|(with_reducible first|exact HI0.out|apply IsS138.alloc|apply IsS138.drewN|apply IsS138.drew|apply IsS138.set_1|apply IsS138.set_2)|exact HI0.out)⟩,⟨by repeat (first|(with_reducible first|exact HK.out|apply KeepBut.set_|apply keep_drewN|apply keep_drew|apply keep_alloc)|exact HK.out)⟩,⟨by repeat (first|(with_reducible first|exact HB.out|apply below_alloc|apply pw_below_drewN|apply below_drew1|refine below_set ?_ (IsS138.ge HI0.out))|exact HB.out)⟩⟩
 case rest =>
  clear HC4
  try clear c1
  try clear p2
  try clear p6
  try clear c7
  obtain⟨kq,x4_3,x1001_3,x1002_3,rfl,HA,HJ3,HO_3,HI0,HK,HB⟩:=hcut
  cases kq with
  | zero=>exact absurd HA.out (by simp[spec_l1Cur_plan.j0])
  | succ kj3 =>
   have H:=HA.out
   clear HA
   simp only[spec_l1Cur_plan.j0] at H
   have H':=am H
   clear H
   go_wp2
   go_loopg [3,4] kj3 (fun kq v3 v4 w' => ∃ (x3_2:List (S104)) (x4_2:Int) (x1001_2:Int) (x1002_2:Int),v4=.int .i64 x4_2∧Aside0 (spec_l1Cur_plan.l0 kq x3_2 x4_2 s0_0 x1001_2 x1002_2=some (r1,r2,r3))∧Aside0 (kq≤kj3)∧Aside0 (Kd.R k104 104 w' w.heap.size (fun _=>True) v3 x3_2)∧Aside0 (IsS138 w0 w' g s0_0 x1001_2 x1002_2)∧Aside0 (KeepBut w w' g none)∧Aside0 (Below w0.heap.size w0 w'))
   case atStart=>exact⟨(([]:List (S104))),(x4_3),(x1001_3),(x1002_3),(bR),H',⟨Nat.le_refl _⟩,⟨by(with_reducible repeat (first|apply Kd.R_alloc|apply Kd.R_drewN|apply Kd.R_drew));exact HO_3.out⟩,⟨by repeat (first|(with_reducible first|exact HI0.out|apply IsS138.alloc|apply IsS138.drewN|apply IsS138.drew|apply IsS138.set_1|apply IsS138.set_2)|exact HI0.out)⟩,⟨by repeat (first|(with_reducible first|exact HK.out|apply KeepBut.set_|apply keep_drewN|apply keep_drew|apply keep_alloc)|exact HK.out)⟩,⟨by repeat (first|(with_reducible first|exact HB.out|apply below_alloc|apply pw_below_drewN|apply below_drew1|refine below_set ?_ (IsS138.ge HI0.out))|exact HB.out)⟩⟩
   case round =>
    clear H'
    try clear c1
    try clear p2
    try clear p6
    try clear c7
    try clear p2
    try clear p6
    obtain⟨x3_2,x4_2,x1001_2,x1002_2,rfl,HA,HK2,HO_3,HI0,HK,HB⟩:=hrel
    cases gk with
    | zero=>exact absurd HA.out (by simp[spec_l1Cur_plan.l0])
    | succ k2 =>
     have H:=HA.out
     clear HA
     simp only[spec_l1Cur_plan.l0] at H
     by_cases c10:x4_2 > 0
     ·rw[if_pos c10] at H
      have c10b0:decide (0 < x4_2)=true:=decide_eq_true c10
      clear c10
      replace H:=bI_ H
      obtain⟨⟨t401,t402,t403⟩,A110,H⟩:=H
      replace H:((spec_l1Cur_pick.f s0_0 t402 t403 5).bind fun bt404=>((spec_l1Cur_pick.f s0_0 bt404.2.1 bt404.2.2 40).bind fun bt407=>((spec_l1Cur_pick.f s0_0 bt407.2.1 bt407.2.2 6).bind fun bt410=>((spec_l1Cur_pick.f s0_0 bt410.2.1 bt410.2.2 30).bind fun bt414=>(if t401=bt404.1 then (if x3_2.length < 3518437208883 then (spec_l1Cur_plan.l0 k2 (x3_2++[(⟨t401,Int.tmod (wrap64 (bt404.1+1)) 5,bt407.1,wrap64 ((wrap64 (bt407.1+1))+bt414.1),bt410.1⟩:S104)]) (wrap64 (x4_2 - 1)) s0_0 bt414.2.1 bt414.2.2) else (none)) else (if x3_2.length < 3518437208883 then (spec_l1Cur_plan.l0 k2 (x3_2++[(⟨t401,bt404.1,bt407.1,wrap64 ((wrap64 (bt407.1+1))+bt414.1),bt410.1⟩:S104)]) (wrap64 (x4_2 - 1)) s0_0 bt414.2.1 bt414.2.2) else (none)))))))=some (r1,r2,r3):=H
      have A11:=am A110
      clear A110
      replace H:=bI_ H
      obtain⟨⟨t404,t405,t406⟩,A120,H⟩:=H
      replace H:((spec_l1Cur_pick.f s0_0 t405 t406 40).bind fun bt407=>((spec_l1Cur_pick.f s0_0 bt407.2.1 bt407.2.2 6).bind fun bt410=>((spec_l1Cur_pick.f s0_0 bt410.2.1 bt410.2.2 30).bind fun bt414=>(if t401=t404 then (if x3_2.length < 3518437208883 then (spec_l1Cur_plan.l0 k2 (x3_2++[(⟨t401,Int.tmod (wrap64 (t404+1)) 5,bt407.1,wrap64 ((wrap64 (bt407.1+1))+bt414.1),bt410.1⟩:S104)]) (wrap64 (x4_2 - 1)) s0_0 bt414.2.1 bt414.2.2) else (none)) else (if x3_2.length < 3518437208883 then (spec_l1Cur_plan.l0 k2 (x3_2++[(⟨t401,t404,bt407.1,wrap64 ((wrap64 (bt407.1+1))+bt414.1),bt410.1⟩:S104)]) (wrap64 (x4_2 - 1)) s0_0 bt414.2.1 bt414.2.2) else (none))))))=some (r1,r2,r3):=H
      have A12:=am A120
      clear A120
      replace H:=bI_ H
      obtain⟨⟨t407,t408,t409⟩,A130,H⟩:=H
      replace H:((spec_l1Cur_pick.f s0_0 t408 t409 6).bind fun bt410=>((spec_l1Cur_pick.f s0_0 bt410.2.1 bt410.2.2 30).bind fun bt414=>(if t401=t404 then (if x3_2.length < 3518437208883 then (spec_l1Cur_plan.l0 k2 (x3_2++[(⟨t401,Int.tmod (wrap64 (t404+1)) 5,t407,wrap64 ((wrap64 (t407+1))+bt414.1),bt410.1⟩:S104)]) (wrap64 (x4_2 - 1)) s0_0 bt414.2.1 bt414.2.2) else (none)) else (if x3_2.length < 3518437208883 then (spec_l1Cur_plan.l0 k2 (x3_2++[(⟨t401,t404,t407,wrap64 ((wrap64 (t407+1))+bt414.1),bt410.1⟩:S104)]) (wrap64 (x4_2 - 1)) s0_0 bt414.2.1 bt414.2.2) else (none)))))=some (r1,r2,r3):=H
      have A13:=am A130
      clear A130
      replace H:=bI_ H
      obtain⟨⟨t410,t411,t412⟩,A140,H⟩:=H
      replace H:((spec_l1Cur_pick.f s0_0 t411 t412 30).bind fun bt414=>(if t401=t404 then (if x3_2.length < 3518437208883 then (spec_l1Cur_plan.l0 k2 (x3_2++[(⟨t401,Int.tmod (wrap64 (t404+1)) 5,t407,wrap64 ((wrap64 (t407+1))+bt414.1),t410⟩:S104)]) (wrap64 (x4_2 - 1)) s0_0 bt414.2.1 bt414.2.2) else (none)) else (if x3_2.length < 3518437208883 then (spec_l1Cur_plan.l0 k2 (x3_2++[(⟨t401,t404,t407,wrap64 ((wrap64 (t407+1))+bt414.1),t410⟩:S104)]) (wrap64 (x4_2 - 1)) s0_0 bt414.2.1 bt414.2.2) else (none))))=some (r1,r2,r3):=H
      have A14:=am A140
      clear A140
      replace H:=bI_ H
      obtain⟨⟨t414,t415,t416⟩,A150,H⟩:=H
      replace H:(if t401=t404 then (if x3_2.length < 3518437208883 then (spec_l1Cur_plan.l0 k2 (x3_2++[(⟨t401,Int.tmod (wrap64 (t404+1)) 5,t407,wrap64 ((wrap64 (t407+1))+t414),t410⟩:S104)]) (wrap64 (x4_2 - 1)) s0_0 t415 t416) else (none)) else (if x3_2.length < 3518437208883 then (spec_l1Cur_plan.l0 k2 (x3_2++[(⟨t401,t404,t407,wrap64 ((wrap64 (t407+1))+t414),t410⟩:S104)]) (wrap64 (x4_2 - 1)) s0_0 t415 t416) else (none)))=some (r1,r2,r3):=H
      have A15:=am A150
      clear A150
      by_cases c16:t401=t404
      ·rw[if_pos c16] at H
       have c16b0:(t401 == t404)=true:=beq_iff_eq.mpr c16
       have c16b1:(t401 != t404)=false:=bne_eq_false_iff_eq.mpr c16
       clear c16
       by_cases c17:x3_2.length < 3518437208883
       ·rw[if_pos c17] at H
        have LMc17:=am c17
        clear c17
        obtain⟨y417,hy417⟩ : ∃ y_:List (S104),y_=(x3_2++[(⟨t401,Int.tmod (wrap64 (t404+1)) 5,t407,wrap64 ((wrap64 (t407+1))+t414),t410⟩:S104)]):=⟨_,rfl⟩
        replace H:(spec_l1Cur_plan.l0 k2 y417 (wrap64 (x4_2 - 1)) s0_0 t415 t416)=some (r1,r2,r3):=by first|(rw[hy417];with_reducible exact H)|(have H2_:=(Option.bind_some _ _).symm.trans H;rw[hy417];with_reducible exact H2_)|(have H2_:=(Option.bind_some _ _).symm.trans H;with_reducible exact H2_)|with_reducible exact H|(rw[hy417];exact H)|exact H
        have Ny417:=am hy417
        clear hy417
        have H':=am H
        clear H
        try go_wp2_with (first|((with_reducible refine gate_callee (f:=116) rfl ?_);refine goesA (some 18) rfl rfl Try.func116 #[.pointer (some ⟨g,0,none⟩),.int .i64 5] rfl ?_;(with_reducible refine(spec_l1Cur_pick.calls g s0_0 x1001_2 x1002_2 5 t401 t402 t403 w0 _ ?side1 ?side2 A11.out).mono ?_);(case side1=>exact b29_);(case side2=>exact b30_);rintro e w18 ⟨rfl,hi,hb,hk⟩;refine⟨_,rfl,?_⟩;have n0_:=am (Kd.R_mono (Kd.R_keep (IsS138.apart (show IsS138 w0 _ g s0_0 x1001_2 x1002_2 from by repeat (first|(with_reducible first|exact HI0.out|apply IsS138.alloc|apply IsS138.drewN|apply IsS138.drew|apply IsS138.set_1|apply IsS138.set_2)|exact HI0.out)) (bK HO_3.out) (b20_)) hk (fun _ h=>h.2)) (fun _ h=>h.1));have n1_:=am (KeepBut.trans (b0_) hk (.inl rfl));have n2_:=am (hb);have n3_:=am (hi);clear HO_3 HK HB;(try clear HI0);have HO_3:=n0_;have HK:=n1_;have HB:=n2_;have HI0:=n3_;clear n0_ n1_ n2_ n3_;(try clear hb);(try clear hb2);(try clear hk);(try clear hi))|((with_reducible refine gate_callee (f:=116) rfl ?_);refine goesA (some 20) rfl rfl Try.func116 #[.pointer (some ⟨g,0,none⟩),.int .i64 5] rfl ?_;(with_reducible refine(spec_l1Cur_pick.calls g s0_0 t402 t403 5 t404 t405 t406 w0 _ ?side1 ?side2 A12.out).mono ?_);(case side1=>exact b29_);(case side2=>exact b30_);rintro e w19 ⟨rfl,hi,hb,hk⟩;refine⟨_,rfl,?_⟩;have n0_:=am (Kd.R_mono (Kd.R_keep (IsS138.apart (show IsS138 w0 _ g s0_0 t402 t403 from by repeat (first|(with_reducible first|exact HI0.out|apply IsS138.alloc|apply IsS138.drewN|apply IsS138.drew|apply IsS138.set_1|apply IsS138.set_2)|exact HI0.out)) (bK HO_3.out) (b20_)) hk (fun _ h=>h.2)) (fun _ h=>h.1));have n1_:=am (KeepBut.trans (b0_) hk (.inl rfl));have n2_:=am (hb);have n3_:=am (hi);clear HO_3 HK HB;(try clear HI0);have HO_3:=n0_;have HK:=n1_;have HB:=n2_;have HI0:=n3_;clear n0_ n1_ n2_ n3_;(try clear hb);(try clear hb2);(try clear hk);(try clear hi))|((with_reducible refine gate_callee (f:=116) rfl ?_);refine goesA (some 22) rfl rfl Try.func116 #[.pointer (some ⟨g,0,none⟩),.int .i64 40] rfl ?_;(with_reducible refine(spec_l1Cur_pick.calls g s0_0 t405 t406 40 t407 t408 t409 w0 _ ?side1 ?side2 A13.out).mono ?_);(case side1=>exact b29_);(case side2=>exact b30_);rintro e w20 ⟨rfl,hi,hb,hk⟩;refine⟨_,rfl,?_⟩;have n0_:=am (Kd.R_mono (Kd.R_keep (IsS138.apart (show IsS138 w0 _ g s0_0 t405 t406 from by repeat (first|(with_reducible first|exact HI0.out|apply IsS138.alloc|apply IsS138.drewN|apply IsS138.drew|apply IsS138.set_1|apply IsS138.set_2)|exact HI0.out)) (bK HO_3.out) (b20_)) hk (fun _ h=>h.2)) (fun _ h=>h.1));have n1_:=am (KeepBut.trans (b0_) hk (.inl rfl));have n2_:=am (hb);have n3_:=am (hi);clear HO_3 HK HB;(try clear HI0);have HO_3:=n0_;have HK:=n1_;have HB:=n2_;have HI0:=n3_;clear n0_ n1_ n2_ n3_;(try clear hb);(try clear hb2);(try clear hk);(try clear hi))|((with_reducible refine gate_callee (f:=116) rfl ?_);refine goesA (some 24) rfl rfl Try.func116 #[.pointer (some ⟨g,0,none⟩),.int .i64 6] rfl ?_;(with_reducible refine(spec_l1Cur_pick.calls g s0_0 t408 t409 6 t410 t411 t412 w0 _ ?side1 ?side2 A14.out).mono ?_);(case side1=>exact b29_);(case side2=>exact b30_);rintro e w21 ⟨rfl,hi,hb,hk⟩;refine⟨_,rfl,?_⟩;have n0_:=am (Kd.R_mono (Kd.R_keep (IsS138.apart (show IsS138 w0 _ g s0_0 t408 t409 from by repeat (first|(with_reducible first|exact HI0.out|apply IsS138.alloc|apply IsS138.drewN|apply IsS138.drew|apply IsS138.set_1|apply IsS138.set_2)|exact HI0.out)) (bK HO_3.out) (b20_)) hk (fun _ h=>h.2)) (fun _ h=>h.1));have n1_:=am (KeepBut.trans (b0_) hk (.inl rfl));have n2_:=am (hb);have n3_:=am (hi);clear HO_3 HK HB;(try clear HI0);have HO_3:=n0_;have HK:=n1_;have HB:=n2_;have HI0:=n3_;clear n0_ n1_ n2_ n3_;(try clear hb);(try clear hb2);(try clear hk);(try clear hi))|((with_reducible refine gate_dst (N:=5) rfl ?_);refine box_event ?hg (N:=5) ?hd (cs:=#[.int .i64 0,.int .i64 0,.int .i64 0,.int .i64 0,.int .i64 0]) (t:=104) ?hr ?_;(case hd=>rfl);(case hg=>rfl);(case hr=>first|(go_simp;done)|(go_simp;rfl));intro gb413 hg w22 hbox hb;have n0_:=am (Kd.R_below (Kd.R_elderB (bK HO_3.out) gb413 (Nat.le_of_eq hg.symm)) hb);have n1_:=am (IsS138.below (b13_) hb);have n2_:=am (KeepBut.trans (b0_) (KeepBut.of_below hb g none) (.inl rfl));have n3_:=am (below_step (b14_) hb);have n4_:=am (hbox);have n5_:=am ((by rw[hg];exact(keep_size (w:=w) (g:=g) (row:=none) (b0_)):w.heap.size≤gb413));have n6_:=am ((Nat.le_trans HW0.out (by rw[hg];exact(keep_size (w:=w) (g:=g) (row:=none) (b0_)):w.heap.size≤gb413):w0.heap.size≤gb413));have n7_:=am ((by rw[hg];exact Nat.ne_of_lt (IsS138.lt (show IsS138 w0 _ g s0_0 t411 t412 from by repeat (first|(with_reducible first|exact HI0.out|apply IsS138.alloc|apply IsS138.drewN|apply IsS138.drew|apply IsS138.set_1|apply IsS138.set_2)|exact HI0.out))):g≠gb413));have n8_:=am ((by rw[hg];exact Nat.ne_of_gt (IsS138.lt (show IsS138 w0 _ g s0_0 t411 t412 from by repeat (first|(with_reducible first|exact HI0.out|apply IsS138.alloc|apply IsS138.drewN|apply IsS138.drew|apply IsS138.set_1|apply IsS138.set_2)|exact HI0.out))):gb413≠g));clear HO_3;(try clear HI0);clear HK HB;have HO_3:=n0_;have HI0:=n1_;have HK:=n2_;have HB:=n3_;have BK413:=n4_;have GW413:=n5_;have GE413:=n6_;have NB0_413:=n7_;have NB413_0:=n8_;clear n0_ n1_ n2_ n3_ n4_ n5_ n6_ n7_ n8_;clear hb hbox hg;have hnb23:=NB413_0.out;have hnc23:=NB0_413.out;obtain⟨hcz24_0,hcz24_1,hcz24_2,hcz24_3,hcz24_4⟩:=cC5 BK413.out;obtain⟨hfz24_0,hfz24_1,hfz24_2,hfz24_3,hfz24_4⟩:=cF5 BK413.out))
        have n0_:Aside0 (Kd.R k104 104 (((((w22.setCell ⟨gb413,0,none⟩ (.int .i64 t401)).setCell ⟨gb413,1,none⟩ (.int .i64 t404)).setCell ⟨gb413,2,none⟩ (.int .i64 t407)).setCell ⟨gb413,3,none⟩ (.int .i64 0)).setCell ⟨gb413,4,none⟩ (.int .i64 t410)) w.heap.size (fun k_=>k_≠gb413) u3 x3_2):=⟨by(with_reducible repeat (first|apply Kd.R_alloc|apply Kd.R_drewN|apply Kd.R_drew));exact Kd.R_mono (Kd.R_far (p:=⟨gb413,4,none⟩) (Kd.R_far (p:=⟨gb413,3,none⟩) (Kd.R_far (p:=⟨gb413,2,none⟩) (Kd.R_far (p:=⟨gb413,1,none⟩) (Kd.R_far (p:=⟨gb413,0,none⟩) (Kd.R_mono HO_3.out (fun k_ hk=>(⟨hk,hk.2⟩:_∧k_≠gb413))) (fun _ hk=>hk.2) (.int .i64 t401)) (fun _ hk=>hk.2) (.int .i64 t404)) (fun _ hk=>hk.2) (.int .i64 t407)) (fun _ hk=>hk.2) (.int .i64 0)) (fun _ hk=>hk.2) (.int .i64 t410)) (fun _ hk=>hk.1.2)⟩
        have n1_:Aside0 ((((((w22.setCell ⟨gb413,0,none⟩ (.int .i64 t401)).setCell ⟨gb413,1,none⟩ (.int .i64 t404)).setCell ⟨gb413,2,none⟩ (.int .i64 t407)).setCell ⟨gb413,3,none⟩ (.int .i64 0)).setCell ⟨gb413,4,none⟩ (.int .i64 t410)).heap[gb413]?=some (.cells #[.int .i64 t401,.int .i64 t404,.int .i64 t407,.int .i64 0,.int .i64 t410] 104 (0,0))):=⟨by(with_reducible repeat (first|refine blk_drewN ?_ _|refine blk_drew ?_|refine blk_alloc ?_ _));apply bU5;(with_reducible repeat (first|refine blk_drewN ?_ _|refine blk_drew ?_|refine blk_alloc ?_ _));exact BK413.out⟩
        have n2_:Aside0 (IsS138 w0 (((((w22.setCell ⟨gb413,0,none⟩ (.int .i64 t401)).setCell ⟨gb413,1,none⟩ (.int .i64 t404)).setCell ⟨gb413,2,none⟩ (.int .i64 t407)).setCell ⟨gb413,3,none⟩ (.int .i64 0)).setCell ⟨gb413,4,none⟩ (.int .i64 t410)) g s0_0 t411 t412):=⟨by repeat (first|(with_reducible first|exact HI0.out|apply IsS138.alloc|apply IsS138.drewN|apply IsS138.drew|apply IsS138.set_1|apply IsS138.set_2|apply IsS138.far (hne:=NB0_413.out))|exact HI0.out)⟩
        have n3_:Aside0 (KeepBut w (((((w22.setCell ⟨gb413,0,none⟩ (.int .i64 t401)).setCell ⟨gb413,1,none⟩ (.int .i64 t404)).setCell ⟨gb413,2,none⟩ (.int .i64 t407)).setCell ⟨gb413,3,none⟩ (.int .i64 0)).setCell ⟨gb413,4,none⟩ (.int .i64 t410)) g none):=⟨by repeat (first|(with_reducible first|exact HK.out|apply KeepBut.set_|apply keep_drewN|apply keep_drew|apply keep_alloc|refine keep_far ?_ GW413.out _)|exact HK.out)⟩
        have n4_:Aside0 (Below w0.heap.size w0 (((((w22.setCell ⟨gb413,0,none⟩ (.int .i64 t401)).setCell ⟨gb413,1,none⟩ (.int .i64 t404)).setCell ⟨gb413,2,none⟩ (.int .i64 t407)).setCell ⟨gb413,3,none⟩ (.int .i64 0)).setCell ⟨gb413,4,none⟩ (.int .i64 t410))):=⟨by repeat (first|(with_reducible first|exact HB.out|apply below_alloc|apply pw_below_drewN|apply below_drew1|refine below_set ?_ (IsS138.ge HI0.out)|refine below_set ?_ GE413.out)|exact HB.out)⟩
        (try clear HO_3)
        (try clear BK413)
        (try clear HI0)
        (try clear HK)
        (try clear HB)
        generalize (((((w22.setCell ⟨gb413,0,none⟩ (.int .i64 t401)).setCell ⟨gb413,1,none⟩ (.int .i64 t404)).setCell ⟨gb413,2,none⟩ (.int .i64 t407)).setCell ⟨gb413,3,none⟩ (.int .i64 0)).setCell ⟨gb413,4,none⟩ (.int .i64 t410))=w25 at n0_ n1_ n2_ n3_ n4_ ⊢
        have HO_3:=n0_
        have BK413:=n1_
        have HI0:=n2_
        have HK:=n3_
        have HB:=n4_
        clear n0_ n1_ n2_ n3_ n4_
        (try (rw[drewN_self w25];generalize hq_:World.drewN w25 _=w25;have n0_:=am (Kd.R_at hq_ HO_3.out);have n1_:=am (blk_at hq_ BK413.out);have n2_:=am (IsS138.at_ hq_ HI0.out);have n3_:=am (keep_at hq_ HK.out);have n4_:=am (below_at hq_ HB.out);clear hq_ HO_3 BK413 HI0 HK HB;have HO_3:=n0_;have BK413:=n1_;have HI0:=n2_;have HK:=n3_;have HB:=n4_;clear n0_ n1_ n2_ n3_ n4_))
        have n0_:=am (Kd.R_drew HO_3.out)
        have n1_:=am (blk_drew BK413.out)
        have n2_:=am (IsS138.drew HI0.out)
        have n3_:=am (keep_drew HK.out)
        have n4_:=am (below_drew1 HB.out)
        clear HO_3 BK413 HI0 HK HB
        have HO_3:=n0_
        have BK413:=n1_
        have HI0:=n2_
        have HK:=n3_
        have HB:=n4_
        clear n0_ n1_ n2_ n3_ n4_
        refine start_ (n:=8) (S:=fun w'=>w'.cell? ⟨gb413,0,none⟩=some (.int .i64 t401)∧w'.cell? ⟨gb413,1,none⟩=some (.int .i64 t404)∧w'.cell? ⟨gb413,2,none⟩=some (.int .i64 t407)∧w'.cell? ⟨gb413,3,none⟩=some (.int .i64 0)∧w'.cell? ⟨gb413,4,none⟩=some (.int .i64 t410)) (ds:=[7]) #[false,false,false,false,false,false,false,false] (b6_) rfl rfl (cC5 BK413.out) (fun hHeld => ?_);refine with_tabW spec_l1Cur_plan.tab8 spec_l1Cur_plan.bits8 (fun HT_ HW_ => ?_)
        generalize w25.drew=w26 at HO_3 BK413 HI0 HK HB hHeld ⊢
        refine pure_ (i:=0) (N:=some 26) (v:=?_) (a':=?_) #[true,false,false,false,false,false,false,false] rfl rfl (any_of HT_.out (b6_)) (fun _ _ _ h=>h) (Or.inl ⟨by rfl,?_⟩) ?_ ?_
        rotate_left
        ·intro w'
         go_simp
         with_reducible rfl
        rotate_left
        ·simp only[Act.put,zA,zB,zC,i64_w,i32_w]
         rfl
        refine pure_ (i:=3) (N:=some 29) (v:=?_) (a':=?_) #[true,false,false,true,false,false,false,false] rfl rfl (any_of HT_.out (b6_)) (fun _ _ _ h=>h) (Or.inl ⟨by rfl,?_⟩) ?_ ?_
        rotate_left
        ·intro w'
         go_simp
         with_reducible rfl
        rotate_left
        ·simp only[Act.put,zA,zB,zC,i64_w,i32_w]
         rfl
        refine take_ (i:=1) (N:=some 27) (v:=?_) (a':=?_) #[true,true,false,true,false,false,false,false] rfl rfl (take_ofW HT_.out HW_.out (b6_)) (fun _ _ _ h=>h) (Or.inl ⟨by rfl,?_⟩) hHeld ?_ ?_
        rotate_left
        ·rintro w' ⟨s0,s1,s2,s3,s4⟩
         go_simp
         with_reducible rfl
        rotate_left
        ·simp only[Act.put,zA,zB,zC,i64_w,i32_w]
         rfl
        refine pure_ (i:=2) (N:=some 28) (v:=?_) (a':=?_) #[true,true,true,true,false,false,false,false] rfl rfl (any_of HT_.out (b6_)) (fun _ _ _ h=>h) (Or.inl ⟨by rfl,?_⟩) ?_ ?_
        rotate_left
        ·intro w'
         go_simp
         with_reducible rfl
        rotate_left
        ·simp only[Act.put,zA,zB,zC,i64_w,i32_w]
         rfl
        refine one_ (i:=4) (N:=some 30) #[true,true,true,true,true,false,false,false] rfl rfl (one_of HT_.out (b6_)) (b20_) (fun K hK => ?_)
        refine goes_ Try.func116 (b6_) rfl #[.pointer (some ⟨g,0,none⟩),.int .i64 30] (by rfl) rfl rfl (b7_) ?_
        with_reducible refine(spec_l1Cur_pick.calls g s0_0 t411 t412 30 t414 t415 t416 w0 _ ?side1 ?side2 A15.out).mono ?_
        (case side1=>repeat (first|(with_reducible first|exact HI0.out|apply IsS138.alloc|apply IsS138.drewN|apply IsS138.drew|apply IsS138.set_1|apply IsS138.set_2|apply IsS138.far (hne:=NB0_413.out))|exact HI0.out))
        (case side2=>repeat (first|(with_reducible first|exact HB.out|apply below_alloc|apply pw_below_drewN|apply below_drew1|refine below_set ?_ (IsS138.ge HI0.out)|refine below_set ?_ GE413.out)|exact HB.out))
        rintro e w27 ⟨rfl,hi,hb,hk⟩
        refine⟨_,rfl,?_⟩
        have n0_:=am (Kd.R_mono (Kd.R_keep (IsS138.apart (show IsS138 w0 _ g s0_0 t411 t412 from by repeat (first|(with_reducible first|exact HI0.out|apply IsS138.alloc|apply IsS138.drewN|apply IsS138.drew|apply IsS138.set_1|apply IsS138.set_2|apply IsS138.far (hne:=NB0_413.out))|exact HI0.out)) (bK HO_3.out) (b20_)) hk (fun _ h=>h.2)) (fun _ h=>h.1))
        have n1_:=am (KeepBut.blk hk (g':=gb413) (o:=.cells #[.int .i64 t401,.int .i64 t404,.int .i64 t407,.int .i64 0,.int .i64 t410] 104 (0,0)) (bL BK413.out) NB413_0.out (b27_))
        have n2_:=am (KeepBut.trans (b18_) hk (.inl rfl))
        have n3_:=am (hb)
        have n4_:=am (hi)
        clear HO_3 BK413 HK HB HI0
        have HO_3:=n0_
        have BK413:=n1_
        have HK:=n2_
        have HB:=n3_
        have HI0:=n4_
        clear n0_ n1_ n2_ n3_ n4_
        (try clear hb)
        (try clear hb2)
        (try clear hk)
        (try clear hi)
        refine hK.out _ _ (cC5 BK413.out) (fun hHeld => ?_)
        clear hK K
        refine norm_ (a':=?_) ?_ ?_
        rotate_left
        ·show Act.put _ (some 30) _=_
         simp only[Act.put,zA,zB,zC,i64_w,i32_w]
         rfl
        refine pure_ (i:=5) (N:=some 31) (v:=?_) (a':=?_) #[true,true,true,true,true,true,false,false] rfl rfl (any_of HT_.out (b6_)) (fun _ _ _ h=>h) (Or.inl ⟨by rfl,?_⟩) ?_ ?_
        rotate_left
        ·intro w'
         go_simp
         with_reducible rfl
        rotate_left
        ·simp only[Act.put,zA,zB,zC,i64_w,i32_w]
         rfl
        refine pure_ (i:=6) (N:=some 32) (v:=?_) (a':=?_) #[true,true,true,true,true,true,true,false] rfl rfl (any_of HT_.out (b6_)) (fun _ _ _ h=>h) (Or.inl ⟨by rfl,?_⟩) ?_ ?_
        rotate_left
        ·intro w'
         go_simp
         with_reducible rfl
        rotate_left
        ·simp only[Act.put,zA,zB,zC,i64_w,i32_w]
         rfl
        refine last_ (i:=7) (N:=none) #[true,true,true,true,true,true,true,true] rfl rfl (one_of HT_.out (b6_)) (b20_) (fun K hK => ?_)
        have hs28:w27.cell? ⟨gb413,3,none⟩=some (.int .i64 0):=(blk_cell BK413.out 3).trans rfl
        have hfs28:=blk_frozen BK413.out 3
        refine skip_ (w1:=?_) (by rfl) rfl ?_ ?_
        rotate_left
        ·go_simp
         rfl
        refine hK.out _ _ ?_
        clear hK K
        refine done_ (done_of HT_.out (b6_)) ?_
        obtain⟨hcz29_0,hcz29_1,hcz29_2,hcz29_3,hcz29_4⟩:=cC5 BK413.out
        obtain⟨hfz29_0,hfz29_1,hfz29_2,hfz29_3,hfz29_4⟩:=cF5 BK413.out
        try go_wp2_with (first|((with_reducible refine gate_builtin (b:=.append) (xs:=#[.tmp 43,.tmp 45]) rfl ?_);at_builtin;refine Kd.R_append k104 w.heap.size rfl (.tmp 43) (.tmp 45) 40 104 (.agg #[(.int .i64 0),(.int .i64 0),(.int .i64 0),(.int .i64 0),(.int .i64 0)]) 40 rfl Try.underlying40 info104 rfl (b20_) (b28_) u3 x3_2 (⟨t401,Int.tmod (wrap64 (t404+1)) 5,t407,wrap64 ((wrap64 (t407+1))+t414),t410⟩:S104) [.int .i64 t401,.int .i64 (Int.tmod (wrap64 (t404+1)) 5),.int .i64 t407,.int .i64 (wrap64 ((wrap64 (t407+1))+t414)),.int .i64 t410] (fun k_=>k_≠gb413) (fun _=>False) rfl (by first|(go_simp;done)|(go_simp;rfl)) ?aP (fun _ hk=>hk.elim) ?aF ?aO (Below.refl _ _) ?aS ?aL ?_;(case aP=>exact k104_mkM _ _ _ (⟨t401,Int.tmod (wrap64 (t404+1)) 5,t407,wrap64 ((wrap64 (t407+1))+t414),t410⟩:S104));(case aF=>exact(fun k_ hk=>Kd.freshB (g:=gb413) (o:=.cells #[.int .i64 t401,.int .i64 (Int.tmod (wrap64 (t404+1)) 5),.int .i64 t407,.int .i64 (wrap64 ((wrap64 (t407+1))+t414)),.int .i64 t410] 104 (0,0)) (b17_) k_ hk));(case aO=>exact(by(with_reducible repeat (first|apply Kd.R_alloc|apply Kd.R_drewN|apply Kd.R_drew));exact Kd.R_mono (Kd.R_far (p:=⟨gb413,1,none⟩) (Kd.R_far (p:=⟨gb413,3,none⟩) (Kd.R_mono HO_3.out (fun k_ hk=>(⟨hk,hk⟩:_∧k_≠gb413))) (fun _ hk=>hk.2) (.int .i64 (wrap64 ((wrap64 (t407+1))+t414)))) (fun _ hk=>hk.2) (.int .i64 (Int.tmod (wrap64 (t404+1)) 5))) (fun _ hk=>hk.1)));(case aS=>exact(keep_size (w:=w) (g:=g) (row:=none) (b18_)));(case aL=>have:=LMc17.out;omega);intro v418 w30 ho hb hg hat;rw[← Ny417.out] at ho;have n0_:=am (IsS138.grown (by repeat (first|(with_reducible first|exact HI0.out|apply IsS138.alloc|apply IsS138.drewN|apply IsS138.drew|apply IsS138.set_1|apply IsS138.set_2|apply IsS138.far (hne:=NB0_413.out))|exact HI0.out)) hg (IsS138.own_ne HI0.out HO_3.out (b20_)));have n1_:=am (blk_grown (g:=gb413) (o:=.cells #[.int .i64 t401,.int .i64 (Int.tmod (wrap64 (t404+1)) 5),.int .i64 t407,.int .i64 (wrap64 ((wrap64 (t407+1))+t414)),.int .i64 t410] 104 (0,0)) (b17_) hg (Kd.R_away HO_3.out (fun _ hk=>hk)));have n2_:=am (below_weaken (by repeat (first|(with_reducible first|exact HB.out|apply below_alloc|apply pw_below_drewN|apply below_drew1|refine below_set ?_ (IsS138.ge HI0.out)|refine below_set ?_ GE413.out)|exact HB.out)) HL.out hb);have n3_:=am (KeepBut.trans (b18_) (KeepBut.of_grown hg g) (Kd.R_base2 HO_3.out));have n4_:=am (ho);(try clear HI0);clear BK413 HB HK HO_3;have HI0:=n0_;have BK413:=n1_;have HB:=n2_;have HK:=n3_;have HO419:=n4_;clear n0_ n1_ n2_ n3_ n4_;clear ho hb hg hat))
        go_roundg k2
        case measure=>have:=HJ3.out;have:=HK2.out;omega
        case rel=>exact⟨(y417),(wrap64 (x4_2 - 1)),(t415),(t416),(bR),H',⟨by have:=HJ3.out;have:=HK2.out;omega⟩,⟨by(with_reducible repeat (first|apply Kd.R_alloc|apply Kd.R_drewN|apply Kd.R_drew));exact Kd.R_mono HO419.out (fun _ hk=>trivial)⟩,⟨by repeat (first|(with_reducible first|exact HI0.out|apply IsS138.alloc|apply IsS138.drewN|apply IsS138.drew|apply IsS138.set_1|apply IsS138.set_2|apply IsS138.far (hne:=NB0_413.out))|exact HI0.out)⟩,⟨by repeat (first|(with_reducible first|exact HK.out|apply KeepBut.set_|apply keep_drewN|apply keep_drew|apply keep_alloc|refine keep_far ?_ GW413.out _)|exact HK.out)⟩,⟨by repeat (first|(with_reducible first|exact HB.out|apply below_alloc|apply pw_below_drewN|apply below_drew1|refine below_set ?_ (IsS138.ge HI0.out)|refine below_set ?_ GE413.out)|exact HB.out)⟩⟩
       ·rw[if_neg c17] at H
        exact absurd H (b27_)
      ·rw[if_neg c16] at H
       have c16b0:(t401 == t404)=false:=beq_eq_false_iff_ne.mpr c16
       have c16b1:(t401 != t404)=true:=bne_iff_ne.mpr c16
       by_cases c31:x3_2.length < 3518437208883
       ·rw[if_pos c31] at H
        have LMc31:=am c31
        clear c31
        obtain⟨y420,hy420⟩ : ∃ y_:List (S104),y_=(x3_2++[(⟨t401,t404,t407,wrap64 ((wrap64 (t407+1))+t414),t410⟩:S104)]):=⟨_,rfl⟩
        replace H:(spec_l1Cur_plan.l0 k2 y420 (wrap64 (x4_2 - 1)) s0_0 t415 t416)=some (r1,r2,r3):=by first|(rw[hy420];with_reducible exact H)|(have H2_:=(Option.bind_some _ _).symm.trans H;rw[hy420];with_reducible exact H2_)|(have H2_:=(Option.bind_some _ _).symm.trans H;with_reducible exact H2_)|with_reducible exact H|(rw[hy420];exact H)|exact H
        have Ny420:=am hy420
        clear hy420
        have H':=am H
        clear H
        try go_wp2_with (first|((with_reducible refine gate_callee (f:=116) rfl ?_);refine goesA (some 18) rfl rfl Try.func116 #[.pointer (some ⟨g,0,none⟩),.int .i64 5] rfl ?_;(with_reducible refine(spec_l1Cur_pick.calls g s0_0 x1001_2 x1002_2 5 t401 t402 t403 w0 _ ?side1 ?side2 A11.out).mono ?_);(case side1=>exact b29_);(case side2=>exact b30_);rintro e w32 ⟨rfl,hi,hb,hk⟩;refine⟨_,rfl,?_⟩;have n0_:=am (Kd.R_mono (Kd.R_keep (IsS138.apart (show IsS138 w0 _ g s0_0 x1001_2 x1002_2 from by repeat (first|(with_reducible first|exact HI0.out|apply IsS138.alloc|apply IsS138.drewN|apply IsS138.drew|apply IsS138.set_1|apply IsS138.set_2)|exact HI0.out)) (bK HO_3.out) (b20_)) hk (fun _ h=>h.2)) (fun _ h=>h.1));have n1_:=am (KeepBut.trans (b0_) hk (.inl rfl));have n2_:=am (hb);have n3_:=am (hi);clear HO_3 HK HB;(try clear HI0);have HO_3:=n0_;have HK:=n1_;have HB:=n2_;have HI0:=n3_;clear n0_ n1_ n2_ n3_;(try clear hb);(try clear hb2);(try clear hk);(try clear hi))|((with_reducible refine gate_callee (f:=116) rfl ?_);refine goesA (some 20) rfl rfl Try.func116 #[.pointer (some ⟨g,0,none⟩),.int .i64 5] rfl ?_;(with_reducible refine(spec_l1Cur_pick.calls g s0_0 t402 t403 5 t404 t405 t406 w0 _ ?side1 ?side2 A12.out).mono ?_);(case side1=>exact b29_);(case side2=>exact b30_);rintro e w33 ⟨rfl,hi,hb,hk⟩;refine⟨_,rfl,?_⟩;have n0_:=am (Kd.R_mono (Kd.R_keep (IsS138.apart (show IsS138 w0 _ g s0_0 t402 t403 from by repeat (first|(with_reducible first|exact HI0.out|apply IsS138.alloc|apply IsS138.drewN|apply IsS138.drew|apply IsS138.set_1|apply IsS138.set_2)|exact HI0.out)) (bK HO_3.out) (b20_)) hk (fun _ h=>h.2)) (fun _ h=>h.1));have n1_:=am (KeepBut.trans (b0_) hk (.inl rfl));have n2_:=am (hb);have n3_:=am (hi);clear HO_3 HK HB;(try clear HI0);have HO_3:=n0_;have HK:=n1_;have HB:=n2_;have HI0:=n3_;clear n0_ n1_ n2_ n3_;(try clear hb);(try clear hb2);(try clear hk);(try clear hi))|((with_reducible refine gate_callee (f:=116) rfl ?_);refine goesA (some 22) rfl rfl Try.func116 #[.pointer (some ⟨g,0,none⟩),.int .i64 40] rfl ?_;(with_reducible refine(spec_l1Cur_pick.calls g s0_0 t405 t406 40 t407 t408 t409 w0 _ ?side1 ?side2 A13.out).mono ?_);(case side1=>exact b29_);(case side2=>exact b30_);rintro e w34 ⟨rfl,hi,hb,hk⟩;refine⟨_,rfl,?_⟩;have n0_:=am (Kd.R_mono (Kd.R_keep (IsS138.apart (show IsS138 w0 _ g s0_0 t405 t406 from by repeat (first|(with_reducible first|exact HI0.out|apply IsS138.alloc|apply IsS138.drewN|apply IsS138.drew|apply IsS138.set_1|apply IsS138.set_2)|exact HI0.out)) (bK HO_3.out) (b20_)) hk (fun _ h=>h.2)) (fun _ h=>h.1));have n1_:=am (KeepBut.trans (b0_) hk (.inl rfl));have n2_:=am (hb);have n3_:=am (hi);clear HO_3 HK HB;(try clear HI0);have HO_3:=n0_;have HK:=n1_;have HB:=n2_;have HI0:=n3_;clear n0_ n1_ n2_ n3_;(try clear hb);(try clear hb2);(try clear hk);(try clear hi))|((with_reducible refine gate_callee (f:=116) rfl ?_);refine goesA (some 24) rfl rfl Try.func116 #[.pointer (some ⟨g,0,none⟩),.int .i64 6] rfl ?_;(with_reducible refine(spec_l1Cur_pick.calls g s0_0 t408 t409 6 t410 t411 t412 w0 _ ?side1 ?side2 A14.out).mono ?_);(case side1=>exact b29_);(case side2=>exact b30_);rintro e w35 ⟨rfl,hi,hb,hk⟩;refine⟨_,rfl,?_⟩;have n0_:=am (Kd.R_mono (Kd.R_keep (IsS138.apart (show IsS138 w0 _ g s0_0 t408 t409 from by repeat (first|(with_reducible first|exact HI0.out|apply IsS138.alloc|apply IsS138.drewN|apply IsS138.drew|apply IsS138.set_1|apply IsS138.set_2)|exact HI0.out)) (bK HO_3.out) (b20_)) hk (fun _ h=>h.2)) (fun _ h=>h.1));have n1_:=am (KeepBut.trans (b0_) hk (.inl rfl));have n2_:=am (hb);have n3_:=am (hi);clear HO_3 HK HB;(try clear HI0);have HO_3:=n0_;have HK:=n1_;have HB:=n2_;have HI0:=n3_;clear n0_ n1_ n2_ n3_;(try clear hb);(try clear hb2);(try clear hk);(try clear hi))|((with_reducible refine gate_dst (N:=5) rfl ?_);refine box_event ?hg (N:=5) ?hd (cs:=#[.int .i64 0,.int .i64 0,.int .i64 0,.int .i64 0,.int .i64 0]) (t:=104) ?hr ?_;(case hd=>rfl);(case hg=>rfl);(case hr=>first|(go_simp;done)|(go_simp;rfl));intro gb413 hg w36 hbox hb;have n0_:=am (Kd.R_below (Kd.R_elderB (bK HO_3.out) gb413 (Nat.le_of_eq hg.symm)) hb);have n1_:=am (IsS138.below (b13_) hb);have n2_:=am (KeepBut.trans (b0_) (KeepBut.of_below hb g none) (.inl rfl));have n3_:=am (below_step (b14_) hb);have n4_:=am (hbox);have n5_:=am ((by rw[hg];exact(keep_size (w:=w) (g:=g) (row:=none) (b0_)):w.heap.size≤gb413));have n6_:=am ((Nat.le_trans HW0.out (by rw[hg];exact(keep_size (w:=w) (g:=g) (row:=none) (b0_)):w.heap.size≤gb413):w0.heap.size≤gb413));have n7_:=am ((by rw[hg];exact Nat.ne_of_lt (IsS138.lt (show IsS138 w0 _ g s0_0 t411 t412 from by repeat (first|(with_reducible first|exact HI0.out|apply IsS138.alloc|apply IsS138.drewN|apply IsS138.drew|apply IsS138.set_1|apply IsS138.set_2)|exact HI0.out))):g≠gb413));have n8_:=am ((by rw[hg];exact Nat.ne_of_gt (IsS138.lt (show IsS138 w0 _ g s0_0 t411 t412 from by repeat (first|(with_reducible first|exact HI0.out|apply IsS138.alloc|apply IsS138.drewN|apply IsS138.drew|apply IsS138.set_1|apply IsS138.set_2)|exact HI0.out))):gb413≠g));clear HO_3;(try clear HI0);clear HK HB;have HO_3:=n0_;have HI0:=n1_;have HK:=n2_;have HB:=n3_;have BK413:=n4_;have GW413:=n5_;have GE413:=n6_;have NB0_413:=n7_;have NB413_0:=n8_;clear n0_ n1_ n2_ n3_ n4_ n5_ n6_ n7_ n8_;clear hb hbox hg;have hnb37:=NB413_0.out;have hnc37:=NB0_413.out;obtain⟨hcz38_0,hcz38_1,hcz38_2,hcz38_3,hcz38_4⟩:=cC5 BK413.out;obtain⟨hfz38_0,hfz38_1,hfz38_2,hfz38_3,hfz38_4⟩:=cF5 BK413.out))
        have n0_:Aside0 (Kd.R k104 104 (((((w36.setCell ⟨gb413,0,none⟩ (.int .i64 t401)).setCell ⟨gb413,1,none⟩ (.int .i64 t404)).setCell ⟨gb413,2,none⟩ (.int .i64 t407)).setCell ⟨gb413,3,none⟩ (.int .i64 0)).setCell ⟨gb413,4,none⟩ (.int .i64 t410)) w.heap.size (fun k_=>k_≠gb413) u3 x3_2):=⟨by(with_reducible repeat (first|apply Kd.R_alloc|apply Kd.R_drewN|apply Kd.R_drew));exact Kd.R_mono (Kd.R_far (p:=⟨gb413,4,none⟩) (Kd.R_far (p:=⟨gb413,3,none⟩) (Kd.R_far (p:=⟨gb413,2,none⟩) (Kd.R_far (p:=⟨gb413,1,none⟩) (Kd.R_far (p:=⟨gb413,0,none⟩) (Kd.R_mono HO_3.out (fun k_ hk=>(⟨hk,hk.2⟩:_∧k_≠gb413))) (fun _ hk=>hk.2) (.int .i64 t401)) (fun _ hk=>hk.2) (.int .i64 t404)) (fun _ hk=>hk.2) (.int .i64 t407)) (fun _ hk=>hk.2) (.int .i64 0)) (fun _ hk=>hk.2) (.int .i64 t410)) (fun _ hk=>hk.1.2)⟩
        have n1_:Aside0 ((((((w36.setCell ⟨gb413,0,none⟩ (.int .i64 t401)).setCell ⟨gb413,1,none⟩ (.int .i64 t404)).setCell ⟨gb413,2,none⟩ (.int .i64 t407)).setCell ⟨gb413,3,none⟩ (.int .i64 0)).setCell ⟨gb413,4,none⟩ (.int .i64 t410)).heap[gb413]?=some (.cells #[.int .i64 t401,.int .i64 t404,.int .i64 t407,.int .i64 0,.int .i64 t410] 104 (0,0))):=⟨by(with_reducible repeat (first|refine blk_drewN ?_ _|refine blk_drew ?_|refine blk_alloc ?_ _));apply bU5;(with_reducible repeat (first|refine blk_drewN ?_ _|refine blk_drew ?_|refine blk_alloc ?_ _));exact BK413.out⟩
        have n2_:Aside0 (IsS138 w0 (((((w36.setCell ⟨gb413,0,none⟩ (.int .i64 t401)).setCell ⟨gb413,1,none⟩ (.int .i64 t404)).setCell ⟨gb413,2,none⟩ (.int .i64 t407)).setCell ⟨gb413,3,none⟩ (.int .i64 0)).setCell ⟨gb413,4,none⟩ (.int .i64 t410)) g s0_0 t411 t412):=⟨by repeat (first|(with_reducible first|exact HI0.out|apply IsS138.alloc|apply IsS138.drewN|apply IsS138.drew|apply IsS138.set_1|apply IsS138.set_2|apply IsS138.far (hne:=NB0_413.out))|exact HI0.out)⟩
        have n3_:Aside0 (KeepBut w (((((w36.setCell ⟨gb413,0,none⟩ (.int .i64 t401)).setCell ⟨gb413,1,none⟩ (.int .i64 t404)).setCell ⟨gb413,2,none⟩ (.int .i64 t407)).setCell ⟨gb413,3,none⟩ (.int .i64 0)).setCell ⟨gb413,4,none⟩ (.int .i64 t410)) g none):=⟨by repeat (first|(with_reducible first|exact HK.out|apply KeepBut.set_|apply keep_drewN|apply keep_drew|apply keep_alloc|refine keep_far ?_ GW413.out _)|exact HK.out)⟩
        have n4_:Aside0 (Below w0.heap.size w0 (((((w36.setCell ⟨gb413,0,none⟩ (.int .i64 t401)).setCell ⟨gb413,1,none⟩ (.int .i64 t404)).setCell ⟨gb413,2,none⟩ (.int .i64 t407)).setCell ⟨gb413,3,none⟩ (.int .i64 0)).setCell ⟨gb413,4,none⟩ (.int .i64 t410))):=⟨by repeat (first|(with_reducible first|exact HB.out|apply below_alloc|apply pw_below_drewN|apply below_drew1|refine below_set ?_ (IsS138.ge HI0.out)|refine below_set ?_ GE413.out)|exact HB.out)⟩
        (try clear HO_3)
        (try clear BK413)
        (try clear HI0)
        (try clear HK)
        (try clear HB)
        generalize (((((w36.setCell ⟨gb413,0,none⟩ (.int .i64 t401)).setCell ⟨gb413,1,none⟩ (.int .i64 t404)).setCell ⟨gb413,2,none⟩ (.int .i64 t407)).setCell ⟨gb413,3,none⟩ (.int .i64 0)).setCell ⟨gb413,4,none⟩ (.int .i64 t410))=w39 at n0_ n1_ n2_ n3_ n4_ ⊢
        have HO_3:=n0_
        have BK413:=n1_
        have HI0:=n2_
        have HK:=n3_
        have HB:=n4_
        clear n0_ n1_ n2_ n3_ n4_
        (try (rw[drewN_self w39];generalize hq_:World.drewN w39 _=w39;have n0_:=am (Kd.R_at hq_ HO_3.out);have n1_:=am (blk_at hq_ BK413.out);have n2_:=am (IsS138.at_ hq_ HI0.out);have n3_:=am (keep_at hq_ HK.out);have n4_:=am (below_at hq_ HB.out);clear hq_ HO_3 BK413 HI0 HK HB;have HO_3:=n0_;have BK413:=n1_;have HI0:=n2_;have HK:=n3_;have HB:=n4_;clear n0_ n1_ n2_ n3_ n4_))
        have n0_:=am (Kd.R_drew HO_3.out)
        have n1_:=am (blk_drew BK413.out)
        have n2_:=am (IsS138.drew HI0.out)
        have n3_:=am (keep_drew HK.out)
        have n4_:=am (below_drew1 HB.out)
        clear HO_3 BK413 HI0 HK HB
        have HO_3:=n0_
        have BK413:=n1_
        have HI0:=n2_
        have HK:=n3_
        have HB:=n4_
        clear n0_ n1_ n2_ n3_ n4_
        refine start_ (n:=8) (S:=fun w'=>w'.cell? ⟨gb413,0,none⟩=some (.int .i64 t401)∧w'.cell? ⟨gb413,1,none⟩=some (.int .i64 t404)∧w'.cell? ⟨gb413,2,none⟩=some (.int .i64 t407)∧w'.cell? ⟨gb413,3,none⟩=some (.int .i64 0)∧w'.cell? ⟨gb413,4,none⟩=some (.int .i64 t410)) (ds:=[7]) #[false,false,false,false,false,false,false,false] (b6_) rfl rfl (cC5 BK413.out) (fun hHeld => ?_);refine with_tabW spec_l1Cur_plan.tab8 spec_l1Cur_plan.bits8 (fun HT_ HW_ => ?_)
        generalize w39.drew=w40 at HO_3 BK413 HI0 HK HB hHeld ⊢
        refine pure_ (i:=0) (N:=some 26) (v:=?_) (a':=?_) #[true,false,false,false,false,false,false,false] rfl rfl (any_of HT_.out (b6_)) (fun _ _ _ h=>h) (Or.inl ⟨by rfl,?_⟩) ?_ ?_
        rotate_left
        ·intro w'
         go_simp
         with_reducible rfl
        rotate_left
        ·simp only[Act.put,zA,zB,zC,i64_w,i32_w]
         rfl
        refine pure_ (i:=3) (N:=some 29) (v:=?_) (a':=?_) #[true,false,false,true,false,false,false,false] rfl rfl (any_of HT_.out (b6_)) (fun _ _ _ h=>h) (Or.inl ⟨by rfl,?_⟩) ?_ ?_
        rotate_left
        ·intro w'
         go_simp
         with_reducible rfl
        rotate_left
        ·simp only[Act.put,zA,zB,zC,i64_w,i32_w]
         rfl
        refine take_ (i:=1) (N:=some 27) (v:=?_) (a':=?_) #[true,true,false,true,false,false,false,false] rfl rfl (take_ofW HT_.out HW_.out (b6_)) (fun _ _ _ h=>h) (Or.inl ⟨by rfl,?_⟩) hHeld ?_ ?_
        rotate_left
        ·rintro w' ⟨s0,s1,s2,s3,s4⟩
         go_simp
         with_reducible rfl
        rotate_left
        ·simp only[Act.put,zA,zB,zC,i64_w,i32_w]
         rfl
        refine pure_ (i:=2) (N:=some 28) (v:=?_) (a':=?_) #[true,true,true,true,false,false,false,false] rfl rfl (any_of HT_.out (b6_)) (fun _ _ _ h=>h) (Or.inl ⟨by rfl,?_⟩) ?_ ?_
        rotate_left
        ·intro w'
         go_simp
         with_reducible rfl
        rotate_left
        ·simp only[Act.put,zA,zB,zC,i64_w,i32_w]
         rfl
        refine one_ (i:=4) (N:=some 30) #[true,true,true,true,true,false,false,false] rfl rfl (one_of HT_.out (b6_)) (b20_) (fun K hK => ?_)
        refine goes_ Try.func116 (b6_) rfl #[.pointer (some ⟨g,0,none⟩),.int .i64 30] (by rfl) rfl rfl (b7_) ?_
        with_reducible refine(spec_l1Cur_pick.calls g s0_0 t411 t412 30 t414 t415 t416 w0 _ ?side1 ?side2 A15.out).mono ?_
        (case side1=>repeat (first|(with_reducible first|exact HI0.out|apply IsS138.alloc|apply IsS138.drewN|apply IsS138.drew|apply IsS138.set_1|apply IsS138.set_2|apply IsS138.far (hne:=NB0_413.out))|exact HI0.out))
        (case side2=>repeat (first|(with_reducible first|exact HB.out|apply below_alloc|apply pw_below_drewN|apply below_drew1|refine below_set ?_ (IsS138.ge HI0.out)|refine below_set ?_ GE413.out)|exact HB.out))
        rintro e w41 ⟨rfl,hi,hb,hk⟩
        refine⟨_,rfl,?_⟩
        have n0_:=am (Kd.R_mono (Kd.R_keep (IsS138.apart (show IsS138 w0 _ g s0_0 t411 t412 from by repeat (first|(with_reducible first|exact HI0.out|apply IsS138.alloc|apply IsS138.drewN|apply IsS138.drew|apply IsS138.set_1|apply IsS138.set_2|apply IsS138.far (hne:=NB0_413.out))|exact HI0.out)) (bK HO_3.out) (b20_)) hk (fun _ h=>h.2)) (fun _ h=>h.1))
        have n1_:=am (KeepBut.blk hk (g':=gb413) (o:=.cells #[.int .i64 t401,.int .i64 t404,.int .i64 t407,.int .i64 0,.int .i64 t410] 104 (0,0)) (bL BK413.out) NB413_0.out (b27_))
        have n2_:=am (KeepBut.trans (b18_) hk (.inl rfl))
        have n3_:=am (hb)
        have n4_:=am (hi)
        clear HO_3 BK413 HK HB HI0
        have HO_3:=n0_
        have BK413:=n1_
        have HK:=n2_
        have HB:=n3_
        have HI0:=n4_
        clear n0_ n1_ n2_ n3_ n4_
        (try clear hb)
        (try clear hb2)
        (try clear hk)
        (try clear hi)
        refine hK.out _ _ (cC5 BK413.out) (fun hHeld => ?_)
        clear hK K
        refine norm_ (a':=?_) ?_ ?_
        rotate_left
        ·show Act.put _ (some 30) _=_
         simp only[Act.put,zA,zB,zC,i64_w,i32_w]
         rfl
        refine pure_ (i:=5) (N:=some 31) (v:=?_) (a':=?_) #[true,true,true,true,true,true,false,false] rfl rfl (any_of HT_.out (b6_)) (fun _ _ _ h=>h) (Or.inl ⟨by rfl,?_⟩) ?_ ?_
        rotate_left
        ·intro w'
         go_simp
         with_reducible rfl
        rotate_left
        ·simp only[Act.put,zA,zB,zC,i64_w,i32_w]
         rfl
        refine pure_ (i:=6) (N:=some 32) (v:=?_) (a':=?_) #[true,true,true,true,true,true,true,false] rfl rfl (any_of HT_.out (b6_)) (fun _ _ _ h=>h) (Or.inl ⟨by rfl,?_⟩) ?_ ?_
        rotate_left
        ·intro w'
         go_simp
         with_reducible rfl
        rotate_left
        ·simp only[Act.put,zA,zB,zC,i64_w,i32_w]
         rfl
        refine last_ (i:=7) (N:=none) #[true,true,true,true,true,true,true,true] rfl rfl (one_of HT_.out (b6_)) (b20_) (fun K hK => ?_)
        have hs42:w41.cell? ⟨gb413,3,none⟩=some (.int .i64 0):=(blk_cell BK413.out 3).trans rfl
        have hfs42:=blk_frozen BK413.out 3
        refine skip_ (w1:=?_) (by rfl) rfl ?_ ?_
        rotate_left
        ·go_simp
         rfl
        refine hK.out _ _ ?_
        clear hK K
        refine done_ (done_of HT_.out (b6_)) ?_
        obtain⟨hcz43_0,hcz43_1,hcz43_2,hcz43_3,hcz43_4⟩:=cC5 BK413.out
        obtain⟨hfz43_0,hfz43_1,hfz43_2,hfz43_3,hfz43_4⟩:=cF5 BK413.out
        try go_wp2_with (first|((with_reducible refine gate_builtin (b:=.append) (xs:=#[.tmp 43,.tmp 45]) rfl ?_);at_builtin;refine Kd.R_append k104 w.heap.size rfl (.tmp 43) (.tmp 45) 40 104 (.agg #[(.int .i64 0),(.int .i64 0),(.int .i64 0),(.int .i64 0),(.int .i64 0)]) 40 rfl Try.underlying40 info104 rfl (b20_) (b28_) u3 x3_2 (⟨t401,t404,t407,wrap64 ((wrap64 (t407+1))+t414),t410⟩:S104) [.int .i64 t401,.int .i64 t404,.int .i64 t407,.int .i64 (wrap64 ((wrap64 (t407+1))+t414)),.int .i64 t410] (fun k_=>k_≠gb413) (fun _=>False) rfl (by first|(go_simp;done)|(go_simp;rfl)) ?aP (fun _ hk=>hk.elim) ?aF ?aO (Below.refl _ _) ?aS ?aL ?_;(case aP=>exact k104_mkM _ _ _ (⟨t401,t404,t407,wrap64 ((wrap64 (t407+1))+t414),t410⟩:S104));(case aF=>exact(fun k_ hk=>Kd.freshB (g:=gb413) (o:=.cells #[.int .i64 t401,.int .i64 t404,.int .i64 t407,.int .i64 (wrap64 ((wrap64 (t407+1))+t414)),.int .i64 t410] 104 (0,0)) (by(with_reducible repeat (first|refine blk_drewN ?_ _|refine blk_drew ?_|refine blk_alloc ?_ _));refine blk_put (cs:=#[.int .i64 t401,.int .i64 t404,.int .i64 t407,.int .i64 0,.int .i64 t410]) ?_ 3 _ rfl;(with_reducible repeat (first|refine blk_drewN ?_ _|refine blk_drew ?_|refine blk_alloc ?_ _));exact BK413.out) k_ hk));(case aO=>exact(by(with_reducible repeat (first|apply Kd.R_alloc|apply Kd.R_drewN|apply Kd.R_drew));exact Kd.R_mono (Kd.R_far (p:=⟨gb413,3,none⟩) (Kd.R_mono HO_3.out (fun k_ hk=>(⟨hk,hk⟩:_∧k_≠gb413))) (fun _ hk=>hk.2) (.int .i64 (wrap64 ((wrap64 (t407+1))+t414)))) (fun _ hk=>hk.1)));(case aS=>exact(keep_size (w:=w) (g:=g) (row:=none) (b18_)));(case aL=>have:=LMc31.out;omega);intro v421 w44 ho hb hg hat;rw[← Ny420.out] at ho;have n0_:=am (IsS138.grown (by repeat (first|(with_reducible first|exact HI0.out|apply IsS138.alloc|apply IsS138.drewN|apply IsS138.drew|apply IsS138.set_1|apply IsS138.set_2|apply IsS138.far (hne:=NB0_413.out))|exact HI0.out)) hg (IsS138.own_ne HI0.out HO_3.out (b20_)));have n1_:=am (blk_grown (g:=gb413) (o:=.cells #[.int .i64 t401,.int .i64 t404,.int .i64 t407,.int .i64 (wrap64 ((wrap64 (t407+1))+t414)),.int .i64 t410] 104 (0,0)) (by(with_reducible repeat (first|refine blk_drewN ?_ _|refine blk_drew ?_|refine blk_alloc ?_ _));refine blk_put (cs:=#[.int .i64 t401,.int .i64 t404,.int .i64 t407,.int .i64 0,.int .i64 t410]) ?_ 3 _ rfl;(with_reducible repeat (first|refine blk_drewN ?_ _|refine blk_drew ?_|refine blk_alloc ?_ _));exact BK413.out) hg (Kd.R_away HO_3.out (fun _ hk=>hk)));have n2_:=am (below_weaken (by repeat (first|(with_reducible first|exact HB.out|apply below_alloc|apply pw_below_drewN|apply below_drew1|refine below_set ?_ (IsS138.ge HI0.out)|refine below_set ?_ GE413.out)|exact HB.out)) HL.out hb);have n3_:=am (KeepBut.trans (b18_) (KeepBut.of_grown hg g) (Kd.R_base2 HO_3.out));have n4_:=am (ho);(try clear HI0);clear BK413 HB HK HO_3;have HI0:=n0_;have BK413:=n1_;have HB:=n2_;have HK:=n3_;have HO422:=n4_;clear n0_ n1_ n2_ n3_ n4_;clear ho hb hg hat))
        go_roundg k2
        case measure=>have:=HJ3.out;have:=HK2.out;omega
        case rel=>exact⟨(y420),(wrap64 (x4_2 - 1)),(t415),(t416),(bR),H',⟨by have:=HJ3.out;have:=HK2.out;omega⟩,⟨by(with_reducible repeat (first|apply Kd.R_alloc|apply Kd.R_drewN|apply Kd.R_drew));exact Kd.R_mono HO422.out (fun _ hk=>trivial)⟩,⟨by repeat (first|(with_reducible first|exact HI0.out|apply IsS138.alloc|apply IsS138.drewN|apply IsS138.drew|apply IsS138.set_1|apply IsS138.set_2|apply IsS138.far (hne:=NB0_413.out))|exact HI0.out)⟩,⟨by repeat (first|(with_reducible first|exact HK.out|apply KeepBut.set_|apply keep_drewN|apply keep_drew|apply keep_alloc|refine keep_far ?_ GW413.out _)|exact HK.out)⟩,⟨by repeat (first|(with_reducible first|exact HB.out|apply below_alloc|apply pw_below_drewN|apply below_drew1|refine below_set ?_ (IsS138.ge HI0.out)|refine below_set ?_ GE413.out)|exact HB.out)⟩⟩
       ·rw[if_neg c31] at H
        exact absurd H (b27_)
     ·rw[if_neg c10] at H
      have c10b0:decide (0 < x4_2)=false:=decide_eq_false c10
      clear c10
      by_cases c45:(x3_2.length:Int) > 0
      ·rw[if_pos c45] at H
       have c45b0:decide (0 < (x3_2.length:Int))=true:=decide_eq_true c45
       have c45b1:decide (0 < x3_2.length)=true:=decide_eq_true (b28_)
       clear c45
       replace H:=bI_ H
       obtain⟨⟨t423,t424,t425⟩,A460,H⟩:=H
       replace H:(if t423=true then ((spec_l1Cur_among.f s0_0 t424 t425 (([0,1000,1001]:List Int))).bind fun bt429=>(if 0 < (x3_2.length:Int) then (some ((x3_2.set (0:Int).toNat (⟨(rd_T104 x3_2 0).f0,(rd_T104 x3_2 0).f1,(rd_T104 x3_2 0).f2,bt429.1,(rd_T104 x3_2 0).f4⟩:S104)),bt429.2.1,bt429.2.2)) else (none))) else (some (x3_2,t424,t425)))=some (r1,r2,r3):=H
       have A46:=am A460
       clear A460
       by_cases c47:t423=true
       ·subst c47
        have H1:((spec_l1Cur_among.f s0_0 t424 t425 (([0,1000,1001]:List Int))).bind fun bt429=>(if 0 < (x3_2.length:Int) then (some ((x3_2.set (0:Int).toNat (⟨(rd_T104 x3_2 0).f0,(rd_T104 x3_2 0).f1,(rd_T104 x3_2 0).f2,bt429.1,(rd_T104 x3_2 0).f4⟩:S104)),bt429.2.1,bt429.2.2)) else (none)))=some (r1,r2,r3):=by rw[if_pos rfl] at H;exact H
        clear H
        have H:=H1
        clear H1
        obtain⟨y426,hy426⟩ : ∃ y_:List Int,y_=(([0,1000,1001]:List Int)):=⟨_,rfl⟩
        replace H:((spec_l1Cur_among.f s0_0 t424 t425 y426).bind fun bt429=>(if 0 < (x3_2.length:Int) then (some ((x3_2.set (0:Int).toNat (⟨(rd_T104 x3_2 0).f0,(rd_T104 x3_2 0).f1,(rd_T104 x3_2 0).f2,bt429.1,(rd_T104 x3_2 0).f4⟩:S104)),bt429.2.1,bt429.2.2)) else (none)))=some (r1,r2,r3):=by first|(rw[hy426];with_reducible exact H)|(have H2_:=(Option.bind_some _ _).symm.trans H;rw[hy426];with_reducible exact H2_)|(have H2_:=(Option.bind_some _ _).symm.trans H;with_reducible exact H2_)|with_reducible exact H|(rw[hy426];exact H)|exact H
        have Ny426:=am hy426
        clear hy426
        replace H:=bI_ H
        obtain⟨⟨t429,t430,t431⟩,A480,H⟩:=H
        replace H:(if 0 < (x3_2.length:Int) then (some ((x3_2.set (0:Int).toNat (⟨(rd_T104 x3_2 0).f0,(rd_T104 x3_2 0).f1,(rd_T104 x3_2 0).f2,t429,(rd_T104 x3_2 0).f4⟩:S104)),t430,t431)) else (none))=some (r1,r2,r3):=H
        have A48:=am A480
        clear A480
        by_cases c49:0 < (x3_2.length:Int)
        ·rw[if_pos c49] at H
         have c49b0:decide (0 < (x3_2.length:Int))=true:=decide_eq_true c49
         have c49b1:decide (0 < x3_2.length)=true:=decide_eq_true (b28_)
         clear c49
         obtain⟨y432,hy432⟩ : ∃ y_:List (S104),y_=(x3_2.set (0:Int).toNat (⟨(rd_T104 x3_2 0).f0,(rd_T104 x3_2 0).f1,(rd_T104 x3_2 0).f2,t429,(rd_T104 x3_2 0).f4⟩:S104)):=⟨_,rfl⟩
         replace H:(some (y432,t430,t431))=some (r1,r2,r3):=by first|(rw[hy432];with_reducible exact H)|(have H2_:=(Option.bind_some _ _).symm.trans H;rw[hy432];with_reducible exact H2_)|(have H2_:=(Option.bind_some _ _).symm.trans H;with_reducible exact H2_)|with_reducible exact H|(rw[hy432];exact H)|exact H
         have Ny432:=am hy432
         clear hy432
         simp only[Option.some.injEq,Prod.mk.injEq] at H
         obtain⟨rfl,rfl,rfl⟩:=H
         obtain⟨Ao51,co51,eo51⟩:=Kd.R_slice HO_3.out
         subst eo51
         go_wp2_with (first|(go_at_call 153;(with_reducible refine(spec_l1Cur_one.calls g s0_0 x1001_2 x1002_2 30 true t424 t425 w0 _ ?side1 ?side2 A46.out).mono ?_);(case side1=>exact b29_);(case side2=>exact b30_);rintro e w52 ⟨rfl,hi,hb,hk⟩;have n0_:=am (Kd.R_mono (Kd.R_keep (IsS138.apart (show IsS138 w0 _ g s0_0 x1001_2 x1002_2 from by repeat (first|(with_reducible first|exact HI0.out|apply IsS138.alloc|apply IsS138.drewN|apply IsS138.drew|apply IsS138.set_1|apply IsS138.set_2)|exact HI0.out)) (bK HO_3.out) (b20_)) hk (fun _ h=>h.2)) (fun _ h=>h.1));have n1_:=am (KeepBut.trans (b0_) hk (.inl rfl));have n2_:=am (hb);have n3_:=am (hi);clear HO_3 HK HB;(try clear HI0);have HO_3:=n0_;have HK:=n1_;have HB:=n2_;have HI0:=n3_;clear n0_ n1_ n2_ n3_;(try clear hb);(try clear hb2);(try clear hk);(try clear hi))|((with_reducible refine gate_dst (N:=56) rfl ?_);refine Kd.R_lit (Kd.int .i64) _ 3 ?hg (N:=56) ?hd (xs:=([0,1000,1001]:List Int)) (inner:=[.int .i64 0,.int .i64 1000,.int .i64 1001]) (ok:=fun _=>True) (okp:=fun _=>True) ?hr ?hp (fun _ hk=>hk) trivial (Below.refl _ _) (Nat.le_refl _) (b27_) ?_;(case hd=>rfl);(case hg=>rfl);(case hr=>first|(go_simp;done)|(go_simp;rfl));(case hp=>exact(Reps.one (show Kd.M (Kd.int .i64) _ _ _ 0 [.int .i64 0] from rfl) (Reps.one (show Kd.M (Kd.int .i64) _ _ _ 1000 [.int .i64 1000] from rfl) (Reps.one (show Kd.M (Kd.int .i64) _ _ _ 1001 [.int .i64 1001] from rfl) (Reps.none _ _)))));intro v427 w53 ho54 hb hg_ hnew_;clear hg_ hnew_;(first|rw[← Ny426.out] at ho54|(simp only[Int.reduceToNat] at ho54;rw[← Ny426.out] at ho54));have n0_:=am (Kd.R_below (bK HO_3.out) hb);have n1_:=am (Kd.R_lower ho54 (keep_size (w:=w) (g:=g) (row:=none) (b0_)));have n2_:=am (IsS138.below (b13_) hb);have n3_:=am (KeepBut.trans (b0_) (KeepBut.of_below hb g none) (.inl rfl));have n4_:=am (below_step (b14_) hb);clear HO_3;(try clear HI0);clear HK HB;have HO_3:=n0_;have HO428:=n1_;have HI0:=n2_;have HK:=n3_;have HB:=n4_;clear n0_ n1_ n2_ n3_ n4_;clear hb ho54;obtain⟨Ao55,co55,eo55⟩:=Kd.R_slice HO428.out;subst eo55)|((with_reducible refine gate_callee (f:=154) rfl ?_);refine goesA (some 57) rfl rfl Try.func154 #[.pointer (some ⟨g,0,none⟩),.slice Ao55 y426.length co55] rfl ?_;(with_reducible refine(spec_l1Cur_among.calls g s0_0 t424 t425 _ _ y426 t429 t430 t431 w0 _ ?side1 ?side2 ?side3 ?side4 ?side5 A48.out).mono ?_);(case side1=>exact b29_);(case side2=>exact b30_);(case side3=>exact bT HO428.out);(case side4=>exact(Kd.R_reads' HO428.out).2.1);(case side5=>exact far_slice (IsS138.own_ne HI0.out HO428.out (b20_)));rintro e w56 ⟨rfl,hi,hb,hk⟩;refine⟨_,rfl,?_⟩;have n0_:=am (Kd.R_mono (Kd.R_keep (IsS138.apart (show IsS138 w0 _ g s0_0 t424 t425 from by repeat (first|(with_reducible first|exact HI0.out|apply IsS138.alloc|apply IsS138.drewN|apply IsS138.drew|apply IsS138.set_1|apply IsS138.set_2)|exact HI0.out)) (bK HO_3.out) (b20_)) hk (fun _ h=>h.2)) (fun _ h=>h.1));have n1_:=am (Kd.R_mono (Kd.R_keep (IsS138.apart (show IsS138 w0 _ g s0_0 t424 t425 from by repeat (first|(with_reducible first|exact HI0.out|apply IsS138.alloc|apply IsS138.drewN|apply IsS138.drew|apply IsS138.set_1|apply IsS138.set_2)|exact HI0.out)) (bK HO428.out) (b20_)) hk (fun _ h=>h.2)) (fun _ h=>h.1));have n2_:=am (KeepBut.trans (b0_) hk (.inl rfl));have n3_:=am (hb);have n4_:=am (hi);clear HO_3 HO428 HK HB;(try clear HI0);have HO_3:=n0_;have HO428:=n1_;have HK:=n2_;have HB:=n3_;have HI0:=n4_;clear n0_ n1_ n2_ n3_ n4_;(try clear hb);(try clear hb2);(try clear hk);(try clear hi);have p50:0≤(0:Int):=(b28_);have q50:(0:Int) < ((x3_2.length:Int):Int):=bD_;have qi50:(0 < x3_2.length)=True:=eq_true (b28_);obtain⟨go50,co50,eo50,gb50,gl50,cl50,HG50⟩:=Kd.R_form HO_3.out (b28_);(first|cases eo50|(injection eo50 with ea_ en_ ec_;(first|subst ea_|(injection ea_ with ea_;subst ea_));subst ec_;clear en_));have GB50:=am gb50;have GG50:=am HG50;clear gb50 gl50 HG50;obtain⟨ce50,hcl50,hM50,hcc50,hfr50⟩:=Kd.R_elem HO_3.out z104 (0:Int) p50 q50;obtain rfl:=k104_openM hM50;have hx50_0:w56.cell? ⟨go50,(0:Int).toNat * 5,none⟩=some (.int .i64 ((rd_T104 x3_2 0).f0)):=hcc50 0 _ rfl;have hx50_1:w56.cell? ⟨go50,(0:Int).toNat * 5+1,none⟩=some (.int .i64 ((rd_T104 x3_2 0).f1)):=hcc50 1 _ rfl;have hx50_2:w56.cell? ⟨go50,(0:Int).toNat * 5+2,none⟩=some (.int .i64 ((rd_T104 x3_2 0).f2)):=hcc50 2 _ rfl;have hx50_3:w56.cell? ⟨go50,(0:Int).toNat * 5+3,none⟩=some (.int .i64 ((rd_T104 x3_2 0).f3)):=hcc50 3 _ rfl;have hx50_4:w56.cell? ⟨go50,(0:Int).toNat * 5+4,none⟩=some (.int .i64 ((rd_T104 x3_2 0).f4)):=hcc50 4 _ rfl;have hf50_0:w56.frozen? ⟨go50,(0:Int).toNat * 5,none⟩=false:=hfr50 0;have hf50_1:w56.frozen? ⟨go50,(0:Int).toNat * 5+1,none⟩=false:=hfr50 1;have hf50_2:w56.frozen? ⟨go50,(0:Int).toNat * 5+2,none⟩=false:=hfr50 2;have hf50_3:w56.frozen? ⟨go50,(0:Int).toNat * 5+3,none⟩=false:=hfr50 3;have hf50_4:w56.frozen? ⟨go50,(0:Int).toNat * 5+4,none⟩=false:=hfr50 4;clear hcl50 hcc50 hfr50 hM50;(try rw[show((0:Int)).toNat=0 from rfl] at hx50_0);(try simp only[Nat.reduceMul,Nat.zero_mul,Nat.zero_add,Nat.reduceAdd] at hx50_0);(try rw[show((0:Int)).toNat=0 from rfl] at hf50_0);(try simp only[Nat.reduceMul,Nat.zero_mul,Nat.zero_add,Nat.reduceAdd] at hf50_0);(try rw[show((0:Int)).toNat=0 from rfl] at hx50_1);(try simp only[Nat.reduceMul,Nat.zero_mul,Nat.zero_add,Nat.reduceAdd] at hx50_1);(try rw[show((0:Int)).toNat=0 from rfl] at hf50_1);(try simp only[Nat.reduceMul,Nat.zero_mul,Nat.zero_add,Nat.reduceAdd] at hf50_1);(try rw[show((0:Int)).toNat=0 from rfl] at hx50_2);(try simp only[Nat.reduceMul,Nat.zero_mul,Nat.zero_add,Nat.reduceAdd] at hx50_2);(try rw[show((0:Int)).toNat=0 from rfl] at hf50_2);(try simp only[Nat.reduceMul,Nat.zero_mul,Nat.zero_add,Nat.reduceAdd] at hf50_2);(try rw[show((0:Int)).toNat=0 from rfl] at hx50_3);(try simp only[Nat.reduceMul,Nat.zero_mul,Nat.zero_add,Nat.reduceAdd] at hx50_3);(try rw[show((0:Int)).toNat=0 from rfl] at hf50_3);(try simp only[Nat.reduceMul,Nat.zero_mul,Nat.zero_add,Nat.reduceAdd] at hf50_3);(try rw[show((0:Int)).toNat=0 from rfl] at hx50_4);(try simp only[Nat.reduceMul,Nat.zero_mul,Nat.zero_add,Nat.reduceAdd] at hx50_4);(try rw[show((0:Int)).toNat=0 from rfl] at hf50_4);(try simp only[Nat.reduceMul,Nat.zero_mul,Nat.zero_add,Nat.reduceAdd] at hf50_4);replace p50:=eq_true p50;replace q50:=eq_true q50;have HX57:=am (show Kd.R k104 104 w56 w.heap.size (fun _=>True) (.slice (some ⟨go50,0,none⟩) x3_2.length co51) x3_2 from (bK HO_3.out));obtain⟨ce57,hcl57,hM57,hcc57,hfr57⟩:=Kd.R_elem HX57.out z104 (0:Int) (b28_) (by have h_:(0:Int) < ((x3_2.length:Int):Int):=bD_;first|exact h_|(have e_:=(Kd.R_reads' HO_3.out).1;omega)|simpa using h_);obtain rfl:=k104_openM hM57;have HP57:=Kd.R_seg HX57.out (0:Int) (b28_) (by have h_:(0:Int) < ((x3_2.length:Int):Int):=bD_;first|exact h_|(have e_:=(Kd.R_reads' HO_3.out).1;omega)|simpa using h_) (seg:=[.int .i64 t429]) (j:=3) hcl57 hcc57 (show 4≤5 from by decide) (x':=(⟨(rd_T104 x3_2 0).f0,(rd_T104 x3_2 0).f1,(rd_T104 x3_2 0).f2,t429,(rd_T104 x3_2 0).f4⟩:S104)) (k104_mkM _ _ _ (⟨(rd_T104 x3_2 0).f0,(rd_T104 x3_2 0).f1,(rd_T104 x3_2 0).f2,t429,(rd_T104 x3_2 0).f4⟩:S104) ) (fun _ hk=>hk);have hx57_3:=hcc57 3 _ rfl;(try simp only[show(k104).sz=5 from rfl,Nat.mul_one,Nat.add_zero] at hx57_3);(try rw[show((0:Int)).toNat=0 from rfl] at hx57_3);(try simp only[Nat.reduceMul,Nat.zero_mul,Nat.zero_add,Nat.reduceAdd] at hx57_3);have hf57_3:=hfr57 3;(try simp only[show(k104).sz=5 from rfl,Nat.mul_one,Nat.add_zero] at hf57_3);(try rw[show((0:Int)).toNat=0 from rfl] at hf57_3);(try simp only[Nat.reduceMul,Nat.zero_mul,Nat.zero_add,Nat.reduceAdd] at hf57_3);clear hcl57 hcc57 hfr57 hM57)|((with_reducible refine gate_store (t:=3) (p:=59) rfl ?_);refine store_event (t:=3) (p:=59) (v:=?vo_w58) (w1:=(w56.setCell ⟨go50,3,none⟩ (.int .i64 t429))) ?hg ?ho ?hn ?hr ?_;(case ho=>rfl);(case hg=>rfl);(case hn=>rfl);(case hr=>first|(go_simp;done)|(go_simp;rfl));intro w58 hw;have hg:w56.grownBy w58 (some go50):=(by rw[hw];exact HP57.2);have hp_:Kd.R k104 104 w58 w.heap.size (fun _=>True) (.slice (some ⟨go50,0,none⟩) x3_2.length co51) y432:=(by rw[hw,Ny432.out];exact HP57.1);clear HP57;have n0_:=am (hp_);have n1_:=am (IsS138.grown (b13_) hg (IsS138.own_ne HI0.out HO_3.out (b20_)));have n2_:=am (Kd.R_over' (v:=(.slice (some ⟨go50,0,none⟩) x3_2.length co51)) (bK HO428.out) (Kd.R_typed HO_3.out) (b20_) hg);have n3_:=am ((by rw[hw];exact below_set (HB.out) (Nat.le_trans HL.out GB50.out):Below w0.heap.size w0 w58));have n4_:=am (KeepBut.trans (b0_) (KeepBut.of_grown hg g) (Kd.R_base2 HO_3.out));clear HO_3;(try clear HI0);clear HO428 HB HK;have HO_3:=n0_;have HI0:=n1_;have HO428:=n2_;have HB:=n3_;have HK:=n4_;clear n0_ n1_ n2_ n3_ n4_;clear hg hw hp_))
         go_ret
         exact⟨_,by first|rfl|(simp[errW_none,errW_some]<;>rfl)|(simp[*,errW_none,errW_some]<;>rfl),by(with_reducible repeat (first|apply Kd.R_alloc|apply Kd.R_drewN|apply Kd.R_drew));exact HO_3.out,b44_,by repeat (first|(with_reducible first|exact HB.out|apply below_alloc|apply pw_below_drewN|apply below_drew1|refine below_set ?_ (IsS138.ge HI0.out))|exact HB.out),b42_⟩
        ·rw[if_neg c49] at H
         exact absurd H (b27_)
       ·replace c47:=Bool.eq_false_iff.mpr c47
        subst c47
        have H1:(some (x3_2,t424,t425))=some (r1,r2,r3):=by rw[if_neg (show ¬ (false=true) by decide)] at H;exact H
        clear H
        have H:=H1
        clear H1
        simp only[Option.some.injEq,Prod.mk.injEq] at H
        obtain⟨rfl,rfl,rfl⟩:=H
        obtain⟨Ao59,co59,eo59⟩:=Kd.R_slice HO_3.out
        subst eo59
        go_wp2_with (first|(go_at_call 153;(with_reducible refine(spec_l1Cur_one.calls g s0_0 x1001_2 x1002_2 30 false t424 t425 w0 _ ?side1 ?side2 A46.out).mono ?_);(case side1=>exact b29_);(case side2=>exact b30_);rintro e w60 ⟨rfl,hi,hb,hk⟩;have n0_:=am (Kd.R_mono (Kd.R_keep (IsS138.apart (show IsS138 w0 _ g s0_0 x1001_2 x1002_2 from by repeat (first|(with_reducible first|exact HI0.out|apply IsS138.alloc|apply IsS138.drewN|apply IsS138.drew|apply IsS138.set_1|apply IsS138.set_2)|exact HI0.out)) (bK HO_3.out) (b20_)) hk (fun _ h=>h.2)) (fun _ h=>h.1));have n1_:=am (KeepBut.trans (b0_) hk (.inl rfl));have n2_:=am (hb);have n3_:=am (hi);clear HO_3 HK HB;(try clear HI0);have HO_3:=n0_;have HK:=n1_;have HB:=n2_;have HI0:=n3_;clear n0_ n1_ n2_ n3_;(try clear hb);(try clear hb2);(try clear hk);(try clear hi)))
        go_ret
        exact⟨_,by first|rfl|(simp[errW_none,errW_some]<;>rfl)|(simp[*,errW_none,errW_some]<;>rfl),by(with_reducible repeat (first|apply Kd.R_alloc|apply Kd.R_drewN|apply Kd.R_drew));exact HO_3.out,b44_,by repeat (first|(with_reducible first|exact HB.out|apply below_alloc|apply pw_below_drewN|apply below_drew1|refine below_set ?_ (IsS138.ge HI0.out))|exact HB.out),b42_⟩
      ·rw[if_neg c45] at H
       have c45b0:decide (0 < (x3_2.length:Int))=false:=decide_eq_false c45
       have c45b1:decide (0 < x3_2.length)=false:=decide_eq_false (b28_)
       clear c45
       simp only[Option.some.injEq,Prod.mk.injEq] at H
       obtain⟨rfl,rfl,rfl⟩:=H
       obtain⟨Ao61,co61,eo61⟩:=Kd.R_slice HO_3.out
       subst eo61
       go_wp2
       go_ret
       exact⟨_,by first|rfl|(simp[errW_none,errW_some]<;>rfl)|(simp[*,errW_none,errW_some]<;>rfl),by(with_reducible repeat (first|apply Kd.R_alloc|apply Kd.R_drewN|apply Kd.R_drew));exact HO_3.out,b44_,by repeat (first|(with_reducible first|exact HB.out|apply below_alloc|apply pw_below_drewN|apply below_drew1|refine below_set ?_ (IsS138.ge HI0.out))|exact HB.out),b42_⟩

end Go.Proofs.Yteneeohaoplpbaa.XFnFollow
