-- Written by this session's own program (wip/xprint.py) out of the translation; Lean checks it.
import Derived.Test.YtanegdfncfkinaaXFnFloodx0
import Derived.Test.YtanegdfncfkinaaXFnFloodx2
import Derived.Test.YtanegdfncfkinaaXFnFloodx4
namespace Go.Proofs.Ytanegdfncfkinaa.XFnFlood
open Go.RowKit Go.Proofs.YtanegdfncfkinaaW.PrintWords Go.Proofs.YtanegdfncfkinaaW.PrintLast Go.Proofs.YtanegdfncfkinaaW.PrintMore
attribute [local go_sem] max2_int min2_int max_two min_two max_three min_three max_four min_four   -- for this text's walks alone
set_option linter.unusedVariables false
set_option linter.unusedSimpArgs false

-- NOT PRINTED: function 45 (slices_IndexFunc_int_int)

-- NOT PRINTED: function 28 (slices_DeleteFunc_int_int)

/-! ### impl_numbered: function 29 -/
def impl_numbered.l0:Nat→List Int→Int→Int→Option (List Int)
 | 0,_,_,_=>none
 | k+1,x3,x6,x7=>if x7 < x6 then (if x3.length < 17592186044416 then (impl_numbered.l0 k (x3++[x7]) x6 (wrap64 (x7+1))) else (none)) else (some x3)
def impl_numbered.f (k:Nat) (a0:Int):Option (List Int):=impl_numbered.l0 k (([]:List Int)) a0 0
theorem impl_numbered.mono_l : ∀ k,(∀ y0 y1 y2,LeO (impl_numbered.l0 k y0 y1 y2) (impl_numbered.l0 (k+1) y0 y1 y2))
 | 0=>fun _ _ _ r h=>by simp[impl_numbered.l0] at h
 | k+1=>by
  have ih0:=impl_numbered.mono_l k
  ·intro y0 y1 y2
   unfold impl_numbered.l0
   repeat' first
   | (with_reducible exact ih0 _ _ _)
   | (with_reducible exact LeO.refl _)
   | (with_reducible exact LeO.none _)
   | (with_reducible refine LeO.ite ?_ ?_)
   | (with_reducible refine LeO.bind ?_ (fun _ => ?_))
   | exact ih0 _ _ _
   | exact LeO.none _
   | refine LeO.ite ?_ ?_
   | refine LeO.bind ?_ (fun _ => ?_)
theorem impl_numbered.mono : ∀ a0 k,LeO (impl_numbered.f k a0) (impl_numbered.f (k+1) a0):=by
 intro a0 k
 have ih0:=impl_numbered.mono_l k
 unfold impl_numbered.f
 repeat' first
  | (with_reducible exact ih0 _ _ _)
  | (with_reducible exact LeO.refl _)
  | (with_reducible exact LeO.none _)
  | (with_reducible refine LeO.ite ?_ ?_)
  | (with_reducible refine LeO.bind ?_ (fun _ => ?_))
  | exact ih0 _ _ _
  | exact LeO.none _
  | refine LeO.ite ?_ ?_
  | refine LeO.bind ?_ (fun _ => ?_)
set_option maxHeartbeats 8000000 in
set_option maxRecDepth 100000 in
theorem impl_numbered.calls (k:Nat) (a0:Int) (r:List Int) (w:World) (h:impl_numbered.f k a0=some r) :
  Calls Try.prog 29 #[.int .i64 a0] w fun e w' => ∃ v0_:Value,e=.returned (v0_)∧Kd.R (Kd.int .i64) 3 w' w.heap.size (fun _=>True) v0_ r∧Below w.heap.size w w':=by
 have HB:=Aside0.mk (Below.refl w.heap.size w)
 have H:(impl_numbered.l0 k (([]:List Int)) a0 0)=some r:=h
 clear h
 obtain⟨y224,hy224⟩ : ∃ y_:List Int,y_=(([]:List Int)):=⟨_,rfl⟩
 replace H:(impl_numbered.l0 k y224 a0 0)=some r:=by first|(rw[hy224];with_reducible exact H)|(have H2_:=(Option.bind_some _ _).symm.trans H;rw[hy224];with_reducible exact H2_)|(have H2_:=(Option.bind_some _ _).symm.trans H;with_reducible exact H2_)|with_reducible exact H|(rw[hy224];exact H)|exact H
 have Ny224:=Aside0.mk hy224
 clear hy224
 have H':=Aside0.mk H
 clear H
 go_enter Try.func29,Try.ntmps29
 go_wp2_with (first|((with_reducible refine gate_dst (N:=5) rfl ?_);refine Kd.R_lit (Kd.int .i64) _ 3 ?hg (N:=5) ?hd (xs:=([]:List Int)) (inner:=[]) (ok:=fun _=>True) (okp:=fun _=>True) ?hr ?hp (fun _ hk=>hk) trivial (Below.refl _ _) (Nat.le_refl _) (by simp) ?_;(case hd=>rfl);(case hg=>rfl);(case hr=>first|(go_simp;done)|(go_simp;rfl));(case hp=>exact(Reps.none _ _));intro v225 w2 ho3 hb hg_ hnew_;clear hg_ hnew_;(first|rw[← Ny224.out] at ho3|(simp only[Int.reduceToNat] at ho3;rw[← Ny224.out] at ho3));have n0_:=Aside0.mk (Kd.R_lower ho3 (below_size (bB)));have n1_:=Aside0.mk (below_step (bB) hb);clear HB;have HO226:=n0_;have HB:=n1_;clear n0_ n1_;clear hb ho3))
 go_loopg [3,7] k (fun kq v3 v7 w' => ∃ (x3_1:List Int) (x7_1:Int),v7=.int .i64 x7_1∧Aside0 (impl_numbered.l0 kq x3_1 a0 x7_1=some r)∧Aside0 (kq≤k)∧Aside0 (Kd.R (Kd.int .i64) 3 w' w.heap.size (fun _=>True) v3 x3_1)∧Aside0 (Below w.heap.size w w'))
 case atStart=>exact⟨(y224),(0),(bR),H',⟨Nat.le_refl _⟩,⟨by(with_reducible repeat (first|apply Kd.R_alloc|apply Kd.R_drewN|apply Kd.R_drew));exact HO226.out⟩,⟨by repeat (first|(with_reducible first|exact HB.out|apply below_alloc|apply pw_below_drewN|apply below_drew1)|exact HB.out)⟩⟩
 case round =>
  clear H'
  try clear c2
  try clear p2
  obtain⟨x3_1,x7_1,rfl,HA,HK1,HO_3,HB⟩:=hrel
  cases gk with
  | zero=>exact absurd HA.out (by simp[impl_numbered.l0])
  | succ k1 =>
   have H:=HA.out
   clear HA
   simp only[impl_numbered.l0] at H
   by_cases c4:x7_1 < a0
   ·rw[if_pos c4] at H
    have c4b0:decide (x7_1 < a0)=true:=decide_eq_true c4
    clear c4
    by_cases c5:x3_1.length < 17592186044416
    ·rw[if_pos c5] at H
     have LMc5:=Aside0.mk c5
     clear c5
     obtain⟨y227,hy227⟩ : ∃ y_:List Int,y_=(x3_1++[x7_1]):=⟨_,rfl⟩
     replace H:(impl_numbered.l0 k1 y227 a0 (wrap64 (x7_1+1)))=some r:=by first|(rw[hy227];with_reducible exact H)|(have H2_:=(Option.bind_some _ _).symm.trans H;rw[hy227];with_reducible exact H2_)|(have H2_:=(Option.bind_some _ _).symm.trans H;with_reducible exact H2_)|with_reducible exact H|(rw[hy227];exact H)|exact H
     have Ny227:=Aside0.mk hy227
     clear hy227
     have H':=Aside0.mk H
     clear H
     go_wp2_with (first|((with_reducible refine gate_builtin (b:=.append) (xs:=#[.tmp 10,.tmp 12]) rfl ?_);at_builtin;refine Kd.R_append (Kd.int .i64) (w0:=w) w.heap.size rfl (.tmp 10) (.tmp 12) 34 3 (.int .i64 0) 8 rfl Try.underlying34 info3 rfl (b7_) (b9_) u3 x3_1 x7_1 [.int .i64 x7_1] (fun _=>True) (fun _=>False) rfl rfl ?aP (fun _ hk=>hk.elim) ?aF ?aO ?aB ?aS ?aL ?_;(case aP=>exact rfl);(case aB=>exact(bB));(case aF=>exact(fun _ _=>trivial));(case aO=>exact(bK HO_3.out));(case aS=>exact(below_size (bB)));(case aL=>have:=LMc5.out;omega);intro v228 w6 ho hb hg hat;rw[← Ny227.out] at ho;have n0_:=Aside0.mk (hb);have n1_:=Aside0.mk (ho);clear HB HO_3;have HB:=n0_;have HO229:=n1_;clear n0_ n1_;clear ho hb hg hat))
     go_roundg k1
     case measure=>have:=HK1.out;omega
     case rel=>exact⟨(y227),(wrap64 (x7_1+1)),(bR),H',⟨by have:=HK1.out;omega⟩,⟨by(with_reducible repeat (first|apply Kd.R_alloc|apply Kd.R_drewN|apply Kd.R_drew));exact HO229.out⟩,⟨by repeat (first|(with_reducible first|exact HB.out|apply below_alloc|apply pw_below_drewN|apply below_drew1)|exact HB.out)⟩⟩
    ·rw[if_neg c5] at H
     exact absurd H (by simp)
   ·rw[if_neg c4] at H
    have c4b0:decide (x7_1 < a0)=false:=decide_eq_false c4
    clear c4
    obtain rfl:=Option.some.inj H
    go_wp2
    go_ret
    exact⟨_,by first|rfl|(simp[errW_none,errW_some]<;>rfl)|(simp[*,errW_none,errW_some]<;>rfl),by(with_reducible repeat (first|apply Kd.R_alloc|apply Kd.R_drewN|apply Kd.R_drew));exact HO_3.out,bB⟩

/-- Two variables, a row and a number, that nobody writes any more: elder than w0. -/
def IsS96 (g2:Nat) (w0 W:World) (g:Nat) (f0:List Int) (f1:Int):Prop:=∃ A0 c0,(w0.heap[g]?=some (.cells #[.slice A0 f0.length c0] 34 (0,0))∧w0.heap[g2]?=some (.cells #[.int .i64 f1] 3 (0,0)))∧True∧Kd.C (Kd.int .i64) w0 A0 f0.length f0
section
variable {g2:Nat} {w0 W:World} {g:Nat} {f0:List Int} {f1:Int}
theorem IsS96.atB {W':World} (h:IsS96 g2 w0 W g f0 f1) (hb:Below w0.heap.size w0 W') : ∃ A0 c0,(W'.heap[g]?=some (.cells #[.slice A0 f0.length c0] 34 (0,0))∧W'.heap[g2]?=some (.cells #[.int .i64 f1] 3 (0,0)))∧True∧Kd.C (Kd.int .i64) w0 A0 f0.length f0:=by
 obtain⟨A0,c0,⟨h1,h2⟩,h3,h4⟩:=h
 exact⟨A0,c0,⟨(hb.block g (blk_lt h1)).trans h1,(hb.block g2 (blk_lt h2)).trans h2⟩,h3,h4⟩
theorem IsS96.blt (h:IsS96 g2 w0 W g f0 f1):g < w0.heap.size:=by
 obtain⟨A0,c0,⟨h1,h2⟩,h3,h4⟩:=h
 exact blk_lt h1
theorem IsS96.grown {W1:World} {row:Option Nat} (h:IsS96 g2 w0 W g f0 f1) (_hw:W.grownBy W1 row) (_hne:some g≠row):IsS96 g2 w0 W1 g f0 f1:=h
theorem IsS96.below {W1:World} (h:IsS96 g2 w0 W g f0 f1) (_hw:Below W.heap.size W W1):IsS96 g2 w0 W1 g f0 f1:=h
theorem IsS96.kept {W1:World} {S:Nat→Prop} (h:IsS96 g2 w0 W g f0 f1) (_hk:Kept W W1 S) (_hne : ¬ S g):IsS96 g2 w0 W1 g f0 f1:=h
theorem IsS96.alloc (h:IsS96 g2 w0 W g f0 f1) (o:Obj):IsS96 g2 w0 (W.alloc o) g f0 f1:=h
theorem IsS96.drewN (h:IsS96 g2 w0 W g f0 f1) (m:Nat):IsS96 g2 w0 (W.drewN m) g f0 f1:=h
theorem IsS96.drew (h:IsS96 g2 w0 W g f0 f1):IsS96 g2 w0 W.drew g f0 f1:=h
theorem IsS96.at_ {w':World} {m:Nat} (_hq:W.drewN m=w') (h:IsS96 g2 w0 W g f0 f1):IsS96 g2 w0 w' g f0 f1:=h
theorem IsS96.far {p:Addr} (h:IsS96 g2 w0 W g f0 f1) (_hne:g≠p.block) (u:Value):IsS96 g2 w0 (W.setCell p u) g f0 f1:=h
theorem IsS96.to (h:IsS96 g2 w0 W g f0 f1) (W1:World):IsS96 g2 w0 W1 g f0 f1:=h
theorem IsS96.apart {α:Type} {d:Kd α} {e:Nat} {ok:Nat→Prop} {v:Value} {xs:List α} (h:IsS96 g2 w0 W g f0 f1) (ho:d.R e W w0.heap.size ok v xs) (_ht : ∀ q,q ∈ e::d.E→q≠96):d.R e W w0.heap.size (fun k=>ok k∧k≠g) v xs :=
 Kd.R_mono (Kd.R_bound ho) (fun k hk=>⟨hk.1,fun e_=>by have:=IsS96.blt h;have:=hk.2.1;omega⟩)
theorem IsS96.own_ne {α:Type} {d:Kd α} {e:Nat} {ok:Nat→Prop} {v:Value} {xs:List α} (h:IsS96 g2 w0 W g f0 f1) (ho:d.R e W w0.heap.size ok v xs) (_ht:e≠96):some g≠v.ownBlock:=fun e_=>by
 have:=Kd.R_base ho g e_.symm
 have:=IsS96.blt h
 omega
theorem cellS96_0 {A0:Option Addr} {c0:Nat} (h:W.heap[g]?=some (.cells #[.slice A0 f0.length c0] 34 (0,0))∧W.heap[g2]?=some (.cells #[.int .i64 f1] 3 (0,0))):W.cell? ⟨g,0,none⟩=some (.slice A0 f0.length c0):=(blk_cell h.1 0).trans rfl
theorem cellS96_1 {A0:Option Addr} {c0:Nat} (h:W.heap[g]?=some (.cells #[.slice A0 f0.length c0] 34 (0,0))∧W.heap[g2]?=some (.cells #[.int .i64 f1] 3 (0,0))):W.cell? ⟨g2,0,none⟩=some (.int .i64 f1):=(blk_cell h.2 0).trans rfl
end

/-! ### impl_FloodUntil_lit1_captured: function 30 -/
def impl_FloodUntil_lit1_captured.f (a0:Int) (s1_0:List Int) (s1_1:Int):Option (Bool × Int):=if 0≤a0 then (if a0 < (s1_0.length:Int) then ((impl_within.f (rd s1_0 a0) 0 s1_1).bind fun t232=>(some (!t232,s1_1))) else (none)) else (none)
set_option maxHeartbeats 8000000 in
set_option maxRecDepth 100000 in
theorem impl_FloodUntil_lit1_captured.calls (a0:Int) (g g2_:Nat) (s1_0:List Int) (s1_1:Int) (r1:Bool) (r2:Int) (w0 w:World) (hI:IsS96 g2_ w0 w g s1_0 s1_1) (hB:Below w0.heap.size w0 w) (h:impl_FloodUntil_lit1_captured.f a0 s1_0 s1_1=some (r1,r2)) :
  Calls Try.prog 30 #[.int .i64 a0,.pointer (some ⟨g,0,none⟩),.pointer (some ⟨g2_,0,none⟩)] w fun e w'=>e=.returned (.bool r1)∧IsS96 g2_ w0 w' g s1_0 r2∧Below w0.heap.size w0 w'∧KeepBut w w' g none:=by
 have HI1:=Aside0.mk hI
 have HK:=Aside0.mk (KeepBut.refl w g none)
 have HL:=Aside0.mk hB.size
 clear hI
 have HW0:=Aside0.mk hB.size
 have HB:=Aside0.mk hB
 clear hB
 have H:(if 0≤a0 then (if a0 < (s1_0.length:Int) then ((impl_within.f (rd s1_0 a0) 0 s1_1).bind fun t232=>(some (!t232,s1_1))) else (none)) else (none))=some (r1,r2):=h
 clear h
 by_cases c3:0≤a0
 ·rw[if_pos c3] at H
  have c3b0:decide (0≤a0)=true:=decide_eq_true c3
  clear c3
  by_cases c4:a0 < (s1_0.length:Int)
  ·rw[if_pos c4] at H
   have c4b0:decide (a0 < (s1_0.length:Int))=true:=decide_eq_true c4
   clear c4
   replace H:=Option.bind_eq_some_iff.mp H
   obtain⟨t232,A50,H⟩:=H
   replace H:(some (!t232,s1_1))=some (r1,r2):=H
   have A5:=Aside0.mk A50
   clear A50
   simp only[Option.some.injEq,Prod.mk.injEq] at H
   obtain⟨rfl,rfl⟩:=H
   obtain⟨ASz6_0,cSz6_0,HGz6,hgz6,HSz6_0⟩:=IsS96.atB HI1.out HB.out
   have hcz6_0:=cellS96_0 HGz6
   have hcz6_1:=cellS96_1 HGz6
   clear HGz6 hgz6
   have p231:0≤(a0:Int):=of_decide_eq_true (bD)
   have q231:a0 < (s1_0.length:Int):=of_decide_eq_true (bD)
   obtain⟨ad231,e231,hx231_0⟩:=Kd.at_int HSz6_0 a0 p231 q231
   cases e231
   replace hx231_0:=pw_cell_below HB.out hx231_0
   replace p231:=eq_true p231
   replace q231:=eq_true q231
   go_enter Try.func30,Try.ntmps30
   go_wp2_with (first|(go_at_call 17;(with_reducible refine(impl_within.calls (rd s1_0 a0) 0 s1_1 t232 _ A5.out).mono ?_);rintro e w' ⟨rfl,⟨nd,rfl⟩⟩;(try first|exact⟨rfl,_,World.drewN_drewN _ _ _⟩|exact⟨rfl,_,Eq.trans (World.drewN_drewN _ _ _) (congrArg (World.drewN _) (Nat.add_assoc _ _ _))⟩)))
   repeat (go_quiet (first|(go_at_call 17;(with_reducible refine(impl_within.calls (rd s1_0 a0) 0 s1_1 t232 _ A5.out).mono ?_);rintro e w' ⟨rfl,⟨nd,rfl⟩⟩;(try first|exact⟨rfl,_,World.drewN_drewN _ _ _⟩|exact⟨rfl,_,Eq.trans (World.drewN_drewN _ _ _) (congrArg (World.drewN _) (Nat.add_assoc _ _ _))⟩)));try go_wp2_with (first|(go_at_call 17;(with_reducible refine(impl_within.calls (rd s1_0 a0) 0 s1_1 t232 _ A5.out).mono ?_);rintro e w' ⟨rfl,⟨nd,rfl⟩⟩;(try first|exact⟨rfl,_,World.drewN_drewN _ _ _⟩|exact⟨rfl,_,Eq.trans (World.drewN_drewN _ _ _) (congrArg (World.drewN _) (Nat.add_assoc _ _ _))⟩))))
   go_ret
   exact⟨bE,b18_,by repeat (first|(with_reducible first|exact HB.out|apply below_alloc|apply pw_below_drewN|apply below_drew1|refine below_set ?_ (IsS96.ge HI1.out))|exact HB.out),b16_⟩
  ·rw[if_neg c4] at H
   exact absurd H (by simp)
 ·rw[if_neg c3] at H
  exact absurd H (by simp)

/-! ### slices_IndexFunc_int_int_impl_FloodUntil_lit1: function 45 -/
def slices_IndexFunc_int_int_impl_FloodUntil_lit1.l0:Nat→List Int→Int→Int→List Int→Int→Option (Int × Int)
 | 0,_,_,_,_,_=>none
 | k+1,x0,x7,x8,x2000,x2001=>if x8 < x7 then (if 0≤x8 then (if x8 < (x0.length:Int) then ((impl_FloodUntil_lit1_captured.f (rd x0 x8) x2000 x2001).bind fun bt234=>(if bt234.1=true then (some (x8,bt234.2)) else (slices_IndexFunc_int_int_impl_FloodUntil_lit1.l0 k x0 x7 (wrap64 (x8+1)) x2000 bt234.2))) else (none)) else (none)) else (some ((-1),x2001))
def slices_IndexFunc_int_int_impl_FloodUntil_lit1.f (k:Nat) (l0:List Int) (s1_0:List Int) (s1_1:Int):Option (Int × Int):=slices_IndexFunc_int_int_impl_FloodUntil_lit1.l0 k l0 (l0.length:Int) 0 s1_0 s1_1
theorem slices_IndexFunc_int_int_impl_FloodUntil_lit1.mono_l : ∀ k,(∀ y0 y1 y2 y3 y4,LeO (slices_IndexFunc_int_int_impl_FloodUntil_lit1.l0 k y0 y1 y2 y3 y4) (slices_IndexFunc_int_int_impl_FloodUntil_lit1.l0 (k+1) y0 y1 y2 y3 y4))
 | 0=>fun _ _ _ _ _ r h=>by simp[slices_IndexFunc_int_int_impl_FloodUntil_lit1.l0] at h
 | k+1=>by
  have ih0:=slices_IndexFunc_int_int_impl_FloodUntil_lit1.mono_l k
  ·intro y0 y1 y2 y3 y4
   unfold slices_IndexFunc_int_int_impl_FloodUntil_lit1.l0
   repeat' first
   | (with_reducible exact ih0 _ _ _ _ _)
   | (with_reducible exact LeO.refl _)
   | (with_reducible exact LeO.none _)
   | (with_reducible refine LeO.ite ?_ ?_)
   | (with_reducible refine LeO.bind ?_ (fun _ => ?_))
   | exact ih0 _ _ _ _ _
   | exact LeO.none _
   | refine LeO.ite ?_ ?_
   | refine LeO.bind ?_ (fun _ => ?_)
theorem slices_IndexFunc_int_int_impl_FloodUntil_lit1.mono : ∀ a0 a1 a2 k,LeO (slices_IndexFunc_int_int_impl_FloodUntil_lit1.f k a0 a1 a2) (slices_IndexFunc_int_int_impl_FloodUntil_lit1.f (k+1) a0 a1 a2):=by
 intro a0 a1 a2 k
 have ih0:=slices_IndexFunc_int_int_impl_FloodUntil_lit1.mono_l k
 unfold slices_IndexFunc_int_int_impl_FloodUntil_lit1.f
 repeat' first
  | (with_reducible exact ih0 _ _ _ _ _)
  | (with_reducible exact LeO.refl _)
  | (with_reducible exact LeO.none _)
  | (with_reducible refine LeO.ite ?_ ?_)
  | (with_reducible refine LeO.bind ?_ (fun _ => ?_))
  | exact ih0 _ _ _ _ _
  | exact LeO.none _
  | refine LeO.ite ?_ ?_
  | refine LeO.bind ?_ (fun _ => ?_)
set_option maxHeartbeats 8000000 in
set_option maxRecDepth 100000 in
theorem slices_IndexFunc_int_int_impl_FloodUntil_lit1.calls (k:Nat) (A0:Option Addr) (c0:Nat) (l0:List Int) (g g2_:Nat) (s1_0:List Int) (s1_1:Int) (r1:Int) (r2:Int) (w0 w:World) (hI:IsS96 g2_ w0 w g s1_0 s1_1) (hB:Below w0.heap.size w0 w) (hr0:Kd.C (Kd.int .i64) w A0 l0.length l0) (hc0:l0.length≤c0) (hf0 : ∀ ad,A0=some ad→0 < l0.length→ad.block≠g) (h:slices_IndexFunc_int_int_impl_FloodUntil_lit1.f k l0 s1_0 s1_1=some (r1,r2)) :
  Calls Try.prog 45 #[.slice A0 l0.length c0,(.func (.func 30) #[] #[.pointer (some ⟨g,0,none⟩),.pointer (some ⟨g2_,0,none⟩)])] w fun e w'=>e=.returned (.int .i64 r1)∧IsS96 g2_ w0 w' g s1_0 r2∧Below w0.heap.size w0 w'∧KeepBut w w' g none:=by
 have HR0:=Aside0.mk hr0
 have HC0:=Aside0.mk hc0
 clear hr0 hc0
 have HI1:=Aside0.mk hI
 have HK:=Aside0.mk (KeepBut.refl w g none)
 have HL:=Aside0.mk hB.size
 clear hI
 have HW0:=Aside0.mk hB.size
 have HB:=Aside0.mk hB
 clear hB
 have H:(slices_IndexFunc_int_int_impl_FloodUntil_lit1.l0 k l0 (l0.length:Int) 0 s1_0 s1_1)=some (r1,r2):=h
 clear h
 have H':=Aside0.mk H
 clear H
 go_enter Try.func45,Try.ntmps45
 go_wp2
 go_loopg [8] k (fun kq v8 w' => ∃ (x8_1:Int) (x2001_1:Int),v8=.int .i64 x8_1∧Aside0 (slices_IndexFunc_int_int_impl_FloodUntil_lit1.l0 kq l0 (l0.length:Int) x8_1 s1_0 x2001_1=some (r1,r2))∧Aside0 (kq≤k)∧Aside0 (IsS96 g2_ w0 w' g s1_0 x2001_1)∧Aside0 (KeepBut w w' g none)∧Aside0 (Below w0.heap.size w0 w'))
 case atStart=>exact⟨(0),(s1_1),(bR),H',⟨Nat.le_refl _⟩,⟨by repeat (first|(with_reducible first|exact HI1.out|apply IsS96.alloc|apply IsS96.drewN|apply IsS96.drew|apply IsS96.set_1)|exact HI1.out)⟩,⟨by repeat (first|(with_reducible first|exact HK.out|apply KeepBut.set_|apply keep_drewN|apply keep_drew|apply keep_alloc)|exact HK.out)⟩,⟨by repeat (first|(with_reducible first|exact HB.out|apply below_alloc|apply pw_below_drewN|apply below_drew1|refine below_set ?_ (IsS96.ge HI1.out))|exact HB.out)⟩⟩
 case round =>
  clear H'
  try clear p2
  obtain⟨x8_1,x2001_1,rfl,HA,HK1,HI1,HK,HB⟩:=hrel
  cases gk with
  | zero=>exact absurd HA.out (by simp[slices_IndexFunc_int_int_impl_FloodUntil_lit1.l0])
  | succ k1 =>
   have H:=HA.out
   clear HA
   simp only[slices_IndexFunc_int_int_impl_FloodUntil_lit1.l0] at H
   by_cases c3:x8_1 < (l0.length:Int)
   ·rw[if_pos c3] at H
    have c3b0:decide (x8_1 < (l0.length:Int))=true:=decide_eq_true c3
    clear c3
    by_cases c4:0≤x8_1
    ·rw[if_pos c4] at H
     have c4b0:decide (0≤x8_1)=true:=decide_eq_true c4
     clear c4
     by_cases c5:x8_1 < (l0.length:Int)
     ·rw[if_pos c5] at H
      have c5b0:decide (x8_1 < (l0.length:Int))=true:=decide_eq_true c5
      clear c5
      replace H:=Option.bind_eq_some_iff.mp H
      obtain⟨⟨t234,t235⟩,A60,H⟩:=H
      replace H:(if t234=true then (some (x8_1,t235)) else (slices_IndexFunc_int_int_impl_FloodUntil_lit1.l0 k1 l0 (l0.length:Int) (wrap64 (x8_1+1)) s1_0 t235))=some (r1,r2):=H
      have A6:=Aside0.mk A60
      clear A60
      by_cases c7:t234=true
      ·subst c7
       have H1:(some (x8_1,t235))=some (r1,r2):=by rw[if_pos rfl] at H;exact H
       clear H
       have H:=H1
       clear H1
       simp only[Option.some.injEq,Prod.mk.injEq] at H
       obtain⟨rfl,rfl⟩:=H
       have p233:0≤(x8_1:Int):=of_decide_eq_true (bD)
       have q233:x8_1 < (l0.length:Int):=of_decide_eq_true (bD)
       obtain⟨ad233,e233,hx233_0⟩:=Kd.at_int HR0.out x8_1 p233 q233
       cases e233
       replace hx233_0:=keep_cell HK.out hx233_0 (by first|(rw[add_block];exact hf0 _ rfl (b9_))|exact hf0 _ rfl (b9_)|exact hf0 ad233 rfl (b9_))
       replace p233:=eq_true p233
       replace q233:=eq_true q233
       go_wp2_with (first|(go_at_call 30;(with_reducible refine(impl_FloodUntil_lit1_captured.calls (rd l0 x8_1) g g2_ s1_0 x2001_1 true t235 w0 _ ?side1 ?side2 A6.out).mono ?_);(case side1=>exact b14_);(case side2=>exact b13_);rintro e w8 ⟨rfl,hi,hb,hk⟩;have n0_:=Aside0.mk (KeepBut.trans (b0_) hk (.inl rfl));have n1_:=Aside0.mk (hb);have n2_:=Aside0.mk (hi);clear HK HB;(try clear HI1);have HK:=n0_;have HB:=n1_;have HI1:=n2_;clear n0_ n1_ n2_;(try clear hb);(try clear hb2);(try clear hk);(try clear hi)))
       go_ret
       exact⟨bE,b18_,by repeat (first|(with_reducible first|exact HB.out|apply below_alloc|apply pw_below_drewN|apply below_drew1|refine below_set ?_ (IsS96.ge HI1.out))|exact HB.out),b16_⟩
      ·replace c7:=Bool.eq_false_iff.mpr c7
       subst c7
       have H1:(slices_IndexFunc_int_int_impl_FloodUntil_lit1.l0 k1 l0 (l0.length:Int) (wrap64 (x8_1+1)) s1_0 t235)=some (r1,r2):=by rw[if_neg (show ¬ (false=true) by decide)] at H;exact H
       clear H
       have H:=H1
       clear H1
       have H':=Aside0.mk H
       clear H
       have p233:0≤(x8_1:Int):=of_decide_eq_true (bD)
       have q233:x8_1 < (l0.length:Int):=of_decide_eq_true (bD)
       obtain⟨ad233,e233,hx233_0⟩:=Kd.at_int HR0.out x8_1 p233 q233
       cases e233
       replace hx233_0:=keep_cell HK.out hx233_0 (by first|(rw[add_block];exact hf0 _ rfl (b9_))|exact hf0 _ rfl (b9_)|exact hf0 ad233 rfl (b9_))
       replace p233:=eq_true p233
       replace q233:=eq_true q233
       go_wp2_with (first|(go_at_call 30;(with_reducible refine(impl_FloodUntil_lit1_captured.calls (rd l0 x8_1) g g2_ s1_0 x2001_1 false t235 w0 _ ?side1 ?side2 A6.out).mono ?_);(case side1=>exact b14_);(case side2=>exact b13_);rintro e w9 ⟨rfl,hi,hb,hk⟩;have n0_:=Aside0.mk (KeepBut.trans (b0_) hk (.inl rfl));have n1_:=Aside0.mk (hb);have n2_:=Aside0.mk (hi);clear HK HB;(try clear HI1);have HK:=n0_;have HB:=n1_;have HI1:=n2_;clear n0_ n1_ n2_;(try clear hb);(try clear hb2);(try clear hk);(try clear hi)))
       go_roundg k1
       case measure=>have:=HK1.out;omega
       case rel=>exact⟨(wrap64 (x8_1+1)),(t235),(bR),H',⟨by have:=HK1.out;omega⟩,⟨by repeat (first|(with_reducible first|exact HI1.out|apply IsS96.alloc|apply IsS96.drewN|apply IsS96.drew|apply IsS96.set_1)|exact HI1.out)⟩,⟨by repeat (first|(with_reducible first|exact HK.out|apply KeepBut.set_|apply keep_drewN|apply keep_drew|apply keep_alloc)|exact HK.out)⟩,⟨by repeat (first|(with_reducible first|exact HB.out|apply below_alloc|apply pw_below_drewN|apply below_drew1|refine below_set ?_ (IsS96.ge HI1.out))|exact HB.out)⟩⟩
     ·rw[if_neg c5] at H
      exact absurd H (by simp)
    ·rw[if_neg c4] at H
     exact absurd H (by simp)
   ·rw[if_neg c3] at H
    have c3b0:decide (x8_1 < (l0.length:Int))=false:=decide_eq_false c3
    clear c3
    simp only[Option.some.injEq,Prod.mk.injEq] at H
    obtain⟨rfl,rfl⟩:=H
    go_wp2
    go_ret
    exact⟨bE,b18_,by repeat (first|(with_reducible first|exact HB.out|apply below_alloc|apply pw_below_drewN|apply below_drew1|refine below_set ?_ (IsS96.ge HI1.out))|exact HB.out),b16_⟩

/-! ### slices_DeleteFunc_int_int_impl_FloodUntil_lit1: function 28 -/
/-- The row xs with zs put over it from the place o on. -/
def putL:List Int→Nat→List Int→List Int
 | xs,_,[]=>xs
 | xs,o,z::zs=>putL (xs.set o z) (o+1) zs
theorem putL_length (zs:List Int) : ∀ (xs:List Int) (o:Nat),(putL xs o zs).length=xs.length:=by
 induction zs with
 | nil=>intro xs o;rfl
 | cons z zs ih=>intro xs o;simp only[putL];rw[ih,List.length_set]
theorem setCells_R {e base:Nat} {ok:Nat→Prop} {g n cap:Nat} (zs:List Int) : ∀ (o:Nat) (W:World) (xs:List Int),(Kd.int .i64).R e W base ok (.slice (some ⟨g,0,none⟩) n cap) xs →
  (Kd.int .i64).R e (W.setCells g o (zs.map (Value.int .i64))) base ok (.slice (some ⟨g,0,none⟩) n cap) (putL xs o zs)∧W.grownBy (W.setCells g o (zs.map (Value.int .i64))) (some g):=by
 induction zs with
 | nil=>intro o W xs h;exact⟨h,World.grownBy.refl _ _⟩
 | cons z zs ih =>
  intro o W xs h
  have h1:=Kd.R_putg h (o:Int) z
  obtain⟨h2,h3⟩:=ih (o+1) _ _ h1.1
  exact⟨h2,h1.2.trans h3⟩
theorem zc_ (n:Nat):(Builtin.zeroCells (Value.int .i64 0).cells n).toList=(List.replicate n (0:Int)).map (Value.int .i64):=by
 apply List.ext_getElem
 ·simp[Builtin.zeroCells,Value.cells]
 ·intro j h1 h2
  simp[Builtin.zeroCells,Value.cells]
  rw[Nat.mod_one]
  rfl
theorem clear_run {T:TypeId} (hT:Try.prog.underlying T=some (.slice 3)) {base:Nat} {ok:Nat→Prop} {g n cap i m c:Nat} {W:World} {xs:List Int} (h:(Kd.int .i64).R 3 W base ok (.slice (some ⟨g,0,none⟩) n cap) xs) (ty:TypeId) (hm:i+m≤n):(Builtin.clear_ #[T] ty #[.slice (some ⟨g,i,none⟩) m c]).run Try.prog W=.ok (.tuple #[]) (W.setCells g i ((List.replicate m (0:Int)).map (Value.int .i64))):=by
 have hst:=run_storeCells_cells (P:=Try.prog) g i ((List.replicate m (0:Int)).map (Value.int .i64)) 0 W (fun j hj=>by
  have:=(Kd.R_celln 0 h ((i+0+j:Nat):Int) (b9_) (by simp at hj;omega)).1
  rw[show(((i+0+j:Nat):Int)).toNat=i+0+j from rfl] at this
  rw[this]
  rfl) (fun j hj=>by
  have:=(Kd.R_celln 0 h ((i+0+j:Nat):Int) (b9_) (by simp at hj;omega)).2
  rw[show(((i+0+j:Nat):Int)).toNat=i+0+j from rfl] at this
  exact this) (fun v hv=>by
  obtain⟨z,_,rfl⟩:=List.mem_map.mp hv
  rfl)
 rw[Nat.add_zero] at hst
 cases m with
 | zero=>simp[Builtin.clear_,run_underlying hT,World.setCells]
 | succ m =>
  have hz:(zeroValue 3).run Try.prog W=.ok (.int .i64 0) W:=by
   go_simp
  have hc:=zc_ (m+1)
  simp only[Builtin.clear_]
  simp only[List.map_replicate] at hst
  simp[run_underlying hT,hz,hc,hst,Result.andThen]
theorem clear_cut {T:TypeId} (hT:Try.prog.underlying T=some (.slice 3)) {A1:Option Addr} {m c:Nat} {W0:World} {ys:List Int} (_:Kd.C (Kd.int .i64) W0 A1 m ys) {base:Nat} {ok:Nat→Prop} {g n cap i:Nat} {W:World} {xs:List Int} (h:(Kd.int .i64).R 3 W base ok (.slice (some ⟨g,0,none⟩) n cap) xs) (ty:TypeId) (hm:m=n - i) (hi:i≤n) (hA:A1=(if cap=i then some ⟨g,0,none⟩ else (some ⟨g,0,none⟩:Option Addr).map (·.add (i * 1)))) (hcap:n≤cap):(Builtin.clear_ #[T] ty #[.slice A1 m c]).run Try.prog W=.ok (.tuple #[]) (W.setCells g i ((List.replicate (n - i) (0:Int)).map (Value.int .i64))):=by
 subst hm
 by_cases q:cap=i
 ·rw[show n - i=0 by omega]
  cases A1<;>simp[Builtin.clear_,run_underlying hT,World.setCells]
 ·rw[if_neg q] at hA
  have e:A1=some ⟨g,i,none⟩:=by rw[hA];simp[Addr.add];omega
  rw[e]
  exact clear_run hT h ty (b9_)
theorem clear_event {P:Program} {ops:Array Oper} {o:Oper} {a:Act} {Q:Exit→Act→World→Prop} {rest:List Oper} {W w1:World} (hgd:o.guard=none) (hN:o.dst=none) (hrun:(execOp a.eval o).run P W=.ok (.value (.tuple #[])) w1) (h : ∀ w',w'=w1→wpList P ops Q rest a w'):wpList P ops Q (o::rest) a W :=
 Kd.event_run hgd hrun (by rw[hN];exact h _ rfl)

def slices_DeleteFunc_int_int_impl_FloodUntil_lit1.l0:Nat→List Int→Int→Int→List Int→Int→Option (List Int × Int)
 | 0,_,_,_,_,_=>none
 | k+1,x0,x5,x6,x2000,x2001=>if x6 < (x0.length:Int) then (if 0≤x6 then ((impl_FloodUntil_lit1_captured.f (rd x0 x6) x2000 x2001).bind fun bt239=>(if bt239.1=true then (slices_DeleteFunc_int_int_impl_FloodUntil_lit1.l0 k x0 x5 (wrap64 (x6+1)) x2000 bt239.2) else (if 0≤x5 then (if x5 < (x0.length:Int) then (slices_DeleteFunc_int_int_impl_FloodUntil_lit1.l0 k (x0.set (x5:Int).toNat (rd x0 x6)) (wrap64 (x5+1)) (wrap64 (x6+1)) x2000 bt239.2) else (none)) else (none)))) else (none)) else (if 0≤x5 then (if x5≤(x0.length:Int) then (if 0 < (x0.length:Int) then (some (((putL x0 (x5:Int).toNat (List.replicate (x0.length - (x5:Int).toNat) 0)).take (x5:Int).toNat),x2001)) else (none)) else (none)) else (none))
def slices_DeleteFunc_int_int_impl_FloodUntil_lit1.f (k:Nat) (l0:List Int) (s1_0:List Int) (s1_1:Int):Option (List Int × Int):=(slices_IndexFunc_int_int_impl_FloodUntil_lit1.f k l0 s1_0 s1_1).bind fun bt236=>(if bt236.1=(-1) then (some (l0,bt236.2)) else (slices_DeleteFunc_int_int_impl_FloodUntil_lit1.l0 k l0 bt236.1 (wrap64 (bt236.1+1)) s1_0 bt236.2))
theorem slices_DeleteFunc_int_int_impl_FloodUntil_lit1.mono_l : ∀ k,(∀ y0 y1 y2 y3 y4,LeO (slices_DeleteFunc_int_int_impl_FloodUntil_lit1.l0 k y0 y1 y2 y3 y4) (slices_DeleteFunc_int_int_impl_FloodUntil_lit1.l0 (k+1) y0 y1 y2 y3 y4))
 | 0=>fun _ _ _ _ _ r h=>by simp[slices_DeleteFunc_int_int_impl_FloodUntil_lit1.l0] at h
 | k+1=>by
  have ih0:=slices_DeleteFunc_int_int_impl_FloodUntil_lit1.mono_l k
  ·intro y0 y1 y2 y3 y4
   unfold slices_DeleteFunc_int_int_impl_FloodUntil_lit1.l0
   repeat' first
   | (with_reducible exact ih0 _ _ _ _ _)
   | (with_reducible exact slices_IndexFunc_int_int_impl_FloodUntil_lit1.mono _ _ _ _)
   | (with_reducible exact LeO.refl _)
   | (with_reducible exact LeO.none _)
   | (with_reducible refine LeO.ite ?_ ?_)
   | (with_reducible refine LeO.bind ?_ (fun _ => ?_))
   | exact ih0 _ _ _ _ _
   | exact slices_IndexFunc_int_int_impl_FloodUntil_lit1.mono _ _ _ _
   | exact LeO.none _
   | refine LeO.ite ?_ ?_
   | refine LeO.bind ?_ (fun _ => ?_)
theorem slices_DeleteFunc_int_int_impl_FloodUntil_lit1.mono : ∀ a0 a1 a2 k,LeO (slices_DeleteFunc_int_int_impl_FloodUntil_lit1.f k a0 a1 a2) (slices_DeleteFunc_int_int_impl_FloodUntil_lit1.f (k+1) a0 a1 a2):=by
 intro a0 a1 a2 k
 have ih0:=slices_DeleteFunc_int_int_impl_FloodUntil_lit1.mono_l k
 unfold slices_DeleteFunc_int_int_impl_FloodUntil_lit1.f
 repeat' first
  | (with_reducible exact ih0 _ _ _ _ _)
  | (with_reducible exact slices_IndexFunc_int_int_impl_FloodUntil_lit1.mono _ _ _ _)
  | (with_reducible exact LeO.refl _)
  | (with_reducible exact LeO.none _)
  | (with_reducible refine LeO.ite ?_ ?_)
  | (with_reducible refine LeO.bind ?_ (fun _ => ?_))
  | exact ih0 _ _ _ _ _
  | exact slices_IndexFunc_int_int_impl_FloodUntil_lit1.mono _ _ _ _
  | exact LeO.none _
  | refine LeO.ite ?_ ?_
  | refine LeO.bind ?_ (fun _ => ?_)
set_option maxHeartbeats 8000000 in
set_option maxRecDepth 100000 in
theorem slices_DeleteFunc_int_int_impl_FloodUntil_lit1.calls (k:Nat) (P0_:Nat→Prop) (u9000_:Value) (l0:List Int) (g g2_:Nat) (s1_0:List Int) (s1_1:Int) (r1:List Int) (r2:Int) (w0 w:World) (hI:IsS96 g2_ w0 w g s1_0 s1_1) (hB:Below w0.heap.size w0 w) (ho0:Kd.R (Kd.int .i64) 3 w w0.heap.size P0_ u9000_ l0) (h:slices_DeleteFunc_int_int_impl_FloodUntil_lit1.f k l0 s1_0 s1_1=some (r1,r2)) :
  Calls Try.prog 28 #[u9000_,(.func (.func 30) #[] #[.pointer (some ⟨g,0,none⟩),.pointer (some ⟨g2_,0,none⟩)])] w fun e w' => ∃ v0_:Value,e=.returned (v0_)∧Kd.R (Kd.int .i64) 3 w' w0.heap.size (fun k_=>(P0_ k_∨w.heap.size≤k_)) v0_ r1∧IsS96 g2_ w0 w' g s1_0 r2∧Below w0.heap.size w0 w'∧Kept w w' (fun k_=>(P0_ k_)∨k_=g):=by
 have HO0:=Aside0.mk (show Kd.R (Kd.int .i64) 3 w w0.heap.size (fun k_=>(P0_ k_∨w.heap.size≤k_)) u9000_ l0 from Kd.R_mono ho0 (fun k_ hk=>(.inl hk)))
 have HI1:=Aside0.mk hI
 have HL:=Aside0.mk hB.size
 clear hI
 have HK:=Aside0.mk (Kept.refl w (fun k_=>(P0_ k_)∨k_=g))
 have HW0:=Aside0.mk hB.size
 have HB:=Aside0.mk hB
 clear hB
 have H:((slices_IndexFunc_int_int_impl_FloodUntil_lit1.f k l0 s1_0 s1_1).bind fun bt236=>(if bt236.1=(-1) then (some (l0,bt236.2)) else (slices_DeleteFunc_int_int_impl_FloodUntil_lit1.l0 k l0 bt236.1 (wrap64 (bt236.1+1)) s1_0 bt236.2)))=some (r1,r2):=h
 clear h
 replace H:=Option.bind_eq_some_iff.mp H
 obtain⟨⟨t236,t237⟩,A30,H⟩:=H
 replace H:(if t236=(-1) then (some (l0,t237)) else (slices_DeleteFunc_int_int_impl_FloodUntil_lit1.l0 k l0 t236 (wrap64 (t236+1)) s1_0 t237))=some (r1,r2):=H
 have A3:=Aside0.mk A30
 clear A30
 by_cases c4:t236=(-1)
 ·rw[if_pos c4] at H
  have c4b0:(t236 == (-1))=true:=beq_iff_eq.mpr c4
  have c4b1:(t236 != (-1))=false:=bne_eq_false_iff_eq.mpr c4
  clear c4
  simp only[Option.some.injEq,Prod.mk.injEq] at H
  obtain⟨rfl,rfl⟩:=H
  obtain⟨Ao5,co5,eo5⟩:=Kd.R_slice HO0.out
  subst eo5
  go_enter Try.func28,Try.ntmps28
  go_wp2_with (first|((with_reducible refine gate_callee (f:=45) rfl ?_);refine goesA (some 10) rfl rfl Try.func45 #[.slice Ao5 l0.length co5,(.func (.func 30) #[] #[.pointer (some ⟨g,0,none⟩),.pointer (some ⟨g2_,0,none⟩)])] rfl ?_;(with_reducible refine(slices_IndexFunc_int_int_impl_FloodUntil_lit1.calls k _ _ l0 g g2_ s1_0 s1_1 t236 t237 w0 _ ?side1 ?side2 ?side3 ?side4 ?side5 A3.out).mono ?_);(case side1=>exact b14_);(case side2=>exact b13_);(case side3=>exact bT HO0.out);(case side4=>exact(Kd.R_reads' HO0.out).2.1);(case side5=>exact far_slice (IsS96.own_ne HI1.out HO0.out (b7_)));rintro e w6 ⟨rfl,hi,hb,hk⟩;refine⟨_,rfl,?_⟩;have n0_:=Aside0.mk (Kd.R_mono (Kd.R_keep (IsS96.apart (show IsS96 g2_ w0 _ g s1_0 s1_1 from by repeat (first|(with_reducible first|exact HI1.out|apply IsS96.alloc|apply IsS96.drewN|apply IsS96.drew|apply IsS96.set_1)|exact HI1.out)) (bK HO0.out) (b7_)) hk (fun _ h=>h.2)) (fun _ h=>h.1));have n1_:=Aside0.mk (Kept.of_keep (S:=(fun k_=>(P0_ k_)∨k_=g)) (b5_) hk (.inl (.inr rfl)));have n2_:=Aside0.mk (hb);have n3_:=Aside0.mk (hi);clear HO0 HK HB;(try clear HI1);have HO0:=n0_;have HK:=n1_;have HB:=n2_;have HI1:=n3_;clear n0_ n1_ n2_ n3_;(try clear hb);(try clear hb2);(try clear hk);(try clear hi)))
  go_ret
  exact⟨_,by first|rfl|(simp[errW_none,errW_some]<;>rfl)|(simp[*,errW_none,errW_some]<;>rfl),by(with_reducible repeat (first|apply Kd.R_alloc|apply Kd.R_drewN|apply Kd.R_drew));exact HO0.out,b18_,by repeat (first|(with_reducible first|exact HB.out|apply below_alloc|apply pw_below_drewN|apply below_drew1|refine below_set ?_ (IsS96.ge HI1.out))|exact HB.out),by repeat (first|(with_reducible first|exact HK.out|apply Kept.alloc|apply Kept.drewN|apply Kept.drew|refine Kept.setCell ?_ (.inl (.inr rfl)) _)|exact HK.out)⟩
 ·rw[if_neg c4] at H
  have c4b0:(t236 == (-1))=false:=beq_eq_false_iff_ne.mpr c4
  have c4b1:(t236 != (-1))=true:=bne_iff_ne.mpr c4
  have H':=Aside0.mk H
  clear H
  obtain⟨Ao7,co7,eo7⟩:=Kd.R_slice HO0.out
  subst eo7
  go_enter Try.func28,Try.ntmps28
  go_wp2_with (first|((with_reducible refine gate_callee (f:=45) rfl ?_);refine goesA (some 10) rfl rfl Try.func45 #[.slice Ao7 l0.length co7,(.func (.func 30) #[] #[.pointer (some ⟨g,0,none⟩),.pointer (some ⟨g2_,0,none⟩)])] rfl ?_;(with_reducible refine(slices_IndexFunc_int_int_impl_FloodUntil_lit1.calls k _ _ l0 g g2_ s1_0 s1_1 t236 t237 w0 _ ?side1 ?side2 ?side3 ?side4 ?side5 A3.out).mono ?_);(case side1=>exact b14_);(case side2=>exact b13_);(case side3=>exact bT HO0.out);(case side4=>exact(Kd.R_reads' HO0.out).2.1);(case side5=>exact far_slice (IsS96.own_ne HI1.out HO0.out (b7_)));rintro e w8 ⟨rfl,hi,hb,hk⟩;refine⟨_,rfl,?_⟩;have n0_:=Aside0.mk (Kd.R_mono (Kd.R_keep (IsS96.apart (show IsS96 g2_ w0 _ g s1_0 s1_1 from by repeat (first|(with_reducible first|exact HI1.out|apply IsS96.alloc|apply IsS96.drewN|apply IsS96.drew|apply IsS96.set_1)|exact HI1.out)) (bK HO0.out) (b7_)) hk (fun _ h=>h.2)) (fun _ h=>h.1));have n1_:=Aside0.mk (Kept.of_keep (S:=(fun k_=>(P0_ k_)∨k_=g)) (b5_) hk (.inl (.inr rfl)));have n2_:=Aside0.mk (hb);have n3_:=Aside0.mk (hi);clear HO0 HK HB;(try clear HI1);have HO0:=n0_;have HK:=n1_;have HB:=n2_;have HI1:=n3_;clear n0_ n1_ n2_ n3_;(try clear hb);(try clear hb2);(try clear hk);(try clear hi)))
  go_loopg [5,6] k (fun kq v5 v6 w' => ∃ (x0_1:List Int) (x5_1:Int) (x6_1:Int) (x2001_1:Int),v5=.int .i64 x5_1∧v6=.int .i64 x6_1∧Aside0 (slices_DeleteFunc_int_int_impl_FloodUntil_lit1.l0 kq x0_1 x5_1 x6_1 s1_0 x2001_1=some (r1,r2))∧Aside0 (kq≤k)∧Aside0 (Kd.R (Kd.int .i64) 3 w' w0.heap.size (fun k_=>(P0_ k_∨w.heap.size≤k_)) (.slice Ao7 l0.length co7) x0_1)∧Aside0 (IsS96 g2_ w0 w' g s1_0 x2001_1)∧Aside0 (Kept w w' (fun k_=>(P0_ k_)∨k_=g))∧Aside0 (Below w0.heap.size w0 w'))
  case atStart=>exact⟨(l0),(t236),(wrap64 (t236+1)),(t237),(bR),(bR),H',⟨Nat.le_refl _⟩,⟨by(with_reducible repeat (first|apply Kd.R_alloc|apply Kd.R_drewN|apply Kd.R_drew));exact HO0.out⟩,⟨by repeat (first|(with_reducible first|exact HI1.out|apply IsS96.alloc|apply IsS96.drewN|apply IsS96.drew|apply IsS96.set_1)|exact HI1.out)⟩,⟨by repeat (first|(with_reducible first|exact HK.out|apply Kept.alloc|apply Kept.drewN|apply Kept.drew|refine Kept.setCell ?_ (.inl (.inr rfl)) _)|exact HK.out)⟩,⟨by repeat (first|(with_reducible first|exact HB.out|apply below_alloc|apply pw_below_drewN|apply below_drew1|refine below_set ?_ (IsS96.ge HI1.out))|exact HB.out)⟩⟩
  case round =>
   clear H'
   try clear p2
   try clear c4
   try clear c4b0
   try clear c4b1
   try clear p6
   obtain⟨x0_1,x5_1,x6_1,x2001_1,rfl,rfl,HA,HK1,HO_0,HI1,HK,HB⟩:=hrel
   have hl0_1:=(Kd.R_reads' HO_0.out).1
   rw[hl0_1] at HO_0
   (try simp only[hl0_1])
   cases gk with
   | zero=>exact absurd HA.out (by simp[slices_DeleteFunc_int_int_impl_FloodUntil_lit1.l0])
   | succ k1 =>
    have H:=HA.out
    clear HA
    simp only[slices_DeleteFunc_int_int_impl_FloodUntil_lit1.l0] at H
    by_cases c9:x6_1 < (x0_1.length:Int)
    ·rw[if_pos c9] at H
     have c9b0:decide (x6_1 < (x0_1.length:Int))=true:=decide_eq_true c9
     clear c9
     by_cases c10:0≤x6_1
     ·rw[if_pos c10] at H
      have c10b0:decide (0≤x6_1)=true:=decide_eq_true c10
      clear c10
      replace H:=Option.bind_eq_some_iff.mp H
      obtain⟨⟨t239,t240⟩,A110,H⟩:=H
      replace H:(if t239=true then (slices_DeleteFunc_int_int_impl_FloodUntil_lit1.l0 k1 x0_1 x5_1 (wrap64 (x6_1+1)) s1_0 t240) else (if 0≤x5_1 then (if x5_1 < (x0_1.length:Int) then (slices_DeleteFunc_int_int_impl_FloodUntil_lit1.l0 k1 (x0_1.set (x5_1:Int).toNat (rd x0_1 x6_1)) (wrap64 (x5_1+1)) (wrap64 (x6_1+1)) s1_0 t240) else (none)) else (none)))=some (r1,r2):=H
      have A11:=Aside0.mk A110
      clear A110
      by_cases c12:t239=true
      ·subst c12
       have H1:(slices_DeleteFunc_int_int_impl_FloodUntil_lit1.l0 k1 x0_1 x5_1 (wrap64 (x6_1+1)) s1_0 t240)=some (r1,r2):=by rw[if_pos rfl] at H;exact H
       clear H
       have H:=H1
       clear H1
       have H':=Aside0.mk H
       clear H
       have p238:0≤(x6_1:Int):=of_decide_eq_true (bD)
       have q238:x6_1 < (x0_1.length:Int):=of_decide_eq_true (bD)
       obtain⟨ad238,e238,hx238_0⟩:=Kd.at_int (Kd.R_reads' HO_0.out).2.2 x6_1 p238 q238
       cases e238
       replace p238:=eq_true p238
       replace q238:=eq_true q238
       go_wp2_with (first|(go_at_call 30;(with_reducible refine(impl_FloodUntil_lit1_captured.calls (rd x0_1 x6_1) g g2_ s1_0 x2001_1 true t240 w0 _ ?side1 ?side2 A11.out).mono ?_);(case side1=>exact b14_);(case side2=>exact b13_);rintro e w13 ⟨rfl,hi,hb,hk⟩;have n0_:=Aside0.mk (Kd.R_mono (Kd.R_keep (IsS96.apart (show IsS96 g2_ w0 _ g s1_0 x2001_1 from by repeat (first|(with_reducible first|exact HI1.out|apply IsS96.alloc|apply IsS96.drewN|apply IsS96.drew|apply IsS96.set_1)|exact HI1.out)) (bK HO_0.out) (b7_)) hk (fun _ h=>h.2)) (fun _ h=>h.1));have n1_:=Aside0.mk (Kept.of_keep (S:=(fun k_=>(P0_ k_)∨k_=g)) (b5_) hk (.inl (.inr rfl)));have n2_:=Aside0.mk (hb);have n3_:=Aside0.mk (hi);clear HO_0 HK HB;(try clear HI1);have HO_0:=n0_;have HK:=n1_;have HB:=n2_;have HI1:=n3_;clear n0_ n1_ n2_ n3_;(try clear hb);(try clear hb2);(try clear hk);(try clear hi)))
       (try simp only[← hl0_1])
       go_roundg k1
       case measure=>have:=HK1.out;omega
       case rel=>exact⟨(x0_1),(x5_1),(wrap64 (x6_1+1)),(t240),(bR),(bR),H',⟨by have:=HK1.out;omega⟩,⟨by(try simp only[hl0_1]);(with_reducible repeat (first|apply Kd.R_alloc|apply Kd.R_drewN|apply Kd.R_drew));exact HO_0.out⟩,⟨by repeat (first|(with_reducible first|exact HI1.out|apply IsS96.alloc|apply IsS96.drewN|apply IsS96.drew|apply IsS96.set_1)|exact HI1.out)⟩,⟨by repeat (first|(with_reducible first|exact HK.out|apply Kept.alloc|apply Kept.drewN|apply Kept.drew|refine Kept.setCell ?_ (.inl (.inr rfl)) _)|exact HK.out)⟩,⟨by repeat (first|(with_reducible first|exact HB.out|apply below_alloc|apply pw_below_drewN|apply below_drew1|refine below_set ?_ (IsS96.ge HI1.out))|exact HB.out)⟩⟩
      ·replace c12:=Bool.eq_false_iff.mpr c12
       subst c12
       have H1:(if 0≤x5_1 then (if x5_1 < (x0_1.length:Int) then (slices_DeleteFunc_int_int_impl_FloodUntil_lit1.l0 k1 (x0_1.set (x5_1:Int).toNat (rd x0_1 x6_1)) (wrap64 (x5_1+1)) (wrap64 (x6_1+1)) s1_0 t240) else (none)) else (none))=some (r1,r2):=by rw[if_neg (show ¬ (false=true) by decide)] at H;exact H
       clear H
       have H:=H1
       clear H1
       by_cases c14:0≤x5_1
       ·rw[if_pos c14] at H
        have c14b0:decide (0≤x5_1)=true:=decide_eq_true c14
        clear c14
        by_cases c15:x5_1 < (x0_1.length:Int)
        ·rw[if_pos c15] at H
         have c15b0:decide (x5_1 < (x0_1.length:Int))=true:=decide_eq_true c15
         clear c15
         obtain⟨y241,hy241⟩ : ∃ y_:List Int,y_=(x0_1.set (x5_1:Int).toNat (rd x0_1 x6_1)):=⟨_,rfl⟩
         replace H:(slices_DeleteFunc_int_int_impl_FloodUntil_lit1.l0 k1 y241 (wrap64 (x5_1+1)) (wrap64 (x6_1+1)) s1_0 t240)=some (r1,r2):=by first|(rw[hy241];with_reducible exact H)|(have H2_:=(Option.bind_some _ _).symm.trans H;rw[hy241];with_reducible exact H2_)|(have H2_:=(Option.bind_some _ _).symm.trans H;with_reducible exact H2_)|with_reducible exact H|(rw[hy241];exact H)|exact H
         have Ny241:=Aside0.mk hy241
         clear hy241
         have H':=Aside0.mk H
         clear H
         have p238:0≤(x6_1:Int):=of_decide_eq_true (bD)
         have q238:x6_1 < (x0_1.length:Int):=of_decide_eq_true (bD)
         obtain⟨ad238,e238,hx238_0⟩:=Kd.at_int (Kd.R_reads' HO_0.out).2.2 x6_1 p238 q238
         cases e238
         replace p238:=eq_true p238
         replace q238:=eq_true q238
         go_wp2_with (first|(go_at_call 30;(with_reducible refine(impl_FloodUntil_lit1_captured.calls (rd x0_1 x6_1) g g2_ s1_0 x2001_1 false t240 w0 _ ?side1 ?side2 A11.out).mono ?_);(case side1=>exact b14_);(case side2=>exact b13_);rintro e w17 ⟨rfl,hi,hb,hk⟩;have n0_:=Aside0.mk (Kd.R_mono (Kd.R_keep (IsS96.apart (show IsS96 g2_ w0 _ g s1_0 x2001_1 from by repeat (first|(with_reducible first|exact HI1.out|apply IsS96.alloc|apply IsS96.drewN|apply IsS96.drew|apply IsS96.set_1)|exact HI1.out)) (bK HO_0.out) (b7_)) hk (fun _ h=>h.2)) (fun _ h=>h.1));have n1_:=Aside0.mk (Kept.of_keep (S:=(fun k_=>(P0_ k_)∨k_=g)) (b5_) hk (.inl (.inr rfl)));have n2_:=Aside0.mk (hb);have n3_:=Aside0.mk (hi);clear HO_0 HK HB;(try clear HI1);have HO_0:=n0_;have HK:=n1_;have HB:=n2_;have HI1:=n3_;clear n0_ n1_ n2_ n3_;(try clear hb);(try clear hb2);(try clear hk);(try clear hi);have p16:0≤(x5_1:Int):=of_decide_eq_true (bD);have q16:(x5_1:Int) < ((x0_1.length:Int):Int):=of_decide_eq_true (bD);obtain⟨go16,co16,eo16,gb16,gl16,cl16,HG16⟩:=Kd.R_form HO_0.out (b9_);(first|cases eo16|(injection eo16 with ea_ en_ ec_;(first|subst ea_|(injection ea_ with ea_;subst ea_));subst ec_;clear en_));have GB16:=Aside0.mk gb16;have GG16:=Aside0.mk HG16;clear gb16 gl16 HG16;have HMgo16:=Aside0.mk (show(P0_ go16∨w.heap.size≤go16) from (HO_0.out.1 _ rfl));(first|simp only[add_plain] at hx238_0|skip);obtain⟨hx16_0,hf16_0⟩:=Kd.R_celln 0 HO_0.out (x5_1:Int) p16 q16;replace p16:=eq_true p16;replace q16:=eq_true q16;obtain⟨hy18_,hz18_⟩:=Kd.R_celln 0 HO_0.out (x5_1:Int) (of_decide_eq_true (bD)) (of_decide_eq_true (bD));have HP18:=Kd.R_putg HO_0.out (x5_1:Int) (rd x0_1 x6_1))|((with_reducible refine gate_store (t:=3) (p:=33) rfl ?_);refine store_event (t:=3) (p:=33) (v:=?vo_w19) (w1:=(w17.setCell ⟨go16,(x5_1:Int).toNat,none⟩ (.int .i64 (rd x0_1 x6_1)))) ?hg ?ho ?hn ?hr ?_;(case ho=>rfl);(case hg=>rfl);(case hn=>rfl);(case hr=>first|(go_simp;done)|(go_simp;rfl));intro w19 hw;have hg:w17.grownBy w19 (some go16):=(by rw[hw];exact HP18.2);have hp_:Kd.R (Kd.int .i64) 3 w19 w0.heap.size (fun k_=>(P0_ k_∨w.heap.size≤k_)) (.slice (some ⟨go16,0,none⟩) x0_1.length co7) y241:=(by rw[hw,Ny241.out];exact HP18.1);clear HP18;have n0_:=Aside0.mk (hp_);have n1_:=Aside0.mk (IsS96.grown (by repeat (first|(with_reducible first|exact HI1.out|apply IsS96.alloc|apply IsS96.drewN|apply IsS96.drew|apply IsS96.set_1)|exact HI1.out)) hg (IsS96.own_ne HI1.out HO_0.out (b7_)));have n2_:=Aside0.mk ((by rw[hw];exact below_set (HB.out) GB16.out:Below w0.heap.size w0 w19));have n3_:=Aside0.mk (Kept.of_grown (S:=(fun k_=>(P0_ k_)∨k_=g)) hg (b5_) (fun k_ e_=>Or.imp_left Or.inl ((HO_0.out.1 k_ e_))));clear HO_0;(try clear HI1);clear HB HK;have HO_0:=n0_;have HI1:=n1_;have HB:=n2_;have HK:=n3_;clear n0_ n1_ n2_ n3_;clear hg hw hp_))
         (try simp only[← hl0_1])
         go_roundg k1
         case measure=>have:=HK1.out;omega
         case rel=>exact⟨(y241),(wrap64 (x5_1+1)),(wrap64 (x6_1+1)),(t240),(bR),(bR),H',⟨by have:=HK1.out;omega⟩,⟨by(try simp only[hl0_1]);(with_reducible repeat (first|apply Kd.R_alloc|apply Kd.R_drewN|apply Kd.R_drew));exact HO_0.out⟩,⟨by repeat (first|(with_reducible first|exact HI1.out|apply IsS96.alloc|apply IsS96.drewN|apply IsS96.drew|apply IsS96.set_1)|exact HI1.out)⟩,⟨by repeat (first|(with_reducible first|exact HK.out|apply Kept.alloc|apply Kept.drewN|apply Kept.drew|refine Kept.setCell ?_ (.inl (.inr rfl)) _)|exact HK.out)⟩,⟨by repeat (first|(with_reducible first|exact HB.out|apply below_alloc|apply pw_below_drewN|apply below_drew1|refine below_set ?_ (IsS96.ge HI1.out))|exact HB.out)⟩⟩
        ·rw[if_neg c15] at H
         exact absurd H (by simp)
       ·rw[if_neg c14] at H
        exact absurd H (by simp)
     ·rw[if_neg c10] at H
      exact absurd H (by simp)
    ·rw[if_neg c9] at H
     have c9b0:decide (x6_1 < (x0_1.length:Int))=false:=decide_eq_false c9
     clear c9
     by_cases c20:0≤x5_1
     ·rw[if_pos c20] at H
      have c20b0:=eq_true c20
      have c20b1:decide (0≤x5_1)=true:=decide_eq_true c20
      clear c20
      by_cases c21:x5_1≤(x0_1.length:Int)
      ·rw[if_pos c21] at H
       have c21b0:=eq_true c21
       have c21b1:decide (x5_1≤(x0_1.length:Int))=true:=decide_eq_true c21
       clear c21
       obtain⟨y242,hy242⟩ : ∃ y_:List Int,y_=(x0_1.drop (x5_1:Int).toNat):=⟨_,rfl⟩
       replace H:(if 0 < (x0_1.length:Int) then (some (((putL x0_1 (x5_1:Int).toNat (List.replicate (x0_1.length - (x5_1:Int).toNat) 0)).take (x5_1:Int).toNat),x2001_1)) else (none))=some (r1,r2):=by first|(rw[hy242];with_reducible exact H)|(have H2_:=(Option.bind_some _ _).symm.trans H;rw[hy242];with_reducible exact H2_)|(have H2_:=(Option.bind_some _ _).symm.trans H;with_reducible exact H2_)|with_reducible exact H|(rw[hy242];exact H)|exact H
       have Ny242:=Aside0.mk hy242
       clear hy242
       by_cases c22:0 < (x0_1.length:Int)
       ·rw[if_pos c22] at H
        have c22b0:=eq_true c22
        have c22b1:decide (0 < (x0_1.length:Int))=true:=decide_eq_true c22
        clear c22
        obtain⟨y246,hy246⟩ : ∃ y_:List Int,y_=(putL x0_1 (x5_1:Int).toNat (List.replicate (x0_1.length - (x5_1:Int).toNat) 0)):=⟨_,rfl⟩
        replace H:(some ((y246.take (x5_1:Int).toNat),x2001_1))=some (r1,r2):=by first|(rw[hy246];with_reducible exact H)|(have H2_:=(Option.bind_some _ _).symm.trans H;rw[hy246];with_reducible exact H2_)|(have H2_:=(Option.bind_some _ _).symm.trans H;with_reducible exact H2_)|with_reducible exact H|(rw[hy246];exact H)|exact H
        have Ny246:=Aside0.mk hy246
        clear hy246
        have c23b0:=eq_true (of_decide_eq_true (bD):x5_1≤(x0_1.length:Int))
        obtain⟨y247,hy247⟩ : ∃ y_:List Int,y_=(y246.take (x5_1:Int).toNat):=⟨_,rfl⟩
        replace H:(some (y247,x2001_1))=some (r1,r2):=by first|(rw[hy247];with_reducible exact H)|(have H2_:=(Option.bind_some _ _).symm.trans H;rw[hy247];with_reducible exact H2_)|(have H2_:=(Option.bind_some _ _).symm.trans H;with_reducible exact H2_)|with_reducible exact H|(rw[hy247];exact H)|exact H
        have Ny247:=Aside0.mk hy247
        clear hy247
        simp only[Option.some.injEq,Prod.mk.injEq] at H
        obtain⟨rfl,rfl⟩:=H
        have q24:(x5_1:Int)≤((x0_1.length:Int):Int):=of_decide_eq_true (bD)
        obtain⟨i024,hi024,_,hsz24,_⟩:=info_parts info3
        have hroom24:x0_1.length≤co7:=(Kd.R_reads' HO_0.out).2.1
        have hC24:Kd.C (Kd.int .i64) _ Ao7 x0_1.length x0_1:=(Kd.R_reads' HO_0.out).2.2
        have q024:(0:Int)≤(x5_1:Int):=of_decide_eq_true (bD)
        have hcut24:=cut_from (P:=Try.prog) 34 3 .i64 Try.underlying34 hi024 1 hsz24 Ao7 x0_1.length co7 x5_1 q024 q24
        have hr24:=Kd.C_drop (m:=(x5_1:Int).toNat) (c:=co7) hC24 (b9_) hroom24
        obtain⟨A24,hA24⟩ : ∃ A1,A1=(if co7=(x5_1:Int).toNat then Ao7 else (Ao7:Option Addr).map (·.add ((x5_1:Int).toNat * 1))):=⟨_,rfl⟩
        obtain⟨c24,hc24⟩ : ∃ c1,c1=co7 - (x5_1:Int).toNat:=⟨_,rfl⟩
        have hy24:y242.length=x0_1.length - (x5_1:Int).toNat:=(by rw[Ny242.out,List.length_drop]<;>omega)
        rw[show(x0_1).drop (x5_1:Int).toNat=y242 from Ny242.out.symm] at hr24
        replace hr24:Kd.C (Kd.int .i64) _ A24 y242.length y242:=(by rw[hA24];exact hr24)
        rw[← hy24,← hA24,← hc24] at hcut24
        have HR245:=Aside0.mk hr24
        have HC245:=Aside0.mk (show y242.length≤c24 from by rw[hy24,hc24];exact Nat.sub_le_sub_right hroom24 _)
        clear hr24 hC24 hroom24 hi024 hsz24 hc24
        have KY24:=Aside0.mk hy24
        have KA24:=Aside0.mk hA24
        clear hy24 hA24
        have KL24:=Aside0.mk (show(x5_1:Int).toNat≤x0_1.length from by omega)
        replace q24:=eq_true q24
        have hl25_:0 < x0_1.length:=by have hl_:(0:Int) < (x0_1.length:Int):=of_decide_eq_true (bD);omega
        obtain⟨go25,co25,eo25,gb25,gl25,cl25,HG25⟩:=Kd.R_form HO_0.out (b9_)
        (first|cases eo25|(injection eo25 with ea_ en_ ec_;(first|subst ea_|(injection ea_ with ea_;subst ea_));subst ec_;clear en_))
        have GB25:=Aside0.mk gb25
        have GG25:=Aside0.mk HG25
        clear gb25 gl25 HG25
        have HMgo25:=Aside0.mk (show(P0_ go25∨w.heap.size≤go25) from (HO_0.out.1 _ rfl))
        have h0_:0≤(x5_1:Int):=of_decide_eq_true (bD)
        have h1_:(x5_1:Int)≤(x0_1.length:Int):=of_decide_eq_true (bD)
        have HP25:=setCells_R (List.replicate (x0_1.length - (x5_1:Int).toNat) (0:Int)) (x5_1:Int).toNat _ _ HO_0.out
        have h3_:(x5_1:Int).toNat≤x0_1.length:=by omega
        have HC25:=Aside0.mk (fun (c_:Nat)=>clear_cut (c:=c_) (i:=(x5_1:Int).toNat) Try.underlying34 HR245.out HO_0.out 0 (by apply Aside0.out;assumption) h3_ (by apply Aside0.out;assumption) (Kd.R_reads' HO_0.out).2.1)
        have hyl25_:y246.length=x0_1.length:=by rw[Ny246.out,putL_length]
        clear h0_ h1_ h3_
        go_wp2_with (first|((with_reducible refine gate_builtin (b:=.clear) (xs:=#[.tmp 38]) rfl ?_);refine clear_event (w1:=(wr.setCells go25 (x5_1:Int).toNat ((List.replicate (x0_1.length - (x5_1:Int).toNat) (0:Int)).map (Value.int .i64)))) ?hg ?hn ?hr ?_;(case hg=>rfl);(case hn=>rfl);(case hr=>go_simp;rw[HC25.out];simp only[List.map_replicate];rfl);intro w26 hw;have hg:wr.grownBy w26 (some go25):=(by rw[hw];exact HP25.2);have hp_:Kd.R (Kd.int .i64) 3 w26 w0.heap.size (fun k_=>(P0_ k_∨w.heap.size≤k_)) (.slice (some ⟨go25,0,none⟩) x0_1.length co7) y246:=(by rw[hw,Ny246.out];exact HP25.1);clear HP25 HC25;have n0_:=Aside0.mk (hp_);have n1_:=Aside0.mk (IsS96.grown (by repeat (first|(with_reducible first|exact HI1.out|apply IsS96.alloc|apply IsS96.drewN|apply IsS96.drew|apply IsS96.set_1)|exact HI1.out)) hg (IsS96.own_ne HI1.out HO_0.out (b7_)));have n2_:=Aside0.mk ((HB.out.grown hg (below_size HB.out) (fun k e_=>by cases e_;exact GB25.out):Below w0.heap.size w0 w26));have n3_:=Aside0.mk (Kept.of_grown (S:=(fun k_=>(P0_ k_)∨k_=g)) hg (b5_) (fun k_ e_=>Or.imp_left Or.inl ((HO_0.out.1 k_ e_))));clear HO_0;(try clear HI1);clear HB HK;have HO_0:=n0_;have HI1:=n1_;have HB:=n2_;have HK:=n3_;clear n0_ n1_ n2_ n3_;clear hg hw hp_;have q27:(x5_1:Int)≤((x0_1.length:Int):Int):=of_decide_eq_true (bD);obtain⟨i027,hi027,_,hsz27,_⟩:=info_parts info3;have hcut27:=cut_to (P:=Try.prog) 34 3 .i64 Try.underlying34 hi027 (some ⟨go25,0,none⟩) x0_1.length co7 x5_1 (of_decide_eq_true (bD)) q27 (Kd.R_reads' HO_0.out).2.1;have hr27:=Kd.R_take (m:=(x5_1:Int).toNat) HO_0.out (b9_);have hy27:y247.length=(x5_1:Int).toNat:=(by rw[Ny247.out,List.length_take];omega);rw[← Ny247.out] at hr27;rw[← hy27] at hr27 hcut27;clear hy27 hi027 hsz27 HO_0;have HO249:=Aside0.mk hr27;clear hr27;replace q27:=eq_true q27))
        go_ret
        exact⟨_,by first|rfl|(simp[errW_none,errW_some]<;>rfl)|(simp[*,errW_none,errW_some]<;>rfl),by(with_reducible repeat (first|apply Kd.R_alloc|apply Kd.R_drewN|apply Kd.R_drew));exact HO249.out,b18_,by repeat (first|(with_reducible first|exact HB.out|apply below_alloc|apply pw_below_drewN|apply below_drew1|refine below_set ?_ (IsS96.ge HI1.out))|exact HB.out),by repeat (first|(with_reducible first|exact HK.out|apply Kept.alloc|apply Kept.drewN|apply Kept.drew|refine Kept.setCell ?_ (.inl (.inr rfl)) _)|exact HK.out)⟩
       ·rw[if_neg c22] at H
        exact absurd H (by simp)
      ·rw[if_neg c21] at H
       exact absurd H (by simp)
     ·rw[if_neg c20] at H
      exact absurd H (by simp)

/-! ### impl_FloodUntil: function 11, by hand -/
def impl_FloodUntil.j0:Nat→List (S58)→Int→Int→Int→Bool→Option (List Int × Bool)
 | 0,_,_,_,_,_=>none
 | k+1,l0,a1,a2,a3,x=>if x=true then (some (([]:List Int),false)) else ((impl_reach.f k l0 a1 a2).bind fun bt5=>((impl_numbered.f k 8).bind fun t6=>((slices_DeleteFunc_int_int_impl_FloodUntil_lit1.f k t6 bt5.1 a3).bind fun bt7=>(some (bt7.1,true)))))
def impl_FloodUntil.f (k:Nat) (l0:List (S58)) (a1:Int) (a2:Int) (a3:Int):Option (List Int × Bool):=(impl_GoodPlan.f k l0).bind fun t1=>(if t1=true then ((impl_isNode.f a1).bind fun t2=>(if t2=true then ((impl_isWhen.f a2).bind fun t3=>(if t3=true then ((impl_isWhen.f a3).bind fun t4=>(impl_FloodUntil.j0 k l0 a1 a2 a3 (!t4))) else (impl_FloodUntil.j0 k l0 a1 a2 a3 true))) else (impl_FloodUntil.j0 k l0 a1 a2 a3 true))) else (impl_FloodUntil.j0 k l0 a1 a2 a3 true))
theorem impl_FloodUntil.mono_l : ∀ k,(∀ y0 y1 y2 y3 y4,LeO (impl_FloodUntil.j0 k y0 y1 y2 y3 y4) (impl_FloodUntil.j0 (k+1) y0 y1 y2 y3 y4))
 | 0=>fun _ _ _ _ _ r h=>by simp[impl_FloodUntil.j0] at h
 | k+1=>by
  have ih0:=impl_FloodUntil.mono_l k
  ·intro y0 y1 y2 y3 y4
   unfold impl_FloodUntil.j0
   repeat' first
   | (with_reducible exact ih0 _ _ _ _ _)
   | (with_reducible exact impl_GoodPlan.mono _ _)
   | (with_reducible exact impl_numbered.mono _ _)
   | (with_reducible exact impl_reach.mono _ _ _ _)
   | (with_reducible exact slices_DeleteFunc_int_int_impl_FloodUntil_lit1.mono _ _ _ _)
   | (with_reducible exact LeO.refl _)
   | (with_reducible exact LeO.none _)
   | (with_reducible refine LeO.ite ?_ ?_)
   | (with_reducible refine LeO.bind ?_ (fun _ => ?_))
   | exact ih0 _ _ _ _ _
   | exact impl_GoodPlan.mono _ _
   | exact impl_numbered.mono _ _
   | exact impl_reach.mono _ _ _ _
   | exact slices_DeleteFunc_int_int_impl_FloodUntil_lit1.mono _ _ _ _
   | exact LeO.none _
   | refine LeO.ite ?_ ?_
   | refine LeO.bind ?_ (fun _ => ?_)
theorem impl_FloodUntil.mono : ∀ a0 a1 a2 a3 k,LeO (impl_FloodUntil.f k a0 a1 a2 a3) (impl_FloodUntil.f (k+1) a0 a1 a2 a3):=by
 intro a0 a1 a2 a3 k
 have ih0:=impl_FloodUntil.mono_l k
 unfold impl_FloodUntil.f
 repeat' first
  | (with_reducible exact ih0 _ _ _ _ _)
  | (with_reducible exact impl_GoodPlan.mono _ _)
  | (with_reducible exact impl_numbered.mono _ _)
  | (with_reducible exact impl_reach.mono _ _ _ _)
  | (with_reducible exact slices_DeleteFunc_int_int_impl_FloodUntil_lit1.mono _ _ _ _)
  | (with_reducible exact LeO.refl _)
  | (with_reducible exact LeO.none _)
  | (with_reducible refine LeO.ite ?_ ?_)
  | (with_reducible refine LeO.bind ?_ (fun _ => ?_))
  | exact ih0 _ _ _ _ _
  | exact impl_GoodPlan.mono _ _
  | exact impl_numbered.mono _ _
  | exact impl_reach.mono _ _ _ _
  | exact slices_DeleteFunc_int_int_impl_FloodUntil_lit1.mono _ _ _ _
  | exact LeO.none _
  | refine LeO.ite ?_ ?_
  | refine LeO.bind ?_ (fun _ => ?_)
set_option maxHeartbeats 8000000 in
set_option maxRecDepth 100000 in
theorem impl_FloodUntil.calls (k:Nat) (A0:Option Addr) (c0:Nat) (l0:List (S58)) (a1:Int) (a2:Int) (a3:Int) (r1:List Int) (r2:Bool) (w:World) (hr0:Kd.C k58 w A0 l0.length l0) (hc0:l0.length≤c0) (h:impl_FloodUntil.f k l0 a1 a2 a3=some (r1,r2)) :
  Calls Try.prog 11 #[.slice A0 l0.length c0,.int .i64 a1,.int .i64 a2,.int .i64 a3] w fun e w' => ∃ v0_:Value,e=.returned (.tuple #[v0_,.bool r2])∧Kd.R (Kd.int .i64) 3 w' w.heap.size (fun _=>True) v0_ r1∧Below w.heap.size w w':=by
 have HR0:=Aside0.mk hr0
 have HC0:=Aside0.mk hc0
 clear hr0 hc0
 have HB:=Aside0.mk (Below.refl w.heap.size w)
 have HC5:=Aside0.mk h
 clear h
 go_enter Try.func11,Try.ntmps11
 go_upto_region 1 with (first|((with_reducible refine gate_dst (N:=7) rfl ?_);refine box_event ?hg (N:=7) ?hd (cs:=#[.int .i64 a3]) (t:=3) ?hr ?_;(case hd=>rfl);(case hg=>rfl);(case hr=>first|(go_simp;done)|(go_simp;rfl));intro gb7 hg w6 hbox hb;have n0_:=Aside0.mk (below_step HB.out hb);have n1_:=Aside0.mk hbox;have n2_:Aside0 (w.heap.size≤gb7):=Aside0.mk (by rw[hg];exact Nat.le_refl _);clear HB;have HB:=n0_;have BK7:=n1_;have GE7:=n2_;clear n0_ n1_ n2_;clear hb hbox hg))
 go_cut [29] (fun v29 wc => ∃ (kq:Nat) (x29:Bool),v29=.bool x29∧Aside0 (impl_FloodUntil.j0 kq l0 a1 a2 a3 x29=some (r1,r2))∧Aside0 (kq≤k)∧Aside0 (Below w.heap.size w wc)∧Aside0 (wc.heap[gb7]?=some (.cells #[.int .i64 a3] 3 (0,0))))
 case first =>
  have H:=HC5.out
  clear HC5
  have H:((impl_GoodPlan.f k l0).bind fun t1=>(if t1=true then ((impl_isNode.f a1).bind fun t2=>(if t2=true then ((impl_isWhen.f a2).bind fun t3=>(if t3=true then ((impl_isWhen.f a3).bind fun t4=>(impl_FloodUntil.j0 k l0 a1 a2 a3 (!t4))) else (impl_FloodUntil.j0 k l0 a1 a2 a3 true))) else (impl_FloodUntil.j0 k l0 a1 a2 a3 true))) else (impl_FloodUntil.j0 k l0 a1 a2 a3 true)))=some (r1,r2):=H
  replace H:=Option.bind_eq_some_iff.mp H
  obtain⟨t1,A60,H⟩:=H
  replace H:(if t1=true then ((impl_isNode.f a1).bind fun t2=>(if t2=true then ((impl_isWhen.f a2).bind fun t3=>(if t3=true then ((impl_isWhen.f a3).bind fun t4=>(impl_FloodUntil.j0 k l0 a1 a2 a3 (!t4))) else (impl_FloodUntil.j0 k l0 a1 a2 a3 true))) else (impl_FloodUntil.j0 k l0 a1 a2 a3 true))) else (impl_FloodUntil.j0 k l0 a1 a2 a3 true))=some (r1,r2):=H
  have A6:=Aside0.mk A60
  clear A60
  by_cases ct1:t1=true
  ·subst ct1
   rw[if_pos rfl] at H
   replace H:=Option.bind_eq_some_iff.mp H
   obtain⟨t2,A80,H⟩:=H
   replace H:(if t2=true then ((impl_isWhen.f a2).bind fun t3=>(if t3=true then ((impl_isWhen.f a3).bind fun t4=>(impl_FloodUntil.j0 k l0 a1 a2 a3 (!t4))) else (impl_FloodUntil.j0 k l0 a1 a2 a3 true))) else (impl_FloodUntil.j0 k l0 a1 a2 a3 true))=some (r1,r2):=H
   have A8:=Aside0.mk A80
   clear A80
   by_cases ct2:t2=true
   ·subst ct2
    rw[if_pos rfl] at H
    replace H:=Option.bind_eq_some_iff.mp H
    obtain⟨t3,A100,H⟩:=H
    replace H:(if t3=true then ((impl_isWhen.f a3).bind fun t4=>(impl_FloodUntil.j0 k l0 a1 a2 a3 (!t4))) else (impl_FloodUntil.j0 k l0 a1 a2 a3 true))=some (r1,r2):=H
    have A10:=Aside0.mk A100
    clear A100
    by_cases ct3:t3=true
    ·subst ct3
     rw[if_pos rfl] at H
     replace H:=Option.bind_eq_some_iff.mp H
     obtain⟨t4,A120,H⟩:=H
     replace H:((impl_FloodUntil.j0 k l0 a1 a2 a3 (!t4)))=some (r1,r2):=H
     have A12:=Aside0.mk A120
     clear A120
     have H':=Aside0.mk H
     clear H
     go_wp2_with (first|((with_reducible refine gate_callee (f:=24) rfl ?_);refine goesA (some 13) rfl rfl Try.func24 #[.slice A0 l0.length c0] rfl ?_;(with_reducible refine(impl_GoodPlan.calls k _ _ l0 true _ ?side1 ?side2 A6.out).mono ?_);(case side1=>exact Kd.C_below HR0.out HB.out);(case side2=>exact HC0.out);rintro e w13 ⟨rfl,hb⟩;refine⟨_,rfl,?_⟩;have n0_:=Aside0.mk (below_step HB.out hb);have n1_:=Aside0.mk (blk_below BK7.out hb);clear HB BK7;have HB:=n0_;have BK7:=n1_;clear n0_ n1_ hb;have hcz7:w13.cell? ⟨gb7,0,none⟩=some (.int .i64 a3):=(blk_cell BK7.out 0).trans rfl)|(go_at_call 25;(with_reducible refine(impl_isNode.calls a1 true _ A8.out).mono ?_);rintro e w' ⟨rfl,⟨nd,rfl⟩⟩)|(go_at_call 26;(with_reducible refine(impl_isWhen.calls a2 true _ A10.out).mono ?_);rintro e w' ⟨rfl,⟨nd,rfl⟩⟩)|(go_at_call 26;(with_reducible refine(impl_isWhen.calls a3 t4 _ A12.out).mono ?_);rintro e w' ⟨rfl,⟨nd,rfl⟩⟩))
     go_meet
     case rel=>exact⟨_,(!t4),(bR),H',⟨by first|omega|exact Nat.le_refl _⟩,⟨by repeat (first|(with_reducible first|exact HB.out|apply below_alloc|apply pw_below_drewN|apply below_drew1)|exact HB.out)⟩,⟨by(with_reducible repeat (first|refine blk_drewN ?_ _|refine blk_drew ?_|refine blk_alloc ?_ _));exact BK7.out⟩⟩
    ·replace ct3:=Bool.eq_false_iff.mpr ct3
     subst ct3
     rw[if_neg (show ¬ (false=true) by decide)] at H
     have H':=Aside0.mk H
     clear H
     go_wp2_with (first|((with_reducible refine gate_callee (f:=24) rfl ?_);refine goesA (some 13) rfl rfl Try.func24 #[.slice A0 l0.length c0] rfl ?_;(with_reducible refine(impl_GoodPlan.calls k _ _ l0 true _ ?side1 ?side2 A6.out).mono ?_);(case side1=>exact Kd.C_below HR0.out HB.out);(case side2=>exact HC0.out);rintro e w13 ⟨rfl,hb⟩;refine⟨_,rfl,?_⟩;have n0_:=Aside0.mk (below_step HB.out hb);have n1_:=Aside0.mk (blk_below BK7.out hb);clear HB BK7;have HB:=n0_;have BK7:=n1_;clear n0_ n1_ hb;have hcz7:w13.cell? ⟨gb7,0,none⟩=some (.int .i64 a3):=(blk_cell BK7.out 0).trans rfl)|(go_at_call 25;(with_reducible refine(impl_isNode.calls a1 true _ A8.out).mono ?_);rintro e w' ⟨rfl,⟨nd,rfl⟩⟩)|(go_at_call 26;(with_reducible refine(impl_isWhen.calls a2 false _ A10.out).mono ?_);rintro e w' ⟨rfl,⟨nd,rfl⟩⟩))
     go_meet
     case rel=>exact⟨_,(true),(bR),H',⟨by first|omega|exact Nat.le_refl _⟩,⟨by repeat (first|(with_reducible first|exact HB.out|apply below_alloc|apply pw_below_drewN|apply below_drew1)|exact HB.out)⟩,⟨by(with_reducible repeat (first|refine blk_drewN ?_ _|refine blk_drew ?_|refine blk_alloc ?_ _));exact BK7.out⟩⟩
   ·replace ct2:=Bool.eq_false_iff.mpr ct2
    subst ct2
    rw[if_neg (show ¬ (false=true) by decide)] at H
    have H':=Aside0.mk H
    clear H
    go_wp2_with (first|((with_reducible refine gate_callee (f:=24) rfl ?_);refine goesA (some 13) rfl rfl Try.func24 #[.slice A0 l0.length c0] rfl ?_;(with_reducible refine(impl_GoodPlan.calls k _ _ l0 true _ ?side1 ?side2 A6.out).mono ?_);(case side1=>exact Kd.C_below HR0.out HB.out);(case side2=>exact HC0.out);rintro e w13 ⟨rfl,hb⟩;refine⟨_,rfl,?_⟩;have n0_:=Aside0.mk (below_step HB.out hb);have n1_:=Aside0.mk (blk_below BK7.out hb);clear HB BK7;have HB:=n0_;have BK7:=n1_;clear n0_ n1_ hb;have hcz7:w13.cell? ⟨gb7,0,none⟩=some (.int .i64 a3):=(blk_cell BK7.out 0).trans rfl)|(go_at_call 25;(with_reducible refine(impl_isNode.calls a1 false _ A8.out).mono ?_);rintro e w' ⟨rfl,⟨nd,rfl⟩⟩))
    go_meet
    case rel=>exact⟨_,(true),(bR),H',⟨by first|omega|exact Nat.le_refl _⟩,⟨by repeat (first|(with_reducible first|exact HB.out|apply below_alloc|apply pw_below_drewN|apply below_drew1)|exact HB.out)⟩,⟨by(with_reducible repeat (first|refine blk_drewN ?_ _|refine blk_drew ?_|refine blk_alloc ?_ _));exact BK7.out⟩⟩
  ·replace ct1:=Bool.eq_false_iff.mpr ct1
   subst ct1
   rw[if_neg (show ¬ (false=true) by decide)] at H
   have H':=Aside0.mk H
   clear H
   go_wp2_with (first|((with_reducible refine gate_callee (f:=24) rfl ?_);refine goesA (some 13) rfl rfl Try.func24 #[.slice A0 l0.length c0] rfl ?_;(with_reducible refine(impl_GoodPlan.calls k _ _ l0 false _ ?side1 ?side2 A6.out).mono ?_);(case side1=>exact Kd.C_below HR0.out HB.out);(case side2=>exact HC0.out);rintro e w13 ⟨rfl,hb⟩;refine⟨_,rfl,?_⟩;have n0_:=Aside0.mk (below_step HB.out hb);have n1_:=Aside0.mk (blk_below BK7.out hb);clear HB BK7;have HB:=n0_;have BK7:=n1_;clear n0_ n1_ hb;have hcz7:w13.cell? ⟨gb7,0,none⟩=some (.int .i64 a3):=(blk_cell BK7.out 0).trans rfl))
   go_meet
   case rel=>exact⟨_,(true),(bR),H',⟨by first|omega|exact Nat.le_refl _⟩,⟨by repeat (first|(with_reducible first|exact HB.out|apply below_alloc|apply pw_below_drewN|apply below_drew1)|exact HB.out)⟩,⟨by(with_reducible repeat (first|refine blk_drewN ?_ _|refine blk_drew ?_|refine blk_alloc ?_ _));exact BK7.out⟩⟩
 case rest =>
  clear HC5
  obtain⟨kq,x29,rfl,HA,HJ,HB,BK7⟩:=hcut
  cases kq with
  | zero=>exact absurd HA.out (by simp[impl_FloodUntil.j0])
  | succ kj =>
   have H:=HA.out
   clear HA
   simp only[impl_FloodUntil.j0] at H
   by_cases c1:x29=true
   ·subst c1
    rw[if_pos rfl] at H
    simp only[Option.some.injEq,Prod.mk.injEq] at H
    obtain⟨rfl,rfl⟩:=H
    go_wp2
    go_ret2
    exact⟨_,by first|rfl|(simp[errW_none,errW_some]<;>rfl)|(simp[*,errW_none,errW_some]<;>rfl),Kd.R_nil _ _ _ _ _,bB⟩
   ·replace c1:=Bool.eq_false_iff.mpr c1
    subst c1
    rw[if_neg (show ¬ (false=true) by decide)] at H
    replace H:=Option.bind_eq_some_iff.mp H
    obtain⟨⟨t5,t5b⟩,A50,H⟩:=H
    have A5:=Aside0.mk A50
    clear A50
    replace H:=Option.bind_eq_some_iff.mp H
    obtain⟨t6,A60,H⟩:=H
    have A6:=Aside0.mk A60
    clear A60
    replace H:=Option.bind_eq_some_iff.mp H
    obtain⟨⟨t7,t7b⟩,A70,H⟩:=H
    have A7:Aside0 (slices_DeleteFunc_int_int_impl_FloodUntil_lit1.f kj t6 t5 a3=some (t7,t7b)):=Aside0.mk A70
    clear A70
    simp only[Option.some.injEq,Prod.mk.injEq] at H
    obtain⟨rfl,rfl⟩:=H
    go_wp2_with (first|((with_reducible refine gate_callee (f:=27) rfl ?_);refine goesA (some 34) rfl rfl Try.func27 #[.slice A0 l0.length c0,.int .i64 a1,.int .i64 a2] rfl ?_;(with_reducible refine(impl_reach.calls kj _ _ l0 a1 a2 t5 t5b _ ?side1 ?side2 A5.out).mono ?_);(case side1=>exact Kd.C_below HR0.out HB.out);(case side2=>exact HC0.out);rintro e w20 ⟨v0,v1,rfl,ho0,ho1,hb⟩;refine⟨_,rfl,?_⟩;obtain⟨A9,c9,e9⟩:=Kd.R_slice ho0;subst e9;have n0_:=Aside0.mk (Kd.R_mono (ok':=fun _=>True) (Kd.R_lower ho0 (below_size HB.out)) (fun _ _=>trivial));have n1_:=Aside0.mk (below_step HB.out hb);have n2_:=Aside0.mk (blk_below BK7.out hb);clear HB BK7;have HO9:=n0_;have HB:=n1_;have BK7:=n2_;clear n0_ n1_ n2_ hb ho0 ho1)|((with_reducible refine gate_dst (N:=10) rfl ?_);refine box_event ?hg (N:=10) ?hd (cs:=#[.slice none 0 0]) (t:=34) ?hr ?_;(case hd=>rfl);(case hg=>rfl);(case hr=>first|(go_simp;done)|(go_simp;rfl));intro gb10 hg w21 hbox hb;have n0_:=Aside0.mk (Kd.R_below HO9.out hb);have n1_:=Aside0.mk (below_step HB.out hb);have n2_:=Aside0.mk (blk_below BK7.out hb);have n3_:=Aside0.mk hbox;have n4_:Aside0 (gb7≠gb10):=Aside0.mk (by have:=blk_lt BK7.out;omega);have n5_:Aside0 (w.heap.size≤gb10):=Aside0.mk (by rw[hg];exact below_size HB.out);clear HB BK7 HO9;have HO9:=n0_;have HB:=n1_;have BK7:=n2_;have BK10:=n3_;have NE7:=n4_;have GE10:=n5_;clear n0_ n1_ n2_ n3_ n4_ n5_ hb hbox hg;have hcz10:w21.cell? ⟨gb10,0,none⟩=some (.slice none 0 0):=(blk_cell BK10.out 0).trans rfl;have hfz10:w21.frozen? ⟨gb10,0,none⟩=false:=blk_frozen BK10.out 0)|((with_reducible refine gate_callee (f:=29) rfl ?_);refine goesA (some 37) rfl rfl Try.func29 #[.int .i64 8] rfl ?_;(with_reducible refine(impl_numbered.calls kj 8 t6 _ A6.out).mono ?_);rintro e w22 ⟨vn,rfl,ho0,hb⟩;refine⟨_,rfl,?_⟩;have HN:=Aside0.mk ho0;have HBN:=Aside0.mk hb;clear ho0 hb)|((with_reducible refine gate_callee (f:=28) rfl ?_);refine goesA (some 39) rfl rfl Try.func28 #[vn,(.func (.func 30) #[] #[.pointer (some ⟨gb10,0,none⟩),.pointer (some ⟨gb7,0,none⟩)])] rfl ?_;(with_reducible refine(slices_DeleteFunc_int_int_impl_FloodUntil_lit1.calls kj (fun _=>True) vn t6 gb10 gb7 t5 a3 t7 t7b (w21.setCell ⟨gb10,0,none⟩ (.slice A9 t5.length c9)) _ ?side1 ?side2 ?side3 A7.out).mono ?_);(case side1=>exact⟨A9,c9,⟨(blk_set BK10.out 0 _).trans rfl,blk_far BK7.out NE7.out _⟩,trivial,(Kd.R_reads' (Kd.R_set HO9.out BK10.out (b7_) 0 _)).2.2⟩);(case side2=>exact HBN.out);(case side3=>exact HN.out);rintro e w23 ⟨v2,rfl,ho0,hi,hb,hkp⟩;refine⟨_,rfl,?_⟩;have n0_:Aside0 (Kd.R (Kd.int .i64) 3 w23 w.heap.size (fun _=>True) v2 t7):=Aside0.mk (Kd.R_mono (Kd.R_lower ho0 (below_size (below_set HB.out GE10.out))) (fun _ _=>trivial));have n1_:Aside0 (Below w.heap.size w w23):=Aside0.mk (below_step (below_set HB.out GE10.out) hb);clear HB;have HO2:=n0_;have HB:=n1_;clear n0_ n1_ ho0 hi hb hkp))
    go_ret2
    exact⟨_,by first|rfl|(simp[errW_none,errW_some]<;>rfl)|(simp[*,errW_none,errW_some]<;>rfl),HO2.out,HB.out⟩


/-! ### spec_l1In: function 16 -/
def spec_l1In.f (a0:Int) (a1:Int) (a2:Int):Option (Bool):=if a0 ≥ a1 then (some (decide (a0≤a2))) else (some false)
set_option maxHeartbeats 8000000 in
set_option maxRecDepth 100000 in
theorem spec_l1In.calls (a0:Int) (a1:Int) (a2:Int) (r:Bool) (w:World) (h:spec_l1In.f a0 a1 a2=some r) :
  Calls Try.prog 16 #[.int .i64 a0,.int .i64 a1,.int .i64 a2] w fun e w'=>e=.returned (.bool r)∧Drawn0 w w':=by
 have H:(if a0 ≥ a1 then (some (decide (a0≤a2))) else (some false))=some r:=h
 clear h
 by_cases c4:a0 ≥ a1
 ·rw[if_pos c4] at H
  have c4b0:decide (a1≤a0)=true:=decide_eq_true c4
  clear c4
  obtain rfl:=Option.some.inj H
  go_enter Try.func16,Try.ntmps16
  go_wp2
  go_ret
  exact⟨bR,bW⟩
 ·rw[if_neg c4] at H
  have c4b0:decide (a1≤a0)=false:=decide_eq_false c4
  clear c4
  obtain rfl:=Option.some.inj H
  go_enter Try.func16,Try.ntmps16
  go_wp2
  go_ret
  exact⟨bR,bW⟩

/-! ### spec_l6Node: function 32 -/
def spec_l6Node.f (a0:Int):Option (Bool):=if a0 ≥ 0 then (some (decide (a0 < 8))) else (some false)
set_option maxHeartbeats 8000000 in
set_option maxRecDepth 100000 in
theorem spec_l6Node.calls (a0:Int) (r:Bool) (w:World) (h:spec_l6Node.f a0=some r) :
  Calls Try.prog 32 #[.int .i64 a0] w fun e w'=>e=.returned (.bool r)∧Drawn0 w w':=by
 have H:(if a0 ≥ 0 then (some (decide (a0 < 8))) else (some false))=some r:=h
 clear h
 by_cases c2:a0 ≥ 0
 ·rw[if_pos c2] at H
  have c2b0:decide (0≤a0)=true:=decide_eq_true c2
  clear c2
  obtain rfl:=Option.some.inj H
  go_enter Try.func32,Try.ntmps32
  go_wp2
  go_ret
  exact⟨bR,bW⟩
 ·rw[if_neg c2] at H
  have c2b0:decide (0≤a0)=false:=decide_eq_false c2
  clear c2
  obtain rfl:=Option.some.inj H
  go_enter Try.func32,Try.ntmps32
  go_wp2
  go_ret
  exact⟨bR,bW⟩

/-! ### spec_l6When: function 33 -/
def spec_l6When.f (a0:Int):Option (Bool):=(spec_l1In.f a0 0 1000).bind fun t250=>(some t250)
set_option maxHeartbeats 8000000 in
set_option maxRecDepth 100000 in
theorem spec_l6When.calls (a0:Int) (r:Bool) (w:World) (h:spec_l6When.f a0=some r) :
  Calls Try.prog 33 #[.int .i64 a0] w fun e w'=>e=.returned (.bool r)∧Drawn0 w w':=by
 have H:((spec_l1In.f a0 0 1000).bind fun t250=>(some t250))=some r:=h
 clear h
 replace H:=Option.bind_eq_some_iff.mp H
 obtain⟨t250,A20,H⟩:=H
 have A2:=Aside0.mk A20
 clear A20
 obtain rfl:=Option.some.inj H
 go_enter Try.func33,Try.ntmps33
 go_wp2_with (first|((with_reducible refine gate_callee (f:=16) rfl ?_);refine goesA (some 4) rfl rfl Try.func16 #[.int .i64 a0,.int .i64 0,.int .i64 1000] rfl ?_;(with_reducible refine(spec_l1In.calls a0 0 1000 t250 _ A2.out).mono ?_);rintro e w' ⟨rfl,⟨nd,rfl⟩⟩;refine⟨_,rfl,?_⟩))
 go_ret
 exact⟨bR,bW⟩

end Go.Proofs.Ytanegdfncfkinaa.XFnFlood
