-- Written by this session's own program (wip/xprint.py) out of the translation; Lean checks it.
import Derived.Test.YteneeohaoplpbaaXFnFollowx0
import Derived.Test.YteneeohaoplpbaaXFnFollowx3
import Derived.Test.YteneeohaoplpbaaXFnFollowx4
import Derived.Test.YteneeohaoplpbaaXFnFollowx12
namespace Go.Proofs.Yteneeohaoplpbaa.XFnFollow
open Go.RowKit Go.Proofs.YteneeohaoplpbaaW.PrintWords Go.Proofs.YteneeohaoplpbaaW.PrintLast Go.Proofs.YteneeohaoplpbaaW.PrintMore
open Go.Proofs.YteneeohaoplpbaaW.PrintWords.Aside0 renaming mk → am
attribute [local go_sem] max2_int min2_int max_two min_two max_three min_three max_four min_four   -- for this text's walks alone
set_option linter.unusedVariables false
set_option linter.unusedSimpArgs false

/-! ### slices_IndexFunc_int_int_impl_areOf_lit1: function 148 -/
def slices_IndexFunc_int_int_impl_areOf_lit1.l0:Nat→List Int→Int→Int→Int→Option (Int × Int)
 | 0,_,_,_,_=>none
 | k+1,x0,x7,x8,x2000=>if x8 < x7 then (if 0≤x8 then (if x8 < (x0.length:Int) then ((impl_areOf_lit1_captured.f (rd x0 x8) x2000).bind fun bt505=>(if bt505.1=true then (some (x8,bt505.2)) else (slices_IndexFunc_int_int_impl_areOf_lit1.l0 k x0 x7 (wrap64 (x8+1)) bt505.2))) else (none)) else (none)) else (some ((-1),x2000))
def slices_IndexFunc_int_int_impl_areOf_lit1.f (k:Nat) (l0:List Int) (s1_0:Int):Option (Int × Int):=slices_IndexFunc_int_int_impl_areOf_lit1.l0 k l0 (l0.length:Int) 0 s1_0
theorem slices_IndexFunc_int_int_impl_areOf_lit1.mono_l : ∀ k,(∀ y0 y1 y2 y3,LeO (slices_IndexFunc_int_int_impl_areOf_lit1.l0 k y0 y1 y2 y3) (slices_IndexFunc_int_int_impl_areOf_lit1.l0 (k+1) y0 y1 y2 y3))
 | 0=>fun _ _ _ _ r h=>by simp[slices_IndexFunc_int_int_impl_areOf_lit1.l0] at h
 | k+1=>by
  have ih0:=slices_IndexFunc_int_int_impl_areOf_lit1.mono_l k
  ·intro y0 y1 y2 y3
   unfold slices_IndexFunc_int_int_impl_areOf_lit1.l0
   repeat' first
   | (with_reducible exact ih0 _ _ _ _)
   | (with_reducible exact LeO.refl _)
   | (with_reducible exact LeO.none _)
   | (with_reducible refine LeO.ite ?_ ?_)
   | (with_reducible refine LeO.bind ?_ (fun _ => ?_))
theorem slices_IndexFunc_int_int_impl_areOf_lit1.mono : ∀ a0 a1 k,LeO (slices_IndexFunc_int_int_impl_areOf_lit1.f k a0 a1) (slices_IndexFunc_int_int_impl_areOf_lit1.f (k+1) a0 a1):=by
 intro a0 a1 k
 have ih0:=slices_IndexFunc_int_int_impl_areOf_lit1.mono_l k
 unfold slices_IndexFunc_int_int_impl_areOf_lit1.f
 repeat' first
  | (with_reducible exact ih0 _ _ _ _)
  | (with_reducible exact LeO.refl _)
  | (with_reducible exact LeO.none _)
  | (with_reducible refine LeO.ite ?_ ?_)
  | (with_reducible refine LeO.bind ?_ (fun _ => ?_))
set_option maxHeartbeats 8000000 in
set_option maxRecDepth 100000 in
theorem slices_IndexFunc_int_int_impl_areOf_lit1.calls (k:Nat) (A0:Option Addr) (c0:Nat) (l0:List Int) (g:Nat) (s1_0:Int) (r1:Int) (r2:Int) (w0 w:World) (hI:IsS3 w0 w g s1_0) (hB:Below w0.heap.size w0 w) (hr0:Kd.C (Kd.int .i64) w A0 l0.length l0) (hc0:l0.length≤c0) (hf0 : ∀ ad,A0=some ad→0 < l0.length→ad.block≠g) (h:slices_IndexFunc_int_int_impl_areOf_lit1.f k l0 s1_0=some (r1,r2)) :
  Calls Try.prog 148 #[.slice A0 l0.length c0,(.func (.func 163) #[] #[.pointer (some ⟨g,0,none⟩)])] w fun e w'=>e=.returned (.int .i64 r1)∧IsS3 w0 w' g r2∧Below w0.heap.size w0 w'∧KeepBut w w' g none:=by
 have HR0:=am hr0
 have HC0:=am hc0
 clear hr0 hc0
 have HI1:=am hI
 have HK:=am (KeepBut.refl w g none)
 have HL:=am hB.size
 clear hI
 have HW0:=am hB.size
 have HB:=am hB
 clear hB
 have H:(slices_IndexFunc_int_int_impl_areOf_lit1.l0 k l0 (l0.length:Int) 0 s1_0)=some (r1,r2):=h
 clear h
 have H':=am H
 clear H
 go_enter Try.func148,Try.ntmps148
 go_wp2
 go_loopg [8] k (fun kq v8 w' => ∃ (x8_1:Int) (x2000_1:Int),v8=.int .i64 x8_1∧Aside0 (slices_IndexFunc_int_int_impl_areOf_lit1.l0 kq l0 (l0.length:Int) x8_1 x2000_1=some (r1,r2))∧Aside0 (kq≤k)∧Aside0 (IsS3 w0 w' g x2000_1)∧Aside0 (KeepBut w w' g none)∧Aside0 (Below w0.heap.size w0 w'))
 case atStart=>exact⟨(0),(s1_0),(bR),H',⟨Nat.le_refl _⟩,⟨by repeat (first|(with_reducible first|exact HI1.out|apply IsS3.alloc|apply IsS3.drewN|apply IsS3.drew|apply IsS3.set_0)|exact HI1.out)⟩,⟨by repeat (first|(with_reducible first|exact HK.out|apply KeepBut.set_|apply keep_drewN|apply keep_drew|apply keep_alloc)|exact HK.out)⟩,⟨by repeat (first|(with_reducible first|exact HB.out|apply below_alloc|apply pw_below_drewN|apply below_drew1|refine below_set ?_ (IsS3.ge HI1.out))|exact HB.out)⟩⟩
 case round =>
  clear H'
  try clear p2
  obtain⟨x8_1,x2000_1,rfl,HA,HK1,HI1,HK,HB⟩:=hrel
  cases gk with
  | zero=>exact absurd HA.out (by simp[slices_IndexFunc_int_int_impl_areOf_lit1.l0])
  | succ k1 =>
   have H:=HA.out
   clear HA
   simp only[slices_IndexFunc_int_int_impl_areOf_lit1.l0] at H
   by_cases c3:x8_1 < (l0.length:Int)
   ·rw[if_pos c3] at H
    have c3b0:decide (x8_1 < (l0.length:Int))=true:=decide_eq_true c3
    clear c3
    by_cases c4:0≤x8_1
    ·rw[if_pos c4] at H
     have c4b0:decide (0≤x8_1)=true:=decide_eq_true c4
     clear c4
     by_cases c5:x8_1 < (l0.length:Int)
     ·rw[if_pos c5] at H
      have c5b0:decide (x8_1 < (l0.length:Int))=true:=decide_eq_true c5
      clear c5
      replace H:=bI_ H
      obtain⟨⟨t505,t506⟩,A60,H⟩:=H
      replace H:(if t505=true then (some (x8_1,t506)) else (slices_IndexFunc_int_int_impl_areOf_lit1.l0 k1 l0 (l0.length:Int) (wrap64 (x8_1+1)) t506))=some (r1,r2):=H
      have A6:=am A60
      clear A60
      by_cases c7:t505=true
      ·subst c7
       have H1:(some (x8_1,t506))=some (r1,r2):=by rw[if_pos rfl] at H;exact H
       clear H
       have H:=H1
       clear H1
       simp only[Option.some.injEq,Prod.mk.injEq] at H
       obtain⟨rfl,rfl⟩:=H
       have p504:0≤(x8_1:Int):=bD_
       have q504:x8_1 < (l0.length:Int):=bD_
       obtain⟨ad504,e504,hx504_0⟩:=Kd.at_int HR0.out x8_1 p504 q504
       cases e504
       replace hx504_0:=keep_cell HK.out hx504_0 (by first|(rw[add_block];exact hf0 _ rfl (b28_))|exact hf0 _ rfl (b28_)|exact hf0 ad504 rfl (b28_))
       replace p504:=eq_true p504
       replace q504:=eq_true q504
       go_wp2_with (first|(go_at_call 163;(with_reducible refine(impl_areOf_lit1_captured.calls (rd l0 x8_1) g x2000_1 true t506 w0 _ ?side1 ?side2 A6.out).mono ?_);(case side1=>repeat (first|(with_reducible first|exact HI1.out|apply IsS3.alloc|apply IsS3.drewN|apply IsS3.drew|apply IsS3.set_0)|exact HI1.out));(case side2=>repeat (first|(with_reducible first|exact HB.out|apply below_alloc|apply pw_below_drewN|apply below_drew1|refine below_set ?_ (IsS3.ge HI1.out))|exact HB.out));rintro e w8 ⟨rfl,hi,hb,hk⟩;have n0_:=am (KeepBut.trans (b0_) hk (.inl rfl));have n1_:=am (hb);have n2_:=am (hi);clear HK HB;(try clear HI1);have HK:=n0_;have HB:=n1_;have HI1:=n2_;clear n0_ n1_ n2_;(try clear hb);(try clear hb2);(try clear hk);(try clear hi)))
       go_ret
       exact⟨bE,b46_,by repeat (first|(with_reducible first|exact HB.out|apply below_alloc|apply pw_below_drewN|apply below_drew1|refine below_set ?_ (IsS3.ge HI1.out))|exact HB.out),b42_⟩
      ·replace c7:=Bool.eq_false_iff.mpr c7
       subst c7
       have H1:(slices_IndexFunc_int_int_impl_areOf_lit1.l0 k1 l0 (l0.length:Int) (wrap64 (x8_1+1)) t506)=some (r1,r2):=by rw[if_neg (show ¬ (false=true) by decide)] at H;exact H
       clear H
       have H:=H1
       clear H1
       have H':=am H
       clear H
       have p504:0≤(x8_1:Int):=bD_
       have q504:x8_1 < (l0.length:Int):=bD_
       obtain⟨ad504,e504,hx504_0⟩:=Kd.at_int HR0.out x8_1 p504 q504
       cases e504
       replace hx504_0:=keep_cell HK.out hx504_0 (by first|(rw[add_block];exact hf0 _ rfl (b28_))|exact hf0 _ rfl (b28_)|exact hf0 ad504 rfl (b28_))
       replace p504:=eq_true p504
       replace q504:=eq_true q504
       go_wp2_with (first|(go_at_call 163;(with_reducible refine(impl_areOf_lit1_captured.calls (rd l0 x8_1) g x2000_1 false t506 w0 _ ?side1 ?side2 A6.out).mono ?_);(case side1=>repeat (first|(with_reducible first|exact HI1.out|apply IsS3.alloc|apply IsS3.drewN|apply IsS3.drew|apply IsS3.set_0)|exact HI1.out));(case side2=>repeat (first|(with_reducible first|exact HB.out|apply below_alloc|apply pw_below_drewN|apply below_drew1|refine below_set ?_ (IsS3.ge HI1.out))|exact HB.out));rintro e w9 ⟨rfl,hi,hb,hk⟩;have n0_:=am (KeepBut.trans (b0_) hk (.inl rfl));have n1_:=am (hb);have n2_:=am (hi);clear HK HB;(try clear HI1);have HK:=n0_;have HB:=n1_;have HI1:=n2_;clear n0_ n1_ n2_;(try clear hb);(try clear hb2);(try clear hk);(try clear hi)))
       go_roundg k1
       case measure=>have:=HK1.out;omega
       case rel=>exact⟨(wrap64 (x8_1+1)),(t506),(bR),H',⟨by have:=HK1.out;omega⟩,⟨by repeat (first|(with_reducible first|exact HI1.out|apply IsS3.alloc|apply IsS3.drewN|apply IsS3.drew|apply IsS3.set_0)|exact HI1.out)⟩,⟨by repeat (first|(with_reducible first|exact HK.out|apply KeepBut.set_|apply keep_drewN|apply keep_drew|apply keep_alloc)|exact HK.out)⟩,⟨by repeat (first|(with_reducible first|exact HB.out|apply below_alloc|apply pw_below_drewN|apply below_drew1|refine below_set ?_ (IsS3.ge HI1.out))|exact HB.out)⟩⟩
     ·rw[if_neg c5] at H
      exact absurd H (b27_)
    ·rw[if_neg c4] at H
     exact absurd H (b27_)
   ·rw[if_neg c3] at H
    have c3b0:decide (x8_1 < (l0.length:Int))=false:=decide_eq_false c3
    clear c3
    simp only[Option.some.injEq,Prod.mk.injEq] at H
    obtain⟨rfl,rfl⟩:=H
    go_wp2
    go_ret
    exact⟨bE,b46_,by repeat (first|(with_reducible first|exact HB.out|apply below_alloc|apply pw_below_drewN|apply below_drew1|refine below_set ?_ (IsS3.ge HI1.out))|exact HB.out),b42_⟩

/-! ### slices_ContainsFunc_int_int_impl_areOf_lit1: function 113 -/
def slices_ContainsFunc_int_int_impl_areOf_lit1.f (k:Nat) (l0:List Int) (s1_0:Int):Option (Bool × Int):=(slices_IndexFunc_int_int_impl_areOf_lit1.f k l0 s1_0).bind fun bt507=>(some (decide (bt507.1 ≥ 0),bt507.2))
theorem slices_ContainsFunc_int_int_impl_areOf_lit1.mono : ∀ a0 a1 k,LeO (slices_ContainsFunc_int_int_impl_areOf_lit1.f k a0 a1) (slices_ContainsFunc_int_int_impl_areOf_lit1.f (k+1) a0 a1):=by
 intro a0 a1 k
 unfold slices_ContainsFunc_int_int_impl_areOf_lit1.f
 repeat' first
  | (with_reducible exact slices_IndexFunc_int_int_impl_areOf_lit1.mono _ _ _)
  | (with_reducible exact LeO.refl _)
  | (with_reducible exact LeO.none _)
  | (with_reducible refine LeO.ite ?_ ?_)
  | (with_reducible refine LeO.bind ?_ (fun _ => ?_))
set_option maxHeartbeats 8000000 in
set_option maxRecDepth 100000 in
theorem slices_ContainsFunc_int_int_impl_areOf_lit1.calls (k:Nat) (A0:Option Addr) (c0:Nat) (l0:List Int) (g:Nat) (s1_0:Int) (r1:Bool) (r2:Int) (w0 w:World) (hI:IsS3 w0 w g s1_0) (hB:Below w0.heap.size w0 w) (hr0:Kd.C (Kd.int .i64) w A0 l0.length l0) (hc0:l0.length≤c0) (hf0 : ∀ ad,A0=some ad→0 < l0.length→ad.block≠g) (h:slices_ContainsFunc_int_int_impl_areOf_lit1.f k l0 s1_0=some (r1,r2)) :
  Calls Try.prog 113 #[.slice A0 l0.length c0,(.func (.func 163) #[] #[.pointer (some ⟨g,0,none⟩)])] w fun e w'=>e=.returned (.bool r1)∧IsS3 w0 w' g r2∧Below w0.heap.size w0 w'∧KeepBut w w' g none:=by
 have HR0:=am hr0
 have HC0:=am hc0
 clear hr0 hc0
 have HI1:=am hI
 have HK:=am (KeepBut.refl w g none)
 have HL:=am hB.size
 clear hI
 have HW0:=am hB.size
 have HB:=am hB
 clear hB
 have H:((slices_IndexFunc_int_int_impl_areOf_lit1.f k l0 s1_0).bind fun bt507=>(some (decide (bt507.1 ≥ 0),bt507.2)))=some (r1,r2):=h
 clear h
 replace H:=bI_ H
 obtain⟨⟨t507,t508⟩,A30,H⟩:=H
 replace H:(some (decide (t507 ≥ 0),t508))=some (r1,r2):=H
 have A3:=am A30
 clear A30
 simp only[Option.some.injEq,Prod.mk.injEq] at H
 obtain⟨rfl,rfl⟩:=H
 go_enter Try.func113,Try.ntmps113
 go_wp2_with (first|((with_reducible refine gate_callee (f:=148) rfl ?_);refine goesA (some 7) rfl rfl Try.func148 #[.slice A0 l0.length c0,(.func (.func 163) #[] #[.pointer (some ⟨g,0,none⟩)])] rfl ?_;(with_reducible refine(slices_IndexFunc_int_int_impl_areOf_lit1.calls k _ _ l0 g s1_0 t507 t508 w0 _ ?side1 ?side2 ?side3 ?side4 ?side5 A3.out).mono ?_);(case side1=>repeat (first|(with_reducible first|exact HI1.out|apply IsS3.alloc|apply IsS3.drewN|apply IsS3.drew|apply IsS3.set_0)|exact HI1.out));(case side2=>repeat (first|(with_reducible first|exact HB.out|apply below_alloc|apply pw_below_drewN|apply below_drew1|refine below_set ?_ (IsS3.ge HI1.out))|exact HB.out));(case side3=>exact Kd.C_keep 0 HR0.out (b0_) hf0);(case side4=>exact HC0.out);(case side5=>exact hf0);rintro e w4 ⟨rfl,hi,hb,hk⟩;refine⟨_,rfl,?_⟩;have n0_:=am (KeepBut.trans (b0_) hk (.inl rfl));have n1_:=am (hb);have n2_:=am (hi);clear HK HB;(try clear HI1);have HK:=n0_;have HB:=n1_;have HI1:=n2_;clear n0_ n1_ n2_;(try clear hb);(try clear hb2);(try clear hk);(try clear hi)))
 go_ret
 exact⟨bE,b46_,by repeat (first|(with_reducible first|exact HB.out|apply below_alloc|apply pw_below_drewN|apply below_drew1|refine below_set ?_ (IsS3.ge HI1.out))|exact HB.out),b42_⟩

/-! ### impl_areOf: function 127 -/
def impl_areOf.f (k:Nat) (l0:List Int) (a1:Int) (a2:Int):Option (Bool):=if (l0.length:Int)≤a2 then ((slices_ContainsFunc_int_int_impl_areOf_lit1.f k l0 a1).bind fun bt510=>(some (!bt510.1))) else (some false)
theorem impl_areOf.mono : ∀ a0 a1 a2 k,LeO (impl_areOf.f k a0 a1 a2) (impl_areOf.f (k+1) a0 a1 a2):=by
 intro a0 a1 a2 k
 unfold impl_areOf.f
 repeat' first
  | (with_reducible exact slices_ContainsFunc_int_int_impl_areOf_lit1.mono _ _ _)
  | (with_reducible exact LeO.refl _)
  | (with_reducible exact LeO.none _)
  | (with_reducible refine LeO.ite ?_ ?_)
  | (with_reducible refine LeO.bind ?_ (fun _ => ?_))
set_option maxHeartbeats 8000000 in
set_option maxRecDepth 100000 in
theorem impl_areOf.calls (k:Nat) (A0:Option Addr) (c0:Nat) (l0:List Int) (a1:Int) (a2:Int) (r:Bool) (w:World) (hr0:Kd.C (Kd.int .i64) w A0 l0.length l0) (hc0:l0.length≤c0) (h:impl_areOf.f k l0 a1 a2=some r) :
  Calls Try.prog 127 #[.slice A0 l0.length c0,.int .i64 a1,.int .i64 a2] w fun e w'=>e=.returned (.bool r)∧Below w.heap.size w w':=by
 have HR0:=am hr0
 have HC0:=am hc0
 clear hr0 hc0
 have HB:=am (Below.refl w.heap.size w)
 have H:(if (l0.length:Int)≤a2 then ((slices_ContainsFunc_int_int_impl_areOf_lit1.f k l0 a1).bind fun bt510=>(some (!bt510.1))) else (some false))=some r:=h
 clear h
 by_cases c4:(l0.length:Int)≤a2
 ·rw[if_pos c4] at H
  have c4b0:decide ((l0.length:Int)≤a2)=true:=decide_eq_true c4
  clear c4
  replace H:=bI_ H
  obtain⟨⟨t510,t511⟩,A50,H⟩:=H
  have A5:=am A50
  clear A50
  obtain rfl:=Option.some.inj H
  go_enter Try.func127,Try.ntmps127
  go_wp2_with (first|((with_reducible refine gate_dst (N:=4) rfl ?_);refine box_event ?hg (N:=4) ?hd (cs:=#[.int .i64 a1]) (t:=3) ?hr ?_;(case hd=>rfl);(case hg=>rfl);(case hr=>first|(go_simp;done)|(go_simp;rfl));intro gb509 hg w6 hbox hb;have n0_:=am (below_step (bB) hb);have n1_:=am (hbox);have n2_:=am ((bG:w.heap.size≤gb509));have n3_:=am ((bG:w.heap.size≤gb509));clear HB;have HB:=n0_;have BK509:=n1_;have GW509:=n2_;have GE509:=n3_;clear n0_ n1_ n2_ n3_;clear hb hbox hg)|(go_at_call 113;(with_reducible refine(slices_ContainsFunc_int_int_impl_areOf_lit1.calls k _ _ l0 gb509 a1 t510 t511 w _ ?side1 ?side2 ?side3 ?side4 ?side5 A5.out).mono ?_);(case side1=>exact⟨(bL BK509.out),GE509.out⟩);(case side2=>repeat (first|(with_reducible first|exact HB.out|apply below_alloc|apply pw_below_drewN|apply below_drew1|refine below_set ?_ (IsS3.ge HI509.out))|exact HB.out));(case side3=>exact bC HR0.out);(case side4=>exact HC0.out);(case side5=>first|exact Kd.far_C 0 HR0.out GE509.out|exact Kd.far_C 0 HR0.out (IsS3.ge HI509.out));rintro e w7 ⟨rfl,hi,hb,hk⟩;have n0_:=am (hb);have n1_:=am (hi);clear HB BK509;have HB:=n0_;have HI509:=n1_;clear n0_ n1_;(try clear hb);(try clear hb2);(try clear hk);(try clear hi)))
  go_ret
  exact⟨bE,by repeat (first|(with_reducible first|exact HB.out|apply below_alloc|apply pw_below_drewN|apply below_drew1|refine below_set ?_ (IsS3.ge HI509.out))|exact HB.out)⟩
 ·rw[if_neg c4] at H
  have c4b0:decide ((l0.length:Int)≤a2)=false:=decide_eq_false c4
  clear c4
  obtain rfl:=Option.some.inj H
  go_enter Try.func127,Try.ntmps127
  go_wp2_with (first|((with_reducible refine gate_dst (N:=4) rfl ?_);refine box_event ?hg (N:=4) ?hd (cs:=#[.int .i64 a1]) (t:=3) ?hr ?_;(case hd=>rfl);(case hg=>rfl);(case hr=>first|(go_simp;done)|(go_simp;rfl));intro gb509 hg w8 hbox hb;have n0_:=am (below_step (bB) hb);have n1_:=am (hbox);have n2_:=am ((bG:w.heap.size≤gb509));have n3_:=am ((bG:w.heap.size≤gb509));clear HB;have HB:=n0_;have BK509:=n1_;have GW509:=n2_;have GE509:=n3_;clear n0_ n1_ n2_ n3_;clear hb hbox hg))
  go_ret
  exact⟨bE,bS GE509.out⟩

/-! ### impl_isRow: function 128 -/
def impl_isRow.l0:Nat→List (S104)→List Int→Int→Option (Bool)
 | 0,_,_,_=>none
 | k+1,x0,x1,x5=>if x5 < (x1.length:Int) then (if 0≤x5 then (if 0≤(rd x1 x5) then (if (rd x1 x5) < (x0.length:Int) then (if 0≤(wrap64 (x5 - 1)) then (if (wrap64 (x5 - 1)) < (x1.length:Int) then (if 0≤(rd x1 (wrap64 (x5 - 1))) then (if (rd x1 (wrap64 (x5 - 1))) < (x0.length:Int) then (if ((rd_T104 x0 (rd x1 x5)).f0)=((rd_T104 x0 (rd x1 (wrap64 (x5 - 1)))).f1) then (impl_isRow.l0 k x0 x1 (wrap64 (x5+1))) else (some false)) else (none)) else (none)) else (none)) else (none)) else (none)) else (none)) else (none)) else (some true)
def impl_isRow.f (k:Nat) (l0:List (S104)) (l1:List Int):Option (Bool):=impl_isRow.l0 k l0 l1 1
theorem impl_isRow.mono_l : ∀ k,(∀ y0 y1 y2,LeO (impl_isRow.l0 k y0 y1 y2) (impl_isRow.l0 (k+1) y0 y1 y2))
 | 0=>fun _ _ _ r h=>by simp[impl_isRow.l0] at h
 | k+1=>by
  have ih0:=impl_isRow.mono_l k
  ·intro y0 y1 y2
   unfold impl_isRow.l0
   repeat' first
   | (with_reducible exact ih0 _ _ _)
   | (with_reducible exact LeO.refl _)
   | (with_reducible exact LeO.none _)
   | (with_reducible refine LeO.ite ?_ ?_)
   | (with_reducible refine LeO.bind ?_ (fun _ => ?_))
theorem impl_isRow.mono : ∀ a0 a1 k,LeO (impl_isRow.f k a0 a1) (impl_isRow.f (k+1) a0 a1):=by
 intro a0 a1 k
 have ih0:=impl_isRow.mono_l k
 unfold impl_isRow.f
 repeat' first
  | (with_reducible exact ih0 _ _ _)
  | (with_reducible exact LeO.refl _)
  | (with_reducible exact LeO.none _)
  | (with_reducible refine LeO.ite ?_ ?_)
  | (with_reducible refine LeO.bind ?_ (fun _ => ?_))
set_option maxHeartbeats 8000000 in
set_option maxRecDepth 100000 in
theorem impl_isRow.calls (k:Nat) (A0:Option Addr) (c0:Nat) (l0:List (S104)) (A1:Option Addr) (c1:Nat) (l1:List Int) (r:Bool) (w:World) (hr0:Kd.C k104 w A0 l0.length l0) (hc0:l0.length≤c0) (hr1:Kd.C (Kd.int .i64) w A1 l1.length l1) (hc1:l1.length≤c1) (h:impl_isRow.f k l0 l1=some r) :
  Calls Try.prog 128 #[.slice A0 l0.length c0,.slice A1 l1.length c1] w fun e w'=>e=.returned (.bool r)∧Drawn0 w w':=by
 have HR0:=am hr0
 have HC0:=am hc0
 clear hr0 hc0
 have HR1:=am hr1
 have HC1:=am hc1
 clear hr1 hc1
 have H:(impl_isRow.l0 k l0 l1 1)=some r:=h
 clear h
 have H':=am H
 clear H
 go_enter Try.func128,Try.ntmps128
 go_wp2
 repeat (go_quiet (fail);try go_wp2)
 go_loopg [5] k (fun kq v5 w' => ∃ (x5_1:Int),v5=.int .i64 x5_1∧Aside0 (impl_isRow.l0 kq l0 l1 x5_1=some r)∧Aside0 (kq≤k)∧Drawn0 w w')
 case atStart=>exact⟨(1),(bR),H',⟨Nat.le_refl _⟩,bW⟩
 case round =>
  clear H'
  try clear c1
  try clear p2
  obtain⟨x5_1,rfl,HA,HK1,⟨m1,rfl⟩⟩:=hrel
  cases gk with
  | zero=>exact absurd HA.out (by simp[impl_isRow.l0])
  | succ k1 =>
   have H:=HA.out
   clear HA
   simp only[impl_isRow.l0] at H
   by_cases c3:x5_1 < (l1.length:Int)
   ·rw[if_pos c3] at H
    have c3b0:decide (x5_1 < (l1.length:Int))=true:=decide_eq_true c3
    clear c3
    by_cases c4:0≤x5_1
    ·rw[if_pos c4] at H
     have c4b0:decide (0≤x5_1)=true:=decide_eq_true c4
     clear c4
     by_cases c5:0≤(rd l1 x5_1)
     ·rw[if_pos c5] at H
      have c5b0:decide (0≤(rd l1 x5_1))=true:=decide_eq_true c5
      clear c5
      by_cases c6:(rd l1 x5_1) < (l0.length:Int)
      ·rw[if_pos c6] at H
       have c6b0:decide ((rd l1 x5_1) < (l0.length:Int))=true:=decide_eq_true c6
       clear c6
       obtain⟨ji7,hji7⟩ : ∃ j_:Int,(wrap64 (x5_1 - 1))=j_:=⟨_,rfl⟩
       replace H:(if 0≤(ji7) then (if (ji7) < (l1.length:Int) then (if 0≤(rd l1 (ji7)) then (if (rd l1 (ji7)) < (l0.length:Int) then (if ((rd_T104 l0 (rd l1 x5_1)).f0)=((rd_T104 l0 (rd l1 (ji7))).f1) then (impl_isRow.l0 k1 l0 l1 (wrap64 (x5_1+1))) else (some false)) else (none)) else (none)) else (none)) else (none))=some r:=by first|(rw[hji7] at H;exact H)|(simp only[hji7] at H ⊢;exact H)
       have hji7w:(IntKind.i64.wrap (x5_1 - 1))=ji7:=(i64_w _).trans hji7
       by_cases c8:0≤(ji7)
       ·rw[if_pos c8] at H
        have c8b0:decide (0≤(ji7))=true:=decide_eq_true c8
        clear c8
        by_cases c9:(ji7) < (l1.length:Int)
        ·rw[if_pos c9] at H
         have c9b0:decide ((ji7) < (l1.length:Int))=true:=decide_eq_true c9
         clear c9
         by_cases c10:0≤(rd l1 (ji7))
         ·rw[if_pos c10] at H
          have c10b0:decide (0≤(rd l1 (ji7)))=true:=decide_eq_true c10
          clear c10
          by_cases c11:(rd l1 (ji7)) < (l0.length:Int)
          ·rw[if_pos c11] at H
           have c11b0:decide ((rd l1 (ji7)) < (l0.length:Int))=true:=decide_eq_true c11
           clear c11
           by_cases c12:((rd_T104 l0 (rd l1 x5_1)).f0)=((rd_T104 l0 (rd l1 (ji7))).f1)
           ·rw[if_pos c12] at H
            have c12b0:(((rd_T104 l0 (rd l1 x5_1)).f0) == ((rd_T104 l0 (rd l1 (ji7))).f1))=true:=beq_iff_eq.mpr c12
            have c12b1:(((rd_T104 l0 (rd l1 x5_1)).f0) != ((rd_T104 l0 (rd l1 (ji7))).f1))=false:=bne_eq_false_iff_eq.mpr c12
            clear c12
            have H':=am H
            clear H
            have p512:0≤(x5_1:Int):=bD_
            have q512:x5_1 < (l1.length:Int):=bD_
            obtain⟨ad512,e512,hx512_0⟩:=Kd.at_int HR1.out x5_1 p512 q512
            cases e512
            replace p512:=eq_true p512
            replace q512:=eq_true q512
            have p513:0≤((rd l1 x5_1):Int):=bD_
            have q513:(rd l1 x5_1) < (l0.length:Int):=bD_
            obtain⟨ad513,e513,hx513_0,hx513_1,hx513_2,hx513_3,hx513_4⟩:=at_T104 HR0.out (rd l1 x5_1) p513 q513
            cases e513
            replace p513:=eq_true p513
            replace q513:=eq_true q513
            have p514:0≤((ji7):Int):=bD_
            have q514:(ji7) < (l1.length:Int):=bD_
            obtain⟨ad514,e514,hx514_0⟩:=Kd.at_int HR1.out (ji7) p514 q514
            obtain rfl:ad512=ad514:=(by injection e514)
            replace p514:=eq_true p514
            replace q514:=eq_true q514
            have p515:0≤((rd l1 (ji7)):Int):=bD_
            have q515:(rd l1 (ji7)) < (l0.length:Int):=bD_
            obtain⟨ad515,e515,hx515_0,hx515_1,hx515_2,hx515_3,hx515_4⟩:=at_T104 HR0.out (rd l1 (ji7)) p515 q515
            obtain rfl:ad513=ad515:=(by injection e515)
            replace p515:=eq_true p515
            replace q515:=eq_true q515
            go_wp2
            repeat (go_quiet (fail);try go_wp2)
            go_roundg k1
            case measure=>have:=HK1.out;omega
            case rel=>exact⟨(wrap64 (x5_1+1)),(bR),H',⟨by have:=HK1.out;omega⟩,bW⟩
           ·rw[if_neg c12] at H
            have c12b0:(((rd_T104 l0 (rd l1 x5_1)).f0) == ((rd_T104 l0 (rd l1 (ji7))).f1))=false:=beq_eq_false_iff_ne.mpr c12
            have c12b1:(((rd_T104 l0 (rd l1 x5_1)).f0) != ((rd_T104 l0 (rd l1 (ji7))).f1))=true:=bne_iff_ne.mpr c12
            obtain rfl:=Option.some.inj H
            have p512:0≤(x5_1:Int):=bD_
            have q512:x5_1 < (l1.length:Int):=bD_
            obtain⟨ad512,e512,hx512_0⟩:=Kd.at_int HR1.out x5_1 p512 q512
            cases e512
            replace p512:=eq_true p512
            replace q512:=eq_true q512
            have p513:0≤((rd l1 x5_1):Int):=bD_
            have q513:(rd l1 x5_1) < (l0.length:Int):=bD_
            obtain⟨ad513,e513,hx513_0,hx513_1,hx513_2,hx513_3,hx513_4⟩:=at_T104 HR0.out (rd l1 x5_1) p513 q513
            cases e513
            replace p513:=eq_true p513
            replace q513:=eq_true q513
            have p514:0≤((ji7):Int):=bD_
            have q514:(ji7) < (l1.length:Int):=bD_
            obtain⟨ad514,e514,hx514_0⟩:=Kd.at_int HR1.out (ji7) p514 q514
            obtain rfl:ad512=ad514:=(by injection e514)
            replace p514:=eq_true p514
            replace q514:=eq_true q514
            have p515:0≤((rd l1 (ji7)):Int):=bD_
            have q515:(rd l1 (ji7)) < (l0.length:Int):=bD_
            obtain⟨ad515,e515,hx515_0,hx515_1,hx515_2,hx515_3,hx515_4⟩:=at_T104 HR0.out (rd l1 (ji7)) p515 q515
            obtain rfl:ad513=ad515:=(by injection e515)
            replace p515:=eq_true p515
            replace q515:=eq_true q515
            go_wp2
            repeat (go_quiet (fail);try go_wp2)
            go_ret
            exact⟨by first|rfl|(simp;done)|(simp only[← hji7]<;>(first|rfl|simp))|(simp[*];done),bW⟩
          ·rw[if_neg c11] at H
           exact absurd H (b27_)
         ·rw[if_neg c10] at H
          exact absurd H (b27_)
        ·rw[if_neg c9] at H
         exact absurd H (b27_)
       ·rw[if_neg c8] at H
        exact absurd H (b27_)
      ·rw[if_neg c6] at H
       exact absurd H (b27_)
     ·rw[if_neg c5] at H
      exact absurd H (b27_)
    ·rw[if_neg c4] at H
     exact absurd H (b27_)
   ·rw[if_neg c3] at H
    have c3b0:decide (x5_1 < (l1.length:Int))=false:=decide_eq_false c3
    clear c3
    obtain rfl:=Option.some.inj H
    go_wp2
    repeat (go_quiet (fail);try go_wp2)
    go_ret
    exact⟨bR,bW⟩

/-! ### impl_ArriveBy: function 64 -/
mutual
def impl_ArriveBy.j0:Nat→List (S104)→Int→List Int→Bool→Option (Int × Bool)
 | 0,_,_,_,_=>none
 | k+1,x0,x2,x3,x55=>if x55=true then (some (0,false)) else (impl_ArriveBy.l0 k x0 x2 x3 (x3.length:Int) 0)
def impl_ArriveBy.l0:Nat→List (S104)→Int→List Int→Int→Int→Option (Int × Bool)
 | 0,_,_,_,_,_=>none
 | k+1,x0,x2,x56,x57,x58=>if x58 < x57 then (if 0≤x58 then (if x58 < (x56.length:Int) then (if 0≤(rd x56 x58) then (if (rd x56 x58) < (x0.length:Int) then ((impl_Contact_by.f ((rd_T104 x0 (rd x56 x58)).f0) ((rd_T104 x0 (rd x56 x58)).f1) ((rd_T104 x0 (rd x56 x58)).f2) ((rd_T104 x0 (rd x56 x58)).f3) ((rd_T104 x0 (rd x56 x58)).f4) x2).bind fun bt525=>(if bt525.2=true then (impl_ArriveBy.l0 k x0 bt525.1 x56 x57 (wrap64 (x58+1))) else (some (0,false)))) else (none)) else (none)) else (none)) else (none)) else (some (x2,true))
end
def impl_ArriveBy.f (k:Nat) (l0:List (S104)) (a1:Int) (a2:Int) (l3:List Int):Option (Int × Bool):=(impl_GoodPlan.f k l0).bind fun t516=>(if t516=true then ((impl_isNode.f a1).bind fun t517=>(if t517=true then ((impl_isWhen.f a2).bind fun t518=>(if t518=true then ((impl_areOf.f k l3 (l0.length:Int) 20).bind fun t519=>(if t519=true then ((impl_isRow.f k l0 l3).bind fun t520=>(if t520=true then (if (l3.length:Int) > 0 then (if 0 < (l3.length:Int) then (if 0≤(rd l3 0) then (if (rd l3 0) < (l0.length:Int) then (impl_ArriveBy.j0 k l0 a2 l3 (((rd_T104 l0 (rd l3 0)).f0) != a1)) else (none)) else (none)) else (none)) else (impl_ArriveBy.j0 k l0 a2 l3 false)) else (impl_ArriveBy.j0 k l0 a2 l3 true))) else (impl_ArriveBy.j0 k l0 a2 l3 true))) else (impl_ArriveBy.j0 k l0 a2 l3 true))) else (impl_ArriveBy.j0 k l0 a2 l3 true))) else (impl_ArriveBy.j0 k l0 a2 l3 true))
theorem impl_ArriveBy.mono_l : ∀ k,(∀ y0 y1 y2 y3,LeO (impl_ArriveBy.j0 k y0 y1 y2 y3) (impl_ArriveBy.j0 (k+1) y0 y1 y2 y3))∧(∀ y0 y1 y2 y3 y4,LeO (impl_ArriveBy.l0 k y0 y1 y2 y3 y4) (impl_ArriveBy.l0 (k+1) y0 y1 y2 y3 y4))
 | 0=>⟨fun _ _ _ _ r h=>by simp[impl_ArriveBy.j0] at h,fun _ _ _ _ _ r h=>by simp[impl_ArriveBy.l0] at h⟩
 | k+1=>by
  obtain⟨ih0,ih1⟩:=impl_ArriveBy.mono_l k
  refine⟨?_,?_⟩
  ·intro y0 y1 y2 y3
   unfold impl_ArriveBy.j0
   repeat' first
   | (with_reducible exact ih0 _ _ _ _)
   | (with_reducible exact ih1 _ _ _ _ _)
   | (with_reducible exact impl_GoodPlan.mono _ _)
   | (with_reducible exact impl_areOf.mono _ _ _ _)
   | (with_reducible exact impl_isRow.mono _ _ _)
   | (with_reducible exact LeO.refl _)
   | (with_reducible exact LeO.none _)
   | (with_reducible refine LeO.ite ?_ ?_)
   | (with_reducible refine LeO.bind ?_ (fun _ => ?_))
  ·intro y0 y1 y2 y3 y4
   unfold impl_ArriveBy.l0
   repeat' first
   | (with_reducible exact ih0 _ _ _ _)
   | (with_reducible exact ih1 _ _ _ _ _)
   | (with_reducible exact impl_GoodPlan.mono _ _)
   | (with_reducible exact impl_areOf.mono _ _ _ _)
   | (with_reducible exact impl_isRow.mono _ _ _)
   | (with_reducible exact LeO.refl _)
   | (with_reducible exact LeO.none _)
   | (with_reducible refine LeO.ite ?_ ?_)
   | (with_reducible refine LeO.bind ?_ (fun _ => ?_))
theorem impl_ArriveBy.mono : ∀ a0 a1 a2 a3 k,LeO (impl_ArriveBy.f k a0 a1 a2 a3) (impl_ArriveBy.f (k+1) a0 a1 a2 a3):=by
 intro a0 a1 a2 a3 k
 obtain⟨ih0,ih1⟩:=impl_ArriveBy.mono_l k
 unfold impl_ArriveBy.f
 repeat' first
  | (with_reducible exact ih0 _ _ _ _)
  | (with_reducible exact ih1 _ _ _ _ _)
  | (with_reducible exact impl_GoodPlan.mono _ _)
  | (with_reducible exact impl_areOf.mono _ _ _ _)
  | (with_reducible exact impl_isRow.mono _ _ _)
  | (with_reducible exact LeO.refl _)
  | (with_reducible exact LeO.none _)
  | (with_reducible refine LeO.ite ?_ ?_)
  | (with_reducible refine LeO.bind ?_ (fun _ => ?_))
set_option maxHeartbeats 8000000 in
set_option maxRecDepth 100000 in
theorem impl_ArriveBy.calls (k:Nat) (A0:Option Addr) (c0:Nat) (l0:List (S104)) (a1:Int) (a2:Int) (A3:Option Addr) (c3:Nat) (l3:List Int) (r1:Int) (r2:Bool) (w:World) (hr0:Kd.C k104 w A0 l0.length l0) (hc0:l0.length≤c0) (hr3:Kd.C (Kd.int .i64) w A3 l3.length l3) (hc3:l3.length≤c3) (h:impl_ArriveBy.f k l0 a1 a2 l3=some (r1,r2)) :
  Calls Try.prog 64 #[.slice A0 l0.length c0,.int .i64 a1,.int .i64 a2,.slice A3 l3.length c3] w fun e w'=>e=.returned (.tuple #[.int .i64 r1,.bool r2])∧Below w.heap.size w w':=by
 have hu104:=Try.underlying104
 have HR0:=am hr0
 have HC0:=am hc0
 clear hr0 hc0
 have HR3:=am hr3
 have HC3:=am hc3
 clear hr3 hc3
 have HB:=am (Below.refl w.heap.size w)
 have H:((impl_GoodPlan.f k l0).bind fun t516=>(if t516=true then ((impl_isNode.f a1).bind fun t517=>(if t517=true then ((impl_isWhen.f a2).bind fun t518=>(if t518=true then ((impl_areOf.f k l3 (l0.length:Int) 20).bind fun t519=>(if t519=true then ((impl_isRow.f k l0 l3).bind fun t520=>(if t520=true then (if (l3.length:Int) > 0 then (if 0 < (l3.length:Int) then (if 0≤(rd l3 0) then (if (rd l3 0) < (l0.length:Int) then (impl_ArriveBy.j0 k l0 a2 l3 (((rd_T104 l0 (rd l3 0)).f0) != a1)) else (none)) else (none)) else (none)) else (impl_ArriveBy.j0 k l0 a2 l3 false)) else (impl_ArriveBy.j0 k l0 a2 l3 true))) else (impl_ArriveBy.j0 k l0 a2 l3 true))) else (impl_ArriveBy.j0 k l0 a2 l3 true))) else (impl_ArriveBy.j0 k l0 a2 l3 true))) else (impl_ArriveBy.j0 k l0 a2 l3 true)))=some (r1,r2):=h
 clear h
 have HC5:=am H
 clear H
 go_enter Try.func64,Try.ntmps64
 go_upto_region 1 with (fail)
 go_cut [55] (fun v55 wc => ∃ (kq:Nat) (x55_4:Bool),v55=.bool x55_4∧Aside0 (impl_ArriveBy.j0 kq l0 a2 l3 x55_4=some (r1,r2))∧Aside0 (kq≤k)∧Aside0 (Below w.heap.size w wc))
 case first =>
  have H:=HC5.out
  clear HC5
  replace H:=bI_ H
  obtain⟨t516,A60,H⟩:=H
  replace H:(if t516=true then ((impl_isNode.f a1).bind fun t517=>(if t517=true then ((impl_isWhen.f a2).bind fun t518=>(if t518=true then ((impl_areOf.f k l3 (l0.length:Int) 20).bind fun t519=>(if t519=true then ((impl_isRow.f k l0 l3).bind fun t520=>(if t520=true then (if (l3.length:Int) > 0 then (if 0 < (l3.length:Int) then (if 0≤(rd l3 0) then (if (rd l3 0) < (l0.length:Int) then (impl_ArriveBy.j0 k l0 a2 l3 (((rd_T104 l0 (rd l3 0)).f0) != a1)) else (none)) else (none)) else (none)) else (impl_ArriveBy.j0 k l0 a2 l3 false)) else (impl_ArriveBy.j0 k l0 a2 l3 true))) else (impl_ArriveBy.j0 k l0 a2 l3 true))) else (impl_ArriveBy.j0 k l0 a2 l3 true))) else (impl_ArriveBy.j0 k l0 a2 l3 true))) else (impl_ArriveBy.j0 k l0 a2 l3 true))=some (r1,r2):=H
  have A6:=am A60
  clear A60
  by_cases c7:t516=true
  ·subst c7
   have H1:((impl_isNode.f a1).bind fun t517=>(if t517=true then ((impl_isWhen.f a2).bind fun t518=>(if t518=true then ((impl_areOf.f k l3 (l0.length:Int) 20).bind fun t519=>(if t519=true then ((impl_isRow.f k l0 l3).bind fun t520=>(if t520=true then (if (l3.length:Int) > 0 then (if 0 < (l3.length:Int) then (if 0≤(rd l3 0) then (if (rd l3 0) < (l0.length:Int) then (impl_ArriveBy.j0 k l0 a2 l3 (((rd_T104 l0 (rd l3 0)).f0) != a1)) else (none)) else (none)) else (none)) else (impl_ArriveBy.j0 k l0 a2 l3 false)) else (impl_ArriveBy.j0 k l0 a2 l3 true))) else (impl_ArriveBy.j0 k l0 a2 l3 true))) else (impl_ArriveBy.j0 k l0 a2 l3 true))) else (impl_ArriveBy.j0 k l0 a2 l3 true)))=some (r1,r2):=by rw[if_pos rfl] at H;exact H
   clear H
   have H:=H1
   clear H1
   replace H:=bI_ H
   obtain⟨t517,A80,H⟩:=H
   replace H:(if t517=true then ((impl_isWhen.f a2).bind fun t518=>(if t518=true then ((impl_areOf.f k l3 (l0.length:Int) 20).bind fun t519=>(if t519=true then ((impl_isRow.f k l0 l3).bind fun t520=>(if t520=true then (if (l3.length:Int) > 0 then (if 0 < (l3.length:Int) then (if 0≤(rd l3 0) then (if (rd l3 0) < (l0.length:Int) then (impl_ArriveBy.j0 k l0 a2 l3 (((rd_T104 l0 (rd l3 0)).f0) != a1)) else (none)) else (none)) else (none)) else (impl_ArriveBy.j0 k l0 a2 l3 false)) else (impl_ArriveBy.j0 k l0 a2 l3 true))) else (impl_ArriveBy.j0 k l0 a2 l3 true))) else (impl_ArriveBy.j0 k l0 a2 l3 true))) else (impl_ArriveBy.j0 k l0 a2 l3 true))=some (r1,r2):=H
   have A8:=am A80
   clear A80
   by_cases c9:t517=true
   ·subst c9
    have H1:((impl_isWhen.f a2).bind fun t518=>(if t518=true then ((impl_areOf.f k l3 (l0.length:Int) 20).bind fun t519=>(if t519=true then ((impl_isRow.f k l0 l3).bind fun t520=>(if t520=true then (if (l3.length:Int) > 0 then (if 0 < (l3.length:Int) then (if 0≤(rd l3 0) then (if (rd l3 0) < (l0.length:Int) then (impl_ArriveBy.j0 k l0 a2 l3 (((rd_T104 l0 (rd l3 0)).f0) != a1)) else (none)) else (none)) else (none)) else (impl_ArriveBy.j0 k l0 a2 l3 false)) else (impl_ArriveBy.j0 k l0 a2 l3 true))) else (impl_ArriveBy.j0 k l0 a2 l3 true))) else (impl_ArriveBy.j0 k l0 a2 l3 true)))=some (r1,r2):=by rw[if_pos rfl] at H;exact H
    clear H
    have H:=H1
    clear H1
    replace H:=bI_ H
    obtain⟨t518,A100,H⟩:=H
    replace H:(if t518=true then ((impl_areOf.f k l3 (l0.length:Int) 20).bind fun t519=>(if t519=true then ((impl_isRow.f k l0 l3).bind fun t520=>(if t520=true then (if (l3.length:Int) > 0 then (if 0 < (l3.length:Int) then (if 0≤(rd l3 0) then (if (rd l3 0) < (l0.length:Int) then (impl_ArriveBy.j0 k l0 a2 l3 (((rd_T104 l0 (rd l3 0)).f0) != a1)) else (none)) else (none)) else (none)) else (impl_ArriveBy.j0 k l0 a2 l3 false)) else (impl_ArriveBy.j0 k l0 a2 l3 true))) else (impl_ArriveBy.j0 k l0 a2 l3 true))) else (impl_ArriveBy.j0 k l0 a2 l3 true))=some (r1,r2):=H
    have A10:=am A100
    clear A100
    by_cases c11:t518=true
    ·subst c11
     have H1:((impl_areOf.f k l3 (l0.length:Int) 20).bind fun t519=>(if t519=true then ((impl_isRow.f k l0 l3).bind fun t520=>(if t520=true then (if (l3.length:Int) > 0 then (if 0 < (l3.length:Int) then (if 0≤(rd l3 0) then (if (rd l3 0) < (l0.length:Int) then (impl_ArriveBy.j0 k l0 a2 l3 (((rd_T104 l0 (rd l3 0)).f0) != a1)) else (none)) else (none)) else (none)) else (impl_ArriveBy.j0 k l0 a2 l3 false)) else (impl_ArriveBy.j0 k l0 a2 l3 true))) else (impl_ArriveBy.j0 k l0 a2 l3 true)))=some (r1,r2):=by rw[if_pos rfl] at H;exact H
     clear H
     have H:=H1
     clear H1
     replace H:=bI_ H
     obtain⟨t519,A120,H⟩:=H
     replace H:(if t519=true then ((impl_isRow.f k l0 l3).bind fun t520=>(if t520=true then (if (l3.length:Int) > 0 then (if 0 < (l3.length:Int) then (if 0≤(rd l3 0) then (if (rd l3 0) < (l0.length:Int) then (impl_ArriveBy.j0 k l0 a2 l3 (((rd_T104 l0 (rd l3 0)).f0) != a1)) else (none)) else (none)) else (none)) else (impl_ArriveBy.j0 k l0 a2 l3 false)) else (impl_ArriveBy.j0 k l0 a2 l3 true))) else (impl_ArriveBy.j0 k l0 a2 l3 true))=some (r1,r2):=H
     have A12:=am A120
     clear A120
     by_cases c13:t519=true
     ·subst c13
      have H1:((impl_isRow.f k l0 l3).bind fun t520=>(if t520=true then (if (l3.length:Int) > 0 then (if 0 < (l3.length:Int) then (if 0≤(rd l3 0) then (if (rd l3 0) < (l0.length:Int) then (impl_ArriveBy.j0 k l0 a2 l3 (((rd_T104 l0 (rd l3 0)).f0) != a1)) else (none)) else (none)) else (none)) else (impl_ArriveBy.j0 k l0 a2 l3 false)) else (impl_ArriveBy.j0 k l0 a2 l3 true)))=some (r1,r2):=by rw[if_pos rfl] at H;exact H
      clear H
      have H:=H1
      clear H1
      replace H:=bI_ H
      obtain⟨t520,A140,H⟩:=H
      replace H:(if t520=true then (if (l3.length:Int) > 0 then (if 0 < (l3.length:Int) then (if 0≤(rd l3 0) then (if (rd l3 0) < (l0.length:Int) then (impl_ArriveBy.j0 k l0 a2 l3 (((rd_T104 l0 (rd l3 0)).f0) != a1)) else (none)) else (none)) else (none)) else (impl_ArriveBy.j0 k l0 a2 l3 false)) else (impl_ArriveBy.j0 k l0 a2 l3 true))=some (r1,r2):=H
      have A14:=am A140
      clear A140
      by_cases c15:t520=true
      ·subst c15
       have H1:(if (l3.length:Int) > 0 then (if 0 < (l3.length:Int) then (if 0≤(rd l3 0) then (if (rd l3 0) < (l0.length:Int) then (impl_ArriveBy.j0 k l0 a2 l3 (((rd_T104 l0 (rd l3 0)).f0) != a1)) else (none)) else (none)) else (none)) else (impl_ArriveBy.j0 k l0 a2 l3 false))=some (r1,r2):=by rw[if_pos rfl] at H;exact H
       clear H
       have H:=H1
       clear H1
       by_cases c16:(l3.length:Int) > 0
       ·rw[if_pos c16] at H
        have c16b0:decide (0 < (l3.length:Int))=true:=decide_eq_true c16
        have c16b1:decide (0 < l3.length)=true:=decide_eq_true (b28_)
        clear c16
        (first|rw[c16b0]|(simp only[i64_w,i32_w];rw[c16b0])|skip)
        by_cases c17:0 < (l3.length:Int)
        ·rw[if_pos c17] at H
         have c17b0:decide (0 < (l3.length:Int))=true:=decide_eq_true c17
         have c17b1:decide (0 < l3.length)=true:=decide_eq_true (b28_)
         clear c17
         by_cases c18:0≤(rd l3 0)
         ·rw[if_pos c18] at H
          have c18b0:decide (0≤(rd l3 0))=true:=decide_eq_true c18
          clear c18
          by_cases c19:(rd l3 0) < (l0.length:Int)
          ·rw[if_pos c19] at H
           have c19b0:decide ((rd l3 0) < (l0.length:Int))=true:=decide_eq_true c19
           clear c19
           have H':=am H
           clear H
           go_wp2_with (first|((with_reducible refine gate_callee (f:=88) rfl ?_);refine goesA (some 15) rfl rfl Try.func88 #[.slice A0 l0.length c0] rfl ?_;(with_reducible refine(impl_GoodPlan.calls k _ _ l0 true _ ?side1 ?side2 A6.out).mono ?_);(case side1=>exact bC HR0.out);(case side2=>exact HC0.out);rintro e w20 ⟨rfl,hb⟩;refine⟨_,rfl,?_⟩;have n0_:=am (below_step (bB) hb);clear HB;have HB:=n0_;clear n0_;(try clear hb);(try clear hb2);(try clear hk);(try clear hi))|(go_at_call 89;(with_reducible refine(impl_isNode.calls a1 true _ A8.out).mono ?_);rintro e w' ⟨rfl,⟨nd,rfl⟩⟩)|(go_at_call 90;(with_reducible refine(impl_isWhen.calls a2 true _ A10.out).mono ?_);rintro e w' ⟨rfl,⟨nd,rfl⟩⟩)|(go_at_call 127;(with_reducible refine(impl_areOf.calls k _ _ l3 (l0.length:Int) 20 true _ ?side1 ?side2 A12.out).mono ?_);(case side1=>exact b41_);(case side2=>exact HC3.out);rintro e w21 ⟨rfl,hb⟩;have n0_:=am (below_step (bB) hb);clear HB;have HB:=n0_;clear n0_;(try clear hb);(try clear hb2);(try clear hk);(try clear hi))|(go_at_call 128;(with_reducible refine(impl_isRow.calls k _ _ l0 _ _ l3 true _ ?side1 ?side2 ?side3 ?side4 A14.out).mono ?_);(case side1=>exact bC HR0.out);(case side2=>exact HC0.out);(case side3=>exact bC HR3.out);(case side4=>exact HC3.out);rintro e w' ⟨rfl,⟨nd,rfl⟩⟩;have p521:0≤(0:Int):=(b28_);have q521:0 < (l3.length:Int):=bD_;obtain⟨ad521,e521,hx521_0⟩:=Kd.at_int HR3.out 0 p521 q521;cases e521;have qi521:(0 < l3.length)=True:=eq_true (b28_);(try rw[show((0:Int)).toNat=0 from rfl] at hx521_0);(try rw[Addr.add_zero'] at hx521_0);replace hx521_0:=bQ_ HB.out hx521_0;replace p521:=eq_true p521;replace q521:=eq_true q521;have p522:0≤((rd l3 0):Int):=bD_;have q522:(rd l3 0) < (l0.length:Int):=bD_;obtain⟨ad522,e522,hx522_0,hx522_1,hx522_2,hx522_3,hx522_4⟩:=at_T104 HR0.out (rd l3 0) p522 q522;cases e522;replace hx522_0:=bQ_ HB.out hx522_0;replace hx522_1:=bQ_ HB.out hx522_1;replace hx522_2:=bQ_ HB.out hx522_2;replace hx522_3:=bQ_ HB.out hx522_3;replace hx522_4:=bQ_ HB.out hx522_4;replace p522:=eq_true p522;replace q522:=eq_true q522))
           go_meet
           case rel=>exact⟨_,((((rd_T104 l0 (rd l3 0)).f0) != a1)),(bR),H',⟨by first|omega|exact Nat.le_refl _⟩,⟨by repeat (first|(with_reducible first|exact HB.out|apply below_alloc|apply pw_below_drewN|apply below_drew1)|exact HB.out)⟩⟩
          ·rw[if_neg c19] at H
           exact absurd H (b27_)
         ·rw[if_neg c18] at H
          exact absurd H (b27_)
        ·rw[if_neg c17] at H
         exact absurd H (b27_)
       ·rw[if_neg c16] at H
        have c16b0:decide (0 < (l3.length:Int))=false:=decide_eq_false c16
        have c16b1:decide (0 < l3.length)=false:=decide_eq_false (b28_)
        clear c16
        (first|rw[c16b0]|(simp only[i64_w,i32_w];rw[c16b0])|skip)
        have H':=am H
        clear H
        go_wp2_with (first|((with_reducible refine gate_callee (f:=88) rfl ?_);refine goesA (some 15) rfl rfl Try.func88 #[.slice A0 l0.length c0] rfl ?_;(with_reducible refine(impl_GoodPlan.calls k _ _ l0 true _ ?side1 ?side2 A6.out).mono ?_);(case side1=>exact bC HR0.out);(case side2=>exact HC0.out);rintro e w22 ⟨rfl,hb⟩;refine⟨_,rfl,?_⟩;have n0_:=am (below_step (bB) hb);clear HB;have HB:=n0_;clear n0_;(try clear hb);(try clear hb2);(try clear hk);(try clear hi))|(go_at_call 89;(with_reducible refine(impl_isNode.calls a1 true _ A8.out).mono ?_);rintro e w' ⟨rfl,⟨nd,rfl⟩⟩)|(go_at_call 90;(with_reducible refine(impl_isWhen.calls a2 true _ A10.out).mono ?_);rintro e w' ⟨rfl,⟨nd,rfl⟩⟩)|(go_at_call 127;(with_reducible refine(impl_areOf.calls k _ _ l3 (l0.length:Int) 20 true _ ?side1 ?side2 A12.out).mono ?_);(case side1=>exact b41_);(case side2=>exact HC3.out);rintro e w23 ⟨rfl,hb⟩;have n0_:=am (below_step (bB) hb);clear HB;have HB:=n0_;clear n0_;(try clear hb);(try clear hb2);(try clear hk);(try clear hi))|(go_at_call 128;(with_reducible refine(impl_isRow.calls k _ _ l0 _ _ l3 true _ ?side1 ?side2 ?side3 ?side4 A14.out).mono ?_);(case side1=>exact bC HR0.out);(case side2=>exact HC0.out);(case side3=>exact bC HR3.out);(case side4=>exact HC3.out);rintro e w' ⟨rfl,⟨nd,rfl⟩⟩))
        go_meet
        case rel=>exact⟨_,(false),(bR),H',⟨by first|omega|exact Nat.le_refl _⟩,⟨by repeat (first|(with_reducible first|exact HB.out|apply below_alloc|apply pw_below_drewN|apply below_drew1)|exact HB.out)⟩⟩
      ·replace c15:=Bool.eq_false_iff.mpr c15
       subst c15
       have H1:(impl_ArriveBy.j0 k l0 a2 l3 true)=some (r1,r2):=by rw[if_neg (show ¬ (false=true) by decide)] at H;exact H
       clear H
       have H:=H1
       clear H1
       have H':=am H
       clear H
       go_wp2_with (first|((with_reducible refine gate_callee (f:=88) rfl ?_);refine goesA (some 15) rfl rfl Try.func88 #[.slice A0 l0.length c0] rfl ?_;(with_reducible refine(impl_GoodPlan.calls k _ _ l0 true _ ?side1 ?side2 A6.out).mono ?_);(case side1=>exact bC HR0.out);(case side2=>exact HC0.out);rintro e w24 ⟨rfl,hb⟩;refine⟨_,rfl,?_⟩;have n0_:=am (below_step (bB) hb);clear HB;have HB:=n0_;clear n0_;(try clear hb);(try clear hb2);(try clear hk);(try clear hi))|(go_at_call 89;(with_reducible refine(impl_isNode.calls a1 true _ A8.out).mono ?_);rintro e w' ⟨rfl,⟨nd,rfl⟩⟩)|(go_at_call 90;(with_reducible refine(impl_isWhen.calls a2 true _ A10.out).mono ?_);rintro e w' ⟨rfl,⟨nd,rfl⟩⟩)|(go_at_call 127;(with_reducible refine(impl_areOf.calls k _ _ l3 (l0.length:Int) 20 true _ ?side1 ?side2 A12.out).mono ?_);(case side1=>exact b41_);(case side2=>exact HC3.out);rintro e w25 ⟨rfl,hb⟩;have n0_:=am (below_step (bB) hb);clear HB;have HB:=n0_;clear n0_;(try clear hb);(try clear hb2);(try clear hk);(try clear hi))|(go_at_call 128;(with_reducible refine(impl_isRow.calls k _ _ l0 _ _ l3 false _ ?side1 ?side2 ?side3 ?side4 A14.out).mono ?_);(case side1=>exact bC HR0.out);(case side2=>exact HC0.out);(case side3=>exact bC HR3.out);(case side4=>exact HC3.out);rintro e w' ⟨rfl,⟨nd,rfl⟩⟩))
       go_meet
       case rel=>exact⟨_,(true),(bR),H',⟨by first|omega|exact Nat.le_refl _⟩,⟨by repeat (first|(with_reducible first|exact HB.out|apply below_alloc|apply pw_below_drewN|apply below_drew1)|exact HB.out)⟩⟩
     ·replace c13:=Bool.eq_false_iff.mpr c13
      subst c13
      have H1:(impl_ArriveBy.j0 k l0 a2 l3 true)=some (r1,r2):=by rw[if_neg (show ¬ (false=true) by decide)] at H;exact H
      clear H
      have H:=H1
      clear H1
      have H':=am H
      clear H
      go_wp2_with (first|((with_reducible refine gate_callee (f:=88) rfl ?_);refine goesA (some 15) rfl rfl Try.func88 #[.slice A0 l0.length c0] rfl ?_;(with_reducible refine(impl_GoodPlan.calls k _ _ l0 true _ ?side1 ?side2 A6.out).mono ?_);(case side1=>exact bC HR0.out);(case side2=>exact HC0.out);rintro e w26 ⟨rfl,hb⟩;refine⟨_,rfl,?_⟩;have n0_:=am (below_step (bB) hb);clear HB;have HB:=n0_;clear n0_;(try clear hb);(try clear hb2);(try clear hk);(try clear hi))|(go_at_call 89;(with_reducible refine(impl_isNode.calls a1 true _ A8.out).mono ?_);rintro e w' ⟨rfl,⟨nd,rfl⟩⟩)|(go_at_call 90;(with_reducible refine(impl_isWhen.calls a2 true _ A10.out).mono ?_);rintro e w' ⟨rfl,⟨nd,rfl⟩⟩)|(go_at_call 127;(with_reducible refine(impl_areOf.calls k _ _ l3 (l0.length:Int) 20 false _ ?side1 ?side2 A12.out).mono ?_);(case side1=>exact b41_);(case side2=>exact HC3.out);rintro e w27 ⟨rfl,hb⟩;have n0_:=am (below_step (bB) hb);clear HB;have HB:=n0_;clear n0_;(try clear hb);(try clear hb2);(try clear hk);(try clear hi)))
      go_meet
      case rel=>exact⟨_,(true),(bR),H',⟨by first|omega|exact Nat.le_refl _⟩,⟨by repeat (first|(with_reducible first|exact HB.out|apply below_alloc|apply pw_below_drewN|apply below_drew1)|exact HB.out)⟩⟩
    ·replace c11:=Bool.eq_false_iff.mpr c11
     subst c11
     have H1:(impl_ArriveBy.j0 k l0 a2 l3 true)=some (r1,r2):=by rw[if_neg (show ¬ (false=true) by decide)] at H;exact H
     clear H
     have H:=H1
     clear H1
     have H':=am H
     clear H
     go_wp2_with (first|((with_reducible refine gate_callee (f:=88) rfl ?_);refine goesA (some 15) rfl rfl Try.func88 #[.slice A0 l0.length c0] rfl ?_;(with_reducible refine(impl_GoodPlan.calls k _ _ l0 true _ ?side1 ?side2 A6.out).mono ?_);(case side1=>exact bC HR0.out);(case side2=>exact HC0.out);rintro e w28 ⟨rfl,hb⟩;refine⟨_,rfl,?_⟩;have n0_:=am (below_step (bB) hb);clear HB;have HB:=n0_;clear n0_;(try clear hb);(try clear hb2);(try clear hk);(try clear hi))|(go_at_call 89;(with_reducible refine(impl_isNode.calls a1 true _ A8.out).mono ?_);rintro e w' ⟨rfl,⟨nd,rfl⟩⟩)|(go_at_call 90;(with_reducible refine(impl_isWhen.calls a2 false _ A10.out).mono ?_);rintro e w' ⟨rfl,⟨nd,rfl⟩⟩))
     go_meet
     case rel=>exact⟨_,(true),(bR),H',⟨by first|omega|exact Nat.le_refl _⟩,⟨by repeat (first|(with_reducible first|exact HB.out|apply below_alloc|apply pw_below_drewN|apply below_drew1)|exact HB.out)⟩⟩
   ·replace c9:=Bool.eq_false_iff.mpr c9
    subst c9
    have H1:(impl_ArriveBy.j0 k l0 a2 l3 true)=some (r1,r2):=by rw[if_neg (show ¬ (false=true) by decide)] at H;exact H
    clear H
    have H:=H1
    clear H1
    have H':=am H
    clear H
    go_wp2_with (first|((with_reducible refine gate_callee (f:=88) rfl ?_);refine goesA (some 15) rfl rfl Try.func88 #[.slice A0 l0.length c0] rfl ?_;(with_reducible refine(impl_GoodPlan.calls k _ _ l0 true _ ?side1 ?side2 A6.out).mono ?_);(case side1=>exact bC HR0.out);(case side2=>exact HC0.out);rintro e w29 ⟨rfl,hb⟩;refine⟨_,rfl,?_⟩;have n0_:=am (below_step (bB) hb);clear HB;have HB:=n0_;clear n0_;(try clear hb);(try clear hb2);(try clear hk);(try clear hi))|(go_at_call 89;(with_reducible refine(impl_isNode.calls a1 false _ A8.out).mono ?_);rintro e w' ⟨rfl,⟨nd,rfl⟩⟩))
    go_meet
    case rel=>exact⟨_,(true),(bR),H',⟨by first|omega|exact Nat.le_refl _⟩,⟨by repeat (first|(with_reducible first|exact HB.out|apply below_alloc|apply pw_below_drewN|apply below_drew1)|exact HB.out)⟩⟩
  ·replace c7:=Bool.eq_false_iff.mpr c7
   subst c7
   have H1:(impl_ArriveBy.j0 k l0 a2 l3 true)=some (r1,r2):=by rw[if_neg (show ¬ (false=true) by decide)] at H;exact H
   clear H
   have H:=H1
   clear H1
   have H':=am H
   clear H
   go_wp2_with (first|((with_reducible refine gate_callee (f:=88) rfl ?_);refine goesA (some 15) rfl rfl Try.func88 #[.slice A0 l0.length c0] rfl ?_;(with_reducible refine(impl_GoodPlan.calls k _ _ l0 false _ ?side1 ?side2 A6.out).mono ?_);(case side1=>exact bC HR0.out);(case side2=>exact HC0.out);rintro e w30 ⟨rfl,hb⟩;refine⟨_,rfl,?_⟩;have n0_:=am (below_step (bB) hb);clear HB;have HB:=n0_;clear n0_;(try clear hb);(try clear hb2);(try clear hk);(try clear hi)))
   go_meet
   case rel=>exact⟨_,(true),(bR),H',⟨by first|omega|exact Nat.le_refl _⟩,⟨by repeat (first|(with_reducible first|exact HB.out|apply below_alloc|apply pw_below_drewN|apply below_drew1)|exact HB.out)⟩⟩
 case rest =>
  clear HC5
  try clear c1
  try clear p2
  try clear c3
  try clear p5
  try clear q5
  try clear hx5
  try clear qi5
  try clear c6
  try clear c7
  try clear c8
  try clear c9
  try clear c11
  try clear c13
  try clear c15
  try clear c16
  try clear c16b0
  try clear c16b1
  try clear c17
  try clear c17b0
  try clear c17b1
  try clear c18
  try clear c18b0
  try clear c19
  try clear c19b0
  try clear hx521_0
  try clear hx522_0
  try clear hx522_1
  try clear hx522_2
  try clear hx522_3
  try clear hx522_4
  try clear p521
  try clear p522
  try clear q521
  try clear q522
  obtain⟨kq,x55_4,rfl,HA,HJ4,HB⟩:=hcut
  cases kq with
  | zero=>exact absurd HA.out (by simp[impl_ArriveBy.j0])
  | succ kj4 =>
   have H:=HA.out
   clear HA
   simp only[impl_ArriveBy.j0] at H
   by_cases c31:x55_4=true
   ·subst c31
    have H1:(some (0,false))=some (r1,r2):=by rw[if_pos rfl] at H;exact H
    clear H
    have H:=H1
    clear H1
    simp only[Option.some.injEq,Prod.mk.injEq] at H
    obtain⟨rfl,rfl⟩:=H
    go_wp2
    go_ret2
    exact⟨bE,bB⟩
   ·replace c31:=Bool.eq_false_iff.mpr c31
    subst c31
    have H1:(impl_ArriveBy.l0 kj4 l0 a2 l3 (l3.length:Int) 0)=some (r1,r2):=by rw[if_neg (show ¬ (false=true) by decide)] at H;exact H
    clear H
    have H:=H1
    clear H1
    have H':=am H
    clear H
    go_wp2
    go_loopg [2,58] kj4 (fun kq v2 v58 w' => ∃ (x2_2:Int) (x58_2:Int),v2=.int .i64 x2_2∧v58=.int .i64 x58_2∧Aside0 (impl_ArriveBy.l0 kq l0 x2_2 l3 (l3.length:Int) x58_2=some (r1,r2))∧Aside0 (kq≤kj4)∧Aside0 (Below w.heap.size w w'))
    case atStart=>exact⟨(a2),(0),(bR),(bR),H',⟨Nat.le_refl _⟩,⟨by repeat (first|(with_reducible first|exact HB.out|apply below_alloc|apply pw_below_drewN|apply below_drew1)|exact HB.out)⟩⟩
    case round =>
     clear H'
     try clear c1
     try clear p2
     try clear c3
     try clear p5
     try clear q5
     try clear hx5
     try clear qi5
     try clear c6
     try clear c7
     try clear c8
     try clear c9
     try clear c11
     try clear c13
     try clear c15
     try clear c16
     try clear c16b0
     try clear c16b1
     try clear c17
     try clear c17b0
     try clear c17b1
     try clear c18
     try clear c18b0
     try clear c19
     try clear c19b0
     try clear c31
     try clear hx521_0
     try clear hx522_0
     try clear hx522_1
     try clear hx522_2
     try clear hx522_3
     try clear hx522_4
     try clear p2
     try clear p5
     try clear p521
     try clear p522
     try clear q5
     try clear q521
     try clear q522
     obtain⟨x2_2,x58_2,rfl,rfl,HA,HK2,HB⟩:=hrel
     cases gk with
     | zero=>exact absurd HA.out (by simp[impl_ArriveBy.l0])
     | succ k2 =>
      have H:=HA.out
      clear HA
      simp only[impl_ArriveBy.l0] at H
      by_cases c32:x58_2 < (l3.length:Int)
      ·rw[if_pos c32] at H
       have c32b0:decide (x58_2 < (l3.length:Int))=true:=decide_eq_true c32
       clear c32
       by_cases c33:0≤x58_2
       ·rw[if_pos c33] at H
        have c33b0:decide (0≤x58_2)=true:=decide_eq_true c33
        clear c33
        by_cases c34:x58_2 < (l3.length:Int)
        ·rw[if_pos c34] at H
         have c34b0:decide (x58_2 < (l3.length:Int))=true:=decide_eq_true c34
         clear c34
         by_cases c35:0≤(rd l3 x58_2)
         ·rw[if_pos c35] at H
          have c35b0:decide (0≤(rd l3 x58_2))=true:=decide_eq_true c35
          clear c35
          by_cases c36:(rd l3 x58_2) < (l0.length:Int)
          ·rw[if_pos c36] at H
           have c36b0:decide ((rd l3 x58_2) < (l0.length:Int))=true:=decide_eq_true c36
           clear c36
           replace H:=bI_ H
           obtain⟨⟨t525,t526⟩,A370,H⟩:=H
           replace H:(if t526=true then (impl_ArriveBy.l0 k2 l0 t525 l3 (l3.length:Int) (wrap64 (x58_2+1))) else (some (0,false)))=some (r1,r2):=H
           have A37:=am A370
           clear A370
           by_cases c38:t526=true
           ·subst c38
            have H1:(impl_ArriveBy.l0 k2 l0 t525 l3 (l3.length:Int) (wrap64 (x58_2+1)))=some (r1,r2):=by rw[if_pos rfl] at H;exact H
            clear H
            have H:=H1
            clear H1
            have H':=am H
            clear H
            have p523:0≤(x58_2:Int):=bD_
            have q523:x58_2 < (l3.length:Int):=bD_
            obtain⟨ad523,e523,hx523_0⟩:=Kd.at_int HR3.out x58_2 p523 q523
            cases e523
            replace hx523_0:=bQ_ HB.out hx523_0
            replace p523:=eq_true p523
            replace q523:=eq_true q523
            have p524:0≤((rd l3 x58_2):Int):=bD_
            have q524:(rd l3 x58_2) < (l0.length:Int):=bD_
            obtain⟨ad524,e524,hx524_0,hx524_1,hx524_2,hx524_3,hx524_4⟩:=at_T104 HR0.out (rd l3 x58_2) p524 q524
            cases e524
            replace hx524_0:=bQ_ HB.out hx524_0
            replace hx524_1:=bQ_ HB.out hx524_1
            replace hx524_2:=bQ_ HB.out hx524_2
            replace hx524_3:=bQ_ HB.out hx524_3
            replace hx524_4:=bQ_ HB.out hx524_4
            replace p524:=eq_true p524
            replace q524:=eq_true q524
            go_wp2_with (first|((with_reducible refine gate_callee (f:=122) rfl ?_);refine goesA (some 68) rfl rfl Try.func122 #[.agg #[.int .i64 ((rd_T104 l0 (rd l3 x58_2)).f0),.int .i64 ((rd_T104 l0 (rd l3 x58_2)).f1),.int .i64 ((rd_T104 l0 (rd l3 x58_2)).f2),.int .i64 ((rd_T104 l0 (rd l3 x58_2)).f3),.int .i64 ((rd_T104 l0 (rd l3 x58_2)).f4)],.int .i64 x2_2] rfl ?_;(with_reducible refine(impl_Contact_by.calls ((rd_T104 l0 (rd l3 x58_2)).f0) ((rd_T104 l0 (rd l3 x58_2)).f1) ((rd_T104 l0 (rd l3 x58_2)).f2) ((rd_T104 l0 (rd l3 x58_2)).f3) ((rd_T104 l0 (rd l3 x58_2)).f4) x2_2 t525 true _ A37.out).mono ?_);rintro e w39 ⟨rfl,hb⟩;refine⟨_,rfl,?_⟩;have n0_:=am (below_step (bB) hb);clear HB;have HB:=n0_;clear n0_;(try clear hb);(try clear hb2);(try clear hk);(try clear hi)))
            go_roundg k2
            case measure=>have:=HJ4.out;have:=HK2.out;omega
            case rel=>exact⟨(t525),(wrap64 (x58_2+1)),(bR),(bR),H',⟨by have:=HJ4.out;have:=HK2.out;omega⟩,⟨by repeat (first|(with_reducible first|exact HB.out|apply below_alloc|apply pw_below_drewN|apply below_drew1)|exact HB.out)⟩⟩
           ·replace c38:=Bool.eq_false_iff.mpr c38
            subst c38
            have H1:(some (0,false))=some (r1,r2):=by rw[if_neg (show ¬ (false=true) by decide)] at H;exact H
            clear H
            have H:=H1
            clear H1
            simp only[Option.some.injEq,Prod.mk.injEq] at H
            obtain⟨rfl,rfl⟩:=H
            have p523:0≤(x58_2:Int):=bD_
            have q523:x58_2 < (l3.length:Int):=bD_
            obtain⟨ad523,e523,hx523_0⟩:=Kd.at_int HR3.out x58_2 p523 q523
            cases e523
            replace hx523_0:=bQ_ HB.out hx523_0
            replace p523:=eq_true p523
            replace q523:=eq_true q523
            have p524:0≤((rd l3 x58_2):Int):=bD_
            have q524:(rd l3 x58_2) < (l0.length:Int):=bD_
            obtain⟨ad524,e524,hx524_0,hx524_1,hx524_2,hx524_3,hx524_4⟩:=at_T104 HR0.out (rd l3 x58_2) p524 q524
            cases e524
            replace hx524_0:=bQ_ HB.out hx524_0
            replace hx524_1:=bQ_ HB.out hx524_1
            replace hx524_2:=bQ_ HB.out hx524_2
            replace hx524_3:=bQ_ HB.out hx524_3
            replace hx524_4:=bQ_ HB.out hx524_4
            replace p524:=eq_true p524
            replace q524:=eq_true q524
            go_wp2_with (first|((with_reducible refine gate_callee (f:=122) rfl ?_);refine goesA (some 68) rfl rfl Try.func122 #[.agg #[.int .i64 ((rd_T104 l0 (rd l3 x58_2)).f0),.int .i64 ((rd_T104 l0 (rd l3 x58_2)).f1),.int .i64 ((rd_T104 l0 (rd l3 x58_2)).f2),.int .i64 ((rd_T104 l0 (rd l3 x58_2)).f3),.int .i64 ((rd_T104 l0 (rd l3 x58_2)).f4)],.int .i64 x2_2] rfl ?_;(with_reducible refine(impl_Contact_by.calls ((rd_T104 l0 (rd l3 x58_2)).f0) ((rd_T104 l0 (rd l3 x58_2)).f1) ((rd_T104 l0 (rd l3 x58_2)).f2) ((rd_T104 l0 (rd l3 x58_2)).f3) ((rd_T104 l0 (rd l3 x58_2)).f4) x2_2 t525 false _ A37.out).mono ?_);rintro e w40 ⟨rfl,hb⟩;refine⟨_,rfl,?_⟩;have n0_:=am (below_step (bB) hb);clear HB;have HB:=n0_;clear n0_;(try clear hb);(try clear hb2);(try clear hk);(try clear hi)))
            go_ret2
            exact⟨bE,bB⟩
          ·rw[if_neg c36] at H
           exact absurd H (b27_)
         ·rw[if_neg c35] at H
          exact absurd H (b27_)
        ·rw[if_neg c34] at H
         exact absurd H (b27_)
       ·rw[if_neg c33] at H
        exact absurd H (b27_)
      ·rw[if_neg c32] at H
       have c32b0:decide (x58_2 < (l3.length:Int))=false:=decide_eq_false c32
       clear c32
       simp only[Option.some.injEq,Prod.mk.injEq] at H
       obtain⟨rfl,rfl⟩:=H
       go_wp2
       go_ret2
       exact⟨bE,bB⟩

end Go.Proofs.Yteneeohaoplpbaa.XFnFollow
