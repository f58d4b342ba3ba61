-- Written by this session's own program (wip/xprint.py) out of the translation; Lean checks it.
import Derived.Test.YthghcoepkknkeaaXFnFairx0
import Derived.Test.YthghcoepkknkeaaXFnFairx5
namespace Go.Proofs.Ythghcoepkknkeaa.XFnFair
open Go.RowKit Go.Proofs.YthghcoepkknkeaaW.PrintWords Go.Proofs.YthghcoepkknkeaaW.PrintLast Go.Proofs.YthghcoepkknkeaaW.PrintMore
open Go.Proofs.YthghcoepkknkeaaW.PrintWords.Aside0 renaming mk → am
attribute [local go_sem] max2_int min2_int max_two min_two max_three min_three max_four min_four   -- for this text's walks alone
set_option linter.unusedVariables false
set_option linter.unusedSimpArgs false

/-! ### spec_l1Cur_one: function 36 -/
def spec_l1Cur_one.f (s0_0:List Int) (s0_1:Int) (s0_2:Int) (a1:Int):Option (Bool × Int × Int):=(spec_l1Cur_pick.f s0_0 s0_1 s0_2 a1).bind fun bt211=>(some ((bt211.1 == 0),bt211.2.1,bt211.2.2))
set_option maxHeartbeats 8000000 in
set_option maxRecDepth 100000 in
theorem spec_l1Cur_one.calls (g:Nat) (s0_0:List Int) (s0_1:Int) (s0_2:Int) (a1:Int) (r1:Bool) (r2:Int) (r3:Int) (w0 w:World) (hI:IsS58 w0 w g s0_0 s0_1 s0_2) (hB:Below w0.heap.size w0 w) (h:spec_l1Cur_one.f s0_0 s0_1 s0_2 a1=some (r1,r2,r3)) :
  Calls Try.prog 36 #[.pointer (some ⟨g,0,none⟩),.int .i64 a1] w fun e w'=>e=.returned (.bool r1)∧IsS58 w0 w' g s0_0 r2 r3∧Below w0.heap.size w0 w'∧KeepBut w w' g none:=by
 have HI0:=am hI
 have HK:=am (KeepBut.refl w g none)
 have HL:=am hB.size
 clear hI
 have HW0:=am hB.size
 have HB:=am hB
 clear hB
 have H:((spec_l1Cur_pick.f s0_0 s0_1 s0_2 a1).bind fun bt211=>(some ((bt211.1 == 0),bt211.2.1,bt211.2.2)))=some (r1,r2,r3):=h
 clear h
 replace H:=bI_ H
 obtain⟨⟨t211,t212,t213⟩,A30,H⟩:=H
 replace H:(some ((t211 == 0),t212,t213))=some (r1,r2,r3):=H
 have A3:=am A30
 clear A30
 simp only[Option.some.injEq,Prod.mk.injEq] at H
 obtain⟨rfl,rfl,rfl⟩:=H
 go_enter Try.func36,Try.ntmps36
 go_wp2_with (first|((with_reducible refine gate_callee (f:=29) rfl ?_);refine goesA (some 7) rfl rfl Try.func29 #[.pointer (some ⟨g,0,none⟩),.int .i64 a1] rfl ?_;(with_reducible refine(spec_l1Cur_pick.calls g s0_0 s0_1 s0_2 a1 t211 t212 t213 w0 _ ?side1 ?side2 A3.out).mono ?_);(case side1=>repeat (first|(with_reducible first|exact HI0.out|apply IsS58.alloc|apply IsS58.drewN|apply IsS58.drew|apply IsS58.set_1|apply IsS58.set_2)|exact HI0.out));(case side2=>repeat (first|(with_reducible first|exact HB.out|apply below_alloc|apply pw_below_drewN|apply below_drew1|refine below_set ?_ (IsS58.ge HI0.out))|exact HB.out));rintro e w4 ⟨rfl,hi,hb,hk⟩;refine⟨_,rfl,?_⟩;have n0_:=am (KeepBut.trans (by repeat (first|(with_reducible first|exact HK.out|apply KeepBut.set_|apply keep_drewN|apply keep_drew|apply keep_alloc)|exact HK.out)) hk (.inl rfl));have n1_:=am (hb);have n2_:=am (hi);clear HK HB;(try clear HI0);have HK:=n0_;have HB:=n1_;have HI0:=n2_;clear n0_ n1_ n2_;(try clear hb);(try clear hb2);(try clear hk);(try clear hi)))
 go_ret
 exact⟨bE,by repeat (first|(with_reducible first|exact HI0.out|apply IsS58.alloc|apply IsS58.drewN|apply IsS58.drew|apply IsS58.set_1|apply IsS58.set_2)|exact HI0.out),by repeat (first|(with_reducible first|exact HB.out|apply below_alloc|apply pw_below_drewN|apply below_drew1|refine below_set ?_ (IsS58.ge HI0.out))|exact HB.out),by repeat (first|(with_reducible first|exact HK.out|apply KeepBut.set_|apply keep_drewN|apply keep_drew|apply keep_alloc)|exact HK.out)⟩

end Go.Proofs.Ythghcoepkknkeaa.XFnFair
