-- Written by this session's own program (wip/xprint.py) out of the translation; Lean checks it.
import Derived.Test.YteneeohaoplpbaaXFnExactDeliveredByx0
import Derived.Test.YteneeohaoplpbaaXFnExactDeliveredByx6
namespace Go.Proofs.Yteneeohaoplpbaa.XFnExactDeliveredBy
open Go.RowKit Go.Proofs.YteneeohaoplpbaaW.PrintWords Go.Proofs.YteneeohaoplpbaaW.PrintLast Go.Proofs.YteneeohaoplpbaaW.PrintMore
attribute [local go_sem] max2_int min2_int max_two min_two max_three min_three max_four min_four   -- for this text's walks alone
set_option linter.unusedVariables false
set_option linter.unusedSimpArgs false

/-! ### impl_GoodBundle: function 159 -/
theorem impl_GoodBundle.isE_ (l:List UInt8):l.isEmpty = !(l != []):=by cases l<;>rfl
def impl_GoodBundle.j0:Nat→Bool→Int→Int→Bool→Int→Int→Int→Int→Int→Int→ByteArray→Option (Bool)
 | 0,_,_,_,_,_,_,_,_,_,_,_=>none
 | k+1,x42,x292000,x292001,x292002,x292003,x292004,x292005,x292006,x292007,x292008,x292009=>if x42=true then (some false) else (if x292008=0 then (some (x292007 == 0)) else ((impl_within.f x292008 1 60).bind fun t298=>(if t298=true then ((impl_within.f x292007 0 (wrap64 (x292008 - (x292009.size:Int)))).bind fun t299=>(if t299=true then (some (x292009.toList != ([]:List UInt8))) else (some false))) else (some false))))
def impl_GoodBundle.f (k:Nat) (a0_0:Int) (a0_1:Int) (a0_2:Bool) (a0_3:Int) (a0_4:Int) (a0_5:Int) (a0_6:Int) (a0_7:Int) (a0_8:Int) (a0_9:ByteArray):Option (Bool):=(impl_within.f a0_0 0 40).bind fun t292=>(if t292=true then ((impl_within.f a0_1 0 40).bind fun t293=>(if t293=true then ((impl_within.f a0_3 0 1000000).bind fun t294=>(if t294=true then ((impl_within.f a0_4 0 1000).bind fun t295=>(if t295=true then ((impl_within.f a0_5 1 1000000).bind fun t296=>(if t296=true then ((impl_within.f a0_6 0 30).bind fun t297=>(if t297=true then (impl_GoodBundle.j0 k (decide ((a0_9.size:Int) > 60)) a0_0 a0_1 a0_2 a0_3 a0_4 a0_5 a0_6 a0_7 a0_8 a0_9) else (impl_GoodBundle.j0 k true a0_0 a0_1 a0_2 a0_3 a0_4 a0_5 a0_6 a0_7 a0_8 a0_9))) else (impl_GoodBundle.j0 k true a0_0 a0_1 a0_2 a0_3 a0_4 a0_5 a0_6 a0_7 a0_8 a0_9))) else (impl_GoodBundle.j0 k true a0_0 a0_1 a0_2 a0_3 a0_4 a0_5 a0_6 a0_7 a0_8 a0_9))) else (impl_GoodBundle.j0 k true a0_0 a0_1 a0_2 a0_3 a0_4 a0_5 a0_6 a0_7 a0_8 a0_9))) else (impl_GoodBundle.j0 k true a0_0 a0_1 a0_2 a0_3 a0_4 a0_5 a0_6 a0_7 a0_8 a0_9))) else (impl_GoodBundle.j0 k true a0_0 a0_1 a0_2 a0_3 a0_4 a0_5 a0_6 a0_7 a0_8 a0_9))
theorem impl_GoodBundle.mono_l : ∀ k,(∀ y0 y1 y2 y3 y4 y5 y6 y7 y8 y9 y10,LeO (impl_GoodBundle.j0 k y0 y1 y2 y3 y4 y5 y6 y7 y8 y9 y10) (impl_GoodBundle.j0 (k+1) y0 y1 y2 y3 y4 y5 y6 y7 y8 y9 y10))
 | 0=>fun _ _ _ _ _ _ _ _ _ _ _ r h=>by simp[impl_GoodBundle.j0] at h
 | k+1=>by
  have ih0:=impl_GoodBundle.mono_l k
  ·intro y0 y1 y2 y3 y4 y5 y6 y7 y8 y9 y10
   unfold impl_GoodBundle.j0
   repeat' first
   | (with_reducible exact ih0 _ _ _ _ _ _ _ _ _ _ _)
   | (with_reducible exact LeO.refl _)
   | (with_reducible exact LeO.none _)
   | (with_reducible refine LeO.ite ?_ ?_)
   | (with_reducible refine LeO.bind ?_ (fun _ => ?_))
   | exact ih0 _ _ _ _ _ _ _ _ _ _ _
   | exact LeO.none _
   | refine LeO.ite ?_ ?_
   | refine LeO.bind ?_ (fun _ => ?_)
theorem impl_GoodBundle.mono : ∀ a0 a1 a2 a3 a4 a5 a6 a7 a8 a9 k,LeO (impl_GoodBundle.f k a0 a1 a2 a3 a4 a5 a6 a7 a8 a9) (impl_GoodBundle.f (k+1) a0 a1 a2 a3 a4 a5 a6 a7 a8 a9):=by
 intro a0 a1 a2 a3 a4 a5 a6 a7 a8 a9 k
 have ih0:=impl_GoodBundle.mono_l k
 unfold impl_GoodBundle.f
 repeat' first
  | (with_reducible exact ih0 _ _ _ _ _ _ _ _ _ _ _)
  | (with_reducible exact LeO.refl _)
  | (with_reducible exact LeO.none _)
  | (with_reducible refine LeO.ite ?_ ?_)
  | (with_reducible refine LeO.bind ?_ (fun _ => ?_))
  | exact ih0 _ _ _ _ _ _ _ _ _ _ _
  | exact LeO.none _
  | refine LeO.ite ?_ ?_
  | refine LeO.bind ?_ (fun _ => ?_)
set_option maxHeartbeats 8000000 in
set_option maxRecDepth 100000 in
theorem impl_GoodBundle.calls (k:Nat) (a0_0:Int) (a0_1:Int) (a0_2:Bool) (a0_3:Int) (a0_4:Int) (a0_5:Int) (a0_6:Int) (a0_7:Int) (a0_8:Int) (a0_9:ByteArray) (r:Bool) (w:World) (h:impl_GoodBundle.f k a0_0 a0_1 a0_2 a0_3 a0_4 a0_5 a0_6 a0_7 a0_8 a0_9=some r) :
  Calls Try.prog 159 #[.agg #[.int .i64 a0_0,.int .i64 a0_1,.bool a0_2,.int .i64 a0_3,.int .i64 a0_4,.int .i64 a0_5,.int .i64 a0_6,.int .i64 a0_7,.int .i64 a0_8,.string a0_9]] w fun e w'=>e=.returned (.bool r)∧Below w.heap.size w w':=by
 have hu86:=Try.underlying86
 have HB:=Aside0.mk (Below.refl w.heap.size w)
 have H:((impl_within.f a0_0 0 40).bind fun t292=>(if t292=true then ((impl_within.f a0_1 0 40).bind fun t293=>(if t293=true then ((impl_within.f a0_3 0 1000000).bind fun t294=>(if t294=true then ((impl_within.f a0_4 0 1000).bind fun t295=>(if t295=true then ((impl_within.f a0_5 1 1000000).bind fun t296=>(if t296=true then ((impl_within.f a0_6 0 30).bind fun t297=>(if t297=true then (impl_GoodBundle.j0 k (decide ((a0_9.size:Int) > 60)) a0_0 a0_1 a0_2 a0_3 a0_4 a0_5 a0_6 a0_7 a0_8 a0_9) else (impl_GoodBundle.j0 k true a0_0 a0_1 a0_2 a0_3 a0_4 a0_5 a0_6 a0_7 a0_8 a0_9))) else (impl_GoodBundle.j0 k true a0_0 a0_1 a0_2 a0_3 a0_4 a0_5 a0_6 a0_7 a0_8 a0_9))) else (impl_GoodBundle.j0 k true a0_0 a0_1 a0_2 a0_3 a0_4 a0_5 a0_6 a0_7 a0_8 a0_9))) else (impl_GoodBundle.j0 k true a0_0 a0_1 a0_2 a0_3 a0_4 a0_5 a0_6 a0_7 a0_8 a0_9))) else (impl_GoodBundle.j0 k true a0_0 a0_1 a0_2 a0_3 a0_4 a0_5 a0_6 a0_7 a0_8 a0_9))) else (impl_GoodBundle.j0 k true a0_0 a0_1 a0_2 a0_3 a0_4 a0_5 a0_6 a0_7 a0_8 a0_9)))=some r:=h
 clear h
 have HC2:=Aside0.mk H
 clear H
 go_enter Try.func159,Try.ntmps159
 go_upto_region 1 with (first|((with_reducible refine gate_dst (N:=1) rfl ?_);(try (refine gate_guard (by rfl) ?_;dsimp only));refine box_event ?hg (N:=1) ?hd (cs:=#[.int .i64 a0_0,.int .i64 a0_1,.bool a0_2,.int .i64 a0_3,.int .i64 a0_4,.int .i64 a0_5,.int .i64 a0_6,.int .i64 a0_7,.int .i64 a0_8,.string a0_9]) (t:=86) ?hr ?_;(case hd=>rfl);(case hg=>rfl);(case hr=>first|(go_simp;done)|(go_simp;rfl));intro gb291 hg w3 hbox hb;have n0_:=Aside0.mk (below_step (bB) hb);have n1_:=Aside0.mk (hbox);have n2_:=Aside0.mk ((bG:w.heap.size≤gb291));have n3_:=Aside0.mk ((bG:w.heap.size≤gb291));clear HB;have HB:=n0_;have BK291:=n1_;have GW291:=n2_;have GE291:=n3_;clear n0_ n1_ n2_ n3_;clear hb hbox hg))
 (try simp only[Act.put,List.setIfInBounds_toArray,List.set_cons_zero,List.set_cons_succ])
 go_cut [42] (fun v42 wc => ∃ (kq:Nat) (x42_1:Bool),v42=.bool x42_1∧Aside0 (impl_GoodBundle.j0 kq x42_1 a0_0 a0_1 a0_2 a0_3 a0_4 a0_5 a0_6 a0_7 a0_8 a0_9=some r)∧Aside0 (kq≤k)∧Aside0 (wc.heap[gb291]?=some (.cells #[.int .i64 a0_0,.int .i64 a0_1,.bool a0_2,.int .i64 a0_3,.int .i64 a0_4,.int .i64 a0_5,.int .i64 a0_6,.int .i64 a0_7,.int .i64 a0_8,.string a0_9] 86 (0,0)))∧Aside0 (Below w.heap.size w wc))
 case first =>
  have H:=HC2.out
  clear HC2
  replace H:=Option.bind_eq_some_iff.mp H
  obtain⟨t292,A40,H⟩:=H
  have A4:=Aside0.mk A40
  clear A40
  by_cases c5:t292=true
  ·subst c5
   have H1:((impl_within.f a0_1 0 40).bind fun t293=>(if t293=true then ((impl_within.f a0_3 0 1000000).bind fun t294=>(if t294=true then ((impl_within.f a0_4 0 1000).bind fun t295=>(if t295=true then ((impl_within.f a0_5 1 1000000).bind fun t296=>(if t296=true then ((impl_within.f a0_6 0 30).bind fun t297=>(if t297=true then (impl_GoodBundle.j0 k (decide ((a0_9.size:Int) > 60)) a0_0 a0_1 a0_2 a0_3 a0_4 a0_5 a0_6 a0_7 a0_8 a0_9) else (impl_GoodBundle.j0 k true a0_0 a0_1 a0_2 a0_3 a0_4 a0_5 a0_6 a0_7 a0_8 a0_9))) else (impl_GoodBundle.j0 k true a0_0 a0_1 a0_2 a0_3 a0_4 a0_5 a0_6 a0_7 a0_8 a0_9))) else (impl_GoodBundle.j0 k true a0_0 a0_1 a0_2 a0_3 a0_4 a0_5 a0_6 a0_7 a0_8 a0_9))) else (impl_GoodBundle.j0 k true a0_0 a0_1 a0_2 a0_3 a0_4 a0_5 a0_6 a0_7 a0_8 a0_9))) else (impl_GoodBundle.j0 k true a0_0 a0_1 a0_2 a0_3 a0_4 a0_5 a0_6 a0_7 a0_8 a0_9)))=some r:=by rw[if_pos rfl] at H;exact H
   clear H
   have H:=H1
   clear H1
   replace H:=Option.bind_eq_some_iff.mp H
   obtain⟨t293,A60,H⟩:=H
   have A6:=Aside0.mk A60
   clear A60
   by_cases c7:t293=true
   ·subst c7
    have H1:((impl_within.f a0_3 0 1000000).bind fun t294=>(if t294=true then ((impl_within.f a0_4 0 1000).bind fun t295=>(if t295=true then ((impl_within.f a0_5 1 1000000).bind fun t296=>(if t296=true then ((impl_within.f a0_6 0 30).bind fun t297=>(if t297=true then (impl_GoodBundle.j0 k (decide ((a0_9.size:Int) > 60)) a0_0 a0_1 a0_2 a0_3 a0_4 a0_5 a0_6 a0_7 a0_8 a0_9) else (impl_GoodBundle.j0 k true a0_0 a0_1 a0_2 a0_3 a0_4 a0_5 a0_6 a0_7 a0_8 a0_9))) else (impl_GoodBundle.j0 k true a0_0 a0_1 a0_2 a0_3 a0_4 a0_5 a0_6 a0_7 a0_8 a0_9))) else (impl_GoodBundle.j0 k true a0_0 a0_1 a0_2 a0_3 a0_4 a0_5 a0_6 a0_7 a0_8 a0_9))) else (impl_GoodBundle.j0 k true a0_0 a0_1 a0_2 a0_3 a0_4 a0_5 a0_6 a0_7 a0_8 a0_9)))=some r:=by rw[if_pos rfl] at H;exact H
    clear H
    have H:=H1
    clear H1
    replace H:=Option.bind_eq_some_iff.mp H
    obtain⟨t294,A80,H⟩:=H
    have A8:=Aside0.mk A80
    clear A80
    by_cases c9:t294=true
    ·subst c9
     have H1:((impl_within.f a0_4 0 1000).bind fun t295=>(if t295=true then ((impl_within.f a0_5 1 1000000).bind fun t296=>(if t296=true then ((impl_within.f a0_6 0 30).bind fun t297=>(if t297=true then (impl_GoodBundle.j0 k (decide ((a0_9.size:Int) > 60)) a0_0 a0_1 a0_2 a0_3 a0_4 a0_5 a0_6 a0_7 a0_8 a0_9) else (impl_GoodBundle.j0 k true a0_0 a0_1 a0_2 a0_3 a0_4 a0_5 a0_6 a0_7 a0_8 a0_9))) else (impl_GoodBundle.j0 k true a0_0 a0_1 a0_2 a0_3 a0_4 a0_5 a0_6 a0_7 a0_8 a0_9))) else (impl_GoodBundle.j0 k true a0_0 a0_1 a0_2 a0_3 a0_4 a0_5 a0_6 a0_7 a0_8 a0_9)))=some r:=by rw[if_pos rfl] at H;exact H
     clear H
     have H:=H1
     clear H1
     replace H:=Option.bind_eq_some_iff.mp H
     obtain⟨t295,A100,H⟩:=H
     have A10:=Aside0.mk A100
     clear A100
     by_cases c11:t295=true
     ·subst c11
      have H1:((impl_within.f a0_5 1 1000000).bind fun t296=>(if t296=true then ((impl_within.f a0_6 0 30).bind fun t297=>(if t297=true then (impl_GoodBundle.j0 k (decide ((a0_9.size:Int) > 60)) a0_0 a0_1 a0_2 a0_3 a0_4 a0_5 a0_6 a0_7 a0_8 a0_9) else (impl_GoodBundle.j0 k true a0_0 a0_1 a0_2 a0_3 a0_4 a0_5 a0_6 a0_7 a0_8 a0_9))) else (impl_GoodBundle.j0 k true a0_0 a0_1 a0_2 a0_3 a0_4 a0_5 a0_6 a0_7 a0_8 a0_9)))=some r:=by rw[if_pos rfl] at H;exact H
      clear H
      have H:=H1
      clear H1
      replace H:=Option.bind_eq_some_iff.mp H
      obtain⟨t296,A120,H⟩:=H
      have A12:=Aside0.mk A120
      clear A120
      by_cases c13:t296=true
      ·subst c13
       have H1:((impl_within.f a0_6 0 30).bind fun t297=>(if t297=true then (impl_GoodBundle.j0 k (decide ((a0_9.size:Int) > 60)) a0_0 a0_1 a0_2 a0_3 a0_4 a0_5 a0_6 a0_7 a0_8 a0_9) else (impl_GoodBundle.j0 k true a0_0 a0_1 a0_2 a0_3 a0_4 a0_5 a0_6 a0_7 a0_8 a0_9)))=some r:=by rw[if_pos rfl] at H;exact H
       clear H
       have H:=H1
       clear H1
       replace H:=Option.bind_eq_some_iff.mp H
       obtain⟨t297,A140,H⟩:=H
       have A14:=Aside0.mk A140
       clear A140
       by_cases c15:t297=true
       ·subst c15
        have H1:(impl_GoodBundle.j0 k (decide ((a0_9.size:Int) > 60)) a0_0 a0_1 a0_2 a0_3 a0_4 a0_5 a0_6 a0_7 a0_8 a0_9)=some r:=by rw[if_pos rfl] at H;exact H
        clear H
        have H:=H1
        clear H1
        have H':=Aside0.mk H
        clear H
        have hcz16_0:w3.cell? ⟨gb291,0,none⟩=some (.int .i64 a0_0):=(blk_cell BK291.out 0).trans rfl
        have hcz16_1:w3.cell? ⟨gb291,1,none⟩=some (.int .i64 a0_1):=(blk_cell BK291.out 1).trans rfl
        have hcz16_2:w3.cell? ⟨gb291,2,none⟩=some (.bool a0_2):=(blk_cell BK291.out 2).trans rfl
        have hcz16_3:w3.cell? ⟨gb291,3,none⟩=some (.int .i64 a0_3):=(blk_cell BK291.out 3).trans rfl
        have hcz16_4:w3.cell? ⟨gb291,4,none⟩=some (.int .i64 a0_4):=(blk_cell BK291.out 4).trans rfl
        have hcz16_5:w3.cell? ⟨gb291,5,none⟩=some (.int .i64 a0_5):=(blk_cell BK291.out 5).trans rfl
        have hcz16_6:w3.cell? ⟨gb291,6,none⟩=some (.int .i64 a0_6):=(blk_cell BK291.out 6).trans rfl
        have hcz16_7:w3.cell? ⟨gb291,7,none⟩=some (.int .i64 a0_7):=(blk_cell BK291.out 7).trans rfl
        have hcz16_8:w3.cell? ⟨gb291,8,none⟩=some (.int .i64 a0_8):=(blk_cell BK291.out 8).trans rfl
        have hcz16_9:w3.cell? ⟨gb291,9,none⟩=some (.string a0_9):=(blk_cell BK291.out 9).trans rfl
        have hfz16_0:=blk_frozen BK291.out 0
        have hfz16_1:=blk_frozen BK291.out 1
        have hfz16_2:=blk_frozen BK291.out 2
        have hfz16_3:=blk_frozen BK291.out 3
        have hfz16_4:=blk_frozen BK291.out 4
        have hfz16_5:=blk_frozen BK291.out 5
        have hfz16_6:=blk_frozen BK291.out 6
        have hfz16_7:=blk_frozen BK291.out 7
        have hfz16_8:=blk_frozen BK291.out 8
        have hfz16_9:=blk_frozen BK291.out 9
        go_wp2_with (first|((with_reducible refine gate_callee (f:=79) rfl ?_);refine goesA (some 5) rfl rfl Try.func79 #[.int .i64 a0_0,.int .i64 0,.int .i64 40] rfl ?_;(with_reducible refine(impl_within.calls a0_0 0 40 true _ A4.out).mono ?_);rintro e w' ⟨rfl,⟨nd,rfl⟩⟩;refine⟨_,rfl,?_⟩)|(go_at_call 79;(with_reducible refine(impl_within.calls a0_1 0 40 true _ A6.out).mono ?_);rintro e w' ⟨rfl,⟨nd,rfl⟩⟩)|(go_at_call 79;(with_reducible refine(impl_within.calls a0_3 0 1000000 true _ A8.out).mono ?_);rintro e w' ⟨rfl,⟨nd,rfl⟩⟩)|(go_at_call 79;(with_reducible refine(impl_within.calls a0_4 0 1000 true _ A10.out).mono ?_);rintro e w' ⟨rfl,⟨nd,rfl⟩⟩)|(go_at_call 79;(with_reducible refine(impl_within.calls a0_5 1 1000000 true _ A12.out).mono ?_);rintro e w' ⟨rfl,⟨nd,rfl⟩⟩)|(go_at_call 79;(with_reducible refine(impl_within.calls a0_6 0 30 true _ A14.out).mono ?_);rintro e w' ⟨rfl,⟨nd,rfl⟩⟩))
        go_meet
        case rel=>exact⟨_,(decide ((a0_9.size:Int) > 60)),(bR),H',⟨by first|omega|exact Nat.le_refl _⟩,⟨by(with_reducible repeat (first|refine blk_drewN ?_ _|refine blk_drew ?_|refine blk_alloc ?_ _));exact BK291.out⟩,⟨bS GE291.out⟩⟩
       ·replace c15:=Bool.eq_false_iff.mpr c15
        subst c15
        have H1:(impl_GoodBundle.j0 k true a0_0 a0_1 a0_2 a0_3 a0_4 a0_5 a0_6 a0_7 a0_8 a0_9)=some r:=by rw[if_neg (show ¬ (false=true) by decide)] at H;exact H
        clear H
        have H:=H1
        clear H1
        have H':=Aside0.mk H
        clear H
        have hcz17_0:w3.cell? ⟨gb291,0,none⟩=some (.int .i64 a0_0):=(blk_cell BK291.out 0).trans rfl
        have hcz17_1:w3.cell? ⟨gb291,1,none⟩=some (.int .i64 a0_1):=(blk_cell BK291.out 1).trans rfl
        have hcz17_2:w3.cell? ⟨gb291,2,none⟩=some (.bool a0_2):=(blk_cell BK291.out 2).trans rfl
        have hcz17_3:w3.cell? ⟨gb291,3,none⟩=some (.int .i64 a0_3):=(blk_cell BK291.out 3).trans rfl
        have hcz17_4:w3.cell? ⟨gb291,4,none⟩=some (.int .i64 a0_4):=(blk_cell BK291.out 4).trans rfl
        have hcz17_5:w3.cell? ⟨gb291,5,none⟩=some (.int .i64 a0_5):=(blk_cell BK291.out 5).trans rfl
        have hcz17_6:w3.cell? ⟨gb291,6,none⟩=some (.int .i64 a0_6):=(blk_cell BK291.out 6).trans rfl
        have hcz17_7:w3.cell? ⟨gb291,7,none⟩=some (.int .i64 a0_7):=(blk_cell BK291.out 7).trans rfl
        have hcz17_8:w3.cell? ⟨gb291,8,none⟩=some (.int .i64 a0_8):=(blk_cell BK291.out 8).trans rfl
        have hcz17_9:w3.cell? ⟨gb291,9,none⟩=some (.string a0_9):=(blk_cell BK291.out 9).trans rfl
        have hfz17_0:=blk_frozen BK291.out 0
        have hfz17_1:=blk_frozen BK291.out 1
        have hfz17_2:=blk_frozen BK291.out 2
        have hfz17_3:=blk_frozen BK291.out 3
        have hfz17_4:=blk_frozen BK291.out 4
        have hfz17_5:=blk_frozen BK291.out 5
        have hfz17_6:=blk_frozen BK291.out 6
        have hfz17_7:=blk_frozen BK291.out 7
        have hfz17_8:=blk_frozen BK291.out 8
        have hfz17_9:=blk_frozen BK291.out 9
        go_wp2_with (first|((with_reducible refine gate_callee (f:=79) rfl ?_);refine goesA (some 5) rfl rfl Try.func79 #[.int .i64 a0_0,.int .i64 0,.int .i64 40] rfl ?_;(with_reducible refine(impl_within.calls a0_0 0 40 true _ A4.out).mono ?_);rintro e w' ⟨rfl,⟨nd,rfl⟩⟩;refine⟨_,rfl,?_⟩)|(go_at_call 79;(with_reducible refine(impl_within.calls a0_1 0 40 true _ A6.out).mono ?_);rintro e w' ⟨rfl,⟨nd,rfl⟩⟩)|(go_at_call 79;(with_reducible refine(impl_within.calls a0_3 0 1000000 true _ A8.out).mono ?_);rintro e w' ⟨rfl,⟨nd,rfl⟩⟩)|(go_at_call 79;(with_reducible refine(impl_within.calls a0_4 0 1000 true _ A10.out).mono ?_);rintro e w' ⟨rfl,⟨nd,rfl⟩⟩)|(go_at_call 79;(with_reducible refine(impl_within.calls a0_5 1 1000000 true _ A12.out).mono ?_);rintro e w' ⟨rfl,⟨nd,rfl⟩⟩)|(go_at_call 79;(with_reducible refine(impl_within.calls a0_6 0 30 false _ A14.out).mono ?_);rintro e w' ⟨rfl,⟨nd,rfl⟩⟩))
        go_meet
        case rel=>exact⟨_,(true),(bR),H',⟨by first|omega|exact Nat.le_refl _⟩,⟨by(with_reducible repeat (first|refine blk_drewN ?_ _|refine blk_drew ?_|refine blk_alloc ?_ _));exact BK291.out⟩,⟨bS GE291.out⟩⟩
      ·replace c13:=Bool.eq_false_iff.mpr c13
       subst c13
       have H1:(impl_GoodBundle.j0 k true a0_0 a0_1 a0_2 a0_3 a0_4 a0_5 a0_6 a0_7 a0_8 a0_9)=some r:=by rw[if_neg (show ¬ (false=true) by decide)] at H;exact H
       clear H
       have H:=H1
       clear H1
       have H':=Aside0.mk H
       clear H
       have hcz18_0:w3.cell? ⟨gb291,0,none⟩=some (.int .i64 a0_0):=(blk_cell BK291.out 0).trans rfl
       have hcz18_1:w3.cell? ⟨gb291,1,none⟩=some (.int .i64 a0_1):=(blk_cell BK291.out 1).trans rfl
       have hcz18_2:w3.cell? ⟨gb291,2,none⟩=some (.bool a0_2):=(blk_cell BK291.out 2).trans rfl
       have hcz18_3:w3.cell? ⟨gb291,3,none⟩=some (.int .i64 a0_3):=(blk_cell BK291.out 3).trans rfl
       have hcz18_4:w3.cell? ⟨gb291,4,none⟩=some (.int .i64 a0_4):=(blk_cell BK291.out 4).trans rfl
       have hcz18_5:w3.cell? ⟨gb291,5,none⟩=some (.int .i64 a0_5):=(blk_cell BK291.out 5).trans rfl
       have hcz18_6:w3.cell? ⟨gb291,6,none⟩=some (.int .i64 a0_6):=(blk_cell BK291.out 6).trans rfl
       have hcz18_7:w3.cell? ⟨gb291,7,none⟩=some (.int .i64 a0_7):=(blk_cell BK291.out 7).trans rfl
       have hcz18_8:w3.cell? ⟨gb291,8,none⟩=some (.int .i64 a0_8):=(blk_cell BK291.out 8).trans rfl
       have hcz18_9:w3.cell? ⟨gb291,9,none⟩=some (.string a0_9):=(blk_cell BK291.out 9).trans rfl
       have hfz18_0:=blk_frozen BK291.out 0
       have hfz18_1:=blk_frozen BK291.out 1
       have hfz18_2:=blk_frozen BK291.out 2
       have hfz18_3:=blk_frozen BK291.out 3
       have hfz18_4:=blk_frozen BK291.out 4
       have hfz18_5:=blk_frozen BK291.out 5
       have hfz18_6:=blk_frozen BK291.out 6
       have hfz18_7:=blk_frozen BK291.out 7
       have hfz18_8:=blk_frozen BK291.out 8
       have hfz18_9:=blk_frozen BK291.out 9
       go_wp2_with (first|((with_reducible refine gate_callee (f:=79) rfl ?_);refine goesA (some 5) rfl rfl Try.func79 #[.int .i64 a0_0,.int .i64 0,.int .i64 40] rfl ?_;(with_reducible refine(impl_within.calls a0_0 0 40 true _ A4.out).mono ?_);rintro e w' ⟨rfl,⟨nd,rfl⟩⟩;refine⟨_,rfl,?_⟩)|(go_at_call 79;(with_reducible refine(impl_within.calls a0_1 0 40 true _ A6.out).mono ?_);rintro e w' ⟨rfl,⟨nd,rfl⟩⟩)|(go_at_call 79;(with_reducible refine(impl_within.calls a0_3 0 1000000 true _ A8.out).mono ?_);rintro e w' ⟨rfl,⟨nd,rfl⟩⟩)|(go_at_call 79;(with_reducible refine(impl_within.calls a0_4 0 1000 true _ A10.out).mono ?_);rintro e w' ⟨rfl,⟨nd,rfl⟩⟩)|(go_at_call 79;(with_reducible refine(impl_within.calls a0_5 1 1000000 false _ A12.out).mono ?_);rintro e w' ⟨rfl,⟨nd,rfl⟩⟩))
       go_meet
       case rel=>exact⟨_,(true),(bR),H',⟨by first|omega|exact Nat.le_refl _⟩,⟨by(with_reducible repeat (first|refine blk_drewN ?_ _|refine blk_drew ?_|refine blk_alloc ?_ _));exact BK291.out⟩,⟨bS GE291.out⟩⟩
     ·replace c11:=Bool.eq_false_iff.mpr c11
      subst c11
      have H1:(impl_GoodBundle.j0 k true a0_0 a0_1 a0_2 a0_3 a0_4 a0_5 a0_6 a0_7 a0_8 a0_9)=some r:=by rw[if_neg (show ¬ (false=true) by decide)] at H;exact H
      clear H
      have H:=H1
      clear H1
      have H':=Aside0.mk H
      clear H
      have hcz19_0:w3.cell? ⟨gb291,0,none⟩=some (.int .i64 a0_0):=(blk_cell BK291.out 0).trans rfl
      have hcz19_1:w3.cell? ⟨gb291,1,none⟩=some (.int .i64 a0_1):=(blk_cell BK291.out 1).trans rfl
      have hcz19_2:w3.cell? ⟨gb291,2,none⟩=some (.bool a0_2):=(blk_cell BK291.out 2).trans rfl
      have hcz19_3:w3.cell? ⟨gb291,3,none⟩=some (.int .i64 a0_3):=(blk_cell BK291.out 3).trans rfl
      have hcz19_4:w3.cell? ⟨gb291,4,none⟩=some (.int .i64 a0_4):=(blk_cell BK291.out 4).trans rfl
      have hcz19_5:w3.cell? ⟨gb291,5,none⟩=some (.int .i64 a0_5):=(blk_cell BK291.out 5).trans rfl
      have hcz19_6:w3.cell? ⟨gb291,6,none⟩=some (.int .i64 a0_6):=(blk_cell BK291.out 6).trans rfl
      have hcz19_7:w3.cell? ⟨gb291,7,none⟩=some (.int .i64 a0_7):=(blk_cell BK291.out 7).trans rfl
      have hcz19_8:w3.cell? ⟨gb291,8,none⟩=some (.int .i64 a0_8):=(blk_cell BK291.out 8).trans rfl
      have hcz19_9:w3.cell? ⟨gb291,9,none⟩=some (.string a0_9):=(blk_cell BK291.out 9).trans rfl
      have hfz19_0:=blk_frozen BK291.out 0
      have hfz19_1:=blk_frozen BK291.out 1
      have hfz19_2:=blk_frozen BK291.out 2
      have hfz19_3:=blk_frozen BK291.out 3
      have hfz19_4:=blk_frozen BK291.out 4
      have hfz19_5:=blk_frozen BK291.out 5
      have hfz19_6:=blk_frozen BK291.out 6
      have hfz19_7:=blk_frozen BK291.out 7
      have hfz19_8:=blk_frozen BK291.out 8
      have hfz19_9:=blk_frozen BK291.out 9
      go_wp2_with (first|((with_reducible refine gate_callee (f:=79) rfl ?_);refine goesA (some 5) rfl rfl Try.func79 #[.int .i64 a0_0,.int .i64 0,.int .i64 40] rfl ?_;(with_reducible refine(impl_within.calls a0_0 0 40 true _ A4.out).mono ?_);rintro e w' ⟨rfl,⟨nd,rfl⟩⟩;refine⟨_,rfl,?_⟩)|(go_at_call 79;(with_reducible refine(impl_within.calls a0_1 0 40 true _ A6.out).mono ?_);rintro e w' ⟨rfl,⟨nd,rfl⟩⟩)|(go_at_call 79;(with_reducible refine(impl_within.calls a0_3 0 1000000 true _ A8.out).mono ?_);rintro e w' ⟨rfl,⟨nd,rfl⟩⟩)|(go_at_call 79;(with_reducible refine(impl_within.calls a0_4 0 1000 false _ A10.out).mono ?_);rintro e w' ⟨rfl,⟨nd,rfl⟩⟩))
      go_meet
      case rel=>exact⟨_,(true),(bR),H',⟨by first|omega|exact Nat.le_refl _⟩,⟨by(with_reducible repeat (first|refine blk_drewN ?_ _|refine blk_drew ?_|refine blk_alloc ?_ _));exact BK291.out⟩,⟨bS GE291.out⟩⟩
    ·replace c9:=Bool.eq_false_iff.mpr c9
     subst c9
     have H1:(impl_GoodBundle.j0 k true a0_0 a0_1 a0_2 a0_3 a0_4 a0_5 a0_6 a0_7 a0_8 a0_9)=some r:=by rw[if_neg (show ¬ (false=true) by decide)] at H;exact H
     clear H
     have H:=H1
     clear H1
     have H':=Aside0.mk H
     clear H
     have hcz20_0:w3.cell? ⟨gb291,0,none⟩=some (.int .i64 a0_0):=(blk_cell BK291.out 0).trans rfl
     have hcz20_1:w3.cell? ⟨gb291,1,none⟩=some (.int .i64 a0_1):=(blk_cell BK291.out 1).trans rfl
     have hcz20_2:w3.cell? ⟨gb291,2,none⟩=some (.bool a0_2):=(blk_cell BK291.out 2).trans rfl
     have hcz20_3:w3.cell? ⟨gb291,3,none⟩=some (.int .i64 a0_3):=(blk_cell BK291.out 3).trans rfl
     have hcz20_4:w3.cell? ⟨gb291,4,none⟩=some (.int .i64 a0_4):=(blk_cell BK291.out 4).trans rfl
     have hcz20_5:w3.cell? ⟨gb291,5,none⟩=some (.int .i64 a0_5):=(blk_cell BK291.out 5).trans rfl
     have hcz20_6:w3.cell? ⟨gb291,6,none⟩=some (.int .i64 a0_6):=(blk_cell BK291.out 6).trans rfl
     have hcz20_7:w3.cell? ⟨gb291,7,none⟩=some (.int .i64 a0_7):=(blk_cell BK291.out 7).trans rfl
     have hcz20_8:w3.cell? ⟨gb291,8,none⟩=some (.int .i64 a0_8):=(blk_cell BK291.out 8).trans rfl
     have hcz20_9:w3.cell? ⟨gb291,9,none⟩=some (.string a0_9):=(blk_cell BK291.out 9).trans rfl
     have hfz20_0:=blk_frozen BK291.out 0
     have hfz20_1:=blk_frozen BK291.out 1
     have hfz20_2:=blk_frozen BK291.out 2
     have hfz20_3:=blk_frozen BK291.out 3
     have hfz20_4:=blk_frozen BK291.out 4
     have hfz20_5:=blk_frozen BK291.out 5
     have hfz20_6:=blk_frozen BK291.out 6
     have hfz20_7:=blk_frozen BK291.out 7
     have hfz20_8:=blk_frozen BK291.out 8
     have hfz20_9:=blk_frozen BK291.out 9
     go_wp2_with (first|((with_reducible refine gate_callee (f:=79) rfl ?_);refine goesA (some 5) rfl rfl Try.func79 #[.int .i64 a0_0,.int .i64 0,.int .i64 40] rfl ?_;(with_reducible refine(impl_within.calls a0_0 0 40 true _ A4.out).mono ?_);rintro e w' ⟨rfl,⟨nd,rfl⟩⟩;refine⟨_,rfl,?_⟩)|(go_at_call 79;(with_reducible refine(impl_within.calls a0_1 0 40 true _ A6.out).mono ?_);rintro e w' ⟨rfl,⟨nd,rfl⟩⟩)|(go_at_call 79;(with_reducible refine(impl_within.calls a0_3 0 1000000 false _ A8.out).mono ?_);rintro e w' ⟨rfl,⟨nd,rfl⟩⟩))
     go_meet
     case rel=>exact⟨_,(true),(bR),H',⟨by first|omega|exact Nat.le_refl _⟩,⟨by(with_reducible repeat (first|refine blk_drewN ?_ _|refine blk_drew ?_|refine blk_alloc ?_ _));exact BK291.out⟩,⟨bS GE291.out⟩⟩
   ·replace c7:=Bool.eq_false_iff.mpr c7
    subst c7
    have H1:(impl_GoodBundle.j0 k true a0_0 a0_1 a0_2 a0_3 a0_4 a0_5 a0_6 a0_7 a0_8 a0_9)=some r:=by rw[if_neg (show ¬ (false=true) by decide)] at H;exact H
    clear H
    have H:=H1
    clear H1
    have H':=Aside0.mk H
    clear H
    have hcz21_0:w3.cell? ⟨gb291,0,none⟩=some (.int .i64 a0_0):=(blk_cell BK291.out 0).trans rfl
    have hcz21_1:w3.cell? ⟨gb291,1,none⟩=some (.int .i64 a0_1):=(blk_cell BK291.out 1).trans rfl
    have hcz21_2:w3.cell? ⟨gb291,2,none⟩=some (.bool a0_2):=(blk_cell BK291.out 2).trans rfl
    have hcz21_3:w3.cell? ⟨gb291,3,none⟩=some (.int .i64 a0_3):=(blk_cell BK291.out 3).trans rfl
    have hcz21_4:w3.cell? ⟨gb291,4,none⟩=some (.int .i64 a0_4):=(blk_cell BK291.out 4).trans rfl
    have hcz21_5:w3.cell? ⟨gb291,5,none⟩=some (.int .i64 a0_5):=(blk_cell BK291.out 5).trans rfl
    have hcz21_6:w3.cell? ⟨gb291,6,none⟩=some (.int .i64 a0_6):=(blk_cell BK291.out 6).trans rfl
    have hcz21_7:w3.cell? ⟨gb291,7,none⟩=some (.int .i64 a0_7):=(blk_cell BK291.out 7).trans rfl
    have hcz21_8:w3.cell? ⟨gb291,8,none⟩=some (.int .i64 a0_8):=(blk_cell BK291.out 8).trans rfl
    have hcz21_9:w3.cell? ⟨gb291,9,none⟩=some (.string a0_9):=(blk_cell BK291.out 9).trans rfl
    have hfz21_0:=blk_frozen BK291.out 0
    have hfz21_1:=blk_frozen BK291.out 1
    have hfz21_2:=blk_frozen BK291.out 2
    have hfz21_3:=blk_frozen BK291.out 3
    have hfz21_4:=blk_frozen BK291.out 4
    have hfz21_5:=blk_frozen BK291.out 5
    have hfz21_6:=blk_frozen BK291.out 6
    have hfz21_7:=blk_frozen BK291.out 7
    have hfz21_8:=blk_frozen BK291.out 8
    have hfz21_9:=blk_frozen BK291.out 9
    go_wp2_with (first|((with_reducible refine gate_callee (f:=79) rfl ?_);refine goesA (some 5) rfl rfl Try.func79 #[.int .i64 a0_0,.int .i64 0,.int .i64 40] rfl ?_;(with_reducible refine(impl_within.calls a0_0 0 40 true _ A4.out).mono ?_);rintro e w' ⟨rfl,⟨nd,rfl⟩⟩;refine⟨_,rfl,?_⟩)|(go_at_call 79;(with_reducible refine(impl_within.calls a0_1 0 40 false _ A6.out).mono ?_);rintro e w' ⟨rfl,⟨nd,rfl⟩⟩))
    go_meet
    case rel=>exact⟨_,(true),(bR),H',⟨by first|omega|exact Nat.le_refl _⟩,⟨by(with_reducible repeat (first|refine blk_drewN ?_ _|refine blk_drew ?_|refine blk_alloc ?_ _));exact BK291.out⟩,⟨bS GE291.out⟩⟩
  ·replace c5:=Bool.eq_false_iff.mpr c5
   subst c5
   have H1:(impl_GoodBundle.j0 k true a0_0 a0_1 a0_2 a0_3 a0_4 a0_5 a0_6 a0_7 a0_8 a0_9)=some r:=by rw[if_neg (show ¬ (false=true) by decide)] at H;exact H
   clear H
   have H:=H1
   clear H1
   have H':=Aside0.mk H
   clear H
   have hcz22_0:w3.cell? ⟨gb291,0,none⟩=some (.int .i64 a0_0):=(blk_cell BK291.out 0).trans rfl
   have hcz22_1:w3.cell? ⟨gb291,1,none⟩=some (.int .i64 a0_1):=(blk_cell BK291.out 1).trans rfl
   have hcz22_2:w3.cell? ⟨gb291,2,none⟩=some (.bool a0_2):=(blk_cell BK291.out 2).trans rfl
   have hcz22_3:w3.cell? ⟨gb291,3,none⟩=some (.int .i64 a0_3):=(blk_cell BK291.out 3).trans rfl
   have hcz22_4:w3.cell? ⟨gb291,4,none⟩=some (.int .i64 a0_4):=(blk_cell BK291.out 4).trans rfl
   have hcz22_5:w3.cell? ⟨gb291,5,none⟩=some (.int .i64 a0_5):=(blk_cell BK291.out 5).trans rfl
   have hcz22_6:w3.cell? ⟨gb291,6,none⟩=some (.int .i64 a0_6):=(blk_cell BK291.out 6).trans rfl
   have hcz22_7:w3.cell? ⟨gb291,7,none⟩=some (.int .i64 a0_7):=(blk_cell BK291.out 7).trans rfl
   have hcz22_8:w3.cell? ⟨gb291,8,none⟩=some (.int .i64 a0_8):=(blk_cell BK291.out 8).trans rfl
   have hcz22_9:w3.cell? ⟨gb291,9,none⟩=some (.string a0_9):=(blk_cell BK291.out 9).trans rfl
   have hfz22_0:=blk_frozen BK291.out 0
   have hfz22_1:=blk_frozen BK291.out 1
   have hfz22_2:=blk_frozen BK291.out 2
   have hfz22_3:=blk_frozen BK291.out 3
   have hfz22_4:=blk_frozen BK291.out 4
   have hfz22_5:=blk_frozen BK291.out 5
   have hfz22_6:=blk_frozen BK291.out 6
   have hfz22_7:=blk_frozen BK291.out 7
   have hfz22_8:=blk_frozen BK291.out 8
   have hfz22_9:=blk_frozen BK291.out 9
   go_wp2_with (first|((with_reducible refine gate_callee (f:=79) rfl ?_);refine goesA (some 5) rfl rfl Try.func79 #[.int .i64 a0_0,.int .i64 0,.int .i64 40] rfl ?_;(with_reducible refine(impl_within.calls a0_0 0 40 false _ A4.out).mono ?_);rintro e w' ⟨rfl,⟨nd,rfl⟩⟩;refine⟨_,rfl,?_⟩))
   go_meet
   case rel=>exact⟨_,(true),(bR),H',⟨by first|omega|exact Nat.le_refl _⟩,⟨by(with_reducible repeat (first|refine blk_drewN ?_ _|refine blk_drew ?_|refine blk_alloc ?_ _));exact BK291.out⟩,⟨bS GE291.out⟩⟩
 case rest =>
  clear HC2
  try clear c1
  try clear p2
  try clear c5
  try clear c7
  try clear c9
  try clear c11
  try clear c13
  try clear c15
  try clear hcz16_0
  try clear hcz16_1
  try clear hcz16_2
  try clear hcz16_3
  try clear hcz16_4
  try clear hcz16_5
  try clear hcz16_6
  try clear hcz16_7
  try clear hcz16_8
  try clear hcz16_9
  try clear hcz17_0
  try clear hcz17_1
  try clear hcz17_2
  try clear hcz17_3
  try clear hcz17_4
  try clear hcz17_5
  try clear hcz17_6
  try clear hcz17_7
  try clear hcz17_8
  try clear hcz17_9
  try clear hcz18_0
  try clear hcz18_1
  try clear hcz18_2
  try clear hcz18_3
  try clear hcz18_4
  try clear hcz18_5
  try clear hcz18_6
  try clear hcz18_7
  try clear hcz18_8
  try clear hcz18_9
  try clear hcz19_0
  try clear hcz19_1
  try clear hcz19_2
  try clear hcz19_3
  try clear hcz19_4
  try clear hcz19_5
  try clear hcz19_6
  try clear hcz19_7
  try clear hcz19_8
  try clear hcz19_9
  try clear hcz20_0
  try clear hcz20_1
  try clear hcz20_2
  try clear hcz20_3
  try clear hcz20_4
  try clear hcz20_5
  try clear hcz20_6
  try clear hcz20_7
  try clear hcz20_8
  try clear hcz20_9
  try clear hcz21_0
  try clear hcz21_1
  try clear hcz21_2
  try clear hcz21_3
  try clear hcz21_4
  try clear hcz21_5
  try clear hcz21_6
  try clear hcz21_7
  try clear hcz21_8
  try clear hcz21_9
  try clear hcz22_0
  try clear hcz22_1
  try clear hcz22_2
  try clear hcz22_3
  try clear hcz22_4
  try clear hcz22_5
  try clear hcz22_6
  try clear hcz22_7
  try clear hcz22_8
  try clear hcz22_9
  try clear hfz16_0
  try clear hfz16_1
  try clear hfz16_2
  try clear hfz16_3
  try clear hfz16_4
  try clear hfz16_5
  try clear hfz16_6
  try clear hfz16_7
  try clear hfz16_8
  try clear hfz16_9
  try clear hfz17_0
  try clear hfz17_1
  try clear hfz17_2
  try clear hfz17_3
  try clear hfz17_4
  try clear hfz17_5
  try clear hfz17_6
  try clear hfz17_7
  try clear hfz17_8
  try clear hfz17_9
  try clear hfz18_0
  try clear hfz18_1
  try clear hfz18_2
  try clear hfz18_3
  try clear hfz18_4
  try clear hfz18_5
  try clear hfz18_6
  try clear hfz18_7
  try clear hfz18_8
  try clear hfz18_9
  try clear hfz19_0
  try clear hfz19_1
  try clear hfz19_2
  try clear hfz19_3
  try clear hfz19_4
  try clear hfz19_5
  try clear hfz19_6
  try clear hfz19_7
  try clear hfz19_8
  try clear hfz19_9
  try clear hfz20_0
  try clear hfz20_1
  try clear hfz20_2
  try clear hfz20_3
  try clear hfz20_4
  try clear hfz20_5
  try clear hfz20_6
  try clear hfz20_7
  try clear hfz20_8
  try clear hfz20_9
  try clear hfz21_0
  try clear hfz21_1
  try clear hfz21_2
  try clear hfz21_3
  try clear hfz21_4
  try clear hfz21_5
  try clear hfz21_6
  try clear hfz21_7
  try clear hfz21_8
  try clear hfz21_9
  try clear hfz22_0
  try clear hfz22_1
  try clear hfz22_2
  try clear hfz22_3
  try clear hfz22_4
  try clear hfz22_5
  try clear hfz22_6
  try clear hfz22_7
  try clear hfz22_8
  try clear hfz22_9
  obtain⟨kq,x42_1,rfl,HA,HJ1,BK291,HB⟩:=hcut
  cases kq with
  | zero=>exact absurd HA.out (by simp[impl_GoodBundle.j0])
  | succ kj1 =>
   have H:=HA.out
   clear HA
   simp only[impl_GoodBundle.j0] at H
   by_cases c23:x42_1=true
   ·subst c23
    have H1:(some false)=some r:=by rw[if_pos rfl] at H;exact H
    clear H
    have H:=H1
    clear H1
    obtain rfl:=Option.some.inj H
    go_wp2
    go_ret
    exact⟨by first|rfl|(simp[errW_none,errW_some]<;>first|rfl|exact impl_GoodBundle.isE_ _)|(simp[*,errW_none,errW_some]<;>rfl),bS GE291.out⟩
   ·replace c23:=Bool.eq_false_iff.mpr c23
    subst c23
    have H1:(if a0_8=0 then (some (a0_7 == 0)) else ((impl_within.f a0_8 1 60).bind fun t298=>(if t298=true then ((impl_within.f a0_7 0 (wrap64 (a0_8 - (a0_9.size:Int)))).bind fun t299=>(if t299=true then (some (a0_9.toList != ([]:List UInt8))) else (some false))) else (some false))))=some r:=by rw[if_neg (show ¬ (false=true) by decide)] at H;exact H
    clear H
    have H:=H1
    clear H1
    by_cases c24:a0_8=0
    ·rw[if_pos c24] at H
     have c24b0:(a0_8 == 0)=true:=beq_iff_eq.mpr c24
     have c24b1:(a0_8 != 0)=false:=bne_eq_false_iff_eq.mpr c24
     clear c24
     obtain rfl:=Option.some.inj H
     have hcz25_0:wc.cell? ⟨gb291,0,none⟩=some (.int .i64 a0_0):=(blk_cell BK291.out 0).trans rfl
     have hcz25_1:wc.cell? ⟨gb291,1,none⟩=some (.int .i64 a0_1):=(blk_cell BK291.out 1).trans rfl
     have hcz25_2:wc.cell? ⟨gb291,2,none⟩=some (.bool a0_2):=(blk_cell BK291.out 2).trans rfl
     have hcz25_3:wc.cell? ⟨gb291,3,none⟩=some (.int .i64 a0_3):=(blk_cell BK291.out 3).trans rfl
     have hcz25_4:wc.cell? ⟨gb291,4,none⟩=some (.int .i64 a0_4):=(blk_cell BK291.out 4).trans rfl
     have hcz25_5:wc.cell? ⟨gb291,5,none⟩=some (.int .i64 a0_5):=(blk_cell BK291.out 5).trans rfl
     have hcz25_6:wc.cell? ⟨gb291,6,none⟩=some (.int .i64 a0_6):=(blk_cell BK291.out 6).trans rfl
     have hcz25_7:wc.cell? ⟨gb291,7,none⟩=some (.int .i64 a0_7):=(blk_cell BK291.out 7).trans rfl
     have hcz25_8:wc.cell? ⟨gb291,8,none⟩=some (.int .i64 a0_8):=(blk_cell BK291.out 8).trans rfl
     have hcz25_9:wc.cell? ⟨gb291,9,none⟩=some (.string a0_9):=(blk_cell BK291.out 9).trans rfl
     have hfz25_0:=blk_frozen BK291.out 0
     have hfz25_1:=blk_frozen BK291.out 1
     have hfz25_2:=blk_frozen BK291.out 2
     have hfz25_3:=blk_frozen BK291.out 3
     have hfz25_4:=blk_frozen BK291.out 4
     have hfz25_5:=blk_frozen BK291.out 5
     have hfz25_6:=blk_frozen BK291.out 6
     have hfz25_7:=blk_frozen BK291.out 7
     have hfz25_8:=blk_frozen BK291.out 8
     have hfz25_9:=blk_frozen BK291.out 9
     go_wp2
     go_ret
     exact⟨by first|rfl|(simp[errW_none,errW_some]<;>first|rfl|exact impl_GoodBundle.isE_ _)|(simp[*,errW_none,errW_some]<;>rfl),bS GE291.out⟩
    ·rw[if_neg c24] at H
     have c24b0:(a0_8 == 0)=false:=beq_eq_false_iff_ne.mpr c24
     have c24b1:(a0_8 != 0)=true:=bne_iff_ne.mpr c24
     replace H:=Option.bind_eq_some_iff.mp H
     obtain⟨t298,A260,H⟩:=H
     have A26:=Aside0.mk A260
     clear A260
     by_cases c27:t298=true
     ·subst c27
      have H1:((impl_within.f a0_7 0 (wrap64 (a0_8 - (a0_9.size:Int)))).bind fun t299=>(if t299=true then (some (a0_9.toList != ([]:List UInt8))) else (some false)))=some r:=by rw[if_pos rfl] at H;exact H
      clear H
      have H:=H1
      clear H1
      replace H:=Option.bind_eq_some_iff.mp H
      obtain⟨t299,A280,H⟩:=H
      have A28:=Aside0.mk A280
      clear A280
      by_cases c29:t299=true
      ·subst c29
       have H1:(some (a0_9.toList != ([]:List UInt8)))=some r:=by rw[if_pos rfl] at H;exact H
       clear H
       have H:=H1
       clear H1
       obtain rfl:=Option.some.inj H
       have hcz30_0:wc.cell? ⟨gb291,0,none⟩=some (.int .i64 a0_0):=(blk_cell BK291.out 0).trans rfl
       have hcz30_1:wc.cell? ⟨gb291,1,none⟩=some (.int .i64 a0_1):=(blk_cell BK291.out 1).trans rfl
       have hcz30_2:wc.cell? ⟨gb291,2,none⟩=some (.bool a0_2):=(blk_cell BK291.out 2).trans rfl
       have hcz30_3:wc.cell? ⟨gb291,3,none⟩=some (.int .i64 a0_3):=(blk_cell BK291.out 3).trans rfl
       have hcz30_4:wc.cell? ⟨gb291,4,none⟩=some (.int .i64 a0_4):=(blk_cell BK291.out 4).trans rfl
       have hcz30_5:wc.cell? ⟨gb291,5,none⟩=some (.int .i64 a0_5):=(blk_cell BK291.out 5).trans rfl
       have hcz30_6:wc.cell? ⟨gb291,6,none⟩=some (.int .i64 a0_6):=(blk_cell BK291.out 6).trans rfl
       have hcz30_7:wc.cell? ⟨gb291,7,none⟩=some (.int .i64 a0_7):=(blk_cell BK291.out 7).trans rfl
       have hcz30_8:wc.cell? ⟨gb291,8,none⟩=some (.int .i64 a0_8):=(blk_cell BK291.out 8).trans rfl
       have hcz30_9:wc.cell? ⟨gb291,9,none⟩=some (.string a0_9):=(blk_cell BK291.out 9).trans rfl
       have hfz30_0:=blk_frozen BK291.out 0
       have hfz30_1:=blk_frozen BK291.out 1
       have hfz30_2:=blk_frozen BK291.out 2
       have hfz30_3:=blk_frozen BK291.out 3
       have hfz30_4:=blk_frozen BK291.out 4
       have hfz30_5:=blk_frozen BK291.out 5
       have hfz30_6:=blk_frozen BK291.out 6
       have hfz30_7:=blk_frozen BK291.out 7
       have hfz30_8:=blk_frozen BK291.out 8
       have hfz30_9:=blk_frozen BK291.out 9
       go_wp2_with (first|((with_reducible refine gate_callee (f:=79) rfl ?_);refine goesA (some 51) rfl rfl Try.func79 #[.int .i64 a0_8,.int .i64 1,.int .i64 60] rfl ?_;(with_reducible refine(impl_within.calls a0_8 1 60 true _ A26.out).mono ?_);rintro e w' ⟨rfl,⟨nd,rfl⟩⟩;refine⟨_,rfl,?_⟩)|(go_at_call 79;(with_reducible refine(impl_within.calls a0_7 0 (wrap64 (a0_8 - (a0_9.size:Int))) true _ A28.out).mono ?_);rintro e w' ⟨rfl,⟨nd,rfl⟩⟩))
       go_ret
       exact⟨by first|rfl|(simp[errW_none,errW_some]<;>first|rfl|exact impl_GoodBundle.isE_ _)|(simp[*,errW_none,errW_some]<;>rfl),bS GE291.out⟩
      ·replace c29:=Bool.eq_false_iff.mpr c29
       subst c29
       have H1:(some false)=some r:=by rw[if_neg (show ¬ (false=true) by decide)] at H;exact H
       clear H
       have H:=H1
       clear H1
       obtain rfl:=Option.some.inj H
       have hcz31_0:wc.cell? ⟨gb291,0,none⟩=some (.int .i64 a0_0):=(blk_cell BK291.out 0).trans rfl
       have hcz31_1:wc.cell? ⟨gb291,1,none⟩=some (.int .i64 a0_1):=(blk_cell BK291.out 1).trans rfl
       have hcz31_2:wc.cell? ⟨gb291,2,none⟩=some (.bool a0_2):=(blk_cell BK291.out 2).trans rfl
       have hcz31_3:wc.cell? ⟨gb291,3,none⟩=some (.int .i64 a0_3):=(blk_cell BK291.out 3).trans rfl
       have hcz31_4:wc.cell? ⟨gb291,4,none⟩=some (.int .i64 a0_4):=(blk_cell BK291.out 4).trans rfl
       have hcz31_5:wc.cell? ⟨gb291,5,none⟩=some (.int .i64 a0_5):=(blk_cell BK291.out 5).trans rfl
       have hcz31_6:wc.cell? ⟨gb291,6,none⟩=some (.int .i64 a0_6):=(blk_cell BK291.out 6).trans rfl
       have hcz31_7:wc.cell? ⟨gb291,7,none⟩=some (.int .i64 a0_7):=(blk_cell BK291.out 7).trans rfl
       have hcz31_8:wc.cell? ⟨gb291,8,none⟩=some (.int .i64 a0_8):=(blk_cell BK291.out 8).trans rfl
       have hcz31_9:wc.cell? ⟨gb291,9,none⟩=some (.string a0_9):=(blk_cell BK291.out 9).trans rfl
       have hfz31_0:=blk_frozen BK291.out 0
       have hfz31_1:=blk_frozen BK291.out 1
       have hfz31_2:=blk_frozen BK291.out 2
       have hfz31_3:=blk_frozen BK291.out 3
       have hfz31_4:=blk_frozen BK291.out 4
       have hfz31_5:=blk_frozen BK291.out 5
       have hfz31_6:=blk_frozen BK291.out 6
       have hfz31_7:=blk_frozen BK291.out 7
       have hfz31_8:=blk_frozen BK291.out 8
       have hfz31_9:=blk_frozen BK291.out 9
       go_wp2_with (first|((with_reducible refine gate_callee (f:=79) rfl ?_);refine goesA (some 51) rfl rfl Try.func79 #[.int .i64 a0_8,.int .i64 1,.int .i64 60] rfl ?_;(with_reducible refine(impl_within.calls a0_8 1 60 true _ A26.out).mono ?_);rintro e w' ⟨rfl,⟨nd,rfl⟩⟩;refine⟨_,rfl,?_⟩)|(go_at_call 79;(with_reducible refine(impl_within.calls a0_7 0 (wrap64 (a0_8 - (a0_9.size:Int))) false _ A28.out).mono ?_);rintro e w' ⟨rfl,⟨nd,rfl⟩⟩))
       go_ret
       exact⟨by first|rfl|(simp[errW_none,errW_some]<;>first|rfl|exact impl_GoodBundle.isE_ _)|(simp[*,errW_none,errW_some]<;>rfl),bS GE291.out⟩
     ·replace c27:=Bool.eq_false_iff.mpr c27
      subst c27
      have H1:(some false)=some r:=by rw[if_neg (show ¬ (false=true) by decide)] at H;exact H
      clear H
      have H:=H1
      clear H1
      obtain rfl:=Option.some.inj H
      have hcz32_0:wc.cell? ⟨gb291,0,none⟩=some (.int .i64 a0_0):=(blk_cell BK291.out 0).trans rfl
      have hcz32_1:wc.cell? ⟨gb291,1,none⟩=some (.int .i64 a0_1):=(blk_cell BK291.out 1).trans rfl
      have hcz32_2:wc.cell? ⟨gb291,2,none⟩=some (.bool a0_2):=(blk_cell BK291.out 2).trans rfl
      have hcz32_3:wc.cell? ⟨gb291,3,none⟩=some (.int .i64 a0_3):=(blk_cell BK291.out 3).trans rfl
      have hcz32_4:wc.cell? ⟨gb291,4,none⟩=some (.int .i64 a0_4):=(blk_cell BK291.out 4).trans rfl
      have hcz32_5:wc.cell? ⟨gb291,5,none⟩=some (.int .i64 a0_5):=(blk_cell BK291.out 5).trans rfl
      have hcz32_6:wc.cell? ⟨gb291,6,none⟩=some (.int .i64 a0_6):=(blk_cell BK291.out 6).trans rfl
      have hcz32_7:wc.cell? ⟨gb291,7,none⟩=some (.int .i64 a0_7):=(blk_cell BK291.out 7).trans rfl
      have hcz32_8:wc.cell? ⟨gb291,8,none⟩=some (.int .i64 a0_8):=(blk_cell BK291.out 8).trans rfl
      have hcz32_9:wc.cell? ⟨gb291,9,none⟩=some (.string a0_9):=(blk_cell BK291.out 9).trans rfl
      have hfz32_0:=blk_frozen BK291.out 0
      have hfz32_1:=blk_frozen BK291.out 1
      have hfz32_2:=blk_frozen BK291.out 2
      have hfz32_3:=blk_frozen BK291.out 3
      have hfz32_4:=blk_frozen BK291.out 4
      have hfz32_5:=blk_frozen BK291.out 5
      have hfz32_6:=blk_frozen BK291.out 6
      have hfz32_7:=blk_frozen BK291.out 7
      have hfz32_8:=blk_frozen BK291.out 8
      have hfz32_9:=blk_frozen BK291.out 9
      go_wp2_with (first|((with_reducible refine gate_callee (f:=79) rfl ?_);refine goesA (some 51) rfl rfl Try.func79 #[.int .i64 a0_8,.int .i64 1,.int .i64 60] rfl ?_;(with_reducible refine(impl_within.calls a0_8 1 60 false _ A26.out).mono ?_);rintro e w' ⟨rfl,⟨nd,rfl⟩⟩;refine⟨_,rfl,?_⟩))
      go_ret
      exact⟨by first|rfl|(simp[errW_none,errW_some]<;>first|rfl|exact impl_GoodBundle.isE_ _)|(simp[*,errW_none,errW_some]<;>rfl),bS GE291.out⟩

/-! ### impl_fits: function 121 -/
def impl_fits.f (k:Nat) (l0:List (S104)) (a1_0:Int) (a1_1:Int) (a1_2:Bool) (a1_3:Int) (a1_4:Int) (a1_5:Int) (a1_6:Int) (a1_7:Int) (a1_8:Int) (a1_9:ByteArray):Option (Bool):=(impl_GoodPlan.f k l0).bind fun t301=>(if t301=true then ((impl_GoodBundle.f k a1_0 a1_1 a1_2 a1_3 a1_4 a1_5 a1_6 a1_7 a1_8 a1_9).bind fun t302=>(if t302=true then (if a1_8=0 then ((impl_isNode.f a1_0).bind fun t303=>(if t303=true then ((impl_isWhen.f a1_3).bind fun t304=>(some t304)) else (some false))) else (some false)) else (some false))) else (some false))
theorem impl_fits.mono : ∀ a0 a1 a2 a3 a4 a5 a6 a7 a8 a9 a10 k,LeO (impl_fits.f k a0 a1 a2 a3 a4 a5 a6 a7 a8 a9 a10) (impl_fits.f (k+1) a0 a1 a2 a3 a4 a5 a6 a7 a8 a9 a10):=by
 intro a0 a1 a2 a3 a4 a5 a6 a7 a8 a9 a10 k
 unfold impl_fits.f
 repeat' first
  | (with_reducible exact impl_GoodBundle.mono _ _ _ _ _ _ _ _ _ _ _)
  | (with_reducible exact impl_GoodPlan.mono _ _)
  | (with_reducible exact LeO.refl _)
  | (with_reducible exact LeO.none _)
  | (with_reducible refine LeO.ite ?_ ?_)
  | (with_reducible refine LeO.bind ?_ (fun _ => ?_))
  | exact impl_GoodBundle.mono _ _ _ _ _ _ _ _ _ _ _
  | exact impl_GoodPlan.mono _ _
  | exact LeO.none _
  | refine LeO.ite ?_ ?_
  | refine LeO.bind ?_ (fun _ => ?_)
set_option maxHeartbeats 8000000 in
set_option maxRecDepth 100000 in
theorem impl_fits.calls (k:Nat) (A0:Option Addr) (c0:Nat) (l0:List (S104)) (a1_0:Int) (a1_1:Int) (a1_2:Bool) (a1_3:Int) (a1_4:Int) (a1_5:Int) (a1_6:Int) (a1_7:Int) (a1_8:Int) (a1_9:ByteArray) (r:Bool) (w:World) (hr0:Kd.C k104 w A0 l0.length l0) (hc0:l0.length≤c0) (h:impl_fits.f k l0 a1_0 a1_1 a1_2 a1_3 a1_4 a1_5 a1_6 a1_7 a1_8 a1_9=some r) :
  Calls Try.prog 121 #[.slice A0 l0.length c0,.agg #[.int .i64 a1_0,.int .i64 a1_1,.bool a1_2,.int .i64 a1_3,.int .i64 a1_4,.int .i64 a1_5,.int .i64 a1_6,.int .i64 a1_7,.int .i64 a1_8,.string a1_9]] w fun e w'=>e=.returned (.bool r)∧Below w.heap.size w w':=by
 have hu86:=Try.underlying86
 have HR0:=Aside0.mk hr0
 have HC0:=Aside0.mk hc0
 clear hr0 hc0
 have HB:=Aside0.mk (Below.refl w.heap.size w)
 have H:((impl_GoodPlan.f k l0).bind fun t301=>(if t301=true then ((impl_GoodBundle.f k a1_0 a1_1 a1_2 a1_3 a1_4 a1_5 a1_6 a1_7 a1_8 a1_9).bind fun t302=>(if t302=true then (if a1_8=0 then ((impl_isNode.f a1_0).bind fun t303=>(if t303=true then ((impl_isWhen.f a1_3).bind fun t304=>(some t304)) else (some false))) else (some false)) else (some false))) else (some false)))=some r:=h
 clear h
 replace H:=Option.bind_eq_some_iff.mp H
 obtain⟨t301,A30,H⟩:=H
 have A3:=Aside0.mk A30
 clear A30
 by_cases c4:t301=true
 ·subst c4
  have H1:((impl_GoodBundle.f k a1_0 a1_1 a1_2 a1_3 a1_4 a1_5 a1_6 a1_7 a1_8 a1_9).bind fun t302=>(if t302=true then (if a1_8=0 then ((impl_isNode.f a1_0).bind fun t303=>(if t303=true then ((impl_isWhen.f a1_3).bind fun t304=>(some t304)) else (some false))) else (some false)) else (some false)))=some r:=by rw[if_pos rfl] at H;exact H
  clear H
  have H:=H1
  clear H1
  replace H:=Option.bind_eq_some_iff.mp H
  obtain⟨t302,A50,H⟩:=H
  have A5:=Aside0.mk A50
  clear A50
  by_cases c6:t302=true
  ·subst c6
   have H1:(if a1_8=0 then ((impl_isNode.f a1_0).bind fun t303=>(if t303=true then ((impl_isWhen.f a1_3).bind fun t304=>(some t304)) else (some false))) else (some false))=some r:=by rw[if_pos rfl] at H;exact H
   clear H
   have H:=H1
   clear H1
   by_cases c7:a1_8=0
   ·rw[if_pos c7] at H
    have c7b0:(a1_8 == 0)=true:=beq_iff_eq.mpr c7
    have c7b1:(a1_8 != 0)=false:=bne_eq_false_iff_eq.mpr c7
    clear c7
    replace H:=Option.bind_eq_some_iff.mp H
    obtain⟨t303,A80,H⟩:=H
    have A8:=Aside0.mk A80
    clear A80
    by_cases c9:t303=true
    ·subst c9
     have H1:((impl_isWhen.f a1_3).bind fun t304=>(some t304))=some r:=by rw[if_pos rfl] at H;exact H
     clear H
     have H:=H1
     clear H1
     replace H:=Option.bind_eq_some_iff.mp H
     obtain⟨t304,A100,H⟩:=H
     have A10:=Aside0.mk A100
     clear A100
     obtain rfl:=Option.some.inj H
     go_enter Try.func121,Try.ntmps121
     go_wp2_with (first|((with_reducible refine gate_dst (N:=3) rfl ?_);refine box_event ?hg (N:=3) ?hd (cs:=#[.int .i64 a1_0,.int .i64 a1_1,.bool a1_2,.int .i64 a1_3,.int .i64 a1_4,.int .i64 a1_5,.int .i64 a1_6,.int .i64 a1_7,.int .i64 a1_8,.string a1_9]) (t:=86) ?hr ?_;(case hd=>rfl);(case hg=>rfl);(case hr=>first|(go_simp;done)|(go_simp;rfl));intro gb300 hg w11 hbox hb;have n0_:=Aside0.mk (below_step (bB) hb);have n1_:=Aside0.mk (hbox);have n2_:=Aside0.mk ((bG:w.heap.size≤gb300));have n3_:=Aside0.mk ((bG:w.heap.size≤gb300));clear HB;have HB:=n0_;have BK300:=n1_;have GW300:=n2_;have GE300:=n3_;clear n0_ n1_ n2_ n3_;clear hb hbox hg)|((with_reducible refine gate_callee (f:=88) rfl ?_);refine goesA (some 6) rfl rfl Try.func88 #[.slice A0 l0.length c0] rfl ?_;(with_reducible refine(impl_GoodPlan.calls k _ _ l0 true _ ?side1 ?side2 A3.out).mono ?_);(case side1=>exact bC HR0.out);(case side2=>exact HC0.out);rintro e w12 ⟨rfl,hb⟩;refine⟨_,rfl,?_⟩;have n0_:=Aside0.mk (blk_below (g:=gb300) (o:=.cells #[.int .i64 a1_0,.int .i64 a1_1,.bool a1_2,.int .i64 a1_3,.int .i64 a1_4,.int .i64 a1_5,.int .i64 a1_6,.int .i64 a1_7,.int .i64 a1_8,.string a1_9] 86 (0,0)) (bL BK300.out) hb);have n1_:=Aside0.mk (below_step (bS GE300.out) hb);clear BK300 HB;have BK300:=n0_;have HB:=n1_;clear n0_ n1_;(try clear hb);(try clear hb2);(try clear hk);(try clear hi);have hcz13_0:w12.cell? ⟨gb300,0,none⟩=some (.int .i64 a1_0):=(blk_cell BK300.out 0).trans rfl;have hcz13_1:w12.cell? ⟨gb300,1,none⟩=some (.int .i64 a1_1):=(blk_cell BK300.out 1).trans rfl;have hcz13_2:w12.cell? ⟨gb300,2,none⟩=some (.bool a1_2):=(blk_cell BK300.out 2).trans rfl;have hcz13_3:w12.cell? ⟨gb300,3,none⟩=some (.int .i64 a1_3):=(blk_cell BK300.out 3).trans rfl;have hcz13_4:w12.cell? ⟨gb300,4,none⟩=some (.int .i64 a1_4):=(blk_cell BK300.out 4).trans rfl;have hcz13_5:w12.cell? ⟨gb300,5,none⟩=some (.int .i64 a1_5):=(blk_cell BK300.out 5).trans rfl;have hcz13_6:w12.cell? ⟨gb300,6,none⟩=some (.int .i64 a1_6):=(blk_cell BK300.out 6).trans rfl;have hcz13_7:w12.cell? ⟨gb300,7,none⟩=some (.int .i64 a1_7):=(blk_cell BK300.out 7).trans rfl;have hcz13_8:w12.cell? ⟨gb300,8,none⟩=some (.int .i64 a1_8):=(blk_cell BK300.out 8).trans rfl;have hcz13_9:w12.cell? ⟨gb300,9,none⟩=some (.string a1_9):=(blk_cell BK300.out 9).trans rfl;have hfz13_0:=blk_frozen BK300.out 0;have hfz13_1:=blk_frozen BK300.out 1;have hfz13_2:=blk_frozen BK300.out 2;have hfz13_3:=blk_frozen BK300.out 3;have hfz13_4:=blk_frozen BK300.out 4;have hfz13_5:=blk_frozen BK300.out 5;have hfz13_6:=blk_frozen BK300.out 6;have hfz13_7:=blk_frozen BK300.out 7;have hfz13_8:=blk_frozen BK300.out 8;have hfz13_9:=blk_frozen BK300.out 9)|(go_at_call 159;(with_reducible refine(impl_GoodBundle.calls k a1_0 a1_1 a1_2 a1_3 a1_4 a1_5 a1_6 a1_7 a1_8 a1_9 true _ A5.out).mono ?_);rintro e w14 ⟨rfl,hb⟩;have n0_:=Aside0.mk (blk_below (g:=gb300) (o:=.cells #[.int .i64 a1_0,.int .i64 a1_1,.bool a1_2,.int .i64 a1_3,.int .i64 a1_4,.int .i64 a1_5,.int .i64 a1_6,.int .i64 a1_7,.int .i64 a1_8,.string a1_9] 86 (0,0)) (bL BK300.out) hb);have n1_:=Aside0.mk (below_step (bS GE300.out) hb);clear BK300 HB;have BK300:=n0_;have HB:=n1_;clear n0_ n1_;(try clear hb);(try clear hb2);(try clear hk);(try clear hi);have hcz15_0:w14.cell? ⟨gb300,0,none⟩=some (.int .i64 a1_0):=(blk_cell BK300.out 0).trans rfl;have hcz15_1:w14.cell? ⟨gb300,1,none⟩=some (.int .i64 a1_1):=(blk_cell BK300.out 1).trans rfl;have hcz15_2:w14.cell? ⟨gb300,2,none⟩=some (.bool a1_2):=(blk_cell BK300.out 2).trans rfl;have hcz15_3:w14.cell? ⟨gb300,3,none⟩=some (.int .i64 a1_3):=(blk_cell BK300.out 3).trans rfl;have hcz15_4:w14.cell? ⟨gb300,4,none⟩=some (.int .i64 a1_4):=(blk_cell BK300.out 4).trans rfl;have hcz15_5:w14.cell? ⟨gb300,5,none⟩=some (.int .i64 a1_5):=(blk_cell BK300.out 5).trans rfl;have hcz15_6:w14.cell? ⟨gb300,6,none⟩=some (.int .i64 a1_6):=(blk_cell BK300.out 6).trans rfl;have hcz15_7:w14.cell? ⟨gb300,7,none⟩=some (.int .i64 a1_7):=(blk_cell BK300.out 7).trans rfl;have hcz15_8:w14.cell? ⟨gb300,8,none⟩=some (.int .i64 a1_8):=(blk_cell BK300.out 8).trans rfl;have hcz15_9:w14.cell? ⟨gb300,9,none⟩=some (.string a1_9):=(blk_cell BK300.out 9).trans rfl;have hfz15_0:=blk_frozen BK300.out 0;have hfz15_1:=blk_frozen BK300.out 1;have hfz15_2:=blk_frozen BK300.out 2;have hfz15_3:=blk_frozen BK300.out 3;have hfz15_4:=blk_frozen BK300.out 4;have hfz15_5:=blk_frozen BK300.out 5;have hfz15_6:=blk_frozen BK300.out 6;have hfz15_7:=blk_frozen BK300.out 7;have hfz15_8:=blk_frozen BK300.out 8;have hfz15_9:=blk_frozen BK300.out 9)|(go_at_call 89;(with_reducible refine(impl_isNode.calls a1_0 true _ A8.out).mono ?_);rintro e w' ⟨rfl,⟨nd,rfl⟩⟩)|(go_at_call 90;(with_reducible refine(impl_isWhen.calls a1_3 t304 _ A10.out).mono ?_);rintro e w' ⟨rfl,⟨nd,rfl⟩⟩))
     go_ret
     exact⟨bE,bS GE300.out⟩
    ·replace c9:=Bool.eq_false_iff.mpr c9
     subst c9
     have H1:(some false)=some r:=by rw[if_neg (show ¬ (false=true) by decide)] at H;exact H
     clear H
     have H:=H1
     clear H1
     obtain rfl:=Option.some.inj H
     go_enter Try.func121,Try.ntmps121
     go_wp2_with (first|((with_reducible refine gate_dst (N:=3) rfl ?_);refine box_event ?hg (N:=3) ?hd (cs:=#[.int .i64 a1_0,.int .i64 a1_1,.bool a1_2,.int .i64 a1_3,.int .i64 a1_4,.int .i64 a1_5,.int .i64 a1_6,.int .i64 a1_7,.int .i64 a1_8,.string a1_9]) (t:=86) ?hr ?_;(case hd=>rfl);(case hg=>rfl);(case hr=>first|(go_simp;done)|(go_simp;rfl));intro gb300 hg w16 hbox hb;have n0_:=Aside0.mk (below_step (bB) hb);have n1_:=Aside0.mk (hbox);have n2_:=Aside0.mk ((bG:w.heap.size≤gb300));have n3_:=Aside0.mk ((bG:w.heap.size≤gb300));clear HB;have HB:=n0_;have BK300:=n1_;have GW300:=n2_;have GE300:=n3_;clear n0_ n1_ n2_ n3_;clear hb hbox hg)|((with_reducible refine gate_callee (f:=88) rfl ?_);refine goesA (some 6) rfl rfl Try.func88 #[.slice A0 l0.length c0] rfl ?_;(with_reducible refine(impl_GoodPlan.calls k _ _ l0 true _ ?side1 ?side2 A3.out).mono ?_);(case side1=>exact bC HR0.out);(case side2=>exact HC0.out);rintro e w17 ⟨rfl,hb⟩;refine⟨_,rfl,?_⟩;have n0_:=Aside0.mk (blk_below (g:=gb300) (o:=.cells #[.int .i64 a1_0,.int .i64 a1_1,.bool a1_2,.int .i64 a1_3,.int .i64 a1_4,.int .i64 a1_5,.int .i64 a1_6,.int .i64 a1_7,.int .i64 a1_8,.string a1_9] 86 (0,0)) (bL BK300.out) hb);have n1_:=Aside0.mk (below_step (bS GE300.out) hb);clear BK300 HB;have BK300:=n0_;have HB:=n1_;clear n0_ n1_;(try clear hb);(try clear hb2);(try clear hk);(try clear hi);have hcz18_0:w17.cell? ⟨gb300,0,none⟩=some (.int .i64 a1_0):=(blk_cell BK300.out 0).trans rfl;have hcz18_1:w17.cell? ⟨gb300,1,none⟩=some (.int .i64 a1_1):=(blk_cell BK300.out 1).trans rfl;have hcz18_2:w17.cell? ⟨gb300,2,none⟩=some (.bool a1_2):=(blk_cell BK300.out 2).trans rfl;have hcz18_3:w17.cell? ⟨gb300,3,none⟩=some (.int .i64 a1_3):=(blk_cell BK300.out 3).trans rfl;have hcz18_4:w17.cell? ⟨gb300,4,none⟩=some (.int .i64 a1_4):=(blk_cell BK300.out 4).trans rfl;have hcz18_5:w17.cell? ⟨gb300,5,none⟩=some (.int .i64 a1_5):=(blk_cell BK300.out 5).trans rfl;have hcz18_6:w17.cell? ⟨gb300,6,none⟩=some (.int .i64 a1_6):=(blk_cell BK300.out 6).trans rfl;have hcz18_7:w17.cell? ⟨gb300,7,none⟩=some (.int .i64 a1_7):=(blk_cell BK300.out 7).trans rfl;have hcz18_8:w17.cell? ⟨gb300,8,none⟩=some (.int .i64 a1_8):=(blk_cell BK300.out 8).trans rfl;have hcz18_9:w17.cell? ⟨gb300,9,none⟩=some (.string a1_9):=(blk_cell BK300.out 9).trans rfl;have hfz18_0:=blk_frozen BK300.out 0;have hfz18_1:=blk_frozen BK300.out 1;have hfz18_2:=blk_frozen BK300.out 2;have hfz18_3:=blk_frozen BK300.out 3;have hfz18_4:=blk_frozen BK300.out 4;have hfz18_5:=blk_frozen BK300.out 5;have hfz18_6:=blk_frozen BK300.out 6;have hfz18_7:=blk_frozen BK300.out 7;have hfz18_8:=blk_frozen BK300.out 8;have hfz18_9:=blk_frozen BK300.out 9)|(go_at_call 159;(with_reducible refine(impl_GoodBundle.calls k a1_0 a1_1 a1_2 a1_3 a1_4 a1_5 a1_6 a1_7 a1_8 a1_9 true _ A5.out).mono ?_);rintro e w19 ⟨rfl,hb⟩;have n0_:=Aside0.mk (blk_below (g:=gb300) (o:=.cells #[.int .i64 a1_0,.int .i64 a1_1,.bool a1_2,.int .i64 a1_3,.int .i64 a1_4,.int .i64 a1_5,.int .i64 a1_6,.int .i64 a1_7,.int .i64 a1_8,.string a1_9] 86 (0,0)) (bL BK300.out) hb);have n1_:=Aside0.mk (below_step (bS GE300.out) hb);clear BK300 HB;have BK300:=n0_;have HB:=n1_;clear n0_ n1_;(try clear hb);(try clear hb2);(try clear hk);(try clear hi);have hcz20_0:w19.cell? ⟨gb300,0,none⟩=some (.int .i64 a1_0):=(blk_cell BK300.out 0).trans rfl;have hcz20_1:w19.cell? ⟨gb300,1,none⟩=some (.int .i64 a1_1):=(blk_cell BK300.out 1).trans rfl;have hcz20_2:w19.cell? ⟨gb300,2,none⟩=some (.bool a1_2):=(blk_cell BK300.out 2).trans rfl;have hcz20_3:w19.cell? ⟨gb300,3,none⟩=some (.int .i64 a1_3):=(blk_cell BK300.out 3).trans rfl;have hcz20_4:w19.cell? ⟨gb300,4,none⟩=some (.int .i64 a1_4):=(blk_cell BK300.out 4).trans rfl;have hcz20_5:w19.cell? ⟨gb300,5,none⟩=some (.int .i64 a1_5):=(blk_cell BK300.out 5).trans rfl;have hcz20_6:w19.cell? ⟨gb300,6,none⟩=some (.int .i64 a1_6):=(blk_cell BK300.out 6).trans rfl;have hcz20_7:w19.cell? ⟨gb300,7,none⟩=some (.int .i64 a1_7):=(blk_cell BK300.out 7).trans rfl;have hcz20_8:w19.cell? ⟨gb300,8,none⟩=some (.int .i64 a1_8):=(blk_cell BK300.out 8).trans rfl;have hcz20_9:w19.cell? ⟨gb300,9,none⟩=some (.string a1_9):=(blk_cell BK300.out 9).trans rfl;have hfz20_0:=blk_frozen BK300.out 0;have hfz20_1:=blk_frozen BK300.out 1;have hfz20_2:=blk_frozen BK300.out 2;have hfz20_3:=blk_frozen BK300.out 3;have hfz20_4:=blk_frozen BK300.out 4;have hfz20_5:=blk_frozen BK300.out 5;have hfz20_6:=blk_frozen BK300.out 6;have hfz20_7:=blk_frozen BK300.out 7;have hfz20_8:=blk_frozen BK300.out 8;have hfz20_9:=blk_frozen BK300.out 9)|(go_at_call 89;(with_reducible refine(impl_isNode.calls a1_0 false _ A8.out).mono ?_);rintro e w' ⟨rfl,⟨nd,rfl⟩⟩))
     go_ret
     exact⟨bE,bS GE300.out⟩
   ·rw[if_neg c7] at H
    have c7b0:(a1_8 == 0)=false:=beq_eq_false_iff_ne.mpr c7
    have c7b1:(a1_8 != 0)=true:=bne_iff_ne.mpr c7
    obtain rfl:=Option.some.inj H
    go_enter Try.func121,Try.ntmps121
    go_wp2_with (first|((with_reducible refine gate_dst (N:=3) rfl ?_);refine box_event ?hg (N:=3) ?hd (cs:=#[.int .i64 a1_0,.int .i64 a1_1,.bool a1_2,.int .i64 a1_3,.int .i64 a1_4,.int .i64 a1_5,.int .i64 a1_6,.int .i64 a1_7,.int .i64 a1_8,.string a1_9]) (t:=86) ?hr ?_;(case hd=>rfl);(case hg=>rfl);(case hr=>first|(go_simp;done)|(go_simp;rfl));intro gb300 hg w21 hbox hb;have n0_:=Aside0.mk (below_step (bB) hb);have n1_:=Aside0.mk (hbox);have n2_:=Aside0.mk ((bG:w.heap.size≤gb300));have n3_:=Aside0.mk ((bG:w.heap.size≤gb300));clear HB;have HB:=n0_;have BK300:=n1_;have GW300:=n2_;have GE300:=n3_;clear n0_ n1_ n2_ n3_;clear hb hbox hg)|((with_reducible refine gate_callee (f:=88) rfl ?_);refine goesA (some 6) rfl rfl Try.func88 #[.slice A0 l0.length c0] rfl ?_;(with_reducible refine(impl_GoodPlan.calls k _ _ l0 true _ ?side1 ?side2 A3.out).mono ?_);(case side1=>exact bC HR0.out);(case side2=>exact HC0.out);rintro e w22 ⟨rfl,hb⟩;refine⟨_,rfl,?_⟩;have n0_:=Aside0.mk (blk_below (g:=gb300) (o:=.cells #[.int .i64 a1_0,.int .i64 a1_1,.bool a1_2,.int .i64 a1_3,.int .i64 a1_4,.int .i64 a1_5,.int .i64 a1_6,.int .i64 a1_7,.int .i64 a1_8,.string a1_9] 86 (0,0)) (bL BK300.out) hb);have n1_:=Aside0.mk (below_step (bS GE300.out) hb);clear BK300 HB;have BK300:=n0_;have HB:=n1_;clear n0_ n1_;(try clear hb);(try clear hb2);(try clear hk);(try clear hi);have hcz23_0:w22.cell? ⟨gb300,0,none⟩=some (.int .i64 a1_0):=(blk_cell BK300.out 0).trans rfl;have hcz23_1:w22.cell? ⟨gb300,1,none⟩=some (.int .i64 a1_1):=(blk_cell BK300.out 1).trans rfl;have hcz23_2:w22.cell? ⟨gb300,2,none⟩=some (.bool a1_2):=(blk_cell BK300.out 2).trans rfl;have hcz23_3:w22.cell? ⟨gb300,3,none⟩=some (.int .i64 a1_3):=(blk_cell BK300.out 3).trans rfl;have hcz23_4:w22.cell? ⟨gb300,4,none⟩=some (.int .i64 a1_4):=(blk_cell BK300.out 4).trans rfl;have hcz23_5:w22.cell? ⟨gb300,5,none⟩=some (.int .i64 a1_5):=(blk_cell BK300.out 5).trans rfl;have hcz23_6:w22.cell? ⟨gb300,6,none⟩=some (.int .i64 a1_6):=(blk_cell BK300.out 6).trans rfl;have hcz23_7:w22.cell? ⟨gb300,7,none⟩=some (.int .i64 a1_7):=(blk_cell BK300.out 7).trans rfl;have hcz23_8:w22.cell? ⟨gb300,8,none⟩=some (.int .i64 a1_8):=(blk_cell BK300.out 8).trans rfl;have hcz23_9:w22.cell? ⟨gb300,9,none⟩=some (.string a1_9):=(blk_cell BK300.out 9).trans rfl;have hfz23_0:=blk_frozen BK300.out 0;have hfz23_1:=blk_frozen BK300.out 1;have hfz23_2:=blk_frozen BK300.out 2;have hfz23_3:=blk_frozen BK300.out 3;have hfz23_4:=blk_frozen BK300.out 4;have hfz23_5:=blk_frozen BK300.out 5;have hfz23_6:=blk_frozen BK300.out 6;have hfz23_7:=blk_frozen BK300.out 7;have hfz23_8:=blk_frozen BK300.out 8;have hfz23_9:=blk_frozen BK300.out 9)|(go_at_call 159;(with_reducible refine(impl_GoodBundle.calls k a1_0 a1_1 a1_2 a1_3 a1_4 a1_5 a1_6 a1_7 a1_8 a1_9 true _ A5.out).mono ?_);rintro e w24 ⟨rfl,hb⟩;have n0_:=Aside0.mk (blk_below (g:=gb300) (o:=.cells #[.int .i64 a1_0,.int .i64 a1_1,.bool a1_2,.int .i64 a1_3,.int .i64 a1_4,.int .i64 a1_5,.int .i64 a1_6,.int .i64 a1_7,.int .i64 a1_8,.string a1_9] 86 (0,0)) (bL BK300.out) hb);have n1_:=Aside0.mk (below_step (bS GE300.out) hb);clear BK300 HB;have BK300:=n0_;have HB:=n1_;clear n0_ n1_;(try clear hb);(try clear hb2);(try clear hk);(try clear hi);have hcz25_0:w24.cell? ⟨gb300,0,none⟩=some (.int .i64 a1_0):=(blk_cell BK300.out 0).trans rfl;have hcz25_1:w24.cell? ⟨gb300,1,none⟩=some (.int .i64 a1_1):=(blk_cell BK300.out 1).trans rfl;have hcz25_2:w24.cell? ⟨gb300,2,none⟩=some (.bool a1_2):=(blk_cell BK300.out 2).trans rfl;have hcz25_3:w24.cell? ⟨gb300,3,none⟩=some (.int .i64 a1_3):=(blk_cell BK300.out 3).trans rfl;have hcz25_4:w24.cell? ⟨gb300,4,none⟩=some (.int .i64 a1_4):=(blk_cell BK300.out 4).trans rfl;have hcz25_5:w24.cell? ⟨gb300,5,none⟩=some (.int .i64 a1_5):=(blk_cell BK300.out 5).trans rfl;have hcz25_6:w24.cell? ⟨gb300,6,none⟩=some (.int .i64 a1_6):=(blk_cell BK300.out 6).trans rfl;have hcz25_7:w24.cell? ⟨gb300,7,none⟩=some (.int .i64 a1_7):=(blk_cell BK300.out 7).trans rfl;have hcz25_8:w24.cell? ⟨gb300,8,none⟩=some (.int .i64 a1_8):=(blk_cell BK300.out 8).trans rfl;have hcz25_9:w24.cell? ⟨gb300,9,none⟩=some (.string a1_9):=(blk_cell BK300.out 9).trans rfl;have hfz25_0:=blk_frozen BK300.out 0;have hfz25_1:=blk_frozen BK300.out 1;have hfz25_2:=blk_frozen BK300.out 2;have hfz25_3:=blk_frozen BK300.out 3;have hfz25_4:=blk_frozen BK300.out 4;have hfz25_5:=blk_frozen BK300.out 5;have hfz25_6:=blk_frozen BK300.out 6;have hfz25_7:=blk_frozen BK300.out 7;have hfz25_8:=blk_frozen BK300.out 8;have hfz25_9:=blk_frozen BK300.out 9))
    go_ret
    exact⟨bE,bS GE300.out⟩
  ·replace c6:=Bool.eq_false_iff.mpr c6
   subst c6
   have H1:(some false)=some r:=by rw[if_neg (show ¬ (false=true) by decide)] at H;exact H
   clear H
   have H:=H1
   clear H1
   obtain rfl:=Option.some.inj H
   go_enter Try.func121,Try.ntmps121
   go_wp2_with (first|((with_reducible refine gate_dst (N:=3) rfl ?_);refine box_event ?hg (N:=3) ?hd (cs:=#[.int .i64 a1_0,.int .i64 a1_1,.bool a1_2,.int .i64 a1_3,.int .i64 a1_4,.int .i64 a1_5,.int .i64 a1_6,.int .i64 a1_7,.int .i64 a1_8,.string a1_9]) (t:=86) ?hr ?_;(case hd=>rfl);(case hg=>rfl);(case hr=>first|(go_simp;done)|(go_simp;rfl));intro gb300 hg w26 hbox hb;have n0_:=Aside0.mk (below_step (bB) hb);have n1_:=Aside0.mk (hbox);have n2_:=Aside0.mk ((bG:w.heap.size≤gb300));have n3_:=Aside0.mk ((bG:w.heap.size≤gb300));clear HB;have HB:=n0_;have BK300:=n1_;have GW300:=n2_;have GE300:=n3_;clear n0_ n1_ n2_ n3_;clear hb hbox hg)|((with_reducible refine gate_callee (f:=88) rfl ?_);refine goesA (some 6) rfl rfl Try.func88 #[.slice A0 l0.length c0] rfl ?_;(with_reducible refine(impl_GoodPlan.calls k _ _ l0 true _ ?side1 ?side2 A3.out).mono ?_);(case side1=>exact bC HR0.out);(case side2=>exact HC0.out);rintro e w27 ⟨rfl,hb⟩;refine⟨_,rfl,?_⟩;have n0_:=Aside0.mk (blk_below (g:=gb300) (o:=.cells #[.int .i64 a1_0,.int .i64 a1_1,.bool a1_2,.int .i64 a1_3,.int .i64 a1_4,.int .i64 a1_5,.int .i64 a1_6,.int .i64 a1_7,.int .i64 a1_8,.string a1_9] 86 (0,0)) (bL BK300.out) hb);have n1_:=Aside0.mk (below_step (bS GE300.out) hb);clear BK300 HB;have BK300:=n0_;have HB:=n1_;clear n0_ n1_;(try clear hb);(try clear hb2);(try clear hk);(try clear hi);have hcz28_0:w27.cell? ⟨gb300,0,none⟩=some (.int .i64 a1_0):=(blk_cell BK300.out 0).trans rfl;have hcz28_1:w27.cell? ⟨gb300,1,none⟩=some (.int .i64 a1_1):=(blk_cell BK300.out 1).trans rfl;have hcz28_2:w27.cell? ⟨gb300,2,none⟩=some (.bool a1_2):=(blk_cell BK300.out 2).trans rfl;have hcz28_3:w27.cell? ⟨gb300,3,none⟩=some (.int .i64 a1_3):=(blk_cell BK300.out 3).trans rfl;have hcz28_4:w27.cell? ⟨gb300,4,none⟩=some (.int .i64 a1_4):=(blk_cell BK300.out 4).trans rfl;have hcz28_5:w27.cell? ⟨gb300,5,none⟩=some (.int .i64 a1_5):=(blk_cell BK300.out 5).trans rfl;have hcz28_6:w27.cell? ⟨gb300,6,none⟩=some (.int .i64 a1_6):=(blk_cell BK300.out 6).trans rfl;have hcz28_7:w27.cell? ⟨gb300,7,none⟩=some (.int .i64 a1_7):=(blk_cell BK300.out 7).trans rfl;have hcz28_8:w27.cell? ⟨gb300,8,none⟩=some (.int .i64 a1_8):=(blk_cell BK300.out 8).trans rfl;have hcz28_9:w27.cell? ⟨gb300,9,none⟩=some (.string a1_9):=(blk_cell BK300.out 9).trans rfl;have hfz28_0:=blk_frozen BK300.out 0;have hfz28_1:=blk_frozen BK300.out 1;have hfz28_2:=blk_frozen BK300.out 2;have hfz28_3:=blk_frozen BK300.out 3;have hfz28_4:=blk_frozen BK300.out 4;have hfz28_5:=blk_frozen BK300.out 5;have hfz28_6:=blk_frozen BK300.out 6;have hfz28_7:=blk_frozen BK300.out 7;have hfz28_8:=blk_frozen BK300.out 8;have hfz28_9:=blk_frozen BK300.out 9)|(go_at_call 159;(with_reducible refine(impl_GoodBundle.calls k a1_0 a1_1 a1_2 a1_3 a1_4 a1_5 a1_6 a1_7 a1_8 a1_9 false _ A5.out).mono ?_);rintro e w29 ⟨rfl,hb⟩;have n0_:=Aside0.mk (blk_below (g:=gb300) (o:=.cells #[.int .i64 a1_0,.int .i64 a1_1,.bool a1_2,.int .i64 a1_3,.int .i64 a1_4,.int .i64 a1_5,.int .i64 a1_6,.int .i64 a1_7,.int .i64 a1_8,.string a1_9] 86 (0,0)) (bL BK300.out) hb);have n1_:=Aside0.mk (below_step (bS GE300.out) hb);clear BK300 HB;have BK300:=n0_;have HB:=n1_;clear n0_ n1_;(try clear hb);(try clear hb2);(try clear hk);(try clear hi)))
   go_ret
   exact⟨bE,bS GE300.out⟩
 ·replace c4:=Bool.eq_false_iff.mpr c4
  subst c4
  have H1:(some false)=some r:=by rw[if_neg (show ¬ (false=true) by decide)] at H;exact H
  clear H
  have H:=H1
  clear H1
  obtain rfl:=Option.some.inj H
  go_enter Try.func121,Try.ntmps121
  go_wp2_with (first|((with_reducible refine gate_dst (N:=3) rfl ?_);refine box_event ?hg (N:=3) ?hd (cs:=#[.int .i64 a1_0,.int .i64 a1_1,.bool a1_2,.int .i64 a1_3,.int .i64 a1_4,.int .i64 a1_5,.int .i64 a1_6,.int .i64 a1_7,.int .i64 a1_8,.string a1_9]) (t:=86) ?hr ?_;(case hd=>rfl);(case hg=>rfl);(case hr=>first|(go_simp;done)|(go_simp;rfl));intro gb300 hg w30 hbox hb;have n0_:=Aside0.mk (below_step (bB) hb);have n1_:=Aside0.mk (hbox);have n2_:=Aside0.mk ((bG:w.heap.size≤gb300));have n3_:=Aside0.mk ((bG:w.heap.size≤gb300));clear HB;have HB:=n0_;have BK300:=n1_;have GW300:=n2_;have GE300:=n3_;clear n0_ n1_ n2_ n3_;clear hb hbox hg)|((with_reducible refine gate_callee (f:=88) rfl ?_);refine goesA (some 6) rfl rfl Try.func88 #[.slice A0 l0.length c0] rfl ?_;(with_reducible refine(impl_GoodPlan.calls k _ _ l0 false _ ?side1 ?side2 A3.out).mono ?_);(case side1=>exact bC HR0.out);(case side2=>exact HC0.out);rintro e w31 ⟨rfl,hb⟩;refine⟨_,rfl,?_⟩;have n0_:=Aside0.mk (blk_below (g:=gb300) (o:=.cells #[.int .i64 a1_0,.int .i64 a1_1,.bool a1_2,.int .i64 a1_3,.int .i64 a1_4,.int .i64 a1_5,.int .i64 a1_6,.int .i64 a1_7,.int .i64 a1_8,.string a1_9] 86 (0,0)) (bL BK300.out) hb);have n1_:=Aside0.mk (below_step (bS GE300.out) hb);clear BK300 HB;have BK300:=n0_;have HB:=n1_;clear n0_ n1_;(try clear hb);(try clear hb2);(try clear hk);(try clear hi)))
  go_ret
  exact⟨bE,bS GE300.out⟩

end Go.Proofs.Yteneeohaoplpbaa.XFnExactDeliveredBy
