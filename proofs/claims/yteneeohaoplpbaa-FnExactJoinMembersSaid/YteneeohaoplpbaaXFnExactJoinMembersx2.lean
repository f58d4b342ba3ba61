-- Written by this session's own program (wip/xprint.py) out of the translation; Lean checks it.
import Derived.Test.YteneeohaoplpbaaXFnExactJoinMembersx0
import Derived.Test.YteneeohaoplpbaaXFnExactJoinMembersx1
namespace Go.Proofs.Yteneeohaoplpbaa.XFnExactJoinMembers
open Go.RowKit Go.Proofs.YteneeohaoplpbaaW.PrintWords Go.Proofs.YteneeohaoplpbaaW.PrintLast Go.Proofs.YteneeohaoplpbaaW.PrintMore
attribute [local go_sem] max2_int min2_int max_two min_two max_three min_three max_four min_four   -- for this text's walks alone
set_option linter.unusedVariables false
set_option linter.unusedSimpArgs false

/-! ### spec_l7Put: function 133 -/
def spec_l7Put.l0:Nat→List Int→Int→Int→Option (List Int)
 | 0,_,_,_=>none
 | k+1,x0,x1,x5=>if x5 < (x0.length:Int) then (if 0≤x5 then (if (rd x0 x5) < x1 then (spec_l7Put.l0 k x0 x1 (wrap64 (x5+1))) else (if (rd x0 x5)=x1 then (some x0) else (if x5≤(x0.length:Int) then ((some (x0.take (x5:Int).toNat:List Int)).bind fun y114=>(if ([]:List Int).length+y114.length < 17592186044416 then ((some (([]:List Int)++y114:List Int)).bind fun y118=>(if y118.length < 17592186044416 then ((some (y118++[x1]:List Int)).bind fun y121=>((some (x0.drop (x5:Int).toNat:List Int)).bind fun y124=>(if y121.length+y124.length < 17592186044416 then (some (y121++y124)) else (none)))) else (none))) else (none))) else (none)))) else (none)) else (if 0≤x5 then (if x5≤(x0.length:Int) then ((some (x0.take (x5:Int).toNat:List Int)).bind fun y131=>(if ([]:List Int).length+y131.length < 17592186044416 then ((some (([]:List Int)++y131:List Int)).bind fun y135=>(if y135.length < 17592186044416 then ((some (y135++[x1]:List Int)).bind fun y138=>((some (x0.drop (x5:Int).toNat:List Int)).bind fun y141=>(if y138.length+y141.length < 17592186044416 then (some (y138++y141)) else (none)))) else (none))) else (none))) else (none)) else (none))
def spec_l7Put.f (k:Nat) (l0:List Int) (a1:Int):Option (List Int):=spec_l7Put.l0 k l0 a1 0
theorem spec_l7Put.mono_l : ∀ k,(∀ y0 y1 y2,LeO (spec_l7Put.l0 k y0 y1 y2) (spec_l7Put.l0 (k+1) y0 y1 y2))
 | 0=>fun _ _ _ r h=>by simp[spec_l7Put.l0] at h
 | k+1=>by
  have ih0:=spec_l7Put.mono_l k
  ·intro y0 y1 y2
   unfold spec_l7Put.l0
   repeat' first
   | (with_reducible exact ih0 _ _ _)
   | (with_reducible exact LeO.refl _)
   | (with_reducible exact LeO.none _)
   | (with_reducible refine LeO.ite ?_ ?_)
   | (with_reducible refine LeO.bind ?_ (fun _ => ?_))
   | exact ih0 _ _ _
   | exact LeO.none _
   | refine LeO.ite ?_ ?_
   | refine LeO.bind ?_ (fun _ => ?_)
theorem spec_l7Put.mono : ∀ a0 a1 k,LeO (spec_l7Put.f k a0 a1) (spec_l7Put.f (k+1) a0 a1):=by
 intro a0 a1 k
 have ih0:=spec_l7Put.mono_l k
 unfold spec_l7Put.f
 repeat' first
  | (with_reducible exact ih0 _ _ _)
  | (with_reducible exact LeO.refl _)
  | (with_reducible exact LeO.none _)
  | (with_reducible refine LeO.ite ?_ ?_)
  | (with_reducible refine LeO.bind ?_ (fun _ => ?_))
  | exact ih0 _ _ _
  | exact LeO.none _
  | refine LeO.ite ?_ ?_
  | refine LeO.bind ?_ (fun _ => ?_)
set_option maxHeartbeats 8000000 in
set_option maxRecDepth 100000 in
theorem spec_l7Put.calls (k:Nat) (P0_:Nat→Prop) (u9000_:Value) (l0:List Int) (a1:Int) (r:List Int) (w0 w:World) (hB:Below w0.heap.size w0 w) (ho0:Kd.R (Kd.int .i64) 3 w w0.heap.size P0_ u9000_ l0) (h:spec_l7Put.f k l0 a1=some r) :
  Calls Try.prog 133 #[u9000_,.int .i64 a1] w fun e w' => ∃ v0_:Value,e=.returned (v0_)∧Kd.R (Kd.int .i64) 3 w' w0.heap.size (fun k_=>(P0_ k_∨w.heap.size≤k_)) v0_ r∧Below w0.heap.size w0 w'∧Kept w w' (fun k_=>P0_ k_):=by
 have HO0:=Aside0.mk (show Kd.R (Kd.int .i64) 3 w w0.heap.size (fun k_=>(P0_ k_∨w.heap.size≤k_)) u9000_ l0 from Kd.R_mono ho0 (fun k_ hk=>(.inl hk)))
 have HK:=Aside0.mk (Kept.refl w (fun k_=>P0_ k_))
 have HW0:=Aside0.mk hB.size
 have HB:=Aside0.mk hB
 clear hB
 have H:(spec_l7Put.l0 k l0 a1 0)=some r:=h
 clear h
 have H':=Aside0.mk H
 clear H
 go_enter Try.func133,Try.ntmps133
 go_wp2
 go_loopg [5] k (fun kq v5 w' => ∃ (x5_1:Int),v5=.int .i64 x5_1∧Aside0 (spec_l7Put.l0 kq l0 a1 x5_1=some r)∧Aside0 (kq≤k)∧Aside0 (Kd.R (Kd.int .i64) 3 w' w0.heap.size (fun k_=>(P0_ k_∨w.heap.size≤k_)) u9000_ l0)∧Aside0 (Kept w w' (fun k_=>P0_ k_))∧Aside0 (Below w0.heap.size w0 w'))
 case atStart=>exact⟨(0),(bR),H',⟨Nat.le_refl _⟩,⟨by(with_reducible repeat (first|apply Kd.R_alloc|apply Kd.R_drewN|apply Kd.R_drew));exact HO0.out⟩,⟨by repeat (first|(with_reducible first|exact HK.out|apply Kept.alloc|apply Kept.drewN|apply Kept.drew)|exact HK.out)⟩,⟨by repeat (first|(with_reducible first|exact HB.out|apply below_alloc|apply pw_below_drewN|apply below_drew1)|exact HB.out)⟩⟩
 case round =>
  clear H'
  try clear c1
  try clear p2
  obtain⟨x5_1,rfl,HA,HK1,HO_0,HK,HB⟩:=hrel
  cases gk with
  | zero=>exact absurd HA.out (by simp[spec_l7Put.l0])
  | succ k1 =>
   have H:=HA.out
   clear HA
   simp only[spec_l7Put.l0] at H
   by_cases c3:x5_1 < (l0.length:Int)
   ·rw[if_pos c3] at H
    have c3b0:decide (x5_1 < (l0.length:Int))=true:=decide_eq_true c3
    clear c3
    by_cases c4:0≤x5_1
    ·rw[if_pos c4] at H
     have c4b0:decide (0≤x5_1)=true:=decide_eq_true c4
     clear c4
     by_cases c5:(rd l0 x5_1) < a1
     ·rw[if_pos c5] at H
      have c5b0:decide ((rd l0 x5_1) < a1)=true:=decide_eq_true c5
      clear c5
      have H':=Aside0.mk H
      clear H
      obtain⟨Ao6,co6,eo6⟩:=Kd.R_slice HO_0.out
      subst eo6
      have p112:0≤(x5_1:Int):=of_decide_eq_true (bD)
      have q112:x5_1 < (l0.length:Int):=of_decide_eq_true (bD)
      obtain⟨ad112,e112,hx112_0⟩:=Kd.at_int (Kd.R_reads' HO_0.out).2.2 x5_1 p112 q112
      cases e112
      replace p112:=eq_true p112
      replace q112:=eq_true q112
      go_wp2
      go_roundg k1
      case measure=>have:=HK1.out;omega
      case rel=>exact⟨(wrap64 (x5_1+1)),(bR),H',⟨by have:=HK1.out;omega⟩,⟨by(with_reducible repeat (first|apply Kd.R_alloc|apply Kd.R_drewN|apply Kd.R_drew));exact HO_0.out⟩,⟨by repeat (first|(with_reducible first|exact HK.out|apply Kept.alloc|apply Kept.drewN|apply Kept.drew)|exact HK.out)⟩,⟨by repeat (first|(with_reducible first|exact HB.out|apply below_alloc|apply pw_below_drewN|apply below_drew1)|exact HB.out)⟩⟩
     ·rw[if_neg c5] at H
      have c5b0:decide ((rd l0 x5_1) < a1)=false:=decide_eq_false c5
      clear c5
      by_cases c7:(rd l0 x5_1)=a1
      ·rw[if_pos c7] at H
       have c7b0:((rd l0 x5_1) == a1)=true:=beq_iff_eq.mpr c7
       have c7b1:((rd l0 x5_1) != a1)=false:=bne_eq_false_iff_eq.mpr c7
       clear c7
       obtain rfl:=Option.some.inj H
       obtain⟨Ao8,co8,eo8⟩:=Kd.R_slice HO_0.out
       subst eo8
       have p112:0≤(x5_1:Int):=of_decide_eq_true (bD)
       have q112:x5_1 < (l0.length:Int):=of_decide_eq_true (bD)
       obtain⟨ad112,e112,hx112_0⟩:=Kd.at_int (Kd.R_reads' HO_0.out).2.2 x5_1 p112 q112
       cases e112
       replace p112:=eq_true p112
       replace q112:=eq_true q112
       have p113:0≤(x5_1:Int):=of_decide_eq_true (bD)
       have q113:x5_1 < (l0.length:Int):=of_decide_eq_true (bD)
       obtain⟨ad113,e113,hx113_0⟩:=Kd.at_int (Kd.R_reads' HO_0.out).2.2 x5_1 p113 q113
       obtain rfl:ad112=ad113:=(by injection e113)
       replace p113:=eq_true p113
       replace q113:=eq_true q113
       go_wp2
       go_ret
       exact⟨_,by first|rfl|(simp[errW_none,errW_some]<;>rfl)|(simp[*,errW_none,errW_some]<;>rfl),by(with_reducible repeat (first|apply Kd.R_alloc|apply Kd.R_drewN|apply Kd.R_drew));exact HO_0.out,by repeat (first|(with_reducible first|exact HB.out|apply below_alloc|apply pw_below_drewN|apply below_drew1)|exact HB.out),by repeat (first|(with_reducible first|exact HK.out|apply Kept.alloc|apply Kept.drewN|apply Kept.drew)|exact HK.out)⟩
      ·rw[if_neg c7] at H
       have c7b0:((rd l0 x5_1) == a1)=false:=beq_eq_false_iff_ne.mpr c7
       have c7b1:((rd l0 x5_1) != a1)=true:=bne_iff_ne.mpr c7
       have c9b0:=eq_true (of_decide_eq_true (bD):0≤x5_1)
       by_cases c10:x5_1≤(l0.length:Int)
       ·rw[if_pos c10] at H
        have c10b0:=eq_true c10
        have c10b1:decide (x5_1≤(l0.length:Int))=true:=decide_eq_true c10
        clear c10
        obtain⟨y114,hy114⟩ : ∃ y_:List Int,y_=(l0.take (x5_1:Int).toNat):=⟨_,rfl⟩
        replace H:(if ([]:List Int).length+y114.length < 17592186044416 then ((some (([]:List Int)++y114:List Int)).bind fun y118=>(if y118.length < 17592186044416 then ((some (y118++[a1]:List Int)).bind fun y121=>((some (l0.drop (x5_1:Int).toNat:List Int)).bind fun y124=>(if y121.length+y124.length < 17592186044416 then (some (y121++y124)) else (none)))) else (none))) else (none))=some r:=by first|(rw[hy114];with_reducible exact H)|(have H2_:=(Option.bind_some _ _).symm.trans H;rw[hy114];with_reducible exact H2_)|(have H2_:=(Option.bind_some _ _).symm.trans H;with_reducible exact H2_)|with_reducible exact H|(rw[hy114];exact H)|exact H
        have Ny114:=Aside0.mk hy114
        clear hy114
        by_cases c11:([]:List Int).length+y114.length < 17592186044416
        ·rw[if_pos c11] at H
         have LMc11:=Aside0.mk c11
         clear c11
         obtain⟨y118,hy118⟩ : ∃ y_:List Int,y_=(([]:List Int)++y114):=⟨_,rfl⟩
         replace H:(if y118.length < 17592186044416 then ((some (y118++[a1]:List Int)).bind fun y121=>((some (l0.drop (x5_1:Int).toNat:List Int)).bind fun y124=>(if y121.length+y124.length < 17592186044416 then (some (y121++y124)) else (none)))) else (none))=some r:=by first|(rw[hy118];with_reducible exact H)|(have H2_:=(Option.bind_some _ _).symm.trans H;rw[hy118];with_reducible exact H2_)|(have H2_:=(Option.bind_some _ _).symm.trans H;with_reducible exact H2_)|with_reducible exact H|(rw[hy118];exact H)|exact H
         have Ny118:=Aside0.mk hy118
         clear hy118
         by_cases c12:y118.length < 17592186044416
         ·rw[if_pos c12] at H
          have LMc12:=Aside0.mk c12
          clear c12
          obtain⟨y121,hy121⟩ : ∃ y_:List Int,y_=(y118++[a1]):=⟨_,rfl⟩
          replace H:((some (l0.drop (x5_1:Int).toNat:List Int)).bind fun y124=>(if y121.length+y124.length < 17592186044416 then (some (y121++y124)) else (none)))=some r:=by first|(rw[hy121];with_reducible exact H)|(have H2_:=(Option.bind_some _ _).symm.trans H;rw[hy121];with_reducible exact H2_)|(have H2_:=(Option.bind_some _ _).symm.trans H;with_reducible exact H2_)|with_reducible exact H|(rw[hy121];exact H)|exact H
          have Ny121:=Aside0.mk hy121
          clear hy121
          have c13b0:=eq_true (of_decide_eq_true (bD):0≤x5_1)
          have c14b0:=eq_true (of_decide_eq_true (bD):x5_1≤(l0.length:Int))
          obtain⟨y124,hy124⟩ : ∃ y_:List Int,y_=(l0.drop (x5_1:Int).toNat):=⟨_,rfl⟩
          replace H:(if y121.length+y124.length < 17592186044416 then (some (y121++y124)) else (none))=some r:=by first|(rw[hy124];with_reducible exact H)|(have H2_:=(Option.bind_some _ _).symm.trans H;rw[hy124];with_reducible exact H2_)|(have H2_:=(Option.bind_some _ _).symm.trans H;with_reducible exact H2_)|with_reducible exact H|(rw[hy124];exact H)|exact H
          have Ny124:=Aside0.mk hy124
          clear hy124
          by_cases c15:y121.length+y124.length < 17592186044416
          ·rw[if_pos c15] at H
           have LMc15:=Aside0.mk c15
           clear c15
           obtain⟨y128,hy128⟩ : ∃ y_:List Int,y_=(y121++y124):=⟨_,rfl⟩
           replace H:(some y128)=some r:=by first|(rw[hy128];with_reducible exact H)|(have H2_:=(Option.bind_some _ _).symm.trans H;rw[hy128];with_reducible exact H2_)|(have H2_:=(Option.bind_some _ _).symm.trans H;with_reducible exact H2_)|with_reducible exact H|(rw[hy128];exact H)|exact H
           have Ny128:=Aside0.mk hy128
           clear hy128
           obtain rfl:=Option.some.inj H
           obtain⟨Ao16,co16,eo16⟩:=Kd.R_slice HO_0.out
           subst eo16
           have p112:0≤(x5_1:Int):=of_decide_eq_true (bD)
           have q112:x5_1 < (l0.length:Int):=of_decide_eq_true (bD)
           obtain⟨ad112,e112,hx112_0⟩:=Kd.at_int (Kd.R_reads' HO_0.out).2.2 x5_1 p112 q112
           cases e112
           replace p112:=eq_true p112
           replace q112:=eq_true q112
           have p113:0≤(x5_1:Int):=of_decide_eq_true (bD)
           have q113:x5_1 < (l0.length:Int):=of_decide_eq_true (bD)
           obtain⟨ad113,e113,hx113_0⟩:=Kd.at_int (Kd.R_reads' HO_0.out).2.2 x5_1 p113 q113
           obtain rfl:ad112=ad113:=(by injection e113)
           replace p113:=eq_true p113
           replace q113:=eq_true q113
           have q17:(x5_1:Int)≤((l0.length:Int):Int):=of_decide_eq_true (bD)
           obtain⟨i017,hi017,_,hsz17,_⟩:=info_parts info3
           have hroom17:l0.length≤co16:=(Kd.R_reads' HO_0.out).2.1
           have hC17:Kd.C (Kd.int .i64) _ (some ad112) l0.length l0:=(Kd.R_reads' HO_0.out).2.2
           have hcut17:=cut_to (P:=Try.prog) 37 3 .i64 Try.underlying37 hi017 (some ad112) l0.length co16 x5_1 (of_decide_eq_true (bD)) q17 hroom17
           have hr17:=Kd.C_take (m:=(x5_1:Int).toNat) hC17 (by omega)
           have hy17:y114.length=(x5_1:Int).toNat:=(by rw[Ny114.out,List.length_take];omega)
           rw[← Ny114.out] at hr17
           rw[← hy17] at hcut17
           have HR117:=Aside0.mk hr17
           have HC117:=Aside0.mk (show y114.length≤co16 from by omega)
           clear hr17 hC17 hroom17 hi017 hsz17
           have KY17:=Aside0.mk hy17
           clear hy17
           have KL17:=Aside0.mk (show(x5_1:Int).toNat≤l0.length from by omega)
           replace q17:=eq_true q17
           go_wp2_with (first|((with_reducible refine gate_builtin (b:=.append) (xs:=#[.tmp 34,.tmp 37]) rfl ?_);at_builtin;refine Kd.R_append_rows (Kd.int .i64) (w0:=w0) w0.heap.size rfl (.tmp 34) (.tmp 37) 37 3 (.int .i64 0) 8 rfl Try.underlying37 info3 rfl (by decide) (by omega) (.slice none 0 0) ([]:List Int) y114 _ _ _ (fun k_=>(P0_ k_∨w.heap.size≤k_)∧some k_≠(.slice (some ad112) l0.length co16:Value).ownBlock) (fun _=>False) rfl rfl ?aO ?aR (fun _ _ h=>h) (fun _ h=>h.elim) ?aF ?aB ?aS ?aL ?_;(case aR=>repeat (first|exact(by repeat (first|(with_reducible exact HR117.out)|(with_reducible refine Kd.C_alloc ?_ _)|(with_reducible refine Kd.C_drewN ?_ _)|(with_reducible refine Kd.C_drew ?_)|exact HR117.out))|(with_reducible refine Kd.C_alloc ?_ _)|(with_reducible refine Kd.C_drewN ?_ _)|(with_reducible refine Kd.C_drew ?_)));(case aB=>exact(bB));(case aF=>exact(fun k_ hk=>⟨(.inr (Nat.le_trans (by first|exact HK.out.1|exact(show Kept w _ (fun k_=>P0_ k_) from by repeat (first|(with_reducible first|exact HK.out|apply Kept.alloc|apply Kept.drewN|apply Kept.drew)|exact HK.out)).1) hk)),Kd.fresh' (Kd.R_lt (bK HO_0.out)) k_ hk⟩));(case aO=>exact((Kd.R_nil _ _ _ _ (fun k_=>(P0_ k_∨w.heap.size≤k_)∧some k_≠(.slice (some ad112) l0.length co16:Value).ownBlock))));(case aS=>exact(below_size (bB)));(case aL=>have:=LMc11.out;omega);intro v119 w18 ho hb hg hat;rw[← Ny118.out] at ho;have n0_:=Aside0.mk (Kd.R_after (Kd.R_apart_nil (bK HO_0.out)) hg hat);have n1_:=Aside0.mk (hb);have n2_:=Aside0.mk (Kept.of_grown (S:=(fun k_=>P0_ k_)) hg (by repeat (first|(with_reducible first|exact HK.out|apply Kept.alloc|apply Kept.drewN|apply Kept.drew)|exact HK.out)) (fun k_ e_=>by simp[Value.ownBlock] at e_));have n3_:=Aside0.mk ((show Kd.C (Kd.int .i64) w18 (some ad112) y114.length y114 from by rw[Ny114.out];exact Kd.C_take (m:=(x5_1:Int).toNat) ((Kd.R_reads' (Kd.R_after (Kd.R_apart_nil (bK HO_0.out)) hg hat)).2.2) KL17.out));have n4_:=Aside0.mk (ho);clear HO_0 HB HK HR117;have HO_0:=n0_;have HB:=n1_;have HK:=n2_;have HR117:=n3_;have HO120:=n4_;clear n0_ n1_ n2_ n3_ n4_;clear ho hb hg hat)|((with_reducible refine gate_builtin (b:=.append) (xs:=#[.tmp 39,.tmp 41]) rfl ?_);at_builtin;refine Kd.R_append (Kd.int .i64) (w0:=w0) w0.heap.size rfl (.tmp 39) (.tmp 41) 37 3 (.int .i64 0) 8 rfl Try.underlying37 info3 rfl (by decide) (by omega) v119 y118 a1 [.int .i64 a1] (fun k_=>(P0_ k_∨w.heap.size≤k_)∧some k_≠(.slice (some ad112) l0.length co16:Value).ownBlock) (fun _=>False) rfl rfl ?aP (fun _ hk=>hk.elim) ?aF ?aO ?aB ?aS ?aL ?_;(case aP=>exact rfl);(case aB=>exact(bB));(case aF=>exact(fun k_ hk=>⟨(.inr (Nat.le_trans (by first|exact HK.out.1|exact(show Kept w _ (fun k_=>P0_ k_) from by repeat (first|(with_reducible first|exact HK.out|apply Kept.alloc|apply Kept.drewN|apply Kept.drew)|exact HK.out)).1) hk)),Kd.fresh' (Kd.R_lt (bK HO_0.out)) k_ hk⟩));(case aO=>exact(bK HO120.out));(case aS=>exact(below_size (bB)));(case aL=>have:=LMc12.out;omega);intro v122 w19 ho hb hg hat;rw[← Ny121.out] at ho;have n0_:=Aside0.mk (Kd.R_after (ok:=(fun k_=>(P0_ k_∨w.heap.size≤k_))) (bK HO_0.out) hg hat);have n1_:=Aside0.mk (hb);have n2_:=Aside0.mk (Kept.of_grown (S:=(fun k_=>P0_ k_)) hg (by repeat (first|(with_reducible first|exact HK.out|apply Kept.alloc|apply Kept.drewN|apply Kept.drew)|exact HK.out)) (fun k_ e_=>(HO120.out.1 k_ e_).1));have n3_:=Aside0.mk ((show Kd.C (Kd.int .i64) w19 (some ad112) y114.length y114 from by rw[Ny114.out];exact Kd.C_take (m:=(x5_1:Int).toNat) ((Kd.R_reads' (Kd.R_after (ok:=(fun k_=>(P0_ k_∨w.heap.size≤k_))) (bK HO_0.out) hg hat)).2.2) KL17.out));have n4_:=Aside0.mk (ho);clear HO_0 HB HK HR117 HO120;have HO_0:=n0_;have HB:=n1_;have HK:=n2_;have HR117:=n3_;have HO123:=n4_;clear n0_ n1_ n2_ n3_ n4_;clear ho hb hg hat;have q20:(x5_1:Int)≤((l0.length:Int):Int):=of_decide_eq_true (bD);obtain⟨i020,hi020,_,hsz20,_⟩:=info_parts info3;have hroom20:l0.length≤co16:=(Kd.R_reads' HO_0.out).2.1;have hC20:Kd.C (Kd.int .i64) _ (some ad112) l0.length l0:=(Kd.R_reads' HO_0.out).2.2;have q020:(0:Int)≤(x5_1:Int):=of_decide_eq_true (bD);have hcut20:=cut_from (P:=Try.prog) 37 3 .i64 Try.underlying37 hi020 1 hsz20 (some ad112) l0.length co16 x5_1 q020 q20;have hr20:=Kd.C_drop (m:=(x5_1:Int).toNat) (c:=co16) hC20 (by omega) hroom20;obtain⟨A20,hA20⟩ : ∃ A1,A1=(if co16=(x5_1:Int).toNat then (some ad112) else ((some ad112):Option Addr).map (·.add ((x5_1:Int).toNat * 1))):=⟨_,rfl⟩;obtain⟨c20,hc20⟩ : ∃ c1,c1=co16 - (x5_1:Int).toNat:=⟨_,rfl⟩;have hy20:y124.length=l0.length - (x5_1:Int).toNat:=(by rw[Ny124.out,List.length_drop]<;>omega);rw[show(l0).drop (x5_1:Int).toNat=y124 from Ny124.out.symm] at hr20;replace hr20:Kd.C (Kd.int .i64) _ A20 y124.length y124:=(by rw[hA20];exact hr20);rw[← hy20,← hA20,← hc20] at hcut20;have HR127:=Aside0.mk hr20;have HC127:=Aside0.mk (show y124.length≤c20 from by rw[hy20,hc20];exact Nat.sub_le_sub_right hroom20 _);clear hr20 hC20 hroom20 hi020 hsz20 hc20;have KY20:=Aside0.mk hy20;have KA20:=Aside0.mk hA20;clear hy20 hA20;have KL20:=Aside0.mk (show(x5_1:Int).toNat≤l0.length from by omega);replace q20:=eq_true q20)|((with_reducible refine gate_builtin (b:=.append) (xs:=#[.tmp 43,.tmp 46]) rfl ?_);at_builtin;refine Kd.R_append_rows (Kd.int .i64) (w0:=w0) w0.heap.size rfl (.tmp 43) (.tmp 46) 37 3 (.int .i64 0) 8 rfl Try.underlying37 info3 rfl (by decide) (by omega) v122 y121 y124 _ _ _ (fun k_=>(P0_ k_∨w.heap.size≤k_)∧some k_≠(.slice (some ad112) l0.length co16:Value).ownBlock) (fun _=>False) rfl rfl ?aO ?aR (fun _ _ h=>h) (fun _ h=>h.elim) ?aF ?aB ?aS ?aL ?_;(case aR=>repeat (first|exact(by repeat (first|(with_reducible exact HR127.out)|(with_reducible refine Kd.C_alloc ?_ _)|(with_reducible refine Kd.C_drewN ?_ _)|(with_reducible refine Kd.C_drew ?_)|exact HR127.out))|(with_reducible refine Kd.C_alloc ?_ _)|(with_reducible refine Kd.C_drewN ?_ _)|(with_reducible refine Kd.C_drew ?_)));(case aB=>exact(bB));(case aF=>exact(fun k_ hk=>⟨(.inr (Nat.le_trans (by first|exact HK.out.1|exact(show Kept w _ (fun k_=>P0_ k_) from by repeat (first|(with_reducible first|exact HK.out|apply Kept.alloc|apply Kept.drewN|apply Kept.drew)|exact HK.out)).1) hk)),Kd.fresh' (Kd.R_lt (bK HO_0.out)) k_ hk⟩));(case aO=>exact(bK HO123.out));(case aS=>exact(below_size (bB)));(case aL=>have:=LMc15.out;omega);intro v129 w21 ho hb hg hat;rw[← Ny128.out] at ho;have n0_:=Aside0.mk (Kd.R_after (ok:=(fun k_=>(P0_ k_∨w.heap.size≤k_))) (bK HO_0.out) hg hat);have n1_:=Aside0.mk (hb);have n2_:=Aside0.mk (Kept.of_grown (S:=(fun k_=>P0_ k_)) hg (by repeat (first|(with_reducible first|exact HK.out|apply Kept.alloc|apply Kept.drewN|apply Kept.drew)|exact HK.out)) (fun k_ e_=>(HO123.out.1 k_ e_).1));have n3_:=Aside0.mk ((show Kd.C (Kd.int .i64) w21 (some ad112) y114.length y114 from by rw[Ny114.out];exact Kd.C_take (m:=(x5_1:Int).toNat) ((Kd.R_reads' (Kd.R_after (ok:=(fun k_=>(P0_ k_∨w.heap.size≤k_))) (bK HO_0.out) hg hat)).2.2) KL17.out));have n4_:=Aside0.mk ((show Kd.C (Kd.int .i64) w21 A20 y124.length y124 from by rw[Ny124.out,KA20.out];exact Kd.C_drop (m:=(x5_1:Int).toNat) (c:=co16) ((Kd.R_reads' (Kd.R_after (ok:=(fun k_=>(P0_ k_∨w.heap.size≤k_))) (bK HO_0.out) hg hat)).2.2) KL20.out ((Kd.R_reads' (Kd.R_after (ok:=(fun k_=>(P0_ k_∨w.heap.size≤k_))) (bK HO_0.out) hg hat)).2.1)));have n5_:=Aside0.mk (ho);clear HO_0 HB HK HR117 HR127 HO123;have HO_0:=n0_;have HB:=n1_;have HK:=n2_;have HR117:=n3_;have HR127:=n4_;have HO130:=n5_;clear n0_ n1_ n2_ n3_ n4_ n5_;clear ho hb hg hat))
           go_ret
           exact⟨_,by first|rfl|(simp[errW_none,errW_some]<;>rfl)|(simp[*,errW_none,errW_some]<;>rfl),by(with_reducible repeat (first|apply Kd.R_alloc|apply Kd.R_drewN|apply Kd.R_drew));exact Kd.R_mono HO130.out (fun _ hk=>hk.1),by repeat (first|(with_reducible first|exact HB.out|apply below_alloc|apply pw_below_drewN|apply below_drew1)|exact HB.out),by repeat (first|(with_reducible first|exact HK.out|apply Kept.alloc|apply Kept.drewN|apply Kept.drew)|exact HK.out)⟩
          ·rw[if_neg c15] at H
           exact absurd H (by simp)
         ·rw[if_neg c12] at H
          exact absurd H (by simp)
        ·rw[if_neg c11] at H
         exact absurd H (by simp)
       ·rw[if_neg c10] at H
        exact absurd H (by simp)
    ·rw[if_neg c4] at H
     exact absurd H (by simp)
   ·rw[if_neg c3] at H
    have c3b0:decide (x5_1 < (l0.length:Int))=false:=decide_eq_false c3
    clear c3
    by_cases c22:0≤x5_1
    ·rw[if_pos c22] at H
     have c22b0:=eq_true c22
     have c22b1:decide (0≤x5_1)=true:=decide_eq_true c22
     clear c22
     by_cases c23:x5_1≤(l0.length:Int)
     ·rw[if_pos c23] at H
      have c23b0:=eq_true c23
      have c23b1:decide (x5_1≤(l0.length:Int))=true:=decide_eq_true c23
      clear c23
      obtain⟨y131,hy131⟩ : ∃ y_:List Int,y_=(l0.take (x5_1:Int).toNat):=⟨_,rfl⟩
      replace H:(if ([]:List Int).length+y131.length < 17592186044416 then ((some (([]:List Int)++y131:List Int)).bind fun y135=>(if y135.length < 17592186044416 then ((some (y135++[a1]:List Int)).bind fun y138=>((some (l0.drop (x5_1:Int).toNat:List Int)).bind fun y141=>(if y138.length+y141.length < 17592186044416 then (some (y138++y141)) else (none)))) else (none))) else (none))=some r:=by first|(rw[hy131];with_reducible exact H)|(have H2_:=(Option.bind_some _ _).symm.trans H;rw[hy131];with_reducible exact H2_)|(have H2_:=(Option.bind_some _ _).symm.trans H;with_reducible exact H2_)|with_reducible exact H|(rw[hy131];exact H)|exact H
      have Ny131:=Aside0.mk hy131
      clear hy131
      by_cases c24:([]:List Int).length+y131.length < 17592186044416
      ·rw[if_pos c24] at H
       have LMc24:=Aside0.mk c24
       clear c24
       obtain⟨y135,hy135⟩ : ∃ y_:List Int,y_=(([]:List Int)++y131):=⟨_,rfl⟩
       replace H:(if y135.length < 17592186044416 then ((some (y135++[a1]:List Int)).bind fun y138=>((some (l0.drop (x5_1:Int).toNat:List Int)).bind fun y141=>(if y138.length+y141.length < 17592186044416 then (some (y138++y141)) else (none)))) else (none))=some r:=by first|(rw[hy135];with_reducible exact H)|(have H2_:=(Option.bind_some _ _).symm.trans H;rw[hy135];with_reducible exact H2_)|(have H2_:=(Option.bind_some _ _).symm.trans H;with_reducible exact H2_)|with_reducible exact H|(rw[hy135];exact H)|exact H
       have Ny135:=Aside0.mk hy135
       clear hy135
       by_cases c25:y135.length < 17592186044416
       ·rw[if_pos c25] at H
        have LMc25:=Aside0.mk c25
        clear c25
        obtain⟨y138,hy138⟩ : ∃ y_:List Int,y_=(y135++[a1]):=⟨_,rfl⟩
        replace H:((some (l0.drop (x5_1:Int).toNat:List Int)).bind fun y141=>(if y138.length+y141.length < 17592186044416 then (some (y138++y141)) else (none)))=some r:=by first|(rw[hy138];with_reducible exact H)|(have H2_:=(Option.bind_some _ _).symm.trans H;rw[hy138];with_reducible exact H2_)|(have H2_:=(Option.bind_some _ _).symm.trans H;with_reducible exact H2_)|with_reducible exact H|(rw[hy138];exact H)|exact H
        have Ny138:=Aside0.mk hy138
        clear hy138
        have c26b0:=eq_true (of_decide_eq_true (bD):0≤x5_1)
        have c27b0:=eq_true (of_decide_eq_true (bD):x5_1≤(l0.length:Int))
        obtain⟨y141,hy141⟩ : ∃ y_:List Int,y_=(l0.drop (x5_1:Int).toNat):=⟨_,rfl⟩
        replace H:(if y138.length+y141.length < 17592186044416 then (some (y138++y141)) else (none))=some r:=by first|(rw[hy141];with_reducible exact H)|(have H2_:=(Option.bind_some _ _).symm.trans H;rw[hy141];with_reducible exact H2_)|(have H2_:=(Option.bind_some _ _).symm.trans H;with_reducible exact H2_)|with_reducible exact H|(rw[hy141];exact H)|exact H
        have Ny141:=Aside0.mk hy141
        clear hy141
        by_cases c28:y138.length+y141.length < 17592186044416
        ·rw[if_pos c28] at H
         have LMc28:=Aside0.mk c28
         clear c28
         obtain⟨y145,hy145⟩ : ∃ y_:List Int,y_=(y138++y141):=⟨_,rfl⟩
         replace H:(some y145)=some r:=by first|(rw[hy145];with_reducible exact H)|(have H2_:=(Option.bind_some _ _).symm.trans H;rw[hy145];with_reducible exact H2_)|(have H2_:=(Option.bind_some _ _).symm.trans H;with_reducible exact H2_)|with_reducible exact H|(rw[hy145];exact H)|exact H
         have Ny145:=Aside0.mk hy145
         clear hy145
         obtain rfl:=Option.some.inj H
         obtain⟨Ao29,co29,eo29⟩:=Kd.R_slice HO_0.out
         subst eo29
         have q30:(x5_1:Int)≤((l0.length:Int):Int):=of_decide_eq_true (bD)
         obtain⟨i030,hi030,_,hsz30,_⟩:=info_parts info3
         have hroom30:l0.length≤co29:=(Kd.R_reads' HO_0.out).2.1
         have hC30:Kd.C (Kd.int .i64) _ Ao29 l0.length l0:=(Kd.R_reads' HO_0.out).2.2
         have hcut30:=cut_to (P:=Try.prog) 37 3 .i64 Try.underlying37 hi030 Ao29 l0.length co29 x5_1 (of_decide_eq_true (bD)) q30 hroom30
         have hr30:=Kd.C_take (m:=(x5_1:Int).toNat) hC30 (by omega)
         have hy30:y131.length=(x5_1:Int).toNat:=(by rw[Ny131.out,List.length_take];omega)
         rw[← Ny131.out] at hr30
         rw[← hy30] at hcut30
         have HR134:=Aside0.mk hr30
         have HC134:=Aside0.mk (show y131.length≤co29 from by omega)
         clear hr30 hC30 hroom30 hi030 hsz30
         have KY30:=Aside0.mk hy30
         clear hy30
         have KL30:=Aside0.mk (show(x5_1:Int).toNat≤l0.length from by omega)
         replace q30:=eq_true q30
         go_wp2_with (first|((with_reducible refine gate_builtin (b:=.append) (xs:=#[.tmp 34,.tmp 37]) rfl ?_);at_builtin;refine Kd.R_append_rows (Kd.int .i64) (w0:=w0) w0.heap.size rfl (.tmp 34) (.tmp 37) 37 3 (.int .i64 0) 8 rfl Try.underlying37 info3 rfl (by decide) (by omega) (.slice none 0 0) ([]:List Int) y131 _ _ _ (fun k_=>(P0_ k_∨w.heap.size≤k_)∧some k_≠(.slice Ao29 l0.length co29:Value).ownBlock) (fun _=>False) rfl rfl ?aO ?aR (fun _ _ h=>h) (fun _ h=>h.elim) ?aF ?aB ?aS ?aL ?_;(case aR=>repeat (first|exact(by repeat (first|(with_reducible exact HR134.out)|(with_reducible refine Kd.C_alloc ?_ _)|(with_reducible refine Kd.C_drewN ?_ _)|(with_reducible refine Kd.C_drew ?_)|exact HR134.out))|(with_reducible refine Kd.C_alloc ?_ _)|(with_reducible refine Kd.C_drewN ?_ _)|(with_reducible refine Kd.C_drew ?_)));(case aB=>exact(bB));(case aF=>exact(fun k_ hk=>⟨(.inr (Nat.le_trans (by first|exact HK.out.1|exact(show Kept w _ (fun k_=>P0_ k_) from by repeat (first|(with_reducible first|exact HK.out|apply Kept.alloc|apply Kept.drewN|apply Kept.drew)|exact HK.out)).1) hk)),Kd.fresh' (Kd.R_lt (bK HO_0.out)) k_ hk⟩));(case aO=>exact((Kd.R_nil _ _ _ _ (fun k_=>(P0_ k_∨w.heap.size≤k_)∧some k_≠(.slice Ao29 l0.length co29:Value).ownBlock))));(case aS=>exact(below_size (bB)));(case aL=>have:=LMc24.out;omega);intro v136 w31 ho hb hg hat;rw[← Ny135.out] at ho;have n0_:=Aside0.mk (Kd.R_after (Kd.R_apart_nil (bK HO_0.out)) hg hat);have n1_:=Aside0.mk (hb);have n2_:=Aside0.mk (Kept.of_grown (S:=(fun k_=>P0_ k_)) hg (by repeat (first|(with_reducible first|exact HK.out|apply Kept.alloc|apply Kept.drewN|apply Kept.drew)|exact HK.out)) (fun k_ e_=>by simp[Value.ownBlock] at e_));have n3_:=Aside0.mk ((show Kd.C (Kd.int .i64) w31 Ao29 y131.length y131 from by rw[Ny131.out];exact Kd.C_take (m:=(x5_1:Int).toNat) ((Kd.R_reads' (Kd.R_after (Kd.R_apart_nil (bK HO_0.out)) hg hat)).2.2) KL30.out));have n4_:=Aside0.mk (ho);clear HO_0 HB HK HR134;have HO_0:=n0_;have HB:=n1_;have HK:=n2_;have HR134:=n3_;have HO137:=n4_;clear n0_ n1_ n2_ n3_ n4_;clear ho hb hg hat)|((with_reducible refine gate_builtin (b:=.append) (xs:=#[.tmp 39,.tmp 41]) rfl ?_);at_builtin;refine Kd.R_append (Kd.int .i64) (w0:=w0) w0.heap.size rfl (.tmp 39) (.tmp 41) 37 3 (.int .i64 0) 8 rfl Try.underlying37 info3 rfl (by decide) (by omega) v136 y135 a1 [.int .i64 a1] (fun k_=>(P0_ k_∨w.heap.size≤k_)∧some k_≠(.slice Ao29 l0.length co29:Value).ownBlock) (fun _=>False) rfl rfl ?aP (fun _ hk=>hk.elim) ?aF ?aO ?aB ?aS ?aL ?_;(case aP=>exact rfl);(case aB=>exact(bB));(case aF=>exact(fun k_ hk=>⟨(.inr (Nat.le_trans (by first|exact HK.out.1|exact(show Kept w _ (fun k_=>P0_ k_) from by repeat (first|(with_reducible first|exact HK.out|apply Kept.alloc|apply Kept.drewN|apply Kept.drew)|exact HK.out)).1) hk)),Kd.fresh' (Kd.R_lt (bK HO_0.out)) k_ hk⟩));(case aO=>exact(bK HO137.out));(case aS=>exact(below_size (bB)));(case aL=>have:=LMc25.out;omega);intro v139 w32 ho hb hg hat;rw[← Ny138.out] at ho;have n0_:=Aside0.mk (Kd.R_after (ok:=(fun k_=>(P0_ k_∨w.heap.size≤k_))) (bK HO_0.out) hg hat);have n1_:=Aside0.mk (hb);have n2_:=Aside0.mk (Kept.of_grown (S:=(fun k_=>P0_ k_)) hg (by repeat (first|(with_reducible first|exact HK.out|apply Kept.alloc|apply Kept.drewN|apply Kept.drew)|exact HK.out)) (fun k_ e_=>(HO137.out.1 k_ e_).1));have n3_:=Aside0.mk ((show Kd.C (Kd.int .i64) w32 Ao29 y131.length y131 from by rw[Ny131.out];exact Kd.C_take (m:=(x5_1:Int).toNat) ((Kd.R_reads' (Kd.R_after (ok:=(fun k_=>(P0_ k_∨w.heap.size≤k_))) (bK HO_0.out) hg hat)).2.2) KL30.out));have n4_:=Aside0.mk (ho);clear HO_0 HB HK HR134 HO137;have HO_0:=n0_;have HB:=n1_;have HK:=n2_;have HR134:=n3_;have HO140:=n4_;clear n0_ n1_ n2_ n3_ n4_;clear ho hb hg hat;have q33:(x5_1:Int)≤((l0.length:Int):Int):=of_decide_eq_true (bD);obtain⟨i033,hi033,_,hsz33,_⟩:=info_parts info3;have hroom33:l0.length≤co29:=(Kd.R_reads' HO_0.out).2.1;have hC33:Kd.C (Kd.int .i64) _ Ao29 l0.length l0:=(Kd.R_reads' HO_0.out).2.2;have q033:(0:Int)≤(x5_1:Int):=of_decide_eq_true (bD);have hcut33:=cut_from (P:=Try.prog) 37 3 .i64 Try.underlying37 hi033 1 hsz33 Ao29 l0.length co29 x5_1 q033 q33;have hr33:=Kd.C_drop (m:=(x5_1:Int).toNat) (c:=co29) hC33 (by omega) hroom33;obtain⟨A33,hA33⟩ : ∃ A1,A1=(if co29=(x5_1:Int).toNat then Ao29 else (Ao29:Option Addr).map (·.add ((x5_1:Int).toNat * 1))):=⟨_,rfl⟩;obtain⟨c33,hc33⟩ : ∃ c1,c1=co29 - (x5_1:Int).toNat:=⟨_,rfl⟩;have hy33:y141.length=l0.length - (x5_1:Int).toNat:=(by rw[Ny141.out,List.length_drop]<;>omega);rw[show(l0).drop (x5_1:Int).toNat=y141 from Ny141.out.symm] at hr33;replace hr33:Kd.C (Kd.int .i64) _ A33 y141.length y141:=(by rw[hA33];exact hr33);rw[← hy33,← hA33,← hc33] at hcut33;have HR144:=Aside0.mk hr33;have HC144:=Aside0.mk (show y141.length≤c33 from by rw[hy33,hc33];exact Nat.sub_le_sub_right hroom33 _);clear hr33 hC33 hroom33 hi033 hsz33 hc33;have KY33:=Aside0.mk hy33;have KA33:=Aside0.mk hA33;clear hy33 hA33;have KL33:=Aside0.mk (show(x5_1:Int).toNat≤l0.length from by omega);replace q33:=eq_true q33)|((with_reducible refine gate_builtin (b:=.append) (xs:=#[.tmp 43,.tmp 46]) rfl ?_);at_builtin;refine Kd.R_append_rows (Kd.int .i64) (w0:=w0) w0.heap.size rfl (.tmp 43) (.tmp 46) 37 3 (.int .i64 0) 8 rfl Try.underlying37 info3 rfl (by decide) (by omega) v139 y138 y141 _ _ _ (fun k_=>(P0_ k_∨w.heap.size≤k_)∧some k_≠(.slice Ao29 l0.length co29:Value).ownBlock) (fun _=>False) rfl rfl ?aO ?aR (fun _ _ h=>h) (fun _ h=>h.elim) ?aF ?aB ?aS ?aL ?_;(case aR=>repeat (first|exact(by repeat (first|(with_reducible exact HR144.out)|(with_reducible refine Kd.C_alloc ?_ _)|(with_reducible refine Kd.C_drewN ?_ _)|(with_reducible refine Kd.C_drew ?_)|exact HR144.out))|(with_reducible refine Kd.C_alloc ?_ _)|(with_reducible refine Kd.C_drewN ?_ _)|(with_reducible refine Kd.C_drew ?_)));(case aB=>exact(bB));(case aF=>exact(fun k_ hk=>⟨(.inr (Nat.le_trans (by first|exact HK.out.1|exact(show Kept w _ (fun k_=>P0_ k_) from by repeat (first|(with_reducible first|exact HK.out|apply Kept.alloc|apply Kept.drewN|apply Kept.drew)|exact HK.out)).1) hk)),Kd.fresh' (Kd.R_lt (bK HO_0.out)) k_ hk⟩));(case aO=>exact(bK HO140.out));(case aS=>exact(below_size (bB)));(case aL=>have:=LMc28.out;omega);intro v146 w34 ho hb hg hat;rw[← Ny145.out] at ho;have n0_:=Aside0.mk (Kd.R_after (ok:=(fun k_=>(P0_ k_∨w.heap.size≤k_))) (bK HO_0.out) hg hat);have n1_:=Aside0.mk (hb);have n2_:=Aside0.mk (Kept.of_grown (S:=(fun k_=>P0_ k_)) hg (by repeat (first|(with_reducible first|exact HK.out|apply Kept.alloc|apply Kept.drewN|apply Kept.drew)|exact HK.out)) (fun k_ e_=>(HO140.out.1 k_ e_).1));have n3_:=Aside0.mk ((show Kd.C (Kd.int .i64) w34 Ao29 y131.length y131 from by rw[Ny131.out];exact Kd.C_take (m:=(x5_1:Int).toNat) ((Kd.R_reads' (Kd.R_after (ok:=(fun k_=>(P0_ k_∨w.heap.size≤k_))) (bK HO_0.out) hg hat)).2.2) KL30.out));have n4_:=Aside0.mk ((show Kd.C (Kd.int .i64) w34 A33 y141.length y141 from by rw[Ny141.out,KA33.out];exact Kd.C_drop (m:=(x5_1:Int).toNat) (c:=co29) ((Kd.R_reads' (Kd.R_after (ok:=(fun k_=>(P0_ k_∨w.heap.size≤k_))) (bK HO_0.out) hg hat)).2.2) KL33.out ((Kd.R_reads' (Kd.R_after (ok:=(fun k_=>(P0_ k_∨w.heap.size≤k_))) (bK HO_0.out) hg hat)).2.1)));have n5_:=Aside0.mk (ho);clear HO_0 HB HK HR134 HR144 HO140;have HO_0:=n0_;have HB:=n1_;have HK:=n2_;have HR134:=n3_;have HR144:=n4_;have HO147:=n5_;clear n0_ n1_ n2_ n3_ n4_ n5_;clear ho hb hg hat))
         go_ret
         exact⟨_,by first|rfl|(simp[errW_none,errW_some]<;>rfl)|(simp[*,errW_none,errW_some]<;>rfl),by(with_reducible repeat (first|apply Kd.R_alloc|apply Kd.R_drewN|apply Kd.R_drew));exact Kd.R_mono HO147.out (fun _ hk=>hk.1),by repeat (first|(with_reducible first|exact HB.out|apply below_alloc|apply pw_below_drewN|apply below_drew1)|exact HB.out),by repeat (first|(with_reducible first|exact HK.out|apply Kept.alloc|apply Kept.drewN|apply Kept.drew)|exact HK.out)⟩
        ·rw[if_neg c28] at H
         exact absurd H (by simp)
       ·rw[if_neg c25] at H
        exact absurd H (by simp)
      ·rw[if_neg c24] at H
       exact absurd H (by simp)
     ·rw[if_neg c23] at H
      exact absurd H (by simp)
    ·rw[if_neg c22] at H
     exact absurd H (by simp)

/-! ### spec_JoinMembers: function 71 -/
mutual
def spec_JoinMembers.j0:Nat→List Int→List Int→Bool→Option (List Int × Bool)
 | 0,_,_,_=>none
 | k+1,x0,x1,x16=>if x16=true then (some (([]:List Int),false)) else ((some (([]:List Int):List Int)).bind fun y150=>(if y150.length+x0.length < 17592186044416 then (spec_JoinMembers.l0 k (y150++x0) x1 (x1.length:Int) 0) else (none)))
def spec_JoinMembers.l0:Nat→List Int→List Int→Int→Int→Option (List Int × Bool)
 | 0,_,_,_,_=>none
 | k+1,x6,x20,x21,x22=>if x22 < x21 then (if 0≤x22 then (if x22 < (x20.length:Int) then ((spec_l7Put.f k x6 (rd x20 x22)).bind fun t157=>(spec_JoinMembers.l0 k t157 x20 x21 (wrap64 (x22+1)))) else (none)) else (none)) else (some (x6,true))
end
def spec_JoinMembers.f (k:Nat) (l0:List Int) (l1:List Int):Option (List Int × Bool):=(spec_l1Some.f k l0 8).bind fun t148=>(if t148=true then ((spec_l1Some.f k l1 8).bind fun t149=>(spec_JoinMembers.j0 k l0 l1 (!t149))) else (spec_JoinMembers.j0 k l0 l1 true))
theorem spec_JoinMembers.mono_l : ∀ k,(∀ y0 y1 y2,LeO (spec_JoinMembers.j0 k y0 y1 y2) (spec_JoinMembers.j0 (k+1) y0 y1 y2))∧(∀ y0 y1 y2 y3,LeO (spec_JoinMembers.l0 k y0 y1 y2 y3) (spec_JoinMembers.l0 (k+1) y0 y1 y2 y3))
 | 0=>⟨fun _ _ _ r h=>by simp[spec_JoinMembers.j0] at h,fun _ _ _ _ r h=>by simp[spec_JoinMembers.l0] at h⟩
 | k+1=>by
  obtain⟨ih0,ih1⟩:=spec_JoinMembers.mono_l k
  refine⟨?_,?_⟩
  ·intro y0 y1 y2
   unfold spec_JoinMembers.j0
   repeat' first
   | (with_reducible exact ih0 _ _ _)
   | (with_reducible exact ih1 _ _ _ _)
   | (with_reducible exact spec_l1Some.mono _ _ _)
   | (with_reducible exact spec_l7Put.mono _ _ _)
   | (with_reducible exact LeO.refl _)
   | (with_reducible exact LeO.none _)
   | (with_reducible refine LeO.ite ?_ ?_)
   | (with_reducible refine LeO.bind ?_ (fun _ => ?_))
   | exact ih0 _ _ _
   | exact ih1 _ _ _ _
   | exact spec_l1Some.mono _ _ _
   | exact spec_l7Put.mono _ _ _
   | exact LeO.none _
   | refine LeO.ite ?_ ?_
   | refine LeO.bind ?_ (fun _ => ?_)
  ·intro y0 y1 y2 y3
   unfold spec_JoinMembers.l0
   repeat' first
   | (with_reducible exact ih0 _ _ _)
   | (with_reducible exact ih1 _ _ _ _)
   | (with_reducible exact spec_l1Some.mono _ _ _)
   | (with_reducible exact spec_l7Put.mono _ _ _)
   | (with_reducible exact LeO.refl _)
   | (with_reducible exact LeO.none _)
   | (with_reducible refine LeO.ite ?_ ?_)
   | (with_reducible refine LeO.bind ?_ (fun _ => ?_))
   | exact ih0 _ _ _
   | exact ih1 _ _ _ _
   | exact spec_l1Some.mono _ _ _
   | exact spec_l7Put.mono _ _ _
   | exact LeO.none _
   | refine LeO.ite ?_ ?_
   | refine LeO.bind ?_ (fun _ => ?_)
theorem spec_JoinMembers.mono : ∀ a0 a1 k,LeO (spec_JoinMembers.f k a0 a1) (spec_JoinMembers.f (k+1) a0 a1):=by
 intro a0 a1 k
 obtain⟨ih0,ih1⟩:=spec_JoinMembers.mono_l k
 unfold spec_JoinMembers.f
 repeat' first
  | (with_reducible exact ih0 _ _ _)
  | (with_reducible exact ih1 _ _ _ _)
  | (with_reducible exact spec_l1Some.mono _ _ _)
  | (with_reducible exact spec_l7Put.mono _ _ _)
  | (with_reducible exact LeO.refl _)
  | (with_reducible exact LeO.none _)
  | (with_reducible refine LeO.ite ?_ ?_)
  | (with_reducible refine LeO.bind ?_ (fun _ => ?_))
  | exact ih0 _ _ _
  | exact ih1 _ _ _ _
  | exact spec_l1Some.mono _ _ _
  | exact spec_l7Put.mono _ _ _
  | exact LeO.none _
  | refine LeO.ite ?_ ?_
  | refine LeO.bind ?_ (fun _ => ?_)
set_option maxHeartbeats 8000000 in
set_option maxRecDepth 100000 in
theorem spec_JoinMembers.calls (k:Nat) (A0:Option Addr) (c0:Nat) (l0:List Int) (A1:Option Addr) (c1:Nat) (l1:List Int) (r1:List Int) (r2:Bool) (w:World) (hr0:Kd.C (Kd.int .i64) w A0 l0.length l0) (hc0:l0.length≤c0) (hr1:Kd.C (Kd.int .i64) w A1 l1.length l1) (hc1:l1.length≤c1) (h:spec_JoinMembers.f k l0 l1=some (r1,r2)) :
  Calls Try.prog 71 #[.slice A0 l0.length c0,.slice A1 l1.length c1] w fun e w' => ∃ v0_:Value,e=.returned (.tuple #[v0_,.bool r2])∧Kd.R (Kd.int .i64) 3 w' w.heap.size (fun _=>True) v0_ r1∧Below w.heap.size w w':=by
 have HR0:=Aside0.mk hr0
 have HC0:=Aside0.mk hc0
 clear hr0 hc0
 have HR1:=Aside0.mk hr1
 have HC1:=Aside0.mk hc1
 clear hr1 hc1
 have HB:=Aside0.mk (Below.refl w.heap.size w)
 have H:((spec_l1Some.f k l0 8).bind fun t148=>(if t148=true then ((spec_l1Some.f k l1 8).bind fun t149=>(spec_JoinMembers.j0 k l0 l1 (!t149))) else (spec_JoinMembers.j0 k l0 l1 true)))=some (r1,r2):=h
 clear h
 have HC3:=Aside0.mk H
 clear H
 go_enter Try.func71,Try.ntmps71
 go_upto_region 1 with (fail)
 go_cut [16] (fun v16 wc => ∃ (kq:Nat) (x16_2:Bool),v16=.bool x16_2∧Aside0 (spec_JoinMembers.j0 kq l0 l1 x16_2=some (r1,r2))∧Aside0 (kq≤k)∧Aside0 (Below w.heap.size w wc))
 case first =>
  have H:=HC3.out
  clear HC3
  replace H:=Option.bind_eq_some_iff.mp H
  obtain⟨t148,A40,H⟩:=H
  replace H:(if t148=true then ((spec_l1Some.f k l1 8).bind fun t149=>(spec_JoinMembers.j0 k l0 l1 (!t149))) else (spec_JoinMembers.j0 k l0 l1 true))=some (r1,r2):=H
  have A4:=Aside0.mk A40
  clear A40
  by_cases c5:t148=true
  ·subst c5
   have H1:((spec_l1Some.f k l1 8).bind fun t149=>(spec_JoinMembers.j0 k l0 l1 (!t149)))=some (r1,r2):=by rw[if_pos rfl] at H;exact H
   clear H
   have H:=H1
   clear H1
   replace H:=Option.bind_eq_some_iff.mp H
   obtain⟨t149,A60,H⟩:=H
   replace H:(spec_JoinMembers.j0 k l0 l1 (!t149))=some (r1,r2):=H
   have A6:=Aside0.mk A60
   clear A60
   have H':=Aside0.mk H
   clear H
   go_wp2_with (first|((with_reducible refine gate_callee (f:=132) rfl ?_);refine goesA (some 10) rfl rfl Try.func132 #[.slice A0 l0.length c0,.int .i64 8] rfl ?_;(with_reducible refine(spec_l1Some.calls k _ _ l0 8 true _ ?side1 ?side2 A4.out).mono ?_);(case side1=>exact bC HR0.out);(case side2=>exact HC0.out);rintro e w' ⟨rfl,⟨nd,rfl⟩⟩;refine⟨_,rfl,?_⟩)|(go_at_call 132;(with_reducible refine(spec_l1Some.calls k _ _ l1 8 t149 _ ?side1 ?side2 A6.out).mono ?_);(case side1=>repeat (first|exact(Kd.C_below HR1.out (bB))|(with_reducible refine Kd.C_alloc ?_ _)|(with_reducible refine Kd.C_drewN ?_ _)|(with_reducible refine Kd.C_drew ?_)));(case side2=>exact HC1.out);rintro e w' ⟨rfl,⟨nd,rfl⟩⟩))
   go_meet
   case rel=>exact⟨_,(!t149),(bR),H',⟨by first|omega|exact Nat.le_refl _⟩,⟨by repeat (first|(with_reducible first|exact HB.out|apply below_alloc|apply pw_below_drewN|apply below_drew1)|exact HB.out)⟩⟩
  ·replace c5:=Bool.eq_false_iff.mpr c5
   subst c5
   have H1:(spec_JoinMembers.j0 k l0 l1 true)=some (r1,r2):=by rw[if_neg (show ¬ (false=true) by decide)] at H;exact H
   clear H
   have H:=H1
   clear H1
   have H':=Aside0.mk H
   clear H
   go_wp2_with (first|((with_reducible refine gate_callee (f:=132) rfl ?_);refine goesA (some 10) rfl rfl Try.func132 #[.slice A0 l0.length c0,.int .i64 8] rfl ?_;(with_reducible refine(spec_l1Some.calls k _ _ l0 8 false _ ?side1 ?side2 A4.out).mono ?_);(case side1=>exact bC HR0.out);(case side2=>exact HC0.out);rintro e w' ⟨rfl,⟨nd,rfl⟩⟩;refine⟨_,rfl,?_⟩))
   go_meet
   case rel=>exact⟨_,(true),(bR),H',⟨by first|omega|exact Nat.le_refl _⟩,⟨by repeat (first|(with_reducible first|exact HB.out|apply below_alloc|apply pw_below_drewN|apply below_drew1)|exact HB.out)⟩⟩
 case rest =>
  clear HC3
  try clear c1
  try clear p2
  try clear c5
  obtain⟨kq,x16_2,rfl,HA,HJ2,HB⟩:=hcut
  cases kq with
  | zero=>exact absurd HA.out (by simp[spec_JoinMembers.j0])
  | succ kj2 =>
   have H:=HA.out
   clear HA
   simp only[spec_JoinMembers.j0] at H
   by_cases c7:x16_2=true
   ·subst c7
    have H1:(some (([]:List Int),false))=some (r1,r2):=by rw[if_pos rfl] at H;exact H
    clear H
    have H:=H1
    clear H1
    simp only[Option.some.injEq,Prod.mk.injEq] at H
    obtain⟨rfl,rfl⟩:=H
    go_wp2
    go_ret2
    exact⟨_,by first|rfl|(simp[errW_none,errW_some]<;>rfl)|(simp[*,errW_none,errW_some]<;>rfl),by first|exact Kd.R_nil _ _ _ _ _|exact Kd.N_nil _ _ _ _ _|exact Kd.V_nil _ _ _ _ _|exact Kd.Q_nil _ _ _ _ _|exact Kd.S_nil _ _ _ _ _,bB⟩
   ·replace c7:=Bool.eq_false_iff.mpr c7
    subst c7
    have H1:((some (([]:List Int):List Int)).bind fun y150=>(if y150.length+l0.length < 17592186044416 then (spec_JoinMembers.l0 kj2 (y150++l0) l1 (l1.length:Int) 0) else (none)))=some (r1,r2):=by rw[if_neg (show ¬ (false=true) by decide)] at H;exact H
    clear H
    have H:=H1
    clear H1
    obtain⟨y150,hy150⟩ : ∃ y_:List Int,y_=(([]:List Int)):=⟨_,rfl⟩
    replace H:(if y150.length+l0.length < 17592186044416 then (spec_JoinMembers.l0 kj2 (y150++l0) l1 (l1.length:Int) 0) else (none))=some (r1,r2):=by first|(rw[hy150];with_reducible exact H)|(have H2_:=(Option.bind_some _ _).symm.trans H;rw[hy150];with_reducible exact H2_)|(have H2_:=(Option.bind_some _ _).symm.trans H;with_reducible exact H2_)|with_reducible exact H|(rw[hy150];exact H)|exact H
    have Ny150:=Aside0.mk hy150
    clear hy150
    by_cases c8:y150.length+l0.length < 17592186044416
    ·rw[if_pos c8] at H
     have LMc8:=Aside0.mk c8
     clear c8
     obtain⟨y153,hy153⟩ : ∃ y_:List Int,y_=(y150++l0):=⟨_,rfl⟩
     replace H:(spec_JoinMembers.l0 kj2 y153 l1 (l1.length:Int) 0)=some (r1,r2):=by first|(rw[hy153];with_reducible exact H)|(have H2_:=(Option.bind_some _ _).symm.trans H;rw[hy153];with_reducible exact H2_)|(have H2_:=(Option.bind_some _ _).symm.trans H;with_reducible exact H2_)|with_reducible exact H|(rw[hy153];exact H)|exact H
     have Ny153:=Aside0.mk hy153
     clear hy153
     have H':=Aside0.mk H
     clear H
     go_wp2_with (first|((with_reducible refine gate_dst (N:=17) rfl ?_);refine Kd.R_lit (Kd.int .i64) _ 3 ?hg (N:=17) ?hd (xs:=([]:List Int)) (inner:=[]) (ok:=fun _=>True) (okp:=fun _=>True) ?hr ?hp (fun _ hk=>hk) trivial (Below.refl _ _) (Nat.le_refl _) (by simp) ?_;(case hd=>rfl);(case hg=>rfl);(case hr=>first|(go_simp;done)|(go_simp;rfl));(case hp=>exact(Reps.none _ _));intro v151 w9 ho10 hb hg_ hnew_;clear hg_ hnew_;(first|rw[← Ny150.out] at ho10|(simp only[Int.reduceToNat] at ho10;rw[← Ny150.out] at ho10));have n0_:=Aside0.mk (Kd.R_lower ho10 (below_size (bB)));have n1_:=Aside0.mk (below_step (bB) hb);clear HB;have HO152:=n0_;have HB:=n1_;clear n0_ n1_;clear hb ho10)|((with_reducible refine gate_builtin (b:=.append) (xs:=#[.tmp 17,.tmp 18]) rfl ?_);at_builtin;refine Kd.R_append_rows (Kd.int .i64) (w0:=w) w.heap.size rfl (.tmp 17) (.tmp 18) 37 3 (.int .i64 0) 8 rfl Try.underlying37 info3 rfl (by decide) (by omega) v151 y150 l0 _ _ _ (fun _=>True) (fun _=>False) rfl rfl ?aO ?aR (fun _ _ h=>h) (fun _ h=>h.elim) ?aF ?aB ?aS ?aL ?_;(case aR=>exact bC HR0.out);(case aB=>exact(bB));(case aF=>exact(fun _ _=>trivial));(case aO=>exact(bK HO152.out));(case aS=>exact(below_size (bB)));(case aL=>have:=LMc8.out;omega);intro v154 w11 ho hb hg hat;rw[← Ny153.out] at ho;have n0_:=Aside0.mk (hb);have n1_:=Aside0.mk (ho);clear HB HO152;have HB:=n0_;have HO155:=n1_;clear n0_ n1_;clear ho hb hg hat))
     go_loopg [6,22] kj2 (fun kq v6 v22 w' => ∃ (x6_2:List Int) (x22_2:Int),v22=.int .i64 x22_2∧Aside0 (spec_JoinMembers.l0 kq x6_2 l1 (l1.length:Int) x22_2=some (r1,r2))∧Aside0 (kq≤kj2)∧Aside0 (Kd.R (Kd.int .i64) 3 w' w.heap.size (fun _=>True) v6 x6_2)∧Aside0 (Below w.heap.size w w'))
     case atStart=>exact⟨(y153),(0),(bR),H',⟨Nat.le_refl _⟩,⟨by(with_reducible repeat (first|apply Kd.R_alloc|apply Kd.R_drewN|apply Kd.R_drew));exact HO155.out⟩,⟨by repeat (first|(with_reducible first|exact HB.out|apply below_alloc|apply pw_below_drewN|apply below_drew1)|exact HB.out)⟩⟩
     case round =>
      clear H'
      try clear c1
      try clear p2
      try clear c5
      try clear c7
      try clear c8
      try clear p2
      obtain⟨x6_2,x22_2,rfl,HA,HK2,HO_6,HB⟩:=hrel
      cases gk with
      | zero=>exact absurd HA.out (by simp[spec_JoinMembers.l0])
      | succ k2 =>
       have H:=HA.out
       clear HA
       simp only[spec_JoinMembers.l0] at H
       by_cases c12:x22_2 < (l1.length:Int)
       ·rw[if_pos c12] at H
        have c12b0:decide (x22_2 < (l1.length:Int))=true:=decide_eq_true c12
        clear c12
        by_cases c13:0≤x22_2
        ·rw[if_pos c13] at H
         have c13b0:decide (0≤x22_2)=true:=decide_eq_true c13
         clear c13
         by_cases c14:x22_2 < (l1.length:Int)
         ·rw[if_pos c14] at H
          have c14b0:decide (x22_2 < (l1.length:Int))=true:=decide_eq_true c14
          clear c14
          replace H:=Option.bind_eq_some_iff.mp H
          obtain⟨t157,A150,H⟩:=H
          replace H:(spec_JoinMembers.l0 k2 t157 l1 (l1.length:Int) (wrap64 (x22_2+1)))=some (r1,r2):=H
          have A15:=Aside0.mk A150
          clear A150
          have H':=Aside0.mk H
          clear H
          have p156:0≤(x22_2:Int):=of_decide_eq_true (bD)
          have q156:x22_2 < (l1.length:Int):=of_decide_eq_true (bD)
          obtain⟨ad156,e156,hx156_0⟩:=Kd.at_int HR1.out x22_2 p156 q156
          cases e156
          replace hx156_0:=(HB.out.cell (World.block_lt_of_cell? w _ hx156_0)).trans hx156_0
          replace p156:=eq_true p156
          replace q156:=eq_true q156
          obtain⟨Ao16,co16,eo16⟩:=Kd.R_slice HO_6.out
          subst eo16
          go_wp2_with (first|((with_reducible refine gate_callee (f:=133) rfl ?_);refine goesA (some 28) rfl rfl Try.func133 #[.slice Ao16 x6_2.length co16,.int .i64 (rd l1 x22_2)] rfl ?_;(with_reducible refine(spec_l7Put.calls k2 (fun k_=>some k_=(.slice Ao16 x6_2.length co16:Value).ownBlock) (.slice Ao16 x6_2.length co16) x6_2 (rd l1 x22_2) t157 w _ ?side1 ?side2 A15.out).mono ?_);(case side1=>repeat (first|(with_reducible first|exact HB.out|apply below_alloc|apply pw_below_drewN|apply below_drew1)|exact HB.out));(case side2=>exact Kd.R_tight rfl HO_6.out);rintro e w17 ⟨v158,rfl,ho0,hb,hkp⟩;refine⟨_,rfl,?_⟩;have n0_:=Aside0.mk (Kd.R_mono (ok':=fun k_=>True) ho0 (fun k_ hk_=>trivial));have n1_:=Aside0.mk (hb);clear HB HO_6;have HO159:=n0_;have HB:=n1_;clear n0_ n1_;(try clear hb);(try clear hkp);(try clear ho0)))
          go_roundg k2
          case measure=>have:=HJ2.out;have:=HK2.out;omega
          case rel=>exact⟨(t157),(wrap64 (x22_2+1)),(bR),H',⟨by have:=HJ2.out;have:=HK2.out;omega⟩,⟨by(with_reducible repeat (first|apply Kd.R_alloc|apply Kd.R_drewN|apply Kd.R_drew));exact HO159.out⟩,⟨by repeat (first|(with_reducible first|exact HB.out|apply below_alloc|apply pw_below_drewN|apply below_drew1)|exact HB.out)⟩⟩
         ·rw[if_neg c14] at H
          exact absurd H (by simp)
        ·rw[if_neg c13] at H
         exact absurd H (by simp)
       ·rw[if_neg c12] at H
        have c12b0:decide (x22_2 < (l1.length:Int))=false:=decide_eq_false c12
        clear c12
        simp only[Option.some.injEq,Prod.mk.injEq] at H
        obtain⟨rfl,rfl⟩:=H
        go_wp2
        go_ret2
        exact⟨_,by first|rfl|(simp[errW_none,errW_some]<;>rfl)|(simp[*,errW_none,errW_some]<;>rfl),by(with_reducible repeat (first|apply Kd.R_alloc|apply Kd.R_drewN|apply Kd.R_drew));exact HO_6.out,bB⟩
    ·rw[if_neg c8] at H
     exact absurd H (by simp)

/-! ### impl_rise: function 164 -/
def impl_rise.l0:Nat→List Int→Int→List Int→Int→Int→Option (Bool)
 | 0,_,_,_,_,_=>none
 | k+1,x0,x1,x7,x8,x9=>if x9 < x8 then (if 0≤x9 then (if x9 < (x7.length:Int) then (if (rd x7 x9) < 0 then (some false) else (if (rd x7 x9) ≥ x1 then (some false) else (if x9 > 0 then (if 0≤(wrap64 (x9 - 1)) then (if (wrap64 (x9 - 1)) < (x0.length:Int) then (if (rd x7 x9)≤(rd x0 (wrap64 (x9 - 1))) then (some false) else (impl_rise.l0 k x0 x1 x7 x8 (wrap64 (x9+1)))) else (none)) else (none)) else (impl_rise.l0 k x0 x1 x7 x8 (wrap64 (x9+1)))))) else (none)) else (none)) else (some true)
def impl_rise.f (k:Nat) (l0:List Int) (a1:Int):Option (Bool):=impl_rise.l0 k l0 a1 l0 (l0.length:Int) 0
theorem impl_rise.mono_l : ∀ k,(∀ y0 y1 y2 y3 y4,LeO (impl_rise.l0 k y0 y1 y2 y3 y4) (impl_rise.l0 (k+1) y0 y1 y2 y3 y4))
 | 0=>fun _ _ _ _ _ r h=>by simp[impl_rise.l0] at h
 | k+1=>by
  have ih0:=impl_rise.mono_l k
  ·intro y0 y1 y2 y3 y4
   unfold impl_rise.l0
   repeat' first
   | (with_reducible exact ih0 _ _ _ _ _)
   | (with_reducible exact LeO.refl _)
   | (with_reducible exact LeO.none _)
   | (with_reducible refine LeO.ite ?_ ?_)
   | (with_reducible refine LeO.bind ?_ (fun _ => ?_))
   | exact ih0 _ _ _ _ _
   | exact LeO.none _
   | refine LeO.ite ?_ ?_
   | refine LeO.bind ?_ (fun _ => ?_)
theorem impl_rise.mono : ∀ a0 a1 k,LeO (impl_rise.f k a0 a1) (impl_rise.f (k+1) a0 a1):=by
 intro a0 a1 k
 have ih0:=impl_rise.mono_l k
 unfold impl_rise.f
 repeat' first
  | (with_reducible exact ih0 _ _ _ _ _)
  | (with_reducible exact LeO.refl _)
  | (with_reducible exact LeO.none _)
  | (with_reducible refine LeO.ite ?_ ?_)
  | (with_reducible refine LeO.bind ?_ (fun _ => ?_))
  | exact ih0 _ _ _ _ _
  | exact LeO.none _
  | refine LeO.ite ?_ ?_
  | refine LeO.bind ?_ (fun _ => ?_)
set_option maxHeartbeats 8000000 in
set_option maxRecDepth 100000 in
theorem impl_rise.calls (k:Nat) (A0:Option Addr) (c0:Nat) (l0:List Int) (a1:Int) (r:Bool) (w:World) (hr0:Kd.C (Kd.int .i64) w A0 l0.length l0) (hc0:l0.length≤c0) (h:impl_rise.f k l0 a1=some r) :
  Calls Try.prog 164 #[.slice A0 l0.length c0,.int .i64 a1] w fun e w'=>e=.returned (.bool r)∧Drawn0 w w':=by
 have HR0:=Aside0.mk hr0
 have HC0:=Aside0.mk hc0
 clear hr0 hc0
 have H:(impl_rise.l0 k l0 a1 l0 (l0.length:Int) 0)=some r:=h
 clear h
 have H':=Aside0.mk H
 clear H
 go_enter Try.func164,Try.ntmps164
 go_wp2
 go_loopg [9] k (fun kq v9 w' => ∃ (x9_1:Int),v9=.int .i64 x9_1∧Aside0 (impl_rise.l0 kq l0 a1 l0 (l0.length:Int) x9_1=some r)∧Aside0 (kq≤k)∧Drawn0 w w')
 case atStart=>exact⟨(0),(bR),H',⟨Nat.le_refl _⟩,bW⟩
 case round =>
  clear H'
  try clear c1
  try clear p2
  obtain⟨x9_1,rfl,HA,HK1,⟨m1,rfl⟩⟩:=hrel
  cases gk with
  | zero=>exact absurd HA.out (by simp[impl_rise.l0])
  | succ k1 =>
   have H:=HA.out
   clear HA
   simp only[impl_rise.l0] at H
   by_cases c3:x9_1 < (l0.length:Int)
   ·rw[if_pos c3] at H
    have c3b0:decide (x9_1 < (l0.length:Int))=true:=decide_eq_true c3
    clear c3
    by_cases c4:0≤x9_1
    ·rw[if_pos c4] at H
     have c4b0:decide (0≤x9_1)=true:=decide_eq_true c4
     clear c4
     by_cases c5:x9_1 < (l0.length:Int)
     ·rw[if_pos c5] at H
      have c5b0:decide (x9_1 < (l0.length:Int))=true:=decide_eq_true c5
      clear c5
      by_cases c6:(rd l0 x9_1) < 0
      ·rw[if_pos c6] at H
       have c6b0:decide ((rd l0 x9_1) < 0)=true:=decide_eq_true c6
       clear c6
       obtain rfl:=Option.some.inj H
       have p160:0≤(x9_1:Int):=of_decide_eq_true (bD)
       have q160:x9_1 < (l0.length:Int):=of_decide_eq_true (bD)
       obtain⟨ad160,e160,hx160_0⟩:=Kd.at_int HR0.out x9_1 p160 q160
       cases e160
       replace p160:=eq_true p160
       replace q160:=eq_true q160
       go_wp2
       go_ret
       exact⟨bR,bW⟩
      ·rw[if_neg c6] at H
       have c6b0:decide ((rd l0 x9_1) < 0)=false:=decide_eq_false c6
       clear c6
       by_cases c7:(rd l0 x9_1) ≥ a1
       ·rw[if_pos c7] at H
        have c7b0:decide (a1≤(rd l0 x9_1))=true:=decide_eq_true c7
        clear c7
        obtain rfl:=Option.some.inj H
        have p160:0≤(x9_1:Int):=of_decide_eq_true (bD)
        have q160:x9_1 < (l0.length:Int):=of_decide_eq_true (bD)
        obtain⟨ad160,e160,hx160_0⟩:=Kd.at_int HR0.out x9_1 p160 q160
        cases e160
        replace p160:=eq_true p160
        replace q160:=eq_true q160
        go_wp2
        go_ret
        exact⟨bR,bW⟩
       ·rw[if_neg c7] at H
        have c7b0:decide (a1≤(rd l0 x9_1))=false:=decide_eq_false c7
        clear c7
        by_cases c8:x9_1 > 0
        ·rw[if_pos c8] at H
         have c8b0:decide (0 < x9_1)=true:=decide_eq_true c8
         clear c8
         obtain⟨ji9,hji9⟩ : ∃ j_:Int,(wrap64 (x9_1 - 1))=j_:=⟨_,rfl⟩
         replace H:(if 0≤(ji9) then (if (ji9) < (l0.length:Int) then (if (rd l0 x9_1)≤(rd l0 (ji9)) then (some false) else (impl_rise.l0 k1 l0 a1 l0 (l0.length:Int) (wrap64 (x9_1+1)))) else (none)) else (none))=some r:=by first|(rw[hji9] at H;exact H)|(simp only[hji9] at H ⊢;exact H)
         have hji9w:(IntKind.i64.wrap (x9_1 - 1))=ji9:=(i64_w _).trans hji9
         by_cases c10:0≤(ji9)
         ·rw[if_pos c10] at H
          have c10b0:decide (0≤(ji9))=true:=decide_eq_true c10
          clear c10
          by_cases c11:(ji9) < (l0.length:Int)
          ·rw[if_pos c11] at H
           have c11b0:decide ((ji9) < (l0.length:Int))=true:=decide_eq_true c11
           clear c11
           by_cases c12:(rd l0 x9_1)≤(rd l0 (ji9))
           ·rw[if_pos c12] at H
            have c12b0:decide ((rd l0 x9_1)≤(rd l0 (ji9)))=true:=decide_eq_true c12
            clear c12
            obtain rfl:=Option.some.inj H
            have p160:0≤(x9_1:Int):=of_decide_eq_true (bD)
            have q160:x9_1 < (l0.length:Int):=of_decide_eq_true (bD)
            obtain⟨ad160,e160,hx160_0⟩:=Kd.at_int HR0.out x9_1 p160 q160
            cases e160
            replace p160:=eq_true p160
            replace q160:=eq_true q160
            have p161:0≤((ji9):Int):=of_decide_eq_true (bD)
            have q161:(ji9) < (l0.length:Int):=of_decide_eq_true (bD)
            obtain⟨ad161,e161,hx161_0⟩:=Kd.at_int HR0.out (ji9) p161 q161
            obtain rfl:ad160=ad161:=(by injection e161)
            replace p161:=eq_true p161
            replace q161:=eq_true q161
            go_wp2
            go_ret
            exact⟨by first|rfl|(simp;done)|(simp only[← hji9]<;>(first|rfl|simp))|(simp[*];done),bW⟩
           ·rw[if_neg c12] at H
            have c12b0:decide ((rd l0 x9_1)≤(rd l0 (ji9)))=false:=decide_eq_false c12
            clear c12
            have H':=Aside0.mk H
            clear H
            have p160:0≤(x9_1:Int):=of_decide_eq_true (bD)
            have q160:x9_1 < (l0.length:Int):=of_decide_eq_true (bD)
            obtain⟨ad160,e160,hx160_0⟩:=Kd.at_int HR0.out x9_1 p160 q160
            cases e160
            replace p160:=eq_true p160
            replace q160:=eq_true q160
            have p161:0≤((ji9):Int):=of_decide_eq_true (bD)
            have q161:(ji9) < (l0.length:Int):=of_decide_eq_true (bD)
            obtain⟨ad161,e161,hx161_0⟩:=Kd.at_int HR0.out (ji9) p161 q161
            obtain rfl:ad160=ad161:=(by injection e161)
            replace p161:=eq_true p161
            replace q161:=eq_true q161
            go_wp2
            go_roundg k1
            case measure=>have:=HK1.out;omega
            case rel=>exact⟨(wrap64 (x9_1+1)),(bR),H',⟨by have:=HK1.out;omega⟩,bW⟩
          ·rw[if_neg c11] at H
           exact absurd H (by simp)
         ·rw[if_neg c10] at H
          exact absurd H (by simp)
        ·rw[if_neg c8] at H
         have c8b0:decide (0 < x9_1)=false:=decide_eq_false c8
         clear c8
         have H':=Aside0.mk H
         clear H
         have p160:0≤(x9_1:Int):=of_decide_eq_true (bD)
         have q160:x9_1 < (l0.length:Int):=of_decide_eq_true (bD)
         obtain⟨ad160,e160,hx160_0⟩:=Kd.at_int HR0.out x9_1 p160 q160
         cases e160
         replace p160:=eq_true p160
         replace q160:=eq_true q160
         go_wp2
         go_roundg k1
         case measure=>have:=HK1.out;omega
         case rel=>exact⟨(wrap64 (x9_1+1)),(bR),H',⟨by have:=HK1.out;omega⟩,bW⟩
     ·rw[if_neg c5] at H
      exact absurd H (by simp)
    ·rw[if_neg c4] at H
     exact absurd H (by simp)
   ·rw[if_neg c3] at H
    have c3b0:decide (x9_1 < (l0.length:Int))=false:=decide_eq_false c3
    clear c3
    obtain rfl:=Option.some.inj H
    go_wp2
    go_ret
    exact⟨bR,bW⟩

/-! ### impl_areMembers: function 130 -/
def impl_areMembers.f (k:Nat) (l0:List Int):Option (Bool):=(impl_rise.f k l0 8).bind fun t162=>(some t162)
theorem impl_areMembers.mono : ∀ a0 k,LeO (impl_areMembers.f k a0) (impl_areMembers.f (k+1) a0):=by
 intro a0 k
 unfold impl_areMembers.f
 repeat' first
  | (with_reducible exact impl_rise.mono _ _ _)
  | (with_reducible exact LeO.refl _)
  | (with_reducible exact LeO.none _)
  | (with_reducible refine LeO.ite ?_ ?_)
  | (with_reducible refine LeO.bind ?_ (fun _ => ?_))
  | exact impl_rise.mono _ _ _
  | exact LeO.none _
  | refine LeO.ite ?_ ?_
  | refine LeO.bind ?_ (fun _ => ?_)
set_option maxHeartbeats 8000000 in
set_option maxRecDepth 100000 in
theorem impl_areMembers.calls (k:Nat) (A0:Option Addr) (c0:Nat) (l0:List Int) (r:Bool) (w:World) (hr0:Kd.C (Kd.int .i64) w A0 l0.length l0) (hc0:l0.length≤c0) (h:impl_areMembers.f k l0=some r) :
  Calls Try.prog 130 #[.slice A0 l0.length c0] w fun e w'=>e=.returned (.bool r)∧Drawn0 w w':=by
 have HR0:=Aside0.mk hr0
 have HC0:=Aside0.mk hc0
 clear hr0 hc0
 have H:((impl_rise.f k l0 8).bind fun t162=>(some t162))=some r:=h
 clear h
 replace H:=Option.bind_eq_some_iff.mp H
 obtain⟨t162,A20,H⟩:=H
 have A2:=Aside0.mk A20
 clear A20
 obtain rfl:=Option.some.inj H
 go_enter Try.func130,Try.ntmps130
 go_wp2_with (first|((with_reducible refine gate_callee (f:=164) rfl ?_);refine goesA (some 4) rfl rfl Try.func164 #[.slice A0 l0.length c0,.int .i64 8] rfl ?_;(with_reducible refine(impl_rise.calls k _ _ l0 8 t162 _ ?side1 ?side2 A2.out).mono ?_);(case side1=>repeat (first|exact HR0.out|(with_reducible refine Kd.C_alloc ?_ _)|(with_reducible refine Kd.C_drewN ?_ _)|(with_reducible refine Kd.C_drew ?_)));(case side2=>exact HC0.out);rintro e w' ⟨rfl,⟨nd,rfl⟩⟩;refine⟨_,rfl,?_⟩))
 go_ret
 exact⟨bR,bW⟩

/-! ### slices_Grow_int_int: function 165, by hand: at nil alone -/
def slices_Grow_int_int.f (l0:List Int) (a1:Int):Option (List Int):=if l0.length=0∧0≤a1∧a1≤1000000000000 then some [] else none
/-- HAND: the walk. -/
theorem slices_Grow_int_int_wrap (a:Int) (h:0≤a∧a≤1000000000000):wrap64 a=a:=by
 unfold wrap64
 omega
theorem slices_Grow_int_int_info:(Try.prog.info? 3).map (fun i=>(i.zero,i.size,i.bytes))=some (some (.int .i64 0),1,8):=by kernel_rfl
set_option maxHeartbeats 8000000 in
set_option maxRecDepth 100000 in
theorem slices_Grow_int_int.calls (A0:Option Addr) (c0:Nat) (l0:List Int) (a1:Int) (r:List Int) (w:World) (hr0:Kd.C (Kd.int .i64) w A0 l0.length l0) (hc0:l0.length≤c0) (h:slices_Grow_int_int.f l0 a1=some r) (hA_:A0=none:=by rfl) (hC_:c0=0:=by rfl) :
  Calls Try.prog 165 #[.slice A0 l0.length c0,.int .i64 a1] w fun e w' => ∃ v0_:Value,e=.returned (v0_)∧Kd.R (Kd.int .i64) 3 w' w.heap.size (fun _=>True) v0_ r∧Below w.heap.size w w':=by
 subst hA_
 subst hC_
 unfold slices_Grow_int_int.f at h
 by_cases c1:l0.length=0∧0≤a1∧a1≤1000000000000
 case neg=>rw[if_neg c1] at h;cases h
 rw[if_pos c1] at h
 obtain rfl:=Option.some.inj h
 obtain⟨hl,c2,c3⟩:=c1
 obtain rfl:=List.eq_nil_of_length_eq_zero hl
 clear h hr0 hc0 hl
 have hw:=slices_Grow_int_int_wrap a1 ⟨c2,c3⟩
 have hd1:decide (a1 < 0)=false:=decide_eq_false (by omega)
 have HB:=Aside0.mk (Below.refl w.heap.size w)
 have HW:=Aside0.mk hw
 by_cases c4:0 < a1
 ·have hd2:decide (0 < a1)=true:=decide_eq_true c4
  have HZ:=Aside0.mk c3
  have HY:=Aside0.mk c2
  clear c2 c3 c4
  go_enter Try.func165,Try.ntmps165
  go_wp2_with (first|(at_builtin;refine Kd.R_append_zeros (Kd.int .i64) (w0:=w) w.heap.size rfl (.tmp 20) (.tmp 21) 37 3 3 (.int .i64 0) 8 rfl Try.underlying37 Try.underlying3 slices_Grow_int_int_info rfl (by decide) (by omega) (.slice none 0 0) ([]:List Int) 0 (wrap64 a1) (fun _=>True) rfl rfl rfl (fun _ _=>trivial) ?aO (by rw[HW.out];exact HY.out) ?aB ?aS ?aL ?_;(case aO=>exact Kd.R_nil _ _ _ _ _);(case aB=>repeat (first|(with_reducible first|exact HB.out|apply below_alloc|apply pw_below_drewN|apply below_drew1)|exact HB.out));(case aS=>exact below_size (bB));(case aL=>have:=HZ.out;have:=HY.out;rw[HW.out];simp only[List.length_nil];omega);intro v1 w1 hr hb hg hat;clear hg hat;obtain⟨g,cap,ev,_,_,_⟩:=Kd.R_form hr (by have:=HY.out;rw[HW.out];simp only[List.nil_append,List.length_replicate];have:=of_decide_eq_true hd2;omega);subst ev;have HO:=Aside0.mk hr;have n1_:=Aside0.mk hb;clear HB hr hb;have HB:=n1_;clear n1_))
  go_ret
  exact⟨_,rfl,Kd.R_take (m:=0) HO.out (Nat.zero_le _),HB.out⟩
 ·have hd2:decide (0 < a1)=false:=decide_eq_false c4
  go_enter Try.func165,Try.ntmps165
  go_wp2
  go_ret
  exact⟨_,rfl,Kd.R_nil _ _ _ _ _,Below.refl _ _⟩


end Go.Proofs.Yteneeohaoplpbaa.XFnExactJoinMembers
