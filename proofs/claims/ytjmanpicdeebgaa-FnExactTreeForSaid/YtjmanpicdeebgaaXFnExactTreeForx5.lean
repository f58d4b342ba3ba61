-- Written by this session's own program (wip/xprint.py) out of the translation; Lean checks it.
import Derived.Test.YtjmanpicdeebgaaXFnExactTreeForx0
import Derived.Test.YtjmanpicdeebgaaXFnExactTreeForx2
import Derived.Test.YtjmanpicdeebgaaXFnExactTreeForx4
namespace Go.Proofs.Ytjmanpicdeebgaa.XFnExactTreeFor
open Go.RowKit Go.Proofs.YtjmanpicdeebgaaW.PrintWords Go.Proofs.YtjmanpicdeebgaaW.PrintLast Go.Proofs.YtjmanpicdeebgaaW.PrintMore
attribute [local go_sem] max2_int min2_int max_two min_two max_three min_three max_four min_four   -- for this text's walks alone
set_option linter.unusedVariables false
set_option linter.unusedSimpArgs false

/-! ### spec_l7Put: function 124 -/
def spec_l7Put.l0:Nat→List Int→Int→Int→Option (List Int)
 | 0,_,_,_=>none
 | k+1,x0,x1,x5=>if x5 < (x0.length:Int) then (if 0≤x5 then (if (rd x0 x5) < x1 then (spec_l7Put.l0 k x0 x1 (wrap64 (x5+1))) else (if (rd x0 x5)=x1 then (some x0) else (if x5≤(x0.length:Int) then ((some (x0.take (x5:Int).toNat:List Int)).bind fun y180=>(if ([]:List Int).length+y180.length < 17592186044416 then ((some (([]:List Int)++y180:List Int)).bind fun y184=>(if y184.length < 17592186044416 then ((some (y184++[x1]:List Int)).bind fun y187=>((some (x0.drop (x5:Int).toNat:List Int)).bind fun y190=>(if y187.length+y190.length < 17592186044416 then (some (y187++y190)) else (none)))) else (none))) else (none))) else (none)))) else (none)) else (if 0≤x5 then (if x5≤(x0.length:Int) then ((some (x0.take (x5:Int).toNat:List Int)).bind fun y197=>(if ([]:List Int).length+y197.length < 17592186044416 then ((some (([]:List Int)++y197:List Int)).bind fun y201=>(if y201.length < 17592186044416 then ((some (y201++[x1]:List Int)).bind fun y204=>((some (x0.drop (x5:Int).toNat:List Int)).bind fun y207=>(if y204.length+y207.length < 17592186044416 then (some (y204++y207)) else (none)))) else (none))) else (none))) else (none)) else (none))
def spec_l7Put.f (k:Nat) (l0:List Int) (a1:Int):Option (List Int):=spec_l7Put.l0 k l0 a1 0
theorem spec_l7Put.mono_l : ∀ k,(∀ y0 y1 y2,LeO (spec_l7Put.l0 k y0 y1 y2) (spec_l7Put.l0 (k+1) y0 y1 y2))
 | 0=>fun _ _ _ r h=>by simp[spec_l7Put.l0] at h
 | k+1=>by
  have ih0:=spec_l7Put.mono_l k
  ·intro y0 y1 y2
   unfold spec_l7Put.l0
   repeat' first
   | (with_reducible exact ih0 _ _ _)
   | (with_reducible exact LeO.refl _)
   | (with_reducible exact LeO.none _)
   | (with_reducible refine LeO.ite ?_ ?_)
   | (with_reducible refine LeO.bind ?_ (fun _ => ?_))
   | exact ih0 _ _ _
   | exact LeO.none _
   | refine LeO.ite ?_ ?_
   | refine LeO.bind ?_ (fun _ => ?_)
theorem spec_l7Put.mono : ∀ a0 a1 k,LeO (spec_l7Put.f k a0 a1) (spec_l7Put.f (k+1) a0 a1):=by
 intro a0 a1 k
 have ih0:=spec_l7Put.mono_l k
 unfold spec_l7Put.f
 repeat' first
  | (with_reducible exact ih0 _ _ _)
  | (with_reducible exact LeO.refl _)
  | (with_reducible exact LeO.none _)
  | (with_reducible refine LeO.ite ?_ ?_)
  | (with_reducible refine LeO.bind ?_ (fun _ => ?_))
  | exact ih0 _ _ _
  | exact LeO.none _
  | refine LeO.ite ?_ ?_
  | refine LeO.bind ?_ (fun _ => ?_)
set_option maxHeartbeats 8000000 in
set_option maxRecDepth 100000 in
theorem spec_l7Put.calls (k:Nat) (P0_:Nat→Prop) (u9000_:Value) (l0:List Int) (a1:Int) (r:List Int) (w0 w:World) (hB:Below w0.heap.size w0 w) (ho0:Kd.R (Kd.int .i64) 3 w w0.heap.size P0_ u9000_ l0) (h:spec_l7Put.f k l0 a1=some r) :
  Calls Try.prog 124 #[u9000_,.int .i64 a1] w fun e w' => ∃ v0_:Value,e=.returned (v0_)∧Kd.R (Kd.int .i64) 3 w' w0.heap.size (fun k_=>(P0_ k_∨w.heap.size≤k_)) v0_ r∧Below w0.heap.size w0 w'∧Kept w w' (fun k_=>P0_ k_):=by
 have HO0:=Aside0.mk (show Kd.R (Kd.int .i64) 3 w w0.heap.size (fun k_=>(P0_ k_∨w.heap.size≤k_)) u9000_ l0 from Kd.R_mono ho0 (fun k_ hk=>(.inl hk)))
 have HK:=Aside0.mk (Kept.refl w (fun k_=>P0_ k_))
 have HW0:=Aside0.mk hB.size
 have HB:=Aside0.mk hB
 clear hB
 have H:(spec_l7Put.l0 k l0 a1 0)=some r:=h
 clear h
 have H':=Aside0.mk H
 clear H
 go_enter Try.func124,Try.ntmps124
 go_wp2
 go_loopg [5] k (fun kq v5 w' => ∃ (x5_1:Int),v5=.int .i64 x5_1∧Aside0 (spec_l7Put.l0 kq l0 a1 x5_1=some r)∧Aside0 (kq≤k)∧Aside0 (Kd.R (Kd.int .i64) 3 w' w0.heap.size (fun k_=>(P0_ k_∨w.heap.size≤k_)) u9000_ l0)∧Aside0 (Kept w w' (fun k_=>P0_ k_))∧Aside0 (Below w0.heap.size w0 w'))
 case atStart=>exact⟨(0),(bR),H',⟨Nat.le_refl _⟩,⟨by(with_reducible repeat (first|apply Kd.R_alloc|apply Kd.R_drewN|apply Kd.R_drew));exact HO0.out⟩,⟨by repeat (first|(with_reducible first|exact HK.out|apply Kept.alloc|apply Kept.drewN|apply Kept.drew)|exact HK.out)⟩,⟨by repeat (first|(with_reducible first|exact HB.out|apply below_alloc|apply pw_below_drewN|apply below_drew1)|exact HB.out)⟩⟩
 case round =>
  clear H'
  try clear c1
  try clear p2
  obtain⟨x5_1,rfl,HA,HK1,HO_0,HK,HB⟩:=hrel
  cases gk with
  | zero=>exact absurd HA.out (by simp[spec_l7Put.l0])
  | succ k1 =>
   have H:=HA.out
   clear HA
   simp only[spec_l7Put.l0] at H
   by_cases c3:x5_1 < (l0.length:Int)
   ·rw[if_pos c3] at H
    have c3b0:decide (x5_1 < (l0.length:Int))=true:=decide_eq_true c3
    clear c3
    by_cases c4:0≤x5_1
    ·rw[if_pos c4] at H
     have c4b0:decide (0≤x5_1)=true:=decide_eq_true c4
     clear c4
     by_cases c5:(rd l0 x5_1) < a1
     ·rw[if_pos c5] at H
      have c5b0:decide ((rd l0 x5_1) < a1)=true:=decide_eq_true c5
      clear c5
      have H':=Aside0.mk H
      clear H
      obtain⟨Ao6,co6,eo6⟩:=Kd.R_slice HO_0.out
      subst eo6
      have p178:0≤(x5_1:Int):=of_decide_eq_true (bD)
      have q178:x5_1 < (l0.length:Int):=of_decide_eq_true (bD)
      obtain⟨ad178,e178,hx178_0⟩:=Kd.at_int (Kd.R_reads' HO_0.out).2.2 x5_1 p178 q178
      cases e178
      replace p178:=eq_true p178
      replace q178:=eq_true q178
      go_wp2
      go_roundg k1
      case measure=>have:=HK1.out;omega
      case rel=>exact⟨(wrap64 (x5_1+1)),(bR),H',⟨by have:=HK1.out;omega⟩,⟨by(with_reducible repeat (first|apply Kd.R_alloc|apply Kd.R_drewN|apply Kd.R_drew));exact HO_0.out⟩,⟨by repeat (first|(with_reducible first|exact HK.out|apply Kept.alloc|apply Kept.drewN|apply Kept.drew)|exact HK.out)⟩,⟨by repeat (first|(with_reducible first|exact HB.out|apply below_alloc|apply pw_below_drewN|apply below_drew1)|exact HB.out)⟩⟩
     ·rw[if_neg c5] at H
      have c5b0:decide ((rd l0 x5_1) < a1)=false:=decide_eq_false c5
      clear c5
      by_cases c7:(rd l0 x5_1)=a1
      ·rw[if_pos c7] at H
       have c7b0:((rd l0 x5_1) == a1)=true:=beq_iff_eq.mpr c7
       have c7b1:((rd l0 x5_1) != a1)=false:=bne_eq_false_iff_eq.mpr c7
       clear c7
       obtain rfl:=Option.some.inj H
       obtain⟨Ao8,co8,eo8⟩:=Kd.R_slice HO_0.out
       subst eo8
       have p178:0≤(x5_1:Int):=of_decide_eq_true (bD)
       have q178:x5_1 < (l0.length:Int):=of_decide_eq_true (bD)
       obtain⟨ad178,e178,hx178_0⟩:=Kd.at_int (Kd.R_reads' HO_0.out).2.2 x5_1 p178 q178
       cases e178
       replace p178:=eq_true p178
       replace q178:=eq_true q178
       have p179:0≤(x5_1:Int):=of_decide_eq_true (bD)
       have q179:x5_1 < (l0.length:Int):=of_decide_eq_true (bD)
       obtain⟨ad179,e179,hx179_0⟩:=Kd.at_int (Kd.R_reads' HO_0.out).2.2 x5_1 p179 q179
       obtain rfl:ad178=ad179:=(by injection e179)
       replace p179:=eq_true p179
       replace q179:=eq_true q179
       go_wp2
       go_ret
       exact⟨_,by first|rfl|(simp[errW_none,errW_some]<;>rfl)|(simp[*,errW_none,errW_some]<;>rfl),by(with_reducible repeat (first|apply Kd.R_alloc|apply Kd.R_drewN|apply Kd.R_drew));exact HO_0.out,by repeat (first|(with_reducible first|exact HB.out|apply below_alloc|apply pw_below_drewN|apply below_drew1)|exact HB.out),by repeat (first|(with_reducible first|exact HK.out|apply Kept.alloc|apply Kept.drewN|apply Kept.drew)|exact HK.out)⟩
      ·rw[if_neg c7] at H
       have c7b0:((rd l0 x5_1) == a1)=false:=beq_eq_false_iff_ne.mpr c7
       have c7b1:((rd l0 x5_1) != a1)=true:=bne_iff_ne.mpr c7
       have c9b0:=eq_true (of_decide_eq_true (bD):0≤x5_1)
       by_cases c10:x5_1≤(l0.length:Int)
       ·rw[if_pos c10] at H
        have c10b0:=eq_true c10
        have c10b1:decide (x5_1≤(l0.length:Int))=true:=decide_eq_true c10
        clear c10
        obtain⟨y180,hy180⟩ : ∃ y_:List Int,y_=(l0.take (x5_1:Int).toNat):=⟨_,rfl⟩
        replace H:(if ([]:List Int).length+y180.length < 17592186044416 then ((some (([]:List Int)++y180:List Int)).bind fun y184=>(if y184.length < 17592186044416 then ((some (y184++[a1]:List Int)).bind fun y187=>((some (l0.drop (x5_1:Int).toNat:List Int)).bind fun y190=>(if y187.length+y190.length < 17592186044416 then (some (y187++y190)) else (none)))) else (none))) else (none))=some r:=by first|(rw[hy180];with_reducible exact H)|(have H2_:=(Option.bind_some _ _).symm.trans H;rw[hy180];with_reducible exact H2_)|(have H2_:=(Option.bind_some _ _).symm.trans H;with_reducible exact H2_)|with_reducible exact H|(rw[hy180];exact H)|exact H
        have Ny180:=Aside0.mk hy180
        clear hy180
        by_cases c11:([]:List Int).length+y180.length < 17592186044416
        ·rw[if_pos c11] at H
         have LMc11:=Aside0.mk c11
         clear c11
         obtain⟨y184,hy184⟩ : ∃ y_:List Int,y_=(([]:List Int)++y180):=⟨_,rfl⟩
         replace H:(if y184.length < 17592186044416 then ((some (y184++[a1]:List Int)).bind fun y187=>((some (l0.drop (x5_1:Int).toNat:List Int)).bind fun y190=>(if y187.length+y190.length < 17592186044416 then (some (y187++y190)) else (none)))) else (none))=some r:=by first|(rw[hy184];with_reducible exact H)|(have H2_:=(Option.bind_some _ _).symm.trans H;rw[hy184];with_reducible exact H2_)|(have H2_:=(Option.bind_some _ _).symm.trans H;with_reducible exact H2_)|with_reducible exact H|(rw[hy184];exact H)|exact H
         have Ny184:=Aside0.mk hy184
         clear hy184
         by_cases c12:y184.length < 17592186044416
         ·rw[if_pos c12] at H
          have LMc12:=Aside0.mk c12
          clear c12
          obtain⟨y187,hy187⟩ : ∃ y_:List Int,y_=(y184++[a1]):=⟨_,rfl⟩
          replace H:((some (l0.drop (x5_1:Int).toNat:List Int)).bind fun y190=>(if y187.length+y190.length < 17592186044416 then (some (y187++y190)) else (none)))=some r:=by first|(rw[hy187];with_reducible exact H)|(have H2_:=(Option.bind_some _ _).symm.trans H;rw[hy187];with_reducible exact H2_)|(have H2_:=(Option.bind_some _ _).symm.trans H;with_reducible exact H2_)|with_reducible exact H|(rw[hy187];exact H)|exact H
          have Ny187:=Aside0.mk hy187
          clear hy187
          have c13b0:=eq_true (of_decide_eq_true (bD):0≤x5_1)
          have c14b0:=eq_true (of_decide_eq_true (bD):x5_1≤(l0.length:Int))
          obtain⟨y190,hy190⟩ : ∃ y_:List Int,y_=(l0.drop (x5_1:Int).toNat):=⟨_,rfl⟩
          replace H:(if y187.length+y190.length < 17592186044416 then (some (y187++y190)) else (none))=some r:=by first|(rw[hy190];with_reducible exact H)|(have H2_:=(Option.bind_some _ _).symm.trans H;rw[hy190];with_reducible exact H2_)|(have H2_:=(Option.bind_some _ _).symm.trans H;with_reducible exact H2_)|with_reducible exact H|(rw[hy190];exact H)|exact H
          have Ny190:=Aside0.mk hy190
          clear hy190
          by_cases c15:y187.length+y190.length < 17592186044416
          ·rw[if_pos c15] at H
           have LMc15:=Aside0.mk c15
           clear c15
           obtain⟨y194,hy194⟩ : ∃ y_:List Int,y_=(y187++y190):=⟨_,rfl⟩
           replace H:(some y194)=some r:=by first|(rw[hy194];with_reducible exact H)|(have H2_:=(Option.bind_some _ _).symm.trans H;rw[hy194];with_reducible exact H2_)|(have H2_:=(Option.bind_some _ _).symm.trans H;with_reducible exact H2_)|with_reducible exact H|(rw[hy194];exact H)|exact H
           have Ny194:=Aside0.mk hy194
           clear hy194
           obtain rfl:=Option.some.inj H
           obtain⟨Ao16,co16,eo16⟩:=Kd.R_slice HO_0.out
           subst eo16
           have p178:0≤(x5_1:Int):=of_decide_eq_true (bD)
           have q178:x5_1 < (l0.length:Int):=of_decide_eq_true (bD)
           obtain⟨ad178,e178,hx178_0⟩:=Kd.at_int (Kd.R_reads' HO_0.out).2.2 x5_1 p178 q178
           cases e178
           replace p178:=eq_true p178
           replace q178:=eq_true q178
           have p179:0≤(x5_1:Int):=of_decide_eq_true (bD)
           have q179:x5_1 < (l0.length:Int):=of_decide_eq_true (bD)
           obtain⟨ad179,e179,hx179_0⟩:=Kd.at_int (Kd.R_reads' HO_0.out).2.2 x5_1 p179 q179
           obtain rfl:ad178=ad179:=(by injection e179)
           replace p179:=eq_true p179
           replace q179:=eq_true q179
           have q17:(x5_1:Int)≤((l0.length:Int):Int):=of_decide_eq_true (bD)
           obtain⟨i017,hi017,_,hsz17,_⟩:=info_parts info3
           have hroom17:l0.length≤co16:=(Kd.R_reads' HO_0.out).2.1
           have hC17:Kd.C (Kd.int .i64) _ (some ad178) l0.length l0:=(Kd.R_reads' HO_0.out).2.2
           have hcut17:=cut_to (P:=Try.prog) 47 3 .i64 Try.underlying47 hi017 (some ad178) l0.length co16 x5_1 (of_decide_eq_true (bD)) q17 hroom17
           have hr17:=Kd.C_take (m:=(x5_1:Int).toNat) hC17 (by omega)
           have hy17:y180.length=(x5_1:Int).toNat:=(by rw[Ny180.out,List.length_take];omega)
           rw[← Ny180.out] at hr17
           rw[← hy17] at hcut17
           have HR183:=Aside0.mk hr17
           have HC183:=Aside0.mk (show y180.length≤co16 from by omega)
           clear hr17 hC17 hroom17 hi017 hsz17
           have KY17:=Aside0.mk hy17
           clear hy17
           have KL17:=Aside0.mk (show(x5_1:Int).toNat≤l0.length from by omega)
           replace q17:=eq_true q17
           go_wp2_with (first|((with_reducible refine gate_builtin (b:=.append) (xs:=#[.tmp 34,.tmp 37]) rfl ?_);at_builtin;refine Kd.R_append_rows (Kd.int .i64) (w0:=w0) w0.heap.size rfl (.tmp 34) (.tmp 37) 47 3 (.int .i64 0) 8 rfl Try.underlying47 info3 rfl (by decide) (by omega) (.slice none 0 0) ([]:List Int) y180 _ _ _ (fun k_=>(P0_ k_∨w.heap.size≤k_)∧some k_≠(.slice (some ad178) l0.length co16:Value).ownBlock) (fun _=>False) rfl rfl ?aO ?aR (fun _ _ h=>h) (fun _ h=>h.elim) ?aF ?aB ?aS ?aL ?_;(case aR=>repeat (first|exact(by repeat (first|(with_reducible exact HR183.out)|(with_reducible refine Kd.C_alloc ?_ _)|(with_reducible refine Kd.C_drewN ?_ _)|(with_reducible refine Kd.C_drew ?_)|exact HR183.out))|(with_reducible refine Kd.C_alloc ?_ _)|(with_reducible refine Kd.C_drewN ?_ _)|(with_reducible refine Kd.C_drew ?_)));(case aB=>exact(bB));(case aF=>exact(fun k_ hk=>⟨(.inr (Nat.le_trans (by first|exact HK.out.1|exact(show Kept w _ (fun k_=>P0_ k_) from by repeat (first|(with_reducible first|exact HK.out|apply Kept.alloc|apply Kept.drewN|apply Kept.drew)|exact HK.out)).1) hk)),Kd.fresh' (Kd.R_lt (bK HO_0.out)) k_ hk⟩));(case aO=>exact((Kd.R_nil _ _ _ _ (fun k_=>(P0_ k_∨w.heap.size≤k_)∧some k_≠(.slice (some ad178) l0.length co16:Value).ownBlock))));(case aS=>exact(below_size (bB)));(case aL=>have:=LMc11.out;omega);intro v185 w18 ho hb hg hat;rw[← Ny184.out] at ho;have n0_:=Aside0.mk (Kd.R_after (Kd.R_apart_nil (bK HO_0.out)) hg hat);have n1_:=Aside0.mk (hb);have n2_:=Aside0.mk (Kept.of_grown (S:=(fun k_=>P0_ k_)) hg (by repeat (first|(with_reducible first|exact HK.out|apply Kept.alloc|apply Kept.drewN|apply Kept.drew)|exact HK.out)) (fun k_ e_=>by simp[Value.ownBlock] at e_));have n3_:=Aside0.mk ((show Kd.C (Kd.int .i64) w18 (some ad178) y180.length y180 from by rw[Ny180.out];exact Kd.C_take (m:=(x5_1:Int).toNat) ((Kd.R_reads' (Kd.R_after (Kd.R_apart_nil (bK HO_0.out)) hg hat)).2.2) KL17.out));have n4_:=Aside0.mk (ho);clear HO_0 HB HK HR183;have HO_0:=n0_;have HB:=n1_;have HK:=n2_;have HR183:=n3_;have HO186:=n4_;clear n0_ n1_ n2_ n3_ n4_;clear ho hb hg hat)|((with_reducible refine gate_builtin (b:=.append) (xs:=#[.tmp 39,.tmp 41]) rfl ?_);at_builtin;refine Kd.R_append (Kd.int .i64) (w0:=w0) w0.heap.size rfl (.tmp 39) (.tmp 41) 47 3 (.int .i64 0) 8 rfl Try.underlying47 info3 rfl (by decide) (by omega) v185 y184 a1 [.int .i64 a1] (fun k_=>(P0_ k_∨w.heap.size≤k_)∧some k_≠(.slice (some ad178) l0.length co16:Value).ownBlock) (fun _=>False) rfl rfl ?aP (fun _ hk=>hk.elim) ?aF ?aO ?aB ?aS ?aL ?_;(case aP=>exact rfl);(case aB=>exact(bB));(case aF=>exact(fun k_ hk=>⟨(.inr (Nat.le_trans (by first|exact HK.out.1|exact(show Kept w _ (fun k_=>P0_ k_) from by repeat (first|(with_reducible first|exact HK.out|apply Kept.alloc|apply Kept.drewN|apply Kept.drew)|exact HK.out)).1) hk)),Kd.fresh' (Kd.R_lt (bK HO_0.out)) k_ hk⟩));(case aO=>exact(bK HO186.out));(case aS=>exact(below_size (bB)));(case aL=>have:=LMc12.out;omega);intro v188 w19 ho hb hg hat;rw[← Ny187.out] at ho;have n0_:=Aside0.mk (Kd.R_after (ok:=(fun k_=>(P0_ k_∨w.heap.size≤k_))) (bK HO_0.out) hg hat);have n1_:=Aside0.mk (hb);have n2_:=Aside0.mk (Kept.of_grown (S:=(fun k_=>P0_ k_)) hg (by repeat (first|(with_reducible first|exact HK.out|apply Kept.alloc|apply Kept.drewN|apply Kept.drew)|exact HK.out)) (fun k_ e_=>(HO186.out.1 k_ e_).1));have n3_:=Aside0.mk ((show Kd.C (Kd.int .i64) w19 (some ad178) y180.length y180 from by rw[Ny180.out];exact Kd.C_take (m:=(x5_1:Int).toNat) ((Kd.R_reads' (Kd.R_after (ok:=(fun k_=>(P0_ k_∨w.heap.size≤k_))) (bK HO_0.out) hg hat)).2.2) KL17.out));have n4_:=Aside0.mk (ho);clear HO_0 HB HK HR183 HO186;have HO_0:=n0_;have HB:=n1_;have HK:=n2_;have HR183:=n3_;have HO189:=n4_;clear n0_ n1_ n2_ n3_ n4_;clear ho hb hg hat;have q20:(x5_1:Int)≤((l0.length:Int):Int):=of_decide_eq_true (bD);obtain⟨i020,hi020,_,hsz20,_⟩:=info_parts info3;have hroom20:l0.length≤co16:=(Kd.R_reads' HO_0.out).2.1;have hC20:Kd.C (Kd.int .i64) _ (some ad178) l0.length l0:=(Kd.R_reads' HO_0.out).2.2;have q020:(0:Int)≤(x5_1:Int):=of_decide_eq_true (bD);have hcut20:=cut_from (P:=Try.prog) 47 3 .i64 Try.underlying47 hi020 1 hsz20 (some ad178) l0.length co16 x5_1 q020 q20;have hr20:=Kd.C_drop (m:=(x5_1:Int).toNat) (c:=co16) hC20 (by omega) hroom20;obtain⟨A20,hA20⟩ : ∃ A1,A1=(if co16=(x5_1:Int).toNat then (some ad178) else ((some ad178):Option Addr).map (·.add ((x5_1:Int).toNat * 1))):=⟨_,rfl⟩;obtain⟨c20,hc20⟩ : ∃ c1,c1=co16 - (x5_1:Int).toNat:=⟨_,rfl⟩;have hy20:y190.length=l0.length - (x5_1:Int).toNat:=(by rw[Ny190.out,List.length_drop]<;>omega);rw[show(l0).drop (x5_1:Int).toNat=y190 from Ny190.out.symm] at hr20;replace hr20:Kd.C (Kd.int .i64) _ A20 y190.length y190:=(by rw[hA20];exact hr20);rw[← hy20,← hA20,← hc20] at hcut20;have HR193:=Aside0.mk hr20;have HC193:=Aside0.mk (show y190.length≤c20 from by rw[hy20,hc20];exact Nat.sub_le_sub_right hroom20 _);clear hr20 hC20 hroom20 hi020 hsz20 hc20;have KY20:=Aside0.mk hy20;have KA20:=Aside0.mk hA20;clear hy20 hA20;have KL20:=Aside0.mk (show(x5_1:Int).toNat≤l0.length from by omega);replace q20:=eq_true q20)|((with_reducible refine gate_builtin (b:=.append) (xs:=#[.tmp 43,.tmp 46]) rfl ?_);at_builtin;refine Kd.R_append_rows (Kd.int .i64) (w0:=w0) w0.heap.size rfl (.tmp 43) (.tmp 46) 47 3 (.int .i64 0) 8 rfl Try.underlying47 info3 rfl (by decide) (by omega) v188 y187 y190 _ _ _ (fun k_=>(P0_ k_∨w.heap.size≤k_)∧some k_≠(.slice (some ad178) l0.length co16:Value).ownBlock) (fun _=>False) rfl rfl ?aO ?aR (fun _ _ h=>h) (fun _ h=>h.elim) ?aF ?aB ?aS ?aL ?_;(case aR=>repeat (first|exact(by repeat (first|(with_reducible exact HR193.out)|(with_reducible refine Kd.C_alloc ?_ _)|(with_reducible refine Kd.C_drewN ?_ _)|(with_reducible refine Kd.C_drew ?_)|exact HR193.out))|(with_reducible refine Kd.C_alloc ?_ _)|(with_reducible refine Kd.C_drewN ?_ _)|(with_reducible refine Kd.C_drew ?_)));(case aB=>exact(bB));(case aF=>exact(fun k_ hk=>⟨(.inr (Nat.le_trans (by first|exact HK.out.1|exact(show Kept w _ (fun k_=>P0_ k_) from by repeat (first|(with_reducible first|exact HK.out|apply Kept.alloc|apply Kept.drewN|apply Kept.drew)|exact HK.out)).1) hk)),Kd.fresh' (Kd.R_lt (bK HO_0.out)) k_ hk⟩));(case aO=>exact(bK HO189.out));(case aS=>exact(below_size (bB)));(case aL=>have:=LMc15.out;omega);intro v195 w21 ho hb hg hat;rw[← Ny194.out] at ho;have n0_:=Aside0.mk (Kd.R_after (ok:=(fun k_=>(P0_ k_∨w.heap.size≤k_))) (bK HO_0.out) hg hat);have n1_:=Aside0.mk (hb);have n2_:=Aside0.mk (Kept.of_grown (S:=(fun k_=>P0_ k_)) hg (by repeat (first|(with_reducible first|exact HK.out|apply Kept.alloc|apply Kept.drewN|apply Kept.drew)|exact HK.out)) (fun k_ e_=>(HO189.out.1 k_ e_).1));have n3_:=Aside0.mk ((show Kd.C (Kd.int .i64) w21 (some ad178) y180.length y180 from by rw[Ny180.out];exact Kd.C_take (m:=(x5_1:Int).toNat) ((Kd.R_reads' (Kd.R_after (ok:=(fun k_=>(P0_ k_∨w.heap.size≤k_))) (bK HO_0.out) hg hat)).2.2) KL17.out));have n4_:=Aside0.mk ((show Kd.C (Kd.int .i64) w21 A20 y190.length y190 from by rw[Ny190.out,KA20.out];exact Kd.C_drop (m:=(x5_1:Int).toNat) (c:=co16) ((Kd.R_reads' (Kd.R_after (ok:=(fun k_=>(P0_ k_∨w.heap.size≤k_))) (bK HO_0.out) hg hat)).2.2) KL20.out ((Kd.R_reads' (Kd.R_after (ok:=(fun k_=>(P0_ k_∨w.heap.size≤k_))) (bK HO_0.out) hg hat)).2.1)));have n5_:=Aside0.mk (ho);clear HO_0 HB HK HR183 HR193 HO189;have HO_0:=n0_;have HB:=n1_;have HK:=n2_;have HR183:=n3_;have HR193:=n4_;have HO196:=n5_;clear n0_ n1_ n2_ n3_ n4_ n5_;clear ho hb hg hat))
           go_ret
           exact⟨_,by first|rfl|(simp[errW_none,errW_some]<;>rfl)|(simp[*,errW_none,errW_some]<;>rfl),by(with_reducible repeat (first|apply Kd.R_alloc|apply Kd.R_drewN|apply Kd.R_drew));exact Kd.R_mono HO196.out (fun _ hk=>hk.1),by repeat (first|(with_reducible first|exact HB.out|apply below_alloc|apply pw_below_drewN|apply below_drew1)|exact HB.out),by repeat (first|(with_reducible first|exact HK.out|apply Kept.alloc|apply Kept.drewN|apply Kept.drew)|exact HK.out)⟩
          ·rw[if_neg c15] at H
           exact absurd H (by simp)
         ·rw[if_neg c12] at H
          exact absurd H (by simp)
        ·rw[if_neg c11] at H
         exact absurd H (by simp)
       ·rw[if_neg c10] at H
        exact absurd H (by simp)
    ·rw[if_neg c4] at H
     exact absurd H (by simp)
   ·rw[if_neg c3] at H
    have c3b0:decide (x5_1 < (l0.length:Int))=false:=decide_eq_false c3
    clear c3
    by_cases c22:0≤x5_1
    ·rw[if_pos c22] at H
     have c22b0:=eq_true c22
     have c22b1:decide (0≤x5_1)=true:=decide_eq_true c22
     clear c22
     by_cases c23:x5_1≤(l0.length:Int)
     ·rw[if_pos c23] at H
      have c23b0:=eq_true c23
      have c23b1:decide (x5_1≤(l0.length:Int))=true:=decide_eq_true c23
      clear c23
      obtain⟨y197,hy197⟩ : ∃ y_:List Int,y_=(l0.take (x5_1:Int).toNat):=⟨_,rfl⟩
      replace H:(if ([]:List Int).length+y197.length < 17592186044416 then ((some (([]:List Int)++y197:List Int)).bind fun y201=>(if y201.length < 17592186044416 then ((some (y201++[a1]:List Int)).bind fun y204=>((some (l0.drop (x5_1:Int).toNat:List Int)).bind fun y207=>(if y204.length+y207.length < 17592186044416 then (some (y204++y207)) else (none)))) else (none))) else (none))=some r:=by first|(rw[hy197];with_reducible exact H)|(have H2_:=(Option.bind_some _ _).symm.trans H;rw[hy197];with_reducible exact H2_)|(have H2_:=(Option.bind_some _ _).symm.trans H;with_reducible exact H2_)|with_reducible exact H|(rw[hy197];exact H)|exact H
      have Ny197:=Aside0.mk hy197
      clear hy197
      by_cases c24:([]:List Int).length+y197.length < 17592186044416
      ·rw[if_pos c24] at H
       have LMc24:=Aside0.mk c24
       clear c24
       obtain⟨y201,hy201⟩ : ∃ y_:List Int,y_=(([]:List Int)++y197):=⟨_,rfl⟩
       replace H:(if y201.length < 17592186044416 then ((some (y201++[a1]:List Int)).bind fun y204=>((some (l0.drop (x5_1:Int).toNat:List Int)).bind fun y207=>(if y204.length+y207.length < 17592186044416 then (some (y204++y207)) else (none)))) else (none))=some r:=by first|(rw[hy201];with_reducible exact H)|(have H2_:=(Option.bind_some _ _).symm.trans H;rw[hy201];with_reducible exact H2_)|(have H2_:=(Option.bind_some _ _).symm.trans H;with_reducible exact H2_)|with_reducible exact H|(rw[hy201];exact H)|exact H
       have Ny201:=Aside0.mk hy201
       clear hy201
       by_cases c25:y201.length < 17592186044416
       ·rw[if_pos c25] at H
        have LMc25:=Aside0.mk c25
        clear c25
        obtain⟨y204,hy204⟩ : ∃ y_:List Int,y_=(y201++[a1]):=⟨_,rfl⟩
        replace H:((some (l0.drop (x5_1:Int).toNat:List Int)).bind fun y207=>(if y204.length+y207.length < 17592186044416 then (some (y204++y207)) else (none)))=some r:=by first|(rw[hy204];with_reducible exact H)|(have H2_:=(Option.bind_some _ _).symm.trans H;rw[hy204];with_reducible exact H2_)|(have H2_:=(Option.bind_some _ _).symm.trans H;with_reducible exact H2_)|with_reducible exact H|(rw[hy204];exact H)|exact H
        have Ny204:=Aside0.mk hy204
        clear hy204
        have c26b0:=eq_true (of_decide_eq_true (bD):0≤x5_1)
        have c27b0:=eq_true (of_decide_eq_true (bD):x5_1≤(l0.length:Int))
        obtain⟨y207,hy207⟩ : ∃ y_:List Int,y_=(l0.drop (x5_1:Int).toNat):=⟨_,rfl⟩
        replace H:(if y204.length+y207.length < 17592186044416 then (some (y204++y207)) else (none))=some r:=by first|(rw[hy207];with_reducible exact H)|(have H2_:=(Option.bind_some _ _).symm.trans H;rw[hy207];with_reducible exact H2_)|(have H2_:=(Option.bind_some _ _).symm.trans H;with_reducible exact H2_)|with_reducible exact H|(rw[hy207];exact H)|exact H
        have Ny207:=Aside0.mk hy207
        clear hy207
        by_cases c28:y204.length+y207.length < 17592186044416
        ·rw[if_pos c28] at H
         have LMc28:=Aside0.mk c28
         clear c28
         obtain⟨y211,hy211⟩ : ∃ y_:List Int,y_=(y204++y207):=⟨_,rfl⟩
         replace H:(some y211)=some r:=by first|(rw[hy211];with_reducible exact H)|(have H2_:=(Option.bind_some _ _).symm.trans H;rw[hy211];with_reducible exact H2_)|(have H2_:=(Option.bind_some _ _).symm.trans H;with_reducible exact H2_)|with_reducible exact H|(rw[hy211];exact H)|exact H
         have Ny211:=Aside0.mk hy211
         clear hy211
         obtain rfl:=Option.some.inj H
         obtain⟨Ao29,co29,eo29⟩:=Kd.R_slice HO_0.out
         subst eo29
         have q30:(x5_1:Int)≤((l0.length:Int):Int):=of_decide_eq_true (bD)
         obtain⟨i030,hi030,_,hsz30,_⟩:=info_parts info3
         have hroom30:l0.length≤co29:=(Kd.R_reads' HO_0.out).2.1
         have hC30:Kd.C (Kd.int .i64) _ Ao29 l0.length l0:=(Kd.R_reads' HO_0.out).2.2
         have hcut30:=cut_to (P:=Try.prog) 47 3 .i64 Try.underlying47 hi030 Ao29 l0.length co29 x5_1 (of_decide_eq_true (bD)) q30 hroom30
         have hr30:=Kd.C_take (m:=(x5_1:Int).toNat) hC30 (by omega)
         have hy30:y197.length=(x5_1:Int).toNat:=(by rw[Ny197.out,List.length_take];omega)
         rw[← Ny197.out] at hr30
         rw[← hy30] at hcut30
         have HR200:=Aside0.mk hr30
         have HC200:=Aside0.mk (show y197.length≤co29 from by omega)
         clear hr30 hC30 hroom30 hi030 hsz30
         have KY30:=Aside0.mk hy30
         clear hy30
         have KL30:=Aside0.mk (show(x5_1:Int).toNat≤l0.length from by omega)
         replace q30:=eq_true q30
         go_wp2_with (first|((with_reducible refine gate_builtin (b:=.append) (xs:=#[.tmp 34,.tmp 37]) rfl ?_);at_builtin;refine Kd.R_append_rows (Kd.int .i64) (w0:=w0) w0.heap.size rfl (.tmp 34) (.tmp 37) 47 3 (.int .i64 0) 8 rfl Try.underlying47 info3 rfl (by decide) (by omega) (.slice none 0 0) ([]:List Int) y197 _ _ _ (fun k_=>(P0_ k_∨w.heap.size≤k_)∧some k_≠(.slice Ao29 l0.length co29:Value).ownBlock) (fun _=>False) rfl rfl ?aO ?aR (fun _ _ h=>h) (fun _ h=>h.elim) ?aF ?aB ?aS ?aL ?_;(case aR=>repeat (first|exact(by repeat (first|(with_reducible exact HR200.out)|(with_reducible refine Kd.C_alloc ?_ _)|(with_reducible refine Kd.C_drewN ?_ _)|(with_reducible refine Kd.C_drew ?_)|exact HR200.out))|(with_reducible refine Kd.C_alloc ?_ _)|(with_reducible refine Kd.C_drewN ?_ _)|(with_reducible refine Kd.C_drew ?_)));(case aB=>exact(bB));(case aF=>exact(fun k_ hk=>⟨(.inr (Nat.le_trans (by first|exact HK.out.1|exact(show Kept w _ (fun k_=>P0_ k_) from by repeat (first|(with_reducible first|exact HK.out|apply Kept.alloc|apply Kept.drewN|apply Kept.drew)|exact HK.out)).1) hk)),Kd.fresh' (Kd.R_lt (bK HO_0.out)) k_ hk⟩));(case aO=>exact((Kd.R_nil _ _ _ _ (fun k_=>(P0_ k_∨w.heap.size≤k_)∧some k_≠(.slice Ao29 l0.length co29:Value).ownBlock))));(case aS=>exact(below_size (bB)));(case aL=>have:=LMc24.out;omega);intro v202 w31 ho hb hg hat;rw[← Ny201.out] at ho;have n0_:=Aside0.mk (Kd.R_after (Kd.R_apart_nil (bK HO_0.out)) hg hat);have n1_:=Aside0.mk (hb);have n2_:=Aside0.mk (Kept.of_grown (S:=(fun k_=>P0_ k_)) hg (by repeat (first|(with_reducible first|exact HK.out|apply Kept.alloc|apply Kept.drewN|apply Kept.drew)|exact HK.out)) (fun k_ e_=>by simp[Value.ownBlock] at e_));have n3_:=Aside0.mk ((show Kd.C (Kd.int .i64) w31 Ao29 y197.length y197 from by rw[Ny197.out];exact Kd.C_take (m:=(x5_1:Int).toNat) ((Kd.R_reads' (Kd.R_after (Kd.R_apart_nil (bK HO_0.out)) hg hat)).2.2) KL30.out));have n4_:=Aside0.mk (ho);clear HO_0 HB HK HR200;have HO_0:=n0_;have HB:=n1_;have HK:=n2_;have HR200:=n3_;have HO203:=n4_;clear n0_ n1_ n2_ n3_ n4_;clear ho hb hg hat)|((with_reducible refine gate_builtin (b:=.append) (xs:=#[.tmp 39,.tmp 41]) rfl ?_);at_builtin;refine Kd.R_append (Kd.int .i64) (w0:=w0) w0.heap.size rfl (.tmp 39) (.tmp 41) 47 3 (.int .i64 0) 8 rfl Try.underlying47 info3 rfl (by decide) (by omega) v202 y201 a1 [.int .i64 a1] (fun k_=>(P0_ k_∨w.heap.size≤k_)∧some k_≠(.slice Ao29 l0.length co29:Value).ownBlock) (fun _=>False) rfl rfl ?aP (fun _ hk=>hk.elim) ?aF ?aO ?aB ?aS ?aL ?_;(case aP=>exact rfl);(case aB=>exact(bB));(case aF=>exact(fun k_ hk=>⟨(.inr (Nat.le_trans (by first|exact HK.out.1|exact(show Kept w _ (fun k_=>P0_ k_) from by repeat (first|(with_reducible first|exact HK.out|apply Kept.alloc|apply Kept.drewN|apply Kept.drew)|exact HK.out)).1) hk)),Kd.fresh' (Kd.R_lt (bK HO_0.out)) k_ hk⟩));(case aO=>exact(bK HO203.out));(case aS=>exact(below_size (bB)));(case aL=>have:=LMc25.out;omega);intro v205 w32 ho hb hg hat;rw[← Ny204.out] at ho;have n0_:=Aside0.mk (Kd.R_after (ok:=(fun k_=>(P0_ k_∨w.heap.size≤k_))) (bK HO_0.out) hg hat);have n1_:=Aside0.mk (hb);have n2_:=Aside0.mk (Kept.of_grown (S:=(fun k_=>P0_ k_)) hg (by repeat (first|(with_reducible first|exact HK.out|apply Kept.alloc|apply Kept.drewN|apply Kept.drew)|exact HK.out)) (fun k_ e_=>(HO203.out.1 k_ e_).1));have n3_:=Aside0.mk ((show Kd.C (Kd.int .i64) w32 Ao29 y197.length y197 from by rw[Ny197.out];exact Kd.C_take (m:=(x5_1:Int).toNat) ((Kd.R_reads' (Kd.R_after (ok:=(fun k_=>(P0_ k_∨w.heap.size≤k_))) (bK HO_0.out) hg hat)).2.2) KL30.out));have n4_:=Aside0.mk (ho);clear HO_0 HB HK HR200 HO203;have HO_0:=n0_;have HB:=n1_;have HK:=n2_;have HR200:=n3_;have HO206:=n4_;clear n0_ n1_ n2_ n3_ n4_;clear ho hb hg hat;have q33:(x5_1:Int)≤((l0.length:Int):Int):=of_decide_eq_true (bD);obtain⟨i033,hi033,_,hsz33,_⟩:=info_parts info3;have hroom33:l0.length≤co29:=(Kd.R_reads' HO_0.out).2.1;have hC33:Kd.C (Kd.int .i64) _ Ao29 l0.length l0:=(Kd.R_reads' HO_0.out).2.2;have q033:(0:Int)≤(x5_1:Int):=of_decide_eq_true (bD);have hcut33:=cut_from (P:=Try.prog) 47 3 .i64 Try.underlying47 hi033 1 hsz33 Ao29 l0.length co29 x5_1 q033 q33;have hr33:=Kd.C_drop (m:=(x5_1:Int).toNat) (c:=co29) hC33 (by omega) hroom33;obtain⟨A33,hA33⟩ : ∃ A1,A1=(if co29=(x5_1:Int).toNat then Ao29 else (Ao29:Option Addr).map (·.add ((x5_1:Int).toNat * 1))):=⟨_,rfl⟩;obtain⟨c33,hc33⟩ : ∃ c1,c1=co29 - (x5_1:Int).toNat:=⟨_,rfl⟩;have hy33:y207.length=l0.length - (x5_1:Int).toNat:=(by rw[Ny207.out,List.length_drop]<;>omega);rw[show(l0).drop (x5_1:Int).toNat=y207 from Ny207.out.symm] at hr33;replace hr33:Kd.C (Kd.int .i64) _ A33 y207.length y207:=(by rw[hA33];exact hr33);rw[← hy33,← hA33,← hc33] at hcut33;have HR210:=Aside0.mk hr33;have HC210:=Aside0.mk (show y207.length≤c33 from by rw[hy33,hc33];exact Nat.sub_le_sub_right hroom33 _);clear hr33 hC33 hroom33 hi033 hsz33 hc33;have KY33:=Aside0.mk hy33;have KA33:=Aside0.mk hA33;clear hy33 hA33;have KL33:=Aside0.mk (show(x5_1:Int).toNat≤l0.length from by omega);replace q33:=eq_true q33)|((with_reducible refine gate_builtin (b:=.append) (xs:=#[.tmp 43,.tmp 46]) rfl ?_);at_builtin;refine Kd.R_append_rows (Kd.int .i64) (w0:=w0) w0.heap.size rfl (.tmp 43) (.tmp 46) 47 3 (.int .i64 0) 8 rfl Try.underlying47 info3 rfl (by decide) (by omega) v205 y204 y207 _ _ _ (fun k_=>(P0_ k_∨w.heap.size≤k_)∧some k_≠(.slice Ao29 l0.length co29:Value).ownBlock) (fun _=>False) rfl rfl ?aO ?aR (fun _ _ h=>h) (fun _ h=>h.elim) ?aF ?aB ?aS ?aL ?_;(case aR=>repeat (first|exact(by repeat (first|(with_reducible exact HR210.out)|(with_reducible refine Kd.C_alloc ?_ _)|(with_reducible refine Kd.C_drewN ?_ _)|(with_reducible refine Kd.C_drew ?_)|exact HR210.out))|(with_reducible refine Kd.C_alloc ?_ _)|(with_reducible refine Kd.C_drewN ?_ _)|(with_reducible refine Kd.C_drew ?_)));(case aB=>exact(bB));(case aF=>exact(fun k_ hk=>⟨(.inr (Nat.le_trans (by first|exact HK.out.1|exact(show Kept w _ (fun k_=>P0_ k_) from by repeat (first|(with_reducible first|exact HK.out|apply Kept.alloc|apply Kept.drewN|apply Kept.drew)|exact HK.out)).1) hk)),Kd.fresh' (Kd.R_lt (bK HO_0.out)) k_ hk⟩));(case aO=>exact(bK HO206.out));(case aS=>exact(below_size (bB)));(case aL=>have:=LMc28.out;omega);intro v212 w34 ho hb hg hat;rw[← Ny211.out] at ho;have n0_:=Aside0.mk (Kd.R_after (ok:=(fun k_=>(P0_ k_∨w.heap.size≤k_))) (bK HO_0.out) hg hat);have n1_:=Aside0.mk (hb);have n2_:=Aside0.mk (Kept.of_grown (S:=(fun k_=>P0_ k_)) hg (by repeat (first|(with_reducible first|exact HK.out|apply Kept.alloc|apply Kept.drewN|apply Kept.drew)|exact HK.out)) (fun k_ e_=>(HO206.out.1 k_ e_).1));have n3_:=Aside0.mk ((show Kd.C (Kd.int .i64) w34 Ao29 y197.length y197 from by rw[Ny197.out];exact Kd.C_take (m:=(x5_1:Int).toNat) ((Kd.R_reads' (Kd.R_after (ok:=(fun k_=>(P0_ k_∨w.heap.size≤k_))) (bK HO_0.out) hg hat)).2.2) KL30.out));have n4_:=Aside0.mk ((show Kd.C (Kd.int .i64) w34 A33 y207.length y207 from by rw[Ny207.out,KA33.out];exact Kd.C_drop (m:=(x5_1:Int).toNat) (c:=co29) ((Kd.R_reads' (Kd.R_after (ok:=(fun k_=>(P0_ k_∨w.heap.size≤k_))) (bK HO_0.out) hg hat)).2.2) KL33.out ((Kd.R_reads' (Kd.R_after (ok:=(fun k_=>(P0_ k_∨w.heap.size≤k_))) (bK HO_0.out) hg hat)).2.1)));have n5_:=Aside0.mk (ho);clear HO_0 HB HK HR200 HR210 HO206;have HO_0:=n0_;have HB:=n1_;have HK:=n2_;have HR200:=n3_;have HR210:=n4_;have HO213:=n5_;clear n0_ n1_ n2_ n3_ n4_ n5_;clear ho hb hg hat))
         go_ret
         exact⟨_,by first|rfl|(simp[errW_none,errW_some]<;>rfl)|(simp[*,errW_none,errW_some]<;>rfl),by(with_reducible repeat (first|apply Kd.R_alloc|apply Kd.R_drewN|apply Kd.R_drew));exact Kd.R_mono HO213.out (fun _ hk=>hk.1),by repeat (first|(with_reducible first|exact HB.out|apply below_alloc|apply pw_below_drewN|apply below_drew1)|exact HB.out),by repeat (first|(with_reducible first|exact HK.out|apply Kept.alloc|apply Kept.drewN|apply Kept.drew)|exact HK.out)⟩
        ·rw[if_neg c28] at H
         exact absurd H (by simp)
       ·rw[if_neg c25] at H
        exact absurd H (by simp)
      ·rw[if_neg c24] at H
       exact absurd H (by simp)
     ·rw[if_neg c23] at H
      exact absurd H (by simp)
    ·rw[if_neg c22] at H
     exact absurd H (by simp)

/-! ### spec_TreeFor: function 49 -/
mutual
def spec_TreeFor.l0:Nat→List Int→List (S109)→Int→Int→Option (List Int × Bool)
 | 0,_,_,_,_=>none
 | k+1,x8,x21,x22,x23=>if x23 < x22 then (if 0≤x23 then (if x23 < (x21.length:Int) then (spec_TreeFor.l1 k x8 x21 x22 x23 ((rd_T109 x21 x23).f2) (((rd_T109 x21 x23).f2).length:Int) 0) else (none)) else (none)) else (some (x8,true))
def spec_TreeFor.l1:Nat→List Int→List (S109)→Int→Int→List Int→Int→Int→Option (List Int × Bool)
 | 0,_,_,_,_,_,_,_=>none
 | k+1,x8,x21,x22,x23,x28,x29,x30=>if x30 < x29 then (if 0≤x30 then (if x30 < (x28.length:Int) then ((spec_l7Put.f k x8 (rd x28 x30)).bind fun t222=>(spec_TreeFor.l1 k t222 x21 x22 x23 x28 x29 (wrap64 (x30+1)))) else (none)) else (none)) else (spec_TreeFor.l0 k x8 x21 x22 (wrap64 (x23+1)))
end
def spec_TreeFor.f (k:Nat) (l0:List (S165)) (a1_0:Int) (a1_1:Int) (a1_2:Bool) (a1_3:Int) (a1_4:Int) (a1_5:Int) (a1_6:Int) (a1_7:Int) (a1_8:Int) (a1_9:ByteArray) (l2:List Int):Option (List Int × Bool):=(spec_l17Ask.f k l0 a1_0 a1_1 a1_2 a1_3 a1_4 a1_5 a1_6 a1_7 a1_8 a1_9 l2).bind fun t215=>(if t215=true then ((spec_l17Reach.f k l0 a1_0 a1_1 a1_2 a1_3 a1_4 a1_5 a1_6 a1_7 a1_8 a1_9 l2).bind fun t216=>(spec_TreeFor.l0 k ([]:List Int) t216 (t216.length:Int) 0)) else (some (([]:List Int),false)))
theorem spec_TreeFor.mono_l : ∀ k,(∀ y0 y1 y2 y3,LeO (spec_TreeFor.l0 k y0 y1 y2 y3) (spec_TreeFor.l0 (k+1) y0 y1 y2 y3))∧(∀ y0 y1 y2 y3 y4 y5 y6,LeO (spec_TreeFor.l1 k y0 y1 y2 y3 y4 y5 y6) (spec_TreeFor.l1 (k+1) y0 y1 y2 y3 y4 y5 y6))
 | 0=>⟨fun _ _ _ _ r h=>by simp[spec_TreeFor.l0] at h,fun _ _ _ _ _ _ _ r h=>by simp[spec_TreeFor.l1] at h⟩
 | k+1=>by
  obtain⟨ih0,ih1⟩:=spec_TreeFor.mono_l k
  refine⟨?_,?_⟩
  ·intro y0 y1 y2 y3
   unfold spec_TreeFor.l0
   repeat' first
   | (with_reducible exact ih0 _ _ _ _)
   | (with_reducible exact ih1 _ _ _ _ _ _ _)
   | (with_reducible exact spec_l17Ask.mono _ _ _ _ _ _ _ _ _ _ _ _ _)
   | (with_reducible exact spec_l17Reach.mono _ _ _ _ _ _ _ _ _ _ _ _ _)
   | (with_reducible exact spec_l7Put.mono _ _ _)
   | (with_reducible exact LeO.refl _)
   | (with_reducible exact LeO.none _)
   | (with_reducible refine LeO.ite ?_ ?_)
   | (with_reducible refine LeO.bind ?_ (fun _ => ?_))
   | exact ih0 _ _ _ _
   | exact ih1 _ _ _ _ _ _ _
   | exact spec_l17Ask.mono _ _ _ _ _ _ _ _ _ _ _ _ _
   | exact spec_l17Reach.mono _ _ _ _ _ _ _ _ _ _ _ _ _
   | exact spec_l7Put.mono _ _ _
   | exact LeO.none _
   | refine LeO.ite ?_ ?_
   | refine LeO.bind ?_ (fun _ => ?_)
  ·intro y0 y1 y2 y3 y4 y5 y6
   unfold spec_TreeFor.l1
   repeat' first
   | (with_reducible exact ih0 _ _ _ _)
   | (with_reducible exact ih1 _ _ _ _ _ _ _)
   | (with_reducible exact spec_l17Ask.mono _ _ _ _ _ _ _ _ _ _ _ _ _)
   | (with_reducible exact spec_l17Reach.mono _ _ _ _ _ _ _ _ _ _ _ _ _)
   | (with_reducible exact spec_l7Put.mono _ _ _)
   | (with_reducible exact LeO.refl _)
   | (with_reducible exact LeO.none _)
   | (with_reducible refine LeO.ite ?_ ?_)
   | (with_reducible refine LeO.bind ?_ (fun _ => ?_))
   | exact ih0 _ _ _ _
   | exact ih1 _ _ _ _ _ _ _
   | exact spec_l17Ask.mono _ _ _ _ _ _ _ _ _ _ _ _ _
   | exact spec_l17Reach.mono _ _ _ _ _ _ _ _ _ _ _ _ _
   | exact spec_l7Put.mono _ _ _
   | exact LeO.none _
   | refine LeO.ite ?_ ?_
   | refine LeO.bind ?_ (fun _ => ?_)
theorem spec_TreeFor.mono : ∀ a0 a1 a2 a3 a4 a5 a6 a7 a8 a9 a10 a11 k,LeO (spec_TreeFor.f k a0 a1 a2 a3 a4 a5 a6 a7 a8 a9 a10 a11) (spec_TreeFor.f (k+1) a0 a1 a2 a3 a4 a5 a6 a7 a8 a9 a10 a11):=by
 intro a0 a1 a2 a3 a4 a5 a6 a7 a8 a9 a10 a11 k
 obtain⟨ih0,ih1⟩:=spec_TreeFor.mono_l k
 unfold spec_TreeFor.f
 repeat' first
  | (with_reducible exact ih0 _ _ _ _)
  | (with_reducible exact ih1 _ _ _ _ _ _ _)
  | (with_reducible exact spec_l17Ask.mono _ _ _ _ _ _ _ _ _ _ _ _ _)
  | (with_reducible exact spec_l17Reach.mono _ _ _ _ _ _ _ _ _ _ _ _ _)
  | (with_reducible exact spec_l7Put.mono _ _ _)
  | (with_reducible exact LeO.refl _)
  | (with_reducible exact LeO.none _)
  | (with_reducible refine LeO.ite ?_ ?_)
  | (with_reducible refine LeO.bind ?_ (fun _ => ?_))
  | exact ih0 _ _ _ _
  | exact ih1 _ _ _ _ _ _ _
  | exact spec_l17Ask.mono _ _ _ _ _ _ _ _ _ _ _ _ _
  | exact spec_l17Reach.mono _ _ _ _ _ _ _ _ _ _ _ _ _
  | exact spec_l7Put.mono _ _ _
  | exact LeO.none _
  | refine LeO.ite ?_ ?_
  | refine LeO.bind ?_ (fun _ => ?_)
set_option maxHeartbeats 8000000 in
set_option maxRecDepth 100000 in
theorem spec_TreeFor.calls (k:Nat) (A0:Option Addr) (c0:Nat) (l0:List (S165)) (a1_0:Int) (a1_1:Int) (a1_2:Bool) (a1_3:Int) (a1_4:Int) (a1_5:Int) (a1_6:Int) (a1_7:Int) (a1_8:Int) (a1_9:ByteArray) (A2:Option Addr) (c2:Nat) (l2:List Int) (r1:List Int) (r2:Bool) (w:World) (hr0:Kd.C k165 w A0 l0.length l0) (hc0:l0.length≤c0) (hr2:Kd.C (Kd.int .i64) w A2 l2.length l2) (hc2:l2.length≤c2) (h:spec_TreeFor.f k l0 a1_0 a1_1 a1_2 a1_3 a1_4 a1_5 a1_6 a1_7 a1_8 a1_9 l2=some (r1,r2)) :
  Calls Try.prog 49 #[.slice A0 l0.length c0,.agg #[.int .i64 a1_0,.int .i64 a1_1,.bool a1_2,.int .i64 a1_3,.int .i64 a1_4,.int .i64 a1_5,.int .i64 a1_6,.int .i64 a1_7,.int .i64 a1_8,.string a1_9],.slice A2 l2.length c2] w fun e w' => ∃ v0_:Value,e=.returned (.tuple #[v0_,.bool r2])∧Kd.R (Kd.int .i64) 3 w' w.heap.size (fun _=>True) v0_ r1∧Below w.heap.size w w':=by
 have hu79:=Try.underlying79
 have hu109:=Try.underlying109
 have HR0:=Aside0.mk hr0
 have HC0:=Aside0.mk hc0
 clear hr0 hc0
 have HR2:=Aside0.mk hr2
 have HC2:=Aside0.mk hc2
 clear hr2 hc2
 have HB:=Aside0.mk (Below.refl w.heap.size w)
 have H:((spec_l17Ask.f k l0 a1_0 a1_1 a1_2 a1_3 a1_4 a1_5 a1_6 a1_7 a1_8 a1_9 l2).bind fun t215=>(if t215=true then ((spec_l17Reach.f k l0 a1_0 a1_1 a1_2 a1_3 a1_4 a1_5 a1_6 a1_7 a1_8 a1_9 l2).bind fun t216=>(spec_TreeFor.l0 k ([]:List Int) t216 (t216.length:Int) 0)) else (some (([]:List Int),false))))=some (r1,r2):=h
 clear h
 replace H:=Option.bind_eq_some_iff.mp H
 obtain⟨t215,A40,H⟩:=H
 replace H:(if t215=true then ((spec_l17Reach.f k l0 a1_0 a1_1 a1_2 a1_3 a1_4 a1_5 a1_6 a1_7 a1_8 a1_9 l2).bind fun t216=>(spec_TreeFor.l0 k ([]:List Int) t216 (t216.length:Int) 0)) else (some (([]:List Int),false)))=some (r1,r2):=H
 have A4:=Aside0.mk A40
 clear A40
 by_cases c5:t215=true
 ·subst c5
  have H1:((spec_l17Reach.f k l0 a1_0 a1_1 a1_2 a1_3 a1_4 a1_5 a1_6 a1_7 a1_8 a1_9 l2).bind fun t216=>(spec_TreeFor.l0 k ([]:List Int) t216 (t216.length:Int) 0))=some (r1,r2):=by rw[if_pos rfl] at H;exact H
  clear H
  have H:=H1
  clear H1
  replace H:=Option.bind_eq_some_iff.mp H
  obtain⟨t216,A60,H⟩:=H
  replace H:(spec_TreeFor.l0 k ([]:List Int) t216 (t216.length:Int) 0)=some (r1,r2):=H
  have A6:=Aside0.mk A60
  clear A60
  have H':=Aside0.mk H
  clear H
  go_enter Try.func49,Try.ntmps49
  go_wp2_with (first|((with_reducible refine gate_dst (N:=4) rfl ?_);refine box_event ?hg (N:=4) ?hd (cs:=#[.int .i64 a1_0,.int .i64 a1_1,.bool a1_2,.int .i64 a1_3,.int .i64 a1_4,.int .i64 a1_5,.int .i64 a1_6,.int .i64 a1_7,.int .i64 a1_8,.string a1_9]) (t:=79) ?hr ?_;(case hd=>rfl);(case hg=>rfl);(case hr=>first|(go_simp;done)|(go_simp;rfl));intro gb214 hg w7 hbox hb;have n0_:=Aside0.mk (below_step (bB) hb);have n1_:=Aside0.mk (hbox);have n2_:=Aside0.mk ((bG:w.heap.size≤gb214));have n3_:=Aside0.mk ((bG:w.heap.size≤gb214));clear HB;have HB:=n0_;have BK214:=n1_;have GW214:=n2_;have GE214:=n3_;clear n0_ n1_ n2_ n3_;clear hb hbox hg;obtain⟨hcz8_0,hcz8_1,hcz8_2,hcz8_3,hcz8_4,hcz8_5,hcz8_6,hcz8_7,hcz8_8,hcz8_9⟩:=cC10 BK214.out;obtain⟨hfz8_0,hfz8_1,hfz8_2,hfz8_3,hfz8_4,hfz8_5,hfz8_6,hfz8_7,hfz8_8,hfz8_9⟩:=cF10 BK214.out)|((with_reducible refine gate_callee (f:=122) rfl ?_);refine goesA (some 16) rfl rfl Try.func122 #[.slice A0 l0.length c0,.agg #[.int .i64 a1_0,.int .i64 a1_1,.bool a1_2,.int .i64 a1_3,.int .i64 a1_4,.int .i64 a1_5,.int .i64 a1_6,.int .i64 a1_7,.int .i64 a1_8,.string a1_9],.slice A2 l2.length c2] rfl ?_;(with_reducible refine(spec_l17Ask.calls k _ _ l0 a1_0 a1_1 a1_2 a1_3 a1_4 a1_5 a1_6 a1_7 a1_8 a1_9 _ _ l2 true _ ?side1 ?side2 ?side3 ?side4 A4.out).mono ?_);(case side1=>exact bC HR0.out);(case side2=>exact HC0.out);(case side3=>exact bC HR2.out);(case side4=>exact HC2.out);rintro e w9 ⟨rfl,hb⟩;refine⟨_,rfl,?_⟩;have n0_:=Aside0.mk (bM BK214.out hb);have n1_:=Aside0.mk (below_step (bS GE214.out) hb);clear BK214 HB;have BK214:=n0_;have HB:=n1_;clear n0_ n1_;(try clear hb);(try clear hb2);(try clear hk);(try clear hi);obtain⟨hcz10_0,hcz10_1,hcz10_2,hcz10_3,hcz10_4,hcz10_5,hcz10_6,hcz10_7,hcz10_8,hcz10_9⟩:=cC10 BK214.out;obtain⟨hfz10_0,hfz10_1,hfz10_2,hfz10_3,hfz10_4,hfz10_5,hfz10_6,hfz10_7,hfz10_8,hfz10_9⟩:=cF10 BK214.out)|((with_reducible refine gate_callee (f:=123) rfl ?_);refine goesA (some 21) rfl rfl Try.func123 #[.slice A0 l0.length c0,.agg #[.int .i64 a1_0,.int .i64 a1_1,.bool a1_2,.int .i64 a1_3,.int .i64 a1_4,.int .i64 a1_5,.int .i64 a1_6,.int .i64 a1_7,.int .i64 a1_8,.string a1_9],.slice A2 l2.length c2] rfl ?_;(with_reducible refine(spec_l17Reach.calls k _ _ l0 a1_0 a1_1 a1_2 a1_3 a1_4 a1_5 a1_6 a1_7 a1_8 a1_9 _ _ l2 t216 _ ?side1 ?side2 ?side3 ?side4 A6.out).mono ?_);(case side1=>exact bC HR0.out);(case side2=>exact HC0.out);(case side3=>exact bC HR2.out);(case side4=>exact HC2.out);rintro e w11 ⟨v217,rfl,ho0,hb⟩;refine⟨_,rfl,?_⟩;have n0_:=Aside0.mk (Kd.S_lower ho0 (below_size (bS GE214.out)));have n1_:=Aside0.mk (bM BK214.out hb);have n2_:=Aside0.mk (below_step (bS GE214.out) hb);clear BK214 HB;have HO218:=n0_;have BK214:=n1_;have HB:=n2_;clear n0_ n1_ n2_;(try clear hb);(try clear hb2);(try clear hk);(try clear hi);(try clear ho0);obtain⟨Ao12,co12,eo12⟩:=Kd.S_slice HO218.out;subst eo12))
  go_loopg [8,23] k (fun kq v8 v23 w' => ∃ (x8_1:List Int) (x23_1:Int),v23=.int .i64 x23_1∧Aside0 (spec_TreeFor.l0 kq x8_1 t216 (t216.length:Int) x23_1=some (r1,r2))∧Aside0 (kq≤k)∧Aside0 (Kd.R (Kd.int .i64) 3 w' w.heap.size (fun _=>True) v8 x8_1)∧Aside0 (Kd.S k109 109 w' w.heap.size (fun k_=>some k_≠(v8:Value).ownBlock) (.slice Ao12 t216.length co12) t216)∧Aside0 (w'.heap[gb214]?=some (.cells #[.int .i64 a1_0,.int .i64 a1_1,.bool a1_2,.int .i64 a1_3,.int .i64 a1_4,.int .i64 a1_5,.int .i64 a1_6,.int .i64 a1_7,.int .i64 a1_8,.string a1_9] 79 (0,0)))∧Aside0 (Below w.heap.size w w'))
  case atStart=>exact⟨(([]:List Int)),(0),(bR),H',⟨Nat.le_refl _⟩,⟨by first|exact Kd.R_nil _ _ _ _ _|exact Kd.N_nil _ _ _ _ _|exact Kd.V_nil _ _ _ _ _|exact Kd.Q_nil _ _ _ _ _|exact Kd.S_nil _ _ _ _ _⟩,⟨by(with_reducible repeat (first|apply Kd.S_alloc|apply Kd.S_drewN|apply Kd.S_drew));exact Kd.S_mono HO218.out (fun _ hk=>(by simp[Value.ownBlock]))⟩,⟨by(with_reducible repeat (first|refine blk_drewN ?_ _|refine blk_drew ?_|refine blk_alloc ?_ _));exact BK214.out⟩,⟨bS GE214.out⟩⟩
  case round =>
   clear H'
   try clear c1
   try clear c2
   try clear p2
   try clear c4
   try clear c5
   try clear c12
   try clear hcz10_0 hcz10_1 hcz10_2 hcz10_3 hcz10_4 hcz10_5 hcz10_6 hcz10_7 hcz10_8 hcz10_9
   try clear hcz8_0 hcz8_1 hcz8_2 hcz8_3 hcz8_4 hcz8_5 hcz8_6 hcz8_7 hcz8_8 hcz8_9
   try clear hfz10_0 hfz10_1 hfz10_2 hfz10_3 hfz10_4 hfz10_5 hfz10_6 hfz10_7 hfz10_8 hfz10_9
   try clear hfz8_0 hfz8_1 hfz8_2 hfz8_3 hfz8_4 hfz8_5 hfz8_6 hfz8_7 hfz8_8 hfz8_9
   obtain⟨x8_1,x23_1,rfl,HA,HK1,HO_8,HO_21,BK214,HB⟩:=hrel
   cases gk with
   | zero=>exact absurd HA.out (by simp[spec_TreeFor.l0])
   | succ k1 =>
    have H:=HA.out
    clear HA
    simp only[spec_TreeFor.l0] at H
    by_cases c13:x23_1 < (t216.length:Int)
    ·rw[if_pos c13] at H
     have c13b0:decide (x23_1 < (t216.length:Int))=true:=decide_eq_true c13
     clear c13
     by_cases c14:0≤x23_1
     ·rw[if_pos c14] at H
      have c14b0:decide (0≤x23_1)=true:=decide_eq_true c14
      clear c14
      by_cases c15:x23_1 < (t216.length:Int)
      ·rw[if_pos c15] at H
       have c15b0:decide (x23_1 < (t216.length:Int))=true:=decide_eq_true c15
       clear c15
       have H':=Aside0.mk H
       clear H
       have p219:0≤(x23_1:Int):=of_decide_eq_true (bD)
       have q219:x23_1 < (t216.length:Int):=of_decide_eq_true (bD)
       obtain⟨ad219,A219_2,c219_2,e219,hx219_0,hx219_1,hx219_2,hl219_2,hi219_2⟩:=at_T109 (Kd.S_reads' HO_21.out).2.2 x23_1 p219 q219
       cases e219
       obtain⟨ce219,hce219,hMe219,hcc219⟩:=Kd.S_get HO_21.out z109 x23_1 p219 (by first|exact q219|exact of_decide_eq_true (bD)|(have e_:=(Kd.S_reads' HO_21.out).1;omega))
       obtain⟨ve219_2,rfl,ge219_2⟩:=k109_openM hMe219
       have hv219_2:=hcc219 2 _ rfl
       rw[add_field _ _ 2 (by omega)] at hv219_2
       replace hv219_2:=Option.some.inj (hv219_2.symm.trans hx219_2)
       rw[hv219_2] at ge219_2
       have HL219_2:=Aside0.mk (show Kd.R (Kd.int .i64) 3 _ _ _ _ ((rd_T109 t216 x23_1).f2) from ge219_2)
       clear hv219_2 ge219_2 hcc219 hce219
       have HR219_2:=Aside0.mk hi219_2
       have HC219_2:=Aside0.mk hl219_2
       clear hi219_2 hl219_2
       replace p219:=eq_true p219
       replace q219:=eq_true q219
       go_wp2_with (first|((with_reducible refine gate_dst (N:=10) rfl ?_);refine box_event ?hg (N:=10) ?hd (cs:=#[.int .i64 0,.int .i64 0,.slice none 0 0]) (t:=109) ?hr ?_;(case hd=>rfl);(case hg=>rfl);(case hr=>first|(go_simp;done)|(go_simp;rfl));intro gb220 hg w16 hbox hb;have n0_:=Aside0.mk (Kd.R_below (bK HO_8.out) hb);have n1_:=Aside0.mk (Kd.S_below (Kd.S_elderB (by(with_reducible repeat (first|apply Kd.S_alloc|apply Kd.S_drewN|apply Kd.S_drew));exact HO_21.out) gb220 (Nat.le_of_eq hg.symm)) hb);have n2_:=Aside0.mk (Kd.R_below (bK HL219_2.out) hb);have n3_:=Aside0.mk (bM BK214.out hb);have n4_:=Aside0.mk (Kd.C_below (by repeat (first|(with_reducible exact HR219_2.out)|(with_reducible refine Kd.C_alloc ?_ _)|(with_reducible refine Kd.C_drewN ?_ _)|(with_reducible refine Kd.C_drew ?_)|exact HR219_2.out)) hb);have n5_:=Aside0.mk (below_step (bS GE214.out) hb);have n6_:=Aside0.mk (hbox);have n7_:=Aside0.mk ((by rw[hg];exact(below_size (bS GE214.out)):w.heap.size≤gb220));have n8_:=Aside0.mk ((by rw[hg];exact(below_size (bS GE214.out)):w.heap.size≤gb220));have n9_:=Aside0.mk ((bN BK214.out hg:gb214≠gb220));have n10_:=Aside0.mk ((bO BK214.out hg:gb220≠gb214));clear HO_8 HO_21 HL219_2 BK214 HR219_2 HB;have HO_8:=n0_;have HO_21:=n1_;have HL219_2:=n2_;have BK214:=n3_;have HR219_2:=n4_;have HB:=n5_;have BK220:=n6_;have GW220:=n7_;have GE220:=n8_;have NB214_220:=n9_;have NB220_214:=n10_;clear n0_ n1_ n2_ n3_ n4_ n5_ n6_ n7_ n8_ n9_ n10_;clear hb hbox hg;have hnb17:=NB220_214.out;have hnc17:=NB214_220.out;obtain⟨hcz18_0,hcz18_1,hcz18_2⟩:=cC3 BK220.out;obtain⟨hfz18_0,hfz18_1,hfz18_2⟩:=cF3 BK220.out))
       go_loopg [8,30] k1 (fun kq v8 v30 w' => ∃ (x8_2:List Int) (x30_2:Int),v30=.int .i64 x30_2∧Aside0 (spec_TreeFor.l1 kq x8_2 t216 (t216.length:Int) x23_1 ((rd_T109 t216 x23_1).f2) (((rd_T109 t216 x23_1).f2).length:Int) x30_2=some (r1,r2))∧Aside0 (kq≤k1)∧Aside0 (Kd.R (Kd.int .i64) 3 w' w.heap.size (fun _=>True) v8 x8_2)∧Aside0 (Kd.S k109 109 w' w.heap.size (fun k_=>some k_≠(v8:Value).ownBlock∧k_≠gb220) (.slice (some ad219) t216.length co12) t216)∧Aside0 (Kd.R (Kd.int .i64) 3 w' w.heap.size (fun k_=>some k_≠(v8:Value).ownBlock) (.slice A219_2 ((rd_T109 t216 x23_1).f2).length c219_2) ((rd_T109 t216 x23_1).f2))∧Aside0 (w'.heap[gb214]?=some (.cells #[.int .i64 a1_0,.int .i64 a1_1,.bool a1_2,.int .i64 a1_3,.int .i64 a1_4,.int .i64 a1_5,.int .i64 a1_6,.int .i64 a1_7,.int .i64 a1_8,.string a1_9] 79 (0,0)))∧Aside0 (w'.heap[gb220]?=some (.cells #[.int .i64 ((rd_T109 t216 x23_1).f0),.int .i64 ((rd_T109 t216 x23_1).f1),(.slice A219_2 ((rd_T109 t216 x23_1).f2).length c219_2)] 109 (0,0)))∧Aside0 (Below w.heap.size w w'))
       case atStart=>exact⟨(x8_1),(0),(bR),H',⟨Nat.le_refl _⟩,⟨by(with_reducible repeat (first|apply Kd.R_alloc|apply Kd.R_drewN|apply Kd.R_drew));exact Kd.R_mono (Kd.R_far (p:=⟨gb220,2,none⟩) (Kd.R_far (p:=⟨gb220,1,none⟩) (Kd.R_far (p:=⟨gb220,0,none⟩) (Kd.R_types HO_8.out BK220.out (by decide)) (fun _ hk=>hk.2) (.int .i64 ((rd_T109 t216 x23_1).f0))) (fun _ hk=>hk.2) (.int .i64 ((rd_T109 t216 x23_1).f1))) (fun _ hk=>hk.2) (.slice A219_2 ((rd_T109 t216 x23_1).f2).length c219_2)) (fun _ hk=>trivial)⟩,⟨by(with_reducible repeat (first|apply Kd.S_alloc|apply Kd.S_drewN|apply Kd.S_drew));exact Kd.S_mono (Kd.S_far (p:=⟨gb220,2,none⟩) (Kd.S_far (p:=⟨gb220,1,none⟩) (Kd.S_far (p:=⟨gb220,0,none⟩) (Kd.S_mono HO_21.out (fun k_ hk=>(⟨hk,hk.2⟩:_∧k_≠gb220))) (fun _ hk=>hk.2) (.int .i64 ((rd_T109 t216 x23_1).f0))) (fun _ hk=>hk.2) (.int .i64 ((rd_T109 t216 x23_1).f1))) (fun _ hk=>hk.2) (.slice A219_2 ((rd_T109 t216 x23_1).f2).length c219_2)) (fun _ hk=>⟨hk.1.1,hk.1.2⟩)⟩,⟨by(with_reducible repeat (first|apply Kd.R_alloc|apply Kd.R_drewN|apply Kd.R_drew));exact Kd.R_mono (Kd.R_far (p:=⟨gb220,2,none⟩) (Kd.R_far (p:=⟨gb220,1,none⟩) (Kd.R_far (p:=⟨gb220,0,none⟩) (Kd.R_types HL219_2.out BK220.out (by decide)) (fun _ hk=>hk.2) (.int .i64 ((rd_T109 t216 x23_1).f0))) (fun _ hk=>hk.2) (.int .i64 ((rd_T109 t216 x23_1).f1))) (fun _ hk=>hk.2) (.slice A219_2 ((rd_T109 t216 x23_1).f2).length c219_2)) (fun _ hk=>hk.1.1)⟩,⟨by(with_reducible repeat (first|refine blk_drewN ?_ _|refine blk_drew ?_|refine blk_alloc ?_ _));refine blk_far ?_ NB214_220.out _;(with_reducible repeat (first|refine blk_drewN ?_ _|refine blk_drew ?_|refine blk_alloc ?_ _));refine blk_far ?_ NB214_220.out _;(with_reducible repeat (first|refine blk_drewN ?_ _|refine blk_drew ?_|refine blk_alloc ?_ _));refine blk_far ?_ NB214_220.out _;(with_reducible repeat (first|refine blk_drewN ?_ _|refine blk_drew ?_|refine blk_alloc ?_ _));exact BK214.out⟩,⟨by(with_reducible repeat (first|refine blk_drewN ?_ _|refine blk_drew ?_|refine blk_alloc ?_ _));refine blk_put (cs:=#[.int .i64 ((rd_T109 t216 x23_1).f0),.int .i64 ((rd_T109 t216 x23_1).f1),.slice none 0 0]) ?_ 2 _ rfl;(with_reducible repeat (first|refine blk_drewN ?_ _|refine blk_drew ?_|refine blk_alloc ?_ _));refine blk_put (cs:=#[.int .i64 ((rd_T109 t216 x23_1).f0),.int .i64 0,.slice none 0 0]) ?_ 1 _ rfl;(with_reducible repeat (first|refine blk_drewN ?_ _|refine blk_drew ?_|refine blk_alloc ?_ _));refine blk_put (cs:=#[.int .i64 0,.int .i64 0,.slice none 0 0]) ?_ 0 _ rfl;(with_reducible repeat (first|refine blk_drewN ?_ _|refine blk_drew ?_|refine blk_alloc ?_ _));exact BK220.out⟩,⟨bS2 GE214.out GE220.out⟩⟩
       case round =>
        clear H'
        try clear c1
        try clear c2
        try clear p2
        try clear q2
        try clear hx2
        try clear c4
        try clear c5
        try clear c12
        try clear c13
        try clear c13b0
        try clear c14
        try clear c14b0
        try clear c15
        try clear c15b0
        try clear c17
        try clear hcz10_0 hcz10_1 hcz10_2 hcz10_3 hcz10_4 hcz10_5 hcz10_6 hcz10_7 hcz10_8 hcz10_9
        try clear hcz18_0 hcz18_1 hcz18_2
        try clear hcz8_0 hcz8_1 hcz8_2 hcz8_3 hcz8_4 hcz8_5 hcz8_6 hcz8_7 hcz8_8 hcz8_9
        try clear hfz10_0 hfz10_1 hfz10_2 hfz10_3 hfz10_4 hfz10_5 hfz10_6 hfz10_7 hfz10_8 hfz10_9
        try clear hfz18_0 hfz18_1 hfz18_2
        try clear hfz8_0 hfz8_1 hfz8_2 hfz8_3 hfz8_4 hfz8_5 hfz8_6 hfz8_7 hfz8_8 hfz8_9
        try clear hx219_0
        try clear hx219_1
        try clear hx219_2
        try clear p2
        try clear p219
        try clear q219
        obtain⟨x8_2,x30_2,rfl,HA,HK2,HO_8,HO_21,HL_,BK214,BK220,HB⟩:=hrel
        cases gk with
        | zero=>exact absurd HA.out (by simp[spec_TreeFor.l1])
        | succ k2 =>
         have H:=HA.out
         clear HA
         simp only[spec_TreeFor.l1] at H
         by_cases c19:x30_2 < (((rd_T109 t216 x23_1).f2).length:Int)
         ·rw[if_pos c19] at H
          have c19b0:decide (x30_2 < (((rd_T109 t216 x23_1).f2).length:Int))=true:=decide_eq_true c19
          clear c19
          by_cases c20:0≤x30_2
          ·rw[if_pos c20] at H
           have c20b0:decide (0≤x30_2)=true:=decide_eq_true c20
           clear c20
           by_cases c21:x30_2 < (((rd_T109 t216 x23_1).f2).length:Int)
           ·rw[if_pos c21] at H
            have c21b0:decide (x30_2 < (((rd_T109 t216 x23_1).f2).length:Int))=true:=decide_eq_true c21
            clear c21
            replace H:=Option.bind_eq_some_iff.mp H
            obtain⟨t222,A220,H⟩:=H
            replace H:(spec_TreeFor.l1 k2 t222 t216 (t216.length:Int) x23_1 ((rd_T109 t216 x23_1).f2) (((rd_T109 t216 x23_1).f2).length:Int) (wrap64 (x30_2+1)))=some (r1,r2):=H
            have A22:=Aside0.mk A220
            clear A220
            have H':=Aside0.mk H
            clear H
            have p221:0≤(x30_2:Int):=of_decide_eq_true (bD)
            have q221:x30_2 < (((rd_T109 t216 x23_1).f2).length:Int):=of_decide_eq_true (bD)
            obtain⟨ad221,e221,hx221_0⟩:=Kd.at_int (Kd.R_reads' HL_.out).2.2 x30_2 p221 q221
            cases e221
            replace p221:=eq_true p221
            replace q221:=eq_true q221
            obtain⟨Ao23,co23,eo23⟩:=Kd.R_slice HO_8.out
            subst eo23
            go_wp2_with (first|((with_reducible refine gate_callee (f:=124) rfl ?_);refine goesA (some 36) rfl rfl Try.func124 #[.slice Ao23 x8_2.length co23,.int .i64 (rd ((rd_T109 t216 x23_1).f2) x30_2)] rfl ?_;(with_reducible refine(spec_l7Put.calls k2 (fun k_=>some k_=(.slice Ao23 x8_2.length co23:Value).ownBlock) (.slice Ao23 x8_2.length co23) x8_2 (rd ((rd_T109 t216 x23_1).f2) x30_2) t222 w _ ?side1 ?side2 A22.out).mono ?_);(case side1=>repeat (first|(with_reducible first|exact HB.out|apply below_alloc|apply pw_below_drewN|apply below_drew1|refine below_set ?_ GE214.out|refine below_set ?_ GE220.out)|exact HB.out));(case side2=>exact Kd.R_tight rfl HO_8.out);rintro e w24 ⟨v223,rfl,ho0,hb,hkp⟩;refine⟨_,rfl,?_⟩;have n0_:=Aside0.mk (Kd.S_mono (ok':=fun k_=>k_≠gb220∧some k_≠(v223:Value).ownBlock) (Kd.S_keptB (HO_21.out) hkp (fun k_ hk_ hs_=>(hk_.1) hs_)) (fun k_ hk_=>⟨hk_.1.2,fun e_=>Or.elim (ho0.1 k_ e_.symm) (fun hs_=>hk_.2.1 hs_) (fun hn_=>Nat.not_le.2 hk_.2.2 hn_)⟩));have n1_:=Aside0.mk (blk_kept (bL BK214.out) hkp (fun hs_=>(fun e_=>(Kd.R_ne HO_8.out BK214.out (by decide)) e_) hs_));have n2_:=Aside0.mk (blk_kept (bL BK220.out) hkp (fun hs_=>(fun e_=>(Kd.R_ne HO_8.out BK220.out (by decide)) e_) hs_));have n3_:=Aside0.mk (Kd.R_mono (ok':=fun k_=>True) ho0 (fun k_ hk_=>trivial));have n4_:=Aside0.mk (hb);have n5_:=Aside0.mk (Kd.R_mono (ok':=fun k_=>some k_≠(v223:Value).ownBlock) (Kd.R_keptB (HL_.out) hkp (fun k_ hk_ hs_=>hk_ hs_)) (fun k_ hk_=>fun e_=>Or.elim (ho0.1 k_ e_.symm) (fun hs_=>hk_.2.1 hs_) (fun hn_=>Nat.not_le.2 hk_.2.2 hn_)));clear HL_ HO_21 BK214 BK220 HB HO_8;have HO_21:=n0_;have BK214:=n1_;have BK220:=n2_;have HO224:=n3_;have HB:=n4_;have HL_:=n5_;clear n5_ n0_ n1_ n2_ n3_ n4_;(try clear hb);(try clear hkp);(try clear ho0)))
            go_roundg k2
            case measure=>have:=HK1.out;have:=HK2.out;omega
            case rel=>exact⟨(t222),(wrap64 (x30_2+1)),(bR),H',⟨by have:=HK1.out;have:=HK2.out;omega⟩,⟨by(with_reducible repeat (first|apply Kd.R_alloc|apply Kd.R_drewN|apply Kd.R_drew));exact HO224.out⟩,⟨by(with_reducible repeat (first|apply Kd.S_alloc|apply Kd.S_drewN|apply Kd.S_drew));exact Kd.S_mono HO_21.out (fun _ hk=>⟨hk.2,hk.1⟩)⟩,⟨by(with_reducible repeat (first|apply Kd.R_alloc|apply Kd.R_drewN|apply Kd.R_drew));exact HL_.out⟩,⟨by(with_reducible repeat (first|refine blk_drewN ?_ _|refine blk_drew ?_|refine blk_alloc ?_ _));exact BK214.out⟩,⟨by(with_reducible repeat (first|refine blk_drewN ?_ _|refine blk_drew ?_|refine blk_alloc ?_ _));exact BK220.out⟩,⟨bS2 GE214.out GE220.out⟩⟩
           ·rw[if_neg c21] at H
            exact absurd H (by simp)
          ·rw[if_neg c20] at H
           exact absurd H (by simp)
         ·rw[if_neg c19] at H
          have c19b0:decide (x30_2 < (((rd_T109 t216 x23_1).f2).length:Int))=false:=decide_eq_false c19
          clear c19
          have H':=Aside0.mk H
          clear H
          go_wp2
          go_roundg k2
          case measure=>have:=HK1.out;have:=HK2.out;omega
          case rel=>exact⟨(x8_2),(wrap64 (x23_1+1)),(bR),H',⟨by have:=HK1.out;have:=HK2.out;omega⟩,⟨by(with_reducible repeat (first|apply Kd.R_alloc|apply Kd.R_drewN|apply Kd.R_drew));exact HO_8.out⟩,⟨by(with_reducible repeat (first|apply Kd.S_alloc|apply Kd.S_drewN|apply Kd.S_drew));exact Kd.S_mono HO_21.out (fun _ hk=>hk.1)⟩,⟨by(with_reducible repeat (first|refine blk_drewN ?_ _|refine blk_drew ?_|refine blk_alloc ?_ _));exact BK214.out⟩,⟨bS2 GE214.out GE220.out⟩⟩
      ·rw[if_neg c15] at H
       exact absurd H (by simp)
     ·rw[if_neg c14] at H
      exact absurd H (by simp)
    ·rw[if_neg c13] at H
     have c13b0:decide (x23_1 < (t216.length:Int))=false:=decide_eq_false c13
     clear c13
     simp only[Option.some.injEq,Prod.mk.injEq] at H
     obtain⟨rfl,rfl⟩:=H
     go_wp2
     go_ret2
     exact⟨_,by first|rfl|(simp[errW_none,errW_some]<;>rfl)|(simp[*,errW_none,errW_some]<;>rfl),by(with_reducible repeat (first|apply Kd.R_alloc|apply Kd.R_drewN|apply Kd.R_drew));exact HO_8.out,bS GE214.out⟩
 ·replace c5:=Bool.eq_false_iff.mpr c5
  subst c5
  have H1:(some (([]:List Int),false))=some (r1,r2):=by rw[if_neg (show ¬ (false=true) by decide)] at H;exact H
  clear H
  have H:=H1
  clear H1
  simp only[Option.some.injEq,Prod.mk.injEq] at H
  obtain⟨rfl,rfl⟩:=H
  go_enter Try.func49,Try.ntmps49
  go_wp2_with (first|((with_reducible refine gate_dst (N:=4) rfl ?_);refine box_event ?hg (N:=4) ?hd (cs:=#[.int .i64 a1_0,.int .i64 a1_1,.bool a1_2,.int .i64 a1_3,.int .i64 a1_4,.int .i64 a1_5,.int .i64 a1_6,.int .i64 a1_7,.int .i64 a1_8,.string a1_9]) (t:=79) ?hr ?_;(case hd=>rfl);(case hg=>rfl);(case hr=>first|(go_simp;done)|(go_simp;rfl));intro gb214 hg w25 hbox hb;have n0_:=Aside0.mk (below_step (bB) hb);have n1_:=Aside0.mk (hbox);have n2_:=Aside0.mk ((bG:w.heap.size≤gb214));have n3_:=Aside0.mk ((bG:w.heap.size≤gb214));clear HB;have HB:=n0_;have BK214:=n1_;have GW214:=n2_;have GE214:=n3_;clear n0_ n1_ n2_ n3_;clear hb hbox hg;obtain⟨hcz26_0,hcz26_1,hcz26_2,hcz26_3,hcz26_4,hcz26_5,hcz26_6,hcz26_7,hcz26_8,hcz26_9⟩:=cC10 BK214.out;obtain⟨hfz26_0,hfz26_1,hfz26_2,hfz26_3,hfz26_4,hfz26_5,hfz26_6,hfz26_7,hfz26_8,hfz26_9⟩:=cF10 BK214.out)|((with_reducible refine gate_callee (f:=122) rfl ?_);refine goesA (some 16) rfl rfl Try.func122 #[.slice A0 l0.length c0,.agg #[.int .i64 a1_0,.int .i64 a1_1,.bool a1_2,.int .i64 a1_3,.int .i64 a1_4,.int .i64 a1_5,.int .i64 a1_6,.int .i64 a1_7,.int .i64 a1_8,.string a1_9],.slice A2 l2.length c2] rfl ?_;(with_reducible refine(spec_l17Ask.calls k _ _ l0 a1_0 a1_1 a1_2 a1_3 a1_4 a1_5 a1_6 a1_7 a1_8 a1_9 _ _ l2 false _ ?side1 ?side2 ?side3 ?side4 A4.out).mono ?_);(case side1=>exact bC HR0.out);(case side2=>exact HC0.out);(case side3=>exact bC HR2.out);(case side4=>exact HC2.out);rintro e w27 ⟨rfl,hb⟩;refine⟨_,rfl,?_⟩;have n0_:=Aside0.mk (bM BK214.out hb);have n1_:=Aside0.mk (below_step (bS GE214.out) hb);clear BK214 HB;have BK214:=n0_;have HB:=n1_;clear n0_ n1_;(try clear hb);(try clear hb2);(try clear hk);(try clear hi)))
  go_ret2
  exact⟨_,by first|rfl|(simp[errW_none,errW_some]<;>rfl)|(simp[*,errW_none,errW_some]<;>rfl),by first|exact Kd.R_nil _ _ _ _ _|exact Kd.N_nil _ _ _ _ _|exact Kd.V_nil _ _ _ _ _|exact Kd.Q_nil _ _ _ _ _|exact Kd.S_nil _ _ _ _ _,bS GE214.out⟩

/-! ### laws_toContact: function 125 -/
def laws_toContact.f (a0_0:Int) (a0_1:Int) (a0_2:Int) (a0_3:Int) (a0_4:Int):Option (Int × Int × Int × Int × Int):=some (a0_0,a0_1,a0_2,a0_3,a0_4)
set_option maxHeartbeats 8000000 in
set_option maxRecDepth 100000 in
theorem laws_toContact.calls (a0_0:Int) (a0_1:Int) (a0_2:Int) (a0_3:Int) (a0_4:Int) (r1:Int) (r2:Int) (r3:Int) (r4:Int) (r5:Int) (w:World) (h:laws_toContact.f a0_0 a0_1 a0_2 a0_3 a0_4=some (r1,r2,r3,r4,r5)) :
  Calls Try.prog 125 #[.agg #[.int .i64 a0_0,.int .i64 a0_1,.int .i64 a0_2,.int .i64 a0_3,.int .i64 a0_4]] w fun e w'=>e=.returned (.agg #[.int .i64 r1,.int .i64 r2,.int .i64 r3,.int .i64 r4,.int .i64 r5])∧Below w.heap.size w w':=by
 have hu167:=Try.underlying167
 have hu165:=Try.underlying165
 have HB:=Aside0.mk (Below.refl w.heap.size w)
 have H:(some (a0_0,a0_1,a0_2,a0_3,a0_4))=some (r1,r2,r3,r4,r5):=h
 clear h
 simp only[Option.some.injEq,Prod.mk.injEq] at H
 obtain⟨rfl,rfl,rfl,rfl,rfl⟩:=H
 go_enter Try.func125,Try.ntmps125
 go_wp2_with (first|((with_reducible refine gate_dst (N:=1) rfl ?_);refine box_event ?hg (N:=1) ?hd (cs:=#[.int .i64 a0_0,.int .i64 a0_1,.int .i64 a0_2,.int .i64 a0_3,.int .i64 a0_4]) (t:=167) ?hr ?_;(case hd=>rfl);(case hg=>rfl);(case hr=>first|(go_simp;done)|(go_simp;rfl));intro gb225 hg w2 hbox hb;have n0_:=Aside0.mk (below_step (bB) hb);have n1_:=Aside0.mk (hbox);have n2_:=Aside0.mk ((bG:w.heap.size≤gb225));have n3_:=Aside0.mk ((bG:w.heap.size≤gb225));clear HB;have HB:=n0_;have BK225:=n1_;have GW225:=n2_;have GE225:=n3_;clear n0_ n1_ n2_ n3_;clear hb hbox hg)|((with_reducible refine gate_dst (N:=2) rfl ?_);refine box_event ?hg (N:=2) ?hd (cs:=#[.int .i64 0,.int .i64 0,.int .i64 0,.int .i64 0,.int .i64 0]) (t:=165) ?hr ?_;(case hd=>rfl);(case hg=>rfl);(case hr=>first|(go_simp;done)|(go_simp;rfl));intro gb226 hg w3 hbox hb;have n0_:=Aside0.mk (bM BK225.out hb);have n1_:=Aside0.mk (below_step (bS GE225.out) hb);have n2_:=Aside0.mk (hbox);have n3_:=Aside0.mk ((by rw[hg];exact(below_size (bS GE225.out)):w.heap.size≤gb226));have n4_:=Aside0.mk ((by rw[hg];exact(below_size (bS GE225.out)):w.heap.size≤gb226));have n5_:=Aside0.mk ((bN BK225.out hg:gb225≠gb226));have n6_:=Aside0.mk ((bO BK225.out hg:gb226≠gb225));clear BK225 HB;have BK225:=n0_;have HB:=n1_;have BK226:=n2_;have GW226:=n3_;have GE226:=n4_;have NB225_226:=n5_;have NB226_225:=n6_;clear n0_ n1_ n2_ n3_ n4_ n5_ n6_;clear hb hbox hg)|((with_reducible refine gate_dst (N:=3) rfl ?_);refine box_event ?hg (N:=3) ?hd (cs:=#[.int .i64 0,.int .i64 0,.int .i64 0,.int .i64 0,.int .i64 0]) (t:=165) ?hr ?_;(case hd=>rfl);(case hg=>rfl);(case hr=>first|(go_simp;done)|(go_simp;rfl));intro gb227 hg w4 hbox hb;have n0_:=Aside0.mk (bM BK225.out hb);have n1_:=Aside0.mk (bM BK226.out hb);have n2_:=Aside0.mk (below_step (bS2 GE225.out GE226.out) hb);have n3_:=Aside0.mk (hbox);have n4_:=Aside0.mk ((by rw[hg];exact(below_size (bS2 GE225.out GE226.out)):w.heap.size≤gb227));have n5_:=Aside0.mk ((by rw[hg];exact(below_size (bS2 GE225.out GE226.out)):w.heap.size≤gb227));have n6_:=Aside0.mk ((bN BK225.out hg:gb225≠gb227));have n7_:=Aside0.mk ((bO BK225.out hg:gb227≠gb225));have n8_:=Aside0.mk ((bN BK226.out hg:gb226≠gb227));have n9_:=Aside0.mk ((bO BK226.out hg:gb227≠gb226));clear BK225 BK226 HB;have BK225:=n0_;have BK226:=n1_;have HB:=n2_;have BK227:=n3_;have GW227:=n4_;have GE227:=n5_;have NB225_227:=n6_;have NB227_225:=n7_;have NB226_227:=n8_;have NB227_226:=n9_;clear n0_ n1_ n2_ n3_ n4_ n5_ n6_ n7_ n8_ n9_;clear hb hbox hg;have hnb5:=NB225_226.out;have hnc5:=NB226_225.out;have hnb6:=NB225_227.out;have hnc6:=NB227_225.out;obtain⟨hcz7_0,hcz7_1,hcz7_2,hcz7_3,hcz7_4⟩:=cC5 BK225.out;obtain⟨hfz7_0,hfz7_1,hfz7_2,hfz7_3,hfz7_4⟩:=cF5 BK225.out;have hnb8:=NB227_226.out;have hnc8:=NB226_227.out;obtain⟨hcz9_0,hcz9_1,hcz9_2,hcz9_3,hcz9_4⟩:=cC5 BK227.out;obtain⟨hfz9_0,hfz9_1,hfz9_2,hfz9_3,hfz9_4⟩:=cF5 BK227.out;obtain⟨hcz10_0,hcz10_1,hcz10_2,hcz10_3,hcz10_4⟩:=cC5 BK226.out;obtain⟨hfz10_0,hfz10_1,hfz10_2,hfz10_3,hfz10_4⟩:=cF5 BK226.out))
 refine bodyPost_ret (results_cell_row rfl _ _ gb226 165 #[.int .i64 a0_0,.int .i64 a0_1,.int .i64 a0_2,.int .i64 a0_3,.int .i64 a0_4] (0,0) _ rfl (by(with_reducible repeat (first|refine blk_drewN ?_ _|refine blk_drew ?_|refine blk_alloc ?_ _));refine blk_put (cs:=#[.int .i64 a0_0,.int .i64 a0_1,.int .i64 a0_2,.int .i64 a0_3,.int .i64 0]) ?_ 4 _ rfl;(with_reducible repeat (first|refine blk_drewN ?_ _|refine blk_drew ?_|refine blk_alloc ?_ _));refine blk_put (cs:=#[.int .i64 a0_0,.int .i64 a0_1,.int .i64 a0_2,.int .i64 0,.int .i64 0]) ?_ 3 _ rfl;(with_reducible repeat (first|refine blk_drewN ?_ _|refine blk_drew ?_|refine blk_alloc ?_ _));refine blk_put (cs:=#[.int .i64 a0_0,.int .i64 a0_1,.int .i64 0,.int .i64 0,.int .i64 0]) ?_ 2 _ rfl;(with_reducible repeat (first|refine blk_drewN ?_ _|refine blk_drew ?_|refine blk_alloc ?_ _));refine blk_put (cs:=#[.int .i64 a0_0,.int .i64 0,.int .i64 0,.int .i64 0,.int .i64 0]) ?_ 1 _ rfl;(with_reducible repeat (first|refine blk_drewN ?_ _|refine blk_drew ?_|refine blk_alloc ?_ _));refine blk_put (cs:=#[.int .i64 0,.int .i64 0,.int .i64 0,.int .i64 0,.int .i64 0]) ?_ 0 _ rfl;(with_reducible repeat (first|refine blk_drewN ?_ _|refine blk_drew ?_|refine blk_alloc ?_ _));refine blk_far ?_ NB226_227.out _;(with_reducible repeat (first|refine blk_drewN ?_ _|refine blk_drew ?_|refine blk_alloc ?_ _));refine blk_far ?_ NB226_227.out _;(with_reducible repeat (first|refine blk_drewN ?_ _|refine blk_drew ?_|refine blk_alloc ?_ _));refine blk_far ?_ NB226_227.out _;(with_reducible repeat (first|refine blk_drewN ?_ _|refine blk_drew ?_|refine blk_alloc ?_ _));refine blk_far ?_ NB226_227.out _;(with_reducible repeat (first|refine blk_drewN ?_ _|refine blk_drew ?_|refine blk_alloc ?_ _));refine blk_far ?_ NB226_227.out _;(with_reducible repeat (first|refine blk_drewN ?_ _|refine blk_drew ?_|refine blk_alloc ?_ _));exact BK226.out) Try.underlying165 rfl (by kernel_rfl)) rfl ?_
 exact⟨bE,bS3 GE225.out GE226.out GE227.out⟩

/-! ### laws_toContactS: function 50 -/
def laws_toContactS.l0:Nat→List (S167)→List (S165)→Int→Option ((List (S165)))
 | 0,_,_,_=>none
 | k+1,x0,x3,x4=>if x4 < (x0.length:Int) then (if 0≤x4 then ((laws_toContact.f ((rd_T167 x0 x4).f0) ((rd_T167 x0 x4).f1) ((rd_T167 x0 x4).f2) ((rd_T167 x0 x4).f3) ((rd_T167 x0 x4).f4)).bind fun bt232=>(if x4 < (x3.length:Int) then (laws_toContactS.l0 k x0 (x3.set (x4:Int).toNat (⟨bt232.1,bt232.2.1,bt232.2.2.1,bt232.2.2.2.1,bt232.2.2.2.2⟩:S165)) (wrap64 (x4+1))) else (none))) else (none)) else (some x3)
def laws_toContactS.f (k:Nat) (l0:List (S167)):Option ((List (S165))):=if 0≤(l0.length:Int) then (if ((l0.length:Int):Int).toNat≤7036874417766 then (laws_toContactS.l0 k l0 (List.replicate ((l0.length:Int):Int).toNat z165) 0) else (none)) else (none)
theorem laws_toContactS.mono_l : ∀ k,(∀ y0 y1 y2,LeO (laws_toContactS.l0 k y0 y1 y2) (laws_toContactS.l0 (k+1) y0 y1 y2))
 | 0=>fun _ _ _ r h=>by simp[laws_toContactS.l0] at h
 | k+1=>by
  have ih0:=laws_toContactS.mono_l k
  ·intro y0 y1 y2
   unfold laws_toContactS.l0
   repeat' first
   | (with_reducible exact ih0 _ _ _)
   | (with_reducible exact LeO.refl _)
   | (with_reducible exact LeO.none _)
   | (with_reducible refine LeO.ite ?_ ?_)
   | (with_reducible refine LeO.bind ?_ (fun _ => ?_))
   | exact ih0 _ _ _
   | exact LeO.none _
   | refine LeO.ite ?_ ?_
   | refine LeO.bind ?_ (fun _ => ?_)
theorem laws_toContactS.mono : ∀ a0 k,LeO (laws_toContactS.f k a0) (laws_toContactS.f (k+1) a0):=by
 intro a0 k
 have ih0:=laws_toContactS.mono_l k
 unfold laws_toContactS.f
 repeat' first
  | (with_reducible exact ih0 _ _ _)
  | (with_reducible exact LeO.refl _)
  | (with_reducible exact LeO.none _)
  | (with_reducible refine LeO.ite ?_ ?_)
  | (with_reducible refine LeO.bind ?_ (fun _ => ?_))
  | exact ih0 _ _ _
  | exact LeO.none _
  | refine LeO.ite ?_ ?_
  | refine LeO.bind ?_ (fun _ => ?_)
set_option maxHeartbeats 8000000 in
set_option maxRecDepth 100000 in
theorem laws_toContactS.calls (k:Nat) (A0:Option Addr) (c0:Nat) (l0:List (S167)) (r:List (S165)) (w:World) (hr0:Kd.C k167 w A0 l0.length l0) (hc0:l0.length≤c0) (h:laws_toContactS.f k l0=some r) :
  Calls Try.prog 50 #[.slice A0 l0.length c0] w fun e w' => ∃ v0_:Value,e=.returned (v0_)∧Kd.R k165 165 w' w.heap.size (fun _=>True) v0_ r∧Below w.heap.size w w':=by
 have hu167:=Try.underlying167
 have hu165:=Try.underlying165
 have HR0:=Aside0.mk hr0
 have HC0:=Aside0.mk hc0
 clear hr0 hc0
 have HB:=Aside0.mk (Below.refl w.heap.size w)
 have H:(if 0≤(l0.length:Int) then (if ((l0.length:Int):Int).toNat≤7036874417766 then (laws_toContactS.l0 k l0 (List.replicate ((l0.length:Int):Int).toNat z165) 0) else (none)) else (none))=some r:=h
 clear h
 by_cases c2:0≤(l0.length:Int)
 ·rw[if_pos c2] at H
  have c2b0:=eq_true c2
  have c2b1:decide (0≤(l0.length:Int))=true:=decide_eq_true c2
  clear c2
  by_cases c3:((l0.length:Int):Int).toNat≤7036874417766
  ·rw[if_pos c3] at H
   have c3b0:=eq_true c3
   have c3b1:decide (((l0.length:Int):Int).toNat≤7036874417766)=true:=decide_eq_true c3
   clear c3
   obtain⟨y228,hy228⟩ : ∃ y_:List (S165),y_=(List.replicate ((l0.length:Int):Int).toNat z165):=⟨_,rfl⟩
   replace H:(laws_toContactS.l0 k l0 y228 0)=some r:=by first|(rw[hy228];with_reducible exact H)|(have H2_:=(Option.bind_some _ _).symm.trans H;rw[hy228];with_reducible exact H2_)|(have H2_:=(Option.bind_some _ _).symm.trans H;with_reducible exact H2_)|with_reducible exact H|(rw[hy228];exact H)|exact H
   have Ny228:=Aside0.mk hy228
   clear hy228
   have H':=Aside0.mk H
   clear H
   go_enter Try.func50,Try.ntmps50
   go_wp2_with (first|((with_reducible refine gate_dst (N:=7) rfl ?_);refine Kd.R_make k165 _ 165 rfl (N:=7) rfl 77 _ _ rfl (l0.length:Int) rfl rfl Try.underlying77 (.agg #[(.int .i64 0),(.int .i64 0),(.int .i64 0),(.int .i64 0),(.int .i64 0)]) 40 info165 rfl (by decide) (by omega) z165 (ok:=fun _=>True) (okp:=fun _=>True) (k165_mkM _ _ _ z165 ) (fun _ hk=>hk) trivial (of_decide_eq_true (bD)) (Nat.le_trans (Nat.mul_le_mul_right _ (of_decide_eq_true (bD):(l0.length:Int).toNat≤7036874417766)) (by omega)) (Below.refl _ _) (Nat.le_refl _) ?_;intro v229 w4 ho5 hb hg_ hnew_;clear hg_ hnew_;(first|rw[← Ny228.out] at ho5|(simp only[Int.reduceToNat] at ho5;rw[← Ny228.out] at ho5));have n0_:=Aside0.mk (Kd.R_lower ho5 (below_size (bB)));have n1_:=Aside0.mk (below_step (bB) hb);clear HB;have HO230:=n0_;have HB:=n1_;clear n0_ n1_;clear hb ho5))
   go_loopg [4] k (fun kq v4 w' => ∃ (x3_1:List (S165)) (x4_1:Int),v4=.int .i64 x4_1∧Aside0 (laws_toContactS.l0 kq l0 x3_1 x4_1=some r)∧Aside0 (kq≤k)∧Aside0 (Kd.R k165 165 w' w.heap.size (fun _=>True) v229 x3_1)∧Aside0 (Below w.heap.size w w'))
   case atStart=>exact⟨(y228),(0),(bR),H',⟨Nat.le_refl _⟩,⟨by(with_reducible repeat (first|apply Kd.R_alloc|apply Kd.R_drewN|apply Kd.R_drew));exact HO230.out⟩,⟨by repeat (first|(with_reducible first|exact HB.out|apply below_alloc|apply pw_below_drewN|apply below_drew1)|exact HB.out)⟩⟩
   case round =>
    clear H'
    try clear c2
    try clear c2b0
    try clear c2b1
    try clear p2
    try clear c3
    try clear c3b0
    try clear c3b1
    try clear c5
    obtain⟨x3_1,x4_1,rfl,HA,HK1,HO_3,HB⟩:=hrel
    cases gk with
    | zero=>exact absurd HA.out (by simp[laws_toContactS.l0])
    | succ k1 =>
     have H:=HA.out
     clear HA
     simp only[laws_toContactS.l0] at H
     by_cases c6:x4_1 < (l0.length:Int)
     ·rw[if_pos c6] at H
      have c6b0:decide (x4_1 < (l0.length:Int))=true:=decide_eq_true c6
      clear c6
      by_cases c7:0≤x4_1
      ·rw[if_pos c7] at H
       have c7b0:decide (0≤x4_1)=true:=decide_eq_true c7
       clear c7
       replace H:=Option.bind_eq_some_iff.mp H
       obtain⟨⟨t232,t233,t234,t235,t236⟩,A80,H⟩:=H
       have A8:=Aside0.mk A80
       clear A80
       by_cases c9:x4_1 < (x3_1.length:Int)
       ·rw[if_pos c9] at H
        have c9b0:decide (x4_1 < (x3_1.length:Int))=true:=decide_eq_true c9
        clear c9
        obtain⟨y237,hy237⟩ : ∃ y_:List (S165),y_=(x3_1.set (x4_1:Int).toNat (⟨t232,t233,t234,t235,t236⟩:S165)):=⟨_,rfl⟩
        replace H:(laws_toContactS.l0 k1 l0 y237 (wrap64 (x4_1+1)))=some r:=by first|(rw[hy237];with_reducible exact H)|(have H2_:=(Option.bind_some _ _).symm.trans H;rw[hy237];with_reducible exact H2_)|(have H2_:=(Option.bind_some _ _).symm.trans H;with_reducible exact H2_)|with_reducible exact H|(rw[hy237];exact H)|exact H
        have Ny237:=Aside0.mk hy237
        clear hy237
        have H':=Aside0.mk H
        clear H
        have p231:0≤(x4_1:Int):=of_decide_eq_true (bD)
        have q231:x4_1 < (l0.length:Int):=of_decide_eq_true (bD)
        obtain⟨ad231,e231,hx231_0,hx231_1,hx231_2,hx231_3,hx231_4⟩:=at_T167 HR0.out x4_1 p231 q231
        cases e231
        replace hx231_0:=(HB.out.cell (World.block_lt_of_cell? w _ hx231_0)).trans hx231_0
        replace hx231_1:=(HB.out.cell (World.block_lt_of_cell? w _ hx231_1)).trans hx231_1
        replace hx231_2:=(HB.out.cell (World.block_lt_of_cell? w _ hx231_2)).trans hx231_2
        replace hx231_3:=(HB.out.cell (World.block_lt_of_cell? w _ hx231_3)).trans hx231_3
        replace hx231_4:=(HB.out.cell (World.block_lt_of_cell? w _ hx231_4)).trans hx231_4
        replace p231:=eq_true p231
        replace q231:=eq_true q231
        go_wp2_with (first|((with_reducible refine gate_callee (f:=125) rfl ?_);refine goesA (some 20) rfl rfl Try.func125 #[.agg #[.int .i64 ((rd_T167 l0 x4_1).f0),.int .i64 ((rd_T167 l0 x4_1).f1),.int .i64 ((rd_T167 l0 x4_1).f2),.int .i64 ((rd_T167 l0 x4_1).f3),.int .i64 ((rd_T167 l0 x4_1).f4)]] rfl ?_;(with_reducible refine(laws_toContact.calls ((rd_T167 l0 x4_1).f0) ((rd_T167 l0 x4_1).f1) ((rd_T167 l0 x4_1).f2) ((rd_T167 l0 x4_1).f3) ((rd_T167 l0 x4_1).f4) t232 t233 t234 t235 t236 _ A8.out).mono ?_);rintro e w11 ⟨rfl,hb⟩;refine⟨_,rfl,?_⟩;have n0_:=Aside0.mk (Kd.R_below (bK HO_3.out) hb);have n1_:=Aside0.mk (below_step (bB) hb);clear HO_3 HB;have HO_3:=n0_;have HB:=n1_;clear n0_ n1_;(try clear hb);(try clear hb2);(try clear hk);(try clear hi);have p10:0≤(x4_1:Int):=of_decide_eq_true (bD);have q10:(x4_1:Int) < ((x3_1.length:Int):Int):=of_decide_eq_true (bD);obtain⟨go10,co10,eo10,gb10,gl10,cl10,HG10⟩:=Kd.R_form HO_3.out (by omega);(first|cases eo10|(injection eo10 with ea_ en_ ec_;(first|subst ea_|(injection ea_ with ea_;subst ea_));subst ec_;clear en_));have GB10:=Aside0.mk gb10;have GG10:=Aside0.mk HG10;clear gb10 gl10 HG10;obtain⟨ce10,hcl10,hM10,hcc10,hfr10⟩:=Kd.R_elem HO_3.out z165 (x4_1:Int) p10 q10;obtain rfl:=k165_openM hM10;have hx10_0:w11.cell? ⟨go10,(x4_1:Int).toNat * 5,none⟩=some (.int .i64 ((rd_T165 x3_1 x4_1).f0)):=hcc10 0 _ rfl;have hx10_1:w11.cell? ⟨go10,(x4_1:Int).toNat * 5+1,none⟩=some (.int .i64 ((rd_T165 x3_1 x4_1).f1)):=hcc10 1 _ rfl;have hx10_2:w11.cell? ⟨go10,(x4_1:Int).toNat * 5+2,none⟩=some (.int .i64 ((rd_T165 x3_1 x4_1).f2)):=hcc10 2 _ rfl;have hx10_3:w11.cell? ⟨go10,(x4_1:Int).toNat * 5+3,none⟩=some (.int .i64 ((rd_T165 x3_1 x4_1).f3)):=hcc10 3 _ rfl;have hx10_4:w11.cell? ⟨go10,(x4_1:Int).toNat * 5+4,none⟩=some (.int .i64 ((rd_T165 x3_1 x4_1).f4)):=hcc10 4 _ rfl;have hf10_0:w11.frozen? ⟨go10,(x4_1:Int).toNat * 5,none⟩=false:=hfr10 0;have hf10_1:w11.frozen? ⟨go10,(x4_1:Int).toNat * 5+1,none⟩=false:=hfr10 1;have hf10_2:w11.frozen? ⟨go10,(x4_1:Int).toNat * 5+2,none⟩=false:=hfr10 2;have hf10_3:w11.frozen? ⟨go10,(x4_1:Int).toNat * 5+3,none⟩=false:=hfr10 3;have hf10_4:w11.frozen? ⟨go10,(x4_1:Int).toNat * 5+4,none⟩=false:=hfr10 4;clear hcl10 hcc10 hfr10 hM10;replace p10:=eq_true p10;replace q10:=eq_true q10;have HX12:=Aside0.mk (show Kd.R k165 165 w11 w.heap.size (fun _=>True) (.slice (some ⟨go10,0,none⟩) x3_1.length co10) x3_1 from (bK HO_3.out));obtain⟨ce12,hcl12,hM12,hcc12,hfr12⟩:=Kd.R_elem HX12.out z165 (x4_1:Int) (of_decide_eq_true (bD)) (by have h_:(x4_1:Int) < ((x3_1.length:Int):Int):=of_decide_eq_true (bD);first|exact h_|(have e_:=(Kd.R_reads' HO_3.out).1;omega)|simpa using h_);obtain rfl:=k165_openM hM12;have HP12:=Kd.R_seg HX12.out (x4_1:Int) (of_decide_eq_true (bD)) (by have h_:(x4_1:Int) < ((x3_1.length:Int):Int):=of_decide_eq_true (bD);first|exact h_|(have e_:=(Kd.R_reads' HO_3.out).1;omega)|simpa using h_) (seg:=[.int .i64 t232,.int .i64 t233,.int .i64 t234,.int .i64 t235,.int .i64 t236]) (j:=0) hcl12 hcc12 (show 5≤5 from by decide) (x':=(⟨t232,t233,t234,t235,t236⟩:S165)) (k165_mkM _ _ _ (⟨t232,t233,t234,t235,t236⟩:S165) ) (fun _ hk=>hk);have hx12_0:=hcc12 0 _ rfl;(try simp only[show(k165).sz=5 from rfl,Nat.mul_one,Nat.add_zero] at hx12_0);have hf12_0:=hfr12 0;(try simp only[show(k165).sz=5 from rfl,Nat.mul_one,Nat.add_zero] at hf12_0);have hx12_1:=hcc12 1 _ rfl;(try simp only[show(k165).sz=5 from rfl,Nat.mul_one,Nat.add_zero] at hx12_1);have hf12_1:=hfr12 1;(try simp only[show(k165).sz=5 from rfl,Nat.mul_one,Nat.add_zero] at hf12_1);have hx12_2:=hcc12 2 _ rfl;(try simp only[show(k165).sz=5 from rfl,Nat.mul_one,Nat.add_zero] at hx12_2);have hf12_2:=hfr12 2;(try simp only[show(k165).sz=5 from rfl,Nat.mul_one,Nat.add_zero] at hf12_2);have hx12_3:=hcc12 3 _ rfl;(try simp only[show(k165).sz=5 from rfl,Nat.mul_one,Nat.add_zero] at hx12_3);have hf12_3:=hfr12 3;(try simp only[show(k165).sz=5 from rfl,Nat.mul_one,Nat.add_zero] at hf12_3);have hx12_4:=hcc12 4 _ rfl;(try simp only[show(k165).sz=5 from rfl,Nat.mul_one,Nat.add_zero] at hx12_4);have hf12_4:=hfr12 4;(try simp only[show(k165).sz=5 from rfl,Nat.mul_one,Nat.add_zero] at hf12_4);clear hcl12 hcc12 hfr12 hM12)|((with_reducible refine gate_store (t:=165) (p:=21) rfl ?_);refine store_event (t:=165) (p:=21) (v:=?vo_w13) (w1:=(((((w11.setCell ⟨go10,(x4_1:Int).toNat * 5,none⟩ (.int .i64 t232)).setCell ⟨go10,(x4_1:Int).toNat * 5+1,none⟩ (.int .i64 t233)).setCell ⟨go10,(x4_1:Int).toNat * 5+2,none⟩ (.int .i64 t234)).setCell ⟨go10,(x4_1:Int).toNat * 5+3,none⟩ (.int .i64 t235)).setCell ⟨go10,(x4_1:Int).toNat * 5+4,none⟩ (.int .i64 t236))) ?hg ?ho ?hn ?hr ?_;(case ho=>rfl);(case hg=>rfl);(case hn=>rfl);(case hr=>first|(go_simp;done)|(go_simp;rfl));intro w13 hw;have hg:w11.grownBy w13 (some go10):=(by rw[hw];exact HP12.2);have hp_:Kd.R k165 165 w13 w.heap.size (fun _=>True) (.slice (some ⟨go10,0,none⟩) x3_1.length co10) y237:=(by rw[hw,Ny237.out];exact HP12.1);clear HP12;have n0_:=Aside0.mk (hp_);have n1_:=Aside0.mk ((by rw[hw];exact below_set (below_set (below_set (below_set (below_set (HB.out) GB10.out) GB10.out) GB10.out) GB10.out) GB10.out:Below w.heap.size w w13));clear HO_3 HB;have HO_3:=n0_;have HB:=n1_;clear n0_ n1_;clear hg hw hp_))
        go_roundg k1
        case measure=>have:=HK1.out;omega
        case rel=>exact⟨(y237),(wrap64 (x4_1+1)),(bR),H',⟨by have:=HK1.out;omega⟩,⟨by(with_reducible repeat (first|apply Kd.R_alloc|apply Kd.R_drewN|apply Kd.R_drew));exact HO_3.out⟩,⟨by repeat (first|(with_reducible first|exact HB.out|apply below_alloc|apply pw_below_drewN|apply below_drew1)|exact HB.out)⟩⟩
       ·rw[if_neg c9] at H
        exact absurd H (by simp)
      ·rw[if_neg c7] at H
       exact absurd H (by simp)
     ·rw[if_neg c6] at H
      have c6b0:decide (x4_1 < (l0.length:Int))=false:=decide_eq_false c6
      clear c6
      obtain rfl:=Option.some.inj H
      go_wp2
      go_ret
      exact⟨_,by first|rfl|(simp[errW_none,errW_some]<;>rfl)|(simp[*,errW_none,errW_some]<;>rfl),by(with_reducible repeat (first|apply Kd.R_alloc|apply Kd.R_drewN|apply Kd.R_drew));exact HO_3.out,bB⟩
  ·rw[if_neg c3] at H
   exact absurd H (by simp)
 ·rw[if_neg c2] at H
  exact absurd H (by simp)

/-! ### laws_toBundle: function 51 -/
def laws_toBundle.f (a0_0:Int) (a0_1:Int) (a0_2:Bool) (a0_3:Int) (a0_4:Int) (a0_5:Int) (a0_6:Int) (a0_7:Int) (a0_8:Int) (a0_9:ByteArray):Option (Int × Int × Bool × Int × Int × Int × Int × Int × Int × ByteArray):=some (a0_0,a0_1,a0_2,a0_3,a0_4,a0_5,a0_6,a0_7,a0_8,a0_9)
set_option maxHeartbeats 8000000 in
set_option maxRecDepth 100000 in
theorem laws_toBundle.calls (a0_0:Int) (a0_1:Int) (a0_2:Bool) (a0_3:Int) (a0_4:Int) (a0_5:Int) (a0_6:Int) (a0_7:Int) (a0_8:Int) (a0_9:ByteArray) (r1:Int) (r2:Int) (r3:Bool) (r4:Int) (r5:Int) (r6:Int) (r7:Int) (r8:Int) (r9:Int) (r10:ByteArray) (w:World) (h:laws_toBundle.f a0_0 a0_1 a0_2 a0_3 a0_4 a0_5 a0_6 a0_7 a0_8 a0_9=some (r1,r2,r3,r4,r5,r6,r7,r8,r9,r10)) :
  Calls Try.prog 51 #[.agg #[.int .i64 a0_0,.int .i64 a0_1,.bool a0_2,.int .i64 a0_3,.int .i64 a0_4,.int .i64 a0_5,.int .i64 a0_6,.int .i64 a0_7,.int .i64 a0_8,.string a0_9]] w fun e w'=>e=.returned (.agg #[.int .i64 r1,.int .i64 r2,.bool r3,.int .i64 r4,.int .i64 r5,.int .i64 r6,.int .i64 r7,.int .i64 r8,.int .i64 r9,.string r10])∧Below w.heap.size w w':=by
 have hu73:=Try.underlying73
 have hu79:=Try.underlying79
 have HB:=Aside0.mk (Below.refl w.heap.size w)
 have H:(some (a0_0,a0_1,a0_2,a0_3,a0_4,a0_5,a0_6,a0_7,a0_8,a0_9))=some (r1,r2,r3,r4,r5,r6,r7,r8,r9,r10):=h
 clear h
 simp only[Option.some.injEq,Prod.mk.injEq] at H
 obtain⟨rfl,rfl,rfl,rfl,rfl,rfl,rfl,rfl,rfl,rfl⟩:=H
 go_enter Try.func51,Try.ntmps51
 go_wp2_with (first|((with_reducible refine gate_dst (N:=1) rfl ?_);refine box_event ?hg (N:=1) ?hd (cs:=#[.int .i64 a0_0,.int .i64 a0_1,.bool a0_2,.int .i64 a0_3,.int .i64 a0_4,.int .i64 a0_5,.int .i64 a0_6,.int .i64 a0_7,.int .i64 a0_8,.string a0_9]) (t:=73) ?hr ?_;(case hd=>rfl);(case hg=>rfl);(case hr=>first|(go_simp;done)|(go_simp;rfl));intro gb238 hg w2 hbox hb;have n0_:=Aside0.mk (below_step (bB) hb);have n1_:=Aside0.mk (hbox);have n2_:=Aside0.mk ((bG:w.heap.size≤gb238));have n3_:=Aside0.mk ((bG:w.heap.size≤gb238));clear HB;have HB:=n0_;have BK238:=n1_;have GW238:=n2_;have GE238:=n3_;clear n0_ n1_ n2_ n3_;clear hb hbox hg)|((with_reducible refine gate_dst (N:=2) rfl ?_);refine box_event ?hg (N:=2) ?hd (cs:=#[.int .i64 0,.int .i64 0,.bool false,.int .i64 0,.int .i64 0,.int .i64 0,.int .i64 0,.int .i64 0,.int .i64 0,.string (⟨#[]⟩:ByteArray)]) (t:=79) ?hr ?_;(case hd=>rfl);(case hg=>rfl);(case hr=>first|(go_simp;done)|(go_simp;rfl));intro gb239 hg w3 hbox hb;have n0_:=Aside0.mk (bM BK238.out hb);have n1_:=Aside0.mk (below_step (bS GE238.out) hb);have n2_:=Aside0.mk (hbox);have n3_:=Aside0.mk ((by rw[hg];exact(below_size (bS GE238.out)):w.heap.size≤gb239));have n4_:=Aside0.mk ((by rw[hg];exact(below_size (bS GE238.out)):w.heap.size≤gb239));have n5_:=Aside0.mk ((bN BK238.out hg:gb238≠gb239));have n6_:=Aside0.mk ((bO BK238.out hg:gb239≠gb238));clear BK238 HB;have BK238:=n0_;have HB:=n1_;have BK239:=n2_;have GW239:=n3_;have GE239:=n4_;have NB238_239:=n5_;have NB239_238:=n6_;clear n0_ n1_ n2_ n3_ n4_ n5_ n6_;clear hb hbox hg)|((with_reducible refine gate_dst (N:=3) rfl ?_);refine box_event ?hg (N:=3) ?hd (cs:=#[.int .i64 0,.int .i64 0,.bool false,.int .i64 0,.int .i64 0,.int .i64 0,.int .i64 0,.int .i64 0,.int .i64 0,.string (⟨#[]⟩:ByteArray)]) (t:=79) ?hr ?_;(case hd=>rfl);(case hg=>rfl);(case hr=>first|(go_simp;done)|(go_simp;rfl));intro gb240 hg w4 hbox hb;have n0_:=Aside0.mk (bM BK238.out hb);have n1_:=Aside0.mk (bM BK239.out hb);have n2_:=Aside0.mk (below_step (bS2 GE238.out GE239.out) hb);have n3_:=Aside0.mk (hbox);have n4_:=Aside0.mk ((by rw[hg];exact(below_size (bS2 GE238.out GE239.out)):w.heap.size≤gb240));have n5_:=Aside0.mk ((by rw[hg];exact(below_size (bS2 GE238.out GE239.out)):w.heap.size≤gb240));have n6_:=Aside0.mk ((bN BK238.out hg:gb238≠gb240));have n7_:=Aside0.mk ((bO BK238.out hg:gb240≠gb238));have n8_:=Aside0.mk ((bN BK239.out hg:gb239≠gb240));have n9_:=Aside0.mk ((bO BK239.out hg:gb240≠gb239));clear BK238 BK239 HB;have BK238:=n0_;have BK239:=n1_;have HB:=n2_;have BK240:=n3_;have GW240:=n4_;have GE240:=n5_;have NB238_240:=n6_;have NB240_238:=n7_;have NB239_240:=n8_;have NB240_239:=n9_;clear n0_ n1_ n2_ n3_ n4_ n5_ n6_ n7_ n8_ n9_;clear hb hbox hg;have hnb5:=NB238_239.out;have hnc5:=NB239_238.out;have hnb6:=NB238_240.out;have hnc6:=NB240_238.out;obtain⟨hcz7_0,hcz7_1,hcz7_2,hcz7_3,hcz7_4,hcz7_5,hcz7_6,hcz7_7,hcz7_8,hcz7_9⟩:=cC10 BK238.out;obtain⟨hfz7_0,hfz7_1,hfz7_2,hfz7_3,hfz7_4,hfz7_5,hfz7_6,hfz7_7,hfz7_8,hfz7_9⟩:=cF10 BK238.out;have hnb8:=NB240_239.out;have hnc8:=NB239_240.out;obtain⟨hcz9_0,hcz9_1,hcz9_2,hcz9_3,hcz9_4,hcz9_5,hcz9_6,hcz9_7,hcz9_8,hcz9_9⟩:=cC10 BK240.out;obtain⟨hfz9_0,hfz9_1,hfz9_2,hfz9_3,hfz9_4,hfz9_5,hfz9_6,hfz9_7,hfz9_8,hfz9_9⟩:=cF10 BK240.out;obtain⟨hcz10_0,hcz10_1,hcz10_2,hcz10_3,hcz10_4,hcz10_5,hcz10_6,hcz10_7,hcz10_8,hcz10_9⟩:=cC10 BK239.out;obtain⟨hfz10_0,hfz10_1,hfz10_2,hfz10_3,hfz10_4,hfz10_5,hfz10_6,hfz10_7,hfz10_8,hfz10_9⟩:=cF10 BK239.out))
 refine bodyPost_ret (results_cell_row rfl _ _ gb239 79 #[.int .i64 a0_0,.int .i64 a0_1,.bool a0_2,.int .i64 a0_3,.int .i64 a0_4,.int .i64 a0_5,.int .i64 a0_6,.int .i64 a0_7,.int .i64 a0_8,.string a0_9] (0,0) _ rfl (by(with_reducible repeat (first|refine blk_drewN ?_ _|refine blk_drew ?_|refine blk_alloc ?_ _));refine blk_put (cs:=#[.int .i64 a0_0,.int .i64 a0_1,.bool a0_2,.int .i64 a0_3,.int .i64 a0_4,.int .i64 a0_5,.int .i64 a0_6,.int .i64 a0_7,.int .i64 a0_8,.string (⟨#[]⟩:ByteArray)]) ?_ 9 _ rfl;(with_reducible repeat (first|refine blk_drewN ?_ _|refine blk_drew ?_|refine blk_alloc ?_ _));refine blk_put (cs:=#[.int .i64 a0_0,.int .i64 a0_1,.bool a0_2,.int .i64 a0_3,.int .i64 a0_4,.int .i64 a0_5,.int .i64 a0_6,.int .i64 a0_7,.int .i64 0,.string (⟨#[]⟩:ByteArray)]) ?_ 8 _ rfl;(with_reducible repeat (first|refine blk_drewN ?_ _|refine blk_drew ?_|refine blk_alloc ?_ _));refine blk_put (cs:=#[.int .i64 a0_0,.int .i64 a0_1,.bool a0_2,.int .i64 a0_3,.int .i64 a0_4,.int .i64 a0_5,.int .i64 a0_6,.int .i64 0,.int .i64 0,.string (⟨#[]⟩:ByteArray)]) ?_ 7 _ rfl;(with_reducible repeat (first|refine blk_drewN ?_ _|refine blk_drew ?_|refine blk_alloc ?_ _));refine blk_put (cs:=#[.int .i64 a0_0,.int .i64 a0_1,.bool a0_2,.int .i64 a0_3,.int .i64 a0_4,.int .i64 a0_5,.int .i64 0,.int .i64 0,.int .i64 0,.string (⟨#[]⟩:ByteArray)]) ?_ 6 _ rfl;(with_reducible repeat (first|refine blk_drewN ?_ _|refine blk_drew ?_|refine blk_alloc ?_ _));refine blk_put (cs:=#[.int .i64 a0_0,.int .i64 a0_1,.bool a0_2,.int .i64 a0_3,.int .i64 a0_4,.int .i64 0,.int .i64 0,.int .i64 0,.int .i64 0,.string (⟨#[]⟩:ByteArray)]) ?_ 5 _ rfl;(with_reducible repeat (first|refine blk_drewN ?_ _|refine blk_drew ?_|refine blk_alloc ?_ _));refine blk_put (cs:=#[.int .i64 a0_0,.int .i64 a0_1,.bool a0_2,.int .i64 a0_3,.int .i64 0,.int .i64 0,.int .i64 0,.int .i64 0,.int .i64 0,.string (⟨#[]⟩:ByteArray)]) ?_ 4 _ rfl;(with_reducible repeat (first|refine blk_drewN ?_ _|refine blk_drew ?_|refine blk_alloc ?_ _));refine blk_put (cs:=#[.int .i64 a0_0,.int .i64 a0_1,.bool a0_2,.int .i64 0,.int .i64 0,.int .i64 0,.int .i64 0,.int .i64 0,.int .i64 0,.string (⟨#[]⟩:ByteArray)]) ?_ 3 _ rfl;(with_reducible repeat (first|refine blk_drewN ?_ _|refine blk_drew ?_|refine blk_alloc ?_ _));refine blk_put (cs:=#[.int .i64 a0_0,.int .i64 a0_1,.bool false,.int .i64 0,.int .i64 0,.int .i64 0,.int .i64 0,.int .i64 0,.int .i64 0,.string (⟨#[]⟩:ByteArray)]) ?_ 2 _ rfl;(with_reducible repeat (first|refine blk_drewN ?_ _|refine blk_drew ?_|refine blk_alloc ?_ _));refine blk_put (cs:=#[.int .i64 a0_0,.int .i64 0,.bool false,.int .i64 0,.int .i64 0,.int .i64 0,.int .i64 0,.int .i64 0,.int .i64 0,.string (⟨#[]⟩:ByteArray)]) ?_ 1 _ rfl;(with_reducible repeat (first|refine blk_drewN ?_ _|refine blk_drew ?_|refine blk_alloc ?_ _));refine blk_put (cs:=#[.int .i64 0,.int .i64 0,.bool false,.int .i64 0,.int .i64 0,.int .i64 0,.int .i64 0,.int .i64 0,.int .i64 0,.string (⟨#[]⟩:ByteArray)]) ?_ 0 _ rfl;(with_reducible repeat (first|refine blk_drewN ?_ _|refine blk_drew ?_|refine blk_alloc ?_ _));refine blk_far ?_ NB239_240.out _;(with_reducible repeat (first|refine blk_drewN ?_ _|refine blk_drew ?_|refine blk_alloc ?_ _));refine blk_far ?_ NB239_240.out _;(with_reducible repeat (first|refine blk_drewN ?_ _|refine blk_drew ?_|refine blk_alloc ?_ _));refine blk_far ?_ NB239_240.out _;(with_reducible repeat (first|refine blk_drewN ?_ _|refine blk_drew ?_|refine blk_alloc ?_ _));refine blk_far ?_ NB239_240.out _;(with_reducible repeat (first|refine blk_drewN ?_ _|refine blk_drew ?_|refine blk_alloc ?_ _));refine blk_far ?_ NB239_240.out _;(with_reducible repeat (first|refine blk_drewN ?_ _|refine blk_drew ?_|refine blk_alloc ?_ _));refine blk_far ?_ NB239_240.out _;(with_reducible repeat (first|refine blk_drewN ?_ _|refine blk_drew ?_|refine blk_alloc ?_ _));refine blk_far ?_ NB239_240.out _;(with_reducible repeat (first|refine blk_drewN ?_ _|refine blk_drew ?_|refine blk_alloc ?_ _));refine blk_far ?_ NB239_240.out _;(with_reducible repeat (first|refine blk_drewN ?_ _|refine blk_drew ?_|refine blk_alloc ?_ _));refine blk_far ?_ NB239_240.out _;(with_reducible repeat (first|refine blk_drewN ?_ _|refine blk_drew ?_|refine blk_alloc ?_ _));refine blk_far ?_ NB239_240.out _;(with_reducible repeat (first|refine blk_drewN ?_ _|refine blk_drew ?_|refine blk_alloc ?_ _));exact BK239.out) Try.underlying79 rfl (by kernel_rfl)) rfl ?_
 exact⟨bE,bS3 GE238.out GE239.out GE240.out⟩

end Go.Proofs.Ytjmanpicdeebgaa.XFnExactTreeFor
