-- Written by this session's own program (wip/xprint.py) out of the translation; Lean checks it.
import Derived.Test.YteneeohaoplpbaaXFnExactJoinMembersx0
import Derived.Test.YteneeohaoplpbaaXFnExactJoinMembersx2
namespace Go.Proofs.Yteneeohaoplpbaa.XFnExactJoinMembers
open Go.RowKit Go.Proofs.YteneeohaoplpbaaW.PrintWords Go.Proofs.YteneeohaoplpbaaW.PrintLast Go.Proofs.YteneeohaoplpbaaW.PrintMore
attribute [local go_sem] max2_int min2_int max_two min_two max_three min_three max_four min_four   -- for this text's walks alone
set_option linter.unusedVariables false
set_option linter.unusedSimpArgs false

/-! ### slices_Concat_int_int: function 134 -/
mutual
def slices_Concat_int_int.l0:Nat→List (List Int)→Int→List (List Int)→Int→Int→Option (List Int)
 | 0,_,_,_,_,_=>none
 | k+1,x0,x3,x9,x10,x11=>if x11 < x10 then (if 0≤x11 then (if x11 < (x9.length:Int) then (if (wrap64 (x3+((rd_L1 x9 x11).length:Int))) < 0 then (none) else (slices_Concat_int_int.l0 k x0 (wrap64 (x3+((rd_L1 x9 x11).length:Int))) x9 x10 (wrap64 (x11+1)))) else (none)) else (none)) else ((slices_Grow_int_int.f ([]:List Int) x3).bind fun t164=>(slices_Concat_int_int.l1 k t164 x0 (x0.length:Int) 0))
def slices_Concat_int_int.l1:Nat→List Int→List (List Int)→Int→Int→Option (List Int)
 | 0,_,_,_,_=>none
 | k+1,x6,x25,x26,x27=>if x27 < x26 then (if 0≤x27 then (if x27 < (x25.length:Int) then (if x6.length+(rd_L1 x25 x27).length < 17592186044416 then (slices_Concat_int_int.l1 k (x6++(rd_L1 x25 x27)) x25 x26 (wrap64 (x27+1))) else (none)) else (none)) else (none)) else (some x6)
end
def slices_Concat_int_int.f (k:Nat) (l0:List (List Int)):Option (List Int):=slices_Concat_int_int.l0 k l0 0 l0 (l0.length:Int) 0
theorem slices_Concat_int_int.mono_l : ∀ k,(∀ y0 y1 y2 y3 y4,LeO (slices_Concat_int_int.l0 k y0 y1 y2 y3 y4) (slices_Concat_int_int.l0 (k+1) y0 y1 y2 y3 y4))∧(∀ y0 y1 y2 y3,LeO (slices_Concat_int_int.l1 k y0 y1 y2 y3) (slices_Concat_int_int.l1 (k+1) y0 y1 y2 y3))
 | 0=>⟨fun _ _ _ _ _ r h=>by simp[slices_Concat_int_int.l0] at h,fun _ _ _ _ r h=>by simp[slices_Concat_int_int.l1] at h⟩
 | k+1=>by
  obtain⟨ih0,ih1⟩:=slices_Concat_int_int.mono_l k
  refine⟨?_,?_⟩
  ·intro y0 y1 y2 y3 y4
   unfold slices_Concat_int_int.l0
   repeat' first
   | (with_reducible exact ih0 _ _ _ _ _)
   | (with_reducible exact ih1 _ _ _ _)
   | (with_reducible exact LeO.refl _)
   | (with_reducible exact LeO.none _)
   | (with_reducible refine LeO.ite ?_ ?_)
   | (with_reducible refine LeO.bind ?_ (fun _ => ?_))
   | exact ih0 _ _ _ _ _
   | exact ih1 _ _ _ _
   | exact LeO.none _
   | refine LeO.ite ?_ ?_
   | refine LeO.bind ?_ (fun _ => ?_)
  ·intro y0 y1 y2 y3
   unfold slices_Concat_int_int.l1
   repeat' first
   | (with_reducible exact ih0 _ _ _ _ _)
   | (with_reducible exact ih1 _ _ _ _)
   | (with_reducible exact LeO.refl _)
   | (with_reducible exact LeO.none _)
   | (with_reducible refine LeO.ite ?_ ?_)
   | (with_reducible refine LeO.bind ?_ (fun _ => ?_))
   | exact ih0 _ _ _ _ _
   | exact ih1 _ _ _ _
   | exact LeO.none _
   | refine LeO.ite ?_ ?_
   | refine LeO.bind ?_ (fun _ => ?_)
theorem slices_Concat_int_int.mono : ∀ a0 k,LeO (slices_Concat_int_int.f k a0) (slices_Concat_int_int.f (k+1) a0):=by
 intro a0 k
 obtain⟨ih0,ih1⟩:=slices_Concat_int_int.mono_l k
 unfold slices_Concat_int_int.f
 repeat' first
  | (with_reducible exact ih0 _ _ _ _ _)
  | (with_reducible exact ih1 _ _ _ _)
  | (with_reducible exact LeO.refl _)
  | (with_reducible exact LeO.none _)
  | (with_reducible refine LeO.ite ?_ ?_)
  | (with_reducible refine LeO.bind ?_ (fun _ => ?_))
  | exact ih0 _ _ _ _ _
  | exact ih1 _ _ _ _
  | exact LeO.none _
  | refine LeO.ite ?_ ?_
  | refine LeO.bind ?_ (fun _ => ?_)
set_option maxHeartbeats 8000000 in
set_option maxRecDepth 100000 in
theorem slices_Concat_int_int.calls (k:Nat) (A0:Option Addr) (c0:Nat) (l0:List (List Int)) (r:List Int) (w:World) (hr0:Kd.C (Kd.slice 3 (Kd.int .i64)) w A0 l0.length l0) (hc0:l0.length≤c0) (h:slices_Concat_int_int.f k l0=some r) :
  Calls Try.prog 134 #[.slice A0 l0.length c0] w fun e w' => ∃ v0_:Value,e=.returned (v0_)∧Kd.R (Kd.int .i64) 3 w' w.heap.size (fun _=>True) v0_ r∧Below w.heap.size w w':=by
 have HR0:=Aside0.mk hr0
 have HC0:=Aside0.mk hc0
 clear hr0 hc0
 have HB:=Aside0.mk (Below.refl w.heap.size w)
 have H:(slices_Concat_int_int.l0 k l0 0 l0 (l0.length:Int) 0)=some r:=h
 clear h
 have H':=Aside0.mk H
 clear H
 go_enter Try.func134,Try.ntmps134
 go_wp2
 go_loopg [3,11] k (fun kq v3 v11 w' => ∃ (x3_1:Int) (x11_1:Int),v3=.int .i64 x3_1∧v11=.int .i64 x11_1∧Aside0 (slices_Concat_int_int.l0 kq l0 x3_1 l0 (l0.length:Int) x11_1=some r)∧Aside0 (kq≤k)∧Aside0 (Below w.heap.size w w'))
 case atStart=>exact⟨(0),(0),(bR),(bR),H',⟨Nat.le_refl _⟩,⟨by repeat (first|(with_reducible first|exact HB.out|apply below_alloc|apply pw_below_drewN|apply below_drew1)|exact HB.out)⟩⟩
 case round =>
  clear H'
  try clear c1
  obtain⟨x3_1,x11_1,rfl,rfl,HA,HK1,HB⟩:=hrel
  cases gk with
  | zero=>exact absurd HA.out (by simp[slices_Concat_int_int.l0])
  | succ k1 =>
   have H:=HA.out
   clear HA
   simp only[slices_Concat_int_int.l0] at H
   by_cases c2:x11_1 < (l0.length:Int)
   ·rw[if_pos c2] at H
    have c2b0:decide (x11_1 < (l0.length:Int))=true:=decide_eq_true c2
    clear c2
    by_cases c3:0≤x11_1
    ·rw[if_pos c3] at H
     have c3b0:decide (0≤x11_1)=true:=decide_eq_true c3
     clear c3
     by_cases c4:x11_1 < (l0.length:Int)
     ·rw[if_pos c4] at H
      have c4b0:decide (x11_1 < (l0.length:Int))=true:=decide_eq_true c4
      clear c4
      by_cases c5:(wrap64 (x3_1+((rd_L1 l0 x11_1).length:Int))) < 0
      ·rw[if_pos c5] at H
       exact absurd H (by simp)
      ·rw[if_neg c5] at H
       have c5b0:decide ((wrap64 (x3_1+((rd_L1 l0 x11_1).length:Int))) < 0)=false:=decide_eq_false c5
       clear c5
       have H':=Aside0.mk H
       clear H
       have p163:0≤(x11_1:Int):=of_decide_eq_true (bD)
       have q163:x11_1 < (l0.length:Int):=of_decide_eq_true (bD)
       obtain⟨ad163,A163_0,c163_0,e163,hx163_0,hl163_0,hi163_0⟩:=at_L1 HR0.out x11_1 p163 q163
       cases e163
       replace hx163_0:=(HB.out.cell (World.block_lt_of_cell? w _ hx163_0)).trans hx163_0
       have HR163_0:=Aside0.mk hi163_0
       have HC163_0:=Aside0.mk hl163_0
       clear hi163_0 hl163_0
       replace p163:=eq_true p163
       replace q163:=eq_true q163
       go_wp2
       go_roundg k1
       case measure=>have:=HK1.out;omega
       case rel=>exact⟨(wrap64 (x3_1+((rd_L1 l0 x11_1).length:Int))),(wrap64 (x11_1+1)),(bR),(bR),H',⟨by have:=HK1.out;omega⟩,⟨by repeat (first|(with_reducible first|exact HB.out|apply below_alloc|apply pw_below_drewN|apply below_drew1)|exact HB.out)⟩⟩
     ·rw[if_neg c4] at H
      exact absurd H (by simp)
    ·rw[if_neg c3] at H
     exact absurd H (by simp)
   ·rw[if_neg c2] at H
    have c2b0:decide (x11_1 < (l0.length:Int))=false:=decide_eq_false c2
    clear c2
    replace H:=Option.bind_eq_some_iff.mp H
    obtain⟨t164,A60,H⟩:=H
    have A6:=Aside0.mk A60
    clear A60
    have H':=Aside0.mk H
    clear H
    go_wp2_with (first|((with_reducible refine gate_callee (f:=165) rfl ?_);refine goesA (some 24) rfl rfl Try.func165 #[.slice none 0 0,.int .i64 x3_1] rfl ?_;(refine(slices_Grow_int_int.calls _ _ ([]:List Int) x3_1 t164 _ ?side1 ?side2 A6.out).mono ?_);(case side1=>exact Kd.C_nil _ _);(case side2=>exact Nat.le_refl _);rintro e w7 ⟨v165,rfl,ho0,hb⟩;refine⟨_,rfl,?_⟩;have n0_:=Aside0.mk (Kd.R_lower ho0 (below_size (bB)));have n1_:=Aside0.mk (below_step (bB) hb);clear HB;have HO166:=n0_;have HB:=n1_;clear n0_ n1_;(try clear hb);(try clear hb2);(try clear hk);(try clear hi);(try clear ho0)))
    go_loopg [6,27] k1 (fun kq v6 v27 w' => ∃ (x6_2:List Int) (x27_2:Int),v27=.int .i64 x27_2∧Aside0 (slices_Concat_int_int.l1 kq x6_2 l0 (l0.length:Int) x27_2=some r)∧Aside0 (kq≤k1)∧Aside0 (Kd.R (Kd.int .i64) 3 w' w.heap.size (fun _=>True) v6 x6_2)∧Aside0 (Below w.heap.size w w'))
    case atStart=>exact⟨(t164),(0),(bR),H',⟨Nat.le_refl _⟩,⟨by(with_reducible repeat (first|apply Kd.R_alloc|apply Kd.R_drewN|apply Kd.R_drew));exact HO166.out⟩,⟨by repeat (first|(with_reducible first|exact HB.out|apply below_alloc|apply pw_below_drewN|apply below_drew1)|exact HB.out)⟩⟩
    case round =>
     clear H'
     try clear c1
     try clear p1
     try clear q1
     try clear hx1
     try clear c2
     try clear c2b0
     try clear p2
     try clear c3
     try clear c3b0
     try clear c4
     try clear c4b0
     try clear c5
     try clear c5b0
     try clear p6
     try clear hx163_0
     try clear p163
     try clear q163
     obtain⟨x6_2,x27_2,rfl,HA,HK2,HO_6,HB⟩:=hrel
     cases gk with
     | zero=>exact absurd HA.out (by simp[slices_Concat_int_int.l1])
     | succ k2 =>
      have H:=HA.out
      clear HA
      simp only[slices_Concat_int_int.l1] at H
      by_cases c8:x27_2 < (l0.length:Int)
      ·rw[if_pos c8] at H
       have c8b0:decide (x27_2 < (l0.length:Int))=true:=decide_eq_true c8
       clear c8
       by_cases c9:0≤x27_2
       ·rw[if_pos c9] at H
        have c9b0:decide (0≤x27_2)=true:=decide_eq_true c9
        clear c9
        by_cases c10:x27_2 < (l0.length:Int)
        ·rw[if_pos c10] at H
         have c10b0:decide (x27_2 < (l0.length:Int))=true:=decide_eq_true c10
         clear c10
         by_cases c11:x6_2.length+(rd_L1 l0 x27_2).length < 17592186044416
         ·rw[if_pos c11] at H
          have LMc11:=Aside0.mk c11
          clear c11
          obtain⟨y168,hy168⟩ : ∃ y_:List Int,y_=(x6_2++(rd_L1 l0 x27_2)):=⟨_,rfl⟩
          replace H:(slices_Concat_int_int.l1 k2 y168 l0 (l0.length:Int) (wrap64 (x27_2+1)))=some r:=by first|(rw[hy168];with_reducible exact H)|(have H2_:=(Option.bind_some _ _).symm.trans H;rw[hy168];with_reducible exact H2_)|(have H2_:=(Option.bind_some _ _).symm.trans H;with_reducible exact H2_)|with_reducible exact H|(rw[hy168];exact H)|exact H
          have Ny168:=Aside0.mk hy168
          clear hy168
          have H':=Aside0.mk H
          clear H
          have p167:0≤(x27_2:Int):=of_decide_eq_true (bD)
          have q167:x27_2 < (l0.length:Int):=of_decide_eq_true (bD)
          obtain⟨ad167,A167_0,c167_0,e167,hx167_0,hl167_0,hi167_0⟩:=at_L1 HR0.out x27_2 p167 q167
          cases e167
          replace hx167_0:=(HB.out.cell (World.block_lt_of_cell? w _ hx167_0)).trans hx167_0
          have HR167_0:=Aside0.mk hi167_0
          have HC167_0:=Aside0.mk hl167_0
          clear hi167_0 hl167_0
          replace p167:=eq_true p167
          replace q167:=eq_true q167
          go_wp2_with (first|((with_reducible refine gate_builtin (b:=.append) (xs:=#[.tmp 31,.tmp 32]) rfl ?_);at_builtin;refine Kd.R_append_rows (Kd.int .i64) (w0:=w) w.heap.size rfl (.tmp 31) (.tmp 32) 37 3 (.int .i64 0) 8 rfl Try.underlying37 info3 rfl (by decide) (by omega) u6 x6_2 (rd_L1 l0 x27_2) _ _ _ (fun _=>True) (fun _=>False) rfl rfl ?aO ?aR (fun _ _ h=>h) (fun _ h=>h.elim) ?aF ?aB ?aS ?aL ?_;(case aR=>exact bC HR167_0.out);(case aB=>exact(bB));(case aF=>exact(fun _ _=>trivial));(case aO=>exact(bK HO_6.out));(case aS=>exact(below_size (bB)));(case aL=>have:=LMc11.out;omega);intro v169 w12 ho hb hg hat;rw[← Ny168.out] at ho;have n0_:=Aside0.mk (hb);have n1_:=Aside0.mk (ho);clear HB HO_6;have HB:=n0_;have HO170:=n1_;clear n0_ n1_;clear ho hb hg hat))
          go_roundg k2
          case measure=>have:=HK1.out;have:=HK2.out;omega
          case rel=>exact⟨(y168),(wrap64 (x27_2+1)),(bR),H',⟨by have:=HK1.out;have:=HK2.out;omega⟩,⟨by(with_reducible repeat (first|apply Kd.R_alloc|apply Kd.R_drewN|apply Kd.R_drew));exact HO170.out⟩,⟨by repeat (first|(with_reducible first|exact HB.out|apply below_alloc|apply pw_below_drewN|apply below_drew1)|exact HB.out)⟩⟩
         ·rw[if_neg c11] at H
          exact absurd H (by simp)
        ·rw[if_neg c10] at H
         exact absurd H (by simp)
       ·rw[if_neg c9] at H
        exact absurd H (by simp)
      ·rw[if_neg c8] at H
       have c8b0:decide (x27_2 < (l0.length:Int))=false:=decide_eq_false c8
       clear c8
       obtain rfl:=Option.some.inj H
       go_wp2
       go_ret
       exact⟨_,by first|rfl|(simp[errW_none,errW_some]<;>rfl)|(simp[*,errW_none,errW_some]<;>rfl),by(with_reducible repeat (first|apply Kd.R_alloc|apply Kd.R_drewN|apply Kd.R_drew));exact HO_6.out,bB⟩

/-! ### slices_Sort_int_int: function 135, by the kit's contract -/
def Try.laysSort_ren:Go.Shelf.Ren:=⟨fun|189=>135|125=>167|257=>166|128=>182|129=>183|294=>173|295=>174|296=>175|297=>176|298=>177|299=>178|216=>179|300=>180|301=>181|328=>187|329=>188|330=>189|331=>190|332=>191|215=>192|343=>193|n=>n,fun|28=>37|3=>3|46=>192|0=>0|51=>208|53=>136|4=>4|183=>203|182=>202|131=>66|5=>5|9=>9|218=>215|222=>147|228=>220|229=>221|n=>n,fun|n=>n⟩
theorem Try.laysSort:Go.Proofs.Lays.n189 Try.prog Try.laysSort_ren where
 mixed:=by kernel_rfl
 f125:=Try.func167.trans (congrArg some (by kernel_rfl))
 f128:=Try.func182.trans (congrArg some (by kernel_rfl))
 f129:=Try.func183.trans (congrArg some (by kernel_rfl))
 f189:=Try.func135.trans (congrArg some (by kernel_rfl))
 f215:=Try.func192.trans (congrArg some (by kernel_rfl))
 f216:=Try.func179.trans (congrArg some (by kernel_rfl))
 f257:=Try.func166.trans (congrArg some (by kernel_rfl))
 f294:=Try.func173.trans (congrArg some (by kernel_rfl))
 f295:=Try.func174.trans (congrArg some (by kernel_rfl))
 f296:=Try.func175.trans (congrArg some (by kernel_rfl))
 f297:=Try.func176.trans (congrArg some (by kernel_rfl))
 f298:=Try.func177.trans (congrArg some (by kernel_rfl))
 f299:=Try.func178.trans (congrArg some (by kernel_rfl))
 f300:=Try.func180.trans (congrArg some (by kernel_rfl))
 f301:=Try.func181.trans (congrArg some (by kernel_rfl))
 f328:=Try.func187.trans (congrArg some (by kernel_rfl))
 f329:=Try.func188.trans (congrArg some (by kernel_rfl))
 f330:=Try.func189.trans (congrArg some (by kernel_rfl))
 f331:=Try.func190.trans (congrArg some (by kernel_rfl))
 f332:=Try.func191.trans (congrArg some (by kernel_rfl))
 f343:=Try.func193.trans (congrArg some (by kernel_rfl))
 t0:=Try.underlying0
 a0:=Try.isAgg0
 z0:=Try.sizeOf0
 v0:=Try.zeroValue0
 t3:=Try.underlying3
 a3:=Try.isAgg3
 z3:=Try.sizeOf3
 v3:=Try.zeroValue3
 t4:=Try.underlying4
 a4:=Try.isAgg4
 z4:=Try.sizeOf4
 v4:=Try.zeroValue4
 t5:=Try.underlying5
 a5:=Try.isAgg5
 z5:=Try.sizeOf5
 v5:=Try.zeroValue5
 t9:=Try.underlying9
 a9:=Try.isAgg9
 z9:=Try.sizeOf9
 v9:=Try.zeroValue9
 t28:=Try.underlying37
 a28:=Try.isAgg37
 z28:=Try.sizeOf37
 v28:=Try.zeroValue37
 t46:=Try.underlying192
 a46:=Try.isAgg192
 z46:=Try.sizeOf192
 v46:=Try.zeroValue192
 t51:=Try.underlying208
 a51:=Try.isAgg208
 z51:=Try.sizeOf208
 v51:=Try.zeroValue208
 t53:=Try.underlying136
 a53:=Try.isAgg136
 z53:=Try.sizeOf136
 v53:=Try.zeroValue136
 t131:=Try.underlying66
 a131:=Try.isAgg66
 z131:=Try.sizeOf66
 v131:=Try.zeroValue66
 t182:=Try.underlying202
 a182:=Try.isAgg202
 z182:=Try.sizeOf202
 v182:=Try.zeroValue202
 t183:=Try.underlying203
 a183:=Try.isAgg203
 z183:=Try.sizeOf203
 v183:=Try.zeroValue203
 t218:=Try.underlying215
 a218:=Try.isAgg215
 z218:=Try.sizeOf215
 v218:=Try.zeroValue215
 t222:=Try.underlying147
 a222:=Try.isAgg147
 z222:=Try.sizeOf147
 v222:=Try.zeroValue147
 t228:=Try.underlying220
 a228:=Try.isAgg220
 z228:=Try.sizeOf220
 v228:=Try.zeroValue220
 t229:=Try.underlying221
 a229:=Try.isAgg221
 z229:=Try.sizeOf221
 v229:=Try.zeroValue221

/-- The library's own sort, by the kit's contract over its 21 functions. -/
theorem slices_Sort_own (P0_:Nat→Prop) (u:Value) (l:List Int) (w0 w:World) (hB:Below w0.heap.size w0 w) (ho0:Kd.R (Kd.int .i64) 3 w w0.heap.size P0_ u l) (hsz:l.length < 4611686018427387904) :
  Calls Try.prog 135 #[u] w fun e w'=>e=.returned (.tuple #[])∧Kd.R (Kd.int .i64) 3 w' w0.heap.size (fun k_=>(P0_ k_∨w.heap.size≤k_)) u (l.mergeSort fun x y=>decide (x≤y))∧Below w0.heap.size w0 w'∧Kept w w' (fun k_=>P0_ k_):=by
 have ho:=Kd.own_of_R ho0
 rcases ho.2 with ⟨rfl,hz⟩|⟨g,cap,cur,rfl,hbase,hgb,r1,r2,r3,r4⟩
 ·have hl:l=[]:=List.eq_nil_of_length_eq_zero hz
  subst hl
  refine(Go.Proofs.Any.slices_Sort_int_none Try.laysSort none 0 w).mono ?_
  rintro e w' ⟨rfl,rfl⟩
  exact⟨rfl,by simpa using Kd.R_nil _ _ _ _ _,hB,Kept.refl _ _⟩
 ·have hH:Go.Sort.Holds (Value.int .i64) w g 0 l.toArray:=holds_of_blockI hgb (by simpa [encs] using r4)
  have hgl:g < w.heap.size:=(Array.getElem?_eq_some_iff.1 hgb).1
  refine(Go.Proofs.Any.slices_Sort_int Try.laysSort g 0 cap l w hH hgl hsz).mono ?_
  rintro e w' ⟨rfl,n,os,rfl⟩
  have hg:=grownBy_sortedI (w:=w) (g:=g) (n:=n) (os:=os) (l.mergeSort fun x y=>decide (x≤y)).toArray
  have hln:(l.mergeSort fun x y=>decide (x≤y)).length=l.length:=List.length_mergeSort _
  have hown:=ownsRow_sortedI (n:=n) (os:=os) (ss:=l) hln hbase hgb r1 r2 r3
  refine⟨rfl,Kd.R_of_own (by rw[hln];exact hown) (fun k hk=>.inl (ho0.1 k hk)),hB.grown hg hB.size (fun k e_=>by cases e_;exact hbase),Kept.of_grown hg (Kept.refl _ _) (fun k e_=>.inl (ho0.1 k e_))⟩
def slices_Sort_int_int.f (k:Nat) (l0:List Int):Option (List Int):=if l0.length < 4611686018427387904 then some (l0.mergeSort fun x y=>decide (x≤y)) else none
theorem slices_Sort_int_int.mono : ∀ a0 k,LeO (slices_Sort_int_int.f k a0) (slices_Sort_int_int.f (k+1) a0):=fun _ _=>LeO.refl _
theorem slices_Sort_int_int.calls (k:Nat) (P0_:Nat→Prop) (u9000_:Value) (l0:List Int) (r:List Int) (w0 w:World) (hB:Below w0.heap.size w0 w) (ho0:Kd.R (Kd.int .i64) 3 w w0.heap.size P0_ u9000_ l0) (h:slices_Sort_int_int.f k l0=some r) :
  Calls Try.prog 135 #[u9000_] w fun e w'=>e=.returned (.tuple #[])∧Kd.R (Kd.int .i64) 3 w' w0.heap.size (fun k_=>(P0_ k_∨w.heap.size≤k_)) u9000_ r∧Below w0.heap.size w0 w'∧Kept w w' (fun k_=>P0_ k_):=by
 unfold slices_Sort_int_int.f at h
 by_cases c:l0.length < 4611686018427387904
 ·rw[if_pos c] at h
  obtain rfl:=Option.some.inj h
  exact slices_Sort_own P0_ u9000_ l0 w0 w hB ho0 c
 ·rw[if_neg c] at h
  cases h


/-! ### slices_Compact_int_int: function 136, by the kit's contract -/
def Try.laysCompact_ren:Go.Shelf.Ren:=⟨fun|20=>136|n=>n,fun|22=>37|3=>3|4=>4|0=>0|n=>n,fun|n=>n⟩
theorem Try.laysCompact:Go.Proofs.Lays2.n20 Try.prog Try.laysCompact_ren where
 mixed:=by kernel_rfl
 f20:=Try.func136.trans (congrArg some (by kernel_rfl))
 t0:=Try.underlying0
 a0:=Try.isAgg0
 z0:=Try.sizeOf0
 v0:=Try.zeroValue0
 t3:=Try.underlying3
 a3:=Try.isAgg3
 z3:=Try.sizeOf3
 v3:=Try.zeroValue3
 t4:=Try.underlying4
 a4:=Try.isAgg4
 z4:=Try.sizeOf4
 v4:=Try.zeroValue4
 t22:=Try.underlying37
 a22:=Try.isAgg37
 z22:=Try.sizeOf37
 v22:=Try.zeroValue37
 i3:=by kernel_rfl

/-! pure: -/
/-- What is left of a row behind u, those that stand next to their like left out. -/
def dda (u:Int):List Int→List Int
 | []=>[]
 | x::xs=>if x=u then dda u xs else x::dda x xs
def comp:List Int→List Int
 | []=>[]
 | u::c=>u::dda u c
/-! machine: -/
theorem compact_from : ∀ (c p:List Int) (u:Int),Lib.compactUpTo (p++u::c).toArray (p.length+1+c.length)=Lib.compactUpTo (p++u::c).toArray (p.length+1)++dda u c:=by
 intro c
 induction c with
 | nil=>intro p u;simp[dda]
 | cons v c ih =>
  intro p u
  have h:=ih (p++[u]) v
  rw[List.append_assoc,List.singleton_append,List.length_append,List.length_singleton] at h
  rw[List.length_cons,show p.length+1+(c.length+1)=p.length+1+1+c.length by omega,h,Lib.compactUpTo_succ _ (p.length+1),List.append_assoc]
  have h1:(p++u::v::c).toArray[p.length+1]! = v:=by simp
  have h2:(p++u::v::c).toArray[p.length+1 - 1]! = u:=by simp
  congr 1
  unfold Lib.keeps
  rw[h1,h2]
  by_cases e:v=u
  ·simp[dda,e]
  ·simp[dda,e]
theorem compact_is (l:List Int):Lib.compact l=comp l:=by
 cases l with
 | nil=>rfl
 | cons u c =>
  have h:=compact_from c [] u
  rw[List.nil_append,List.length_nil] at h
  unfold Lib.compact comp
  rw[List.length_cons,show c.length+1=0+1+c.length by omega,h,Lib.compactUpTo_succ]
  simp[Lib.compactUpTo,Lib.keeps]
theorem dda_len : ∀ (c:List Int) (u:Int),(dda u c).length≤c.length:=by
 intro c
 induction c with
 | nil=>intro u;simp[dda]
 | cons v c ih =>
  intro u
  unfold dda
  by_cases e:v=u
  ·rw[if_pos e,List.length_cons]
   have:=ih u
   omega
  ·rw[if_neg e,List.length_cons,List.length_cons]
   have:=ih v
   omega
theorem comp_len (l:List Int):(comp l).length≤l.length:=by
 cases l with
 | nil=>exact Nat.le_refl _
 | cons u c=>exact Nat.succ_le_succ (dda_len c u)
/-- The library's own Compact, by the kit's contract. -/
theorem slices_Compact_own (P0_:Nat→Prop) (u:Value) (l:List Int) (w0 w:World) (hB:Below w0.heap.size w0 w) (ho0:Kd.R (Kd.int .i64) 3 w w0.heap.size P0_ u l) :
  Calls Try.prog 136 #[u] w fun e w' => ∃ v,e=.returned v∧Kd.R (Kd.int .i64) 3 w' w0.heap.size (fun k_=>(P0_ k_∨w.heap.size≤k_)) v (comp l)∧Below w0.heap.size w0 w'∧Kept w w' (fun k_=>P0_ k_):=by
 have ho:=Kd.own_of_R ho0
 rcases ho.2 with ⟨rfl,hz⟩|⟨g,cap,cur,rfl,hbase,hgb,r1,r2,r3,r4⟩
 ·have hl:l=[]:=List.eq_nil_of_length_eq_zero hz
  subst hl
  refine(Go.Proofs.Any.slices_Compact_int_empty Try.laysCompact none 0 w).mono ?_
  rintro e w' ⟨rfl,rfl⟩
  exact⟨_,rfl,Kd.R_nil _ _ _ _ _,hB,Kept.refl _ _⟩
 ·have hH:Go.Sort.Holds (Value.int .i64) w g 0 l.toArray:=holds_of_blockI hgb (by simpa [encs] using r4)
  have hm:maxLen=9223372036854775807:=rfl
  refine(Go.Proofs.Any.slices_Compact_int Try.laysCompact g 0 cap l w hH (by omega) r1).mono ?_
  rintro e w' ⟨rfl,q,rfl⟩
  have hcl:(Lib.compact l).length≤l.length:=by rw[compact_is];exact comp_len l
  obtain⟨ts,hts⟩ : ∃ ts:List Int,ts=Lib.compact l++List.replicate (l.length - (Lib.compact l).length) 0:=⟨_,rfl⟩
  have htl:ts.length=l.length:=by rw[hts,List.length_append,List.length_replicate];omega
  have hg:=grownBy_sortedI (w:=w) (g:=g) (n:=q) (os:=#[]) ts.toArray
  have hown:=ownsRow_sortedI (n:=q) (os:=#[]) (ss:=l) (ts:=ts) htl hbase hgb r1 r2 r3
  rw[Go.Sort.grow_empty] at hg hown
  rw[hts] at hg hown
  have hR:=Kd.R_take (m:=(Lib.compact l).length) (Kd.R_of_own (α:=Int) (h1:=fun _=>rfl) (xs:=ts) (ok:=fun k_=>P0_ k_∨w.heap.size≤k_) (by rw[htl];rw[hts];exact hown) (fun k hk=>.inl (ho0.1 k hk))) (by omega)
  rw[show ts.take (Lib.compact l).length=comp l by rw[hts,List.take_left,compact_is]] at hR
  exact⟨_,rfl,hR,hB.grown hg hB.size (fun k e_=>by cases e_;exact hbase),Kept.of_grown hg (Kept.refl _ _) (fun k e_=>.inl (ho0.1 k e_))⟩
def slices_Compact_int_int.f (k:Nat) (l0:List Int):Option (List Int):=some (comp l0)
theorem slices_Compact_int_int.mono : ∀ a0 k,LeO (slices_Compact_int_int.f k a0) (slices_Compact_int_int.f (k+1) a0):=fun _ _=>LeO.refl _
theorem slices_Compact_int_int.calls (k:Nat) (P0_:Nat→Prop) (u9000_:Value) (l0:List Int) (r:List Int) (w0 w:World) (hB:Below w0.heap.size w0 w) (ho0:Kd.R (Kd.int .i64) 3 w w0.heap.size P0_ u9000_ l0) (h:slices_Compact_int_int.f k l0=some r) :
  Calls Try.prog 136 #[u9000_] w fun e w' => ∃ v0_:Value,e=.returned (v0_)∧Kd.R (Kd.int .i64) 3 w' w0.heap.size (fun k_=>(P0_ k_∨w.heap.size≤k_)) v0_ r∧Below w0.heap.size w0 w'∧Kept w w' (fun k_=>P0_ k_):=by
 obtain rfl:=Option.some.inj h
 exact slices_Compact_own P0_ u9000_ l0 w0 w hB ho0


/-! ### impl_JoinMembers: function 72 -/
def impl_JoinMembers.j0:Nat→List Int→List Int→Bool→Option (List Int × Bool)
 | 0,_,_,_=>none
 | k+1,x0,x1,x14=>if x14=true then (some (([]:List Int),false)) else ((slices_Concat_int_int.f k (([x0,x1]:List (List Int)))).bind fun t176=>((slices_Sort_int_int.f k t176).bind fun t179=>((slices_Compact_int_int.f k t179).bind fun t180=>(some (t180,true)))))
def impl_JoinMembers.f (k:Nat) (l0:List Int) (l1:List Int):Option (List Int × Bool):=(impl_areMembers.f k l0).bind fun t171=>(if t171=true then ((impl_areMembers.f k l1).bind fun t172=>(impl_JoinMembers.j0 k l0 l1 (!t172))) else (impl_JoinMembers.j0 k l0 l1 true))
theorem impl_JoinMembers.mono_l : ∀ k,(∀ y0 y1 y2,LeO (impl_JoinMembers.j0 k y0 y1 y2) (impl_JoinMembers.j0 (k+1) y0 y1 y2))
 | 0=>fun _ _ _ r h=>by simp[impl_JoinMembers.j0] at h
 | k+1=>by
  have ih0:=impl_JoinMembers.mono_l k
  ·intro y0 y1 y2
   unfold impl_JoinMembers.j0
   repeat' first
   | (with_reducible exact ih0 _ _ _)
   | (with_reducible exact impl_areMembers.mono _ _)
   | (with_reducible exact slices_Compact_int_int.mono _ _)
   | (with_reducible exact slices_Concat_int_int.mono _ _)
   | (with_reducible exact slices_Sort_int_int.mono _ _)
   | (with_reducible exact LeO.refl _)
   | (with_reducible exact LeO.none _)
   | (with_reducible refine LeO.ite ?_ ?_)
   | (with_reducible refine LeO.bind ?_ (fun _ => ?_))
   | exact ih0 _ _ _
   | exact impl_areMembers.mono _ _
   | exact slices_Compact_int_int.mono _ _
   | exact slices_Concat_int_int.mono _ _
   | exact slices_Sort_int_int.mono _ _
   | exact LeO.none _
   | refine LeO.ite ?_ ?_
   | refine LeO.bind ?_ (fun _ => ?_)
theorem impl_JoinMembers.mono : ∀ a0 a1 k,LeO (impl_JoinMembers.f k a0 a1) (impl_JoinMembers.f (k+1) a0 a1):=by
 intro a0 a1 k
 have ih0:=impl_JoinMembers.mono_l k
 unfold impl_JoinMembers.f
 repeat' first
  | (with_reducible exact ih0 _ _ _)
  | (with_reducible exact impl_areMembers.mono _ _)
  | (with_reducible exact slices_Compact_int_int.mono _ _)
  | (with_reducible exact slices_Concat_int_int.mono _ _)
  | (with_reducible exact slices_Sort_int_int.mono _ _)
  | (with_reducible exact LeO.refl _)
  | (with_reducible exact LeO.none _)
  | (with_reducible refine LeO.ite ?_ ?_)
  | (with_reducible refine LeO.bind ?_ (fun _ => ?_))
  | exact ih0 _ _ _
  | exact impl_areMembers.mono _ _
  | exact slices_Compact_int_int.mono _ _
  | exact slices_Concat_int_int.mono _ _
  | exact slices_Sort_int_int.mono _ _
  | exact LeO.none _
  | refine LeO.ite ?_ ?_
  | refine LeO.bind ?_ (fun _ => ?_)
set_option maxHeartbeats 8000000 in
set_option maxRecDepth 100000 in
theorem impl_JoinMembers.calls (k:Nat) (P0_:Nat→Prop) (A0:Option Addr) (c0:Nat) (l0:List Int) (P1_:Nat→Prop) (A1:Option Addr) (c1:Nat) (l1:List Int) (r1:List Int) (r2:Bool) (w:World) (hs0:Kd.V (Kd.int .i64) 3 w w.heap.size (fun k_=>P0_ k_) (.slice A0 l0.length c0) l0) (hs1:Kd.V (Kd.int .i64) 3 w w.heap.size (fun k_=>P1_ k_) (.slice A1 l1.length c1) l1) (h:impl_JoinMembers.f k l0 l1=some (r1,r2)) :
  Calls Try.prog 72 #[.slice A0 l0.length c0,.slice A1 l1.length c1] w fun e w' => ∃ v0_:Value,e=.returned (.tuple #[v0_,.bool r2])∧Kd.R (Kd.int .i64) 3 w' w.heap.size (fun k_=>(w.heap.size≤k_)) v0_ r1∧Below w.heap.size w w':=by
 have HO0:=Aside0.mk (show Kd.V (Kd.int .i64) 3 w w.heap.size (fun k_=>((P0_ k_∨P1_ k_)∨w.heap.size≤k_)) (.slice A0 l0.length c0) l0 from Kd.V_mono hs0 (fun k_ hk=>.inl (.inl hk)))
 have HO1:=Aside0.mk (show Kd.V (Kd.int .i64) 3 w w.heap.size (fun k_=>((P0_ k_∨P1_ k_)∨w.heap.size≤k_)) (.slice A1 l1.length c1) l1 from Kd.V_mono hs1 (fun k_ hk=>.inl (.inr hk)))
 have HB:=Aside0.mk (Below.refl w.heap.size w)
 have H:((impl_areMembers.f k l0).bind fun t171=>(if t171=true then ((impl_areMembers.f k l1).bind fun t172=>(impl_JoinMembers.j0 k l0 l1 (!t172))) else (impl_JoinMembers.j0 k l0 l1 true)))=some (r1,r2):=h
 clear h
 have HC3:=Aside0.mk H
 clear H
 go_enter Try.func72,Try.ntmps72
 go_upto_region 1 with (fail)
 go_cut [14] (fun v14 wc => ∃ (kq:Nat) (x14_2:Bool),v14=.bool x14_2∧Aside0 (impl_JoinMembers.j0 kq l0 l1 x14_2=some (r1,r2))∧Aside0 (kq≤k)∧Aside0 (Kd.V (Kd.int .i64) 3 wc w.heap.size (fun k_=>((P0_ k_∨P1_ k_)∨w.heap.size≤k_)) (.slice A0 l0.length c0) l0)∧Aside0 (Kd.V (Kd.int .i64) 3 wc w.heap.size (fun k_=>((P0_ k_∨P1_ k_)∨w.heap.size≤k_)) (.slice A1 l1.length c1) l1)∧Aside0 (Below w.heap.size w wc))
 case first =>
  have H:=HC3.out
  clear HC3
  replace H:=Option.bind_eq_some_iff.mp H
  obtain⟨t171,A40,H⟩:=H
  replace H:(if t171=true then ((impl_areMembers.f k l1).bind fun t172=>(impl_JoinMembers.j0 k l0 l1 (!t172))) else (impl_JoinMembers.j0 k l0 l1 true))=some (r1,r2):=H
  have A4:=Aside0.mk A40
  clear A40
  by_cases c5:t171=true
  ·subst c5
   have H1:((impl_areMembers.f k l1).bind fun t172=>(impl_JoinMembers.j0 k l0 l1 (!t172)))=some (r1,r2):=by rw[if_pos rfl] at H;exact H
   clear H
   have H:=H1
   clear H1
   replace H:=Option.bind_eq_some_iff.mp H
   obtain⟨t172,A60,H⟩:=H
   replace H:(impl_JoinMembers.j0 k l0 l1 (!t172))=some (r1,r2):=H
   have A6:=Aside0.mk A60
   clear A60
   have H':=Aside0.mk H
   clear H
   go_wp2_with (first|((with_reducible refine gate_callee (f:=130) rfl ?_);refine goesA (some 8) rfl rfl Try.func130 #[.slice A0 l0.length c0] rfl ?_;(with_reducible refine(impl_areMembers.calls k _ _ l0 true _ ?side1 ?side2 A4.out).mono ?_);(case side1=>repeat (first|exact(Kd.V_reads' HO0.out).2.2|(with_reducible refine Kd.C_alloc ?_ _)|(with_reducible refine Kd.C_drewN ?_ _)|(with_reducible refine Kd.C_drew ?_)));(case side2=>exact(Kd.V_reads' HO0.out).2.1);rintro e w' ⟨rfl,⟨nd,rfl⟩⟩;refine⟨_,rfl,?_⟩)|(go_at_call 130;(with_reducible refine(impl_areMembers.calls k _ _ l1 t172 _ ?side1 ?side2 A6.out).mono ?_);(case side1=>repeat (first|exact(Kd.V_reads' HO1.out).2.2|(with_reducible refine Kd.C_alloc ?_ _)|(with_reducible refine Kd.C_drewN ?_ _)|(with_reducible refine Kd.C_drew ?_)));(case side2=>exact(Kd.V_reads' HO1.out).2.1);rintro e w' ⟨rfl,⟨nd,rfl⟩⟩))
   go_meet
   case rel=>exact⟨_,(!t172),(bR),H',⟨by first|omega|exact Nat.le_refl _⟩,⟨by(with_reducible repeat (first|apply Kd.V_alloc|apply Kd.V_drewN|apply Kd.V_drew));exact HO0.out⟩,⟨by(with_reducible repeat (first|apply Kd.V_alloc|apply Kd.V_drewN|apply Kd.V_drew));exact HO1.out⟩,⟨by repeat (first|(with_reducible first|exact HB.out|apply below_alloc|apply pw_below_drewN|apply below_drew1)|exact HB.out)⟩⟩
  ·replace c5:=Bool.eq_false_iff.mpr c5
   subst c5
   have H1:(impl_JoinMembers.j0 k l0 l1 true)=some (r1,r2):=by rw[if_neg (show ¬ (false=true) by decide)] at H;exact H
   clear H
   have H:=H1
   clear H1
   have H':=Aside0.mk H
   clear H
   go_wp2_with (first|((with_reducible refine gate_callee (f:=130) rfl ?_);refine goesA (some 8) rfl rfl Try.func130 #[.slice A0 l0.length c0] rfl ?_;(with_reducible refine(impl_areMembers.calls k _ _ l0 false _ ?side1 ?side2 A4.out).mono ?_);(case side1=>repeat (first|exact(Kd.V_reads' HO0.out).2.2|(with_reducible refine Kd.C_alloc ?_ _)|(with_reducible refine Kd.C_drewN ?_ _)|(with_reducible refine Kd.C_drew ?_)));(case side2=>exact(Kd.V_reads' HO0.out).2.1);rintro e w' ⟨rfl,⟨nd,rfl⟩⟩;refine⟨_,rfl,?_⟩))
   go_meet
   case rel=>exact⟨_,(true),(bR),H',⟨by first|omega|exact Nat.le_refl _⟩,⟨by(with_reducible repeat (first|apply Kd.V_alloc|apply Kd.V_drewN|apply Kd.V_drew));exact HO0.out⟩,⟨by(with_reducible repeat (first|apply Kd.V_alloc|apply Kd.V_drewN|apply Kd.V_drew));exact HO1.out⟩,⟨by repeat (first|(with_reducible first|exact HB.out|apply below_alloc|apply pw_below_drewN|apply below_drew1)|exact HB.out)⟩⟩
 case rest =>
  clear HC3
  try clear c1
  try clear p2
  try clear c5
  obtain⟨kq,x14_2,rfl,HA,HJ2,HO_0,HO_1,HB⟩:=hcut
  cases kq with
  | zero=>exact absurd HA.out (by simp[impl_JoinMembers.j0])
  | succ kj2 =>
   have H:=HA.out
   clear HA
   simp only[impl_JoinMembers.j0] at H
   by_cases c7:x14_2=true
   ·subst c7
    have H1:(some (([]:List Int),false))=some (r1,r2):=by rw[if_pos rfl] at H;exact H
    clear H
    have H:=H1
    clear H1
    simp only[Option.some.injEq,Prod.mk.injEq] at H
    obtain⟨rfl,rfl⟩:=H
    go_wp2
    go_ret2
    exact⟨_,by first|rfl|(simp[errW_none,errW_some]<;>rfl)|(simp[*,errW_none,errW_some]<;>rfl),by first|exact Kd.R_nil _ _ _ _ _|exact Kd.N_nil _ _ _ _ _|exact Kd.V_nil _ _ _ _ _|exact Kd.Q_nil _ _ _ _ _|exact Kd.S_nil _ _ _ _ _,bB⟩
   ·replace c7:=Bool.eq_false_iff.mpr c7
    subst c7
    have H1:((slices_Concat_int_int.f kj2 (([l0,l1]:List (List Int)))).bind fun t176=>((slices_Sort_int_int.f kj2 t176).bind fun t179=>((slices_Compact_int_int.f kj2 t179).bind fun t180=>(some (t180,true)))))=some (r1,r2):=by rw[if_neg (show ¬ (false=true) by decide)] at H;exact H
    clear H
    have H:=H1
    clear H1
    obtain⟨y173,hy173⟩ : ∃ y_:List (List Int),y_=(([l0,l1]:List (List Int))):=⟨_,rfl⟩
    replace H:((slices_Concat_int_int.f kj2 y173).bind fun t176=>((slices_Sort_int_int.f kj2 t176).bind fun t179=>((slices_Compact_int_int.f kj2 t179).bind fun t180=>(some (t180,true)))))=some (r1,r2):=by first|(rw[hy173];with_reducible exact H)|(have H2_:=(Option.bind_some _ _).symm.trans H;rw[hy173];with_reducible exact H2_)|(have H2_:=(Option.bind_some _ _).symm.trans H;with_reducible exact H2_)|with_reducible exact H|(rw[hy173];exact H)|exact H
    have Ny173:=Aside0.mk hy173
    clear hy173
    replace H:=Option.bind_eq_some_iff.mp H
    obtain⟨t176,A80,H⟩:=H
    replace H:((slices_Sort_int_int.f kj2 t176).bind fun t179=>((slices_Compact_int_int.f kj2 t179).bind fun t180=>(some (t180,true))))=some (r1,r2):=H
    have A8:=Aside0.mk A80
    clear A80
    replace H:=Option.bind_eq_some_iff.mp H
    obtain⟨t179,A90,H⟩:=H
    replace H:((slices_Compact_int_int.f kj2 t179).bind fun t180=>(some (t180,true)))=some (r1,r2):=H
    have A9:=Aside0.mk A90
    clear A90
    replace H:=Option.bind_eq_some_iff.mp H
    obtain⟨t180,A100,H⟩:=H
    replace H:(some (t180,true))=some (r1,r2):=H
    have A10:=Aside0.mk A100
    clear A100
    simp only[Option.some.injEq,Prod.mk.injEq] at H
    obtain⟨rfl,rfl⟩:=H
    go_wp2_with (first|((with_reducible refine gate_dst (N:=17) rfl ?_);refine Kd.N_lit (Kd.slice 3 (Kd.int .i64)) _ 37 ?hg (N':=17) ?hd (xs:=([l0,l1]:List (List Int))) (inner:=[.slice A0 l0.length c0,.slice A1 l1.length c1]) (ok:=(fun k_=>((P0_ k_∨P1_ k_)∨w.heap.size≤k_))) (okp:=(fun k_=>((P0_ k_∨P1_ k_)∨w.heap.size≤k_))) ?hr ?hp (fun _ hk=>hk) ((show ∀ k_,wc.heap.size≤k_→(fun k_=>((P0_ k_∨P1_ k_)∨w.heap.size≤k_)) k_ from fun k_ hk=>(.inr (Nat.le_trans (below_size (bB)) hk))) _ (Nat.le_refl _)) (Below.refl _ _) (Nat.le_refl _) (by simp) ?_;(case hd=>rfl);(case hg=>rfl);(case hr=>first|(go_simp;done)|(go_simp;rfl));(case hp=>exact(Reps.one (show Kd.FK (Kd.slice 3 (Kd.int .i64)) _ _ l0 [.slice A0 l0.length c0] from (Kd.FK_slice_mk (Kd.V_reads' (Kd.V_mono (ok':=(fun k_=>((P0_ k_∨P1_ k_)∨w.heap.size≤k_))) (HO_0.out) (fun k_ hk=>hk))).2.1 (Kd.V_F (Kd.V_mono (ok':=(fun k_=>((P0_ k_∨P1_ k_)∨w.heap.size≤k_))) (HO_0.out) (fun k_ hk=>hk))))) (Reps.one (show Kd.FK (Kd.slice 3 (Kd.int .i64)) _ _ l1 [.slice A1 l1.length c1] from (Kd.FK_slice_mk (Kd.V_reads' (Kd.V_mono (ok':=(fun k_=>((P0_ k_∨P1_ k_)∨w.heap.size≤k_))) (HO_1.out) (fun k_ hk=>hk))).2.1 (Kd.V_F (Kd.V_mono (ok':=(fun k_=>((P0_ k_∨P1_ k_)∨w.heap.size≤k_))) (HO_1.out) (fun k_ hk=>hk))))) (Reps.none _ _))));intro v174 w11 ho12 hb hg_ hnew_;clear hg_ hnew_;(first|rw[← Ny173.out] at ho12|(simp only[Int.reduceToNat] at ho12;rw[← Ny173.out] at ho12));have n0_:=Aside0.mk (Kd.V_elder' (by(with_reducible repeat (first|apply Kd.V_alloc|apply Kd.V_drewN|apply Kd.V_drew));exact HO_0.out) (Kd.N_base ho12) hb);have n1_:=Aside0.mk (Kd.V_elder' (by(with_reducible repeat (first|apply Kd.V_alloc|apply Kd.V_drewN|apply Kd.V_drew));exact HO_1.out) (Kd.N_base ho12) hb);have n2_:=Aside0.mk (Kd.N_lower ho12 (below_size (bB)));have n3_:=Aside0.mk (below_step (bB) hb);clear HO_0 HO_1 HB;have HO_0:=n0_;have HO_1:=n1_;have HO175:=n2_;have HB:=n3_;clear n0_ n1_ n2_ n3_;clear hb ho12;obtain⟨Ao13,co13,eo13⟩:=Kd.N_slice HO175.out;subst eo13)|((with_reducible refine gate_callee (f:=134) rfl ?_);refine goesA (some 18) rfl rfl Try.func134 #[.slice Ao13 y173.length co13] rfl ?_;(with_reducible refine(slices_Concat_int_int.calls kj2 _ _ y173 t176 _ ?side1 ?side2 A8.out).mono ?_);(case side1=>repeat (first|exact(Kd.N_reads' HO175.out).2.2|(with_reducible refine Kd.C_alloc ?_ _)|(with_reducible refine Kd.C_drewN ?_ _)|(with_reducible refine Kd.C_drew ?_)));(case side2=>exact(Kd.N_reads' HO175.out).2.1);rintro e w14 ⟨v177,rfl,ho0,hb⟩;refine⟨_,rfl,?_⟩;have n0_:=Aside0.mk (Kd.V_elder' (by(with_reducible repeat (first|apply Kd.V_alloc|apply Kd.V_drewN|apply Kd.V_drew));exact HO_0.out) (Kd.R_base ho0) hb);have n1_:=Aside0.mk (Kd.V_elder' (by(with_reducible repeat (first|apply Kd.V_alloc|apply Kd.V_drewN|apply Kd.V_drew));exact HO_1.out) (Kd.R_base ho0) hb);have n2_:=Aside0.mk (Kd.N_elder' (by(with_reducible repeat (first|apply Kd.N_alloc|apply Kd.N_drewN|apply Kd.N_drew));exact HO175.out) (Kd.R_base ho0) hb);have n3_:=Aside0.mk (Kd.R_lower (Kd.R_newM (M:=fun k_=>(w.heap.size≤k_)) ho0 (below_size (bB)) (fun k_ h_=>h_)) (below_size (bB)));have n4_:=Aside0.mk (below_step (bB) hb);clear HO_0 HO_1 HO175 HB;have HO_0:=n0_;have HO_1:=n1_;have HO175:=n2_;have HO178:=n3_;have HB:=n4_;clear n0_ n1_ n2_ n3_ n4_;(try clear hb);(try clear hb2);(try clear hk);(try clear hi);(try clear ho0);obtain⟨Ao15,co15,eo15⟩:=Kd.R_slice HO178.out;subst eo15)|((with_reducible refine gate_callee (f:=135) rfl ?_);refine goesA (some 20) rfl rfl Try.func135 #[.slice Ao15 t176.length co15] rfl ?_;(with_reducible refine(slices_Sort_int_int.calls kj2 (fun k_=>some k_=(.slice Ao15 t176.length co15:Value).ownBlock) (.slice Ao15 t176.length co15) t176 t179 w _ ?side1 ?side2 A9.out).mono ?_);(case side1=>repeat (first|(with_reducible first|exact HB.out|apply below_alloc|apply pw_below_drewN|apply below_drew1)|exact HB.out));(case side2=>exact Kd.R_tight rfl HO178.out);rintro e w16 ⟨rfl,hy0,hb,hkp⟩;refine⟨_,rfl,?_⟩;have n0_:=Aside0.mk (Kd.V_mono (ok':=fun k_=>((P0_ k_∨P1_ k_)∨w.heap.size≤k_)∧some k_≠(.slice Ao13 y173.length co13:Value).ownBlock∧some k_≠(.slice Ao15 t176.length co15:Value).ownBlock) (Kd.V_keptB (HO_0.out) hkp (fun k_ hk_ hs_=>(hk_.2) hs_)) (fun k_ hk_=>⟨hk_.1.1.1,hk_.1.1.2,hk_.1.2⟩));have n1_:=Aside0.mk (Kd.V_mono (ok':=fun k_=>((P0_ k_∨P1_ k_)∨w.heap.size≤k_)∧some k_≠(.slice Ao13 y173.length co13:Value).ownBlock∧some k_≠(.slice Ao15 t176.length co15:Value).ownBlock) (Kd.V_keptB (HO_1.out) hkp (fun k_ hk_ hs_=>(hk_.2) hs_)) (fun k_ hk_=>⟨hk_.1.1.1,hk_.1.1.2,hk_.1.2⟩));have n2_:=Aside0.mk (Kd.N_mono (ok':=fun k_=>((P0_ k_∨P1_ k_)∨w.heap.size≤k_)∧some k_≠(.slice Ao15 t176.length co15:Value).ownBlock) (Kd.N_keptB (HO175.out) hkp (fun k_ hk_ hs_=>(hk_.2) hs_)) (fun k_ hk_=>⟨hk_.1.1,hk_.1.2⟩));have n3_:=Aside0.mk (Kd.R_reok rfl hy0 (fun k_ e_=>HO178.out.1 k_ e_));have n4_:=Aside0.mk (hb);clear HO_0 HO_1 HO175 HO178 HB;have HO_0:=n0_;have HO_1:=n1_;have HO175:=n2_;have HO178:=n3_;have HB:=n4_;clear n0_ n1_ n2_ n3_ n4_;(try clear hb);(try clear hkp);(try clear hy0))|((with_reducible refine gate_callee (f:=136) rfl ?_);refine goesA (some 22) rfl rfl Try.func136 #[.slice Ao15 t176.length co15] rfl ?_;(with_reducible refine(slices_Compact_int_int.calls kj2 (fun k_=>some k_=(.slice Ao15 t176.length co15:Value).ownBlock) (.slice Ao15 t176.length co15) t179 t180 w _ ?side1 ?side2 A10.out).mono ?_);(case side1=>repeat (first|(with_reducible first|exact HB.out|apply below_alloc|apply pw_below_drewN|apply below_drew1)|exact HB.out));(case side2=>exact Kd.R_tight rfl HO178.out);rintro e w17 ⟨v181,rfl,ho0,hb,hkp⟩;refine⟨_,rfl,?_⟩;have n0_:=Aside0.mk (Kd.V_mono (ok':=fun k_=>((P0_ k_∨P1_ k_)∨w.heap.size≤k_)∧some k_≠(.slice Ao13 y173.length co13:Value).ownBlock∧some k_≠(v181:Value).ownBlock) (Kd.V_keptB (HO_0.out) hkp (fun k_ hk_ hs_=>(hk_.2.2) hs_)) (fun k_ hk_=>⟨hk_.1.1,hk_.1.2.1,fun e_=>Or.elim (ho0.1 k_ e_.symm) (fun hs_=>hk_.2.1 hs_) (fun hn_=>Nat.not_le.2 hk_.2.2 hn_)⟩));have n1_:=Aside0.mk (Kd.V_mono (ok':=fun k_=>((P0_ k_∨P1_ k_)∨w.heap.size≤k_)∧some k_≠(.slice Ao13 y173.length co13:Value).ownBlock∧some k_≠(v181:Value).ownBlock) (Kd.V_keptB (HO_1.out) hkp (fun k_ hk_ hs_=>(hk_.2.2) hs_)) (fun k_ hk_=>⟨hk_.1.1,hk_.1.2.1,fun e_=>Or.elim (ho0.1 k_ e_.symm) (fun hs_=>hk_.2.1 hs_) (fun hn_=>Nat.not_le.2 hk_.2.2 hn_)⟩));have n2_:=Aside0.mk (Kd.N_mono (ok':=fun k_=>((P0_ k_∨P1_ k_)∨w.heap.size≤k_)∧some k_≠(v181:Value).ownBlock) (Kd.N_keptB (HO175.out) hkp (fun k_ hk_ hs_=>(hk_.2) hs_)) (fun k_ hk_=>⟨hk_.1.1,fun e_=>Or.elim (ho0.1 k_ e_.symm) (fun hs_=>hk_.2.1 hs_) (fun hn_=>Nat.not_le.2 hk_.2.2 hn_)⟩));have n3_:=Aside0.mk (Kd.R_mono (ok':=fun k_=>(w.heap.size≤k_)) ho0 (fun k_ hk_=>Or.elim hk_ (fun hs_=>(HO178.out.1 k_ (hs_).symm).1) (fun hn_=>(Nat.le_trans (below_size (bB)) hn_))));have n4_:=Aside0.mk (hb);clear HO_0 HO_1 HO175 HB HO178;have HO_0:=n0_;have HO_1:=n1_;have HO175:=n2_;have HO182:=n3_;have HB:=n4_;clear n0_ n1_ n2_ n3_ n4_;(try clear hb);(try clear hkp);(try clear ho0)))
    go_ret2
    exact⟨_,by first|rfl|(simp[errW_none,errW_some]<;>rfl)|(simp[*,errW_none,errW_some]<;>rfl),by(with_reducible repeat (first|apply Kd.R_alloc|apply Kd.R_drewN|apply Kd.R_drew));exact HO182.out,bB⟩

end Go.Proofs.Yteneeohaoplpbaa.XFnExactJoinMembers
