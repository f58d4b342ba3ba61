-- Written by this session's own program (wip/xprint.py) out of the translation; Lean checks it.
import Derived.Test.YtanegdfncfkinaaXFnFloodx0
namespace Go.Proofs.Ytanegdfncfkinaa.XFnFlood
open Go.RowKit Go.Proofs.YtanegdfncfkinaaW.PrintWords Go.Proofs.YtanegdfncfkinaaW.PrintLast Go.Proofs.YtanegdfncfkinaaW.PrintMore
attribute [local go_sem] max2_int min2_int max_two min_two max_three min_three max_four min_four   -- for this text's walks alone
set_option linter.unusedVariables false
set_option linter.unusedSimpArgs false

/-- A state of type 47 at block g of W; what its slices lead to came in by w0. -/
def IsS47 (w0 W:World) (g:Nat) (f0:List Int) (f1:Int) (f2:Int):Prop:=∃ A0 c0,W.heap[g]?=some (.cells #[.slice A0 f0.length c0,.int .i64 f1,.int .u64 f2] 47 (0,0))∧w0.heap.size≤g∧Kd.C (Kd.int .u8) w0 A0 f0.length f0
theorem IsS47.grown {w0 W:World} {g:Nat} {f0:List Int} {f1:Int} {f2:Int} {W1:World} {row:Option Nat} (h:IsS47 w0 W g f0 f1 f2) (hw:W.grownBy W1 row) (hne:some g≠row):IsS47 w0 W1 g f0 f1 f2:=by
 obtain⟨A0,c0,hb,hg,hr0⟩:=h
 exact⟨A0,c0,blk_grown hb hw hne,hg,hr0⟩
theorem IsS47.own_neN {w0 W:World} {g:Nat} {f0:List Int} {f1:Int} {f2:Int} {α:Type} {d:Kd α} {e:Nat} {base:Nat} {ok:Nat→Prop} {v:Value} {xs:List α} (h:IsS47 w0 W g f0 f1 f2) (ho:Kd.N d e W base ok v xs) (ht:e≠47):some g≠v.ownBlock:=by
 obtain⟨A0,c0,hb,hg,hr0⟩:=h
 exact Kd.N_ne ho hb ht
theorem IsS47.fresh {w0 W:World} {g:Nat} {f0:List Int} {f1:Int} {f2:Int} (h:IsS47 w0 W g f0 f1 f2) : ∀ k,W.heap.size≤k→k≠g:=by
 obtain⟨A0,c0,hb,hg,hr0⟩:=h
 exact Kd.freshB hb
theorem IsS47.kept {w0 W:World} {g:Nat} {f0:List Int} {f1:Int} {f2:Int} {W1:World} {S:Nat→Prop} (h:IsS47 w0 W g f0 f1 f2) (hk:Kept W W1 S) (hne : ¬ S g):IsS47 w0 W1 g f0 f1 f2:=by
 obtain⟨A0,c0,hb,hg,hr0⟩:=h
 exact⟨A0,c0,blk_kept hb hk hne,hg,hr0⟩
theorem IsS47.below {w0 W:World} {g:Nat} {f0:List Int} {f1:Int} {f2:Int} {W1:World} (h:IsS47 w0 W g f0 f1 f2) (hw:Below W.heap.size W W1):IsS47 w0 W1 g f0 f1 f2:=h.grown (grown_of_below hw none) (by simp)
theorem IsS47.alloc {w0 W:World} {g:Nat} {f0:List Int} {f1:Int} {f2:Int} (h:IsS47 w0 W g f0 f1 f2) (o:Obj):IsS47 w0 (W.alloc o) g f0 f1 f2:=h.below (below_alloc (Below.refl _ _) o)
theorem IsS47.drewN {w0 W:World} {g:Nat} {f0:List Int} {f1:Int} {f2:Int} (h:IsS47 w0 W g f0 f1 f2) (m:Nat):IsS47 w0 (W.drewN m) g f0 f1 f2:=h
theorem IsS47.drew {w0 W:World} {g:Nat} {f0:List Int} {f1:Int} {f2:Int} (h:IsS47 w0 W g f0 f1 f2):IsS47 w0 W.drew g f0 f1 f2:=h
theorem IsS47.at_ {w0 W:World} {g:Nat} {f0:List Int} {f1:Int} {f2:Int} {w':World} {m:Nat} (hq:W.drewN m=w') (h:IsS47 w0 W g f0 f1 f2):IsS47 w0 w' g f0 f1 f2:=by subst hq;exact IsS47.drewN h m
theorem IsS47.apart {w0 W:World} {g:Nat} {f0:List Int} {f1:Int} {f2:Int} {α:Type} {d:Kd α} {e:Nat} {base:Nat} {ok:Nat→Prop} {v:Value} {xs:List α} (h:IsS47 w0 W g f0 f1 f2) (ho:d.R e W base ok v xs) (ht : ∀ q,q ∈ e::d.E→q≠47):d.R e W base (fun k=>ok k∧k≠g) v xs:=by
 obtain⟨A0,c0,hb,hg,hr0⟩:=h
 exact Kd.R_types ho hb ht
theorem IsS47.own_ne {w0 W:World} {g:Nat} {f0:List Int} {f1:Int} {f2:Int} {α:Type} {d:Kd α} {e:Nat} {base:Nat} {ok:Nat→Prop} {v:Value} {xs:List α} (h:IsS47 w0 W g f0 f1 f2) (ho:d.R e W base ok v xs) (ht:e≠47):some g≠v.ownBlock:=by
 obtain⟨A0,c0,hb,hg,hr0⟩:=h
 exact Kd.R_ne ho hb ht
theorem IsS47.apartQ {w0 W:World} {g:Nat} {f0:List Int} {f1:Int} {f2:Int} {α:Type} {d:Kd α} {e:Nat} {base:Nat} {ok:Nat→Prop} {v:Value} {xs:List α} (h:IsS47 w0 W g f0 f1 f2) (ho:d.Q e W base ok v xs) (ht : ∀ q,q ∈ e::d.E→q≠47):d.Q e W base (fun k=>ok k∧k≠g) v xs:=by
 obtain⟨A0,c0,hb,hg,hr0⟩:=h
 exact Kd.Q_types ho hb ht
theorem IsS47.own_neQ {w0 W:World} {g:Nat} {f0:List Int} {f1:Int} {f2:Int} {α:Type} {d:Kd α} {e:Nat} {base:Nat} {ok:Nat→Prop} {v:Value} {xs:List α} (h:IsS47 w0 W g f0 f1 f2) (ho:d.Q e W base ok v xs) (ht:e≠47):some g≠v.ownBlock:=by
 obtain⟨A0,c0,hb,hg,hr0⟩:=h
 exact Kd.Q_ne ho hb ht
theorem IsS47.apartS {w0 W:World} {g:Nat} {f0:List Int} {f1:Int} {f2:Int} {α:Type} {d:Kd α} {e:Nat} {base:Nat} {ok:Nat→Prop} {v:Value} {xs:List α} (h:IsS47 w0 W g f0 f1 f2) (ho:d.S e W base ok v xs) (ht : ∀ q,q ∈ e::d.E→q≠47):d.S e W base (fun k=>ok k∧k≠g) v xs:=by
 obtain⟨A0,c0,hb,hg,hr0⟩:=h
 exact Kd.S_types ho hb ht
theorem IsS47.own_neS {w0 W:World} {g:Nat} {f0:List Int} {f1:Int} {f2:Int} {α:Type} {d:Kd α} {e:Nat} {base:Nat} {ok:Nat→Prop} {v:Value} {xs:List α} (h:IsS47 w0 W g f0 f1 f2) (ho:d.S e W base ok v xs) (ht:e≠47):some g≠v.ownBlock:=by
 obtain⟨A0,c0,hb,hg,hr0⟩:=h
 exact Kd.S_ne ho hb ht
theorem IsS47.lt {w0 W:World} {g:Nat} {f0:List Int} {f1:Int} {f2:Int} (h:IsS47 w0 W g f0 f1 f2):g < W.heap.size:=by
 obtain⟨A0,c0,hb,hg,hr0⟩:=h
 exact blk_lt hb
theorem IsS47.ge {w0 W:World} {g:Nat} {f0:List Int} {f1:Int} {f2:Int} (h:IsS47 w0 W g f0 f1 f2):w0.heap.size≤g:=by
 obtain⟨A0,c0,hb,hg,hr0⟩:=h
 exact hg
theorem IsS47.ne_blk {w0 W:World} {g:Nat} {f0:List Int} {f1:Int} {f2:Int} {a:Nat} {cs:Array Value} {t:TypeId} {fr:Nat × Nat} (h:IsS47 w0 W g f0 f1 f2) (hb2:W.heap[a]?=some (.cells cs t fr)) (ht:t≠47):g≠a:=by
 obtain⟨A0,c0,hb,hg,hr0⟩:=h
 rintro rfl
 rw[hb] at hb2
 injection hb2 with hb2
 injection hb2 with _ ht2
 exact ht ht2.symm
theorem IsS47.far {w0 W:World} {g:Nat} {f0:List Int} {f1:Int} {f2:Int} {p:Addr} (h:IsS47 w0 W g f0 f1 f2) (hne:g≠p.block) (u:Value):IsS47 w0 (W.setCell p u) g f0 f1 f2:=by
 obtain⟨A0,c0,hb,hg,hr0⟩:=h
 exact⟨A0,c0,blk_far hb hne u,hg,hr0⟩
theorem cellS47_0 {W:World} {g:Nat} {A0:Option Addr} {c0:Nat} {f0:List Int} {f1:Int} {f2:Int} (h:W.heap[g]?=some (.cells #[.slice A0 f0.length c0,.int .i64 f1,.int .u64 f2] 47 (0,0))):W.cell? ⟨g,0,none⟩=some (.slice A0 f0.length c0):=(blk_cell h 0).trans rfl
theorem cellS47_1 {W:World} {g:Nat} {A0:Option Addr} {c0:Nat} {f0:List Int} {f1:Int} {f2:Int} (h:W.heap[g]?=some (.cells #[.slice A0 f0.length c0,.int .i64 f1,.int .u64 f2] 47 (0,0))):W.cell? ⟨g,1,none⟩=some (.int .i64 f1):=(blk_cell h 1).trans rfl
theorem IsS47.set_1 {w0 W:World} {g:Nat} {f0:List Int} {f1:Int} {f2:Int} (h:IsS47 w0 W g f0 f1 f2) (x:Int):IsS47 w0 (W.setCell ⟨g,1,none⟩ (.int .i64 x)) g f0 x f2:=by
 obtain⟨A0,c0,hb,hg,hr0⟩:=h
 exact⟨A0,c0,by simpa using blk_set hb 1 (.int .i64 x),hg,hr0⟩
theorem cellS47_2 {W:World} {g:Nat} {A0:Option Addr} {c0:Nat} {f0:List Int} {f1:Int} {f2:Int} (h:W.heap[g]?=some (.cells #[.slice A0 f0.length c0,.int .i64 f1,.int .u64 f2] 47 (0,0))):W.cell? ⟨g,2,none⟩=some (.int .u64 f2):=(blk_cell h 2).trans rfl
theorem IsS47.set_2 {w0 W:World} {g:Nat} {f0:List Int} {f1:Int} {f2:Int} (h:IsS47 w0 W g f0 f1 f2) (x:Int):IsS47 w0 (W.setCell ⟨g,2,none⟩ (.int .u64 x)) g f0 f1 x:=by
 obtain⟨A0,c0,hb,hg,hr0⟩:=h
 exact⟨A0,c0,by simpa using blk_set hb 2 (.int .u64 x),hg,hr0⟩
theorem IsS47.new (w0 W:World) (A0:Option Addr) (c0:Nat) (f0:List Int) (f1:Int) (f2:Int) (hB:Below w0.heap.size w0 W) (hr0:Kd.C (Kd.int .u8) w0 A0 f0.length f0):IsS47 w0 (W.alloc (.cells #[.slice A0 f0.length c0,.int .i64 f1,.int .u64 f2] 47)) W.heap.size f0 f1 f2:=⟨A0,c0,by simpa using heap_alloc_new W _,hB.size,hr0⟩

/-! ### spec_l1Cur_next: function 39 -/
def spec_l1Cur_next.f (s0_0:List Int) (s0_1:Int) (s0_2:Int):Option (Int × Int × Int):=if s0_1 < (s0_0.length:Int) then (if 0≤s0_1 then (if (wrap64 (s0_1+1))≤(s0_0.length:Int) then (some (wrap64 (rd s0_0 s0_1),wrap64 (s0_1+1),IntKind.u64.wrap ((IntKind.u64.wrap ((IntKind.u64.wrap (s0_2 * 6364136223846793005))+(IntKind.u64.wrap (wrap64 (rd s0_0 s0_1)))))+1442695040888963407))) else (some (wrap64 (Go.bits .and .u64 ((IntKind.u64.wrap ((IntKind.u64.wrap ((IntKind.u64.wrap (s0_2 * 6364136223846793005))+(IntKind.u64.wrap (wrap64 (rd s0_0 s0_1)))))+1442695040888963407)) / 1099511627776) 255),wrap64 (s0_1+1),IntKind.u64.wrap ((IntKind.u64.wrap ((IntKind.u64.wrap (s0_2 * 6364136223846793005))+(IntKind.u64.wrap (wrap64 (rd s0_0 s0_1)))))+1442695040888963407)))) else (none)) else (if (wrap64 (s0_1+1))≤(s0_0.length:Int) then (some (0,wrap64 (s0_1+1),IntKind.u64.wrap ((IntKind.u64.wrap ((IntKind.u64.wrap (s0_2 * 6364136223846793005))))+1442695040888963407))) else (some (wrap64 (Go.bits .and .u64 ((IntKind.u64.wrap ((IntKind.u64.wrap ((IntKind.u64.wrap (s0_2 * 6364136223846793005))))+1442695040888963407)) / 1099511627776) 255),wrap64 (s0_1+1),IntKind.u64.wrap ((IntKind.u64.wrap ((IntKind.u64.wrap (s0_2 * 6364136223846793005))))+1442695040888963407))))
set_option maxHeartbeats 8000000 in
set_option maxRecDepth 100000 in
theorem spec_l1Cur_next.calls (g:Nat) (s0_0:List Int) (s0_1:Int) (s0_2:Int) (r1:Int) (r2:Int) (r3:Int) (w0 w:World) (hI:IsS47 w0 w g s0_0 s0_1 s0_2) (hB:Below w0.heap.size w0 w) (h:spec_l1Cur_next.f s0_0 s0_1 s0_2=some (r1,r2,r3)) :
  Calls Try.prog 39 #[.pointer (some ⟨g,0,none⟩)] w fun e w'=>e=.returned (.int .i64 r1)∧IsS47 w0 w' g s0_0 r2 r3∧Below w0.heap.size w0 w'∧KeepBut w w' g none:=by
 have HI0:=Aside0.mk hI
 have HK:=Aside0.mk (KeepBut.refl w g none)
 have HL:=Aside0.mk hB.size
 clear hI
 have HW0:=Aside0.mk hB.size
 have HB:=Aside0.mk hB
 clear hB
 have H:(if s0_1 < (s0_0.length:Int) then (if 0≤s0_1 then (if (wrap64 (s0_1+1))≤(s0_0.length:Int) then (some (wrap64 (rd s0_0 s0_1),wrap64 (s0_1+1),IntKind.u64.wrap ((IntKind.u64.wrap ((IntKind.u64.wrap (s0_2 * 6364136223846793005))+(IntKind.u64.wrap (wrap64 (rd s0_0 s0_1)))))+1442695040888963407))) else (some (wrap64 (Go.bits .and .u64 ((IntKind.u64.wrap ((IntKind.u64.wrap ((IntKind.u64.wrap (s0_2 * 6364136223846793005))+(IntKind.u64.wrap (wrap64 (rd s0_0 s0_1)))))+1442695040888963407)) / 1099511627776) 255),wrap64 (s0_1+1),IntKind.u64.wrap ((IntKind.u64.wrap ((IntKind.u64.wrap (s0_2 * 6364136223846793005))+(IntKind.u64.wrap (wrap64 (rd s0_0 s0_1)))))+1442695040888963407)))) else (none)) else (if (wrap64 (s0_1+1))≤(s0_0.length:Int) then (some (0,wrap64 (s0_1+1),IntKind.u64.wrap ((IntKind.u64.wrap ((IntKind.u64.wrap (s0_2 * 6364136223846793005))))+1442695040888963407))) else (some (wrap64 (Go.bits .and .u64 ((IntKind.u64.wrap ((IntKind.u64.wrap ((IntKind.u64.wrap (s0_2 * 6364136223846793005))))+1442695040888963407)) / 1099511627776) 255),wrap64 (s0_1+1),IntKind.u64.wrap ((IntKind.u64.wrap ((IntKind.u64.wrap (s0_2 * 6364136223846793005))))+1442695040888963407)))))=some (r1,r2,r3):=h
 clear h
 by_cases c2:s0_1 < (s0_0.length:Int)
 ·rw[if_pos c2] at H
  have c2b0:decide (s0_1 < (s0_0.length:Int))=true:=decide_eq_true c2
  clear c2
  by_cases c3:0≤s0_1
  ·rw[if_pos c3] at H
   have c3b0:decide (0≤s0_1)=true:=decide_eq_true c3
   clear c3
   by_cases c4:(wrap64 (s0_1+1))≤(s0_0.length:Int)
   ·rw[if_pos c4] at H
    have c4b0:decide ((wrap64 (s0_1+1))≤(s0_0.length:Int))=true:=decide_eq_true c4
    clear c4
    simp only[Option.some.injEq,Prod.mk.injEq] at H
    obtain⟨rfl,rfl,rfl⟩:=H
    obtain⟨ASz5_0,cSz5_0,HGz5,hgz5,HSz5_0⟩:=HI0.out
    have hcz5_0:=cellS47_0 HGz5
    have hcz5_1:=cellS47_1 HGz5
    have hcz5_2:=cellS47_2 HGz5
    have hfz5_1:=blk_frozen HGz5 1
    have hfz5_2:=blk_frozen HGz5 2
    clear HGz5 hgz5
    have p101:0≤(s0_1:Int):=of_decide_eq_true (bD)
    have q101:s0_1 < (s0_0.length:Int):=of_decide_eq_true (bD)
    obtain⟨ad101,e101,hx101_0⟩:=Kd.at_int HSz5_0 s0_1 p101 q101
    cases e101
    replace hx101_0:=pw_cell_below HB.out hx101_0
    replace p101:=eq_true p101
    replace q101:=eq_true q101
    go_enter Try.func39,Try.ntmps39
    go_wp2
    repeat (go_quiet (fail);try go_wp2)
    go_ret
    exact⟨bE,b17_,by repeat (first|(with_reducible first|exact HB.out|apply below_alloc|apply pw_below_drewN|apply below_drew1|refine below_set ?_ (IsS47.ge HI0.out))|exact HB.out),b16_⟩
   ·rw[if_neg c4] at H
    have c4b0:decide ((wrap64 (s0_1+1))≤(s0_0.length:Int))=false:=decide_eq_false c4
    clear c4
    simp only[Option.some.injEq,Prod.mk.injEq] at H
    obtain⟨rfl,rfl,rfl⟩:=H
    obtain⟨ASz6_0,cSz6_0,HGz6,hgz6,HSz6_0⟩:=HI0.out
    have hcz6_0:=cellS47_0 HGz6
    have hcz6_1:=cellS47_1 HGz6
    have hcz6_2:=cellS47_2 HGz6
    have hfz6_1:=blk_frozen HGz6 1
    have hfz6_2:=blk_frozen HGz6 2
    clear HGz6 hgz6
    have p101:0≤(s0_1:Int):=of_decide_eq_true (bD)
    have q101:s0_1 < (s0_0.length:Int):=of_decide_eq_true (bD)
    obtain⟨ad101,e101,hx101_0⟩:=Kd.at_int HSz6_0 s0_1 p101 q101
    cases e101
    replace hx101_0:=pw_cell_below HB.out hx101_0
    replace p101:=eq_true p101
    replace q101:=eq_true q101
    go_enter Try.func39,Try.ntmps39
    go_wp2
    repeat (go_quiet (fail);try go_wp2)
    go_ret
    exact⟨bE,b17_,by repeat (first|(with_reducible first|exact HB.out|apply below_alloc|apply pw_below_drewN|apply below_drew1|refine below_set ?_ (IsS47.ge HI0.out))|exact HB.out),b16_⟩
  ·rw[if_neg c3] at H
   exact absurd H (by simp)
 ·rw[if_neg c2] at H
  have c2b0:decide (s0_1 < (s0_0.length:Int))=false:=decide_eq_false c2
  clear c2
  by_cases c7:(wrap64 (s0_1+1))≤(s0_0.length:Int)
  ·rw[if_pos c7] at H
   have c7b0:decide ((wrap64 (s0_1+1))≤(s0_0.length:Int))=true:=decide_eq_true c7
   clear c7
   simp only[Option.some.injEq,Prod.mk.injEq] at H
   obtain⟨rfl,rfl,rfl⟩:=H
   obtain⟨ASz8_0,cSz8_0,HGz8,hgz8,HSz8_0⟩:=HI0.out
   have hcz8_0:=cellS47_0 HGz8
   have hcz8_1:=cellS47_1 HGz8
   have hcz8_2:=cellS47_2 HGz8
   have hfz8_1:=blk_frozen HGz8 1
   have hfz8_2:=blk_frozen HGz8 2
   clear HGz8 hgz8
   go_enter Try.func39,Try.ntmps39
   go_wp2
   repeat (go_quiet (fail);try go_wp2)
   go_ret
   exact⟨bE,b17_,by repeat (first|(with_reducible first|exact HB.out|apply below_alloc|apply pw_below_drewN|apply below_drew1|refine below_set ?_ (IsS47.ge HI0.out))|exact HB.out),b16_⟩
  ·rw[if_neg c7] at H
   have c7b0:decide ((wrap64 (s0_1+1))≤(s0_0.length:Int))=false:=decide_eq_false c7
   clear c7
   simp only[Option.some.injEq,Prod.mk.injEq] at H
   obtain⟨rfl,rfl,rfl⟩:=H
   obtain⟨ASz9_0,cSz9_0,HGz9,hgz9,HSz9_0⟩:=HI0.out
   have hcz9_0:=cellS47_0 HGz9
   have hcz9_1:=cellS47_1 HGz9
   have hcz9_2:=cellS47_2 HGz9
   have hfz9_1:=blk_frozen HGz9 1
   have hfz9_2:=blk_frozen HGz9 2
   clear HGz9 hgz9
   go_enter Try.func39,Try.ntmps39
   go_wp2
   repeat (go_quiet (fail);try go_wp2)
   go_ret
   exact⟨bE,b17_,by repeat (first|(with_reducible first|exact HB.out|apply below_alloc|apply pw_below_drewN|apply below_drew1|refine below_set ?_ (IsS47.ge HI0.out))|exact HB.out),b16_⟩

/-! ### spec_l1Cur_pick: function 22 -/
def spec_l1Cur_pick.f (s0_0:List Int) (s0_1:Int) (s0_2:Int) (a1:Int):Option (Int × Int × Int):=if a1≤1 then (some (0,s0_1,s0_2)) else ((spec_l1Cur_next.f s0_0 s0_1 s0_2).bind fun bt102=>(if a1 > 200 then ((spec_l1Cur_next.f s0_0 bt102.2.1 bt102.2.2).bind fun bt105=>(if a1=0 then (none) else (some (Int.tmod (wrap64 ((wrap64 (bt102.1 * 256))+bt105.1)) a1,bt105.2.1,bt105.2.2)))) else (if a1=0 then (none) else (some (Int.tmod bt102.1 a1,bt102.2.1,bt102.2.2)))))
set_option maxHeartbeats 8000000 in
set_option maxRecDepth 100000 in
theorem spec_l1Cur_pick.calls (g:Nat) (s0_0:List Int) (s0_1:Int) (s0_2:Int) (a1:Int) (r1:Int) (r2:Int) (r3:Int) (w0 w:World) (hI:IsS47 w0 w g s0_0 s0_1 s0_2) (hB:Below w0.heap.size w0 w) (h:spec_l1Cur_pick.f s0_0 s0_1 s0_2 a1=some (r1,r2,r3)) :
  Calls Try.prog 22 #[.pointer (some ⟨g,0,none⟩),.int .i64 a1] w fun e w'=>e=.returned (.int .i64 r1)∧IsS47 w0 w' g s0_0 r2 r3∧Below w0.heap.size w0 w'∧KeepBut w w' g none:=by
 have HI0:=Aside0.mk hI
 have HK:=Aside0.mk (KeepBut.refl w g none)
 have HL:=Aside0.mk hB.size
 clear hI
 have HW0:=Aside0.mk hB.size
 have HB:=Aside0.mk hB
 clear hB
 have H:(if a1≤1 then (some (0,s0_1,s0_2)) else ((spec_l1Cur_next.f s0_0 s0_1 s0_2).bind fun bt102=>(if a1 > 200 then ((spec_l1Cur_next.f s0_0 bt102.2.1 bt102.2.2).bind fun bt105=>(if a1=0 then (none) else (some (Int.tmod (wrap64 ((wrap64 (bt102.1 * 256))+bt105.1)) a1,bt105.2.1,bt105.2.2)))) else (if a1=0 then (none) else (some (Int.tmod bt102.1 a1,bt102.2.1,bt102.2.2))))))=some (r1,r2,r3):=h
 clear h
 by_cases c3:a1≤1
 ·rw[if_pos c3] at H
  have c3b0:decide (a1≤1)=true:=decide_eq_true c3
  clear c3
  simp only[Option.some.injEq,Prod.mk.injEq] at H
  obtain⟨rfl,rfl,rfl⟩:=H
  go_enter Try.func22,Try.ntmps22
  go_wp2
  go_ret
  exact⟨bE,b17_,by repeat (first|(with_reducible first|exact HB.out|apply below_alloc|apply pw_below_drewN|apply below_drew1|refine below_set ?_ (IsS47.ge HI0.out))|exact HB.out),b16_⟩
 ·rw[if_neg c3] at H
  have c3b0:decide (a1≤1)=false:=decide_eq_false c3
  clear c3
  replace H:=Option.bind_eq_some_iff.mp H
  obtain⟨⟨t102,t103,t104⟩,A40,H⟩:=H
  replace H:(if a1 > 200 then ((spec_l1Cur_next.f s0_0 t103 t104).bind fun bt105=>(if a1=0 then (none) else (some (Int.tmod (wrap64 ((wrap64 (t102 * 256))+bt105.1)) a1,bt105.2.1,bt105.2.2)))) else (if a1=0 then (none) else (some (Int.tmod t102 a1,t103,t104))))=some (r1,r2,r3):=H
  have A4:=Aside0.mk A40
  clear A40
  by_cases c5:a1 > 200
  ·rw[if_pos c5] at H
   have c5b0:decide (200 < a1)=true:=decide_eq_true c5
   clear c5
   replace H:=Option.bind_eq_some_iff.mp H
   obtain⟨⟨t105,t106,t107⟩,A60,H⟩:=H
   replace H:(if a1=0 then (none) else (some (Int.tmod (wrap64 ((wrap64 (t102 * 256))+t105)) a1,t106,t107)))=some (r1,r2,r3):=H
   have A6:=Aside0.mk A60
   clear A60
   by_cases c7:a1=0
   ·rw[if_pos c7] at H
    exact absurd H (by simp)
   ·rw[if_neg c7] at H
    have c7b0:(a1 == 0)=false:=beq_eq_false_iff_ne.mpr c7
    have c7b1:(a1 != 0)=true:=bne_iff_ne.mpr c7
    simp only[Option.some.injEq,Prod.mk.injEq] at H
    obtain⟨rfl,rfl,rfl⟩:=H
    go_enter Try.func22,Try.ntmps22
    go_wp2_with (first|((with_reducible refine gate_callee (f:=39) rfl ?_);refine goesA (some 9) rfl rfl Try.func39 #[.pointer (some ⟨g,0,none⟩)] rfl ?_;(with_reducible refine(spec_l1Cur_next.calls g s0_0 s0_1 s0_2 t102 t103 t104 w0 _ ?side1 ?side2 A4.out).mono ?_);(case side1=>exact b11_);(case side2=>exact b10_);rintro e w8 ⟨rfl,hi,hb,hk⟩;refine⟨_,rfl,?_⟩;have n0_:=Aside0.mk (KeepBut.trans (b0_) hk (.inl rfl));have n1_:=Aside0.mk (hb);have n2_:=Aside0.mk (hi);clear HK HB;(try clear HI0);have HK:=n0_;have HB:=n1_;have HI0:=n2_;clear n0_ n1_ n2_;(try clear hb);(try clear hb2);(try clear hk);(try clear hi))|((with_reducible refine gate_callee (f:=39) rfl ?_);refine goesA (some 15) rfl rfl Try.func39 #[.pointer (some ⟨g,0,none⟩)] rfl ?_;(with_reducible refine(spec_l1Cur_next.calls g s0_0 t103 t104 t105 t106 t107 w0 _ ?side1 ?side2 A6.out).mono ?_);(case side1=>exact b11_);(case side2=>exact b10_);rintro e w9 ⟨rfl,hi,hb,hk⟩;refine⟨_,rfl,?_⟩;have n0_:=Aside0.mk (KeepBut.trans (b0_) hk (.inl rfl));have n1_:=Aside0.mk (hb);have n2_:=Aside0.mk (hi);clear HK HB;(try clear HI0);have HK:=n0_;have HB:=n1_;have HI0:=n2_;clear n0_ n1_ n2_;(try clear hb);(try clear hb2);(try clear hk);(try clear hi)))
    go_ret
    exact⟨bE,b17_,by repeat (first|(with_reducible first|exact HB.out|apply below_alloc|apply pw_below_drewN|apply below_drew1|refine below_set ?_ (IsS47.ge HI0.out))|exact HB.out),b16_⟩
  ·rw[if_neg c5] at H
   have c5b0:decide (200 < a1)=false:=decide_eq_false c5
   clear c5
   by_cases c10:a1=0
   ·rw[if_pos c10] at H
    exact absurd H (by simp)
   ·rw[if_neg c10] at H
    have c10b0:(a1 == 0)=false:=beq_eq_false_iff_ne.mpr c10
    have c10b1:(a1 != 0)=true:=bne_iff_ne.mpr c10
    simp only[Option.some.injEq,Prod.mk.injEq] at H
    obtain⟨rfl,rfl,rfl⟩:=H
    go_enter Try.func22,Try.ntmps22
    go_wp2_with (first|((with_reducible refine gate_callee (f:=39) rfl ?_);refine goesA (some 9) rfl rfl Try.func39 #[.pointer (some ⟨g,0,none⟩)] rfl ?_;(with_reducible refine(spec_l1Cur_next.calls g s0_0 s0_1 s0_2 t102 t103 t104 w0 _ ?side1 ?side2 A4.out).mono ?_);(case side1=>exact b11_);(case side2=>exact b10_);rintro e w11 ⟨rfl,hi,hb,hk⟩;refine⟨_,rfl,?_⟩;have n0_:=Aside0.mk (KeepBut.trans (b0_) hk (.inl rfl));have n1_:=Aside0.mk (hb);have n2_:=Aside0.mk (hi);clear HK HB;(try clear HI0);have HK:=n0_;have HB:=n1_;have HI0:=n2_;clear n0_ n1_ n2_;(try clear hb);(try clear hb2);(try clear hk);(try clear hi)))
    go_ret
    exact⟨bE,b17_,by repeat (first|(with_reducible first|exact HB.out|apply below_alloc|apply pw_below_drewN|apply below_drew1|refine below_set ?_ (IsS47.ge HI0.out))|exact HB.out),b16_⟩

/-! ### spec_l1Cur_one: function 37 -/
def spec_l1Cur_one.f (s0_0:List Int) (s0_1:Int) (s0_2:Int) (a1:Int):Option (Bool × Int × Int):=(spec_l1Cur_pick.f s0_0 s0_1 s0_2 a1).bind fun bt108=>(some ((bt108.1 == 0),bt108.2.1,bt108.2.2))
set_option maxHeartbeats 8000000 in
set_option maxRecDepth 100000 in
theorem spec_l1Cur_one.calls (g:Nat) (s0_0:List Int) (s0_1:Int) (s0_2:Int) (a1:Int) (r1:Bool) (r2:Int) (r3:Int) (w0 w:World) (hI:IsS47 w0 w g s0_0 s0_1 s0_2) (hB:Below w0.heap.size w0 w) (h:spec_l1Cur_one.f s0_0 s0_1 s0_2 a1=some (r1,r2,r3)) :
  Calls Try.prog 37 #[.pointer (some ⟨g,0,none⟩),.int .i64 a1] w fun e w'=>e=.returned (.bool r1)∧IsS47 w0 w' g s0_0 r2 r3∧Below w0.heap.size w0 w'∧KeepBut w w' g none:=by
 have HI0:=Aside0.mk hI
 have HK:=Aside0.mk (KeepBut.refl w g none)
 have HL:=Aside0.mk hB.size
 clear hI
 have HW0:=Aside0.mk hB.size
 have HB:=Aside0.mk hB
 clear hB
 have H:((spec_l1Cur_pick.f s0_0 s0_1 s0_2 a1).bind fun bt108=>(some ((bt108.1 == 0),bt108.2.1,bt108.2.2)))=some (r1,r2,r3):=h
 clear h
 replace H:=Option.bind_eq_some_iff.mp H
 obtain⟨⟨t108,t109,t110⟩,A30,H⟩:=H
 replace H:(some ((t108 == 0),t109,t110))=some (r1,r2,r3):=H
 have A3:=Aside0.mk A30
 clear A30
 simp only[Option.some.injEq,Prod.mk.injEq] at H
 obtain⟨rfl,rfl,rfl⟩:=H
 go_enter Try.func37,Try.ntmps37
 go_wp2_with (first|((with_reducible refine gate_callee (f:=22) rfl ?_);refine goesA (some 7) rfl rfl Try.func22 #[.pointer (some ⟨g,0,none⟩),.int .i64 a1] rfl ?_;(with_reducible refine(spec_l1Cur_pick.calls g s0_0 s0_1 s0_2 a1 t108 t109 t110 w0 _ ?side1 ?side2 A3.out).mono ?_);(case side1=>exact b11_);(case side2=>exact b10_);rintro e w4 ⟨rfl,hi,hb,hk⟩;refine⟨_,rfl,?_⟩;have n0_:=Aside0.mk (KeepBut.trans (b0_) hk (.inl rfl));have n1_:=Aside0.mk (hb);have n2_:=Aside0.mk (hi);clear HK HB;(try clear HI0);have HK:=n0_;have HB:=n1_;have HI0:=n2_;clear n0_ n1_ n2_;(try clear hb);(try clear hb2);(try clear hk);(try clear hi)))
 go_ret
 exact⟨bE,b17_,by repeat (first|(with_reducible first|exact HB.out|apply below_alloc|apply pw_below_drewN|apply below_drew1|refine below_set ?_ (IsS47.ge HI0.out))|exact HB.out),b16_⟩

/-! ### spec_l1Cur_among: function 38 -/
def spec_l1Cur_among.f (s0_0:List Int) (s0_1:Int) (s0_2:Int) (l1:List Int):Option (Int × Int × Int):=(spec_l1Cur_pick.f s0_0 s0_1 s0_2 (l1.length:Int)).bind fun bt111=>(if 0≤bt111.1 then (if bt111.1 < (l1.length:Int) then (some (rd l1 bt111.1,bt111.2.1,bt111.2.2)) else (none)) else (none))
set_option maxHeartbeats 8000000 in
set_option maxRecDepth 100000 in
theorem spec_l1Cur_among.calls (g:Nat) (s0_0:List Int) (s0_1:Int) (s0_2:Int) (A1:Option Addr) (c1:Nat) (l1:List Int) (r1:Int) (r2:Int) (r3:Int) (w0 w:World) (hI:IsS47 w0 w g s0_0 s0_1 s0_2) (hB:Below w0.heap.size w0 w) (hr1:Kd.C (Kd.int .i64) w A1 l1.length l1) (hc1:l1.length≤c1) (hf1 : ∀ ad,A1=some ad→0 < l1.length→ad.block≠g) (h:spec_l1Cur_among.f s0_0 s0_1 s0_2 l1=some (r1,r2,r3)) :
  Calls Try.prog 38 #[.pointer (some ⟨g,0,none⟩),.slice A1 l1.length c1] w fun e w'=>e=.returned (.int .i64 r1)∧IsS47 w0 w' g s0_0 r2 r3∧Below w0.heap.size w0 w'∧KeepBut w w' g none:=by
 have HR1:=Aside0.mk hr1
 have HC1:=Aside0.mk hc1
 clear hr1 hc1
 have HI0:=Aside0.mk hI
 have HK:=Aside0.mk (KeepBut.refl w g none)
 have HL:=Aside0.mk hB.size
 clear hI
 have HW0:=Aside0.mk hB.size
 have HB:=Aside0.mk hB
 clear hB
 have H:((spec_l1Cur_pick.f s0_0 s0_1 s0_2 (l1.length:Int)).bind fun bt111=>(if 0≤bt111.1 then (if bt111.1 < (l1.length:Int) then (some (rd l1 bt111.1,bt111.2.1,bt111.2.2)) else (none)) else (none)))=some (r1,r2,r3):=h
 clear h
 replace H:=Option.bind_eq_some_iff.mp H
 obtain⟨⟨t111,t112,t113⟩,A30,H⟩:=H
 replace H:(if 0≤t111 then (if t111 < (l1.length:Int) then (some (rd l1 t111,t112,t113)) else (none)) else (none))=some (r1,r2,r3):=H
 have A3:=Aside0.mk A30
 clear A30
 by_cases c4:0≤t111
 ·rw[if_pos c4] at H
  have c4b0:decide (0≤t111)=true:=decide_eq_true c4
  clear c4
  by_cases c5:t111 < (l1.length:Int)
  ·rw[if_pos c5] at H
   have c5b0:decide (t111 < (l1.length:Int))=true:=decide_eq_true c5
   clear c5
   simp only[Option.some.injEq,Prod.mk.injEq] at H
   obtain⟨rfl,rfl,rfl⟩:=H
   go_enter Try.func38,Try.ntmps38
   go_wp2_with (first|((with_reducible refine gate_callee (f:=22) rfl ?_);refine goesA (some 9) rfl rfl Try.func22 #[.pointer (some ⟨g,0,none⟩),.int .i64 (l1.length:Int)] rfl ?_;(with_reducible refine(spec_l1Cur_pick.calls g s0_0 s0_1 s0_2 (l1.length:Int) t111 t112 t113 w0 _ ?side1 ?side2 A3.out).mono ?_);(case side1=>exact b11_);(case side2=>exact b10_);rintro e w6 ⟨rfl,hi,hb,hk⟩;refine⟨_,rfl,?_⟩;have n0_:=Aside0.mk (KeepBut.trans (b0_) hk (.inl rfl));have n1_:=Aside0.mk (hb);have n2_:=Aside0.mk (hi);clear HK HB;(try clear HI0);have HK:=n0_;have HB:=n1_;have HI0:=n2_;clear n0_ n1_ n2_;(try clear hb);(try clear hb2);(try clear hk);(try clear hi);have p114:0≤(t111:Int):=of_decide_eq_true (bD);have q114:t111 < (l1.length:Int):=of_decide_eq_true (bD);obtain⟨ad114,e114,hx114_0⟩:=Kd.at_int HR1.out t111 p114 q114;cases e114;replace hx114_0:=keep_cell HK.out hx114_0 (by first|(rw[add_block];exact hf1 _ rfl (b9_))|exact hf1 _ rfl (b9_)|exact hf1 ad114 rfl (b9_));replace p114:=eq_true p114;replace q114:=eq_true q114))
   go_ret
   exact⟨bE,b17_,by repeat (first|(with_reducible first|exact HB.out|apply below_alloc|apply pw_below_drewN|apply below_drew1|refine below_set ?_ (IsS47.ge HI0.out))|exact HB.out),b16_⟩
  ·rw[if_neg c5] at H
   exact absurd H (by simp)
 ·rw[if_neg c4] at H
  exact absurd H (by simp)

/-! ### spec_l1Cur_plan: function 21 -/
mutual
def spec_l1Cur_plan.j0:Nat→List (S58)→Int→List Int→Int→Int→Option ((List (S58)) × Int × Int)
 | 0,_,_,_,_,_=>none
 | k+1,x3,x4,x1000,x1001,x1002=>spec_l1Cur_plan.l0 k x3 x4 x1000 x1001 x1002
def spec_l1Cur_plan.l0:Nat→List (S58)→Int→List Int→Int→Int→Option ((List (S58)) × Int × Int)
 | 0,_,_,_,_,_=>none
 | k+1,x3,x4,x1000,x1001,x1002=>if x4 > 0 then ((spec_l1Cur_pick.f x1000 x1001 x1002 5).bind fun bt124=>((spec_l1Cur_pick.f x1000 bt124.2.1 bt124.2.2 5).bind fun bt127=>((spec_l1Cur_pick.f x1000 bt127.2.1 bt127.2.2 40).bind fun bt130=>((spec_l1Cur_pick.f x1000 bt130.2.1 bt130.2.2 6).bind fun bt133=>((spec_l1Cur_pick.f x1000 bt133.2.1 bt133.2.2 30).bind fun bt137=>(if bt124.1=bt127.1 then (if x3.length < 3518437208883 then (spec_l1Cur_plan.l0 k (x3++[(⟨bt124.1,Int.tmod (wrap64 (bt127.1+1)) 5,bt130.1,wrap64 ((wrap64 (bt130.1+1))+bt137.1),bt133.1⟩:S58)]) (wrap64 (x4 - 1)) x1000 bt137.2.1 bt137.2.2) else (none)) else (if x3.length < 3518437208883 then (spec_l1Cur_plan.l0 k (x3++[(⟨bt124.1,bt127.1,bt130.1,wrap64 ((wrap64 (bt130.1+1))+bt137.1),bt133.1⟩:S58)]) (wrap64 (x4 - 1)) x1000 bt137.2.1 bt137.2.2) else (none)))))))) else (if (x3.length:Int) > 0 then ((spec_l1Cur_one.f x1000 x1001 x1002 30).bind fun bt146=>(if bt146.1=true then ((spec_l1Cur_among.f x1000 bt146.2.1 bt146.2.2 (([0,1000,1001]:List Int))).bind fun bt152=>(if 0 < (x3.length:Int) then (some ((x3.set (0:Int).toNat (⟨(rd_T58 x3 0).f0,(rd_T58 x3 0).f1,(rd_T58 x3 0).f2,bt152.1,(rd_T58 x3 0).f4⟩:S58)),bt152.2.1,bt152.2.2)) else (none))) else (some (x3,bt146.2.1,bt146.2.2)))) else (some (x3,x1001,x1002)))
end
def spec_l1Cur_plan.f (k:Nat) (s0_0:List Int) (s0_1:Int) (s0_2:Int):Option ((List (S58)) × Int × Int):=(spec_l1Cur_pick.f s0_0 s0_1 s0_2 10).bind fun bt115=>((spec_l1Cur_one.f s0_0 bt115.2.1 bt115.2.2 20).bind fun bt118=>(if bt118.1=true then ((spec_l1Cur_pick.f s0_0 bt118.2.1 bt118.2.2 2).bind fun bt121=>(spec_l1Cur_plan.j0 k ([]:List (S58)) (wrap64 (20+bt121.1)) s0_0 bt121.2.1 bt121.2.2)) else (spec_l1Cur_plan.j0 k ([]:List (S58)) bt115.1 s0_0 bt118.2.1 bt118.2.2)))
theorem spec_l1Cur_plan.mono_l : ∀ k,(∀ y0 y1 y2 y3 y4,LeO (spec_l1Cur_plan.j0 k y0 y1 y2 y3 y4) (spec_l1Cur_plan.j0 (k+1) y0 y1 y2 y3 y4))∧(∀ y0 y1 y2 y3 y4,LeO (spec_l1Cur_plan.l0 k y0 y1 y2 y3 y4) (spec_l1Cur_plan.l0 (k+1) y0 y1 y2 y3 y4))
 | 0=>⟨fun _ _ _ _ _ r h=>by simp[spec_l1Cur_plan.j0] at h,fun _ _ _ _ _ r h=>by simp[spec_l1Cur_plan.l0] at h⟩
 | k+1=>by
  obtain⟨ih0,ih1⟩:=spec_l1Cur_plan.mono_l k
  refine⟨?_,?_⟩
  ·intro y0 y1 y2 y3 y4
   unfold spec_l1Cur_plan.j0
   repeat' first
   | (with_reducible exact ih0 _ _ _ _ _)
   | (with_reducible exact ih1 _ _ _ _ _)
   | (with_reducible exact LeO.refl _)
   | (with_reducible exact LeO.none _)
   | (with_reducible refine LeO.ite ?_ ?_)
   | (with_reducible refine LeO.bind ?_ (fun _ => ?_))
   | exact ih0 _ _ _ _ _
   | exact ih1 _ _ _ _ _
   | exact LeO.none _
   | refine LeO.ite ?_ ?_
   | refine LeO.bind ?_ (fun _ => ?_)
  ·intro y0 y1 y2 y3 y4
   unfold spec_l1Cur_plan.l0
   repeat' first
   | (with_reducible exact ih0 _ _ _ _ _)
   | (with_reducible exact ih1 _ _ _ _ _)
   | (with_reducible exact LeO.refl _)
   | (with_reducible exact LeO.none _)
   | (with_reducible refine LeO.ite ?_ ?_)
   | (with_reducible refine LeO.bind ?_ (fun _ => ?_))
   | exact ih0 _ _ _ _ _
   | exact ih1 _ _ _ _ _
   | exact LeO.none _
   | refine LeO.ite ?_ ?_
   | refine LeO.bind ?_ (fun _ => ?_)
theorem spec_l1Cur_plan.mono : ∀ a0 a1 a2 k,LeO (spec_l1Cur_plan.f k a0 a1 a2) (spec_l1Cur_plan.f (k+1) a0 a1 a2):=by
 intro a0 a1 a2 k
 obtain⟨ih0,ih1⟩:=spec_l1Cur_plan.mono_l k
 unfold spec_l1Cur_plan.f
 repeat' first
  | (with_reducible exact ih0 _ _ _ _ _)
  | (with_reducible exact ih1 _ _ _ _ _)
  | (with_reducible exact LeO.refl _)
  | (with_reducible exact LeO.none _)
  | (with_reducible refine LeO.ite ?_ ?_)
  | (with_reducible refine LeO.bind ?_ (fun _ => ?_))
  | exact ih0 _ _ _ _ _
  | exact ih1 _ _ _ _ _
  | exact LeO.none _
  | refine LeO.ite ?_ ?_
  | refine LeO.bind ?_ (fun _ => ?_)
def spec_l1Cur_plan.T8:Bool × List (List Nat × List Nat):=(true,[([],[]),([0],[0]),([1],[1]),([],[]),([3],[3]),([2,4],[2,4]),([0,1,2,3,4,5],[]),([6,5,4,0,1,2,3,4,5],[5,6])])
def spec_l1Cur_plan.B8:List Nat:=[0,1,3,0,8,31,63,127]
theorem spec_l1Cur_plan.tab8:rtab .any (opsOf Try.f21 8)=spec_l1Cur_plan.T8:=by kernel_rfl
theorem spec_l1Cur_plan.bits8:waitsOk spec_l1Cur_plan.T8.2 spec_l1Cur_plan.B8=true:=by kernel_rfl
set_option maxHeartbeats 8000000 in
set_option maxRecDepth 100000 in
theorem spec_l1Cur_plan.calls (k:Nat) (g:Nat) (s0_0:List Int) (s0_1:Int) (s0_2:Int) (r1:List (S58)) (r2:Int) (r3:Int) (w0 w:World) (hI:IsS47 w0 w g s0_0 s0_1 s0_2) (hB:Below w0.heap.size w0 w) (h:spec_l1Cur_plan.f k s0_0 s0_1 s0_2=some (r1,r2,r3)) :
  Calls Try.prog 21 #[.pointer (some ⟨g,0,none⟩)] w fun e w' => ∃ v0_:Value,e=.returned (v0_)∧Kd.R k58 58 w' w.heap.size (fun _=>True) v0_ r1∧IsS47 w0 w' g s0_0 r2 r3∧Below w0.heap.size w0 w'∧KeepBut w w' g none:=by
 have hu58:=Try.underlying58
 have HI0:=Aside0.mk hI
 have HK:=Aside0.mk (KeepBut.refl w g none)
 have HL:=Aside0.mk hB.size
 clear hI
 have HW0:=Aside0.mk hB.size
 have HB:=Aside0.mk hB
 clear hB
 have H:((spec_l1Cur_pick.f s0_0 s0_1 s0_2 10).bind fun bt115=>((spec_l1Cur_one.f s0_0 bt115.2.1 bt115.2.2 20).bind fun bt118=>(if bt118.1=true then ((spec_l1Cur_pick.f s0_0 bt118.2.1 bt118.2.2 2).bind fun bt121=>(spec_l1Cur_plan.j0 k ([]:List (S58)) (wrap64 (20+bt121.1)) s0_0 bt121.2.1 bt121.2.2)) else (spec_l1Cur_plan.j0 k ([]:List (S58)) bt115.1 s0_0 bt118.2.1 bt118.2.2))))=some (r1,r2,r3):=h
 clear h
 replace H:=Option.bind_eq_some_iff.mp H
 obtain⟨⟨t115,t116,t117⟩,A20,H⟩:=H
 replace H:((spec_l1Cur_one.f s0_0 t116 t117 20).bind fun bt118=>(if bt118.1=true then ((spec_l1Cur_pick.f s0_0 bt118.2.1 bt118.2.2 2).bind fun bt121=>(spec_l1Cur_plan.j0 k ([]:List (S58)) (wrap64 (20+bt121.1)) s0_0 bt121.2.1 bt121.2.2)) else (spec_l1Cur_plan.j0 k ([]:List (S58)) t115 s0_0 bt118.2.1 bt118.2.2)))=some (r1,r2,r3):=H
 have A2:=Aside0.mk A20
 clear A20
 replace H:=Option.bind_eq_some_iff.mp H
 obtain⟨⟨t118,t119,t120⟩,A30,H⟩:=H
 replace H:(if t118=true then ((spec_l1Cur_pick.f s0_0 t119 t120 2).bind fun bt121=>(spec_l1Cur_plan.j0 k ([]:List (S58)) (wrap64 (20+bt121.1)) s0_0 bt121.2.1 bt121.2.2)) else (spec_l1Cur_plan.j0 k ([]:List (S58)) t115 s0_0 t119 t120))=some (r1,r2,r3):=H
 have A3:=Aside0.mk A30
 clear A30
 have HC4:=Aside0.mk H
 clear H
 go_enter Try.func21,Try.ntmps21
 go_upto_if 9 with (first|((with_reducible refine gate_callee (f:=22) rfl ?_);refine goesA (some 7) rfl rfl Try.func22 #[.pointer (some ⟨g,0,none⟩),.int .i64 10] rfl ?_;(with_reducible refine(spec_l1Cur_pick.calls g s0_0 s0_1 s0_2 10 t115 t116 t117 w0 _ ?side1 ?side2 A2.out).mono ?_);(case side1=>exact b11_);(case side2=>exact b10_);rintro e w5 ⟨rfl,hi,hb,hk⟩;refine⟨_,rfl,?_⟩;have n0_:=Aside0.mk (KeepBut.trans (b0_) hk (.inl rfl));have n1_:=Aside0.mk (hb);have n2_:=Aside0.mk (hi);clear HK HB;(try clear HI0);have HK:=n0_;have HB:=n1_;have HI0:=n2_;clear n0_ n1_ n2_;(try clear hb);(try clear hb2);(try clear hk);(try clear hi))|((with_reducible refine gate_callee (f:=37) rfl ?_);refine goesA (some 9) rfl rfl Try.func37 #[.pointer (some ⟨g,0,none⟩),.int .i64 20] rfl ?_;(with_reducible refine(spec_l1Cur_one.calls g s0_0 t116 t117 20 t118 t119 t120 w0 _ ?side1 ?side2 A3.out).mono ?_);(case side1=>exact b11_);(case side2=>exact b10_);rintro e w6 ⟨rfl,hi,hb,hk⟩;refine⟨_,rfl,?_⟩;have n0_:=Aside0.mk (KeepBut.trans (b0_) hk (.inl rfl));have n1_:=Aside0.mk (hb);have n2_:=Aside0.mk (hi);clear HK HB;(try clear HI0);have HK:=n0_;have HB:=n1_;have HI0:=n2_;clear n0_ n1_ n2_;(try clear hb);(try clear hb2);(try clear hk);(try clear hi)))
 (try simp only[Act.put,List.setIfInBounds_toArray,List.set_cons_zero,List.set_cons_succ])
 go_cut [4] (fun v4 wc => ∃ (kq:Nat) (x4_3:Int) (x1001_3:Int) (x1002_3:Int),v4=.int .i64 x4_3∧Aside0 (spec_l1Cur_plan.j0 kq ([]:List (S58)) x4_3 s0_0 x1001_3 x1002_3=some (r1,r2,r3))∧Aside0 (kq≤k)∧Aside0 (Kd.R k58 58 wc w.heap.size (fun _=>True) (.slice none 0 0) ([]:List (S58)))∧Aside0 (IsS47 w0 wc g s0_0 x1001_3 x1002_3)∧Aside0 (KeepBut w wc g none)∧Aside0 (Below w0.heap.size w0 wc))
 case first =>
  have H:=HC4.out
  clear HC4
  by_cases c7:t118=true
  ·subst c7
   have H1:((spec_l1Cur_pick.f s0_0 t119 t120 2).bind fun bt121=>(spec_l1Cur_plan.j0 k ([]:List (S58)) (wrap64 (20+bt121.1)) s0_0 bt121.2.1 bt121.2.2))=some (r1,r2,r3):=by rw[if_pos rfl] at H;exact H
   clear H
   have H:=H1
   clear H1
   replace H:=Option.bind_eq_some_iff.mp H
   obtain⟨⟨t121,t122,t123⟩,A80,H⟩:=H
   replace H:(spec_l1Cur_plan.j0 k ([]:List (S58)) (wrap64 (20+t121)) s0_0 t122 t123)=some (r1,r2,r3):=H
   have A8:=Aside0.mk A80
   clear A80
   have H':=Aside0.mk H
   clear H
   go_wp2_with (first|((with_reducible refine gate_callee (f:=22) rfl ?_);refine goesA (some 11) rfl rfl Try.func22 #[.pointer (some ⟨g,0,none⟩),.int .i64 2] rfl ?_;(with_reducible refine(spec_l1Cur_pick.calls g s0_0 t119 t120 2 t121 t122 t123 w0 _ ?side1 ?side2 A8.out).mono ?_);(case side1=>exact b11_);(case side2=>exact b10_);rintro e w9 ⟨rfl,hi,hb,hk⟩;refine⟨_,rfl,?_⟩;have n0_:=Aside0.mk (KeepBut.trans (b0_) hk (.inl rfl));have n1_:=Aside0.mk (hb);have n2_:=Aside0.mk (hi);clear HK HB;(try clear HI0);have HK:=n0_;have HB:=n1_;have HI0:=n2_;clear n0_ n1_ n2_;(try clear hb);(try clear hb2);(try clear hk);(try clear hi)))
   go_meet
   case rel=>exact⟨_,(wrap64 (20+t121)),(t122),(t123),(bR),H',⟨by first|omega|exact Nat.le_refl _⟩,⟨by first|exact Kd.R_nil _ _ _ _ _|exact Kd.N_nil _ _ _ _ _|exact Kd.V_nil _ _ _ _ _|exact Kd.Q_nil _ _ _ _ _|exact Kd.S_nil _ _ _ _ _⟩,⟨by repeat (first|(with_reducible first|exact HI0.out|apply IsS47.alloc|apply IsS47.drewN|apply IsS47.drew|apply IsS47.set_1|apply IsS47.set_2)|exact HI0.out)⟩,⟨by repeat (first|(with_reducible first|exact HK.out|apply KeepBut.set_|apply keep_drewN|apply keep_drew|apply keep_alloc)|exact HK.out)⟩,⟨by repeat (first|(with_reducible first|exact HB.out|apply below_alloc|apply pw_below_drewN|apply below_drew1|refine below_set ?_ (IsS47.ge HI0.out))|exact HB.out)⟩⟩
  ·replace c7:=Bool.eq_false_iff.mpr c7
   subst c7
   have H1:(spec_l1Cur_plan.j0 k ([]:List (S58)) t115 s0_0 t119 t120)=some (r1,r2,r3):=by rw[if_neg (show ¬ (false=true) by decide)] at H;exact H
   clear H
   have H:=H1
   clear H1
   have H':=Aside0.mk H
   clear H
   go_wp2
   go_meet
   case rel=>exact⟨_,(t115),(t119),(t120),(bR),H',⟨by first|omega|exact Nat.le_refl _⟩,⟨by first|exact Kd.R_nil _ _ _ _ _|exact Kd.N_nil _ _ _ _ _|exact Kd.V_nil _ _ _ _ _|exact Kd.Q_nil _ _ _ _ _|exact Kd.S_nil _ _ _ _ _⟩,⟨by repeat (first|(with_reducible first|exact HI0.out|apply IsS47.alloc|apply IsS47.drewN|apply IsS47.drew|apply IsS47.set_1|apply IsS47.set_2)|exact HI0.out)⟩,⟨by repeat (first|(with_reducible first|exact HK.out|apply KeepBut.set_|apply keep_drewN|apply keep_drew|apply keep_alloc)|exact HK.out)⟩,⟨by repeat (first|(with_reducible first|exact HB.out|apply below_alloc|apply pw_below_drewN|apply below_drew1|refine below_set ?_ (IsS47.ge HI0.out))|exact HB.out)⟩⟩
 case rest =>
  clear HC4
  try clear c2
  try clear p2
  try clear c3
  try clear p6
  try clear c7
  obtain⟨kq,x4_3,x1001_3,x1002_3,rfl,HA,HJ3,HO_3,HI0,HK,HB⟩:=hcut
  cases kq with
  | zero=>exact absurd HA.out (by simp[spec_l1Cur_plan.j0])
  | succ kj3 =>
   have H:=HA.out
   clear HA
   simp only[spec_l1Cur_plan.j0] at H
   have H':=Aside0.mk H
   clear H
   go_wp2
   go_loopg [3,4] kj3 (fun kq v3 v4 w' => ∃ (x3_2:List (S58)) (x4_2:Int) (x1001_2:Int) (x1002_2:Int),v4=.int .i64 x4_2∧Aside0 (spec_l1Cur_plan.l0 kq x3_2 x4_2 s0_0 x1001_2 x1002_2=some (r1,r2,r3))∧Aside0 (kq≤kj3)∧Aside0 (Kd.R k58 58 w' w.heap.size (fun _=>True) v3 x3_2)∧Aside0 (IsS47 w0 w' g s0_0 x1001_2 x1002_2)∧Aside0 (KeepBut w w' g none)∧Aside0 (Below w0.heap.size w0 w'))
   case atStart=>exact⟨(([]:List (S58))),(x4_3),(x1001_3),(x1002_3),(bR),H',⟨Nat.le_refl _⟩,⟨by(with_reducible repeat (first|apply Kd.R_alloc|apply Kd.R_drewN|apply Kd.R_drew));exact HO_3.out⟩,⟨by repeat (first|(with_reducible first|exact HI0.out|apply IsS47.alloc|apply IsS47.drewN|apply IsS47.drew|apply IsS47.set_1|apply IsS47.set_2)|exact HI0.out)⟩,⟨by repeat (first|(with_reducible first|exact HK.out|apply KeepBut.set_|apply keep_drewN|apply keep_drew|apply keep_alloc)|exact HK.out)⟩,⟨by repeat (first|(with_reducible first|exact HB.out|apply below_alloc|apply pw_below_drewN|apply below_drew1|refine below_set ?_ (IsS47.ge HI0.out))|exact HB.out)⟩⟩
   case round =>
    clear H'
    try clear c2
    try clear p2
    try clear c3
    try clear p6
    try clear c7
    try clear p2
    try clear p6
    obtain⟨x3_2,x4_2,x1001_2,x1002_2,rfl,HA,HK2,HO_3,HI0,HK,HB⟩:=hrel
    cases gk with
    | zero=>exact absurd HA.out (by simp[spec_l1Cur_plan.l0])
    | succ k2 =>
     have H:=HA.out
     clear HA
     simp only[spec_l1Cur_plan.l0] at H
     by_cases c10:x4_2 > 0
     ·rw[if_pos c10] at H
      have c10b0:decide (0 < x4_2)=true:=decide_eq_true c10
      clear c10
      replace H:=Option.bind_eq_some_iff.mp H
      obtain⟨⟨t124,t125,t126⟩,A110,H⟩:=H
      replace H:((spec_l1Cur_pick.f s0_0 t125 t126 5).bind fun bt127=>((spec_l1Cur_pick.f s0_0 bt127.2.1 bt127.2.2 40).bind fun bt130=>((spec_l1Cur_pick.f s0_0 bt130.2.1 bt130.2.2 6).bind fun bt133=>((spec_l1Cur_pick.f s0_0 bt133.2.1 bt133.2.2 30).bind fun bt137=>(if t124=bt127.1 then (if x3_2.length < 3518437208883 then (spec_l1Cur_plan.l0 k2 (x3_2++[(⟨t124,Int.tmod (wrap64 (bt127.1+1)) 5,bt130.1,wrap64 ((wrap64 (bt130.1+1))+bt137.1),bt133.1⟩:S58)]) (wrap64 (x4_2 - 1)) s0_0 bt137.2.1 bt137.2.2) else (none)) else (if x3_2.length < 3518437208883 then (spec_l1Cur_plan.l0 k2 (x3_2++[(⟨t124,bt127.1,bt130.1,wrap64 ((wrap64 (bt130.1+1))+bt137.1),bt133.1⟩:S58)]) (wrap64 (x4_2 - 1)) s0_0 bt137.2.1 bt137.2.2) else (none)))))))=some (r1,r2,r3):=H
      have A11:=Aside0.mk A110
      clear A110
      replace H:=Option.bind_eq_some_iff.mp H
      obtain⟨⟨t127,t128,t129⟩,A120,H⟩:=H
      replace H:((spec_l1Cur_pick.f s0_0 t128 t129 40).bind fun bt130=>((spec_l1Cur_pick.f s0_0 bt130.2.1 bt130.2.2 6).bind fun bt133=>((spec_l1Cur_pick.f s0_0 bt133.2.1 bt133.2.2 30).bind fun bt137=>(if t124=t127 then (if x3_2.length < 3518437208883 then (spec_l1Cur_plan.l0 k2 (x3_2++[(⟨t124,Int.tmod (wrap64 (t127+1)) 5,bt130.1,wrap64 ((wrap64 (bt130.1+1))+bt137.1),bt133.1⟩:S58)]) (wrap64 (x4_2 - 1)) s0_0 bt137.2.1 bt137.2.2) else (none)) else (if x3_2.length < 3518437208883 then (spec_l1Cur_plan.l0 k2 (x3_2++[(⟨t124,t127,bt130.1,wrap64 ((wrap64 (bt130.1+1))+bt137.1),bt133.1⟩:S58)]) (wrap64 (x4_2 - 1)) s0_0 bt137.2.1 bt137.2.2) else (none))))))=some (r1,r2,r3):=H
      have A12:=Aside0.mk A120
      clear A120
      replace H:=Option.bind_eq_some_iff.mp H
      obtain⟨⟨t130,t131,t132⟩,A130,H⟩:=H
      replace H:((spec_l1Cur_pick.f s0_0 t131 t132 6).bind fun bt133=>((spec_l1Cur_pick.f s0_0 bt133.2.1 bt133.2.2 30).bind fun bt137=>(if t124=t127 then (if x3_2.length < 3518437208883 then (spec_l1Cur_plan.l0 k2 (x3_2++[(⟨t124,Int.tmod (wrap64 (t127+1)) 5,t130,wrap64 ((wrap64 (t130+1))+bt137.1),bt133.1⟩:S58)]) (wrap64 (x4_2 - 1)) s0_0 bt137.2.1 bt137.2.2) else (none)) else (if x3_2.length < 3518437208883 then (spec_l1Cur_plan.l0 k2 (x3_2++[(⟨t124,t127,t130,wrap64 ((wrap64 (t130+1))+bt137.1),bt133.1⟩:S58)]) (wrap64 (x4_2 - 1)) s0_0 bt137.2.1 bt137.2.2) else (none)))))=some (r1,r2,r3):=H
      have A13:=Aside0.mk A130
      clear A130
      replace H:=Option.bind_eq_some_iff.mp H
      obtain⟨⟨t133,t134,t135⟩,A140,H⟩:=H
      replace H:((spec_l1Cur_pick.f s0_0 t134 t135 30).bind fun bt137=>(if t124=t127 then (if x3_2.length < 3518437208883 then (spec_l1Cur_plan.l0 k2 (x3_2++[(⟨t124,Int.tmod (wrap64 (t127+1)) 5,t130,wrap64 ((wrap64 (t130+1))+bt137.1),t133⟩:S58)]) (wrap64 (x4_2 - 1)) s0_0 bt137.2.1 bt137.2.2) else (none)) else (if x3_2.length < 3518437208883 then (spec_l1Cur_plan.l0 k2 (x3_2++[(⟨t124,t127,t130,wrap64 ((wrap64 (t130+1))+bt137.1),t133⟩:S58)]) (wrap64 (x4_2 - 1)) s0_0 bt137.2.1 bt137.2.2) else (none))))=some (r1,r2,r3):=H
      have A14:=Aside0.mk A140
      clear A140
      replace H:=Option.bind_eq_some_iff.mp H
      obtain⟨⟨t137,t138,t139⟩,A150,H⟩:=H
      replace H:(if t124=t127 then (if x3_2.length < 3518437208883 then (spec_l1Cur_plan.l0 k2 (x3_2++[(⟨t124,Int.tmod (wrap64 (t127+1)) 5,t130,wrap64 ((wrap64 (t130+1))+t137),t133⟩:S58)]) (wrap64 (x4_2 - 1)) s0_0 t138 t139) else (none)) else (if x3_2.length < 3518437208883 then (spec_l1Cur_plan.l0 k2 (x3_2++[(⟨t124,t127,t130,wrap64 ((wrap64 (t130+1))+t137),t133⟩:S58)]) (wrap64 (x4_2 - 1)) s0_0 t138 t139) else (none)))=some (r1,r2,r3):=H
      have A15:=Aside0.mk A150
      clear A150
      by_cases c16:t124=t127
      ·rw[if_pos c16] at H
       have c16b0:(t124 == t127)=true:=beq_iff_eq.mpr c16
       have c16b1:(t124 != t127)=false:=bne_eq_false_iff_eq.mpr c16
       clear c16
       by_cases c17:x3_2.length < 3518437208883
       ·rw[if_pos c17] at H
        have LMc17:=Aside0.mk c17
        clear c17
        obtain⟨y140,hy140⟩ : ∃ y_:List (S58),y_=(x3_2++[(⟨t124,Int.tmod (wrap64 (t127+1)) 5,t130,wrap64 ((wrap64 (t130+1))+t137),t133⟩:S58)]):=⟨_,rfl⟩
        replace H:(spec_l1Cur_plan.l0 k2 y140 (wrap64 (x4_2 - 1)) s0_0 t138 t139)=some (r1,r2,r3):=by first|(rw[hy140];with_reducible exact H)|(have H2_:=(Option.bind_some _ _).symm.trans H;rw[hy140];with_reducible exact H2_)|(have H2_:=(Option.bind_some _ _).symm.trans H;with_reducible exact H2_)|with_reducible exact H|(rw[hy140];exact H)|exact H
        have Ny140:=Aside0.mk hy140
        clear hy140
        have H':=Aside0.mk H
        clear H
        try go_wp2_with (first|((with_reducible refine gate_callee (f:=22) rfl ?_);refine goesA (some 18) rfl rfl Try.func22 #[.pointer (some ⟨g,0,none⟩),.int .i64 5] rfl ?_;(with_reducible refine(spec_l1Cur_pick.calls g s0_0 x1001_2 x1002_2 5 t124 t125 t126 w0 _ ?side1 ?side2 A11.out).mono ?_);(case side1=>exact b11_);(case side2=>exact b10_);rintro e w18 ⟨rfl,hi,hb,hk⟩;refine⟨_,rfl,?_⟩;have n0_:=Aside0.mk (Kd.R_mono (Kd.R_keep (IsS47.apart (show IsS47 w0 _ g s0_0 x1001_2 x1002_2 from by repeat (first|(with_reducible first|exact HI0.out|apply IsS47.alloc|apply IsS47.drewN|apply IsS47.drew|apply IsS47.set_1|apply IsS47.set_2)|exact HI0.out)) (bK HO_3.out) (b7_)) hk (fun _ h=>h.2)) (fun _ h=>h.1));have n1_:=Aside0.mk (KeepBut.trans (b0_) hk (.inl rfl));have n2_:=Aside0.mk (hb);have n3_:=Aside0.mk (hi);clear HO_3 HK HB;(try clear HI0);have HO_3:=n0_;have HK:=n1_;have HB:=n2_;have HI0:=n3_;clear n0_ n1_ n2_ n3_;(try clear hb);(try clear hb2);(try clear hk);(try clear hi))|((with_reducible refine gate_callee (f:=22) rfl ?_);refine goesA (some 20) rfl rfl Try.func22 #[.pointer (some ⟨g,0,none⟩),.int .i64 5] rfl ?_;(with_reducible refine(spec_l1Cur_pick.calls g s0_0 t125 t126 5 t127 t128 t129 w0 _ ?side1 ?side2 A12.out).mono ?_);(case side1=>exact b11_);(case side2=>exact b10_);rintro e w19 ⟨rfl,hi,hb,hk⟩;refine⟨_,rfl,?_⟩;have n0_:=Aside0.mk (Kd.R_mono (Kd.R_keep (IsS47.apart (show IsS47 w0 _ g s0_0 t125 t126 from by repeat (first|(with_reducible first|exact HI0.out|apply IsS47.alloc|apply IsS47.drewN|apply IsS47.drew|apply IsS47.set_1|apply IsS47.set_2)|exact HI0.out)) (bK HO_3.out) (b7_)) hk (fun _ h=>h.2)) (fun _ h=>h.1));have n1_:=Aside0.mk (KeepBut.trans (b0_) hk (.inl rfl));have n2_:=Aside0.mk (hb);have n3_:=Aside0.mk (hi);clear HO_3 HK HB;(try clear HI0);have HO_3:=n0_;have HK:=n1_;have HB:=n2_;have HI0:=n3_;clear n0_ n1_ n2_ n3_;(try clear hb);(try clear hb2);(try clear hk);(try clear hi))|((with_reducible refine gate_callee (f:=22) rfl ?_);refine goesA (some 22) rfl rfl Try.func22 #[.pointer (some ⟨g,0,none⟩),.int .i64 40] rfl ?_;(with_reducible refine(spec_l1Cur_pick.calls g s0_0 t128 t129 40 t130 t131 t132 w0 _ ?side1 ?side2 A13.out).mono ?_);(case side1=>exact b11_);(case side2=>exact b10_);rintro e w20 ⟨rfl,hi,hb,hk⟩;refine⟨_,rfl,?_⟩;have n0_:=Aside0.mk (Kd.R_mono (Kd.R_keep (IsS47.apart (show IsS47 w0 _ g s0_0 t128 t129 from by repeat (first|(with_reducible first|exact HI0.out|apply IsS47.alloc|apply IsS47.drewN|apply IsS47.drew|apply IsS47.set_1|apply IsS47.set_2)|exact HI0.out)) (bK HO_3.out) (b7_)) hk (fun _ h=>h.2)) (fun _ h=>h.1));have n1_:=Aside0.mk (KeepBut.trans (b0_) hk (.inl rfl));have n2_:=Aside0.mk (hb);have n3_:=Aside0.mk (hi);clear HO_3 HK HB;(try clear HI0);have HO_3:=n0_;have HK:=n1_;have HB:=n2_;have HI0:=n3_;clear n0_ n1_ n2_ n3_;(try clear hb);(try clear hb2);(try clear hk);(try clear hi))|((with_reducible refine gate_callee (f:=22) rfl ?_);refine goesA (some 24) rfl rfl Try.func22 #[.pointer (some ⟨g,0,none⟩),.int .i64 6] rfl ?_;(with_reducible refine(spec_l1Cur_pick.calls g s0_0 t131 t132 6 t133 t134 t135 w0 _ ?side1 ?side2 A14.out).mono ?_);(case side1=>exact b11_);(case side2=>exact b10_);rintro e w21 ⟨rfl,hi,hb,hk⟩;refine⟨_,rfl,?_⟩;have n0_:=Aside0.mk (Kd.R_mono (Kd.R_keep (IsS47.apart (show IsS47 w0 _ g s0_0 t131 t132 from by repeat (first|(with_reducible first|exact HI0.out|apply IsS47.alloc|apply IsS47.drewN|apply IsS47.drew|apply IsS47.set_1|apply IsS47.set_2)|exact HI0.out)) (bK HO_3.out) (b7_)) hk (fun _ h=>h.2)) (fun _ h=>h.1));have n1_:=Aside0.mk (KeepBut.trans (b0_) hk (.inl rfl));have n2_:=Aside0.mk (hb);have n3_:=Aside0.mk (hi);clear HO_3 HK HB;(try clear HI0);have HO_3:=n0_;have HK:=n1_;have HB:=n2_;have HI0:=n3_;clear n0_ n1_ n2_ n3_;(try clear hb);(try clear hb2);(try clear hk);(try clear hi))|((with_reducible refine gate_dst (N:=5) rfl ?_);refine box_event ?hg (N:=5) ?hd (cs:=#[.int .i64 0,.int .i64 0,.int .i64 0,.int .i64 0,.int .i64 0]) (t:=58) ?hr ?_;(case hd=>rfl);(case hg=>rfl);(case hr=>first|(go_simp;done)|(go_simp;rfl));intro gb136 hg w22 hbox hb;have n0_:=Aside0.mk (Kd.R_below (Kd.R_elderB (bK HO_3.out) gb136 (Nat.le_of_eq hg.symm)) hb);have n1_:=Aside0.mk (IsS47.below (b6_) hb);have n2_:=Aside0.mk (KeepBut.trans (b0_) (KeepBut.of_below hb g none) (.inl rfl));have n3_:=Aside0.mk (below_step (b8_) hb);have n4_:=Aside0.mk (hbox);have n5_:=Aside0.mk ((by rw[hg];exact(keep_size (w:=w) (g:=g) (row:=none) (b0_)):w.heap.size≤gb136));have n6_:=Aside0.mk ((Nat.le_trans HW0.out (by rw[hg];exact(keep_size (w:=w) (g:=g) (row:=none) (b0_)):w.heap.size≤gb136):w0.heap.size≤gb136));have n7_:=Aside0.mk ((by rw[hg];exact Nat.ne_of_lt (IsS47.lt (show IsS47 w0 _ g s0_0 t134 t135 from by repeat (first|(with_reducible first|exact HI0.out|apply IsS47.alloc|apply IsS47.drewN|apply IsS47.drew|apply IsS47.set_1|apply IsS47.set_2)|exact HI0.out))):g≠gb136));have n8_:=Aside0.mk ((by rw[hg];exact Nat.ne_of_gt (IsS47.lt (show IsS47 w0 _ g s0_0 t134 t135 from by repeat (first|(with_reducible first|exact HI0.out|apply IsS47.alloc|apply IsS47.drewN|apply IsS47.drew|apply IsS47.set_1|apply IsS47.set_2)|exact HI0.out))):gb136≠g));clear HO_3;(try clear HI0);clear HK HB;have HO_3:=n0_;have HI0:=n1_;have HK:=n2_;have HB:=n3_;have BK136:=n4_;have GW136:=n5_;have GE136:=n6_;have NB0_136:=n7_;have NB136_0:=n8_;clear n0_ n1_ n2_ n3_ n4_ n5_ n6_ n7_ n8_;clear hb hbox hg;have hnb23:=NB136_0.out;have hnc23:=NB0_136.out;obtain⟨hcz24_0,hcz24_1,hcz24_2,hcz24_3,hcz24_4⟩:=cC5 BK136.out;obtain⟨hfz24_0,hfz24_1,hfz24_2,hfz24_3,hfz24_4⟩:=cF5 BK136.out))
        have n0_:Aside0 (Kd.R k58 58 (((((w22.setCell ⟨gb136,0,none⟩ (.int .i64 t124)).setCell ⟨gb136,1,none⟩ (.int .i64 t127)).setCell ⟨gb136,2,none⟩ (.int .i64 t130)).setCell ⟨gb136,3,none⟩ (.int .i64 0)).setCell ⟨gb136,4,none⟩ (.int .i64 t133)) w.heap.size (fun k_=>k_≠gb136) u3 x3_2):=⟨by(with_reducible repeat (first|apply Kd.R_alloc|apply Kd.R_drewN|apply Kd.R_drew));exact Kd.R_mono (Kd.R_far (p:=⟨gb136,4,none⟩) (Kd.R_far (p:=⟨gb136,3,none⟩) (Kd.R_far (p:=⟨gb136,2,none⟩) (Kd.R_far (p:=⟨gb136,1,none⟩) (Kd.R_far (p:=⟨gb136,0,none⟩) (Kd.R_mono HO_3.out (fun k_ hk=>(⟨hk,hk.2⟩:_∧k_≠gb136))) (fun _ hk=>hk.2) (.int .i64 t124)) (fun _ hk=>hk.2) (.int .i64 t127)) (fun _ hk=>hk.2) (.int .i64 t130)) (fun _ hk=>hk.2) (.int .i64 0)) (fun _ hk=>hk.2) (.int .i64 t133)) (fun _ hk=>hk.1.2)⟩
        have n1_:Aside0 ((((((w22.setCell ⟨gb136,0,none⟩ (.int .i64 t124)).setCell ⟨gb136,1,none⟩ (.int .i64 t127)).setCell ⟨gb136,2,none⟩ (.int .i64 t130)).setCell ⟨gb136,3,none⟩ (.int .i64 0)).setCell ⟨gb136,4,none⟩ (.int .i64 t133)).heap[gb136]?=some (.cells #[.int .i64 t124,.int .i64 t127,.int .i64 t130,.int .i64 0,.int .i64 t133] 58 (0,0))):=⟨by(with_reducible repeat (first|refine blk_drewN ?_ _|refine blk_drew ?_|refine blk_alloc ?_ _));refine blk_put (cs:=#[.int .i64 t124,.int .i64 t127,.int .i64 t130,.int .i64 0,.int .i64 0]) ?_ 4 _ rfl;(with_reducible repeat (first|refine blk_drewN ?_ _|refine blk_drew ?_|refine blk_alloc ?_ _));refine blk_put (cs:=#[.int .i64 t124,.int .i64 t127,.int .i64 t130,.int .i64 0,.int .i64 0]) ?_ 3 _ rfl;(with_reducible repeat (first|refine blk_drewN ?_ _|refine blk_drew ?_|refine blk_alloc ?_ _));refine blk_put (cs:=#[.int .i64 t124,.int .i64 t127,.int .i64 0,.int .i64 0,.int .i64 0]) ?_ 2 _ rfl;(with_reducible repeat (first|refine blk_drewN ?_ _|refine blk_drew ?_|refine blk_alloc ?_ _));refine blk_put (cs:=#[.int .i64 t124,.int .i64 0,.int .i64 0,.int .i64 0,.int .i64 0]) ?_ 1 _ rfl;(with_reducible repeat (first|refine blk_drewN ?_ _|refine blk_drew ?_|refine blk_alloc ?_ _));refine blk_put (cs:=#[.int .i64 0,.int .i64 0,.int .i64 0,.int .i64 0,.int .i64 0]) ?_ 0 _ rfl;(with_reducible repeat (first|refine blk_drewN ?_ _|refine blk_drew ?_|refine blk_alloc ?_ _));exact BK136.out⟩
        have n2_:Aside0 (IsS47 w0 (((((w22.setCell ⟨gb136,0,none⟩ (.int .i64 t124)).setCell ⟨gb136,1,none⟩ (.int .i64 t127)).setCell ⟨gb136,2,none⟩ (.int .i64 t130)).setCell ⟨gb136,3,none⟩ (.int .i64 0)).setCell ⟨gb136,4,none⟩ (.int .i64 t133)) g s0_0 t134 t135):=⟨by repeat (first|(with_reducible first|exact HI0.out|apply IsS47.alloc|apply IsS47.drewN|apply IsS47.drew|apply IsS47.set_1|apply IsS47.set_2|apply IsS47.far (hne:=NB0_136.out))|exact HI0.out)⟩
        have n3_:Aside0 (KeepBut w (((((w22.setCell ⟨gb136,0,none⟩ (.int .i64 t124)).setCell ⟨gb136,1,none⟩ (.int .i64 t127)).setCell ⟨gb136,2,none⟩ (.int .i64 t130)).setCell ⟨gb136,3,none⟩ (.int .i64 0)).setCell ⟨gb136,4,none⟩ (.int .i64 t133)) g none):=⟨by repeat (first|(with_reducible first|exact HK.out|apply KeepBut.set_|apply keep_drewN|apply keep_drew|apply keep_alloc|refine keep_far ?_ GW136.out _)|exact HK.out)⟩
        have n4_:Aside0 (Below w0.heap.size w0 (((((w22.setCell ⟨gb136,0,none⟩ (.int .i64 t124)).setCell ⟨gb136,1,none⟩ (.int .i64 t127)).setCell ⟨gb136,2,none⟩ (.int .i64 t130)).setCell ⟨gb136,3,none⟩ (.int .i64 0)).setCell ⟨gb136,4,none⟩ (.int .i64 t133))):=⟨by repeat (first|(with_reducible first|exact HB.out|apply below_alloc|apply pw_below_drewN|apply below_drew1|refine below_set ?_ (IsS47.ge HI0.out)|refine below_set ?_ GE136.out)|exact HB.out)⟩
        (try clear HO_3)
        (try clear BK136)
        (try clear HI0)
        (try clear HK)
        (try clear HB)
        generalize (((((w22.setCell ⟨gb136,0,none⟩ (.int .i64 t124)).setCell ⟨gb136,1,none⟩ (.int .i64 t127)).setCell ⟨gb136,2,none⟩ (.int .i64 t130)).setCell ⟨gb136,3,none⟩ (.int .i64 0)).setCell ⟨gb136,4,none⟩ (.int .i64 t133))=w25 at n0_ n1_ n2_ n3_ n4_ ⊢
        have HO_3:=n0_
        have BK136:=n1_
        have HI0:=n2_
        have HK:=n3_
        have HB:=n4_
        clear n0_ n1_ n2_ n3_ n4_
        (try (rw[drewN_self w25];generalize hq_:World.drewN w25 _=w25;have n0_:=Aside0.mk (Kd.R_at hq_ HO_3.out);have n1_:=Aside0.mk (blk_at hq_ BK136.out);have n2_:=Aside0.mk (IsS47.at_ hq_ HI0.out);have n3_:=Aside0.mk (keep_at hq_ HK.out);have n4_:=Aside0.mk (below_at hq_ HB.out);clear hq_ HO_3 BK136 HI0 HK HB;have HO_3:=n0_;have BK136:=n1_;have HI0:=n2_;have HK:=n3_;have HB:=n4_;clear n0_ n1_ n2_ n3_ n4_))
        have n0_:=Aside0.mk (Kd.R_drew HO_3.out)
        have n1_:=Aside0.mk (blk_drew BK136.out)
        have n2_:=Aside0.mk (IsS47.drew HI0.out)
        have n3_:=Aside0.mk (keep_drew HK.out)
        have n4_:=Aside0.mk (below_drew1 HB.out)
        clear HO_3 BK136 HI0 HK HB
        have HO_3:=n0_
        have BK136:=n1_
        have HI0:=n2_
        have HK:=n3_
        have HB:=n4_
        clear n0_ n1_ n2_ n3_ n4_
        refine start_ (n:=8) (S:=fun w'=>w'.cell? ⟨gb136,0,none⟩=some (.int .i64 t124)∧w'.cell? ⟨gb136,1,none⟩=some (.int .i64 t127)∧w'.cell? ⟨gb136,2,none⟩=some (.int .i64 t130)∧w'.cell? ⟨gb136,3,none⟩=some (.int .i64 0)∧w'.cell? ⟨gb136,4,none⟩=some (.int .i64 t133)) (ds:=[7]) #[false,false,false,false,false,false,false,false] (b1_) rfl rfl (cC5 BK136.out) (fun hHeld => ?_);refine with_tabW spec_l1Cur_plan.tab8 spec_l1Cur_plan.bits8 (fun HT_ HW_ => ?_)
        generalize w25.drew=w26 at HO_3 BK136 HI0 HK HB hHeld ⊢
        refine pure_ (i:=0) (N:=some 26) (v:=?_) (a':=?_) #[true,false,false,false,false,false,false,false] rfl rfl (any_of HT_.out (b1_)) (fun _ _ _ h=>h) (Or.inl ⟨by rfl,?_⟩) ?_ ?_
        rotate_left
        ·intro w'
         go_simp
         with_reducible rfl
        rotate_left
        ·simp only[Act.put,List.setIfInBounds_toArray,List.set_cons_zero,List.set_cons_succ,i64_w,i32_w]
         rfl
        refine pure_ (i:=3) (N:=some 29) (v:=?_) (a':=?_) #[true,false,false,true,false,false,false,false] rfl rfl (any_of HT_.out (b1_)) (fun _ _ _ h=>h) (Or.inl ⟨by rfl,?_⟩) ?_ ?_
        rotate_left
        ·intro w'
         go_simp
         with_reducible rfl
        rotate_left
        ·simp only[Act.put,List.setIfInBounds_toArray,List.set_cons_zero,List.set_cons_succ,i64_w,i32_w]
         rfl
        refine take_ (i:=1) (N:=some 27) (v:=?_) (a':=?_) #[true,true,false,true,false,false,false,false] rfl rfl (take_ofW HT_.out HW_.out (b1_)) (fun _ _ _ h=>h) (Or.inl ⟨by rfl,?_⟩) hHeld ?_ ?_
        rotate_left
        ·rintro w' ⟨s0,s1,s2,s3,s4⟩
         go_simp
         with_reducible rfl
        rotate_left
        ·simp only[Act.put,List.setIfInBounds_toArray,List.set_cons_zero,List.set_cons_succ,i64_w,i32_w]
         rfl
        refine pure_ (i:=2) (N:=some 28) (v:=?_) (a':=?_) #[true,true,true,true,false,false,false,false] rfl rfl (any_of HT_.out (b1_)) (fun _ _ _ h=>h) (Or.inl ⟨by rfl,?_⟩) ?_ ?_
        rotate_left
        ·intro w'
         go_simp
         with_reducible rfl
        rotate_left
        ·simp only[Act.put,List.setIfInBounds_toArray,List.set_cons_zero,List.set_cons_succ,i64_w,i32_w]
         rfl
        refine one_ (i:=4) (N:=some 30) #[true,true,true,true,true,false,false,false] rfl rfl (one_of HT_.out (b1_)) (b7_) (fun K hK => ?_)
        refine goes_ Try.func22 (b1_) rfl #[.pointer (some ⟨g,0,none⟩),.int .i64 30] (by rfl) rfl rfl (b2_) ?_
        with_reducible refine(spec_l1Cur_pick.calls g s0_0 t134 t135 30 t137 t138 t139 w0 _ ?side1 ?side2 A15.out).mono ?_
        (case side1=>repeat (first|(with_reducible first|exact HI0.out|apply IsS47.alloc|apply IsS47.drewN|apply IsS47.drew|apply IsS47.set_1|apply IsS47.set_2|apply IsS47.far (hne:=NB0_136.out))|exact HI0.out))
        (case side2=>repeat (first|(with_reducible first|exact HB.out|apply below_alloc|apply pw_below_drewN|apply below_drew1|refine below_set ?_ (IsS47.ge HI0.out)|refine below_set ?_ GE136.out)|exact HB.out))
        rintro e w27 ⟨rfl,hi,hb,hk⟩
        refine⟨_,rfl,?_⟩
        have n0_:=Aside0.mk (Kd.R_mono (Kd.R_keep (IsS47.apart (show IsS47 w0 _ g s0_0 t134 t135 from by repeat (first|(with_reducible first|exact HI0.out|apply IsS47.alloc|apply IsS47.drewN|apply IsS47.drew|apply IsS47.set_1|apply IsS47.set_2|apply IsS47.far (hne:=NB0_136.out))|exact HI0.out)) (bK HO_3.out) (b7_)) hk (fun _ h=>h.2)) (fun _ h=>h.1))
        have n1_:=Aside0.mk (KeepBut.blk hk (g':=gb136) (o:=.cells #[.int .i64 t124,.int .i64 t127,.int .i64 t130,.int .i64 0,.int .i64 t133] 58 (0,0)) (bL BK136.out) NB136_0.out (by simp))
        have n2_:=Aside0.mk (KeepBut.trans (b4_) hk (.inl rfl))
        have n3_:=Aside0.mk (hb)
        have n4_:=Aside0.mk (hi)
        clear HO_3 BK136 HK HB HI0
        have HO_3:=n0_
        have BK136:=n1_
        have HK:=n2_
        have HB:=n3_
        have HI0:=n4_
        clear n0_ n1_ n2_ n3_ n4_
        (try clear hb)
        (try clear hb2)
        (try clear hk)
        (try clear hi)
        refine hK.out _ _ (cC5 BK136.out) (fun hHeld => ?_)
        clear hK K
        refine norm_ (a':=?_) ?_ ?_
        rotate_left
        ·show Act.put _ (some 30) _=_
         simp only[Act.put,List.setIfInBounds_toArray,List.set_cons_zero,List.set_cons_succ,i64_w,i32_w]
         rfl
        refine pure_ (i:=5) (N:=some 31) (v:=?_) (a':=?_) #[true,true,true,true,true,true,false,false] rfl rfl (any_of HT_.out (b1_)) (fun _ _ _ h=>h) (Or.inl ⟨by rfl,?_⟩) ?_ ?_
        rotate_left
        ·intro w'
         go_simp
         with_reducible rfl
        rotate_left
        ·simp only[Act.put,List.setIfInBounds_toArray,List.set_cons_zero,List.set_cons_succ,i64_w,i32_w]
         rfl
        refine pure_ (i:=6) (N:=some 32) (v:=?_) (a':=?_) #[true,true,true,true,true,true,true,false] rfl rfl (any_of HT_.out (b1_)) (fun _ _ _ h=>h) (Or.inl ⟨by rfl,?_⟩) ?_ ?_
        rotate_left
        ·intro w'
         go_simp
         with_reducible rfl
        rotate_left
        ·simp only[Act.put,List.setIfInBounds_toArray,List.set_cons_zero,List.set_cons_succ,i64_w,i32_w]
         rfl
        refine last_ (i:=7) (N:=none) #[true,true,true,true,true,true,true,true] rfl rfl (one_of HT_.out (b1_)) (b7_) (fun K hK => ?_)
        have hs28:w27.cell? ⟨gb136,3,none⟩=some (.int .i64 0):=(blk_cell BK136.out 3).trans rfl
        have hfs28:=blk_frozen BK136.out 3
        refine skip_ (w1:=?_) (by rfl) rfl ?_ ?_
        rotate_left
        ·go_simp
         rfl
        refine hK.out _ _ ?_
        clear hK K
        refine done_ (done_of HT_.out (b1_)) ?_
        obtain⟨hcz29_0,hcz29_1,hcz29_2,hcz29_3,hcz29_4⟩:=cC5 BK136.out
        obtain⟨hfz29_0,hfz29_1,hfz29_2,hfz29_3,hfz29_4⟩:=cF5 BK136.out
        try go_wp2_with (first|((with_reducible refine gate_builtin (b:=.append) (xs:=#[.tmp 43,.tmp 45]) rfl ?_);at_builtin;refine Kd.R_append k58 w.heap.size rfl (.tmp 43) (.tmp 45) 31 58 (.agg #[(.int .i64 0),(.int .i64 0),(.int .i64 0),(.int .i64 0),(.int .i64 0)]) 40 rfl Try.underlying31 info58 rfl (b7_) (b9_) u3 x3_2 (⟨t124,Int.tmod (wrap64 (t127+1)) 5,t130,wrap64 ((wrap64 (t130+1))+t137),t133⟩:S58) [.int .i64 t124,.int .i64 (Int.tmod (wrap64 (t127+1)) 5),.int .i64 t130,.int .i64 (wrap64 ((wrap64 (t130+1))+t137)),.int .i64 t133] (fun k_=>k_≠gb136) (fun _=>False) rfl (by first|(go_simp;done)|(go_simp;rfl)) ?aP (fun _ hk=>hk.elim) ?aF ?aO (Below.refl _ _) ?aS ?aL ?_;(case aP=>exact k58_mkM _ _ _ (⟨t124,Int.tmod (wrap64 (t127+1)) 5,t130,wrap64 ((wrap64 (t130+1))+t137),t133⟩:S58));(case aF=>exact(fun k_ hk=>Kd.freshB (g:=gb136) (o:=.cells #[.int .i64 t124,.int .i64 (Int.tmod (wrap64 (t127+1)) 5),.int .i64 t130,.int .i64 (wrap64 ((wrap64 (t130+1))+t137)),.int .i64 t133] 58 (0,0)) (b3_) k_ hk));(case aO=>exact(by(with_reducible repeat (first|apply Kd.R_alloc|apply Kd.R_drewN|apply Kd.R_drew));exact Kd.R_mono (Kd.R_far (p:=⟨gb136,1,none⟩) (Kd.R_far (p:=⟨gb136,3,none⟩) (Kd.R_mono HO_3.out (fun k_ hk=>(⟨hk,hk⟩:_∧k_≠gb136))) (fun _ hk=>hk.2) (.int .i64 (wrap64 ((wrap64 (t130+1))+t137)))) (fun _ hk=>hk.2) (.int .i64 (Int.tmod (wrap64 (t127+1)) 5))) (fun _ hk=>hk.1)));(case aS=>exact(keep_size (w:=w) (g:=g) (row:=none) (b4_)));(case aL=>have:=LMc17.out;omega);intro v141 w30 ho hb hg hat;rw[← Ny140.out] at ho;have n0_:=Aside0.mk (IsS47.grown (by repeat (first|(with_reducible first|exact HI0.out|apply IsS47.alloc|apply IsS47.drewN|apply IsS47.drew|apply IsS47.set_1|apply IsS47.set_2|apply IsS47.far (hne:=NB0_136.out))|exact HI0.out)) hg (IsS47.own_ne HI0.out HO_3.out (b7_)));have n1_:=Aside0.mk (blk_grown (g:=gb136) (o:=.cells #[.int .i64 t124,.int .i64 (Int.tmod (wrap64 (t127+1)) 5),.int .i64 t130,.int .i64 (wrap64 ((wrap64 (t130+1))+t137)),.int .i64 t133] 58 (0,0)) (b3_) hg (Kd.R_away HO_3.out (fun _ hk=>hk)));have n2_:=Aside0.mk (below_weaken (by repeat (first|(with_reducible first|exact HB.out|apply below_alloc|apply pw_below_drewN|apply below_drew1|refine below_set ?_ (IsS47.ge HI0.out)|refine below_set ?_ GE136.out)|exact HB.out)) HL.out hb);have n3_:=Aside0.mk (KeepBut.trans (b4_) (KeepBut.of_grown hg g) (Kd.R_base2 HO_3.out));have n4_:=Aside0.mk (ho);(try clear HI0);clear BK136 HB HK HO_3;have HI0:=n0_;have BK136:=n1_;have HB:=n2_;have HK:=n3_;have HO142:=n4_;clear n0_ n1_ n2_ n3_ n4_;clear ho hb hg hat))
        go_roundg k2
        case measure=>have:=HJ3.out;have:=HK2.out;omega
        case rel=>exact⟨(y140),(wrap64 (x4_2 - 1)),(t138),(t139),(bR),H',⟨by have:=HJ3.out;have:=HK2.out;omega⟩,⟨by(with_reducible repeat (first|apply Kd.R_alloc|apply Kd.R_drewN|apply Kd.R_drew));exact Kd.R_mono HO142.out (fun _ hk=>trivial)⟩,⟨by repeat (first|(with_reducible first|exact HI0.out|apply IsS47.alloc|apply IsS47.drewN|apply IsS47.drew|apply IsS47.set_1|apply IsS47.set_2|apply IsS47.far (hne:=NB0_136.out))|exact HI0.out)⟩,⟨by repeat (first|(with_reducible first|exact HK.out|apply KeepBut.set_|apply keep_drewN|apply keep_drew|apply keep_alloc|refine keep_far ?_ GW136.out _)|exact HK.out)⟩,⟨by repeat (first|(with_reducible first|exact HB.out|apply below_alloc|apply pw_below_drewN|apply below_drew1|refine below_set ?_ (IsS47.ge HI0.out)|refine below_set ?_ GE136.out)|exact HB.out)⟩⟩
       ·rw[if_neg c17] at H
        exact absurd H (by simp)
      ·rw[if_neg c16] at H
       have c16b0:(t124 == t127)=false:=beq_eq_false_iff_ne.mpr c16
       have c16b1:(t124 != t127)=true:=bne_iff_ne.mpr c16
       by_cases c31:x3_2.length < 3518437208883
       ·rw[if_pos c31] at H
        have LMc31:=Aside0.mk c31
        clear c31
        obtain⟨y143,hy143⟩ : ∃ y_:List (S58),y_=(x3_2++[(⟨t124,t127,t130,wrap64 ((wrap64 (t130+1))+t137),t133⟩:S58)]):=⟨_,rfl⟩
        replace H:(spec_l1Cur_plan.l0 k2 y143 (wrap64 (x4_2 - 1)) s0_0 t138 t139)=some (r1,r2,r3):=by first|(rw[hy143];with_reducible exact H)|(have H2_:=(Option.bind_some _ _).symm.trans H;rw[hy143];with_reducible exact H2_)|(have H2_:=(Option.bind_some _ _).symm.trans H;with_reducible exact H2_)|with_reducible exact H|(rw[hy143];exact H)|exact H
        have Ny143:=Aside0.mk hy143
        clear hy143
        have H':=Aside0.mk H
        clear H
        try go_wp2_with (first|((with_reducible refine gate_callee (f:=22) rfl ?_);refine goesA (some 18) rfl rfl Try.func22 #[.pointer (some ⟨g,0,none⟩),.int .i64 5] rfl ?_;(with_reducible refine(spec_l1Cur_pick.calls g s0_0 x1001_2 x1002_2 5 t124 t125 t126 w0 _ ?side1 ?side2 A11.out).mono ?_);(case side1=>exact b11_);(case side2=>exact b10_);rintro e w32 ⟨rfl,hi,hb,hk⟩;refine⟨_,rfl,?_⟩;have n0_:=Aside0.mk (Kd.R_mono (Kd.R_keep (IsS47.apart (show IsS47 w0 _ g s0_0 x1001_2 x1002_2 from by repeat (first|(with_reducible first|exact HI0.out|apply IsS47.alloc|apply IsS47.drewN|apply IsS47.drew|apply IsS47.set_1|apply IsS47.set_2)|exact HI0.out)) (bK HO_3.out) (b7_)) hk (fun _ h=>h.2)) (fun _ h=>h.1));have n1_:=Aside0.mk (KeepBut.trans (b0_) hk (.inl rfl));have n2_:=Aside0.mk (hb);have n3_:=Aside0.mk (hi);clear HO_3 HK HB;(try clear HI0);have HO_3:=n0_;have HK:=n1_;have HB:=n2_;have HI0:=n3_;clear n0_ n1_ n2_ n3_;(try clear hb);(try clear hb2);(try clear hk);(try clear hi))|((with_reducible refine gate_callee (f:=22) rfl ?_);refine goesA (some 20) rfl rfl Try.func22 #[.pointer (some ⟨g,0,none⟩),.int .i64 5] rfl ?_;(with_reducible refine(spec_l1Cur_pick.calls g s0_0 t125 t126 5 t127 t128 t129 w0 _ ?side1 ?side2 A12.out).mono ?_);(case side1=>exact b11_);(case side2=>exact b10_);rintro e w33 ⟨rfl,hi,hb,hk⟩;refine⟨_,rfl,?_⟩;have n0_:=Aside0.mk (Kd.R_mono (Kd.R_keep (IsS47.apart (show IsS47 w0 _ g s0_0 t125 t126 from by repeat (first|(with_reducible first|exact HI0.out|apply IsS47.alloc|apply IsS47.drewN|apply IsS47.drew|apply IsS47.set_1|apply IsS47.set_2)|exact HI0.out)) (bK HO_3.out) (b7_)) hk (fun _ h=>h.2)) (fun _ h=>h.1));have n1_:=Aside0.mk (KeepBut.trans (b0_) hk (.inl rfl));have n2_:=Aside0.mk (hb);have n3_:=Aside0.mk (hi);clear HO_3 HK HB;(try clear HI0);have HO_3:=n0_;have HK:=n1_;have HB:=n2_;have HI0:=n3_;clear n0_ n1_ n2_ n3_;(try clear hb);(try clear hb2);(try clear hk);(try clear hi))|((with_reducible refine gate_callee (f:=22) rfl ?_);refine goesA (some 22) rfl rfl Try.func22 #[.pointer (some ⟨g,0,none⟩),.int .i64 40] rfl ?_;(with_reducible refine(spec_l1Cur_pick.calls g s0_0 t128 t129 40 t130 t131 t132 w0 _ ?side1 ?side2 A13.out).mono ?_);(case side1=>exact b11_);(case side2=>exact b10_);rintro e w34 ⟨rfl,hi,hb,hk⟩;refine⟨_,rfl,?_⟩;have n0_:=Aside0.mk (Kd.R_mono (Kd.R_keep (IsS47.apart (show IsS47 w0 _ g s0_0 t128 t129 from by repeat (first|(with_reducible first|exact HI0.out|apply IsS47.alloc|apply IsS47.drewN|apply IsS47.drew|apply IsS47.set_1|apply IsS47.set_2)|exact HI0.out)) (bK HO_3.out) (b7_)) hk (fun _ h=>h.2)) (fun _ h=>h.1));have n1_:=Aside0.mk (KeepBut.trans (b0_) hk (.inl rfl));have n2_:=Aside0.mk (hb);have n3_:=Aside0.mk (hi);clear HO_3 HK HB;(try clear HI0);have HO_3:=n0_;have HK:=n1_;have HB:=n2_;have HI0:=n3_;clear n0_ n1_ n2_ n3_;(try clear hb);(try clear hb2);(try clear hk);(try clear hi))|((with_reducible refine gate_callee (f:=22) rfl ?_);refine goesA (some 24) rfl rfl Try.func22 #[.pointer (some ⟨g,0,none⟩),.int .i64 6] rfl ?_;(with_reducible refine(spec_l1Cur_pick.calls g s0_0 t131 t132 6 t133 t134 t135 w0 _ ?side1 ?side2 A14.out).mono ?_);(case side1=>exact b11_);(case side2=>exact b10_);rintro e w35 ⟨rfl,hi,hb,hk⟩;refine⟨_,rfl,?_⟩;have n0_:=Aside0.mk (Kd.R_mono (Kd.R_keep (IsS47.apart (show IsS47 w0 _ g s0_0 t131 t132 from by repeat (first|(with_reducible first|exact HI0.out|apply IsS47.alloc|apply IsS47.drewN|apply IsS47.drew|apply IsS47.set_1|apply IsS47.set_2)|exact HI0.out)) (bK HO_3.out) (b7_)) hk (fun _ h=>h.2)) (fun _ h=>h.1));have n1_:=Aside0.mk (KeepBut.trans (b0_) hk (.inl rfl));have n2_:=Aside0.mk (hb);have n3_:=Aside0.mk (hi);clear HO_3 HK HB;(try clear HI0);have HO_3:=n0_;have HK:=n1_;have HB:=n2_;have HI0:=n3_;clear n0_ n1_ n2_ n3_;(try clear hb);(try clear hb2);(try clear hk);(try clear hi))|((with_reducible refine gate_dst (N:=5) rfl ?_);refine box_event ?hg (N:=5) ?hd (cs:=#[.int .i64 0,.int .i64 0,.int .i64 0,.int .i64 0,.int .i64 0]) (t:=58) ?hr ?_;(case hd=>rfl);(case hg=>rfl);(case hr=>first|(go_simp;done)|(go_simp;rfl));intro gb136 hg w36 hbox hb;have n0_:=Aside0.mk (Kd.R_below (Kd.R_elderB (bK HO_3.out) gb136 (Nat.le_of_eq hg.symm)) hb);have n1_:=Aside0.mk (IsS47.below (b6_) hb);have n2_:=Aside0.mk (KeepBut.trans (b0_) (KeepBut.of_below hb g none) (.inl rfl));have n3_:=Aside0.mk (below_step (b8_) hb);have n4_:=Aside0.mk (hbox);have n5_:=Aside0.mk ((by rw[hg];exact(keep_size (w:=w) (g:=g) (row:=none) (b0_)):w.heap.size≤gb136));have n6_:=Aside0.mk ((Nat.le_trans HW0.out (by rw[hg];exact(keep_size (w:=w) (g:=g) (row:=none) (b0_)):w.heap.size≤gb136):w0.heap.size≤gb136));have n7_:=Aside0.mk ((by rw[hg];exact Nat.ne_of_lt (IsS47.lt (show IsS47 w0 _ g s0_0 t134 t135 from by repeat (first|(with_reducible first|exact HI0.out|apply IsS47.alloc|apply IsS47.drewN|apply IsS47.drew|apply IsS47.set_1|apply IsS47.set_2)|exact HI0.out))):g≠gb136));have n8_:=Aside0.mk ((by rw[hg];exact Nat.ne_of_gt (IsS47.lt (show IsS47 w0 _ g s0_0 t134 t135 from by repeat (first|(with_reducible first|exact HI0.out|apply IsS47.alloc|apply IsS47.drewN|apply IsS47.drew|apply IsS47.set_1|apply IsS47.set_2)|exact HI0.out))):gb136≠g));clear HO_3;(try clear HI0);clear HK HB;have HO_3:=n0_;have HI0:=n1_;have HK:=n2_;have HB:=n3_;have BK136:=n4_;have GW136:=n5_;have GE136:=n6_;have NB0_136:=n7_;have NB136_0:=n8_;clear n0_ n1_ n2_ n3_ n4_ n5_ n6_ n7_ n8_;clear hb hbox hg;have hnb37:=NB136_0.out;have hnc37:=NB0_136.out;obtain⟨hcz38_0,hcz38_1,hcz38_2,hcz38_3,hcz38_4⟩:=cC5 BK136.out;obtain⟨hfz38_0,hfz38_1,hfz38_2,hfz38_3,hfz38_4⟩:=cF5 BK136.out))
        have n0_:Aside0 (Kd.R k58 58 (((((w36.setCell ⟨gb136,0,none⟩ (.int .i64 t124)).setCell ⟨gb136,1,none⟩ (.int .i64 t127)).setCell ⟨gb136,2,none⟩ (.int .i64 t130)).setCell ⟨gb136,3,none⟩ (.int .i64 0)).setCell ⟨gb136,4,none⟩ (.int .i64 t133)) w.heap.size (fun k_=>k_≠gb136) u3 x3_2):=⟨by(with_reducible repeat (first|apply Kd.R_alloc|apply Kd.R_drewN|apply Kd.R_drew));exact Kd.R_mono (Kd.R_far (p:=⟨gb136,4,none⟩) (Kd.R_far (p:=⟨gb136,3,none⟩) (Kd.R_far (p:=⟨gb136,2,none⟩) (Kd.R_far (p:=⟨gb136,1,none⟩) (Kd.R_far (p:=⟨gb136,0,none⟩) (Kd.R_mono HO_3.out (fun k_ hk=>(⟨hk,hk.2⟩:_∧k_≠gb136))) (fun _ hk=>hk.2) (.int .i64 t124)) (fun _ hk=>hk.2) (.int .i64 t127)) (fun _ hk=>hk.2) (.int .i64 t130)) (fun _ hk=>hk.2) (.int .i64 0)) (fun _ hk=>hk.2) (.int .i64 t133)) (fun _ hk=>hk.1.2)⟩
        have n1_:Aside0 ((((((w36.setCell ⟨gb136,0,none⟩ (.int .i64 t124)).setCell ⟨gb136,1,none⟩ (.int .i64 t127)).setCell ⟨gb136,2,none⟩ (.int .i64 t130)).setCell ⟨gb136,3,none⟩ (.int .i64 0)).setCell ⟨gb136,4,none⟩ (.int .i64 t133)).heap[gb136]?=some (.cells #[.int .i64 t124,.int .i64 t127,.int .i64 t130,.int .i64 0,.int .i64 t133] 58 (0,0))):=⟨by(with_reducible repeat (first|refine blk_drewN ?_ _|refine blk_drew ?_|refine blk_alloc ?_ _));refine blk_put (cs:=#[.int .i64 t124,.int .i64 t127,.int .i64 t130,.int .i64 0,.int .i64 0]) ?_ 4 _ rfl;(with_reducible repeat (first|refine blk_drewN ?_ _|refine blk_drew ?_|refine blk_alloc ?_ _));refine blk_put (cs:=#[.int .i64 t124,.int .i64 t127,.int .i64 t130,.int .i64 0,.int .i64 0]) ?_ 3 _ rfl;(with_reducible repeat (first|refine blk_drewN ?_ _|refine blk_drew ?_|refine blk_alloc ?_ _));refine blk_put (cs:=#[.int .i64 t124,.int .i64 t127,.int .i64 0,.int .i64 0,.int .i64 0]) ?_ 2 _ rfl;(with_reducible repeat (first|refine blk_drewN ?_ _|refine blk_drew ?_|refine blk_alloc ?_ _));refine blk_put (cs:=#[.int .i64 t124,.int .i64 0,.int .i64 0,.int .i64 0,.int .i64 0]) ?_ 1 _ rfl;(with_reducible repeat (first|refine blk_drewN ?_ _|refine blk_drew ?_|refine blk_alloc ?_ _));refine blk_put (cs:=#[.int .i64 0,.int .i64 0,.int .i64 0,.int .i64 0,.int .i64 0]) ?_ 0 _ rfl;(with_reducible repeat (first|refine blk_drewN ?_ _|refine blk_drew ?_|refine blk_alloc ?_ _));exact BK136.out⟩
        have n2_:Aside0 (IsS47 w0 (((((w36.setCell ⟨gb136,0,none⟩ (.int .i64 t124)).setCell ⟨gb136,1,none⟩ (.int .i64 t127)).setCell ⟨gb136,2,none⟩ (.int .i64 t130)).setCell ⟨gb136,3,none⟩ (.int .i64 0)).setCell ⟨gb136,4,none⟩ (.int .i64 t133)) g s0_0 t134 t135):=⟨by repeat (first|(with_reducible first|exact HI0.out|apply IsS47.alloc|apply IsS47.drewN|apply IsS47.drew|apply IsS47.set_1|apply IsS47.set_2|apply IsS47.far (hne:=NB0_136.out))|exact HI0.out)⟩
        have n3_:Aside0 (KeepBut w (((((w36.setCell ⟨gb136,0,none⟩ (.int .i64 t124)).setCell ⟨gb136,1,none⟩ (.int .i64 t127)).setCell ⟨gb136,2,none⟩ (.int .i64 t130)).setCell ⟨gb136,3,none⟩ (.int .i64 0)).setCell ⟨gb136,4,none⟩ (.int .i64 t133)) g none):=⟨by repeat (first|(with_reducible first|exact HK.out|apply KeepBut.set_|apply keep_drewN|apply keep_drew|apply keep_alloc|refine keep_far ?_ GW136.out _)|exact HK.out)⟩
        have n4_:Aside0 (Below w0.heap.size w0 (((((w36.setCell ⟨gb136,0,none⟩ (.int .i64 t124)).setCell ⟨gb136,1,none⟩ (.int .i64 t127)).setCell ⟨gb136,2,none⟩ (.int .i64 t130)).setCell ⟨gb136,3,none⟩ (.int .i64 0)).setCell ⟨gb136,4,none⟩ (.int .i64 t133))):=⟨by repeat (first|(with_reducible first|exact HB.out|apply below_alloc|apply pw_below_drewN|apply below_drew1|refine below_set ?_ (IsS47.ge HI0.out)|refine below_set ?_ GE136.out)|exact HB.out)⟩
        (try clear HO_3)
        (try clear BK136)
        (try clear HI0)
        (try clear HK)
        (try clear HB)
        generalize (((((w36.setCell ⟨gb136,0,none⟩ (.int .i64 t124)).setCell ⟨gb136,1,none⟩ (.int .i64 t127)).setCell ⟨gb136,2,none⟩ (.int .i64 t130)).setCell ⟨gb136,3,none⟩ (.int .i64 0)).setCell ⟨gb136,4,none⟩ (.int .i64 t133))=w39 at n0_ n1_ n2_ n3_ n4_ ⊢
        have HO_3:=n0_
        have BK136:=n1_
        have HI0:=n2_
        have HK:=n3_
        have HB:=n4_
        clear n0_ n1_ n2_ n3_ n4_
        (try (rw[drewN_self w39];generalize hq_:World.drewN w39 _=w39;have n0_:=Aside0.mk (Kd.R_at hq_ HO_3.out);have n1_:=Aside0.mk (blk_at hq_ BK136.out);have n2_:=Aside0.mk (IsS47.at_ hq_ HI0.out);have n3_:=Aside0.mk (keep_at hq_ HK.out);have n4_:=Aside0.mk (below_at hq_ HB.out);clear hq_ HO_3 BK136 HI0 HK HB;have HO_3:=n0_;have BK136:=n1_;have HI0:=n2_;have HK:=n3_;have HB:=n4_;clear n0_ n1_ n2_ n3_ n4_))
        have n0_:=Aside0.mk (Kd.R_drew HO_3.out)
        have n1_:=Aside0.mk (blk_drew BK136.out)
        have n2_:=Aside0.mk (IsS47.drew HI0.out)
        have n3_:=Aside0.mk (keep_drew HK.out)
        have n4_:=Aside0.mk (below_drew1 HB.out)
        clear HO_3 BK136 HI0 HK HB
        have HO_3:=n0_
        have BK136:=n1_
        have HI0:=n2_
        have HK:=n3_
        have HB:=n4_
        clear n0_ n1_ n2_ n3_ n4_
        refine start_ (n:=8) (S:=fun w'=>w'.cell? ⟨gb136,0,none⟩=some (.int .i64 t124)∧w'.cell? ⟨gb136,1,none⟩=some (.int .i64 t127)∧w'.cell? ⟨gb136,2,none⟩=some (.int .i64 t130)∧w'.cell? ⟨gb136,3,none⟩=some (.int .i64 0)∧w'.cell? ⟨gb136,4,none⟩=some (.int .i64 t133)) (ds:=[7]) #[false,false,false,false,false,false,false,false] (b1_) rfl rfl (cC5 BK136.out) (fun hHeld => ?_);refine with_tabW spec_l1Cur_plan.tab8 spec_l1Cur_plan.bits8 (fun HT_ HW_ => ?_)
        generalize w39.drew=w40 at HO_3 BK136 HI0 HK HB hHeld ⊢
        refine pure_ (i:=0) (N:=some 26) (v:=?_) (a':=?_) #[true,false,false,false,false,false,false,false] rfl rfl (any_of HT_.out (b1_)) (fun _ _ _ h=>h) (Or.inl ⟨by rfl,?_⟩) ?_ ?_
        rotate_left
        ·intro w'
         go_simp
         with_reducible rfl
        rotate_left
        ·simp only[Act.put,List.setIfInBounds_toArray,List.set_cons_zero,List.set_cons_succ,i64_w,i32_w]
         rfl
        refine pure_ (i:=3) (N:=some 29) (v:=?_) (a':=?_) #[true,false,false,true,false,false,false,false] rfl rfl (any_of HT_.out (b1_)) (fun _ _ _ h=>h) (Or.inl ⟨by rfl,?_⟩) ?_ ?_
        rotate_left
        ·intro w'
         go_simp
         with_reducible rfl
        rotate_left
        ·simp only[Act.put,List.setIfInBounds_toArray,List.set_cons_zero,List.set_cons_succ,i64_w,i32_w]
         rfl
        refine take_ (i:=1) (N:=some 27) (v:=?_) (a':=?_) #[true,true,false,true,false,false,false,false] rfl rfl (take_ofW HT_.out HW_.out (b1_)) (fun _ _ _ h=>h) (Or.inl ⟨by rfl,?_⟩) hHeld ?_ ?_
        rotate_left
        ·rintro w' ⟨s0,s1,s2,s3,s4⟩
         go_simp
         with_reducible rfl
        rotate_left
        ·simp only[Act.put,List.setIfInBounds_toArray,List.set_cons_zero,List.set_cons_succ,i64_w,i32_w]
         rfl
        refine pure_ (i:=2) (N:=some 28) (v:=?_) (a':=?_) #[true,true,true,true,false,false,false,false] rfl rfl (any_of HT_.out (b1_)) (fun _ _ _ h=>h) (Or.inl ⟨by rfl,?_⟩) ?_ ?_
        rotate_left
        ·intro w'
         go_simp
         with_reducible rfl
        rotate_left
        ·simp only[Act.put,List.setIfInBounds_toArray,List.set_cons_zero,List.set_cons_succ,i64_w,i32_w]
         rfl
        refine one_ (i:=4) (N:=some 30) #[true,true,true,true,true,false,false,false] rfl rfl (one_of HT_.out (b1_)) (b7_) (fun K hK => ?_)
        refine goes_ Try.func22 (b1_) rfl #[.pointer (some ⟨g,0,none⟩),.int .i64 30] (by rfl) rfl rfl (b2_) ?_
        with_reducible refine(spec_l1Cur_pick.calls g s0_0 t134 t135 30 t137 t138 t139 w0 _ ?side1 ?side2 A15.out).mono ?_
        (case side1=>repeat (first|(with_reducible first|exact HI0.out|apply IsS47.alloc|apply IsS47.drewN|apply IsS47.drew|apply IsS47.set_1|apply IsS47.set_2|apply IsS47.far (hne:=NB0_136.out))|exact HI0.out))
        (case side2=>repeat (first|(with_reducible first|exact HB.out|apply below_alloc|apply pw_below_drewN|apply below_drew1|refine below_set ?_ (IsS47.ge HI0.out)|refine below_set ?_ GE136.out)|exact HB.out))
        rintro e w41 ⟨rfl,hi,hb,hk⟩
        refine⟨_,rfl,?_⟩
        have n0_:=Aside0.mk (Kd.R_mono (Kd.R_keep (IsS47.apart (show IsS47 w0 _ g s0_0 t134 t135 from by repeat (first|(with_reducible first|exact HI0.out|apply IsS47.alloc|apply IsS47.drewN|apply IsS47.drew|apply IsS47.set_1|apply IsS47.set_2|apply IsS47.far (hne:=NB0_136.out))|exact HI0.out)) (bK HO_3.out) (b7_)) hk (fun _ h=>h.2)) (fun _ h=>h.1))
        have n1_:=Aside0.mk (KeepBut.blk hk (g':=gb136) (o:=.cells #[.int .i64 t124,.int .i64 t127,.int .i64 t130,.int .i64 0,.int .i64 t133] 58 (0,0)) (bL BK136.out) NB136_0.out (by simp))
        have n2_:=Aside0.mk (KeepBut.trans (b4_) hk (.inl rfl))
        have n3_:=Aside0.mk (hb)
        have n4_:=Aside0.mk (hi)
        clear HO_3 BK136 HK HB HI0
        have HO_3:=n0_
        have BK136:=n1_
        have HK:=n2_
        have HB:=n3_
        have HI0:=n4_
        clear n0_ n1_ n2_ n3_ n4_
        (try clear hb)
        (try clear hb2)
        (try clear hk)
        (try clear hi)
        refine hK.out _ _ (cC5 BK136.out) (fun hHeld => ?_)
        clear hK K
        refine norm_ (a':=?_) ?_ ?_
        rotate_left
        ·show Act.put _ (some 30) _=_
         simp only[Act.put,List.setIfInBounds_toArray,List.set_cons_zero,List.set_cons_succ,i64_w,i32_w]
         rfl
        refine pure_ (i:=5) (N:=some 31) (v:=?_) (a':=?_) #[true,true,true,true,true,true,false,false] rfl rfl (any_of HT_.out (b1_)) (fun _ _ _ h=>h) (Or.inl ⟨by rfl,?_⟩) ?_ ?_
        rotate_left
        ·intro w'
         go_simp
         with_reducible rfl
        rotate_left
        ·simp only[Act.put,List.setIfInBounds_toArray,List.set_cons_zero,List.set_cons_succ,i64_w,i32_w]
         rfl
        refine pure_ (i:=6) (N:=some 32) (v:=?_) (a':=?_) #[true,true,true,true,true,true,true,false] rfl rfl (any_of HT_.out (b1_)) (fun _ _ _ h=>h) (Or.inl ⟨by rfl,?_⟩) ?_ ?_
        rotate_left
        ·intro w'
         go_simp
         with_reducible rfl
        rotate_left
        ·simp only[Act.put,List.setIfInBounds_toArray,List.set_cons_zero,List.set_cons_succ,i64_w,i32_w]
         rfl
        refine last_ (i:=7) (N:=none) #[true,true,true,true,true,true,true,true] rfl rfl (one_of HT_.out (b1_)) (b7_) (fun K hK => ?_)
        have hs42:w41.cell? ⟨gb136,3,none⟩=some (.int .i64 0):=(blk_cell BK136.out 3).trans rfl
        have hfs42:=blk_frozen BK136.out 3
        refine skip_ (w1:=?_) (by rfl) rfl ?_ ?_
        rotate_left
        ·go_simp
         rfl
        refine hK.out _ _ ?_
        clear hK K
        refine done_ (done_of HT_.out (b1_)) ?_
        obtain⟨hcz43_0,hcz43_1,hcz43_2,hcz43_3,hcz43_4⟩:=cC5 BK136.out
        obtain⟨hfz43_0,hfz43_1,hfz43_2,hfz43_3,hfz43_4⟩:=cF5 BK136.out
        try go_wp2_with (first|((with_reducible refine gate_builtin (b:=.append) (xs:=#[.tmp 43,.tmp 45]) rfl ?_);at_builtin;refine Kd.R_append k58 w.heap.size rfl (.tmp 43) (.tmp 45) 31 58 (.agg #[(.int .i64 0),(.int .i64 0),(.int .i64 0),(.int .i64 0),(.int .i64 0)]) 40 rfl Try.underlying31 info58 rfl (b7_) (b9_) u3 x3_2 (⟨t124,t127,t130,wrap64 ((wrap64 (t130+1))+t137),t133⟩:S58) [.int .i64 t124,.int .i64 t127,.int .i64 t130,.int .i64 (wrap64 ((wrap64 (t130+1))+t137)),.int .i64 t133] (fun k_=>k_≠gb136) (fun _=>False) rfl (by first|(go_simp;done)|(go_simp;rfl)) ?aP (fun _ hk=>hk.elim) ?aF ?aO (Below.refl _ _) ?aS ?aL ?_;(case aP=>exact k58_mkM _ _ _ (⟨t124,t127,t130,wrap64 ((wrap64 (t130+1))+t137),t133⟩:S58));(case aF=>exact(fun k_ hk=>Kd.freshB (g:=gb136) (o:=.cells #[.int .i64 t124,.int .i64 t127,.int .i64 t130,.int .i64 (wrap64 ((wrap64 (t130+1))+t137)),.int .i64 t133] 58 (0,0)) (by(with_reducible repeat (first|refine blk_drewN ?_ _|refine blk_drew ?_|refine blk_alloc ?_ _));refine blk_put (cs:=#[.int .i64 t124,.int .i64 t127,.int .i64 t130,.int .i64 0,.int .i64 t133]) ?_ 3 _ rfl;(with_reducible repeat (first|refine blk_drewN ?_ _|refine blk_drew ?_|refine blk_alloc ?_ _));exact BK136.out) k_ hk));(case aO=>exact(by(with_reducible repeat (first|apply Kd.R_alloc|apply Kd.R_drewN|apply Kd.R_drew));exact Kd.R_mono (Kd.R_far (p:=⟨gb136,3,none⟩) (Kd.R_mono HO_3.out (fun k_ hk=>(⟨hk,hk⟩:_∧k_≠gb136))) (fun _ hk=>hk.2) (.int .i64 (wrap64 ((wrap64 (t130+1))+t137)))) (fun _ hk=>hk.1)));(case aS=>exact(keep_size (w:=w) (g:=g) (row:=none) (b4_)));(case aL=>have:=LMc31.out;omega);intro v144 w44 ho hb hg hat;rw[← Ny143.out] at ho;have n0_:=Aside0.mk (IsS47.grown (by repeat (first|(with_reducible first|exact HI0.out|apply IsS47.alloc|apply IsS47.drewN|apply IsS47.drew|apply IsS47.set_1|apply IsS47.set_2|apply IsS47.far (hne:=NB0_136.out))|exact HI0.out)) hg (IsS47.own_ne HI0.out HO_3.out (b7_)));have n1_:=Aside0.mk (blk_grown (g:=gb136) (o:=.cells #[.int .i64 t124,.int .i64 t127,.int .i64 t130,.int .i64 (wrap64 ((wrap64 (t130+1))+t137)),.int .i64 t133] 58 (0,0)) (by(with_reducible repeat (first|refine blk_drewN ?_ _|refine blk_drew ?_|refine blk_alloc ?_ _));refine blk_put (cs:=#[.int .i64 t124,.int .i64 t127,.int .i64 t130,.int .i64 0,.int .i64 t133]) ?_ 3 _ rfl;(with_reducible repeat (first|refine blk_drewN ?_ _|refine blk_drew ?_|refine blk_alloc ?_ _));exact BK136.out) hg (Kd.R_away HO_3.out (fun _ hk=>hk)));have n2_:=Aside0.mk (below_weaken (by repeat (first|(with_reducible first|exact HB.out|apply below_alloc|apply pw_below_drewN|apply below_drew1|refine below_set ?_ (IsS47.ge HI0.out)|refine below_set ?_ GE136.out)|exact HB.out)) HL.out hb);have n3_:=Aside0.mk (KeepBut.trans (b4_) (KeepBut.of_grown hg g) (Kd.R_base2 HO_3.out));have n4_:=Aside0.mk (ho);(try clear HI0);clear BK136 HB HK HO_3;have HI0:=n0_;have BK136:=n1_;have HB:=n2_;have HK:=n3_;have HO145:=n4_;clear n0_ n1_ n2_ n3_ n4_;clear ho hb hg hat))
        go_roundg k2
        case measure=>have:=HJ3.out;have:=HK2.out;omega
        case rel=>exact⟨(y143),(wrap64 (x4_2 - 1)),(t138),(t139),(bR),H',⟨by have:=HJ3.out;have:=HK2.out;omega⟩,⟨by(with_reducible repeat (first|apply Kd.R_alloc|apply Kd.R_drewN|apply Kd.R_drew));exact Kd.R_mono HO145.out (fun _ hk=>trivial)⟩,⟨by repeat (first|(with_reducible first|exact HI0.out|apply IsS47.alloc|apply IsS47.drewN|apply IsS47.drew|apply IsS47.set_1|apply IsS47.set_2|apply IsS47.far (hne:=NB0_136.out))|exact HI0.out)⟩,⟨by repeat (first|(with_reducible first|exact HK.out|apply KeepBut.set_|apply keep_drewN|apply keep_drew|apply keep_alloc|refine keep_far ?_ GW136.out _)|exact HK.out)⟩,⟨by repeat (first|(with_reducible first|exact HB.out|apply below_alloc|apply pw_below_drewN|apply below_drew1|refine below_set ?_ (IsS47.ge HI0.out)|refine below_set ?_ GE136.out)|exact HB.out)⟩⟩
       ·rw[if_neg c31] at H
        exact absurd H (by simp)
     ·rw[if_neg c10] at H
      have c10b0:decide (0 < x4_2)=false:=decide_eq_false c10
      clear c10
      by_cases c45:(x3_2.length:Int) > 0
      ·rw[if_pos c45] at H
       have c45b0:decide (0 < (x3_2.length:Int))=true:=decide_eq_true c45
       have c45b1:decide (0 < x3_2.length)=true:=decide_eq_true (b9_)
       clear c45
       replace H:=Option.bind_eq_some_iff.mp H
       obtain⟨⟨t146,t147,t148⟩,A460,H⟩:=H
       replace H:(if t146=true then ((spec_l1Cur_among.f s0_0 t147 t148 (([0,1000,1001]:List Int))).bind fun bt152=>(if 0 < (x3_2.length:Int) then (some ((x3_2.set (0:Int).toNat (⟨(rd_T58 x3_2 0).f0,(rd_T58 x3_2 0).f1,(rd_T58 x3_2 0).f2,bt152.1,(rd_T58 x3_2 0).f4⟩:S58)),bt152.2.1,bt152.2.2)) else (none))) else (some (x3_2,t147,t148)))=some (r1,r2,r3):=H
       have A46:=Aside0.mk A460
       clear A460
       by_cases c47:t146=true
       ·subst c47
        have H1:((spec_l1Cur_among.f s0_0 t147 t148 (([0,1000,1001]:List Int))).bind fun bt152=>(if 0 < (x3_2.length:Int) then (some ((x3_2.set (0:Int).toNat (⟨(rd_T58 x3_2 0).f0,(rd_T58 x3_2 0).f1,(rd_T58 x3_2 0).f2,bt152.1,(rd_T58 x3_2 0).f4⟩:S58)),bt152.2.1,bt152.2.2)) else (none)))=some (r1,r2,r3):=by rw[if_pos rfl] at H;exact H
        clear H
        have H:=H1
        clear H1
        obtain⟨y149,hy149⟩ : ∃ y_:List Int,y_=(([0,1000,1001]:List Int)):=⟨_,rfl⟩
        replace H:((spec_l1Cur_among.f s0_0 t147 t148 y149).bind fun bt152=>(if 0 < (x3_2.length:Int) then (some ((x3_2.set (0:Int).toNat (⟨(rd_T58 x3_2 0).f0,(rd_T58 x3_2 0).f1,(rd_T58 x3_2 0).f2,bt152.1,(rd_T58 x3_2 0).f4⟩:S58)),bt152.2.1,bt152.2.2)) else (none)))=some (r1,r2,r3):=by first|(rw[hy149];with_reducible exact H)|(have H2_:=(Option.bind_some _ _).symm.trans H;rw[hy149];with_reducible exact H2_)|(have H2_:=(Option.bind_some _ _).symm.trans H;with_reducible exact H2_)|with_reducible exact H|(rw[hy149];exact H)|exact H
        have Ny149:=Aside0.mk hy149
        clear hy149
        replace H:=Option.bind_eq_some_iff.mp H
        obtain⟨⟨t152,t153,t154⟩,A480,H⟩:=H
        replace H:(if 0 < (x3_2.length:Int) then (some ((x3_2.set (0:Int).toNat (⟨(rd_T58 x3_2 0).f0,(rd_T58 x3_2 0).f1,(rd_T58 x3_2 0).f2,t152,(rd_T58 x3_2 0).f4⟩:S58)),t153,t154)) else (none))=some (r1,r2,r3):=H
        have A48:=Aside0.mk A480
        clear A480
        by_cases c49:0 < (x3_2.length:Int)
        ·rw[if_pos c49] at H
         have c49b0:decide (0 < (x3_2.length:Int))=true:=decide_eq_true c49
         have c49b1:decide (0 < x3_2.length)=true:=decide_eq_true (b9_)
         clear c49
         obtain⟨y155,hy155⟩ : ∃ y_:List (S58),y_=(x3_2.set (0:Int).toNat (⟨(rd_T58 x3_2 0).f0,(rd_T58 x3_2 0).f1,(rd_T58 x3_2 0).f2,t152,(rd_T58 x3_2 0).f4⟩:S58)):=⟨_,rfl⟩
         replace H:(some (y155,t153,t154))=some (r1,r2,r3):=by first|(rw[hy155];with_reducible exact H)|(have H2_:=(Option.bind_some _ _).symm.trans H;rw[hy155];with_reducible exact H2_)|(have H2_:=(Option.bind_some _ _).symm.trans H;with_reducible exact H2_)|with_reducible exact H|(rw[hy155];exact H)|exact H
         have Ny155:=Aside0.mk hy155
         clear hy155
         simp only[Option.some.injEq,Prod.mk.injEq] at H
         obtain⟨rfl,rfl,rfl⟩:=H
         obtain⟨Ao51,co51,eo51⟩:=Kd.R_slice HO_3.out
         subst eo51
         go_wp2_with (first|(go_at_call 37;(with_reducible refine(spec_l1Cur_one.calls g s0_0 x1001_2 x1002_2 30 true t147 t148 w0 _ ?side1 ?side2 A46.out).mono ?_);(case side1=>exact b11_);(case side2=>exact b10_);rintro e w52 ⟨rfl,hi,hb,hk⟩;have n0_:=Aside0.mk (Kd.R_mono (Kd.R_keep (IsS47.apart (show IsS47 w0 _ g s0_0 x1001_2 x1002_2 from by repeat (first|(with_reducible first|exact HI0.out|apply IsS47.alloc|apply IsS47.drewN|apply IsS47.drew|apply IsS47.set_1|apply IsS47.set_2)|exact HI0.out)) (bK HO_3.out) (b7_)) hk (fun _ h=>h.2)) (fun _ h=>h.1));have n1_:=Aside0.mk (KeepBut.trans (b0_) hk (.inl rfl));have n2_:=Aside0.mk (hb);have n3_:=Aside0.mk (hi);clear HO_3 HK HB;(try clear HI0);have HO_3:=n0_;have HK:=n1_;have HB:=n2_;have HI0:=n3_;clear n0_ n1_ n2_ n3_;(try clear hb);(try clear hb2);(try clear hk);(try clear hi))|((with_reducible refine gate_dst (N:=56) rfl ?_);refine Kd.R_lit (Kd.int .i64) _ 3 ?hg (N:=56) ?hd (xs:=([0,1000,1001]:List Int)) (inner:=[.int .i64 0,.int .i64 1000,.int .i64 1001]) (ok:=fun _=>True) (okp:=fun _=>True) ?hr ?hp (fun _ hk=>hk) trivial (Below.refl _ _) (Nat.le_refl _) (by simp) ?_;(case hd=>rfl);(case hg=>rfl);(case hr=>first|(go_simp;done)|(go_simp;rfl));(case hp=>exact(Reps.one (show Kd.M (Kd.int .i64) _ _ _ 0 [.int .i64 0] from rfl) (Reps.one (show Kd.M (Kd.int .i64) _ _ _ 1000 [.int .i64 1000] from rfl) (Reps.one (show Kd.M (Kd.int .i64) _ _ _ 1001 [.int .i64 1001] from rfl) (Reps.none _ _)))));intro v150 w53 ho54 hb hg_ hnew_;clear hg_ hnew_;(first|rw[← Ny149.out] at ho54|(simp only[Int.reduceToNat] at ho54;rw[← Ny149.out] at ho54));have n0_:=Aside0.mk (Kd.R_below (bK HO_3.out) hb);have n1_:=Aside0.mk (Kd.R_lower ho54 (keep_size (w:=w) (g:=g) (row:=none) (b0_)));have n2_:=Aside0.mk (IsS47.below (b6_) hb);have n3_:=Aside0.mk (KeepBut.trans (b0_) (KeepBut.of_below hb g none) (.inl rfl));have n4_:=Aside0.mk (below_step (b8_) hb);clear HO_3;(try clear HI0);clear HK HB;have HO_3:=n0_;have HO151:=n1_;have HI0:=n2_;have HK:=n3_;have HB:=n4_;clear n0_ n1_ n2_ n3_ n4_;clear hb ho54;obtain⟨Ao55,co55,eo55⟩:=Kd.R_slice HO151.out;subst eo55)|((with_reducible refine gate_callee (f:=38) rfl ?_);refine goesA (some 57) rfl rfl Try.func38 #[.pointer (some ⟨g,0,none⟩),.slice Ao55 y149.length co55] rfl ?_;(with_reducible refine(spec_l1Cur_among.calls g s0_0 t147 t148 _ _ y149 t152 t153 t154 w0 _ ?side1 ?side2 ?side3 ?side4 ?side5 A48.out).mono ?_);(case side1=>exact b11_);(case side2=>exact b10_);(case side3=>exact bT HO151.out);(case side4=>exact(Kd.R_reads' HO151.out).2.1);(case side5=>exact far_slice (IsS47.own_ne HI0.out HO151.out (b7_)));rintro e w56 ⟨rfl,hi,hb,hk⟩;refine⟨_,rfl,?_⟩;have n0_:=Aside0.mk (Kd.R_mono (Kd.R_keep (IsS47.apart (show IsS47 w0 _ g s0_0 t147 t148 from by repeat (first|(with_reducible first|exact HI0.out|apply IsS47.alloc|apply IsS47.drewN|apply IsS47.drew|apply IsS47.set_1|apply IsS47.set_2)|exact HI0.out)) (bK HO_3.out) (b7_)) hk (fun _ h=>h.2)) (fun _ h=>h.1));have n1_:=Aside0.mk (Kd.R_mono (Kd.R_keep (IsS47.apart (show IsS47 w0 _ g s0_0 t147 t148 from by repeat (first|(with_reducible first|exact HI0.out|apply IsS47.alloc|apply IsS47.drewN|apply IsS47.drew|apply IsS47.set_1|apply IsS47.set_2)|exact HI0.out)) (bK HO151.out) (b7_)) hk (fun _ h=>h.2)) (fun _ h=>h.1));have n2_:=Aside0.mk (KeepBut.trans (b0_) hk (.inl rfl));have n3_:=Aside0.mk (hb);have n4_:=Aside0.mk (hi);clear HO_3 HO151 HK HB;(try clear HI0);have HO_3:=n0_;have HO151:=n1_;have HK:=n2_;have HB:=n3_;have HI0:=n4_;clear n0_ n1_ n2_ n3_ n4_;(try clear hb);(try clear hb2);(try clear hk);(try clear hi);have p50:0≤(0:Int):=(b9_);have q50:(0:Int) < ((x3_2.length:Int):Int):=of_decide_eq_true (bD);have qi50:(0 < x3_2.length)=True:=eq_true (b9_);obtain⟨go50,co50,eo50,gb50,gl50,cl50,HG50⟩:=Kd.R_form HO_3.out (b9_);(first|cases eo50|(injection eo50 with ea_ en_ ec_;(first|subst ea_|(injection ea_ with ea_;subst ea_));subst ec_;clear en_));have GB50:=Aside0.mk gb50;have GG50:=Aside0.mk HG50;clear gb50 gl50 HG50;obtain⟨ce50,hcl50,hM50,hcc50,hfr50⟩:=Kd.R_elem HO_3.out z58 (0:Int) p50 q50;obtain rfl:=k58_openM hM50;have hx50_0:w56.cell? ⟨go50,(0:Int).toNat * 5,none⟩=some (.int .i64 ((rd_T58 x3_2 0).f0)):=hcc50 0 _ rfl;have hx50_1:w56.cell? ⟨go50,(0:Int).toNat * 5+1,none⟩=some (.int .i64 ((rd_T58 x3_2 0).f1)):=hcc50 1 _ rfl;have hx50_2:w56.cell? ⟨go50,(0:Int).toNat * 5+2,none⟩=some (.int .i64 ((rd_T58 x3_2 0).f2)):=hcc50 2 _ rfl;have hx50_3:w56.cell? ⟨go50,(0:Int).toNat * 5+3,none⟩=some (.int .i64 ((rd_T58 x3_2 0).f3)):=hcc50 3 _ rfl;have hx50_4:w56.cell? ⟨go50,(0:Int).toNat * 5+4,none⟩=some (.int .i64 ((rd_T58 x3_2 0).f4)):=hcc50 4 _ rfl;have hf50_0:w56.frozen? ⟨go50,(0:Int).toNat * 5,none⟩=false:=hfr50 0;have hf50_1:w56.frozen? ⟨go50,(0:Int).toNat * 5+1,none⟩=false:=hfr50 1;have hf50_2:w56.frozen? ⟨go50,(0:Int).toNat * 5+2,none⟩=false:=hfr50 2;have hf50_3:w56.frozen? ⟨go50,(0:Int).toNat * 5+3,none⟩=false:=hfr50 3;have hf50_4:w56.frozen? ⟨go50,(0:Int).toNat * 5+4,none⟩=false:=hfr50 4;clear hcl50 hcc50 hfr50 hM50;(try rw[show((0:Int)).toNat=0 from rfl] at hx50_0);(try simp only[Nat.reduceMul,Nat.zero_mul,Nat.zero_add,Nat.reduceAdd] at hx50_0);(try rw[show((0:Int)).toNat=0 from rfl] at hf50_0);(try simp only[Nat.reduceMul,Nat.zero_mul,Nat.zero_add,Nat.reduceAdd] at hf50_0);(try rw[show((0:Int)).toNat=0 from rfl] at hx50_1);(try simp only[Nat.reduceMul,Nat.zero_mul,Nat.zero_add,Nat.reduceAdd] at hx50_1);(try rw[show((0:Int)).toNat=0 from rfl] at hf50_1);(try simp only[Nat.reduceMul,Nat.zero_mul,Nat.zero_add,Nat.reduceAdd] at hf50_1);(try rw[show((0:Int)).toNat=0 from rfl] at hx50_2);(try simp only[Nat.reduceMul,Nat.zero_mul,Nat.zero_add,Nat.reduceAdd] at hx50_2);(try rw[show((0:Int)).toNat=0 from rfl] at hf50_2);(try simp only[Nat.reduceMul,Nat.zero_mul,Nat.zero_add,Nat.reduceAdd] at hf50_2);(try rw[show((0:Int)).toNat=0 from rfl] at hx50_3);(try simp only[Nat.reduceMul,Nat.zero_mul,Nat.zero_add,Nat.reduceAdd] at hx50_3);(try rw[show((0:Int)).toNat=0 from rfl] at hf50_3);(try simp only[Nat.reduceMul,Nat.zero_mul,Nat.zero_add,Nat.reduceAdd] at hf50_3);(try rw[show((0:Int)).toNat=0 from rfl] at hx50_4);(try simp only[Nat.reduceMul,Nat.zero_mul,Nat.zero_add,Nat.reduceAdd] at hx50_4);(try rw[show((0:Int)).toNat=0 from rfl] at hf50_4);(try simp only[Nat.reduceMul,Nat.zero_mul,Nat.zero_add,Nat.reduceAdd] at hf50_4);replace p50:=eq_true p50;replace q50:=eq_true q50;have HX57:=Aside0.mk (show Kd.R k58 58 w56 w.heap.size (fun _=>True) (.slice (some ⟨go50,0,none⟩) x3_2.length co51) x3_2 from (bK HO_3.out));obtain⟨ce57,hcl57,hM57,hcc57,hfr57⟩:=Kd.R_elem HX57.out z58 (0:Int) (b9_) (by have h_:(0:Int) < ((x3_2.length:Int):Int):=of_decide_eq_true (bD);first|exact h_|(have e_:=(Kd.R_reads' HO_3.out).1;omega)|simpa using h_);obtain rfl:=k58_openM hM57;have HP57:=Kd.R_seg HX57.out (0:Int) (b9_) (by have h_:(0:Int) < ((x3_2.length:Int):Int):=of_decide_eq_true (bD);first|exact h_|(have e_:=(Kd.R_reads' HO_3.out).1;omega)|simpa using h_) (seg:=[.int .i64 t152]) (j:=3) hcl57 hcc57 (show 4≤5 from by decide) (x':=(⟨(rd_T58 x3_2 0).f0,(rd_T58 x3_2 0).f1,(rd_T58 x3_2 0).f2,t152,(rd_T58 x3_2 0).f4⟩:S58)) (k58_mkM _ _ _ (⟨(rd_T58 x3_2 0).f0,(rd_T58 x3_2 0).f1,(rd_T58 x3_2 0).f2,t152,(rd_T58 x3_2 0).f4⟩:S58) ) (fun _ hk=>hk);have hx57_3:=hcc57 3 _ rfl;(try simp only[show(k58).sz=5 from rfl,Nat.mul_one,Nat.add_zero] at hx57_3);(try rw[show((0:Int)).toNat=0 from rfl] at hx57_3);(try simp only[Nat.reduceMul,Nat.zero_mul,Nat.zero_add,Nat.reduceAdd] at hx57_3);have hf57_3:=hfr57 3;(try simp only[show(k58).sz=5 from rfl,Nat.mul_one,Nat.add_zero] at hf57_3);(try rw[show((0:Int)).toNat=0 from rfl] at hf57_3);(try simp only[Nat.reduceMul,Nat.zero_mul,Nat.zero_add,Nat.reduceAdd] at hf57_3);clear hcl57 hcc57 hfr57 hM57)|((with_reducible refine gate_store (t:=3) (p:=59) rfl ?_);refine store_event (t:=3) (p:=59) (v:=?vo_w58) (w1:=(w56.setCell ⟨go50,3,none⟩ (.int .i64 t152))) ?hg ?ho ?hn ?hr ?_;(case ho=>rfl);(case hg=>rfl);(case hn=>rfl);(case hr=>first|(go_simp;done)|(go_simp;rfl));intro w58 hw;have hg:w56.grownBy w58 (some go50):=(by rw[hw];exact HP57.2);have hp_:Kd.R k58 58 w58 w.heap.size (fun _=>True) (.slice (some ⟨go50,0,none⟩) x3_2.length co51) y155:=(by rw[hw,Ny155.out];exact HP57.1);clear HP57;have n0_:=Aside0.mk (hp_);have n1_:=Aside0.mk (IsS47.grown (b6_) hg (IsS47.own_ne HI0.out HO_3.out (b7_)));have n2_:=Aside0.mk (Kd.R_over' (v:=(.slice (some ⟨go50,0,none⟩) x3_2.length co51)) (bK HO151.out) (Kd.R_typed HO_3.out) (b7_) hg);have n3_:=Aside0.mk ((by rw[hw];exact below_set (HB.out) (Nat.le_trans HL.out GB50.out):Below w0.heap.size w0 w58));have n4_:=Aside0.mk (KeepBut.trans (b0_) (KeepBut.of_grown hg g) (Kd.R_base2 HO_3.out));clear HO_3;(try clear HI0);clear HO151 HB HK;have HO_3:=n0_;have HI0:=n1_;have HO151:=n2_;have HB:=n3_;have HK:=n4_;clear n0_ n1_ n2_ n3_ n4_;clear hg hw hp_))
         go_ret
         exact⟨_,by first|rfl|(simp[errW_none,errW_some]<;>rfl)|(simp[*,errW_none,errW_some]<;>rfl),by(with_reducible repeat (first|apply Kd.R_alloc|apply Kd.R_drewN|apply Kd.R_drew));exact HO_3.out,b17_,by repeat (first|(with_reducible first|exact HB.out|apply below_alloc|apply pw_below_drewN|apply below_drew1|refine below_set ?_ (IsS47.ge HI0.out))|exact HB.out),b16_⟩
        ·rw[if_neg c49] at H
         exact absurd H (by simp)
       ·replace c47:=Bool.eq_false_iff.mpr c47
        subst c47
        have H1:(some (x3_2,t147,t148))=some (r1,r2,r3):=by rw[if_neg (show ¬ (false=true) by decide)] at H;exact H
        clear H
        have H:=H1
        clear H1
        simp only[Option.some.injEq,Prod.mk.injEq] at H
        obtain⟨rfl,rfl,rfl⟩:=H
        obtain⟨Ao59,co59,eo59⟩:=Kd.R_slice HO_3.out
        subst eo59
        go_wp2_with (first|(go_at_call 37;(with_reducible refine(spec_l1Cur_one.calls g s0_0 x1001_2 x1002_2 30 false t147 t148 w0 _ ?side1 ?side2 A46.out).mono ?_);(case side1=>exact b11_);(case side2=>exact b10_);rintro e w60 ⟨rfl,hi,hb,hk⟩;have n0_:=Aside0.mk (Kd.R_mono (Kd.R_keep (IsS47.apart (show IsS47 w0 _ g s0_0 x1001_2 x1002_2 from by repeat (first|(with_reducible first|exact HI0.out|apply IsS47.alloc|apply IsS47.drewN|apply IsS47.drew|apply IsS47.set_1|apply IsS47.set_2)|exact HI0.out)) (bK HO_3.out) (b7_)) hk (fun _ h=>h.2)) (fun _ h=>h.1));have n1_:=Aside0.mk (KeepBut.trans (b0_) hk (.inl rfl));have n2_:=Aside0.mk (hb);have n3_:=Aside0.mk (hi);clear HO_3 HK HB;(try clear HI0);have HO_3:=n0_;have HK:=n1_;have HB:=n2_;have HI0:=n3_;clear n0_ n1_ n2_ n3_;(try clear hb);(try clear hb2);(try clear hk);(try clear hi)))
        go_ret
        exact⟨_,by first|rfl|(simp[errW_none,errW_some]<;>rfl)|(simp[*,errW_none,errW_some]<;>rfl),by(with_reducible repeat (first|apply Kd.R_alloc|apply Kd.R_drewN|apply Kd.R_drew));exact HO_3.out,b17_,by repeat (first|(with_reducible first|exact HB.out|apply below_alloc|apply pw_below_drewN|apply below_drew1|refine below_set ?_ (IsS47.ge HI0.out))|exact HB.out),b16_⟩
      ·rw[if_neg c45] at H
       have c45b0:decide (0 < (x3_2.length:Int))=false:=decide_eq_false c45
       have c45b1:decide (0 < x3_2.length)=false:=decide_eq_false (b9_)
       clear c45
       simp only[Option.some.injEq,Prod.mk.injEq] at H
       obtain⟨rfl,rfl,rfl⟩:=H
       obtain⟨Ao61,co61,eo61⟩:=Kd.R_slice HO_3.out
       subst eo61
       go_wp2
       go_ret
       exact⟨_,by first|rfl|(simp[errW_none,errW_some]<;>rfl)|(simp[*,errW_none,errW_some]<;>rfl),by(with_reducible repeat (first|apply Kd.R_alloc|apply Kd.R_drewN|apply Kd.R_drew));exact HO_3.out,b17_,by repeat (first|(with_reducible first|exact HB.out|apply below_alloc|apply pw_below_drewN|apply below_drew1|refine below_set ?_ (IsS47.ge HI0.out))|exact HB.out),b16_⟩

end Go.Proofs.Ytanegdfncfkinaa.XFnFlood
