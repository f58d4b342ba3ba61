-- Written by this session's own program (wip/xprint.py) out of the translation; Lean checks it.
import Derived.Test.YteneeohaoplpbaaXFnSprayx0
namespace Go.Proofs.Yteneeohaoplpbaa.XFnSpray
open Go.RowKit Go.Proofs.YteneeohaoplpbaaW.PrintWords Go.Proofs.YteneeohaoplpbaaW.PrintLast Go.Proofs.YteneeohaoplpbaaW.PrintMore
open Go.Proofs.YteneeohaoplpbaaW.PrintWords.Aside0 renaming mk → am
open List renaming setIfInBounds_toArray → zA, set_cons_zero → zB, set_cons_succ → zC
attribute [local go_sem] max2_int min2_int max_two min_two max_three min_three max_four min_four   -- for this text's walks alone
set_option linter.unusedVariables false
set_option linter.unusedSimpArgs false

/-- A state of type 138 at block g of W; what its slices lead to came in by w0. -/
def IsS138 (w0 W:World) (g:Nat) (f0:List Int) (f1:Int) (f2:Int):Prop:=∃ A0 c0,W.heap[g]?=some (.cells #[.slice A0 f0.length c0,.int .i64 f1,.int .u64 f2] 138 (0,0))∧w0.heap.size≤g∧Kd.C (Kd.int .u8) w0 A0 f0.length f0
theorem IsS138.grown {w0 W:World} {g:Nat} {f0:List Int} {f1:Int} {f2:Int} {W1:World} {row:Option Nat} (h:IsS138 w0 W g f0 f1 f2) (hw:W.grownBy W1 row) (hne:some g≠row):IsS138 w0 W1 g f0 f1 f2:=by
 obtain⟨A0,c0,hb,hg,hr0⟩:=h
 exact⟨A0,c0,blk_grown hb hw hne,hg,hr0⟩
theorem IsS138.own_neN {w0 W:World} {g:Nat} {f0:List Int} {f1:Int} {f2:Int} {α:Type} {d:Kd α} {e:Nat} {base:Nat} {ok:Nat→Prop} {v:Value} {xs:List α} (h:IsS138 w0 W g f0 f1 f2) (ho:Kd.N d e W base ok v xs) (ht:e≠138):some g≠v.ownBlock:=by
 obtain⟨A0,c0,hb,hg,hr0⟩:=h
 exact Kd.N_ne ho hb ht
theorem IsS138.fresh {w0 W:World} {g:Nat} {f0:List Int} {f1:Int} {f2:Int} (h:IsS138 w0 W g f0 f1 f2) : ∀ k,W.heap.size≤k→k≠g:=by
 obtain⟨A0,c0,hb,hg,hr0⟩:=h
 exact Kd.freshB hb
theorem IsS138.kept {w0 W:World} {g:Nat} {f0:List Int} {f1:Int} {f2:Int} {W1:World} {S:Nat→Prop} (h:IsS138 w0 W g f0 f1 f2) (hk:Kept W W1 S) (hne : ¬ S g):IsS138 w0 W1 g f0 f1 f2:=by
 obtain⟨A0,c0,hb,hg,hr0⟩:=h
 exact⟨A0,c0,blk_kept hb hk hne,hg,hr0⟩
theorem IsS138.below {w0 W:World} {g:Nat} {f0:List Int} {f1:Int} {f2:Int} {W1:World} (h:IsS138 w0 W g f0 f1 f2) (hw:Below W.heap.size W W1):IsS138 w0 W1 g f0 f1 f2:=h.grown (grown_of_below hw none) (by simp)
theorem IsS138.alloc {w0 W:World} {g:Nat} {f0:List Int} {f1:Int} {f2:Int} (h:IsS138 w0 W g f0 f1 f2) (o:Obj):IsS138 w0 (W.alloc o) g f0 f1 f2:=h.below (below_alloc (Below.refl _ _) o)
theorem IsS138.drewN {w0 W:World} {g:Nat} {f0:List Int} {f1:Int} {f2:Int} (h:IsS138 w0 W g f0 f1 f2) (m:Nat):IsS138 w0 (W.drewN m) g f0 f1 f2:=h
theorem IsS138.drew {w0 W:World} {g:Nat} {f0:List Int} {f1:Int} {f2:Int} (h:IsS138 w0 W g f0 f1 f2):IsS138 w0 W.drew g f0 f1 f2:=h
theorem IsS138.at_ {w0 W:World} {g:Nat} {f0:List Int} {f1:Int} {f2:Int} {w':World} {m:Nat} (hq:W.drewN m=w') (h:IsS138 w0 W g f0 f1 f2):IsS138 w0 w' g f0 f1 f2:=by subst hq;exact IsS138.drewN h m
theorem IsS138.apart {w0 W:World} {g:Nat} {f0:List Int} {f1:Int} {f2:Int} {α:Type} {d:Kd α} {e:Nat} {base:Nat} {ok:Nat→Prop} {v:Value} {xs:List α} (h:IsS138 w0 W g f0 f1 f2) (ho:d.R e W base ok v xs) (ht : ∀ q,q ∈ e::d.E→q≠138):d.R e W base (fun k=>ok k∧k≠g) v xs:=by
 obtain⟨A0,c0,hb,hg,hr0⟩:=h
 exact Kd.R_types ho hb ht
theorem IsS138.own_ne {w0 W:World} {g:Nat} {f0:List Int} {f1:Int} {f2:Int} {α:Type} {d:Kd α} {e:Nat} {base:Nat} {ok:Nat→Prop} {v:Value} {xs:List α} (h:IsS138 w0 W g f0 f1 f2) (ho:d.R e W base ok v xs) (ht:e≠138):some g≠v.ownBlock:=by
 obtain⟨A0,c0,hb,hg,hr0⟩:=h
 exact Kd.R_ne ho hb ht
theorem IsS138.apartQ {w0 W:World} {g:Nat} {f0:List Int} {f1:Int} {f2:Int} {α:Type} {d:Kd α} {e:Nat} {base:Nat} {ok:Nat→Prop} {v:Value} {xs:List α} (h:IsS138 w0 W g f0 f1 f2) (ho:d.Q e W base ok v xs) (ht : ∀ q,q ∈ e::d.E→q≠138):d.Q e W base (fun k=>ok k∧k≠g) v xs:=by
 obtain⟨A0,c0,hb,hg,hr0⟩:=h
 exact Kd.Q_types ho hb ht
theorem IsS138.own_neQ {w0 W:World} {g:Nat} {f0:List Int} {f1:Int} {f2:Int} {α:Type} {d:Kd α} {e:Nat} {base:Nat} {ok:Nat→Prop} {v:Value} {xs:List α} (h:IsS138 w0 W g f0 f1 f2) (ho:d.Q e W base ok v xs) (ht:e≠138):some g≠v.ownBlock:=by
 obtain⟨A0,c0,hb,hg,hr0⟩:=h
 exact Kd.Q_ne ho hb ht
theorem IsS138.apartS {w0 W:World} {g:Nat} {f0:List Int} {f1:Int} {f2:Int} {α:Type} {d:Kd α} {e:Nat} {base:Nat} {ok:Nat→Prop} {v:Value} {xs:List α} (h:IsS138 w0 W g f0 f1 f2) (ho:d.S e W base ok v xs) (ht : ∀ q,q ∈ e::d.E→q≠138):d.S e W base (fun k=>ok k∧k≠g) v xs:=by
 obtain⟨A0,c0,hb,hg,hr0⟩:=h
 exact Kd.S_types ho hb ht
theorem IsS138.own_neS {w0 W:World} {g:Nat} {f0:List Int} {f1:Int} {f2:Int} {α:Type} {d:Kd α} {e:Nat} {base:Nat} {ok:Nat→Prop} {v:Value} {xs:List α} (h:IsS138 w0 W g f0 f1 f2) (ho:d.S e W base ok v xs) (ht:e≠138):some g≠v.ownBlock:=by
 obtain⟨A0,c0,hb,hg,hr0⟩:=h
 exact Kd.S_ne ho hb ht
theorem IsS138.lt {w0 W:World} {g:Nat} {f0:List Int} {f1:Int} {f2:Int} (h:IsS138 w0 W g f0 f1 f2):g < W.heap.size:=by
 obtain⟨A0,c0,hb,hg,hr0⟩:=h
 exact blk_lt hb
theorem IsS138.ge {w0 W:World} {g:Nat} {f0:List Int} {f1:Int} {f2:Int} (h:IsS138 w0 W g f0 f1 f2):w0.heap.size≤g:=by
 obtain⟨A0,c0,hb,hg,hr0⟩:=h
 exact hg
theorem IsS138.ne_blk {w0 W:World} {g:Nat} {f0:List Int} {f1:Int} {f2:Int} {a:Nat} {cs:Array Value} {t:TypeId} {fr:Nat × Nat} (h:IsS138 w0 W g f0 f1 f2) (hb2:W.heap[a]?=some (.cells cs t fr)) (ht:t≠138):g≠a:=by
 obtain⟨A0,c0,hb,hg,hr0⟩:=h
 rintro rfl
 rw[hb] at hb2
 injection hb2 with hb2
 injection hb2 with _ ht2
 exact ht ht2.symm
theorem IsS138.far {w0 W:World} {g:Nat} {f0:List Int} {f1:Int} {f2:Int} {p:Addr} (h:IsS138 w0 W g f0 f1 f2) (hne:g≠p.block) (u:Value):IsS138 w0 (W.setCell p u) g f0 f1 f2:=by
 obtain⟨A0,c0,hb,hg,hr0⟩:=h
 exact⟨A0,c0,blk_far hb hne u,hg,hr0⟩
theorem cellS138_0 {W:World} {g:Nat} {A0:Option Addr} {c0:Nat} {f0:List Int} {f1:Int} {f2:Int} (h:W.heap[g]?=some (.cells #[.slice A0 f0.length c0,.int .i64 f1,.int .u64 f2] 138 (0,0))):W.cell? ⟨g,0,none⟩=some (.slice A0 f0.length c0):=(blk_cell h 0).trans rfl
theorem cellS138_1 {W:World} {g:Nat} {A0:Option Addr} {c0:Nat} {f0:List Int} {f1:Int} {f2:Int} (h:W.heap[g]?=some (.cells #[.slice A0 f0.length c0,.int .i64 f1,.int .u64 f2] 138 (0,0))):W.cell? ⟨g,1,none⟩=some (.int .i64 f1):=(blk_cell h 1).trans rfl
theorem IsS138.set_1 {w0 W:World} {g:Nat} {f0:List Int} {f1:Int} {f2:Int} (h:IsS138 w0 W g f0 f1 f2) (x:Int):IsS138 w0 (W.setCell ⟨g,1,none⟩ (.int .i64 x)) g f0 x f2:=by
 obtain⟨A0,c0,hb,hg,hr0⟩:=h
 exact⟨A0,c0,by simpa using blk_set hb 1 (.int .i64 x),hg,hr0⟩
theorem cellS138_2 {W:World} {g:Nat} {A0:Option Addr} {c0:Nat} {f0:List Int} {f1:Int} {f2:Int} (h:W.heap[g]?=some (.cells #[.slice A0 f0.length c0,.int .i64 f1,.int .u64 f2] 138 (0,0))):W.cell? ⟨g,2,none⟩=some (.int .u64 f2):=(blk_cell h 2).trans rfl
theorem IsS138.set_2 {w0 W:World} {g:Nat} {f0:List Int} {f1:Int} {f2:Int} (h:IsS138 w0 W g f0 f1 f2) (x:Int):IsS138 w0 (W.setCell ⟨g,2,none⟩ (.int .u64 x)) g f0 f1 x:=by
 obtain⟨A0,c0,hb,hg,hr0⟩:=h
 exact⟨A0,c0,by simpa using blk_set hb 2 (.int .u64 x),hg,hr0⟩
theorem IsS138.new (w0 W:World) (A0:Option Addr) (c0:Nat) (f0:List Int) (f1:Int) (f2:Int) (hB:Below w0.heap.size w0 W) (hr0:Kd.C (Kd.int .u8) w0 A0 f0.length f0):IsS138 w0 (W.alloc (.cells #[.slice A0 f0.length c0,.int .i64 f1,.int .u64 f2] 138)) W.heap.size f0 f1 f2:=⟨A0,c0,by simpa using heap_alloc_new W _,hB.size,hr0⟩

/-! ### spec_l1Cur_next: function 156 -/
def spec_l1Cur_next.f (s0_0:List Int) (s0_1:Int) (s0_2:Int):Option (Int × Int × Int):=if s0_1 < (s0_0.length:Int) then (if 0≤s0_1 then (if (wrap64 (s0_1+1))≤(s0_0.length:Int) then (some (wrap64 (rd s0_0 s0_1),wrap64 (s0_1+1),IntKind.u64.wrap ((IntKind.u64.wrap ((IntKind.u64.wrap (s0_2 * 6364136223846793005))+(IntKind.u64.wrap (wrap64 (rd s0_0 s0_1)))))+1442695040888963407))) else (some (wrap64 (Go.bits .and .u64 ((IntKind.u64.wrap ((IntKind.u64.wrap ((IntKind.u64.wrap (s0_2 * 6364136223846793005))+(IntKind.u64.wrap (wrap64 (rd s0_0 s0_1)))))+1442695040888963407)) / 1099511627776) 255),wrap64 (s0_1+1),IntKind.u64.wrap ((IntKind.u64.wrap ((IntKind.u64.wrap (s0_2 * 6364136223846793005))+(IntKind.u64.wrap (wrap64 (rd s0_0 s0_1)))))+1442695040888963407)))) else (none)) else (if (wrap64 (s0_1+1))≤(s0_0.length:Int) then (some (0,wrap64 (s0_1+1),IntKind.u64.wrap ((IntKind.u64.wrap ((IntKind.u64.wrap (s0_2 * 6364136223846793005))))+1442695040888963407))) else (some (wrap64 (Go.bits .and .u64 ((IntKind.u64.wrap ((IntKind.u64.wrap ((IntKind.u64.wrap (s0_2 * 6364136223846793005))))+1442695040888963407)) / 1099511627776) 255),wrap64 (s0_1+1),IntKind.u64.wrap ((IntKind.u64.wrap ((IntKind.u64.wrap (s0_2 * 6364136223846793005))))+1442695040888963407))))
set_option maxHeartbeats 8000000 in
set_option maxRecDepth 100000 in
theorem spec_l1Cur_next.calls (g:Nat) (s0_0:List Int) (s0_1:Int) (s0_2:Int) (r1:Int) (r2:Int) (r3:Int) (w0 w:World) (hI:IsS138 w0 w g s0_0 s0_1 s0_2) (hB:Below w0.heap.size w0 w) (h:spec_l1Cur_next.f s0_0 s0_1 s0_2=some (r1,r2,r3)) :
  Calls Try.prog 156 #[.pointer (some ⟨g,0,none⟩)] w fun e w'=>e=.returned (.int .i64 r1)∧IsS138 w0 w' g s0_0 r2 r3∧Below w0.heap.size w0 w'∧KeepBut w w' g none:=by
 have HI0:=am hI
 have HK:=am (KeepBut.refl w g none)
 have HL:=am hB.size
 clear hI
 have HW0:=am hB.size
 have HB:=am hB
 clear hB
 have H:(if s0_1 < (s0_0.length:Int) then (if 0≤s0_1 then (if (wrap64 (s0_1+1))≤(s0_0.length:Int) then (some (wrap64 (rd s0_0 s0_1),wrap64 (s0_1+1),IntKind.u64.wrap ((IntKind.u64.wrap ((IntKind.u64.wrap (s0_2 * 6364136223846793005))+(IntKind.u64.wrap (wrap64 (rd s0_0 s0_1)))))+1442695040888963407))) else (some (wrap64 (Go.bits .and .u64 ((IntKind.u64.wrap ((IntKind.u64.wrap ((IntKind.u64.wrap (s0_2 * 6364136223846793005))+(IntKind.u64.wrap (wrap64 (rd s0_0 s0_1)))))+1442695040888963407)) / 1099511627776) 255),wrap64 (s0_1+1),IntKind.u64.wrap ((IntKind.u64.wrap ((IntKind.u64.wrap (s0_2 * 6364136223846793005))+(IntKind.u64.wrap (wrap64 (rd s0_0 s0_1)))))+1442695040888963407)))) else (none)) else (if (wrap64 (s0_1+1))≤(s0_0.length:Int) then (some (0,wrap64 (s0_1+1),IntKind.u64.wrap ((IntKind.u64.wrap ((IntKind.u64.wrap (s0_2 * 6364136223846793005))))+1442695040888963407))) else (some (wrap64 (Go.bits .and .u64 ((IntKind.u64.wrap ((IntKind.u64.wrap ((IntKind.u64.wrap (s0_2 * 6364136223846793005))))+1442695040888963407)) / 1099511627776) 255),wrap64 (s0_1+1),IntKind.u64.wrap ((IntKind.u64.wrap ((IntKind.u64.wrap (s0_2 * 6364136223846793005))))+1442695040888963407)))))=some (r1,r2,r3):=h
 clear h
 by_cases c2:s0_1 < (s0_0.length:Int)
 ·rw[if_pos c2] at H
  have c2b0:decide (s0_1 < (s0_0.length:Int))=true:=decide_eq_true c2
  clear c2
  by_cases c3:0≤s0_1
  ·rw[if_pos c3] at H
   have c3b0:decide (0≤s0_1)=true:=decide_eq_true c3
   clear c3
   by_cases c4:(wrap64 (s0_1+1))≤(s0_0.length:Int)
   ·rw[if_pos c4] at H
    have c4b0:decide ((wrap64 (s0_1+1))≤(s0_0.length:Int))=true:=decide_eq_true c4
    clear c4
    simp only[Option.some.injEq,Prod.mk.injEq] at H
    obtain⟨rfl,rfl,rfl⟩:=H
    obtain⟨ASz5_0,cSz5_0,HGz5,hgz5,HSz5_0⟩:=HI0.out
    have hcz5_0:=cellS138_0 HGz5
    have hcz5_1:=cellS138_1 HGz5
    have hcz5_2:=cellS138_2 HGz5
    have hfz5_1:=blk_frozen HGz5 1
    have hfz5_2:=blk_frozen HGz5 2
    clear HGz5 hgz5
    have p101:0≤(s0_1:Int):=bD_
    have q101:s0_1 < (s0_0.length:Int):=bD_
    obtain⟨ad101,e101,hx101_0⟩:=Kd.at_int HSz5_0 s0_1 p101 q101
    cases e101
    replace hx101_0:=pw_cell_below HB.out hx101_0
    replace p101:=eq_true p101
    replace q101:=eq_true q101
    go_enter Try.func156,Try.ntmps156
    go_wp2
    repeat (go_quiet (fail);try go_wp2)
    go_ret
    exact⟨bE,b53_,by repeat (first|(with_reducible first|exact HB.out|apply below_alloc|apply pw_below_drewN|apply below_drew1|refine below_set ?_ (IsS138.ge HI0.out))|exact HB.out),b51_⟩
   ·rw[if_neg c4] at H
    have c4b0:decide ((wrap64 (s0_1+1))≤(s0_0.length:Int))=false:=decide_eq_false c4
    clear c4
    simp only[Option.some.injEq,Prod.mk.injEq] at H
    obtain⟨rfl,rfl,rfl⟩:=H
    obtain⟨ASz6_0,cSz6_0,HGz6,hgz6,HSz6_0⟩:=HI0.out
    have hcz6_0:=cellS138_0 HGz6
    have hcz6_1:=cellS138_1 HGz6
    have hcz6_2:=cellS138_2 HGz6
    have hfz6_1:=blk_frozen HGz6 1
    have hfz6_2:=blk_frozen HGz6 2
    clear HGz6 hgz6
    have p101:0≤(s0_1:Int):=bD_
    have q101:s0_1 < (s0_0.length:Int):=bD_
    obtain⟨ad101,e101,hx101_0⟩:=Kd.at_int HSz6_0 s0_1 p101 q101
    cases e101
    replace hx101_0:=pw_cell_below HB.out hx101_0
    replace p101:=eq_true p101
    replace q101:=eq_true q101
    go_enter Try.func156,Try.ntmps156
    go_wp2
    repeat (go_quiet (fail);try go_wp2)
    go_ret
    exact⟨bE,b53_,by repeat (first|(with_reducible first|exact HB.out|apply below_alloc|apply pw_below_drewN|apply below_drew1|refine below_set ?_ (IsS138.ge HI0.out))|exact HB.out),b51_⟩
  ·rw[if_neg c3] at H
   exact absurd H (by simp)
 ·rw[if_neg c2] at H
  have c2b0:decide (s0_1 < (s0_0.length:Int))=false:=decide_eq_false c2
  clear c2
  by_cases c7:(wrap64 (s0_1+1))≤(s0_0.length:Int)
  ·rw[if_pos c7] at H
   have c7b0:decide ((wrap64 (s0_1+1))≤(s0_0.length:Int))=true:=decide_eq_true c7
   clear c7
   simp only[Option.some.injEq,Prod.mk.injEq] at H
   obtain⟨rfl,rfl,rfl⟩:=H
   obtain⟨ASz8_0,cSz8_0,HGz8,hgz8,HSz8_0⟩:=HI0.out
   have hcz8_0:=cellS138_0 HGz8
   have hcz8_1:=cellS138_1 HGz8
   have hcz8_2:=cellS138_2 HGz8
   have hfz8_1:=blk_frozen HGz8 1
   have hfz8_2:=blk_frozen HGz8 2
   clear HGz8 hgz8
   go_enter Try.func156,Try.ntmps156
   go_wp2
   repeat (go_quiet (fail);try go_wp2)
   go_ret
   exact⟨bE,b53_,by repeat (first|(with_reducible first|exact HB.out|apply below_alloc|apply pw_below_drewN|apply below_drew1|refine below_set ?_ (IsS138.ge HI0.out))|exact HB.out),b51_⟩
  ·rw[if_neg c7] at H
   have c7b0:decide ((wrap64 (s0_1+1))≤(s0_0.length:Int))=false:=decide_eq_false c7
   clear c7
   simp only[Option.some.injEq,Prod.mk.injEq] at H
   obtain⟨rfl,rfl,rfl⟩:=H
   obtain⟨ASz9_0,cSz9_0,HGz9,hgz9,HSz9_0⟩:=HI0.out
   have hcz9_0:=cellS138_0 HGz9
   have hcz9_1:=cellS138_1 HGz9
   have hcz9_2:=cellS138_2 HGz9
   have hfz9_1:=blk_frozen HGz9 1
   have hfz9_2:=blk_frozen HGz9 2
   clear HGz9 hgz9
   go_enter Try.func156,Try.ntmps156
   go_wp2
   repeat (go_quiet (fail);try go_wp2)
   go_ret
   exact⟨bE,b53_,by repeat (first|(with_reducible first|exact HB.out|apply below_alloc|apply pw_below_drewN|apply below_drew1|refine below_set ?_ (IsS138.ge HI0.out))|exact HB.out),b51_⟩

/-! ### spec_l1Cur_pick: function 116 -/
def spec_l1Cur_pick.f (s0_0:List Int) (s0_1:Int) (s0_2:Int) (a1:Int):Option (Int × Int × Int):=if a1≤1 then (some (0,s0_1,s0_2)) else ((spec_l1Cur_next.f s0_0 s0_1 s0_2).bind fun bt102=>(if a1 > 200 then ((spec_l1Cur_next.f s0_0 bt102.2.1 bt102.2.2).bind fun bt105=>(if a1=0 then (none) else (some (Int.tmod (wrap64 ((wrap64 (bt102.1 * 256))+bt105.1)) a1,bt105.2.1,bt105.2.2)))) else (if a1=0 then (none) else (some (Int.tmod bt102.1 a1,bt102.2.1,bt102.2.2)))))
set_option maxHeartbeats 8000000 in
set_option maxRecDepth 100000 in
theorem spec_l1Cur_pick.calls (g:Nat) (s0_0:List Int) (s0_1:Int) (s0_2:Int) (a1:Int) (r1:Int) (r2:Int) (r3:Int) (w0 w:World) (hI:IsS138 w0 w g s0_0 s0_1 s0_2) (hB:Below w0.heap.size w0 w) (h:spec_l1Cur_pick.f s0_0 s0_1 s0_2 a1=some (r1,r2,r3)) :
  Calls Try.prog 116 #[.pointer (some ⟨g,0,none⟩),.int .i64 a1] w fun e w'=>e=.returned (.int .i64 r1)∧IsS138 w0 w' g s0_0 r2 r3∧Below w0.heap.size w0 w'∧KeepBut w w' g none:=by
 have HI0:=am hI
 have HK:=am (KeepBut.refl w g none)
 have HL:=am hB.size
 clear hI
 have HW0:=am hB.size
 have HB:=am hB
 clear hB
 have H:(if a1≤1 then (some (0,s0_1,s0_2)) else ((spec_l1Cur_next.f s0_0 s0_1 s0_2).bind fun bt102=>(if a1 > 200 then ((spec_l1Cur_next.f s0_0 bt102.2.1 bt102.2.2).bind fun bt105=>(if a1=0 then (none) else (some (Int.tmod (wrap64 ((wrap64 (bt102.1 * 256))+bt105.1)) a1,bt105.2.1,bt105.2.2)))) else (if a1=0 then (none) else (some (Int.tmod bt102.1 a1,bt102.2.1,bt102.2.2))))))=some (r1,r2,r3):=h
 clear h
 by_cases c3:a1≤1
 ·rw[if_pos c3] at H
  have c3b0:decide (a1≤1)=true:=decide_eq_true c3
  clear c3
  simp only[Option.some.injEq,Prod.mk.injEq] at H
  obtain⟨rfl,rfl,rfl⟩:=H
  go_enter Try.func116,Try.ntmps116
  go_wp2
  go_ret
  exact⟨bE,b53_,by repeat (first|(with_reducible first|exact HB.out|apply below_alloc|apply pw_below_drewN|apply below_drew1|refine below_set ?_ (IsS138.ge HI0.out))|exact HB.out),b51_⟩
 ·rw[if_neg c3] at H
  have c3b0:decide (a1≤1)=false:=decide_eq_false c3
  clear c3
  replace H:=bI_ H
  obtain⟨⟨t102,t103,t104⟩,A40,H⟩:=H
  replace H:(if a1 > 200 then ((spec_l1Cur_next.f s0_0 t103 t104).bind fun bt105=>(if a1=0 then (none) else (some (Int.tmod (wrap64 ((wrap64 (t102 * 256))+bt105.1)) a1,bt105.2.1,bt105.2.2)))) else (if a1=0 then (none) else (some (Int.tmod t102 a1,t103,t104))))=some (r1,r2,r3):=H
  have A4:=am A40
  clear A40
  by_cases c5:a1 > 200
  ·rw[if_pos c5] at H
   have c5b0:decide (200 < a1)=true:=decide_eq_true c5
   clear c5
   replace H:=bI_ H
   obtain⟨⟨t105,t106,t107⟩,A60,H⟩:=H
   replace H:(if a1=0 then (none) else (some (Int.tmod (wrap64 ((wrap64 (t102 * 256))+t105)) a1,t106,t107)))=some (r1,r2,r3):=H
   have A6:=am A60
   clear A60
   by_cases c7:a1=0
   ·rw[if_pos c7] at H
    exact absurd H (by simp)
   ·rw[if_neg c7] at H
    have c7b0:(a1 == 0)=false:=beq_eq_false_iff_ne.mpr c7
    have c7b1:(a1 != 0)=true:=bne_iff_ne.mpr c7
    simp only[Option.some.injEq,Prod.mk.injEq] at H
    obtain⟨rfl,rfl,rfl⟩:=H
    go_enter Try.func116,Try.ntmps116
    go_wp2_with (first|((with_reducible refine gate_callee (f:=156) rfl ?_);refine goesA (some 9) rfl rfl Try.func156 #[.pointer (some ⟨g,0,none⟩)] rfl ?_;(with_reducible refine(spec_l1Cur_next.calls g s0_0 s0_1 s0_2 t102 t103 t104 w0 _ ?side1 ?side2 A4.out).mono ?_);(case side1=>exact b44_);(case side2=>exact b45_);rintro e w8 ⟨rfl,hi,hb,hk⟩;refine⟨_,rfl,?_⟩;have n0_:=am (KeepBut.trans (b0_) hk (.inl rfl));have n1_:=am (hb);have n2_:=am (hi);clear HK HB;(try clear HI0);have HK:=n0_;have HB:=n1_;have HI0:=n2_;clear n0_ n1_ n2_;(try clear hb);(try clear hb2);(try clear hk);(try clear hi))|((with_reducible refine gate_callee (f:=156) rfl ?_);refine goesA (some 15) rfl rfl Try.func156 #[.pointer (some ⟨g,0,none⟩)] rfl ?_;(with_reducible refine(spec_l1Cur_next.calls g s0_0 t103 t104 t105 t106 t107 w0 _ ?side1 ?side2 A6.out).mono ?_);(case side1=>exact b44_);(case side2=>exact b45_);rintro e w9 ⟨rfl,hi,hb,hk⟩;refine⟨_,rfl,?_⟩;have n0_:=am (KeepBut.trans (b0_) hk (.inl rfl));have n1_:=am (hb);have n2_:=am (hi);clear HK HB;(try clear HI0);have HK:=n0_;have HB:=n1_;have HI0:=n2_;clear n0_ n1_ n2_;(try clear hb);(try clear hb2);(try clear hk);(try clear hi)))
    go_ret
    exact⟨bE,b53_,by repeat (first|(with_reducible first|exact HB.out|apply below_alloc|apply pw_below_drewN|apply below_drew1|refine below_set ?_ (IsS138.ge HI0.out))|exact HB.out),b51_⟩
  ·rw[if_neg c5] at H
   have c5b0:decide (200 < a1)=false:=decide_eq_false c5
   clear c5
   by_cases c10:a1=0
   ·rw[if_pos c10] at H
    exact absurd H (by simp)
   ·rw[if_neg c10] at H
    have c10b0:(a1 == 0)=false:=beq_eq_false_iff_ne.mpr c10
    have c10b1:(a1 != 0)=true:=bne_iff_ne.mpr c10
    simp only[Option.some.injEq,Prod.mk.injEq] at H
    obtain⟨rfl,rfl,rfl⟩:=H
    go_enter Try.func116,Try.ntmps116
    go_wp2_with (first|((with_reducible refine gate_callee (f:=156) rfl ?_);refine goesA (some 9) rfl rfl Try.func156 #[.pointer (some ⟨g,0,none⟩)] rfl ?_;(with_reducible refine(spec_l1Cur_next.calls g s0_0 s0_1 s0_2 t102 t103 t104 w0 _ ?side1 ?side2 A4.out).mono ?_);(case side1=>exact b44_);(case side2=>exact b45_);rintro e w11 ⟨rfl,hi,hb,hk⟩;refine⟨_,rfl,?_⟩;have n0_:=am (KeepBut.trans (b0_) hk (.inl rfl));have n1_:=am (hb);have n2_:=am (hi);clear HK HB;(try clear HI0);have HK:=n0_;have HB:=n1_;have HI0:=n2_;clear n0_ n1_ n2_;(try clear hb);(try clear hb2);(try clear hk);(try clear hi)))
    go_ret
    exact⟨bE,b53_,by repeat (first|(with_reducible first|exact HB.out|apply below_alloc|apply pw_below_drewN|apply below_drew1|refine below_set ?_ (IsS138.ge HI0.out))|exact HB.out),b51_⟩

/-! ### spec_l1Cur_one: function 153 -/
def spec_l1Cur_one.f (s0_0:List Int) (s0_1:Int) (s0_2:Int) (a1:Int):Option (Bool × Int × Int):=(spec_l1Cur_pick.f s0_0 s0_1 s0_2 a1).bind fun bt108=>(some ((bt108.1 == 0),bt108.2.1,bt108.2.2))
set_option maxHeartbeats 8000000 in
set_option maxRecDepth 100000 in
theorem spec_l1Cur_one.calls (g:Nat) (s0_0:List Int) (s0_1:Int) (s0_2:Int) (a1:Int) (r1:Bool) (r2:Int) (r3:Int) (w0 w:World) (hI:IsS138 w0 w g s0_0 s0_1 s0_2) (hB:Below w0.heap.size w0 w) (h:spec_l1Cur_one.f s0_0 s0_1 s0_2 a1=some (r1,r2,r3)) :
  Calls Try.prog 153 #[.pointer (some ⟨g,0,none⟩),.int .i64 a1] w fun e w'=>e=.returned (.bool r1)∧IsS138 w0 w' g s0_0 r2 r3∧Below w0.heap.size w0 w'∧KeepBut w w' g none:=by
 have HI0:=am hI
 have HK:=am (KeepBut.refl w g none)
 have HL:=am hB.size
 clear hI
 have HW0:=am hB.size
 have HB:=am hB
 clear hB
 have H:((spec_l1Cur_pick.f s0_0 s0_1 s0_2 a1).bind fun bt108=>(some ((bt108.1 == 0),bt108.2.1,bt108.2.2)))=some (r1,r2,r3):=h
 clear h
 replace H:=bI_ H
 obtain⟨⟨t108,t109,t110⟩,A30,H⟩:=H
 replace H:(some ((t108 == 0),t109,t110))=some (r1,r2,r3):=H
 have A3:=am A30
 clear A30
 simp only[Option.some.injEq,Prod.mk.injEq] at H
 obtain⟨rfl,rfl,rfl⟩:=H
 go_enter Try.func153,Try.ntmps153
 go_wp2_with (first|((with_reducible refine gate_callee (f:=116) rfl ?_);refine goesA (some 7) rfl rfl Try.func116 #[.pointer (some ⟨g,0,none⟩),.int .i64 a1] rfl ?_;(with_reducible refine(spec_l1Cur_pick.calls g s0_0 s0_1 s0_2 a1 t108 t109 t110 w0 _ ?side1 ?side2 A3.out).mono ?_);(case side1=>exact b44_);(case side2=>exact b45_);rintro e w4 ⟨rfl,hi,hb,hk⟩;refine⟨_,rfl,?_⟩;have n0_:=am (KeepBut.trans (b0_) hk (.inl rfl));have n1_:=am (hb);have n2_:=am (hi);clear HK HB;(try clear HI0);have HK:=n0_;have HB:=n1_;have HI0:=n2_;clear n0_ n1_ n2_;(try clear hb);(try clear hb2);(try clear hk);(try clear hi)))
 go_ret
 exact⟨bE,b53_,by repeat (first|(with_reducible first|exact HB.out|apply below_alloc|apply pw_below_drewN|apply below_drew1|refine below_set ?_ (IsS138.ge HI0.out))|exact HB.out),b51_⟩

/-! ### spec_l1Cur_among: function 154 -/
def spec_l1Cur_among.f (s0_0:List Int) (s0_1:Int) (s0_2:Int) (l1:List Int):Option (Int × Int × Int):=(spec_l1Cur_pick.f s0_0 s0_1 s0_2 (l1.length:Int)).bind fun bt111=>(if 0≤bt111.1 then (if bt111.1 < (l1.length:Int) then (some (rd l1 bt111.1,bt111.2.1,bt111.2.2)) else (none)) else (none))
set_option maxHeartbeats 8000000 in
set_option maxRecDepth 100000 in
theorem spec_l1Cur_among.calls (g:Nat) (s0_0:List Int) (s0_1:Int) (s0_2:Int) (A1:Option Addr) (c1:Nat) (l1:List Int) (r1:Int) (r2:Int) (r3:Int) (w0 w:World) (hI:IsS138 w0 w g s0_0 s0_1 s0_2) (hB:Below w0.heap.size w0 w) (hr1:Kd.C (Kd.int .i64) w A1 l1.length l1) (hc1:l1.length≤c1) (hf1 : ∀ ad,A1=some ad→0 < l1.length→ad.block≠g) (h:spec_l1Cur_among.f s0_0 s0_1 s0_2 l1=some (r1,r2,r3)) :
  Calls Try.prog 154 #[.pointer (some ⟨g,0,none⟩),.slice A1 l1.length c1] w fun e w'=>e=.returned (.int .i64 r1)∧IsS138 w0 w' g s0_0 r2 r3∧Below w0.heap.size w0 w'∧KeepBut w w' g none:=by
 have HR1:=am hr1
 have HC1:=am hc1
 clear hr1 hc1
 have HI0:=am hI
 have HK:=am (KeepBut.refl w g none)
 have HL:=am hB.size
 clear hI
 have HW0:=am hB.size
 have HB:=am hB
 clear hB
 have H:((spec_l1Cur_pick.f s0_0 s0_1 s0_2 (l1.length:Int)).bind fun bt111=>(if 0≤bt111.1 then (if bt111.1 < (l1.length:Int) then (some (rd l1 bt111.1,bt111.2.1,bt111.2.2)) else (none)) else (none)))=some (r1,r2,r3):=h
 clear h
 replace H:=bI_ H
 obtain⟨⟨t111,t112,t113⟩,A30,H⟩:=H
 replace H:(if 0≤t111 then (if t111 < (l1.length:Int) then (some (rd l1 t111,t112,t113)) else (none)) else (none))=some (r1,r2,r3):=H
 have A3:=am A30
 clear A30
 by_cases c4:0≤t111
 ·rw[if_pos c4] at H
  have c4b0:decide (0≤t111)=true:=decide_eq_true c4
  clear c4
  by_cases c5:t111 < (l1.length:Int)
  ·rw[if_pos c5] at H
   have c5b0:decide (t111 < (l1.length:Int))=true:=decide_eq_true c5
   clear c5
   simp only[Option.some.injEq,Prod.mk.injEq] at H
   obtain⟨rfl,rfl,rfl⟩:=H
   go_enter Try.func154,Try.ntmps154
   go_wp2_with (first|((with_reducible refine gate_callee (f:=116) rfl ?_);refine goesA (some 9) rfl rfl Try.func116 #[.pointer (some ⟨g,0,none⟩),.int .i64 (l1.length:Int)] rfl ?_;(with_reducible refine(spec_l1Cur_pick.calls g s0_0 s0_1 s0_2 (l1.length:Int) t111 t112 t113 w0 _ ?side1 ?side2 A3.out).mono ?_);(case side1=>exact b44_);(case side2=>exact b45_);rintro e w6 ⟨rfl,hi,hb,hk⟩;refine⟨_,rfl,?_⟩;have n0_:=am (KeepBut.trans (b0_) hk (.inl rfl));have n1_:=am (hb);have n2_:=am (hi);clear HK HB;(try clear HI0);have HK:=n0_;have HB:=n1_;have HI0:=n2_;clear n0_ n1_ n2_;(try clear hb);(try clear hb2);(try clear hk);(try clear hi);have p114:0≤(t111:Int):=bD_;have q114:t111 < (l1.length:Int):=bD_;obtain⟨ad114,e114,hx114_0⟩:=Kd.at_int HR1.out t111 p114 q114;cases e114;replace hx114_0:=keep_cell HK.out hx114_0 (by first|(rw[add_block];exact hf1 _ rfl (by omega))|exact hf1 _ rfl (by omega)|exact hf1 ad114 rfl (by omega));replace p114:=eq_true p114;replace q114:=eq_true q114))
   go_ret
   exact⟨bE,b53_,by repeat (first|(with_reducible first|exact HB.out|apply below_alloc|apply pw_below_drewN|apply below_drew1|refine below_set ?_ (IsS138.ge HI0.out))|exact HB.out),b51_⟩
  ·rw[if_neg c5] at H
   exact absurd H (by simp)
 ·rw[if_neg c4] at H
  exact absurd H (by simp)

/-! ### spec_l1Cur_sprayOf: function 105 -/
def spec_l1Cur_sprayOf.f (s0_0:List Int) (s0_1:Int) (s0_2:Int):Option (Int × Int × Int × Int × Int × Int):=(spec_l1Cur_pick.f s0_0 s0_1 s0_2 5).bind fun bt115=>((spec_l1Cur_pick.f s0_0 bt115.2.1 bt115.2.2 (wrap64 (2+bt115.1))).bind fun bt118=>((spec_l1Cur_pick.f s0_0 bt118.2.1 bt118.2.2 (wrap64 (2+bt115.1))).bind fun bt121=>(if bt118.1=bt121.1 then ((spec_l1Cur_one.f s0_0 bt121.2.1 bt121.2.2 12).bind fun bt124=>(if bt124.1=true then ((spec_l1Cur_among.f s0_0 bt124.2.1 bt124.2.2 (([1,2,4,7,16,64,65,0]:List Int))).bind fun bt130=>(some (wrap64 (2+bt115.1),bt118.1,bt121.1,bt130.1,bt130.2.1,bt130.2.2))) else (if (wrap64 (2+bt115.1))=0 then (none) else ((spec_l1Cur_among.f s0_0 bt124.2.1 bt124.2.2 (([1,2,4,7,16,64,65,0]:List Int))).bind fun bt136=>(some (wrap64 (2+bt115.1),bt118.1,Int.tmod (wrap64 (bt118.1+1)) (wrap64 (2+bt115.1)),bt136.1,bt136.2.1,bt136.2.2)))))) else ((spec_l1Cur_among.f s0_0 bt121.2.1 bt121.2.2 (([1,2,4,7,16,64,65,0]:List Int))).bind fun bt142=>(some (wrap64 (2+bt115.1),bt118.1,bt121.1,bt142.1,bt142.2.1,bt142.2.2))))))
set_option maxHeartbeats 8000000 in
set_option maxRecDepth 100000 in
theorem spec_l1Cur_sprayOf.calls (g:Nat) (s0_0:List Int) (s0_1:Int) (s0_2:Int) (r1:Int) (r2:Int) (r3:Int) (r4:Int) (r5:Int) (r6:Int) (w0 w:World) (hI:IsS138 w0 w g s0_0 s0_1 s0_2) (hB:Below w0.heap.size w0 w) (h:spec_l1Cur_sprayOf.f s0_0 s0_1 s0_2=some (r1,r2,r3,r4,r5,r6)) :
  Calls Try.prog 105 #[.pointer (some ⟨g,0,none⟩)] w fun e w'=>e=.returned (.tuple #[.int .i64 r1,.int .i64 r2,.int .i64 r3,.int .i64 r4])∧IsS138 w0 w' g s0_0 r5 r6∧Below w0.heap.size w0 w'∧KeepBut w w' g none:=by
 have HI0:=am hI
 have HK:=am (KeepBut.refl w g none)
 have HL:=am hB.size
 clear hI
 have HW0:=am hB.size
 have HB:=am hB
 clear hB
 have H:((spec_l1Cur_pick.f s0_0 s0_1 s0_2 5).bind fun bt115=>((spec_l1Cur_pick.f s0_0 bt115.2.1 bt115.2.2 (wrap64 (2+bt115.1))).bind fun bt118=>((spec_l1Cur_pick.f s0_0 bt118.2.1 bt118.2.2 (wrap64 (2+bt115.1))).bind fun bt121=>(if bt118.1=bt121.1 then ((spec_l1Cur_one.f s0_0 bt121.2.1 bt121.2.2 12).bind fun bt124=>(if bt124.1=true then ((spec_l1Cur_among.f s0_0 bt124.2.1 bt124.2.2 (([1,2,4,7,16,64,65,0]:List Int))).bind fun bt130=>(some (wrap64 (2+bt115.1),bt118.1,bt121.1,bt130.1,bt130.2.1,bt130.2.2))) else (if (wrap64 (2+bt115.1))=0 then (none) else ((spec_l1Cur_among.f s0_0 bt124.2.1 bt124.2.2 (([1,2,4,7,16,64,65,0]:List Int))).bind fun bt136=>(some (wrap64 (2+bt115.1),bt118.1,Int.tmod (wrap64 (bt118.1+1)) (wrap64 (2+bt115.1)),bt136.1,bt136.2.1,bt136.2.2)))))) else ((spec_l1Cur_among.f s0_0 bt121.2.1 bt121.2.2 (([1,2,4,7,16,64,65,0]:List Int))).bind fun bt142=>(some (wrap64 (2+bt115.1),bt118.1,bt121.1,bt142.1,bt142.2.1,bt142.2.2)))))))=some (r1,r2,r3,r4,r5,r6):=h
 clear h
 replace H:=bI_ H
 obtain⟨⟨t115,t116,t117⟩,A20,H⟩:=H
 replace H:((spec_l1Cur_pick.f s0_0 t116 t117 (wrap64 (2+t115))).bind fun bt118=>((spec_l1Cur_pick.f s0_0 bt118.2.1 bt118.2.2 (wrap64 (2+t115))).bind fun bt121=>(if bt118.1=bt121.1 then ((spec_l1Cur_one.f s0_0 bt121.2.1 bt121.2.2 12).bind fun bt124=>(if bt124.1=true then ((spec_l1Cur_among.f s0_0 bt124.2.1 bt124.2.2 (([1,2,4,7,16,64,65,0]:List Int))).bind fun bt130=>(some (wrap64 (2+t115),bt118.1,bt121.1,bt130.1,bt130.2.1,bt130.2.2))) else (if (wrap64 (2+t115))=0 then (none) else ((spec_l1Cur_among.f s0_0 bt124.2.1 bt124.2.2 (([1,2,4,7,16,64,65,0]:List Int))).bind fun bt136=>(some (wrap64 (2+t115),bt118.1,Int.tmod (wrap64 (bt118.1+1)) (wrap64 (2+t115)),bt136.1,bt136.2.1,bt136.2.2)))))) else ((spec_l1Cur_among.f s0_0 bt121.2.1 bt121.2.2 (([1,2,4,7,16,64,65,0]:List Int))).bind fun bt142=>(some (wrap64 (2+t115),bt118.1,bt121.1,bt142.1,bt142.2.1,bt142.2.2))))))=some (r1,r2,r3,r4,r5,r6):=H
 have A2:=am A20
 clear A20
 replace H:=bI_ H
 obtain⟨⟨t118,t119,t120⟩,A30,H⟩:=H
 replace H:((spec_l1Cur_pick.f s0_0 t119 t120 (wrap64 (2+t115))).bind fun bt121=>(if t118=bt121.1 then ((spec_l1Cur_one.f s0_0 bt121.2.1 bt121.2.2 12).bind fun bt124=>(if bt124.1=true then ((spec_l1Cur_among.f s0_0 bt124.2.1 bt124.2.2 (([1,2,4,7,16,64,65,0]:List Int))).bind fun bt130=>(some (wrap64 (2+t115),t118,bt121.1,bt130.1,bt130.2.1,bt130.2.2))) else (if (wrap64 (2+t115))=0 then (none) else ((spec_l1Cur_among.f s0_0 bt124.2.1 bt124.2.2 (([1,2,4,7,16,64,65,0]:List Int))).bind fun bt136=>(some (wrap64 (2+t115),t118,Int.tmod (wrap64 (t118+1)) (wrap64 (2+t115)),bt136.1,bt136.2.1,bt136.2.2)))))) else ((spec_l1Cur_among.f s0_0 bt121.2.1 bt121.2.2 (([1,2,4,7,16,64,65,0]:List Int))).bind fun bt142=>(some (wrap64 (2+t115),t118,bt121.1,bt142.1,bt142.2.1,bt142.2.2)))))=some (r1,r2,r3,r4,r5,r6):=H
 have A3:=am A30
 clear A30
 replace H:=bI_ H
 obtain⟨⟨t121,t122,t123⟩,A40,H⟩:=H
 replace H:(if t118=t121 then ((spec_l1Cur_one.f s0_0 t122 t123 12).bind fun bt124=>(if bt124.1=true then ((spec_l1Cur_among.f s0_0 bt124.2.1 bt124.2.2 (([1,2,4,7,16,64,65,0]:List Int))).bind fun bt130=>(some (wrap64 (2+t115),t118,t121,bt130.1,bt130.2.1,bt130.2.2))) else (if (wrap64 (2+t115))=0 then (none) else ((spec_l1Cur_among.f s0_0 bt124.2.1 bt124.2.2 (([1,2,4,7,16,64,65,0]:List Int))).bind fun bt136=>(some (wrap64 (2+t115),t118,Int.tmod (wrap64 (t118+1)) (wrap64 (2+t115)),bt136.1,bt136.2.1,bt136.2.2)))))) else ((spec_l1Cur_among.f s0_0 t122 t123 (([1,2,4,7,16,64,65,0]:List Int))).bind fun bt142=>(some (wrap64 (2+t115),t118,t121,bt142.1,bt142.2.1,bt142.2.2))))=some (r1,r2,r3,r4,r5,r6):=H
 have A4:=am A40
 clear A40
 by_cases c5:t118=t121
 ·rw[if_pos c5] at H
  have c5b0:(t118 == t121)=true:=beq_iff_eq.mpr c5
  have c5b1:(t118 != t121)=false:=bne_eq_false_iff_eq.mpr c5
  clear c5
  replace H:=bI_ H
  obtain⟨⟨t124,t125,t126⟩,A60,H⟩:=H
  replace H:(if t124=true then ((spec_l1Cur_among.f s0_0 t125 t126 (([1,2,4,7,16,64,65,0]:List Int))).bind fun bt130=>(some (wrap64 (2+t115),t118,t121,bt130.1,bt130.2.1,bt130.2.2))) else (if (wrap64 (2+t115))=0 then (none) else ((spec_l1Cur_among.f s0_0 t125 t126 (([1,2,4,7,16,64,65,0]:List Int))).bind fun bt136=>(some (wrap64 (2+t115),t118,Int.tmod (wrap64 (t118+1)) (wrap64 (2+t115)),bt136.1,bt136.2.1,bt136.2.2)))))=some (r1,r2,r3,r4,r5,r6):=H
  have A6:=am A60
  clear A60
  by_cases c7:t124=true
  ·subst c7
   have H1:((spec_l1Cur_among.f s0_0 t125 t126 (([1,2,4,7,16,64,65,0]:List Int))).bind fun bt130=>(some (wrap64 (2+t115),t118,t121,bt130.1,bt130.2.1,bt130.2.2)))=some (r1,r2,r3,r4,r5,r6):=by rw[if_pos rfl] at H;exact H
   clear H
   have H:=H1
   clear H1
   obtain⟨y127,hy127⟩ : ∃ y_:List Int,y_=(([1,2,4,7,16,64,65,0]:List Int)):=⟨_,rfl⟩
   replace H:((spec_l1Cur_among.f s0_0 t125 t126 y127).bind fun bt130=>(some (wrap64 (2+t115),t118,t121,bt130.1,bt130.2.1,bt130.2.2)))=some (r1,r2,r3,r4,r5,r6):=by first|(rw[hy127];with_reducible exact H)|(have H2_:=(Option.bind_some _ _).symm.trans H;rw[hy127];with_reducible exact H2_)|(have H2_:=(Option.bind_some _ _).symm.trans H;with_reducible exact H2_)|with_reducible exact H|(rw[hy127];exact H)|exact H
   have Ny127:=am hy127
   clear hy127
   replace H:=bI_ H
   obtain⟨⟨t130,t131,t132⟩,A80,H⟩:=H
   replace H:(some (wrap64 (2+t115),t118,t121,t130,t131,t132))=some (r1,r2,r3,r4,r5,r6):=H
   have A8:=am A80
   clear A80
   simp only[Option.some.injEq,Prod.mk.injEq] at H
   obtain⟨rfl,rfl,rfl,rfl,rfl,rfl⟩:=H
   go_enter Try.func105,Try.ntmps105
   go_wp2_with (first|((with_reducible refine gate_callee (f:=116) rfl ?_);refine goesA (some 10) rfl rfl Try.func116 #[.pointer (some ⟨g,0,none⟩),.int .i64 5] rfl ?_;(with_reducible refine(spec_l1Cur_pick.calls g s0_0 s0_1 s0_2 5 t115 t116 t117 w0 _ ?side1 ?side2 A2.out).mono ?_);(case side1=>exact b44_);(case side2=>exact b45_);rintro e w9 ⟨rfl,hi,hb,hk⟩;refine⟨_,rfl,?_⟩;have n0_:=am (KeepBut.trans (b0_) hk (.inl rfl));have n1_:=am (hb);have n2_:=am (hi);clear HK HB;(try clear HI0);have HK:=n0_;have HB:=n1_;have HI0:=n2_;clear n0_ n1_ n2_;(try clear hb);(try clear hb2);(try clear hk);(try clear hi))|((with_reducible refine gate_callee (f:=116) rfl ?_);refine goesA (some 14) rfl rfl Try.func116 #[.pointer (some ⟨g,0,none⟩),.int .i64 (wrap64 (2+t115))] rfl ?_;(with_reducible refine(spec_l1Cur_pick.calls g s0_0 t116 t117 (wrap64 (2+t115)) t118 t119 t120 w0 _ ?side1 ?side2 A3.out).mono ?_);(case side1=>exact b44_);(case side2=>exact b45_);rintro e w10 ⟨rfl,hi,hb,hk⟩;refine⟨_,rfl,?_⟩;have n0_:=am (KeepBut.trans (b0_) hk (.inl rfl));have n1_:=am (hb);have n2_:=am (hi);clear HK HB;(try clear HI0);have HK:=n0_;have HB:=n1_;have HI0:=n2_;clear n0_ n1_ n2_;(try clear hb);(try clear hb2);(try clear hk);(try clear hi))|((with_reducible refine gate_callee (f:=116) rfl ?_);refine goesA (some 17) rfl rfl Try.func116 #[.pointer (some ⟨g,0,none⟩),.int .i64 (wrap64 (2+t115))] rfl ?_;(with_reducible refine(spec_l1Cur_pick.calls g s0_0 t119 t120 (wrap64 (2+t115)) t121 t122 t123 w0 _ ?side1 ?side2 A4.out).mono ?_);(case side1=>exact b44_);(case side2=>exact b45_);rintro e w11 ⟨rfl,hi,hb,hk⟩;refine⟨_,rfl,?_⟩;have n0_:=am (KeepBut.trans (b0_) hk (.inl rfl));have n1_:=am (hb);have n2_:=am (hi);clear HK HB;(try clear HI0);have HK:=n0_;have HB:=n1_;have HI0:=n2_;clear n0_ n1_ n2_;(try clear hb);(try clear hb2);(try clear hk);(try clear hi))|(go_at_call 153;(with_reducible refine(spec_l1Cur_one.calls g s0_0 t122 t123 12 true t125 t126 w0 _ ?side1 ?side2 A6.out).mono ?_);(case side1=>exact b44_);(case side2=>exact b45_);rintro e w12 ⟨rfl,hi,hb,hk⟩;have n0_:=am (KeepBut.trans (b0_) hk (.inl rfl));have n1_:=am (hb);have n2_:=am (hi);clear HK HB;(try clear HI0);have HK:=n0_;have HB:=n1_;have HI0:=n2_;clear n0_ n1_ n2_;(try clear hb);(try clear hb2);(try clear hk);(try clear hi))|((with_reducible refine gate_dst (N:=34) rfl ?_);refine Kd.R_lit (Kd.int .i64) _ 3 ?hg (N:=34) ?hd (xs:=([1,2,4,7,16,64,65,0]:List Int)) (inner:=[.int .i64 1,.int .i64 2,.int .i64 4,.int .i64 7,.int .i64 16,.int .i64 64,.int .i64 65,.int .i64 0]) (ok:=fun _=>True) (okp:=fun _=>True) ?hr ?hp (fun _ hk=>hk) trivial (Below.refl _ _) (Nat.le_refl _) (by simp) ?_;(case hd=>rfl);(case hg=>rfl);(case hr=>first|(go_simp;done)|(go_simp;rfl));(case hp=>exact(Reps.one (show Kd.M (Kd.int .i64) _ _ _ 1 [.int .i64 1] from rfl) (Reps.one (show Kd.M (Kd.int .i64) _ _ _ 2 [.int .i64 2] from rfl) (Reps.one (show Kd.M (Kd.int .i64) _ _ _ 4 [.int .i64 4] from rfl) (Reps.one (show Kd.M (Kd.int .i64) _ _ _ 7 [.int .i64 7] from rfl) (Reps.one (show Kd.M (Kd.int .i64) _ _ _ 16 [.int .i64 16] from rfl) (Reps.one (show Kd.M (Kd.int .i64) _ _ _ 64 [.int .i64 64] from rfl) (Reps.one (show Kd.M (Kd.int .i64) _ _ _ 65 [.int .i64 65] from rfl) (Reps.one (show Kd.M (Kd.int .i64) _ _ _ 0 [.int .i64 0] from rfl) (Reps.none _ _))))))))));intro v128 w13 ho14 hb hg_ hnew_;clear hg_ hnew_;(first|rw[← Ny127.out] at ho14|(simp only[Int.reduceToNat] at ho14;rw[← Ny127.out] at ho14));have n0_:=am (Kd.R_lower ho14 (keep_size (w:=w) (g:=g) (row:=none) (b0_)));have n1_:=am (IsS138.below (b19_) hb);have n2_:=am (KeepBut.trans (b0_) (KeepBut.of_below hb g none) (.inl rfl));have n3_:=am (below_step (b23_) hb);(try clear HI0);clear HK HB;have HO129:=n0_;have HI0:=n1_;have HK:=n2_;have HB:=n3_;clear n0_ n1_ n2_ n3_;clear hb ho14;obtain⟨Ao15,co15,eo15⟩:=Kd.R_slice HO129.out;subst eo15)|((with_reducible refine gate_callee (f:=154) rfl ?_);refine goesA (some 35) rfl rfl Try.func154 #[.pointer (some ⟨g,0,none⟩),.slice Ao15 y127.length co15] rfl ?_;(with_reducible refine(spec_l1Cur_among.calls g s0_0 t125 t126 _ _ y127 t130 t131 t132 w0 _ ?side1 ?side2 ?side3 ?side4 ?side5 A8.out).mono ?_);(case side1=>exact b44_);(case side2=>exact b45_);(case side3=>exact bT HO129.out);(case side4=>exact(Kd.R_reads' HO129.out).2.1);(case side5=>exact far_slice (IsS138.own_ne HI0.out HO129.out (b17_)));rintro e w16 ⟨rfl,hi,hb,hk⟩;refine⟨_,rfl,?_⟩;have n0_:=am (Kd.R_mono (Kd.R_keep (IsS138.apart (show IsS138 w0 _ g s0_0 t125 t126 from by repeat (first|(with_reducible first|exact HI0.out|apply IsS138.alloc|apply IsS138.drewN|apply IsS138.drew|apply IsS138.set_1|apply IsS138.set_2)|exact HI0.out)) (bK HO129.out) (b17_)) hk (fun _ h=>h.2)) (fun _ h=>h.1));have n1_:=am (KeepBut.trans (b0_) hk (.inl rfl));have n2_:=am (hb);have n3_:=am (hi);clear HO129 HK HB;(try clear HI0);have HO129:=n0_;have HK:=n1_;have HB:=n2_;have HI0:=n3_;clear n0_ n1_ n2_ n3_;(try clear hb);(try clear hb2);(try clear hk);(try clear hi)))
   refine bodyPost_ret (results_list (rs:=[.tmp 2,.tmp 3,.tmp 4,.tmp 5]) rfl (by simp) (.tmp (.tmp (.tmp (.tmp .nil))))) rfl ?_
   exact⟨bE,b53_,by repeat (first|(with_reducible first|exact HB.out|apply below_alloc|apply pw_below_drewN|apply below_drew1|refine below_set ?_ (IsS138.ge HI0.out))|exact HB.out),b51_⟩
  ·replace c7:=Bool.eq_false_iff.mpr c7
   subst c7
   have H1:(if (wrap64 (2+t115))=0 then (none) else ((spec_l1Cur_among.f s0_0 t125 t126 (([1,2,4,7,16,64,65,0]:List Int))).bind fun bt136=>(some (wrap64 (2+t115),t118,Int.tmod (wrap64 (t118+1)) (wrap64 (2+t115)),bt136.1,bt136.2.1,bt136.2.2))))=some (r1,r2,r3,r4,r5,r6):=by rw[if_neg (show ¬ (false=true) by decide)] at H;exact H
   clear H
   have H:=H1
   clear H1
   by_cases c17:(wrap64 (2+t115))=0
   ·rw[if_pos c17] at H
    exact absurd H (by simp)
   ·rw[if_neg c17] at H
    have c17b0:((wrap64 (2+t115)) == 0)=false:=beq_eq_false_iff_ne.mpr c17
    have c17b1:((wrap64 (2+t115)) != 0)=true:=bne_iff_ne.mpr c17
    obtain⟨y133,hy133⟩ : ∃ y_:List Int,y_=(([1,2,4,7,16,64,65,0]:List Int)):=⟨_,rfl⟩
    replace H:((spec_l1Cur_among.f s0_0 t125 t126 y133).bind fun bt136=>(some (wrap64 (2+t115),t118,Int.tmod (wrap64 (t118+1)) (wrap64 (2+t115)),bt136.1,bt136.2.1,bt136.2.2)))=some (r1,r2,r3,r4,r5,r6):=by first|(rw[hy133];with_reducible exact H)|(have H2_:=(Option.bind_some _ _).symm.trans H;rw[hy133];with_reducible exact H2_)|(have H2_:=(Option.bind_some _ _).symm.trans H;with_reducible exact H2_)|with_reducible exact H|(rw[hy133];exact H)|exact H
    have Ny133:=am hy133
    clear hy133
    replace H:=bI_ H
    obtain⟨⟨t136,t137,t138⟩,A180,H⟩:=H
    replace H:(some (wrap64 (2+t115),t118,Int.tmod (wrap64 (t118+1)) (wrap64 (2+t115)),t136,t137,t138))=some (r1,r2,r3,r4,r5,r6):=H
    have A18:=am A180
    clear A180
    simp only[Option.some.injEq,Prod.mk.injEq] at H
    obtain⟨rfl,rfl,rfl,rfl,rfl,rfl⟩:=H
    go_enter Try.func105,Try.ntmps105
    go_wp2_with (first|((with_reducible refine gate_callee (f:=116) rfl ?_);refine goesA (some 10) rfl rfl Try.func116 #[.pointer (some ⟨g,0,none⟩),.int .i64 5] rfl ?_;(with_reducible refine(spec_l1Cur_pick.calls g s0_0 s0_1 s0_2 5 t115 t116 t117 w0 _ ?side1 ?side2 A2.out).mono ?_);(case side1=>exact b44_);(case side2=>exact b45_);rintro e w19 ⟨rfl,hi,hb,hk⟩;refine⟨_,rfl,?_⟩;have n0_:=am (KeepBut.trans (b0_) hk (.inl rfl));have n1_:=am (hb);have n2_:=am (hi);clear HK HB;(try clear HI0);have HK:=n0_;have HB:=n1_;have HI0:=n2_;clear n0_ n1_ n2_;(try clear hb);(try clear hb2);(try clear hk);(try clear hi))|((with_reducible refine gate_callee (f:=116) rfl ?_);refine goesA (some 14) rfl rfl Try.func116 #[.pointer (some ⟨g,0,none⟩),.int .i64 (wrap64 (2+t115))] rfl ?_;(with_reducible refine(spec_l1Cur_pick.calls g s0_0 t116 t117 (wrap64 (2+t115)) t118 t119 t120 w0 _ ?side1 ?side2 A3.out).mono ?_);(case side1=>exact b44_);(case side2=>exact b45_);rintro e w20 ⟨rfl,hi,hb,hk⟩;refine⟨_,rfl,?_⟩;have n0_:=am (KeepBut.trans (b0_) hk (.inl rfl));have n1_:=am (hb);have n2_:=am (hi);clear HK HB;(try clear HI0);have HK:=n0_;have HB:=n1_;have HI0:=n2_;clear n0_ n1_ n2_;(try clear hb);(try clear hb2);(try clear hk);(try clear hi))|((with_reducible refine gate_callee (f:=116) rfl ?_);refine goesA (some 17) rfl rfl Try.func116 #[.pointer (some ⟨g,0,none⟩),.int .i64 (wrap64 (2+t115))] rfl ?_;(with_reducible refine(spec_l1Cur_pick.calls g s0_0 t119 t120 (wrap64 (2+t115)) t121 t122 t123 w0 _ ?side1 ?side2 A4.out).mono ?_);(case side1=>exact b44_);(case side2=>exact b45_);rintro e w21 ⟨rfl,hi,hb,hk⟩;refine⟨_,rfl,?_⟩;have n0_:=am (KeepBut.trans (b0_) hk (.inl rfl));have n1_:=am (hb);have n2_:=am (hi);clear HK HB;(try clear HI0);have HK:=n0_;have HB:=n1_;have HI0:=n2_;clear n0_ n1_ n2_;(try clear hb);(try clear hb2);(try clear hk);(try clear hi))|(go_at_call 153;(with_reducible refine(spec_l1Cur_one.calls g s0_0 t122 t123 12 false t125 t126 w0 _ ?side1 ?side2 A6.out).mono ?_);(case side1=>exact b44_);(case side2=>exact b45_);rintro e w22 ⟨rfl,hi,hb,hk⟩;have n0_:=am (KeepBut.trans (b0_) hk (.inl rfl));have n1_:=am (hb);have n2_:=am (hi);clear HK HB;(try clear HI0);have HK:=n0_;have HB:=n1_;have HI0:=n2_;clear n0_ n1_ n2_;(try clear hb);(try clear hb2);(try clear hk);(try clear hi))|((with_reducible refine gate_dst (N:=34) rfl ?_);refine Kd.R_lit (Kd.int .i64) _ 3 ?hg (N:=34) ?hd (xs:=([1,2,4,7,16,64,65,0]:List Int)) (inner:=[.int .i64 1,.int .i64 2,.int .i64 4,.int .i64 7,.int .i64 16,.int .i64 64,.int .i64 65,.int .i64 0]) (ok:=fun _=>True) (okp:=fun _=>True) ?hr ?hp (fun _ hk=>hk) trivial (Below.refl _ _) (Nat.le_refl _) (by simp) ?_;(case hd=>rfl);(case hg=>rfl);(case hr=>first|(go_simp;done)|(go_simp;rfl));(case hp=>exact(Reps.one (show Kd.M (Kd.int .i64) _ _ _ 1 [.int .i64 1] from rfl) (Reps.one (show Kd.M (Kd.int .i64) _ _ _ 2 [.int .i64 2] from rfl) (Reps.one (show Kd.M (Kd.int .i64) _ _ _ 4 [.int .i64 4] from rfl) (Reps.one (show Kd.M (Kd.int .i64) _ _ _ 7 [.int .i64 7] from rfl) (Reps.one (show Kd.M (Kd.int .i64) _ _ _ 16 [.int .i64 16] from rfl) (Reps.one (show Kd.M (Kd.int .i64) _ _ _ 64 [.int .i64 64] from rfl) (Reps.one (show Kd.M (Kd.int .i64) _ _ _ 65 [.int .i64 65] from rfl) (Reps.one (show Kd.M (Kd.int .i64) _ _ _ 0 [.int .i64 0] from rfl) (Reps.none _ _))))))))));intro v134 w23 ho24 hb hg_ hnew_;clear hg_ hnew_;(first|rw[← Ny133.out] at ho24|(simp only[Int.reduceToNat] at ho24;rw[← Ny133.out] at ho24));have n0_:=am (Kd.R_lower ho24 (keep_size (w:=w) (g:=g) (row:=none) (b0_)));have n1_:=am (IsS138.below (b19_) hb);have n2_:=am (KeepBut.trans (b0_) (KeepBut.of_below hb g none) (.inl rfl));have n3_:=am (below_step (b23_) hb);(try clear HI0);clear HK HB;have HO135:=n0_;have HI0:=n1_;have HK:=n2_;have HB:=n3_;clear n0_ n1_ n2_ n3_;clear hb ho24;obtain⟨Ao25,co25,eo25⟩:=Kd.R_slice HO135.out;subst eo25)|((with_reducible refine gate_callee (f:=154) rfl ?_);refine goesA (some 35) rfl rfl Try.func154 #[.pointer (some ⟨g,0,none⟩),.slice Ao25 y133.length co25] rfl ?_;(with_reducible refine(spec_l1Cur_among.calls g s0_0 t125 t126 _ _ y133 t136 t137 t138 w0 _ ?side1 ?side2 ?side3 ?side4 ?side5 A18.out).mono ?_);(case side1=>exact b44_);(case side2=>exact b45_);(case side3=>exact bT HO135.out);(case side4=>exact(Kd.R_reads' HO135.out).2.1);(case side5=>exact far_slice (IsS138.own_ne HI0.out HO135.out (b17_)));rintro e w26 ⟨rfl,hi,hb,hk⟩;refine⟨_,rfl,?_⟩;have n0_:=am (Kd.R_mono (Kd.R_keep (IsS138.apart (show IsS138 w0 _ g s0_0 t125 t126 from by repeat (first|(with_reducible first|exact HI0.out|apply IsS138.alloc|apply IsS138.drewN|apply IsS138.drew|apply IsS138.set_1|apply IsS138.set_2)|exact HI0.out)) (bK HO135.out) (b17_)) hk (fun _ h=>h.2)) (fun _ h=>h.1));have n1_:=am (KeepBut.trans (b0_) hk (.inl rfl));have n2_:=am (hb);have n3_:=am (hi);clear HO135 HK HB;(try clear HI0);have HO135:=n0_;have HK:=n1_;have HB:=n2_;have HI0:=n3_;clear n0_ n1_ n2_ n3_;(try clear hb);(try clear hb2);(try clear hk);(try clear hi)))
    refine bodyPost_ret (results_list (rs:=[.tmp 2,.tmp 3,.tmp 4,.tmp 5]) rfl (by simp) (.tmp (.tmp (.tmp (.tmp .nil))))) rfl ?_
    exact⟨bE,b53_,by repeat (first|(with_reducible first|exact HB.out|apply below_alloc|apply pw_below_drewN|apply below_drew1|refine below_set ?_ (IsS138.ge HI0.out))|exact HB.out),b51_⟩
 ·rw[if_neg c5] at H
  have c5b0:(t118 == t121)=false:=beq_eq_false_iff_ne.mpr c5
  have c5b1:(t118 != t121)=true:=bne_iff_ne.mpr c5
  obtain⟨y139,hy139⟩ : ∃ y_:List Int,y_=(([1,2,4,7,16,64,65,0]:List Int)):=⟨_,rfl⟩
  replace H:((spec_l1Cur_among.f s0_0 t122 t123 y139).bind fun bt142=>(some (wrap64 (2+t115),t118,t121,bt142.1,bt142.2.1,bt142.2.2)))=some (r1,r2,r3,r4,r5,r6):=by first|(rw[hy139];with_reducible exact H)|(have H2_:=(Option.bind_some _ _).symm.trans H;rw[hy139];with_reducible exact H2_)|(have H2_:=(Option.bind_some _ _).symm.trans H;with_reducible exact H2_)|with_reducible exact H|(rw[hy139];exact H)|exact H
  have Ny139:=am hy139
  clear hy139
  replace H:=bI_ H
  obtain⟨⟨t142,t143,t144⟩,A270,H⟩:=H
  replace H:(some (wrap64 (2+t115),t118,t121,t142,t143,t144))=some (r1,r2,r3,r4,r5,r6):=H
  have A27:=am A270
  clear A270
  simp only[Option.some.injEq,Prod.mk.injEq] at H
  obtain⟨rfl,rfl,rfl,rfl,rfl,rfl⟩:=H
  go_enter Try.func105,Try.ntmps105
  go_wp2_with (first|((with_reducible refine gate_callee (f:=116) rfl ?_);refine goesA (some 10) rfl rfl Try.func116 #[.pointer (some ⟨g,0,none⟩),.int .i64 5] rfl ?_;(with_reducible refine(spec_l1Cur_pick.calls g s0_0 s0_1 s0_2 5 t115 t116 t117 w0 _ ?side1 ?side2 A2.out).mono ?_);(case side1=>exact b44_);(case side2=>exact b45_);rintro e w28 ⟨rfl,hi,hb,hk⟩;refine⟨_,rfl,?_⟩;have n0_:=am (KeepBut.trans (b0_) hk (.inl rfl));have n1_:=am (hb);have n2_:=am (hi);clear HK HB;(try clear HI0);have HK:=n0_;have HB:=n1_;have HI0:=n2_;clear n0_ n1_ n2_;(try clear hb);(try clear hb2);(try clear hk);(try clear hi))|((with_reducible refine gate_callee (f:=116) rfl ?_);refine goesA (some 14) rfl rfl Try.func116 #[.pointer (some ⟨g,0,none⟩),.int .i64 (wrap64 (2+t115))] rfl ?_;(with_reducible refine(spec_l1Cur_pick.calls g s0_0 t116 t117 (wrap64 (2+t115)) t118 t119 t120 w0 _ ?side1 ?side2 A3.out).mono ?_);(case side1=>exact b44_);(case side2=>exact b45_);rintro e w29 ⟨rfl,hi,hb,hk⟩;refine⟨_,rfl,?_⟩;have n0_:=am (KeepBut.trans (b0_) hk (.inl rfl));have n1_:=am (hb);have n2_:=am (hi);clear HK HB;(try clear HI0);have HK:=n0_;have HB:=n1_;have HI0:=n2_;clear n0_ n1_ n2_;(try clear hb);(try clear hb2);(try clear hk);(try clear hi))|((with_reducible refine gate_callee (f:=116) rfl ?_);refine goesA (some 17) rfl rfl Try.func116 #[.pointer (some ⟨g,0,none⟩),.int .i64 (wrap64 (2+t115))] rfl ?_;(with_reducible refine(spec_l1Cur_pick.calls g s0_0 t119 t120 (wrap64 (2+t115)) t121 t122 t123 w0 _ ?side1 ?side2 A4.out).mono ?_);(case side1=>exact b44_);(case side2=>exact b45_);rintro e w30 ⟨rfl,hi,hb,hk⟩;refine⟨_,rfl,?_⟩;have n0_:=am (KeepBut.trans (b0_) hk (.inl rfl));have n1_:=am (hb);have n2_:=am (hi);clear HK HB;(try clear HI0);have HK:=n0_;have HB:=n1_;have HI0:=n2_;clear n0_ n1_ n2_;(try clear hb);(try clear hb2);(try clear hk);(try clear hi))|((with_reducible refine gate_dst (N:=34) rfl ?_);refine Kd.R_lit (Kd.int .i64) _ 3 ?hg (N:=34) ?hd (xs:=([1,2,4,7,16,64,65,0]:List Int)) (inner:=[.int .i64 1,.int .i64 2,.int .i64 4,.int .i64 7,.int .i64 16,.int .i64 64,.int .i64 65,.int .i64 0]) (ok:=fun _=>True) (okp:=fun _=>True) ?hr ?hp (fun _ hk=>hk) trivial (Below.refl _ _) (Nat.le_refl _) (by simp) ?_;(case hd=>rfl);(case hg=>rfl);(case hr=>first|(go_simp;done)|(go_simp;rfl));(case hp=>exact(Reps.one (show Kd.M (Kd.int .i64) _ _ _ 1 [.int .i64 1] from rfl) (Reps.one (show Kd.M (Kd.int .i64) _ _ _ 2 [.int .i64 2] from rfl) (Reps.one (show Kd.M (Kd.int .i64) _ _ _ 4 [.int .i64 4] from rfl) (Reps.one (show Kd.M (Kd.int .i64) _ _ _ 7 [.int .i64 7] from rfl) (Reps.one (show Kd.M (Kd.int .i64) _ _ _ 16 [.int .i64 16] from rfl) (Reps.one (show Kd.M (Kd.int .i64) _ _ _ 64 [.int .i64 64] from rfl) (Reps.one (show Kd.M (Kd.int .i64) _ _ _ 65 [.int .i64 65] from rfl) (Reps.one (show Kd.M (Kd.int .i64) _ _ _ 0 [.int .i64 0] from rfl) (Reps.none _ _))))))))));intro v140 w31 ho32 hb hg_ hnew_;clear hg_ hnew_;(first|rw[← Ny139.out] at ho32|(simp only[Int.reduceToNat] at ho32;rw[← Ny139.out] at ho32));have n0_:=am (Kd.R_lower ho32 (keep_size (w:=w) (g:=g) (row:=none) (b0_)));have n1_:=am (IsS138.below (b19_) hb);have n2_:=am (KeepBut.trans (b0_) (KeepBut.of_below hb g none) (.inl rfl));have n3_:=am (below_step (b23_) hb);(try clear HI0);clear HK HB;have HO141:=n0_;have HI0:=n1_;have HK:=n2_;have HB:=n3_;clear n0_ n1_ n2_ n3_;clear hb ho32;obtain⟨Ao33,co33,eo33⟩:=Kd.R_slice HO141.out;subst eo33)|((with_reducible refine gate_callee (f:=154) rfl ?_);refine goesA (some 35) rfl rfl Try.func154 #[.pointer (some ⟨g,0,none⟩),.slice Ao33 y139.length co33] rfl ?_;(with_reducible refine(spec_l1Cur_among.calls g s0_0 t122 t123 _ _ y139 t142 t143 t144 w0 _ ?side1 ?side2 ?side3 ?side4 ?side5 A27.out).mono ?_);(case side1=>exact b44_);(case side2=>exact b45_);(case side3=>exact bT HO141.out);(case side4=>exact(Kd.R_reads' HO141.out).2.1);(case side5=>exact far_slice (IsS138.own_ne HI0.out HO141.out (b17_)));rintro e w34 ⟨rfl,hi,hb,hk⟩;refine⟨_,rfl,?_⟩;have n0_:=am (Kd.R_mono (Kd.R_keep (IsS138.apart (show IsS138 w0 _ g s0_0 t122 t123 from by repeat (first|(with_reducible first|exact HI0.out|apply IsS138.alloc|apply IsS138.drewN|apply IsS138.drew|apply IsS138.set_1|apply IsS138.set_2)|exact HI0.out)) (bK HO141.out) (b17_)) hk (fun _ h=>h.2)) (fun _ h=>h.1));have n1_:=am (KeepBut.trans (b0_) hk (.inl rfl));have n2_:=am (hb);have n3_:=am (hi);clear HO141 HK HB;(try clear HI0);have HO141:=n0_;have HK:=n1_;have HB:=n2_;have HI0:=n3_;clear n0_ n1_ n2_ n3_;(try clear hb);(try clear hb2);(try clear hk);(try clear hi)))
  refine bodyPost_ret (results_list (rs:=[.tmp 2,.tmp 3,.tmp 4,.tmp 5]) rfl (by simp) (.tmp (.tmp (.tmp (.tmp .nil))))) rfl ?_
  exact⟨bE,b53_,by repeat (first|(with_reducible first|exact HB.out|apply below_alloc|apply pw_below_drewN|apply below_drew1|refine below_set ?_ (IsS138.ge HI0.out))|exact HB.out),b51_⟩

/-! ### spec_l1Cur_meets: function 106 -/
mutual
def spec_l1Cur_meets.j0:Nat→Int→List (S72)→Int→List Int→Int→Int→Option ((List (S72)) × Int × Int)
 | 0,_,_,_,_,_,_=>none
 | k+1,x1,x5,x6,x1000,x1001,x1002=>spec_l1Cur_meets.l0 k x1 x5 x6 x1000 x1001 x1002
def spec_l1Cur_meets.l0:Nat→Int→List (S72)→Int→List Int→Int→Int→Option ((List (S72)) × Int × Int)
 | 0,_,_,_,_,_,_=>none
 | k+1,x1,x5,x6,x1000,x1001,x1002=>if x6 > 0 then ((spec_l1Cur_pick.f x1000 x1001 x1002 x1).bind fun bt154=>((spec_l1Cur_pick.f x1000 bt154.2.1 bt154.2.2 x1).bind fun bt157=>(if bt154.1=bt157.1 then (if x1=0 then (none) else (if x5.length < 8796093022208 then (spec_l1Cur_meets.l0 k x1 (x5++[(⟨bt154.1,Int.tmod (wrap64 (bt154.1+1)) x1⟩:S72)]) (wrap64 (x6 - 1)) x1000 bt157.2.1 bt157.2.2) else (none))) else (if x5.length < 8796093022208 then (spec_l1Cur_meets.l0 k x1 (x5++[(⟨bt154.1,bt157.1⟩:S72)]) (wrap64 (x6 - 1)) x1000 bt157.2.1 bt157.2.2) else (none))))) else (if (x5.length:Int) > 0 then ((spec_l1Cur_one.f x1000 x1001 x1002 30).bind fun bt167=>(if bt167.1=true then (if 0 < (x5.length:Int) then ((spec_l1Cur_among.f x1000 bt167.2.1 bt167.2.2 (([(-1),(rd_T72 x5 0).f0,x1]:List Int))).bind fun bt174=>(some ((x5.set (0:Int).toNat (⟨(rd_T72 x5 0).f0,bt174.1⟩:S72)),bt174.2.1,bt174.2.2))) else (none)) else (some (x5,bt167.2.1,bt167.2.2)))) else (some (x5,x1001,x1002)))
end
def spec_l1Cur_meets.f (k:Nat) (s0_0:List Int) (s0_1:Int) (s0_2:Int) (a1:Int):Option ((List (S72)) × Int × Int):=(spec_l1Cur_pick.f s0_0 s0_1 s0_2 20).bind fun bt145=>((spec_l1Cur_one.f s0_0 bt145.2.1 bt145.2.2 20).bind fun bt148=>(if bt148.1=true then ((spec_l1Cur_pick.f s0_0 bt148.2.1 bt148.2.2 2).bind fun bt151=>(spec_l1Cur_meets.j0 k a1 ([]:List (S72)) (wrap64 (100+bt151.1)) s0_0 bt151.2.1 bt151.2.2)) else (spec_l1Cur_meets.j0 k a1 ([]:List (S72)) bt145.1 s0_0 bt148.2.1 bt148.2.2)))
theorem spec_l1Cur_meets.mono_l : ∀ k,(∀ y0 y1 y2 y3 y4 y5,LeO (spec_l1Cur_meets.j0 k y0 y1 y2 y3 y4 y5) (spec_l1Cur_meets.j0 (k+1) y0 y1 y2 y3 y4 y5))∧(∀ y0 y1 y2 y3 y4 y5,LeO (spec_l1Cur_meets.l0 k y0 y1 y2 y3 y4 y5) (spec_l1Cur_meets.l0 (k+1) y0 y1 y2 y3 y4 y5))
 | 0=>⟨fun _ _ _ _ _ _ r h=>by simp[spec_l1Cur_meets.j0] at h,fun _ _ _ _ _ _ r h=>by simp[spec_l1Cur_meets.l0] at h⟩
 | k+1=>by
  obtain⟨ih0,ih1⟩:=spec_l1Cur_meets.mono_l k
  refine⟨?_,?_⟩
  ·intro y0 y1 y2 y3 y4 y5
   unfold spec_l1Cur_meets.j0
   repeat' first
   | (with_reducible exact ih0 _ _ _ _ _ _)
   | (with_reducible exact ih1 _ _ _ _ _ _)
   | (with_reducible exact LeO.refl _)
   | (with_reducible exact LeO.none _)
   | (with_reducible refine LeO.ite ?_ ?_)
   | (with_reducible refine LeO.bind ?_ (fun _ => ?_))
  ·intro y0 y1 y2 y3 y4 y5
   unfold spec_l1Cur_meets.l0
   repeat' first
   | (with_reducible exact ih0 _ _ _ _ _ _)
   | (with_reducible exact ih1 _ _ _ _ _ _)
   | (with_reducible exact LeO.refl _)
   | (with_reducible exact LeO.none _)
   | (with_reducible refine LeO.ite ?_ ?_)
   | (with_reducible refine LeO.bind ?_ (fun _ => ?_))
theorem spec_l1Cur_meets.mono : ∀ a0 a1 a2 a3 k,LeO (spec_l1Cur_meets.f k a0 a1 a2 a3) (spec_l1Cur_meets.f (k+1) a0 a1 a2 a3):=by
 intro a0 a1 a2 a3 k
 obtain⟨ih0,ih1⟩:=spec_l1Cur_meets.mono_l k
 unfold spec_l1Cur_meets.f
 repeat' first
  | (with_reducible exact ih0 _ _ _ _ _ _)
  | (with_reducible exact ih1 _ _ _ _ _ _)
  | (with_reducible exact LeO.refl _)
  | (with_reducible exact LeO.none _)
  | (with_reducible refine LeO.ite ?_ ?_)
  | (with_reducible refine LeO.bind ?_ (fun _ => ?_))
set_option maxHeartbeats 8000000 in
set_option maxRecDepth 100000 in
theorem spec_l1Cur_meets.calls (k:Nat) (g:Nat) (s0_0:List Int) (s0_1:Int) (s0_2:Int) (a1:Int) (r1:List (S72)) (r2:Int) (r3:Int) (w0 w:World) (hI:IsS138 w0 w g s0_0 s0_1 s0_2) (hB:Below w0.heap.size w0 w) (h:spec_l1Cur_meets.f k s0_0 s0_1 s0_2 a1=some (r1,r2,r3)) :
  Calls Try.prog 106 #[.pointer (some ⟨g,0,none⟩),.int .i64 a1] w fun e w' => ∃ v0_:Value,e=.returned (v0_)∧Kd.R k72 72 w' w.heap.size (fun _=>True) v0_ r1∧IsS138 w0 w' g s0_0 r2 r3∧Below w0.heap.size w0 w'∧KeepBut w w' g none:=by
 have hu72:=Try.underlying72
 have HI0:=am hI
 have HK:=am (KeepBut.refl w g none)
 have HL:=am hB.size
 clear hI
 have HW0:=am hB.size
 have HB:=am hB
 clear hB
 have H:((spec_l1Cur_pick.f s0_0 s0_1 s0_2 20).bind fun bt145=>((spec_l1Cur_one.f s0_0 bt145.2.1 bt145.2.2 20).bind fun bt148=>(if bt148.1=true then ((spec_l1Cur_pick.f s0_0 bt148.2.1 bt148.2.2 2).bind fun bt151=>(spec_l1Cur_meets.j0 k a1 ([]:List (S72)) (wrap64 (100+bt151.1)) s0_0 bt151.2.1 bt151.2.2)) else (spec_l1Cur_meets.j0 k a1 ([]:List (S72)) bt145.1 s0_0 bt148.2.1 bt148.2.2))))=some (r1,r2,r3):=h
 clear h
 replace H:=bI_ H
 obtain⟨⟨t145,t146,t147⟩,A30,H⟩:=H
 replace H:((spec_l1Cur_one.f s0_0 t146 t147 20).bind fun bt148=>(if bt148.1=true then ((spec_l1Cur_pick.f s0_0 bt148.2.1 bt148.2.2 2).bind fun bt151=>(spec_l1Cur_meets.j0 k a1 ([]:List (S72)) (wrap64 (100+bt151.1)) s0_0 bt151.2.1 bt151.2.2)) else (spec_l1Cur_meets.j0 k a1 ([]:List (S72)) t145 s0_0 bt148.2.1 bt148.2.2)))=some (r1,r2,r3):=H
 have A3:=am A30
 clear A30
 replace H:=bI_ H
 obtain⟨⟨t148,t149,t150⟩,A40,H⟩:=H
 replace H:(if t148=true then ((spec_l1Cur_pick.f s0_0 t149 t150 2).bind fun bt151=>(spec_l1Cur_meets.j0 k a1 ([]:List (S72)) (wrap64 (100+bt151.1)) s0_0 bt151.2.1 bt151.2.2)) else (spec_l1Cur_meets.j0 k a1 ([]:List (S72)) t145 s0_0 t149 t150))=some (r1,r2,r3):=H
 have A4:=am A40
 clear A40
 have HC5:=am H
 clear H
 go_enter Try.func106,Try.ntmps106
 go_upto_if 11 with (first|((with_reducible refine gate_callee (f:=116) rfl ?_);refine goesA (some 9) rfl rfl Try.func116 #[.pointer (some ⟨g,0,none⟩),.int .i64 20] rfl ?_;(with_reducible refine(spec_l1Cur_pick.calls g s0_0 s0_1 s0_2 20 t145 t146 t147 w0 _ ?side1 ?side2 A3.out).mono ?_);(case side1=>exact b44_);(case side2=>exact b45_);rintro e w6 ⟨rfl,hi,hb,hk⟩;refine⟨_,rfl,?_⟩;have n0_:=am (KeepBut.trans (b0_) hk (.inl rfl));have n1_:=am (hb);have n2_:=am (hi);clear HK HB;(try clear HI0);have HK:=n0_;have HB:=n1_;have HI0:=n2_;clear n0_ n1_ n2_;(try clear hb);(try clear hb2);(try clear hk);(try clear hi))|((with_reducible refine gate_callee (f:=153) rfl ?_);refine goesA (some 11) rfl rfl Try.func153 #[.pointer (some ⟨g,0,none⟩),.int .i64 20] rfl ?_;(with_reducible refine(spec_l1Cur_one.calls g s0_0 t146 t147 20 t148 t149 t150 w0 _ ?side1 ?side2 A4.out).mono ?_);(case side1=>exact b44_);(case side2=>exact b45_);rintro e w7 ⟨rfl,hi,hb,hk⟩;refine⟨_,rfl,?_⟩;have n0_:=am (KeepBut.trans (b0_) hk (.inl rfl));have n1_:=am (hb);have n2_:=am (hi);clear HK HB;(try clear HI0);have HK:=n0_;have HB:=n1_;have HI0:=n2_;clear n0_ n1_ n2_;(try clear hb);(try clear hb2);(try clear hk);(try clear hi)))
 (try simp only[Act.put,zA,zB,zC])
 go_cut [6] (fun v6 wc => ∃ (kq:Nat) (x6_4:Int) (x1001_4:Int) (x1002_4:Int),v6=.int .i64 x6_4∧Aside0 (spec_l1Cur_meets.j0 kq a1 ([]:List (S72)) x6_4 s0_0 x1001_4 x1002_4=some (r1,r2,r3))∧Aside0 (kq≤k)∧Aside0 (Kd.R k72 72 wc w.heap.size (fun _=>True) (.slice none 0 0) ([]:List (S72)))∧Aside0 (IsS138 w0 wc g s0_0 x1001_4 x1002_4)∧Aside0 (KeepBut w wc g none)∧Aside0 (Below w0.heap.size w0 wc))
 case first =>
  have H:=HC5.out
  clear HC5
  by_cases c8:t148=true
  ·subst c8
   have H1:((spec_l1Cur_pick.f s0_0 t149 t150 2).bind fun bt151=>(spec_l1Cur_meets.j0 k a1 ([]:List (S72)) (wrap64 (100+bt151.1)) s0_0 bt151.2.1 bt151.2.2))=some (r1,r2,r3):=by rw[if_pos rfl] at H;exact H
   clear H
   have H:=H1
   clear H1
   replace H:=bI_ H
   obtain⟨⟨t151,t152,t153⟩,A90,H⟩:=H
   replace H:(spec_l1Cur_meets.j0 k a1 ([]:List (S72)) (wrap64 (100+t151)) s0_0 t152 t153)=some (r1,r2,r3):=H
   have A9:=am A90
   clear A90
   have H':=am H
   clear H
   go_wp2_with (first|((with_reducible refine gate_callee (f:=116) rfl ?_);refine goesA (some 13) rfl rfl Try.func116 #[.pointer (some ⟨g,0,none⟩),.int .i64 2] rfl ?_;(with_reducible refine(spec_l1Cur_pick.calls g s0_0 t149 t150 2 t151 t152 t153 w0 _ ?side1 ?side2 A9.out).mono ?_);(case side1=>exact b44_);(case side2=>exact b45_);rintro e w10 ⟨rfl,hi,hb,hk⟩;refine⟨_,rfl,?_⟩;have n0_:=am (KeepBut.trans (b0_) hk (.inl rfl));have n1_:=am (hb);have n2_:=am (hi);clear HK HB;(try clear HI0);have HK:=n0_;have HB:=n1_;have HI0:=n2_;clear n0_ n1_ n2_;(try clear hb);(try clear hb2);(try clear hk);(try clear hi)))
   go_meet
   case rel=>exact⟨_,(wrap64 (100+t151)),(t152),(t153),(bR),H',⟨by first|omega|exact Nat.le_refl _⟩,⟨by first|exact Kd.R_nil _ _ _ _ _|exact Kd.N_nil _ _ _ _ _|exact Kd.V_nil _ _ _ _ _|exact Kd.Q_nil _ _ _ _ _|exact Kd.S_nil _ _ _ _ _⟩,⟨by repeat (first|(with_reducible first|exact HI0.out|apply IsS138.alloc|apply IsS138.drewN|apply IsS138.drew|apply IsS138.set_1|apply IsS138.set_2)|exact HI0.out)⟩,⟨by repeat (first|(with_reducible first|exact HK.out|apply KeepBut.set_|apply keep_drewN|apply keep_drew|apply keep_alloc)|exact HK.out)⟩,⟨by repeat (first|(with_reducible first|exact HB.out|apply below_alloc|apply pw_below_drewN|apply below_drew1|refine below_set ?_ (IsS138.ge HI0.out))|exact HB.out)⟩⟩
  ·replace c8:=Bool.eq_false_iff.mpr c8
   subst c8
   have H1:(spec_l1Cur_meets.j0 k a1 ([]:List (S72)) t145 s0_0 t149 t150)=some (r1,r2,r3):=by rw[if_neg (show ¬ (false=true) by decide)] at H;exact H
   clear H
   have H:=H1
   clear H1
   have H':=am H
   clear H
   go_wp2
   go_meet
   case rel=>exact⟨_,(t145),(t149),(t150),(bR),H',⟨by first|omega|exact Nat.le_refl _⟩,⟨by first|exact Kd.R_nil _ _ _ _ _|exact Kd.N_nil _ _ _ _ _|exact Kd.V_nil _ _ _ _ _|exact Kd.Q_nil _ _ _ _ _|exact Kd.S_nil _ _ _ _ _⟩,⟨by repeat (first|(with_reducible first|exact HI0.out|apply IsS138.alloc|apply IsS138.drewN|apply IsS138.drew|apply IsS138.set_1|apply IsS138.set_2)|exact HI0.out)⟩,⟨by repeat (first|(with_reducible first|exact HK.out|apply KeepBut.set_|apply keep_drewN|apply keep_drew|apply keep_alloc)|exact HK.out)⟩,⟨by repeat (first|(with_reducible first|exact HB.out|apply below_alloc|apply pw_below_drewN|apply below_drew1|refine below_set ?_ (IsS138.ge HI0.out))|exact HB.out)⟩⟩
 case rest =>
  clear HC5
  try clear c1
  try clear p2
  try clear p6
  try clear c8
  try clear c10
  obtain⟨kq,x6_4,x1001_4,x1002_4,rfl,HA,HJ4,HO_5,HI0,HK,HB⟩:=hcut
  cases kq with
  | zero=>exact absurd HA.out (by simp[spec_l1Cur_meets.j0])
  | succ kj4 =>
   have H:=HA.out
   clear HA
   simp only[spec_l1Cur_meets.j0] at H
   have H':=am H
   clear H
   go_wp2
   go_loopg [5,6] kj4 (fun kq v5 v6 w' => ∃ (x5_2:List (S72)) (x6_2:Int) (x1001_2:Int) (x1002_2:Int),v6=.int .i64 x6_2∧Aside0 (spec_l1Cur_meets.l0 kq a1 x5_2 x6_2 s0_0 x1001_2 x1002_2=some (r1,r2,r3))∧Aside0 (kq≤kj4)∧Aside0 (Kd.R k72 72 w' w.heap.size (fun _=>True) v5 x5_2)∧Aside0 (IsS138 w0 w' g s0_0 x1001_2 x1002_2)∧Aside0 (KeepBut w w' g none)∧Aside0 (Below w0.heap.size w0 w'))
   case atStart=>exact⟨(([]:List (S72))),(x6_4),(x1001_4),(x1002_4),(bR),H',⟨Nat.le_refl _⟩,⟨by(with_reducible repeat (first|apply Kd.R_alloc|apply Kd.R_drewN|apply Kd.R_drew));exact HO_5.out⟩,⟨by repeat (first|(with_reducible first|exact HI0.out|apply IsS138.alloc|apply IsS138.drewN|apply IsS138.drew|apply IsS138.set_1|apply IsS138.set_2)|exact HI0.out)⟩,⟨by repeat (first|(with_reducible first|exact HK.out|apply KeepBut.set_|apply keep_drewN|apply keep_drew|apply keep_alloc)|exact HK.out)⟩,⟨by repeat (first|(with_reducible first|exact HB.out|apply below_alloc|apply pw_below_drewN|apply below_drew1|refine below_set ?_ (IsS138.ge HI0.out))|exact HB.out)⟩⟩
   case round =>
    clear H'
    try clear c1
    try clear p2
    try clear p6
    try clear c8
    try clear c10
    try clear p2
    try clear p6
    obtain⟨x5_2,x6_2,x1001_2,x1002_2,rfl,HA,HK2,HO_5,HI0,HK,HB⟩:=hrel
    cases gk with
    | zero=>exact absurd HA.out (by simp[spec_l1Cur_meets.l0])
    | succ k2 =>
     have H:=HA.out
     clear HA
     simp only[spec_l1Cur_meets.l0] at H
     by_cases c11:x6_2 > 0
     ·rw[if_pos c11] at H
      have c11b0:decide (0 < x6_2)=true:=decide_eq_true c11
      clear c11
      replace H:=bI_ H
      obtain⟨⟨t154,t155,t156⟩,A120,H⟩:=H
      replace H:((spec_l1Cur_pick.f s0_0 t155 t156 a1).bind fun bt157=>(if t154=bt157.1 then (if a1=0 then (none) else (if x5_2.length < 8796093022208 then (spec_l1Cur_meets.l0 k2 a1 (x5_2++[(⟨t154,Int.tmod (wrap64 (t154+1)) a1⟩:S72)]) (wrap64 (x6_2 - 1)) s0_0 bt157.2.1 bt157.2.2) else (none))) else (if x5_2.length < 8796093022208 then (spec_l1Cur_meets.l0 k2 a1 (x5_2++[(⟨t154,bt157.1⟩:S72)]) (wrap64 (x6_2 - 1)) s0_0 bt157.2.1 bt157.2.2) else (none))))=some (r1,r2,r3):=H
      have A12:=am A120
      clear A120
      replace H:=bI_ H
      obtain⟨⟨t157,t158,t159⟩,A130,H⟩:=H
      replace H:(if t154=t157 then (if a1=0 then (none) else (if x5_2.length < 8796093022208 then (spec_l1Cur_meets.l0 k2 a1 (x5_2++[(⟨t154,Int.tmod (wrap64 (t154+1)) a1⟩:S72)]) (wrap64 (x6_2 - 1)) s0_0 t158 t159) else (none))) else (if x5_2.length < 8796093022208 then (spec_l1Cur_meets.l0 k2 a1 (x5_2++[(⟨t154,t157⟩:S72)]) (wrap64 (x6_2 - 1)) s0_0 t158 t159) else (none)))=some (r1,r2,r3):=H
      have A13:=am A130
      clear A130
      by_cases c14:t154=t157
      ·rw[if_pos c14] at H
       have c14b0:(t154 == t157)=true:=beq_iff_eq.mpr c14
       have c14b1:(t154 != t157)=false:=bne_eq_false_iff_eq.mpr c14
       clear c14
       by_cases c15:a1=0
       ·rw[if_pos c15] at H
        exact absurd H (by simp)
       ·rw[if_neg c15] at H
        have c15b0:(a1 == 0)=false:=beq_eq_false_iff_ne.mpr c15
        have c15b1:(a1 != 0)=true:=bne_iff_ne.mpr c15
        by_cases c16:x5_2.length < 8796093022208
        ·rw[if_pos c16] at H
         have LMc16:=am c16
         clear c16
         obtain⟨y161,hy161⟩ : ∃ y_:List (S72),y_=(x5_2++[(⟨t154,Int.tmod (wrap64 (t154+1)) a1⟩:S72)]):=⟨_,rfl⟩
         replace H:(spec_l1Cur_meets.l0 k2 a1 y161 (wrap64 (x6_2 - 1)) s0_0 t158 t159)=some (r1,r2,r3):=by first|(rw[hy161];with_reducible exact H)|(have H2_:=(Option.bind_some _ _).symm.trans H;rw[hy161];with_reducible exact H2_)|(have H2_:=(Option.bind_some _ _).symm.trans H;with_reducible exact H2_)|with_reducible exact H|(rw[hy161];exact H)|exact H
         have Ny161:=am hy161
         clear hy161
         have H':=am H
         clear H
         go_wp2_with (first|((with_reducible refine gate_callee (f:=116) rfl ?_);refine goesA (some 21) rfl rfl Try.func116 #[.pointer (some ⟨g,0,none⟩),.int .i64 a1] rfl ?_;(with_reducible refine(spec_l1Cur_pick.calls g s0_0 x1001_2 x1002_2 a1 t154 t155 t156 w0 _ ?side1 ?side2 A12.out).mono ?_);(case side1=>exact b44_);(case side2=>exact b45_);rintro e w17 ⟨rfl,hi,hb,hk⟩;refine⟨_,rfl,?_⟩;have n0_:=am (Kd.R_mono (Kd.R_keep (IsS138.apart (show IsS138 w0 _ g s0_0 x1001_2 x1002_2 from by repeat (first|(with_reducible first|exact HI0.out|apply IsS138.alloc|apply IsS138.drewN|apply IsS138.drew|apply IsS138.set_1|apply IsS138.set_2)|exact HI0.out)) (bK HO_5.out) (b17_)) hk (fun _ h=>h.2)) (fun _ h=>h.1));have n1_:=am (KeepBut.trans (b0_) hk (.inl rfl));have n2_:=am (hb);have n3_:=am (hi);clear HO_5 HK HB;(try clear HI0);have HO_5:=n0_;have HK:=n1_;have HB:=n2_;have HI0:=n3_;clear n0_ n1_ n2_ n3_;(try clear hb);(try clear hb2);(try clear hk);(try clear hi))|((with_reducible refine gate_callee (f:=116) rfl ?_);refine goesA (some 24) rfl rfl Try.func116 #[.pointer (some ⟨g,0,none⟩),.int .i64 a1] rfl ?_;(with_reducible refine(spec_l1Cur_pick.calls g s0_0 t155 t156 a1 t157 t158 t159 w0 _ ?side1 ?side2 A13.out).mono ?_);(case side1=>exact b44_);(case side2=>exact b45_);rintro e w18 ⟨rfl,hi,hb,hk⟩;refine⟨_,rfl,?_⟩;have n0_:=am (Kd.R_mono (Kd.R_keep (IsS138.apart (show IsS138 w0 _ g s0_0 t155 t156 from by repeat (first|(with_reducible first|exact HI0.out|apply IsS138.alloc|apply IsS138.drewN|apply IsS138.drew|apply IsS138.set_1|apply IsS138.set_2)|exact HI0.out)) (bK HO_5.out) (b17_)) hk (fun _ h=>h.2)) (fun _ h=>h.1));have n1_:=am (KeepBut.trans (b0_) hk (.inl rfl));have n2_:=am (hb);have n3_:=am (hi);clear HO_5 HK HB;(try clear HI0);have HO_5:=n0_;have HK:=n1_;have HB:=n2_;have HI0:=n3_;clear n0_ n1_ n2_ n3_;(try clear hb);(try clear hb2);(try clear hk);(try clear hi))|((with_reducible refine gate_dst (N:=7) rfl ?_);refine box_event ?hg (N:=7) ?hd (cs:=#[.int .i64 0,.int .i64 0]) (t:=72) ?hr ?_;(case hd=>rfl);(case hg=>rfl);(case hr=>first|(go_simp;done)|(go_simp;rfl));intro gb160 hg w19 hbox hb;have n0_:=am (Kd.R_below (Kd.R_elderB (bK HO_5.out) gb160 (Nat.le_of_eq hg.symm)) hb);have n1_:=am (IsS138.below (b19_) hb);have n2_:=am (KeepBut.trans (b0_) (KeepBut.of_below hb g none) (.inl rfl));have n3_:=am (below_step (b23_) hb);have n4_:=am (hbox);have n5_:=am ((by rw[hg];exact(keep_size (w:=w) (g:=g) (row:=none) (b0_)):w.heap.size≤gb160));have n6_:=am ((Nat.le_trans HW0.out (by rw[hg];exact(keep_size (w:=w) (g:=g) (row:=none) (b0_)):w.heap.size≤gb160):w0.heap.size≤gb160));have n7_:=am ((by rw[hg];exact Nat.ne_of_lt (IsS138.lt (show IsS138 w0 _ g s0_0 t158 t159 from by repeat (first|(with_reducible first|exact HI0.out|apply IsS138.alloc|apply IsS138.drewN|apply IsS138.drew|apply IsS138.set_1|apply IsS138.set_2)|exact HI0.out))):g≠gb160));have n8_:=am ((by rw[hg];exact Nat.ne_of_gt (IsS138.lt (show IsS138 w0 _ g s0_0 t158 t159 from by repeat (first|(with_reducible first|exact HI0.out|apply IsS138.alloc|apply IsS138.drewN|apply IsS138.drew|apply IsS138.set_1|apply IsS138.set_2)|exact HI0.out))):gb160≠g));clear HO_5;(try clear HI0);clear HK HB;have HO_5:=n0_;have HI0:=n1_;have HK:=n2_;have HB:=n3_;have BK160:=n4_;have GW160:=n5_;have GE160:=n6_;have NB0_160:=n7_;have NB160_0:=n8_;clear n0_ n1_ n2_ n3_ n4_ n5_ n6_ n7_ n8_;clear hb hbox hg;have hnb20:=NB160_0.out;have hnc20:=NB0_160.out;obtain⟨hcz21_0,hcz21_1⟩:=cC2 BK160.out;obtain⟨hfz21_0,hfz21_1⟩:=cF2 BK160.out;have hcy21_1:((w19.setCell ⟨gb160,0,none⟩ (.int .i64 t154)).setCell ⟨gb160,1,none⟩ (.int .i64 t157)).cell? ⟨gb160,1,none⟩=some (.int .i64 t157):=World.cell?_setCell_same _ _ _ ((World.cell?_setCell_other _ _ _ _ (by simp)).trans hcz21_1))|((with_reducible refine gate_builtin (b:=.append) (xs:=#[.tmp 37,.tmp 39]) rfl ?_);at_builtin;refine Kd.R_append k72 w.heap.size rfl (.tmp 37) (.tmp 39) 58 72 (.agg #[(.int .i64 0),(.int .i64 0)]) 16 rfl Try.underlying58 info72 rfl (b17_) (by omega) u5 x5_2 (⟨t154,Int.tmod (wrap64 (t154+1)) a1⟩:S72) [.int .i64 t154,.int .i64 (Int.tmod (wrap64 (t154+1)) a1)] (fun k_=>k_≠gb160) (fun _=>False) rfl (by first|(go_simp;done)|(go_simp;rfl)) ?aP (fun _ hk=>hk.elim) ?aF ?aO (Below.refl _ _) ?aS ?aL ?_;(case aP=>exact k72_mkM _ _ _ (⟨t154,Int.tmod (wrap64 (t154+1)) a1⟩:S72));(case aF=>exact(fun k_ hk=>Kd.freshB (g:=gb160) (o:=.cells #[.int .i64 t154,.int .i64 (Int.tmod (wrap64 (t154+1)) a1)] 72 (0,0)) (b21_) k_ hk));(case aO=>exact(by(with_reducible repeat (first|apply Kd.R_alloc|apply Kd.R_drewN|apply Kd.R_drew));exact Kd.R_mono (Kd.R_far (p:=⟨gb160,1,none⟩) (Kd.R_far (p:=⟨gb160,1,none⟩) (Kd.R_far (p:=⟨gb160,0,none⟩) (Kd.R_mono HO_5.out (fun k_ hk=>(⟨hk,hk.2⟩:_∧k_≠gb160))) (fun _ hk=>hk.2) (.int .i64 t154)) (fun _ hk=>hk.2) (.int .i64 t157)) (fun _ hk=>hk.2) (.int .i64 (Int.tmod (wrap64 (t154+1)) a1))) (fun _ hk=>hk.1.2)));(case aS=>exact(keep_size (w:=w) (g:=g) (row:=none) (b43_)));(case aL=>have:=LMc16.out;omega);intro v162 w22 ho hb hg hat;rw[← Ny161.out] at ho;have n0_:=am (IsS138.grown (by repeat (first|(with_reducible first|exact HI0.out|apply IsS138.alloc|apply IsS138.drewN|apply IsS138.drew|apply IsS138.set_1|apply IsS138.set_2|apply IsS138.far (hne:=NB0_160.out))|exact HI0.out)) hg (IsS138.own_ne HI0.out HO_5.out (b17_)));have n1_:=am (blk_grown (g:=gb160) (o:=.cells #[.int .i64 t154,.int .i64 (Int.tmod (wrap64 (t154+1)) a1)] 72 (0,0)) (b21_) hg (Kd.R_away HO_5.out (fun _ hk=>hk.2)));have n2_:=am (below_weaken (by repeat (first|(with_reducible first|exact HB.out|apply below_alloc|apply pw_below_drewN|apply below_drew1|refine below_set ?_ (IsS138.ge HI0.out)|refine below_set ?_ GE160.out)|exact HB.out)) HL.out hb);have n3_:=am (KeepBut.trans (b43_) (KeepBut.of_grown hg g) (Kd.R_base2 HO_5.out));have n4_:=am (ho);(try clear HI0);clear BK160 HB HK HO_5;have HI0:=n0_;have BK160:=n1_;have HB:=n2_;have HK:=n3_;have HO163:=n4_;clear n0_ n1_ n2_ n3_ n4_;clear ho hb hg hat))
         go_roundg k2
         case measure=>have:=HJ4.out;have:=HK2.out;omega
         case rel=>exact⟨(y161),(wrap64 (x6_2 - 1)),(t158),(t159),(bR),H',⟨by have:=HJ4.out;have:=HK2.out;omega⟩,⟨by(with_reducible repeat (first|apply Kd.R_alloc|apply Kd.R_drewN|apply Kd.R_drew));exact Kd.R_mono HO163.out (fun _ hk=>trivial)⟩,⟨by repeat (first|(with_reducible first|exact HI0.out|apply IsS138.alloc|apply IsS138.drewN|apply IsS138.drew|apply IsS138.set_1|apply IsS138.set_2|apply IsS138.far (hne:=NB0_160.out))|exact HI0.out)⟩,⟨by repeat (first|(with_reducible first|exact HK.out|apply KeepBut.set_|apply keep_drewN|apply keep_drew|apply keep_alloc|refine keep_far ?_ GW160.out _)|exact HK.out)⟩,⟨by repeat (first|(with_reducible first|exact HB.out|apply below_alloc|apply pw_below_drewN|apply below_drew1|refine below_set ?_ (IsS138.ge HI0.out)|refine below_set ?_ GE160.out)|exact HB.out)⟩⟩
        ·rw[if_neg c16] at H
         exact absurd H (by simp)
      ·rw[if_neg c14] at H
       have c14b0:(t154 == t157)=false:=beq_eq_false_iff_ne.mpr c14
       have c14b1:(t154 != t157)=true:=bne_iff_ne.mpr c14
       by_cases c23:x5_2.length < 8796093022208
       ·rw[if_pos c23] at H
        have LMc23:=am c23
        clear c23
        obtain⟨y164,hy164⟩ : ∃ y_:List (S72),y_=(x5_2++[(⟨t154,t157⟩:S72)]):=⟨_,rfl⟩
        replace H:(spec_l1Cur_meets.l0 k2 a1 y164 (wrap64 (x6_2 - 1)) s0_0 t158 t159)=some (r1,r2,r3):=by first|(rw[hy164];with_reducible exact H)|(have H2_:=(Option.bind_some _ _).symm.trans H;rw[hy164];with_reducible exact H2_)|(have H2_:=(Option.bind_some _ _).symm.trans H;with_reducible exact H2_)|with_reducible exact H|(rw[hy164];exact H)|exact H
        have Ny164:=am hy164
        clear hy164
        have H':=am H
        clear H
        go_wp2_with (first|((with_reducible refine gate_callee (f:=116) rfl ?_);refine goesA (some 21) rfl rfl Try.func116 #[.pointer (some ⟨g,0,none⟩),.int .i64 a1] rfl ?_;(with_reducible refine(spec_l1Cur_pick.calls g s0_0 x1001_2 x1002_2 a1 t154 t155 t156 w0 _ ?side1 ?side2 A12.out).mono ?_);(case side1=>exact b44_);(case side2=>exact b45_);rintro e w24 ⟨rfl,hi,hb,hk⟩;refine⟨_,rfl,?_⟩;have n0_:=am (Kd.R_mono (Kd.R_keep (IsS138.apart (show IsS138 w0 _ g s0_0 x1001_2 x1002_2 from by repeat (first|(with_reducible first|exact HI0.out|apply IsS138.alloc|apply IsS138.drewN|apply IsS138.drew|apply IsS138.set_1|apply IsS138.set_2)|exact HI0.out)) (bK HO_5.out) (b17_)) hk (fun _ h=>h.2)) (fun _ h=>h.1));have n1_:=am (KeepBut.trans (b0_) hk (.inl rfl));have n2_:=am (hb);have n3_:=am (hi);clear HO_5 HK HB;(try clear HI0);have HO_5:=n0_;have HK:=n1_;have HB:=n2_;have HI0:=n3_;clear n0_ n1_ n2_ n3_;(try clear hb);(try clear hb2);(try clear hk);(try clear hi))|((with_reducible refine gate_callee (f:=116) rfl ?_);refine goesA (some 24) rfl rfl Try.func116 #[.pointer (some ⟨g,0,none⟩),.int .i64 a1] rfl ?_;(with_reducible refine(spec_l1Cur_pick.calls g s0_0 t155 t156 a1 t157 t158 t159 w0 _ ?side1 ?side2 A13.out).mono ?_);(case side1=>exact b44_);(case side2=>exact b45_);rintro e w25 ⟨rfl,hi,hb,hk⟩;refine⟨_,rfl,?_⟩;have n0_:=am (Kd.R_mono (Kd.R_keep (IsS138.apart (show IsS138 w0 _ g s0_0 t155 t156 from by repeat (first|(with_reducible first|exact HI0.out|apply IsS138.alloc|apply IsS138.drewN|apply IsS138.drew|apply IsS138.set_1|apply IsS138.set_2)|exact HI0.out)) (bK HO_5.out) (b17_)) hk (fun _ h=>h.2)) (fun _ h=>h.1));have n1_:=am (KeepBut.trans (b0_) hk (.inl rfl));have n2_:=am (hb);have n3_:=am (hi);clear HO_5 HK HB;(try clear HI0);have HO_5:=n0_;have HK:=n1_;have HB:=n2_;have HI0:=n3_;clear n0_ n1_ n2_ n3_;(try clear hb);(try clear hb2);(try clear hk);(try clear hi))|((with_reducible refine gate_dst (N:=7) rfl ?_);refine box_event ?hg (N:=7) ?hd (cs:=#[.int .i64 0,.int .i64 0]) (t:=72) ?hr ?_;(case hd=>rfl);(case hg=>rfl);(case hr=>first|(go_simp;done)|(go_simp;rfl));intro gb160 hg w26 hbox hb;have n0_:=am (Kd.R_below (Kd.R_elderB (bK HO_5.out) gb160 (Nat.le_of_eq hg.symm)) hb);have n1_:=am (IsS138.below (b19_) hb);have n2_:=am (KeepBut.trans (b0_) (KeepBut.of_below hb g none) (.inl rfl));have n3_:=am (below_step (b23_) hb);have n4_:=am (hbox);have n5_:=am ((by rw[hg];exact(keep_size (w:=w) (g:=g) (row:=none) (b0_)):w.heap.size≤gb160));have n6_:=am ((Nat.le_trans HW0.out (by rw[hg];exact(keep_size (w:=w) (g:=g) (row:=none) (b0_)):w.heap.size≤gb160):w0.heap.size≤gb160));have n7_:=am ((by rw[hg];exact Nat.ne_of_lt (IsS138.lt (show IsS138 w0 _ g s0_0 t158 t159 from by repeat (first|(with_reducible first|exact HI0.out|apply IsS138.alloc|apply IsS138.drewN|apply IsS138.drew|apply IsS138.set_1|apply IsS138.set_2)|exact HI0.out))):g≠gb160));have n8_:=am ((by rw[hg];exact Nat.ne_of_gt (IsS138.lt (show IsS138 w0 _ g s0_0 t158 t159 from by repeat (first|(with_reducible first|exact HI0.out|apply IsS138.alloc|apply IsS138.drewN|apply IsS138.drew|apply IsS138.set_1|apply IsS138.set_2)|exact HI0.out))):gb160≠g));clear HO_5;(try clear HI0);clear HK HB;have HO_5:=n0_;have HI0:=n1_;have HK:=n2_;have HB:=n3_;have BK160:=n4_;have GW160:=n5_;have GE160:=n6_;have NB0_160:=n7_;have NB160_0:=n8_;clear n0_ n1_ n2_ n3_ n4_ n5_ n6_ n7_ n8_;clear hb hbox hg;have hnb27:=NB160_0.out;have hnc27:=NB0_160.out;obtain⟨hcz28_0,hcz28_1⟩:=cC2 BK160.out;obtain⟨hfz28_0,hfz28_1⟩:=cF2 BK160.out)|((with_reducible refine gate_builtin (b:=.append) (xs:=#[.tmp 37,.tmp 39]) rfl ?_);at_builtin;refine Kd.R_append k72 w.heap.size rfl (.tmp 37) (.tmp 39) 58 72 (.agg #[(.int .i64 0),(.int .i64 0)]) 16 rfl Try.underlying58 info72 rfl (b17_) (by omega) u5 x5_2 (⟨t154,t157⟩:S72) [.int .i64 t154,.int .i64 t157] (fun k_=>k_≠gb160) (fun _=>False) rfl (by first|(go_simp;done)|(go_simp;rfl)) ?aP (fun _ hk=>hk.elim) ?aF ?aO (Below.refl _ _) ?aS ?aL ?_;(case aP=>exact k72_mkM _ _ _ (⟨t154,t157⟩:S72));(case aF=>exact(fun k_ hk=>Kd.freshB (g:=gb160) (o:=.cells #[.int .i64 t154,.int .i64 t157] 72 (0,0)) (b31_) k_ hk));(case aO=>exact(by(with_reducible repeat (first|apply Kd.R_alloc|apply Kd.R_drewN|apply Kd.R_drew));exact Kd.R_mono (Kd.R_far (p:=⟨gb160,1,none⟩) (Kd.R_far (p:=⟨gb160,0,none⟩) (Kd.R_mono HO_5.out (fun k_ hk=>(⟨hk,hk.2⟩:_∧k_≠gb160))) (fun _ hk=>hk.2) (.int .i64 t154)) (fun _ hk=>hk.2) (.int .i64 t157)) (fun _ hk=>hk.1.2)));(case aS=>exact(keep_size (w:=w) (g:=g) (row:=none) (b43_)));(case aL=>have:=LMc23.out;omega);intro v165 w29 ho hb hg hat;rw[← Ny164.out] at ho;have n0_:=am (IsS138.grown (by repeat (first|(with_reducible first|exact HI0.out|apply IsS138.alloc|apply IsS138.drewN|apply IsS138.drew|apply IsS138.set_1|apply IsS138.set_2|apply IsS138.far (hne:=NB0_160.out))|exact HI0.out)) hg (IsS138.own_ne HI0.out HO_5.out (b17_)));have n1_:=am (blk_grown (g:=gb160) (o:=.cells #[.int .i64 t154,.int .i64 t157] 72 (0,0)) (b31_) hg (Kd.R_away HO_5.out (fun _ hk=>hk.2)));have n2_:=am (below_weaken (by repeat (first|(with_reducible first|exact HB.out|apply below_alloc|apply pw_below_drewN|apply below_drew1|refine below_set ?_ (IsS138.ge HI0.out)|refine below_set ?_ GE160.out)|exact HB.out)) HL.out hb);have n3_:=am (KeepBut.trans (b43_) (KeepBut.of_grown hg g) (Kd.R_base2 HO_5.out));have n4_:=am (ho);(try clear HI0);clear BK160 HB HK HO_5;have HI0:=n0_;have BK160:=n1_;have HB:=n2_;have HK:=n3_;have HO166:=n4_;clear n0_ n1_ n2_ n3_ n4_;clear ho hb hg hat))
        go_roundg k2
        case measure=>have:=HJ4.out;have:=HK2.out;omega
        case rel=>exact⟨(y164),(wrap64 (x6_2 - 1)),(t158),(t159),(bR),H',⟨by have:=HJ4.out;have:=HK2.out;omega⟩,⟨by(with_reducible repeat (first|apply Kd.R_alloc|apply Kd.R_drewN|apply Kd.R_drew));exact Kd.R_mono HO166.out (fun _ hk=>trivial)⟩,⟨by repeat (first|(with_reducible first|exact HI0.out|apply IsS138.alloc|apply IsS138.drewN|apply IsS138.drew|apply IsS138.set_1|apply IsS138.set_2|apply IsS138.far (hne:=NB0_160.out))|exact HI0.out)⟩,⟨by repeat (first|(with_reducible first|exact HK.out|apply KeepBut.set_|apply keep_drewN|apply keep_drew|apply keep_alloc|refine keep_far ?_ GW160.out _)|exact HK.out)⟩,⟨by repeat (first|(with_reducible first|exact HB.out|apply below_alloc|apply pw_below_drewN|apply below_drew1|refine below_set ?_ (IsS138.ge HI0.out)|refine below_set ?_ GE160.out)|exact HB.out)⟩⟩
       ·rw[if_neg c23] at H
        exact absurd H (by simp)
     ·rw[if_neg c11] at H
      have c11b0:decide (0 < x6_2)=false:=decide_eq_false c11
      clear c11
      by_cases c30:(x5_2.length:Int) > 0
      ·rw[if_pos c30] at H
       have c30b0:decide (0 < (x5_2.length:Int))=true:=decide_eq_true c30
       have c30b1:decide (0 < x5_2.length)=true:=decide_eq_true (by omega)
       clear c30
       replace H:=bI_ H
       obtain⟨⟨t167,t168,t169⟩,A310,H⟩:=H
       replace H:(if t167=true then (if 0 < (x5_2.length:Int) then ((spec_l1Cur_among.f s0_0 t168 t169 (([(-1),(rd_T72 x5_2 0).f0,a1]:List Int))).bind fun bt174=>(some ((x5_2.set (0:Int).toNat (⟨(rd_T72 x5_2 0).f0,bt174.1⟩:S72)),bt174.2.1,bt174.2.2))) else (none)) else (some (x5_2,t168,t169)))=some (r1,r2,r3):=H
       have A31:=am A310
       clear A310
       by_cases c32:t167=true
       ·subst c32
        have H1:(if 0 < (x5_2.length:Int) then ((spec_l1Cur_among.f s0_0 t168 t169 (([(-1),(rd_T72 x5_2 0).f0,a1]:List Int))).bind fun bt174=>(some ((x5_2.set (0:Int).toNat (⟨(rd_T72 x5_2 0).f0,bt174.1⟩:S72)),bt174.2.1,bt174.2.2))) else (none))=some (r1,r2,r3):=by rw[if_pos rfl] at H;exact H
        clear H
        have H:=H1
        clear H1
        by_cases c33:0 < (x5_2.length:Int)
        ·rw[if_pos c33] at H
         have c33b0:decide (0 < (x5_2.length:Int))=true:=decide_eq_true c33
         have c33b1:decide (0 < x5_2.length)=true:=decide_eq_true (by omega)
         clear c33
         obtain⟨y171,hy171⟩ : ∃ y_:List Int,y_=(([(-1),(rd_T72 x5_2 0).f0,a1]:List Int)):=⟨_,rfl⟩
         replace H:((spec_l1Cur_among.f s0_0 t168 t169 y171).bind fun bt174=>(some ((x5_2.set (0:Int).toNat (⟨(rd_T72 x5_2 0).f0,bt174.1⟩:S72)),bt174.2.1,bt174.2.2)))=some (r1,r2,r3):=by first|(rw[hy171];with_reducible exact H)|(have H2_:=(Option.bind_some _ _).symm.trans H;rw[hy171];with_reducible exact H2_)|(have H2_:=(Option.bind_some _ _).symm.trans H;with_reducible exact H2_)|with_reducible exact H|(rw[hy171];exact H)|exact H
         have Ny171:=am hy171
         clear hy171
         replace H:=bI_ H
         obtain⟨⟨t174,t175,t176⟩,A340,H⟩:=H
         replace H:(some ((x5_2.set (0:Int).toNat (⟨(rd_T72 x5_2 0).f0,t174⟩:S72)),t175,t176))=some (r1,r2,r3):=H
         have A34:=am A340
         clear A340
         obtain⟨y177,hy177⟩ : ∃ y_:List (S72),y_=(x5_2.set (0:Int).toNat (⟨(rd_T72 x5_2 0).f0,t174⟩:S72)):=⟨_,rfl⟩
         replace H:(some (y177,t175,t176))=some (r1,r2,r3):=by first|(rw[hy177];with_reducible exact H)|(have H2_:=(Option.bind_some _ _).symm.trans H;rw[hy177];with_reducible exact H2_)|(have H2_:=(Option.bind_some _ _).symm.trans H;with_reducible exact H2_)|with_reducible exact H|(rw[hy177];exact H)|exact H
         have Ny177:=am hy177
         clear hy177
         simp only[Option.some.injEq,Prod.mk.injEq] at H
         obtain⟨rfl,rfl,rfl⟩:=H
         obtain⟨Ao36,co36,eo36⟩:=Kd.R_slice HO_5.out
         subst eo36
         go_wp2_with (first|(go_at_call 153;(with_reducible refine(spec_l1Cur_one.calls g s0_0 x1001_2 x1002_2 30 true t168 t169 w0 _ ?side1 ?side2 A31.out).mono ?_);(case side1=>exact b44_);(case side2=>exact b45_);rintro e w37 ⟨rfl,hi,hb,hk⟩;have n0_:=am (Kd.R_mono (Kd.R_keep (IsS138.apart (show IsS138 w0 _ g s0_0 x1001_2 x1002_2 from by repeat (first|(with_reducible first|exact HI0.out|apply IsS138.alloc|apply IsS138.drewN|apply IsS138.drew|apply IsS138.set_1|apply IsS138.set_2)|exact HI0.out)) (bK HO_5.out) (b17_)) hk (fun _ h=>h.2)) (fun _ h=>h.1));have n1_:=am (KeepBut.trans (b0_) hk (.inl rfl));have n2_:=am (hb);have n3_:=am (hi);clear HO_5 HK HB;(try clear HI0);have HO_5:=n0_;have HK:=n1_;have HB:=n2_;have HI0:=n3_;clear n0_ n1_ n2_ n3_;(try clear hb);(try clear hb2);(try clear hk);(try clear hi);have p170:0≤(0:Int):=(by omega);have q170:0 < (x5_2.length:Int):=bD_;obtain⟨ad170,e170,hx170_0,hx170_1⟩:=at_T72 (Kd.R_reads' HO_5.out).2.2 0 p170 q170;cases e170;have qi170:(0 < x5_2.length)=True:=eq_true (by omega);(try rw[show((0:Int)).toNat=0 from rfl] at hx170_0);(try rw[show 0 * 2=0 from rfl] at hx170_0);(try rw[Addr.add_zero'] at hx170_0);(try rw[show((0:Int)).toNat=0 from rfl] at hx170_1);(try rw[show 0 * 2=0 from rfl] at hx170_1);(try rw[Addr.add_zero'] at hx170_1);replace p170:=eq_true p170;replace q170:=eq_true q170)|((with_reducible refine gate_dst (N:=55) rfl ?_);refine Kd.R_lit (Kd.int .i64) _ 3 ?hg (N:=55) ?hd (xs:=([(-1),(rd_T72 x5_2 0).f0,a1]:List Int)) (inner:=[.int .i64 (-1),.int .i64 ((rd_T72 x5_2 0).f0),.int .i64 a1]) (ok:=fun _=>True) (okp:=fun _=>True) ?hr ?hp (fun _ hk=>hk) trivial (Below.refl _ _) (Nat.le_refl _) (by simp) ?_;(case hd=>rfl);(case hg=>rfl);(case hr=>first|(go_simp;done)|(go_simp;rfl));(case hp=>exact(Reps.one (show Kd.M (Kd.int .i64) _ _ _ (-1) [.int .i64 (-1)] from rfl) (Reps.one (show Kd.M (Kd.int .i64) _ _ _ ((rd_T72 x5_2 0).f0) [.int .i64 ((rd_T72 x5_2 0).f0)] from rfl) (Reps.one (show Kd.M (Kd.int .i64) _ _ _ a1 [.int .i64 a1] from rfl) (Reps.none _ _)))));intro v172 w38 ho39 hb hg_ hnew_;clear hg_ hnew_;(first|rw[← Ny171.out] at ho39|(simp only[Int.reduceToNat] at ho39;rw[← Ny171.out] at ho39));have n0_:=am (Kd.R_below (bK HO_5.out) hb);have n1_:=am (Kd.R_lower ho39 (keep_size (w:=w) (g:=g) (row:=none) (b0_)));have n2_:=am (IsS138.below (b19_) hb);have n3_:=am (KeepBut.trans (b0_) (KeepBut.of_below hb g none) (.inl rfl));have n4_:=am (below_step (b23_) hb);clear HO_5;(try clear HI0);clear HK HB;have HO_5:=n0_;have HO173:=n1_;have HI0:=n2_;have HK:=n3_;have HB:=n4_;clear n0_ n1_ n2_ n3_ n4_;clear hb ho39;obtain⟨Ao40,co40,eo40⟩:=Kd.R_slice HO173.out;subst eo40)|((with_reducible refine gate_callee (f:=154) rfl ?_);refine goesA (some 56) rfl rfl Try.func154 #[.pointer (some ⟨g,0,none⟩),.slice Ao40 y171.length co40] rfl ?_;(with_reducible refine(spec_l1Cur_among.calls g s0_0 t168 t169 _ _ y171 t174 t175 t176 w0 _ ?side1 ?side2 ?side3 ?side4 ?side5 A34.out).mono ?_);(case side1=>exact b44_);(case side2=>exact b45_);(case side3=>exact bT HO173.out);(case side4=>exact(Kd.R_reads' HO173.out).2.1);(case side5=>exact far_slice (IsS138.own_ne HI0.out HO173.out (b17_)));rintro e w41 ⟨rfl,hi,hb,hk⟩;refine⟨_,rfl,?_⟩;have n0_:=am (Kd.R_mono (Kd.R_keep (IsS138.apart (show IsS138 w0 _ g s0_0 t168 t169 from by repeat (first|(with_reducible first|exact HI0.out|apply IsS138.alloc|apply IsS138.drewN|apply IsS138.drew|apply IsS138.set_1|apply IsS138.set_2)|exact HI0.out)) (bK HO_5.out) (b17_)) hk (fun _ h=>h.2)) (fun _ h=>h.1));have n1_:=am (Kd.R_mono (Kd.R_keep (IsS138.apart (show IsS138 w0 _ g s0_0 t168 t169 from by repeat (first|(with_reducible first|exact HI0.out|apply IsS138.alloc|apply IsS138.drewN|apply IsS138.drew|apply IsS138.set_1|apply IsS138.set_2)|exact HI0.out)) (bK HO173.out) (b17_)) hk (fun _ h=>h.2)) (fun _ h=>h.1));have n2_:=am (KeepBut.trans (b0_) hk (.inl rfl));have n3_:=am (hb);have n4_:=am (hi);clear HO_5 HO173 HK HB;(try clear HI0);have HO_5:=n0_;have HO173:=n1_;have HK:=n2_;have HB:=n3_;have HI0:=n4_;clear n0_ n1_ n2_ n3_ n4_;(try clear hb);(try clear hb2);(try clear hk);(try clear hi);have p35:0≤(0:Int):=(by omega);have q35:(0:Int) < ((x5_2.length:Int):Int):=bD_;have qi35:(0 < x5_2.length)=True:=eq_true (by omega);obtain⟨go35,co35,eo35,gb35,gl35,cl35,HG35⟩:=Kd.R_form HO_5.out (by omega);(first|cases eo35|(injection eo35 with ea_ en_ ec_;(first|subst ea_|(injection ea_ with ea_;subst ea_));subst ec_;clear en_));have GB35:=am gb35;have GG35:=am HG35;clear gb35 gl35 HG35;(first|simp only[add_plain] at hx170_0|skip);(first|simp only[add_plain] at hx170_1|skip);obtain⟨ce35,hcl35,hM35,hcc35,hfr35⟩:=Kd.R_elem HO_5.out z72 (0:Int) p35 q35;obtain rfl:=k72_openM hM35;have hx35_0:w41.cell? ⟨go35,(0:Int).toNat * 2,none⟩=some (.int .i64 ((rd_T72 x5_2 0).f0)):=hcc35 0 _ rfl;have hx35_1:w41.cell? ⟨go35,(0:Int).toNat * 2+1,none⟩=some (.int .i64 ((rd_T72 x5_2 0).f1)):=hcc35 1 _ rfl;have hf35_0:w41.frozen? ⟨go35,(0:Int).toNat * 2,none⟩=false:=hfr35 0;have hf35_1:w41.frozen? ⟨go35,(0:Int).toNat * 2+1,none⟩=false:=hfr35 1;clear hcl35 hcc35 hfr35 hM35;(try rw[show((0:Int)).toNat=0 from rfl] at hx35_0);(try simp only[Nat.reduceMul,Nat.zero_mul,Nat.zero_add,Nat.reduceAdd] at hx35_0);(try rw[show((0:Int)).toNat=0 from rfl] at hf35_0);(try simp only[Nat.reduceMul,Nat.zero_mul,Nat.zero_add,Nat.reduceAdd] at hf35_0);(try rw[show((0:Int)).toNat=0 from rfl] at hx35_1);(try simp only[Nat.reduceMul,Nat.zero_mul,Nat.zero_add,Nat.reduceAdd] at hx35_1);(try rw[show((0:Int)).toNat=0 from rfl] at hf35_1);(try simp only[Nat.reduceMul,Nat.zero_mul,Nat.zero_add,Nat.reduceAdd] at hf35_1);replace p35:=eq_true p35;replace q35:=eq_true q35;have HX42:=am (show Kd.R k72 72 w41 w.heap.size (fun _=>True) (.slice (some ⟨go35,0,none⟩) x5_2.length co36) x5_2 from (bK HO_5.out));obtain⟨ce42,hcl42,hM42,hcc42,hfr42⟩:=Kd.R_elem HX42.out z72 (0:Int) (by omega) (by have h_:(0:Int) < ((x5_2.length:Int):Int):=bD_;first|exact h_|(have e_:=(Kd.R_reads' HO_5.out).1;omega)|simpa using h_);obtain rfl:=k72_openM hM42;have HP42:=Kd.R_seg HX42.out (0:Int) (by omega) (by have h_:(0:Int) < ((x5_2.length:Int):Int):=bD_;first|exact h_|(have e_:=(Kd.R_reads' HO_5.out).1;omega)|simpa using h_) (seg:=[.int .i64 t174]) (j:=1) hcl42 hcc42 (show 2≤2 from by decide) (x':=(⟨(rd_T72 x5_2 0).f0,t174⟩:S72)) (k72_mkM _ _ _ (⟨(rd_T72 x5_2 0).f0,t174⟩:S72) ) (fun _ hk=>hk);have hx42_1:=hcc42 1 _ rfl;(try simp only[show(k72).sz=2 from rfl,Nat.mul_one,Nat.add_zero] at hx42_1);(try rw[show((0:Int)).toNat=0 from rfl] at hx42_1);(try simp only[Nat.reduceMul,Nat.zero_mul,Nat.zero_add,Nat.reduceAdd] at hx42_1);have hf42_1:=hfr42 1;(try simp only[show(k72).sz=2 from rfl,Nat.mul_one,Nat.add_zero] at hf42_1);(try rw[show((0:Int)).toNat=0 from rfl] at hf42_1);(try simp only[Nat.reduceMul,Nat.zero_mul,Nat.zero_add,Nat.reduceAdd] at hf42_1);clear hcl42 hcc42 hfr42 hM42)|((with_reducible refine gate_store (t:=3) (p:=58) rfl ?_);refine store_event (t:=3) (p:=58) (v:=?vo_w43) (w1:=(w41.setCell ⟨go35,1,none⟩ (.int .i64 t174))) ?hg ?ho ?hn ?hr ?_;(case ho=>rfl);(case hg=>rfl);(case hn=>rfl);(case hr=>first|(go_simp;done)|(go_simp;rfl));intro w43 hw;have hg:w41.grownBy w43 (some go35):=(by rw[hw];exact HP42.2);have hp_:Kd.R k72 72 w43 w.heap.size (fun _=>True) (.slice (some ⟨go35,0,none⟩) x5_2.length co36) y177:=(by rw[hw,Ny177.out];exact HP42.1);clear HP42;have n0_:=am (hp_);have n1_:=am (IsS138.grown (b19_) hg (IsS138.own_ne HI0.out HO_5.out (b17_)));have n2_:=am (Kd.R_over' (v:=(.slice (some ⟨go35,0,none⟩) x5_2.length co36)) (bK HO173.out) (Kd.R_typed HO_5.out) (b17_) hg);have n3_:=am ((by rw[hw];exact below_set (HB.out) (Nat.le_trans HL.out GB35.out):Below w0.heap.size w0 w43));have n4_:=am (KeepBut.trans (b0_) (KeepBut.of_grown hg g) (Kd.R_base2 HO_5.out));clear HO_5;(try clear HI0);clear HO173 HB HK;have HO_5:=n0_;have HI0:=n1_;have HO173:=n2_;have HB:=n3_;have HK:=n4_;clear n0_ n1_ n2_ n3_ n4_;clear hg hw hp_))
         go_ret
         exact⟨_,by first|rfl|(simp[errW_none,errW_some]<;>rfl)|(simp[*,errW_none,errW_some]<;>rfl),by(with_reducible repeat (first|apply Kd.R_alloc|apply Kd.R_drewN|apply Kd.R_drew));exact HO_5.out,b53_,by repeat (first|(with_reducible first|exact HB.out|apply below_alloc|apply pw_below_drewN|apply below_drew1|refine below_set ?_ (IsS138.ge HI0.out))|exact HB.out),b51_⟩
        ·rw[if_neg c33] at H
         exact absurd H (by simp)
       ·replace c32:=Bool.eq_false_iff.mpr c32
        subst c32
        have H1:(some (x5_2,t168,t169))=some (r1,r2,r3):=by rw[if_neg (show ¬ (false=true) by decide)] at H;exact H
        clear H
        have H:=H1
        clear H1
        simp only[Option.some.injEq,Prod.mk.injEq] at H
        obtain⟨rfl,rfl,rfl⟩:=H
        obtain⟨Ao44,co44,eo44⟩:=Kd.R_slice HO_5.out
        subst eo44
        go_wp2_with (first|(go_at_call 153;(with_reducible refine(spec_l1Cur_one.calls g s0_0 x1001_2 x1002_2 30 false t168 t169 w0 _ ?side1 ?side2 A31.out).mono ?_);(case side1=>exact b44_);(case side2=>exact b45_);rintro e w45 ⟨rfl,hi,hb,hk⟩;have n0_:=am (Kd.R_mono (Kd.R_keep (IsS138.apart (show IsS138 w0 _ g s0_0 x1001_2 x1002_2 from by repeat (first|(with_reducible first|exact HI0.out|apply IsS138.alloc|apply IsS138.drewN|apply IsS138.drew|apply IsS138.set_1|apply IsS138.set_2)|exact HI0.out)) (bK HO_5.out) (b17_)) hk (fun _ h=>h.2)) (fun _ h=>h.1));have n1_:=am (KeepBut.trans (b0_) hk (.inl rfl));have n2_:=am (hb);have n3_:=am (hi);clear HO_5 HK HB;(try clear HI0);have HO_5:=n0_;have HK:=n1_;have HB:=n2_;have HI0:=n3_;clear n0_ n1_ n2_ n3_;(try clear hb);(try clear hb2);(try clear hk);(try clear hi)))
        go_ret
        exact⟨_,by first|rfl|(simp[errW_none,errW_some]<;>rfl)|(simp[*,errW_none,errW_some]<;>rfl),by(with_reducible repeat (first|apply Kd.R_alloc|apply Kd.R_drewN|apply Kd.R_drew));exact HO_5.out,b53_,by repeat (first|(with_reducible first|exact HB.out|apply below_alloc|apply pw_below_drewN|apply below_drew1|refine below_set ?_ (IsS138.ge HI0.out))|exact HB.out),b51_⟩
      ·rw[if_neg c30] at H
       have c30b0:decide (0 < (x5_2.length:Int))=false:=decide_eq_false c30
       have c30b1:decide (0 < x5_2.length)=false:=decide_eq_false (by omega)
       clear c30
       simp only[Option.some.injEq,Prod.mk.injEq] at H
       obtain⟨rfl,rfl,rfl⟩:=H
       obtain⟨Ao46,co46,eo46⟩:=Kd.R_slice HO_5.out
       subst eo46
       go_wp2
       go_ret
       exact⟨_,by first|rfl|(simp[errW_none,errW_some]<;>rfl)|(simp[*,errW_none,errW_some]<;>rfl),by(with_reducible repeat (first|apply Kd.R_alloc|apply Kd.R_drewN|apply Kd.R_drew));exact HO_5.out,b53_,by repeat (first|(with_reducible first|exact HB.out|apply below_alloc|apply pw_below_drewN|apply below_drew1|refine below_set ?_ (IsS138.ge HI0.out))|exact HB.out),b51_⟩

/-! ### spec_DrawPlaySpray: function 37 -/
def spec_DrawPlaySpray.f (k:Nat) (l0:List Int):Option (Int × Int × Int × Int × (List (S72))):=(spec_l1Cur_sprayOf.f l0 0 0).bind fun bt179=>((spec_l1Cur_meets.f k l0 bt179.2.2.2.2.1 bt179.2.2.2.2.2 bt179.1).bind fun bt185=>(some (bt179.1,bt179.2.1,bt179.2.2.1,bt179.2.2.2.1,bt185.1)))
theorem spec_DrawPlaySpray.mono : ∀ a0 k,LeO (spec_DrawPlaySpray.f k a0) (spec_DrawPlaySpray.f (k+1) a0):=by
 intro a0 k
 unfold spec_DrawPlaySpray.f
 repeat' first
  | (with_reducible exact spec_l1Cur_meets.mono _ _ _ _ _)
  | (with_reducible exact LeO.refl _)
  | (with_reducible exact LeO.none _)
  | (with_reducible refine LeO.ite ?_ ?_)
  | (with_reducible refine LeO.bind ?_ (fun _ => ?_))
set_option maxHeartbeats 8000000 in
set_option maxRecDepth 100000 in
theorem spec_DrawPlaySpray.calls (k:Nat) (A0:Option Addr) (c0:Nat) (l0:List Int) (r1:Int) (r2:Int) (r3:Int) (r4:Int) (r5:List (S72)) (w:World) (hr0:Kd.C (Kd.int .u8) w A0 l0.length l0) (hc0:l0.length≤c0) (h:spec_DrawPlaySpray.f k l0=some (r1,r2,r3,r4,r5)) :
  Calls Try.prog 37 #[.slice A0 l0.length c0] w fun e w' => ∃ v4_:Value,e=.returned (.tuple #[.int .i64 r1,.int .i64 r2,.int .i64 r3,.int .i64 r4,v4_])∧Kd.R k72 72 w' w.heap.size (fun _=>True) v4_ r5∧Below w.heap.size w w':=by
 have hu138:=Try.underlying138
 have HR0:=am hr0
 have HC0:=am hc0
 clear hr0 hc0
 have HB:=am (Below.refl w.heap.size w)
 have H:((spec_l1Cur_sprayOf.f l0 0 0).bind fun bt179=>((spec_l1Cur_meets.f k l0 bt179.2.2.2.2.1 bt179.2.2.2.2.2 bt179.1).bind fun bt185=>(some (bt179.1,bt179.2.1,bt179.2.2.1,bt179.2.2.2.1,bt185.1))))=some (r1,r2,r3,r4,r5):=h
 clear h
 replace H:=bI_ H
 obtain⟨⟨t179,t180,t181,t182,t183,t184⟩,A20,H⟩:=H
 replace H:((spec_l1Cur_meets.f k l0 t183 t184 t179).bind fun bt185=>(some (t179,t180,t181,t182,bt185.1)))=some (r1,r2,r3,r4,r5):=H
 have A2:=am A20
 clear A20
 replace H:=bI_ H
 obtain⟨⟨t185,t188,t189⟩,A30,H⟩:=H
 replace H:(some (t179,t180,t181,t182,t185))=some (r1,r2,r3,r4,r5):=H
 have A3:=am A30
 clear A30
 simp only[Option.some.injEq,Prod.mk.injEq] at H
 obtain⟨rfl,rfl,rfl,rfl,rfl⟩:=H
 go_enter Try.func37,Try.ntmps37
 go_wp2_with (first|((with_reducible refine gate_dst (N:=14) rfl ?_);refine box_event ?hg (N:=14) ?hd (cs:=#[.slice A0 l0.length c0,.int .i64 0,.int .u64 0]) (t:=138) ?hr ?_;(case hd=>rfl);(case hg=>rfl);(case hr=>first|(go_simp;done)|(go_simp;rfl));intro gb178 hg w4 hbox hb;have n0_:=am (below_step (bB) hb);have n1_:=am (hbox);have n2_:=am ((bG:w.heap.size≤gb178));have n3_:=am ((bG:w.heap.size≤gb178));clear HB;have HB:=n0_;have BK178:=n1_;have GW178:=n2_;have GE178:=n3_;clear n0_ n1_ n2_ n3_;clear hb hbox hg)|((with_reducible refine gate_callee (f:=105) rfl ?_);refine goesA (some 17) rfl rfl Try.func105 #[.pointer (some ⟨gb178,0,none⟩)] rfl ?_;(with_reducible refine(spec_l1Cur_sprayOf.calls gb178 l0 0 0 t179 t180 t181 t182 t183 t184 w _ ?side1 ?side2 A2.out).mono ?_);(case side1=>exact⟨_,_,(bL BK178.out),GE178.out,HR0.out⟩);(case side2=>repeat (first|(with_reducible first|exact HB.out|apply below_alloc|apply pw_below_drewN|apply below_drew1|refine below_set ?_ (IsS138.ge HI178.out))|exact HB.out));rintro e w5 ⟨rfl,hi,hb,hk⟩;refine⟨_,rfl,?_⟩;have n0_:=am (hb);have n1_:=am (hi);clear HB BK178;have HB:=n0_;have HI178:=n1_;clear n0_ n1_;(try clear hb);(try clear hb2);(try clear hk);(try clear hi))|((with_reducible refine gate_callee (f:=106) rfl ?_);refine goesA (some 28) rfl rfl Try.func106 #[.pointer (some ⟨gb178,0,none⟩),.int .i64 t179] rfl ?_;(with_reducible refine(spec_l1Cur_meets.calls k gb178 l0 t183 t184 t179 t185 t188 t189 w _ ?side1 ?side2 A3.out).mono ?_);(case side1=>repeat (first|(with_reducible first|exact HI178.out|apply IsS138.alloc|apply IsS138.drewN|apply IsS138.drew|apply IsS138.set_1|apply IsS138.set_2)|exact HI178.out));(case side2=>repeat (first|(with_reducible first|exact HB.out|apply below_alloc|apply pw_below_drewN|apply below_drew1|refine below_set ?_ (IsS138.ge HI178.out))|exact HB.out));rintro e w6 ⟨v186,rfl,ho0,hi,hb,hk⟩;refine⟨_,rfl,?_⟩;have n0_:=am (Kd.R_lower ho0 (below_size (by repeat (first|(with_reducible first|exact HB.out|apply below_alloc|apply pw_below_drewN|apply below_drew1|refine below_set ?_ (IsS138.ge HI178.out))|exact HB.out))));have n1_:=am (hb);have n2_:=am (hi);clear HB;(try clear HI178);have HO187:=n0_;have HB:=n1_;have HI178:=n2_;clear n0_ n1_ n2_;(try clear hb);(try clear hb2);(try clear hk);(try clear hi);(try clear ho0)))
 refine bodyPost_ret (results_list (rs:=[.tmp 2,.tmp 3,.tmp 4,.tmp 5,.tmp 6]) rfl (by simp) (.tmp (.tmp (.tmp (.tmp (.tmp .nil)))))) rfl ?_
 exact⟨_,by first|rfl|(simp[errW_none,errW_some]<;>rfl)|(simp[*,errW_none,errW_some]<;>rfl),by(with_reducible repeat (first|apply Kd.R_alloc|apply Kd.R_drewN|apply Kd.R_drew));exact HO187.out,by repeat (first|(with_reducible first|exact HB.out|apply below_alloc|apply pw_below_drewN|apply below_drew1|refine below_set ?_ (IsS138.ge HI178.out))|exact HB.out)⟩

/-! ### impl_within: function 79 -/
def impl_within.f (a0:Int) (a1:Int) (a2:Int):Option (Bool):=if a1≤a0 then (some (decide (a0≤a2))) else (some false)
set_option maxHeartbeats 8000000 in
set_option maxRecDepth 100000 in
theorem impl_within.calls (a0:Int) (a1:Int) (a2:Int) (r:Bool) (w:World) (h:impl_within.f a0 a1 a2=some r) :
  Calls Try.prog 79 #[.int .i64 a0,.int .i64 a1,.int .i64 a2] w fun e w'=>e=.returned (.bool r)∧Drawn0 w w':=by
 have H:(if a1≤a0 then (some (decide (a0≤a2))) else (some false))=some r:=h
 clear h
 by_cases c4:a1≤a0
 ·rw[if_pos c4] at H
  have c4b0:decide (a1≤a0)=true:=decide_eq_true c4
  clear c4
  obtain rfl:=Option.some.inj H
  go_enter Try.func79,Try.ntmps79
  go_wp2
  go_ret
  exact⟨bR,bW⟩
 ·rw[if_neg c4] at H
  have c4b0:decide (a1≤a0)=false:=decide_eq_false c4
  clear c4
  obtain rfl:=Option.some.inj H
  go_enter Try.func79,Try.ntmps79
  go_wp2
  go_ret
  exact⟨bR,bW⟩

/-! ### impl_Spray_tokens: function 110 -/
def impl_Spray_tokens.l0:Nat→Int→List Int→Int→Int→Option (Int)
 | 0,_,_,_,_=>none
 | k+1,x3,x7,x8,x9=>if x9 < x8 then (if 0≤x9 then (if x9 < (x7.length:Int) then (impl_Spray_tokens.l0 k (wrap64 (x3+(rd x7 x9))) x7 x8 (wrap64 (x9+1))) else (none)) else (none)) else (some x3)
def impl_Spray_tokens.f (k:Nat) (l0_0:List Int) (a0_1:Int) (a0_2:Bool):Option (Int):=impl_Spray_tokens.l0 k 0 l0_0 (l0_0.length:Int) 0
theorem impl_Spray_tokens.mono_l : ∀ k,(∀ y0 y1 y2 y3,LeO (impl_Spray_tokens.l0 k y0 y1 y2 y3) (impl_Spray_tokens.l0 (k+1) y0 y1 y2 y3))
 | 0=>fun _ _ _ _ r h=>by simp[impl_Spray_tokens.l0] at h
 | k+1=>by
  have ih0:=impl_Spray_tokens.mono_l k
  ·intro y0 y1 y2 y3
   unfold impl_Spray_tokens.l0
   repeat' first
   | (with_reducible exact ih0 _ _ _ _)
   | (with_reducible exact LeO.refl _)
   | (with_reducible exact LeO.none _)
   | (with_reducible refine LeO.ite ?_ ?_)
   | (with_reducible refine LeO.bind ?_ (fun _ => ?_))
theorem impl_Spray_tokens.mono : ∀ a0 a1 a2 k,LeO (impl_Spray_tokens.f k a0 a1 a2) (impl_Spray_tokens.f (k+1) a0 a1 a2):=by
 intro a0 a1 a2 k
 have ih0:=impl_Spray_tokens.mono_l k
 unfold impl_Spray_tokens.f
 repeat' first
  | (with_reducible exact ih0 _ _ _ _)
  | (with_reducible exact LeO.refl _)
  | (with_reducible exact LeO.none _)
  | (with_reducible refine LeO.ite ?_ ?_)
  | (with_reducible refine LeO.bind ?_ (fun _ => ?_))
set_option maxHeartbeats 8000000 in
set_option maxRecDepth 100000 in
theorem impl_Spray_tokens.calls (k:Nat) (A0_0:Option Addr) (c0_0:Nat) (l0_0:List Int) (a0_1:Int) (a0_2:Bool) (r:Int) (w:World) (hr0_0:Kd.C (Kd.int .i64) w A0_0 l0_0.length l0_0) (hc0_0:l0_0.length≤c0_0) (h:impl_Spray_tokens.f k l0_0 a0_1 a0_2=some r) :
  Calls Try.prog 110 #[.agg #[.slice A0_0 l0_0.length c0_0,.int .i64 a0_1,.bool a0_2]] w fun e w'=>e=.returned (.int .i64 r)∧Below w.heap.size w w':=by
 have hu62:=Try.underlying62
 have HR0_0:=am hr0_0
 have HC0_0:=am hc0_0
 clear hr0_0 hc0_0
 have HB:=am (Below.refl w.heap.size w)
 have H:(impl_Spray_tokens.l0 k 0 l0_0 (l0_0.length:Int) 0)=some r:=h
 clear h
 have H':=am H
 clear H
 go_enter Try.func110,Try.ntmps110
 go_wp2_with (first|((with_reducible refine gate_dst (N:=1) rfl ?_);refine box_event ?hg (N:=1) ?hd (cs:=#[.slice A0_0 l0_0.length c0_0,.int .i64 a0_1,.bool a0_2]) (t:=62) ?hr ?_;(case hd=>rfl);(case hg=>rfl);(case hr=>first|(go_simp;done)|(go_simp;rfl));intro gb190 hg w2 hbox hb;have n0_:=am (below_step (bB) hb);have n1_:=am (hbox);have n2_:=am ((bG:w.heap.size≤gb190));have n3_:=am ((bG:w.heap.size≤gb190));clear HB;have HB:=n0_;have BK190:=n1_;have GW190:=n2_;have GE190:=n3_;clear n0_ n1_ n2_ n3_;clear hb hbox hg;obtain⟨hcz3_0,hcz3_1,hcz3_2⟩:=cC3 BK190.out;obtain⟨hfz3_0,hfz3_1,hfz3_2⟩:=cF3 BK190.out))
 go_loopg [3,9] k (fun kq v3 v9 w' => ∃ (x3_1:Int) (x9_1:Int),v3=.int .i64 x3_1∧v9=.int .i64 x9_1∧Aside0 (impl_Spray_tokens.l0 kq x3_1 l0_0 (l0_0.length:Int) x9_1=some r)∧Aside0 (kq≤k)∧Aside0 (w'.heap[gb190]?=some (.cells #[(.slice A0_0 l0_0.length c0_0),.int .i64 a0_1,.bool a0_2] 62 (0,0)))∧Aside0 (Below w.heap.size w w'))
 case atStart=>exact⟨(0),(0),(bR),(bR),H',⟨Nat.le_refl _⟩,⟨by(with_reducible repeat (first|refine blk_drewN ?_ _|refine blk_drew ?_|refine blk_alloc ?_ _));exact BK190.out⟩,⟨bS GE190.out⟩⟩
 case round =>
  clear H'
  try clear c1
  try clear p2
  try clear hcz3_0 hcz3_1 hcz3_2
  try clear hfz3_0 hfz3_1 hfz3_2
  obtain⟨x3_1,x9_1,rfl,rfl,HA,HK1,BK190,HB⟩:=hrel
  cases gk with
  | zero=>exact absurd HA.out (by simp[impl_Spray_tokens.l0])
  | succ k1 =>
   have H:=HA.out
   clear HA
   simp only[impl_Spray_tokens.l0] at H
   by_cases c4:x9_1 < (l0_0.length:Int)
   ·rw[if_pos c4] at H
    have c4b0:decide (x9_1 < (l0_0.length:Int))=true:=decide_eq_true c4
    clear c4
    by_cases c5:0≤x9_1
    ·rw[if_pos c5] at H
     have c5b0:decide (0≤x9_1)=true:=decide_eq_true c5
     clear c5
     by_cases c6:x9_1 < (l0_0.length:Int)
     ·rw[if_pos c6] at H
      have c6b0:decide (x9_1 < (l0_0.length:Int))=true:=decide_eq_true c6
      clear c6
      have H':=am H
      clear H
      have p191:0≤(x9_1:Int):=bD_
      have q191:x9_1 < (l0_0.length:Int):=bD_
      obtain⟨ad191,e191,hx191_0⟩:=Kd.at_int HR0_0.out x9_1 p191 q191
      cases e191
      replace hx191_0:=bQ_ HB.out hx191_0
      replace p191:=eq_true p191
      replace q191:=eq_true q191
      go_wp2
      go_roundg k1
      case measure=>have:=HK1.out;omega
      case rel=>exact⟨(wrap64 (x3_1+(rd l0_0 x9_1))),(wrap64 (x9_1+1)),(bR),(bR),H',⟨by have:=HK1.out;omega⟩,⟨by(with_reducible repeat (first|refine blk_drewN ?_ _|refine blk_drew ?_|refine blk_alloc ?_ _));exact BK190.out⟩,⟨bS GE190.out⟩⟩
     ·rw[if_neg c6] at H
      exact absurd H (by simp)
    ·rw[if_neg c5] at H
     exact absurd H (by simp)
   ·rw[if_neg c4] at H
    have c4b0:decide (x9_1 < (l0_0.length:Int))=false:=decide_eq_false c4
    clear c4
    obtain rfl:=Option.some.inj H
    go_wp2
    go_ret
    exact⟨bE,bS GE190.out⟩

/-! ### impl_isWide: function 112 -/
def impl_isWide.f (a0:Int):Option (Bool):=(impl_within.f a0 2 8).bind fun t192=>(some t192)
set_option maxHeartbeats 8000000 in
set_option maxRecDepth 100000 in
theorem impl_isWide.calls (a0:Int) (r:Bool) (w:World) (h:impl_isWide.f a0=some r) :
  Calls Try.prog 112 #[.int .i64 a0] w fun e w'=>e=.returned (.bool r)∧Drawn0 w w':=by
 have H:((impl_within.f a0 2 8).bind fun t192=>(some t192))=some r:=h
 clear h
 replace H:=bI_ H
 obtain⟨t192,A20,H⟩:=H
 have A2:=am A20
 clear A20
 obtain rfl:=Option.some.inj H
 go_enter Try.func112,Try.ntmps112
 go_wp2_with (first|((with_reducible refine gate_callee (f:=79) rfl ?_);refine goesA (some 4) rfl rfl Try.func79 #[.int .i64 a0,.int .i64 2,.int .i64 8] rfl ?_;(with_reducible refine(impl_within.calls a0 2 8 t192 _ A2.out).mono ?_);rintro e w' ⟨rfl,⟨nd,rfl⟩⟩;refine⟨_,rfl,?_⟩))
 go_ret
 exact⟨bR,bW⟩

-- NOT PRINTED: function 148 (slices_IndexFunc_int_int)

-- NOT PRINTED: function 113 (slices_ContainsFunc_int_int)

end Go.Proofs.Yteneeohaoplpbaa.XFnSpray
