/- Who goes on by the plan, place by place, is there when the plan told at first, for all bytes that the plans, bundles and nodes are drawn from. -/
import Derived.Test.YteneeohaoplpbaaXFnFollowx15
set_option linter.unusedVariables false
set_option linter.unusedSimpArgs false
namespace Go.Proofs.Yteneeohaoplpbaa.Pure
open Go.RowKit Go.Proofs.Yteneeohaoplpbaa.XFnFollow Go.Proofs.YteneeohaoplpbaaW.PrintWords Go.Proofs.YteneeohaoplpbaaW.PrintLast Go.Proofs.YteneeohaoplpbaaW.PrintMore

def laws_FnFollow.Stmt:Prop:=∀ (l0:List Int) (l1:List Int),(l0.length≤maxLen ∧ ∀ x ∈ l0,(Lit.int .u8 x).wf=true)→(l1.length≤maxLen ∧ ∀ x ∈ l1,(Lit.int .u8 x).wf=true) → ∃ k,laws_FnFollow.f k l0 l1=some true

theorem wrap_in {x:Int} (h0 : -9223372036854775808≤x) (h1:x≤9223372036854775807):wrap64 x=x:=by
  unfold wrap64
  omega
theorem wrap_succ {i n:Nat} (h:i < n) (hn:n≤9223372036854775807):wrap64 ((i:Int)+1)=((i+1:Nat):Int):=by
  rw[wrap_in (by omega) (by omega)]
  omega

theorem sin_is (a b c:Int):spec_l1In.f a b c=some (decide (b≤a∧a≤c)):=by
  unfold spec_l1In.f
  by_cases h:a ≥ b
  · have h':b≤a:=h
    simp[h']
  · have h' : ¬ b≤a:=h
    simp[h']
theorem iin_is (a b c:Int):impl_within.f a b c=some (decide (b≤a∧a≤c)):=by
  unfold impl_within.f
  by_cases h:b≤a<;>simp[h]
theorem rd104_mem (l:List S104) (i:Nat) (h:i < l.length):rd_T104 l (i:Int) ∈ l:=by
  unfold rd_T104
  rw[show(i:Int).toNat=i from rfl,List.getD_eq_getElem?_getD,List.getElem?_eq_getElem h]
  exact List.getElem_mem h
theorem drop104 (l:List S104) (i:Nat) (h:i < l.length):l.drop i=rd_T104 l (i:Int)::l.drop (i+1):=by
  rw[List.drop_eq_getElem_cons h]
  unfold rd_T104
  simp[List.getD_eq_getElem?_getD,List.getElem?_eq_getElem h]
def GC (c:S104):Prop:=(0≤c.f0∧c.f0 < 8)∧(0≤c.f1∧c.f1 < 8)∧c.f0≠c.f1∧(0≤c.f3∧c.f3≤1000)∧0≤c.f2∧c.f2 < c.f3∧(0≤c.f4∧c.f4≤100)
noncomputable instance (c:S104):Decidable (GC c):=Classical.propDecidable _
def GP (l:List S104):Prop:=(∀ c ∈ l,GC c)∧l.length≤20
noncomputable instance (l:List S104):Decidable (GP l):=Classical.propDecidable _
theorem snode_is (a:Int):spec_l6Node.f a=some (decide (0≤a∧a < 8)):=by
  unfold spec_l6Node.f
  by_cases h:a ≥ 0
  · have h':0≤a:=h
    simp[h']
  · have h' : ¬ 0≤a:=h
    simp[h']
theorem inode_is (a:Int):impl_isNode.f a=some (decide (0≤a∧a < 8)):=by
  unfold impl_isNode.f
  rw[iin_is]
  exact congrArg some (decide_eq_decide.mpr (by omega))
theorem swhen_is (a:Int):spec_l6When.f a=some (decide (0≤a∧a≤1000)):=by
  unfold spec_l6When.f
  rw[sin_is]
  rfl
theorem iwhen_is (a:Int):impl_isWhen.f a=some (decide (0≤a∧a≤1000)):=by
  unfold impl_isWhen.f
  rw[iin_is]
  rfl
theorem splan_l0 (x l:List S104) (hn:l.length≤1048576) (d:Nat) : ∀ (k i:Nat),l.length - i=d→i≤l.length→d < k →
    spec_GoodPlan.l0 k x l (l.length:Int) (i:Int)=some (decide ((∀ c ∈ l.drop i,GC c)∧x.length≤20)):=by
  induction d with
  | zero =>
    intro k i hd hi hk
    obtain⟨k,rfl⟩ : ∃ m,k=m+1:=⟨k - 1,by omega⟩
    rw[spec_GoodPlan.l0,if_neg (by omega),List.drop_of_length_le (by omega)]
    exact congrArg some (decide_eq_decide.mpr ⟨fun h=>⟨by simp,by omega⟩,fun h=>by have:=h.2;omega⟩)
  | succ d ih =>
    intro k i hd hi hk
    obtain⟨k,rfl⟩ : ∃ m,k=m+1:=⟨k - 1,by omega⟩
    rw[spec_GoodPlan.l0,if_pos (by omega),if_pos (by omega),if_pos (by omega),snode_is,snode_is,swhen_is,sin_is,wrap_succ (n:=l.length) (by omega) (by omega),ih k (i+1) (by omega) (by omega) (by omega),drop104 l i (by omega)]
    generalize rd_T104 l (i:Int)=c
    simp only[Option.bind_some,decide_eq_true_eq]
    have no : ∀ (I:Decidable ((∀ y ∈ c::l.drop (i+1),GC y)∧x.length≤20)),¬ GC c→some false=some (@decide _ I):=fun I h=>congrArg some (decide_eq_false fun g=>h (g.1 _ List.mem_cons_self)).symm
    by_cases c1:0≤c.f0∧c.f0 < 8
    · rw[if_pos c1]
      by_cases c2:0≤c.f1∧c.f1 < 8
      · rw[if_pos c2]
        by_cases c3:c.f0=c.f1
        · rw[if_pos c3]
          exact no _ fun h=>h.2.2.1 c3
        · rw[if_neg c3]
          by_cases c4:0≤c.f3∧c.f3≤1000
          · rw[if_pos c4]
            by_cases c5:c.f2 < 0
            · rw[if_pos c5]
              exact no _ fun h=>by have:=h.2.2.2.2.1;omega
            · rw[if_neg c5]
              by_cases c6:c.f2 ≥ c.f3
              · rw[if_pos c6]
                exact no _ fun h=>by have:=h.2.2.2.2.2.1;omega
              · rw[if_neg c6]
                by_cases c7:0≤c.f4∧c.f4≤100
                · rw[if_pos c7]
                  have g:GC c:=⟨c1,c2,c3,c4,by omega,by omega,c7⟩
                  exact congrArg some (decide_eq_decide.mpr ⟨fun h=>⟨List.forall_mem_cons.mpr ⟨g,h.1⟩,h.2⟩,fun h=>⟨(List.forall_mem_cons.mp h.1).2,h.2⟩⟩)
                · rw[if_neg c7]
                  exact no _ fun h=>c7 h.2.2.2.2.2.2
          · rw[if_neg c4]
            exact no _ fun h=>c4 h.2.2.2.1
      · rw[if_neg c2]
        exact no _ fun h=>c2 h.2.1
    · rw[if_neg c1]
      exact no _ fun h=>c1 h.1
theorem splan_is (l:List S104) (hn:l.length≤1048576) (k:Nat) (hk:1048576 < k):spec_GoodPlan.f k l=some (decide (GP l)):=by
  unfold spec_GoodPlan.f
  have:=splan_l0 l l hn l.length k 0 (by omega) (by omega) (by omega)
  rw[show((0:Nat):Int)=0 from rfl] at this
  rw[this]
  exact congrArg some (decide_eq_decide.mpr (by rw[List.drop_zero];exact Iff.rfl))
theorem iunlike_is (a b:Int):impl_areUnlike.f a b=some (decide ((0≤a∧a < 8)∧(0≤b∧b < 8)∧a≠b)):=by
  unfold impl_areUnlike.f
  rw[inode_is,inode_is]
  simp only[Option.bind_some,decide_eq_true_eq]
  by_cases c1:0≤a∧a < 8
  · rw[if_pos c1]
    by_cases c2:0≤b∧b < 8
    · rw[if_pos c2]
      congr 1
      rw[Bool.eq_iff_iff,decide_eq_true_eq,bne_iff_ne]
      exact⟨fun h=>⟨c1,c2,h⟩,fun h=>h.2.2⟩
    · rw[if_neg c2]
      exact congrArg some (decide_eq_false fun h=>c2 h.2.1).symm
  · rw[if_neg c1]
    exact congrArg some (decide_eq_false fun h=>c1 h.1).symm
theorem ilit_is (c:S104):impl_GoodPlan_lit1.f c.f0 c.f1 c.f2 c.f3 c.f4=some (!decide (GC c)):=by
  unfold impl_GoodPlan_lit1.f
  rw[iunlike_is,iin_is]
  simp only[Option.bind_some,decide_eq_true_eq]
  have no : ¬ GC c→some true=some (!decide (GC c)):=fun h=>by rw[decide_eq_false h];rfl
  by_cases c1:(0≤c.f0∧c.f0 < 8)∧(0≤c.f1∧c.f1 < 8)∧c.f0≠c.f1
  · rw[if_pos c1]
    by_cases c2:c.f2 < 0
    · rw[if_pos c2]
      exact no fun h=>by have:=h.2.2.2.2.1;omega
    · rw[if_neg c2]
      by_cases c3:c.f2 ≥ c.f3
      · rw[if_pos c3]
        exact no fun h=>by have:=h.2.2.2.2.2.1;omega
      · rw[if_neg c3]
        by_cases c4:c.f3 > 1000
        · rw[if_pos c4]
          exact no fun h=>by have:=h.2.2.2.1;omega
        · rw[if_neg c4]
          congr 2
          exact decide_eq_decide.mpr ⟨fun h=>⟨c1.1,c1.2.1,c1.2.2,by omega,by omega,by omega,h⟩,fun h=>h.2.2.2.2.2.2⟩
  · rw[if_neg c1]
    exact no fun h=>c1 ⟨h.1,h.2.1,h.2.2.1⟩
theorem iidx_l0 (x:List S104) (hn:x.length≤1048576) (d:Nat) : ∀ (i:Nat),x.length - i=d→i≤x.length →
    ∃ r:Int,(r ≥ 0 ↔ ¬ ∀ y ∈ x.drop i,GC y) ∧ ∀ k,d < k→impl_Contact_impl_GoodPlan_lit1_2.l0 k x (x.length:Int) (i:Int)=some r:=by
  induction d with
  | zero =>
    intro i hd hi
    refine⟨-1,?_,fun k hk => ?_⟩
    · rw[List.drop_of_length_le (by omega)]
      simp
    · obtain⟨k,rfl⟩ : ∃ m,k=m+1:=⟨k - 1,by omega⟩
      rw[impl_Contact_impl_GoodPlan_lit1_2.l0,if_neg (by omega)]
  | succ d ih =>
    intro i hd hi
    by_cases c:GC (rd_T104 x (i:Int))
    · obtain⟨r,hr,h2⟩:=ih (i+1) (by omega) (by omega)
      refine⟨r,?_,fun k hk => ?_⟩
      · rw[hr,drop104 x i (by omega)]
        simp only[List.forall_mem_cons,c,true_and]
      · obtain⟨k,rfl⟩ : ∃ m,k=m+1:=⟨k - 1,by omega⟩
        rw[impl_Contact_impl_GoodPlan_lit1_2.l0,if_pos (by omega),if_pos (by omega),if_pos (by omega),ilit_is,wrap_succ (n:=x.length) (by omega) (by omega),decide_eq_true c,Option.bind_some,if_neg (by decide)]
        exact h2 k (by omega)
    · refine⟨(i:Int),?_,fun k hk => ?_⟩
      · rw[drop104 x i (by omega)]
        exact⟨fun _ h=>c (h _ List.mem_cons_self),fun _=>by omega⟩
      · obtain⟨k,rfl⟩ : ∃ m,k=m+1:=⟨k - 1,by omega⟩
        rw[impl_Contact_impl_GoodPlan_lit1_2.l0,if_pos (by omega),if_pos (by omega),if_pos (by omega),ilit_is,decide_eq_false c,Option.bind_some,if_pos (by decide)]
theorem iplan_is (l:List S104) (hn:l.length≤1048576) (k:Nat) (hk:1048576 < k):impl_GoodPlan.f k l=some (decide (GP l)):=by
  unfold impl_GoodPlan.f impl_Contact_impl_GoodPlan_lit1.f impl_Contact_impl_GoodPlan_lit1_2.f
  obtain⟨r,hr,e⟩:=iidx_l0 l hn l.length 0 (by omega) (by omega)
  rw[List.drop_zero] at hr
  have e':=e k (by omega)
  rw[show((0:Nat):Int)=0 from rfl] at e'
  rw[e']
  simp only[Option.bind_some]
  by_cases c:(l.length:Int)≤20
  · rw[if_pos c]
    congr 1
    rw[Bool.eq_iff_iff,Bool.not_eq_true',decide_eq_false_iff_not,decide_eq_true_eq,hr]
    exact⟨fun h=>⟨Classical.not_not.mp h,by omega⟩,fun h g=>g h.1⟩
  · rw[if_neg c]
    exact congrArg some (decide_eq_false fun h=>c (by have:=h.2;omega)).symm

theorem set_len {l:List Int} {i:Nat} {v:Int} : (l.set i v).length=l.length:=List.length_set
theorem rd_set (l:List Int) (i:Nat) (v j:Int) (hi:i < l.length) (hj:0≤j):rd (l.set i v) j=if j=(i:Int) then v else rd l j:=by
  unfold rd
  rw[List.getD_eq_getElem?_getD,List.getD_eq_getElem?_getD,List.getElem?_set]
  by_cases c:i=j.toNat
  · rw[if_pos c,if_pos hi,if_pos (by omega)]
    rfl
  · rw[if_neg c,if_neg (by omega)]
def over (c:S104) (a:Int):Int:=(if a < c.f2 then c.f2 else a)+c.f4
def cand (r:List Int) (c:S104):Option Int:=if rd r c.f0 < 0 then none else if c.f3≤rd r c.f0 then none else if 0≤rd r c.f1∧rd r c.f1≤over c (rd r c.f0) then none else some (over c (rd r c.f0))
def pick2 (i:Int) (bt:Int × Int) (o:Option Int):Int × Int:=match o with
  | none=>bt
  | some u=>if bt.1 < 0∨u < bt.2 then (i,u) else bt
def scan (r:List Int):List S104→Nat→Int × Int→Int × Int
  | [],_,bt=>bt
  | c::cs,i,bt=>scan r cs (i+1) (pick2 (i:Int) bt (cand r c))
theorem sover_is (c:S104) (hc:GC c) (a:Int) (h0:0≤a) (h1:a≤2000):spec_l6Over.f c.f0 c.f1 c.f2 c.f3 c.f4 a=some (if c.f3≤a then -1 else over c a):=by
  obtain⟨g1,g2,g3,g4,g5,g6,g7⟩:=hc
  unfold spec_l6Over.f over
  by_cases c1:a ≥ c.f3
  · rw[if_pos c1,if_pos (show c.f3≤a from c1)]
  · rw[if_neg c1,if_neg (show ¬ c.f3≤a from c1)]
    by_cases c2:a < c.f2
    · rw[if_pos c2,if_pos c2,wrap_in (by omega) (by omega)]
    · rw[if_neg c2,if_neg c2,wrap_in (by omega) (by omega)]
theorem iby_is (c:S104) (hc:GC c) (a:Int) (h0:0≤a) (h1:a≤2000):impl_Contact_by.f c.f0 c.f1 c.f2 c.f3 c.f4 a=some (over c a,decide (a < c.f3)):=by
  obtain⟨g1,g2,g3,g4,g5,g6,g7⟩:=hc
  have e:mx a c.f2=if a < c.f2 then c.f2 else a:=rfl
  unfold impl_Contact_by.f over
  rw[e]
  congr 1
  refine Prod.ext ?_ ?_
  · dsimp only
    rw[wrap_in]
    · split<;>omega
    · split<;>omega
  · dsimp only
    exact decide_eq_decide.mpr (by split<;>omega)
theorem over_ge (c:S104) (hc:GC c) (a:Int) (h0:0≤a) (h : ¬ c.f3≤a):a≤over c a∧over c a≤1100∧0≤over c a:=by
  obtain⟨g1,g2,g3,g4,g5,g6,g7⟩:=hc
  unfold over
  split<;>omega

theorem scan_spec (r:List Int) (l:List S104) : ∀ (i:Nat) (bt:Int × Int),
    ((scan r l i bt).1 < 0→bt.1 < 0 ∧ ∀ c ∈ l,cand r c=none) ∧
    (0≤(scan r l i bt).1→(0≤bt.1→(scan r l i bt).2≤bt.2)∧(∀ c ∈ l,∀ u,cand r c=some u→(scan r l i bt).2≤u) ∧
      (scan r l i bt=bt ∨ ∃ j:Nat,j < l.length∧(scan r l i bt).1=((i+j:Nat):Int)∧cand r (rd_T104 l (j:Int))=some (scan r l i bt).2)):=by
  induction l with
  | nil =>
    intro i bt
    exact⟨fun h=>⟨h,by simp⟩,fun h=>⟨fun _=>Int.le_refl _,by simp,Or.inl rfl⟩⟩
  | cons c cs ih =>
    intro i bt
    have up : ∀ (R:Int × Int),(∃ j:Nat,j < cs.length∧R.1=((i+1+j:Nat):Int)∧cand r (rd_T104 cs (j:Int))=some R.2) →
        ∃ j:Nat,j < (c::cs).length∧R.1=((i+j:Nat):Int)∧cand r (rd_T104 (c::cs) (j:Int))=some R.2:=by
      intro R ⟨j,h1,h2,h3⟩
      refine⟨j+1,by simp only[List.length_cons];omega,by rw[h2];congr 1;omega,?_⟩
      rw[show rd_T104 (c::cs) ((j+1:Nat):Int)=rd_T104 cs (j:Int) from rfl]
      exact h3
    cases e:cand r c with
    | none =>
      have h:=ih (i+1) bt
      rw[show scan r (c::cs) i bt=scan r cs (i+1) bt from by rw[scan,e];rfl]
      refine⟨fun g=>⟨(h.1 g).1,List.forall_mem_cons.mpr ⟨e,(h.1 g).2⟩⟩,fun g=>⟨(h.2 g).1,?_,?_⟩⟩
      · exact List.forall_mem_cons.mpr ⟨fun u hu=>(by rw[e] at hu;cases hu),(h.2 g).2.1⟩
      · rcases(h.2 g).2.2 with h3|h3
        · exact Or.inl h3
        · exact Or.inr (up _ h3)
    | some u =>
      by_cases q:bt.1 < 0∨u < bt.2
      · have h:=ih (i+1) ((i:Int),u)
        rw[show scan r (c::cs) i bt=scan r cs (i+1) ((i:Int),u) from by rw[scan,e,pick2,if_pos q]]
        generalize hR:scan r cs (i+1) ((i:Int),u)=R at h
        have hi:(0:Int)≤(i:Int):=by omega
        refine⟨fun g => ?_,fun g=>⟨fun g2 => ?_,?_,?_⟩⟩
        · have:=(h.1 g).1
          dsimp only at this
          omega
        · have h1:=(h.2 g).1 hi
          dsimp only at h1
          rcases q with q|q<;>omega
        · refine List.forall_mem_cons.mpr ⟨fun w hw => ?_,(h.2 g).2.1⟩
          rw[e] at hw
          cases hw
          exact(h.2 g).1 hi
        · rcases(h.2 g).2.2 with h3|h3
          · refine Or.inr ⟨0,by simp,by rw[h3];rfl,?_⟩
            rw[show rd_T104 (c::cs) ((0:Nat):Int)=c from rfl,e,h3]
          · exact Or.inr (up _ h3)
      · have h:=ih (i+1) bt
        rw[show scan r (c::cs) i bt=scan r cs (i+1) bt from by rw[scan,e,pick2,if_neg q]]
        generalize hR:scan r cs (i+1) bt=R at h
        refine⟨fun g => ?_,fun g=>⟨(h.2 g).1,?_,?_⟩⟩
        · have:=(h.1 g).1
          omega
        · refine List.forall_mem_cons.mpr ⟨fun w hw => ?_,(h.2 g).2.1⟩
          rw[e] at hw
          cases hw
          have:=(h.2 g).1 (by omega)
          omega
        · rcases(h.2 g).2.2 with h3|h3
          · exact Or.inl h3
          · exact Or.inr (up _ h3)
def unset:List Int→Nat
  | []=>0
  | x::l=>(if x < 0 then 1 else 0)+unset l
theorem unset_set (v:Int) (hv:0≤v) : ∀ (l:List Int) (i:Nat),i < l.length→rd l (i:Int) < 0→unset (l.set i v)+1=unset l
  | [],i,h,_=>absurd h (by simp)
  | x::l,0,_,hx=>by
    rw[show rd (x::l) ((0:Nat):Int)=x from rfl] at hx
    rw[List.set_cons_zero,unset,unset,if_neg (by omega),if_pos hx]
    omega
  | x::l,i+1,h,hx=>by
    rw[show rd (x::l) ((i+1:Nat):Int)=rd l (i:Int) from rfl] at hx
    have:=unset_set v hv l i (by simpa using h) hx
    rw[List.set_cons_succ,unset,unset]
    omega
inductive Pth (l:List S104) (src:Int) (r v:List Int):Int→List Int→Prop
  | nil:Pth l src r v src []
  | snoc {n m:Int} {p:List Int} {i:Nat} : Pth l src r v n p→i < l.length→(rd_T104 l (i:Int)).f0=n→(rd_T104 l (i:Int)).f1=m→m≠src→rd v m=(i:Int)→0≤rd r m→0≤rd r n→rd r n < (rd_T104 l (i:Int)).f3→0≤m→0≤n→rd r m=over (rd_T104 l (i:Int)) (rd r n)→Pth l src r v m (p++[(i:Int)])
theorem pth_mono {l:List S104} {src:Int} {r v r' v':List Int} (h : ∀ n,0≤n→0≤rd r n→rd r' n=rd r n∧rd v' n=rd v n) {n:Int} {p:List Int} (hp:Pth l src r v n p):Pth l src r' v' n p:=by
  induction hp with
  | nil=>exact .nil
  | snoc h0 h1 h2 h3 h4 h5 h6 h7 h8 h9 h10 h11 ih =>
    have a:=h _ h9 h6
    have b:=h _ h10 h7
    exact .snoc ih h1 h2 h3 h4 (by rw[a.2];exact h5) (by rw[a.1];exact h6) (by rw[b.1];exact h7) (by rw[b.1];exact h8) h9 h10 (by rw[a.1,b.1];exact h11)
theorem pth_head {l:List S104} {src:Int} {r v:List Int} {n:Int} {p:List Int} (hp:Pth l src r v n p) : ∀ i q,p=i::q→0≤i∧i < (l.length:Int)∧(rd_T104 l i).f0=src∧rd r src < (rd_T104 l i).f3:=by
  induction hp with
  | nil=>intro i q h;cases h
  | @snoc n m p i h0 h1 h2 h3 h4 h5 h6 h7 h8 h9 h10 h11 ih =>
    intro j q e
    cases h0 with
    | nil =>
      rw[List.nil_append] at e
      cases e
      exact⟨by omega,by omega,h2,h8⟩
    | @snoc n' m' p' i' g0 g1 g2 g3 g4 g5 g6 g7 g8 g9 g10 g11 =>
      cases p' with
      | nil =>
        rw[List.nil_append,List.cons_append,List.nil_append] at e
        cases e
        exact ih _ [] rfl
      | cons a p' =>
        rw[List.cons_append,List.cons_append] at e
        injection e with e1 e2
        subst e1
        exact ih _ (p'++[(i':Int)]) rfl
structure Inv (l:List S104) (src at':Int) (r v:List Int) (last:Int):Prop where
  hr:r.length=8
  hv:v.length=8
  hs:rd r src=at'
  hl : ∀ n,0≤n→n < 8→rd r n≤last
  hc : ∀ c ∈ l,∀ u,cand r c=some u→last≤u
  hb:last≤1100
  hp : ∀ n,0≤n→n < 8→0≤rd r n → ∃ p,Pth l src r v n p∧p.length+unset r≤7
theorem cand_some {r:List Int} {c:S104} {u:Int} (h:cand r c=some u):0≤rd r c.f0∧rd r c.f0 < c.f3∧(rd r c.f1 < 0∨u < rd r c.f1)∧u=over c (rd r c.f0):=by
  unfold cand at h
  by_cases c1:rd r c.f0 < 0
  · rw[if_pos c1] at h
    cases h
  · rw[if_neg c1] at h
    by_cases c2:c.f3≤rd r c.f0
    · rw[if_pos c2] at h
      cases h
    · rw[if_neg c2] at h
      by_cases c3:0≤rd r c.f1∧rd r c.f1≤over c (rd r c.f0)
      · rw[if_pos c3] at h
        cases h
      · rw[if_neg c3] at h
        injection h with h
        exact⟨by omega,by omega,by omega,h.symm⟩
theorem cand_mk {r:List Int} {c:S104} (h1:0≤rd r c.f0) (h2:rd r c.f0 < c.f3) (h3:rd r c.f1 < 0∨over c (rd r c.f0) < rd r c.f1):cand r c=some (over c (rd r c.f0)):=by
  unfold cand
  rw[if_neg (by omega),if_neg (by omega),if_neg (by omega)]
theorem inv_step {l:List S104} (hg:GP l) {src at':Int} (h0:0≤at') {r v:List Int} {last:Int} (h:Inv l src at' r v last) {j:Nat} {t:Int} (hj:j < l.length) (ht:cand r (rd_T104 l (j:Int))=some t) (hm : ∀ c ∈ l,∀ u,cand r c=some u→t≤u) :
    Inv l src at' (r.set (rd_T104 l (j:Int)).f1.toNat t) (v.set (rd_T104 l (j:Int)).f1.toNat (j:Int)) t∧unset (r.set (rd_T104 l (j:Int)).f1.toNat t)+1=unset r:=by
  have hmem:=rd104_mem l j hj
  have gc:=hg.1 _ hmem
  obtain⟨r0,r1,r2,r3⟩:=cand_some ht
  have lt:=h.hc _ hmem _ ht
  have f0:0≤(rd_T104 l (j:Int)).f0∧(rd_T104 l (j:Int)).f0 < 8:=gc.1
  have f1:0≤(rd_T104 l (j:Int)).f1∧(rd_T104 l (j:Int)).f1 < 8:=gc.2.1
  have l1:=h.hl _ f1.1 f1.2
  have un:rd r (rd_T104 l (j:Int)).f1 < 0:=by omega
  have ge:=over_ge _ gc (rd r (rd_T104 l (j:Int)).f0) r0 (by omega)
  have hr:=h.hr
  have hv:=h.hv
  have hs:=h.hs
  have ns:(rd_T104 l (j:Int)).f1≠src:=fun e=>by rw[e,hs] at un;omega
  generalize hc:rd_T104 l (j:Int)=c at *
  have ec:((c.f1.toNat:Nat):Int)=c.f1:=by omega
  have us:=unset_set t (by omega) r c.f1.toNat (by omega) (by rw[ec];exact un)
  have R : ∀ n,0≤n→rd (r.set c.f1.toNat t) n=if n=c.f1 then t else rd r n:=fun n hn=>by rw[rd_set _ _ _ _ (by omega) hn,ec]
  have V : ∀ n,0≤n→rd (v.set c.f1.toNat (j:Int)) n=if n=c.f1 then (j:Int) else rd v n:=fun n hn=>by rw[rd_set _ _ _ _ (by omega) hn,ec]
  have M : ∀ n,0≤n→0≤rd r n→rd (r.set c.f1.toNat t) n=rd r n∧rd (v.set c.f1.toNat (j:Int)) n=rd v n:=by
    intro n hn h1
    have:n≠c.f1:=fun e=>by rw[e] at h1;omega
    rw[R n hn,V n hn,if_neg this,if_neg this]
    exact⟨rfl,rfl⟩
  refine⟨⟨by rw[List.length_set];exact hr,by rw[List.length_set];exact hv,?_,?_,?_,by omega,?_⟩,us⟩
  · by_cases q:0≤src
    · rw[R src q,if_neg (fun e=>ns e.symm)]
      exact hs
    · have e1 : ∀ x:List Int,rd x src=rd x 0:=fun x=>by
        unfold rd
        rw[show src.toNat=0 from by omega]
        rfl
      rw[e1,R 0 (by omega),if_neg,← e1]
      · exact hs
      · intro e
        rw[← e,← e1,hs] at un
        omega
  · intro n n0 n8
    rw[R n n0]
    by_cases q:n=c.f1
    · rw[if_pos q]
      omega
    · rw[if_neg q]
      have:=h.hl n n0 n8
      omega
  · intro d hd u hu
    have gd:=hg.1 _ hd
    obtain⟨a0,a1,a2,a3⟩:=cand_some hu
    have d0:0≤d.f0:=gd.1.1
    have d1:0≤d.f1:=gd.2.1.1
    rw[R _ d0] at a0 a1 a3
    rw[R _ d1] at a2
    by_cases q:d.f0=c.f1
    · rw[if_pos q] at a0 a1 a3
      have:=over_ge d gd t a0 (by omega)
      omega
    · rw[if_neg q] at a0 a1 a3
      refine hm d hd u ?_
      rw[a3]
      refine cand_mk a0 a1 ?_
      by_cases q1:d.f1=c.f1
      · rw[q1]
        exact Or.inl un
      · rw[if_neg q1] at a2
        rw[← a3]
        exact a2
  · intro n n0 n8 hn
    by_cases q:n=c.f1
    · obtain⟨p,p1,p2⟩:=h.hp _ f0.1 f0.2 r0
      have R0:=R c.f0 f0.1
      rw[if_neg gc.2.2.1] at R0
      refine⟨p++[(j:Int)],?_,by rw[List.length_append,List.length_singleton];omega⟩
      rw[q]
      refine Pth.snoc (pth_mono M p1) hj (by rw[hc]) (by rw[hc]) ns ?_ ?_ ?_ ?_ f1.1 f0.1 ?_
      · rw[V _ f1.1,if_pos rfl]
      · rw[R _ f1.1,if_pos rfl]
        omega
      · rw[R0]
        exact r0
      · rw[R0,hc]
        exact r1
      · rw[R _ f1.1,if_pos rfl,R0,hc]
        exact r3
    · rw[R n n0,if_neg q] at hn
      obtain⟨p,p1,p2⟩:=h.hp n n0 n8 hn
      exact⟨p,pth_mono M p1,by omega⟩
def srch (l:List S104):Nat→List Int→List Int→List Int × List Int
  | 0,r,v=>(r,v)
  | d+1,r,v=>if (scan r l 0 (-1,0)).1 < 0 then (r,v) else srch l d (r.set (rd_T104 l (scan r l 0 (-1,0)).1).f1.toNat (scan r l 0 (-1,0)).2) (v.set (rd_T104 l (scan r l 0 (-1,0)).1).f1.toNat (scan r l 0 (-1,0)).1)
theorem scan_found {r:List Int} {l:List S104} (h : ¬ (scan r l 0 (-1,0)).1 < 0) : ∃ j:Nat,j < l.length∧(scan r l 0 (-1,0)).1=(j:Int)∧cand r (rd_T104 l (j:Int))=some (scan r l 0 (-1,0)).2 ∧ ∀ c ∈ l,∀ u,cand r c=some u→(scan r l 0 (-1,0)).2≤u:=by
  have g:=(scan_spec r l 0 (-1,0)).2 (by omega)
  rcases g.2.2 with e|⟨j,h1,h2,h3⟩
  · rw[e] at h
    exact absurd (show(-1:Int) < 0 from by decide) h
  · exact⟨j,h1,by rw[h2];congr 1;omega,h3,g.2.1⟩
theorem srch_inv {l:List S104} (hg:GP l) {src at':Int} (h0:0≤at') (d:Nat) : ∀ (r v:List Int) (last:Int),Inv l src at' r v last → ∃ last',Inv l src at' (srch l d r v).1 (srch l d r v).2 last':=by
  induction d with
  | zero=>exact fun r v last h=>⟨last,h⟩
  | succ d ih =>
    intro r v last h
    rw[srch]
    by_cases c:(scan r l 0 (-1,0)).1 < 0
    · rw[if_pos c]
      exact⟨last,h⟩
    · rw[if_neg c]
      obtain⟨j,h1,h2,h3,h4⟩:=scan_found c
      rw[h2]
      exact ih _ _ _ (inv_step hg h0 h h1 h3 h4).1
def r0 (src at':Int):List Int:=(List.replicate 8 (-1)).set src.toNat at'
def v0:List Int:=List.replicate 8 (-1)
theorem rd_rep (n:Int) (h0:0≤n) (h8:n < 8):rd (List.replicate 8 (-1)) n = -1:=by
  unfold rd
  rw[List.getD_eq_getElem?_getD,List.getElem?_replicate,if_pos (by omega)]
  rfl
theorem r0_rd (src at':Int) (hs:0≤src∧src < 8) (n:Int) (h0:0≤n) (h8:n < 8):rd (r0 src at') n=if n=src then at' else -1:=by
  unfold r0
  rw[rd_set _ _ _ _ (by rw[List.length_replicate];omega) h0,rd_rep n h0 h8,show((src.toNat:Nat):Int)=src from by omega]
theorem r0_unset (src at':Int) (hs:0≤src∧src < 8) (ha:0≤at'):unset (r0 src at')=7:=by
  have:=unset_set at' ha (List.replicate 8 (-1)) src.toNat (by rw[List.length_replicate];omega) (by rw[show((src.toNat:Nat):Int)=src from by omega,rd_rep src hs.1 hs.2];decide)
  have e:unset (List.replicate 8 (-1))=8:=by decide
  unfold r0
  omega
theorem inv0 {l:List S104} (hg:GP l) {src at':Int} (hs:0≤src∧src < 8) (ha:0≤at'∧at'≤1000):Inv l src at' (r0 src at') v0 at':=by
  refine⟨by unfold r0;rw[List.length_set,List.length_replicate],by unfold v0;rw[List.length_replicate],by rw[r0_rd src at' hs src hs.1 hs.2,if_pos rfl],?_,?_,by omega,?_⟩
  · intro n n0 n8
    rw[r0_rd src at' hs n n0 n8]
    split<;>omega
  · intro c hc u hu
    obtain⟨a0,a1,a2,a3⟩:=cand_some hu
    have gc:=hg.1 c hc
    rw[r0_rd src at' hs _ gc.1.1 gc.1.2] at a0 a1 a3
    by_cases q:c.f0=src
    · rw[if_pos q] at a0 a1 a3
      have:=over_ge c gc at' a0 (by omega)
      omega
    · rw[if_neg q] at a0
      omega
  · intro n n0 n8 hn
    rw[r0_rd src at' hs n n0 n8] at hn
    by_cases q:n=src
    · rw[q]
      exact⟨[],Pth.nil,by rw[r0_unset src at' hs ha.1];simp⟩
    · rw[if_neg q] at hn
      omega

theorem s_l2 {l:List S104} (hg:GP l) {r v:List Int} (hr:r.length=8) (hb : ∀ n,0≤n→n < 8→rd r n≤1100) (R:List Int × List Int) (B:Nat) (d:Nat) : ∀ (i:Nat) (b t:Int),l.length - i=d→i≤l.length →
    (∀ k,B≤k→spec_l6Search.l2 k l r v (scan r (l.drop i) i (b,t)).1 (scan r (l.drop i) i (b,t)).2 l (l.length:Int) (l.length:Int)=some R) →
    ∀ k,B+2 * d≤k→spec_l6Search.l2 k l r v b t l (l.length:Int) (i:Int)=some R:=by
  have h20:=hg.2
  induction d with
  | zero =>
    intro i b t hd hi h k hk
    have e:i=l.length:=by omega
    subst e
    have:=h k (by omega)
    rw[List.drop_length,scan] at this
    exact this
  | succ d ih =>
    intro i b t hd hi h k hk
    obtain⟨k,rfl⟩ : ∃ m,k=m+2:=⟨k - 2,by omega⟩
    rw[drop104 l i (by omega),scan] at h
    have gc:=hg.1 _ (rd104_mem l i (by omega))
    rw[spec_l6Search.l2,if_pos (by omega),if_pos (by omega),if_pos (by omega)]
    have wr:wrap64 ((i:Int)+1)=((i+1:Nat):Int):=wrap_succ (n:=l.length) (by omega) (by omega)
    generalize rd_T104 l (i:Int)=c at *
    have f0:0≤c.f0∧c.f0 < 8:=gc.1
    have f1:0≤c.f1∧c.f1 < 8:=gc.2.1
    have b0:=hb c.f0 f0.1 f0.2
    rw[if_pos f0.1,if_pos (by omega),wr]
    by_cases c1:rd r c.f0 < 0
    · rw[if_pos c1]
      have e:cand r c=none:=by rw[cand,if_pos c1]
      rw[e,pick2] at h
      exact ih (i+1) b t (by omega) (by omega) h (k+1) (by omega)
    · rw[if_neg c1,sover_is c gc _ (by omega) (by omega),Option.bind_some]
      by_cases c2:c.f3≤rd r c.f0
      · have e:cand r c=none:=by rw[cand,if_neg c1,if_pos c2]
        rw[e,pick2] at h
        rw[if_pos c2,if_pos (by omega),spec_l6Search.j3,if_pos rfl,wr]
        exact ih (i+1) b t (by omega) (by omega) h k (by omega)
      · rw[if_neg c2]
        have ge:=over_ge c gc _ (by omega) c2
        have J : ∀ x:Bool,(x=true→cand r c=none)→(x=false→cand r c=some (over c (rd r c.f0)))→spec_l6Search.j3 (k+1) l r v b t (i:Int) (over c (rd r c.f0)) l (l.length:Int) (i:Int) x=some R:=by
          intro x h1 h2
          rw[spec_l6Search.j3,wr]
          cases x with
          | true =>
            rw[h1 rfl,pick2] at h
            rw[if_pos rfl]
            exact ih (i+1) b t (by omega) (by omega) h k (by omega)
          | false =>
            rw[h2 rfl,pick2] at h
            rw[if_neg (by decide)]
            by_cases c3:b < 0
            · rw[if_pos (Or.inl c3)] at h
              rw[if_pos c3]
              exact ih (i+1) _ _ (by omega) (by omega) h k (by omega)
            · rw[if_neg c3]
              by_cases c4:over c (rd r c.f0) < t
              · rw[if_pos (Or.inr c4)] at h
                rw[if_pos c4]
                exact ih (i+1) _ _ (by omega) (by omega) h k (by omega)
              · rw[if_neg (by intro g;rcases g with g|g;exact c3 g;exact c4 g)] at h
                rw[if_neg c4]
                exact ih (i+1) _ _ (by omega) (by omega) h k (by omega)
        rw[if_neg (by omega),if_pos f1.1,if_pos (by omega)]
        by_cases c5:rd r c.f1 ≥ 0
        · rw[if_pos c5]
          refine J _ (fun g => ?_) (fun g => ?_)
          · have g':=of_decide_eq_true g
            rw[cand,if_neg c1,if_neg c2,if_pos ⟨c5,g'⟩]
          · have g':=of_decide_eq_false g
            rw[cand,if_neg c1,if_neg c2,if_neg fun q=>g' q.2]
        · rw[if_neg c5]
          refine J _ (fun g=>by cases g) (fun g => ?_)
          rw[cand,if_neg c1,if_neg c2,if_neg fun q=>c5 q.1]
theorem i_l1 {l:List S104} (hg:GP l) {r v:List Int} (hr:r.length=8) (hb : ∀ n,0≤n→n < 8→rd r n≤1100) (R:List Int × List Int) (B:Nat) (d:Nat) : ∀ (i:Nat) (b t:Int),l.length - i=d→i≤l.length →
    (∀ k,B≤k→impl_reach.l1 k l r v (scan r (l.drop i) i (b,t)).1 (scan r (l.drop i) i (b,t)).2 l (l.length:Int) (l.length:Int)=some R) →
    ∀ k,B+d≤k→impl_reach.l1 k l r v b t l (l.length:Int) (i:Int)=some R:=by
  have h20:=hg.2
  induction d with
  | zero =>
    intro i b t hd hi h k hk
    have e:i=l.length:=by omega
    subst e
    have:=h k (by omega)
    rw[List.drop_length,scan] at this
    exact this
  | succ d ih =>
    intro i b t hd hi h k hk
    obtain⟨k,rfl⟩ : ∃ m,k=m+1:=⟨k - 1,by omega⟩
    rw[drop104 l i (by omega),scan] at h
    have gc:=hg.1 _ (rd104_mem l i (by omega))
    rw[impl_reach.l1,if_pos (by omega),if_pos (by omega),if_pos (by omega)]
    have wr:wrap64 ((i:Int)+1)=((i+1:Nat):Int):=wrap_succ (n:=l.length) (by omega) (by omega)
    generalize rd_T104 l (i:Int)=c at *
    have f0:0≤c.f0∧c.f0 < 8:=gc.1
    have f1:0≤c.f1∧c.f1 < 8:=gc.2.1
    have b0:=hb c.f0 f0.1 f0.2
    rw[if_pos f0.1,if_pos (by omega),wr]
    by_cases c1:rd r c.f0 < 0
    · rw[if_pos c1]
      have e:cand r c=none:=by rw[cand,if_pos c1]
      rw[e,pick2] at h
      exact ih (i+1) b t (by omega) (by omega) h k (by omega)
    · rw[if_neg c1,iby_is c gc _ (by omega) (by omega),Option.bind_some]
      dsimp only
      by_cases c2:c.f3≤rd r c.f0
      · have e:cand r c=none:=by rw[cand,if_neg c1,if_pos c2]
        rw[e,pick2] at h
        rw[decide_eq_false (by omega),if_neg (by decide)]
        exact ih (i+1) b t (by omega) (by omega) h k (by omega)
      · rw[decide_eq_true (by omega),if_pos rfl,if_pos f1.1,if_pos (by omega)]
        have J:cand r c=some (over c (rd r c.f0))→(if b < 0 then impl_reach.l1 k l r v (i:Int) (over c (rd r c.f0)) l (l.length:Int) ((i+1:Nat):Int) else if over c (rd r c.f0) < t then impl_reach.l1 k l r v (i:Int) (over c (rd r c.f0)) l (l.length:Int) ((i+1:Nat):Int) else impl_reach.l1 k l r v b t l (l.length:Int) ((i+1:Nat):Int))=some R:=by
          intro h2
          rw[h2,pick2] at h
          by_cases c3:b < 0
          · rw[if_pos (Or.inl c3)] at h
            rw[if_pos c3]
            exact ih (i+1) _ _ (by omega) (by omega) h k (by omega)
          · rw[if_neg c3]
            by_cases c4:over c (rd r c.f0) < t
            · rw[if_pos (Or.inr c4)] at h
              rw[if_pos c4]
              exact ih (i+1) _ _ (by omega) (by omega) h k (by omega)
            · rw[if_neg (by intro g;rcases g with g|g;exact c3 g;exact c4 g)] at h
              rw[if_neg c4]
              exact ih (i+1) _ _ (by omega) (by omega) h k (by omega)
        by_cases c5:rd r c.f1 < 0
        · rw[if_pos c5]
          exact J (by rw[cand,if_neg c1,if_neg c2,if_neg fun q=>by have:=q.1;omega])
        · rw[if_neg c5]
          by_cases c6:over c (rd r c.f0) < rd r c.f1
          · rw[if_pos c6]
            exact J (by rw[cand,if_neg c1,if_neg c2,if_neg fun q=>by have:=q.2;omega])
          · rw[if_neg c6]
            have e:cand r c=none:=by rw[cand,if_neg c1,if_neg c2,if_pos ⟨by omega,by omega⟩]
            rw[e,pick2] at h
            exact ih (i+1) b t (by omega) (by omega) h k (by omega)
theorem s_l1 {l:List S104} (hg:GP l) {src at':Int} (h0:0≤at') (d:Nat) : ∀ (r v:List Int) (last:Int),Inv l src at' r v last→unset r≤d → ∀ k,50 * (d+1)≤k→spec_l6Search.l1 k l r v=some (srch l d r v):=by
  have h20:=hg.2
  induction d with
  | zero =>
    intro r v last h hu k hk
    obtain⟨k,rfl⟩ : ∃ m,k=m+1:=⟨k - 1,by omega⟩
    have hb:=h.hb
    rw[spec_l6Search.l1]
    refine s_l2 hg h.hr (fun n n0 n8=>by have:=h.hl n n0 n8;omega) _ 1 l.length 0 (-1) 0 (by omega) (by omega) ?_ k (by omega)
    intro k hk
    obtain⟨k,rfl⟩ : ∃ m,k=m+1:=⟨k - 1,by omega⟩
    rw[List.drop_zero,spec_l6Search.l2,if_neg (by omega)]
    by_cases c:(scan r l 0 (-1,0)).1 < 0
    · rw[if_pos c]
      rfl
    · obtain⟨j,h1,h2,h3,h4⟩:=scan_found c
      have:=(inv_step hg h0 h h1 h3 h4).2
      omega
  | succ d ih =>
    intro r v last h hu k hk
    obtain⟨k,rfl⟩ : ∃ m,k=m+1:=⟨k - 1,by omega⟩
    have hb:=h.hb
    have hr:=h.hr
    have hv:=h.hv
    rw[spec_l6Search.l1]
    refine s_l2 hg hr (fun n n0 n8=>by have:=h.hl n n0 n8;omega) _ (50 * (d+1)+1) l.length 0 (-1) 0 (by omega) (by omega) ?_ k (by omega)
    intro k hk
    obtain⟨k,rfl⟩ : ∃ m,k=m+1:=⟨k - 1,by omega⟩
    rw[List.drop_zero,spec_l6Search.l2,if_neg (by omega),srch]
    by_cases c:(scan r l 0 (-1,0)).1 < 0
    · rw[if_pos c,if_pos c]
    · rw[if_neg c,if_neg c]
      obtain⟨j,h1,h2,h3,h4⟩:=scan_found c
      have st:=inv_step hg h0 h h1 h3 h4
      have gc:=hg.1 _ (rd104_mem l j h1)
      have f1:0≤(rd_T104 l (j:Int)).f1∧(rd_T104 l (j:Int)).f1 < 8:=gc.2.1
      rw[h2,if_pos (by omega),if_pos (by omega),if_pos f1.1,if_pos (by omega),if_pos (by omega)]
      exact ih _ _ _ st.1 (by omega) k (by omega)
theorem i_l0 {l:List S104} (hg:GP l) {src at':Int} (h0:0≤at') (d:Nat) : ∀ (r v:List Int) (last:Int),Inv l src at' r v last→unset r≤d → ∀ k,50 * (d+1)≤k→impl_reach.l0 k l r v=some (srch l d r v):=by
  have h20:=hg.2
  induction d with
  | zero =>
    intro r v last h hu k hk
    obtain⟨k,rfl⟩ : ∃ m,k=m+1:=⟨k - 1,by omega⟩
    have hb:=h.hb
    rw[impl_reach.l0]
    refine i_l1 hg h.hr (fun n n0 n8=>by have:=h.hl n n0 n8;omega) _ 1 l.length 0 (-1) 0 (by omega) (by omega) ?_ k (by omega)
    intro k hk
    obtain⟨k,rfl⟩ : ∃ m,k=m+1:=⟨k - 1,by omega⟩
    rw[List.drop_zero,impl_reach.l1,if_neg (by omega)]
    by_cases c:(scan r l 0 (-1,0)).1 < 0
    · rw[if_pos c]
      rfl
    · obtain⟨j,h1,h2,h3,h4⟩:=scan_found c
      have:=(inv_step hg h0 h h1 h3 h4).2
      omega
  | succ d ih =>
    intro r v last h hu k hk
    obtain⟨k,rfl⟩ : ∃ m,k=m+1:=⟨k - 1,by omega⟩
    have hb:=h.hb
    have hr:=h.hr
    have hv:=h.hv
    rw[impl_reach.l0]
    refine i_l1 hg hr (fun n n0 n8=>by have:=h.hl n n0 n8;omega) _ (50 * (d+1)+1) l.length 0 (-1) 0 (by omega) (by omega) ?_ k (by omega)
    intro k hk
    obtain⟨k,rfl⟩ : ∃ m,k=m+1:=⟨k - 1,by omega⟩
    rw[List.drop_zero,impl_reach.l1,if_neg (by omega),srch]
    by_cases c:(scan r l 0 (-1,0)).1 < 0
    · rw[if_pos c,if_pos c]
    · rw[if_neg c,if_neg c]
      obtain⟨j,h1,h2,h3,h4⟩:=scan_found c
      have st:=inv_step hg h0 h h1 h3 h4
      have gc:=hg.1 _ (rd104_mem l j h1)
      have f1:0≤(rd_T104 l (j:Int)).f1∧(rd_T104 l (j:Int)).f1 < 8:=gc.2.1
      rw[h2,if_pos (by omega),if_pos (by omega),if_pos f1.1,if_pos (by omega),if_pos (by omega)]
      exact ih _ _ _ st.1 (by omega) k (by omega)
theorem s_l0 {l:List S104} {src at':Int} (hs:0≤src∧src < 8) (R:List Int × List Int) (B:Nat) (h : ∀ k,B≤k→spec_l6Search.l1 k l (r0 src at') v0=some R) (d:Nat) : ∀ i:Nat,8 - i=d→i≤8 → ∀ k,B+d+1≤k→spec_l6Search.l0 k l src at' (List.replicate i (-1)) (List.replicate i (-1)) (i:Int)=some R:=by
  induction d with
  | zero =>
    intro i hd hi k hk
    obtain⟨k,rfl⟩ : ∃ m,k=m+1:=⟨k - 1,by omega⟩
    have e:i=8:=by omega
    subst e
    rw[spec_l6Search.l0,if_neg (by omega),if_pos hs.1,if_pos (by rw[List.length_replicate];omega)]
    exact h k (by omega)
  | succ d ih =>
    intro i hd hi k hk
    obtain⟨k,rfl⟩ : ∃ m,k=m+1:=⟨k - 1,by omega⟩
    rw[spec_l6Search.l0,if_pos (by omega),if_pos (by rw[List.length_replicate];omega),if_pos (by rw[List.length_replicate];omega),wrap_succ (n:=8) (by omega) (by omega),← List.replicate_succ']
    exact ih (i+1) (by omega) (by omega) k (by omega)
def found (l:List S104) (src at':Int):List Int × List Int:=srch l 7 (r0 src at') v0
theorem ssearch_is {l:List S104} (hg:GP l) {src at':Int} (hs:0≤src∧src < 8) (ha:0≤at'∧at'≤1000) (k:Nat) (hk:1000≤k):spec_l6Search.f k l src at'=some (found l src at'):=by
  unfold spec_l6Search.f
  have:=s_l0 (l:=l) (src:=src) (at':=at') hs (found l src at') 400 (fun k hk=>s_l1 hg ha.1 7 _ _ _ (inv0 hg hs ha) (by rw[r0_unset src at' hs ha.1];omega) k hk) 8 0 (by omega) (by omega) k (by omega)
  exact this
theorem ireach_is {l:List S104} (hg:GP l) {src at':Int} (hs:0≤src∧src < 8) (ha:0≤at'∧at'≤1000) (k:Nat) (hk:1000≤k):impl_reach.f k l src at'=some (found l src at'):=by
  unfold impl_reach.f
  have e:slices_Repeat_int_int.f ([(-1)]:List Int) 8=some (List.replicate 8 (-1)):=by
    unfold slices_Repeat_int_int.f
    rw[if_pos (by omega),if_pos (by simp)]
    rfl
  rw[e,Option.bind_some,Option.bind_some,if_pos hs.1,if_pos (by rw[List.length_replicate];omega)]
  exact i_l0 hg ha.1 7 _ _ _ (inv0 hg hs ha) (by rw[r0_unset src at' hs ha.1];omega) k (by omega)

theorem rd_app (a:List Int) (u:Int) (c:List Int) (j:Int) (hj:j=(a.length:Int)):rd (a++u::c) j=u:=by
  subst hj
  unfold rd
  simp
theorem set_app (a:List Int) (u:Int) (c:List Int) (w:Int) (j:Int) (hj:j=(a.length:Int)):(a++u::c).set j.toNat w=a++w::c:=by
  subst hj
  rw[show((a.length:Int)).toNat=a.length from rfl,List.set_append_right _ _ (Nat.le_refl _),Nat.sub_self]
  rfl
theorem rev_l0 (d:Nat) : ∀ (a m b:List Int) (k:Nat),m.length≤d→d < k→a.length+m.length+b.length≤2000 →
    slices_Reverse_int_int.l0 k (a++(m++b)) (a.length:Int) ((a.length:Int)+(m.length:Int) - 1)=some (a++(m.reverse++b)):=by
  induction d with
  | zero =>
    intro a m b k hm hk hl
    obtain⟨k,rfl⟩ : ∃ m,k=m+1:=⟨k - 1,by omega⟩
    rw[slices_Reverse_int_int.l0,if_neg (by omega),List.eq_nil_of_length_eq_zero (show m.length=0 by omega),List.reverse_nil]
  | succ d ih =>
    intro a m b k hm hk hl
    obtain⟨k,rfl⟩ : ∃ m,k=m+1:=⟨k - 1,by omega⟩
    match m,hm,hl with
    | [],_,_=>rw[slices_Reverse_int_int.l0,if_neg (by simp;omega),List.reverse_nil]
    | [u],_,_=>rw[slices_Reverse_int_int.l0,if_neg (by simp),List.reverse_singleton]
    | u::w'::c,hm,hl =>
      obtain⟨m',w,e⟩ : ∃ m' w,w'::c=m'++[w]:=⟨(w'::c).dropLast,(w'::c).getLast (by simp),(List.dropLast_concat_getLast (by simp)).symm⟩
      rw[e] at hm hl ⊢
      simp only[List.length_cons,List.length_append,List.length_nil] at hm hl
      have e1:a++(u::(m'++[w])++b)=a++u::(m'++w::b):=by simp
      have e2 : ∀ z:Int,a++z::(m'++w::b)=(a++z::m')++w::b:=by simp
      have el:((u::(m'++[w])).length:Int)=(m'.length:Int)+2:=by simp only[List.length_cons,List.length_append,List.length_nil];omega
      have ln:((a++u::(m'++w::b)).length:Int)=a.length+m'.length+b.length+2:=by simp only[List.length_cons,List.length_append];omega
      have lz : ∀ z:Int,(a.length:Int)+((m'.length:Int)+2) - 1=((a++z::m').length:Int):=fun z=>by simp only[List.length_cons,List.length_append];omega
      rw[slices_Reverse_int_int.l0,el,e1,if_pos (by omega),if_pos (by omega),if_pos (by omega),if_pos (by omega),if_pos (by omega),rd_app a u _ _ rfl,set_app a u _ _ _ rfl,wrap_in (by omega) (by omega),wrap_in (by omega) (by omega)]
      rw[e2 u,rd_app _ w b _ (lz u),e2 w,set_app _ w b _ _ (lz w)]
      have:=ih (a++[w]) m' (u::b) k (by omega) (by omega) (by simp only[List.length_cons,List.length_append,List.length_nil];omega)
      rw[show(a++w::m')++u::b=(a++[w])++(m'++u::b) by simp,show(a.length:Int)+1=((a++[w]).length:Int) by simp,show(a.length:Int)+((m'.length:Int)+2) - 1 - 1=((a++[w]).length:Int)+(m'.length:Int) - 1 by simp only[List.length_append,List.length_cons,List.length_nil];omega,this]
      simp
theorem rev_is (x:List Int) (hx:x.length≤2000) (k:Nat) (hk:2000 < k):slices_Reverse_int_int.f k x=some x.reverse:=by
  unfold slices_Reverse_int_int.f
  rw[wrap_in (by omega) (by omega)]
  have:=rev_l0 x.length [] x [] k (by omega) (by omega) (by simp;omega)
  simpa using this
theorem s_back {l:List S104} (hg:GP l) {src to':Int} (ht:0≤to'∧to' < 8) {r v:List Int} (hr:r.length=8) (hv:v.length=8) {n:Int} {p:List Int} (hp:Pth l src r v n p) : ∀ (q:List Int) (k:Nat),p.length < k→p.length+q.length≤1000→spec_RouteTo.l0 k l src to' r v q n=some (p++q,rd r to',true):=by
  induction hp with
  | nil =>
    intro q k hk hl
    obtain⟨k,rfl⟩ : ∃ m,k=m+1:=⟨k - 1,by simp at hk;omega⟩
    rw[spec_RouteTo.l0,if_pos rfl,if_pos ht.1,if_pos (by omega),List.nil_append]
  | @snoc n m p i h0 h1 h2 h3 h4 h5 h6 h7 h8 h9 h10 h11 ih =>
    intro q k hk hl
    rw[List.length_append,List.length_singleton] at hk hl
    obtain⟨k,rfl⟩ : ∃ m,k=m+1:=⟨k - 1,by omega⟩
    have gc:=(hg.1 _ (rd104_mem l i h1)).2.1
    rw[h3] at gc
    rw[spec_RouteTo.l0,if_neg h4,if_pos h9,if_pos (by omega),h5,Option.bind_some,if_pos (by simp only[List.length_cons,List.length_nil];omega),if_pos (by omega),if_pos (by omega),h2,ih _ k (by omega) (by simp only[List.length_append,List.length_cons,List.length_nil];omega),List.append_assoc]
theorem i_back {l:List S104} (hg:GP l) {src to':Int} (ht:0≤to'∧to' < 8) {r v:List Int} (hr:r.length=8) (hv:v.length=8) {n:Int} {p:List Int} (hp:Pth l src r v n p) : ∀ (q:List Int) (k:Nat),p.length+3000 < k→p.length+q.length≤1000→impl_RouteTo.l0 k l src to' r v q n=some (p++q.reverse,rd r to',true):=by
  induction hp with
  | nil =>
    intro q k hk hl
    obtain⟨k,rfl⟩ : ∃ m,k=m+1:=⟨k - 1,by simp at hk;omega⟩
    rw[impl_RouteTo.l0,if_pos rfl,rev_is q (by simp at hl;omega) k (by simp at hk;omega),Option.bind_some,if_pos ht.1,if_pos (by omega),List.nil_append]
  | @snoc n m p i h0 h1 h2 h3 h4 h5 h6 h7 h8 h9 h10 h11 ih =>
    intro q k hk hl
    rw[List.length_append,List.length_singleton] at hk hl
    obtain⟨k,rfl⟩ : ∃ m,k=m+1:=⟨k - 1,by omega⟩
    have gc:=(hg.1 _ (rd104_mem l i h1)).2.1
    rw[h3] at gc
    rw[impl_RouteTo.l0,if_neg h4,if_pos h9,if_pos (by omega),h5,if_pos (by omega),if_pos (by omega),if_pos (by omega),h2,ih _ k (by omega) (by simp only[List.length_append,List.length_cons,List.length_nil];omega),List.reverse_append,List.append_assoc]
    rfl

def arr (l:List S104) (a:Int):List Int→Option Int
  | []=>some a
  | i::q=>if (rd_T104 l i).f3≤a then none else arr l (over (rd_T104 l i) a) q
def Chn (l:List S104) (n:Int):List Int→Int→Prop
  | [],m=>n=m
  | i::q,m=>(0≤i∧i < (l.length:Int))∧(rd_T104 l i).f0=n∧Chn l (rd_T104 l i).f1 q m
theorem arr_app (l:List S104) (q:List Int) : ∀ (p:List Int) (a:Int),arr l a (p++q)=(arr l a p).bind fun u=>arr l u q
  | [],a=>rfl
  | i::p,a=>by
    rw[List.cons_append,arr,arr]
    by_cases c:(rd_T104 l i).f3≤a
    · rw[if_pos c,if_pos c]
      rfl
    · rw[if_neg c,if_neg c]
      exact arr_app l q p _
theorem chn_app (l:List S104) (q:List Int) (m:Int) : ∀ (p:List Int) (n k:Int),Chn l n p k→Chn l k q m→Chn l n (p++q) m
  | [],n,k,h,g=>by
    rw[List.nil_append,show n=k from h]
    exact g
  | i::p,n,k,h,g=>⟨h.1,h.2.1,chn_app l q m p _ k h.2.2 g⟩
theorem gc_of {l:List S104} (hg:GP l) {i:Int} (h:0≤i∧i < (l.length:Int)):GC (rd_T104 l i):=by
  have:=hg.1 _ (rd104_mem l i.toNat (by omega))
  rwa [show((i.toNat:Nat):Int)=i by omega] at this
theorem over_mono (c:S104) {a b:Int} (h:a≤b):over c a≤over c b:=by
  unfold over
  split<;>split<;>omega
theorem pth_arr {l:List S104} {src:Int} {r v:List Int} {n:Int} {p:List Int} (hp:Pth l src r v n p):Chn l src p n∧arr l (rd r src) p=some (rd r n):=by
  induction hp with
  | nil=>exact⟨rfl,rfl⟩
  | @snoc n m p i h0 h1 h2 h3 h4 h5 h6 h7 h8 h9 h10 h11 ih =>
    refine⟨chn_app l _ _ _ _ _ ih.1 ⟨⟨by omega,by omega⟩,h2,h3⟩,?_⟩
    rw[arr_app,ih.2,Option.bind_some,arr,if_neg (by omega),← h11]
    rfl
theorem closed_le {l:List S104} (hg:GP l) {r:List Int} (hc : ∀ c ∈ l,cand r c=none) (m u:Int) : ∀ (q:List Int) (n a:Int),0≤rd r n→rd r n≤a→Chn l n q m→arr l a q=some u→0≤rd r m∧rd r m≤u
  | [],n,a,h0,h1,hq,ha=>by
    rw[show n=m from hq] at h0 h1
    injection ha with ha
    omega
  | i::q,n,a,h0,h1,hq,ha=>by
    obtain⟨b,b0,b1⟩:=hq
    have gc:=gc_of hg b
    have no:=hc _ (by
      have:=rd104_mem l i.toNat (by omega)
      rwa [show((i.toNat:Nat):Int)=i by omega] at this)
    rw[arr] at ha
    generalize rd_T104 l i=c at *
    by_cases e:c.f3≤a
    · rw[if_pos e] at ha
      cases ha
    · rw[if_neg e] at ha
      have ge:=over_ge c gc (rd r n) h0 (by omega)
      have mo:=over_mono c h1
      unfold cand at no
      rw[b0,if_neg (by omega),if_neg (by omega)] at no
      by_cases f:0≤rd r c.f1∧rd r c.f1≤over c (rd r n)
      · exact closed_le hg hc m u q c.f1 (over c a) f.1 (by omega) b1 ha
      · rw[if_neg f] at no
        cases no
theorem srch_end {l:List S104} (hg:GP l) {src at':Int} (h0:0≤at') (d:Nat) : ∀ (r v:List Int) (last:Int),Inv l src at' r v last→unset r≤d → ∀ c ∈ l,cand (srch l d r v).1 c=none:=by
  induction d with
  | zero =>
    intro r v last h hu
    by_cases c:(scan r l 0 (-1,0)).1 < 0
    · exact((scan_spec r l 0 (-1,0)).1 c).2
    · obtain⟨j,h1,h2,h3,h4⟩:=scan_found c
      have:=(inv_step hg h0 h h1 h3 h4).2
      omega
  | succ d ih =>
    intro r v last h hu
    rw[srch]
    by_cases c:(scan r l 0 (-1,0)).1 < 0
    · rw[if_pos c]
      exact((scan_spec r l 0 (-1,0)).1 c).2
    · rw[if_neg c]
      obtain⟨j,h1,h2,h3,h4⟩:=scan_found c
      have st:=inv_step hg h0 h h1 h3 h4
      rw[h2]
      exact ih _ _ _ st.1 (by omega)
def Best (l:List S104) (src at' to':Int) (p:List Int) (best:Int):Prop:=Chn l src p to'∧arr l at' p=some best ∧ ∀ q u,Chn l src q to'→arr l at' q=some u→best≤u
def Way (l:List S104) (src at' to':Int) (p:List Int) (best:Int):Prop:=GP l∧0≤at'∧at'≤1000∧p.length≤7∧Best l src at' to' p best
theorem way_head {l:List S104} {src at' to':Int} {p:List Int} {best:Int} (h:Way l src at' to' p best) : ∀ i q,p=i::q→0≤i∧i < (l.length:Int)∧(rd_T104 l i).f0=src∧at' < (rd_T104 l i).f3:=by
  intro i q e
  obtain⟨_,_,_,_,b1,b2,_⟩:=h
  rw[e] at b1 b2
  refine⟨b1.1.1,b1.1.2,b1.2.1,?_⟩
  rw[arr] at b2
  by_cases c:(rd_T104 l i).f3≤at'
  · rw[if_pos c] at b2
    cases b2
  · omega

theorem route_is (l:List S104) (hn:l.length≤1048576) (src at' to':Int) : ∃ R:List Int × Int × Bool,(R.2.2=true→Way l src at' to' R.1 R.2.1)∧(GP l→(0≤src∧src < 8)→(0≤at'∧at'≤1000)→(0≤to'∧to' < 8)→(∃ q u,Chn l src q to'∧arr l at' q=some u)→R.2.2=true) ∧
    ∀ k,1048600≤k→spec_RouteTo.f k l src at' to'=some R∧impl_RouteTo.f k l src at' to'=some R:=by
  have no : ∀ k,2≤k→spec_RouteTo.j0 k l src at' to' true=some (([]:List Int),0,false)∧impl_RouteTo.j0 k l src at' to' true=some (([]:List Int),0,false):=by
    intro k hk
    obtain⟨k,rfl⟩ : ∃ m,k=m+1:=⟨k - 1,by omega⟩
    rw[spec_RouteTo.j0,impl_RouteTo.j0,if_pos rfl,if_pos rfl]
    exact⟨rfl,rfl⟩
  by_cases g:GP l∧(0≤src∧src < 8)∧(0≤at'∧at'≤1000)∧(0≤to'∧to' < 8)
  · obtain⟨hg,hs,ha,ht⟩:=g
    obtain⟨last,h⟩:=srch_inv hg ha.1 7 _ _ _ (inv0 hg hs ha)
    have hf:Inv l src at' (found l src at').1 (found l src at').2 last:=h
    have hr:=hf.hr
    have hv:=hf.hv
    have hc : ∀ c ∈ l,cand (found l src at').1 c=none:=srch_end hg ha.1 7 _ _ _ (inv0 hg hs ha) (by rw[r0_unset src at' hs ha.1];omega)
    have le : ∀ q u,Chn l src q to'→arr l at' q=some u→0≤rd (found l src at').1 to'∧rd (found l src at').1 to'≤u:=fun q u h1 h2=>closed_le hg hc to' u q src at' (by rw[hf.hs];exact ha.1) (by rw[hf.hs];omega) h1 h2
    by_cases c:rd (found l src at').1 to' < 0
    · refine⟨(([]:List Int),0,false),fun q=>(by cases q),fun _ _ _ _ ⟨q,u,h1,h2⟩ => ?_,fun k hk => ?_⟩
      · have:=(le q u h1 h2).1
        omega
      · unfold spec_RouteTo.f impl_RouteTo.f
        rw[splan_is l hn k (by omega),iplan_is l hn k (by omega),snode_is,inode_is,swhen_is,iwhen_is,snode_is,inode_is]
        obtain⟨k,rfl⟩ : ∃ m,k=m+1:=⟨k - 1,by omega⟩
        rw[decide_eq_true hg,decide_eq_true hs,decide_eq_true ha,decide_eq_true ht]
        simp only[Option.bind_some,if_true]
        rw[spec_RouteTo.j0,impl_RouteTo.j0,if_neg (by decide),if_neg (by decide),ssearch_is hg hs ha k (by omega),ireach_is hg hs ha k (by omega),Option.bind_some,Option.bind_some,if_pos ht.1,if_pos (by omega),if_pos c,if_pos ht.1,if_pos (by omega),if_pos c]
        exact⟨rfl,rfl⟩
    · obtain⟨p,hp,pl⟩:=hf.hp to' ht.1 ht.2 (by omega)
      have pa:=pth_arr hp
      rw[hf.hs] at pa
      refine⟨(p,rd (found l src at').1 to',true),fun _=>⟨hg,ha.1,ha.2,by dsimp only;omega,pa.1,pa.2,fun q u h1 h2=>(le q u h1 h2).2⟩,fun _ _ _ _ _=>rfl,fun k hk => ?_⟩
      unfold spec_RouteTo.f impl_RouteTo.f
      rw[splan_is l hn k (by omega),iplan_is l hn k (by omega),snode_is,inode_is,swhen_is,iwhen_is,snode_is,inode_is]
      obtain⟨k,rfl⟩ : ∃ m,k=m+1:=⟨k - 1,by omega⟩
      rw[decide_eq_true hg,decide_eq_true hs,decide_eq_true ha,decide_eq_true ht]
      simp only[Option.bind_some,if_true]
      rw[spec_RouteTo.j0,impl_RouteTo.j0,if_neg (by decide),if_neg (by decide),ssearch_is hg hs ha k (by omega),ireach_is hg hs ha k (by omega),Option.bind_some,Option.bind_some,if_pos ht.1,if_pos (by omega),if_neg c,if_pos ht.1,if_pos (by omega),if_neg c,s_back hg ht hr hv hp [] k (by omega) (by simp;omega),i_back hg ht hr hv hp [] k (by omega) (by simp;omega)]
      simp
  · refine⟨(([]:List Int),0,false),fun q=>(by cases q),fun h1 h2 h3 h4 _=>absurd ⟨h1,h2,h3,h4⟩ g,fun k hk => ?_⟩
    unfold spec_RouteTo.f impl_RouteTo.f
    rw[splan_is l hn k (by omega),iplan_is l hn k (by omega),snode_is,inode_is,swhen_is,iwhen_is,snode_is,inode_is]
    simp only[Option.bind_some,decide_eq_true_eq]
    have nk:=no k (by omega)
    by_cases c1:GP l
    · rw[if_pos c1,if_pos c1]
      by_cases c2:0≤src∧src < 8
      · rw[if_pos c2,if_pos c2]
        by_cases c3:0≤at'∧at'≤1000
        · rw[if_pos c3,if_pos c3,decide_eq_false (fun c4=>g ⟨c1,c2,c3,c4⟩)]
          exact nk
        · rw[if_neg c3,if_neg c3]
          exact nk
      · rw[if_neg c2,if_neg c2]
        exact nk
    · rw[if_neg c1,if_neg c1]
      exact nk

theorem text_ne (s:ByteArray):(s.toList != ([]:List UInt8))=decide (0 < (s.size:Int)):=by
  rw[Bool.eq_iff_iff,bne_iff_ne,decide_eq_true_eq,ByteArray.toList_eq]
  have e:s.size=s.data.toList.length:=rfl
  rw[e]
  cases s.data.toList with
  | nil=>simp
  | cons a l =>
    simp only[List.length_cons,ne_eq,reduceCtorEq,not_false_iff,true_iff]
    omega
def GB (a0 a1 a3 a4 a5 a6 a7 a8 n:Int):Prop:=(0≤a0∧a0≤40)∧(0≤a1∧a1≤40)∧(0≤a3∧a3≤1000000)∧(0≤a4∧a4≤1000)∧(1≤a5∧a5≤1000000)∧(0≤a6∧a6≤30)∧n≤60∧(0≤a8∧a8≤60)∧(0≤a7∧a7≤a8)∧(a8=0∨(0 < n∧a7+n≤a8))
noncomputable instance (a0 a1 a3 a4 a5 a6 a7 a8 n:Int):Decidable (GB a0 a1 a3 a4 a5 a6 a7 a8 n):=Classical.propDecidable _
theorem sgb_is (a0 a1:Int) (b:Bool) (a3 a4 a5 a6 a7 a8:Int) (s:ByteArray):spec_GoodBundle.f a0 a1 b a3 a4 a5 a6 a7 a8 s=some (decide (GB a0 a1 a3 a4 a5 a6 a7 a8 (s.size:Int))):=by
  unfold spec_GoodBundle.f
  have hs:(0:Int)≤(s.size:Int):=by omega
  generalize (s.size:Int)=n at hs
  simp only[sin_is,Option.bind_some,decide_eq_true_eq]
  have no : ¬ GB a0 a1 a3 a4 a5 a6 a7 a8 n→some false=some (decide (GB a0 a1 a3 a4 a5 a6 a7 a8 n)):=fun h=>by rw[decide_eq_false h]
  have ye:GB a0 a1 a3 a4 a5 a6 a7 a8 n→some true=some (decide (GB a0 a1 a3 a4 a5 a6 a7 a8 n)):=fun h=>by rw[decide_eq_true h]
  by_cases c1:0≤a0∧a0≤40
  · rw[if_pos c1]
    by_cases c2:0≤a1∧a1≤40
    · rw[if_pos c2]
      by_cases c3:0≤a3∧a3≤1000000
      · rw[if_pos c3]
        by_cases c4:0≤a4∧a4≤1000
        · rw[if_pos c4]
          by_cases c5:1≤a5∧a5≤1000000
          · rw[if_pos c5]
            by_cases c6:0≤a6∧a6≤30
            · rw[if_pos c6]
              by_cases c7:n > 60
              · rw[if_pos c7]
                exact no fun h=>by have:=h.2.2.2.2.2.2.1;omega
              · rw[if_neg c7]
                by_cases c8:0≤a8∧a8≤60
                · rw[if_pos c8]
                  by_cases c9:0≤a7∧a7≤a8
                  · rw[if_pos c9]
                    by_cases c10:a8=0
                    · rw[if_pos c10]
                      exact ye ⟨c1,c2,c3,c4,c5,c6,by omega,c8,c9,Or.inl c10⟩
                    · rw[if_neg c10]
                      by_cases c11:n > 0
                      · rw[if_pos c11,wrap_in (by omega) (by omega)]
                        exact congrArg some (decide_eq_decide.mpr ⟨fun h=>⟨c1,c2,c3,c4,c5,c6,by omega,c8,c9,Or.inr ⟨c11,h⟩⟩,fun h=>by have:=h.2.2.2.2.2.2.2.2.2;omega⟩)
                      · rw[if_neg c11]
                        exact no fun h=>by have:=h.2.2.2.2.2.2.2.2.2;omega
                  · rw[if_neg c9]
                    exact no fun h=>c9 h.2.2.2.2.2.2.2.2.1
                · rw[if_neg c8]
                  exact no fun h=>c8 h.2.2.2.2.2.2.2.1
            · rw[if_neg c6]
              exact no fun h=>c6 h.2.2.2.2.2.1
          · rw[if_neg c5]
            exact no fun h=>c5 h.2.2.2.2.1
        · rw[if_neg c4]
          exact no fun h=>c4 h.2.2.2.1
      · rw[if_neg c3]
        exact no fun h=>c3 h.2.2.1
    · rw[if_neg c2]
      exact no fun h=>c2 h.2.1
  · rw[if_neg c1]
    exact no fun h=>c1 h.1
theorem igb_is (a0 a1:Int) (b:Bool) (a3 a4 a5 a6 a7 a8:Int) (s:ByteArray) (k:Nat) (hk:1≤k):impl_GoodBundle.f k a0 a1 b a3 a4 a5 a6 a7 a8 s=some (decide (GB a0 a1 a3 a4 a5 a6 a7 a8 (s.size:Int))):=by
  obtain⟨k,rfl⟩ : ∃ m,k=m+1:=⟨k - 1,by omega⟩
  unfold impl_GoodBundle.f
  have hs:(0:Int)≤(s.size:Int):=by omega
  simp only[impl_GoodBundle.j0,text_ne,iin_is,Option.bind_some,decide_eq_true_eq,if_true]
  generalize (s.size:Int)=n at hs
  have no : ¬ GB a0 a1 a3 a4 a5 a6 a7 a8 n→some false=some (decide (GB a0 a1 a3 a4 a5 a6 a7 a8 n)):=fun h=>by rw[decide_eq_false h]
  by_cases c1:0≤a0∧a0≤40
  · rw[if_pos c1]
    by_cases c2:0≤a1∧a1≤40
    · rw[if_pos c2]
      by_cases c3:0≤a3∧a3≤1000000
      · rw[if_pos c3]
        by_cases c4:0≤a4∧a4≤1000
        · rw[if_pos c4]
          by_cases c5:1≤a5∧a5≤1000000
          · rw[if_pos c5]
            by_cases c6:0≤a6∧a6≤30
            · rw[if_pos c6]
              by_cases c7:n > 60
              · rw[if_pos c7]
                exact no fun h=>by have:=h.2.2.2.2.2.2.1;omega
              · rw[if_neg c7]
                by_cases c10:a8=0
                · rw[if_pos c10]
                  congr 1
                  rw[Bool.eq_iff_iff,beq_iff_eq,decide_eq_true_eq]
                  exact⟨fun h=>⟨c1,c2,c3,c4,c5,c6,by omega,by omega,by omega,Or.inl c10⟩,fun h=>by have:=h.2.2.2.2.2.2.2.2.1;omega⟩
                · rw[if_neg c10]
                  by_cases c8:1≤a8∧a8≤60
                  · rw[if_pos c8,wrap_in (by omega) (by omega)]
                    by_cases c9:0≤a7∧a7≤a8 - n
                    · rw[if_pos c9]
                      exact congrArg some (decide_eq_decide.mpr ⟨fun h=>⟨c1,c2,c3,c4,c5,c6,by omega,by omega,by omega,Or.inr ⟨h,by omega⟩⟩,fun h=>by have:=h.2.2.2.2.2.2.2.2.2;omega⟩)
                    · rw[if_neg c9]
                      exact no fun h=>by have:=h.2.2.2.2.2.2.2.2;omega
                  · rw[if_neg c8]
                    exact no fun h=>by have:=h.2.2.2.2.2.2.2.1;omega
            · rw[if_neg c6]
              exact no fun h=>c6 h.2.2.2.2.2.1
          · rw[if_neg c5]
            exact no fun h=>c5 h.2.2.2.2.1
        · rw[if_neg c4]
          exact no fun h=>c4 h.2.2.2.1
      · rw[if_neg c3]
        exact no fun h=>c3 h.2.2.1
    · rw[if_neg c2]
      exact no fun h=>c2 h.2.1
  · rw[if_neg c1]
    exact no fun h=>c1 h.1
def FT (l:List S104) (a0 a1 a3 a4 a5 a6 a7 a8 n:Int):Prop:=GP l∧GB a0 a1 a3 a4 a5 a6 a7 a8 n∧a8=0∧(0≤a0∧a0 < 8)∧(0≤a3∧a3≤1000)
noncomputable instance (l:List S104) (a0 a1 a3 a4 a5 a6 a7 a8 n:Int):Decidable (FT l a0 a1 a3 a4 a5 a6 a7 a8 n):=Classical.propDecidable _
theorem sfit_is (l:List S104) (hn:l.length≤1048576) (a0 a1:Int) (b:Bool) (a3 a4 a5 a6 a7 a8:Int) (s:ByteArray) (k:Nat) (hk:1048576 < k):spec_l17Fits.f k l a0 a1 b a3 a4 a5 a6 a7 a8 s=some (decide (FT l a0 a1 a3 a4 a5 a6 a7 a8 (s.size:Int))):=by
  unfold spec_l17Fits.f
  rw[splan_is l hn k hk,sgb_is,snode_is,swhen_is]
  simp only[Option.bind_some,decide_eq_true_eq]
  generalize (s.size:Int)=n
  have no : ¬ FT l a0 a1 a3 a4 a5 a6 a7 a8 n→some false=some (decide (FT l a0 a1 a3 a4 a5 a6 a7 a8 n)):=fun h=>by rw[decide_eq_false h]
  by_cases c1:GP l
  · rw[if_pos c1]
    by_cases c2:GB a0 a1 a3 a4 a5 a6 a7 a8 n
    · rw[if_pos c2]
      by_cases c3:a8=0
      · rw[if_pos c3]
        by_cases c4:0≤a0∧a0 < 8
        · rw[if_pos c4]
          exact congrArg some (decide_eq_decide.mpr ⟨fun h=>⟨c1,c2,c3,c4,h⟩,fun h=>h.2.2.2.2⟩)
        · rw[if_neg c4]
          exact no fun h=>c4 h.2.2.2.1
      · rw[if_neg c3]
        exact no fun h=>c3 h.2.2.1
    · rw[if_neg c2]
      exact no fun h=>c2 h.2.1
  · rw[if_neg c1]
    exact no fun h=>c1 h.1
theorem ifit_is (l:List S104) (hn:l.length≤1048576) (a0 a1:Int) (b:Bool) (a3 a4 a5 a6 a7 a8:Int) (s:ByteArray) (k:Nat) (hk:1048576 < k):impl_fits.f k l a0 a1 b a3 a4 a5 a6 a7 a8 s=some (decide (FT l a0 a1 a3 a4 a5 a6 a7 a8 (s.size:Int))):=by
  unfold impl_fits.f
  rw[iplan_is l hn k hk,igb_is _ _ _ _ _ _ _ _ _ _ k (by omega),inode_is,iwhen_is]
  simp only[Option.bind_some,decide_eq_true_eq]
  generalize (s.size:Int)=n
  have no : ¬ FT l a0 a1 a3 a4 a5 a6 a7 a8 n→some false=some (decide (FT l a0 a1 a3 a4 a5 a6 a7 a8 n)):=fun h=>by rw[decide_eq_false h]
  by_cases c1:GP l
  · rw[if_pos c1]
    by_cases c2:GB a0 a1 a3 a4 a5 a6 a7 a8 n
    · rw[if_pos c2]
      by_cases c3:a8=0
      · rw[if_pos c3]
        by_cases c4:0≤a0∧a0 < 8
        · rw[if_pos c4]
          exact congrArg some (decide_eq_decide.mpr ⟨fun h=>⟨c1,c2,c3,c4,h⟩,fun h=>h.2.2.2.2⟩)
        · rw[if_neg c4]
          exact no fun h=>c4 h.2.2.2.1
      · rw[if_neg c3]
        exact no fun h=>c3 h.2.2.1
    · rw[if_neg c2]
      exact no fun h=>c2 h.2.1
  · rw[if_neg c1]
    exact no fun h=>c1 h.1

theorem step_is (l:List S104) (hn:l.length≤1048576) (a0 a1:Int) (b:Bool) (a3 a4 a5 a6 a7 a8:Int) (s:ByteArray) (node at' to':Int) :
    ∃ R:Int × Int × Bool,(R.2.2=true→FT l a0 a1 a3 a4 a5 a6 a7 a8 (s.size:Int)∧(∃ q best,Way l node at' to' (R.1::q) best)∧R.2.1=over (rd_T104 l R.1) at' ∧ ¬ R.2.1 > wrap64 (a3+a5)) ∧ ∀ k,1048700≤k→spec_ForwardStep.f k l a0 a1 b a3 a4 a5 a6 a7 a8 s node at' to'=some R∧impl_ForwardStep.f k l a0 a1 b a3 a4 a5 a6 a7 a8 s node at' to'=some R:=by
  unfold spec_ForwardStep.f impl_ForwardStep.f
  by_cases f:FT l a0 a1 a3 a4 a5 a6 a7 a8 (s.size:Int)
  · obtain⟨P,hP,_,e⟩:=route_is l hn node at' to'
    obtain⟨p,w,ok⟩:=P
    by_cases hok:ok=true
    · subst hok
      have way:=hP rfl
      have g5:=way_head way
      obtain⟨g1,g2,g3,g4,_⟩:=hP rfl
      dsimp only at g4 g5 way
      cases p with
      | nil =>
        refine⟨(0,0,false),fun q=>(by cases q),fun k hk => ?_⟩
        rw[sfit_is l hn _ _ _ _ _ _ _ _ _ _ k (by omega),ifit_is l hn _ _ _ _ _ _ _ _ _ _ k (by omega),(e k (by omega)).1,(e k (by omega)).2,decide_eq_true f]
        obtain⟨k,rfl⟩ : ∃ m,k=m+1:=⟨k - 1,by omega⟩
        simp only[Option.bind_some,if_true]
        rw[spec_ForwardStep.j0,impl_ForwardStep.j0]
        exact⟨rfl,rfl⟩
      | cons i q =>
        obtain⟨i0,il,i1,i2⟩:=g5 i q rfl
        have gc:=g1.1 _ (rd104_mem l i.toNat (by omega))
        rw[show((i.toNat:Nat):Int)=i by omega] at gc
        have so:=sover_is _ gc at' g2 (by omega)
        have io:=iby_is _ gc at' g2 (by omega)
        rw[if_neg (by omega)] at so
        by_cases c:over (rd_T104 l i) at' > wrap64 (a3+a5)
        · refine⟨(0,0,false),fun q=>(by cases q),fun k hk => ?_⟩
          rw[sfit_is l hn _ _ _ _ _ _ _ _ _ _ k (by omega),ifit_is l hn _ _ _ _ _ _ _ _ _ _ k (by omega),(e k (by omega)).1,(e k (by omega)).2,decide_eq_true f]
          obtain⟨k,rfl⟩ : ∃ m,k=m+1:=⟨k - 1,by omega⟩
          simp only[Option.bind_some,if_true]
          have lp:(0:Int) < ((i::q).length:Int):=by rw[List.length_cons];omega
          have nz:(((i::q).length:Int) == 0)=false:=by rw[beq_eq_false_iff_ne,List.length_cons];omega
          rw[spec_ForwardStep.j0,impl_ForwardStep.j0,nz,if_neg Bool.false_ne_true,if_neg Bool.false_ne_true,show rd (i::q) 0=i from rfl,if_pos lp,if_pos lp,if_pos i0,if_pos i0,if_pos il,if_pos il,so,io,Option.bind_some,Option.bind_some]
          dsimp only
          rw[if_pos c]
          exact⟨rfl,rfl⟩
        · refine⟨(i,over (rd_T104 l i) at',true),fun _=>⟨f,⟨q,w,way⟩,rfl,c⟩,fun k hk => ?_⟩
          rw[sfit_is l hn _ _ _ _ _ _ _ _ _ _ k (by omega),ifit_is l hn _ _ _ _ _ _ _ _ _ _ k (by omega),(e k (by omega)).1,(e k (by omega)).2,decide_eq_true f]
          obtain⟨k,rfl⟩ : ∃ m,k=m+1:=⟨k - 1,by omega⟩
          simp only[Option.bind_some,if_true]
          have lp:(0:Int) < ((i::q).length:Int):=by rw[List.length_cons];omega
          have nz:(((i::q).length:Int) == 0)=false:=by rw[beq_eq_false_iff_ne,List.length_cons];omega
          rw[spec_ForwardStep.j0,impl_ForwardStep.j0,nz,if_neg Bool.false_ne_true,if_neg Bool.false_ne_true,show rd (i::q) 0=i from rfl,if_pos lp,if_pos lp,if_pos i0,if_pos i0,if_pos il,if_pos il,so,io,Option.bind_some,Option.bind_some]
          dsimp only
          rw[if_neg c]
          exact⟨rfl,rfl⟩
    · refine⟨(0,0,false),fun q=>(by cases q),fun k hk => ?_⟩
      rw[sfit_is l hn _ _ _ _ _ _ _ _ _ _ k (by omega),ifit_is l hn _ _ _ _ _ _ _ _ _ _ k (by omega),(e k (by omega)).1,(e k (by omega)).2,decide_eq_true f]
      obtain⟨k,rfl⟩ : ∃ m,k=m+1:=⟨k - 1,by omega⟩
      simp only[Option.bind_some,if_true]
      rw[if_neg hok,if_neg hok,spec_ForwardStep.j0,impl_ForwardStep.j0,if_pos rfl,if_pos rfl]
      exact⟨rfl,rfl⟩
  · refine⟨(0,0,false),fun q=>(by cases q),fun k hk => ?_⟩
    rw[sfit_is l hn _ _ _ _ _ _ _ _ _ _ k (by omega),ifit_is l hn _ _ _ _ _ _ _ _ _ _ k (by omega),decide_eq_false f]
    exact⟨rfl,rfl⟩

theorem arr_ge {l:List S104} (hg:GP l) (m u:Int) : ∀ (q:List Int) (n a:Int),0≤a→Chn l n q m→arr l a q=some u→a≤u
  | [],n,a,h0,hq,ha=>by
    injection ha with ha
    omega
  | i::q,n,a,h0,hq,ha=>by
    obtain⟨b,b0,b1⟩:=hq
    have gc:=gc_of hg b
    rw[arr] at ha
    by_cases e:(rd_T104 l i).f3≤a
    · rw[if_pos e] at ha
      cases ha
    · rw[if_neg e] at ha
      have ge:=over_ge _ gc a h0 e
      have:=arr_ge hg m u q _ _ ge.2.2 b1 ha
      omega
def Told (l:List S104) (node at' to' most:Int) (q:List Int) (R:List Int × Int × Bool):Prop:=R.2.2=true → ∃ p,R.1=q++p∧Best l node at' to' p R.2.1∧(p=[] ∨ ¬ R.2.1 > most)
theorem told_here {l:List S104} (hg:GP l) (node at' most:Int) (q:List Int) (h0:0≤at'):Told l node at' node most q (q,at',true) :=
  fun _=>⟨[],by simp,⟨rfl,rfl,fun p u h1 h2=>arr_ge hg node u p node at' h0 h1 h2⟩,Or.inl rfl⟩
theorem told_step {l:List S104} {node at' to' most i best:Int} {p0 q:List Int} (hw:Way l node at' to' (i::p0) best) (hm : ¬ over (rd_T104 l i) at' > most) {R:List Int × Int × Bool} (h:Told l (rd_T104 l i).f1 (over (rd_T104 l i) at') to' most (q++[i]) R):Told l node at' to' most q R:=by
  intro hR
  obtain⟨p,e,⟨b1,b2,b3⟩,b4⟩:=h hR
  obtain⟨i0,i1,i2,i3⟩:=way_head hw i p0 rfl
  obtain⟨_,_,_,_,w1,w2,w3⟩:=hw
  have ar : ∀ z,arr l at' (i::z)=arr l (over (rd_T104 l i) at') z:=fun z=>by rw[arr,if_neg (by omega)]
  rw[ar] at w2
  have le:=b3 p0 best w1.2.2 w2
  refine⟨i::p,by rw[e];simp,⟨⟨⟨i0,i1⟩,i2,b1⟩,by rw[ar];exact b2,fun z u h1 h2 => ?_⟩,?_⟩
  · have:=w3 z u h1 h2
    omega
  · rcases b4 with b4|b4
    · rw[b4] at b2
      injection b2 with b2
      right
      rw[← b2]
      exact hm
    · exact Or.inr b4
theorem follow_l0 (l:List S104) (hg:GP l) (hn:l.length≤1048576) (a0 a1:Int) (b:Bool) (a3 a4 a5 a6 a7 a8:Int) (s:ByteArray) (to':Int) (d:Nat) : ∀ (q:List Int) (node at':Int),0≤at'→20 - q.length=d→q.length≤20 →
    ∃ R:List Int × Int × Bool,(R.1.length≤20∧Told l node at' to' (wrap64 (a3+a5)) q R) ∧ ∀ k,1048701+d≤k→spec_FollowPlan.l0 k l to' node at' q a0 a1 b a3 a4 a5 a6 a7 a8 s=some R∧impl_FollowPlan.l0 k l to' q node at' a0 a1 b a3 a4 a5 a6 a7 a8 s=some R:=by
  induction d with
  | zero =>
    intro q node at' h0 hd hq
    obtain⟨P,hP,e⟩:=step_is l hn a0 a1 b a3 a4 a5 a6 a7 a8 s node at' to'
    by_cases c:node=to'
    · subst c
      refine⟨(q,at',true),⟨hq,told_here hg _ _ _ _ h0⟩,fun k hk => ?_⟩
      obtain⟨k,rfl⟩ : ∃ m,k=m+1:=⟨k - 1,by omega⟩
      rw[spec_FollowPlan.l0,impl_FollowPlan.l0,if_pos rfl,if_pos rfl]
      exact⟨rfl,rfl⟩
    · refine⟨(([]:List Int),0,false),⟨by simp,fun h=>by cases h⟩,fun k hk => ?_⟩
      obtain⟨k,rfl⟩ : ∃ m,k=m+1:=⟨k - 1,by omega⟩
      have q20:(q.length:Int)=20:=by omega
      rw[spec_FollowPlan.l0,impl_FollowPlan.l0,if_neg c,if_neg c,(e k (by omega)).1,(e k (by omega)).2,Option.bind_some,Option.bind_some]
      by_cases g:P.2.2=true
      · rw[if_pos g,if_pos g,if_pos q20,if_pos q20]
        exact⟨rfl,rfl⟩
      · rw[if_neg g,if_neg g]
        exact⟨rfl,rfl⟩
  | succ d ih =>
    intro q node at' h0 hd hq
    obtain⟨P,hP,e⟩:=step_is l hn a0 a1 b a3 a4 a5 a6 a7 a8 s node at' to'
    by_cases c:node=to'
    · subst c
      refine⟨(q,at',true),⟨hq,told_here hg _ _ _ _ h0⟩,fun k hk => ?_⟩
      obtain⟨k,rfl⟩ : ∃ m,k=m+1:=⟨k - 1,by omega⟩
      rw[spec_FollowPlan.l0,impl_FollowPlan.l0,if_pos rfl,if_pos rfl]
      exact⟨rfl,rfl⟩
    · by_cases g:P.2.2=true
      · obtain⟨_,⟨p0,best,hw⟩,et,em⟩:=hP g
        obtain⟨g1,g2,_,g3⟩:=way_head hw _ _ rfl
        have ge:=over_ge _ (gc_of hg ⟨g1,g2⟩) at' h0 (by omega)
        rw[et] at em
        obtain⟨R,⟨hR,hT⟩,r⟩:=ih (q++[P.1]) (rd_T104 l P.1).f1 P.2.1 (by rw[et];omega) (by rw[List.length_append,List.length_singleton];omega) (by rw[List.length_append,List.length_singleton];omega)
        rw[et] at hT
        refine⟨R,⟨hR,told_step hw em hT⟩,fun k hk => ?_⟩
        obtain⟨k,rfl⟩ : ∃ m,k=m+1:=⟨k - 1,by omega⟩
        have q20 : ¬ (q.length:Int)=20:=by omega
        have ql:q.length < 17592186044416:=by omega
        rw[spec_FollowPlan.l0,impl_FollowPlan.l0,if_neg c,if_neg c,(e k (by omega)).1,(e k (by omega)).2,Option.bind_some,Option.bind_some,if_pos g,if_pos g,if_neg q20,if_neg q20,if_pos ql,if_pos ql,if_pos g1,if_pos g1,if_pos g2,if_pos g2]
        exact r k (by omega)
      · refine⟨(([]:List Int),0,false),⟨by simp,fun h=>by cases h⟩,fun k hk => ?_⟩
        obtain⟨k,rfl⟩ : ∃ m,k=m+1:=⟨k - 1,by omega⟩
        rw[spec_FollowPlan.l0,impl_FollowPlan.l0,if_neg c,if_neg c,(e k (by omega)).1,(e k (by omega)).2,Option.bind_some,Option.bind_some,if_neg g,if_neg g]
        exact⟨rfl,rfl⟩
theorem follow_is (l:List S104) (hn:l.length≤1048576) (a0 a1:Int) (b:Bool) (a3 a4 a5 a6 a7 a8:Int) (s:ByteArray) (to':Int) :
    ∃ R:List Int × Int × Bool,(R.1.length≤20∧(R.2.2=true→FT l a0 a1 a3 a4 a5 a6 a7 a8 (s.size:Int)∧(0≤to'∧to' < 8)∧Best l a0 a3 to' R.1 R.2.1∧(R.1=[] ∨ ¬ R.2.1 > wrap64 (a3+a5)))) ∧ ∀ k,1048800≤k→spec_FollowPlan.f k l a0 a1 b a3 a4 a5 a6 a7 a8 s to'=some R∧impl_FollowPlan.f k l a0 a1 b a3 a4 a5 a6 a7 a8 s to'=some R:=by
  unfold spec_FollowPlan.f impl_FollowPlan.f
  by_cases f:FT l a0 a1 a3 a4 a5 a6 a7 a8 (s.size:Int)
  · by_cases t:0≤to'∧to' < 8
    · obtain⟨R,⟨hR,hT⟩,r⟩:=follow_l0 l f.1 hn a0 a1 b a3 a4 a5 a6 a7 a8 s to' 20 [] a0 a3 f.2.2.2.2.1 rfl (by simp)
      refine⟨R,⟨hR,fun hk => ?_⟩,fun k hk => ?_⟩
      · obtain⟨p,e,h1,h2⟩:=hT hk
        rw[List.nil_append] at e
        rw[e]
        exact⟨f,t,h1,h2⟩
      · rw[sfit_is l hn _ _ _ _ _ _ _ _ _ _ k (by omega),ifit_is l hn _ _ _ _ _ _ _ _ _ _ k (by omega),decide_eq_true f,snode_is,inode_is,decide_eq_true t]
        obtain⟨k,rfl⟩ : ∃ m,k=m+1:=⟨k - 1,by omega⟩
        simp only[Option.bind_some,if_true]
        rw[spec_FollowPlan.j0,impl_FollowPlan.j0]
        exact r k (by omega)
    · refine⟨(([]:List Int),0,false),⟨by simp,fun h=>by cases h⟩,fun k hk => ?_⟩
      rw[sfit_is l hn _ _ _ _ _ _ _ _ _ _ k (by omega),ifit_is l hn _ _ _ _ _ _ _ _ _ _ k (by omega),decide_eq_true f,snode_is,inode_is,decide_eq_false t]
      obtain⟨k,rfl⟩ : ∃ m,k=m+1:=⟨k - 1,by omega⟩
      simp only[Option.bind_some,if_true]
      rw[spec_FollowPlan.j0,impl_FollowPlan.j0]
      exact⟨rfl,rfl⟩
  · refine⟨(([]:List Int),0,false),⟨by simp,fun h=>by cases h⟩,fun k hk => ?_⟩
    rw[sfit_is l hn _ _ _ _ _ _ _ _ _ _ k (by omega),ifit_is l hn _ _ _ _ _ _ _ _ _ _ k (by omega),decide_eq_false f]
    obtain⟨k,rfl⟩ : ∃ m,k=m+1:=⟨k - 1,by omega⟩
    rw[Option.bind_some,Option.bind_some,if_neg Bool.false_ne_true,if_neg Bool.false_ne_true,spec_FollowPlan.j0,impl_FollowPlan.j0]
    exact⟨rfl,rfl⟩

theorem chn_mem {l:List S104} : ∀ (p:List Int) (n m:Int),Chn l n p m → ∀ i ∈ p,0≤i∧i < (l.length:Int)
  | [],_,_,_=>by simp
  | i::p,n,m,h=>List.forall_mem_cons.mpr ⟨h.1,chn_mem p _ m h.2.2⟩
theorem drop_rd (p:List Int) (i:Nat) (h:i < p.length):p.drop i=rd p (i:Int)::p.drop (i+1):=by
  rw[List.drop_eq_getElem_cons h]
  unfold rd
  simp[List.getD_eq_getElem?_getD,List.getElem?_eq_getElem h]
theorem rd_in (p:List Int) (i:Nat) (h:i < p.length):rd p (i:Int) ∈ p:=by
  unfold rd
  rw[show((i:Int)).toNat=i from rfl,List.getD_eq_getElem?_getD,List.getElem?_eq_getElem h]
  exact List.getElem_mem h
theorem aidx_l0 (p:List Int) (n:Int) (hn:1≤n∧n≤1048576) (hl:p.length≤1000) (hp : ∀ i ∈ p,0≤i∧i < n) (d:Nat) : ∀ (k i:Nat),p.length - i=d→i≤p.length→d < k→slices_IndexFunc_int_int_impl_areOf_lit1.l0 k p (p.length:Int) (i:Int) n=some (-1,n):=by
  induction d with
  | zero =>
    intro k i hd hi hk
    obtain⟨k,rfl⟩ : ∃ m,k=m+1:=⟨k - 1,by omega⟩
    rw[slices_IndexFunc_int_int_impl_areOf_lit1.l0,if_neg (by omega)]
  | succ d ih =>
    intro k i hd hi hk
    obtain⟨k,rfl⟩ : ∃ m,k=m+1:=⟨k - 1,by omega⟩
    have hm:=hp _ (rd_in p i (by omega))
    rw[slices_IndexFunc_int_int_impl_areOf_lit1.l0,if_pos (by omega),if_pos (by omega),if_pos (by omega)]
    unfold impl_areOf_lit1_captured.f
    rw[iin_is,wrap_in (x:=n - 1) (by omega) (by omega),decide_eq_true (show 0≤rd p (i:Int)∧rd p (i:Int)≤n - 1 by omega),Option.bind_some,Option.bind_some]
    dsimp only
    rw[if_neg (by decide),wrap_succ (n:=p.length) (by omega) (by omega)]
    exact ih k (i+1) (by omega) (by omega) (by omega)
theorem areof_is (p:List Int) (n:Int) (hn:1≤n∧n≤1048576) (hl:p.length≤20) (hp : ∀ i ∈ p,0≤i∧i < n) (k:Nat) (hk:100 < k):impl_areOf.f k p n 20=some true:=by
  unfold impl_areOf.f slices_ContainsFunc_int_int_impl_areOf_lit1.f slices_IndexFunc_int_int_impl_areOf_lit1.f
  have:=aidx_l0 p n hn (by omega) hp p.length k 0 (by omega) (by omega) (by omega)
  rw[show((0:Nat):Int)=0 from rfl] at this
  rw[if_pos (by omega),this]
  rfl
theorem isrow_l0 (l:List S104) (p:List Int) (hl:p.length≤1000) (hp : ∀ i ∈ p,0≤i∧i < (l.length:Int)) (m:Int) (d:Nat) : ∀ (k i:Nat),p.length - (i+1)=d→i+1≤p.length→Chn l (rd_T104 l (rd p (i:Int))).f1 (p.drop (i+1)) m→d < k→impl_isRow.l0 k l p ((i+1:Nat):Int)=some true:=by
  induction d with
  | zero =>
    intro k i hd hi hc hk
    obtain⟨k,rfl⟩ : ∃ m,k=m+1:=⟨k - 1,by omega⟩
    rw[impl_isRow.l0,if_neg (by omega)]
  | succ d ih =>
    intro k i hd hi hc hk
    obtain⟨k,rfl⟩ : ∃ m,k=m+1:=⟨k - 1,by omega⟩
    have h1:=hp _ (rd_in p i (by omega))
    have h2:=hp _ (rd_in p (i+1) (by omega))
    have wm:wrap64 (((i+1:Nat):Int) - 1)=(i:Int):=by rw[wrap_in (by omega) (by omega)];omega
    rw[drop_rd p (i+1) (by omega)] at hc
    rw[impl_isRow.l0,if_pos (by omega),if_pos (by omega),if_pos h2.1,if_pos h2.2,wm,if_pos (by omega),if_pos (by omega),if_pos h1.1,if_pos h1.2,if_pos hc.2.1,wrap_succ (n:=p.length) (by omega) (by omega)]
    exact ih k (i+1) (by omega) (by omega) hc.2.2 (by omega)
theorem isrow_is (l:List S104) (p:List Int) (hl:p.length≤20) (n m:Int) (hc:Chn l n p m) (k:Nat) (hk:100 < k):impl_isRow.f k l p=some true:=by
  unfold impl_isRow.f
  by_cases c:p.length=0
  · obtain⟨k,rfl⟩ : ∃ m,k=m+1:=⟨k - 1,by omega⟩
    rw[impl_isRow.l0,if_neg (by omega)]
  · have d0:=drop_rd p 0 (by omega)
    rw[List.drop_zero] at d0
    have hc':=hc
    rw[d0] at hc'
    exact isrow_l0 l p (by omega) (chn_mem p n m hc) m (p.length - 1) k 0 (by omega) (by omega) hc'.2.2 (by omega)
theorem arr_l0 (l:List S104) (hg:GP l) (p:List Int) (hl:p.length≤1000) (hp : ∀ i ∈ p,0≤i∧i < (l.length:Int)) (u:Int) (d:Nat) : ∀ (k i:Nat) (a:Int),p.length - i=d→i≤p.length→0≤a→a≤2000→arr l a (p.drop i)=some u→d < k→impl_ArriveBy.l0 k l a p (p.length:Int) (i:Int)=some (u,true):=by
  induction d with
  | zero =>
    intro k i a hd hi h0 h1 ha hk
    obtain⟨k,rfl⟩ : ∃ m,k=m+1:=⟨k - 1,by omega⟩
    rw[List.drop_of_length_le (by omega),arr] at ha
    injection ha with ha
    rw[impl_ArriveBy.l0,if_neg (by omega),ha]
  | succ d ih =>
    intro k i a hd hi h0 h1 ha hk
    obtain⟨k,rfl⟩ : ∃ m,k=m+1:=⟨k - 1,by omega⟩
    have hm:=hp _ (rd_in p i (by omega))
    rw[drop_rd p i (by omega),arr] at ha
    by_cases c:(rd_T104 l (rd p (i:Int))).f3≤a
    · rw[if_pos c] at ha
      cases ha
    · rw[if_neg c] at ha
      have gc:=gc_of hg hm
      have ge:=over_ge _ gc a h0 c
      rw[impl_ArriveBy.l0,if_pos (by omega),if_pos (by omega),if_pos (by omega),if_pos hm.1,if_pos hm.2,iby_is _ gc a h0 h1,Option.bind_some]
      dsimp only
      rw[decide_eq_true (by omega),if_pos rfl,wrap_succ (n:=p.length) (by omega) (by omega)]
      exact ih k (i+1) _ (by omega) (by omega) (by omega) (by omega) ha (by omega)
theorem arrive_is (l:List S104) (hg:GP l) (src at' m u:Int) (hs:0≤src∧src < 8) (ha:0≤at'∧at'≤1000) (p:List Int) (hl:p.length≤20) (hc:Chn l src p m) (hu:arr l at' p=some u) (k:Nat) (hk:1048600 < k):impl_ArriveBy.f k l src at' p=some (u,true):=by
  have h20:=hg.2
  have hp:=chn_mem p src m hc
  have a0:=arr_l0 l hg p (by omega) hp u p.length (k - 2) 0 at' (by omega) (by omega) ha.1 (by omega) hu (by omega)
  rw[show((0:Nat):Int)=0 from rfl] at a0
  unfold impl_ArriveBy.f
  obtain⟨k,rfl⟩ : ∃ m,k=m+2:=⟨k - 2,by omega⟩
  rw[show k+2 - 2=k by omega] at a0
  have a1:impl_ArriveBy.l0 (k+1) l at' p (p.length:Int) 0=some (u,true):=by
    have:=arr_l0 l hg p (by omega) hp u p.length (k+1) 0 at' (by omega) (by omega) ha.1 (by omega) hu (by omega)
    exact this
  have j:impl_ArriveBy.j0 (k+2) l at' p false=some (u,true):=by
    rw[impl_ArriveBy.j0,if_neg Bool.false_ne_true]
    exact a1
  rw[iplan_is l (by omega) _ (by omega),decide_eq_true hg,Option.bind_some,if_pos rfl,inode_is,decide_eq_true hs,Option.bind_some,if_pos rfl,iwhen_is,decide_eq_true ha,Option.bind_some,if_pos rfl]
  by_cases c:p.length=0
  · have e:p=[]:=List.eq_nil_of_length_eq_zero c
    have ar:impl_areOf.f (k+2) p (l.length:Int) 20=some true:=by
      subst e
      unfold impl_areOf.f slices_ContainsFunc_int_int_impl_areOf_lit1.f slices_IndexFunc_int_int_impl_areOf_lit1.f
      rw[if_pos (by simp),slices_IndexFunc_int_int_impl_areOf_lit1.l0,if_neg (by simp)]
      rfl
    rw[ar,Option.bind_some,if_pos rfl,isrow_is l p hl src m hc _ (by omega),Option.bind_some,if_pos rfl,if_neg (by omega)]
    exact j
  · have d0:=drop_rd p 0 (by omega)
    rw[List.drop_zero] at d0
    have h0:=hp _ (rd_in p 0 (by omega))
    have hc':=hc
    rw[d0] at hc'
    have hd:(rd_T104 l (rd p 0)).f0=src:=hc'.2.1
    have q0:0≤rd p 0:=h0.1
    have q1:rd p 0 < (l.length:Int):=h0.2
    rw[areof_is p (l.length:Int) (by omega) hl hp _ (by omega),Option.bind_some,if_pos rfl,isrow_is l p hl src m hc _ (by omega),Option.bind_some,if_pos rfl,if_pos (by omega),if_pos (by omega),if_pos q0,if_pos q1,show((rd_T104 l (rd p 0)).f0 != src)=false by rw[hd];simp]
    exact j

theorem wf_u8 {x:Int} (h:(Lit.int .u8 x).wf=true):0≤x∧x≤255:=by
  simp[Lit.wf,IntKind.min,IntKind.max,IntKind.signed,IntKind.bits] at h
  omega
theorem wf_i64 {x:Int} (h:(Lit.int .i64 x).wf=true) : -9223372036854775808≤x∧x≤9223372036854775807:=by
  simp[Lit.wf,IntKind.min,IntKind.max,IntKind.signed,IntKind.bits] at h
  omega
theorem rd_mem (l:List Int) (i:Int) (h0:0≤i) (h1:i < (l.length:Int)):rd l i ∈ l:=by
  unfold rd
  have h:i.toNat < l.length:=by omega
  rw[List.getD_eq_getElem?_getD,List.getElem?_eq_getElem h]
  exact List.getElem_mem h
theorem wrap_u64 (n:Int):IntKind.u64.wrap n=n % 18446744073709551616:=by simp[IntKind.wrap,IntKind.bits,IntKind.signed]
theorem and255 (x:Int) (h0:0≤x) (h1:x < 18446744073709551616):Go.bits .and .u64 x 255=x % 256 :=
  bits_mask .u64 64 (by decide) (fun n a b=>by rw[wrap_u64];omega) 8 (by decide) x h0 h1
theorem next_ok (l:List Int) (hl : ∀ x ∈ l,(Lit.int .u8 x).wf=true) (at_ u:Int) (h0:0≤at_) (h1:at_≤4611686018427387904) :
    ∃ r u',spec_l1Cur_next.f l at_ u=some (r,at_+1,u')∧0≤r∧r≤255:=by
  unfold spec_l1Cur_next.f
  have ew:wrap64 (at_+1)=at_+1:=wrap_in (by omega) (by omega)
  have hb : ∀ X:Int,0≤wrap64 (Go.bits .and .u64 ((IntKind.u64.wrap X) / 1099511627776) 255)∧wrap64 (Go.bits .and .u64 ((IntKind.u64.wrap X) / 1099511627776) 255)≤255:=fun X=>by
    rw[and255 _ (by rw[wrap_u64];omega) (by rw[wrap_u64];omega),wrap_in (by omega) (by omega)]
    omega
  by_cases c1:at_ < (l.length:Int)
  · have hr:=wf_u8 (hl _ (rd_mem l at_ h0 c1))
    rw[if_pos c1,if_pos h0,ew]
    by_cases c2:at_+1≤(l.length:Int)
    · rw[if_pos c2]
      exact⟨_,_,rfl,by rw[wrap_in (by omega) (by omega)];omega,by rw[wrap_in (by omega) (by omega)];omega⟩
    · rw[if_neg c2]
      exact⟨_,_,rfl,(hb _).1,(hb _).2⟩
  · rw[if_neg c1,ew]
    by_cases c2:at_+1≤(l.length:Int)
    · rw[if_pos c2]
      exact⟨_,_,rfl,by omega,by omega⟩
    · rw[if_neg c2]
      exact⟨_,_,rfl,(hb _).1,(hb _).2⟩
theorem pick_ok (l:List Int) (hl : ∀ x ∈ l,(Lit.int .u8 x).wf=true) (at_ u n:Int) (h0:0≤at_) (h1:at_≤2305843009213693952) :
    ∃ r at' u',spec_l1Cur_pick.f l at_ u n=some (r,at',u')∧0≤r∧(r < n∨r=0)∧r≤65535∧at_≤at'∧at'≤at_+2:=by
  unfold spec_l1Cur_pick.f
  by_cases c1:n≤1
  · rw[if_pos c1]
    exact⟨_,_,_,rfl,by omega,by omega,by omega,by omega,by omega⟩
  · rw[if_neg c1]
    obtain⟨r,u',e1,r0,r1⟩:=next_ok l hl at_ u h0 (by omega)
    rw[e1]
    simp only[Option.bind_some]
    have tm : ∀ x:Int,0≤x→x≤65535→0≤Int.tmod x n∧Int.tmod x n < n∧Int.tmod x n≤65535:=fun x hx hx2=>by
      rw[Int.tmod_eq_emod_of_nonneg hx]
      have a:=Int.emod_nonneg x (show n≠0 by omega)
      have b:=Int.emod_lt_of_pos x (show 0 < n by omega)
      have c:x % n≤x:=by
        by_cases hxn:x < n
        · rw[Int.emod_eq_of_lt hx hxn];exact Int.le_refl _
        · omega
      omega
    by_cases c2:n > 200
    · rw[if_pos c2]
      obtain⟨r2,u2,e2,s0,s1⟩:=next_ok l hl (at_+1) u' (by omega) (by omega)
      rw[e2]
      simp only[Option.bind_some]
      rw[if_neg (show ¬ n=0 by omega)]
      have ew:wrap64 ((wrap64 (r * 256))+r2)=r * 256+r2:=by rw[wrap_in (x:=r * 256) (by omega) (by omega),wrap_in (by omega) (by omega)]
      rw[ew]
      have:=tm (r * 256+r2) (by omega) (by omega)
      exact⟨_,_,_,rfl,by omega,by omega,by omega,by omega,by omega⟩
    · rw[if_neg c2,if_neg (show ¬ n=0 by omega)]
      have:=tm r (by omega) (by omega)
      exact⟨_,_,_,rfl,by omega,by omega,by omega,by omega,by omega⟩
theorem one_ok (l:List Int) (hl : ∀ x ∈ l,(Lit.int .u8 x).wf=true) (at_ u n:Int) (h0:0≤at_) (h1:at_≤2305843009213693952) :
    ∃ b at' u',spec_l1Cur_one.f l at_ u n=some (b,at',u')∧at_≤at'∧at'≤at_+2:=by
  obtain⟨r,a,u',e,_,_,_,g1,g2⟩:=pick_ok l hl at_ u n h0 h1
  unfold spec_l1Cur_one.f
  rw[e]
  exact⟨_,_,_,rfl,g1,g2⟩
theorem among_ok (l:List Int) (hl : ∀ x ∈ l,(Lit.int .u8 x).wf=true) (at_ u:Int) (c:List Int) (hc:0 < c.length) (h0:0≤at_) (h1:at_≤2305843009213693952) :
    ∃ r at' u',spec_l1Cur_among.f l at_ u c=some (r,at',u')∧r ∈ c∧at_≤at'∧at'≤at_+2:=by
  obtain⟨r,a,u',e,r0,r1,_,g1,g2⟩:=pick_ok l hl at_ u (c.length:Int) h0 h1
  unfold spec_l1Cur_among.f
  rw[e]
  simp only[Option.bind_some]
  rw[if_pos r0,if_pos (by omega)]
  exact⟨_,_,_,rfl,rd_mem c r r0 (by omega),g1,g2⟩

theorem of_ok (l:List Int) (hl : ∀ x ∈ l,(Lit.int .u8 x).wf=true) (at_ u:Int) (c:List ByteArray) (hc:0 < c.length) (h0:0≤at_) (h1:at_≤2305843009213693952) :
    ∃ r at' u',spec_l1Cur_of.f l at_ u c=some (r,at',u')∧at_≤at'∧at'≤at_+2:=by
  obtain⟨r,a,u',e,r0,r1,_,g1,g2⟩:=pick_ok l hl at_ u (c.length:Int) h0 h1
  unfold spec_l1Cur_of.f
  rw[e]
  simp only[Option.bind_some]
  rw[if_pos r0,if_pos (by omega)]
  exact⟨_,_,_,rfl,g1,g2⟩
theorem bundle_j1 (l:List Int) (hl : ∀ x ∈ l,(Lit.int .u8 x).wf=true) (k:Nat) (hk:1≤k) (at_ u:Int) (h0:0≤at_) (h1:at_≤1000000000) (a0 a1:Int) (b:Bool) (a3 a4 a5 a6 a7 a8:Int) (s:ByteArray) :
    ∃ c0 c1 d c3 c4 c5 c6 c7 c8 t at' u',spec_l1Cur_bundle.j1 k l at_ u a0 a1 b a3 a4 a5 a6 a7 a8 s=some (c0,c1,d,c3,c4,c5,c6,c7,c8,t,at',u')∧at_≤at'∧at'≤at_+4:=by
  obtain⟨k,rfl⟩ : ∃ m,k=m+1:=⟨k - 1,by omega⟩
  rw[spec_l1Cur_bundle.j1]
  obtain⟨r,p,v,e,_,_,_,g1,g2⟩:=pick_ok l hl at_ u 30 h0 (by omega)
  rw[e,Option.bind_some]
  dsimp only
  by_cases c1:r=0
  · rw[if_pos c1]
    obtain⟨r2,p2,v2,e2,_,g3,g4⟩:=among_ok l hl p v [0,1000000,1000001] (by decide) (by omega) (by omega)
    rw[e2]
    exact⟨_,_,_,_,_,_,_,_,_,_,_,_,rfl,by dsimp only;omega,by dsimp only;omega⟩
  · rw[if_neg c1]
    by_cases c2:r=1
    · rw[if_pos c2]
      obtain⟨r2,p2,v2,e2,_,g3,g4⟩:=among_ok l hl p v [-1,30,31] (by decide) (by omega) (by omega)
      rw[e2]
      exact⟨_,_,_,_,_,_,_,_,_,_,_,_,rfl,by dsimp only;omega,by dsimp only;omega⟩
    · rw[if_neg c2]
      by_cases c3:r=2
      · rw[if_pos c3]
        obtain⟨r2,p2,v2,e2,_,_,_,g3,g4⟩:=pick_ok l hl p v 70 (by omega) (by omega)
        rw[e2]
        exact⟨_,_,_,_,_,_,_,_,_,_,_,_,rfl,by dsimp only;omega,by dsimp only;omega⟩
      · rw[if_neg c3]
        exact⟨_,_,_,_,_,_,_,_,_,_,_,_,rfl,by omega,by omega⟩
theorem bundle_j0 (l:List Int) (hl : ∀ x ∈ l,(Lit.int .u8 x).wf=true) (k:Nat) (hk:2≤k) (x:Bool) (at_ u:Int) (h0:0≤at_) (h1:at_≤1000000000 - 10) (a0 a1:Int) (b:Bool) (a3 a4 a5 a6 a7 a8:Int) (s:ByteArray) :
    ∃ c0 c1 d c3 c4 c5 c6 c7 c8 t at' u',spec_l1Cur_bundle.j0 k x l at_ u a0 a1 b a3 a4 a5 a6 a7 a8 s=some (c0,c1,d,c3,c4,c5,c6,c7,c8,t,at',u')∧at_≤at'∧at'≤at_+8:=by
  obtain⟨k,rfl⟩ : ∃ m,k=m+1:=⟨k - 1,by omega⟩
  rw[spec_l1Cur_bundle.j0]
  cases x with
  | true =>
    rw[if_pos rfl]
    obtain⟨r,p,v,e,_,_,_,g1,g2⟩:=pick_ok l hl at_ u 31 h0 (by omega)
    rw[e,Option.bind_some]
    dsimp only
    obtain⟨r2,p2,v2,e2,_,_,_,g3,g4⟩:=pick_ok l hl p v 4 (by omega) (by omega)
    rw[e2,Option.bind_some]
    dsimp only
    obtain⟨c0,c1,d,c3,c4,c5,c6,c7,c8,t,p3,v3,e3,g5,g6⟩:=bundle_j1 l hl k (by omega) p2 v2 (by omega) (by omega) a0 a1 b a3 a4 a5 a6 r2 (wrap64 (30+r)) s
    exact⟨_,_,_,_,_,_,_,_,_,_,_,_,e3,by omega,by omega⟩
  | false =>
    rw[if_neg Bool.false_ne_true]
    obtain⟨c0,c1,d,c3,c4,c5,c6,c7,c8,t,p3,v3,e3,g5,g6⟩:=bundle_j1 l hl k (by omega) at_ u h0 (by omega) a0 a1 b a3 a4 a5 a6 a7 a8 s
    exact⟨_,_,_,_,_,_,_,_,_,_,_,_,e3,by omega,by omega⟩
theorem bundle_ok (l:List Int) (hl : ∀ x ∈ l,(Lit.int .u8 x).wf=true) (k:Nat) (hk:2≤k) (at_ u:Int) (h0:0≤at_) (h1:at_≤1000000000 - 100) :
    ∃ c0 c1 d c3 c4 c5 c6 c7 c8 t at' u',spec_l1Cur_bundle.f k l at_ u=some (c0,c1,d,c3,c4,c5,c6,c7,c8,t,at',u')∧at_≤at'∧at'≤at_+40:=by
  unfold spec_l1Cur_bundle.f
  obtain⟨x1,p1,v1,e1,_,_,_,g1,f1⟩:=pick_ok l hl at_ u 5 h0 (by omega)
  rw[e1,Option.bind_some]
  dsimp only
  obtain⟨x2,p2,v2,e2,_,_,_,g2,f2⟩:=pick_ok l hl p1 v1 5 (by omega) (by omega)
  rw[e2,Option.bind_some]
  dsimp only
  obtain⟨x3,p3,v3,e3,g3,f3⟩:=one_ok l hl p2 v2 3 (by omega) (by omega)
  rw[e3,Option.bind_some]
  dsimp only
  obtain⟨x4,p4,v4,e4,_,_,_,g4,f4⟩:=pick_ok l hl p3 v3 50 (by omega) (by omega)
  rw[e4,Option.bind_some]
  dsimp only
  obtain⟨x5,p5,v5,e5,_,_,_,g5,f5⟩:=pick_ok l hl p4 v4 4 (by omega) (by omega)
  rw[e5,Option.bind_some]
  dsimp only
  obtain⟨x6,p6,v6,e6,_,_,_,g6,f6⟩:=pick_ok l hl p5 v5 90 (by omega) (by omega)
  rw[e6,Option.bind_some]
  dsimp only
  obtain⟨x7,p7,v7,e7,_,_,_,g7,f7⟩:=pick_ok l hl p6 v6 6 (by omega) (by omega)
  rw[e7,Option.bind_some]
  dsimp only
  obtain⟨x8,p8,v8,e8,g8,f8⟩:=of_ok l hl p7 v7 [(⟨#[]⟩:ByteArray),(⟨#[104,101,108,108,111]⟩:ByteArray),(⟨#[97,32,108,111,110,103,101,114,32,116,101,120,116,32,111,102,32,115,111,109,101,32,98,121,116,101,115]⟩:ByteArray),(⟨#[0,255]⟩:ByteArray)] (by decide) (by omega) (by omega)
  rw[e8,Option.bind_some]
  dsimp only
  by_cases c:x8.toList=([]:List UInt8)
  · rw[if_pos c]
    obtain⟨c0,c1,d,c3,c4,c5,c6,c7,c8,t,p9,v9,e9,g9,f9⟩:=bundle_j0 l hl k hk false p8 v8 (by omega) (by omega) x1 x2 x3 x4 x5 (wrap64 (1+x6)) x7 0 0 x8
    exact⟨_,_,_,_,_,_,_,_,_,_,_,_,e9,by omega,by omega⟩
  · rw[if_neg c]
    obtain⟨x10,p10,v10,e10,g10,f10⟩:=one_ok l hl p8 v8 4 (by omega) (by omega)
    rw[e10,Option.bind_some]
    dsimp only
    obtain⟨c0,c1,d,c3,c4,c5,c6,c7,c8,t,p9,v9,e9,g9,f9⟩:=bundle_j0 l hl k hk x10 p10 v10 (by omega) (by omega) x1 x2 x3 x4 x5 (wrap64 (1+x6)) x7 0 0 x8
    exact⟨_,_,_,_,_,_,_,_,_,_,_,_,e9,by omega,by omega⟩
theorem whole_ok (l:List Int) (hl : ∀ x ∈ l,(Lit.int .u8 x).wf=true) (k:Nat) (hk:2≤k) (at_ u:Int) (h0:0≤at_) (h1:at_≤1000000000 - 200) :
    ∃ c0 c1 d c3 c4 c5 c6 c7 c8 t at' u',spec_l1Cur_wholeBundle.f k l at_ u=some (c0,c1,d,c3,c4,c5,c6,c7,c8,t,at',u')∧at_≤at'∧at'≤at_+50:=by
  unfold spec_l1Cur_wholeBundle.f
  obtain⟨c0,c1,d,c3,c4,c5,c6,c7,c8,t,p1,v1,e1,g1,f1⟩:=bundle_ok l hl k hk at_ u h0 (by omega)
  rw[e1,Option.bind_some]
  dsimp only
  obtain⟨x2,p2,v2,e2,g2,f2⟩:=of_ok l hl p1 v1 [(⟨#[104,101,108,108,111]⟩:ByteArray),(⟨#[97,32,108,111,110,103,101,114,32,116,101,120,116,32,111,102,32,115,111,109,101,32,98,121,116,101,115]⟩:ByteArray),(⟨#[120]⟩:ByteArray),(⟨#[48,49,50,51,52,53,54,55,56,57]⟩:ByteArray)] (by decide) (by omega) (by omega)
  rw[e2,Option.bind_some]
  dsimp only
  obtain⟨x3,p3,v3,e3,g3,f3⟩:=one_ok l hl p2 v2 30 (by omega) (by omega)
  rw[e3,Option.bind_some]
  dsimp only
  cases x3 with
  | true =>
    rw[if_pos rfl]
    obtain⟨x4,p4,v4,e4,q1,q2,_,g4,f4⟩:=pick_ok l hl p3 v3 2 (by omega) (by omega)
    rw[e4,Option.bind_some]
    dsimp only
    have w:wrap64 (60+x4)=60+x4:=wrap_in (by omega) (by omega)
    rw[w,if_pos (by omega),if_pos (by omega)]
    exact⟨_,_,_,_,_,_,_,_,_,_,_,_,rfl,by omega,by omega⟩
  | false =>
    rw[if_neg Bool.false_ne_true]
    exact⟨_,_,_,_,_,_,_,_,_,_,_,_,rfl,by omega,by omega⟩
theorem plan_l0 (l:List Int) (hl : ∀ x ∈ l,(Lit.int .u8 x).wf=true) (d:Nat) : ∀ (k:Nat) (y:List S104) (at_ u:Int),d < k→y.length+d≤100→0≤at_→at_+10 * d≤1000000000 →
    ∃ y' at' u',spec_l1Cur_plan.l0 k y (d:Int) l at_ u=some (y',at',u')∧y'.length≤100∧at_≤at'∧at'≤at_+10 * d+4:=by
  induction d with
  | zero =>
    intro k y at_ u hk hy h0 h1
    obtain⟨k,rfl⟩ : ∃ m,k=m+1:=⟨k - 1,by omega⟩
    rw[spec_l1Cur_plan.l0,if_neg (by omega)]
    by_cases c:(y.length:Int) > 0
    · rw[if_pos c]
      obtain⟨x1,p1,v1,e1,g1,f1⟩:=one_ok l hl at_ u 30 h0 (by omega)
      rw[e1,Option.bind_some]
      dsimp only
      cases x1 with
      | true =>
        rw[if_pos rfl]
        obtain⟨x2,p2,v2,e2,_,g2,f2⟩:=among_ok l hl p1 v1 [0,1000,1001] (by decide) (by omega) (by omega)
        rw[e2,Option.bind_some]
        dsimp only
        rw[if_pos (by omega)]
        exact⟨_,_,_,rfl,by rw[List.length_set];omega,by omega,by omega⟩
      | false =>
        rw[if_neg Bool.false_ne_true]
        exact⟨_,_,_,rfl,by omega,by omega,by omega⟩
    · rw[if_neg c]
      exact⟨_,_,_,rfl,by omega,by omega,by omega⟩
  | succ d ih =>
    intro k y at_ u hk hy h0 h1
    obtain⟨k,rfl⟩ : ∃ m,k=m+1:=⟨k - 1,by omega⟩
    rw[spec_l1Cur_plan.l0,if_pos (by omega)]
    obtain⟨x1,p1,v1,e1,_,_,_,g1,f1⟩:=pick_ok l hl at_ u 5 h0 (by omega)
    rw[e1,Option.bind_some]
    dsimp only
    obtain⟨x2,p2,v2,e2,_,_,_,g2,f2⟩:=pick_ok l hl p1 v1 5 (by omega) (by omega)
    rw[e2,Option.bind_some]
    dsimp only
    obtain⟨x3,p3,v3,e3,_,_,_,g3,f3⟩:=pick_ok l hl p2 v2 40 (by omega) (by omega)
    rw[e3,Option.bind_some]
    dsimp only
    obtain⟨x4,p4,v4,e4,_,_,_,g4,f4⟩:=pick_ok l hl p3 v3 6 (by omega) (by omega)
    rw[e4,Option.bind_some]
    dsimp only
    obtain⟨x5,p5,v5,e5,_,_,_,g5,f5⟩:=pick_ok l hl p4 v4 30 (by omega) (by omega)
    rw[e5,Option.bind_some]
    dsimp only
    have w:wrap64 (((d+1:Nat):Int) - 1)=(d:Int):=by rw[wrap_in (by omega) (by omega)];omega
    have go : ∀ z:S104,∃ y' at' u',spec_l1Cur_plan.l0 k (y++[z]) (d:Int) l p5 v5=some (y',at',u')∧y'.length≤100∧at_≤at'∧at'≤at_+10 * ((d+1:Nat):Int)+4:=fun z=>by
      obtain⟨y',at',u',e6,a1,a2,a3⟩:=ih k (y++[z]) p5 v5 (by omega) (by rw[List.length_append,List.length_singleton];omega) (by omega) (by omega)
      exact⟨y',at',u',e6,a1,by omega,by omega⟩
    rw[w]
    by_cases c:x1=x2
    · rw[if_pos c,if_pos (by omega)]
      exact go _
    · rw[if_neg c,if_pos (by omega)]
      exact go _
theorem plan_ok (l:List Int) (hl : ∀ x ∈ l,(Lit.int .u8 x).wf=true) (k:Nat) (hk:100 < k) (at_ u:Int) (h0:0≤at_) (h1:at_≤1000000000 - 1000) :
    ∃ y at' u',spec_l1Cur_plan.f k l at_ u=some (y,at',u')∧y.length≤100∧at_≤at'∧at'≤at_+500:=by
  unfold spec_l1Cur_plan.f
  obtain⟨k,rfl⟩ : ∃ m,k=m+1:=⟨k - 1,by omega⟩
  obtain⟨x1,p1,v1,e1,q1,q2,_,g1,f1⟩:=pick_ok l hl at_ u 10 h0 (by omega)
  rw[e1,Option.bind_some]
  dsimp only
  obtain⟨x2,p2,v2,e2,g2,f2⟩:=one_ok l hl p1 v1 20 (by omega) (by omega)
  rw[e2,Option.bind_some]
  dsimp only
  cases x2 with
  | true =>
    rw[if_pos rfl]
    obtain⟨x3,p3,v3,e3,q3,q4,_,g3,f3⟩:=pick_ok l hl p2 v2 2 (by omega) (by omega)
    rw[e3,Option.bind_some]
    dsimp only
    obtain⟨y,at',u',e4,a1,a2,a3⟩:=plan_l0 l hl (20+x3.toNat) k [] p3 v3 (by omega) (by simp;omega) (by omega) (by omega)
    rw[show wrap64 (20+x3)=((20+x3.toNat:Nat):Int) by rw[wrap_in (by omega) (by omega)];omega,spec_l1Cur_plan.j0,e4]
    exact⟨_,_,_,rfl,a1,by omega,by omega⟩
  | false =>
    rw[if_neg Bool.false_ne_true]
    obtain⟨y,at',u',e4,a1,a2,a3⟩:=plan_l0 l hl x1.toNat k [] p2 v2 (by omega) (by simp;omega) (by omega) (by omega)
    rw[show x1=((x1.toNat:Nat):Int) by omega,spec_l1Cur_plan.j0,e4]
    exact⟨_,_,_,rfl,a1,by omega,by omega⟩

theorem planned_ok (l:List Int) (hl : ∀ x ∈ l,(Lit.int .u8 x).wf=true) (k:Nat) (hk:200 < k) (at_ u:Int) (h0:0≤at_) (h1:at_≤1000000) :
    ∃ y c0 c1 d c3 c4 c5 c6 c7 c8 t at' u',spec_l1Cur_planned.f k l at_ u=some (y,c0,c1,d,c3,c4,c5,c6,c7,c8,t,at',u')∧y.length≤100∧at_≤at'∧at'≤at_+1000:=by
  unfold spec_l1Cur_planned.f
  obtain⟨c0,c1,d,c3,c4,c5,c6,c7,c8,t,p1,v1,e1,g1,f1⟩:=whole_ok l hl k (by omega) at_ u h0 (by omega)
  rw[e1,Option.bind_some]
  dsimp only
  obtain⟨x2,p2,v2,e2,_,_,_,g2,f2⟩:=pick_ok l hl p1 v1 20 (by omega) (by omega)
  rw[e2,Option.bind_some]
  dsimp only
  obtain⟨x3,p3,v3,e3,_,_,_,g3,f3⟩:=pick_ok l hl p2 v2 8 (by omega) (by omega)
  rw[e3,Option.bind_some]
  dsimp only
  obtain⟨x4,p4,v4,e4,g4,f4⟩:=one_ok l hl p3 v3 20 (by omega) (by omega)
  rw[e4,Option.bind_some]
  dsimp only
  cases x4 with
  | true =>
    rw[if_pos rfl]
    obtain⟨b0,b1,b2,b3,b4,b5,b6,b7,b8,b9,p5,v5,e5,g5,f5⟩:=bundle_ok l hl k (by omega) p4 v4 (by omega) (by omega)
    rw[e5,Option.bind_some]
    dsimp only
    obtain⟨y,p6,v6,e6,hy,g6,f6⟩:=plan_ok l hl k (by omega) p5 v5 (by omega) (by omega)
    rw[e6]
    exact⟨_,_,_,_,_,_,_,_,_,_,_,_,_,rfl,hy,by dsimp only;omega,by dsimp only;omega⟩
  | false =>
    rw[if_neg Bool.false_ne_true]
    obtain⟨y,p6,v6,e6,hy,g6,f6⟩:=plan_ok l hl k (by omega) p4 v4 (by omega) (by omega)
    rw[e6]
    exact⟨_,_,_,_,_,_,_,_,_,_,_,_,_,rfl,hy,by dsimp only;omega,by dsimp only;omega⟩
theorem drawfp_ok (l:List Int) (hl : ∀ x ∈ l,(Lit.int .u8 x).wf=true) (k:Nat) (hk:200 < k) :
    ∃ y c0 c1 d c3 c4 c5 c6 c7 c8 t to',spec_DrawFollowPlan.f k l=some (y,c0,c1,d,c3,c4,c5,c6,c7,c8,t,to')∧y.length≤100:=by
  unfold spec_DrawFollowPlan.f
  obtain⟨y,c0,c1,d,c3,c4,c5,c6,c7,c8,t,p1,v1,e1,hy,g1,f1⟩:=planned_ok l hl k hk 0 0 (by omega) (by omega)
  rw[e1,Option.bind_some]
  dsimp only
  obtain⟨x2,p2,v2,e2,_,_,_,g2,f2⟩:=pick_ok l hl p1 v1 6 (by omega) (by omega)
  rw[e2]
  exact⟨_,_,_,_,_,_,_,_,_,_,_,_,rfl,hy⟩
theorem when_ok (l:List Int) (hl : ∀ x ∈ l,(Lit.int .u8 x).wf=true) (at_ u:Int) (h0:0≤at_) (h1:at_≤1000000000) :
    ∃ r at' u',spec_l1Cur_whenTo.f l at_ u=some (r,at',u')∧at_≤at'∧at'≤at_+4:=by
  unfold spec_l1Cur_whenTo.f
  obtain⟨x1,p1,v1,e1,g1,f1⟩:=one_ok l hl at_ u 20 h0 (by omega)
  rw[e1,Option.bind_some]
  dsimp only
  cases x1 with
  | true =>
    rw[if_pos rfl]
    obtain⟨x2,p2,v2,e2,_,g2,f2⟩:=among_ok l hl p1 v1 [-1,1000,1001] (by decide) (by omega) (by omega)
    rw[e2]
    exact⟨_,_,_,rfl,by dsimp only;omega,by dsimp only;omega⟩
  | false =>
    rw[if_neg Bool.false_ne_true]
    obtain⟨x2,p2,v2,e2,_,_,_,g2,f2⟩:=pick_ok l hl p1 v1 50 (by omega) (by omega)
    rw[e2]
    exact⟨_,_,_,rfl,by dsimp only;omega,by dsimp only;omega⟩
theorem drawfs_ok (l:List Int) (hl : ∀ x ∈ l,(Lit.int .u8 x).wf=true) (k:Nat) (hk:200 < k) :
    ∃ y c0 c1 d c3 c4 c5 c6 c7 c8 t n a to',spec_DrawForwardStep.f k l=some (y,c0,c1,d,c3,c4,c5,c6,c7,c8,t,n,a,to')∧y.length≤100:=by
  unfold spec_DrawForwardStep.f
  obtain⟨y,c0,c1,d,c3,c4,c5,c6,c7,c8,t,p1,v1,e1,hy,g1,f1⟩:=planned_ok l hl k hk 0 0 (by omega) (by omega)
  rw[e1,Option.bind_some]
  dsimp only
  obtain⟨x2,p2,v2,e2,_,_,_,g2,f2⟩:=pick_ok l hl p1 v1 6 (by omega) (by omega)
  rw[e2,Option.bind_some]
  dsimp only
  obtain⟨x3,p3,v3,e3,g3,f3⟩:=when_ok l hl p2 v2 (by omega) (by omega)
  rw[e3,Option.bind_some]
  dsimp only
  obtain⟨x4,p4,v4,e4,_,_,_,g4,f4⟩:=pick_ok l hl p3 v3 6 (by omega) (by omega)
  rw[e4]
  exact⟨_,_,_,_,_,_,_,_,_,_,_,_,_,_,rfl,hy⟩
theorem sameInts_l0 (a:List Int) (hn:a.length≤1048576) (d:Nat) : ∀ (k i:Nat),a.length - i=d→d < k→laws_sameInts.l0 k a a (a.length:Int) (i:Int)=some true:=by
  induction d with
  | zero =>
    intro k i hd hk
    obtain⟨k,rfl⟩ : ∃ m,k=m+1:=⟨k - 1,by omega⟩
    rw[laws_sameInts.l0,if_neg (by omega)]
  | succ d ih =>
    intro k i hd hk
    obtain⟨k,rfl⟩ : ∃ m,k=m+1:=⟨k - 1,by omega⟩
    rw[laws_sameInts.l0,if_pos (by omega),if_pos (by omega),if_pos (by omega),if_pos (by omega),if_pos rfl,wrap_succ (n:=a.length) (by omega) (by omega)]
    exact ih k (i+1) (by omega) (by omega)
theorem sameInts_is (a:List Int) (hn:a.length≤1048576) (k:Nat) (hk:a.length < k):laws_sameInts.f k a a=some true:=by
  unfold laws_sameInts.f
  rw[if_pos rfl]
  exact sameInts_l0 a hn a.length k 0 (by omega) hk
theorem second_ok (l:List Int) (hl : ∀ x ∈ l,(Lit.int .u8 x).wf=true) (k:Nat) (hk:1049000 < k):laws_FnFollow.j1 k l=some true:=by
  obtain⟨k,rfl⟩ : ∃ m,k=m+2:=⟨k - 2,by omega⟩
  rw[laws_FnFollow.j1]
  obtain⟨y,c0,c1,d,c3,c4,c5,c6,c7,c8,t,n,a,to',e1,hy⟩:=drawfs_ok l hl (k+1) (by omega)
  rw[e1,Option.bind_some]
  dsimp only
  obtain⟨R,hR,e2⟩:=step_is y (by omega) c0 c1 d c3 c4 c5 c6 c7 c8 t n a to'
  rw[(e2 _ (by omega)).2,Option.bind_some,(e2 _ (by omega)).1,Option.bind_some]
  have n1:(R.2.2 != R.2.2)=false:=by simp
  have n2:(R.2.1 != R.2.1)=false:=by simp
  rw[n1,if_neg Bool.false_ne_true,if_pos rfl,n2,laws_FnFollow.j2,if_neg Bool.false_ne_true]
  by_cases ok:R.2.2=true
  · obtain⟨_,⟨q,best,hw⟩,et,em⟩:=hR ok
    obtain⟨i0,i1,i2,i3⟩:=way_head hw _ _ rfl
    have ge:=over_ge _ (gc_of hw.1 ⟨i0,i1⟩) a hw.2.1 (by omega)
    rw[if_pos ok,if_pos i0,if_pos i1,if_pos i2,if_neg (by rw[et];omega),if_neg em]
  · rw[if_neg ok]
theorem FnFollow:laws_FnFollow.Stmt:=by
  intro l0 l1 ⟨h0,w0⟩ ⟨h1,w1⟩
  have h0':l0.length≤9223372036854775807:=Nat.le_trans h0 (by decide)
  have h1':l1.length≤9223372036854775807:=Nat.le_trans h1 (by decide)
  refine⟨2000000,?_⟩
  unfold laws_FnFollow.f
  by_cases c:wrap64 ((l0.length:Int)+(l1.length:Int)) > 1048576
  · rw[if_pos c]
  · rw[if_neg c]
    obtain⟨y,c0,c1,d,c3,c4,c5,c6,c7,c8,t,to',e1,hy⟩:=drawfp_ok l0 w0 2000000 (by omega)
    rw[e1,Option.bind_some]
    dsimp only
    obtain⟨R,⟨hR,hT⟩,e2⟩:=follow_is y (by omega) c0 c1 d c3 c4 c5 c6 c7 c8 t to'
    rw[(e2 _ (by omega)).2,Option.bind_some,(e2 _ (by omega)).1,Option.bind_some]
    have n1:(R.2.2 != R.2.2)=false:=by simp
    rw[n1,if_neg Bool.false_ne_true,if_pos rfl,sameInts_is R.1 (by omega) _ (by omega),Option.bind_some,laws_FnFollow.j0,if_neg (by decide)]
    by_cases ok:R.2.2=true
    · obtain⟨f,ht,hB,hD⟩:=hT ok
      obtain⟨B,hW,hC,e3⟩:=route_is y (by omega) c0 c3 to'
      have okB:=hC f.1 f.2.2.2.1 f.2.2.2.2 ht ⟨_,_,hB.1,hB.2.1⟩
      obtain⟨_,_,_,_,b1,b2,b3⟩:=hW okB
      have eq:B.2.1=R.2.1:=by
        have x1:=b3 _ _ hB.1 hB.2.1
        have x2:=hB.2.2 _ _ b1 b2
        omega
      rw[if_pos ok,(e3 _ (by omega)).2,Option.bind_some,arrive_is y f.1 c0 c3 to' R.2.1 f.2.2.2.1 f.2.2.2.2 R.1 hR hB.1 hB.2.1 _ (by omega),Option.bind_some,if_pos okB,if_pos eq]
      dsimp only
      rw[if_pos rfl,if_pos rfl]
      by_cases q:(R.1.length:Int) > 0
      · have nd : ¬ R.2.1 > wrap64 (c3+c5):=by
          rcases hD with h|h
          · rw[h] at q
            simp at q
          · exact h
        rw[if_pos q,if_neg nd]
        exact second_ok l1 w1 _ (by omega)
      · rw[if_neg q]
        exact second_ok l1 w1 _ (by omega)
    · rw[if_neg ok]
      exact second_ok l1 w1 _ (by omega)

end Go.Proofs.Yteneeohaoplpbaa.Pure
