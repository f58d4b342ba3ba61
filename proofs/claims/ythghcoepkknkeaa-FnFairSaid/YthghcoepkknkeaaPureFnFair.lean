/- Of two queues of the drawn turns that wait all the time neither sends more than the other by more than what it had left and a longest one. -/
import Derived.Test.YthghcoepkknkeaaXFnFairx12
set_option linter.unusedVariables false
set_option linter.unusedSimpArgs false
namespace Go.Proofs.Ythghcoepkknkeaa.Pure
open Go.RowKit Go.Proofs.Ythghcoepkknkeaa.XFnFair Go.Proofs.YthghcoepkknkeaaW.PrintWords Go.Proofs.YthghcoepkknkeaaW.PrintLast Go.Proofs.YthghcoepkknkeaaW.PrintMore

def laws_FnFair.Stmt:Prop:=∀ (l0:List Int),(l0.length≤maxLen ∧ ∀ x ∈ l0,(Lit.int .u8 x).wf=true) → ∃ k,laws_FnFair.f k l0=some true

theorem wrap_in {x:Int} (h0 : -9223372036854775808≤x) (h1:x≤9223372036854775807):wrap64 x=x:=by
  unfold wrap64
  omega
theorem wrap_succ {i n:Nat} (h:i < n) (hn:n≤9223372036854775807):wrap64 ((i:Int)+1)=((i+1:Nat):Int):=by
  rw[wrap_in (by omega) (by omega)]
  omega

theorem wf_u8 {x:Int} (h:(Lit.int .u8 x).wf=true):0≤x∧x≤255:=by
  simp[Lit.wf,IntKind.min,IntKind.max,IntKind.signed,IntKind.bits] at h
  omega
theorem wf_i64 {x:Int} (h:(Lit.int .i64 x).wf=true) : -9223372036854775808≤x∧x≤9223372036854775807:=by
  simp[Lit.wf,IntKind.min,IntKind.max,IntKind.signed,IntKind.bits] at h
  omega
theorem rd_mem (l:List Int) (i:Int) (h0:0≤i) (h1:i < (l.length:Int)):rd l i ∈ l:=by
  unfold rd
  have h:i.toNat < l.length:=by omega
  rw[List.getD_eq_getElem?_getD,List.getElem?_eq_getElem h]
  exact List.getElem_mem h
theorem wrap_u64 (n:Int):IntKind.u64.wrap n=n % 18446744073709551616:=by simp[IntKind.wrap,IntKind.bits,IntKind.signed]
theorem and255 (x:Int) (h0:0≤x) (h1:x < 18446744073709551616):Go.bits .and .u64 x 255=x % 256 :=
  bits_mask .u64 64 (by decide) (fun n a b=>by rw[wrap_u64];omega) 8 (by decide) x h0 h1
theorem next_ok (l:List Int) (hl : ∀ x ∈ l,(Lit.int .u8 x).wf=true) (at_ u:Int) (h0:0≤at_) (h1:at_≤4611686018427387904) :
    ∃ r u',spec_l1Cur_next.f l at_ u=some (r,at_+1,u')∧0≤r∧r≤255:=by
  unfold spec_l1Cur_next.f
  have ew:wrap64 (at_+1)=at_+1:=wrap_in (by omega) (by omega)
  have hb : ∀ X:Int,0≤wrap64 (Go.bits .and .u64 ((IntKind.u64.wrap X) / 1099511627776) 255)∧wrap64 (Go.bits .and .u64 ((IntKind.u64.wrap X) / 1099511627776) 255)≤255:=fun X=>by
    rw[and255 _ (by rw[wrap_u64];omega) (by rw[wrap_u64];omega),wrap_in (by omega) (by omega)]
    omega
  by_cases c1:at_ < (l.length:Int)
  · have hr:=wf_u8 (hl _ (rd_mem l at_ h0 c1))
    rw[if_pos c1,if_pos h0,ew]
    by_cases c2:at_+1≤(l.length:Int)
    · rw[if_pos c2]
      exact⟨_,_,rfl,by rw[wrap_in (by omega) (by omega)];omega,by rw[wrap_in (by omega) (by omega)];omega⟩
    · rw[if_neg c2]
      exact⟨_,_,rfl,(hb _).1,(hb _).2⟩
  · rw[if_neg c1,ew]
    by_cases c2:at_+1≤(l.length:Int)
    · rw[if_pos c2]
      exact⟨_,_,rfl,by omega,by omega⟩
    · rw[if_neg c2]
      exact⟨_,_,rfl,(hb _).1,(hb _).2⟩
theorem pick_ok (l:List Int) (hl : ∀ x ∈ l,(Lit.int .u8 x).wf=true) (at_ u n:Int) (h0:0≤at_) (h1:at_≤2305843009213693952) :
    ∃ r at' u',spec_l1Cur_pick.f l at_ u n=some (r,at',u')∧0≤r∧(r < n∨r=0)∧r≤65535∧at_≤at'∧at'≤at_+2:=by
  unfold spec_l1Cur_pick.f
  by_cases c1:n≤1
  · rw[if_pos c1]
    exact⟨_,_,_,rfl,by omega,by omega,by omega,by omega,by omega⟩
  · rw[if_neg c1]
    obtain⟨r,u',e1,r0,r1⟩:=next_ok l hl at_ u h0 (by omega)
    rw[e1]
    simp only[Option.bind_some]
    have tm : ∀ x:Int,0≤x→x≤65535→0≤Int.tmod x n∧Int.tmod x n < n∧Int.tmod x n≤65535:=fun x hx hx2=>by
      rw[Int.tmod_eq_emod_of_nonneg hx]
      have a:=Int.emod_nonneg x (show n≠0 by omega)
      have b:=Int.emod_lt_of_pos x (show 0 < n by omega)
      have c:x % n≤x:=by
        by_cases hxn:x < n
        · rw[Int.emod_eq_of_lt hx hxn];exact Int.le_refl _
        · omega
      omega
    by_cases c2:n > 200
    · rw[if_pos c2]
      obtain⟨r2,u2,e2,s0,s1⟩:=next_ok l hl (at_+1) u' (by omega) (by omega)
      rw[e2]
      simp only[Option.bind_some]
      rw[if_neg (show ¬ n=0 by omega)]
      have ew:wrap64 ((wrap64 (r * 256))+r2)=r * 256+r2:=by rw[wrap_in (x:=r * 256) (by omega) (by omega),wrap_in (by omega) (by omega)]
      rw[ew]
      have:=tm (r * 256+r2) (by omega) (by omega)
      exact⟨_,_,_,rfl,by omega,by omega,by omega,by omega,by omega⟩
    · rw[if_neg c2,if_neg (show ¬ n=0 by omega)]
      have:=tm r (by omega) (by omega)
      exact⟨_,_,_,rfl,by omega,by omega,by omega,by omega,by omega⟩
theorem one_ok (l:List Int) (hl : ∀ x ∈ l,(Lit.int .u8 x).wf=true) (at_ u n:Int) (h0:0≤at_) (h1:at_≤2305843009213693952) :
    ∃ b at' u',spec_l1Cur_one.f l at_ u n=some (b,at',u')∧at_≤at'∧at'≤at_+2:=by
  obtain⟨r,a,u',e,_,_,_,g1,g2⟩:=pick_ok l hl at_ u n h0 h1
  unfold spec_l1Cur_one.f
  rw[e]
  exact⟨_,_,_,rfl,g1,g2⟩
theorem among_ok (l:List Int) (hl : ∀ x ∈ l,(Lit.int .u8 x).wf=true) (at_ u:Int) (c:List Int) (hc:0 < c.length) (h0:0≤at_) (h1:at_≤2305843009213693952) :
    ∃ r at' u',spec_l1Cur_among.f l at_ u c=some (r,at',u')∧r ∈ c∧at_≤at'∧at'≤at_+2:=by
  obtain⟨r,a,u',e,r0,r1,_,g1,g2⟩:=pick_ok l hl at_ u (c.length:Int) h0 h1
  unfold spec_l1Cur_among.f
  rw[e]
  simp only[Option.bind_some]
  rw[if_pos r0,if_pos (by omega)]
  exact⟨_,_,_,rfl,rd_mem c r r0 (by omega),g1,g2⟩

theorem rd110_mem (l:List S34) (i:Nat) (h:i < l.length):rd_T34 l (i:Int) ∈ l:=by
  unfold rd_T34
  rw[show(i:Int).toNat=i from rfl,List.getD_eq_getElem?_getD,List.getElem?_eq_getElem h]
  exact List.getElem_mem h
theorem drop110 (l:List S34) (i:Nat) (h:i < l.length):l.drop i=rd_T34 l (i:Int)::l.drop (i+1):=by
  rw[List.drop_eq_getElem_cons h]
  unfold rd_T34
  simp[List.getD_eq_getElem?_getD,List.getElem?_eq_getElem h]
theorem dropInt (l:List Int) (i:Nat) (h:i < l.length):l.drop i=rd l (i:Int)::l.drop (i+1):=by
  rw[List.drop_eq_getElem_cons h]
  unfold rd
  simp[List.getD_eq_getElem?_getD,List.getElem?_eq_getElem h]
theorem sin_is (a b c:Int):spec_l1In.f a b c=some (decide (b≤a∧a≤c)):=by
  unfold spec_l1In.f
  by_cases h:a ≥ b
  · have h':b≤a:=h
    simp[h']
  · have h' : ¬ b≤a:=h
    simp[h']
theorem iin_is (a b c:Int):impl_within.f a b c=some (decide (b≤a∧a≤c)):=by
  unfold impl_within.f
  by_cases h:b≤a<;>simp[h]
theorem itime_is (a:Int):impl_isTime.f a=some (decide (0≤a∧a≤1000000)):=by
  unfold impl_isTime.f
  rw[iin_is]
  rfl
def GQ (q:S34):Prop:=(∀ x ∈ q.f0,1≤x∧x≤50)∧q.f0.length≤40∧(0≤q.f1∧q.f1≤100)∧(0≤q.f2∧q.f2≤1000000)∧(q.f0.length=0→q.f1=0)
noncomputable instance (q:S34):Decidable (GQ q):=Classical.propDecidable _
def GT (a:Int) (l:List S34) (t:Int):Prop:=(∀ q ∈ l,GQ q)∧(1≤a∧a≤50)∧(1≤(l.length:Int)∧(l.length:Int)≤6)∧(0≤t∧t≤1000000)
noncomputable instance (a:Int) (l:List S34) (t:Int):Decidable (GT a l t):=Classical.propDecidable _
theorem squeue_l0 (x:List Int) (f1 f2:Int) (hn:x.length≤1048576) (d:Nat) : ∀ (k i:Nat),x.length - i=d→i≤x.length→d < k →
    spec_l14Queue.l0 k x (x.length:Int) (i:Int) x f1 f2=some (decide ((∀ y ∈ x.drop i,1≤y∧y≤50)∧x.length≤40∧(0≤f1∧f1≤100)∧(0≤f2∧f2≤1000000)∧(x.length=0→f1=0))):=by
  induction d with
  | zero =>
    intro k i hd hi hk
    obtain⟨k,rfl⟩ : ∃ m,k=m+1:=⟨k - 1,by omega⟩
    simp only[spec_l14Queue.l0]
    rw[if_neg (by omega),List.drop_of_length_le (by omega),sin_is,sin_is]
    simp only[Option.bind_some,decide_eq_true_eq]
    by_cases c1:(x.length:Int)≤40
    · rw[if_pos c1]
      by_cases c2:0≤f1∧f1≤100
      · rw[if_pos c2]
        by_cases c3:0≤f2∧f2≤1000000
        · rw[if_pos c3]
          by_cases c4:(x.length:Int) > 0
          · rw[if_pos c4]
            congr 1
            refine(decide_eq_true ⟨(by simp),by omega,c2,c3,by omega⟩).symm
          · rw[if_neg c4]
            congr 1
            rw[Bool.eq_iff_iff,decide_eq_true_eq,beq_iff_eq]
            exact⟨fun h=>⟨by simp,by omega,c2,c3,fun _=>h⟩,fun h=>h.2.2.2.2 (by omega)⟩
        · rw[if_neg c3]
          congr 1
          exact(decide_eq_false fun h=>c3 h.2.2.2.1).symm
      · rw[if_neg c2]
        congr 1
        exact(decide_eq_false fun h=>c2 h.2.2.1).symm
    · rw[if_neg c1]
      congr 1
      exact(decide_eq_false fun h=>c1 (by omega)).symm
  | succ d ih =>
    intro k i hd hi hk
    obtain⟨k,rfl⟩ : ∃ m,k=m+1:=⟨k - 1,by omega⟩
    simp only[spec_l14Queue.l0]
    rw[if_pos (by omega),if_pos (by omega),if_pos (by omega),sin_is,wrap_succ (n:=x.length) (by omega) (by omega),ih k (i+1) (by omega) (by omega) (by omega)]
    simp only[Option.bind_some,decide_eq_true_eq]
    rw[dropInt x i (by omega)]
    by_cases c:1≤rd x (i:Int)∧rd x (i:Int)≤50
    · rw[if_pos c]
      simp only[List.forall_mem_cons,c,true_and,and_self]
    · rw[if_neg c]
      congr 1
      exact(decide_eq_false fun h=>c (h.1 _ (List.mem_cons_self))).symm
theorem squeue_is (q:S34) (hn:q.f0.length≤1048576) (k:Nat) (hk:1048576 < k):spec_l14Queue.f k q.f0 q.f1 q.f2=some (decide (GQ q)):=by
  unfold spec_l14Queue.f
  rw[show(0:Int)=((0:Nat):Int) from rfl,squeue_l0 q.f0 q.f1 q.f2 hn q.f0.length k 0 (by omega) (by omega) (by omega)]
  exact congrArg some (decide_eq_decide.mpr (by rw[List.drop_zero];exact Iff.rfl))
theorem sgood_l0 (l:List S34) (a t:Int) (hn:l.length≤1048576) (hl : ∀ q ∈ l,q.f0.length≤1048576) (d:Nat) : ∀ (k i:Nat),l.length - i=d→i≤l.length→1048576+d < k →
    spec_GoodTurns.l0 k l (l.length:Int) (i:Int) a l t=some (decide ((∀ q ∈ l.drop i,GQ q)∧(1≤a∧a≤50)∧(1≤(l.length:Int)∧(l.length:Int)≤6)∧(0≤t∧t≤1000000))):=by
  induction d with
  | zero =>
    intro k i hd hi hk
    obtain⟨k,rfl⟩ : ∃ m,k=m+1:=⟨k - 1,by omega⟩
    simp only[spec_GoodTurns.l0]
    rw[if_neg (by omega),List.drop_of_length_le (by omega),sin_is,sin_is,sin_is]
    simp only[Option.bind_some,decide_eq_true_eq]
    by_cases c1:1≤a∧a≤50
    · rw[if_pos c1]
      by_cases c2:1≤(l.length:Int)∧(l.length:Int)≤6
      · rw[if_pos c2]
        congr 1
        rw[Bool.eq_iff_iff,decide_eq_true_eq,decide_eq_true_eq]
        exact⟨fun h=>⟨by simp,c1,c2,h⟩,fun h=>h.2.2.2⟩
      · rw[if_neg c2]
        congr 1
        exact(decide_eq_false fun h=>c2 h.2.2.1).symm
    · rw[if_neg c1]
      congr 1
      exact(decide_eq_false fun h=>c1 h.2.1).symm
  | succ d ih =>
    intro k i hd hi hk
    obtain⟨k,rfl⟩ : ∃ m,k=m+1:=⟨k - 1,by omega⟩
    simp only[spec_GoodTurns.l0]
    rw[if_pos (by omega),if_pos (by omega),if_pos (by omega),squeue_is _ (hl _ (rd110_mem l i (by omega))) k (by omega),wrap_succ (n:=l.length) (by omega) (by omega),ih k (i+1) (by omega) (by omega) (by omega)]
    simp only[Option.bind_some,decide_eq_true_eq]
    rw[drop110 l i (by omega)]
    by_cases c:GQ (rd_T34 l (i:Int))
    · rw[if_pos c]
      simp only[List.forall_mem_cons,c,true_and]
    · rw[if_neg c]
      congr 1
      exact(decide_eq_false fun h=>c (h.1 _ (List.mem_cons_self))).symm
theorem sgoodT_is (a:Int) (l:List S34) (t:Int) (hn:l.length≤1048576) (hl : ∀ q ∈ l,q.f0.length≤1048576) (k:Nat) (hk:2097152 < k):spec_GoodTurns.f k a l t=some (decide (GT a l t)):=by
  unfold spec_GoodTurns.f
  rw[show(0:Int)=((0:Nat):Int) from rfl,sgood_l0 l a t hn hl l.length k 0 (by omega) (by omega) (by omega)]
  exact congrArg some (decide_eq_decide.mpr (by rw[List.drop_zero];exact Iff.rfl))
theorem ilit_is (a:Int):impl_GoodTurns_lit1.f a=some (!decide (1≤a∧a≤50)):=by
  unfold impl_GoodTurns_lit1.f
  rw[iin_is]
  rfl
theorem idx_l0 (x:List Int) (hn:x.length≤1048576) (d:Nat) : ∀ (i:Nat),x.length - i=d→i≤x.length →
    ∃ r:Int,(r ≥ 0 ↔ ¬ ∀ y ∈ x.drop i,1≤y∧y≤50) ∧ ∀ k,d < k→slices_IndexFunc_int_int_impl_GoodTurns_lit1.l0 k x (x.length:Int) (i:Int)=some r:=by
  induction d with
  | zero =>
    intro i hd hi
    refine⟨-1,?_,fun k hk => ?_⟩
    · rw[List.drop_of_length_le (by omega)]
      simp
    · obtain⟨k,rfl⟩ : ∃ m,k=m+1:=⟨k - 1,by omega⟩
      simp only[slices_IndexFunc_int_int_impl_GoodTurns_lit1.l0]
      rw[if_neg (by omega)]
  | succ d ih =>
    intro i hd hi
    by_cases c:1≤rd x (i:Int)∧rd x (i:Int)≤50
    · obtain⟨r,hr,h2⟩:=ih (i+1) (by omega) (by omega)
      refine⟨r,?_,fun k hk => ?_⟩
      · rw[hr,dropInt x i (by omega)]
        simp only[List.forall_mem_cons,c,true_and,and_self]
      · obtain⟨k,rfl⟩ : ∃ m,k=m+1:=⟨k - 1,by omega⟩
        simp only[slices_IndexFunc_int_int_impl_GoodTurns_lit1.l0]
        rw[if_pos (by omega),if_pos (by omega),if_pos (by omega),ilit_is,wrap_succ (n:=x.length) (by omega) (by omega)]
        simp only[Option.bind_some,c,and_self,decide_true,Bool.not_true,Bool.false_eq_true,if_false]
        exact h2 k (by omega)
    · refine⟨(i:Int),?_,fun k hk => ?_⟩
      · rw[dropInt x i (by omega)]
        exact⟨fun _ h=>c (h _ List.mem_cons_self),fun _=>by omega⟩
      · obtain⟨k,rfl⟩ : ∃ m,k=m+1:=⟨k - 1,by omega⟩
        simp only[slices_IndexFunc_int_int_impl_GoodTurns_lit1.l0]
        rw[if_pos (by omega),if_pos (by omega),if_pos (by omega),ilit_is,decide_eq_false c]
        simp only[Option.bind_some,Bool.not_false,if_true]
theorem cont_is (x:List Int) (hn:x.length≤1048576) (k:Nat) (hk:1048576 < k):slices_ContainsFunc_int_int_impl_GoodTurns_lit1.f k x=some (decide (¬ ∀ y ∈ x,1≤y∧y≤50)):=by
  unfold slices_ContainsFunc_int_int_impl_GoodTurns_lit1.f slices_IndexFunc_int_int_impl_GoodTurns_lit1.f
  obtain⟨r,hr,e⟩:=idx_l0 x hn x.length 0 (by omega) (by omega)
  rw[show(0:Int)=((0:Nat):Int) from rfl,e k (by omega)]
  simp only[Option.bind_some]
  rw[List.drop_zero] at hr
  congr 1
  rw[Bool.eq_iff_iff,decide_eq_true_eq,decide_eq_true_eq]
  exact hr
theorem igood_l0 (l:List S34) (hn:l.length≤1048576) (hl : ∀ q ∈ l,q.f0.length≤1048576) (d:Nat) : ∀ (k i:Nat),l.length - i=d→i≤l.length→1048576+d < k →
    impl_GoodTurns.l0 k l (l.length:Int) (i:Int)=some (decide (∀ q ∈ l.drop i,GQ q)):=by
  induction d with
  | zero =>
    intro k i hd hi hk
    obtain⟨k,rfl⟩ : ∃ m,k=m+1:=⟨k - 1,by omega⟩
    simp only[impl_GoodTurns.l0]
    rw[if_neg (by omega),List.drop_of_length_le (by omega)]
    exact congrArg some (decide_eq_true (by simp)).symm
  | succ d ih =>
    intro k i hd hi hk
    obtain⟨k,rfl⟩ : ∃ m,k=m+1:=⟨k - 1,by omega⟩
    have hq:=hl _ (rd110_mem l i (by omega))
    simp only[impl_GoodTurns.l0]
    rw[if_pos (by omega),if_pos (by omega),if_pos (by omega),cont_is _ hq k (by omega),iin_is,itime_is,wrap_succ (n:=l.length) (by omega) (by omega),ih k (i+1) (by omega) (by omega) (by omega),drop110 l i (by omega)]
    generalize rd_T34 l (i:Int)=q at hq ⊢
    simp only[Option.bind_some,decide_eq_true_eq]
    have no : ∀ (I:Decidable (∀ y ∈ q::l.drop (i+1),GQ y)),¬ GQ q→some false=some (@decide _ I):=fun I c=>by
      exact congrArg some (decide_eq_false fun h=>c (h _ List.mem_cons_self)).symm
    have yes : ∀ (J:Decidable (∀ y ∈ l.drop (i+1),GQ y)) (I:Decidable (∀ y ∈ q::l.drop (i+1),GQ y)),GQ q→some (@decide _ J)=some (@decide _ I):=fun J I c=>congrArg some (decide_eq_decide.mpr (by simp only[List.forall_mem_cons,c,true_and]))
    by_cases c1:(q.f0.length:Int) > 40
    · rw[if_pos c1]
      exact no _ fun h=>by have:=h.2.1;omega
    · rw[if_neg c1]
      by_cases c2 : ∀ y ∈ q.f0,1≤y∧y≤50
      · rw[if_neg (fun h=>h c2)]
        by_cases c3:0≤q.f1∧q.f1≤100
        · rw[if_pos c3]
          by_cases c4:0≤q.f2∧q.f2≤1000000
          · rw[if_pos c4]
            by_cases c5:(q.f0.length:Int)=0
            · rw[if_pos c5]
              by_cases c6:q.f1=0
              · rw[if_pos c6]
                exact yes _ _ ⟨c2,by omega,c3,c4,fun _=>c6⟩
              · rw[if_neg c6]
                exact no _ fun h=>c6 (h.2.2.2.2 (by omega))
            · rw[if_neg c5]
              exact yes _ _ ⟨c2,by omega,c3,c4,fun h=>by omega⟩
          · rw[if_neg c4]
            exact no _ fun h=>c4 h.2.2.2.1
        · rw[if_neg c3]
          exact no _ fun h=>c3 h.2.2.1
      · rw[if_pos c2]
        exact no _ fun h=>c2 h.1
theorem igoodT_is (a:Int) (l:List S34) (t:Int) (hn:l.length≤1048576) (hl : ∀ q ∈ l,q.f0.length≤1048576) (k:Nat) (hk:2097153 < k):impl_GoodTurns.f k a l t=some (decide (GT a l t)):=by
  unfold impl_GoodTurns.f
  obtain⟨k,rfl⟩ : ∃ m,k=m+1:=⟨k - 1,by omega⟩
  rw[iin_is,iin_is,itime_is]
  simp only[Option.bind_some,decide_eq_true_eq,impl_GoodTurns.j0,if_true]
  have no : ¬ GT a l t→some false=some (decide (GT a l t)):=fun c=>by rw[decide_eq_false c]
  by_cases c1:1≤a∧a≤50
  · rw[if_pos c1]
    by_cases c2:1≤(l.length:Int)∧(l.length:Int)≤6
    · rw[if_pos c2]
      by_cases c3:0≤t∧t≤1000000
      · rw[decide_eq_true c3,if_neg (by decide),show(0:Int)=((0:Nat):Int) from rfl,igood_l0 l hn hl l.length k 0 (by omega) (by omega) (by omega),List.drop_zero]
        congr 1
        rw[Bool.eq_iff_iff,decide_eq_true_eq,decide_eq_true_eq]
        exact⟨fun h=>⟨h,c1,c2,c3⟩,fun h=>h.1⟩
      · rw[decide_eq_false c3,if_pos (by decide)]
        exact no fun h=>c3 h.2.2.2
    · rw[if_neg c2]
      exact no fun h=>c2 h.2.2.1
  · rw[if_neg c1]
    exact no fun h=>c1 h.2.1

noncomputable def putLong (a:Int) (l:List S34) (t i x:Int):Int × List S34 × Int × Bool :=
  if GT a l t∧(0≤i∧i < (l.length:Int))∧(1≤x∧x≤50)∧(((rd_T34 l i).f0).length:Int)≠40 then (a,l.set i.toNat (⟨(rd_T34 l i).f0++[x],(rd_T34 l i).f1,(rd_T34 l i).f2⟩:S34),t,true) else (0,[],0,false)
theorem own_l0 (l:List S34) (a t:Int) (hn:l.length≤1048576) (hl : ∀ q ∈ l,q.f0.length≤1048576) (d:Nat) : ∀ (k i:Nat) (x:List S34),l.length - i=d→i≤l.length→x.length=i→d < k →
    spec_l14Own.l0 k x l (l.length:Int) (i:Int) a l t=some (a,x++l.drop i,t):=by
  induction d with
  | zero =>
    intro k i x hd hi hx hk
    obtain⟨k,rfl⟩ : ∃ m,k=m+1:=⟨k - 1,by omega⟩
    rw[spec_l14Own.l0,if_neg (by omega),List.drop_of_length_le (by omega),List.append_nil]
  | succ d ih =>
    intro k i x hd hi hx hk
    obtain⟨k,rfl⟩ : ∃ m,k=m+1:=⟨k - 1,by omega⟩
    have:=hl _ (rd110_mem l i (by omega))
    rw[spec_l14Own.l0,if_pos (by omega),if_pos (by omega),if_pos (by omega),Option.bind_some,List.nil_append,if_pos (by simp only[List.length_nil];omega),if_pos (by omega),wrap_succ (n:=l.length) (by omega) (by omega),ih k (i+1) _ (by omega) (by omega) (by rw[List.length_append,hx];rfl) (by omega),drop110 l i (by omega),List.append_assoc]
    rfl
theorem own_is (l:List S34) (a t:Int) (hn:l.length≤1048576) (hl : ∀ q ∈ l,q.f0.length≤1048576) (k:Nat) (hk:1048576 < k):spec_l14Own.f k a l t=some (a,l,t):=by
  unfold spec_l14Own.f
  rw[show(0:Int)=((0:Nat):Int) from rfl,own_l0 l a t hn hl l.length k 0 [] (by omega) (by omega) rfl (by omega)]
  rfl
theorem rdI_mem (l:List S34) (i:Int) (h0:0≤i) (h1:i < (l.length:Int)):rd_T34 l i ∈ l:=by
  obtain⟨n,rfl⟩ : ∃ n:Nat,i=n:=⟨i.toNat,by omega⟩
  exact rd110_mem l n (by omega)
theorem sput_is (a:Int) (l:List S34) (t i x:Int) (hn:l.length≤1048576) (hl : ∀ q ∈ l,q.f0.length≤1048576) (k:Nat) (hk:2097153 < k):spec_PutLong.f k a l t i x=some (putLong a l t i x):=by
  unfold spec_PutLong.f putLong
  rw[sgoodT_is a l t hn hl k (by omega),sin_is,own_is l a t hn hl k (by omega),Option.bind_some,Option.bind_some,Option.bind_some]
  dsimp only
  by_cases c1:GT a l t
  · rw[decide_eq_true c1,if_pos rfl]
    by_cases c2:i < 0
    · rw[if_pos c2,if_neg (fun h=>by have:=h.2.1.1;omega)]
    · rw[if_neg c2]
      by_cases c3:i ≥ (l.length:Int)
      · rw[if_pos c3,if_neg (fun h=>by have:=h.2.1.2;omega)]
      · rw[if_neg c3]
        have h0:0≤i:=by omega
        have h1:i < (l.length:Int):=by omega
        have hm:=hl _ (rdI_mem l i h0 h1)
        by_cases c4:1≤x∧x≤50
        · rw[decide_eq_true c4,if_pos rfl,if_pos h0,if_pos h1]
          by_cases c5:((rd_T34 l i).f0.length:Int)=40
          · rw[if_pos c5,if_neg (fun h=>h.2.2.2 c5)]
          · rw[if_neg c5,if_pos h1,if_pos (by omega),if_pos ⟨c1,⟨h0,h1⟩,c4,c5⟩]
        · rw[decide_eq_false c4,if_neg Bool.false_ne_true,if_neg (fun h=>c4 h.2.2.1)]
  · rw[decide_eq_false c1,if_neg Bool.false_ne_true,if_neg (fun h=>c1 h.1)]
theorem copied_is (l:List S34) (a t:Int) (hn:l.length≤1000000) (hl : ∀ q ∈ l,q.f0.length≤1000000):impl_Turns_copied.f a l t=some (a,l,t):=by
  unfold impl_Turns_copied.f
  rw[if_pos ⟨hn,hl⟩]

def sv:List Int→Int→Int→List Int × Int × Int × Nat
  | [],_,s=>([],0,s,0)
  | x::xs,d,s=>if x≤d then ((sv xs (d - x) (s+x)).1,(sv xs (d - x) (s+x)).2.1,(sv xs (d - x) (s+x)).2.2.1,(sv xs (d - x) (s+x)).2.2.2+1) else (x::xs,d,s,0)
def svQ (a:Int) (q:S34):S34:=if q.f0=[] then q else ⟨(sv q.f0 (q.f1+a) q.f2).1,(sv q.f0 (q.f1+a) q.f2).2.1,(sv q.f0 (q.f1+a) q.f2).2.2.1⟩
def svN (a:Int) (q:S34):Nat:=if q.f0=[] then 0 else (sv q.f0 (q.f1+a) q.f2).2.2.2
def outs (a:Int):Nat→List S34→List Int
  | _,[]=>[]
  | i,q::qs=>List.replicate (svN a q) (i:Int)++outs a (i+1) qs
theorem sv_len : ∀ (L:List Int) (d s:Int),(sv L d s).2.2.2≤L.length∧(sv L d s).1.length≤L.length
  | [],_,_=>⟨Nat.le_refl _,Nat.le_refl _⟩
  | x::xs,d,s=>by
    obtain⟨h1,h2⟩:=sv_len xs (d - x) (s+x)
    unfold sv
    split
    · simp only[List.length_cons]
      omega
    · simp only[List.length_cons]
      omega
theorem outs_len (a:Int) : ∀ (l:List S34) (i:Nat),(∀ q ∈ l,q.f0.length≤40)→(outs a i l).length≤40 * l.length
  | [],_,_=>by simp[outs]
  | q::qs,i,h=>by
    have h1:=outs_len a qs (i+1) (fun p hp=>h p (List.mem_cons_of_mem _ hp))
    have h2:=h q List.mem_cons_self
    have h3:=(sv_len q.f0 (q.f1+a) q.f2).1
    have h4:svN a q≤40:=by
      unfold svN
      split<;>omega
    simp only[outs,List.length_append,List.length_replicate,List.length_cons]
    omega
theorem rd_cons (x:Int) (xs:List Int):rd (x::xs) 0=x:=rfl
theorem rd_set (X:List S34) (i:Nat) (q:S34) (h:i < X.length):rd_T34 (X.set i q) (i:Int)=q:=by
  unfold rd_T34
  rw[show((i:Int)).toNat=i from rfl,List.getD_eq_getElem?_getD,List.getElem?_set_self h]
  rfl
theorem ssrv (n:Int) (a t:Int) : ∀ (L:List Int) (k:Nat) (out:List Int) (i:Nat) (X:List S34) (d s:Int),(∀ x ∈ L,1≤x∧x≤50)→0≤d→d≤1000000→0≤s→s+50 * (L.length:Int)≤3000000→L.length≤40→i < X.length→out.length+L.length≤1000000→L.length+1 < k →
    ∃ k',k≤k'+L.length+1∧spec_l14Round.l1 k out (i:Int) n (i:Int) a X t L d s=spec_l14Round.l0 k' (out++List.replicate (sv L d s).2.2.2 (i:Int)) n (wrap64 ((i:Int)+1)) a (X.set i ⟨(sv L d s).1,(sv L d s).2.1,(sv L d s).2.2.1⟩) t
  | [],k,out,i,X,d,s,hL,d0,d1,s0,s1,hl,hi,ho,hk=>by
    obtain⟨k,rfl⟩ : ∃ m,k=m+1:=⟨k - 1,by omega⟩
    refine⟨k,by omega,?_⟩
    rw[spec_l14Round.l1,if_neg (by simp),if_pos (by simp),if_pos (by omega),if_pos (by omega)]
    simp[sv]
  | x::xs,k,out,i,X,d,s,hL,d0,d1,s0,s1,hl,hi,ho,hk=>by
    obtain⟨k,rfl⟩ : ∃ m,k=m+1:=⟨k - 1,by omega⟩
    have hx:=hL x List.mem_cons_self
    simp only[List.length_cons] at hl ho hk s1
    rw[spec_l14Round.l1,if_pos (by simp only[List.length_cons];omega),if_pos (by simp only[List.length_cons];omega),rd_cons]
    by_cases c:x≤d
    · rw[if_pos c,if_pos (by simp only[List.length_cons];omega),if_pos (by omega),wrap_in (x:=d - x) (by omega) (by omega),wrap_in (x:=s+x) (by omega) (by omega)]
      have hS:sv (x::xs) d s=((sv xs (d - x) (s+x)).1,(sv xs (d - x) (s+x)).2.1,(sv xs (d - x) (s+x)).2.2.1,(sv xs (d - x) (s+x)).2.2.2+1):=by rw[sv,if_pos c]
      obtain⟨k',hk',e⟩:=ssrv n a t xs k (out++[(i:Int)]) i X (d - x) (s+x) (fun y hy=>hL y (List.mem_cons_of_mem _ hy)) (by omega) (by omega) (by omega) (by omega) (by omega) hi (by rw[List.length_append,List.length_singleton];omega) (by omega)
      refine⟨k',by simp only[List.length_cons];omega,?_⟩
      rw[List.drop_one,List.tail_cons,e,hS]
      simp only[List.append_assoc]
      rw[← List.replicate_one,List.replicate_append_replicate,Nat.add_comm 1]
    · rw[if_neg c,if_neg (by simp only[List.length_cons];omega),if_pos (by omega),if_pos (by omega)]
      refine⟨k,by simp only[List.length_cons];omega,?_⟩
      rw[sv,if_neg c]
      simp
theorem set_same (X:List S34) (i:Nat) (q:S34) (h:i < X.length) (e:rd_T34 X (i:Int)=q):X.set i q=X:=by
  unfold rd_T34 at e
  rw[show((i:Int)).toNat=i from rfl,List.getD_eq_getElem?_getD,List.getElem?_eq_getElem h] at e
  rw[← show X[i]=q from e,List.set_getElem_self]
theorem isrv (n:Int) (a t:Int) : ∀ (L:List Int) (k:Nat) (out:List Int) (i:Nat) (X:List S34) (d s:Int),rd_T34 X (i:Int)=⟨L,d,s⟩→(∀ x ∈ L,1≤x∧x≤50)→0≤d→d≤1000000→0≤s→s+50 * (L.length:Int)≤3000000→L.length≤40→i < X.length→out.length+L.length≤1000000→L.length+1 < k →
    ∃ k',k≤k'+L.length+1∧impl_NextRound.l1 k out (i:Int) n (i:Int) a X t=impl_NextRound.l0 k' (out++List.replicate (sv L d s).2.2.2 (i:Int)) n (wrap64 ((i:Int)+1)) a (X.set i ⟨(sv L d s).1,(sv L d s).2.1,(sv L d s).2.2.1⟩) t
  | [],k,out,i,X,d,s,hX,hL,d0,d1,s0,s1,hl,hi,ho,hk=>by
    obtain⟨k,rfl⟩ : ∃ m,k=m+1:=⟨k - 1,by omega⟩
    refine⟨k,by omega,?_⟩
    rw[impl_NextRound.l1,if_pos (by omega),if_pos (by omega),hX]
    dsimp only
    rw[if_neg (by simp),if_pos (by simp)]
    simp[sv]
  | x::xs,k,out,i,X,d,s,hX,hL,d0,d1,s0,s1,hl,hi,ho,hk=>by
    obtain⟨k,rfl⟩ : ∃ m,k=m+1:=⟨k - 1,by omega⟩
    have hx:=hL x List.mem_cons_self
    simp only[List.length_cons] at hl ho hk s1
    rw[impl_NextRound.l1,if_pos (by omega),if_pos (by omega),hX]
    dsimp only
    rw[if_pos (by simp only[List.length_cons];omega),if_pos (by simp only[List.length_cons];omega),rd_cons]
    by_cases c:x≤d
    · rw[if_pos c,wrap_in (x:=d - x) (by omega) (by omega),Option.bind_some,show((i:Int)).toNat=i from rfl,rd_set X i _ hi]
      dsimp only
      rw[rd_cons,if_pos (by simp only[List.length_cons];omega),wrap_in (x:=s+x) (by omega) (by omega),Option.bind_some,rd_set _ i _ (by rw[List.length_set];exact hi)]
      dsimp only
      rw[if_pos (by simp only[List.length_cons];omega),if_pos (by omega),List.set_set,List.set_set,List.drop_one,List.tail_cons]
      have hS:sv (x::xs) d s=((sv xs (d - x) (s+x)).1,(sv xs (d - x) (s+x)).2.1,(sv xs (d - x) (s+x)).2.2.1,(sv xs (d - x) (s+x)).2.2.2+1):=by rw[sv,if_pos c]
      obtain⟨k',hk',e⟩:=isrv n a t xs k (out++[(i:Int)]) i (X.set i ⟨xs,d - x,s+x⟩) (d - x) (s+x) (rd_set X i _ hi) (fun y hy=>hL y (List.mem_cons_of_mem _ hy)) (by omega) (by omega) (by omega) (by omega) (by omega) (by rw[List.length_set];exact hi) (by rw[List.length_append,List.length_singleton];omega) (by omega)
      refine⟨k',by simp only[List.length_cons];omega,?_⟩
      rw[e,hS,List.set_set]
      simp only[List.append_assoc]
      rw[← List.replicate_one,List.replicate_append_replicate,Nat.add_comm 1]
    · rw[if_neg c,if_neg (by simp only[List.length_cons];omega)]
      refine⟨k,by simp only[List.length_cons];omega,?_⟩
      rw[sv,if_neg c]
      simp only[List.replicate_zero,List.append_nil]
      rw[set_same X i _ hi hX]
theorem rd_mid (P Q:List S34) (q:S34):rd_T34 (P++q::Q) (P.length:Int)=q:=by
  unfold rd_T34
  rw[show((P.length:Int)).toNat=P.length from rfl,List.getD_eq_getElem?_getD,List.getElem?_append_right (Nat.le_refl _),Nat.sub_self]
  rfl
theorem set_mid (P Q:List S34) (q q':S34):(P++q::Q).set P.length q'=(P++[q'])++Q:=by
  rw[List.set_append_right _ _ (Nat.le_refl _),Nat.sub_self,List.append_assoc]
  rfl
theorem svQ_len (a:Int) (q:S34) (h:q.f0.length≤40):(svQ a q).f0.length≤40:=by
  unfold svQ
  split
  · exact h
  · have:=(sv_len q.f0 (q.f1+a) q.f2).2
    show(sv q.f0 (q.f1+a) q.f2).1.length≤40
    omega
theorem sround (a t:Int) (ha:1≤a∧a≤50) (ht:0≤t∧t≤1000000) : ∀ (Q P:List S34) (k:Nat) (out:List Int),(∀ q ∈ Q,GQ q)→(∀ q ∈ P,q.f0.length≤40)→P.length+Q.length≤6→out.length+40 * Q.length≤1000→50 * Q.length+2000000 < k →
    spec_l14Round.l0 k out ((P.length+Q.length:Nat):Int) (P.length:Int) a (P++Q) t=some (a,P++Q.map (svQ a),t+1,out++outs a P.length Q)
  | [],P,k,out,hQ,hP,hn,ho,hk=>by
    obtain⟨k,rfl⟩ : ∃ m,k=m+1:=⟨k - 1,by omega⟩
    rw[spec_l14Round.l0,if_neg (by simp),List.append_nil,wrap_in (by omega) (by omega),own_is P a (t+1) (by omega) (fun q hq=>by have:=hP q hq;omega) k (by omega),Option.bind_some]
    simp[outs]
  | q::Q,P,k,out,hQ,hP,hn,ho,hk=>by
    obtain⟨k,rfl⟩ : ∃ m,k=m+1:=⟨k - 1,by omega⟩
    simp only[List.length_cons] at hn ho hk
    have hq:=hQ q List.mem_cons_self
    have hlen:(P++q::Q).length=P.length+(Q.length+1):=by simp
    rw[spec_l14Round.l0,if_pos (by simp only[List.length_cons];omega),if_pos (by omega),if_pos (by rw[hlen];omega),rd_mid]
    have hN : ∀ q':S34,((P.length+(q::Q).length:Nat):Int)=(((P++[q']).length+Q.length:Nat):Int):=fun q'=>by simp only[List.length_cons,List.length_append,List.length_nil];omega
    have hP1 : ∀ q':S34,((P.length+1:Nat):Int)=((P++[q']).length:Int):=fun q'=>by simp
    have hW:wrap64 ((P.length:Int)+1)=((P.length+1:Nat):Int):=wrap_succ (n:=6) (by omega) (by omega)
    by_cases c:q.f0=[]
    · have e1:svQ a q=q:=if_pos c
      have e2:svN a q=0:=if_pos c
      rw[if_pos (by rw[c];rfl),hW,hN q,hP1 q]
      have go:=sround a t ha ht Q (P++[q]) k out (fun p hp=>hQ p (List.mem_cons_of_mem _ hp)) (fun p hp=>by
        rcases List.mem_append.mp hp with h|h
        · exact hP p h
        · rw[List.mem_singleton.mp h];exact hq.2.1) (by simp only[List.length_append,List.length_singleton];omega) (by omega) (by omega)
      rw[List.append_assoc,List.singleton_append] at go
      rw[go,outs,e2,List.map_cons,e1]
      simp
    · have hl:q.f0.length≠0:=fun h=>c (List.length_eq_zero_iff.mp h)
      rw[if_neg (by omega),wrap_in (x:=q.f1+a) (by have:=hq.2.2.1;omega) (by have:=hq.2.2.1;omega)]
      obtain⟨k',hk',e⟩:=ssrv ((P.length+(q::Q).length:Nat):Int) a t q.f0 k out P.length (P++q::Q) (q.f1+a) q.f2 hq.1 (by have:=hq.2.2.1;omega) (by have:=hq.2.2.1;omega) hq.2.2.2.1.1 (by have:=hq.2.2.2.1;have:=hq.2.1;omega) hq.2.1 (by rw[hlen];omega) (by have:=hq.2.1;omega) (by have:=hq.2.1;omega)
      have e1:svQ a q=⟨(sv q.f0 (q.f1+a) q.f2).1,(sv q.f0 (q.f1+a) q.f2).2.1,(sv q.f0 (q.f1+a) q.f2).2.2.1⟩:=if_neg c
      have e2:svN a q=(sv q.f0 (q.f1+a) q.f2).2.2.2:=if_neg c
      rw[e,← e1,← e2,set_mid,hW,hN (svQ a q),hP1 (svQ a q)]
      have h4:svN a q≤40:=by
        have:=(sv_len q.f0 (q.f1+a) q.f2).1
        have:=hq.2.1
        omega
      have go:=sround a t ha ht Q (P++[svQ a q]) k' (out++List.replicate (svN a q) (P.length:Int)) (fun p hp=>hQ p (List.mem_cons_of_mem _ hp)) (fun p hp=>by
        rcases List.mem_append.mp hp with h|h
        · exact hP p h
        · rw[List.mem_singleton.mp h];exact svQ_len a q hq.2.1) (by simp only[List.length_append,List.length_singleton];omega) (by simp only[List.length_append,List.length_replicate];omega) (by have:=hq.2.1;omega)
      rw[go,outs,List.map_cons]
      simp
noncomputable def fin (a:Int) (X:List S34) (t:Int) (out:List Int):Option (Int × List S34 × Int × List Int × Bool):=if GT a X t then some (a,X,t,out,true) else some (0,[],0,[],false)
theorem iround (a t:Int) (ha:1≤a∧a≤50) (ht:0≤t∧t≤1000000) : ∀ (Q P:List S34) (k:Nat) (out:List Int),(∀ q ∈ Q,GQ q)→(∀ q ∈ P,q.f0.length≤40)→P.length+Q.length≤6→out.length+40 * Q.length≤1000→50 * Q.length+3000000 < k →
    impl_NextRound.l0 k out ((P.length+Q.length:Nat):Int) (P.length:Int) a (P++Q) t=fin a (P++Q.map (svQ a)) (t+1) (out++outs a P.length Q)
  | [],P,k,out,hQ,hP,hn,ho,hk=>by
    obtain⟨k,rfl⟩ : ∃ m,k=m+1:=⟨k - 1,by omega⟩
    rw[impl_NextRound.l0,if_neg (by simp),List.append_nil,wrap_in (by omega) (by omega),igoodT_is a P (t+1) (by omega) (fun q hq=>by have:=hP q hq;omega) k (by omega),Option.bind_some,List.map_nil,List.append_nil,outs,List.append_nil]
    unfold fin
    by_cases c:GT a P (t+1)
    · rw[decide_eq_true c,if_pos rfl,if_pos c,copied_is P a (t+1) (by omega) (fun q hq=>by have:=hP q hq;omega)]
      rfl
    · rw[decide_eq_false c,if_neg Bool.false_ne_true,if_neg c]
  | q::Q,P,k,out,hQ,hP,hn,ho,hk=>by
    obtain⟨k,rfl⟩ : ∃ m,k=m+1:=⟨k - 1,by omega⟩
    simp only[List.length_cons] at hn ho hk
    have hq:=hQ q List.mem_cons_self
    have hlen:(P++q::Q).length=P.length+(Q.length+1):=by simp
    rw[impl_NextRound.l0,if_pos (by simp only[List.length_cons];omega),if_pos (by omega),if_pos (by rw[hlen];omega),rd_mid]
    have hN : ∀ q':S34,((P.length+(q::Q).length:Nat):Int)=(((P++[q']).length+Q.length:Nat):Int):=fun q'=>by simp only[List.length_cons,List.length_append,List.length_nil];omega
    have hP1 : ∀ q':S34,((P.length+1:Nat):Int)=((P++[q']).length:Int):=fun q'=>by simp
    have hW:wrap64 ((P.length:Int)+1)=((P.length+1:Nat):Int):=wrap_succ (n:=6) (by omega) (by omega)
    by_cases c:q.f0=[]
    · have e1:svQ a q=q:=if_pos c
      have e2:svN a q=0:=if_pos c
      rw[if_pos (by rw[c];rfl),hW,hN q,hP1 q]
      have go:=iround a t ha ht Q (P++[q]) k out (fun p hp=>hQ p (List.mem_cons_of_mem _ hp)) (fun p hp=>by
        rcases List.mem_append.mp hp with h|h
        · exact hP p h
        · rw[List.mem_singleton.mp h];exact hq.2.1) (by simp only[List.length_append,List.length_singleton];omega) (by omega) (by omega)
      rw[List.append_assoc,List.singleton_append] at go
      rw[go,outs,e2,List.map_cons,e1]
      simp
    · have hl:q.f0.length≠0:=fun h=>c (List.length_eq_zero_iff.mp h)
      rw[if_neg (by omega),wrap_in (x:=q.f1+a) (by have:=hq.2.2.1;omega) (by have:=hq.2.2.1;omega),show((P.length:Int)).toNat=P.length from rfl]
      have hi:P.length < (P++q::Q).length:=by rw[hlen];omega
      obtain⟨k',hk',e⟩:=isrv ((P.length+(q::Q).length:Nat):Int) a t q.f0 k out P.length ((P++q::Q).set P.length ⟨q.f0,q.f1+a,q.f2⟩) (q.f1+a) q.f2 (rd_set _ _ _ hi) hq.1 (by have:=hq.2.2.1;omega) (by have:=hq.2.2.1;omega) hq.2.2.2.1.1 (by have:=hq.2.2.2.1;have:=hq.2.1;omega) hq.2.1 (by rw[List.length_set];exact hi) (by have:=hq.2.1;omega) (by have:=hq.2.1;omega)
      have e1:svQ a q=⟨(sv q.f0 (q.f1+a) q.f2).1,(sv q.f0 (q.f1+a) q.f2).2.1,(sv q.f0 (q.f1+a) q.f2).2.2.1⟩:=if_neg c
      have e2:svN a q=(sv q.f0 (q.f1+a) q.f2).2.2.2:=if_neg c
      rw[e,← e1,← e2,List.set_set,set_mid,hW,hN (svQ a q),hP1 (svQ a q)]
      have h4:svN a q≤40:=by
        have:=(sv_len q.f0 (q.f1+a) q.f2).1
        have:=hq.2.1
        omega
      have go:=iround a t ha ht Q (P++[svQ a q]) k' (out++List.replicate (svN a q) (P.length:Int)) (fun p hp=>hQ p (List.mem_cons_of_mem _ hp)) (fun p hp=>by
        rcases List.mem_append.mp hp with h|h
        · exact hP p h
        · rw[List.mem_singleton.mp h];exact svQ_len a q hq.2.1) (by simp only[List.length_append,List.length_singleton];omega) (by simp only[List.length_append,List.length_replicate];omega) (by have:=hq.2.1;omega)
      rw[go,outs,List.map_cons]
      simp
noncomputable def nextR (a:Int) (l:List S34) (t:Int):Int × List S34 × Int × List Int × Bool:=if GT a l t∧GT a (l.map (svQ a)) (t+1) then (a,l.map (svQ a),t+1,outs a 0 l,true) else (0,[],0,[],false)
theorem snext_is (a:Int) (l:List S34) (t:Int) (hn:l.length≤1048576) (hl : ∀ q ∈ l,q.f0.length≤1048576) (k:Nat) (hk:3000400 < k):spec_NextRound.f k a l t=some (nextR a l t):=by
  unfold spec_NextRound.f nextR
  rw[sgoodT_is a l t hn hl k (by omega),Option.bind_some]
  by_cases c:GT a l t
  · have h6:=c.2.2.1
    have hs:=sround a t c.2.1 c.2.2.2 l [] k [] c.1 (fun q hq=>by cases hq) (by simp only[List.length_nil];omega) (by simp only[List.length_nil];omega) (by omega)
    simp only[List.nil_append,List.length_nil,Nat.zero_add] at hs
    rw[decide_eq_true c,if_pos rfl]
    unfold spec_l14Round.f
    rw[own_is l a t hn hl k (by omega),Option.bind_some]
    dsimp only
    rw[show(0:Int)=((0:Nat):Int) from rfl,hs,Option.bind_some]
    dsimp only
    rw[sgoodT_is a (l.map (svQ a)) (t+1) (by rw[List.length_map];exact hn) (fun q hq=>by
      obtain⟨p,hp,rfl⟩:=List.mem_map.mp hq
      have:=svQ_len a p (c.1 p hp).2.1
      omega) k (by omega),Option.bind_some]
    by_cases c2:GT a (l.map (svQ a)) (t+1)
    · rw[decide_eq_true c2,if_pos rfl,if_pos ⟨c,c2⟩]
    · rw[decide_eq_false c2,if_neg Bool.false_ne_true,if_neg (fun h=>c2 h.2)]
  · rw[decide_eq_false c,if_neg Bool.false_ne_true,if_neg (fun h=>c h.1)]
theorem inext_is (a:Int) (l:List S34) (t:Int) (hn:l.length≤1048576) (hl : ∀ q ∈ l,q.f0.length≤1048576) (k:Nat) (hk:3000400 < k):impl_NextRound.f k a l t=some (nextR a l t):=by
  unfold impl_NextRound.f nextR
  rw[igoodT_is a l t hn hl k (by omega),Option.bind_some]
  by_cases c:GT a l t
  · have h6:=c.2.2.1
    have hs:=iround a t c.2.1 c.2.2.2 l [] k [] c.1 (fun q hq=>by cases hq) (by simp only[List.length_nil];omega) (by simp only[List.length_nil];omega) (by omega)
    simp only[List.nil_append,List.length_nil,Nat.zero_add] at hs
    rw[decide_eq_true c,if_pos rfl,copied_is l a t (by omega) (fun q hq=>by have:=(c.1 q hq).2.1;omega),Option.bind_some]
    dsimp only
    rw[show(0:Int)=((0:Nat):Int) from rfl,hs]
    unfold fin
    by_cases c2:GT a (l.map (svQ a)) (t+1)
    · rw[if_pos c2,if_pos ⟨c,c2⟩]
    · rw[if_neg c2,if_neg (fun h=>c2 h.2)]
      rfl
  · rw[decide_eq_false c,if_neg Bool.false_ne_true,if_neg (fun h=>c h.1)]

theorem nextR_small (a:Int) (l:List S34) (t:Int):(nextR a l t).2.1.length≤6∧(∀ q ∈ (nextR a l t).2.1,q.f0.length≤40)∧(nextR a l t).2.2.2.1.length≤1000:=by
  unfold nextR
  by_cases c:GT a l t∧GT a (l.map (svQ a)) (t+1)
  · rw[if_pos c]
    have h6:=c.1.2.2.1
    refine⟨by rw[List.length_map];omega,fun q hq=>(c.2.1 q hq).2.1,?_⟩
    have:=outs_len a l 0 (fun q hq=>(c.1.1 q hq).2.1)
    show(outs a 0 l).length≤1000
    omega
  · rw[if_neg c]
    exact⟨Nat.zero_le _,(fun q hq=>by cases hq),Nat.zero_le _⟩
noncomputable def runR:Nat→Int→List S34→Int→Int→Int × List S34 × Int × Int × Bool
  | 0,a,l,t,n=>(a,l,t,n,true)
  | m+1,a,l,t,n=>if (nextR a l t).2.2.2.2=true then runR m (nextR a l t).1 (nextR a l t).2.1 (nextR a l t).2.2.1 (n+((nextR a l t).2.2.2.1.length:Int)) else (0,[],0,0,false)
noncomputable def runF (a:Int) (l:List S34) (t many:Int):Int × List S34 × Int × Int × Bool:=if GT a l t∧0≤many∧many≤200 then runR many.toNat a l t 0 else (0,[],0,0,false)
theorem runR_small : ∀ (m:Nat) (a:Int) (l:List S34) (t n:Int),l.length≤6→(∀ q ∈ l,q.f0.length≤40)→(runR m a l t n).2.1.length≤6 ∧ ∀ q ∈ (runR m a l t n).2.1,q.f0.length≤40
  | 0,_,_,_,_,h1,h2=>⟨h1,h2⟩
  | m+1,a,l,t,n,h1,h2=>by
    unfold runR
    obtain⟨p1,p2,_⟩:=nextR_small a l t
    split
    · exact runR_small m _ _ _ _ p1 p2
    · exact⟨Nat.zero_le _,(fun q hq=>by cases hq)⟩
theorem runF_small (a:Int) (l:List S34) (t many:Int):(runF a l t many).2.1.length≤6 ∧ ∀ q ∈ (runF a l t many).2.1,q.f0.length≤40:=by
  unfold runF
  by_cases c:GT a l t∧0≤many∧many≤200
  · rw[if_pos c]
    have h6:=c.1.2.2.1
    exact runR_small _ _ _ _ _ (by omega) (fun q hq=>(c.1.1 q hq).2.1)
  · rw[if_neg c]
    exact⟨Nat.zero_le _,(fun q hq=>by cases hq)⟩
theorem srun : ∀ (m k:Nat) (a:Int) (l:List S34) (t n:Int),l.length≤6→(∀ q ∈ l,q.f0.length≤40)→m≤200→0≤n→n+1000 * (m:Int)≤1000000→3001000+m < k→spec_RunRounds.l0 k (m:Int) n a l t=some (runR m a l t n)
  | 0,k,a,l,t,n,h1,h2,hm,n0,n1,hk=>by
    obtain⟨k,rfl⟩ : ∃ m,k=m+1:=⟨k - 1,by omega⟩
    rw[spec_RunRounds.l0,if_neg (by omega),runR]
  | m+1,k,a,l,t,n,h1,h2,hm,n0,n1,hk=>by
    obtain⟨k,rfl⟩ : ∃ m,k=m+1:=⟨k - 1,by omega⟩
    rw[spec_RunRounds.l0,if_pos (by omega),snext_is a l t (by omega) (fun q hq=>by have:=h2 q hq;omega) k (by omega),Option.bind_some,runR]
    obtain⟨p1,p2,p3⟩:=nextR_small a l t
    by_cases c:(nextR a l t).2.2.2.2=true
    · rw[if_pos c,if_pos c,wrap_in (x:=((m+1:Nat):Int) - 1) (by omega) (by omega),wrap_in (x:=n+((nextR a l t).2.2.2.1.length:Int)) (by omega) (by omega),show((m+1:Nat):Int) - 1=(m:Int) by omega]
      exact srun m k _ _ _ _ p1 p2 (by omega) (by omega) (by omega) (by omega)
    · rw[if_neg c,if_neg c]
theorem irun (many:Nat) : ∀ (m k:Nat) (a:Int) (l:List S34) (t n:Int) (i:Nat),i+m=many→l.length≤6→(∀ q ∈ l,q.f0.length≤40)→many≤200→0≤n→n+1000 * (m:Int)≤1000000→3001000+m < k→impl_RunRounds.l0 k n (many:Int) (i:Int) a l t=some (runR m a l t n)
  | 0,k,a,l,t,n,i,hi,h1,h2,hm,n0,n1,hk=>by
    obtain⟨k,rfl⟩ : ∃ m,k=m+1:=⟨k - 1,by omega⟩
    rw[impl_RunRounds.l0,if_neg (by omega),runR]
  | m+1,k,a,l,t,n,i,hi,h1,h2,hm,n0,n1,hk=>by
    obtain⟨k,rfl⟩ : ∃ m,k=m+1:=⟨k - 1,by omega⟩
    rw[impl_RunRounds.l0,if_pos (by omega),inext_is a l t (by omega) (fun q hq=>by have:=h2 q hq;omega) k (by omega),Option.bind_some,runR]
    obtain⟨p1,p2,p3⟩:=nextR_small a l t
    by_cases c:(nextR a l t).2.2.2.2=true
    · rw[if_pos c,if_pos c,wrap_succ (i:=i) (n:=200) (by omega) (by omega),wrap_in (x:=n+((nextR a l t).2.2.2.1.length:Int)) (by omega) (by omega)]
      exact irun many m k _ _ _ _ (i+1) (by omega) p1 p2 (by omega) (by omega) (by omega) (by omega)
    · rw[if_neg c,if_neg c]
theorem srunF (a:Int) (l:List S34) (t many:Int) (hn:l.length≤1048576) (hl : ∀ q ∈ l,q.f0.length≤1048576) (k:Nat) (hk:3002000 < k):spec_RunRounds.f k a l t many=some (runF a l t many):=by
  obtain⟨k,rfl⟩ : ∃ m,k=m+1:=⟨k - 1,by omega⟩
  unfold spec_RunRounds.f runF
  rw[sgoodT_is a l t hn hl _ (by omega),Option.bind_some,sin_is,Option.bind_some]
  by_cases c:GT a l t
  · rw[decide_eq_true c,if_pos rfl,spec_RunRounds.j0]
    have h6:=c.2.2.1
    by_cases c2:0≤many∧many≤200
    · rw[decide_eq_true c2,if_neg (by decide),own_is l a t hn hl k (by omega),Option.bind_some,if_pos ⟨c,c2⟩]
      dsimp only
      have:=srun many.toNat k a l t 0 (by omega) (fun q hq=>(c.1 q hq).2.1) (by omega) (by omega) (by omega) (by omega)
      rw[show((many.toNat:Nat):Int)=many by omega] at this
      exact this
    · rw[decide_eq_false c2,if_pos (by decide),if_neg (fun h=>c2 h.2)]
  · rw[decide_eq_false c,if_neg Bool.false_ne_true,spec_RunRounds.j0,if_pos rfl,if_neg (fun h=>c h.1)]
theorem irunF (a:Int) (l:List S34) (t many:Int) (hn:l.length≤1048576) (hl : ∀ q ∈ l,q.f0.length≤1048576) (k:Nat) (hk:3002000 < k):impl_RunRounds.f k a l t many=some (runF a l t many):=by
  obtain⟨k,rfl⟩ : ∃ m,k=m+1:=⟨k - 1,by omega⟩
  unfold impl_RunRounds.f runF
  rw[igoodT_is a l t hn hl _ (by omega),Option.bind_some,iin_is,Option.bind_some]
  by_cases c:GT a l t
  · rw[decide_eq_true c,if_pos rfl,impl_RunRounds.j0]
    have h6:=c.2.2.1
    by_cases c2:0≤many∧many≤200
    · rw[decide_eq_true c2,if_neg (by decide),copied_is l a t (by omega) (fun q hq=>by have:=(c.1 q hq).2.1;omega),Option.bind_some,if_pos ⟨c,c2⟩]
      dsimp only
      have:=irun many.toNat many.toNat k a l t 0 0 (by omega) (by omega) (fun q hq=>(c.1 q hq).2.1) (by omega) (by omega) (by omega) (by omega)
      rw[show((many.toNat:Nat):Int)=many by omega] at this
      exact this
    · rw[decide_eq_false c2,if_pos (by decide),if_neg (fun h=>c2 h.2)]
  · rw[decide_eq_false c,if_neg Bool.false_ne_true,impl_RunRounds.j0,if_pos rfl,if_neg (fun h=>c h.1)]

theorem new_ok (a n:Int) (ha:1≤a∧a≤50) (hn:1≤n∧n≤6):spec_NewTurns.f a n=some (a,List.replicate n.toNat z34,0,true):=by
  unfold spec_NewTurns.f
  rw[sin_is,Option.bind_some,decide_eq_true ha,if_pos rfl,sin_is,Option.bind_some,decide_eq_true hn,if_pos rfl,if_pos (by omega),if_pos (by omega)]
theorem new_GT (a n:Int) (ha:1≤a∧a≤50) (hn:1≤n∧n≤6):GT a (List.replicate n.toNat z34) 0:=by
  refine⟨fun q hq => ?_,ha,by rw[List.length_replicate];omega,by omega⟩
  rw[List.eq_of_mem_replicate hq]
  exact⟨(fun x hx=>by cases hx),Nat.zero_le _,by decide,by decide,fun _=>rfl⟩
theorem next_GT (a:Int) (l:List S34) (t:Int) (h:(nextR a l t).2.2.2.2=true):GT a l t∧GT a (l.map (svQ a)) (t+1)∧nextR a l t=(a,l.map (svQ a),t+1,outs a 0 l,true):=by
  unfold nextR at h ⊢
  by_cases c:GT a l t∧GT a (l.map (svQ a)) (t+1)
  · rw[if_pos c]
    exact⟨c.1,c.2,rfl⟩
  · rw[if_neg c] at h
    cases h
theorem put_GT (a:Int) (l:List S34) (t i x:Int) (h:(putLong a l t i x).2.2.2=true):GT a l t∧(0≤i∧i < (l.length:Int))∧(1≤x∧x≤50)∧putLong a l t i x=(a,l.set i.toNat ⟨(rd_T34 l i).f0++[x],(rd_T34 l i).f1,(rd_T34 l i).f2⟩,t,true)∧GT a (l.set i.toNat ⟨(rd_T34 l i).f0++[x],(rd_T34 l i).f1,(rd_T34 l i).f2⟩) t:=by
  unfold putLong at h ⊢
  by_cases c:GT a l t∧(0≤i∧i < (l.length:Int))∧(1≤x∧x≤50)∧(((rd_T34 l i).f0).length:Int)≠40
  · rw[if_pos c]
    have hm:=c.1.1 _ (rdI_mem l i c.2.1.1 c.2.1.2)
    refine⟨c.1,c.2.1,c.2.2.1,rfl,fun q hq => ?_,c.1.2.1,by rw[List.length_set];exact c.1.2.2.1,c.1.2.2.2⟩
    rcases List.mem_or_eq_of_mem_set hq with h1|h1
    · exact c.1.1 q h1
    · rw[h1]
      refine⟨fun y hy => ?_,?_,hm.2.2.1,hm.2.2.2.1,fun h0 => ?_⟩
      · rcases List.mem_append.mp hy with h2|h2
        · exact hm.1 y h2
        · rw[List.mem_singleton.mp h2];exact c.2.2.1
      · have h5:=hm.2.1
        have h6:=c.2.2.2
        show((rd_T34 l i).f0++[x]).length≤40
        rw[List.length_append,List.length_singleton]
        omega
      · have h7:((rd_T34 l i).f0++[x]).length=0:=h0
        rw[List.length_append,List.length_singleton] at h7
        omega
  · rw[if_neg c] at h
    cases h
def Sm (l:List S34):Prop:=1≤l.length∧l.length≤6 ∧ ∀ q ∈ l,q.f0.length≤40
theorem GT_Sm {a:Int} {l:List S34} {t:Int} (h:GT a l t):Sm l:=⟨by have:=h.2.2.1;omega,by have:=h.2.2.1;omega,fun q hq=>(h.1 q hq).2.1⟩
theorem turns_l0 (c:List Int) (hc : ∀ x ∈ c,(Lit.int .u8 x).wf=true) : ∀ (d k:Nat) (a:Int) (l:List S34) (t p u:Int),GT a l t→0≤p→p+20 * (d:Int)≤1000000000→3100000+d < k →
    ∃ a' l' t' p' u',spec_l1Cur_turns.l0 k (d:Int) c p u a l t=some (a',l',t',p',u')∧Sm l'∧p≤p'∧p'≤p+20 * (d:Int)+10
  | 0,k,a,l,t,p,u,hg,h0,h1,hk=>by
    obtain⟨k,rfl⟩ : ∃ m,k=m+1:=⟨k - 1,by omega⟩
    have hs:=GT_Sm hg
    rw[spec_l1Cur_turns.l0,if_neg (by omega)]
    obtain⟨r,p1,u1,e1,_,_,_,g1,g2⟩:=pick_ok c hc p u 40 h0 (by omega)
    rw[e1,Option.bind_some]
    dsimp only
    by_cases c1:r=0
    · obtain⟨r2,p2,u2,e2,_,g3,g4⟩:=among_ok c hc p1 u1 [-1,100,101] (by decide) (by omega) (by omega)
      rw[if_pos c1,e2,Option.bind_some]
      dsimp only
      rw[if_pos (by have:=hs.1;omega)]
      refine⟨_,_,_,_,_,rfl,⟨by rw[List.length_set];exact hs.1,by rw[List.length_set];exact hs.2.1,fun q hq => ?_⟩,by omega,by omega⟩
      rcases List.mem_or_eq_of_mem_set hq with h|h
      · exact hs.2.2 q h
      · rw[h]
        show(rd_T34 l 0).f0.length≤40
        exact hs.2.2 _ (rdI_mem l 0 (by omega) (by have:=hs.1;omega))
    · rw[if_neg c1]
      by_cases c2:r=1
      · obtain⟨r2,p2,u2,e2,_,g3,g4⟩:=among_ok c hc p1 u1 [-1,1000000,1000001] (by decide) (by omega) (by omega)
        rw[if_pos c2,e2,Option.bind_some]
        exact⟨_,_,_,_,_,rfl,hs,by dsimp only;omega,by dsimp only;omega⟩
      · rw[if_neg c2]
        exact⟨_,_,_,_,_,rfl,hs,by omega,by omega⟩
  | d+1,k,a,l,t,p,u,hg,h0,h1,hk=>by
    obtain⟨k,rfl⟩ : ∃ m,k=m+1:=⟨k - 1,by omega⟩
    have hs:=GT_Sm hg
    have hn:l.length≤1048576:=by have:=hs.2.1;omega
    have hl : ∀ q ∈ l,q.f0.length≤1048576:=fun q hq=>by have:=hs.2.2 q hq;omega
    have hw:wrap64 (((d+1:Nat):Int) - 1)=(d:Int):=by rw[wrap_in (by omega) (by omega)];omega
    rw[spec_l1Cur_turns.l0,if_pos (by omega)]
    obtain⟨b,p1,u1,e1,g1,g2⟩:=one_ok c hc p u 5 h0 (by omega)
    rw[e1,Option.bind_some]
    dsimp only
    by_cases cb:b=true
    · rw[if_pos cb,snext_is a l t hn hl k (by omega),Option.bind_some,hw]
      by_cases c1:(nextR a l t).2.2.2.2=true
      · obtain⟨_,hg2,e⟩:=next_GT a l t c1
        rw[if_pos c1,e]
        obtain⟨a',l',t',p',u',e3,h3,h4,h5⟩:=turns_l0 c hc d k a (l.map (svQ a)) (t+1) p1 u1 hg2 (by omega) (by omega) (by omega)
        exact⟨a',l',t',p',u',e3,h3,by omega,by omega⟩
      · rw[if_neg c1]
        obtain⟨a',l',t',p',u',e3,h3,h4,h5⟩:=turns_l0 c hc d k a l t p1 u1 hg (by omega) (by omega) (by omega)
        exact⟨a',l',t',p',u',e3,h3,by omega,by omega⟩
    · rw[if_neg cb]
      obtain⟨r2,p2,u2,e2,_,_,_,g3,g4⟩:=pick_ok c hc p1 u1 (l.length:Int) (by omega) (by omega)
      rw[e2,Option.bind_some]
      dsimp only
      obtain⟨r3,p3,u3,e3,_,_,_,g5,g6⟩:=pick_ok c hc p2 u2 30 (by omega) (by omega)
      rw[e3,Option.bind_some]
      dsimp only
      rw[sput_is a l t _ _ hn hl k (by omega),Option.bind_some,hw]
      by_cases c1:(putLong a l t r2 (wrap64 (1+r3))).2.2.2=true
      · obtain⟨_,_,_,e,hg2⟩:=put_GT a l t r2 _ c1
        rw[if_pos c1,e]
        obtain⟨a',l',t',p',u',e3,h3,h4,h5⟩:=turns_l0 c hc d k a _ t p3 u3 hg2 (by omega) (by omega) (by omega)
        exact⟨a',l',t',p',u',e3,h3,by omega,by omega⟩
      · rw[if_neg c1]
        obtain⟨a',l',t',p',u',e3,h3,h4,h5⟩:=turns_l0 c hc d k a l t p3 u3 hg (by omega) (by omega) (by omega)
        exact⟨a',l',t',p',u',e3,h3,by omega,by omega⟩
theorem turns_ok (c:List Int) (hc : ∀ x ∈ c,(Lit.int .u8 x).wf=true) (k:Nat) (hk:3200000 < k) : ∃ a l t p u,spec_l1Cur_turns.f k c 0 0=some (a,l,t,p,u)∧Sm l∧0≤p∧p≤1000:=by
  obtain⟨k,rfl⟩ : ∃ m,k=m+1:=⟨k - 1,by omega⟩
  unfold spec_l1Cur_turns.f
  obtain⟨r,p1,u1,e1,r0,r1,_,g1,g2⟩:=pick_ok c hc 0 0 20 (by omega) (by omega)
  rw[e1,Option.bind_some]
  dsimp only
  obtain⟨s,p2,u2,e2,s0,s1,_,g3,g4⟩:=pick_ok c hc p1 u1 4 (by omega) (by omega)
  rw[e2,Option.bind_some]
  dsimp only
  rw[wrap_in (x:=1+r) (by omega) (by omega),wrap_in (x:=1+s) (by omega) (by omega),new_ok _ _ (by omega) (by omega),Option.bind_some,if_pos rfl,spec_l1Cur_turns.j0]
  obtain⟨m,p3,u3,e3,m0,m1,_,g5,g6⟩:=pick_ok c hc p2 u2 20 (by omega) (by omega)
  rw[e3,Option.bind_some]
  dsimp only
  have hg:=new_GT (1+r) (1+s) (by omega) (by omega)
  obtain⟨d,hd⟩ : ∃ d:Nat,m=(d:Int):=⟨m.toNat,by omega⟩
  subst hd
  obtain⟨a',l',t',p',u',e4,h3,h4,h5⟩:=turns_l0 c hc d k (1+r) _ 0 p3 u3 hg (by omega) (by omega) (by omega)
  exact⟨a',l',t',p',u',e4,h3,by omega,by omega⟩

theorem sameI_l0 (a:List Int) (hn:a.length≤1000000) (d:Nat) : ∀ (k i:Nat),a.length - i=d→d < k→laws_sameInts.l0 k a a (a.length:Int) (i:Int)=some true:=by
  induction d with
  | zero =>
    intro k i hd hk
    obtain⟨k,rfl⟩ : ∃ m,k=m+1:=⟨k - 1,by omega⟩
    rw[laws_sameInts.l0,if_neg (by omega)]
  | succ d ih =>
    intro k i hd hk
    obtain⟨k,rfl⟩ : ∃ m,k=m+1:=⟨k - 1,by omega⟩
    rw[laws_sameInts.l0,if_pos (by omega),if_pos (by omega),if_pos (by omega),if_pos (by omega),if_pos rfl,wrap_succ (n:=a.length) (by omega) (by omega)]
    exact ih k (i+1) (by omega) (by omega)
theorem sameI (a:List Int) (hn:a.length≤1000000) (k:Nat) (hk:a.length < k):laws_sameInts.f k a a=some true:=by
  unfold laws_sameInts.f
  rw[if_pos rfl]
  exact sameI_l0 a hn a.length k 0 (by omega) hk
theorem sameT_l0 (a t:Int) (l:List S34) (hn:l.length≤1000000) (hl : ∀ q ∈ l,q.f0.length≤1000000) (d:Nat) : ∀ (k i:Nat),l.length - i=d→1000000+d < k→laws_sameTurns.l0 k (l.length:Int) (i:Int) a l t a l t=some true:=by
  induction d with
  | zero =>
    intro k i hd hk
    obtain⟨k,rfl⟩ : ∃ m,k=m+1:=⟨k - 1,by omega⟩
    rw[laws_sameTurns.l0,if_neg (by omega)]
  | succ d ih =>
    intro k i hd hk
    obtain⟨k,rfl⟩ : ∃ m,k=m+1:=⟨k - 1,by omega⟩
    have hm:=hl _ (rd110_mem l i (by omega))
    rw[laws_sameTurns.l0,if_pos (by omega),if_pos (by omega),if_pos (by omega),if_pos (by omega),if_pos rfl,if_pos rfl,sameI _ hm k (by omega),Option.bind_some,if_pos rfl,wrap_succ (n:=l.length) (by omega) (by omega)]
    exact ih k (i+1) (by omega) (by omega)
theorem sameT (a t:Int) (l:List S34) (hn:l.length≤1000000) (hl : ∀ q ∈ l,q.f0.length≤1000000) (k:Nat) (hk:2000001 < k):laws_sameTurns.f k a l t a l t=some true:=by
  obtain⟨k,rfl⟩ : ∃ m,k=m+1:=⟨k - 1,by omega⟩
  unfold laws_sameTurns.f
  rw[if_pos rfl,if_pos rfl,bne_self_eq_false,laws_sameTurns.j0,if_neg Bool.false_ne_true]
  exact sameT_l0 a t l hn hl l.length k 0 (by omega) (by omega)
theorem sv_law : ∀ (L:List Int) (d s:Int),((sv L d s).1≠[]→(sv L d s).2.1 < rd (sv L d s).1 0∧(sv L d s).2.2.1+(sv L d s).2.1=s+d)∧(sv L d s).2.2.1+(sv L d s).1.sum=s+L.sum
  | [],_,_=>⟨fun h=>absurd rfl h,rfl⟩
  | x::xs,d,s=>by
    obtain⟨h1,h2⟩:=sv_law xs (d - x) (s+x)
    unfold sv
    by_cases c:x≤d
    · rw[if_pos c]
      refine⟨fun h => ?_,?_⟩
      · have:=h1 h
        exact⟨this.1,by dsimp only;omega⟩
      · dsimp only
        rw[h2,List.sum_cons]
        omega
    · rw[if_neg c]
      exact⟨fun _=>⟨by rw[rd_cons];dsimp only;omega,rfl⟩,rfl⟩
theorem svQ_law (a:Int) (q:S34):((svQ a q).f0≠[]→(svQ a q).f1 < rd (svQ a q).f0 0∧(svQ a q).f2+(svQ a q).f1=q.f2+(q.f1+a))∧(svQ a q).f2+(svQ a q).f0.sum=q.f2+q.f0.sum:=by
  unfold svQ
  by_cases c:q.f0=[]
  · rw[if_pos c]
    exact⟨fun h=>absurd c h,rfl⟩
  · rw[if_neg c]
    exact sv_law q.f0 (q.f1+a) q.f2
theorem sum_bound : ∀ (L:List Int),(∀ x ∈ L,1≤x∧x≤50)→0≤L.sum∧L.sum≤50 * (L.length:Int)
  | [],_=>by simp
  | x::xs,h=>by
    have h1:=sum_bound xs (fun y hy=>h y (List.mem_cons_of_mem _ hy))
    have h2:=h x List.mem_cons_self
    rw[List.sum_cons,List.length_cons]
    omega
theorem drop_sum (L:List Int) (i:Nat) (h:i < L.length):(L.drop i).sum=rd L (i:Int)+(L.drop (i+1)).sum:=by
  rw[dropInt L i h,List.sum_cons]
theorem rd_map (a:Int) (l:List S34) (i:Nat) (h:i < l.length):rd_T34 (l.map (svQ a)) (i:Int)=svQ a (rd_T34 l (i:Int)):=by
  unfold rd_T34
  simp[List.getD_eq_getElem?_getD,List.getElem?_eq_getElem h]

theorem drawRun_ok (c:List Int) (hc : ∀ x ∈ c,(Lit.int .u8 x).wf=true) (k:Nat) (hk:3200000 < k) : ∃ a l t m,spec_DrawRunRounds.f k c=some (a,l,t,m)∧Sm l:=by
  obtain⟨a,l,t,p,u,e,hs,p0,p1⟩:=turns_ok c hc k hk
  unfold spec_DrawRunRounds.f
  rw[e,Option.bind_some]
  dsimp only
  obtain⟨r,p2,u2,e2,_,g1,g2⟩:=among_ok c hc p u [-1,0,1,3,10,200,201] (by decide) (by omega) (by omega)
  rw[e2,Option.bind_some]
  exact⟨_,_,_,_,rfl,hs⟩
def Fq (m:Nat) (a:Int) (q q':S34):Prop:=q'.f0≠[]→q.f0≠[]∧q'.f2+q'.f1=q.f2+q.f1+(m:Int) * a∧(0 < m→q'.f1 < 50)
theorem run_fair : ∀ (m:Nat) (a:Int) (l:List S34) (t n:Int),GT a l t→(runR m a l t n).2.2.2.2=true →
    (runR m a l t n).1=a∧(runR m a l t n).2.2.1=t+m∧(runR m a l t n).2.1.length=l.length∧GT a (runR m a l t n).2.1 (t+m) ∧ ∀ i:Nat,i < l.length→Fq m a (rd_T34 l (i:Int)) (rd_T34 (runR m a l t n).2.1 (i:Int))
  | 0,a,l,t,n,hg,_=>by
    refine⟨rfl,?_,rfl,?_,fun i hi h=>⟨h,?_,fun h=>absurd h (by omega)⟩⟩
    · show t=t+((0:Nat):Int)
      omega
    · show GT a l (t+((0:Nat):Int))
      rw[show t+((0:Nat):Int)=t by omega]
      exact hg
    · show(rd_T34 l (i:Int)).f2+(rd_T34 l (i:Int)).f1=(rd_T34 l (i:Int)).f2+(rd_T34 l (i:Int)).f1+((0:Nat):Int) * a
      simp
  | m+1,a,l,t,n,hg,h=>by
    rw[runR] at h ⊢
    by_cases c:(nextR a l t).2.2.2.2=true
    · obtain⟨_,hg2,e⟩:=next_GT a l t c
      rw[if_pos c,e] at h ⊢
      dsimp only at h ⊢
      obtain⟨r1,r2,r3,r4,r5⟩:=run_fair m a (l.map (svQ a)) (t+1) _ hg2 h
      have et:t+1+(m:Int)=t+((m+1:Nat):Int):=by omega
      rw[et] at r2 r4
      rw[List.length_map] at r3
      refine⟨r1,r2,r3,r4,fun i hi hne => ?_⟩
      obtain⟨s1,s2,s3⟩:=r5 i (by rw[List.length_map];exact hi) hne
      rw[rd_map a l i hi] at s1 s2
      obtain⟨v1,_⟩:=svQ_law a (rd_T34 l (i:Int))
      obtain⟨w1,w2⟩:=v1 s1
      have hq:=hg2.1 _ (rd110_mem (l.map (svQ a)) i (by rw[List.length_map];exact hi))
      rw[rd_map a l i hi] at hq
      refine⟨fun h0=>s1 ?_,?_,fun _ => ?_⟩
      · unfold svQ
        rw[if_pos h0]
        exact h0
      · have e2:((m+1:Nat):Int) * a=(m:Int) * a+a:=by
          rw[show((m+1:Nat):Int)=(m:Int)+1 by omega,Int.add_mul,Int.one_mul]
        rw[s2,w2,e2]
        omega
      · by_cases hm:0 < m
        · exact s3 hm
        · obtain rfl:m=0:=by omega
          have e3:rd_T34 (runR 0 a (l.map (svQ a)) (t+1) (n+((outs a 0 l).length:Int))).2.1 (i:Int)=svQ a (rd_T34 l (i:Int)):=rd_map a l i hi
          rw[e3]
          have hh:=hq.1 (rd (svQ a (rd_T34 l (i:Int))).f0 0) (rd_mem _ 0 (by omega) (by
            rcases hL:(svQ a (rd_T34 l (i:Int))).f0 with _|⟨y,ys⟩
            · exact absurd hL s1
            · simp only[List.length_cons];omega))
          omega
    · rw[if_neg c] at h
      cases h
theorem law_l1 (m:Nat) (a t u:Int) (l X:List S34) (hl:GT a l t) (hX:GT a X u) (hm:m≤200) (hlen:X.length=l.length) (hf : ∀ i:Nat,i < l.length→Fq m a (rd_T34 l (i:Int)) (rd_T34 X (i:Int))) (i:Nat) (hi:i < l.length) (d:Nat) : ∀ (k j:Nat),X.length - j=d→j≤X.length →
    laws_FnFair.l1 (k+2 * d+1) (m:Int) (i:Int) X (X.length:Int) (i:Int) X (X.length:Int) (j:Int) a l t a X u (rd_T34 X (i:Int)).f0 (rd_T34 X (i:Int)).f1 (rd_T34 X (i:Int)).f2=laws_FnFair.l0 k (m:Int) X (X.length:Int) (wrap64 ((i:Int)+1)) a l t a X u:=by
  have h6:=hl.2.2.1
  induction d with
  | zero =>
    intro k j hd hj
    rw[laws_FnFair.l1,if_neg (by omega)]
  | succ d ih =>
    intro k j hd hj
    have step : ∀ b:Bool,(b=false→(rd_T34 X (i:Int)).f0≠[]∧(rd_T34 X (j:Int)).f0≠[])→laws_FnFair.j3 (k+2 * d+1+1) (m:Int) (i:Int) (j:Int) X (X.length:Int) (i:Int) X (X.length:Int) (j:Int) b a l t a X u (rd_T34 X (i:Int)).f0 (rd_T34 X (i:Int)).f1 (rd_T34 X (i:Int)).f2 (rd_T34 X (j:Int)).f0 (rd_T34 X (j:Int)).f1 (rd_T34 X (j:Int)).f2=laws_FnFair.l0 k (m:Int) X (X.length:Int) (wrap64 ((i:Int)+1)) a l t a X u:=by
      intro b hb
      have hw:wrap64 ((j:Int)+1)=((j+1:Nat):Int):=wrap_succ (n:=X.length) (by omega) (by omega)
      have go:=ih k (j+1) (by omega) (by omega)
      cases b with
      | true =>
        rw[laws_FnFair.j3,if_pos rfl,hw]
        exact go
      | false =>
        obtain⟨n1,n2⟩:=hb rfl
        have fi:=hf i hi n1
        have fj:=hf j (by omega) n2
        have gi:=hl.1 _ (rd110_mem l i hi)
        have gj:=hl.1 _ (rd110_mem l j (by omega))
        have xi:=hX.1 _ (rd110_mem X i (by omega))
        have xj:=hX.1 _ (rd110_mem X j (by omega))
        rw[laws_FnFair.j3,if_neg Bool.false_ne_true,if_pos (by omega),if_pos (by omega),if_pos (by omega),if_pos (by omega),hw]
        generalize rd_T34 X (i:Int)=P at *
        generalize rd_T34 X (j:Int)=Q at *
        generalize rd_T34 l (i:Int)=p at *
        generalize rd_T34 l (j:Int)=q at *
        by_cases c:(m:Int) > 0
        · have a1:=fi.2.1
          have a2:=fj.2.1
          have a3:=fj.2.2 (by omega)
          have b1:=gi.2.2.1
          have b2:=gi.2.2.2.1
          have b3:=gj.2.2.1
          have b4:=gj.2.2.2.1
          have b5:=xi.2.2.1
          have b6:=xi.2.2.2.1
          have b7:=xj.2.2.1
          have b8:=xj.2.2.2.1
          have ha:=hl.2.1
          have hma:0≤(m:Int) * a∧(m:Int) * a≤10000:=⟨Int.mul_nonneg (by omega) (by omega),by
            have h1:(m:Int) * a≤200 * a:=Int.mul_le_mul_of_nonneg_right (by omega) (by omega)
            omega⟩
          generalize (m:Int) * a=z at *
          rw[if_pos c,wrap_in (x:=P.f2 - p.f2) (by omega) (by omega),wrap_in (x:=Q.f2 - q.f2) (by omega) (by omega),wrap_in (x:=P.f2 - p.f2 - (Q.f2 - q.f2)) (by omega) (by omega),wrap_in (x:=50+p.f1) (by omega) (by omega),if_neg (by omega),wrap_in (x:=z) (by omega) (by omega),wrap_in (x:=z+p.f1) (by omega) (by omega),if_neg (by omega)]
          exact go
        · rw[if_neg c]
          exact go
    rw[show k+2 * (d+1)+1=(k+2 * d+1+1)+1 by omega,laws_FnFair.l1,if_pos (by omega),if_pos (by omega),if_pos (by omega)]
    by_cases c:(rd_T34 X (i:Int)).f0=[]
    · rw[if_pos (by rw[c];rfl)]
      exact step true (fun h=>by cases h)
    · rw[if_neg (fun h=>c (List.length_eq_zero_iff.mp (by omega)))]
      refine step _ (fun h=>⟨c,fun h2 => ?_⟩)
      rw[h2] at h
      cases h
theorem law_l0 (m:Nat) (a t:Int) (l X:List S34) (ht : -1000000000≤t+(m:Int)∧t+(m:Int)≤1000000000) (hl:GT a l t) (hX:GT a X (t+(m:Int))) (hm:m≤200) (hlen:X.length=l.length) (hf : ∀ i:Nat,i < l.length→Fq m a (rd_T34 l (i:Int)) (rd_T34 X (i:Int))) (d:Nat) : ∀ (k i:Nat),X.length - i=d→i≤X.length→100 * d < k →
    laws_FnFair.l0 k (m:Int) X (X.length:Int) (i:Int) a l t a X (t+(m:Int))=some true:=by
  have h6:=hX.2.2.1
  induction d with
  | zero =>
    intro k i hd hi hk
    obtain⟨k,rfl⟩ : ∃ m,k=m+1:=⟨k - 1,by omega⟩
    rw[laws_FnFair.l0,if_neg (by omega),wrap_in (x:=t+(m:Int)) (by omega) (by omega)]
    simp
  | succ d ih =>
    intro k i hd hi hk
    obtain⟨k,rfl⟩ : ∃ q,k=(q+2 * X.length+1)+1:=⟨k - (2 * X.length+2),by omega⟩
    rw[laws_FnFair.l0,if_pos (by omega),if_pos (by omega),if_pos (by omega),show(0:Int)=((0:Nat):Int) from rfl,law_l1 m a t (t+(m:Int)) l X hl hX hm hlen hf i (by omega) X.length k 0 (by omega) (by omega),wrap_succ (n:=X.length) (by omega) (by omega)]
    exact ih k (i+1) (by omega) (by omega) (by omega)
theorem runR_none : ∀ (m:Nat) (a:Int) (l:List S34) (t n:Int),¬ (runR m a l t n).2.2.2.2=true→(runR m a l t n).2.2.2.1=0
  | 0,_,_,_,_,h=>absurd rfl h
  | m+1,a,l,t,n,h=>by
    rw[runR] at h ⊢
    by_cases c:(nextR a l t).2.2.2.2=true
    · rw[if_pos c] at h ⊢
      exact runR_none m _ _ _ _ h
    · rw[if_neg c]
theorem FnFair:laws_FnFair.Stmt:=by
  intro c ⟨hc,hcw⟩
  refine⟨3300003,?_⟩
  unfold laws_FnFair.f
  by_cases c1:(c.length:Int) > 1048576
  · rw[if_pos c1]
  rw[if_neg c1]
  obtain⟨a,l,t,m,e1,hs⟩:=drawRun_ok c hcw 3300003 (by omega)
  have hn:l.length≤1048576:=by have:=hs.2.1;omega
  have hl : ∀ q ∈ l,q.f0.length≤1048576:=fun q hq=>by have:=hs.2.2 q hq;omega
  obtain⟨p1,p2⟩:=runF_small a l t m
  rw[e1,Option.bind_some]
  dsimp only
  rw[irunF a l t m hn hl _ (by omega),Option.bind_some,srunF a l t m hn hl _ (by omega),Option.bind_some,bne_self_eq_false,if_neg Bool.false_ne_true,if_pos rfl,sameT _ _ _ (by omega) (fun q hq=>by have:=p2 q hq;omega) _ (by omega),Option.bind_some,Bool.not_true,laws_FnFair.j0,if_neg Bool.false_ne_true]
  by_cases c2:(runF a l t m).2.2.2.2=true
  · rw[if_pos c2]
    have c3:GT a l t∧0≤m∧m≤200:=by
      by_cases c3:GT a l t∧0≤m∧m≤200
      · exact c3
      · unfold runF at c2
        rw[if_neg c3] at c2
        cases c2
    have eF:runF a l t m=runR m.toNat a l t 0:=if_pos c3
    rw[eF] at c2 ⊢
    obtain⟨M,hM⟩ : ∃ M:Nat,m=(M:Int):=⟨m.toNat,by omega⟩
    subst hM
    rw[show((M:Int)).toNat=M from rfl] at c2 ⊢
    obtain⟨r1,r2,r3,r4,r5⟩:=run_fair M a l t 0 c3.1 c2
    rw[r1,r2]
    have h7:=c3.1.2.2.2
    exact law_l0 M a t l (runR M a l t 0).2.1 (by omega) c3.1 r4 (by omega) r3 r5 (runR M a l t 0).2.1.length 3300002 0 (by omega) (by omega) (by have:=c3.1.2.2.1;omega)
  · rw[if_neg c2]
    have e0:(runF a l t m).2.2.2.1=0:=by
      unfold runF at c2 ⊢
      by_cases c3:GT a l t∧0≤m∧m≤200
      · rw[if_pos c3] at c2 ⊢
        exact runR_none _ _ _ _ _ c2
      · rw[if_neg c3]
    rw[e0]
    rfl

end Go.Proofs.Ythghcoepkknkeaa.Pure
