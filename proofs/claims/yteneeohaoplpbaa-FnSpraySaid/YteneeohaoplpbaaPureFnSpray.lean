/- Tokens are neither lost nor made, no more carry it than there are, and it is there for good, for all bytes that the meetings are drawn from. -/
import Derived.Test.YteneeohaoplpbaaXFnSprayx10
set_option linter.unusedVariables false
set_option linter.unusedSimpArgs false
namespace Go.Proofs.Yteneeohaoplpbaa.Pure
open Go.RowKit Go.Proofs.Yteneeohaoplpbaa.XFnSpray Go.Proofs.YteneeohaoplpbaaW.PrintWords Go.Proofs.YteneeohaoplpbaaW.PrintLast Go.Proofs.YteneeohaoplpbaaW.PrintMore

def laws_FnSpray.Stmt:Prop:=∀ (l0:List Int) (l1:List Int),(l0.length≤maxLen ∧ ∀ x ∈ l0,(Lit.int .u8 x).wf=true)→(l1.length≤maxLen ∧ ∀ x ∈ l1,(Lit.int .u8 x).wf=true) → ∃ k,laws_FnSpray.f k l0 l1=some true

theorem wrap_in {x:Int} (h0 : -9223372036854775808≤x) (h1:x≤9223372036854775807):wrap64 x=x:=by
  unfold wrap64
  omega
theorem wrap_succ {i n:Nat} (h:i < n) (hn:n≤9223372036854775807):wrap64 ((i:Int)+1)=((i+1:Nat):Int):=by
  rw[wrap_in (by omega) (by omega)]
  omega

theorem in_eq (a b c:Int):spec_l1In.f a b c=some (decide (b≤a∧a≤c)):=by
  unfold spec_l1In.f
  by_cases h:b≤a<;>simp[h]
theorem within_eq (a b c:Int):impl_within.f a b c=some (decide (b≤a∧a≤c)):=by
  unfold impl_within.f
  by_cases h:b≤a<;>simp[h]

theorem dropInt (l:List Int) (i:Nat) (h:i < l.length):l.drop i=rd l (i:Int)::l.drop (i+1):=by
  rw[List.drop_eq_getElem_cons h]
  unfold rd
  simp[List.getD_eq_getElem?_getD,List.getElem?_eq_getElem h]
theorem iin_is (a b c:Int):impl_within.f a b c=some (decide (b≤a∧a≤c)):=by
  unfold impl_within.f
  by_cases h:b≤a<;>simp[h]
def total (m:Int) (l:List Int):Int:=l.foldl (fun a x=>wrap64 (a+x)) m
theorem tokens_l0 (x:List Int) (hn:x.length≤1048576) (d:Nat) : ∀ (k i:Nat) (m:Int),x.length - i=d→i≤x.length→d < k→impl_Spray_tokens.l0 k m x (x.length:Int) (i:Int)=some (total m (x.drop i)):=by
  induction d with
  | zero =>
    intro k i m hd hi hk
    obtain⟨k,rfl⟩ : ∃ m,k=m+1:=⟨k - 1,by omega⟩
    simp only[impl_Spray_tokens.l0]
    rw[if_neg (by omega),List.drop_of_length_le (by omega)]
    rfl
  | succ d ih =>
    intro k i m hd hi hk
    obtain⟨k,rfl⟩ : ∃ m,k=m+1:=⟨k - 1,by omega⟩
    simp only[impl_Spray_tokens.l0]
    rw[if_pos (by omega),if_pos (by omega),if_pos (by omega),wrap_succ (n:=x.length) (by omega) (by omega),ih k (i+1) _ (by omega) (by omega) (by omega),dropInt x i (by omega)]
    rfl
theorem tokens_is (x:List Int) (b:Int) (c:Bool) (hn:x.length≤1048576) (k:Nat) (hk:1048576 < k):impl_Spray_tokens.f k x b c=some (total 0 x):=by
  unfold impl_Spray_tokens.f
  rw[show(0:Int)=((0:Nat):Int) from rfl,tokens_l0 x hn x.length k 0 _ (by omega) (by omega) (by omega),List.drop_zero]
theorem ilit_is (a:Int):impl_GoodSpray_lit1.f a=some (!decide (0≤a∧a≤64)):=by
  unfold impl_GoodSpray_lit1.f
  rw[iin_is]
  rfl
theorem idx_l0 (x:List Int) (hn:x.length≤1048576) (d:Nat) : ∀ (i:Nat),x.length - i=d→i≤x.length →
    ∃ r:Int,(r ≥ 0 ↔ ¬ ∀ y ∈ x.drop i,0≤y∧y≤64) ∧ ∀ k,d < k→slices_IndexFunc_int_int_impl_GoodSpray_lit1.l0 k x (x.length:Int) (i:Int)=some r:=by
  induction d with
  | zero =>
    intro i hd hi
    refine⟨-1,?_,fun k hk => ?_⟩
    · rw[List.drop_of_length_le (by omega)]
      simp
    · obtain⟨k,rfl⟩ : ∃ m,k=m+1:=⟨k - 1,by omega⟩
      simp only[slices_IndexFunc_int_int_impl_GoodSpray_lit1.l0]
      rw[if_neg (by omega)]
  | succ d ih =>
    intro i hd hi
    by_cases c:0≤rd x (i:Int)∧rd x (i:Int)≤64
    · obtain⟨r,hr,h2⟩:=ih (i+1) (by omega) (by omega)
      refine⟨r,?_,fun k hk => ?_⟩
      · rw[hr,dropInt x i (by omega)]
        simp only[List.forall_mem_cons,c,true_and,and_self]
      · obtain⟨k,rfl⟩ : ∃ m,k=m+1:=⟨k - 1,by omega⟩
        simp only[slices_IndexFunc_int_int_impl_GoodSpray_lit1.l0]
        rw[if_pos (by omega),if_pos (by omega),if_pos (by omega),ilit_is,wrap_succ (n:=x.length) (by omega) (by omega)]
        simp only[Option.bind_some,c,and_self,decide_true,Bool.not_true,Bool.false_eq_true,if_false]
        exact h2 k (by omega)
    · refine⟨(i:Int),?_,fun k hk => ?_⟩
      · rw[dropInt x i (by omega)]
        exact⟨fun _ h=>c (h _ List.mem_cons_self),fun _=>by omega⟩
      · obtain⟨k,rfl⟩ : ∃ m,k=m+1:=⟨k - 1,by omega⟩
        simp only[slices_IndexFunc_int_int_impl_GoodSpray_lit1.l0]
        rw[if_pos (by omega),if_pos (by omega),if_pos (by omega),ilit_is,decide_eq_false c]
        simp only[Option.bind_some,Bool.not_false,if_true]
theorem cont_is (x:List Int) (hn:x.length≤1048576) (k:Nat) (hk:1048576 < k):slices_ContainsFunc_int_int_impl_GoodSpray_lit1.f k x=some (decide (¬ ∀ y ∈ x,0≤y∧y≤64)):=by
  unfold slices_ContainsFunc_int_int_impl_GoodSpray_lit1.f slices_IndexFunc_int_int_impl_GoodSpray_lit1.f
  obtain⟨r,hr,e⟩:=idx_l0 x hn x.length 0 (by omega) (by omega)
  rw[show(0:Int)=((0:Nat):Int) from rfl,e k (by omega)]
  simp only[Option.bind_some]
  rw[List.drop_zero] at hr
  congr 1
  rw[Bool.eq_iff_iff,decide_eq_true_eq,decide_eq_true_eq]
  exact hr

theorem sin_is (a b c:Int):spec_l1In.f a b c=some (decide (b≤a∧a≤c)):=by
  unfold spec_l1In.f
  by_cases h:a ≥ b
  · have h':b≤a:=h
    simp[h']
  · have h' : ¬ b≤a:=h
    simp[h']
theorem sspray_l0 (x:List Int) (hn:x.length≤1048576) (d:Nat) : ∀ (k i:Nat) (m:Int),x.length - i=d→i≤x.length→d < k →
    spec_GoodSpray.l0 k m x (x.length:Int) (i:Int)=some (decide ((∀ y ∈ x.drop i,0≤y∧y≤64)∧1≤total m (x.drop i)∧total m (x.drop i)≤64)):=by
  induction d with
  | zero =>
    intro k i m hd hi hk
    obtain⟨k,rfl⟩ : ∃ m,k=m+1:=⟨k - 1,by omega⟩
    simp only[spec_GoodSpray.l0]
    rw[if_neg (by omega),List.drop_of_length_le (by omega),sin_is]
    simp only[Option.bind_some]
    exact congrArg some (decide_eq_decide.mpr ⟨fun h=>⟨by simp,h⟩,fun h=>h.2⟩)
  | succ d ih =>
    intro k i m hd hi hk
    obtain⟨k,rfl⟩ : ∃ m,k=m+1:=⟨k - 1,by omega⟩
    simp only[spec_GoodSpray.l0]
    rw[if_pos (by omega),if_pos (by omega),if_pos (by omega),sin_is,wrap_succ (n:=x.length) (by omega) (by omega),ih k (i+1) _ (by omega) (by omega) (by omega),dropInt x i (by omega)]
    simp only[Option.bind_some,decide_eq_true_eq]
    by_cases c:0≤rd x (i:Int)∧rd x (i:Int)≤64
    · rw[if_pos c]
      exact congrArg some (decide_eq_decide.mpr ⟨fun h=>⟨List.forall_mem_cons.mpr ⟨c,h.1⟩,h.2⟩,fun h=>⟨(List.forall_mem_cons.mp h.1).2,h.2⟩⟩)
    · rw[if_neg c]
      exact congrArg some (decide_eq_false fun h=>c (h.1 _ List.mem_cons_self)).symm
theorem sspray_is (x:List Int) (hn:x.length≤1048576) (k:Nat) (hk:1048576 < k):spec_GoodSpray.l0 k 0 x (x.length:Int) 0=some (decide ((∀ y ∈ x,0≤y∧y≤64)∧1≤total 0 x∧total 0 x≤64)):=by
  have:=sspray_l0 x hn x.length k 0 0 (by omega) (by omega) (by omega)
  rw[List.drop_zero] at this
  exact this
theorem spray_both (x:List Int) (b:Int) (c:Bool) (hn:x.length≤1048576) (k:Nat) (hk:1048577 < k) : ∃ r,spec_GoodSpray.f k x b c=some r∧impl_GoodSpray.f k x b c=some r:=by
  unfold spec_GoodSpray.f impl_GoodSpray.f impl_isWide.f
  obtain⟨k,rfl⟩ : ∃ m,k=m+1:=⟨k - 1,by omega⟩
  rw[sin_is,iin_is,iin_is,wrap_in (by omega) (by omega)]
  simp only[Option.bind_some,decide_eq_true_eq,spec_GoodSpray.j0,impl_GoodSpray.j0,if_true]
  by_cases c1:2≤(x.length:Int)∧(x.length:Int)≤8
  · rw[if_pos c1,if_pos c1]
    by_cases c2:0≤b∧b≤(x.length:Int) - 1
    · rw[if_pos c2]
      simp only[if_neg (show ¬ b < 0 by omega),if_neg (show ¬ b ≥ (x.length:Int) by omega),if_pos (show 0≤b by omega),if_pos (show b < (x.length:Int) by omega)]
      by_cases c3:(rd x b != 0)=true
      · rw[if_pos c3,if_pos c3]
        exact⟨_,rfl,rfl⟩
      · rw[if_neg c3,if_neg c3,cont_is x hn k (by omega),tokens_is x b c hn k (by omega),sspray_is x hn k (by omega)]
        simp only[Option.bind_some,decide_eq_true_eq]
        refine⟨_,rfl,?_⟩
        by_cases c4 : ∀ y ∈ x,0≤y∧y≤64
        · rw[if_neg (fun h=>h c4),iin_is]
          exact congrArg some (decide_eq_decide.mpr ⟨fun h=>⟨c4,h⟩,fun h=>h.2⟩)
        · rw[if_pos c4]
          exact congrArg some (decide_eq_false fun h=>c4 h.1).symm
    · rw[if_neg c2]
      by_cases c3:b < 0
      · rw[if_pos c3]
        exact⟨_,rfl,rfl⟩
      · rw[if_neg c3,if_pos (by omega)]
        exact⟨_,rfl,rfl⟩
  · rw[if_neg c1,if_neg c1]
    exact⟨_,rfl,rfl⟩

theorem sgood_all (x:List Int) (b:Int) (c:Bool) (hn:x.length≤1048576) (k:Nat) (hk:1048577 < k) (h:spec_GoodSpray.f k x b c=some true):(2≤x.length∧x.length≤8)∧(0≤b∧b < (x.length:Int))∧rd x b=0∧(∀ j:Int,0≤j→j < (x.length:Int)→0≤rd x j∧rd x j≤64)∧(∀ y ∈ x,0≤y∧y≤64)∧1≤total 0 x∧total 0 x≤64:=by
  unfold spec_GoodSpray.f at h
  obtain⟨k,rfl⟩ : ∃ m,k=m+1:=⟨k - 1,by omega⟩
  rw[sin_is] at h
  simp only[Option.bind_some,decide_eq_true_eq,spec_GoodSpray.j0,if_true] at h
  by_cases c1:2≤(x.length:Int)∧(x.length:Int)≤8
  · rw[if_pos c1] at h
    by_cases c2:b < 0
    · rw[if_pos c2] at h
      cases h
    · rw[if_neg c2] at h
      by_cases c3:b ≥ (x.length:Int)
      · rw[if_pos c3] at h
        cases h
      · rw[if_neg c3,if_pos (by omega),if_pos (by omega)] at h
        by_cases c4:(rd x b != 0)=true
        · rw[if_pos c4] at h
          cases h
        · rw[if_neg c4,sspray_is x hn k (by omega)] at h
          have g:=of_decide_eq_true (Option.some.inj h)
          refine⟨by omega,⟨by omega,by omega⟩,by simpa using c4,fun j h0 h1=>g.1 _ ?_,g⟩
          unfold rd
          rw[List.getD_eq_getElem?_getD,List.getElem?_eq_getElem (show j.toNat < x.length by omega)]
          exact List.getElem_mem _
  · rw[if_neg c1] at h
    cases h

theorem newSpray_eq (a b c d:Int) (ha:(Lit.int .i64 a).wf=true):impl_NewSpray.f a b c d=spec_NewSpray.f a b c d:=by
  unfold impl_NewSpray.f spec_NewSpray.f impl_isWide.f
  simp only[within_eq,in_eq,Option.bind_some]
  by_cases h:2≤a∧a≤8
  · have e:wrap64 (a - 1)=a - 1:=wrap_in (by omega) (by omega)
    simp only[e,h,and_self,decide_true,if_true]
    by_cases h1:0≤b∧b≤a - 1
    · simp only[h1,and_self,decide_true,if_true]
      rw[if_neg (show ¬ b < 0 by omega),if_neg (show ¬ b ≥ a by omega)]
      by_cases h2:0≤c∧c≤a - 1
      · simp only[h2,and_self,decide_true,if_true]
        rw[if_neg (show ¬ c < 0 by omega),if_neg (show ¬ c ≥ a by omega)]
      · simp only[h2,decide_false]
        by_cases h3:c < 0
        · rw[if_pos h3];rfl
        · rw[if_neg h3,if_pos (show c ≥ a by omega)];rfl
    · simp only[h1,decide_false]
      by_cases h3:b < 0
      · rw[if_pos h3];rfl
      · rw[if_neg h3,if_pos (show b ≥ a by omega)];rfl
  · simp[h]

theorem clone_is (x:List Int) (h:x.length≤1048576):slices_Clone_int_int.f x=some x:=by
  unfold slices_Clone_int_int.f
  rw[Option.bind_some,if_pos (by simp;omega),List.nil_append]
theorem sum_set : ∀ (l:List Int) (i:Nat) (v:Int),i < l.length→(l.set i v).sum=l.sum - rd l (i:Int)+v
  | [],i,v,h=>absurd h (by simp)
  | x::l,0,v,h=>by
    rw[show rd (x::l) ((0:Nat):Int)=x from rfl,List.set_cons_zero,List.sum_cons,List.sum_cons]
    omega
  | x::l,i+1,v,h=>by
    rw[show rd (x::l) ((i+1:Nat):Int)=rd l (i:Int) from rfl,List.set_cons_succ,List.sum_cons,List.sum_cons,sum_set l i v (by simpa using h)]
    omega
theorem rd_put (l:List Int) (i:Nat) (v j:Int) (hi:i < l.length) (hj:0≤j):rd (l.set i v) j=if j=(i:Int) then v else rd l j:=by
  unfold rd
  rw[List.getD_eq_getElem?_getD,List.getD_eq_getElem?_getD,List.getElem?_set]
  by_cases c:i=j.toNat
  · rw[if_pos c,if_pos hi,if_pos (by omega)]
    rfl
  · rw[if_neg c,if_neg (by omega)]
def Keep (x:List Int) (b:Int) (c:Bool) (R:List Int × Int × Bool × Bool):Prop:=R.2.1=b∧R.1.length=x.length∧rd R.1 b=0∧(∀ y ∈ R.1,0≤y∧y≤64)∧R.1.sum=x.sum∧(∀ j:Int,0≤j→0 < rd x j→0 < rd R.1 j)∧(c=true→R.2.2.1=true)
theorem keep_give (x:List Int) (b:Int) (c:Bool) (P Q:Int) (hP:0≤P∧P < (x.length:Int)) (hQ:0≤Q∧Q < (x.length:Int)) (hb:0≤b) (n1:P≠b) (n2:Q≠b) (n3:P≠Q) (hz:rd x b=0) (hm : ∀ y ∈ x,0≤y∧y≤64) (p2:rd x P ≥ 2) (p64:rd x P≤64) (q0:rd x Q=0) :
    Keep x b c ((x.set Q.toNat (wrap64 (Int.tdiv (rd x P) 2))).set P.toNat (wrap64 ((rd (x.set Q.toNat (wrap64 (Int.tdiv (rd x P) 2))) P) - (rd (x.set Q.toNat (wrap64 (Int.tdiv (rd x P) 2))) Q))),b,c,true):=by
  have td:Int.tdiv (rd x P) 2=rd x P / 2:=Int.tdiv_eq_ediv_of_nonneg (by omega)
  have wv:wrap64 (rd x P / 2)=rd x P / 2:=wrap_in (by omega) (by omega)
  have eP:((P.toNat:Nat):Int)=P:=by omega
  have eQ:((Q.toNat:Nat):Int)=Q:=by omega
  have a1:rd (x.set Q.toNat (rd x P / 2)) P=rd x P:=by rw[rd_put _ _ _ _ (by omega) hP.1,eQ,if_neg n3]
  have a2:rd (x.set Q.toNat (rd x P / 2)) Q=rd x P / 2:=by rw[rd_put _ _ _ _ (by omega) hQ.1,eQ,if_pos rfl]
  rw[td,wv,a1,a2,wrap_in (by omega) (by omega)]
  refine⟨rfl,by rw[List.length_set,List.length_set],?_,?_,?_,?_,id⟩
  · dsimp only
    rw[rd_put _ _ _ _ (by rw[List.length_set];omega) hb,eP,if_neg (fun e=>n1 e.symm),rd_put _ _ _ _ (by omega) hb,eQ,if_neg (fun e=>n2 e.symm)]
    exact hz
  · intro y hy
    rcases List.mem_or_eq_of_mem_set hy with h|h
    · rcases List.mem_or_eq_of_mem_set h with h|h
      · exact hm y h
      · omega
    · omega
  · dsimp only
    rw[sum_set _ _ _ (by rw[List.length_set];omega),eP,a1,sum_set _ _ _ (by omega),eQ,q0]
    omega
  · intro j hj hp
    dsimp only
    rw[rd_put _ _ _ _ (by rw[List.length_set];omega) hj,eP]
    by_cases c1:j=P
    · rw[if_pos c1]
      omega
    · rw[if_neg c1,rd_put _ _ _ _ (by omega) hj,eQ]
      by_cases c2:j=Q
      · rw[if_pos c2]
        omega
      · rw[if_neg c2]
        exact hp
theorem meet_is (x:List Int) (b:Int) (c:Bool) (A B:Int) (h8:2≤x.length∧x.length≤8) (hb:0≤b∧b < (x.length:Int)) (hz:rd x b=0) (hp : ∀ j:Int,0≤j→j < (x.length:Int)→0≤rd x j∧rd x j≤64) (hm : ∀ y ∈ x,0≤y∧y≤64) (hg : ∀ k,1048590≤k→impl_GoodSpray.f k x b c=some true) :
    ∃ R:List Int × Int × Bool × Bool,(R.2.2.2=true→Keep x b c R)∧R.1.length≤x.length ∧ ∀ k,1048600≤k→spec_l15Meet.f k x b c A B=some R∧impl_MeetBoth.f k x b c A B=some R:=by
  have no : ∀ k,1≤k→spec_l15Meet.j0 k true x b c A B=some (([]:List Int),0,false,false)∧impl_MeetBoth.j0 k true x b c A B=some (([]:List Int),0,false,false):=by
    intro k hk
    obtain⟨k,rfl⟩ : ∃ m,k=m+1:=⟨k - 1,by omega⟩
    rw[spec_l15Meet.j0,impl_MeetBoth.j0,if_pos rfl,if_pos rfl]
    exact⟨rfl,rfl⟩
  have w1:wrap64 ((x.length:Int) - 1)=(x.length:Int) - 1:=wrap_in (by omega) (by omega)
  by_cases r:(0≤A∧A < (x.length:Int))∧(0≤B∧B < (x.length:Int))∧A≠B
  · obtain⟨hA,hB,hne⟩:=r
    have S : ∀ k,spec_l15Meet.f k x b c A B=spec_l15Meet.j0 k false x b c A B:=fun k=>by
      unfold spec_l15Meet.f
      rw[if_neg (by omega),if_neg (by omega),if_neg (by omega),if_neg (by omega),beq_eq_false_iff_ne.mpr hne]
    have I : ∀ k,1048590≤k→impl_MeetBoth.f k x b c A B=impl_MeetBoth.j0 k false x b c A B:=fun k hk=>by
      unfold impl_MeetBoth.f
      rw[hg k hk,Option.bind_some,if_pos rfl,w1,iin_is,iin_is,decide_eq_true (show 0≤A∧A≤(x.length:Int) - 1 by omega),decide_eq_true (show 0≤B∧B≤(x.length:Int) - 1 by omega),Option.bind_some,if_pos rfl,Option.bind_some,if_pos rfl,beq_eq_false_iff_ne.mpr hne]
    have pa:=hp A hA.1 hA.2
    have pb:=hp B hB.1 hB.2
    have tA0:=eq_true hA.1
    have tA1:=eq_true hA.2
    have tB0:=eq_true hB.1
    have tB1:=eq_true hB.2
    have len:(([]:List Int).length+x.length < 17592186044416)=True:=eq_true (by simp;omega)
    have ws:wrap64 (rd x A+rd x B)=rd x A+rd x B:=wrap_in (by omega) (by omega)
    have red : ∀ R,(R.2.2.2=true→Keep x b c R)→R.1.length≤x.length→(∀ k,spec_l15Meet.j0 (k+1) false x b c A B=some R∧impl_MeetBoth.j0 (k+1) false x b c A B=some R) → ∃ R:List Int × Int × Bool × Bool,(R.2.2.2=true→Keep x b c R)∧R.1.length≤x.length ∧ ∀ k,1048600≤k→spec_l15Meet.f k x b c A B=some R∧impl_MeetBoth.f k x b c A B=some R:=by
      intro R hR hl h
      refine⟨R,hR,hl,fun k hk => ?_⟩
      obtain⟨k,rfl⟩ : ∃ m,k=m+1:=⟨k - 1,by omega⟩
      rw[S,I _ (by omega)]
      exact h k
    have kx : ∀ (c':Bool),(c=true→c'=true)→Keep x b c (x,b,c',true):=fun c' h=>⟨rfl,rfl,hz,hm,rfl,fun _ _ h=>h,h⟩
    by_cases c1:A=b
    · subst c1
      have nB:(B=A)=False:=eq_false fun e=>hne e.symm
      rw[hz] at pa ws
      have z00:wrap64 (0+0)=0:=wrap_in (by omega) (by omega)
      by_cases c2:rd x B=0
      · refine red (x,A,c,true) (fun _=>kx _ id) (Nat.le_refl _) fun k => ?_
        rw[spec_l15Meet.j0,impl_MeetBoth.j0,clone_is x (by omega)]
        unfold spec_l15Give.f
        cases c<;>simp only[Option.bind_some,List.nil_append,len,tA0,tA1,tB0,tB1,hz,c2,ws,z00,nB,if_true,if_false,Bool.false_eq_true,ge_iff_le,Int.le_refl]<;>exact⟨by first|trivial|rfl,by first|trivial|rfl⟩
      · have g1:(0 ≥ rd x B)=False:=eq_false (by omega)
        have g2:(rd x B > 0)=True:=eq_true (by omega)
        refine red (x,A,true,true) (fun _=>kx _ fun _=>rfl) (Nat.le_refl _) fun k => ?_
        rw[spec_l15Meet.j0,impl_MeetBoth.j0,clone_is x (by omega)]
        unfold spec_l15Give.f
        have ws':wrap64 (rd x B)=rd x B:=wrap_in (by omega) (by omega)
        cases c<;>simp only[Option.bind_some,List.nil_append,len,tA0,tA1,tB0,tB1,hz,ws,g1,g2,nB,if_true,if_false,Bool.false_eq_true,Int.zero_add,ws',decide_true]<;>exact⟨by first|trivial|rfl,by first|trivial|rfl⟩
    · have nA:(A=b)=False:=eq_false c1
      by_cases c2:B=b
      · subst c2
        rw[hz] at pb ws
        have g1:(rd x A ≥ 0)=True:=eq_true pa.1
        rw[Int.add_zero] at ws
        refine red (x,B,c || decide (rd x A > 0),true) (fun _=>kx _ fun h=>by rw[h];rfl) (Nat.le_refl _) fun k => ?_
        rw[spec_l15Meet.j0,impl_MeetBoth.j0,clone_is x (by omega)]
        unfold spec_l15Give.f
        cases c<;>simp only[Option.bind_some,List.nil_append,len,tA0,tA1,tB0,tB1,hz,ws,g1,nA,if_true,if_false,Bool.false_eq_true,Int.add_zero,Bool.true_or,Bool.false_or]<;>exact⟨by first|trivial|rfl,by first|trivial|rfl⟩
      · have nB:(B=b)=False:=eq_false c2
        by_cases c3:rd x A ≥ rd x B
        · have g1:=eq_true c3
          by_cases c4:rd x A ≥ 2
          · have g2:=eq_true c4
            by_cases c5:rd x B=0
            · have g3:=eq_true c5
              refine red (_,b,c,true) (fun _=>keep_give x b c A B hA hB hb.1 c1 c2 hne hz hm c4 (by omega) c5) (by rw[List.length_set,List.length_set];exact Nat.le_refl _) fun k => ?_
              rw[spec_l15Meet.j0,impl_MeetBoth.j0,clone_is x (by omega)]
              unfold spec_l15Give.f
              simp only[Option.bind_some,List.nil_append,len,tA0,tA1,tB0,tB1,g1,g2,g3,nA,nB,if_true,if_false,Bool.false_eq_true]
              exact⟨by first|trivial|rfl,by first|trivial|rfl⟩
            · have g3:=eq_false c5
              have g4:(rd x A=0)=False:=eq_false (by omega)
              refine red (x,b,c,true) (fun _=>kx _ id) (Nat.le_refl _) fun k => ?_
              rw[spec_l15Meet.j0,impl_MeetBoth.j0,clone_is x (by omega)]
              unfold spec_l15Give.f
              simp only[Option.bind_some,List.nil_append,len,tA0,tA1,tB0,tB1,g1,g2,g3,g4,nA,nB,if_true,if_false,Bool.false_eq_true,ite_self]
              exact⟨by first|trivial|rfl,by first|trivial|rfl⟩
          · have g2:=eq_false c4
            have g3:(rd x B ≥ 2)=False:=eq_false (by omega)
            refine red (x,b,c,true) (fun _=>kx _ id) (Nat.le_refl _) fun k => ?_
            rw[spec_l15Meet.j0,impl_MeetBoth.j0,clone_is x (by omega)]
            unfold spec_l15Give.f
            simp only[Option.bind_some,List.nil_append,len,tA0,tA1,tB0,tB1,g1,g2,g3,nA,nB,if_true,if_false,Bool.false_eq_true]
            exact⟨by first|trivial|rfl,by first|trivial|rfl⟩
        · have g1:=eq_false c3
          have z1:(rd x B=0)=False:=eq_false (by omega)
          by_cases c4:rd x B ≥ 2
          · have g2:=eq_true c4
            by_cases c5:rd x A=0
            · have g3:=eq_true c5
              have g4:(rd x A ≥ 2)=False:=eq_false (by omega)
              refine red (_,b,c,true) (fun _=>keep_give x b c B A hB hA hb.1 c2 c1 (fun e=>hne e.symm) hz hm c4 (by omega) c5) (by rw[List.length_set,List.length_set];exact Nat.le_refl _) fun k => ?_
              rw[spec_l15Meet.j0,impl_MeetBoth.j0,clone_is x (by omega)]
              unfold spec_l15Give.f
              simp only[Option.bind_some,List.nil_append,len,tA0,tA1,tB0,tB1,g1,g2,g3,g4,nA,nB,z1,if_true,if_false,Bool.false_eq_true]
              exact⟨by first|trivial|rfl,by first|trivial|rfl⟩
            · have g3:=eq_false c5
              refine red (x,b,c,true) (fun _=>kx _ id) (Nat.le_refl _) fun k => ?_
              rw[spec_l15Meet.j0,impl_MeetBoth.j0,clone_is x (by omega)]
              unfold spec_l15Give.f
              simp only[Option.bind_some,List.nil_append,len,tA0,tA1,tB0,tB1,g1,g2,g3,nA,nB,z1,if_true,if_false,Bool.false_eq_true,ite_self]
              exact⟨by first|trivial|rfl,by first|trivial|rfl⟩
          · have g2:=eq_false c4
            have g4:(rd x A ≥ 2)=False:=eq_false (by omega)
            refine red (x,b,c,true) (fun _=>kx _ id) (Nat.le_refl _) fun k => ?_
            rw[spec_l15Meet.j0,impl_MeetBoth.j0,clone_is x (by omega)]
            unfold spec_l15Give.f
            simp only[Option.bind_some,List.nil_append,len,tA0,tA1,tB0,tB1,g1,g2,g4,nA,nB,z1,if_true,if_false,Bool.false_eq_true]
            exact⟨by first|trivial|rfl,by first|trivial|rfl⟩
  · refine⟨(([]:List Int),0,false,false),fun h=>(by cases h),by simp,fun k hk => ?_⟩
    have nk:=no k (by omega)
    refine⟨?_,?_⟩
    · unfold spec_l15Meet.f
      by_cases d1:A < 0
      · rw[if_pos d1]
        exact nk.1
      · rw[if_neg d1]
        by_cases d2:A ≥ (x.length:Int)
        · rw[if_pos d2]
          exact nk.1
        · rw[if_neg d2]
          by_cases d3:B < 0
          · rw[if_pos d3]
            exact nk.1
          · rw[if_neg d3]
            by_cases d4:B ≥ (x.length:Int)
            · rw[if_pos d4]
              exact nk.1
            · rw[if_neg d4]
              have d5:A=B:=Classical.byContradiction fun h=>r ⟨⟨by omega,by omega⟩,⟨by omega,by omega⟩,h⟩
              rw[show(A == B)=true from beq_iff_eq.mpr d5]
              exact nk.1
    · unfold impl_MeetBoth.f
      rw[hg k (by omega),Option.bind_some,if_pos rfl,w1,iin_is,iin_is,Option.bind_some,Option.bind_some]
      by_cases d1:0≤A∧A≤(x.length:Int) - 1
      · rw[decide_eq_true d1,if_pos rfl]
        by_cases d2:0≤B∧B≤(x.length:Int) - 1
        · rw[decide_eq_true d2,if_pos rfl]
          have d5:A=B:=Classical.byContradiction fun h=>r ⟨⟨by omega,by omega⟩,⟨by omega,by omega⟩,h⟩
          rw[show(A == B)=true from beq_iff_eq.mpr d5]
          exact nk.2
        · rw[decide_eq_false d2,if_neg Bool.false_ne_true]
          exact nk.2
      · rw[decide_eq_false d1,if_neg Bool.false_ne_true]
        exact nk.2

def Good (x:List Int) (b:Int):Prop:=(2≤x.length∧x.length≤8)∧(0≤b∧b < (x.length:Int))∧rd x b=0∧(∀ y ∈ x,0≤y∧y≤64)∧1≤x.sum∧x.sum≤64
theorem total_sum : ∀ (l:List Int) (m:Int),(∀ y ∈ l,0≤y∧y≤64)→0≤m→m+64 * l.length≤100000→total m l=m+l.sum
  | [],m,_,_,_=>by simp[total]
  | x::l,m,h,h0,h1=>by
    have hx:=h x List.mem_cons_self
    simp only[List.length_cons] at h1
    have e:total m (x::l)=total (wrap64 (m+x)) l:=rfl
    rw[e,wrap_in (by omega) (by omega),total_sum l (m+x) (fun y hy=>h y (List.mem_cons_of_mem _ hy)) (by omega) (by omega),List.sum_cons]
    omega
theorem igood_of {x:List Int} {b:Int} (g:Good x b) (c:Bool) (k:Nat) (hk:1048590≤k):impl_GoodSpray.f k x b c=some true:=by
  obtain⟨h8,hb,hz,hm,hs⟩:=g
  obtain⟨k,rfl⟩ : ∃ m,k=m+1:=⟨k - 1,by omega⟩
  unfold impl_GoodSpray.f impl_isWide.f
  have tt:=total_sum x 0 hm (by omega) (by omega)
  have nz:(rd x b != 0)=false:=by rw[hz];rfl
  rw[iin_is,iin_is,decide_eq_true (show 2≤(x.length:Int)∧(x.length:Int)≤8 by omega),Option.bind_some,Option.bind_some,if_pos rfl,wrap_in (x:=(x.length:Int) - 1) (by omega) (by omega),decide_eq_true (show 0≤b∧b≤(x.length:Int) - 1 by omega),Option.bind_some,if_pos rfl,if_pos hb.1,if_pos hb.2,nz,impl_GoodSpray.j0,if_neg Bool.false_ne_true,cont_is x (by omega) k (by omega),Option.bind_some,decide_eq_false (show ¬ ¬ ∀ y ∈ x,0≤y∧y≤64 from fun h=>h hm),if_neg Bool.false_ne_true,tokens_is x b c (by omega) k (by omega),Option.bind_some,iin_is,decide_eq_true (show 1≤total 0 x∧total 0 x≤64 by omega)]
  rfl
theorem keep_good {x:List Int} {b:Int} {R:List Int × Int × Bool × Bool} {c:Bool} (g:Good x b) (h:Keep x b c R):Good R.1 R.2.1:=by
  obtain⟨h8,hb,hz,hm,hs⟩:=g
  obtain⟨k1,k2,k3,k4,k5,_⟩:=h
  rw[k1]
  exact⟨by omega,by omega,k3,k4,by omega⟩
theorem sum_rep : ∀ n:Nat,(List.replicate n (0:Int)).sum=0
  | 0=>rfl
  | n+1=>by rw[List.replicate_succ,List.sum_cons,sum_rep n];rfl
theorem rd_rep0 (n:Nat) (j:Int):rd (List.replicate n 0) j=0:=by
  unfold rd
  rw[List.getD_eq_getElem?_getD,List.getElem?_replicate]
  split<;>rfl
def NewG (b c d:Int) (R:List Int × Int × Bool × Bool):Prop:=Good R.1 R.2.1∧R.2.1=c∧R.1.sum=d∧0 < rd R.1 b∧0≤b∧R.2.2.1=false
theorem new_both (a b c d:Int) (ha:(Lit.int .i64 a).wf=true) : ∃ R:List Int × Int × Bool × Bool,R.1.length≤8∧(R.2.2.2=true→NewG b c d R)∧spec_NewSpray.f a b c d=some R∧impl_NewSpray.f a b c d=some R:=by
  have hi:=newSpray_eq a b c d ha
  have key : ∃ R:List Int × Int × Bool × Bool,R.1.length≤8∧(R.2.2.2=true→NewG b c d R)∧spec_NewSpray.f a b c d=some R:=by
    have bad : ∀ R:List Int × Int × Bool × Bool,R=(([]:List Int),0,false,false)→R.1.length≤8∧(R.2.2.2=true→NewG b c d R):=fun R e=>by
      subst e
      exact⟨by simp,fun h=>by cases h⟩
    unfold spec_NewSpray.f
    rw[in_eq,in_eq]
    simp only[Option.bind_some,decide_eq_true_eq]
    by_cases h:2≤a∧a≤8
    · rw[if_pos h]
      by_cases h1:b < 0
      · rw[if_pos h1];exact⟨_,(bad _ rfl).1,(bad _ rfl).2,rfl⟩
      · rw[if_neg h1]
        by_cases h2:b ≥ a
        · rw[if_pos h2];exact⟨_,(bad _ rfl).1,(bad _ rfl).2,rfl⟩
        · rw[if_neg h2]
          by_cases h3:c < 0
          · rw[if_pos h3];exact⟨_,(bad _ rfl).1,(bad _ rfl).2,rfl⟩
          · rw[if_neg h3]
            by_cases h4:c ≥ a
            · rw[if_pos h4];exact⟨_,(bad _ rfl).1,(bad _ rfl).2,rfl⟩
            · rw[if_neg h4]
              by_cases h5:b=c
              · rw[if_pos h5];exact⟨_,(bad _ rfl).1,(bad _ rfl).2,rfl⟩
              · rw[if_neg h5]
                by_cases h6:1≤d∧d≤64
                · have eb:((b.toNat:Nat):Int)=b:=by omega
                  rw[if_pos h6,if_pos (by omega),if_pos (by omega),if_pos (by omega),if_pos (by rw[List.length_replicate];omega)]
                  refine⟨_,by rw[List.length_set,List.length_replicate];omega,fun _=>⟨⟨by dsimp only;rw[List.length_set,List.length_replicate];omega,by dsimp only;rw[List.length_set,List.length_replicate];omega,?_,?_,?_⟩,rfl,?_,?_,by omega,rfl⟩,rfl⟩
                  · dsimp only
                    rw[rd_put _ _ _ _ (by rw[List.length_replicate];omega) (by omega),eb,if_neg (fun e=>h5 e.symm),rd_rep0]
                  · intro y hy
                    rcases List.mem_or_eq_of_mem_set hy with e|e
                    · have:=List.eq_of_mem_replicate e
                      omega
                    · omega
                  · dsimp only
                    rw[sum_set _ _ _ (by rw[List.length_replicate];omega),sum_rep,rd_rep0]
                    omega
                  · dsimp only
                    rw[sum_set _ _ _ (by rw[List.length_replicate];omega),sum_rep,rd_rep0]
                    omega
                  · dsimp only
                    rw[rd_put _ _ _ _ (by rw[List.length_replicate];omega) (by omega),eb,if_pos rfl]
                    omega
                · rw[if_neg h6];exact⟨_,(bad _ rfl).1,(bad _ rfl).2,rfl⟩
    · rw[if_neg h];exact⟨_,(bad _ rfl).1,(bad _ rfl).2,rfl⟩
  obtain⟨R,h1,h2,h3⟩:=key
  exact⟨R,h1,h2,h3,by rw[hi];exact h3⟩
theorem good_meet {x:List Int} {b:Int} (g:Good x b) (c:Bool) (A B:Int) : ∃ R:List Int × Int × Bool × Bool,(R.2.2.2=true→Good R.1 R.2.1∧Keep x b c R) ∧ ∀ k,1048600≤k→spec_l15Meet.f k x b c A B=some R∧impl_MeetBoth.f k x b c A B=some R:=by
  have g':=g
  obtain⟨h8,hb,hz,hm,hs⟩:=g'
  obtain⟨R,h1,_,h2⟩:=meet_is x b c A B h8 hb hz (fun j h0 h1=>hm _ (by
    unfold rd
    rw[List.getD_eq_getElem?_getD,List.getElem?_eq_getElem (show j.toNat < x.length by omega)]
    exact List.getElem_mem _)) hm (fun k hk=>igood_of g c k hk)
  exact⟨R,fun h=>⟨keep_good g (h1 h),h1 h⟩,h2⟩
def Ran (x:List Int) (b:Int) (R:List Int × Int × Bool × Int × Bool):Prop:=Good R.1 R.2.1∧R.2.1=b∧R.1.sum=x.sum∧(∀ j:Int,0≤j→0 < rd x j→0 < rd R.1 j)∧(R.2.2.1=true↔R.2.2.2.1 > 0)
theorem ran_keep {x:List Int} {b:Int} {c:Bool} {P:List Int × Int × Bool × Bool} {R:List Int × Int × Bool × Int × Bool} (h:Keep x b c P) (g:Ran P.1 P.2.1 R):Ran x b R:=by
  obtain⟨k1,_,_,_,k5,k6,_⟩:=h
  obtain⟨g1,g2,g3,g4,g5⟩:=g
  exact⟨g1,g2.trans k1,g3.trans k5,fun j h0 h1=>g4 j h0 (k6 j h0 h1),g5⟩
theorem play_l0 (l:List S72) (hl:l.length≤1048576) (d:Nat) : ∀ (i:Nat) (m:Int) (x:List Int) (b:Int) (c:Bool),Good x b→(c=true↔m > 0)→l.length - i=d→i≤l.length →
    ∃ R:List Int × Int × Bool × Int × Bool,R.1.length≤8∧(R.2.2.2.2=true→Ran x b R) ∧ ∀ k,1048700+d < k→spec_PlaySpray.l0 k m l (l.length:Int) (i:Int) x b c=some R∧impl_PlaySpray.l0 k m l (l.length:Int) (i:Int) x b c=some R:=by
  induction d with
  | zero =>
    intro i m x b c g hc hd hi
    refine⟨(x,b,c,m,true),g.1.2,fun _=>⟨g,rfl,rfl,fun _ _ h=>h,hc⟩,fun k hk => ?_⟩
    obtain⟨k,rfl⟩ : ∃ m,k=m+1:=⟨k - 1,by omega⟩
    have q : ¬ (i:Int) < (l.length:Int):=by omega
    rw[spec_PlaySpray.l0,impl_PlaySpray.l0,if_neg q,if_neg q]
    exact⟨rfl,rfl⟩
  | succ d ih =>
    intro i m x b c g hc hd hi
    have q:(i:Int) < (l.length:Int):=by omega
    have q0:0≤(i:Int):=by omega
    have wr:wrap64 ((i:Int)+1)=((i+1:Nat):Int):=wrap_succ (n:=l.length) (by omega) (by omega)
    obtain⟨P,hP,e⟩:=good_meet g c (rd_T72 l (i:Int)).f0 (rd_T72 l (i:Int)).f1
    by_cases ok:P.2.2.2=true
    · by_cases t:P.2.2.1=true ∧ ¬ c=true
      · obtain⟨R,hR,hG,r⟩:=ih (i+1) ((i+1:Nat):Int) P.1 P.2.1 P.2.2.1 (hP ok).1 ⟨fun _=>by omega,fun _=>t.1⟩ (by omega) (by omega)
        refine⟨R,hR,fun h=>ran_keep (hP ok).2 (hG h),fun k hk => ?_⟩
        obtain⟨k,rfl⟩ : ∃ m,k=m+1:=⟨k - 1,by omega⟩
        rw[spec_PlaySpray.l0,impl_PlaySpray.l0,if_pos q,if_pos q,if_pos q0,if_pos q0,if_pos q,if_pos q,(e k (by omega)).1,(e k (by omega)).2,Option.bind_some,Option.bind_some,if_pos ok,if_pos ok,if_pos t.1,if_pos t.1,if_neg t.2,if_neg t.2,wr]
        exact r k (by omega)
      · obtain⟨R,hR,hG,r⟩:=ih (i+1) m P.1 P.2.1 P.2.2.1 (hP ok).1 ⟨fun h=>hc.1 (Classical.byContradiction fun z=>t ⟨h,z⟩),fun h=>(hP ok).2.2.2.2.2.2.2 (hc.2 h)⟩ (by omega) (by omega)
        refine⟨R,hR,fun h=>ran_keep (hP ok).2 (hG h),fun k hk => ?_⟩
        obtain⟨k,rfl⟩ : ∃ m,k=m+1:=⟨k - 1,by omega⟩
        rw[spec_PlaySpray.l0,impl_PlaySpray.l0,if_pos q,if_pos q,if_pos q0,if_pos q0,if_pos q,if_pos q,(e k (by omega)).1,(e k (by omega)).2,Option.bind_some,Option.bind_some,if_pos ok,if_pos ok,wr]
        by_cases t1:P.2.2.1=true
        · have t2:c=true:=Classical.byContradiction fun h=>t ⟨t1,h⟩
          rw[if_pos t1,if_pos t1,if_pos t2,if_pos t2]
          exact r k (by omega)
        · rw[if_neg t1,if_neg t1]
          exact r k (by omega)
    · refine⟨(([]:List Int),0,false,0,false),by simp,fun h=>(by cases h),fun k hk => ?_⟩
      obtain⟨k,rfl⟩ : ∃ m,k=m+1:=⟨k - 1,by omega⟩
      rw[spec_PlaySpray.l0,impl_PlaySpray.l0,if_pos q,if_pos q,if_pos q0,if_pos q0,if_pos q,if_pos q,(e k (by omega)).1,(e k (by omega)).2,Option.bind_some,Option.bind_some,if_neg ok,if_neg ok]
      exact⟨rfl,rfl⟩
theorem play_is (a b c d:Int) (ha:(Lit.int .i64 a).wf=true) (l:List S72) (hl:l.length≤1048576) :
    ∃ R:List Int × Int × Bool × Int × Bool,R.1.length≤8∧(R.2.2.2.2=true→Good R.1 R.2.1∧R.2.1=c∧R.1.sum=d∧0≤b∧0 < rd R.1 b∧(R.2.2.1=true↔R.2.2.2.1 > 0)) ∧ ∀ k,2097300≤k→spec_PlaySpray.f k a b c d l=some R∧impl_PlaySpray.f k a b c d l=some R:=by
  unfold spec_PlaySpray.f impl_PlaySpray.f
  obtain⟨P,p1,p2,p3,p4⟩:=new_both a b c d ha
  rw[p3,p4]
  have no : ∀ k,1≤k → ∀ (x:List Int) (b:Int) (c:Bool),spec_PlaySpray.j0 k l true x b c=some (([]:List Int),0,false,0,false)∧impl_PlaySpray.j0 k l true x b c=some (([]:List Int),0,false,0,false):=by
    intro k hk x b c
    obtain⟨k,rfl⟩ : ∃ m,k=m+1:=⟨k - 1,by omega⟩
    rw[spec_PlaySpray.j0,impl_PlaySpray.j0,if_pos rfl,if_pos rfl]
    exact⟨rfl,rfl⟩
  by_cases ok:P.2.2.2=true
  · by_cases q:(l.length:Int) > 100
    · refine⟨(([]:List Int),0,false,0,false),by simp,fun h=>(by cases h),fun k hk => ?_⟩
      rw[Option.bind_some,Option.bind_some,if_pos ok,if_pos ok,decide_eq_true q]
      exact no k (by omega) _ _ _
    · obtain⟨n1,n2,n3,n4,n5,n6⟩:=p2 ok
      obtain⟨R,hR,hG,r⟩:=play_l0 l hl l.length 0 0 P.1 P.2.1 P.2.2.1 n1 ⟨fun h=>(by rw[n6] at h;cases h),fun h=>absurd h (by decide)⟩ (by omega) (by omega)
      refine⟨R,hR,fun h=>⟨(hG h).1,(hG h).2.1.trans n2,(hG h).2.2.1.trans n3,n5,(hG h).2.2.2.1 b n5 n4,(hG h).2.2.2.2⟩,fun k hk => ?_⟩
      obtain⟨k,rfl⟩ : ∃ m,k=m+1:=⟨k - 1,by omega⟩
      rw[Option.bind_some,Option.bind_some,if_pos ok,if_pos ok,decide_eq_false q,spec_PlaySpray.j0,impl_PlaySpray.j0,if_neg Bool.false_ne_true,if_neg Bool.false_ne_true]
      exact r k (by omega)
  · refine⟨(([]:List Int),0,false,0,false),by simp,fun h=>(by cases h),fun k hk => ?_⟩
    rw[Option.bind_some,Option.bind_some,if_neg ok,if_neg ok]
    exact no k (by omega) _ _ _

def sel (x:List Int):Nat→List Int
  | 0=>[]
  | j+1=>sel x j++(if rd x (j:Int) > 0 then [(j:Int)] else [])
def nums:Nat→List Int
  | 0=>[]
  | j+1=>nums j++[(j:Int)]
theorem nums_len : ∀ j,(nums j).length=j
  | 0=>rfl
  | j+1=>by rw[nums,List.length_append,nums_len j];rfl
theorem sel_len (x:List Int) : ∀ j,(sel x j).length≤j
  | 0=>Nat.le_refl _
  | j+1=>by
    have:=sel_len x j
    rw[sel,List.length_append]
    split<;>simp<;>omega
theorem rd_nums (j:Nat) : ∀ n,j < n→rd (nums n) (j:Int)=(j:Int)
  | 0,h=>absurd h (by omega)
  | n+1,h=>by
    have l:=nums_len n
    unfold rd
    rw[nums,show((j:Int)).toNat=j from rfl,List.getD_eq_getElem?_getD,List.getElem?_append]
    by_cases c:j < n
    · rw[if_pos (by omega),← List.getD_eq_getElem?_getD]
      exact rd_nums j n c
    · rw[if_neg (by omega),show j - (nums n).length=0 by omega,show j=n by omega]
      rfl
theorem num_l0 (n:Nat) (hn:n≤1048576) (d:Nat) : ∀ (k i:Nat),n - i=d→i≤n→d < k→impl_numbered.l0 k (nums i) (n:Int) (i:Int)=some (nums n):=by
  induction d with
  | zero =>
    intro k i hd hi hk
    obtain⟨k,rfl⟩ : ∃ m,k=m+1:=⟨k - 1,by omega⟩
    rw[impl_numbered.l0,if_neg (by omega),show i=n by omega]
  | succ d ih =>
    intro k i hd hi hk
    obtain⟨k,rfl⟩ : ∃ m,k=m+1:=⟨k - 1,by omega⟩
    have sl:=nums_len i
    have:=ih k (i+1) (by omega) (by omega) (by omega)
    rw[nums] at this
    rw[impl_numbered.l0,if_pos (by omega),if_pos (by omega),wrap_succ (n:=n) (by omega) (by omega)]
    exact this
theorem clit_is (x:List Int) (j:Nat) (hj:j < x.length) (b:Int) (c:Bool):impl_CarriersIn_lit1_captured.f (j:Int) x b c=some (rd x (j:Int) == 0,b,c):=by
  unfold impl_CarriersIn_lit1_captured.f
  rw[if_pos (by omega),if_pos (by omega)]
theorem cidx_l0 (x:List Int) (hn:x.length≤1048576) (hp : ∀ j:Nat,j < x.length→0≤rd x (j:Int)) (b:Int) (c:Bool) (d:Nat) : ∀ i:Nat,x.length - i=d→i≤x.length→sel x i=nums i →
    ∃ r:Int,((r = -1∧sel x x.length=nums x.length) ∨ ∃ m:Nat,r=(m:Int)∧m < x.length∧rd x (m:Int)=0∧sel x m=nums m) ∧
      ∀ k,d < k→slices_IndexFunc_int_int_impl_CarriersIn_lit1.l0 k (nums x.length) (x.length:Int) (i:Int) x b c=some (r,b,c):=by
  have nl:=nums_len x.length
  induction d with
  | zero =>
    intro i hd hi hs
    have e:i=x.length:=by omega
    refine⟨-1,Or.inl ⟨rfl,by rw[← e];exact hs⟩,fun k hk => ?_⟩
    obtain⟨k,rfl⟩ : ∃ m,k=m+1:=⟨k - 1,by omega⟩
    rw[slices_IndexFunc_int_int_impl_CarriersIn_lit1.l0,if_neg (by omega)]
  | succ d ih =>
    intro i hd hi hs
    have pi:=hp i (by omega)
    by_cases q:rd x (i:Int)=0
    · refine⟨(i:Int),Or.inr ⟨i,rfl,by omega,q,hs⟩,fun k hk => ?_⟩
      obtain⟨k,rfl⟩ : ∃ m,k=m+1:=⟨k - 1,by omega⟩
      rw[slices_IndexFunc_int_int_impl_CarriersIn_lit1.l0,if_pos (by omega),if_pos (by omega),if_pos (by omega),rd_nums i x.length (by omega),clit_is x i (by omega),Option.bind_some]
      dsimp only
      rw[if_pos (by rw[q];rfl)]
    · obtain⟨r,hr,e⟩:=ih (i+1) (by omega) (by omega) (by rw[sel,nums,hs,if_pos (by omega)])
      refine⟨r,hr,fun k hk => ?_⟩
      obtain⟨k,rfl⟩ : ∃ m,k=m+1:=⟨k - 1,by omega⟩
      rw[slices_IndexFunc_int_int_impl_CarriersIn_lit1.l0,if_pos (by omega),if_pos (by omega),if_pos (by omega),rd_nums i x.length (by omega),clit_is x i (by omega),Option.bind_some]
      dsimp only
      rw[if_neg (by rw[beq_iff_eq];exact q),wrap_succ (n:=x.length) (by omega) (by omega)]
      exact e k (by omega)
theorem putL_take (zs:List Int) : ∀ (xs:List Int) (o i:Nat),i≤o→(putL xs o zs).take i=xs.take i:=by
  induction zs with
  | nil=>intro xs o i h;rfl
  | cons z zs ih =>
    intro xs o i h
    rw[putL,ih _ _ _ (by omega),List.take_set_of_le h]
theorem cdel_l0 (x:List Int) (hn:x.length≤1048576) (h0:0 < x.length) (hp : ∀ j:Nat,j < x.length→0≤rd x (j:Int)) (b:Int) (c:Bool) (d:Nat) : ∀ (j:Nat) (y:List Int),x.length - j=d→j≤x.length→y.length=x.length→(sel x j).length < j→y.take (sel x j).length=sel x j→(∀ q:Nat,j≤q→q < x.length→rd y (q:Int)=(q:Int)) →
    ∀ k,d < k→slices_DeleteFunc_int_int_impl_CarriersIn_lit1.l0 k y ((sel x j).length:Int) (j:Int) x b c=some (sel x x.length,b,c):=by
  induction d with
  | zero =>
    intro j y hd hj hy hl ht hr k hk
    obtain⟨k,rfl⟩ : ∃ m,k=m+1:=⟨k - 1,by omega⟩
    have e:j=x.length:=by omega
    rw[slices_DeleteFunc_int_int_impl_CarriersIn_lit1.l0,if_neg (by omega),if_pos (by omega),if_pos (by omega),if_pos (by omega),putL_take _ _ _ _ (Nat.le_refl _),show(((sel x j).length:Int)).toNat=(sel x j).length from rfl,ht,e]
  | succ d ih =>
    intro j y hd hj hy hl ht hr k hk
    obtain⟨k,rfl⟩ : ∃ m,k=m+1:=⟨k - 1,by omega⟩
    have pj:=hp j (by omega)
    rw[slices_DeleteFunc_int_int_impl_CarriersIn_lit1.l0,if_pos (by omega),if_pos (by omega),hr j (Nat.le_refl _) (by omega),clit_is x j (by omega),Option.bind_some,wrap_succ (n:=x.length) (by omega) (by omega)]
    dsimp only
    by_cases q:rd x (j:Int)=0
    · have e:sel x (j+1)=sel x j:=by rw[sel,if_neg (by omega),List.append_nil]
      rw[if_pos (by rw[q];rfl)]
      have:=ih (j+1) y (by omega) (by omega) hy (by rw[e];omega) (by rw[e];exact ht) (fun m h1 h2=>hr m (by omega) h2) k (by omega)
      rw[e] at this
      exact this
    · have e:sel x (j+1)=sel x j++[(j:Int)]:=by rw[sel,if_pos (by omega)]
      have el:(sel x (j+1)).length=(sel x j).length+1:=by rw[e,List.length_append];rfl
      rw[if_neg (by rw[beq_iff_eq];exact q),if_pos (by omega),if_pos (by omega),wrap_succ (n:=x.length) (by omega) (by omega),show(((sel x j).length:Int)).toNat=(sel x j).length from rfl]
      have:=ih (j+1) (y.set (sel x j).length (j:Int)) (by omega) (by omega) (by rw[List.length_set];exact hy) (by rw[el];omega) (by
        rw[el,e,List.take_add_one,List.take_set_of_le (Nat.le_refl _),ht,List.getElem?_set_self (by omega)]
        rfl) (fun m h1 h2=>by
        have:=hr m (by omega) h2
        unfold rd at this ⊢
        rw[List.getD_eq_getElem?_getD] at this ⊢
        rw[show((m:Int)).toNat=m from rfl] at this ⊢
        rw[List.getElem?_set_ne (by omega)]
        exact this) k (by omega)
      rw[el] at this
      exact this
theorem cdel_is (x:List Int) (hn:x.length≤1048576) (h0:0 < x.length) (hp : ∀ j:Nat,j < x.length→0≤rd x (j:Int)) (b:Int) (c:Bool) (k:Nat) (hk:1048577 < k):slices_DeleteFunc_int_int_impl_CarriersIn_lit1.f k (nums x.length) x b c=some (sel x x.length,b,c):=by
  unfold slices_DeleteFunc_int_int_impl_CarriersIn_lit1.f slices_IndexFunc_int_int_impl_CarriersIn_lit1.f
  obtain⟨r,hr,e⟩:=cidx_l0 x hn hp b c x.length 0 (by omega) (by omega) rfl
  have e0:=e k (by omega)
  rw[show((0:Nat):Int)=0 from rfl] at e0
  rw[nums_len,e0,Option.bind_some]
  dsimp only
  rcases hr with ⟨r1,r2⟩|⟨m,r1,r2,r3,r4⟩
  · rw[if_pos r1,r2]
  · have ml:(sel x m).length=m:=by rw[r4,nums_len]
    have e1:sel x (m+1)=sel x m:=by rw[sel,if_neg (by omega),List.append_nil]
    rw[if_neg (by omega),r1,wrap_succ (n:=x.length) (by omega) (by omega)]
    have:=cdel_l0 x hn h0 hp b c (x.length - (m+1)) (m+1) (nums x.length) rfl (by omega) (nums_len _) (by rw[e1,ml];omega) (by
      rw[e1,ml,r4]
      have tk : ∀ n,m≤n→(nums n).take m=nums m:=by
        intro n hmn
        induction n with
        | zero=>rw[show m=0 by omega];rfl
        | succ n ih =>
          by_cases z:m=n+1
          · rw[z]
            exact List.take_of_length_le (by rw[nums_len];omega)
          · rw[nums,List.take_append_of_le_length (by rw[nums_len];omega)]
            exact ih (by omega)
      exact tk _ (by omega)) (fun q h1 h2=>rd_nums q _ h2) k (by omega)
    rw[e1,ml] at this
    exact this

theorem wf_u8 {x:Int} (h:(Lit.int .u8 x).wf=true):0≤x∧x≤255:=by
  simp[Lit.wf,IntKind.min,IntKind.max,IntKind.signed,IntKind.bits] at h
  omega
theorem wf_i64 {x:Int} (h:(Lit.int .i64 x).wf=true) : -9223372036854775808≤x∧x≤9223372036854775807:=by
  simp[Lit.wf,IntKind.min,IntKind.max,IntKind.signed,IntKind.bits] at h
  omega
theorem rd_mem (l:List Int) (i:Int) (h0:0≤i) (h1:i < (l.length:Int)):rd l i ∈ l:=by
  unfold rd
  have h:i.toNat < l.length:=by omega
  rw[List.getD_eq_getElem?_getD,List.getElem?_eq_getElem h]
  exact List.getElem_mem h
theorem wrap_u64 (n:Int):IntKind.u64.wrap n=n % 18446744073709551616:=by simp[IntKind.wrap,IntKind.bits,IntKind.signed]
theorem and255 (x:Int) (h0:0≤x) (h1:x < 18446744073709551616):Go.bits .and .u64 x 255=x % 256 :=
  bits_mask .u64 64 (by decide) (fun n a b=>by rw[wrap_u64];omega) 8 (by decide) x h0 h1
theorem next_ok (l:List Int) (hl : ∀ x ∈ l,(Lit.int .u8 x).wf=true) (at_ u:Int) (h0:0≤at_) (h1:at_≤4611686018427387904) :
    ∃ r u',spec_l1Cur_next.f l at_ u=some (r,at_+1,u')∧0≤r∧r≤255:=by
  unfold spec_l1Cur_next.f
  have ew:wrap64 (at_+1)=at_+1:=wrap_in (by omega) (by omega)
  have hb : ∀ X:Int,0≤wrap64 (Go.bits .and .u64 ((IntKind.u64.wrap X) / 1099511627776) 255)∧wrap64 (Go.bits .and .u64 ((IntKind.u64.wrap X) / 1099511627776) 255)≤255:=fun X=>by
    rw[and255 _ (by rw[wrap_u64];omega) (by rw[wrap_u64];omega),wrap_in (by omega) (by omega)]
    omega
  by_cases c1:at_ < (l.length:Int)
  · have hr:=wf_u8 (hl _ (rd_mem l at_ h0 c1))
    rw[if_pos c1,if_pos h0,ew]
    by_cases c2:at_+1≤(l.length:Int)
    · rw[if_pos c2]
      exact⟨_,_,rfl,by rw[wrap_in (by omega) (by omega)];omega,by rw[wrap_in (by omega) (by omega)];omega⟩
    · rw[if_neg c2]
      exact⟨_,_,rfl,(hb _).1,(hb _).2⟩
  · rw[if_neg c1,ew]
    by_cases c2:at_+1≤(l.length:Int)
    · rw[if_pos c2]
      exact⟨_,_,rfl,by omega,by omega⟩
    · rw[if_neg c2]
      exact⟨_,_,rfl,(hb _).1,(hb _).2⟩
theorem pick_ok (l:List Int) (hl : ∀ x ∈ l,(Lit.int .u8 x).wf=true) (at_ u n:Int) (h0:0≤at_) (h1:at_≤2305843009213693952) :
    ∃ r at' u',spec_l1Cur_pick.f l at_ u n=some (r,at',u')∧0≤r∧(r < n∨r=0)∧r≤65535∧at_≤at'∧at'≤at_+2:=by
  unfold spec_l1Cur_pick.f
  by_cases c1:n≤1
  · rw[if_pos c1]
    exact⟨_,_,_,rfl,by omega,by omega,by omega,by omega,by omega⟩
  · rw[if_neg c1]
    obtain⟨r,u',e1,r0,r1⟩:=next_ok l hl at_ u h0 (by omega)
    rw[e1]
    simp only[Option.bind_some]
    have tm : ∀ x:Int,0≤x→x≤65535→0≤Int.tmod x n∧Int.tmod x n < n∧Int.tmod x n≤65535:=fun x hx hx2=>by
      rw[Int.tmod_eq_emod_of_nonneg hx]
      have a:=Int.emod_nonneg x (show n≠0 by omega)
      have b:=Int.emod_lt_of_pos x (show 0 < n by omega)
      have c:x % n≤x:=by
        by_cases hxn:x < n
        · rw[Int.emod_eq_of_lt hx hxn];exact Int.le_refl _
        · omega
      omega
    by_cases c2:n > 200
    · rw[if_pos c2]
      obtain⟨r2,u2,e2,s0,s1⟩:=next_ok l hl (at_+1) u' (by omega) (by omega)
      rw[e2]
      simp only[Option.bind_some]
      rw[if_neg (show ¬ n=0 by omega)]
      have ew:wrap64 ((wrap64 (r * 256))+r2)=r * 256+r2:=by rw[wrap_in (x:=r * 256) (by omega) (by omega),wrap_in (by omega) (by omega)]
      rw[ew]
      have:=tm (r * 256+r2) (by omega) (by omega)
      exact⟨_,_,_,rfl,by omega,by omega,by omega,by omega,by omega⟩
    · rw[if_neg c2,if_neg (show ¬ n=0 by omega)]
      have:=tm r (by omega) (by omega)
      exact⟨_,_,_,rfl,by omega,by omega,by omega,by omega,by omega⟩
theorem one_ok (l:List Int) (hl : ∀ x ∈ l,(Lit.int .u8 x).wf=true) (at_ u n:Int) (h0:0≤at_) (h1:at_≤2305843009213693952) :
    ∃ b at' u',spec_l1Cur_one.f l at_ u n=some (b,at',u')∧at_≤at'∧at'≤at_+2:=by
  obtain⟨r,a,u',e,_,_,_,g1,g2⟩:=pick_ok l hl at_ u n h0 h1
  unfold spec_l1Cur_one.f
  rw[e]
  exact⟨_,_,_,rfl,g1,g2⟩
theorem among_ok (l:List Int) (hl : ∀ x ∈ l,(Lit.int .u8 x).wf=true) (at_ u:Int) (c:List Int) (hc:0 < c.length) (h0:0≤at_) (h1:at_≤2305843009213693952) :
    ∃ r at' u',spec_l1Cur_among.f l at_ u c=some (r,at',u')∧r ∈ c∧at_≤at'∧at'≤at_+2:=by
  obtain⟨r,a,u',e,r0,r1,_,g1,g2⟩:=pick_ok l hl at_ u (c.length:Int) h0 h1
  unfold spec_l1Cur_among.f
  rw[e]
  simp only[Option.bind_some]
  rw[if_pos r0,if_pos (by omega)]
  exact⟨_,_,_,rfl,rd_mem c r r0 (by omega),g1,g2⟩

theorem sprayOf_ok (l:List Int) (hl : ∀ x ∈ l,(Lit.int .u8 x).wf=true) (at_ u:Int) (h0:0≤at_) (h1:at_≤1000000000) :
    ∃ a b c d at' u',spec_l1Cur_sprayOf.f l at_ u=some (a,b,c,d,at',u')∧2≤a∧a≤6∧at_≤at'∧at'≤at_+20:=by
  unfold spec_l1Cur_sprayOf.f
  obtain⟨x1,p1,v1,e1,q1,q2,_,g1,f1⟩:=pick_ok l hl at_ u 5 h0 (by omega)
  rw[e1,Option.bind_some]
  dsimp only
  have w:wrap64 (2+x1)=2+x1:=wrap_in (by omega) (by omega)
  rw[w]
  obtain⟨x2,p2,v2,e2,_,_,_,g2,f2⟩:=pick_ok l hl p1 v1 (2+x1) (by omega) (by omega)
  rw[e2,Option.bind_some]
  dsimp only
  obtain⟨x3,p3,v3,e3,_,_,_,g3,f3⟩:=pick_ok l hl p2 v2 (2+x1) (by omega) (by omega)
  rw[e3,Option.bind_some]
  dsimp only
  by_cases c:x2=x3
  · rw[if_pos c]
    obtain⟨x4,p4,v4,e4,g4,f4⟩:=one_ok l hl p3 v3 12 (by omega) (by omega)
    rw[e4,Option.bind_some]
    dsimp only
    obtain⟨x5,p5,v5,e5,_,g5,f5⟩:=among_ok l hl p4 v4 [1,2,4,7,16,64,65,0] (by decide) (by omega) (by omega)
    cases x4 with
    | true =>
      rw[if_pos rfl,e5]
      exact⟨_,_,_,_,_,_,rfl,by omega,by omega,by dsimp only;omega,by dsimp only;omega⟩
    | false =>
      rw[if_neg Bool.false_ne_true,if_neg (by omega),e5]
      exact⟨_,_,_,_,_,_,rfl,by omega,by omega,by dsimp only;omega,by dsimp only;omega⟩
  · rw[if_neg c]
    obtain⟨x5,p5,v5,e5,_,g5,f5⟩:=among_ok l hl p3 v3 [1,2,4,7,16,64,65,0] (by decide) (by omega) (by omega)
    rw[e5]
    exact⟨_,_,_,_,_,_,rfl,by omega,by omega,by dsimp only;omega,by dsimp only;omega⟩
theorem meets_l0 (l:List Int) (hl : ∀ x ∈ l,(Lit.int .u8 x).wf=true) (n:Int) (hn:n≠0) (d:Nat) : ∀ (k:Nat) (y:List S72) (at_ u:Int),d < k→y.length+d≤200→0≤at_→at_+10 * d≤1000000000 →
    ∃ y' at' u',spec_l1Cur_meets.l0 k n y (d:Int) l at_ u=some (y',at',u')∧y'.length≤200∧at_≤at'∧at'≤at_+10 * d+4:=by
  induction d with
  | zero =>
    intro k y at_ u hk hy h0 h1
    obtain⟨k,rfl⟩ : ∃ m,k=m+1:=⟨k - 1,by omega⟩
    rw[spec_l1Cur_meets.l0,if_neg (by omega)]
    by_cases c:(y.length:Int) > 0
    · rw[if_pos c]
      obtain⟨x1,p1,v1,e1,g1,f1⟩:=one_ok l hl at_ u 30 h0 (by omega)
      rw[e1,Option.bind_some]
      dsimp only
      cases x1 with
      | true =>
        rw[if_pos rfl,if_pos (by omega)]
        obtain⟨x2,p2,v2,e2,_,g2,f2⟩:=among_ok l hl p1 v1 [-1,(rd_T72 y 0).f0,n] (by simp) (by omega) (by omega)
        rw[e2,Option.bind_some]
        exact⟨_,_,_,rfl,by rw[List.length_set];omega,by dsimp only;omega,by dsimp only;omega⟩
      | false =>
        rw[if_neg Bool.false_ne_true]
        exact⟨_,_,_,rfl,by omega,by omega,by omega⟩
    · rw[if_neg c]
      exact⟨_,_,_,rfl,by omega,by omega,by omega⟩
  | succ d ih =>
    intro k y at_ u hk hy h0 h1
    obtain⟨k,rfl⟩ : ∃ m,k=m+1:=⟨k - 1,by omega⟩
    rw[spec_l1Cur_meets.l0,if_pos (by omega)]
    obtain⟨x1,p1,v1,e1,_,_,_,g1,f1⟩:=pick_ok l hl at_ u n h0 (by omega)
    rw[e1,Option.bind_some]
    dsimp only
    obtain⟨x2,p2,v2,e2,_,_,_,g2,f2⟩:=pick_ok l hl p1 v1 n (by omega) (by omega)
    rw[e2,Option.bind_some]
    dsimp only
    have w:wrap64 (((d+1:Nat):Int) - 1)=(d:Int):=by rw[wrap_in (by omega) (by omega)];omega
    have go : ∀ z:S72,∃ y' at' u',spec_l1Cur_meets.l0 k n (y++[z]) (d:Int) l p2 v2=some (y',at',u')∧y'.length≤200∧at_≤at'∧at'≤at_+10 * ((d+1:Nat):Int)+4:=fun z=>by
      obtain⟨y',at',u',e6,a1,a2,a3⟩:=ih k (y++[z]) p2 v2 (by omega) (by rw[List.length_append,List.length_singleton];omega) (by omega) (by omega)
      exact⟨y',at',u',e6,a1,by omega,by omega⟩
    rw[w]
    by_cases c:x1=x2
    · rw[if_pos c,if_neg hn,if_pos (by omega)]
      exact go _
    · rw[if_neg c,if_pos (by omega)]
      exact go _
theorem meets_ok (l:List Int) (hl : ∀ x ∈ l,(Lit.int .u8 x).wf=true) (n:Int) (hn:n≠0) (k:Nat) (hk:200 < k) (at_ u:Int) (h0:0≤at_) (h1:at_≤1000000) :
    ∃ y at' u',spec_l1Cur_meets.f k l at_ u n=some (y,at',u')∧y.length≤200∧at_≤at'∧at'≤at_+2000:=by
  unfold spec_l1Cur_meets.f
  obtain⟨k,rfl⟩ : ∃ m,k=m+1:=⟨k - 1,by omega⟩
  obtain⟨x1,p1,v1,e1,q1,q2,_,g1,f1⟩:=pick_ok l hl at_ u 20 h0 (by omega)
  rw[e1,Option.bind_some]
  dsimp only
  obtain⟨x2,p2,v2,e2,g2,f2⟩:=one_ok l hl p1 v1 20 (by omega) (by omega)
  rw[e2,Option.bind_some]
  dsimp only
  cases x2 with
  | true =>
    rw[if_pos rfl]
    obtain⟨x3,p3,v3,e3,q3,q4,_,g3,f3⟩:=pick_ok l hl p2 v2 2 (by omega) (by omega)
    rw[e3,Option.bind_some]
    dsimp only
    obtain⟨y,at',u',e4,a1,a2,a3⟩:=meets_l0 l hl n hn (100+x3.toNat) k [] p3 v3 (by omega) (by simp;omega) (by omega) (by omega)
    rw[show wrap64 (100+x3)=((100+x3.toNat:Nat):Int) by rw[wrap_in (by omega) (by omega)];omega,spec_l1Cur_meets.j0,e4]
    exact⟨_,_,_,rfl,a1,by omega,by omega⟩
  | false =>
    rw[if_neg Bool.false_ne_true]
    obtain⟨y,at',u',e4,a1,a2,a3⟩:=meets_l0 l hl n hn x1.toNat k [] p2 v2 (by omega) (by simp;omega) (by omega) (by omega)
    rw[show x1=((x1.toNat:Nat):Int) by omega,spec_l1Cur_meets.j0,e4]
    exact⟨_,_,_,rfl,a1,by omega,by omega⟩
theorem wf_small {a:Int} (h0:2≤a) (h1:a≤6):(Lit.int .i64 a).wf=true:=by
  simp[Lit.wf,IntKind.min,IntKind.max,IntKind.signed,IntKind.bits]
  omega
theorem spray_j0 (l:List Int) (hl : ∀ x ∈ l,(Lit.int .u8 x).wf=true) (k:Nat) (hk:1≤k) (at_ u:Int) (h0:0≤at_) (h1:at_≤1000000) (x:List Int) (b:Int) (c:Bool) (hx:1≤x.length∧x.length≤8) :
    ∃ x' b' c' at' u',spec_l1Cur_spray.j0 k l at_ u x b c=some (x',b',c',at',u')∧x'.length≤8∧0≤at'∧at'≤at_+10:=by
  obtain⟨k,rfl⟩ : ∃ m,k=m+1:=⟨k - 1,by omega⟩
  rw[spec_l1Cur_spray.j0]
  obtain⟨x1,p1,v1,e1,g1,f1⟩:=one_ok l hl at_ u 20 h0 (by omega)
  rw[e1,Option.bind_some]
  dsimp only
  cases x1 with
  | true =>
    rw[if_pos rfl]
    obtain⟨x2,p2,v2,e2,q1,q2,_,g2,f2⟩:=pick_ok l hl p1 v1 (x.length:Int) (by omega) (by omega)
    rw[e2,Option.bind_some]
    dsimp only
    rw[if_pos q1,if_pos (by omega)]
    obtain⟨x3,p3,v3,e3,_,_,_,g3,f3⟩:=pick_ok l hl p2 v2 3 (by omega) (by omega)
    rw[e3,Option.bind_some]
    exact⟨_,_,_,_,_,rfl,by rw[List.length_set];omega,by dsimp only;omega,by dsimp only;omega⟩
  | false =>
    rw[if_neg Bool.false_ne_true]
    exact⟨_,_,_,_,_,rfl,by omega,by omega,by omega⟩
theorem new_fix:spec_NewSpray.f 3 0 2 4=some ([4,0,0],2,false,true):=by decide
theorem spray_ok (l:List Int) (hl : ∀ x ∈ l,(Lit.int .u8 x).wf=true) (k:Nat) (hk:2097300≤k) :
    ∃ x b c at' u',spec_l1Cur_spray.f k l 0 0=some (x,b,c,at',u')∧x.length≤8∧0≤at'∧at'≤100000:=by
  unfold spec_l1Cur_spray.f
  obtain⟨a,b,c,d,p1,v1,e1,q1,q2,g1,f1⟩:=sprayOf_ok l hl 0 0 (by omega) (by omega)
  rw[e1,Option.bind_some]
  dsimp only
  obtain⟨y,p2,v2,e2,hy,g2,f2⟩:=meets_ok l hl a (by omega) k (by omega) p1 v1 (by omega) (by omega)
  rw[e2,Option.bind_some]
  dsimp only
  obtain⟨R,hR,hG,e3⟩:=play_is a b c d (wf_small q1 q2) y (by omega)
  rw[(e3 k (by omega)).1,Option.bind_some]
  by_cases ok:R.2.2.2.2=true
  · rw[if_pos ok]
    have g:=(hG ok).1.1
    obtain⟨x',b',c',at',u',e,h1,h2,h3⟩:=spray_j0 l hl k (by omega) p2 v2 (by omega) (by omega) R.1 R.2.1 R.2.2.1 ⟨by omega,by omega⟩
    exact⟨_,_,_,_,_,e,h1,h2,by omega⟩
  · rw[if_neg ok,new_fix,Option.bind_some]
    obtain⟨x',b',c',at',u',e,h1,h2,h3⟩:=spray_j0 l hl k (by omega) p2 v2 (by omega) (by omega) [4,0,0] 2 false ⟨by decide,by decide⟩
    exact⟨_,_,_,_,_,e,h1,h2,by omega⟩
theorem drawPlay_ok (l:List Int) (hl : ∀ x ∈ l,(Lit.int .u8 x).wf=true) (k:Nat) (hk:200 < k) :
    ∃ a b c d y,spec_DrawPlaySpray.f k l=some (a,b,c,d,y)∧2≤a∧a≤6∧y.length≤200:=by
  unfold spec_DrawPlaySpray.f
  obtain⟨a,b,c,d,p1,v1,e1,q1,q2,g1,f1⟩:=sprayOf_ok l hl 0 0 (by omega) (by omega)
  rw[e1,Option.bind_some]
  dsimp only
  obtain⟨y,p2,v2,e2,hy,g2,f2⟩:=meets_ok l hl a (by omega) k (by omega) p1 v1 (by omega) (by omega)
  rw[e2,Option.bind_some]
  exact⟨_,_,_,_,_,rfl,q1,q2,hy⟩
theorem drawMeet_ok (l:List Int) (hl : ∀ x ∈ l,(Lit.int .u8 x).wf=true) (k:Nat) (hk:2097300≤k) :
    ∃ x b c A B,spec_DrawMeetBoth.f k l=some (x,b,c,A,B)∧x.length≤8:=by
  unfold spec_DrawMeetBoth.f
  obtain⟨x,b,c,p1,v1,e1,q1,g1,f1⟩:=spray_ok l hl k hk
  rw[e1,Option.bind_some]
  dsimp only
  obtain⟨x2,p2,v2,e2,_,_,_,g2,f2⟩:=pick_ok l hl p1 v1 (wrap64 ((x.length:Int)+1)) (by omega) (by omega)
  rw[e2,Option.bind_some]
  dsimp only
  obtain⟨x3,p3,v3,e3,_,_,_,g3,f3⟩:=pick_ok l hl p2 v2 (x.length:Int) (by omega) (by omega)
  rw[e3,Option.bind_some]
  exact⟨_,_,_,_,_,rfl,q1⟩

theorem mono_to {α:Type} {f:Nat→Option α} (h : ∀ k,LeO (f k) (f (k+1))) {k0:Nat} {r:α} (e:f k0=some r) : ∀ d,f (k0+d)=some r
  | 0=>e
  | d+1=>h _ _ (mono_to h e d)
theorem meet_both (x:List Int) (b:Int) (c:Bool) (A B:Int) (hn:x.length≤1048576) : ∃ R:List Int × Int × Bool × Bool,R.1.length≤1048576 ∧ ∀ k,1048600≤k→spec_MeetBoth.f k x b c A B=some R∧impl_MeetBoth.f k x b c A B=some R:=by
  obtain⟨r,es,ei⟩:=spray_both x b c hn 1048590 (by omega)
  have S : ∀ k,1048590≤k→spec_GoodSpray.f k x b c=some r:=fun k hk=>by
    have:=mono_to (fun k=>spec_GoodSpray.mono x b c k) es (k - 1048590)
    rwa [show 1048590+(k - 1048590)=k by omega] at this
  have I : ∀ k,1048590≤k→impl_GoodSpray.f k x b c=some r:=fun k hk=>by
    have:=mono_to (fun k=>impl_GoodSpray.mono x b c k) ei (k - 1048590)
    rwa [show 1048590+(k - 1048590)=k by omega] at this
  cases r with
  | false =>
    refine⟨(([]:List Int),0,false,false),by simp,fun k hk=>⟨?_,?_⟩⟩
    · unfold spec_MeetBoth.f
      rw[S k (by omega),Option.bind_some,if_neg Bool.false_ne_true]
    · unfold impl_MeetBoth.f
      rw[I k (by omega),Option.bind_some,if_neg Bool.false_ne_true]
      obtain⟨k,rfl⟩ : ∃ m,k=m+1:=⟨k - 1,by omega⟩
      rw[impl_MeetBoth.j0,if_pos rfl]
  | true =>
    obtain⟨h8,hb,hz,hp,hm,_⟩:=sgood_all x b c hn 1048590 (by omega) es
    obtain⟨R,_,hl,e⟩:=meet_is x b c A B h8 hb hz hp hm I
    refine⟨R,by omega,fun k hk=>⟨?_,(e k hk).2⟩⟩
    unfold spec_MeetBoth.f
    rw[S k (by omega),Option.bind_some,if_pos rfl,(e k hk).1]
    rfl

theorem sameInts_l0 (a:List Int) (hn:a.length≤9223372036854775807) (d:Nat) : ∀ (k i:Nat),a.length - i=d→d < k→laws_sameInts.l0 k a a (a.length:Int) (i:Int)=some true:=by
  induction d with
  | zero =>
    intro k i hd hk
    obtain⟨k,rfl⟩ : ∃ m,k=m+1:=⟨k - 1,by omega⟩
    rw[laws_sameInts.l0,if_neg (by omega)]
  | succ d ih =>
    intro k i hd hk
    obtain⟨k,rfl⟩ : ∃ m,k=m+1:=⟨k - 1,by omega⟩
    rw[laws_sameInts.l0,if_pos (by omega),if_pos (by omega),if_pos (by omega),if_pos (by omega),if_pos rfl,wrap_succ (n:=a.length) (by omega) hn]
    exact ih k (i+1) (by omega) (by omega)
theorem sameSprays_same (a:List Int) (b:Int) (c:Bool) (hn:a.length≤1048576) (k:Nat) (hk:1048576 < k):laws_sameSprays.f k a b c a b c=some true:=by
  have h:=sameInts_l0 a (by omega) a.length k 0 (by omega) (by omega)
  rw[show((0:Nat):Int)=0 from rfl] at h
  unfold laws_sameSprays.f laws_sameInts.f
  rw[if_pos rfl,if_pos (by simp),if_pos rfl,h]
  rfl
theorem has_l0 (v:Int) (x:List Int) (hn:x.length≤1048576) (d:Nat) : ∀ (k i:Nat),x.length - i=d→i≤x.length→d < k→laws_has.l0 k v x (x.length:Int) (i:Int)=some (decide (v ∈ x.drop i)):=by
  induction d with
  | zero =>
    intro k i hd hi hk
    obtain⟨k,rfl⟩ : ∃ m,k=m+1:=⟨k - 1,by omega⟩
    rw[laws_has.l0,if_neg (by omega),List.drop_of_length_le (by omega)]
    rfl
  | succ d ih =>
    intro k i hd hi hk
    obtain⟨k,rfl⟩ : ∃ m,k=m+1:=⟨k - 1,by omega⟩
    rw[laws_has.l0,if_pos (by omega),if_pos (by omega),if_pos (by omega),wrap_succ (n:=x.length) (by omega) (by omega),ih k (i+1) (by omega) (by omega) (by omega),dropInt x i (by omega)]
    by_cases c:rd x (i:Int)=v
    · rw[if_pos c,← c,decide_eq_true List.mem_cons_self]
    · rw[if_neg c]
      congr 1
      rw[Bool.eq_iff_iff,decide_eq_true_eq,decide_eq_true_eq,List.mem_cons]
      exact⟨Or.inr,fun h=>h.resolve_left fun e=>c e.symm⟩
theorem has_is (v:Int) (x:List Int) (hn:x.length≤1048576) (k:Nat) (hk:1048576 < k):laws_has.f k x v=some (decide (v ∈ x)):=by
  have h:=has_l0 v x hn x.length k 0 (by omega) (by omega) (by omega)
  rw[show((0:Nat):Int)=0 from rfl,List.drop_zero] at h
  exact h
theorem mem_sel (x:List Int) (v:Int) : ∀ n,v ∈ sel x n ↔ ∃ m:Nat,m < n∧v=(m:Int)∧rd x (m:Int) > 0
  | 0=>⟨fun h=>(by cases h),fun h=>(by obtain⟨m,h,_⟩:=h;omega)⟩
  | n+1=>by
    rw[sel,List.mem_append,mem_sel x v n]
    constructor
    · rintro(⟨m,h1,h2,h3⟩|h)
      · exact⟨m,by omega,h2,h3⟩
      · by_cases c:rd x (n:Int) > 0
        · rw[if_pos c] at h
          exact⟨n,by omega,List.mem_singleton.mp h,c⟩
        · rw[if_neg c] at h
          cases h
    · rintro⟨m,h1,h2,h3⟩
      by_cases e:m=n
      · subst e
        right
        rw[if_pos h3]
        exact List.mem_singleton.mpr h2
      · exact Or.inl ⟨m,by omega,h2,h3⟩
theorem sel_mono (x y:List Int) : ∀ n,(∀ m:Nat,m < n→rd x (m:Int) > 0→rd y (m:Int) > 0)→(sel x n).length≤(sel y n).length
  | 0,_=>Nat.le_refl _
  | n+1,h=>by
    have:=sel_mono x y n fun m hm=>h m (by omega)
    have hn:=h n (by omega)
    rw[sel,sel,List.length_append,List.length_append]
    by_cases c:rd x (n:Int) > 0
    · rw[if_pos c,if_pos (hn c)]
      simp only[List.length_singleton]
      omega
    · rw[if_neg c]
      simp only[List.length_nil]
      omega
theorem sel_sum (x:List Int) (hx : ∀ y ∈ x,0≤y) : ∀ n,n≤x.length→((sel x n).length:Int)≤(x.take n).sum
  | 0,_=>by simp[sel]
  | n+1,h=>by
    have:=sel_sum x hx n (by omega)
    have e:x[n]?=some (rd x (n:Int)):=by
      unfold rd
      rw[show((n:Int)).toNat=n from rfl,List.getD_eq_getElem?_getD,List.getElem?_eq_getElem (show n < x.length by omega)]
      rfl
    have p:0≤rd x (n:Int):=hx _ (List.mem_of_getElem? e)
    rw[sel,List.length_append,List.take_add_one,e,List.sum_append]
    simp only[Option.toList_some,List.sum_cons,List.sum_nil]
    by_cases c:rd x (n:Int) > 0
    · rw[if_pos c]
      simp only[List.length_singleton]
      omega
    · rw[if_neg c]
      simp only[List.length_nil]
      omega
theorem good_tok {x:List Int} {b:Int} (g:Good x b) (c:Bool) (k:Nat) (hk:1048590≤k):impl_TokensIn.f k x b c=some (x.sum,true):=by
  have g':=g
  obtain⟨h8,hb,hz,hm,hs⟩:=g'
  unfold impl_TokensIn.f
  rw[igood_of g c k hk,Option.bind_some,if_pos rfl,tokens_is x b c (by omega) k (by omega),Option.bind_some,total_sum x 0 hm (by omega) (by omega),Int.zero_add]
theorem good_pos {x:List Int} {b:Int} (g:Good x b) (j:Nat) (hj:j < x.length):0≤rd x (j:Int):=by
  refine(g.2.2.2.1 _ ?_).1
  unfold rd
  rw[show((j:Int)).toNat=j from rfl,List.getD_eq_getElem?_getD,List.getElem?_eq_getElem hj]
  exact List.getElem_mem _
theorem good_car {x:List Int} {b:Int} (g:Good x b) (c:Bool) (k:Nat) (hk:1048600≤k):impl_CarriersIn.f k x b c=some (sel x x.length,true):=by
  have h8:=g.1
  have a2:=num_l0 x.length (by omega) x.length k 0 (by omega) (by omega) (by omega)
  rw[show((0:Nat):Int)=0 from rfl] at a2
  have a2':impl_numbered.l0 k ([]:List Int) (x.length:Int) 0=some (nums x.length):=a2
  unfold impl_CarriersIn.f impl_numbered.f
  rw[igood_of g c k (by omega),Option.bind_some,if_pos rfl,a2',Option.bind_some,cdel_is x (by omega) (by omega) (fun j hj=>good_pos g j hj) b c k (by omega)]
  rfl
theorem meet_full (x:List Int) (b:Int) (c:Bool) (A B:Int) (hn:x.length≤8) : ∃ (R:List Int × Int × Bool × Bool) (r:Bool),R.1.length≤8∧(R.2.2.2=true→Good x b∧Keep x b c R) ∧
    ∀ k,1048600≤k→spec_GoodSpray.f k x b c=some r∧impl_GoodSpray.f k x b c=some r∧spec_MeetBoth.f k x b c A B=some R∧impl_MeetBoth.f k x b c A B=some R:=by
  obtain⟨r,es,ei⟩:=spray_both x b c (by omega) 1048590 (by omega)
  have S : ∀ k,1048590≤k→spec_GoodSpray.f k x b c=some r:=fun k hk=>by
    have:=mono_to (fun k=>spec_GoodSpray.mono x b c k) es (k - 1048590)
    rwa [show 1048590+(k - 1048590)=k by omega] at this
  have I : ∀ k,1048590≤k→impl_GoodSpray.f k x b c=some r:=fun k hk=>by
    have:=mono_to (fun k=>impl_GoodSpray.mono x b c k) ei (k - 1048590)
    rwa [show 1048590+(k - 1048590)=k by omega] at this
  cases r with
  | false =>
    refine⟨(([]:List Int),0,false,false),false,by simp,fun h=>(by cases h),fun k hk=>⟨S k (by omega),I k (by omega),?_,?_⟩⟩
    · unfold spec_MeetBoth.f
      rw[S k (by omega),Option.bind_some,if_neg Bool.false_ne_true]
    · unfold impl_MeetBoth.f
      rw[I k (by omega),Option.bind_some,if_neg Bool.false_ne_true]
      obtain⟨k,rfl⟩ : ∃ m,k=m+1:=⟨k - 1,by omega⟩
      rw[impl_MeetBoth.j0,if_pos rfl]
  | true =>
    obtain⟨h8,hb,hz,hp,hm,ht⟩:=sgood_all x b c (by omega) 1048590 (by omega) es
    obtain⟨R,hK,hl,e⟩:=meet_is x b c A B h8 hb hz hp hm I
    have ts:=total_sum x 0 hm (by omega) (by omega)
    refine⟨R,true,by omega,fun h=>⟨⟨h8,hb,hz,hm,by omega,by omega⟩,hK h⟩,fun k hk=>⟨S k (by omega),I k (by omega),?_,(e k hk).2⟩⟩
    unfold spec_MeetBoth.f
    rw[S k (by omega),Option.bind_some,if_pos rfl,(e k hk).1]
    rfl
theorem law_j1 (l:List Int) (hl : ∀ x ∈ l,(Lit.int .u8 x).wf=true) (k:Nat) (hk:2097400≤k):laws_FnSpray.j1 k l=some true:=by
  obtain⟨k,rfl⟩ : ∃ m,k=m+1:=⟨k - 1,by omega⟩
  obtain⟨x,b,c,A,B,e,h8⟩:=drawMeet_ok l hl k (by omega)
  obtain⟨R,r,hR,hG,m⟩:=meet_full x b c A B h8
  rw[laws_FnSpray.j1,e,Option.bind_some]
  dsimp only
  have ne:(R.2.2.2 != R.2.2.2)=false:=by simp
  have nr:(r != r)=false:=by simp
  rw[(m k (by omega)).2.2.2,Option.bind_some,(m k (by omega)).2.2.1,Option.bind_some,ne,if_neg Bool.false_ne_true,sameSprays_same _ _ _ (by omega) k (by omega),Option.bind_some,if_pos rfl,(m k (by omega)).2.1,Option.bind_some,(m k (by omega)).1,Option.bind_some,nr]
  obtain⟨k,rfl⟩ : ∃ m,k=m+1:=⟨k - 1,by omega⟩
  rw[laws_FnSpray.j2,if_neg Bool.false_ne_true]
  by_cases ok:R.2.2.2=true
  · obtain⟨g,kp⟩:=hG ok
    have g2:=keep_good g kp
    obtain⟨k1,k2,k3,k4,k5,k6,k7⟩:=kp
    have sm:=sel_mono x R.1 x.length fun m _ h=>k6 (m:Int) (by omega) h
    rw[if_pos ok,good_tok g c k (by omega),Option.bind_some,good_tok g2 R.2.2.1 k (by omega),Option.bind_some,good_car g c k (by omega),Option.bind_some,good_car g2 R.2.2.1 k (by omega),Option.bind_some]
    dsimp only
    rw[if_pos rfl,if_pos rfl,if_pos k5.symm,if_pos rfl,if_pos rfl,k2,if_neg (by omega)]
    by_cases t:c=true
    · rw[if_pos t,if_pos (k7 t)]
    · rw[if_neg t]
  · rw[if_neg ok]
theorem FnSpray:laws_FnSpray.Stmt:=by
  intro l0 l1 ⟨h0,w0⟩ ⟨h1,w1⟩
  refine⟨2097600,?_⟩
  have k0 : ∃ k:Nat,k=2097599:=⟨_,rfl⟩
  obtain⟨k,hk⟩:=k0
  rw[show(2097600:Nat)=k+1 by omega]
  unfold laws_FnSpray.f
  by_cases c0:wrap64 ((l0.length:Int)+(l1.length:Int)) > 1048576
  · rw[if_pos c0]
  · rw[if_neg c0]
    obtain⟨a,b,c,d,y,e,a2,a6,hy⟩:=drawPlay_ok l0 w0 (k+1) (by omega)
    obtain⟨R,hR,hG,p⟩:=play_is a b c d (wf_small a2 a6) y (by omega)
    have ne:(R.2.2.2.2 != R.2.2.2.2)=false:=by simp
    have J:=law_j1 l1 w1 k (by omega)
    rw[e,Option.bind_some]
    dsimp only
    rw[(p (k+1) (by omega)).2,Option.bind_some,(p (k+1) (by omega)).1,Option.bind_some,ne,if_neg Bool.false_ne_true,if_pos rfl,sameSprays_same _ _ _ (by omega) (k+1) (by omega),Option.bind_some,laws_FnSpray.j0,if_neg (by decide)]
    by_cases ok:R.2.2.2.2=true
    · obtain⟨g,g1,g2,g3,g4,g5⟩:=hG ok
      have h8:=g.1
      have hs:=sel_sum R.1 (fun v hv=>(g.2.2.2.1 v hv).1) R.1.length (Nat.le_refl _)
      rw[List.take_length] at hs
      have sl:=sel_len R.1 R.1.length
      have hb:b < (R.1.length:Int):=Classical.byContradiction fun z=>by
        unfold rd at g4
        rw[List.getD_eq_getElem?_getD,List.getElem?_eq_none (by omega)] at g4
        simp at g4
      have m1 : ¬ c ∈ sel R.1 R.1.length:=fun h=>by
        obtain⟨m,q1,q2,q3⟩:=(mem_sel R.1 c _).mp h
        have z:=g.2.2.1
        rw[g1,q2] at z
        omega
      have m2:b ∈ sel R.1 R.1.length:=(mem_sel R.1 b _).mpr ⟨b.toNat,by omega,by omega,by rw[show((b.toNat:Nat):Int)=b by omega];exact g4⟩
      have th:(R.2.2.1 != decide (R.2.2.2.1 > 0))=false:=by
        rw[show decide (R.2.2.2.1 > 0)=R.2.2.1 from by rw[Bool.eq_iff_iff,decide_eq_true_eq];exact g5.symm]
        simp
      rw[if_pos ok,good_tok g R.2.2.1 k (by omega),Option.bind_some,good_car g R.2.2.1 k (by omega),Option.bind_some]
      dsimp only
      rw[if_pos rfl,if_pos g2,if_pos rfl,if_neg (by omega),has_is c _ (by omega) k (by omega),Option.bind_some,if_neg (by simpa using m1),has_is b _ (by omega) k (by omega),Option.bind_some,if_pos (by simpa using m2),if_neg (by rw[th];decide),igood_of g R.2.2.1 k (by omega),Option.bind_some,if_pos rfl,J]
    · rw[if_neg ok,J]

end Go.Proofs.Yteneeohaoplpbaa.Pure
