-- Written by this session's own program (wip/xprint.py) out of the translation; Lean checks it.
import Derived.Test.YthghcoepkknkeaaXFnFairx0
import Derived.Test.YthghcoepkknkeaaXFnFairx8
namespace Go.Proofs.Ythghcoepkknkeaa.XFnFair
open Go.RowKit Go.Proofs.YthghcoepkknkeaaW.PrintWords Go.Proofs.YthghcoepkknkeaaW.PrintLast Go.Proofs.YthghcoepkknkeaaW.PrintMore
open Go.Proofs.YthghcoepkknkeaaW.PrintWords.Aside0 renaming mk → am
open List renaming setIfInBounds_toArray → zA, set_cons_zero → zB, set_cons_succ → zC
attribute [local go_sem] max2_int min2_int max_two min_two max_three min_three max_four min_four   -- for this text's walks alone
set_option linter.unusedVariables false
set_option linter.unusedSimpArgs false

/-! ### impl_Turns_copied: function 20, by hand -/
def impl_Turns_copied.f (a0_0:Int) (l0_1:List (S34)) (a0_2:Int):Option (Int × (List (S34)) × Int):=if l0_1.length≤1000000 ∧ ∀ x ∈ l0_1,x.f0.length≤1000000 then some (a0_0,l0_1,a0_2) else none
/-! HAND: the walk. -/
namespace KP
/-- Elements that were made (tagged) and elements that came in, as_ the flag says. -/
def flag {α:Type} (f:Nat→Nat) (d:Kd α) (w0:World):Kd (α × (Nat × Bool)) where
 sz:=d.sz
 E:=d.E
 K:=fun w x cs=>(x.2.2=true→d.K w x.1 cs)∧(x.2.2=false→d.K w0 x.1 cs)
 M:=fun w base ok x cs=>(x.2.2=true→d.M w base (fun k=>ok k∧f k=x.2.1) x.1 cs)∧(x.2.2=false→d.K w0 x.1 cs)
 K_len:=fun {w x cs} h=>by
  cases hx:x.2.2 with
  | true=>exact d.K_len (h.1 hx)
  | false=>exact d.K_len (h.2 hx)
 K_one:=fun {w x cs} h=>by
  cases hx:x.2.2 with
  | true=>exact d.K_one (h.1 hx)
  | false=>exact d.K_one (h.2 hx)
 K_below:=fun hb h=>⟨fun hx=>d.K_below hb (h.1 hx),h.2⟩
 K_of_M:=fun h=>⟨fun hx=>d.K_of_M (h.1 hx),h.2⟩
 M_mono:=fun hok h=>⟨fun hx=>d.M_mono (fun k hk=>⟨hok k hk.1,hk.2⟩) (h.1 hx),h.2⟩
 M_bound:=fun h=>⟨fun hx=>d.M_mono (fun _ hk=>⟨⟨hk.1.1,hk.2⟩,hk.1.2⟩) (d.M_bound (h.1 hx)),h.2⟩
 M_move:=fun hm h=>⟨fun hx=>d.M_move (fun k hk=>hm k hk.1) (h.1 hx),h.2⟩
 M_lower:=fun hb h=>⟨fun hx=>d.M_lower hb (h.1 hx),h.2⟩
/-- The first i elements are made. -/
def upTo {α:Type} (xs:List α) (i:Nat):List (α × (Nat × Bool)):=xs.zipIdx.map (fun p=>(p.1,(p.2,decide (p.2 < i))))
theorem upTo_length {α:Type} (xs:List α) (i:Nat):(upTo xs i).length=xs.length:=by simp[upTo]
theorem upTo_at {α:Type} {xs:List α} {i j:Nat} {p:α × (Nat × Bool)} (h:(upTo xs i)[j]?=some p) : ∃ x,xs[j]?=some x∧p=(x,(j,decide (j < i))):=by
 unfold upTo at h
 rw[List.getElem?_map,List.getElem?_zipIdx,Nat.zero_add] at h
 cases hx:xs[j]? with
 | none=>rw[hx] at h;cases h
 | some x =>
  rw[hx] at h
  exact⟨x,rfl,(Option.some.inj h).symm⟩
theorem upTo_get {α:Type} {xs:List α} {i j:Nat} {x:α} (h:xs[j]?=some x):(upTo xs i)[j]?=some (x,(j,decide (j < i))):=by
 unfold upTo
 rw[List.getElem?_map,List.getElem?_zipIdx,Nat.zero_add,h]
 rfl
theorem upTo_set {α:Type} {xs:List α} {i:Nat} {x:α} (h:xs[i]?=some x):(upTo xs i).set i (x,(i,true))=upTo xs (i+1):=by
 apply List.ext_getElem?
 intro j
 have hi:i < xs.length:=(List.getElem?_eq_some_iff.1 h).1
 by_cases e:j=i
 ·subst e
  rw[List.getElem?_set_self (by rw[upTo_length];exact hi),upTo_get h]
  simp
 ·rw[List.getElem?_set_ne (Ne.symm e)]
  cases hx:xs[j]? with
  | none =>
   have hj:xs.length≤j:=List.getElem?_eq_none_iff.1 hx
   rw[List.getElem?_eq_none (by rw[upTo_length];exact hj),List.getElem?_eq_none (by rw[upTo_length];exact hj)]
  | some y =>
   rw[upTo_get hx,upTo_get hx]
   have:(j < i)↔(j < i+1):=by omega
   simp[this]
section
variable {α:Type} {d:Kd α} {e:Nat} {w w0 w1 W:World} {base:Nat} {ok ok' okp:Nat→Prop} {v:Value} {xs:List α} {f:Nat→Nat}
/-- A row that is being made over: the first i elements are the call's own, apart; the others are as_ they came. -/
def PQ_ (d:Kd α) (e:Nat) (w0 w:World) (base:Nat) (ok:Nat→Prop) (v:Value) (xs:List α) (i:Nat):Prop:=∃ f,(flag f d w0).R e w base ok v (upTo xs i)
theorem P_start (h:(Kd.fixed d w0).R e w base ok v xs):PQ_ d e w0 w base ok v xs 0:=by
 obtain⟨h0,inner,ho,hr⟩:=h
 refine⟨fun _=>0,h0,inner,by rw[upTo_length];exact ho,by rw[upTo_length];exact hr.1,fun j p hj => ?_⟩
 obtain⟨x,hx,rfl⟩:=upTo_at hj
 exact⟨fun hh=>absurd hh (by simp),fun _=>hr.2 j x hx⟩
theorem P_end (h:PQ_ d e w0 w base ok v xs xs.length):Kd.S d e w base ok v xs:=by
 obtain⟨f,h0,inner,ho,hr⟩:=h
 rw[upTo_length] at ho
 refine⟨f,h0,inner,by rw[List.length_zipIdx];exact ho,by have:=hr.1;rw[upTo_length] at this;rw[List.length_zipIdx];exact this,fun j p hj => ?_⟩
 rw[List.getElem?_zipIdx,Nat.zero_add] at hj
 obtain⟨x,hx,rfl⟩:=Option.map_eq_some_iff.1 hj
 have hlt:j < xs.length:=(List.getElem?_eq_some_iff.1 hx).1
 exact(hr.2 j _ (upTo_get hx)).1 (by simp[hlt])
theorem P_mono {i:Nat} (h:PQ_ d e w0 w base ok v xs i) (hok : ∀ k,ok k→ok' k):PQ_ d e w0 w base ok' v xs i:=by
 obtain⟨f,h⟩:=h
 exact⟨f,Kd.R_mono h hok⟩
theorem P_bound {i:Nat} (h:PQ_ d e w0 w base ok v xs i):PQ_ d e w0 w base (fun k=>ok k∧base≤k∧k < w.heap.size) v xs i:=by
 obtain⟨f,h⟩:=h
 exact⟨f,Kd.R_mono (Kd.R_bound h) (fun _ hk=>⟨hk.1,hk.2.1,hk.2.2.1⟩)⟩
theorem P_step {i:Nat} (h:PQ_ d e w0 w base ok v xs i) (hm : ∀ k,ok k→k < w.heap.size→w1.heap[k]?=w.heap[k]?):PQ_ d e w0 w1 base ok v xs i:=by
 obtain⟨f,h⟩:=h
 exact⟨f,Kd.R_step h hm⟩
theorem P_below {i:Nat} (h:PQ_ d e w0 w base ok v xs i) (hb:Below w.heap.size w w1):PQ_ d e w0 w1 base ok v xs i:=P_step h (fun k _ hk=>hb.block k hk)
theorem P_slice {i:Nat} (h:PQ_ d e w0 w base ok v xs i) : ∃ A c,v=.slice A xs.length c:=by
 obtain⟨f,h⟩:=h
 obtain⟨A,c,e⟩:=Kd.R_slice h
 rw[upTo_length] at e
 exact⟨A,c,e⟩
theorem P_form {i:Nat} (h:PQ_ d e w0 w base ok v xs i) (hp:0 < xs.length) : ∃ g cap,v=.slice (some ⟨g,0,none⟩) xs.length cap∧base≤g∧g < w.heap.size∧ok g ∧ ∃ cells,w.heap[g]?=some (.cells cells e (0,0)):=by
 obtain⟨f,h⟩:=h
 obtain⟨g,cap,hv,h1,h2,h3⟩:=Kd.R_form h (by rw[upTo_length];exact hp)
 rw[upTo_length] at hv
 subst hv
 exact⟨g,cap,rfl,h1,h2,h.1 g rfl,h3⟩
/-- Element i as_ it came in. -/
theorem P_get {g n cap i:Nat} {x:α} (h:PQ_ d e w0 W base ok (.slice (some ⟨g,0,none⟩) n cap) xs i) (hx:xs[i]?=some x) (hn:n=xs.length) :
  ∃ c,c.length=d.sz∧d.K w0 x c∧(∀ j u,c[j]?=some u→W.cell? ⟨g,i * d.sz+j,none⟩=some u) ∧ ∀ j,W.frozen? ⟨g,i * d.sz+j,none⟩=false:=by
 obtain⟨f,h⟩:=h
 have hlt:i < xs.length:=(List.getElem?_eq_some_iff.1 hx).1
 obtain⟨c,hcl,hM,hcc,hfr⟩:=Kd.R_elem h (x,(i,false)) (i:Int) (by omega) (by omega)
 rw[show((i:Int)).toNat=i from rfl,List.getD_eq_getElem?_getD,upTo_get hx] at hM
 exact⟨c,hcl,hM.2 (by simp),hcc,hfr⟩
open Classical in
/-- Element i made the call's own. -/
theorem P_put {g n cap i j:Nat} {x:α} {c seg:List Value} (h:PQ_ d e w0 W base ok (.slice (some ⟨g,0,none⟩) n cap) xs i) (hx:xs[i]?=some x) (hn:n=xs.length) (hcl:c.length=d.sz) (hcc : ∀ j u,c[j]?=some u→W.cell? ⟨g,i * d.sz+j,none⟩=some u)
  (hj:j+seg.length≤d.sz) (hM:d.M W base okp x (c.take j++seg++c.drop (j+seg.length))) (hap : ∀ k,okp k → ¬ ok k) :
  PQ_ d e w0 (W.setCells g (i * d.sz+j) seg) base (fun k=>ok k∨okp k) (.slice (some ⟨g,0,none⟩) n cap) xs (i+1)∧W.grownBy (W.setCells g (i * d.sz+j) seg) (some g):=by
 obtain⟨f,h⟩:=h
 have hlt:i < xs.length:=(List.getElem?_eq_some_iff.1 hx).1
 have hg:ok g:=h.1 g rfl
 have h2:(flag (fun k=>if okp k then i else f k) d w0).R e W base (fun k=>ok k∨okp k) (.slice (some ⟨g,0,none⟩) n cap) (upTo xs i):=by
  obtain⟨h0,inner,ho,hr⟩:=h
  refine⟨fun k hk=>.inl (h0 k hk),inner,ho,hr.1,fun q p hq => ?_⟩
  have:=hr.2 q p hq
  exact⟨fun hh=>d.M_mono (fun k hk=>⟨⟨.inl hk.1.1,hk.1.2⟩,(if_neg (fun h3=>hap k h3 hk.1.1)).trans hk.2⟩) (this.1 hh),this.2⟩
 have h3:=Kd.R_seg h2 (i:Int) (by omega) (by omega) (c:=c) (seg:=seg) (j:=j) (x':=(x,(i,true))) (okp:=okp) hcl hcc hj
  ⟨fun _=>d.M_mono (fun k hk=>⟨hk,if_pos hk⟩) hM,fun hh=>absurd hh (by simp)⟩ (fun k hk=>⟨.inr hk,fun e_=>hap k hk (by rw[e_];exact hg)⟩)
 rw[show((i:Int)).toNat=i from rfl,upTo_set hx] at h3
 exact⟨⟨_,h3.1⟩,h3.2⟩
end
end KP
theorem infoQ_:(Try.prog.info? 34).map (fun i=>(i.zero,i.size,i.bytes))=some (some (.agg #[.slice none 0 0,.int .i64 0,.int .i64 0]),3,40):=by kernel_rfl
set_option maxHeartbeats 8000000 in
set_option maxRecDepth 100000 in
theorem cloneQ_ (A0:Option Addr) (c0:Nat) (l0:List S34) (w0 w:World) (hB0:Below w0.heap.size w0 w) (hr0:Kd.C k34 w0 A0 l0.length l0) (hc0:l0.length≤c0) (hl:l0.length≤1000000) :
  Calls Try.prog 32 #[.slice A0 l0.length c0] w fun e w' => ∃ v,e=.returned v∧(Kd.fixed k34 w0).R 34 w' w.heap.size (fun _=>True) v l0∧Below w.heap.size w w':=by
 have HR0:=am hr0
 have HC0:=am hc0
 have HL0:=am hl
 have HB0:=am hB0
 clear hr0 hc0 hl hB0
 by_cases hA_:A0=none
 ·have h0_:l0=[]:=by
   have z_:=HR0.out
   rw[hA_] at z_
   cases l0 with
   | nil=>rfl
   | cons x_ xs_ =>
    obtain⟨ad_,e_,_⟩:=z_.2.2 (by simp)
    cases e_
  subst hA_
  subst h0_
  have hq_ : ∀ (w:World) (n c:Nat),(binOp .eql 23 (.slice none n c) (.slice none 0 0)).run Try.prog w=.ok (.bool true) w:=fun w n c=>by
   rw[Lib.run_eql_slice_nil w _ _ _ _ _ _ _ Try.underlying23]
   rfl
  go_enter Try.func32,Try.ntmps32
  go_wp2
  go_ret
  exact⟨_,rfl,Kd.R_nil _ _ _ _ _,Below.refl _ _⟩
 have hq_ : ∀ w,(binOp .eql 23 (.slice A0 l0.length c0) (.slice none 0 0)).run Try.prog w=.ok (.bool false) w:=fun w=>by
  rw[Lib.run_eql_slice_nil w _ _ _ _ _ _ _ Try.underlying23]
  cases A0 with
  | none=>exact absurd rfl hA_
  | some _=>rfl
 have HB:=am (Below.refl w.heap.size w)
 go_enter Try.func32,Try.ntmps32
 go_wp2_with (first|((with_reducible refine gate_dst (N:=5) rfl ?_);refine Kd.R_lit (Kd.fixed k34 w0) _ 34 ?hg (N:=5) ?hd (xs:=([]:List S34)) (inner:=[]) (ok:=fun _=>True) (okp:=fun _=>True) ?hr ?hp (fun _ hk=>hk) trivial (Below.refl _ _) (Nat.le_refl _) (by simp) ?_;(case hd=>rfl);(case hg=>rfl);(case hr=>first|(go_simp;done)|(go_simp;rfl));(case hp=>exact(Reps.none _ _));intro v196 w3 ho4 hb hg_ hnew_;clear hg_ hnew_;have n0_:=am (Kd.R_lower ho4 (below_size (bB)));have n1_:=am (below_step (bB) hb);clear HB;have HO197:=n0_;have HB:=n1_;clear n0_ n1_;clear hb ho4)|((with_reducible refine gate_builtin (b:=.append) (xs:=#[.tmp 5,.tmp 6]) rfl ?_);at_builtin;refine Kd.R_append_rows (Kd.fixed k34 w0) (Rr:=k34.K w0) (w0:=w) w.heap.size rfl (.tmp 5) (.tmp 6) 23 34 (.agg #[.slice none 0 0,.int .i64 0,.int .i64 0]) 40 rfl Try.underlying23 infoQ_ rfl (show 0 < 3 by omega) (by omega) v196 ([]:List S34) l0 _ _ _ (fun _=>True) (fun _=>False) rfl rfl ?aO ?aR (fun _ _ h=>h) (fun _ h=>h.elim) ?aF ?aB ?aS ?aL ?_;(case aR=>exact ReadsRow.imp_ (show ReadsRow (k34.K w0) 3 w0 A0 l0.length l0 from HR0.out) (below_step HB0.out HB.out) (fun _ _ h=>h));(case aB=>exact(bB));(case aF=>exact(fun _ _=>trivial));(case aO=>exact(bK HO197.out));(case aS=>exact(below_size (bB)));(case aL=>have:=HL0.out;simp only[List.length_nil];omega);intro v199 w5 ho hb hg hat;rw[List.nil_append] at ho;have n0_:=am (hb);have n1_:=am (ho);clear HB HO197;have HB:=n0_;have HO200:=n1_;clear n0_ n1_;clear ho hb hg hat))
 go_ret
 exact⟨_,rfl,HO200.out,HB.out⟩
theorem cells3_ {w:World} {g t:Nat} {a b c:Value} (h:w.heap[g]?=some (.cells #[a,b,c] t (0,0))):w.cell? ⟨g,0,none⟩=some a∧w.cell? ⟨g,1,none⟩=some b∧w.cell? ⟨g,2,none⟩=some c∧w.frozen? ⟨g,0,none⟩=false∧w.frozen? ⟨g,1,none⟩=false∧w.frozen? ⟨g,2,none⟩=false :=
 ⟨(blk_cell h 0).trans rfl,(blk_cell h 1).trans rfl,(blk_cell h 2).trans rfl,blk_frozen h 0,blk_frozen h 1,blk_frozen h 2⟩
theorem clone_f {l:List Int} (h:l.length≤1000000):slices_Clone_int_int.f l=some l:=by
 unfold slices_Clone_int_int.f
 rw[Option.bind_some,if_pos (by simp only[List.length_nil];omega),List.nil_append]
def copied_T5:Bool × List (List Nat × List Nat):=(true,[([],[]),([0],[0]),([],[]),([],[]),([3],[3]),([],[]),([4,5],[4,5]),([6],[6]),([7],[7]),([8],[8]),([1,2,0,1,2,3,4,5,6,7,8,9],[1,2]),([10,0,1,2,3,4,5,6,7,8,9],[10]),([11,9,9,0,1,2,3,4,5,6,7,8,9],[9,11])])
def copied_B5:List Nat:=[0,1,0,0,8,0,56,120,248,504,1023,2047,4095]
theorem copied_tab5:rtab .any (opsOf Try.f20 5)=copied_T5:=by kernel_rfl
theorem copied_bits5:waitsOk copied_T5.2 copied_B5=true:=by kernel_rfl
set_option maxHeartbeats 8000000 in
set_option maxRecDepth 100000 in
theorem copied_ (a0:Int) (A1:Option Addr) (c1:Nat) (l1:List S34) (a2:Int) (w:World) (hr0:Kd.C k34 w A1 l1.length l1) (hc0:l1.length≤c1) (hl:l1.length≤1000000) (hi : ∀ x ∈ l1,x.f0.length≤1000000) :
  Calls Try.prog 20 #[.agg #[.int .i64 a0,.slice A1 l1.length c1,.int .i64 a2]] w fun e w' => ∃ v,e=.returned (.agg #[.int .i64 a0,v,.int .i64 a2])∧Kd.S k34 34 w' w.heap.size (fun _=>True) v l1∧Below w.heap.size w w':=by
 have HR0:=am hr0
 have HC0:=am hc0
 have HL0:=am hl
 have HI0:=am hi
 clear hr0 hc0 hl hi
 have HB:=am (Below.refl w.heap.size w)
 go_enter Try.func20,Try.ntmps20
 go_wp2_with (first|((with_reducible refine gate_dst (N:=1) rfl ?_);refine box_event ?hg (N:=1) ?hd (cs:=#[.int .i64 a0,.slice A1 l1.length c1,.int .i64 a2]) (t:=25) ?hr ?_;(case hd=>rfl);(case hg=>rfl);(case hr=>first|(go_simp;done)|(go_simp;rfl));intro g1 hg w3 hbox hb;have n0_:=am (below_step HB.out hb);have BK1:=am hbox;have GE1:Aside0 (w.heap.size≤g1):=am (by rw[hg];exact below_size HB.out);clear HB hb hbox hg;have HB:=n0_;clear n0_;have hcz1_1:w3.cell? ⟨g1,1,none⟩=some (.slice A1 l1.length c1):=(blk_cell BK1.out 1).trans rfl)|((with_reducible refine gate_dst (N:=2) rfl ?_);refine box_event ?hg (N:=2) ?hd (cs:=#[.int .i64 0,.slice none 0 0,.int .i64 0]) (t:=25) ?hr ?_;(case hd=>rfl);(case hg=>rfl);(case hr=>first|(go_simp;done)|(go_simp;rfl));intro g2 hg w4 hbox hb;have n0_:=am (below_step HB.out hb);have n1_:=am (blk_below BK1.out hb);have NE12:Aside0 (g1≠g2):=am (by have:=blk_lt BK1.out;omega);have BK2:=am hbox;have GE2:Aside0 (w.heap.size≤g2):=am (by rw[hg];exact below_size HB.out);clear HB BK1 hb hbox hg hcz1_1;have HB:=n0_;have BK1:=n1_;clear n0_ n1_;have hcz1_1:w4.cell? ⟨g1,1,none⟩=some (.slice A1 l1.length c1):=(blk_cell BK1.out 1).trans rfl)|((with_reducible refine gate_callee (f:=32) rfl ?_);refine goesA (some 6) rfl rfl Try.func32 #[.slice A1 l1.length c1] rfl ?_;refine(cloneQ_ A1 c1 l1 w _ ?side0 HR0.out HC0.out HL0.out).mono ?_;(case side0=>exact HB.out);rintro e w5 ⟨v,rfl,ho,hb⟩;refine⟨_,rfl,?_⟩;obtain⟨Ag,cg,eg⟩:=Kd.R_slice ho;subst eg;have hl1:=blk_lt BK1.out;have hl2:=blk_lt BK2.out;have HP:=am (KP.P_start (ok:=fun k=>k≠g1∧k≠g2) (Kd.R_mono (Kd.R_lower (Kd.R_bound ho) (below_size HB.out)) (fun k hk=>⟨by have:=hk.2.1;omega,by have:=hk.2.1;omega⟩)));have n0_:=am (below_step HB.out hb);have n1_:=am (blk_below BK1.out hb);have n2_:=am (blk_below BK2.out hb);clear HB BK1 BK2 hb ho hl1 hl2 hcz1_1;have HB:=n0_;have BK1:=n1_;have BK2:=n2_;clear n0_ n1_ n2_;have hcz1_1:w5.cell? ⟨g1,1,none⟩=some (.slice A1 l1.length c1):=(blk_cell BK1.out 1).trans rfl;have hfz1_1:=blk_frozen BK1.out 1))
 go_loopg [11] l1.length (fun kq v11 w' => ∃ x11:Int,v11=.int .i64 x11∧Aside0 (0≤x11)∧Aside0 (x11≤l1.length)∧Aside0 ((l1.length:Int) - x11≤kq)∧Aside0 (KP.PQ_ k34 34 w w' w.heap.size (fun k=>k≠g1∧k≠g2) (.slice Ag l1.length cg) l1 x11.toNat)∧Aside0 (w'.heap[g1]?=some (.cells #[.int .i64 a0,.slice Ag l1.length cg,.int .i64 a2] 25 (0,0)))∧Aside0 (w'.heap[g2]?=some (.cells #[.int .i64 0,.slice none 0 0,.int .i64 0] 25 (0,0)))∧Aside0 (Below w.heap.size w w'))
 case atStart=>exact⟨0,rfl,⟨Int.le_refl _⟩,⟨by omega⟩,⟨by omega⟩,⟨KP.P_step HP.out (fun k hk _=>Below.heap_setCell _ _ _ k hk.1)⟩,⟨blk_put (cs:=#[.int .i64 a0,.slice A1 l1.length c1,.int .i64 a2]) BK1.out 1 _ rfl⟩,⟨blk_far BK2.out (Ne.symm NE12.out) _⟩,⟨below_set HB.out GE1.out⟩⟩
 case round =>
  clear hcz1_1 hfz1_1 HP BK1 BK2 HB
  obtain⟨x11,rfl,HX0,HXN,HK,HP,BK1,BK2,HB⟩:=hrel
  by_cases c6:x11 < (l1.length:Int)
  ·have c6b0:decide (x11 < (l1.length:Int))=true:=decide_eq_true c6
   have c5b0:decide (0≤x11)=true:=decide_eq_true HX0.out
   have hx0_:=HX0.out
   obtain⟨k1,rfl⟩ : ∃ k1,gk=k1+1:=⟨gk - 1,by have:=HK.out;omega⟩
   obtain⟨x,hx⟩ : ∃ x,l1[x11.toNat]?=some x:=⟨_,List.getElem?_eq_getElem (by omega)⟩
   obtain⟨g,cap,ev,hgb,hgl,hgo,_⟩:=KP.P_form HP.out (by omega)
   injection ev with ea_ en_ ec_
   subst ea_;subst ec_;clear en_
   obtain⟨c,hcl,hK,hcc,hfr⟩:=KP.P_get HP.out hx rfl
   obtain⟨A0,c0,rfl,hl0,hC⟩:=k34_open hK
   have hx1_0:World.cell? _ ⟨g,x11.toNat * 3,none⟩=some (.slice A0 x.f0.length c0):=hcc 0 _ rfl
   have hx1_1:World.cell? _ ⟨g,x11.toNat * 3+1,none⟩=some (.int .i64 x.f1):=hcc 1 _ rfl
   have hx1_2:World.cell? _ ⟨g,x11.toNat * 3+2,none⟩=some (.int .i64 x.f2):=hcc 2 _ rfl
   have HXL:=am (HI0.out x (List.mem_of_getElem? hx))
   have HCx:=am (Kd.C_below hC HB.out)
   have HLx:=am hl0
   have HHX:=am hx
   have HGO:=am hgo
   have HGB:=am hgb
   have p206:=eq_true hx0_
   have q206:=eq_true c6
   clear hC hl0 hcc hfr hcl hx hgo hgb hgl hx0_ c6 hK
   try go_wp2
   have n0_:=am (KP.P_below HP.out (below_drew1 (Below.refl _ _)))
   have n1_:=am (blk_drew BK1.out)
   have n2_:=am (blk_drew BK2.out)
   have n3_:=am (below_drew1 HB.out)
   have n4_:=am (Kd.C_drew HCx.out)
   clear HP BK1 BK2 HB HCx
   have HP:=n0_
   have BK1:=n1_
   have BK2:=n2_
   have HB:=n3_
   have HCx:=n4_
   clear n0_ n1_ n2_ n3_ n4_
   refine start_ (n:=13) (S:=fun w'=>w'.cell? ⟨g1,0,none⟩=some (.int .i64 a0)∧w'.cell? ⟨g1,1,none⟩=some (.slice (some ⟨g,0,none⟩) l1.length cg)∧w'.cell? ⟨g1,2,none⟩=some (.int .i64 a2)∧w'.cell? ⟨g,x11.toNat * 3,none⟩=some (.slice A0 x.f0.length c0)∧w'.cell? ⟨g,x11.toNat * 3+1,none⟩=some (.int .i64 x.f1)∧w'.cell? ⟨g,x11.toNat * 3+2,none⟩=some (.int .i64 x.f2)) (ds:=[12]) #[false,false,false,false,false,false,false,false,false,false,false,false,false] (by kernel_rfl) rfl rfl ⟨(blk_cell BK1.out 0).trans rfl,(blk_cell BK1.out 1).trans rfl,(blk_cell BK1.out 2).trans rfl,hx1_0,hx1_1,hx1_2⟩ (fun hHeld => ?_);refine with_tabW copied_tab5 copied_bits5 (fun HT_ HW_ => ?_)
   generalize World.drew _=w15 at HP BK1 BK2 HB HCx hx1_0 hx1_1 hx1_2 hHeld ⊢
   refine pS HT_ 0 14 ?_;refine pS HT_ 2 16 ?_;refine pS HT_ 3 17 ?_;refine pS HT_ 5 19 ?_;refine tS HT_ HW_ hHeld 1 15 ?_;refine tS HT_ HW_ hHeld 4 18 ?_;refine pS HT_ 6 20 ?_;refine pS HT_ 7 21 ?_;refine tS HT_ HW_ hHeld 8 22 ?_
   refine one_ (i:=9) (N:=some 23) #[true,true,true,true,true,true,true,true,true,true,false,false,false] rfl rfl (one_of HT_.out (by kernel_rfl)) (by decide) (fun K hK => ?_)
   refine goes_ Try.func33 (by kernel_rfl) rfl #[.slice A0 x.f0.length c0] (by rfl) rfl rfl (by(try simp only[List.map_toArray,List.map_cons,List.map_nil]);first|done|rfl|(simp only[List.length_drop,List.length_take];rfl)) ?_
   refine(slices_Clone_int_int.calls A0 c0 x.f0 x.f0 _ ?side1 HLx.out (clone_f HXL.out)).mono ?_
   (case side1=>repeat (first|exact HCx.out|(with_reducible refine Kd.C_alloc ?_ _)|(with_reducible refine Kd.C_drewN ?_ _)|(with_reducible refine Kd.C_drew ?_)))
   rintro e w17 ⟨v208,rfl,ho0,hb⟩
   have HS3_:=(hb.cell (World.block_lt_of_cell? _ _ (hHeld.2.2.2.1))).trans (hHeld.2.2.2.1)
   have HS4_:=(hb.cell (World.block_lt_of_cell? _ _ (hHeld.2.2.2.2.1))).trans (hHeld.2.2.2.2.1)
   have HS5_:=(hb.cell (World.block_lt_of_cell? _ _ (hHeld.2.2.2.2.2))).trans (hHeld.2.2.2.2.2)
   refine⟨_,rfl,?_⟩
   have hl1:=blk_lt BK1.out
   have hl2:=blk_lt BK2.out
   have HBk:=am (below_size HB.out)
   have n0_:=am (KP.P_mono (ok':=fun k=>(k≠g1∧k≠g2)∧k < w15.heap.size) (KP.P_below (KP.P_bound HP.out) hb) (fun k hk=>⟨hk.1,hk.2.2⟩))
   have n1_:=am (blk_below BK1.out hb)
   have n2_:=am (blk_below BK2.out hb)
   have n3_:=am (below_step HB.out hb)
   have HV:=am (Kd.R_mono (ok':=fun k=>w15.heap.size≤k) (Kd.R_lower (Kd.R_bound ho0) HBk.out) (fun k hk=>hk.2.1))
   clear HP BK1 BK2 HB ho0 hb
   have HP:=n0_
   have BK1:=n1_
   have BK2:=n2_
   have HB:=n3_
   clear n0_ n1_ n2_ n3_
   obtain⟨c,hcl,hK_,hcc,hfr⟩:=KP.P_get HP.out HHX.out rfl
   obtain⟨A0',c0',rfl,_,_⟩:=k34_open hK_
   have hfx0:World.frozen? _ ⟨g,x11.toNat * 3,none⟩=false:=hfr 0
   obtain⟨A8,c8,e8⟩:=Kd.R_slice HV.out
   subst e8
   have HQ:=am (KP.P_put (seg:=[.slice A8 x.f0.length c8]) (j:=0) HP.out HHX.out rfl hcl hcc (show 1≤3 from by decide) (k34_mkM _ _ (fun k=>w15.heap.size≤k) x HV.out) (fun k h1 h2=>Nat.not_lt.2 h1 h2.2))
   clear hcl hcc hfr hK_
   refine hK.out _ _ ⟨(blk_cell BK1.out 0).trans rfl,(blk_cell BK1.out 1).trans rfl,(blk_cell BK1.out 2).trans rfl,HS3_,HS4_,HS5_⟩ (fun hHeld => ?_)
   clear hK K
   refine norm_ (a':=?_) ?_ ?_
   rotate_left
   ·show Act.put _ (some 23) _=_
    simp only[Act.put,zA,zB,zC,i64_w,i32_w]
    rfl
   refine pS HT_ 10 24 ?_;refine pS HT_ 11 25 ?_
   refine last_ (i:=12) (N:=none) #[true,true,true,true,true,true,true,true,true,true,true,true,true] rfl rfl (one_of HT_.out (by kernel_rfl)) (by decide) (fun K hK => ?_)
   refine skip_ (w1:=?_) (by rfl) rfl ?_ ?_
   rotate_left
   ·go_simp
    rfl
   refine hK.out _ _ ?_
   clear hK K
   refine done_ (done_of HT_.out (by kernel_rfl)) ?_
   try go_wp2
   have ex_:(wrap64 (x11+1)).toNat=x11.toNat+1:=by
    have h1_:=of_eq_true p206
    have h2_:=of_eq_true q206
    have h3_:=HL0.out
    unfold wrap64
    omega
   have ew_:wrap64 (x11+1)=x11+1:=by
    have h1_:=of_eq_true p206
    have h2_:=of_eq_true q206
    have h3_:=HL0.out
    unfold wrap64
    omega
   have EX:=am ex_
   have EW:=am ew_
   clear ex_ ew_
   go_roundg k1
   case measure=>have:=HK.out;omega
   case rel=>exact⟨(wrap64 (x11+1)),(bR),⟨by have h1_:=of_eq_true p206;rw[EW.out];omega⟩,⟨by have h1_:=of_eq_true q206;rw[EW.out];omega⟩,⟨by have h1_:=HK.out;rw[EW.out];omega⟩,⟨by rw[EX.out];exact KP.P_mono HQ.out.1 (fun k hk=>hk.elim (fun h=>h.1) (fun h=>⟨by omega,by omega⟩))⟩,⟨blk_far BK1.out (Ne.symm HGO.out.1) _⟩,⟨blk_far BK2.out (Ne.symm HGO.out.2) _⟩,⟨below_set HB.out HGB.out⟩⟩
  ·have c6b0:decide (x11 < (l1.length:Int))=false:=decide_eq_false c6
   obtain⟨hcz1_0,hcz1_1,hcz1_2,hfz1_0,hfz1_1,hfz1_2⟩:=cells3_ BK1.out
   obtain⟨hcz2_0,hcz2_1,hcz2_2,hfz2_0,hfz2_1,hfz2_2⟩:=cells3_ BK2.out
   have hne1_:=NE12.out
   have hne2_:=Ne.symm NE12.out
   have ei_:x11.toNat=l1.length:=by have:=HXN.out;omega
   have EI:=am ei_
   clear ei_ c6
   go_wp2
   refine bodyPost_ret (results_cell_row rfl _ _ g2 25 #[.int .i64 a0,.slice Ag l1.length cg,.int .i64 a2] (0,0) _ rfl (by refine blk_put (cs:=#[.int .i64 a0,.slice Ag l1.length cg,.int .i64 0]) ?_ 2 _ rfl;refine blk_put (cs:=#[.int .i64 a0,.slice none 0 0,.int .i64 0]) ?_ 1 _ rfl;refine blk_put (cs:=#[.int .i64 0,.slice none 0 0,.int .i64 0]) ?_ 0 _ rfl;exact BK2.out) Try.underlying25 rfl (by kernel_rfl)) rfl ?_
   refine⟨_,rfl,?_,below_set (below_set (below_set HB.out GE2.out) GE2.out) GE2.out⟩
   have hp:=HP.out
   rw[EI.out] at hp
   have hs:=KP.P_end hp
   exact Kd.S_mono (Kd.S_far (p:=⟨g2,2,none⟩) (Kd.S_far (p:=⟨g2,1,none⟩) (Kd.S_far (p:=⟨g2,0,none⟩) hs (fun _ hk=>hk.2) (.int .i64 a0)) (fun _ hk=>hk.2) (.slice Ag l1.length cg)) (fun _ hk=>hk.2) (.int .i64 a2)) (fun _ _=>trivial)
theorem impl_Turns_copied.calls (a0_0:Int) (A0_1:Option Addr) (c0_1:Nat) (l0_1:List (S34)) (a0_2:Int) (r1:Int) (r2:List (S34)) (r3:Int) (w:World) (hr0_1:Kd.C k34 w A0_1 l0_1.length l0_1) (hc0_1:l0_1.length≤c0_1) (h:impl_Turns_copied.f a0_0 l0_1 a0_2=some (r1,r2,r3)) :
  Calls Try.prog 20 #[.agg #[.int .i64 a0_0,.slice A0_1 l0_1.length c0_1,.int .i64 a0_2]] w fun e w' => ∃ v1_:Value,e=.returned (.agg #[.int .i64 r1,v1_,.int .i64 r3])∧Kd.S k34 34 w' w.heap.size (fun _=>True) v1_ r2∧Below w.heap.size w w':=by
 unfold impl_Turns_copied.f at h
 by_cases c:l0_1.length≤1000000 ∧ ∀ x ∈ l0_1,x.f0.length≤1000000
 ·rw[if_pos c] at h
  injection h with h
  injection h with h1 h2
  injection h2 with h2 h3
  subst h1;subst h2;subst h3
  exact copied_ a0_0 A0_1 c0_1 l0_1 a0_2 w hr0_1 hc0_1 c.1 c.2
 ·rw[if_neg c] at h
  cases h


end Go.Proofs.Ythghcoepkknkeaa.XFnFair
