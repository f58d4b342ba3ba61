-- Written by this session's own program (wip/xprint.py) out of the translation; Lean checks it.
import Derived.Test.YteneeohaoplpbaaXFnSprayx0
import Derived.Test.YteneeohaoplpbaaXFnSprayx2
import Derived.Test.YteneeohaoplpbaaXFnSprayx6
namespace Go.Proofs.Yteneeohaoplpbaa.XFnSpray
open Go.RowKit Go.Proofs.YteneeohaoplpbaaW.PrintWords Go.Proofs.YteneeohaoplpbaaW.PrintLast Go.Proofs.YteneeohaoplpbaaW.PrintMore
open Go.Proofs.YteneeohaoplpbaaW.PrintWords.Aside0 renaming mk → am
attribute [local go_sem] max2_int min2_int max_two min_two max_three min_three max_four min_four   -- for this text's walks alone
set_option linter.unusedVariables false
set_option linter.unusedSimpArgs false

/-! ### slices_IndexFunc_int_int_impl_CarriersIn_lit1: function 148 -/
def slices_IndexFunc_int_int_impl_CarriersIn_lit1.l0:Nat→List Int→Int→Int→List Int→Int→Bool→Option (Int × Int × Bool)
 | 0,_,_,_,_,_,_=>none
 | k+1,x0,x7,x8,x2000,x2001,x2002=>if x8 < x7 then (if 0≤x8 then (if x8 < (x0.length:Int) then ((impl_CarriersIn_lit1_captured.f (rd x0 x8) x2000 x2001 x2002).bind fun bt354=>(if bt354.1=true then (some (x8,bt354.2.1,bt354.2.2)) else (slices_IndexFunc_int_int_impl_CarriersIn_lit1.l0 k x0 x7 (wrap64 (x8+1)) x2000 bt354.2.1 bt354.2.2))) else (none)) else (none)) else (some ((-1),x2001,x2002))
def slices_IndexFunc_int_int_impl_CarriersIn_lit1.f (k:Nat) (l0:List Int) (s1_0:List Int) (s1_1:Int) (s1_2:Bool):Option (Int × Int × Bool):=slices_IndexFunc_int_int_impl_CarriersIn_lit1.l0 k l0 (l0.length:Int) 0 s1_0 s1_1 s1_2
theorem slices_IndexFunc_int_int_impl_CarriersIn_lit1.mono_l : ∀ k,(∀ y0 y1 y2 y3 y4 y5,LeO (slices_IndexFunc_int_int_impl_CarriersIn_lit1.l0 k y0 y1 y2 y3 y4 y5) (slices_IndexFunc_int_int_impl_CarriersIn_lit1.l0 (k+1) y0 y1 y2 y3 y4 y5))
 | 0=>fun _ _ _ _ _ _ r h=>by simp[slices_IndexFunc_int_int_impl_CarriersIn_lit1.l0] at h
 | k+1=>by
  have ih0:=slices_IndexFunc_int_int_impl_CarriersIn_lit1.mono_l k
  ·intro y0 y1 y2 y3 y4 y5
   unfold slices_IndexFunc_int_int_impl_CarriersIn_lit1.l0
   repeat' first
   | (with_reducible exact ih0 _ _ _ _ _ _)
   | (with_reducible exact LeO.refl _)
   | (with_reducible exact LeO.none _)
   | (with_reducible refine LeO.ite ?_ ?_)
   | (with_reducible refine LeO.bind ?_ (fun _ => ?_))
theorem slices_IndexFunc_int_int_impl_CarriersIn_lit1.mono : ∀ a0 a1 a2 a3 k,LeO (slices_IndexFunc_int_int_impl_CarriersIn_lit1.f k a0 a1 a2 a3) (slices_IndexFunc_int_int_impl_CarriersIn_lit1.f (k+1) a0 a1 a2 a3):=by
 intro a0 a1 a2 a3 k
 have ih0:=slices_IndexFunc_int_int_impl_CarriersIn_lit1.mono_l k
 unfold slices_IndexFunc_int_int_impl_CarriersIn_lit1.f
 repeat' first
  | (with_reducible exact ih0 _ _ _ _ _ _)
  | (with_reducible exact LeO.refl _)
  | (with_reducible exact LeO.none _)
  | (with_reducible refine LeO.ite ?_ ?_)
  | (with_reducible refine LeO.bind ?_ (fun _ => ?_))
set_option maxHeartbeats 8000000 in
set_option maxRecDepth 100000 in
theorem slices_IndexFunc_int_int_impl_CarriersIn_lit1.calls (k:Nat) (A0:Option Addr) (c0:Nat) (l0:List Int) (g:Nat) (s1_0:List Int) (s1_1:Int) (s1_2:Bool) (r1:Int) (r2:Int) (r3:Bool) (w0 w:World) (hI:IsS62 w0 w g s1_0 s1_1 s1_2) (hB:Below w0.heap.size w0 w) (hr0:Kd.C (Kd.int .i64) w A0 l0.length l0) (hc0:l0.length≤c0) (hf0 : ∀ ad,A0=some ad→0 < l0.length→ad.block≠g) (h:slices_IndexFunc_int_int_impl_CarriersIn_lit1.f k l0 s1_0 s1_1 s1_2=some (r1,r2,r3)) :
  Calls Try.prog 148 #[.slice A0 l0.length c0,(.func (.func 111) #[] #[.pointer (some ⟨g,0,none⟩)])] w fun e w'=>e=.returned (.int .i64 r1)∧IsS62 w0 w' g s1_0 r2 r3∧Below w0.heap.size w0 w'∧KeepBut w w' g none:=by
 have HR0:=am hr0
 have HC0:=am hc0
 clear hr0 hc0
 have HI1:=am hI
 have HK:=am (KeepBut.refl w g none)
 have HL:=am hB.size
 clear hI
 have HW0:=am hB.size
 have HB:=am hB
 clear hB
 have H:(slices_IndexFunc_int_int_impl_CarriersIn_lit1.l0 k l0 (l0.length:Int) 0 s1_0 s1_1 s1_2)=some (r1,r2,r3):=h
 clear h
 have H':=am H
 clear H
 go_enter Try.func148,Try.ntmps148
 go_wp2
 go_loopg [8] k (fun kq v8 w' => ∃ (x8_1:Int) (x2001_1:Int) (x2002_1:Bool),v8=.int .i64 x8_1∧Aside0 (slices_IndexFunc_int_int_impl_CarriersIn_lit1.l0 kq l0 (l0.length:Int) x8_1 s1_0 x2001_1 x2002_1=some (r1,r2,r3))∧Aside0 (kq≤k)∧Aside0 (IsS62 w0 w' g s1_0 x2001_1 x2002_1)∧Aside0 (KeepBut w w' g none)∧Aside0 (Below w0.heap.size w0 w'))
 case atStart=>exact⟨(0),(s1_1),(s1_2),(bR),H',⟨Nat.le_refl _⟩,⟨by repeat (first|(with_reducible first|exact HI1.out|apply IsS62.alloc|apply IsS62.drewN|apply IsS62.drew|apply IsS62.set_1|apply IsS62.set_2)|exact HI1.out)⟩,⟨by repeat (first|(with_reducible first|exact HK.out|apply KeepBut.set_|apply keep_drewN|apply keep_drew|apply keep_alloc)|exact HK.out)⟩,⟨by repeat (first|(with_reducible first|exact HB.out|apply below_alloc|apply pw_below_drewN|apply below_drew1|refine below_set ?_ (IsS62.ge HI1.out))|exact HB.out)⟩⟩
 case round =>
  clear H'
  try clear p2
  obtain⟨x8_1,x2001_1,x2002_1,rfl,HA,HK1,HI1,HK,HB⟩:=hrel
  cases gk with
  | zero=>exact absurd HA.out (by simp[slices_IndexFunc_int_int_impl_CarriersIn_lit1.l0])
  | succ k1 =>
   have H:=HA.out
   clear HA
   simp only[slices_IndexFunc_int_int_impl_CarriersIn_lit1.l0] at H
   by_cases c3:x8_1 < (l0.length:Int)
   ·rw[if_pos c3] at H
    have c3b0:decide (x8_1 < (l0.length:Int))=true:=decide_eq_true c3
    clear c3
    by_cases c4:0≤x8_1
    ·rw[if_pos c4] at H
     have c4b0:decide (0≤x8_1)=true:=decide_eq_true c4
     clear c4
     by_cases c5:x8_1 < (l0.length:Int)
     ·rw[if_pos c5] at H
      have c5b0:decide (x8_1 < (l0.length:Int))=true:=decide_eq_true c5
      clear c5
      replace H:=bI_ H
      obtain⟨⟨t354,t355,t356⟩,A60,H⟩:=H
      replace H:(if t354=true then (some (x8_1,t355,t356)) else (slices_IndexFunc_int_int_impl_CarriersIn_lit1.l0 k1 l0 (l0.length:Int) (wrap64 (x8_1+1)) s1_0 t355 t356))=some (r1,r2,r3):=H
      have A6:=am A60
      clear A60
      by_cases c7:t354=true
      ·subst c7
       have H1:(some (x8_1,t355,t356))=some (r1,r2,r3):=by rw[if_pos rfl] at H;exact H
       clear H
       have H:=H1
       clear H1
       simp only[Option.some.injEq,Prod.mk.injEq] at H
       obtain⟨rfl,rfl,rfl⟩:=H
       have p353:0≤(x8_1:Int):=bD_
       have q353:x8_1 < (l0.length:Int):=bD_
       obtain⟨ad353,e353,hx353_0⟩:=Kd.at_int HR0.out x8_1 p353 q353
       cases e353
       replace hx353_0:=keep_cell HK.out hx353_0 (by first|(rw[add_block];exact hf0 _ rfl (by omega))|exact hf0 _ rfl (by omega)|exact hf0 ad353 rfl (by omega))
       replace p353:=eq_true p353
       replace q353:=eq_true q353
       go_wp2_with (first|(go_at_call 111;(with_reducible refine(impl_CarriersIn_lit1_captured.calls (rd l0 x8_1) g s1_0 x2001_1 x2002_1 true t355 t356 w0 _ ?side1 ?side2 A6.out).mono ?_);(case side1=>exact b48_);(case side2=>exact b47_);rintro e w8 ⟨rfl,hi,hb,hk⟩;have n0_:=am (KeepBut.trans (b0_) hk (.inl rfl));have n1_:=am (hb);have n2_:=am (hi);clear HK HB;(try clear HI1);have HK:=n0_;have HB:=n1_;have HI1:=n2_;clear n0_ n1_ n2_;(try clear hb);(try clear hb2);(try clear hk);(try clear hi)))
       go_ret
       exact⟨bE,b54_,by repeat (first|(with_reducible first|exact HB.out|apply below_alloc|apply pw_below_drewN|apply below_drew1|refine below_set ?_ (IsS62.ge HI1.out))|exact HB.out),b51_⟩
      ·replace c7:=Bool.eq_false_iff.mpr c7
       subst c7
       have H1:(slices_IndexFunc_int_int_impl_CarriersIn_lit1.l0 k1 l0 (l0.length:Int) (wrap64 (x8_1+1)) s1_0 t355 t356)=some (r1,r2,r3):=by rw[if_neg (show ¬ (false=true) by decide)] at H;exact H
       clear H
       have H:=H1
       clear H1
       have H':=am H
       clear H
       have p353:0≤(x8_1:Int):=bD_
       have q353:x8_1 < (l0.length:Int):=bD_
       obtain⟨ad353,e353,hx353_0⟩:=Kd.at_int HR0.out x8_1 p353 q353
       cases e353
       replace hx353_0:=keep_cell HK.out hx353_0 (by first|(rw[add_block];exact hf0 _ rfl (by omega))|exact hf0 _ rfl (by omega)|exact hf0 ad353 rfl (by omega))
       replace p353:=eq_true p353
       replace q353:=eq_true q353
       go_wp2_with (first|(go_at_call 111;(with_reducible refine(impl_CarriersIn_lit1_captured.calls (rd l0 x8_1) g s1_0 x2001_1 x2002_1 false t355 t356 w0 _ ?side1 ?side2 A6.out).mono ?_);(case side1=>exact b48_);(case side2=>exact b47_);rintro e w9 ⟨rfl,hi,hb,hk⟩;have n0_:=am (KeepBut.trans (b0_) hk (.inl rfl));have n1_:=am (hb);have n2_:=am (hi);clear HK HB;(try clear HI1);have HK:=n0_;have HB:=n1_;have HI1:=n2_;clear n0_ n1_ n2_;(try clear hb);(try clear hb2);(try clear hk);(try clear hi)))
       go_roundg k1
       case measure=>have:=HK1.out;omega
       case rel=>exact⟨(wrap64 (x8_1+1)),(t355),(t356),(bR),H',⟨by have:=HK1.out;omega⟩,⟨by repeat (first|(with_reducible first|exact HI1.out|apply IsS62.alloc|apply IsS62.drewN|apply IsS62.drew|apply IsS62.set_1|apply IsS62.set_2)|exact HI1.out)⟩,⟨by repeat (first|(with_reducible first|exact HK.out|apply KeepBut.set_|apply keep_drewN|apply keep_drew|apply keep_alloc)|exact HK.out)⟩,⟨by repeat (first|(with_reducible first|exact HB.out|apply below_alloc|apply pw_below_drewN|apply below_drew1|refine below_set ?_ (IsS62.ge HI1.out))|exact HB.out)⟩⟩
     ·rw[if_neg c5] at H
      exact absurd H (by simp)
    ·rw[if_neg c4] at H
     exact absurd H (by simp)
   ·rw[if_neg c3] at H
    have c3b0:decide (x8_1 < (l0.length:Int))=false:=decide_eq_false c3
    clear c3
    simp only[Option.some.injEq,Prod.mk.injEq] at H
    obtain⟨rfl,rfl,rfl⟩:=H
    go_wp2
    go_ret
    exact⟨bE,b54_,by repeat (first|(with_reducible first|exact HB.out|apply below_alloc|apply pw_below_drewN|apply below_drew1|refine below_set ?_ (IsS62.ge HI1.out))|exact HB.out),b51_⟩

/-! ### slices_DeleteFunc_int_int_impl_CarriersIn_lit1: function 92 -/
/-- The row xs with zs put over it from the place o on. -/
def putL:List Int→Nat→List Int→List Int
 | xs,_,[]=>xs
 | xs,o,z::zs=>putL (xs.set o z) (o+1) zs
theorem putL_length (zs:List Int) : ∀ (xs:List Int) (o:Nat),(putL xs o zs).length=xs.length:=by
 induction zs with
 | nil=>intro xs o;rfl
 | cons z zs ih=>intro xs o;simp only[putL];rw[ih,List.length_set]
theorem setCells_R {e base:Nat} {ok:Nat→Prop} {g n cap:Nat} (zs:List Int) : ∀ (o:Nat) (W:World) (xs:List Int),(Kd.int .i64).R e W base ok (.slice (some ⟨g,0,none⟩) n cap) xs →
  (Kd.int .i64).R e (W.setCells g o (zs.map (Value.int .i64))) base ok (.slice (some ⟨g,0,none⟩) n cap) (putL xs o zs)∧W.grownBy (W.setCells g o (zs.map (Value.int .i64))) (some g):=by
 induction zs with
 | nil=>intro o W xs h;exact⟨h,World.grownBy.refl _ _⟩
 | cons z zs ih =>
  intro o W xs h
  have h1:=Kd.R_putg h (o:Int) z
  obtain⟨h2,h3⟩:=ih (o+1) _ _ h1.1
  exact⟨h2,h1.2.trans h3⟩
theorem zc_ (n:Nat):(Builtin.zeroCells (Value.int .i64 0).cells n).toList=(List.replicate n (0:Int)).map (Value.int .i64):=by
 apply List.ext_getElem
 ·simp[Builtin.zeroCells,Value.cells]
 ·intro j h1 h2
  simp[Builtin.zeroCells,Value.cells]
  rw[Nat.mod_one]
  rfl
theorem clear_run {T:TypeId} (hT:Try.prog.underlying T=some (.slice 3)) {base:Nat} {ok:Nat→Prop} {g n cap i m c:Nat} {W:World} {xs:List Int} (h:(Kd.int .i64).R 3 W base ok (.slice (some ⟨g,0,none⟩) n cap) xs) (ty:TypeId) (hm:i+m≤n):(Builtin.clear_ #[T] ty #[.slice (some ⟨g,i,none⟩) m c]).run Try.prog W=.ok (.tuple #[]) (W.setCells g i ((List.replicate m (0:Int)).map (Value.int .i64))):=by
 have hst:=run_storeCells_cells (P:=Try.prog) g i ((List.replicate m (0:Int)).map (Value.int .i64)) 0 W (fun j hj=>by
  have:=(Kd.R_celln 0 h ((i+0+j:Nat):Int) (by omega) (by simp at hj;omega)).1
  rw[show(((i+0+j:Nat):Int)).toNat=i+0+j from rfl] at this
  rw[this]
  rfl) (fun j hj=>by
  have:=(Kd.R_celln 0 h ((i+0+j:Nat):Int) (by omega) (by simp at hj;omega)).2
  rw[show(((i+0+j:Nat):Int)).toNat=i+0+j from rfl] at this
  exact this) (fun v hv=>by
  obtain⟨z,_,rfl⟩:=List.mem_map.mp hv
  rfl)
 rw[Nat.add_zero] at hst
 cases m with
 | zero=>simp[Builtin.clear_,run_underlying hT,World.setCells]
 | succ m =>
  have hz:(zeroValue 3).run Try.prog W=.ok (.int .i64 0) W:=by
   go_simp
  have hc:=zc_ (m+1)
  simp only[Builtin.clear_]
  simp only[List.map_replicate] at hst
  simp[run_underlying hT,hz,hc,hst,Result.andThen]
theorem clear_cut {T:TypeId} (hT:Try.prog.underlying T=some (.slice 3)) {A1:Option Addr} {m c:Nat} {W0:World} {ys:List Int} (_:Kd.C (Kd.int .i64) W0 A1 m ys) {base:Nat} {ok:Nat→Prop} {g n cap i:Nat} {W:World} {xs:List Int} (h:(Kd.int .i64).R 3 W base ok (.slice (some ⟨g,0,none⟩) n cap) xs) (ty:TypeId) (hm:m=n - i) (hi:i≤n) (hA:A1=(if cap=i then some ⟨g,0,none⟩ else (some ⟨g,0,none⟩:Option Addr).map (·.add (i * 1)))) (hcap:n≤cap):(Builtin.clear_ #[T] ty #[.slice A1 m c]).run Try.prog W=.ok (.tuple #[]) (W.setCells g i ((List.replicate (n - i) (0:Int)).map (Value.int .i64))):=by
 subst hm
 by_cases q:cap=i
 ·rw[show n - i=0 by omega]
  cases A1<;>simp[Builtin.clear_,run_underlying hT,World.setCells]
 ·rw[if_neg q] at hA
  have e:A1=some ⟨g,i,none⟩:=by rw[hA];simp[Addr.add];omega
  rw[e]
  exact clear_run hT h ty (by omega)
theorem clear_event {P:Program} {ops:Array Oper} {o:Oper} {a:Act} {Q:Exit→Act→World→Prop} {rest:List Oper} {W w1:World} (hgd:o.guard=none) (hN:o.dst=none) (hrun:(execOp a.eval o).run P W=.ok (.value (.tuple #[])) w1) (h : ∀ w',w'=w1→wpList P ops Q rest a w'):wpList P ops Q (o::rest) a W :=
 Kd.event_run hgd hrun (by rw[hN];exact h _ rfl)

def slices_DeleteFunc_int_int_impl_CarriersIn_lit1.l0:Nat→List Int→Int→Int→List Int→Int→Bool→Option (List Int × Int × Bool)
 | 0,_,_,_,_,_,_=>none
 | k+1,x0,x5,x6,x2000,x2001,x2002=>if x6 < (x0.length:Int) then (if 0≤x6 then ((impl_CarriersIn_lit1_captured.f (rd x0 x6) x2000 x2001 x2002).bind fun bt361=>(if bt361.1=true then (slices_DeleteFunc_int_int_impl_CarriersIn_lit1.l0 k x0 x5 (wrap64 (x6+1)) x2000 bt361.2.1 bt361.2.2) else (if 0≤x5 then (if x5 < (x0.length:Int) then (slices_DeleteFunc_int_int_impl_CarriersIn_lit1.l0 k (x0.set (x5:Int).toNat (rd x0 x6)) (wrap64 (x5+1)) (wrap64 (x6+1)) x2000 bt361.2.1 bt361.2.2) else (none)) else (none)))) else (none)) else (if 0≤x5 then (if x5≤(x0.length:Int) then (if 0 < (x0.length:Int) then (some (((putL x0 (x5:Int).toNat (List.replicate (x0.length - (x5:Int).toNat) 0)).take (x5:Int).toNat),x2001,x2002)) else (none)) else (none)) else (none))
def slices_DeleteFunc_int_int_impl_CarriersIn_lit1.f (k:Nat) (l0:List Int) (s1_0:List Int) (s1_1:Int) (s1_2:Bool):Option (List Int × Int × Bool):=(slices_IndexFunc_int_int_impl_CarriersIn_lit1.f k l0 s1_0 s1_1 s1_2).bind fun bt357=>(if bt357.1=(-1) then (some (l0,bt357.2.1,bt357.2.2)) else (slices_DeleteFunc_int_int_impl_CarriersIn_lit1.l0 k l0 bt357.1 (wrap64 (bt357.1+1)) s1_0 bt357.2.1 bt357.2.2))
theorem slices_DeleteFunc_int_int_impl_CarriersIn_lit1.mono_l : ∀ k,(∀ y0 y1 y2 y3 y4 y5,LeO (slices_DeleteFunc_int_int_impl_CarriersIn_lit1.l0 k y0 y1 y2 y3 y4 y5) (slices_DeleteFunc_int_int_impl_CarriersIn_lit1.l0 (k+1) y0 y1 y2 y3 y4 y5))
 | 0=>fun _ _ _ _ _ _ r h=>by simp[slices_DeleteFunc_int_int_impl_CarriersIn_lit1.l0] at h
 | k+1=>by
  have ih0:=slices_DeleteFunc_int_int_impl_CarriersIn_lit1.mono_l k
  ·intro y0 y1 y2 y3 y4 y5
   unfold slices_DeleteFunc_int_int_impl_CarriersIn_lit1.l0
   repeat' first
   | (with_reducible exact ih0 _ _ _ _ _ _)
   | (with_reducible exact slices_IndexFunc_int_int_impl_CarriersIn_lit1.mono _ _ _ _ _)
   | (with_reducible exact LeO.refl _)
   | (with_reducible exact LeO.none _)
   | (with_reducible refine LeO.ite ?_ ?_)
   | (with_reducible refine LeO.bind ?_ (fun _ => ?_))
theorem slices_DeleteFunc_int_int_impl_CarriersIn_lit1.mono : ∀ a0 a1 a2 a3 k,LeO (slices_DeleteFunc_int_int_impl_CarriersIn_lit1.f k a0 a1 a2 a3) (slices_DeleteFunc_int_int_impl_CarriersIn_lit1.f (k+1) a0 a1 a2 a3):=by
 intro a0 a1 a2 a3 k
 have ih0:=slices_DeleteFunc_int_int_impl_CarriersIn_lit1.mono_l k
 unfold slices_DeleteFunc_int_int_impl_CarriersIn_lit1.f
 repeat' first
  | (with_reducible exact ih0 _ _ _ _ _ _)
  | (with_reducible exact slices_IndexFunc_int_int_impl_CarriersIn_lit1.mono _ _ _ _ _)
  | (with_reducible exact LeO.refl _)
  | (with_reducible exact LeO.none _)
  | (with_reducible refine LeO.ite ?_ ?_)
  | (with_reducible refine LeO.bind ?_ (fun _ => ?_))
set_option maxHeartbeats 8000000 in
set_option maxRecDepth 100000 in
theorem slices_DeleteFunc_int_int_impl_CarriersIn_lit1.calls (k:Nat) (P0_:Nat→Prop) (u9000_:Value) (l0:List Int) (g:Nat) (s1_0:List Int) (s1_1:Int) (s1_2:Bool) (r1:List Int) (r2:Int) (r3:Bool) (w0 w:World) (hI:IsS62 w0 w g s1_0 s1_1 s1_2) (hB:Below w0.heap.size w0 w) (ho0:Kd.R (Kd.int .i64) 3 w w0.heap.size P0_ u9000_ l0) (h:slices_DeleteFunc_int_int_impl_CarriersIn_lit1.f k l0 s1_0 s1_1 s1_2=some (r1,r2,r3)) :
  Calls Try.prog 92 #[u9000_,(.func (.func 111) #[] #[.pointer (some ⟨g,0,none⟩)])] w fun e w' => ∃ v0_:Value,e=.returned (v0_)∧Kd.R (Kd.int .i64) 3 w' w0.heap.size (fun k_=>(P0_ k_∨w.heap.size≤k_)) v0_ r1∧IsS62 w0 w' g s1_0 r2 r3∧Below w0.heap.size w0 w'∧Kept w w' (fun k_=>(P0_ k_)∨k_=g):=by
 have HO0:=am (show Kd.R (Kd.int .i64) 3 w w0.heap.size (fun k_=>(P0_ k_∨w.heap.size≤k_)) u9000_ l0 from Kd.R_mono ho0 (fun k_ hk=>(.inl hk)))
 have HI1:=am hI
 have HL:=am hB.size
 clear hI
 have HK:=am (Kept.refl w (fun k_=>(P0_ k_)∨k_=g))
 have HW0:=am hB.size
 have HB:=am hB
 clear hB
 have H:((slices_IndexFunc_int_int_impl_CarriersIn_lit1.f k l0 s1_0 s1_1 s1_2).bind fun bt357=>(if bt357.1=(-1) then (some (l0,bt357.2.1,bt357.2.2)) else (slices_DeleteFunc_int_int_impl_CarriersIn_lit1.l0 k l0 bt357.1 (wrap64 (bt357.1+1)) s1_0 bt357.2.1 bt357.2.2)))=some (r1,r2,r3):=h
 clear h
 replace H:=bI_ H
 obtain⟨⟨t357,t358,t359⟩,A30,H⟩:=H
 replace H:(if t357=(-1) then (some (l0,t358,t359)) else (slices_DeleteFunc_int_int_impl_CarriersIn_lit1.l0 k l0 t357 (wrap64 (t357+1)) s1_0 t358 t359))=some (r1,r2,r3):=H
 have A3:=am A30
 clear A30
 by_cases c4:t357=(-1)
 ·rw[if_pos c4] at H
  have c4b0:(t357 == (-1))=true:=beq_iff_eq.mpr c4
  have c4b1:(t357 != (-1))=false:=bne_eq_false_iff_eq.mpr c4
  clear c4
  simp only[Option.some.injEq,Prod.mk.injEq] at H
  obtain⟨rfl,rfl,rfl⟩:=H
  obtain⟨Ao5,co5,eo5⟩:=Kd.R_slice HO0.out
  subst eo5
  go_enter Try.func92,Try.ntmps92
  go_wp2_with (first|((with_reducible refine gate_callee (f:=148) rfl ?_);refine goesA (some 10) rfl rfl Try.func148 #[.slice Ao5 l0.length co5,(.func (.func 111) #[] #[.pointer (some ⟨g,0,none⟩)])] rfl ?_;(with_reducible refine(slices_IndexFunc_int_int_impl_CarriersIn_lit1.calls k _ _ l0 g s1_0 s1_1 s1_2 t357 t358 t359 w0 _ ?side1 ?side2 ?side3 ?side4 ?side5 A3.out).mono ?_);(case side1=>exact b48_);(case side2=>exact b47_);(case side3=>exact bT HO0.out);(case side4=>exact(Kd.R_reads' HO0.out).2.1);(case side5=>exact far_slice (IsS62.own_ne HI1.out HO0.out (b17_)));rintro e w6 ⟨rfl,hi,hb,hk⟩;refine⟨_,rfl,?_⟩;have n0_:=am (Kd.R_mono (Kd.R_keep (IsS62.apart (show IsS62 w0 _ g s1_0 s1_1 s1_2 from by repeat (first|(with_reducible first|exact HI1.out|apply IsS62.alloc|apply IsS62.drewN|apply IsS62.drew|apply IsS62.set_1|apply IsS62.set_2)|exact HI1.out)) (bK HO0.out) (b17_)) hk (fun _ h=>h.2)) (fun _ h=>h.1));have n1_:=am (Kept.of_keep (S:=(fun k_=>(P0_ k_)∨k_=g)) (b28_) hk (.inl (.inr rfl)));have n2_:=am (hb);have n3_:=am (hi);clear HO0 HK HB;(try clear HI1);have HO0:=n0_;have HK:=n1_;have HB:=n2_;have HI1:=n3_;clear n0_ n1_ n2_ n3_;(try clear hb);(try clear hb2);(try clear hk);(try clear hi)))
  go_ret
  exact⟨_,by first|rfl|(simp[errW_none,errW_some]<;>rfl)|(simp[*,errW_none,errW_some]<;>rfl),by(with_reducible repeat (first|apply Kd.R_alloc|apply Kd.R_drewN|apply Kd.R_drew));exact HO0.out,b54_,by repeat (first|(with_reducible first|exact HB.out|apply below_alloc|apply pw_below_drewN|apply below_drew1|refine below_set ?_ (IsS62.ge HI1.out))|exact HB.out),by repeat (first|(with_reducible first|exact HK.out|apply Kept.alloc|apply Kept.drewN|apply Kept.drew|refine Kept.setCell ?_ (.inl (.inr rfl)) _)|exact HK.out)⟩
 ·rw[if_neg c4] at H
  have c4b0:(t357 == (-1))=false:=beq_eq_false_iff_ne.mpr c4
  have c4b1:(t357 != (-1))=true:=bne_iff_ne.mpr c4
  have H':=am H
  clear H
  obtain⟨Ao7,co7,eo7⟩:=Kd.R_slice HO0.out
  subst eo7
  go_enter Try.func92,Try.ntmps92
  go_wp2_with (first|((with_reducible refine gate_callee (f:=148) rfl ?_);refine goesA (some 10) rfl rfl Try.func148 #[.slice Ao7 l0.length co7,(.func (.func 111) #[] #[.pointer (some ⟨g,0,none⟩)])] rfl ?_;(with_reducible refine(slices_IndexFunc_int_int_impl_CarriersIn_lit1.calls k _ _ l0 g s1_0 s1_1 s1_2 t357 t358 t359 w0 _ ?side1 ?side2 ?side3 ?side4 ?side5 A3.out).mono ?_);(case side1=>exact b48_);(case side2=>exact b47_);(case side3=>exact bT HO0.out);(case side4=>exact(Kd.R_reads' HO0.out).2.1);(case side5=>exact far_slice (IsS62.own_ne HI1.out HO0.out (b17_)));rintro e w8 ⟨rfl,hi,hb,hk⟩;refine⟨_,rfl,?_⟩;have n0_:=am (Kd.R_mono (Kd.R_keep (IsS62.apart (show IsS62 w0 _ g s1_0 s1_1 s1_2 from by repeat (first|(with_reducible first|exact HI1.out|apply IsS62.alloc|apply IsS62.drewN|apply IsS62.drew|apply IsS62.set_1|apply IsS62.set_2)|exact HI1.out)) (bK HO0.out) (b17_)) hk (fun _ h=>h.2)) (fun _ h=>h.1));have n1_:=am (Kept.of_keep (S:=(fun k_=>(P0_ k_)∨k_=g)) (b28_) hk (.inl (.inr rfl)));have n2_:=am (hb);have n3_:=am (hi);clear HO0 HK HB;(try clear HI1);have HO0:=n0_;have HK:=n1_;have HB:=n2_;have HI1:=n3_;clear n0_ n1_ n2_ n3_;(try clear hb);(try clear hb2);(try clear hk);(try clear hi)))
  go_loopg [5,6] k (fun kq v5 v6 w' => ∃ (x0_1:List Int) (x5_1:Int) (x6_1:Int) (x2001_1:Int) (x2002_1:Bool),v5=.int .i64 x5_1∧v6=.int .i64 x6_1∧Aside0 (slices_DeleteFunc_int_int_impl_CarriersIn_lit1.l0 kq x0_1 x5_1 x6_1 s1_0 x2001_1 x2002_1=some (r1,r2,r3))∧Aside0 (kq≤k)∧Aside0 (Kd.R (Kd.int .i64) 3 w' w0.heap.size (fun k_=>(P0_ k_∨w.heap.size≤k_)) (.slice Ao7 l0.length co7) x0_1)∧Aside0 (IsS62 w0 w' g s1_0 x2001_1 x2002_1)∧Aside0 (Kept w w' (fun k_=>(P0_ k_)∨k_=g))∧Aside0 (Below w0.heap.size w0 w'))
  case atStart=>exact⟨(l0),(t357),(wrap64 (t357+1)),(t358),(t359),(bR),(bR),H',⟨Nat.le_refl _⟩,⟨by(with_reducible repeat (first|apply Kd.R_alloc|apply Kd.R_drewN|apply Kd.R_drew));exact HO0.out⟩,⟨by repeat (first|(with_reducible first|exact HI1.out|apply IsS62.alloc|apply IsS62.drewN|apply IsS62.drew|apply IsS62.set_1|apply IsS62.set_2)|exact HI1.out)⟩,⟨by repeat (first|(with_reducible first|exact HK.out|apply Kept.alloc|apply Kept.drewN|apply Kept.drew|refine Kept.setCell ?_ (.inl (.inr rfl)) _)|exact HK.out)⟩,⟨by repeat (first|(with_reducible first|exact HB.out|apply below_alloc|apply pw_below_drewN|apply below_drew1|refine below_set ?_ (IsS62.ge HI1.out))|exact HB.out)⟩⟩
  case round =>
   clear H'
   try clear p2
   try clear c4
   try clear c4b0
   try clear c4b1
   try clear p6
   obtain⟨x0_1,x5_1,x6_1,x2001_1,x2002_1,rfl,rfl,HA,HK1,HO_0,HI1,HK,HB⟩:=hrel
   have hl0_1:=(Kd.R_reads' HO_0.out).1
   rw[hl0_1] at HO_0
   (try simp only[hl0_1])
   cases gk with
   | zero=>exact absurd HA.out (by simp[slices_DeleteFunc_int_int_impl_CarriersIn_lit1.l0])
   | succ k1 =>
    have H:=HA.out
    clear HA
    simp only[slices_DeleteFunc_int_int_impl_CarriersIn_lit1.l0] at H
    by_cases c9:x6_1 < (x0_1.length:Int)
    ·rw[if_pos c9] at H
     have c9b0:decide (x6_1 < (x0_1.length:Int))=true:=decide_eq_true c9
     clear c9
     by_cases c10:0≤x6_1
     ·rw[if_pos c10] at H
      have c10b0:decide (0≤x6_1)=true:=decide_eq_true c10
      clear c10
      replace H:=bI_ H
      obtain⟨⟨t361,t362,t363⟩,A110,H⟩:=H
      replace H:(if t361=true then (slices_DeleteFunc_int_int_impl_CarriersIn_lit1.l0 k1 x0_1 x5_1 (wrap64 (x6_1+1)) s1_0 t362 t363) else (if 0≤x5_1 then (if x5_1 < (x0_1.length:Int) then (slices_DeleteFunc_int_int_impl_CarriersIn_lit1.l0 k1 (x0_1.set (x5_1:Int).toNat (rd x0_1 x6_1)) (wrap64 (x5_1+1)) (wrap64 (x6_1+1)) s1_0 t362 t363) else (none)) else (none)))=some (r1,r2,r3):=H
      have A11:=am A110
      clear A110
      by_cases c12:t361=true
      ·subst c12
       have H1:(slices_DeleteFunc_int_int_impl_CarriersIn_lit1.l0 k1 x0_1 x5_1 (wrap64 (x6_1+1)) s1_0 t362 t363)=some (r1,r2,r3):=by rw[if_pos rfl] at H;exact H
       clear H
       have H:=H1
       clear H1
       have H':=am H
       clear H
       have p360:0≤(x6_1:Int):=bD_
       have q360:x6_1 < (x0_1.length:Int):=bD_
       obtain⟨ad360,e360,hx360_0⟩:=Kd.at_int (Kd.R_reads' HO_0.out).2.2 x6_1 p360 q360
       cases e360
       replace p360:=eq_true p360
       replace q360:=eq_true q360
       go_wp2_with (first|(go_at_call 111;(with_reducible refine(impl_CarriersIn_lit1_captured.calls (rd x0_1 x6_1) g s1_0 x2001_1 x2002_1 true t362 t363 w0 _ ?side1 ?side2 A11.out).mono ?_);(case side1=>exact b48_);(case side2=>exact b47_);rintro e w13 ⟨rfl,hi,hb,hk⟩;have n0_:=am (Kd.R_mono (Kd.R_keep (IsS62.apart (show IsS62 w0 _ g s1_0 x2001_1 x2002_1 from by repeat (first|(with_reducible first|exact HI1.out|apply IsS62.alloc|apply IsS62.drewN|apply IsS62.drew|apply IsS62.set_1|apply IsS62.set_2)|exact HI1.out)) (bK HO_0.out) (b17_)) hk (fun _ h=>h.2)) (fun _ h=>h.1));have n1_:=am (Kept.of_keep (S:=(fun k_=>(P0_ k_)∨k_=g)) (b28_) hk (.inl (.inr rfl)));have n2_:=am (hb);have n3_:=am (hi);clear HO_0 HK HB;(try clear HI1);have HO_0:=n0_;have HK:=n1_;have HB:=n2_;have HI1:=n3_;clear n0_ n1_ n2_ n3_;(try clear hb);(try clear hb2);(try clear hk);(try clear hi)))
       (try simp only[← hl0_1])
       go_roundg k1
       case measure=>have:=HK1.out;omega
       case rel=>exact⟨(x0_1),(x5_1),(wrap64 (x6_1+1)),(t362),(t363),(bR),(bR),H',⟨by have:=HK1.out;omega⟩,⟨by(try simp only[hl0_1]);(with_reducible repeat (first|apply Kd.R_alloc|apply Kd.R_drewN|apply Kd.R_drew));exact HO_0.out⟩,⟨by repeat (first|(with_reducible first|exact HI1.out|apply IsS62.alloc|apply IsS62.drewN|apply IsS62.drew|apply IsS62.set_1|apply IsS62.set_2)|exact HI1.out)⟩,⟨by repeat (first|(with_reducible first|exact HK.out|apply Kept.alloc|apply Kept.drewN|apply Kept.drew|refine Kept.setCell ?_ (.inl (.inr rfl)) _)|exact HK.out)⟩,⟨by repeat (first|(with_reducible first|exact HB.out|apply below_alloc|apply pw_below_drewN|apply below_drew1|refine below_set ?_ (IsS62.ge HI1.out))|exact HB.out)⟩⟩
      ·replace c12:=Bool.eq_false_iff.mpr c12
       subst c12
       have H1:(if 0≤x5_1 then (if x5_1 < (x0_1.length:Int) then (slices_DeleteFunc_int_int_impl_CarriersIn_lit1.l0 k1 (x0_1.set (x5_1:Int).toNat (rd x0_1 x6_1)) (wrap64 (x5_1+1)) (wrap64 (x6_1+1)) s1_0 t362 t363) else (none)) else (none))=some (r1,r2,r3):=by rw[if_neg (show ¬ (false=true) by decide)] at H;exact H
       clear H
       have H:=H1
       clear H1
       by_cases c14:0≤x5_1
       ·rw[if_pos c14] at H
        have c14b0:decide (0≤x5_1)=true:=decide_eq_true c14
        clear c14
        by_cases c15:x5_1 < (x0_1.length:Int)
        ·rw[if_pos c15] at H
         have c15b0:decide (x5_1 < (x0_1.length:Int))=true:=decide_eq_true c15
         clear c15
         obtain⟨y364,hy364⟩ : ∃ y_:List Int,y_=(x0_1.set (x5_1:Int).toNat (rd x0_1 x6_1)):=⟨_,rfl⟩
         replace H:(slices_DeleteFunc_int_int_impl_CarriersIn_lit1.l0 k1 y364 (wrap64 (x5_1+1)) (wrap64 (x6_1+1)) s1_0 t362 t363)=some (r1,r2,r3):=by first|(rw[hy364];with_reducible exact H)|(have H2_:=(Option.bind_some _ _).symm.trans H;rw[hy364];with_reducible exact H2_)|(have H2_:=(Option.bind_some _ _).symm.trans H;with_reducible exact H2_)|with_reducible exact H|(rw[hy364];exact H)|exact H
         have Ny364:=am hy364
         clear hy364
         have H':=am H
         clear H
         have p360:0≤(x6_1:Int):=bD_
         have q360:x6_1 < (x0_1.length:Int):=bD_
         obtain⟨ad360,e360,hx360_0⟩:=Kd.at_int (Kd.R_reads' HO_0.out).2.2 x6_1 p360 q360
         cases e360
         replace p360:=eq_true p360
         replace q360:=eq_true q360
         go_wp2_with (first|(go_at_call 111;(with_reducible refine(impl_CarriersIn_lit1_captured.calls (rd x0_1 x6_1) g s1_0 x2001_1 x2002_1 false t362 t363 w0 _ ?side1 ?side2 A11.out).mono ?_);(case side1=>exact b48_);(case side2=>exact b47_);rintro e w17 ⟨rfl,hi,hb,hk⟩;have n0_:=am (Kd.R_mono (Kd.R_keep (IsS62.apart (show IsS62 w0 _ g s1_0 x2001_1 x2002_1 from by repeat (first|(with_reducible first|exact HI1.out|apply IsS62.alloc|apply IsS62.drewN|apply IsS62.drew|apply IsS62.set_1|apply IsS62.set_2)|exact HI1.out)) (bK HO_0.out) (b17_)) hk (fun _ h=>h.2)) (fun _ h=>h.1));have n1_:=am (Kept.of_keep (S:=(fun k_=>(P0_ k_)∨k_=g)) (b28_) hk (.inl (.inr rfl)));have n2_:=am (hb);have n3_:=am (hi);clear HO_0 HK HB;(try clear HI1);have HO_0:=n0_;have HK:=n1_;have HB:=n2_;have HI1:=n3_;clear n0_ n1_ n2_ n3_;(try clear hb);(try clear hb2);(try clear hk);(try clear hi);have p16:0≤(x5_1:Int):=bD_;have q16:(x5_1:Int) < ((x0_1.length:Int):Int):=bD_;obtain⟨go16,co16,eo16,gb16,gl16,cl16,HG16⟩:=Kd.R_form HO_0.out (by omega);(first|cases eo16|(injection eo16 with ea_ en_ ec_;(first|subst ea_|(injection ea_ with ea_;subst ea_));subst ec_;clear en_));have GB16:=am gb16;have GG16:=am HG16;clear gb16 gl16 HG16;have HMgo16:=am (show(P0_ go16∨w.heap.size≤go16) from (HO_0.out.1 _ rfl));(first|simp only[add_plain] at hx360_0|skip);obtain⟨hx16_0,hf16_0⟩:=Kd.R_celln 0 HO_0.out (x5_1:Int) p16 q16;replace p16:=eq_true p16;replace q16:=eq_true q16;obtain⟨hy18_,hz18_⟩:=Kd.R_celln 0 HO_0.out (x5_1:Int) (bD_) (bD_);have HP18:=Kd.R_putg HO_0.out (x5_1:Int) (rd x0_1 x6_1))|((with_reducible refine gate_store (t:=3) (p:=33) rfl ?_);refine store_event (t:=3) (p:=33) (v:=?vo_w19) (w1:=(w17.setCell ⟨go16,(x5_1:Int).toNat,none⟩ (.int .i64 (rd x0_1 x6_1)))) ?hg ?ho ?hn ?hr ?_;(case ho=>rfl);(case hg=>rfl);(case hn=>rfl);(case hr=>first|(go_simp;done)|(go_simp;rfl));intro w19 hw;have hg:w17.grownBy w19 (some go16):=(by rw[hw];exact HP18.2);have hp_:Kd.R (Kd.int .i64) 3 w19 w0.heap.size (fun k_=>(P0_ k_∨w.heap.size≤k_)) (.slice (some ⟨go16,0,none⟩) x0_1.length co7) y364:=(by rw[hw,Ny364.out];exact HP18.1);clear HP18;have n0_:=am (hp_);have n1_:=am (IsS62.grown (by repeat (first|(with_reducible first|exact HI1.out|apply IsS62.alloc|apply IsS62.drewN|apply IsS62.drew|apply IsS62.set_1|apply IsS62.set_2)|exact HI1.out)) hg (IsS62.own_ne HI1.out HO_0.out (b17_)));have n2_:=am ((by rw[hw];exact below_set (HB.out) GB16.out:Below w0.heap.size w0 w19));have n3_:=am (Kept.of_grown (S:=(fun k_=>(P0_ k_)∨k_=g)) hg (b28_) (fun k_ e_=>Or.imp_left Or.inl ((HO_0.out.1 k_ e_))));clear HO_0;(try clear HI1);clear HB HK;have HO_0:=n0_;have HI1:=n1_;have HB:=n2_;have HK:=n3_;clear n0_ n1_ n2_ n3_;clear hg hw hp_))
         (try simp only[← hl0_1])
         go_roundg k1
         case measure=>have:=HK1.out;omega
         case rel=>exact⟨(y364),(wrap64 (x5_1+1)),(wrap64 (x6_1+1)),(t362),(t363),(bR),(bR),H',⟨by have:=HK1.out;omega⟩,⟨by(try simp only[hl0_1]);(with_reducible repeat (first|apply Kd.R_alloc|apply Kd.R_drewN|apply Kd.R_drew));exact HO_0.out⟩,⟨by repeat (first|(with_reducible first|exact HI1.out|apply IsS62.alloc|apply IsS62.drewN|apply IsS62.drew|apply IsS62.set_1|apply IsS62.set_2)|exact HI1.out)⟩,⟨by repeat (first|(with_reducible first|exact HK.out|apply Kept.alloc|apply Kept.drewN|apply Kept.drew|refine Kept.setCell ?_ (.inl (.inr rfl)) _)|exact HK.out)⟩,⟨by repeat (first|(with_reducible first|exact HB.out|apply below_alloc|apply pw_below_drewN|apply below_drew1|refine below_set ?_ (IsS62.ge HI1.out))|exact HB.out)⟩⟩
        ·rw[if_neg c15] at H
         exact absurd H (by simp)
       ·rw[if_neg c14] at H
        exact absurd H (by simp)
     ·rw[if_neg c10] at H
      exact absurd H (by simp)
    ·rw[if_neg c9] at H
     have c9b0:decide (x6_1 < (x0_1.length:Int))=false:=decide_eq_false c9
     clear c9
     by_cases c20:0≤x5_1
     ·rw[if_pos c20] at H
      have c20b0:=eq_true c20
      have c20b1:decide (0≤x5_1)=true:=decide_eq_true c20
      clear c20
      by_cases c21:x5_1≤(x0_1.length:Int)
      ·rw[if_pos c21] at H
       have c21b0:=eq_true c21
       have c21b1:decide (x5_1≤(x0_1.length:Int))=true:=decide_eq_true c21
       clear c21
       obtain⟨y365,hy365⟩ : ∃ y_:List Int,y_=(x0_1.drop (x5_1:Int).toNat):=⟨_,rfl⟩
       replace H:(if 0 < (x0_1.length:Int) then (some (((putL x0_1 (x5_1:Int).toNat (List.replicate (x0_1.length - (x5_1:Int).toNat) 0)).take (x5_1:Int).toNat),x2001_1,x2002_1)) else (none))=some (r1,r2,r3):=by first|(rw[hy365];with_reducible exact H)|(have H2_:=(Option.bind_some _ _).symm.trans H;rw[hy365];with_reducible exact H2_)|(have H2_:=(Option.bind_some _ _).symm.trans H;with_reducible exact H2_)|with_reducible exact H|(rw[hy365];exact H)|exact H
       have Ny365:=am hy365
       clear hy365
       by_cases c22:0 < (x0_1.length:Int)
       ·rw[if_pos c22] at H
        have c22b0:=eq_true c22
        have c22b1:decide (0 < (x0_1.length:Int))=true:=decide_eq_true c22
        clear c22
        obtain⟨y369,hy369⟩ : ∃ y_:List Int,y_=(putL x0_1 (x5_1:Int).toNat (List.replicate (x0_1.length - (x5_1:Int).toNat) 0)):=⟨_,rfl⟩
        replace H:(some ((y369.take (x5_1:Int).toNat),x2001_1,x2002_1))=some (r1,r2,r3):=by first|(rw[hy369];with_reducible exact H)|(have H2_:=(Option.bind_some _ _).symm.trans H;rw[hy369];with_reducible exact H2_)|(have H2_:=(Option.bind_some _ _).symm.trans H;with_reducible exact H2_)|with_reducible exact H|(rw[hy369];exact H)|exact H
        have Ny369:=am hy369
        clear hy369
        have c23b0:=eq_true (bD_:x5_1≤(x0_1.length:Int))
        obtain⟨y370,hy370⟩ : ∃ y_:List Int,y_=(y369.take (x5_1:Int).toNat):=⟨_,rfl⟩
        replace H:(some (y370,x2001_1,x2002_1))=some (r1,r2,r3):=by first|(rw[hy370];with_reducible exact H)|(have H2_:=(Option.bind_some _ _).symm.trans H;rw[hy370];with_reducible exact H2_)|(have H2_:=(Option.bind_some _ _).symm.trans H;with_reducible exact H2_)|with_reducible exact H|(rw[hy370];exact H)|exact H
        have Ny370:=am hy370
        clear hy370
        simp only[Option.some.injEq,Prod.mk.injEq] at H
        obtain⟨rfl,rfl,rfl⟩:=H
        have q24:(x5_1:Int)≤((x0_1.length:Int):Int):=bD_
        obtain⟨i024,hi024,_,hsz24,_⟩:=info_parts info3
        have hroom24:x0_1.length≤co7:=(Kd.R_reads' HO_0.out).2.1
        have hC24:Kd.C (Kd.int .i64) _ Ao7 x0_1.length x0_1:=(Kd.R_reads' HO_0.out).2.2
        have q024:(0:Int)≤(x5_1:Int):=bD_
        have hcut24:=cut_from (P:=Try.prog) 37 3 .i64 Try.underlying37 hi024 1 hsz24 Ao7 x0_1.length co7 x5_1 q024 q24
        have hr24:=Kd.C_drop (m:=(x5_1:Int).toNat) (c:=co7) hC24 (by omega) hroom24
        obtain⟨A24,hA24⟩ : ∃ A1,A1=(if co7=(x5_1:Int).toNat then Ao7 else (Ao7:Option Addr).map (·.add ((x5_1:Int).toNat * 1))):=⟨_,rfl⟩
        obtain⟨c24,hc24⟩ : ∃ c1,c1=co7 - (x5_1:Int).toNat:=⟨_,rfl⟩
        have hy24:y365.length=x0_1.length - (x5_1:Int).toNat:=(by rw[Ny365.out,List.length_drop]<;>omega)
        rw[show(x0_1).drop (x5_1:Int).toNat=y365 from Ny365.out.symm] at hr24
        replace hr24:Kd.C (Kd.int .i64) _ A24 y365.length y365:=(by rw[hA24];exact hr24)
        rw[← hy24,← hA24,← hc24] at hcut24
        have HR368:=am hr24
        have HC368:=am (show y365.length≤c24 from by rw[hy24,hc24];exact Nat.sub_le_sub_right hroom24 _)
        clear hr24 hC24 hroom24 hi024 hsz24 hc24
        have KY24:=am hy24
        have KA24:=am hA24
        clear hy24 hA24
        have KL24:=am (show(x5_1:Int).toNat≤x0_1.length from by omega)
        replace q24:=eq_true q24
        have hl25_:0 < x0_1.length:=by have hl_:(0:Int) < (x0_1.length:Int):=bD_;omega
        obtain⟨go25,co25,eo25,gb25,gl25,cl25,HG25⟩:=Kd.R_form HO_0.out (by omega)
        (first|cases eo25|(injection eo25 with ea_ en_ ec_;(first|subst ea_|(injection ea_ with ea_;subst ea_));subst ec_;clear en_))
        have GB25:=am gb25
        have GG25:=am HG25
        clear gb25 gl25 HG25
        have HMgo25:=am (show(P0_ go25∨w.heap.size≤go25) from (HO_0.out.1 _ rfl))
        have h0_:0≤(x5_1:Int):=bD_
        have h1_:(x5_1:Int)≤(x0_1.length:Int):=bD_
        have HP25:=setCells_R (List.replicate (x0_1.length - (x5_1:Int).toNat) (0:Int)) (x5_1:Int).toNat _ _ HO_0.out
        have h3_:(x5_1:Int).toNat≤x0_1.length:=by omega
        have HC25:=am (fun (c_:Nat)=>clear_cut (c:=c_) (i:=(x5_1:Int).toNat) Try.underlying37 HR368.out HO_0.out 0 (by apply Aside0.out;assumption) h3_ (by apply Aside0.out;assumption) (Kd.R_reads' HO_0.out).2.1)
        have hyl25_:y369.length=x0_1.length:=by rw[Ny369.out,putL_length]
        clear h0_ h1_ h3_
        go_wp2_with (first|((with_reducible refine gate_builtin (b:=.clear) (xs:=#[.tmp 38]) rfl ?_);refine clear_event (w1:=(wr.setCells go25 (x5_1:Int).toNat ((List.replicate (x0_1.length - (x5_1:Int).toNat) (0:Int)).map (Value.int .i64)))) ?hg ?hn ?hr ?_;(case hg=>rfl);(case hn=>rfl);(case hr=>go_simp;rw[HC25.out];simp only[List.map_replicate];rfl);intro w26 hw;have hg:wr.grownBy w26 (some go25):=(by rw[hw];exact HP25.2);have hp_:Kd.R (Kd.int .i64) 3 w26 w0.heap.size (fun k_=>(P0_ k_∨w.heap.size≤k_)) (.slice (some ⟨go25,0,none⟩) x0_1.length co7) y369:=(by rw[hw,Ny369.out];exact HP25.1);clear HP25 HC25;have n0_:=am (hp_);have n1_:=am (IsS62.grown (by repeat (first|(with_reducible first|exact HI1.out|apply IsS62.alloc|apply IsS62.drewN|apply IsS62.drew|apply IsS62.set_1|apply IsS62.set_2)|exact HI1.out)) hg (IsS62.own_ne HI1.out HO_0.out (b17_)));have n2_:=am ((HB.out.grown hg (below_size HB.out) (fun k e_=>by cases e_;exact GB25.out):Below w0.heap.size w0 w26));have n3_:=am (Kept.of_grown (S:=(fun k_=>(P0_ k_)∨k_=g)) hg (b28_) (fun k_ e_=>Or.imp_left Or.inl ((HO_0.out.1 k_ e_))));clear HO_0;(try clear HI1);clear HB HK;have HO_0:=n0_;have HI1:=n1_;have HB:=n2_;have HK:=n3_;clear n0_ n1_ n2_ n3_;clear hg hw hp_;have q27:(x5_1:Int)≤((x0_1.length:Int):Int):=bD_;obtain⟨i027,hi027,_,hsz27,_⟩:=info_parts info3;have hcut27:=cut_to (P:=Try.prog) 37 3 .i64 Try.underlying37 hi027 (some ⟨go25,0,none⟩) x0_1.length co7 x5_1 (bD_) q27 (Kd.R_reads' HO_0.out).2.1;have hr27:=Kd.R_take (m:=(x5_1:Int).toNat) HO_0.out (by omega);have hy27:y370.length=(x5_1:Int).toNat:=(by rw[Ny370.out,List.length_take];omega);rw[← Ny370.out] at hr27;rw[← hy27] at hr27 hcut27;clear hy27 hi027 hsz27 HO_0;have HO372:=am hr27;clear hr27;replace q27:=eq_true q27))
        go_ret
        exact⟨_,by first|rfl|(simp[errW_none,errW_some]<;>rfl)|(simp[*,errW_none,errW_some]<;>rfl),by(with_reducible repeat (first|apply Kd.R_alloc|apply Kd.R_drewN|apply Kd.R_drew));exact HO372.out,b54_,by repeat (first|(with_reducible first|exact HB.out|apply below_alloc|apply pw_below_drewN|apply below_drew1|refine below_set ?_ (IsS62.ge HI1.out))|exact HB.out),by repeat (first|(with_reducible first|exact HK.out|apply Kept.alloc|apply Kept.drewN|apply Kept.drew|refine Kept.setCell ?_ (.inl (.inr rfl)) _)|exact HK.out)⟩
       ·rw[if_neg c22] at H
        exact absurd H (by simp)
      ·rw[if_neg c21] at H
       exact absurd H (by simp)
     ·rw[if_neg c20] at H
      exact absurd H (by simp)

/-! ### impl_CarriersIn: function 42 -/
def impl_CarriersIn.f (k:Nat) (l0_0:List Int) (a0_1:Int) (a0_2:Bool):Option (List Int × Bool):=(impl_GoodSpray.f k l0_0 a0_1 a0_2).bind fun t374=>(if t374=true then ((impl_numbered.f k (l0_0.length:Int)).bind fun t375=>((slices_DeleteFunc_int_int_impl_CarriersIn_lit1.f k t375 l0_0 a0_1 a0_2).bind fun bt378=>(some (bt378.1,true)))) else (some (([]:List Int),false)))
theorem impl_CarriersIn.mono : ∀ a0 a1 a2 k,LeO (impl_CarriersIn.f k a0 a1 a2) (impl_CarriersIn.f (k+1) a0 a1 a2):=by
 intro a0 a1 a2 k
 unfold impl_CarriersIn.f
 repeat' first
  | (with_reducible exact impl_GoodSpray.mono _ _ _ _)
  | (with_reducible exact impl_numbered.mono _ _)
  | (with_reducible exact slices_DeleteFunc_int_int_impl_CarriersIn_lit1.mono _ _ _ _ _)
  | (with_reducible exact LeO.refl _)
  | (with_reducible exact LeO.none _)
  | (with_reducible refine LeO.ite ?_ ?_)
  | (with_reducible refine LeO.bind ?_ (fun _ => ?_))
set_option maxHeartbeats 8000000 in
set_option maxRecDepth 100000 in
theorem impl_CarriersIn.calls (k:Nat) (A0_0:Option Addr) (c0_0:Nat) (l0_0:List Int) (a0_1:Int) (a0_2:Bool) (r1:List Int) (r2:Bool) (w:World) (hr0_0:Kd.C (Kd.int .i64) w A0_0 l0_0.length l0_0) (hc0_0:l0_0.length≤c0_0) (h:impl_CarriersIn.f k l0_0 a0_1 a0_2=some (r1,r2)) :
  Calls Try.prog 42 #[.agg #[.slice A0_0 l0_0.length c0_0,.int .i64 a0_1,.bool a0_2]] w fun e w' => ∃ v0_:Value,e=.returned (.tuple #[v0_,.bool r2])∧Kd.R (Kd.int .i64) 3 w' w.heap.size (fun _=>True) v0_ r1∧Below w.heap.size w w':=by
 have hu62:=Try.underlying62
 have HR0_0:=am hr0_0
 have HC0_0:=am hc0_0
 clear hr0_0 hc0_0
 have HB:=am (Below.refl w.heap.size w)
 have H:((impl_GoodSpray.f k l0_0 a0_1 a0_2).bind fun t374=>(if t374=true then ((impl_numbered.f k (l0_0.length:Int)).bind fun t375=>((slices_DeleteFunc_int_int_impl_CarriersIn_lit1.f k t375 l0_0 a0_1 a0_2).bind fun bt378=>(some (bt378.1,true)))) else (some (([]:List Int),false))))=some (r1,r2):=h
 clear h
 replace H:=bI_ H
 obtain⟨t374,A20,H⟩:=H
 replace H:(if t374=true then ((impl_numbered.f k (l0_0.length:Int)).bind fun t375=>((slices_DeleteFunc_int_int_impl_CarriersIn_lit1.f k t375 l0_0 a0_1 a0_2).bind fun bt378=>(some (bt378.1,true)))) else (some (([]:List Int),false)))=some (r1,r2):=H
 have A2:=am A20
 clear A20
 by_cases c3:t374=true
 ·subst c3
  have H1:((impl_numbered.f k (l0_0.length:Int)).bind fun t375=>((slices_DeleteFunc_int_int_impl_CarriersIn_lit1.f k t375 l0_0 a0_1 a0_2).bind fun bt378=>(some (bt378.1,true))))=some (r1,r2):=by rw[if_pos rfl] at H;exact H
  clear H
  have H:=H1
  clear H1
  replace H:=bI_ H
  obtain⟨t375,A40,H⟩:=H
  replace H:((slices_DeleteFunc_int_int_impl_CarriersIn_lit1.f k t375 l0_0 a0_1 a0_2).bind fun bt378=>(some (bt378.1,true)))=some (r1,r2):=H
  have A4:=am A40
  clear A40
  replace H:=bI_ H
  obtain⟨⟨t378,t381,t382⟩,A50,H⟩:=H
  replace H:(some (t378,true))=some (r1,r2):=H
  have A5:=am A50
  clear A50
  simp only[Option.some.injEq,Prod.mk.injEq] at H
  obtain⟨rfl,rfl⟩:=H
  go_enter Try.func42,Try.ntmps42
  go_wp2_with (first|((with_reducible refine gate_dst (N:=1) rfl ?_);refine box_event ?hg (N:=1) ?hd (cs:=#[.slice A0_0 l0_0.length c0_0,.int .i64 a0_1,.bool a0_2]) (t:=62) ?hr ?_;(case hd=>rfl);(case hg=>rfl);(case hr=>first|(go_simp;done)|(go_simp;rfl));intro gb373 hg w6 hbox hb;have n0_:=am (below_step (bB) hb);have n1_:=am (hbox);have n2_:=am ((bG:w.heap.size≤gb373));have n3_:=am ((bG:w.heap.size≤gb373));clear HB;have HB:=n0_;have BK373:=n1_;have GW373:=n2_;have GE373:=n3_;clear n0_ n1_ n2_ n3_;clear hb hbox hg;obtain⟨hcz7_0,hcz7_1,hcz7_2⟩:=cC3 BK373.out;obtain⟨hfz7_0,hfz7_1,hfz7_2⟩:=cF3 BK373.out)|((with_reducible refine gate_callee (f:=44) rfl ?_);refine goesA (some 5) rfl rfl Try.func44 #[.agg #[.slice A0_0 l0_0.length c0_0,.int .i64 a0_1,.bool a0_2]] rfl ?_;(with_reducible refine(impl_GoodSpray.calls k _ _ l0_0 a0_1 a0_2 true _ ?side1 ?side2 A2.out).mono ?_);(case side1=>exact bC HR0_0.out);(case side2=>exact HC0_0.out);rintro e w8 ⟨rfl,hb⟩;refine⟨_,rfl,?_⟩;have n0_:=am (bM BK373.out hb);have n1_:=am (below_step (bS GE373.out) hb);clear BK373 HB;have BK373:=n0_;have HB:=n1_;clear n0_ n1_;(try clear hb);(try clear hb2);(try clear hk);(try clear hi);obtain⟨hcz9_0,hcz9_1,hcz9_2⟩:=cC3 BK373.out;obtain⟨hfz9_0,hfz9_1,hfz9_2⟩:=cF3 BK373.out)|((with_reducible refine gate_callee (f:=93) rfl ?_);refine goesA (some 10) rfl rfl Try.func93 #[.int .i64 (l0_0.length:Int)] rfl ?_;(with_reducible refine(impl_numbered.calls k (l0_0.length:Int) t375 _ A4.out).mono ?_);rintro e w10 ⟨v376,rfl,ho0,hb⟩;refine⟨_,rfl,?_⟩;have n0_:=am (Kd.R_lower ho0 (below_size (bS GE373.out)));have n1_:=am (bM BK373.out hb);have n2_:=am (below_step (bS GE373.out) hb);clear BK373 HB;have HO377:=n0_;have BK373:=n1_;have HB:=n2_;clear n0_ n1_ n2_;(try clear hb);(try clear hb2);(try clear hk);(try clear hi);(try clear ho0);obtain⟨Ao11,co11,eo11⟩:=Kd.R_slice HO377.out;subst eo11)|((with_reducible refine gate_callee (f:=92) rfl ?_);refine goesA (some 12) rfl rfl Try.func92 #[.slice Ao11 t375.length co11,(.func (.func 111) #[] #[.pointer (some ⟨gb373,0,none⟩)])] rfl ?_;(with_reducible refine(slices_DeleteFunc_int_int_impl_CarriersIn_lit1.calls k (fun k_=>some k_=(.slice Ao11 t375.length co11:Value).ownBlock) (.slice Ao11 t375.length co11) t375 gb373 l0_0 a0_1 a0_2 t378 t381 t382 w _ ?side1 ?side2 ?side3 A5.out).mono ?_);(case side1=>exact⟨_,_,(bL BK373.out),GE373.out,HR0_0.out⟩);(case side2=>repeat (first|(with_reducible first|exact HB.out|apply below_alloc|apply pw_below_drewN|apply below_drew1|refine below_set ?_ (IsS62.ge HI373.out))|exact HB.out));(case side3=>exact Kd.R_tight rfl HO377.out);rintro e w12 ⟨v379,rfl,ho0,hi,hb,hkp⟩;refine⟨_,rfl,?_⟩;have n0_:=am (hi);have n1_:=am (Kd.R_mono (ok':=fun k_=>True) ho0 (fun k_ hk_=>trivial));have n2_:=am (hb);(try clear HI373);clear HB HO377;have HI373:=n0_;have HO380:=n1_;have HB:=n2_;clear n0_ n1_ n2_;(try clear hb);(try clear hkp);(try clear ho0)))
  go_ret2
  exact⟨_,by first|rfl|(simp[errW_none,errW_some]<;>rfl)|(simp[*,errW_none,errW_some]<;>rfl),by(with_reducible repeat (first|apply Kd.R_alloc|apply Kd.R_drewN|apply Kd.R_drew));exact HO380.out,by repeat (first|(with_reducible first|exact HB.out|apply below_alloc|apply pw_below_drewN|apply below_drew1|refine below_set ?_ (IsS62.ge HI373.out))|exact HB.out)⟩
 ·replace c3:=Bool.eq_false_iff.mpr c3
  subst c3
  have H1:(some (([]:List Int),false))=some (r1,r2):=by rw[if_neg (show ¬ (false=true) by decide)] at H;exact H
  clear H
  have H:=H1
  clear H1
  simp only[Option.some.injEq,Prod.mk.injEq] at H
  obtain⟨rfl,rfl⟩:=H
  go_enter Try.func42,Try.ntmps42
  go_wp2_with (first|((with_reducible refine gate_dst (N:=1) rfl ?_);refine box_event ?hg (N:=1) ?hd (cs:=#[.slice A0_0 l0_0.length c0_0,.int .i64 a0_1,.bool a0_2]) (t:=62) ?hr ?_;(case hd=>rfl);(case hg=>rfl);(case hr=>first|(go_simp;done)|(go_simp;rfl));intro gb373 hg w13 hbox hb;have n0_:=am (below_step (bB) hb);have n1_:=am (hbox);have n2_:=am ((bG:w.heap.size≤gb373));have n3_:=am ((bG:w.heap.size≤gb373));clear HB;have HB:=n0_;have BK373:=n1_;have GW373:=n2_;have GE373:=n3_;clear n0_ n1_ n2_ n3_;clear hb hbox hg;obtain⟨hcz14_0,hcz14_1,hcz14_2⟩:=cC3 BK373.out;obtain⟨hfz14_0,hfz14_1,hfz14_2⟩:=cF3 BK373.out)|((with_reducible refine gate_callee (f:=44) rfl ?_);refine goesA (some 5) rfl rfl Try.func44 #[.agg #[.slice A0_0 l0_0.length c0_0,.int .i64 a0_1,.bool a0_2]] rfl ?_;(with_reducible refine(impl_GoodSpray.calls k _ _ l0_0 a0_1 a0_2 false _ ?side1 ?side2 A2.out).mono ?_);(case side1=>exact bC HR0_0.out);(case side2=>exact HC0_0.out);rintro e w15 ⟨rfl,hb⟩;refine⟨_,rfl,?_⟩;have n0_:=am (bM BK373.out hb);have n1_:=am (below_step (bS GE373.out) hb);clear BK373 HB;have BK373:=n0_;have HB:=n1_;clear n0_ n1_;(try clear hb);(try clear hb2);(try clear hk);(try clear hi)))
  go_ret2
  exact⟨_,by first|rfl|(simp[errW_none,errW_some]<;>rfl)|(simp[*,errW_none,errW_some]<;>rfl),by first|exact Kd.R_nil _ _ _ _ _|exact Kd.N_nil _ _ _ _ _|exact Kd.V_nil _ _ _ _ _|exact Kd.Q_nil _ _ _ _ _|exact Kd.S_nil _ _ _ _ _,bS GE373.out⟩

/-! ### laws_has: function 43 -/
def laws_has.l0:Nat→Int→List Int→Int→Int→Option (Bool)
 | 0,_,_,_,_=>none
 | k+1,x1,x7,x8,x9=>if x9 < x8 then (if 0≤x9 then (if x9 < (x7.length:Int) then (if (rd x7 x9)=x1 then (some true) else (laws_has.l0 k x1 x7 x8 (wrap64 (x9+1)))) else (none)) else (none)) else (some false)
def laws_has.f (k:Nat) (l0:List Int) (a1:Int):Option (Bool):=laws_has.l0 k a1 l0 (l0.length:Int) 0
theorem laws_has.mono_l : ∀ k,(∀ y0 y1 y2 y3,LeO (laws_has.l0 k y0 y1 y2 y3) (laws_has.l0 (k+1) y0 y1 y2 y3))
 | 0=>fun _ _ _ _ r h=>by simp[laws_has.l0] at h
 | k+1=>by
  have ih0:=laws_has.mono_l k
  ·intro y0 y1 y2 y3
   unfold laws_has.l0
   repeat' first
   | (with_reducible exact ih0 _ _ _ _)
   | (with_reducible exact LeO.refl _)
   | (with_reducible exact LeO.none _)
   | (with_reducible refine LeO.ite ?_ ?_)
   | (with_reducible refine LeO.bind ?_ (fun _ => ?_))
theorem laws_has.mono : ∀ a0 a1 k,LeO (laws_has.f k a0 a1) (laws_has.f (k+1) a0 a1):=by
 intro a0 a1 k
 have ih0:=laws_has.mono_l k
 unfold laws_has.f
 repeat' first
  | (with_reducible exact ih0 _ _ _ _)
  | (with_reducible exact LeO.refl _)
  | (with_reducible exact LeO.none _)
  | (with_reducible refine LeO.ite ?_ ?_)
  | (with_reducible refine LeO.bind ?_ (fun _ => ?_))
set_option maxHeartbeats 8000000 in
set_option maxRecDepth 100000 in
theorem laws_has.calls (k:Nat) (A0:Option Addr) (c0:Nat) (l0:List Int) (a1:Int) (r:Bool) (w:World) (hr0:Kd.C (Kd.int .i64) w A0 l0.length l0) (hc0:l0.length≤c0) (h:laws_has.f k l0 a1=some r) :
  Calls Try.prog 43 #[.slice A0 l0.length c0,.int .i64 a1] w fun e w'=>e=.returned (.bool r)∧Drawn0 w w':=by
 have HR0:=am hr0
 have HC0:=am hc0
 clear hr0 hc0
 have H:(laws_has.l0 k a1 l0 (l0.length:Int) 0)=some r:=h
 clear h
 have H':=am H
 clear H
 go_enter Try.func43,Try.ntmps43
 go_wp2
 go_loopg [9] k (fun kq v9 w' => ∃ (x9_1:Int),v9=.int .i64 x9_1∧Aside0 (laws_has.l0 kq a1 l0 (l0.length:Int) x9_1=some r)∧Aside0 (kq≤k)∧Drawn0 w w')
 case atStart=>exact⟨(0),(bR),H',⟨Nat.le_refl _⟩,bW⟩
 case round =>
  clear H'
  try clear p2
  obtain⟨x9_1,rfl,HA,HK1,⟨m1,rfl⟩⟩:=hrel
  cases gk with
  | zero=>exact absurd HA.out (by simp[laws_has.l0])
  | succ k1 =>
   have H:=HA.out
   clear HA
   simp only[laws_has.l0] at H
   by_cases c3:x9_1 < (l0.length:Int)
   ·rw[if_pos c3] at H
    have c3b0:decide (x9_1 < (l0.length:Int))=true:=decide_eq_true c3
    clear c3
    by_cases c4:0≤x9_1
    ·rw[if_pos c4] at H
     have c4b0:decide (0≤x9_1)=true:=decide_eq_true c4
     clear c4
     by_cases c5:x9_1 < (l0.length:Int)
     ·rw[if_pos c5] at H
      have c5b0:decide (x9_1 < (l0.length:Int))=true:=decide_eq_true c5
      clear c5
      by_cases c6:(rd l0 x9_1)=a1
      ·rw[if_pos c6] at H
       have c6b0:((rd l0 x9_1) == a1)=true:=beq_iff_eq.mpr c6
       have c6b1:((rd l0 x9_1) != a1)=false:=bne_eq_false_iff_eq.mpr c6
       clear c6
       obtain rfl:=Option.some.inj H
       have p383:0≤(x9_1:Int):=bD_
       have q383:x9_1 < (l0.length:Int):=bD_
       obtain⟨ad383,e383,hx383_0⟩:=Kd.at_int HR0.out x9_1 p383 q383
       cases e383
       replace p383:=eq_true p383
       replace q383:=eq_true q383
       go_wp2
       go_ret
       exact⟨bR,bW⟩
      ·rw[if_neg c6] at H
       have c6b0:((rd l0 x9_1) == a1)=false:=beq_eq_false_iff_ne.mpr c6
       have c6b1:((rd l0 x9_1) != a1)=true:=bne_iff_ne.mpr c6
       have H':=am H
       clear H
       have p383:0≤(x9_1:Int):=bD_
       have q383:x9_1 < (l0.length:Int):=bD_
       obtain⟨ad383,e383,hx383_0⟩:=Kd.at_int HR0.out x9_1 p383 q383
       cases e383
       replace p383:=eq_true p383
       replace q383:=eq_true q383
       go_wp2
       go_roundg k1
       case measure=>have:=HK1.out;omega
       case rel=>exact⟨(wrap64 (x9_1+1)),(bR),H',⟨by have:=HK1.out;omega⟩,bW⟩
     ·rw[if_neg c5] at H
      exact absurd H (by simp)
    ·rw[if_neg c4] at H
     exact absurd H (by simp)
   ·rw[if_neg c3] at H
    have c3b0:decide (x9_1 < (l0.length:Int))=false:=decide_eq_false c3
    clear c3
    obtain rfl:=Option.some.inj H
    go_wp2
    go_ret
    exact⟨bR,bW⟩

end Go.Proofs.Yteneeohaoplpbaa.XFnSpray
