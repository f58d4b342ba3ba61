/-
The engine, part 28: a law's row out of its summary.
-/
import Derived.Test.YtoancfhhlmkcbaaKC
import Derived.Test.YtoancfhhlmkcbaaOpen
set_option linter.unusedVariables false
namespace Go.Eng
open Go Go.RowKit Go.Proofs.YtoancfhhlmkcbaaW.PrintWords Go.Proofs.Ytoancfhhlmkcbaa.Open
/-- what an argument of a type may be -/
def okTy : (t : Ty) → t.den → Prop
  | .int k, x => (Lit.int k x).wf = true
  | .bool, _ => True
  | .str, s => ByteArray.size s ≤ maxLen
  | .pair a b, x => okTy a x.1 ∧ okTy b x.2
  | .slice _ t, l => List.length l ≤ maxLen ∧ ∀ x ∈ (l : List t.den), okTy t x
theorem heapTy : ∀ t : Ty, Kd.Heap t.kd
  | .int k => Kd.heap_scalar (h1 := fun _ => rfl)
  | .bool => Kd.heap_scalar (h1 := fun _ => rfl)
  | .str => Kd.heap_scalar (h1 := fun _ => rfl)
  | .pair a b => ⟨by
    rintro w w1 x cs hb ⟨c0, c1, rfl, h0, h1⟩
    exact ⟨c0, c1, rfl, (heapTy a).K hb h0, (heapTy b).K hb h1⟩⟩
  | .slice e t => Kd.heap_slice e (heapTy t)
def E0 : Env := ⟨fun _ => 0, fun _ => .nilIface, fun _ => False⟩
def L0 : Lk := fun _ => .none
theorem rd0 {e : Nat} {t : Ty} {w : World} {A : Option Addr} {c : Nat} {xs : List t.den} (h : t.kd.C w A xs.length xs) (hc : xs.length ≤ c) : vOk E0 L0 w (.rd e t xs []) (.slice A xs.length c) := by
  unfold vOk
  exact ⟨rfl, fun d hd => (by cases hd), fun _ => ⟨A, c, rfl, hc, Kd.F_mono (Kd.C_F (heapTy t) h) (fun k _ => .inl ⟨rfl, fun h => h⟩)⟩⟩
theorem sc0 {t : Ty} {x : t.den} {v : Value} {w : World} (h : scOk t x v) : vOk E0 L0 w (.sc t x) v := by unfold vOk; exact h
theorem top_ok {P : Program} {f : Nat} {C : CSum} (h : CSnd P f C) {avs : List AV} {vals : List Value} {w : World} (hv : vsAll E0 L0 w avs vals) {rs : List Nat} {res : Option C.ρt} {post : C.ρt → Option (AV × List (Nat × Ob))} {y : C.ρt}
    (hp : C.prep L0 avs 0 = some (rs, res, post)) (hres : res = some y) (hpost : post y = some (.sc .bool true, [])) : Calls P f vals.toArray w (fun en w' => en = .returned (.bool true) ∧ Below w.heap.size w w') := by
  refine (h.2.2 E0 L0 w avs vals 0 rs res post y _ _ hp hres hpost (fun _ => trivial) hv (fun _ _ => rfl)).mono ?_
  rintro en w' ⟨v, E', rfl, ht, hv', _, h1, h2, h3⟩
  unfold vOk at hv'
  have hv' : v = .bool true := hv'
  exact ⟨by rw [hv'], ⟨h1, h2, h3, ht.size, fun k hk => (ht.froz k hk rfl).2.1⟩⟩
def law0 (s : FSig) (avs : List AV) : Option (HL s.pre.ts) := match s.pre.mat L0 (gOf avs) [] with
  | some m => HL.of s.pre.ts m.out.reverse
  | none => none
def law1 (s : FSig) (avs : List AV) (y : HL s.post.ts) : Option (AV × List (Nat × Ob)) := match s.pre.mat L0 (gOf avs) [] with
  | some m => postF s m.bs (m.bs.map (fun p => (p.2, L0 p.2))) (m.cons.map (fun c => (c.1, c.2.1, L0 c.1))) 0 y
  | none => none
theorem top_sum {P : Program} {f : Nat} {s : FSig} {np : Nat} {F : HL s.pre.ts → Option (HL s.post.ts)} (h : CSnd P f (s.sum np F)) {avs : List AV} {vals : List Value} {w : World} (hv : vsAll E0 L0 w avs vals) (x : HL s.pre.ts) (y : HL s.post.ts)
    (hn : Nat.beq avs.length np = true) (hx : law0 s avs = some x) (hpost : law1 s avs y = some (.sc .bool true, [])) (hres : F x = some y) : Calls P f vals.toArray w (fun en w' => en = .returned (.bool true) ∧ Below w.heap.size w w') := by
  unfold law0 at hx
  unfold law1 at hpost
  cases hm : s.pre.mat L0 (gOf avs) [] with
  | none => rw [hm] at hx; cases hx
  | some m =>
    rw [hm] at hx hpost
    refine top_ok h hv (rs := sndL m.bs ++ m.cons.map (·.1)) (res := F x) (post := postF s m.bs (m.bs.map (fun p => (p.2, L0 p.2))) (m.cons.map (fun c => (c.1, c.2.1, L0 c.1))) 0) (y := y) ?_ hres hpost
    simp only [FSig.sum, hm, hn, cond_true]
    simp only [] at hx
    rw [hx]
end Go.Eng
