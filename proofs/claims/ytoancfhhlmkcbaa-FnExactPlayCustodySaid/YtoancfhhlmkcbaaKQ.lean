/-
The engine, part 33: a row of one's own changed in place, the header as it was; slices.Sort at whole numbers, by the kit's contract.
-/
import Derived.Test.YtoancfhhlmkcbaaKC
import Derived.Shelf.Sort.Plain
import Derived.Shelf.Slices.In.SortNone
import Derived.Sort.OwnSortedInts
import Derived.Shelf.SlSortCmp.NoneTotal
import Derived.Shelf.SlicesQ.IndexFunc
set_option linter.unusedVariables false
set_option linter.unusedSimpArgs false
set_option linter.unusedSectionVars false
namespace Go.Eng
open Go Go.RowKit Go.Proofs Go.Sort Go.Shelf Go.Proofs.YtoancfhhlmkcbaaW.PrintWords
def inS (e : Nat) (t : Ty) (F : List t.den → List AV → Option (Option (List t.den))) : CSum where
  ρt := List t.den
  prep := fun L avs fid => match avs with
    | x :: r => (ownOf L e t x).bind fun q => (F q.2.1 r).map fun res => ([q.1], res, fun ys => some (.tup .anil, [(q.1, .row e t ys q.2.2.1 (q.2.2.2.1 + 1) q.2.2.2.2 none)]))
    | _ => none
theorem in_snd {P : Program} {f : Nat} {e : Nat} {t : Ty} {F : List t.den → List AV → Option (Option (List t.den))}
    (henter : ∀ (args : Array Value) (w : World), (callFunc f args).run P w = .ok (.enter f args) w)
    (hcall : ∀ (E : Env) (L : Lk) (w : World) (r : List AV) (vs : List Value) (xs ys : List t.den) (ok : Nat → Prop) (v : Value), F xs r = some (some ys) → vsAll E L w r vs → Kd.S t.kd e w 0 ok v xs →
      Calls P f (v :: vs).toArray w (fun en w' => en = .returned (.tuple #[]) ∧ Kd.S t.kd e w' 0 ok v ys ∧ w.grownBy w' v.ownBlock ∧ ys.length = xs.length)) :
    CSnd P f (inS e t F) := by
  refine ⟨henter, fun L L' avs fid rs res post hp hL => ?_, ?_⟩
  · cases avs with
    | nil => cases hp
    | cons x r =>
      obtain ⟨q, hq, hp2⟩ := Option.bind_eq_some_iff.1 hp
      have hr : [q.1] = rs := by
        obtain ⟨res0, _, h2⟩ := Option.map_eq_some_iff.1 hp2
        exact congrArg (fun q => q.1) h2
      exact Option.bind_eq_some_iff.2 ⟨q, ownOf_L hq (hL _ (by rw [← hr]; exact List.mem_cons_self)), hp2⟩
  · intro E L w avs vals fid rs res post y av ups hp hres hpost ho hvs hfid
    cases avs with
    | nil => cases hp
    | cons x r =>
      obtain ⟨⟨o, xs, hv, v0, v1⟩, hq, hp2⟩ := Option.bind_eq_some_iff.1 hp
      obtain ⟨res0, hF, hqq⟩ := Option.map_eq_some_iff.1 hp2
      have hres : res0 = some y := (congrArg (fun q => q.2.1) hqq).trans hres
      have hpost : some (AV.tup .anil, [(o, Ob.row e t y hv (v0 + 1) v1 none)]) = some (av, ups) := (congrFun (congrArg (fun q => q.2.2) hqq) y).trans hpost
      injection hpost with hpost
      injection hpost with h1 h2
      subst h1; subst h2
      change List t.den at y
      subst hres
      obtain ⟨u, vs, rfl, hu, hvs⟩ := hvs
      obtain ⟨hob, rfl, hS⟩ := ownOf_ok ho hu hq
      refine (hcall E L w r vs xs y _ _ hF hvs hS).mono ?_
      rintro en w' ⟨rfl, hS', hg, hlen⟩
      have hm := row_over (P := P) ho hob hg hS' hlen
      exact ⟨.tuple #[], E, rfl, hm.1, (by unfold vOk; exact ⟨[], rfl, by unfold vsOk; rfl⟩), hm.2.1, hm.2.2.1, hm.2.2.2.1, hm.2.2.2.2⟩
/-! ### elements without rows, cell by cell -/
structure EncOf (t : Ty) (enc : t.den → List Value) : Prop where
  len : ∀ x, (enc x).length = t.sz
  iff : ∀ (w : World) (b : Nat) (ok : Nat → Prop) (x : t.den) (c : List Value), t.kd.M w b ok x c ↔ c = enc x
  one : ∀ x, ∀ v ∈ enc x, v.oneCell' = true
theorem enc_int (k : IntKind) : EncOf (.int k) (fun x => [.int k x]) where
  len := fun _ => rfl
  iff := fun _ _ _ _ _ => Iff.rfl
  one := fun x v hv => by rw [List.mem_singleton.1 hv]; rfl
theorem enc_pair {a b : Ty} {ea : a.den → List Value} {eb : b.den → List Value} (ha : EncOf a ea) (hb : EncOf b eb) : EncOf (.pair a b) (fun x => ea x.1 ++ eb x.2) where
  len := fun x => by rw [List.length_append, ha.len, hb.len]; rfl
  iff := fun w bb ok x c => by
    constructor
    · rintro ⟨f, c0, c1, rfl, h0, h1⟩
      rw [(ha.iff _ _ _ _ _).1 h0, (hb.iff _ _ _ _ _).1 h1]
    · rintro rfl
      exact ⟨fun _ => true, _, _, rfl, (ha.iff _ _ _ _ _).2 rfl, (hb.iff _ _ _ _ _).2 rfl⟩
  one := fun x v hv => (List.mem_append.1 hv).elim (ha.one _ v) (hb.one _ v)
section
variable {t : Ty} {enc : t.den → List Value} (h : EncOf t enc)
include h
theorem cells_enc : ∀ (xs : List t.den) (inner : List Value), inner.length = xs.length * t.sz → (∀ (j : Nat) (x : t.den), xs[j]? = some x → (inner.drop (j * t.sz)).take t.sz = enc x) → inner = xs.flatMap enc
  | [], inner, hl, _ => by
    rw [List.length_nil, Nat.zero_mul] at hl
    exact List.eq_nil_of_length_eq_zero hl
  | x :: xs, inner, hl, hr => by
    have h0 := hr 0 x rfl
    rw [Nat.zero_mul, List.drop_zero] at h0
    have ih := cells_enc xs (inner.drop t.sz) (by rw [List.length_drop, hl, List.length_cons, Nat.succ_mul]; omega) (fun j y hj => by
      have := hr (j + 1) y hj
      rw [Nat.succ_mul, Nat.add_comm] at this
      rw [List.drop_drop]
      exact this)
    rw [List.flatMap_cons, ← h0, ← ih, List.take_append_drop]
theorem enc_length : ∀ (xs : List t.den), (xs.flatMap enc).length = xs.length * t.sz
  | [] => by simp
  | x :: xs => by rw [List.flatMap_cons, List.length_append, h.len, enc_length xs, List.length_cons, Nat.succ_mul]; omega
theorem enc_cells : ∀ (xs : List t.den) (j : Nat) (x : t.den), xs[j]? = some x → ((xs.flatMap enc).drop (j * t.sz)).take t.sz = enc x
  | y :: xs, 0, x, hj => by
    injection hj with hj
    subst hj
    rw [Nat.zero_mul, List.drop_zero, List.flatMap_cons, List.take_append_of_le_length (by rw [h.len]; exact Nat.le_refl _), List.take_of_length_le (by rw [h.len]; exact Nat.le_refl _)]
  | y :: xs, j + 1, x, hj => by
    have hd : (enc y ++ List.flatMap enc xs).drop t.sz = List.flatMap enc xs := by
      rw [← h.len y, List.drop_left]
    rw [List.flatMap_cons, Nat.succ_mul, Nat.add_comm, ← List.drop_drop, hd]
    exact enc_cells xs j x hj
theorem S_enc {e : Nat} {w : World} {ok : Nat → Prop} {v : Value} {xs : List t.den} (hS : Kd.S t.kd e w 0 ok v xs) : (∀ k, v.ownBlock = some k → ok k) ∧ w.ownsRow 0 e t.sz v xs.length (xs.flatMap enc) := by
  obtain ⟨h0, inner, ho, hr⟩ := Kd.S_R hS
  have h1 := hr.1
  have h2 := hr.2
  rw [Ty.kd_sz] at ho h1 h2
  rw [← cells_enc h xs inner h1 (fun j x hj => (h.iff _ _ _ _ _).1 (h2 j x hj))]
  exact ⟨h0, ho⟩
theorem enc_S (hf : t.flat = true) {e : Nat} {w : World} {ok : Nat → Prop} {v : Value} {xs : List t.den} (h0 : ∀ k, v.ownBlock = some k → ok k) (ho : w.ownsRow 0 e t.sz v xs.length (xs.flatMap enc)) : Kd.S t.kd e w 0 ok v xs := by
  refine flat_S hf ⟨h0, _, by rw [Ty.kd_sz]; exact ho, by rw [Ty.kd_sz]; exact enc_length h xs, fun j x hj => ?_⟩
  rw [Ty.kd_sz]
  exact (h.iff _ _ _ _ _).2 (enc_cells h xs j x hj)
end
/-! ### the world behind a sort -/
section
variable {β : Type} [Inhabited β] {encd : β → Value}
theorem put_heap {w : World} {g n : Nat} {os : Array Obj} {cur : Array Value} {e : TypeId} {fr : Nat × Nat} (d : Array β) (hb : w.heap[g]? = some (.cells cur e fr)) :
    (grow (Go.Sort.putRow encd (Sort.ahead w n) g 0 d) os).heap[g]? = some (.cells (putCells encd 0 d cur) e fr) := by
  have hg : g < w.heap.size := (Array.getElem?_eq_some_iff.1 hb).1
  rw [heap_grow_old _ _ (by simpa using hg)]
  simp [Go.Sort.putRow, mapBlock, Sort.ahead, Array.getElem?_modify, hb, onCells]
theorem put_grown {w : World} {g n : Nat} {os : Array Obj} (d : Array β) : w.grownBy (grow (Go.Sort.putRow encd (Sort.ahead w n) g 0 d) os) (some g) := by
  refine ⟨rfl, rfl, rfl, by simp, fun k hk hne => ?_⟩
  rw [heap_grow_old _ _ (by simpa using hk)]
  have : g ≠ k := fun e => hne (by rw [e])
  simp [Go.Sort.putRow, mapBlock, Sort.ahead, Array.getElem?_modify, this]
theorem putd_take (cur : Array Value) (d : Array β) (h : d.size ≤ cur.size) : (putCells encd 0 d cur).toList.take d.size = d.toList.map encd := by
  apply List.ext_getElem?
  intro j
  by_cases hj : j < d.size
  · rw [List.getElem?_take_of_lt hj, Array.getElem?_toList]
    simp [putCells, hj, show j < cur.size by omega]
  · rw [List.getElem?_take_eq_none (by omega), List.getElem?_eq_none (by simp; omega)]
theorem put_own {w : World} {g cap m n : Nat} {e : TypeId} {os : Array Obj} {cur : Array Value} {size : Nat} {cs : List Value} (d : Array β) (hb : w.heap[g]? = some (.cells cur e (0, 0))) (h1 : n ≤ cap) (h2 : cap ≤ maxLen) (h3 : cur.size = cap * size) (hd : d.size = n * size) (hcs : d.toList.map encd = cs) :
    (grow (Go.Sort.putRow encd (Sort.ahead w m) g 0 d) os).ownsRow 0 e size (.slice (some ⟨g, 0, none⟩) n cap) n cs := by
  have hle : d.size ≤ cur.size := by rw [hd, h3]; exact Nat.mul_le_mul_right _ h1
  refine ⟨by rw [← hcs, List.length_map, Array.length_toList, hd], .inr ⟨g, cap, _, rfl, Nat.zero_le _, put_heap d hb, h1, h2, by simp [putCells, h3], ?_⟩⟩
  rw [← hd, putd_take cur d hle, hcs]
end
/-! ### slices.Sort at whole numbers -/
def sortF (xs : List Int) : Option (List Int) := bif decide (xs.length ≤ 1000000000) then some (sortI xs) else none
def sortArgs (xs : List Int) : List AV → Option (Option (List Int))
  | [] => some (sortF xs)
  | _ => none
def sortS (e : Nat) : CSum := inS e (.int .i64) sortArgs
theorem sort_snd {P : Program} {ρ : Ren} (Ly : Lays.n189 P ρ) {e : Nat} (henter : ∀ (args : Array Value) (w : World), (callFunc (ρ.f 189) args).run P w = .ok (.enter (ρ.f 189) args) w) : CSnd P (ρ.f 189) (sortS e) := by
  refine in_snd henter (fun E L w r vs xs ys ok v hF hvs hS => ?_)
  change List Int at xs ys
  have hr : r = [] ∧ xs.length ≤ 1000000000 ∧ ys = sortI xs := by
    cases r with
    | cons a l => cases hF
    | nil =>
      have hF : some (sortF xs) = some (some ys) := hF
      injection hF with hF
      unfold sortF at hF
      cases hc : decide (xs.length ≤ 1000000000) with
      | false => rw [hc] at hF; cases hF
      | true =>
        rw [hc] at hF
        injection hF with hF
        exact ⟨rfl, of_decide_eq_true hc, hF.symm⟩
  obtain ⟨rfl, hl, rfl⟩ := hr
  have hvs : vs = [] := hvs
  subst hvs
  have hlen : (sortI xs).length = xs.length := List.length_mergeSort _
  obtain ⟨h0, ho⟩ := S_enc (enc_int .i64) hS
  have hsz : (Ty.int .i64).sz = 1 := rfl
  rw [hsz] at ho
  rcases ho.2 with ⟨rfl, hn⟩ | ⟨g, cap, cur, rfl, _, hb, h1, h2, h3, h4⟩
  · have hx : xs = [] := List.eq_nil_of_length_eq_zero hn
    subst hx
    refine (Any.slices_Sort_int_none Ly none 0 w).mono ?_
    rintro en w' ⟨rfl, rfl⟩
    have hnil : sortI [] = [] := List.eq_nil_of_length_eq_zero hlen
    rw [hnil]
    exact ⟨rfl, hS, World.grownBy.refl _ _, rfl⟩
  · have hin : xs.flatMap (fun x => [Value.int .i64 x]) = xs.map (Value.int .i64) := (List.map_eq_flatMap).symm
    have hgl : g < w.heap.size := (Array.getElem?_eq_some_iff.1 hb).1
    rw [hin, Nat.mul_one] at h4
    refine (Any.slices_Sort_int Ly g 0 cap xs w (holds_of_blockI hb h4) hgl (by omega)).mono ?_
    rintro en w' ⟨rfl, n, os, rfl⟩
    refine ⟨rfl, enc_S (enc_int .i64) rfl h0 ?_, put_grown _, hlen⟩
    rw [hlen, hsz]
    refine put_own (sortI xs).toArray hb h1 h2 h3 (by simp [hlen]) ?_
    rw [List.map_eq_flatMap]
end Go.Eng
/-
The engine, part 34: slices.SortFunc at pairs of whole numbers, by the kit's contract; the comparing function takes the first apart, then the second.
-/
set_option linter.unusedVariables false
set_option linter.unusedSimpArgs false
set_option linter.unusedSectionVars false
namespace Go.Eng
open Go Go.RowKit Go.Proofs Go.Sort Go.Shelf Go.Proofs.YtoancfhhlmkcbaaW.PrintWords
def okI (n : Int) : Bool := decide (-4611686018427387904 ≤ n) && decide (n < 4611686018427387904)
def okH (h : Int × Int) : Bool := okI h.1 && okI h.2
def leH (a b : Int × Int) : Bool := decide (a.1 < b.1) || ((a.1 == b.1) && decide (a.2 ≤ b.2))
def sortHF (xs : List (Int × Int)) : Option (List (Int × Int)) := bif decide (xs.length ≤ 1000000000) && xs.all okH then some (xs.mergeSort leH) else none
@[reducible] def tyH : Ty := .pair (.int .i64) (.int .i64)
def sortHArgs (g : Nat) (xs : List (Int × Int)) : List AV → Option (Option (List (Int × Int)))
  | [.fn f] => bif Nat.beq f g then some (sortHF xs) else none
  | _ => none
def sortHS (g e : Nat) : CSum := inS e tyH (sortHArgs g)
abbrev HoldA := { h : Int × Int // okH h = true }
instance : Inhabited HoldA := ⟨⟨(0, 0), rfl⟩⟩
def encA (x : HoldA) : List Value := [.int .i64 x.1.1, .int .i64 x.1.2]
def cfA (x y : HoldA) : Int := if x.1.1 = y.1.1 then x.1.2 - y.1.2 else x.1.1 - y.1.1
theorem ltA {x y : HoldA} : ltOf cfA x y = true ↔ x.1.1 < y.1.1 ∨ (x.1.1 = y.1.1 ∧ x.1.2 < y.1.2) := by
  unfold ltOf cfA
  rw [decide_eq_true_eq]
  split <;> omega
theorem ltA' {x y : HoldA} : ltOf cfA x y = false ↔ ¬ (x.1.1 < y.1.1 ∨ (x.1.1 = y.1.1 ∧ x.1.2 < y.1.2)) := by
  rw [← ltA, Bool.not_eq_true]
theorem swoA : SWO (ltOf cfA) where
  irrefl := fun x => by rw [ltA']; omega
  trans := fun x y z h1 h2 => by rw [ltA] at *; omega
  ntrans := fun x y z h1 h2 => by rw [ltA'] at *; omega
theorem leA {x y : HoldA} : (!(ltOf cfA) y x) = leH x.1 y.1 := by
  rw [Bool.eq_iff_iff]
  unfold leH
  rw [Bool.not_eq_true', ltA', Bool.or_eq_true, Bool.and_eq_true, decide_eq_true_eq, decide_eq_true_eq, beq_iff_eq]
  omega
def holdsA : (xs : List (Int × Int)) → xs.all okH = true → List HoldA
  | [], _ => []
  | x :: xs, h => ⟨x, (by rw [List.all_cons, Bool.and_eq_true] at h; exact h.1)⟩ :: holdsA xs (by rw [List.all_cons, Bool.and_eq_true] at h; exact h.2)
theorem holdsA_val : ∀ (xs : List (Int × Int)) (h : xs.all okH = true), (holdsA xs h).map (fun x => x.1) = xs
  | [], _ => rfl
  | x :: xs, h => by rw [holdsA, List.map_cons, holdsA_val xs]
theorem flat_list (ys : List HoldA) : (flatK encA 2 ys.toArray).toList = (ys.map (fun x => x.1)).flatMap (fun h : Int × Int => [Value.int .i64 h.1] ++ [Value.int .i64 h.2]) := by
  refine cells_enc (t := tyH) (enc_pair (enc_int .i64) (enc_int .i64)) _ _ ?_ ?_
  · have h1 : (ys.map (fun x : HoldA => x.1)).length = ys.length := List.length_map _
    show (flatK encA 2 ys.toArray).toList.length = (ys.map (fun x : HoldA => x.1)).length * 2
    rw [h1, Array.length_toList, size_flatK, List.size_toArray]
  · intro j x hj
    change Int × Int at x
    have hj : (ys.map (fun x : HoldA => x.1))[j]? = some x := hj
    rw [List.getElem?_map] at hj
    obtain ⟨y, hy, rfl⟩ := Option.map_eq_some_iff.1 hj
    have hjl : j < ys.length := (List.getElem?_eq_some_iff.1 hy).1
    have hyj : ys.toArray[j]! = y := by
      rw [getElem!_pos _ j (by simpa using hjl)]
      simpa using (List.getElem?_eq_some_iff.1 hy).2
    have hsz : tyH.sz = 2 := rfl
    have key : ∀ t, t < 2 → (flatK encA 2 ys.toArray).toList[j * 2 + t]? = (encA y)[t]? := fun t ht => by
      have hlt : j * 2 + t < ys.toArray.size * 2 := by simp; omega
      have hlt' : j * 2 + t < (flatK encA 2 ys.toArray).size := by rw [size_flatK]; exact hlt
      have h1 := get_flatK encA 2 ys.toArray (j * 2 + t) hlt
      rw [show (j * 2 + t) / 2 = j by omega, show (j * 2 + t) % 2 = t by omega, hyj] at h1
      rw [Array.getElem?_toList, Array.getElem?_eq_getElem hlt', ← getElem!_pos (flatK encA 2 ys.toArray) (j * 2 + t) hlt', h1, getElem!_pos (encA y) t ht, List.getElem?_eq_getElem (show t < (encA y).length from ht)]
      rfl
    rw [hsz]
    apply List.ext_getElem?
    intro t
    rw [List.getElem?_take]
    by_cases ht : t < 2
    · rw [if_pos ht, List.getElem?_drop, key t ht]; rfl
    · rw [if_neg ht]
      exact (List.getElem?_eq_none (by show 2 ≤ t; omega)).symm
theorem holdsK_of {w : World} {g : Nat} {cur : Array Value} {e : TypeId} (d : Array HoldA) (hb : w.heap[g]? = some (.cells cur e (0, 0))) (ht : cur.toList.take (d.size * 2) = (flatK encA 2 d).toList) : HoldsK encA 2 w g 0 d := by
  intro j hj
  refine ⟨?_, by simp [World.frozen?, hb]⟩
  have hj' : j < d.size * 2 := by rwa [size_flatK] at hj
  have h1 : (cur.toList.take (d.size * 2))[j]? = (flatK encA 2 d).toList[j]? := by rw [ht]
  rw [List.getElem?_take_of_lt hj'] at h1
  simp only [World.cell?, hb, Nat.zero_add]
  simp only [Option.isSome_none, Bool.false_eq_true, if_false]
  rw [← Array.getElem?_toList, h1, Array.getElem?_toList, Array.getElem?_eq_getElem hj, getElem!_pos (flatK encA 2 d) j hj]
  rfl
theorem sortH_snd {P : Program} {ρ : Ren} (L : SlLaysF0.n6 P ρ) (aE : ∀ w, (isAgg (ρ.t 24)).run P w = .ok true w) (zE : ∀ w, (Go.sizeOf (ρ.t 24)).run P w = .ok 2 w) {e g : Nat} (henter : ∀ (args : Array Value) (w : World), (callFunc (ρ.f 6) args).run P w = .ok (.enter (ρ.f 6) args) w)
    (eg : ∀ args w, (callFunc g args).run P w = .ok (.enter g args) w) (hcmp : ∀ (x y : HoldA) (W : World), Calls P g #[.agg (encA x).toArray, .agg (encA y).toArray] W (fun en w' => en = .returned (.int .i64 (cfA x y)) ∧ ∃ os', w' = grow W os')) : CSnd P (ρ.f 6) (sortHS g e) := by
  refine in_snd henter (fun E L' w r vs xs ys ok v hF hvs hS => ?_)
  change List (Int × Int) at xs ys
  have hr : r = [.fn g] ∧ xs.length ≤ 1000000000 ∧ xs.all okH = true ∧ ys = xs.mergeSort leH := by
    unfold sortHArgs at hF
    split at hF
    · rename_i f
      cases hb : Nat.beq f g with
      | false => rw [hb] at hF; cases hF
      | true =>
        rw [hb] at hF
        obtain rfl := Nat.eq_of_beq_eq_true hb
        injection hF with hF
        unfold sortHF at hF
        cases hc : (decide (xs.length ≤ 1000000000) && xs.all okH) with
        | false => rw [hc] at hF; cases hF
        | true =>
          rw [hc] at hF
          injection hF with hF
          rw [Bool.and_eq_true] at hc
          exact ⟨rfl, of_decide_eq_true hc.1, hc.2, hF.symm⟩
    · cases hF
  obtain ⟨rfl, hl, hall, rfl⟩ := hr
  obtain ⟨u, vs', rfl, hu, hvs⟩ := hvs
  have hvs : vs' = [] := hvs
  subst hvs
  unfold vOk at hu
  subst hu
  have hlen : (xs.mergeSort leH).length = xs.length := List.length_mergeSort _
  have hE := enc_pair (enc_int .i64) (enc_int .i64)
  obtain ⟨h0, ho⟩ := S_enc hE hS
  have hsz : (Ty.pair (.int .i64) (.int .i64)).sz = 2 := rfl
  rw [hsz] at ho
  rcases ho.2 with ⟨rfl, hn⟩ | ⟨b, cap, cur, rfl, _, hb, h1, h2, h3, h4⟩
  · have hx : xs = [] := List.eq_nil_of_length_eq_zero hn
    subst hx
    refine (AnyF.slices_SortFunc_none L none 0 _ w).mono ?_
    rintro en w' ⟨rfl, rfl⟩
    have hnil : ([] : List (Int × Int)).mergeSort leH = [] := List.eq_nil_of_length_eq_zero hlen
    rw [hnil]
    exact ⟨rfl, hS, World.grownBy.refl _ _, rfl⟩
  · have hgl : b < w.heap.size := (Array.getElem?_eq_some_iff.1 hb).1
    let d : Array HoldA := (holdsA xs hall).toArray
    have hdl : (holdsA xs hall).length = xs.length := by
      have := congrArg List.length (holdsA_val xs hall)
      rwa [List.length_map] at this
    have hds : d.size = xs.length := hdl
    have hH : HoldsK encA 2 w b 0 d := holdsK_of d hb (by rw [hds, h4, flat_list, holdsA_val])
    have hsort := AnyQ.slices_SortFunc_total L 2 aE zE encA (fun _ => rfl) (fun x v hv => by
      rcases List.mem_cons.1 hv with rfl | hv
      · rfl
      · rw [List.mem_singleton.1 hv]; rfl) cfA swoA g #[] b 0 cap d w eg (fun m os dk _ x y => (hcmp x y _).mono fun en w' ⟨he, os', hw⟩ => ⟨he, 0, os', hw⟩) hH hgl (by rw [hds]; omega) (fun x y q1 q2 => by
        rw [ltA'] at q1 q2
        apply Subtype.ext
        apply Prod.ext <;> omega)
    rw [hds] at hsort
    refine hsort.mono ?_
    rintro en w' ⟨rfl, n, os, rfl⟩
    have hmap : (((holdsA xs hall).mergeSort fun x y => !(ltOf cfA) y x).map fun x => x.1) = xs.mergeSort leH := by
      have := List.map_mergeSort (r := fun x y => !(ltOf cfA) y x) (s := leH) (f := fun x : HoldA => x.1) (l := holdsA xs hall) (fun a _ b _ => leA)
      rw [this, holdsA_val]
    refine ⟨rfl, enc_S hE rfl h0 ?_, put_grown _, hlen⟩
    rw [hlen, hsz]
    refine put_own _ hb h1 h2 h3 ?_ ?_
    · rw [size_flatK, List.size_toArray, List.length_mergeSort]
      show (holdsA xs hall).length * 2 = _
      rw [hdl]
    · rw [List.map_id_fun, id]
      show (flatK encA 2 ((holdsA xs hall).mergeSort fun x y => !(ltOf cfA) y x).toArray).toList = _
      rw [flat_list, hmap]
end Go.Eng
/-
The engine, part 35: rows without rows inside, read and written by a walk, element by element.
-/
set_option linter.unusedVariables false
set_option linter.unusedSimpArgs false
set_option linter.unusedSectionVars false
namespace Go.Eng
open Go Go.RowKit Go.Proofs Go.Sort Go.Shelf Go.Proofs.YtoancfhhlmkcbaaW.PrintWords
section
variable {P : Program} {t : Ty} {enc : t.den → List Value} (h : EncOf t enc) {e : Nat} {ok : Nat → Prop} {g n cap : Nat} {w : World} {xs : List t.den}
include h
theorem S_at (hS : Kd.S t.kd e w 0 ok (.slice (some ⟨g, 0, none⟩) n cap) xs) {j : Nat} (hj : j < n) : (∀ (q : Nat) (v : Value), (enc (xs.getD j t.zero))[q]? = some v → w.cell? ⟨g, j * t.sz + q, none⟩ = some v) ∧ ∀ q, w.frozen? ⟨g, j * t.sz + q, none⟩ = false := by
  have hn := (Kd.S_reads' hS).1
  obtain ⟨oki, cs, hcl, hMM, hcc, hfr, hoki, hH⟩ := Kd.S_elem hS t.zero (j : Int) (by omega) (by omega)
  rw [Ty.kd_sz] at hcc hfr
  rw [show ((j : Int)).toNat = j by omega] at hMM hcc hfr
  rw [(h.iff _ _ _ _ _).1 hMM] at hcc
  exact ⟨hcc, hfr⟩
theorem S_put (hS : Kd.S t.kd e w 0 ok (.slice (some ⟨g, 0, none⟩) n cap) xs) {j : Nat} (hj : j < n) (y : t.den) :
    Kd.S t.kd e (w.setCells g (j * t.sz) (enc y)) 0 ok (.slice (some ⟨g, 0, none⟩) n cap) (xs.set j y) ∧ w.grownBy (w.setCells g (j * t.sz) (enc y)) (some g) ∧ (storeCells ⟨g, j * t.sz, none⟩ (enc y)).run P w = .ok () (w.setCells g (j * t.sz) (enc y)) := by
  have hn := (Kd.S_reads' hS).1
  obtain ⟨hat, hfr⟩ := S_at h hS hj
  have hS2 : Kd.S t.kd e w 0 (fun k => ok k ∧ ¬ (fun _ => False) k) (.slice (some ⟨g, 0, none⟩) n cap) xs := Kd.S_mono hS (fun k hk => ⟨hk, fun h => h⟩)
  obtain ⟨oki, cs, hcl, hMM, hcc, _, hoki, hH⟩ := Kd.S_elem hS2 t.zero (j : Int) (by omega) (by omega)
  rw [Ty.kd_sz] at hcl
  have hseg := Kd.S_seg (okg := fun _ => False) hH (by omega) (by omega) (seg := enc y) (j := 0) (by rw [Ty.kd_sz, h.len]; omega) (x' := y) (okp := fun _ => False) ((h.iff _ _ _ _ _).2 (by rw [List.take_zero, List.nil_append, List.drop_of_length_le (by rw [h.len]; omega), List.append_nil])) (fun _ hk => hk.elim) (fun k hk => hk.elim)
  rw [Ty.kd_sz, Nat.add_zero, show ((j : Int)).toNat = j by omega] at hseg
  refine ⟨hseg.1, hseg.2, ?_⟩
  have := run_storeCells_cells (P := P) g (j * t.sz) (enc y) 0 w (fun k hk => by rw [Nat.add_zero, hat k _ (List.getElem?_eq_getElem (show k < (enc (xs.getD j t.zero)).length by rw [h.len]; rwa [h.len] at hk))]; rfl) (fun k hk => by rw [Nat.add_zero]; exact hfr k) (h.one y)
  rwa [Nat.add_zero] at this
omit h in
theorem setCells_app (g : Nat) : ∀ (a b : List Value) (o : Nat) (w : World), w.setCells g o (a ++ b) = (w.setCells g o a).setCells g (o + a.length) b
  | [], b, o, w => rfl
  | v :: a, b, o, w => by
    show (w.setCell ⟨g, o, none⟩ v).setCells g (o + 1) (a ++ b) = ((w.setCell ⟨g, o, none⟩ v).setCells g (o + 1) a).setCells g (o + (a.length + 1)) b
    rw [setCells_app g a b (o + 1) _, show o + 1 + a.length = o + (a.length + 1) by omega]
theorem S_puts : ∀ (ys : List t.den) (j : Nat) (w : World) (xs : List t.den), Kd.S t.kd e w 0 ok (.slice (some ⟨g, 0, none⟩) n cap) xs → j + ys.length ≤ n →
    Kd.S t.kd e (w.setCells g (j * t.sz) (ys.flatMap enc)) 0 ok (.slice (some ⟨g, 0, none⟩) n cap) (xs.take j ++ ys ++ xs.drop (j + ys.length)) ∧ w.grownBy (w.setCells g (j * t.sz) (ys.flatMap enc)) (some g)
  | [], j, w, xs, hS, hj => by
    rw [List.append_nil, List.length_nil, Nat.add_zero, List.take_append_drop]
    exact ⟨hS, World.grownBy.refl _ _⟩
  | y :: ys, j, w, xs, hS, hj => by
    simp only [List.length_cons] at hj
    have hn := (Kd.S_reads' hS).1
    obtain ⟨h1, h2, _⟩ := S_put (P := default) h hS (j := j) (by omega) y
    obtain ⟨h3, h4⟩ := S_puts ys (j + 1) _ _ h1 (by omega)
    have hw : w.setCells g (j * t.sz) ((y :: ys).flatMap enc) = (w.setCells g (j * t.sz) (enc y)).setCells g ((j + 1) * t.sz) (ys.flatMap enc) := by
      rw [List.flatMap_cons, setCells_app, h.len, Nat.succ_mul]
    rw [hw]
    refine ⟨?_, h2.trans h4⟩
    have : (xs.set j y).take (j + 1) ++ ys ++ (xs.set j y).drop (j + 1 + ys.length) = xs.take j ++ (y :: ys) ++ xs.drop (j + (y :: ys).length) := by
      rw [List.take_succ_eq_append_getElem (by rw [List.length_set]; omega), List.take_set_of_le (Nat.le_refl _), List.getElem_set_self, List.drop_set_of_lt (by omega), List.length_cons, show j + 1 + ys.length = j + (ys.length + 1) by omega]
      simp only [List.append_assoc, List.cons_append, List.nil_append]
    rw [this] at h3
    exact h3
theorem zero_cells {z : Value} (hz : z.cells.toList = enc t.zero) (m : Nat) : (Builtin.zeroCells z.cells m).toList = (List.replicate m t.zero).flatMap enc := by
  have hzs : z.cells.size = t.sz := by rw [← Array.length_toList, hz, h.len]
  refine cells_enc h _ _ ?_ ?_
  · rw [List.length_replicate, Builtin.zeroCells, Array.length_toList, Array.size_map, Array.size_range, hzs]
  · intro j x hj
    have hjm : j < m := by
      have := (List.getElem?_eq_some_iff.1 hj).1
      rwa [List.length_replicate] at this
    have hx : x = t.zero := by
      rw [List.getElem?_replicate, if_pos hjm] at hj
      injection hj with hj
      exact hj.symm
    subst hx
    apply List.ext_getElem?
    intro q
    rw [List.getElem?_take]
    by_cases hq : q < t.sz
    · have hlt : j * t.sz + q < m * t.sz := by
        have := Nat.mul_le_mul_right t.sz (show j + 1 ≤ m from hjm)
        rw [Nat.succ_mul] at this
        omega
      have hlt' : j * t.sz + q < (Builtin.zeroCells z.cells m).size := by rw [Builtin.zeroCells, Array.size_map, Array.size_range, hzs]; exact hlt
      rw [if_pos hq, List.getElem?_drop, Array.getElem?_toList, Array.getElem?_eq_getElem hlt']
      have hm : (j * t.sz + q) % t.sz = q := by rw [Nat.add_comm, Nat.add_mul_mod_self_right]; exact Nat.mod_eq_of_lt hq
      have hqz : q < z.cells.size := by rw [hzs]; exact hq
      simp only [Builtin.zeroCells, Array.getElem_map, Array.getElem_range, hzs, hm]
      rw [getElem!_pos z.cells q hqz, ← hz, Array.getElem?_toList, Array.getElem?_eq_getElem hqz]
    · rw [if_neg hq]
      exact (List.getElem?_eq_none (by rw [h.len]; omega)).symm
/-- clear of the end of a row -/
theorem S_clear {T : TypeId} {z : Value} {A : Option Addr} {c j : Nat} (hu : P.underlying T = some (.slice e)) (hzr : ∀ w, (zeroValue e).run P w = .ok z w) (hz : z.cells.toList = enc t.zero) (hS : Kd.S t.kd e w 0 ok (.slice (some ⟨g, 0, none⟩) n cap) xs) (hj : j ≤ n) (hA : j < n → A = some ⟨g, j * t.sz, none⟩) :
    ∃ w', (∀ ty, (Builtin.clear_ #[T] ty #[.slice A (n - j) c]).run P w = .ok (.tuple #[]) w') ∧ Kd.S t.kd e w' 0 ok (.slice (some ⟨g, 0, none⟩) n cap) (xs.take j ++ List.replicate (n - j) t.zero) ∧ w.grownBy w' (some g) := by
  have hn := (Kd.S_reads' hS).1
  rcases Nat.eq_or_lt_of_le hj with rfl | hlt
  · refine ⟨w, ?_, ?_, World.grownBy.refl _ _⟩
    · intro ty
      rw [Nat.sub_self]
      cases A <;> simp [Builtin.clear_, run_underlying hu]
    · rw [Nat.sub_self, List.replicate_zero, List.append_nil, List.take_of_length_le (by omega)]
      exact hS
  · rw [hA hlt]
    obtain ⟨m, hm⟩ : ∃ m, n - j = m + 1 := ⟨n - j - 1, by omega⟩
    have hcells : ∀ q, q < ((List.replicate (n - j) t.zero).flatMap enc).length → (∃ u, w.cell? ⟨g, j * t.sz + q, none⟩ = some u) ∧ w.frozen? ⟨g, j * t.sz + q, none⟩ = false := fun q hq => by
      rw [enc_length h, List.length_replicate] at hq
      have hd : q / t.sz < n - j := by rw [Nat.div_lt_iff_lt_mul (sz_pos _)]; exact hq
      obtain ⟨h1, h2⟩ := S_at h hS (j := j + q / t.sz) (by omega)
      have hm := Nat.mod_lt q (sz_pos t)
      have he : (j + q / t.sz) * t.sz + q % t.sz = j * t.sz + q := by rw [Nat.add_mul, Nat.add_assoc, Nat.mul_comm (q / t.sz), Nat.div_add_mod]
      have h3 := h1 (q % t.sz) _ (List.getElem?_eq_getElem (by rw [h.len]; exact hm))
      have h4 := h2 (q % t.sz)
      rw [he] at h3 h4
      exact ⟨⟨_, h3⟩, h4⟩
    have hst := run_storeCells_cells (P := P) g (j * t.sz) ((List.replicate (n - j) t.zero).flatMap enc) 0 w (fun q hq => by
      obtain ⟨⟨u, hu⟩, _⟩ := hcells q hq
      rw [Nat.add_zero, hu]; rfl) (fun q hq => by rw [Nat.add_zero]; exact (hcells q hq).2) (fun v hv => by
      obtain ⟨x, hx, hv⟩ := List.mem_flatMap.1 hv
      exact h.one x v hv)
    rw [Nat.add_zero] at hst
    obtain ⟨h3, h4⟩ := S_puts h (List.replicate (n - j) t.zero) j w xs hS (by rw [List.length_replicate]; omega)
    refine ⟨_, ?_, ?_, h4⟩
    · intro ty
      have hzc := zero_cells h hz (n - j)
      rw [hm] at hst hzc ⊢
      simp [Builtin.clear_, run_underlying hu, hzr, hzc, hst]
    · rw [List.length_replicate, show j + (n - j) = n by omega, List.drop_of_length_le (by omega), List.append_nil] at h3
      exact h3
end
theorem eq_two {P : Program} {T : Nat} (heq : EqOk P T [.i64, .i64]) (a b c d : Int) (w : World) : (binOp .eql T (.agg #[.int .i64 a, .int .i64 b]) (.agg #[.int .i64 c, .int .i64 d])).run P w = .ok (.bool ((a == c) && (b == d))) w := by
  have two : ∀ x y : Int, vOk ⟨fun _ => 0, fun _ => undef, fun _ => False⟩ (fun _ => .none) w (.agg (AV.ofList [.sc (.int .i64) x, .sc (.int .i64) y])) (.agg #[.int .i64 x, .int .i64 y]) := fun x y => by
    unfold vOk
    refine ⟨[.int .i64 x, .int .i64 y], rfl, ?_, fun u hu => ?_⟩
    · unfold AV.ofList vsOk
      refine ⟨_, _, rfl, by unfold vOk; rfl, ?_⟩
      unfold AV.ofList vsOk
      refine ⟨_, _, rfl, by unfold vOk; rfl, ?_⟩
      unfold AV.ofList vsOk
      rfl
    · rcases List.mem_cons.1 hu with rfl | hu
      · rfl
      · rw [List.mem_singleton.1 hu]; rfl
  obtain ⟨v, h1, h2⟩ := bin_ok (P := P) (T := T) (tb := false) (op := .eql) (r := ([], .sc .bool ((a == c) && (b == d)))) (fun _ => heq) (fun h => by cases h) (two a b) (two c d) rfl (fun _ hb => by cases hb)
  unfold vOk at h2
  have h2 : v = .bool ((a == c) && (b == d)) := h2
  rw [h1, h2]
/-! ### what slices.DeleteFunc does to a row as it goes -/
def outH (id fr : Int) (xs : List (Int × Int)) : List (Int × Int) := xs.filter (fun h => !((h.1 == id) && (h.2 == fr)))
section
variable {α : Type}
def DfInv (kp : α → Bool) (xs cur : List α) (i j : Nat) : Prop := ∃ mid, cur = (xs.take j).filter kp ++ mid ++ xs.drop j ∧ ((xs.take j).filter kp).length = i ∧ i + mid.length = j ∧ 0 < mid.length
variable {kp : α → Bool} {xs cur : List α} {i j : Nat}
theorem DfInv.lt (h : DfInv kp xs cur i j) : i < j := by
  obtain ⟨mid, _, _, h3, h4⟩ := h
  omega
theorem take_filter (hj : j < xs.length) : (xs.take (j + 1)).filter kp = (xs.take j).filter kp ++ (if kp xs[j] = true then [xs[j]] else []) := by
  rw [List.take_succ_eq_append_getElem hj, List.filter_append]
  congr 1
  by_cases h : kp xs[j] = true
  · rw [if_pos h, List.filter_cons_of_pos h, List.filter_nil]
  · rw [if_neg h, List.filter_cons_of_neg h, List.filter_nil]
theorem DfInv.skip (h : DfInv kp xs cur i j) (hj : j < xs.length) (hk : kp xs[j] = false) : DfInv kp xs cur i (j + 1) := by
  obtain ⟨mid, h1, h2, h3, h4⟩ := h
  have ht := take_filter (kp := kp) hj
  rw [if_neg (by rw [hk]; decide), List.append_nil] at ht
  refine ⟨mid ++ [xs[j]], ?_, by rw [ht]; exact h2, by rw [List.length_append, List.length_singleton]; omega, by rw [List.length_append]; omega⟩
  rw [ht, h1, List.drop_eq_getElem_cons hj]
  simp
theorem DfInv.keep (h : DfInv kp xs cur i j) (hj : j < xs.length) (hk : kp xs[j] = true) : DfInv kp xs (cur.set i xs[j]) (i + 1) (j + 1) := by
  obtain ⟨mid, h1, h2, h3, h4⟩ := h
  have ht := take_filter (kp := kp) hj
  rw [if_pos hk] at ht
  cases mid with
  | nil => cases h4
  | cons m mid =>
    refine ⟨mid ++ [xs[j]], ?_, by rw [ht, List.length_append, h2, List.length_singleton], by simp only [List.length_append, List.length_cons, List.length_nil] at *; omega, by rw [List.length_append, List.length_singleton]; omega⟩
    have hset := List.set_append_right (s := (xs.take j).filter kp) (t := m :: mid ++ xs.drop j) i xs[j] (by omega)
    rw [h2, Nat.sub_self, List.cons_append, List.set_cons_zero] at hset
    rw [ht, h1, List.append_assoc, List.cons_append, hset, List.drop_eq_getElem_cons hj]
    simp
theorem DfInv.start (hj : j < xs.length) (hall : ∀ y ∈ xs.take j, kp y = true) (hx : kp xs[j] = false) : DfInv kp xs xs j (j + 1) := by
  have ht := take_filter (kp := kp) hj
  have hf : (xs.take j).filter kp = xs.take j := List.filter_eq_self.2 hall
  rw [if_neg (by rw [hx]; decide), List.append_nil, hf] at ht
  have hl : (xs.take j).length = j := by rw [List.length_take]; omega
  refine ⟨[xs[j]], ?_, by rw [ht]; exact hl, rfl, Nat.one_pos⟩
  rw [ht, List.append_assoc, List.singleton_append, ← List.drop_eq_getElem_cons hj, List.take_append_drop]
theorem DfInv.at (h : DfInv kp xs cur i j) (hj : j < xs.length) (d : α) : cur.getD j d = xs[j] := by
  obtain ⟨mid, h1, h2, h3, h4⟩ := h
  rw [h1, List.getD_eq_getElem?_getD, List.getElem?_append_right (by rw [List.length_append]; omega), List.length_append, h2, h3, Nat.sub_self, List.getElem?_drop, Nat.add_zero, List.getElem?_eq_getElem hj]
  rfl
theorem DfInv.len (h : DfInv kp xs cur i j) (hj : j ≤ xs.length) : cur.length = xs.length := by
  obtain ⟨mid, h1, h2, h3, h4⟩ := h
  rw [h1, List.length_append, List.length_append, List.length_drop]
  omega
theorem DfInv.done (h : DfInv kp xs cur i xs.length) : cur.take i = xs.filter kp ∧ (xs.filter kp).length = i := by
  obtain ⟨mid, h1, h2, h3, h4⟩ := h
  rw [List.take_length] at h1 h2
  refine ⟨?_, h2⟩
  rw [h1, List.append_assoc, ← h2, List.take_left']
  rfl
/-- where the first hit is -/
theorem idx_spec (p : α → Bool) (d : α) : ∀ (l : List α) (i : Nat), (Lib.idxByFrom (fun _ y => p y) d l i = -1 ∧ ∀ y ∈ l, p y = false) ∨ ∃ k, ∃ hk : k < l.length, Lib.idxByFrom (fun _ y => p y) d l i = ((i + k : Nat) : Int) ∧ p l[k] = true ∧ ∀ y ∈ l.take k, p y = false
  | [], i => .inl ⟨rfl, fun y hy => by cases hy⟩
  | x :: l, i => by
    cases hp : p x with
    | true => exact .inr ⟨0, by simp, by simp [Lib.idxByFrom, hp], hp, fun y hy => by cases hy⟩
    | false =>
      rcases idx_spec p d l (i + 1) with ⟨h1, h2⟩ | ⟨k, hk, h1, h2, h3⟩
      · refine .inl ⟨by simp [Lib.idxByFrom, hp, h1], fun y hy => ?_⟩
        rcases List.mem_cons.1 hy with rfl | hy
        · exact hp
        · exact h2 y hy
      · refine .inr ⟨k + 1, by simpa using hk, ?_, h2, fun y hy => ?_⟩
        · rw [Lib.idxByFrom, if_neg (by simp [hp]), h1]; congr 1; omega
        · rw [List.take_succ_cons] at hy
          rcases List.mem_cons.1 hy with rfl | hy
          · exact hp
          · exact h3 y hy
end
end Go.Eng
/-
The engine, part 36: slices.DeleteFunc at pairs of whole numbers, on a row inside an element, its function bound to a box: the answer is to be put back.
-/
set_option linter.unusedVariables false
set_option linter.unusedSimpArgs false
set_option linter.unusedSectionVars false
namespace Go.Eng
open Go Go.RowKit Go.Proofs Go.Proofs.YtoancfhhlmkcbaaW.PrintWords
def outHF (id fr : Int) (ys : List (Int × Int)) : Option (List (Int × Int)) := bif decide (ys.length ≤ 1000000000) then some (outH id fr ys) else none
def delPost (o hv v0 v1 : Nat) (ix : Int) (j e e0 : Nat) (t0 : Ty) (xs0 : List t0.den) (n : Nat) (ks : List (Int × Int)) : Option (AV × List (Nat × Ob)) :=
  match putRow t0 (xs0.getD ix.toNat t0.zero) j e tyH ks, putRow t0 (xs0.getD ix.toNat t0.zero) j e tyH (ks ++ List.replicate (n - ks.length) ((0, 0) : Int × Int)) with
  | some z1, some z2 => some (.app o hv (v0 + 1) ix j e0 t0 (xs0.set ix.toNat z1), [(o, .row e0 t0 (xs0.set ix.toNat z2) hv (v0 + 1) (v1 + 1) none)])
  | _, _ => none
def boxOf : Ob → Option (Int × Int)
  | .box _ [.sc (.int .i64) _, .sc (.int .i64) c1, .sc (.int .i64) _, .sc (.int .i64) c3] => some (c1, c3)
  | _ => none
def delHS (f e : Nat) : CSum where
  ρt := List (Int × Int)
  prep := fun L avs fid => match avs with
    | [.sub o hv v0 _ ix j _ _ _, .clo f' q] => match L o with
      | .row e0 t0 xs0 hv' v0' v1 none => bif Nat.beq f f' && Nat.beq hv hv' && Nat.beq v0 v0' then
          (match leafRow t0 (xs0.getD ix.toNat t0.zero) j with
          | some r => (boxOf (L q)).bind fun b => (Ty.cast (.slice r.1 r.2.1) (.slice e tyH) r.2.2).map fun ys => ([o, q], outHF b.2 b.1 ys, delPost o hv v0 v1 ix j e e0 t0 xs0 ys.length)
          | none => none) else none
      | _ => none
    | _ => none
theorem leafRow_cast {t : Ty} {x : t.den} {j e : Nat} {r : Nat × (s : Ty) × List s.den} {s : Ty} {ys : List s.den} (h : leafRow t x j = some r) (hc : Ty.cast (.slice r.1 r.2.1) (.slice e s) r.2.2 = some ys) : leafRow t x j = some ⟨e, s, ys⟩ := by
  obtain ⟨r1, r2, r3⟩ := r
  obtain ⟨rfl, rfl, rfl⟩ := cast_row hc
  exact h
theorem boxOf_ok {E : Env} {L : Lk} {w : World} {q : Nat} {ob : Ob} {b : Int × Int} (h : boxOf ob = some b) (ho : oOk E L w q ob) : ∃ k, E.μ q = .pointer (some ⟨k, 0, none⟩) ∧ E.f k = q + 1 ∧ k < w.heap.size ∧ w.cell? ⟨k, 1, none⟩ = some (.int .i64 b.1) ∧ w.cell? ⟨k, 3, none⟩ = some (.int .i64 b.2) := by
  unfold boxOf at h
  split at h
  · rename_i T a c1 a2 c3
    injection h with h
    subst h
    obtain ⟨k, vs, h1, h2, h3, h4⟩ := ho
    obtain ⟨u0, r0, rfl, g0, _, h4⟩ := h4
    obtain ⟨u1, r1, rfl, g1, _, h4⟩ := h4
    obtain ⟨u2, r2, rfl, g2, _, h4⟩ := h4
    obtain ⟨u3, r3, rfl, g3, _, h4⟩ := h4
    unfold vOk at g1 g3
    have g1 : u1 = .int .i64 c1 := g1
    have g3 : u3 = .int .i64 c3 := g3
    subst g1; subst g3
    refine ⟨k, h1, h2, (Array.getElem?_eq_some_iff.1 h3).1, ?_, ?_⟩ <;> simp [World.cell?, h3]
  · cases h
theorem delH_snd {P : Program} {f f' e : Nat} (henter : ∀ (args : Array Value) (w : World), (callFunc f args).run P w = .ok (.enter f args) w)
    (hcall : ∀ (xs : List (Int × Int)) (v : Value) (b : Nat) (c1 c3 : Int) (ok : Nat → Prop) (w : World), Kd.S tyH.kd e w 0 ok v xs → b < w.heap.size → some b ≠ v.ownBlock → w.cell? ⟨b, 1, none⟩ = some (.int .i64 c1) → w.cell? ⟨b, 3, none⟩ = some (.int .i64 c3) → xs.length ≤ 1000000000 →
      Calls P f #[v, .func (.func f') #[] #[.pointer (some ⟨b, 0, none⟩)]] w (fun en w' => ∃ v', en = .returned v' ∧ Kd.S tyH.kd e w' 0 ok v (outH c3 c1 xs ++ List.replicate (xs.length - (outH c3 c1 xs).length) ((0, 0) : Int × Int)) ∧ Kd.S tyH.kd e w' 0 ok v' (outH c3 c1 xs) ∧ w.grownBy w' v.ownBlock)) : CSnd P f (delHS f' e) := by
  refine ⟨henter, fun L L' avs fid rs res post hp hL => ?_, ?_⟩
  · simp only [delHS] at hp ⊢
    split at hp
    · rename_i o hv v0 q1 ix j e1 t1 xs1 f2 q
      split at hp
      · rename_i e0 t0 xs0 hv' v0' v1 hob
        cases hb : (Nat.beq f' f2 && Nat.beq hv hv' && Nat.beq v0 v0') with
        | false => rw [hb] at hp; cases hp
        | true =>
          rw [hb, cond_true] at hp
          split at hp
          · rename_i r hr
            obtain ⟨bx, hbx, hp2⟩ := Option.bind_eq_some_iff.1 hp
            obtain ⟨ys, hc, hp3⟩ := Option.map_eq_some_iff.1 hp2
            have hrs : [o, q] = rs := congrArg (fun q => q.1) hp3
            rw [hL o (by rw [← hrs]; simp), hob]
            simp only [hb, cond_true, hr]
            rw [hL q (by rw [← hrs]; simp)]
            exact hp
          · cases hp
      · cases hp
    · cases hp
  · intro E L w avs vals fid rs res post y av ups hp hres hpost ho hvs hfid
    simp only [delHS] at hp
    split at hp
    · rename_i o hv v0 q1 ix j e1 t1 xs1 f2 q
      split at hp
      · rename_i e0 t0 xs0 hv' v0' v1 hob
        cases hb : (Nat.beq f' f2 && Nat.beq hv hv' && Nat.beq v0 v0') with
        | false => rw [hb] at hp; cases hp
        | true =>
          rw [hb, cond_true] at hp
          obtain ⟨hb, b3⟩ := and2 hb
          obtain ⟨b1, b2⟩ := and2 hb
          obtain rfl := Nat.eq_of_beq_eq_true b1
          obtain rfl := Nat.eq_of_beq_eq_true b2
          obtain rfl := Nat.eq_of_beq_eq_true b3
          split at hp
          · rename_i r hr
            obtain ⟨bx, hbx, hp⟩ := Option.bind_eq_some_iff.1 hp
            obtain ⟨ys, hc, hp⟩ := Option.map_eq_some_iff.1 hp
            change List (Int × Int) at ys
            obtain ⟨c1, c3⟩ := bx
            have hres : outHF c3 c1 ys = some y := (congrArg (fun q => q.2.1) hp).trans hres
            have hpost : delPost o hv v0 v1 ix j e e0 t0 xs0 ys.length y = some (av, ups) := (congrFun (congrArg (fun q => q.2.2) hp) y).trans hpost
            change List (Int × Int) at y
            unfold outHF at hres
            cases hl : decide (ys.length ≤ 1000000000) with
            | false => rw [hl] at hres; cases hres
            | true =>
              rw [hl] at hres
              injection hres with hres
              have hres : outH c3 c1 ys = y := hres
              subst hres
              have hl := of_decide_eq_true hl
              unfold delPost at hpost
              split at hpost
              · rename_i z1 z2 hz1 hz2
                injection hpost with hpost
                injection hpost with ha hu
                subst ha; subst hu
                obtain ⟨u1, m1, rfl, hv1, hm1⟩ := hvs
                obtain ⟨u2, m2, rfl, hv2, hm2⟩ := hm1
                have hm2 : m2 = [] := hm2
                subst hm2
                obtain ⟨k, hμ, hfk, hkl, hk1, hk3⟩ := boxOf_ok hbx (ho q)
                unfold vOk at hv2
                obtain ⟨k', ⟨T, cells, hLq⟩, hμ', rfl⟩ := hv2
                rw [hμ] at hμ'
                injection hμ' with hμ'
                injection hμ' with hμ'
                injection hμ' with hμ'
                subst hμ'
                have hqo : q ≠ o := fun e => by rw [e, hob] at hLq; cases hLq
                unfold vOk at hv1
                rw [hob] at hv1
                obtain ⟨h0, h1, g, n, c, hm, hgo, hcell⟩ := hv1.2.2.2.2.2 rfl rfl
                have hoo := ho o
                rw [hob] at hoo
                have hS0 : Kd.S t0.kd e0 w 0 (fun k => E.f k = o + 1) (E.μ o) xs0 := hoo
                have hS := Kd.S_bound hS0
                rw [hm] at hS
                have hn := (Kd.S_reads' hS).1
                obtain ⟨oki, cs, hcl, hM, hcc, hfr, hoki, hH⟩ := Kd.S_elem hS t0.zero ix h0 (by omega)
                rw [Ty.kd_sz] at hcl hcc hfr
                obtain ⟨okl, vl, hcv, hR, hokl, hj, hback⟩ := leafM t0 _ cs oki j ⟨e, tyH, ys⟩ hM (leafRow_cast hr hc)
                have hvl : vl = u1 := by
                  have := hcc j vl hcv
                  rw [hcell] at this
                  injection this with this
                  exact this.symm
                subst hvl
                have hSi : Kd.S tyH.kd e w 0 okl vl ys := flat_S rfl hR
                have hrow : ∀ k, vl.ownBlock = some k → oki k := fun k hk => hokl k (hR.1 k hk)
                have hkv : some k ≠ vl.ownBlock := fun he => by
                  have := (hoki k (hrow k he.symm)).1.1
                  omega
                refine (hcall ys vl k c1 c3 okl w hSi hkl hkv hk1 hk3 hl).mono ?_
                rintro en w' ⟨v', rfl, hSold, hSnew, hgr⟩
                have hsame : ∀ k, oki k → ¬ okl k → k < w.heap.size → w'.heap[k]? = w.heap[k]? := fun k hk hnk hlt => hgr.block k hlt (fun he => hnk (hR.1 k he.symm))
                have hH' := Kd.H_grown hH hgr hrow
                have hMold := hback w' okl vl _ z2 hz2 hsame (Kd.S_R hSold) (fun k hk => .inl hk)
                rw [take_at hcv] at hMold
                have hSo := Kd.H_back hH' hMold (fun k hk => hk.elim (fun h => h) (hokl k))
                have hgl : g < w.heap.size := World.block_lt_of_cell? w _ hcell
                have hmv := inner_row (P := P) (xs' := xs0.set ix.toNat z2) ho hob hgr.size (fun k hk hne => hgr.block k hk (fun he => hne (hoki k (hrow k he.symm)).1.1)) ⟨hgr.os, hgr.tape, hgr.output⟩ (by rw [hm]; exact Kd.S_mono hSo (fun k hk => .inl hk.1)) List.length_set
                refine ⟨v', _, rfl, hmv.1, ?_, hmv.2.1, hmv.2.2.1, hmv.2.2.2.1, hmv.2.2.2.2⟩
                have hMnew := hback w' okl v' _ z1 hz1 hsame (Kd.S_R hSnew) (fun k hk => .inl hk)
                have hHn : Kd.H t0.kd e0 w' 0 (fun k => (if w.heap.size ≤ k then o + 1 else E.f k) = o + 1 ∧ ¬ (fun _ => False) k) (.slice (some ⟨g, 0, none⟩) n c) xs0 ix oki cs := Kd.H_mono hH' (fun k hk => ⟨by rw [if_neg (by have := hk.2.2.1; omega)]; exact hk.1, fun h => h⟩)
                have hseg := Kd.S_seg (okg := fun _ => False) hHn h0 (by omega) (seg := [v']) (j := j) (by rw [Ty.kd_sz]; exact hj) hMnew (fun k hk => hk.elim .inl (fun hk => .inl (hokl k hk))) (fun k hk => hk.elim)
                rw [Ty.kd_sz] at hseg
                unfold vOk
                obtain ⟨q1_, q2_⟩ := updL_one L o (.row e0 t0 (xs0.set ix.toNat z2) hv (v0 + 1) (v1 + 1) none)
                rw [q1_]
                have hone' : v'.oneCell' = true := by
                  obtain ⟨A, c', e'⟩ := Kd.S_slice hSnew
                  rw [e']; rfl
                refine ⟨hone', Nat.le_refl _, Nat.le_refl _, fun _ _ => ⟨rfl, rfl, h0, by rw [List.length_set]; exact h1, by rw [List.length_set, List.length_set], g, n, c, hm, Nat.lt_of_lt_of_le hgl hgr.size, by show (if w.heap.size ≤ g then o + 1 else E.f g) = o + 1; rw [if_neg (by omega)]; exact hgo, ?_⟩⟩
                show Kd.S t0.kd e0 _ 0 _ (E.μ o) _
                rw [hm]
                exact hseg.1
              · cases hpost
          · cases hp
      · cases hp
    · cases hp
theorem S_prefix {t : Ty} {enc : t.den → List Value} (h : EncOf t enc) (hf : t.flat = true) {e g n cap : Nat} {ok : Nat → Prop} {w : World} {ks zs : List t.den} (hS : Kd.S t.kd e w 0 ok (.slice (some ⟨g, 0, none⟩) n cap) (ks ++ zs)) : Kd.S t.kd e w 0 ok (.slice (some ⟨g, 0, none⟩) ks.length cap) ks := by
  obtain ⟨h0, ho⟩ := S_enc h hS
  have hn := (Kd.S_reads' hS).1
  rw [List.length_append] at hn
  refine enc_S h hf (fun k hk => h0 k hk) ⟨enc_length h ks, ?_⟩
  rcases ho.2 with ⟨hv, _⟩ | ⟨g', cap', cur, hv, hg, hb, h1, h2, h3, h4⟩
  · cases hv
  · injection hv with q1 q2 q3
    injection q1 with q1
    injection q1 with q1
    subst q1; subst q3
    refine .inr ⟨g, cap, cur, rfl, hg, hb, by rw [List.length_append] at h1; omega, h2, h3, ?_⟩
    have := congrArg (List.take (ks.length * t.sz)) h4
    rw [List.take_take, List.flatMap_append, List.take_append_of_le_length (by rw [enc_length h]; exact Nat.le_refl _), List.take_of_length_le (l := ks.flatMap enc) (by rw [enc_length h]; exact Nat.le_refl _), List.length_append, Nat.min_eq_left (Nat.mul_le_mul_right _ (Nat.le_add_right _ _))] at this
    exact this
end Go.Eng
