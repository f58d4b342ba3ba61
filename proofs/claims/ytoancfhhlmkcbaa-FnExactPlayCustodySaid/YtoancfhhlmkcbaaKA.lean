/-
The engine, part 1: a symbolic executor of a Go function's Code over an abstract state (objects with pure contents, abstract values in the slots). Definitions alone.
-/
import Derived.Test.YtoancfhhlmkcbaaWMore
import Derived.Test.YtoancfhhlmkcbaaWLast
import Derived.Test.YtoancfhhlmkcbaaWN
import Derived.Laws.Entries
import Derived.Laws.BytesArg
import Derived.DataElems
import Derived.Laws.Cells
import Derived.Laws.StructEq
import Derived.ChangeKeysEq
import Derived.Laws.CopyRow
import Derived.Maps.AppendAt
import Derived.Laws.IdiomCopy
set_option linter.unusedVariables false
namespace Go.Eng
open Go Go.RowKit Go.Proofs.YtoancfhhlmkcbaaW.PrintWords

/-! ### types -/
inductive Ty where
  | int (k : IntKind) | bool | str | pair (a b : Ty) | slice (e : Nat) (t : Ty)
@[reducible] def Ty.den : Ty → Type
  | .int _ => Int | .bool => Bool | .str => ByteArray | .pair a b => a.den × b.den | .slice _ t => List t.den
def kindEq : IntKind → IntKind → Bool
  | .i64, .i64 => true | .u8, .u8 => true | .u64, .u64 => true | .i32, .i32 => true | .i8, .i8 => true | .i16, .i16 => true | .u16, .u16 => true | .u32, .u32 => true
  | _, _ => false
theorem kindEq_eq : ∀ {a b}, kindEq a b = true → a = b := by intro a b; cases a <;> cases b <;> simp [kindEq]
def Ty.beq : Ty → Ty → Bool
  | .int k, .int k' => kindEq k k' | .bool, .bool => true | .str, .str => true
  | .pair a b, .pair a' b' => a.beq a' && b.beq b' | .slice e t, .slice e' t' => Nat.beq e e' && t.beq t'
  | _, _ => false
theorem Ty.beq_eq : ∀ {a b : Ty}, a.beq b = true → a = b := by
  intro a
  induction a with
  | int k => intro b h; cases b <;> simp [Ty.beq] at h ⊢; exact kindEq_eq h
  | bool => intro b h; cases b <;> simp [Ty.beq] at h ⊢
  | str => intro b h; cases b <;> simp [Ty.beq] at h ⊢
  | pair x y ihx ihy => intro b h; cases b <;> simp [Ty.beq] at h ⊢; exact ⟨ihx h.1, ihy h.2⟩
  | slice e t ih => intro b h; cases b <;> simp [Ty.beq] at h ⊢; exact ⟨h.1, ih h.2⟩
def Ty.cast (t t' : Ty) (x : t.den) : Option t'.den := if h : t.beq t' = true then some (Ty.beq_eq h ▸ x) else none
def Ty.zero : (t : Ty) → t.den
  | .int _ => (0 : Int) | .bool => false | .str => (⟨#[]⟩ : ByteArray) | .pair a b => (a.zero, b.zero) | .slice _ _ => []
def Ty.sz : Ty → Nat
  | .pair a b => a.sz + b.sz
  | _ => 1
/-- No slice in it. -/
def Ty.flat : Ty → Bool
  | .pair a b => a.flat && b.flat
  | .slice _ _ => false
  | _ => true
/-- Two things side by side; their blocks are apart. -/
def sepP {α β : Type} (a : Kd α) (b : Kd β) : Kd (α × β) where
  sz := a.sz + b.sz
  E := a.E ++ b.E
  K := fun w x cs => ∃ c0 c1, cs = c0 ++ c1 ∧ a.K w x.1 c0 ∧ b.K w x.2 c1
  M := fun w base ok x cs => ∃ (f : Nat → Bool) (c0 c1 : List Value), cs = c0 ++ c1 ∧ a.M w base (fun k => ok k ∧ f k = true) x.1 c0 ∧ b.M w base (fun k => ok k ∧ f k = false) x.2 c1
  K_len := by
    rintro w x cs ⟨c0, c1, rfl, h0, h1⟩
    rw [List.length_append, a.K_len h0, b.K_len h1]
  K_one := by
    rintro w x cs ⟨c0, c1, rfl, h0, h1⟩ u hu
    rcases List.mem_append.1 hu with hu | hu
    · exact a.K_one h0 u hu
    · exact b.K_one h1 u hu
  K_below := by
    rintro w w1 x cs hb ⟨c0, c1, rfl, h0, h1⟩
    exact ⟨c0, c1, rfl, a.K_below hb h0, b.K_below hb h1⟩
  K_of_M := by
    rintro w base ok x cs ⟨f, c0, c1, rfl, h0, h1⟩
    exact ⟨c0, c1, rfl, a.K_of_M h0, b.K_of_M h1⟩
  M_mono := by
    rintro w base ok ok' x cs hok ⟨f, c0, c1, rfl, h0, h1⟩
    exact ⟨f, c0, c1, rfl, a.M_mono (fun k hk => ⟨hok k hk.1, hk.2⟩) h0, b.M_mono (fun k hk => ⟨hok k hk.1, hk.2⟩) h1⟩
  M_bound := by
    rintro w base ok x cs ⟨f, c0, c1, rfl, h0, h1⟩
    refine ⟨f, c0, c1, rfl, a.M_mono ?_ (a.M_bound h0), b.M_mono ?_ (b.M_bound h1)⟩
    · rintro k ⟨h2, h3, h4, q, hq, hc⟩
      exact ⟨⟨h2.1, h3, h4, q, List.mem_append_left _ hq, hc⟩, h2.2⟩
    · rintro k ⟨h2, h3, h4, q, hq, hc⟩
      exact ⟨⟨h2.1, h3, h4, q, List.mem_append_right _ hq, hc⟩, h2.2⟩
  M_move := by
    rintro w w1 base ok x cs hm ⟨f, c0, c1, rfl, h0, h1⟩
    exact ⟨f, c0, c1, rfl, a.M_move (fun k hk => hm k hk.1) h0, b.M_move (fun k hk => hm k hk.1) h1⟩
  M_lower := by
    rintro w base base' ok x cs hb ⟨f, c0, c1, rfl, h0, h1⟩
    exact ⟨f, c0, c1, rfl, a.M_lower hb h0, b.M_lower hb h1⟩
def Ty.kd : (t : Ty) → Kd t.den
  | .int k => Kd.int k | .bool => Kd.bool | .str => Kd.string | .pair a b => sepP a.kd b.kd | .slice e t => Kd.slice e t.kd

/-! ### abstract values, objects -/
/-- object, level (0: all of it; 1: the rows inside), version -/
abbrev Dep := Nat × Nat × Nat
inductive AV where
  | dead
  | sc (t : Ty) (x : t.den)
  | nil
  | own (o hv : Nat)
  | rd (e : Nat) (t : Ty) (xs : List t.den) (deps : List Dep)
  | ptr (o j : Nat)
  | elt (o hv : Nat) (i : Int) (j : Nat)
  | relt (t : Ty) (x : t.den) (deps : List Dep) (j : Nat)
  /-- a cut of a row of the call's own: from, to -/
  | view (o hv : Nat) (a b : Int)
  /-- the row that lies in cell j of element i of a row of the call's own -/
  | sub (o hv v0 v1 : Nat) (i : Int) (j e : Nat) (t : Ty) (xs : List t.den)
  /-- a row to be put there: what the row of rows holds then -/
  | app (o hv v0 : Nat) (i : Int) (j e0 : Nat) (t0 : Ty) (ys : List t0.den)
  | fn (f : Nat)
  /-- function f, bound to a box -/
  | clo (f o : Nat)
  | anil | acons (h t : AV)
  | agg (l : AV) | tup (l : AV)
inductive Ob where
  | none
  | dead
  | box (T : Nat) (cells : List AV)
  /-- the last: the element that has been taken out -/
  | row (e : Nat) (t : Ty) (xs : List t.den) (hv v0 v1 : Nat) (h : Option Int)
abbrev Lk := Nat → Ob

def AV.ofList : List AV → AV
  | [] => .anil
  | a :: r => .acons a (AV.ofList r)
def AV.toList : AV → List AV
  | .acons a r => a :: r.toList
  | _ => []
/-- a value that lies in one cell -/
def AV.one : AV → Bool
  | .dead | .anil | .acons _ _ | .agg _ | .tup _ => false
  | _ => true
def AV.cells : AV → Option (List AV)
  | .agg l => some l.toList
  | v => bif v.one then some [v] else none
def constOne : Value → AV
  | .int k n => .sc (.int k) n
  | .bool b => .sc .bool b
  | .string s => .sc .str s
  | .slice none 0 0 => .nil
  | _ => .dead
def allOne : List AV → Bool
  | [] => true
  | a :: r => a.one && allOne r
def constAgg (l : List AV) : AV := bif allOne l then .agg (AV.ofList l) else .dead
def constAV : Value → AV
  | .agg cs => constAgg (cs.toList.map constOne)
  | v => constOne v
def nth {α : Type} : List α → Nat → Option α
  | [], _ => none
  | a :: _, 0 => some a
  | _ :: r, n + 1 => nth r n
def setNth {α : Type} : List α → Nat → α → List α
  | [], _, _ => []
  | _ :: r, 0, x => x :: r
  | a :: r, n + 1, x => a :: setNth r n x
/-- the cells from j on, written over -/
def splice {α : Type} (cs : List α) (j : Nat) (l : List α) : List α := cs.take j ++ l ++ cs.drop (j + l.length)
def all {α : Type} (p : α → Bool) : List α → Bool
  | [] => true
  | a :: r => p a && all p r

def verEq (ob : Ob) (l v : Nat) : Bool := match ob, l with
  | .row _ _ _ _ v0 _ none, 0 => Nat.beq v v0
  | .row _ _ _ _ _ v1 none, 1 => Nat.beq v v1
  | _, _ => false
def live (L : Lk) (ds : List Dep) : Bool := all (fun d => verEq (L d.1) d.2.1 d.2.2) ds

/-- leaf j of a value of type t; the rows inside bear deps -/
def leafAV : (t : Ty) → t.den → List Dep → Nat → Option AV
  | .pair a b, x, ds, j => bif Nat.ble a.sz j then leafAV b x.2 ds (j - a.sz) else leafAV a x.1 ds j
  | .slice e t, x, ds, 0 => some (.rd e t x ds)
  | .int k, x, _, 0 => some (.sc (.int k) x)
  | .bool, x, _, 0 => some (.sc .bool x)
  | .str, x, _, 0 => some (.sc .str x)
  | _, _, _, _ => none
def leavesAV (t : Ty) (x : t.den) (ds : List Dep) (j : Nat) : Nat → Option (List AV)
  | 0 => some []
  | n + 1 => match leafAV t x ds j, leavesAV t x ds (j + 1) n with
    | some a, some r => some (a :: r)
    | _, _ => none
/-- scalar leaf j, written -/
def putLeaf : (t : Ty) → t.den → Nat → (s : Ty) → s.den → Option t.den
  | .pair a b, x, j, s, y => bif Nat.ble a.sz j then (putLeaf b x.2 (j - a.sz) s y).map (fun z => (x.1, z)) else (putLeaf a x.1 j s y).map (fun z => (z, x.2))
  | .int k, _, 0, s, y => Ty.cast s (.int k) y
  | .bool, _, 0, s, y => Ty.cast s .bool y
  | .str, _, 0, s, y => Ty.cast s .str y
  | _, _, _, _, _ => none
/-- cells as a value of type t; rows of the call's own are moved in: their objects -/
def toDen (L : Lk) : (t : Ty) → List AV → Option (t.den × List Nat × List AV)
  | .pair a b, l => match toDen L a l with
    | some (x, os, r) => match toDen L b r with
      | some (y, os', r') => bif all (fun p => all (fun q => !Nat.beq p q) os) os' then some ((x, y), os ++ os', r') else none
      | none => none
    | none => none
  | .slice e t, l => match l with
    | .nil :: r => some ([], [], r)
    | .own o hv :: r => match L o with
      | .row e' t' xs hv' _ _ none => bif Nat.beq hv hv' then (Ty.cast (.slice e' t') (.slice e t) xs).map (fun z => (z, [o], r)) else none
      | _ => none
    | _ => none
  | .int k, l => match l with
    | .sc s x :: r => (Ty.cast s (.int k) x).map (fun z => (z, [], r))
    | _ => none
  | .bool, l => match l with
    | .sc s x :: r => (Ty.cast s .bool x).map (fun z => (z, [], r))
    | _ => none
  | .str, l => match l with
    | .sc s x :: r => (Ty.cast s .str x).map (fun z => (z, [], r))
    | _ => none
/-- cells as a value that is read alone: what it may share -/
def toRead (L : Lk) : (t : Ty) → List AV → Option (t.den × List Dep × List AV)
  | .pair a b, l => match toRead L a l with
    | some (x, ds, r) => match toRead L b r with
      | some (y, ds', r') => some ((x, y), ds ++ ds', r')
      | none => none
    | none => none
  | .slice e t, l => match l with
    | .nil :: r => some ([], [], r)
    | .rd e' t' xs ds :: r => bif live L ds then (Ty.cast (.slice e' t') (.slice e t) xs).map (fun z => (z, ds, r)) else none
    | _ => none
  | .int k, l => match l with
    | .sc s x :: r => (Ty.cast s (.int k) x).map (fun z => (z, [], r))
    | _ => none
  | .bool, l => match l with
    | .sc s x :: r => (Ty.cast s .bool x).map (fun z => (z, [], r))
    | _ => none
  | .str, l => match l with
    | .sc s x :: r => (Ty.cast s .str x).map (fun z => (z, [], r))
    | _ => none
def zeroCells : Ty → List AV
  | .pair a b => zeroCells a ++ zeroCells b
  | .slice _ _ => [.nil]
  | .int k => [.sc (.int k) (0 : Int)]
  | .bool => [.sc .bool false]
  | .str => [.sc .str (⟨#[]⟩ : ByteArray)]

/-! ### operations -/
structure TInf where
  ty : Ty
  agg : Bool := false
  /-- the fields: where, how many cells -/
  offs : List (Nat × Nat) := []
  /-- of a slice: an element's bytes -/
  bytes : Nat := 0
  /-- ty is the type's own (a pointer's entry stands for one cell alone) -/
  tru : Bool := true
  /-- out of a row of one's own it is taken, not lent -/
  mv : Bool := false
  /-- the kinds of its fields, where two of it may be held against one another -/
  eqs : List IntKind := []
/-- what an operation asks, reads, yields, writes -/
structure Rec where
  gs : List Bool := []
  rs : List Nat := []
  av : AV := .dead
  ups : List (Nat × Ob) := []

def icmp : BinOp → Int → Int → Option Bool
  | .eql, x, y => some (x == y) | .neq, x, y => some (x != y) | .lss, x, y => some (decide (x < y)) | .leq, x, y => some (decide (x ≤ y))
  | .gtr, x, y => some (decide (x > y)) | .geq, x, y => some (decide (x ≥ y)) | _, _, _ => none
def iar (k : IntKind) : BinOp → Int → Int → Option (List Bool × Int)
  | .add, x, y => some ([], k.wrap (x + y)) | .sub, x, y => some ([], k.wrap (x - y)) | .mul, x, y => some ([], k.wrap (x * y))
  | .quo, x, y => some ([!(y == 0)], k.wrap (x.tdiv y)) | .rem, x, y => some ([!(y == 0)], x.tmod y)
  | .and, x, y => some ([], bits .and k x y) | .or, x, y => some ([], bits .or k x y) | .xor, x, y => some ([], bits .xor k x y)
  | _, _, _ => none
def isShift : BinOp → Bool
  | .shl | .shr => true
  | _ => false
def ish (k : IntKind) : BinOp → Int → Int → Int
  | .shl, x, y => shl k x y
  | _, x, y => shr k x y
/-- two structs of whole numbers held against one another -/
def eqAV : List IntKind → AV → AV → Option Bool
  | k :: ks, .acons (.sc (.int k1) x) r, .acons (.sc (.int k2) y) r' => bif kindEq k1 k && kindEq k2 k then (match ks with
      | [] => some ((x : Int) == (y : Int))
      | _ => (eqAV ks r r').map (fun b => ((x : Int) == (y : Int)) && b)) else none
  | _, _, _ => none
def exBin (tb : Bool) (eqs : List IntKind) (op : BinOp) (a b : AV) : Option (List Bool × AV) :=
  match a, b with
  | .sc (.int k) x, .sc (.int k') y => bif isShift op then some ([decide (0 ≤ y)], .sc (.int k) (ish k op x y)) else bif kindEq k k' then
      (match icmp op x y with
      | some c => some ([], .sc .bool c)
      | none => match iar k op x y with
        | some (g, z) => some (g, .sc (.int k) z)
        | none => none) else none
  | .sc .bool x, .sc .bool y => bif !tb then none else (match op with | .eql => some ([], .sc .bool (x == y)) | .neq => some ([], .sc .bool (!(x == y))) | _ => none)
  | .sc .str x, .sc .str y => (match op with
    | .eql => some ([], .sc .bool (x.toList == y.toList))
    | .neq => some ([], .sc .bool (!(x.toList == y.toList)))
    | .add => some ([decide (ByteArray.size x + ByteArray.size y ≤ 9223372036854775807)], .sc .str (x ++ y))
    | _ => none)
  | .agg x, .agg y => (match op with
    | .eql => (eqAV eqs x y).map (fun b => ([], .sc .bool b))
    | .neq => (eqAV eqs x y).map (fun b => ([], .sc .bool (!b)))
    | _ => none)
  | _, _ => none

def killed (os : List Nat) : List (Nat × Ob) := os.map (fun o => (o, .dead))
/-- what lies at a pointer: T's cells -/
def exLoad (L : Lk) (i : TInf) (p : AV) : Option Rec :=
  match p with
  | .ptr o j => match L o with
    | .box _ cells => bif i.agg then (bif Nat.ble (j + i.ty.sz) cells.length then some { rs := [o], av := .agg (AV.ofList ((cells.drop j).take i.ty.sz)) } else none)
        else (nth cells j).map (fun v => { rs := [o], av := v })
    | _ => none
  | .elt o hv ix j => match L o with
    | .row _ t xs hv' _ v1 none => bif Nat.beq hv hv' then
        (bif i.agg then (leavesAV t (xs.getD ix.toNat t.zero) [(o, 1, v1)] j i.ty.sz).map (fun l => { rs := [o], av := .agg (AV.ofList l) })
          else (leafAV t (xs.getD ix.toNat t.zero) [(o, 1, v1)] j).map (fun v => { rs := [o], av := v })) else none
    | _ => none
  | .relt t x ds j => bif live L ds then
      (bif i.agg then (leavesAV t x ds j i.ty.sz).map (fun l => { rs := ds.map (·.1), av := .agg (AV.ofList l) }) else (leafAV t x ds j).map (fun v => { rs := ds.map (·.1), av := v })) else none
  | _ => none
def exStore (L : Lk) (i : TInf) (p v : AV) : Option Rec :=
  match p with
  | .ptr o j => match L o with
    | .box T cells => match v.cells with
      | some l => bif Nat.ble (j + l.length) cells.length && Nat.beq l.length i.ty.sz then some { rs := [o], ups := [(o, .box T (splice cells j l))] } else none
      | none => none
    | _ => none
  | .elt o hv ix j => match L o with
    | .row e t xs hv' v0 v1 none => bif Nat.beq hv hv' then
        (match v with
        | .sc s y => bif Nat.beq 1 i.ty.sz then (match putLeaf t (xs.getD ix.toNat t.zero) j s y with
          | some z => some { rs := [o], ups := [(o, .row e t (xs.set ix.toNat z) hv' (v0 + 1) v1 none)] }
          | none => none) else none
        | .agg l => match toDen L t l.toList with
          | some (z, os, []) => bif Nat.beq j 0 && Nat.beq i.ty.sz t.sz && all (fun p => !Nat.beq p o) os then some { rs := o :: os, ups := killed os ++ [(o, .row e t (xs.set ix.toNat z) hv' (v0 + 1) v1 none)] } else none
          | _ => none
        | _ => none) else none
    | _ => none
  | _ => none
def exIndexAddr (L : Lk) (i : TInf) (x ix : AV) : Option Rec :=
  match ix with
  | .sc (.int .i64) n => match x with
    | .own o hv => match L o with
      | .row e t xs hv' _ _ none => bif Nat.beq hv hv' && (Ty.slice e t).beq i.ty then some { gs := [decide (0 ≤ n), decide (n < (xs.length : Int))], rs := [o], av := .elt o hv n 0 } else none
      | _ => none
    | .rd e t xs ds => bif live L ds && (Ty.slice e t).beq i.ty then some { gs := [decide (0 ≤ n), decide (n < (xs.length : Int))], rs := ds.map (·.1), av := .relt t (xs.getD n.toNat t.zero) ds 0 } else none
    | _ => none
  | _ => none
def exLen (L : Lk) (i : TInf) (x : AV) : Option Rec :=
  match x with
  | .own o hv => match L o with
    | .row e t xs hv' _ _ none => bif Nat.beq hv hv' && (Ty.slice e t).beq i.ty then some { rs := [o], av := .sc (.int .i64) (xs.length : Int) } else none
    | _ => none
  | .rd e t xs ds => bif live L ds && (Ty.slice e t).beq i.ty then some { rs := ds.map (·.1), av := .sc (.int .i64) (xs.length : Int) } else none
  | .nil => match i.ty with
    | .slice _ _ => some { av := .sc (.int .i64) (0 : Int) }
    | _ => none
  | .sc .str s => bif i.ty.beq .str && i.tru then some { av := .sc (.int .i64) (s.size : Int) } else none
  | _ => none
/-- one element's cells put behind a row -/
def exAppend (L : Lk) (i : TInf) (fid : Nat) (s x : AV) : Option Rec :=
  let bytes := i.bytes
  match s, x with
  | .own o hv, .own p hw => match L o, L p with
    | .row e t xs hv' v0 v1 none, .row e2 t2 ys hw' _ _ none => bif Nat.beq hv hv' && Nat.beq hw hw' && !Nat.beq o p && (Ty.slice e t).beq i.ty then
        (match Ty.cast (.slice e2 t2) (.slice e t) ys with
        | some ys => bif t.flat then some { gs := [decide ((xs.length + ys.length) * bytes ≤ 140737488355328)], rs := [o, p], av := .own o (hv + 1), ups := [(o, .row e t (xs ++ ys) (hv + 1) (v0 + 1) v1 none)] }
            else some { gs := [decide ((xs.length + ys.length) * bytes ≤ 140737488355328)], rs := [o, p], av := .own o (hv + 1), ups := [(p, .dead), (o, .row e t (xs ++ ys) (hv + 1) (v0 + 1) v1 none)] }
        | none => none) else none
    | _, _ => none
  | .own o hv, .rd e2 t2 ys ds => match L o with
    | .row e t xs hv' v0 v1 none => bif Nat.beq hv hv' && live L ds && t.flat && (Ty.slice e t).beq i.ty then
        (match Ty.cast (.slice e2 t2) (.slice e t) ys with
        | some ys => some { gs := [decide ((xs.length + ys.length) * bytes ≤ 140737488355328)], rs := o :: ds.map (·.1), av := .own o (hv + 1), ups := [(o, .row e t (xs ++ ys) (hv + 1) (v0 + 1) v1 none)] }
        | none => none) else none
    | _ => none
  | .nil, .own p hw => match L p with
    | .row e t ys hw' _ _ none => bif Nat.beq hw hw' && (Ty.slice e t).beq i.ty then
        (bif t.flat then some { gs := [decide (ys.length * bytes ≤ 140737488355328)], rs := [p], av := .own fid 0, ups := [(fid, .row e t ys 0 0 0 none)] }
          else some { gs := [decide (ys.length * bytes ≤ 140737488355328)], rs := [p], av := .own fid 0, ups := [(p, .dead), (fid, .row e t ys 0 0 0 none)] }) else none
    | _ => none
  | .nil, .rd e t ys ds => bif live L ds && t.flat && (Ty.slice e t).beq i.ty then some { gs := [decide (ys.length * bytes ≤ 140737488355328)], rs := ds.map (·.1), av := .own fid 0, ups := [(fid, .row e t ys 0 0 0 none)] } else none
  | _, _ => none
def exPick (c a b : AV) : Option Rec :=
  match c with
  | .sc .bool p => match a, b with
    | .sc .bool x, .sc .bool y => some { av := .sc .bool (bif p then x else y) }
    | .sc .bool x, _ => some { gs := [p], av := .sc .bool x }
    | _, .sc .bool y => some { gs := [!p], av := .sc .bool y }
    | _, _ => none
  | _ => none
def fillAV (offs : List (Nat × Nat)) (g : Operand → AV) : List (Nat × Operand) → List AV → Option (List AV)
  | [], cs => some cs
  | (f, x) :: r, cs => match nth offs f, (g x).cells with
    | some d, some l => bif Nat.ble (d.1 + l.length) cs.length && Nat.beq d.2 l.length then fillAV offs g r (splice cs d.1 l) else none
    | _, _ => none
/-- an address, d cells on -/
def exPtr (L : Lk) (d : Nat) (p : AV) : Option Rec :=
  match p with
  | .ptr o j => some { rs := [o], av := .ptr o (j + d) }
  | .elt o hv ix j => match L o with
    | .row _ _ _ hv' _ _ none => bif Nat.beq hv hv' then some { rs := [o], av := .elt o hv ix (j + d) } else none
    | _ => none
  | .relt t x ds j => bif live L ds then some { rs := ds.map (·.1), av := .relt t x ds (j + d) } else none
  | _ => none
/-- bounds of a cut: from, to, what must hold -/
def cutB (n : Int) (lo hi : Option AV) : Option (Int × Int × List Bool) :=
  match hi with
  | none => (match lo with
    | none => some (0, n, [])
    | some (.sc (.int .i64) l) => some (l, n, [decide (0 ≤ l), decide (l ≤ n)])
    | _ => none)
  | some (.sc (.int .i64) h) => (match lo with
    | none => some (0, h, [decide (0 ≤ h), decide (h ≤ n)])
    | some (.sc (.int .i64) l) => some (l, h, [decide (0 ≤ h), decide (h ≤ n), decide (0 ≤ l), decide (l ≤ h)])
    | _ => none)
  | _ => none
def exSlice (L : Lk) (i : TInf) (x : AV) (lo hi : Option AV) : Option Rec :=
  match x with
  | .sc .str s => bif i.ty.beq .str && i.tru then (cutB (s.size : Int) lo hi).map (fun c => { gs := c.2.2, av := .sc .str (s.extract c.1.toNat c.2.1.toNat) }) else none
  | .rd e t xs ds => bif live L ds && (Ty.slice e t).beq i.ty then (cutB (xs.length : Int) lo hi).map (fun c => { gs := c.2.2, rs := ds.map (·.1), av := .rd e t ((xs.take c.2.1.toNat).drop c.1.toNat) ds }) else none
  | .own o hv => match L o with
    | .row e t xs hv' _ _ none => bif Nat.beq hv hv' && (Ty.slice e t).beq i.ty then (cutB (xs.length : Int) lo hi).map (fun c => { gs := c.2.2, rs := [o], av := .view o hv c.1 c.2.1 }) else none
    | _ => none
  | _ => none

def litRow (t : Ty) (g : Operand → AV) : Nat → List (Nat × Operand) → Option (List t.den)
  | _, [] => some []
  | k, (i, x) :: r => match g x with
    | .sc s y => bif Nat.beq i k then (match Ty.cast s t y, litRow t g (k + 1) r with
      | some z, some zs => some (z :: zs)
      | _, _ => none) else none
    | _ => none
def exStr (L : Lk) (i j k : TInf) (x : AV) : Option Rec :=
  match x with
  | .rd e t xs ds => bif live L ds && (Ty.slice e t).beq i.ty && j.ty.beq .str && j.tru && k.ty.beq (.int .u8) && k.tru then (Ty.cast (.slice e t) (.slice e (.int .u8)) xs).map (fun ys => { rs := ds.map (·.1), av := .sc .str (strOfNums ys) }) else none
  | .own o hv => match L o with
    | .row e t xs hv' _ _ none => bif Nat.beq hv hv' && (Ty.slice e t).beq i.ty && j.ty.beq .str && j.tru && k.ty.beq (.int .u8) && k.tru then (Ty.cast (.slice e t) (.slice e (.int .u8)) xs).map (fun ys => { rs := [o], av := .sc .str (strOfNums ys) }) else none
    | _ => none
  | _ => none
def eqsT (TT : Nat → Option TInf) (T : Nat) : List IntKind := match TT T with
  | some i => i.eqs
  | none => []
def isBoolT (TT : Nat → Option TInf) (T : Nat) : Bool := match TT T with
  | some i => i.ty.beq .bool && i.tru
  | none => false
section
variable (TT : Nat → Option TInf)
/-- each operation but a call of a function; cuts are read -/
def exOp0 (L : Lk) (g : Operand → AV) (fid : Nat) (o : Op) : Option Rec :=
  match o with
  | .move x | .assign x => some { av := g x }
  | .nilCheck x => exPtr L 0 (g x)
  | .alloc T => match TT T with
    | some i => some { av := .ptr fid 0, ups := [(fid, .box T (zeroCells i.ty))] }
    | none => none
  | .box T x => match (g x).cells with
    | some l => some { av := .ptr fid 0, ups := [(fid, .box T l)] }
    | none => none
  | .fieldAddr T x f => match TT T with
    | some i => match nth i.offs f with
      | some d => exPtr L d.1 (g x)
      | none => none
    | none => none
  | .load T x => match TT T with
    | some i => exLoad L i (g x)
    | none => none
  | .store T p x => match TT T with
    | some i => exStore L i (g p) (g x)
    | none => none
  | .indexAddr T x ix => match TT T with
    | some i => exIndexAddr L i (g x) (g ix)
    | none => none
  | .index T x ix => match TT T, g x, g ix with
    | some i, .sc .str s, .sc (.int .i64) n => bif i.ty.beq .str && i.tru then some { gs := [decide (0 ≤ n), decide (n < (s.size : Int))], av := .sc (.int .u8) (bt s n) } else none
    | _, _, _ => none
  | .binOp op T x y _ => (exBin (isBoolT TT T) (eqsT TT T) op (g x) (g y)).map (fun r => { gs := r.1, av := r.2 })
  | .unOp .not _ x => match g x with
    | .sc .bool b => some { av := .sc .bool (!b) }
    | _ => none
  | .convert S T x => match TT S, TT T with
    | some i, some j => match i.ty with
      | .int _ => match g x, j.ty with
        | .sc (.int _) n, .int k => bif i.tru && j.tru then some { av := .sc (.int k) (k.wrap n) } else none
        | _, _ => none
      | .slice e _ => match TT e with
        | some k => exStr L i j k (g x)
        | none => none
      | _ => none
    | _, _ => none
  | .pick c a b => exPick (g c) (g a) (g b)
  | .build T ps => match TT T with
    | some i => bif i.agg && !i.offs.isEmpty then (fillAV i.offs g ps.toList (zeroCells i.ty)).map (fun l => { av := .agg (AV.ofList l) }) else none
    | none => none
  | .extract x n => match g x with
    | .tup l => (nth l.toList n).map (fun v => { av := v })
    | _ => none
  | .buildSlice T n ps => match TT T with
    | some i => match i.ty with
      | .slice e t => match ps.toList with
        | [(0, x)] => match (g x).cells with
          | some l => match toDen L t l with
            | some (z, os, []) => bif Nat.beq n 1 && Nat.ble t.sz 1000 then some { rs := os, av := .own fid 0, ups := killed os ++ [(fid, .row e t [z] 0 0 0 none)] } else none
            | _ => match toRead L t l with
              | some (z, ds, []) => bif Nat.beq n 1 && Nat.ble t.sz 1000 then some { rs := ds.map (·.1), av := .rd e t [z] ds } else none
              | _ => none
          | none => none
        | [] => bif Nat.beq n 0 then some { av := .own fid 0, ups := [(fid, .row e t [] 0 0 0 none)] } else none
        | ps => match litRow t g 0 ps with
          | some zs => bif Nat.beq n zs.length && Nat.ble n 1000 then some { av := .own fid 0, ups := [(fid, .row e t zs 0 0 0 none)] } else none
          | none => none
      | _ => none
    | none => none
  | .makeSlice T l c => match TT T with
    | some i => match i.ty with
      | .slice e t => match g l, g c with
        | .sc (.int .i64) n, .sc (.int .i64) m => some { gs := [n == m, decide (0 ≤ n), decide (n.toNat * i.bytes ≤ 140737488355328)], av := .own fid 0, ups := [(fid, .row e t (List.replicate n.toNat t.zero) 0 0 0 none)] }
        | _, _ => none
      | _ => none
    | none => none
  | .slice T x lo hi none => match TT T with
    | some i => exSlice L i (g x) (lo.map g) (hi.map g)
    | none => none
  | .call { callee := .builtin .len, args, argTypes } => match args.toList, argTypes.toList with
    | [x], [T] => match TT T with
      | some i => exLen L i (g x)
      | none => none
    | _, _ => none
  | .call { callee := .builtin .append, args, argTypes } => match args.toList, argTypes.toList with
    | [s, x], [T, T'] => match TT T with
      | some i => bif Nat.beq T T' then exAppend L i fid (g s) (g x) else none
      | none => none
    | _, _ => none
  | .call { callee := .builtin .min, args, .. } => match args.toList with
    | [a, b] => match g a, g b with
      | .sc (.int .i64) x, .sc (.int .i64) y => some { av := .sc (.int .i64) (mn x y) }
      | _, _ => none
    | _ => none
  | .call { callee := .builtin .max, args, .. } => match args.toList with
    | [a, b] => match g a, g b with
      | .sc (.int .i64) x, .sc (.int .i64) y => some { av := .sc (.int .i64) (mx x y) }
      | _, _ => none
    | _ => none
  | _ => none
/-- a cut, read -/
def deV (L : Lk) : AV → AV
  | .view o hv a b => match L o with
    | .row e t xs hv' v0 _ none => bif Nat.beq hv hv' then .rd e t ((xs.take b.toNat).drop a.toNat) [(o, 0, v0)] else .dead
    | _ => .dead
  | .sub o _ _ v1 _ _ e t xs => .rd e t xs [(o, 1, v1)]
  | x => x
/-- the row at leaf j -/
def leafRow : (t : Ty) → t.den → Nat → Option (Nat × (s : Ty) × List s.den)
  | .pair a b, x, j => bif Nat.ble a.sz j then leafRow b x.2 (j - a.sz) else leafRow a x.1 j
  | .slice e t, x, 0 => some (e, ⟨t, x⟩)
  | _, _, _ => none
/-- a row put at leaf j -/
def putRow : (t : Ty) → t.den → Nat → (e : Nat) → (s : Ty) → List s.den → Option t.den
  | .pair a b, x, j, e, s, y => bif Nat.ble a.sz j then (putRow b x.2 (j - a.sz) e s y).map (fun z => (x.1, z)) else (putRow a x.1 j e s y).map (fun z => (z, x.2))
  | .slice e' t, _, 0, e, s, y => Ty.cast (.slice e s) (.slice e' t) y
  | _, _, _, _, _, _ => none
def exLoadS (L : Lk) (i : TInf) (p : AV) : Option Rec :=
  match p with
  | .elt o hv ix j => match L o with
    | .row _ t xs hv' v0 v1 none => bif Nat.beq hv hv' && !i.agg then
        (match leafRow t (xs.getD ix.toNat t.zero) j with
        | some r => some { rs := [o], av := .sub o hv v0 v1 ix j r.1 r.2.1 r.2.2 }
        | none => none) else none
    | _ => none
  | _ => none
/-- an element's leaves, told as rows of one's own -/
def outL : (t : Ty) → t.den → Nat → Option (List AV × List (Nat × Ob) × Nat)
  | .pair a b, x, n => match outL a x.1 n with
    | some (c, u, n1) => match outL b x.2 n1 with
      | some (c', u', n2) => some (c ++ c', u ++ u', n2)
      | none => none
    | none => none
  | .slice e t, x, n => bif t.flat then some ([.own n 0], [(n, .row e t x 0 0 0 none)], n + 1) else none
  | .int k, x, n => some ([.sc (.int k) x], [], n)
  | .bool, x, n => some ([.sc .bool x], [], n)
  | .str, x, n => some ([.sc .str x], [], n)
def exOut (L : Lk) (i : TInf) (fid : Nat) (p : AV) : Option Rec :=
  match p with
  | .elt o hv ix j => match L o with
    | .row e t xs hv' v0 v1 none => bif Nat.beq hv hv' && i.agg && Nat.beq j 0 && Nat.beq i.ty.sz t.sz then
        (match outL t (xs.getD ix.toNat t.zero) fid with
        | some r => bif Nat.ble r.2.2 (fid + 8) then some { rs := [o], av := .agg (AV.ofList r.1), ups := (o, .row e t xs hv (v0 + 1) (v1 + 1) (some ix)) :: r.2.1 } else none
        | none => none) else none
    | _ => none
  | _ => none
def exIxS (L : Lk) (i : TInf) (x ix : AV) : Option Rec :=
  match ix with
  | .sc (.int .i64) n => match x with
    | .own o hv => match L o with
      | .row e t xs hv' _ _ (some _) => bif Nat.beq hv hv' && (Ty.slice e t).beq i.ty then some { gs := [decide (0 ≤ n), decide (n < (xs.length : Int))], rs := [o], av := .elt o hv n 0 } else none
      | _ => none
    | _ => none
  | _ => none
def exStoreS (L : Lk) (i : TInf) (p x : AV) : Option Rec :=
  match x with
  | .agg l => match p with
    | .elt o hv ix j => match L o with
      | .row e t xs hv' v0 v1 (some i0) => bif Nat.beq hv hv' then (match toDen L t l.toList with
          | some (z, os, []) => bif Nat.beq j 0 && Nat.beq i.ty.sz t.sz && all (fun p => !Nat.beq p o) os then some { gs := [decide (ix = i0)], rs := o :: os, ups := killed os ++ [(o, .row e t (xs.set ix.toNat z) hv' (v0 + 1) (v1 + 1) none)] } else none
          | _ => none) else none
      | _ => none
    | _ => none
  | .own q hq => match p with
    | .elt o hv ix j => match L o, L q with
      | .row e t xs hv' v0 v1 none, .row e2 t2 ys hq' _ _ none => bif Nat.beq hv hv' && Nat.beq hq hq' && !Nat.beq q o && Nat.beq 1 i.ty.sz then
          (match leafRow t (xs.getD ix.toNat t.zero) j with
          | some r => match Ty.cast (.slice e2 t2) (.slice r.1 r.2.1) ys with
            | some ys' => match putRow t (xs.getD ix.toNat t.zero) j r.1 r.2.1 ys' with
              | some z => some { rs := [o, q], ups := killed [q] ++ [(o, .row e t (xs.set ix.toNat z) hv' (v0 + 1) v1 none)] }
              | none => none
            | none => none
          | none => none) else none
      | _, _ => none
    | _ => none
  | .app o hv v0 ix j e0 t0 ys => match p with
    | .elt o' hw ix' j' => match L o with
      | .row e t xs hv' v0' v1 none => bif Nat.beq o o' && Nat.beq hv hw && Nat.beq hv hv' && Nat.beq v0 v0' && Nat.beq j j' && Nat.beq 1 i.ty.sz && Nat.blt j t.sz then
          some { gs := [decide (ix = ix')], rs := [o], ups := [(o, .row e0 t0 ys hv (v0 + 1) v1 none)] } else none
      | _ => none
    | _ => none
  | _ => none
/-- what is put behind -/
def newsOf (L : Lk) (e : Nat) (t : Ty) (o : Nat) : AV → Option (List Nat × List t.den)
  | .own p hw => match L p with
    | .row e2 t2 ys hw' _ _ none => bif Nat.beq hw hw' && !Nat.beq p o then (Ty.cast (.slice e2 t2) (.slice e t) ys).map (fun ys => ([p], ys)) else none
    | _ => none
  | .rd e2 t2 ys ds => bif live L ds then (Ty.cast (.slice e2 t2) (.slice e t) ys).map (fun ys => (ds.map (·.1), ys)) else none
  | _ => none
def exAppS (L : Lk) (i : TInf) (s x : AV) : Option Rec :=
  match s with
  | .sub o hv v0 _ ix j _ _ _ => match L o with
    | .row e0 t0 xs0 hv' v0' v1 none => bif Nat.beq hv hv' && Nat.beq v0 v0' then
        (match leafRow t0 (xs0.getD ix.toNat t0.zero) j with
        | some r => match newsOf L r.1 r.2.1 o x with
          | some q => match putRow t0 (xs0.getD ix.toNat t0.zero) j r.1 r.2.1 (r.2.2 ++ q.2) with
            | some z => bif r.2.1.flat && (Ty.slice r.1 r.2.1).beq i.ty then
                some { gs := [decide ((r.2.2.length + q.2.length) * i.bytes ≤ 140737488355328)], rs := o :: q.1, av := .app o hv (v0 + 1) ix j e0 t0 (xs0.set ix.toNat z), ups := [(o, .row e0 t0 xs0 hv (v0 + 1) (v1 + 1) none)] } else none
            | none => none
          | none => none
        | none => none) else none
    | _ => none
  | _ => none
/-- a text put over a row -/
def putS (xs : List Int) (a : Int) (s : ByteArray) : List Int := xs.take a.toNat ++ bytesOf s ++ xs.drop (a.toNat + s.size)
def exCopy (L : Lk) (i k : TInf) (j : TInf) (x y : AV) : Option Rec :=
  match x, y with
  | .view o hv a b, .sc .str s => match L o with
    | .row e t xs hv' v0 v1 none => bif Nat.beq hv hv' && (Ty.slice e t).beq i.ty && j.ty.beq .str && j.tru && k.ty.beq (.int .u8) && k.tru then
        (match Ty.cast (.slice e t) (.slice e (.int .u8)) xs with
        | some ys => some { gs := [decide (a + (s.size : Int) ≤ b)], rs := [o], av := .sc (.int .i64) (s.size : Int), ups := [(o, .row e (.int .u8) (putS ys a s) hv (v0 + 1) v1 none)] }
        | none => none) else none
    | _ => none
  | _, _ => none
def exOp1 (L : Lk) (g : Operand → AV) (fid : Nat) (o : Op) : Option Rec :=
  match o with
  | .call { callee := .builtin .copy, args, argTypes } => match args.toList, argTypes.toList with
    | [x, y], [T, T'] => match TT T, TT T' with
      | some i, some j => match i.ty with
        | .slice e _ => match TT e with
          | some k => exCopy L i k j (g x) (g y)
          | none => none
        | _ => none
      | _, _ => none
    | _, _ => none
  | o => exOp0 TT L (fun x => deV L (g x)) fid o
/-- rows inside of rows: told where they lie; grown; put back -/
def exSub (L : Lk) (g : Operand → AV) (fid : Nat) (o : Op) : Option Rec :=
  match o with
  | .makeFunc (.func f) first captured => match first.toList, captured.toList with
    | [], [x] => match g x with
      | .ptr o 0 => some { av := .clo f o }
      | _ => none
    | _, _ => none
  | .load T p => match TT T with
    | some i => bif i.mv then exOut L i fid (g p) else exLoadS L i (g p)
    | none => none
  | .indexAddr T x ix => match TT T with
    | some i => exIxS L i (g x) (g ix)
    | none => none
  | .store T p x => match TT T with
    | some i => exStoreS L i (g p) (g x)
    | none => none
  | .call { callee := .builtin .append, args, argTypes } => match args.toList, argTypes.toList with
    | [s, x], [T, T'] => match TT T with
      | some i => bif Nat.beq T T' then exAppS L i (g s) (deV L (g x)) else none
      | none => none
    | _, _ => none
  | _ => none
def exOp (L : Lk) (g : Operand → AV) (fid : Nat) (o : Op) : Option Rec :=
  match exSub TT L g fid o with
  | some r => some r
  | none => exOp1 TT L g fid o
end

/-! ### states, shapes -/
def look {α : Type} (d : α) (t : Nat) : List (Nat × α) → α
  | [] => d
  | (u, v) :: r => bif Nat.beq u t then v else look d t r
structure St where
  objs : List (Nat × Ob)
  tmps : List (Nat × AV)
  nxt : Nat
def St.L (σ : St) : Lk := fun o => look .none o σ.objs
def St.g (σ : St) : Operand → AV
  | .tmp t => look .dead t σ.tmps
  | .const v => constAV v
  | .func f => .fn f
  | .global _ => .dead
def St.put (σ : St) (d : Option Nat) (v : AV) : St := match d with
  | none => σ
  | some t => { σ with tmps := (t, v) :: σ.tmps }
def St.upd (σ : St) : List (Nat × Ob) → St
  | [] => σ
  | p :: r => St.upd { σ with objs := p :: σ.objs } r

/-- shapes of values -/
inductive SV where
  | dead | sc (t : Ty) | nil | own (i : Nat) | rd (e : Nat) (t : Ty) (deps : List (Nat × Nat)) | ptr (i j : Nat) | elt (i j : Nat) | fn (f : Nat)
  | anil | acons (h t : SV) | agg (l : SV) | tup (l : SV)
inductive SO where
  | box (T : Nat) (cells : SV)
  | row (e : Nat) (t : Ty)
  | hole (e : Nat) (t : Ty)
structure Shape where
  objs : List SO
  vals : List (Nat × SV)
abbrev Dyn := (t : Ty) × t.den
def HL : List Ty → Type
  | [] => Unit
  | [t] => t.den
  | t :: s :: r => t.den × HL (s :: r)
def HL.dyns : (ts : List Ty) → HL ts → List Dyn
  | [], _ => []
  | [t], x => [⟨t, x⟩]
  | t :: s :: r, x => ⟨t, x.1⟩ :: HL.dyns (s :: r) x.2
def HL.of1 (t : Ty) : List Dyn → Option t.den
  | [d] => Ty.cast d.1 t d.2
  | _ => none
def HL.of2 (t : Ty) {α : Type} (k : List Dyn → Option α) : List Dyn → Option (t.den × α)
  | d :: ds => match Ty.cast d.1 t d.2, k ds with
    | some x, some y => some (x, y)
    | _, _ => none
  | [] => none
def HL.of : (ts : List Ty) → List Dyn → Option (HL ts)
  | [], ds => match ds with
    | [] => some ()
    | _ :: _ => none
  | [t], ds => HL.of1 t ds
  | t :: s :: r, ds => HL.of2 t (HL.of (s :: r)) ds
def SV.holes : SV → List Ty
  | .sc t => [t]
  | .rd e t _ => [.slice e t]
  | .elt _ _ => [.int .i64]
  | .acons h t => h.holes ++ t.holes
  | .agg l => l.holes
  | .tup l => l.holes
  | _ => []
def SO.holes : SO → List Ty
  | .box _ l => l.holes
  | .row e t => [.slice e t]
  | .hole e t => [.slice e t, .int .i64]
def holesV : List (Nat × SV) → List Ty
  | [] => []
  | p :: r => p.2.holes ++ holesV r
def holesO : List SO → List Ty
  | [] => []
  | p :: r => p.holes ++ holesO r
def Shape.ts (s : Shape) : List Ty := holesV s.vals ++ holesO s.objs

/-- a value built out of a shape -/
def bldV : SV → List Dyn → Option (AV × List Dyn)
  | .dead, ds => some (.dead, ds)
  | .sc t, d :: ds => (Ty.cast d.1 t d.2).map (fun x => (.sc t x, ds))
  | .nil, ds => some (.nil, ds)
  | .own i, ds => some (.own i 0, ds)
  | .rd e t deps, d :: ds => (Ty.cast d.1 (.slice e t) d.2).map (fun x => (.rd e t x (deps.map (fun p => (p.1, p.2, 0))), ds))
  | .ptr i j, ds => some (.ptr i j, ds)
  | .elt i j, d :: ds => (Ty.cast d.1 (.int .i64) d.2).map (fun x => (.elt i 0 x j, ds))
  | .fn f, ds => some (.fn f, ds)
  | .anil, ds => some (.anil, ds)
  | .acons h t, ds => match bldV h ds with
    | some (a, ds) => match bldV t ds with
      | some (b, ds) => some (.acons a b, ds)
      | none => none
    | none => none
  | .agg l, ds => (bldV l ds).map (fun r => (.agg r.1, r.2))
  | .tup l, ds => (bldV l ds).map (fun r => (.tup r.1, r.2))
  | _, _ => none
def bldVs : List (Nat × SV) → List Dyn → Option (List (Nat × AV) × List Dyn)
  | [], ds => some ([], ds)
  | (t, s) :: r, ds => match bldV s ds with
    | some (a, ds) => match bldVs r ds with
      | some (l, ds) => some ((t, a) :: l, ds)
      | none => none
    | none => none
def bldO : SO → List Dyn → Option (Ob × List Dyn)
  | .box T l, ds => (bldV l ds).map (fun r => (.box T r.1.toList, r.2))
  | .row e t, d :: ds => (Ty.cast d.1 (.slice e t) d.2).map (fun x => (.row e t x 0 0 0 none, ds))
  | .hole e t, d :: d2 :: ds => (Ty.cast d.1 (.slice e t) d.2).bind (fun x => (Ty.cast d2.1 (.int .i64) d2.2).map (fun i => (.row e t x 0 0 0 (some i), ds)))
  | _, _ => none
def bldOs : Nat → List SO → List Dyn → Option (List (Nat × Ob) × List Dyn)
  | _, [], ds => some ([], ds)
  | i, s :: r, ds => match bldO s ds with
    | some (a, ds) => match bldOs (i + 1) r ds with
      | some (l, ds) => some ((i, a) :: l, ds)
      | none => none
    | none => none
def Shape.bld (s : Shape) (ds : List Dyn) : Option St := match bldVs s.vals ds with
  | some (vs, ds) => match bldOs 0 s.objs ds with
    | some (os, []) => some { objs := os, tmps := vs, nxt := s.objs.length }
    | _ => none
  | none => none

/-- matching: bound objects (shape's number, state's number), data met (last first), what was lent or shared: (object, level, as what it may be told) -/
structure M where
  bs : List (Nat × Nat) := []
  out : List Dyn := []
  cons : List (Nat × Nat × List (Nat × Nat)) := []
  /-- told as rows of one's own, though nil -/
  nils : List Nat := []
def M.bind (m : M) (i o : Nat) : M :=
  bif all (fun p => !(Nat.beq p.1 i && Nat.beq p.2 o)) m.bs then { m with bs := (i, o) :: m.bs } else m
def matV (L : Lk) : SV → AV → M → Option M
  | .dead, .anil, _ => none
  | .dead, .acons _ _, _ => none
  | .dead, _, m => some m
  | .sc t, .sc s x, m => (Ty.cast s t x).map (fun y => { m with out := ⟨t, y⟩ :: m.out })
  | .nil, .nil, m => some m
  | .own i, .own o hv, m => match L o with
    | .row _ _ _ hv' _ _ _ => bif Nat.beq hv hv' then some (m.bind i o) else none
    | _ => none
  | .own i, .nil, m => some { m with nils := i :: m.nils }
  | .rd e t deps, .nil, m => some { m with out := ⟨.slice e t, []⟩ :: m.out, cons := (999999, 0, deps) :: m.cons }
  | .rd e t deps, .own o hv, m => match L o with
    | .row e' t' xs hv' _ _ none => bif Nat.beq hv hv' then (Ty.cast (.slice e' t') (.slice e t) xs).map (fun y => { m with out := ⟨.slice e t, y⟩ :: m.out, cons := (o, 0, deps) :: m.cons }) else none
    | _ => none
  | .rd e t deps, .rd e' t' xs ds, m => bif live L ds then (Ty.cast (.slice e' t') (.slice e t) xs).map (fun y => { m with out := ⟨.slice e t, y⟩ :: m.out, cons := (999999, 0, deps) :: (ds.map (fun d => (d.1, d.2.1, deps)) ++ m.cons) }) else none
  | .ptr i j, .ptr o j', m => bif Nat.beq j j' then some (m.bind i o) else none
  | .elt i j, .elt o hv ix j', m => match L o with
    | .row _ _ _ hv' _ _ _ => bif Nat.beq hv hv' && Nat.beq j j' then some { m.bind i o with out := ⟨.int .i64, ix⟩ :: (m.bind i o).out } else none
    | _ => none
  | .fn f, .fn f', m => bif Nat.beq f f' then some m else none
  | .anil, .anil, m => some m
  | .acons h t, .acons a b, m => match matV L h a m with
    | some m => matV L t b m
    | none => none
  | .agg l, .agg a, m => matV L l a m
  | .tup l, .tup a, m => matV L l a m
  | _, _, _ => none
/-- where a row lies, forgotten -/
def unsub : AV → AV
  | .sub o _ _ v1 _ _ e t xs => .rd e t xs [(o, 1, v1)]
  | x => x
def matVs (L : Lk) (g : Nat → AV) : List (Nat × SV) → M → Option M
  | [], m => some m
  | (t, s) :: r, m => match matV L s (g t) m with
    | some m => matVs L g r m
    | none => none
def bound (i : Nat) : List (Nat × Nat) → Option Nat
  | [] => none
  | (j, o) :: r => bif Nat.beq j i then some o else bound i r
def memN (i : Nat) : List Nat → Bool
  | [] => false
  | a :: r => Nat.beq a i || memN i r
def matOs (L : Lk) : Nat → List SO → M → Option M
  | _, [], m => some m
  | i, s :: r, m => match bound i m.bs with
    | none => bif memN i m.nils then (match s with
      | .row e t => matOs L (i + 1) r { m with out := ⟨.slice e t, []⟩ :: m.out }
      | _ => none) else none
    | some o => match s, L o with
      | .row e t, .row e' t' xs _ _ _ none => match Ty.cast (.slice e' t') (.slice e t) xs with
        | some y => matOs L (i + 1) r { m with out := ⟨.slice e t, y⟩ :: m.out }
        | none => none
      | .hole e t, .row e' t' xs _ _ _ (some i0) => match Ty.cast (.slice e' t') (.slice e t) xs with
        | some y => matOs L (i + 1) r { m with out := ⟨.int .i64, i0⟩ :: ⟨.slice e t, y⟩ :: m.out }
        | none => none
      | .box T l, .box T' cells => bif Nat.beq T T' then (match matV L l (AV.ofList cells) m with
        | some m => matOs L (i + 1) r m
        | none => none) else none
      | _, _ => none
/-- what is shared is no object that is told (or is told so) -/
def hasDep (i l : Nat) : List (Nat × Nat) → Bool
  | [] => false
  | d :: r => (Nat.beq d.1 i && Nat.beq d.2 l) || hasDep i l r
def consOk (bs : List (Nat × Nat)) (cs : List (Nat × Nat × List (Nat × Nat))) : Bool := all (fun c =>
  all (fun p => !Nat.beq p.2 c.1 || hasDep p.1 c.2.1 c.2.2) bs && all (fun d => match bound d.1 bs with | some _ => true | none => false) c.2.2) cs
/-- each number once -/
def uniq (bs : List (Nat × Nat)) : Bool := match bs with
  | [] => true
  | p :: r => all (fun q => !Nat.beq p.1 q.1 && !Nat.beq p.2 q.2) r && uniq r
def Shape.mat (s : Shape) (L : Lk) (g : Nat → AV) (bs : List (Nat × Nat)) : Option M :=
  match matVs L (fun t => unsub (g t)) s.vals { bs := bs } with
  | some m => match matOs L 0 s.objs m with
    | some m => bif uniq m.bs && consOk m.bs m.cons && all (fun p => Nat.blt p.1 s.objs.length) m.bs && all (fun i => Nat.blt i s.objs.length && all (fun p => !Nat.beq p.1 i) m.bs) m.nils then some m else none
    | none => none
  | none => none
end Go.Eng
/-
The engine, part 2: what an abstract state says of a world; how it moves.
-/
set_option linter.unusedVariables false
set_option linter.unusedSimpArgs false
namespace Go.Eng
open Go Go.RowKit Go.Proofs.YtoancfhhlmkcbaaW.PrintWords

theorem Ty.kd_sz : ∀ t : Ty, t.kd.sz = t.sz
  | .int _ | .bool | .str | .slice _ _ => rfl
  | .pair a b => by show a.kd.sz + b.kd.sz = _; rw [Ty.kd_sz a, Ty.kd_sz b]; rfl
theorem cast_some {t t' : Ty} {x : t.den} {y : t'.den} (h : Ty.cast t t' x = some y) : ∃ e : t = t', e ▸ x = y := by
  unfold Ty.cast at h
  split at h
  · rename_i hb
    injection h with h
    exact ⟨Ty.beq_eq hb, h⟩
  · cases h

/-- which object a block is of (0: of none that is written), what an object is told by, which blocks of colour 0 are of no one's concern -/
structure Env where
  f : Nat → Nat
  μ : Nat → Value
  al : Nat → Prop
def col (E : Env) (ds : List Dep) (k : Nat) : Prop := (E.f k = 0 ∧ ¬ E.al k) ∨ ∃ d ∈ ds, E.f k = d.1 + 1 ∧ (d.2.1 = 1 → some k ≠ (E.μ d.1).ownBlock)
def scOk : (t : Ty) → t.den → Value → Prop
  | .int k, x, v => v = .int k x
  | .bool, x, v => v = .bool x
  | .str, x, v => v = .string x
  | _, _, _ => False
def verLe (ob : Ob) (l v : Nat) : Prop := match ob with
  | .none => False
  | .row _ _ _ _ v0 v1 _ => (l = 0 → v ≤ v0) ∧ (l = 1 → v ≤ v1)
  | _ => True
def relOk (E : Env) (w : World) (t : Ty) (x : t.den) (ds : List Dep) (j : Nat) (v : Value) : Prop :=
  ∃ (a : Addr) (cs : List Value), v = .pointer (some (a.add j)) ∧ cs.length = t.sz ∧ Foot (fun W => t.kd.K W x cs ∧ ∀ j u, cs[j]? = some u → W.cell? (a.add j) = some u) w (col E ds)
mutual
def vOk (E : Env) (L : Lk) (w : World) : AV → Value → Prop
  | .dead, _ => True
  | .sc t x, v => scOk t x v
  | .nil, v => v = .slice none 0 0
  | .own o hv, v => v.oneCell' = true ∧ match L o with
    | .none => False
    | .row _ _ _ hv' _ _ _ => hv ≤ hv' ∧ (hv = hv' → v = E.μ o)
    | _ => True
  | .rd e t xs ds, v => v.oneCell' = true ∧ (∀ d ∈ ds, verLe (L d.1) d.2.1 d.2.2) ∧ (live L ds = true → Kd.V t.kd e w 0 (col E ds) v xs)
  | .ptr o j, v => ∃ b, (∃ T cells, L o = .box T cells) ∧ E.μ o = .pointer (some ⟨b, 0, none⟩) ∧ v = .pointer (some ⟨b, j, none⟩)
  | .elt o hv i j, v => v.oneCell' = true ∧ match L o with
    | .none => False
    | .row _ t xs hv' _ _ _ => hv ≤ hv' ∧ (hv = hv' → 0 ≤ i ∧ i < xs.length ∧ ∃ g n c, E.μ o = .slice (some ⟨g, 0, none⟩) n c ∧ v = .pointer (some ⟨g, i.toNat * t.sz + j, none⟩))
    | _ => True
  | .relt t x ds j, v => v.oneCell' = true ∧ (∀ d ∈ ds, verLe (L d.1) d.2.1 d.2.2) ∧ (live L ds = true → relOk E w t x ds j v)
  | .view o hv a b, v => v.oneCell' = true ∧ match L o with
    | .none => False
    | .row _ t xs hv' _ _ _ => hv ≤ hv' ∧ (hv = hv' → 0 ≤ a ∧ a ≤ b ∧ b ≤ xs.length ∧ ∃ A c, v = .slice A (b.toNat - a.toNat) c ∧ b.toNat - a.toNat ≤ c ∧ (a < b → ∃ g n c0, E.μ o = .slice (some ⟨g, 0, none⟩) n c0 ∧ A = some ⟨g, a.toNat * t.sz, none⟩))
    | _ => True
  | .sub o hv v0 v1 i j e t xs, v => v.oneCell' = true ∧ (∀ d ∈ [((o, 1, v1) : Dep)], verLe (L d.1) d.2.1 d.2.2) ∧ (live L [(o, 1, v1)] = true → Kd.V t.kd e w 0 (col E [(o, 1, v1)]) v xs) ∧ match L o with
    | .none => False
    | .row _ t0 xs0 hv' v0' _ _ => hv ≤ hv' ∧ v0 ≤ v0' ∧ (hv = hv' → v0 = v0' → 0 ≤ i ∧ i < xs0.length ∧ ∃ g n c, E.μ o = .slice (some ⟨g, 0, none⟩) n c ∧ E.f g = o + 1 ∧ w.cell? ⟨g, i.toNat * t0.sz + j, none⟩ = some v)
    | _ => True
  | .app o hv v0 i j e0 t0 ys, v => v.oneCell' = true ∧ match L o with
    | .none => False
    | .row e1 t1 xs1 hv' v0' _ _ => hv ≤ hv' ∧ v0 ≤ v0' ∧ (hv = hv' → v0 = v0' → e1 = e0 ∧ t1 = t0 ∧ 0 ≤ i ∧ i < ys.length ∧ ys.length = xs1.length ∧ ∃ g n c, E.μ o = .slice (some ⟨g, 0, none⟩) n c ∧ g < w.heap.size ∧ E.f g = o + 1 ∧ Kd.S t0.kd e0 (w.setCells g (i.toNat * t0.sz + j) [v]) 0 (fun k => E.f k = o + 1) (E.μ o) ys)
    | _ => True
  | .fn f, v => v = .func (.func f) #[] #[]
  | .clo f o, v => ∃ b, (∃ T cells, L o = .box T cells) ∧ E.μ o = .pointer (some ⟨b, 0, none⟩) ∧ v = .func (.func f) #[] #[.pointer (some ⟨b, 0, none⟩)]
  | .anil, _ => False
  | .acons _ _, _ => False
  | .agg l, v => ∃ vs : List Value, v = .agg vs.toArray ∧ vsOk E L w l vs ∧ ∀ u ∈ vs, u.oneCell' = true
  | .tup l, v => ∃ vs : List Value, v = .tuple vs.toArray ∧ vsOk E L w l vs
def vsOk (E : Env) (L : Lk) (w : World) : AV → List Value → Prop
  | .anil, vs => vs = []
  | .acons h t, vs => ∃ u r, vs = u :: r ∧ vOk E L w h u ∧ vsOk E L w t r
  | _, _ => False
end
/-- cells, one by one -/
def csOk (E : Env) (L : Lk) (w : World) : List AV → List Value → Prop
  | [], vs => vs = []
  | a :: l, vs => ∃ u r, vs = u :: r ∧ vOk E L w a u ∧ u.oneCell' = true ∧ csOk E L w l r
def oOk (E : Env) (L : Lk) (w : World) (o : Nat) : Ob → Prop
  | .none => True
  | .dead => True
  | .box T cells => ∃ b vs, E.μ o = .pointer (some ⟨b, 0, none⟩) ∧ E.f b = o + 1 ∧ w.heap[b]? = some (.cells (vs : List Value).toArray T (0, 0)) ∧ csOk E L w cells vs
  | .row e t xs _ _ _ none => Kd.S t.kd e w 0 (fun k => E.f k = o + 1) (E.μ o) xs
  | .row e t xs _ _ _ (some i) => ∃ c g n cap, E.μ o = .slice (some ⟨g, 0, none⟩) n cap ∧ E.f g = o + 1 ∧ 0 ≤ i ∧ i < n ∧ n = xs.length ∧ Kd.H t.kd e w 0 (fun k => E.f k = o + 1) (E.μ o) xs i (fun _ => False) c

/-- How a world and what is known of it may go on. -/
structure Tr (E : Env) (L : Lk) (w : World) (E' : Env) (L' : Lk) (w' : World) : Prop where
  size : w.heap.size ≤ w'.heap.size
  none : ∀ o, L o ≠ .none → L' o ≠ .none
  box : ∀ o T cells, L o = .box T cells → (∃ cells', L' o = .box T cells') ∧ E'.μ o = E.μ o
  notRow : ∀ o, L o ≠ .none → (∀ e t xs hv v0 v1 h, L o ≠ .row e t xs hv v0 v1 h) → ∀ e t xs hv v0 v1 h, L' o ≠ .row e t xs hv v0 v1 h
  row : ∀ o e t xs hv v0 v1 h, L o = .row e t xs hv v0 v1 h → L' o = .dead ∨ ∃ xs' hv' v0' v1' h', L' o = .row e t xs' hv' v0' v1' h' ∧ hv ≤ hv' ∧ v0 ≤ v0' ∧ v1 ≤ v1' ∧ (hv' = hv → E'.μ o = E.μ o ∧ xs'.length = xs.length)
    ∧ (v0' = v0 → ∀ k, k < w.heap.size → E.f k = o + 1 → E'.f k = o + 1 ∧ w'.heap[k]? = w.heap[k]?)
    ∧ (v1' = v1 → ∀ k, k < w.heap.size → E.f k = o + 1 → some k ≠ (E.μ o).ownBlock → E'.f k = o + 1 ∧ some k ≠ (E'.μ o).ownBlock ∧ w'.heap[k]? = w.heap[k]?)
    ∧ (v0' = v0 ∨ v1' = v1 → h' = h)
  froz : ∀ k, k < w.heap.size → E.f k = 0 → E'.f k = 0 ∧ w'.heap[k]? = w.heap[k]? ∧ (E'.al k ↔ E.al k)

theorem live_mem {L : Lk} : ∀ {ds : List Dep}, live L ds = true → ∀ d ∈ ds, verEq (L d.1) d.2.1 d.2.2 = true
  | [], _, _, h => by cases h
  | a :: r, h, d, hd => by
    unfold live all at h
    rw [Bool.and_eq_true] at h
    rcases List.mem_cons.1 hd with rfl | hd
    · exact h.1
    · exact live_mem (ds := r) h.2 d hd
theorem live_of {L : Lk} : ∀ {ds : List Dep}, (∀ d ∈ ds, verEq (L d.1) d.2.1 d.2.2 = true) → live L ds = true
  | [], _ => rfl
  | a :: r, h => by
    unfold live all
    rw [Bool.and_eq_true]
    exact ⟨h a List.mem_cons_self, live_of (fun d hd => h d (List.mem_cons_of_mem _ hd))⟩
theorem verEq_row {ob : Ob} {l v : Nat} (h : verEq ob l v = true) : ∃ e t xs hv v0 v1, ob = .row e t xs hv v0 v1 none ∧ ((l = 0 ∧ v = v0) ∨ (l = 1 ∧ v = v1)) := by
  unfold verEq at h
  split at h
  · exact ⟨_, _, _, _, _, _, rfl, .inl ⟨rfl, Nat.eq_of_beq_eq_true h⟩⟩
  · exact ⟨_, _, _, _, _, _, rfl, .inr ⟨rfl, Nat.eq_of_beq_eq_true h⟩⟩
  · cases h

section
variable {E E' : Env} {L L' : Lk} {w w' : World}
theorem Tr.verLe (h : Tr E L w E' L' w') {o l v : Nat} (hv : verLe (L o) l v) : verLe (L' o) l v := by
  cases ho : L o with
  | none => rw [ho] at hv; exact hv.elim
  | dead =>
    have h1 := h.none o (by rw [ho]; exact fun e => by cases e)
    have h2 := h.notRow o (by rw [ho]; exact fun e => by cases e) (by rw [ho]; exact fun _ _ _ _ _ _ _ e => by cases e)
    cases ho' : L' o with
    | none => exact absurd ho' h1
    | row => exact absurd ho' (h2 _ _ _ _ _ _ _)
    | dead => trivial
    | box => trivial
  | box T cells =>
    obtain ⟨⟨c, hc⟩, _⟩ := h.box o T cells ho
    rw [hc]; trivial
  | row e t xs hv0 v0 v1 hh =>
    rw [ho] at hv
    rcases h.row o _ _ _ _ _ _ _ ho with hd | ⟨xs', hv', v0', v1', hh', hr, _, h0, h1, _⟩
    · rw [hd]; trivial
    · rw [hr]
      exact ⟨fun e => Nat.le_trans (hv.1 e) h0, fun e => Nat.le_trans (hv.2 e) h1⟩
/-- What is live stays so only where nothing was written: then it was live. -/
theorem Tr.live (h : Tr E L w E' L' w') {ds : List Dep} (hle : ∀ d ∈ ds, Eng.verLe (L d.1) d.2.1 d.2.2) (hl : live L' ds = true) :
    Eng.live L ds = true ∧ ∀ k, k < w.heap.size → col E ds k → col E' ds k ∧ w'.heap[k]? = w.heap[k]? := by
  have key : ∀ d ∈ ds, verEq (L d.1) d.2.1 d.2.2 = true ∧ ∀ k, k < w.heap.size → E.f k = d.1 + 1 → (d.2.1 = 1 → some k ≠ (E.μ d.1).ownBlock) → E'.f k = d.1 + 1 ∧ (d.2.1 = 1 → some k ≠ (E'.μ d.1).ownBlock) ∧ w'.heap[k]? = w.heap[k]? := by
    intro d hd
    have h1 := hle d hd
    obtain ⟨e, t, xs, hv, v0, v1, hr, hver⟩ := verEq_row (live_mem hl d hd)
    cases ho : L d.1 with
    | none => rw [ho] at h1; exact h1.elim
    | dead => exact absurd hr (h.notRow _ (by rw [ho]; exact fun e => by cases e) (by rw [ho]; exact fun _ _ _ _ _ _ _ e => by cases e) _ _ _ _ _ _ _)
    | box T c => obtain ⟨⟨c', hc⟩, _⟩ := h.box _ T c ho; rw [hc] at hr; cases hr
    | row e0 t0 xs0 hv0 w0 w1 hh =>
      rw [ho] at h1
      rcases h.row _ _ _ _ _ _ _ _ ho with hd' | ⟨xs', hv', v0', v1', hh', hr', hle1, h0, h1', _, hc0, hc1, hhh⟩
      · rw [hd'] at hr; cases hr
      · rw [hr'] at hr
        injection hr with e1 e2 e3 e4 e5 e6 e7
        subst e5; subst e6
        rcases hver with ⟨hl0, hv0⟩ | ⟨hl1, hv1⟩
        · have hle0 := h1.1 hl0
          have : v0' = w0 := by omega
          subst this
          obtain rfl : hh = Option.none := (hhh (.inl rfl)).symm.trans e7
          rw [hl0, hv0]
          exact ⟨Nat.beq_refl _, fun k hk hf _ => ⟨(hc0 rfl k hk hf).1, (fun e => absurd e (by decide)), (hc0 rfl k hk hf).2⟩⟩
        · have hle0 := h1.2 hl1
          have : v1' = w1 := by omega
          subst this
          obtain rfl : hh = Option.none := (hhh (.inr rfl)).symm.trans e7
          rw [hl1, hv1]
          exact ⟨Nat.beq_refl _, fun k hk hf hs => ⟨(hc1 rfl k hk hf (hs rfl)).1, fun _ => (hc1 rfl k hk hf (hs rfl)).2.1, (hc1 rfl k hk hf (hs rfl)).2.2⟩⟩
  refine ⟨live_of (fun d hd => (key d hd).1), fun k hk hcol => ?_⟩
  rcases hcol with h0 | ⟨d, hd, hf, hs⟩
  · have := h.froz k hk h0.1
    exact ⟨.inl ⟨this.1, fun ha => h0.2 (this.2.2.1 ha)⟩, this.2.1⟩
  · have := (key d hd).2 k hk hf hs
    exact ⟨.inr ⟨d, hd, this.1, this.2.1⟩, this.2.2⟩
theorem setCells_congr {w w' : World} {g k : Nat} {o : Nat} {v : Value} (h : w'.heap[k]? = w.heap[k]?) : (w'.setCells g o [v]).heap[k]? = (w.setCells g o [v]).heap[k]? := by
  by_cases e : k = g
  · subst e
    simp only [World.setCells, World.setCell, Array.getElem?_modify, h]
  · rw [setCells_far [v] o k e, setCells_far [v] o k e, h]
mutual
theorem Tr.v (h : Tr E L w E' L' w') : ∀ (a : AV) (v : Value), vOk E L w a v → vOk E' L' w' a v
  | .dead, _, _ => by unfold vOk; trivial
  | .sc t x, v, hv => by unfold vOk at hv ⊢; exact hv
  | .nil, v, hv => by unfold vOk at hv ⊢; exact hv
  | .own o k, v, hv => by
    unfold vOk at hv ⊢
    refine ⟨hv.1, ?_⟩
    have hv := hv.2
    cases ho : L o with
    | none => rw [ho] at hv; exact hv.elim
    | dead =>
      have h1 := h.none o (by rw [ho]; exact fun e => by cases e)
      have h2 := h.notRow o (by rw [ho]; exact fun e => by cases e) (by rw [ho]; exact fun _ _ _ _ _ _ _ e => by cases e)
      cases ho' : L' o with
      | none => exact absurd ho' h1
      | row => exact absurd ho' (h2 _ _ _ _ _ _ _)
      | dead => trivial
      | box => trivial
    | box T cells => obtain ⟨⟨c, hc⟩, _⟩ := h.box o T cells ho; rw [hc]; trivial
    | row e t xs k0 v0 v1 hh =>
      rw [ho] at hv
      rcases h.row o _ _ _ _ _ _ _ ho with hd | ⟨xs', k', v0', v1', hh', hr, hk, _, _, hsame, _⟩
      · rw [hd]; trivial
      · rw [hr]
        refine ⟨Nat.le_trans hv.1 hk, fun e => ?_⟩
        have h1 := hv.1
        have : k' = k0 := by omega
        rw [(hsame this).1]
        exact hv.2 (by omega)
  | .rd e t xs ds, v, hv => by
    unfold vOk at hv ⊢
    refine ⟨hv.1, fun d hd => h.verLe (hv.2.1 d hd), fun hl => ?_⟩
    obtain ⟨h1, h2⟩ := h.live hv.2.1 hl
    exact Kd.V_mono (Kd.V_step (Kd.V_bound (hv.2.2 h1)) (fun k hk _ => (h2 k hk.2 hk.1).2)) (fun k hk => (h2 k hk.2 hk.1).1)
  | .ptr o j, v, hv => by
    unfold vOk at hv ⊢
    obtain ⟨b, ⟨T, c, ho⟩, hm, hv⟩ := hv
    obtain ⟨⟨c', hc⟩, hμ⟩ := h.box o T c ho
    exact ⟨b, ⟨T, c', hc⟩, hμ.trans hm, hv⟩
  | .clo f o, v, hv => by
    unfold vOk at hv ⊢
    obtain ⟨b, ⟨T, c, ho⟩, hm, hv⟩ := hv
    obtain ⟨⟨c', hc⟩, hμ⟩ := h.box o T c ho
    exact ⟨b, ⟨T, c', hc⟩, hμ.trans hm, hv⟩
  | .elt o k i j, v, hv => by
    unfold vOk at hv ⊢
    refine ⟨hv.1, ?_⟩
    have hv := hv.2
    cases ho : L o with
    | none => rw [ho] at hv; exact hv.elim
    | dead =>
      have h1 := h.none o (by rw [ho]; exact fun e => by cases e)
      have h2 := h.notRow o (by rw [ho]; exact fun e => by cases e) (by rw [ho]; exact fun _ _ _ _ _ _ _ e => by cases e)
      cases ho' : L' o with
      | none => exact absurd ho' h1
      | row => exact absurd ho' (h2 _ _ _ _ _ _ _)
      | dead => trivial
      | box => trivial
    | box T cells => obtain ⟨⟨c, hc⟩, _⟩ := h.box o T cells ho; rw [hc]; trivial
    | row e t xs k0 v0 v1 hh =>
      rw [ho] at hv
      rcases h.row o _ _ _ _ _ _ _ ho with hd | ⟨xs', k', v0', v1', hh', hr, hk, _, _, hsame, _⟩
      · rw [hd]; trivial
      · rw [hr]
        refine ⟨Nat.le_trans hv.1 hk, fun e => ?_⟩
        have h1 := hv.1
        have : k' = k0 := by omega
        rw [(hsame this).1, (hsame this).2]
        exact hv.2 (by omega)
  | .relt t x ds j, v, hv => by
    unfold vOk at hv ⊢
    refine ⟨hv.1, fun d hd => h.verLe (hv.2.1 d hd), fun hl => ?_⟩
    obtain ⟨h1, h2⟩ := h.live hv.2.1 hl
    obtain ⟨a, cs, e1, e2, hf⟩ := hv.2.2 h1
    exact ⟨a, cs, e1, e2, Foot.mono (Foot.step (Foot.bound hf) (fun k hk _ => (h2 k hk.2 hk.1).2)) (fun k hk => (h2 k hk.2 hk.1).1)⟩
  | .view o k a b, v, hv => by
    unfold vOk at hv ⊢
    refine ⟨hv.1, ?_⟩
    have hv := hv.2
    cases ho : L o with
    | none => rw [ho] at hv; exact hv.elim
    | dead =>
      have h1 := h.none o (by rw [ho]; exact fun e => by cases e)
      have h2 := h.notRow o (by rw [ho]; exact fun e => by cases e) (by rw [ho]; exact fun _ _ _ _ _ _ _ e => by cases e)
      cases ho' : L' o with
      | none => exact absurd ho' h1
      | row => exact absurd ho' (h2 _ _ _ _ _ _ _)
      | dead => trivial
      | box => trivial
    | box T cells => obtain ⟨⟨c, hc⟩, _⟩ := h.box o T cells ho; rw [hc]; trivial
    | row e t xs k0 v0 v1 hh =>
      rw [ho] at hv
      rcases h.row o _ _ _ _ _ _ _ ho with hd | ⟨xs', k', v0', v1', hh', hr, hk, _, _, hsame, _⟩
      · rw [hd]; trivial
      · rw [hr]
        refine ⟨Nat.le_trans hv.1 hk, fun e => ?_⟩
        have h1 := hv.1
        have : k' = k0 := by omega
        rw [(hsame this).1, (hsame this).2]
        exact hv.2 (by omega)
  | .sub o k q0 q1 i j e t xs, v, hv => by
    unfold vOk at hv ⊢
    obtain ⟨h1, hd, hl, hp⟩ := hv
    refine ⟨h1, fun d hd' => h.verLe (hd d hd'), fun hl' => ?_, ?_⟩
    · obtain ⟨g1, g2⟩ := h.live hd hl'
      exact Kd.V_mono (Kd.V_step (Kd.V_bound (hl g1)) (fun k hk _ => (g2 k hk.2 hk.1).2)) (fun k hk => (g2 k hk.2 hk.1).1)
    · have hv := hp
      cases ho : L o with
      | none => rw [ho] at hv; exact hv.elim
      | dead =>
        have h1 := h.none o (by rw [ho]; exact fun e => by cases e)
        have h2 := h.notRow o (by rw [ho]; exact fun e => by cases e) (by rw [ho]; exact fun _ _ _ _ _ _ _ e => by cases e)
        cases ho' : L' o with
        | none => exact absurd ho' h1
        | row => exact absurd ho' (h2 _ _ _ _ _ _ _)
        | dead => trivial
        | box => trivial
      | box T cells => obtain ⟨⟨c, hc⟩, _⟩ := h.box o T cells ho; rw [hc]; trivial
      | row e0 t0 xs0 k0 v0 v1 hh =>
        rw [ho] at hv
        rcases h.row o _ _ _ _ _ _ _ ho with hd | ⟨xs', k', v0', v1', hh', hr, hk, hk0, _, hsame, hblk, _⟩
        · rw [hd]; trivial
        · rw [hr]
          refine ⟨Nat.le_trans hv.1 hk, Nat.le_trans hv.2.1 hk0, fun e1 e2 => ?_⟩
          have h1 := hv.1
          have h2 := hv.2.1
          have e3 : k' = k0 := by omega
          have e4 : v0' = v0 := by omega
          obtain ⟨g0, g1, g, n, c, g2, g3, g4⟩ := hv.2.2 (by omega) (by omega)
          have hlt := World.block_lt_of_cell? w _ g4
          obtain ⟨g5, g6⟩ := hblk e4 g hlt g3
          refine ⟨g0, by rw [(hsame e3).2]; exact g1, g, n, c, (hsame e3).1.trans g2, g5, ?_⟩
          rw [← g4]
          exact World.cell?_of_block (w := w) g6
  | .app o k q0 i j e0 t0 ys, v, hv => by
    unfold vOk at hv ⊢
    refine ⟨hv.1, ?_⟩
    have hv := hv.2
    cases ho : L o with
    | none => rw [ho] at hv; exact hv.elim
    | dead =>
      have h1 := h.none o (by rw [ho]; exact fun e => by cases e)
      have h2 := h.notRow o (by rw [ho]; exact fun e => by cases e) (by rw [ho]; exact fun _ _ _ _ _ _ _ e => by cases e)
      cases ho' : L' o with
      | none => exact absurd ho' h1
      | row => exact absurd ho' (h2 _ _ _ _ _ _ _)
      | dead => trivial
      | box => trivial
    | box T cells => obtain ⟨⟨c, hc⟩, _⟩ := h.box o T cells ho; rw [hc]; trivial
    | row e1 t1 xs1 k0 v0 v1 hh =>
      rw [ho] at hv
      rcases h.row o _ _ _ _ _ _ _ ho with hd | ⟨xs', k', v0', v1', hh', hr, hk, hk0, _, hsame, hblk, _⟩
      · rw [hd]; trivial
      · rw [hr]
        refine ⟨Nat.le_trans hv.1 hk, Nat.le_trans hv.2.1 hk0, fun e1 e2 => ?_⟩
        have h1 := hv.1
        have h2 := hv.2.1
        have e3 : k' = k0 := by omega
        have e4 : v0' = v0 := by omega
        obtain ⟨a1, a2, a3, a4, a5, g, n, c, g2, g3, g4, g5⟩ := hv.2.2 (by omega) (by omega)
        refine ⟨a1, a2, a3, a4, by rw [(hsame e3).2]; exact a5, g, n, c, (hsame e3).1.trans g2, Nat.lt_of_lt_of_le g3 h.size, (hblk e4 g g3 g4).1, ?_⟩
        rw [(hsame e3).1]
        have hsz : (w.setCells g (i.toNat * t0.sz + j) [v]).heap.size = w.heap.size := (setCells_same g [v] _ w).2.2.2
        refine Kd.S_mono (Kd.S_step (Kd.S_bound g5) (fun k hk _ => ?_)) (fun k hk => (hblk e4 k (by have := hk.2.2.1; rw [hsz] at this; exact this) hk.1).1)
        have hk1 : k < w.heap.size := by have := hk.2.2.1; rw [hsz] at this; exact this
        exact setCells_congr (hblk e4 k hk1 hk.1).2
  | .fn f, v, hv => by unfold vOk at hv ⊢; exact hv
  | .anil, v, hv => by unfold vOk at hv; exact hv.elim
  | .acons _ _, v, hv => by unfold vOk at hv; exact hv.elim
  | .agg l, v, hv => by
    unfold vOk at hv ⊢
    obtain ⟨vs, e, h1, h2⟩ := hv
    exact ⟨vs, e, Tr.vs h l vs h1, h2⟩
  | .tup l, v, hv => by
    unfold vOk at hv ⊢
    obtain ⟨vs, e, h1⟩ := hv
    exact ⟨vs, e, Tr.vs h l vs h1⟩
theorem Tr.vs (h : Tr E L w E' L' w') : ∀ (a : AV) (vs : List Value), vsOk E L w a vs → vsOk E' L' w' a vs
  | .anil, vs, hv => by unfold vsOk at hv ⊢; exact hv
  | .acons a t, vs, hv => by
    unfold vsOk at hv ⊢
    obtain ⟨u, r, e, h1, h2⟩ := hv
    exact ⟨u, r, e, Tr.v h a u h1, Tr.vs h t r h2⟩
  | .dead, _, hv | .sc _ _, _, hv | .nil, _, hv | .own _ _, _, hv | .rd _ _ _ _, _, hv | .ptr _ _, _, hv | .elt _ _ _ _, _, hv | .relt _ _ _ _, _, hv | .view _ _ _ _, _, hv | .sub _ _ _ _ _ _ _ _ _, _, hv | .app _ _ _ _ _ _ _ _, _, hv | .fn _, _, hv | .clo _ _, _, hv | .agg _, _, hv | .tup _, _, hv => by
    unfold vsOk at hv; exact hv.elim
end
theorem Tr.cs (h : Tr E L w E' L' w') : ∀ (l : List AV) (vs : List Value), csOk E L w l vs → csOk E' L' w' l vs
  | [], _, hv => hv
  | a :: l, vs, ⟨u, r, e, h1, h2, h3⟩ => ⟨u, r, e, h.v a u h1, h2, h.cs l r h3⟩
/-- an object that was not written -/
theorem Tr.o (h : Tr E L w E' L' w') {o : Nat} (ho : oOk E L w o (L o)) (hL : L' o = L o) (hμ : E'.μ o = E.μ o) (hf : ∀ k, k < w.heap.size → E.f k = o + 1 → E'.f k = o + 1 ∧ w'.heap[k]? = w.heap[k]?) : oOk E' L' w' o (L' o) := by
  rw [hL]
  cases hob : L o with
  | none => trivial
  | dead => trivial
  | box T cells =>
    rw [hob] at ho
    obtain ⟨b, vs, h1, h2, h3, h4⟩ := ho
    have hlt : b < w.heap.size := (Array.getElem?_eq_some_iff.1 h3).1
    exact ⟨b, vs, hμ.trans h1, (hf b hlt h2).1, (hf b hlt h2).2.trans h3, h.cs _ _ h4⟩
  | row e t xs hv v0 v1 hh =>
    rw [hob] at ho
    cases hh with
    | none =>
      show Kd.S t.kd e w' 0 _ (E'.μ o) xs
      rw [hμ]
      exact Kd.S_mono (Kd.S_step (Kd.S_bound ho) (fun k hk _ => (hf k hk.2.2.1 hk.1).2)) (fun k hk => (hf k hk.2.2.1 hk.1).1)
    | some i =>
      obtain ⟨c, g, n, cap, h1, h2, h3, h4, h5, h6⟩ := ho
      rw [h1] at h6
      obtain ⟨rows, _, hraw, _⟩ := Kd.H_raw h6 h3 h4
      have hlt := Kd.R_lt hraw g (by simp [Value.ownBlock])
      refine ⟨c, g, n, cap, hμ.trans h1, (hf g hlt h2).1, h3, h4, h5, ?_⟩
      rw [hμ, h1]
      obtain ⟨_, f, hR⟩ := h6
      exact ⟨fun _ h => h.elim, f, Kd.R_mono (Kd.R_step (Kd.R_bound hR) (fun k hk _ => (hf k hk.2.2.1 hk.1.1).2)) (fun k hk => ⟨(hf k hk.2.2.1 hk.1.1).1, fun h => h⟩)⟩
/-- A header that did not change. -/
theorem Tr.hdr (h : Tr E L w E' L' w') {i : Nat} (h1 : L i ≠ .none) {μ : Value} (h2 : ∀ e t xs v0 v1 h, L i = .row e t xs 0 v0 v1 h → E.μ i = μ) : ∀ e t xs v0 v1 h, L' i = .row e t xs 0 v0 v1 h → E'.μ i = μ := by
  intro e t xs v0 v1 hq hr
  cases ho : L i with
  | none => exact absurd ho h1
  | dead => exact absurd hr (h.notRow i h1 (by rw [ho]; exact fun _ _ _ _ _ _ _ e => by cases e) _ _ _ _ _ _ _)
  | box T c => exact absurd hr (h.notRow i h1 (by rw [ho]; exact fun _ _ _ _ _ _ _ e => by cases e) _ _ _ _ _ _ _)
  | row e0 t0 xs0 hv0 w0 w1 hh =>
    rcases h.row i _ _ _ _ _ _ _ ho with hd | ⟨xs', hv', v0', v1', hh', hr', hle, _, _, hsame, _⟩
    · rw [hd] at hr; cases hr
    · rw [hr'] at hr
      injection hr with _ _ _ e4 _ _
      subst e4
      obtain rfl : hv0 = 0 := by omega
      exact (hsame rfl).1.trans (h2 _ _ _ _ _ _ ho)
theorem Tr.refl (E : Env) (L : Lk) (w : World) : Tr E L w E L w where
  size := Nat.le_refl _
  none := fun _ h => h
  box := fun o T c h => ⟨⟨c, h⟩, rfl⟩
  notRow := fun _ _ h => h
  row := fun o e t xs hv v0 v1 hh h => .inr ⟨xs, hv, v0, v1, hh, h, Nat.le_refl _, Nat.le_refl _, Nat.le_refl _, fun _ => ⟨rfl, rfl⟩, fun _ _ _ h => ⟨h, rfl⟩, fun _ _ _ h h2 => ⟨h, h2, rfl⟩, fun _ => rfl⟩
  froz := fun _ _ h => ⟨h, rfl, Iff.rfl⟩
end
end Go.Eng
/-
The engine, part 3: the operations that leave memory alone.
-/
set_option linter.unusedVariables false
set_option linter.unusedSimpArgs false
namespace Go.Eng
open Go Go.RowKit Go.Proofs.YtoancfhhlmkcbaaW.PrintWords

/-- Behind an operation: its value, the world, what is known. -/
def OpRes (E : Env) (L : Lk) (w : World) (rec : Rec) (L' : Lk) (r : Result Next) : Prop :=
  ∃ v w' E', (r = .ok (.value v) w' ∨ (r = .ok .skip w' ∧ v = undef)) ∧ Tr E L w E' L' w' ∧ vOk E' L' w' rec.av v ∧ (∀ o, oOk E' L' w' o (L' o)) ∧ w'.os = w.os ∧ w'.tape = w.tape ∧ w'.output = w.output
theorem OpRes.pure {E : Env} {L : Lk} {w : World} {rec : Rec} {r : Result Next} {v : Value} (hr : r = .ok (.value v) w) (hv : vOk E L w rec.av v) (ho : ∀ o, oOk E L w o (L o)) : OpRes E L w rec L r :=
  ⟨v, w, E, .inl hr, Tr.refl E L w, hv, ho, rfl, rfl, rfl⟩

/-! ### the table of types -/
def oneOk : Value → AV → Bool
  | .int k n, .sc (.int k') m => kindEq k k' && (n == 0) && ((m : Int) == 0)
  | .bool b, .sc .bool c => !b && !c
  | .string s, .sc .str c => (s.data.toList.isEmpty) && (ByteArray.data c).toList.isEmpty
  | .slice none 0 0, .nil => true
  | _, _ => false
def cellsOk : List Value → List AV → Bool
  | [], [] => true
  | v :: r, a :: l => oneOk v a && cellsOk r l
  | _, _ => false
def zerOk (i : TInf) : Value → Bool
  | .agg cs => i.agg && cellsOk cs.toList (zeroCells i.ty)
  | v => !i.agg && cellsOk [v] (zeroCells i.ty)
def aggD : TypeDesc → Bool
  | .struct _ | .array _ _ => true
  | _ => false
/-- fields that are whole numbers, one behind the other -/
def EqF (P : Program) : List Field → Nat → List IntKind → Prop
  | [], _, [] => True
  | fd :: fs, n, k :: ks => (fd.name == "_") = false ∧ fd.offset = n ∧ P.underlying fd.type = some (.int k) ∧ EqF P fs (n + 1) ks
  | _, _, _ => False
def EqOk (P : Program) (T : Nat) (ks : List IntKind) : Prop := ∃ fs, P.underlying T = some (.struct fs) ∧ P.stoodInHeld T = false ∧ P.eqGuardType P.depth T = false ∧ EqF P fs.toList 0 ks
structure TOk (P : Program) (T : Nat) (i : TInf) : Prop where
  info : ∃ j z, P.info? T = some j ∧ j.size = i.ty.sz ∧ j.zero = some z ∧ zerOk i z = true
  und : ∃ d, P.underlying T = some d ∧ aggD d = i.agg
  fld : ∀ f d, nth i.offs f = some d → ∃ fs fd j, P.underlying T = some (.struct fs) ∧ fs[f]? = some fd ∧ fd.offset = d.1 ∧ P.info? fd.type = some j ∧ j.size = d.2 ∧ d.2 ≠ 0
  all : i.offs ≠ [] → ∃ fs, P.underlying T = some (.struct fs) ∧ fs.size = i.offs.length
  int : ∀ k, i.ty = .int k → i.tru = true → P.underlying T = some (.int k)
  str : i.ty = .str → i.tru = true → P.underlying T = some .string
  boo : i.ty = .bool → i.tru = true → P.underlying T = some .bool
  slc : ∀ e t, i.ty = .slice e t → P.underlying T = some (.slice e) ∧ ∃ j z, P.info? e = some j ∧ j.size = t.sz ∧ j.bytes = i.bytes ∧ 0 < i.bytes ∧ j.zero = some z ∧ cellsOk z.cells.toList (zeroCells t) = true
  eqs : i.eqs ≠ [] → EqOk P T i.eqs
def TTok (P : Program) (TT : Nat → Option TInf) : Prop := ∀ T i, TT T = some i → TOk P T i

/-! ### leaves -/
theorem FK_pair {a b : Ty} {w : World} {ok : Nat → Prop} {x : (Ty.pair a b).den} {cs : List Value} (h : Kd.FK (Ty.pair a b).kd w ok x cs) :
    Kd.FK a.kd w ok x.1 (cs.take a.sz) ∧ Kd.FK b.kd w ok x.2 (cs.drop a.sz) := by
  constructor
  · intro W hW
    obtain ⟨c0, c1, e, h0, h1⟩ := h W hW
    have := a.kd.K_len h0
    rw [Ty.kd_sz] at this
    rw [e, List.take_left' this]
    exact h0
  · intro W hW
    obtain ⟨c0, c1, e, h0, h1⟩ := h W hW
    have := a.kd.K_len h0
    rw [Ty.kd_sz] at this
    rw [e, List.drop_left' this]
    exact h1
theorem FK_len {t : Ty} {w : World} {ok : Nat → Prop} {x : t.den} {cs : List Value} (h : Kd.FK t.kd w ok x cs) : cs.length = t.sz := by
  rw [← Ty.kd_sz]; exact t.kd.K_len (Kd.FK_now h)
theorem leaf_ok {E : Env} {L : Lk} {w : World} {ds : List Dep} (hd : ∀ d ∈ ds, verLe (L d.1) d.2.1 d.2.2) : ∀ (t : Ty) (x : t.den) (cs : List Value) (j : Nat) (av : AV), Kd.FK t.kd w (col E ds) x cs → leafAV t x ds j = some av →
    ∃ u, cs[j]? = some u ∧ vOk E L w av u ∧ u.oneCell' = true
  | .int k, x, cs, j, av, hF, h => by
    cases j with
    | zero =>
      injection h with h
      subst h
      have : cs = [Value.int k x] := Kd.FK_now hF
      subst this
      exact ⟨_, rfl, by unfold vOk; rfl, rfl⟩
    | succ j => cases h
  | .bool, x, cs, j, av, hF, h => by
    cases j with
    | zero =>
      injection h with h
      subst h
      have : cs = [Value.bool x] := Kd.FK_now hF
      subst this
      exact ⟨_, rfl, by unfold vOk; rfl, rfl⟩
    | succ j => cases h
  | .str, x, cs, j, av, hF, h => by
    cases j with
    | zero =>
      injection h with h
      subst h
      have : cs = [Value.string x] := Kd.FK_now hF
      subst this
      exact ⟨_, rfl, by unfold vOk; rfl, rfl⟩
    | succ j => cases h
  | .slice e t, x, cs, j, av, hF, h => by
    cases j with
    | zero =>
      injection h with h
      subst h
      obtain ⟨A, c, rfl, hl, hf⟩ := Kd.FK_slice_open hF
      exact ⟨_, rfl, by unfold vOk; exact ⟨rfl, hd, fun _ => Kd.V_mk hl hf⟩, rfl⟩
    | succ j => cases h
  | .pair a b, x, cs, j, av, hF, h => by
    obtain ⟨h1, h2⟩ := FK_pair hF
    unfold leafAV at h
    cases hj : Nat.ble a.sz j with
    | true =>
      rw [hj] at h
      have hle := Nat.le_of_ble_eq_true hj
      obtain ⟨u, e1, e2, e3⟩ := leaf_ok hd b x.2 _ _ av h2 h
      rw [List.getElem?_drop] at e1
      rw [show a.sz + (j - a.sz) = j by omega] at e1
      exact ⟨u, e1, e2, e3⟩
    | false =>
      rw [hj] at h
      have hlt : ¬ a.sz ≤ j := fun hle => by rw [Nat.ble_eq_true_of_le hle] at hj; cases hj
      obtain ⟨u, e1, e2, e3⟩ := leaf_ok hd a x.1 _ _ av h1 h
      rw [List.getElem?_take] at e1
      rw [if_pos (by omega)] at e1
      exact ⟨u, e1, e2, e3⟩
theorem leaves_ok {E : Env} {L : Lk} {w : World} {ds : List Dep} (hd : ∀ d ∈ ds, verLe (L d.1) d.2.1 d.2.2) {t : Ty} {x : t.den} {cs : List Value} (hF : Kd.FK t.kd w (col E ds) x cs) :
    ∀ (n j : Nat) (l : List AV), leavesAV t x ds j n = some l → ∃ us, (∀ i u, us[i]? = some u → cs[j + i]? = some u) ∧ us.length = n ∧ csOk E L w l us
  | 0, j, l, h => by
    injection h with h
    subst h
    exact ⟨[], (fun i u hu => by cases hu), rfl, rfl⟩
  | n + 1, j, l, h => by
    unfold leavesAV at h
    split at h
    · rename_i a r ha hr
      injection h with h
      subst h
      obtain ⟨u, e1, e2, e3⟩ := leaf_ok hd t x cs j a hF ha
      obtain ⟨us, g1, g2, g3⟩ := leaves_ok hd hF n (j + 1) r hr
      refine ⟨u :: us, fun i v hv => ?_, by rw [List.length_cons, g2], u, us, rfl, e2, e3, g3⟩
      cases i with
      | zero => injection hv with hv; rw [← hv]; exact e1
      | succ i => rw [show j + (i + 1) = j + 1 + i by omega]; exact g1 i v hv
    · cases h
theorem csOk_agg {E : Env} {L : Lk} {w : World} : ∀ {l : List AV} {vs : List Value}, csOk E L w l vs → vsOk E L w (AV.ofList l) vs ∧ ∀ u ∈ vs, u.oneCell' = true
  | [], vs, h => by
    have : vs = [] := h
    subst this
    exact ⟨by unfold AV.ofList vsOk; rfl, fun u hu => by cases hu⟩
  | a :: l, vs, ⟨u, r, e, h1, h2, h3⟩ => by
    subst e
    obtain ⟨g1, g2⟩ := csOk_agg h3
    refine ⟨by unfold AV.ofList vsOk; exact ⟨u, r, rfl, h1, g1⟩, fun v hv => ?_⟩
    rcases List.mem_cons.1 hv with rfl | hv
    · exact h2
    · exact g2 v hv
theorem csOk_len {E : Env} {L : Lk} {w : World} : ∀ {l : List AV} {vs : List Value}, csOk E L w l vs → l.length = vs.length
  | [], vs, h => by have : vs = [] := h; subst this; rfl
  | a :: l, vs, ⟨u, r, e, _, _, h3⟩ => by subst e; rw [List.length_cons, List.length_cons, csOk_len h3]
theorem csOk_nth {E : Env} {L : Lk} {w : World} : ∀ {l : List AV} {vs : List Value} {j : Nat} {a : AV}, csOk E L w l vs → nth l j = some a → ∃ u, vs[j]? = some u ∧ vOk E L w a u ∧ u.oneCell' = true
  | [], _, _, _, _, h => by cases h
  | b :: l, vs, 0, a, ⟨u, r, e, h1, h2, _⟩, h => by subst e; injection h with h; subst h; exact ⟨u, rfl, h1, h2⟩
  | b :: l, vs, j + 1, a, ⟨u, r, e, _, _, h3⟩, h => by subst e; obtain ⟨v, g⟩ := csOk_nth h3 h; exact ⟨v, g⟩
theorem csOk_drop {E : Env} {L : Lk} {w : World} : ∀ {l : List AV} {vs : List Value} (j : Nat), csOk E L w l vs → csOk E L w (l.drop j) (vs.drop j)
  | l, vs, 0, h => h
  | [], vs, j + 1, h => by have : vs = [] := h; subst this; exact rfl
  | a :: l, vs, j + 1, ⟨u, r, e, _, _, h3⟩ => by subst e; exact csOk_drop j h3
theorem csOk_take {E : Env} {L : Lk} {w : World} : ∀ {l : List AV} {vs : List Value} (j : Nat), csOk E L w l vs → csOk E L w (l.take j) (vs.take j)
  | l, vs, 0, h => by rw [List.take_zero, List.take_zero]; exact rfl
  | [], vs, j + 1, h => by have : vs = [] := h; subst this; exact rfl
  | a :: l, vs, j + 1, ⟨u, r, e, h1, h2, h3⟩ => by subst e; exact ⟨u, _, rfl, h1, h2, csOk_take j h3⟩
theorem csOk_append {E : Env} {L : Lk} {w : World} : ∀ {l l2 : List AV} {vs vs2 : List Value}, csOk E L w l vs → csOk E L w l2 vs2 → csOk E L w (l ++ l2) (vs ++ vs2)
  | [], l2, vs, vs2, h, h2 => by have : vs = [] := h; subst this; exact h2
  | a :: l, l2, vs, vs2, ⟨u, r, e, h1, h3, h4⟩, h2 => by subst e; exact ⟨u, _, rfl, h1, h3, csOk_append h4 h2⟩
theorem csOk_splice {E : Env} {L : Lk} {w : World} {l l2 : List AV} {vs vs2 : List Value} (h : csOk E L w l vs) (h2 : csOk E L w l2 vs2) (j : Nat) : csOk E L w (splice l j l2) (vs.take j ++ vs2 ++ vs.drop (j + vs2.length)) := by
  unfold splice
  rw [csOk_len h2]
  exact csOk_append (csOk_append (csOk_take j h) h2) (csOk_drop _ h)
theorem vsOk_list {E : Env} {L : Lk} {w : World} : ∀ (a : AV) {vs : List Value}, vsOk E L w a vs → (∀ u ∈ vs, u.oneCell' = true) → csOk E L w a.toList vs
  | .anil, vs, h, _ => by unfold vsOk at h; exact h
  | .acons a t, vs, h, h1 => by
    unfold vsOk at h
    obtain ⟨u, r, e, g1, g2⟩ := h
    subst e
    exact ⟨u, r, rfl, g1, h1 u List.mem_cons_self, vsOk_list t g2 (fun v hv => h1 v (List.mem_cons_of_mem _ hv))⟩
  | .dead, _, hv, _ | .sc _ _, _, hv, _ | .nil, _, hv, _ | .own _ _, _, hv, _ | .rd _ _ _ _, _, hv, _ | .ptr _ _, _, hv, _ | .elt _ _ _ _, _, hv, _ | .relt _ _ _ _, _, hv, _ | .view _ _ _ _, _, hv, _ | .sub _ _ _ _ _ _ _ _ _, _, hv, _ | .app _ _ _ _ _ _ _ _, _, hv, _ | .fn _, _, hv, _ | .clo _ _, _, hv, _ | .agg _, _, hv, _ | .tup _, _, hv, _ => by
    unfold vsOk at hv; exact hv.elim
theorem sc_one : ∀ {t : Ty} {x : t.den} {v : Value}, scOk t x v → v.oneCell' = true
  | .int _, _, _, h | .bool, _, _, h | .str, _, _, h => by unfold scOk at h; rw [h]; rfl
  | .pair _ _, _, _, h | .slice _ _, _, _, h => h.elim
theorem one_ok {E : Env} {L : Lk} {w : World} {a : AV} {v : Value} (h1 : a.one = true) (h : vOk E L w a v) : v.oneCell' = true := by
  cases a <;> first | (cases h1; done) | (unfold vOk at h; first | exact sc_one h | exact h.1 | (rw [h]; rfl) | (obtain ⟨b, _, _, e⟩ := h; rw [e]; rfl))
/-- a value's cells -/
theorem cells_ok {E : Env} {L : Lk} {w : World} {a : AV} {v : Value} {l : List AV} (h : vOk E L w a v) (hc : a.cells = some l) : csOk E L w l v.cells.toList := by
  by_cases h1 : a.one = true
  · have hc' : l = [a] := by
      cases a <;> first | (cases h1; done) | (simp [AV.cells, AV.one] at hc; exact hc.symm)
    subst hc'
    have := one_ok h1 h
    have hv : v.cells.toList = [v] := by cases v <;> first | rfl | (simp [Value.oneCell'] at this)
    rw [hv]
    exact ⟨v, [], rfl, h, this, rfl⟩
  · cases a <;> first | (exact absurd rfl h1) | (simp [AV.cells, AV.one] at hc; done) | skip
    rename_i l'
    unfold vOk at h
    obtain ⟨vs, e, h2, h3⟩ := h
    simp only [AV.cells, Option.some.injEq] at hc
    subst hc
    subst e
    exact vsOk_list l' h2 h3
theorem cells_size {E : Env} {L : Lk} {w : World} {a : AV} {v : Value} {l : List AV} (h : vOk E L w a v) (hc : a.cells = some l) : v.cells.size = l.length := by
  rw [csOk_len (cells_ok h hc), Array.length_toList]
end Go.Eng
/-
The engine, part 4: each operation that leaves memory alone comes to what the executor says.
-/
set_option linter.unusedVariables false
set_option linter.unusedSimpArgs false
namespace Go.Eng
open Go Go.RowKit Go.Proofs.YtoancfhhlmkcbaaW.PrintWords
section
variable {P : Program} {E : Env} {L : Lk} {w : World} {rec : Rec} {T : Nat} {i : TInf}
theorem run_aggT (h : TOk P T i) : (isAgg T).run P w = .ok i.agg w := by
  obtain ⟨d, hd, ha⟩ := h.und
  unfold isAgg
  rw [Sem.run_bind, run_underlying hd w, ← ha]
  cases d <;> rfl
theorem run_sizeT (h : TOk P T i) : (sizeOf T).run P w = .ok i.ty.sz w := by
  obtain ⟨j, z, hj, hs, _⟩ := h.info
  simp [sizeOf, typeInfo, hj, hs]
/-! ### addresses -/
theorem relOk_now {t : Ty} {x : t.den} {ds : List Dep} {j : Nat} {v : Value} (h : relOk E w t x ds j v) :
    ∃ (a : Addr) (cs : List Value), v = .pointer (some (a.add j)) ∧ Kd.FK t.kd w (col E ds) x cs ∧ ∀ j u, cs[j]? = some u → w.cell? (a.add j) = some u := by
  obtain ⟨a, cs, e, _, hf⟩ := h
  exact ⟨a, cs, e, Foot.imp hf (fun _ h => h.1), (Foot.now hf).2⟩
theorem run_field {d : Nat × Nat} {f : Nat} (h : TOk P T i) (hd : nth i.offs f = some d) (a : Addr) : (Instr.fieldAt T (.pointer (some a)) f).run P w = .ok (.pointer (some (a.add d.1))) w := by
  obtain ⟨fs, fd, j, hu, hf, ho, hj, hs, hne⟩ := h.fld f d hd
  simp [Instr.fieldAt, run_underlying hu, hf, Instr.sureAddr, fieldPlace, sizeOf, typeInfo, hj, hs, hne, ho]
/-- an address, d cells on -/
theorem ptr_ok {d : Nat} {p : AV} {v : Value} (hv : vOk E L w p v) (h : exPtr L d p = some rec) : ∃ a : Addr, v = .pointer (some a) ∧ vOk E L w rec.av (.pointer (some (a.add d))) ∧ rec.ups = [] := by
  unfold exPtr at h
  split at h
  · injection h with h
    subst h
    unfold vOk at hv
    obtain ⟨b, h1, h2, rfl⟩ := hv
    refine ⟨_, rfl, ?_, rfl⟩
    unfold vOk
    refine ⟨b, h1, h2, ?_⟩
    unfold Addr.add
    split
    · rename_i h0; rw [h0]; rfl
    · rfl
  · rename_i o hv0 ix j
    split at h
    · rename_i e t xs hv' v0 v1 ho
      cases hb : Nat.beq hv0 hv' with
      | false => rw [hb] at h; cases h
      | true =>
        rw [hb] at h
        injection h with h
        subst h
        have he := Nat.eq_of_beq_eq_true hb
        unfold vOk at hv
        rw [ho] at hv
        obtain ⟨h0, h1, g, n, c, h2, rfl⟩ := hv.2.2 he
        refine ⟨_, rfl, ?_, rfl⟩
        unfold vOk
        rw [ho]
        refine ⟨by unfold Addr.add; split <;> rfl, Nat.le_of_eq he, fun _ => ⟨h0, h1, g, n, c, h2, ?_⟩⟩
        unfold Addr.add
        split
        · rename_i hz; rw [hz]; rfl
        · simp only [Nat.add_assoc]
    · cases h
  · rename_i t x ds j
    cases hl : live L ds with
    | false => rw [hl] at h; cases h
    | true =>
      rw [hl] at h
      injection h with h
      subst h
      unfold vOk at hv
      obtain ⟨a, cs, rfl, h1, h2⟩ := hv.2.2 hl
      refine ⟨_, rfl, ?_, rfl⟩
      unfold vOk
      exact ⟨rfl, hv.2.1, fun _ => ⟨a, cs, by rw [Addr.add_add], h1, h2⟩⟩
  · cases h
/-! ### loads -/
theorem cell_add {g o k : Nat} : (⟨g, o, none⟩ : Addr).add k = ⟨g, o + k, none⟩ := by
  unfold Addr.add
  split
  · rename_i h; rw [h]; rfl
  · rfl
theorem run_load_one (h : TOk P T i) (ha : i.agg = false) {a : Addr} {u : Value} (hc : w.cell? a = some u) : (Instr.loadAt T (.pointer (some a))).run P w = .ok u w := by
  simp [Instr.loadAt, Instr.sureAddr, loadVar, run_aggT h, ha, hc]
theorem run_load_agg (h : TOk P T i) (ha : i.agg = true) {a : Addr} {us : List Value} (hn : us.length = i.ty.sz) (hc : ∀ j u, us[j]? = some u → w.cell? (a.add j) = some u) : (Instr.loadAt T (.pointer (some a))).run P w = .ok (.agg us.toArray) w := by
  have := run_loadCells_list (P := P) w a us hc
  rw [hn] at this
  simp [Instr.loadAt, Instr.sureAddr, loadVar, run_aggT h, ha, run_sizeT h, this]
theorem load_ok (h : TOk P T i) {p : AV} {v : Value} (ho : ∀ o, oOk E L w o (L o)) (hv : vOk E L w p v) (hx : exLoad L i p = some rec) : ∃ u, (Instr.loadAt T v).run P w = .ok u w ∧ vOk E L w rec.av u ∧ rec.ups = [] := by
  unfold exLoad at hx
  split at hx
  · rename_i o j
    split at hx
    · rename_i T' cells hob
      unfold vOk at hv
      obtain ⟨b, _, hm, rfl⟩ := hv
      have hoo := ho o
      rw [hob] at hoo
      obtain ⟨b', vs, hm', _, hblk, hcs⟩ := hoo
      rw [hm] at hm'
      have hbb : b = b' := by injection hm' with h1; injection h1 with h2; injection h2
      subst hbb
      have hcell : ∀ k u, vs[k]? = some u → w.cell? ⟨b, k, none⟩ = some u := fun k u hk => by
        simp [World.cell?, hblk, hk]
      cases ha : i.agg with
      | true =>
        rw [ha] at hx
        simp only [cond_true] at hx
        cases hb : Nat.ble (j + i.ty.sz) cells.length with
        | false => rw [hb] at hx; cases hx
        | true =>
          rw [hb] at hx
          injection hx with hx
          subst hx
          have hle := Nat.le_of_ble_eq_true hb
          have hc2 := csOk_take i.ty.sz (csOk_drop j hcs)
          obtain ⟨g1, g2⟩ := csOk_agg hc2
          refine ⟨.agg ((vs.drop j).take i.ty.sz).toArray, run_load_agg h ha (by rw [List.length_take, List.length_drop, ← csOk_len hcs]; omega) (fun k u hk => ?_), by unfold vOk; exact ⟨_, rfl, g1, g2⟩, rfl⟩
          rw [cell_add]
          refine hcell _ _ ?_
          rw [List.getElem?_take] at hk
          split at hk
          · rw [List.getElem?_drop] at hk; exact hk
          · cases hk
      | false =>
        rw [ha] at hx
        simp only [cond_false] at hx
        cases hn : nth cells j with
        | none => rw [hn] at hx; cases hx
        | some c =>
          rw [hn] at hx
          injection hx with hx
          subst hx
          obtain ⟨u, hu, hvu, _⟩ := csOk_nth hcs hn
          exact ⟨u, run_load_one h ha (hcell _ _ hu), hvu, rfl⟩
    · cases hx
  · rename_i o hv0 ix j
    split at hx
    · rename_i e t xs hv' v0 v1 hob
      cases hb : Nat.beq hv0 hv' with
      | false => rw [hb] at hx; cases hx
      | true =>
        rw [hb] at hx
        simp only [cond_true] at hx
        have he := Nat.eq_of_beq_eq_true hb
        unfold vOk at hv
        rw [hob] at hv
        obtain ⟨h0, h1, g, n, c, hm, rfl⟩ := hv.2.2 he
        have hoo := ho o
        rw [hob] at hoo
        have hS : Kd.S t.kd e w 0 (fun k => E.f k = o + 1) (E.μ o) xs := hoo
        rw [hm] at hS
        have hn := (Kd.S_reads' hS).1
        obtain ⟨oki, cs, hcl, hM, hcc, _, hoki, _⟩ := Kd.S_elem hS t.zero ix h0 (by omega)
        have hF : Kd.FK t.kd w (col E [(o, 1, v1)]) (xs.getD ix.toNat t.zero) cs := Kd.FK_mono (Kd.FK_of_M hM) (fun k hk => .inr ⟨_, List.mem_singleton.2 rfl, (hoki k hk).1, fun _ => by
          rw [hm]
          exact fun e => (hoki k hk).2 (by injection e)⟩)
        have hd : ∀ d ∈ [((o, 1, v1) : Dep)], verLe (L d.1) d.2.1 d.2.2 := fun d hd => by
          rw [List.mem_singleton.1 hd]
          show verLe (L o) 1 v1
          rw [hob]
          exact ⟨fun e => absurd e (by decide), fun _ => Nat.le_refl _⟩
        rw [Ty.kd_sz] at hcc
        cases ha : i.agg with
        | true =>
          rw [ha] at hx
          simp only [cond_true] at hx
          cases hl : leavesAV t (xs.getD ix.toNat t.zero) [(o, 1, v1)] j i.ty.sz with
          | none => rw [hl] at hx; cases hx
          | some l =>
            rw [hl] at hx
            injection hx with hx
            subst hx
            obtain ⟨us, g1, g2, g3⟩ := leaves_ok hd hF _ _ _ hl
            obtain ⟨q1, q2⟩ := csOk_agg g3
            refine ⟨.agg us.toArray, run_load_agg h ha g2 (fun k u hk => ?_), by unfold vOk; exact ⟨_, rfl, q1, q2⟩, rfl⟩
            rw [cell_add, Nat.add_assoc]
            exact hcc _ _ (g1 k u hk)
        | false =>
          rw [ha] at hx
          simp only [cond_false] at hx
          cases hl : leafAV t (xs.getD ix.toNat t.zero) [(o, 1, v1)] j with
          | none => rw [hl] at hx; cases hx
          | some l =>
            rw [hl] at hx
            injection hx with hx
            subst hx
            obtain ⟨u, g1, g2, _⟩ := leaf_ok hd t _ cs j l hF hl
            exact ⟨u, run_load_one h ha (hcc _ _ g1), g2, rfl⟩
    · cases hx
  · rename_i t x ds j
    cases hlv : live L ds with
    | false => rw [hlv] at hx; cases hx
    | true =>
      rw [hlv] at hx
      simp only [cond_true] at hx
      unfold vOk at hv
      obtain ⟨a, cs, rfl, hF, hcc⟩ := relOk_now (hv.2.2 hlv)
      have hd := hv.2.1
      cases ha : i.agg with
      | true =>
        rw [ha] at hx
        simp only [cond_true] at hx
        cases hl : leavesAV t x ds j i.ty.sz with
        | none => rw [hl] at hx; cases hx
        | some l =>
          rw [hl] at hx
          injection hx with hx
          subst hx
          obtain ⟨us, g1, g2, g3⟩ := leaves_ok hd hF _ _ _ hl
          obtain ⟨q1, q2⟩ := csOk_agg g3
          refine ⟨.agg us.toArray, run_load_agg h ha g2 (fun k u hk => ?_), by unfold vOk; exact ⟨_, rfl, q1, q2⟩, rfl⟩
          rw [Addr.add_add]
          exact hcc _ _ (g1 k u hk)
      | false =>
        rw [ha] at hx
        simp only [cond_false] at hx
        cases hl : leafAV t x ds j with
        | none => rw [hl] at hx; cases hx
        | some l =>
          rw [hl] at hx
          injection hx with hx
          subst hx
          obtain ⟨u, g1, g2, _⟩ := leaf_ok hd t _ cs j l hF hl
          exact ⟨u, run_load_one h ha (hcc _ _ g1), g2, rfl⟩
  · cases hx
end
end Go.Eng
/-
The engine, part 5: more operations that leave memory alone.
-/
set_option linter.unusedVariables false
set_option linter.unusedSimpArgs false
namespace Go.Eng
open Go Go.RowKit Go.Proofs.YtoancfhhlmkcbaaW.PrintWords
theorem gs2 {a b : Bool} (h : ∀ x ∈ [a, b], x = true) : a = true ∧ b = true := ⟨h a (by simp), h b (by simp)⟩
section
variable {P : Program} {E : Env} {L : Lk} {w : World} {rec : Rec} {T : Nat} {i : TInf}
theorem V_val {t : Ty} {e : Nat} {ok : Nat → Prop} {v : Value} {xs : List t.den} (h : Kd.V t.kd e w 0 ok v xs) : ∃ A c, v = .slice A xs.length c ∧ xs.length ≤ c ∧ Kd.F t.kd w ok A xs.length xs := h
/-- an own row's value -/
theorem own_val {o hv : Nat} {v : Value} (ho : ∀ o, oOk E L w o (L o)) (hv' : vOk E L w (.own o hv) v) {e : Nat} {t : Ty} {xs : List t.den} {hw v0 v1 : Nat} (hob : L o = .row e t xs hw v0 v1 none) (hb : Nat.beq hv hw = true) :
    v = E.μ o ∧ Kd.S t.kd e w 0 (fun k => E.f k = o + 1) v xs := by
  unfold vOk at hv'
  rw [hob] at hv'
  have h1 := hv'.2.2 (Nat.eq_of_beq_eq_true hb)
  have h2 := ho o
  rw [hob] at h2
  exact ⟨h1, by rw [h1]; exact h2⟩
theorem S_shape {t : Ty} {e : Nat} {ok : Nat → Prop} {v : Value} {xs : List t.den} (h : Kd.S t.kd e w 0 ok v xs) : ∃ A c, v = .slice A xs.length c ∧ xs.length ≤ c ∧ Kd.F t.kd w ok A xs.length xs := Kd.S_V (base' := 0) h
theorem beq_ty {a b : Ty} (h : a.beq b = true) : b = a := (Ty.beq_eq h).symm
theorem and2 {a b : Bool} (h : (a && b) = true) : a = true ∧ b = true := by rwa [Bool.and_eq_true] at h
/-- an address in a row that is read -/
theorem index_at {t : Ty} {e : Nat} {xs : List t.den} {A : Option Addr} {c : Nat} {ok : Nat → Prop} (h : TOk P T i) (hi : i.ty = .slice e t) (hF : Kd.F t.kd w ok A xs.length xs) {n : Int} (h0 : 0 ≤ n) (h1 : n < (xs.length : Int)) :
    ∃ a : Addr, A = some a ∧ (Instr.indexAt T (.slice A xs.length c) (.int .i64 n)).run P w = .ok (.pointer (some (a.add (n.toNat * t.sz)))) w := by
  obtain ⟨hu, j, z, hj, hs, _⟩ := h.slc e t hi
  obtain ⟨a, _, rfl, _⟩ := Kd.F_get hF t.zero n h0 h1
  exact ⟨a, rfl, by simp [Instr.indexAt, asIntOf, run_underlying hu, sizeOf, typeInfo, hj, hs, h0, h1]⟩
theorem indexAddr_ok (h : TOk P T i) {x ix : AV} {v u : Value} (ho : ∀ o, oOk E L w o (L o)) (hv : vOk E L w x v) (hu : vOk E L w ix u) (hx : exIndexAddr L i x ix = some rec) (hg : ∀ b ∈ rec.gs, b = true) :
    ∃ r, (Instr.indexAt T v u).run P w = .ok r w ∧ vOk E L w rec.av r ∧ rec.ups = [] := by
  unfold exIndexAddr at hx
  split at hx
  · rename_i n
    change Int at n
    unfold vOk at hu
    have hu : u = .int .i64 n := hu
    subst hu
    split at hx
    · rename_i o hv0
      split at hx
      · rename_i e t xs hv' v0 v1 hob
        cases hb : (Nat.beq hv0 hv' && (Ty.slice e t).beq i.ty) with
        | false => rw [hb] at hx; cases hx
        | true =>
          rw [hb] at hx
          injection hx with hx
          subst hx
          obtain ⟨b1, b2⟩ := and2 hb
          obtain ⟨g0, g1⟩ := gs2 hg
          have g0 := of_decide_eq_true g0
          have g1 := of_decide_eq_true g1
          obtain ⟨e1, hS⟩ := own_val ho hv hob b1
          obtain ⟨A, c, e2, hc, hF⟩ := S_shape hS
          subst e2
          obtain ⟨a, rfl, hr⟩ := index_at h (beq_ty b2) (c := c) hF g0 g1
          obtain ⟨g, cap, e3, _⟩ := Kd.S_form hS (Int.natCast_pos.mp (Int.lt_of_le_of_lt g0 g1))
          injection e3 with e3 _ _
          injection e3 with e3
          subst e3
          rw [cell_add, Nat.zero_add] at hr
          refine ⟨_, hr, ?_, rfl⟩
          unfold vOk
          rw [hob]
          exact ⟨rfl, Nat.le_of_eq (Nat.eq_of_beq_eq_true b1), fun _ => ⟨g0, g1, g, xs.length, c, e1.symm, rfl⟩⟩
      · cases hx
    · rename_i e t xs ds
      cases hb : (live L ds && (Ty.slice e t).beq i.ty) with
      | false => rw [hb] at hx; cases hx
      | true =>
        rw [hb] at hx
        injection hx with hx
        subst hx
        obtain ⟨b1, b2⟩ := and2 hb
        obtain ⟨g0, g1⟩ := gs2 hg
        have g0 := of_decide_eq_true g0
        have g1 := of_decide_eq_true g1
        unfold vOk at hv
        obtain ⟨A, c, rfl, hc, hF⟩ := V_val (hv.2.2 b1)
        obtain ⟨a, rfl, hr⟩ := index_at h (beq_ty b2) (c := c) hF g0 g1
        refine ⟨_, hr, ?_, rfl⟩
        unfold vOk
        refine ⟨rfl, hv.2.1, fun _ => ?_⟩
        obtain ⟨a', cs, ea, hcl, hK, hcc, hin⟩ := Kd.F_get hF t.zero n g0 g1
        injection ea with ea
        subst ea
        rw [Ty.kd_sz] at hcc hcl hin
        refine ⟨a.add (n.toNat * t.sz), cs, by rw [Addr.add_add, Nat.add_zero], hcl, fun W' hW => ⟨hK W' hW, fun j q hq => ?_⟩⟩
        have hcell := hcc j q hq
        rw [← Addr.add_add] at hcell
        have hlt := World.block_lt_of_cell? w _ hcell
        have hpos : 0 < t.sz := by
          rw [← hcl]
          exact Nat.lt_of_le_of_lt (Nat.zero_le _) (List.getElem?_eq_some_iff.1 hq).1
        rw [← hcell]
        refine World.cell?_of_block (w := w) ?_
        rw [add_block, add_block] at hlt ⊢
        exact hW _ (hin hpos) hlt
    · cases hx
  · cases hx
theorem len_ok (h : TOk P T i) {x : AV} {v : Value} {ty : TypeId} (ho : ∀ o, oOk E L w o (L o)) (hv : vOk E L w x v) (hx : exLen L i x = some rec) :
    ∃ r, (Builtin.len_ #[T] ty #[v]).run P w = .ok r w ∧ vOk E L w rec.av r ∧ rec.ups = [] := by
  have key : ∀ (e : Nat) (t : Ty) (A : Option Addr) (n c : Nat), i.ty = .slice e t → (Builtin.len_ #[T] ty #[.slice A n c]).run P w = .ok (.int .i64 (n : Int)) w := fun e t A n c hi => by
    obtain ⟨hu, _⟩ := h.slc e t hi
    simp [Builtin.len_, run_underlying hu, goInt]
  unfold exLen at hx
  split at hx
  · rename_i o hv0
    split at hx
    · rename_i e t xs hv' v0 v1 hob
      cases hb : (Nat.beq hv0 hv' && (Ty.slice e t).beq i.ty) with
      | false => rw [hb] at hx; cases hx
      | true =>
        rw [hb] at hx
        injection hx with hx
        subst hx
        obtain ⟨b1, b2⟩ := and2 hb
        obtain ⟨e1, hS⟩ := own_val ho hv hob b1
        obtain ⟨A, c, e2, hc, hF⟩ := S_shape hS
        subst e2
        exact ⟨_, key e t _ _ _ (beq_ty b2), by unfold vOk; rfl, rfl⟩
    · cases hx
  · rename_i e t xs ds
    cases hb : (live L ds && (Ty.slice e t).beq i.ty) with
    | false => rw [hb] at hx; cases hx
    | true =>
      rw [hb] at hx
      injection hx with hx
      subst hx
      obtain ⟨b1, b2⟩ := and2 hb
      unfold vOk at hv
      obtain ⟨A, c, rfl, hc, hF⟩ := V_val (hv.2.2 b1)
      exact ⟨_, key e t _ _ _ (beq_ty b2), by unfold vOk; rfl, rfl⟩
  · split at hx
    · rename_i e t hi
      injection hx with hx
      subst hx
      unfold vOk at hv
      subst hv
      exact ⟨_, key e t _ _ _ hi, by unfold vOk; rfl, rfl⟩
    · cases hx
  · rename_i s
    cases hb : (i.ty.beq .str && i.tru) with
    | false => rw [hb] at hx; cases hx
    | true =>
      rw [hb] at hx
      injection hx with hx
      subst hx
      obtain ⟨b1, b2⟩ := and2 hb
      have hu := h.str (Ty.beq_eq b1) b2
      unfold vOk at hv
      have hv : v = .string s := hv
      subst hv
      exact ⟨.int .i64 (s.size : Int), by simp [Builtin.len_, run_underlying hu, goInt], by unfold vOk; rfl, rfl⟩
  · cases hx
theorem run_eq_bool {a b : Bool} (hu : P.underlying T = some .bool) (d : Nat) : (Op.equalIn (d + 1) T (.bool a) (.bool b)).run P w = .ok (a == b) w := by
  simp only [Op.equalIn]
  simp [run_underlying hu]
theorem eqF_run {W : World} {d : Nat} : ∀ (ks : List IntKind) (fs : List Field) (n : Nat) (l l' : AV) (b : Bool) (X Y : Array Value) (vs us : List Value), EqF P fs n ks → eqAV ks l l' = some b → vsOk E L W l vs → vsOk E L W l' us → (∀ i, X[n + i]? = vs[i]?) → (∀ i, Y[n + i]? = us[i]?) → (Op.eqFields (d + 1) X Y fs).run P w = .ok b w
  | [], _, _, _, _, _, _, _, _, _, _, h, _, _, _, _ => by unfold eqAV at h; cases h
  | _ :: _, [], _, _, _, _, _, _, _, _, hf, _, _, _, _, _ => hf.elim
  | k :: ks, fd :: fs, n, l, l', b, X, Y, vs, us, hf, h, hl, hl', hX, hY => by
    obtain ⟨hn, ho, hu, hr⟩ := hf
    unfold eqAV at h
    split at h
    · rename_i k0 ks0 k1 x r k2 y r' ek
      injection ek with ek eks
      subst ek; subst eks
      cases hb : (kindEq k1 k && kindEq k2 k) with
      | false => rw [hb] at h; cases h
      | true =>
        rw [hb, cond_true] at h
        obtain ⟨b1, b2⟩ := and2 hb
        have q1 := kindEq_eq b1
        have q2 := kindEq_eq b2
        subst q1
        subst q2
        unfold vsOk at hl hl'
        obtain ⟨u1, r1, rfl, hv1, hl⟩ := hl
        obtain ⟨u2, r2, rfl, hv2, hl'⟩ := hl'
        unfold vOk at hv1 hv2
        have hv1 : u1 = .int k2 x := hv1
        have hv2 : u2 = .int k2 y := hv2
        subst hv1; subst hv2
        have hp : P.plainKey fd.type = true := by simp [Program.plainKey, hu]
        have pa : (part fd.type X fd.offset).run P w = .ok (.int k2 x) w := run_part_plain w hp (by rw [ho]; exact hX 0)
        have pb : (part fd.type Y fd.offset).run P w = .ok (.int k2 y) w := run_part_plain w hp (by rw [ho]; exact hY 0)
        have he : (Op.equalIn (d + 1) fd.type (.int k2 x) (.int k2 y)).run P w = .ok ((x : Int) == (y : Int)) w := by
          simp [Op.equalIn, run_underlying hu]
        have hn' : fd.name ≠ "_" := by simpa using hn
        rw [Op.eqFields]
        simp only [if_pos hn', Sem.run_bind, pa, pb, he, Result.andThen_ok]
        cases ks with
        | nil =>
          cases fs with
          | cons _ _ => exact hr.elim
          | nil =>
            simp only [Option.some.injEq] at h
            subst h
            cases ((x : Int) == (y : Int)) <;> simp [Op.eqFields]
        | cons k' ks' =>
          simp only [] at h
          obtain ⟨b', hb', rfl⟩ := Option.map_eq_some_iff.1 h
          have ih := eqF_run (d := d) (k' :: ks') fs (n + 1) r r' b' X Y r1 r2 hr hb' hl hl' (fun i => by have := hX (i + 1); rw [show n + 1 + i = n + (i + 1) by omega]; simpa using this) (fun i => by have := hY (i + 1); rw [show n + 1 + i = n + (i + 1) by omega]; simpa using this)
          cases ((x : Int) == (y : Int))
          · simp
          · simpa using ih
    · cases h
theorem bin_ok {tb : Bool} {eqs : List IntKind} (heq : eqs ≠ [] → EqOk P T eqs) (htb : tb = true → P.underlying T = some .bool) {op : BinOp} {a b : AV} {x y : Value} {r : List Bool × AV} (ha : vOk E L w a x) (hb : vOk E L w b y) (h : exBin tb eqs op a b = some r) (hg : ∀ b ∈ r.1, b = true) :
    ∃ v, (binOp op T x y).run P w = .ok v w ∧ vOk E L w r.2 v := by
  unfold exBin at h
  split at h
  · rename_i k x' k' y'
    unfold vOk at ha hb
    have ha : x = .int k x' := ha
    have hb : y = .int k' y' := hb
    subst ha; subst hb
    cases hsh : isShift op with
    | true =>
    rw [hsh] at h
    injection h with h
    subst h
    have hy : (0 : Int) ≤ y' := of_decide_eq_true (hg _ (List.mem_singleton.2 rfl))
    refine ⟨.int k (ish k op x' y'), ?_, by unfold vOk; rfl⟩
    cases op <;> first | (cases hsh; done) | skip
    · show (Op.shift .shl k x' k' y').run P w = _
      unfold Op.shift
      rw [if_neg (by omega)]
      rfl
    · show (Op.shift .shr k x' k' y').run P w = _
      unfold Op.shift
      rw [if_neg (by omega)]
      have hp : (0 : Int) ≤ 2 ^ min y'.toNat k.bits := Int.pow_nonneg (by decide)
      show (Pure.pure (Value.int k (x'.fdiv (2 ^ min y'.toNat k.bits))) : Sem Value).run P w = _
      rw [Int.fdiv_eq_ediv_of_nonneg _ hp]
      rfl
    | false =>
    rw [hsh] at h
    simp only [cond_false] at h
    cases hk : kindEq k k' with
    | false => rw [hk] at h; cases h
    | true =>
      rw [hk] at h
      obtain rfl := kindEq_eq hk
      simp only [cond_true] at h
      cases hc : icmp op x' y' with
      | some c =>
        rw [hc] at h
        injection h with h
        subst h
        refine ⟨.bool c, ?_, by unfold vOk; rfl⟩
        cases op <;> simp [icmp] at hc <;> subst hc <;> simp [binOp, Op.intCmp]
      | none =>
        rw [hc] at h
        cases hi : iar k op x' y' with
        | none => rw [hi] at h; cases h
        | some q =>
          rw [hi] at h
          injection h with h
          subst h
          refine ⟨.int k q.2, ?_, by unfold vOk; rfl⟩
          cases op <;> simp [iar] at hi <;> subst hi <;> simp [binOp, Op.intArith, Op.intDiv, intBits_and, intBits_or, intBits_xor] at hg ⊢ <;> simp [hg]
  · rename_i x' y'
    unfold vOk at ha hb
    have ha : x = .bool x' := ha
    have hb : y = .bool y' := hb
    subst ha; subst hb
    cases htb2 : tb with
    | false => rw [htb2] at h; cases h
    | true =>
      rw [htb2] at h
      have hu := htb htb2
      simp only [Bool.not_true, cond_false] at h
      split at h <;> first | (cases h; done) | (injection h with h; subst h)
      · exact ⟨.bool (x' == y'), by
          show ((Op.equalIn (9999 + 1) T (.bool x') (.bool y')) >>= fun r => (Pure.pure (Value.bool r) : Sem Value)).run P w = _
          rw [Sem.run_bind, run_eq_bool hu]
          rfl, by unfold vOk; rfl⟩
      · exact ⟨.bool (!(x' == y')), by
          show ((Op.equalIn (9999 + 1) T (.bool x') (.bool y')) >>= fun r => (Pure.pure (Value.bool !r) : Sem Value)).run P w = _
          rw [Sem.run_bind, run_eq_bool hu]
          rfl, by unfold vOk; rfl⟩
  · rename_i x' y'
    unfold vOk at ha hb
    have ha : x = .string x' := ha
    have hb : y = .string y' := hb
    subst ha; subst hb
    split at h <;> first | (cases h; done) | (injection h with h; subst h)
    · exact ⟨.bool (x'.toList == y'.toList), rfl, by unfold vOk; rfl⟩
    · exact ⟨.bool (!(x'.toList == y'.toList)), rfl, by unfold vOk; rfl⟩
    · have := of_decide_eq_true (hg _ (List.mem_singleton.2 rfl))
      have hm : ¬ (((x'.size + y'.size : Nat) : Int) > IntKind.i64.max) := by
        show ¬ (_ > (9223372036854775807 : Int))
        omega
      exact ⟨.string (x' ++ y'), by
        show (Op.stringOp .add x' y').run P w = _
        unfold Op.stringOp
        rw [if_neg hm]
        rfl, by unfold vOk; rfl⟩
  · rename_i l l'
    unfold vOk at ha hb
    obtain ⟨vs, rfl, hvs, _⟩ := ha
    obtain ⟨us, rfl, hus, _⟩ := hb
    have key : ∀ b, eqAV eqs l l' = some b → (Op.equalIn (9999 + 1) T (.agg vs.toArray) (.agg us.toArray)).run P w = .ok b w := by
      intro b hb
      have hne : eqs ≠ [] := fun e => by rw [e] at hb; unfold eqAV at hb; cases hb
      obtain ⟨fs, hu, hst, _, hF⟩ := heq hne
      have e := eqF_run (P := P) (w := w) (d := 9998) eqs fs.toList 0 l l' b vs.toArray us.toArray vs us hF hb hvs hus (fun i => by simp) (fun i => by simp)
      have hf : P.fieldsOf T = fs := by simp [Program.fieldsOf, hu]
      rw [run_equalIn_struct (P := P) w 9999 T _ _ (by rw [hf]; exact hu) hst, hf]
      exact e
    split at h <;> first | (cases h; done) | skip
    · obtain ⟨b, hb, rfl⟩ := Option.map_eq_some_iff.1 h
      exact ⟨.bool b, by
        show ((Op.equalIn (9999 + 1) T _ _) >>= fun r => (Pure.pure (Value.bool r) : Sem Value)).run P w = _
        rw [Sem.run_bind, key b hb]
        rfl, by unfold vOk; rfl⟩
    · obtain ⟨b, hb, rfl⟩ := Option.map_eq_some_iff.1 h
      exact ⟨.bool (!b), by
        show ((Op.equalIn (9999 + 1) T _ _) >>= fun r => (Pure.pure (Value.bool !r) : Sem Value)).run P w = _
        rw [Sem.run_bind, key b hb]
        rfl, by unfold vOk; rfl⟩
  · cases h
theorem pick_ok {c a b : AV} {z x y : Value} (hc : vOk E L w c z) (ha : vOk E L w a x) (hb : vOk E L w b y) (h : exPick c a b = some rec) (hg : ∀ b ∈ rec.gs, b = true) :
    ∃ p : Bool, z = .bool p ∧ vOk E L w rec.av (if p then x else y) ∧ rec.ups = [] := by
  unfold exPick at h
  split at h
  · rename_i p
    unfold vOk at hc
    have hc : z = .bool p := hc
    refine ⟨p, hc, ?_⟩
    split at h <;> first | (cases h; done) | (injection h with h; subst h)
    · rename_i x' y'
      refine ⟨?_, rfl⟩
      cases p
      · exact hb
      · exact ha
    · have hp : p = true := hg p (List.mem_singleton.2 rfl)
      subst hp
      exact ⟨ha, rfl⟩
    · have hp : p = false := by have := hg _ (List.mem_singleton.2 rfl); simpa using this
      subst hp
      exact ⟨hb, rfl⟩
  · cases h
theorem nth_get {α : Type} : ∀ {l : List α} {n : Nat} {a : α}, nth l n = some a → l[n]? = some a
  | [], _, _, h => by cases h
  | b :: r, 0, a, h => by injection h with h; rw [h]; rfl
  | b :: r, n + 1, a, h => by show r[n]? = some a; exact nth_get (l := r) h
theorem vsOk_nth : ∀ (a : AV) {vs : List Value} {n : Nat} {x : AV}, vsOk E L w a vs → nth a.toList n = some x → ∃ u, vs[n]? = some u ∧ vOk E L w x u
  | .anil, vs, n, x, h, hn => by cases hn
  | .acons a t, vs, 0, x, h, hn => by
    unfold vsOk at h
    obtain ⟨u, r, e, g1, g2⟩ := h
    subst e
    injection hn with hn
    subst hn
    exact ⟨u, rfl, g1⟩
  | .acons a t, vs, n + 1, x, h, hn => by
    unfold vsOk at h
    obtain ⟨u, r, e, g1, g2⟩ := h
    subst e
    obtain ⟨v, q1, q2⟩ := vsOk_nth t (n := n) g2 hn
    exact ⟨v, q1, q2⟩
  | .dead, _, _, _, hv, _ | .sc _ _, _, _, _, hv, _ | .nil, _, _, _, hv, _ | .own _ _, _, _, _, hv, _ | .rd _ _ _ _, _, _, _, hv, _ | .ptr _ _, _, _, _, hv, _ | .elt _ _ _ _, _, _, _, hv, _ | .relt _ _ _ _, _, _, _, hv, _ | .view _ _ _ _, _, _, _, hv, _ | .sub _ _ _ _ _ _ _ _ _, _, _, _, hv, _ | .app _ _ _ _ _ _ _ _, _, _, _, hv, _ | .fn _, _, _, _, hv, _ | .clo _ _, _, _, _, hv, _ | .agg _, _, _, _, hv, _ | .tup _, _, _, _, hv, _ => by
    unfold vsOk at hv; exact hv.elim
theorem extract_ok {x : AV} {v : Value} {n : Nat} (hv : vOk E L w x v) {l a : AV} (hx : x = .tup l) (h : nth l.toList n = some a) : ∃ u, (Instr.extract v n).run P w = .ok u w ∧ vOk E L w a u := by
  subst hx
  unfold vOk at hv
  obtain ⟨vs, rfl, h1⟩ := hv
  obtain ⟨u, g1, g2⟩ := vsOk_nth l h1 h
  exact ⟨u, by simp [Instr.extract, g1], g2⟩
/-! ### what is built -/
theorem oneOk_v {v : Value} {a : AV} (h : oneOk v a = true) : vOk E L w a v ∧ v.oneCell' = true := by
  unfold oneOk at h
  split at h
  · rename_i k n k' m
    rw [Bool.and_eq_true, Bool.and_eq_true] at h
    obtain rfl := kindEq_eq h.1.1
    have h1 : n = 0 := by simpa using h.1.2
    have h2 : m = (0 : Int) := by simpa using h.2
    refine ⟨?_, rfl⟩
    unfold vOk
    show Value.int k n = .int k m
    rw [h1, h2]
  · rename_i b c
    rw [Bool.and_eq_true] at h
    refine ⟨?_, rfl⟩
    unfold vOk
    show Value.bool b = .bool c
    have h1 : b = false := by simpa using h.1
    have h2 : c = false := by simpa using h.2
    rw [h1, h2]
  · rename_i s c
    rw [Bool.and_eq_true] at h
    refine ⟨?_, rfl⟩
    unfold vOk
    show Value.string s = .string c
    have h1 : s.data.toList = [] := by simpa using h.1
    have h2 : (ByteArray.data c).toList = [] := by simpa using h.2
    congr 1
    exact ByteArray.ext (Array.ext' (h1.trans h2.symm))
  · exact ⟨by unfold vOk; rfl, rfl⟩
  · cases h
theorem cellsOk_cs : ∀ {vs : List Value} {l : List AV}, cellsOk vs l = true → csOk E L w l vs
  | [], [], _ => rfl
  | v :: r, a :: l, h => by
    unfold cellsOk at h
    rw [Bool.and_eq_true] at h
    obtain ⟨h1, h2⟩ := oneOk_v (E := E) (L := L) (w := w) h.1
    exact ⟨v, r, rfl, h1, h2, cellsOk_cs h.2⟩
  | [], _ :: _, h => by cases h
  | _ :: _, [], h => by cases h
theorem zero_ok (h : TOk P T i) : ∃ z, (zeroValue T).run P w = .ok z w ∧ csOk E L w (zeroCells i.ty) z.cells.toList ∧ (i.agg = true → ∃ cs, z = .agg cs) := by
  obtain ⟨j, z, hj, _, hz, hk⟩ := h.info
  refine ⟨z, by simp [zeroValue, typeInfo, hj, hz], ?_, ?_⟩
  · unfold zerOk at hk
    split at hk
    · rw [Bool.and_eq_true] at hk
      exact cellsOk_cs hk.2
    · rename_i hna
      rw [Bool.and_eq_true] at hk
      have := cellsOk_cs (E := E) (L := L) (w := w) hk.2
      have hv : z.cells.toList = [z] := by cases z <;> first | rfl | (exact absurd rfl (hna _))
      rw [hv]
      exact this
  · intro ha
    unfold zerOk at hk
    split at hk
    · exact ⟨_, rfl⟩
    · rw [ha] at hk; simp at hk
theorem foldl_put (off : Nat) : ∀ (vs : List Value) (k : Nat) (cs : Array Value), off + k + vs.length ≤ cs.size →
    ((vs.zipIdx k).foldl (fun (cs : Array Value) (p : Value × Nat) => cs.setIfInBounds (off + p.2) p.1) cs).toList = cs.toList.take (off + k) ++ vs ++ cs.toList.drop (off + k + vs.length)
  | [], k, cs, h => by simp
  | v :: r, k, cs, h => by
    rw [List.zipIdx_cons, List.foldl_cons, foldl_put off r (k + 1) _ (by simp at h ⊢; omega)]
    simp only [Array.toList_setIfInBounds, List.length_cons] at h ⊢
    have hlt : off + k < cs.toList.length := by rw [Array.length_toList]; omega
    rw [show off + (k + 1) = off + k + 1 by omega, List.take_succ_eq_append_getElem (by rw [List.length_set]; exact hlt), List.take_set_of_le (Nat.le_refl _), List.getElem_set_self, List.drop_set_of_lt (by omega)]
    simp only [List.append_assoc, List.singleton_append]
    congr 3
    omega
theorem fill_ok {g : Operand → AV} {ρ : Operand → Value} (hg : ∀ x, vOk E L w (g x) (ρ x)) {place : Nat → Option (Nat × Nat)} {offs : List (Nat × Nat)} (hp : ∀ f d, nth offs f = some d → place f = some d) :
    ∀ (ps : List (Nat × Operand)) (l : List AV) (cs : Array Value) (r : List AV), csOk E L w l cs.toList → fillAV offs g ps l = some r → ∃ cs', Instr.fill place cs (ps.map (fun p => (p.1, ρ p.2))) = some cs' ∧ csOk E L w r cs'.toList
  | [], l, cs, r, h, hf => by injection hf with hf; subst hf; exact ⟨cs, rfl, h⟩
  | (f, x) :: ps, l, cs, r, h, hf => by
    unfold fillAV at hf
    split at hf
    · rename_i d lx hd hx
      cases hb : (Nat.ble (d.1 + lx.length) l.length && Nat.beq d.2 lx.length) with
      | false => rw [hb] at hf; cases hf
      | true =>
        rw [hb] at hf
        obtain ⟨b1, b2⟩ := and2 hb
        have b1 := Nat.le_of_ble_eq_true b1
        have b2 := Nat.eq_of_beq_eq_true b2
        have hcx := cells_ok (hg x) hx
        have hsz := cells_size (hg x) hx
        have hl := csOk_len h
        rw [Array.length_toList (xs := cs)] at hl
        obtain ⟨cs', e1, e2⟩ := fill_ok hg hp ps (splice l d.1 lx) ((ρ x).cells.zipIdx.foldl (fun cs p => cs.setIfInBounds (d.1 + p.2) p.1) cs) r (by
          have := foldl_put d.1 (ρ x).cells.toList 0 cs (by rw [Array.length_toList (xs := (ρ x).cells)]; omega)
          rw [← Array.foldl_toList, Array.toList_zipIdx, this]
          exact csOk_splice h hcx d.1) hf
        refine ⟨cs', ?_, e2⟩
        rw [List.map_cons, Instr.fill, hp f d hd]
        obtain ⟨off, size⟩ := d
        show (if (ρ x).cells.size ≠ size || off + (ρ x).cells.size > cs.size then none else _) = _
        have b2 : size = lx.length := b2
        have b1 : off + lx.length ≤ l.length := b1
        rw [if_neg (by simp only [Bool.or_eq_true, decide_eq_true_eq]; omega)]
        exact e1
    · cases hf
end
end Go.Eng
/-
The engine, part 6: build, cuts, strings; the operations that leave memory alone, all of them.
-/
set_option linter.unusedVariables false
set_option linter.unusedSimpArgs false
namespace Go.Eng
open Go Go.RowKit Go.Proofs.YtoancfhhlmkcbaaW.PrintWords
section
variable {P : Program} {E : Env} {L : Lk} {w : World} {rec : Rec} {T : Nat} {i : TInf}
theorem places_run : ∀ (ol : List (Nat × Nat)) (fl : List Field), fl.length = ol.length → (∀ k d, nth ol k = some d → ∃ fd j, fl[k]? = some fd ∧ fd.offset = d.1 ∧ P.info? fd.type = some j ∧ j.size = d.2) →
    (fl.mapM (fun f => (do pure (f.offset, ← sizeOf f.type) : Sem (Nat × Nat)))).run P w = .ok ol w
  | [], fl, hl, _ => by
    have : fl = [] := List.eq_nil_of_length_eq_zero hl
    subst this
    rfl
  | d :: ol, [], hl, _ => by cases hl
  | d :: ol, f :: fl, hl, h => by
    obtain ⟨fd, j, h1, h2, h3, h4⟩ := h 0 d rfl
    have h1 : f = fd := by injection h1
    subst h1
    have ih := places_run ol fl (by simpa using hl) (fun k d' hk => h (k + 1) d' hk)
    have hs : (sizeOf f.type).run P w = .ok d.2 w := by simp [sizeOf, typeInfo, h3, h4]
    simp only [List.mapM_cons, Sem.run_bind, hs, Result.andThen_ok, Sem.run_pure, ih, h2]
theorem places (h : TOk P T i) (hne : i.offs ≠ []) : ∃ fs, P.underlying T = some (.struct fs) ∧ (fs.mapM (fun f => (do pure (f.offset, ← sizeOf f.type) : Sem (Nat × Nat)))).run P w = .ok i.offs.toArray w := by
  obtain ⟨fs, hu, hs⟩ := h.all hne
  refine ⟨fs, hu, ?_⟩
  rw [Array.mapM_eq_mapM_toList]
  have := places_run (P := P) (w := w) i.offs fs.toList (by rw [Array.length_toList, hs]) (fun k d hk => by
    obtain ⟨fs', fd, j, h1, h2, h3, h4, h5, _⟩ := h.fld k d hk
    rw [hu] at h1
    injection h1 with h1
    injection h1 with h1
    subst h1
    exact ⟨fd, j, by rw [Array.getElem?_toList]; exact h2, h3, h4, h5⟩)
  simp only [Sem.run_map, this, Result.andThen_ok]
theorem nth_arr : ∀ {l : List (Nat × Nat)} {f : Nat} {d : Nat × Nat}, nth l f = some d → l.toArray[f]? = some d := fun h => by
  rw [List.getElem?_toArray]; exact nth_get h
theorem build_ok (h : TOk P T i) {g : Operand → AV} {ρ : Operand → Value} (hg : ∀ x, vOk E L w (g x) (ρ x)) {ps : Array (Nat × Operand)} {l : List AV} (ha : (i.agg && !i.offs.isEmpty) = true) (hf : fillAV i.offs g ps.toList (zeroCells i.ty) = some l) :
    ∃ v, (Instr.build T (ps.map fun (k, x) => (k, ρ x))).run P w = .ok v w ∧ vOk E L w (.agg (AV.ofList l)) v := by
  obtain ⟨a1, a2⟩ := and2 ha
  have hne : i.offs ≠ [] := fun e => by rw [e] at a2; cases a2
  obtain ⟨z, hz, hcz, _⟩ := zero_ok (E := E) (L := L) (w := w) h
  obtain ⟨fs, hu, hm⟩ := places (w := w) h hne
  obtain ⟨cs', e1, e2⟩ := fill_ok hg (place := (i.offs.toArray[·]?)) (fun f d hd => nth_arr hd) ps.toList _ z.cells l hcz hf
  obtain ⟨g1, g2⟩ := csOk_agg e2
  refine ⟨.agg cs', ?_, by unfold vOk; exact ⟨cs'.toList, by simp, g1, g2⟩⟩
  have e1' : Instr.fill (i.offs.toArray[·]?) z.cells (ps.map fun (k, x) => (k, ρ x)).toList = some cs' := by rw [Array.toList_map]; exact e1
  unfold Instr.build
  rw [Sem.run_bind, hz, Result.andThen_ok, Sem.run_bind, run_underlying hu w, Result.andThen_ok]
  simp only []
  rw [Sem.run_bind, hm, Result.andThen_ok]
  simp only [e1']
  rfl
/-! ### cuts -/
theorem cut_bounds {isS : Bool} {n c : Nat} (hc : n ≤ c) {lo hi : Option Value} {l h : Option AV} (hlo : match lo, l with | none, none => True | some v, some a => vOk E L w a v | _, _ => False) (hhi : match hi, h with | none, none => True | some v, some a => vOk E L w a v | _, _ => False)
    {r : Int × Int × List Bool} (hx : cutB (n : Int) l h = some r) (hg : ∀ b ∈ r.2.2, b = true) :
    (Instr.sliceBounds isS n c lo hi none).run P w = .ok (r.1.toNat, r.2.1.toNat, c) w ∧ r.1.toNat ≤ r.2.1.toNat ∧ r.2.1.toNat ≤ n := by
  unfold cutB at hx
  split at hx
  · split at hx
    · injection hx with hx
      subst hx
      cases lo <;> cases hi <;> first | (exact hlo.elim) | (exact hhi.elim) | skip
      exact ⟨by simp [Instr.sliceBounds], Nat.zero_le _, by simp⟩
    · rename_i l'
      change Int at l'
      injection hx with hx
      subst hx
      cases lo <;> cases hi <;> first | (exact hlo.elim) | (exact hhi.elim) | skip
      rename_i v
      unfold vOk at hlo
      have hlo : v = .int .i64 l' := hlo
      subst hlo
      obtain ⟨g0, g1⟩ := gs2 hg
      have g0 : (0 : Int) ≤ l' := of_decide_eq_true g0
      have g1 : l' ≤ (n : Int) := of_decide_eq_true g1
      exact ⟨by simp [Instr.sliceBounds, Instr.sliceBound, asIntOf, g0, g1], by show l'.toNat ≤ (n : Int).toNat; omega, by simp⟩
    · cases hx
  · rename_i h'
    change Int at h'
    split at hx
    · injection hx with hx
      subst hx
      cases lo <;> cases hi <;> first | (exact hlo.elim) | (exact hhi.elim) | skip
      rename_i v
      unfold vOk at hhi
      have hhi : v = .int .i64 h' := hhi
      subst hhi
      obtain ⟨g0, g1⟩ := gs2 hg
      have g0 : (0 : Int) ≤ h' := of_decide_eq_true g0
      have g1 : h' ≤ (n : Int) := of_decide_eq_true g1
      have g2 : h' ≤ (c : Int) := by omega
      exact ⟨by simp [Instr.sliceBounds, Instr.sliceBound, asIntOf, g0, g2], Nat.zero_le _, by show h'.toNat ≤ n; omega⟩
    · rename_i l'
      change Int at l'
      injection hx with hx
      subst hx
      cases lo <;> cases hi <;> first | (exact hlo.elim) | (exact hhi.elim) | skip
      rename_i v u
      unfold vOk at hhi hlo
      have hhi : u = .int .i64 h' := hhi
      have hlo : v = .int .i64 l' := hlo
      subst hhi; subst hlo
      have g0 : (0 : Int) ≤ h' := of_decide_eq_true (hg _ (by simp))
      have g1 : h' ≤ (n : Int) := of_decide_eq_true (hg _ (List.mem_cons_of_mem _ List.mem_cons_self))
      have g3 : (0 : Int) ≤ l' := of_decide_eq_true (hg _ (List.mem_cons_of_mem _ (List.mem_cons_of_mem _ List.mem_cons_self)))
      have g4 : l' ≤ h' := of_decide_eq_true (hg _ (List.mem_cons_of_mem _ (List.mem_cons_of_mem _ (List.mem_cons_of_mem _ List.mem_cons_self))))
      have g2 : h' ≤ (c : Int) := by omega
      have g5 : l' ≤ ((h'.toNat : Nat) : Int) := by omega
      have g6 : l' ≤ max h' 0 := by omega
      exact ⟨by simp [Instr.sliceBounds, Instr.sliceBound, asIntOf, g0, g2, g3, g6], by show l'.toNat ≤ h'.toNat; omega, by show h'.toNat ≤ n; omega⟩
    · cases hx
  · cases hx
theorem cut_row {t : Ty} {e : Nat} {ok : Nat → Prop} {A : Option Addr} {c : Nat} {xs : List t.den} (h : TOk P T i) (hi : i.ty = .slice e t) (hc : xs.length ≤ c) (hF : Kd.F t.kd w ok A xs.length xs) {lo hi' : Option Value} {a b : Nat}
    (hb : (Instr.sliceBounds true xs.length c lo hi' none).run P w = .ok (a, b, c) w) (h1 : a ≤ b) (h2 : b ≤ xs.length) :
    ∃ v, (Instr.sliceAt T (.slice A xs.length c) lo hi' none).run P w = .ok v w ∧ v.oneCell' = true ∧ Kd.V t.kd e w 0 ok v ((xs.take b).drop a) := by
  obtain ⟨hu, j, z, hj, hs, _⟩ := h.slc e t hi
  have hm := Kd.F_mid hF h1 h2 hc
  have hlen : ((xs.take b).drop a).length = b - a := by rw [List.length_drop, List.length_take]; omega
  refine ⟨.slice (if c = a then A else A.map (·.add (a * j.size))) (b - a) (c - a), by simp [Instr.sliceAt, Instr.slice, run_underlying hu, hb, sizeOf, typeInfo, hj], rfl, ?_⟩
  rw [hs, ← hlen]
  rw [Ty.kd_sz] at hm
  exact Kd.V_mk (by rw [hlen]; omega) hm
theorem cut_ints {n : Nat} {l h : Option AV} {r : Int × Int × List Bool} (hx : cutB (n : Int) l h = some r) (hg : ∀ b ∈ r.2.2, b = true) : 0 ≤ r.1 ∧ r.1 ≤ r.2.1 ∧ r.2.1 ≤ (n : Int) := by
  unfold cutB at hx
  split at hx
  · split at hx
    · injection hx with hx; subst hx
      exact ⟨Int.le_refl _, Int.natCast_nonneg _, Int.le_refl _⟩
    · rename_i l'
      change Int at l'
      injection hx with hx; subst hx
      obtain ⟨g0, g1⟩ := gs2 hg
      exact ⟨of_decide_eq_true g0, of_decide_eq_true g1, Int.le_refl _⟩
    · cases hx
  · rename_i h'
    change Int at h'
    split at hx
    · injection hx with hx; subst hx
      obtain ⟨g0, g1⟩ := gs2 hg
      exact ⟨Int.le_refl _, of_decide_eq_true g0, of_decide_eq_true g1⟩
    · rename_i l'
      change Int at l'
      injection hx with hx; subst hx
      exact ⟨of_decide_eq_true (hg _ (List.mem_cons_of_mem _ (List.mem_cons_of_mem _ List.mem_cons_self))), of_decide_eq_true (hg _ (List.mem_cons_of_mem _ (List.mem_cons_of_mem _ (List.mem_cons_of_mem _ List.mem_cons_self)))), of_decide_eq_true (hg _ (List.mem_cons_of_mem _ List.mem_cons_self))⟩
    · cases hx
  · cases hx
theorem slice_ok (h : TOk P T i) {x : AV} {v : Value} {lo hi : Option Value} {l r : Option AV} (ho : ∀ o, oOk E L w o (L o)) (hv : vOk E L w x v)
    (hlo : match lo, l with | none, none => True | some v, some a => vOk E L w a v | _, _ => False) (hhi : match hi, r with | none, none => True | some v, some a => vOk E L w a v | _, _ => False)
    (hx : exSlice L i x l r = some rec) (hg : ∀ b ∈ rec.gs, b = true) : ∃ u, (Instr.sliceAt T v lo hi none).run P w = .ok u w ∧ vOk E L w rec.av u ∧ rec.ups = [] := by
  unfold exSlice at hx
  split at hx
  · rename_i s
    cases hb : (i.ty.beq .str && i.tru) with
    | false => rw [hb] at hx; cases hx
    | true =>
      rw [hb] at hx
      obtain ⟨b1, b2⟩ := and2 hb
      have hu := h.str (Ty.beq_eq b1) b2
      simp only [cond_true] at hx
      cases hc : cutB (s.size : Int) l r with
      | none => rw [hc] at hx; cases hx
      | some c =>
        rw [hc] at hx
        injection hx with hx
        subst hx
        unfold vOk at hv
        have hv : v = .string s := hv
        subst hv
        obtain ⟨e1, e2, e3⟩ := cut_bounds (P := P) (isS := false) (Nat.le_refl s.size) hlo hhi hc hg
        exact ⟨.string (s.extract c.1.toNat c.2.1.toNat), by simp [Instr.sliceAt, Instr.slice, run_underlying hu, e1], by unfold vOk; rfl, rfl⟩
  · rename_i e t xs ds
    cases hb : (live L ds && (Ty.slice e t).beq i.ty) with
    | false => rw [hb] at hx; cases hx
    | true =>
      rw [hb] at hx
      obtain ⟨b1, b2⟩ := and2 hb
      simp only [cond_true] at hx
      cases hc : cutB (xs.length : Int) l r with
      | none => rw [hc] at hx; cases hx
      | some c =>
        rw [hc] at hx
        injection hx with hx
        subst hx
        unfold vOk at hv
        obtain ⟨A, cap, rfl, hcap, hF⟩ := V_val (hv.2.2 b1)
        obtain ⟨e1, e2, e3⟩ := cut_bounds (P := P) (isS := true) hcap hlo hhi hc hg
        obtain ⟨u, g1, g2, g3⟩ := cut_row h (beq_ty b2) hcap hF e1 e2 e3
        exact ⟨u, g1, by unfold vOk; exact ⟨g2, hv.2.1, fun _ => g3⟩, rfl⟩
  · rename_i o hv0
    split at hx
    · rename_i e t xs hv' v0 v1 hob
      cases hb : (Nat.beq hv0 hv' && (Ty.slice e t).beq i.ty) with
      | false => rw [hb] at hx; cases hx
      | true =>
        rw [hb] at hx
        obtain ⟨b1, b2⟩ := and2 hb
        simp only [cond_true] at hx
        cases hc : cutB (xs.length : Int) l r with
        | none => rw [hc] at hx; cases hx
        | some c =>
          rw [hc] at hx
          injection hx with hx
          subst hx
          obtain ⟨e1, hS⟩ := own_val ho hv hob b1
          obtain ⟨A, cap, e2, hcap, hF⟩ := S_shape hS
          subst e2
          obtain ⟨q1, q2, q3⟩ := cut_bounds (P := P) (isS := true) hcap hlo hhi hc hg
          obtain ⟨q4, q5, q6⟩ := cut_ints hc hg
          obtain ⟨hu, jj, z, hj, hs, _⟩ := h.slc e t (beq_ty b2)
          refine ⟨.slice (if cap = c.1.toNat then A else A.map (·.add (c.1.toNat * jj.size))) (c.2.1.toNat - c.1.toNat) (cap - c.1.toNat), by simp [Instr.sliceAt, Instr.slice, run_underlying hu, q1, sizeOf, typeInfo, hj], ?_, rfl⟩
          unfold vOk
          refine ⟨rfl, ?_⟩
          rw [hob]
          refine ⟨Nat.le_of_eq (Nat.eq_of_beq_eq_true b1), fun _ => ⟨q4, q5, q6, _, _, rfl, by omega, fun hlt => ?_⟩⟩
          obtain ⟨g, c0, e3, _⟩ := Kd.S_form hS (by omega)
          injection e3 with e3 _ _
          subst e3
          refine ⟨g, _, _, e1.symm, ?_⟩
          rw [if_neg (by omega), hs]
          show some (Addr.add ⟨g, 0, none⟩ _) = _
          rw [cell_add, Nat.zero_add]
    · cases hx
  · cases hx
/-- a cut, read -/
theorem deV_ok {x : AV} {v : Value} (ho : ∀ o, oOk E L w o (L o)) (hv : vOk E L w x v) : vOk E L w (deV L x) v := by
  cases x with
  | view o hv0 a b =>
    simp only [deV]
    cases hob : L o with
    | row e t xs hv' v0 v1 hh =>
      cases hh with
      | some _ => unfold vOk; trivial
      | none =>
      simp only []
      cases hb : Nat.beq hv0 hv' with
      | false => unfold vOk; trivial
      | true =>
        simp only [cond_true]
        unfold vOk at hv
        rw [hob] at hv
        obtain ⟨h0, h1, h2, A, c, rfl, hc, hA⟩ := hv.2.2 (Nat.eq_of_beq_eq_true hb)
        have hlen : ((xs.take b.toNat).drop a.toNat).length = b.toNat - a.toNat := by rw [List.length_drop, List.length_take]; omega
        unfold vOk
        refine ⟨rfl, fun d hd => ?_, fun _ => ⟨A, c, by rw [hlen], by rw [hlen]; exact hc, ?_⟩⟩
        · rw [List.mem_singleton.1 hd]
          show verLe (L o) 0 v0
          rw [hob]
          exact ⟨fun _ => Nat.le_refl _, fun e => absurd e (by decide)⟩
        · by_cases hlt : a < b
          · obtain ⟨g, n, c0, hm, rfl⟩ := hA hlt
            have hoo := ho o
            rw [hob] at hoo
            have hS : Kd.S t.kd e w 0 (fun k => E.f k = o + 1) (E.μ o) xs := hoo
            rw [hm] at hS
            obtain ⟨A2, c2, e2, hc2, hF⟩ := S_shape hS
            injection e2 with e3 e4 e5
            subst e3
            have hm2 := Kd.F_mid hF (show a.toNat ≤ b.toNat by omega) (show b.toNat ≤ xs.length by omega) hc2
            rw [if_neg (by omega)] at hm2
            have e6 : (some (⟨g, 0, none⟩ : Addr)).map (·.add (a.toNat * t.kd.sz)) = some ⟨g, a.toNat * t.sz, none⟩ := by
              show some (Addr.add ⟨g, 0, none⟩ _) = _
              rw [cell_add, Nat.zero_add, Ty.kd_sz]
            rw [e6] at hm2
            exact Kd.F_mono hm2 (fun k hk => .inr ⟨_, List.mem_singleton.2 rfl, hk, fun e => absurd (show (0 : Nat) = 1 from e) (by decide)⟩)
          · have h0 : (xs.take b.toNat).drop a.toNat = [] := List.eq_nil_of_length_eq_zero (by rw [hlen]; omega)
            rw [h0]
            exact fun W _ => ⟨rfl, by simp, fun h => absurd h (by simp)⟩
    | _ => unfold vOk; trivial
  | sub o hv0 q0 q1 i j e t xs =>
    unfold vOk at hv
    simp only [deV]
    unfold vOk
    exact ⟨hv.1, hv.2.1, hv.2.2.1⟩
  | _ => exact hv
theorem unsub_ok {x : AV} {v : Value} (hv : vOk E L w x v) : vOk E L w (unsub x) v := by
  cases x with
  | sub o hv0 q0 q1 i j e t xs =>
    unfold vOk at hv
    simp only [unsub]
    unfold vOk
    exact ⟨hv.1, hv.2.1, hv.2.2.1⟩
  | _ => exact hv
end
end Go.Eng
/-
The engine, part 7: the operations that make or write memory.
-/
set_option linter.unusedVariables false
set_option linter.unusedSimpArgs false
namespace Go.Eng
open Go Go.RowKit Go.Proofs.YtoancfhhlmkcbaaW.PrintWords
def updL (L : Lk) : List (Nat × Ob) → Lk
  | [] => L
  | p :: r => updL (fun o => bif Nat.beq p.1 o then p.2 else L o) r
theorem beq_of {a b : Nat} (h : a = b) : Nat.beq a b = true := by rw [h]; exact Nat.beq_refl b
theorem beq_ne {a b : Nat} (h : a ≠ b) : Nat.beq a b = false := by
  cases hb : Nat.beq a b with
  | false => rfl
  | true => exact absurd (Nat.eq_of_beq_eq_true hb) h
theorem updL_one (L : Lk) (p : Nat) (ob : Ob) : (updL L [(p, ob)] p = ob) ∧ ∀ o, o ≠ p → updL L [(p, ob)] o = L o :=
  ⟨by show (bif Nat.beq p p then ob else L p) = ob; rw [beq_of rfl]; rfl, fun o ho => by show (bif Nat.beq p o then ob else L o) = L o; rw [beq_ne (Ne.symm ho)]; rfl⟩
theorem updL_app (L : Lk) : ∀ (a b : List (Nat × Ob)), updL L (a ++ b) = updL (updL L a) b
  | [], b => rfl
  | p :: r, b => by show updL _ (r ++ b) = _; rw [updL_app _ r b]; rfl
theorem updL_killed (L : Lk) : ∀ (os : List Nat) (o : Nat), updL L (killed os) o = if o ∈ os then .dead else L o
  | [], o => by simp [killed, updL]
  | p :: r, o => by
    show updL (fun o => bif Nat.beq p o then .dead else L o) (killed r) o = _
    rw [updL_killed _ r o]
    by_cases h : o ∈ r
    · rw [if_pos h, if_pos (List.mem_cons_of_mem _ h)]
    · rw [if_neg h]
      by_cases e : o = p
      · subst e; rw [if_pos List.mem_cons_self, beq_of rfl]; rfl
      · rw [if_neg (fun hm => (List.mem_cons.1 hm).elim e h), beq_ne (Ne.symm e)]; rfl
section
variable {P : Program} {E E' : Env} {L L' : Lk} {w w' : World} {rec : Rec} {T : Nat} {i : TInf}
/-- Rows: what is made, what is moved away (K), what is written (q, at its own block alone). -/
theorem Tr.gen {K : Nat → Prop} {q row : Option Nat} (hg : w.grownBy w' row) (hrow : ∀ k, row = some k → ∃ o, q = some o ∧ E.f k = o + 1 ∧ some k = (E.μ o).ownBlock)
    (hf : ∀ k, k < w.heap.size → E'.f k = E.f k ∨ ∃ p, K p ∧ E.f k = p + 1)
    (hμ : ∀ o, L o ≠ .none → q ≠ some o → ¬ K o → E'.μ o = E.μ o ∧ L' o = L o)
    (hK : ∀ o, K o → (∃ e t xs hv v0 v1, L o = .row e t xs hv v0 v1 Option.none) ∧ L' o = .dead)
    (hq : ∀ o, q = some o → ¬ K o ∧ ∃ e t xs hv v0 v1 xs' hv' v0', L o = .row e t xs hv v0 v1 Option.none ∧ L' o = .row e t xs' hv' v0' v1 Option.none ∧ (hv < hv' ∨ hv = hv' ∧ E'.μ o = E.μ o ∧ xs'.length = xs.length) ∧ v0 < v0' ∧
      (∀ k, k < w.heap.size → E.f k = o + 1 → some k ≠ (E.μ o).ownBlock → some k ≠ (E'.μ o).ownBlock)) (hal : E'.al = E.al := by rfl) : Tr E L w E' L' w' where
  size := hg.size
  none := fun o h => by
    by_cases hk : K o
    · rw [(hK o hk).2]; exact fun e => by cases e
    · by_cases e : q = some o
      · obtain ⟨_, _, _, _, _, _, _, _, _, _, _, h2, _⟩ := hq o e
        rw [h2]; exact fun e => by cases e
      · rw [(hμ o h e hk).2]; exact h
  box := fun o T cells h => by
    have hk : ¬ K o := fun hk => by obtain ⟨⟨_, _, _, _, _, _, h2⟩, _⟩ := hK o hk; rw [h] at h2; cases h2
    have e : q ≠ some o := fun e => by obtain ⟨_, _, _, _, _, _, _, _, _, _, h2, _⟩ := hq o e; rw [h] at h2; cases h2
    have := hμ o (by rw [h]; exact fun e => by cases e) e hk
    exact ⟨⟨cells, by rw [this.2, h]⟩, this.1⟩
  notRow := fun o h hn e t xs hv v0 v1 hh => by
    have hk : ¬ K o := fun hk => by obtain ⟨⟨_, _, _, _, _, _, h2⟩, _⟩ := hK o hk; exact hn _ _ _ _ _ _ _ h2
    have hq' : q ≠ some o := fun e => by obtain ⟨_, _, _, _, _, _, _, _, _, _, h2, _⟩ := hq o e; exact hn _ _ _ _ _ _ _ h2
    rw [(hμ o h hq' hk).2]
    exact hn _ _ _ _ _ _ _
  row := fun o e t xs hv v0 v1 hh h => by
    by_cases hk : K o
    · exact .inl (hK o hk).2
    · have hcol : ∀ k, k < w.heap.size → E.f k = o + 1 → E'.f k = o + 1 := fun k hk2 hf2 => by
        rcases hf k hk2 with h3 | ⟨p, hp, h3⟩
        · rw [h3, hf2]
        · have : p = o := by omega
          subst this
          exact absurd hp hk
      by_cases e' : q = some o
      · obtain ⟨_, e1, t1, xs1, hv1, w0, w1, xs', hv', v0', h1, h2, h3, h4, h5⟩ := hq o e'
        rw [h] at h1
        injection h1 with a1 a2 a3 a4 a5 a6 a7
        subst a1; subst a2; subst a4; subst a5; subst a6
        have a3 := eq_of_heq a3
        subst a3
        refine .inr ⟨xs', hv', v0', v1, Option.none, h2, by rcases h3 with h3 | h3 <;> omega, by omega, Nat.le_refl _, fun e2 => ?_, fun e2 => by omega, fun _ k hk2 hf2 hs => ⟨hcol k hk2 hf2, h5 k hk2 hf2 hs, hg.block k hk2 (fun er => ?_)⟩, fun _ => a7.symm⟩
        · rcases h3 with h3 | h3
          · omega
          · exact h3.2
        · obtain ⟨o2, e3, _, e4⟩ := hrow k er.symm
          rw [e'] at e3
          injection e3 with e3
          subst e3
          exact hs e4
      · obtain ⟨g1, g2⟩ := hμ o (by rw [h]; exact fun e => by cases e) e' hk
        have hblk : ∀ k, k < w.heap.size → E.f k = o + 1 → w'.heap[k]? = w.heap[k]? := fun k hk2 hf2 => hg.block k hk2 (fun er => by
          obtain ⟨o2, e3, e4, _⟩ := hrow k er.symm
          have : o2 = o := by omega
          subst this
          exact e' e3)
        refine .inr ⟨xs, hv, v0, v1, hh, by rw [g2, h], Nat.le_refl _, Nat.le_refl _, Nat.le_refl _, fun _ => ⟨g1, rfl⟩, fun _ k hk2 hf2 => ⟨hcol k hk2 hf2, hblk k hk2 hf2⟩, fun _ k hk2 hf2 hs => ⟨hcol k hk2 hf2, by rw [g1]; exact hs, hblk k hk2 hf2⟩, fun _ => rfl⟩
  froz := fun k hk h0 => by
    refine ⟨?_, hg.block k hk (fun er => by obtain ⟨o2, _, e4, _⟩ := hrow k er.symm; omega), by rw [hal]⟩
    rcases hf k hk with h3 | ⟨p, _, h3⟩
    · rw [h3, h0]
    · omega
/-- .. and the objects that were not written. -/
theorem Tr.gen_o {K : Nat → Prop} {q row : Option Nat} (ht : Tr E L w E' L' w') (hg : w.grownBy w' row) (hrow : ∀ k, row = some k → ∃ o, q = some o ∧ E.f k = o + 1 ∧ some k = (E.μ o).ownBlock)
    (hf : ∀ k, k < w.heap.size → E'.f k = E.f k ∨ ∃ p, K p ∧ E.f k = p + 1) (ho : ∀ o, oOk E L w o (L o)) {o : Nat} (hne : q ≠ some o) (hk : ¬ K o) (hμ : E'.μ o = E.μ o) (hL : L' o = L o) : oOk E' L' w' o (L' o) :=
  ht.o (ho o) hL hμ (fun k hk2 hf2 => ⟨by
    rcases hf k hk2 with h3 | ⟨p, hp, h3⟩
    · rw [h3, hf2]
    · have : p = o := by omega
      subst this
      exact absurd hp hk, hg.block k hk2 (fun er => by
    obtain ⟨o2, e3, e4, _⟩ := hrow k er.symm
    have : o2 = o := by omega
    subst this
    exact hne e3)⟩)
/-- A new block, told as a box. -/
theorem new_box {fid T : Nat} {l : List AV} {vs : List Value} (ho : ∀ o, oOk E L w o (L o)) (hfid : L fid = .none) (hcs : csOk E L w l vs) :
    ∃ E', Tr E L w E' (updL L [(fid, .box T l)]) (w.alloc (.cells vs.toArray T)) ∧ vOk E' (updL L [(fid, .box T l)]) (w.alloc (.cells vs.toArray T)) (.ptr fid 0) (.pointer (some ⟨w.heap.size, 0, none⟩)) ∧
      ∀ o, oOk E' (updL L [(fid, .box T l)]) (w.alloc (.cells vs.toArray T)) o (updL L [(fid, .box T l)] o) := by
  obtain ⟨u1, u2⟩ := updL_one L fid (.box T l)
  let E' : Env := ⟨fun k => if k = w.heap.size then fid + 1 else E.f k, fun o => if o = fid then .pointer (some ⟨w.heap.size, 0, none⟩) else E.μ o, E.al⟩
  have hg : w.grownBy (w.alloc (.cells vs.toArray T)) none := World.grownBy_alloc w _ none
  have hf : ∀ k, k < w.heap.size → E'.f k = E.f k ∨ ∃ p, (fun _ : Nat => False) p ∧ E.f k = p + 1 := fun k hk => .inl (if_neg (by omega))
  have hμ : ∀ o, o ≠ fid → E'.μ o = E.μ o := fun o h => if_neg h
  have ht : Tr E L w E' (updL L [(fid, .box T l)]) (w.alloc (.cells vs.toArray T)) := Tr.gen (K := fun _ => False) (q := none) hg (fun k e => by cases e) hf (fun o h _ _ => by
    have : o ≠ fid := fun e => h (by rw [e]; exact hfid)
    exact ⟨hμ o this, u2 o this⟩) (fun _ h => h.elim) (fun _ h => by cases h)
  have hnew : (w.alloc (.cells vs.toArray T)).heap[w.heap.size]? = some (.cells vs.toArray T (0, 0)) := heap_alloc_new w _
  refine ⟨E', ht, ?_, fun o => ?_⟩
  · unfold vOk
    exact ⟨w.heap.size, ⟨T, l, u1⟩, if_pos rfl, rfl⟩
  · by_cases e : o = fid
    · subst e
      rw [u1]
      exact ⟨w.heap.size, vs, if_pos rfl, if_pos rfl, hnew, ht.cs _ _ hcs⟩
    · exact Tr.gen_o (K := fun _ => False) (q := none) ht hg (fun k e => by cases e) hf ho (fun e => by cases e) (fun h => h) (hμ o e) (u2 o e)
/-- A store into a box. -/
theorem box_set {o T : Nat} {cells l : List AV} {b : Nat} {vs us : List Value} (ho : ∀ o, oOk E L w o (L o)) (hob : L o = .box T cells) (hm : E.μ o = .pointer (some ⟨b, 0, none⟩)) (hfb : E.f b = o + 1) (hb : w.heap[b]? = some (.cells vs.toArray T (0, 0)))
    (hcs : csOk E L w l us) : Tr E L w E (updL L [(o, .box T l)]) (w.setRow b us.toArray) ∧ ∀ p, oOk E (updL L [(o, .box T l)]) (w.setRow b us.toArray) p (updL L [(o, .box T l)] p) := by
  obtain ⟨u1, u2⟩ := updL_one L o (.box T l)
  have hblk : ∀ k, E.f k ≠ o + 1 → (w.setRow b us.toArray).heap[k]? = w.heap[k]? := fun k hk => setRow_other w b k _ (fun e => by subst e; exact hk hfb)
  have ht : Tr E L w E (updL L [(o, .box T l)]) (w.setRow b us.toArray) := {
    size := by simp
    none := fun p h => by
      by_cases e : p = o
      · subst e; rw [u1]; exact fun e => by cases e
      · rw [u2 p e]; exact h
    box := fun p T' c h => by
      by_cases e : p = o
      · subst e
        rw [hob] at h
        injection h with h1 _
        subst h1
        exact ⟨⟨l, u1⟩, rfl⟩
      · exact ⟨⟨c, by rw [u2 p e, h]⟩, rfl⟩
    notRow := fun p h hn e t xs hv v0 v1 hh => by
      by_cases e' : p = o
      · subst e'; rw [u1]; exact fun e => by cases e
      · rw [u2 p e']; exact hn _ _ _ _ _ _ _
    row := fun p e t xs hv v0 v1 hh h => by
      have e' : p ≠ o := fun e' => by subst e'; rw [hob] at h; cases h
      refine .inr ⟨xs, hv, v0, v1, hh, by rw [u2 p e', h], Nat.le_refl _, Nat.le_refl _, Nat.le_refl _, fun _ => ⟨rfl, rfl⟩, fun _ k hk hf => ⟨hf, hblk k (by omega)⟩, fun _ k hk hf hs => ⟨hf, hs, hblk k (by omega)⟩, fun _ => rfl⟩
    froz := fun k hk h0 => ⟨h0, hblk k (by omega), Iff.rfl⟩ }
  refine ⟨ht, fun p => ?_⟩
  by_cases e : p = o
  · subst e
    rw [u1]
    exact ⟨b, us, hm, hfb, setRow_heap w b _ _ T _ hb, ht.cs _ _ hcs⟩
  · exact ht.o (ho p) (u2 p e) rfl (fun k hk hf => ⟨hf, hblk k (by omega)⟩)
theorem scOk_cast {s t : Ty} {y : s.den} {z : t.den} {u : Value} (h : Ty.cast s t y = some z) (hs : scOk s y u) : scOk t z u := by
  obtain ⟨e, rfl⟩ := cast_some h
  subst e
  exact hs
theorem all_memG {α : Type} {f : α → Bool} : ∀ {l : List α}, all f l = true → ∀ x ∈ l, f x = true
  | a :: r, h, x, hx => by
    unfold all at h
    rw [Bool.and_eq_true] at h
    rcases List.mem_cons.1 hx with rfl | hx
    · exact h.1
    · exact all_memG h.2 x hx
/-- A leaf of an element, written. -/
theorem put_ok {w : World} {base : Nat} {ok : Nat → Prop} {s : Ty} {y : s.den} {u : Value} (hs : scOk s y u) : ∀ (t : Ty) (x : t.den) (c : List Value) (j : Nat) (z : t.den), t.kd.M w base ok x c → putLeaf t x j s y = some z →
    t.kd.M w base ok z (c.take j ++ [u] ++ c.drop (j + 1)) ∧ j < t.sz
  | .int k, x, c, j, z, hM, h => by
    cases j with
    | zero =>
      have hc : c = [Value.int k x] := hM
      subst hc
      have := scOk_cast h hs
      exact ⟨by show [u] = [Value.int k z]; rw [show u = .int k z from this], Nat.one_pos⟩
    | succ j => cases h
  | .bool, x, c, j, z, hM, h => by
    cases j with
    | zero =>
      have hc : c = [Value.bool x] := hM
      subst hc
      have := scOk_cast h hs
      exact ⟨by show [u] = [Value.bool z]; rw [show u = .bool z from this], Nat.one_pos⟩
    | succ j => cases h
  | .str, x, c, j, z, hM, h => by
    cases j with
    | zero =>
      have hc : c = [Value.string x] := hM
      subst hc
      have := scOk_cast h hs
      exact ⟨by show [u] = [Value.string z]; rw [show u = .string z from this], Nat.one_pos⟩
    | succ j => cases h
  | .slice e t, x, c, j, z, hM, h => by cases j <;> cases h
  | .pair a b, x, c, j, z, hM, h => by
    obtain ⟨f, c0, c1, rfl, h0, h1⟩ := hM
    have hl := a.kd.K_len (a.kd.K_of_M h0)
    rw [Ty.kd_sz] at hl
    unfold putLeaf at h
    cases hj : Nat.ble a.sz j with
    | true =>
      rw [hj] at h
      have hle := Nat.le_of_ble_eq_true hj
      simp only [cond_true] at h
      cases hp : putLeaf b x.2 (j - a.sz) s y with
      | none => rw [hp] at h; cases h
      | some z' =>
        rw [hp] at h
        injection h with h
        subst h
        obtain ⟨g1, g2⟩ := put_ok hs b x.2 c1 _ z' h1 hp
        refine ⟨⟨f, c0, _, ?_, h0, g1⟩, by show j < a.sz + b.sz; omega⟩
        rw [List.take_append, List.drop_append, hl, List.take_of_length_le (by omega), List.drop_of_length_le (by omega), show j + 1 - a.sz = j - a.sz + 1 by omega]
        simp only [List.append_assoc, List.nil_append]
    | false =>
      rw [hj] at h
      have hlt : ¬ a.sz ≤ j := fun hle => by rw [Nat.ble_eq_true_of_le hle] at hj; cases hj
      simp only [cond_false] at h
      cases hp : putLeaf a x.1 j s y with
      | none => rw [hp] at h; cases h
      | some z' =>
        rw [hp] at h
        injection h with h
        subst h
        obtain ⟨g1, g2⟩ := put_ok hs a x.1 c0 _ z' h0 hp
        refine ⟨⟨f, _, c1, ?_, g1, h1⟩, by show j < a.sz + b.sz; omega⟩
        rw [List.take_append_of_le_length (by omega), List.drop_append_of_le_length (by omega)]
        simp only [List.append_assoc]
theorem run_store_cells {b : Nat} {t : Nat} {vs us : List Value} {j : Nat} {v : Value} (hT : TOk P T i) (hb : w.heap[b]? = some (.cells vs.toArray t (0, 0))) (hv : v.cells.toList = us) (hsz : us.length = i.ty.sz) (hl : j + us.length ≤ vs.length) (h1 : ∀ u ∈ us, u.oneCell' = true) :
    (Instr.storeAt T (.pointer (some ⟨b, j, none⟩)) v).run P w = .ok () (w.setRow b (vs.take j ++ us ++ vs.drop (j + us.length)).toArray) := by
  have hst := run_storeCells_at P b j t us 0 vs.toArray w hb (by simpa using hl) h1
  have hs : v.cells.size = i.ty.sz := by rw [← Array.length_toList, hv, hsz]
  simp only [Nat.add_zero] at hst
  simp [Instr.storeAt, Instr.sureAddr, storeVar, run_sizeT hT, hs, hv, hst]
/-- what blocks some objects have -/
def colOf (E : Env) (os : List Nat) (k : Nat) : Prop := ∃ p ∈ os, E.f k = p + 1
theorem toDen_ok (ho : ∀ o, oOk E L w o (L o)) : ∀ (t : Ty) (l : List AV) (cs : List Value) (z : t.den) (os : List Nat) (r : List AV), csOk E L w l cs → toDen L t l = some (z, os, r) →
    ∃ c cr, cs = c ++ cr ∧ t.kd.M w 0 (colOf E os) z c ∧ csOk E L w r cr ∧ (∀ p ∈ os, ∃ e t xs hv v0 v1, L p = .row e t xs hv v0 v1 none)
  | .int k, l, cs, z, os, r, h, hd => by
    simp only [toDen] at hd
    split at hd
    all_goals first | (cases hd; done) | skip
    rename_i s x r'
    obtain ⟨u, q, rfl, g1, _, g3⟩ := h
    cases hc : Ty.cast s (.int k) x with
    | none => rw [hc] at hd; cases hd
    | some y =>
      rw [hc] at hd
      simp only [Option.map_some, Option.some.injEq, Prod.mk.injEq] at hd
      obtain ⟨rfl, rfl, rfl⟩ := hd
      unfold vOk at g1
      have := scOk_cast hc g1
      exact ⟨[u], q, rfl, by show [u] = [Value.int k _]; rw [show u = .int k _ from this], g3, fun p hp => by cases hp⟩
  | .bool, l, cs, z, os, r, h, hd => by
    simp only [toDen] at hd
    split at hd
    all_goals first | (cases hd; done) | skip
    rename_i s x r'
    obtain ⟨u, q, rfl, g1, _, g3⟩ := h
    cases hc : Ty.cast s .bool x with
    | none => rw [hc] at hd; cases hd
    | some y =>
      rw [hc] at hd
      simp only [Option.map_some, Option.some.injEq, Prod.mk.injEq] at hd
      obtain ⟨rfl, rfl, rfl⟩ := hd
      unfold vOk at g1
      have := scOk_cast hc g1
      exact ⟨[u], q, rfl, by show [u] = [Value.bool _]; rw [show u = .bool _ from this], g3, fun p hp => by cases hp⟩
  | .str, l, cs, z, os, r, h, hd => by
    simp only [toDen] at hd
    split at hd
    all_goals first | (cases hd; done) | skip
    rename_i s x r'
    obtain ⟨u, q, rfl, g1, _, g3⟩ := h
    cases hc : Ty.cast s .str x with
    | none => rw [hc] at hd; cases hd
    | some y =>
      rw [hc] at hd
      simp only [Option.map_some, Option.some.injEq, Prod.mk.injEq] at hd
      obtain ⟨rfl, rfl, rfl⟩ := hd
      unfold vOk at g1
      have := scOk_cast hc g1
      exact ⟨[u], q, rfl, by show [u] = [Value.string _]; rw [show u = .string _ from this], g3, fun p hp => by cases hp⟩
  | .slice e t, l, cs, z, os, r, h, hd => by
    simp only [toDen] at hd
    split at hd
    all_goals first | (cases hd; done) | skip
    · rename_i r'
      obtain ⟨u, q, rfl, g1, _, g3⟩ := h
      injection hd with hd
      injection hd with h1 hd
      injection hd with h2 h3
      subst h1; subst h2; subst h3
      unfold vOk at g1
      subst g1
      exact ⟨[_], q, rfl, Kd.M_row (Kd.R_nil _ _ _ _ _), g3, fun p hp => by cases hp⟩
    · rename_i o hv r'
      obtain ⟨u, q, rfl, g1, _, g3⟩ := h
      split at hd
      · rename_i e' t' xs hv' v0 v1 hob
        cases hb : Nat.beq hv hv' with
        | false => rw [hb] at hd; cases hd
        | true =>
          rw [hb] at hd
          simp only [cond_true] at hd
          cases hc : Ty.cast (.slice e' t') (.slice e t) xs with
          | none => rw [hc] at hd; cases hd
          | some y =>
            rw [hc] at hd
            simp only [Option.map_some, Option.some.injEq, Prod.mk.injEq] at hd
            obtain ⟨rfl, rfl, rfl⟩ := hd
            obtain ⟨_, hS⟩ := own_val ho g1 hob hb
            obtain ⟨ee, hy⟩ := cast_some hc
            injection ee with e1 e2
            subst e1; subst e2
            have hy : xs = y := hy
            subst hy
            exact ⟨[u], q, rfl, Kd.M_row (Kd.R_mono (Kd.S_R hS) (fun k hk => ⟨o, List.mem_singleton.2 rfl, hk⟩)), g3, fun p hp => by rw [List.mem_singleton.1 hp]; exact ⟨_, _, _, _, _, _, hob⟩⟩
      · cases hd
  | .pair a b, l, cs, z, os, r, h, hd => by
    unfold toDen at hd
    split at hd
    · rename_i x os1 r1 h1
      split at hd
      · rename_i y os2 r2 h2
        cases hap : all (fun p => all (fun q => !Nat.beq p q) os1) os2 with
        | false => rw [hap] at hd; cases hd
        | true =>
        rw [hap, cond_true] at hd
        injection hd with hd
        injection hd with e1 hd
        injection hd with e2 e3
        subst e1; subst e2; subst e3
        obtain ⟨c, cr, rfl, m1, q1, o1⟩ := toDen_ok ho a l cs x os1 r1 h h1
        obtain ⟨c', cr', rfl, m2, q2, o2⟩ := toDen_ok ho b r1 cr y os2 r2 q1 h2
        classical
        refine ⟨c ++ c', cr', by rw [List.append_assoc], ⟨fun k => decide (colOf E os1 k), c, c', rfl, a.kd.M_mono (fun k hk => ?_) m1, b.kd.M_mono (fun k hk => ?_) m2⟩, q2, fun p hp => (List.mem_append.1 hp).elim (o1 p) (o2 p)⟩
        · refine ⟨?_, decide_eq_true hk⟩
          obtain ⟨p, hp, hk⟩ := hk
          exact ⟨p, List.mem_append_left _ hp, hk⟩
        · obtain ⟨p, hp, hk⟩ := hk
          refine ⟨⟨p, List.mem_append_right _ hp, hk⟩, decide_eq_false (fun h2 => ?_)⟩
          obtain ⟨p2, hp2, hk2⟩ := h2
          have hne := all_memG (all_memG hap p hp) p2 hp2
          have : p = p2 := by omega
          subst this
          rw [beq_of rfl] at hne
          cases hne
      · cases hd
    · cases hd
end
end Go.Eng
/-
The engine, part 8: stores, new blocks, rows made.
-/
set_option linter.unusedVariables false
set_option linter.unusedSimpArgs false
namespace Go.Eng
open Go Go.RowKit Go.Proofs.YtoancfhhlmkcbaaW.PrintWords
open Classical
/-- Memory has moved on. -/
def Moved (P : Program) (E : Env) (L : Lk) (w : World) (L' : Lk) (E' : Env) (w' : World) : Prop :=
  Tr E L w E' L' w' ∧ (∀ o, oOk E' L' w' o (L' o)) ∧ w'.os = w.os ∧ w'.tape = w.tape ∧ w'.output = w.output
section
variable {P : Program} {E : Env} {L : Lk} {w : World} {rec : Rec} {T : Nat} {i : TInf}
theorem all_mem {α : Type} {p : α → Bool} : ∀ {l : List α}, all p l = true → ∀ a ∈ l, p a = true
  | [], _, _, h => by cases h
  | b :: r, h, a, ha => by
    unfold all at h
    rw [Bool.and_eq_true] at h
    rcases List.mem_cons.1 ha with rfl | ha
    · exact h.1
    · exact all_mem h.2 a ha
/-- A segment of an element of a row of the call's own, written; objects moved in. -/
theorem elt_set {o : Nat} {e : Nat} {t : Ty} {xs : List t.den} {hv v0 v1 : Nat} {g n c : Nat} {ix : Int} {j : Nat} {us : List Value} {z : t.den} {os : List Nat} (ho : ∀ o, oOk E L w o (L o)) (hob : L o = .row e t xs hv v0 v1 none) (hm : E.μ o = .slice (some ⟨g, 0, none⟩) n c)
    (h0 : 0 ≤ ix) (h1 : ix < (xs.length : Int)) (hos : ∀ p ∈ os, p ≠ o ∧ ∃ e t xs hv v0 v1, L p = .row e t xs hv v0 v1 none) (hj : j + us.length ≤ t.sz) (hus : ∀ u ∈ us, u.oneCell' = true)
    (hM : ∀ (oki : Nat → Prop) (cs : List Value), cs.length = t.sz → (∀ k, oki k → ¬ colOf E os k) → t.kd.M w 0 oki (xs.getD ix.toNat t.zero) cs → t.kd.M w 0 (fun k => oki k ∨ colOf E os k) z (cs.take j ++ us ++ cs.drop (j + us.length))) :
    ∃ E', Moved P E L w (updL L (killed os ++ [(o, .row e t (xs.set ix.toNat z) hv (v0 + 1) v1 none)])) E' (w.setCells g (ix.toNat * t.sz + j) us) ∧
      (storeCells ⟨g, ix.toNat * t.sz + j, none⟩ us).run P w = .ok () (w.setCells g (ix.toNat * t.sz + j) us) := by
  have hoo := ho o
  rw [hob] at hoo
  have hS : Kd.S t.kd e w 0 (fun k => E.f k = o + 1) (E.μ o) xs := hoo
  let E' : Env := ⟨fun k => if colOf E os k then o + 1 else E.f k, E.μ, E.al⟩
  have hno : ∀ k, E.f k = o + 1 → ¬ colOf E os k := fun k hk hc => by
    obtain ⟨p, hp, hc⟩ := hc
    exact (hos p hp).1 (by omega)
  have hS2 : Kd.S t.kd e w 0 (fun k => E'.f k = o + 1 ∧ ¬ colOf E os k) (E.μ o) xs := Kd.S_mono hS (fun k hk => ⟨by show (if colOf E os k then o + 1 else E.f k) = o + 1; rw [if_neg (hno k hk)]; exact hk, hno k hk⟩)
  rw [hm] at hS2 hS
  have hn := (Kd.S_reads' hS).1
  have hgo : E.f g = o + 1 := (Kd.S_R hS).1 g (by simp [Value.ownBlock])
  obtain ⟨oki, cs, hcl, hMM, hcc, hfr, hoki, hH⟩ := Kd.S_elem hS2 t.zero ix h0 (by omega)
  rw [Ty.kd_sz] at hcl hcc hfr
  have hseg := Kd.S_seg (okg := colOf E os) hH h0 (by omega) (seg := us) (j := j) (by rw [Ty.kd_sz]; exact hj) (hM oki cs hcl (fun k hk => (hoki k hk).1.2) hMM) (fun _ hk => hk) (fun k hk => ⟨if_pos hk, fun e => by subst e; exact hno _ hgo hk⟩)
  rw [Ty.kd_sz] at hseg
  obtain ⟨hS', hg⟩ := hseg
  have hq : ∀ p, updL L (killed os ++ [(o, Ob.row e t (xs.set ix.toNat z) hv (v0 + 1) v1 none)]) p = if p = o then .row e t (xs.set ix.toNat z) hv (v0 + 1) v1 none else if p ∈ os then .dead else L p := fun p => by
    rw [updL_app]
    obtain ⟨u1, u2⟩ := updL_one (updL L (killed os)) o (.row e t (xs.set ix.toNat z) hv (v0 + 1) v1 none)
    by_cases ep : p = o
    · subst ep; rw [u1, if_pos rfl]
    · rw [u2 p ep, if_neg ep, updL_killed]
  have hrow : ∀ k, (some g : Option Nat) = some k → ∃ o', (some o : Option Nat) = some o' ∧ E.f k = o' + 1 ∧ some k = (E.μ o').ownBlock := fun k hk => by
    injection hk with hk
    subst hk
    exact ⟨o, rfl, hgo, by rw [hm]; rfl⟩
  have hf : ∀ k, k < w.heap.size → E'.f k = E.f k ∨ ∃ p, p ∈ os ∧ E.f k = p + 1 := fun k _ => by
    by_cases hc : colOf E os k
    · exact .inr hc
    · exact .inl (if_neg hc)
  have hlen : (xs.set ix.toNat z).length = xs.length := List.length_set
  have hK : ∀ p, p ∈ os → (∃ e t xs hv v0 v1, L p = .row e t xs hv v0 v1 none) ∧ updL L (killed os ++ [(o, Ob.row e t (xs.set ix.toNat z) hv (v0 + 1) v1 none)]) p = .dead := fun p hp => ⟨(hos p hp).2, by rw [hq p, if_neg (hos p hp).1, if_pos hp]⟩
  have hrest : ∀ p, p ≠ o → ¬ p ∈ os → updL L (killed os ++ [(o, Ob.row e t (xs.set ix.toNat z) hv (v0 + 1) v1 none)]) p = L p := fun p h1 h2 => by rw [hq p, if_neg h1, if_neg h2]
  have hht : Tr E L w E' (updL L (killed os ++ [(o, Ob.row e t (xs.set ix.toNat z) hv (v0 + 1) v1 none)])) (w.setCells g (ix.toNat * t.sz + j) us) :=
    Tr.gen (K := fun p => p ∈ os) (q := some o) hg hrow hf (fun p hp hne hk => ⟨rfl, hrest p (fun ep => hne (by rw [ep])) hk⟩) hK (fun p hp => by
      injection hp with hp
      subst hp
      exact ⟨(fun h => (hos o h).1 rfl), e, t, xs, hv, v0, v1, xs.set ix.toNat z, hv, v0 + 1, hob, by rw [hq o, if_pos rfl], .inr ⟨rfl, rfl, hlen⟩, by omega, fun k _ _ h => h⟩)
  refine ⟨E', ⟨hht, fun p => ?_, hg.os, hg.tape, hg.output⟩, ?_⟩
  · by_cases ep : p = o
    · subst ep
      rw [hq p, if_pos rfl]
      show Kd.S t.kd e _ 0 _ (E.μ p) _
      rw [hm]
      exact hS'
    · by_cases eo : p ∈ os
      · rw [(hK p eo).2]; trivial
      · exact Tr.gen_o (K := fun p => p ∈ os) (q := some o) hht hg hrow hf ho (fun e => ep (by injection e with e; exact e.symm)) eo rfl (hrest p ep eo)
  · have := run_storeCells_cells (P := P) g (ix.toNat * t.sz + j) us 0 w (fun k hk => ?_) (fun k hk => ?_) hus
    · rw [Nat.add_zero] at this; exact this
    · have hlt : j + k < cs.length := by omega
      rw [Nat.add_zero, Nat.add_assoc, hcc (j + k) _ (List.getElem?_eq_getElem hlt)]
      rfl
    · rw [Nat.add_zero, Nat.add_assoc]
      exact hfr (j + k)
/-- A new row. -/
theorem new_row {fid e : Nat} {t : Ty} {xs : List t.den} {v : Value} {w' : World} {os : List Nat} (ho : ∀ o, oOk E L w o (L o)) (hfid : L fid = .none) (hg : w.grownBy w' none) (hos : ∀ p ∈ os, ∃ e t xs hv v0 v1, L p = .row e t xs hv v0 v1 none)
    (hS : Kd.S t.kd e w' 0 (fun k => w.heap.size ≤ k ∨ colOf E os k) v xs) :
    ∃ E', Moved P E L w (updL L (killed os ++ [(fid, .row e t xs 0 0 0 none)])) E' w' ∧ vOk E' (updL L (killed os ++ [(fid, .row e t xs 0 0 0 none)])) w' (.own fid 0) v := by
  let E' : Env := ⟨fun k => if w.heap.size ≤ k ∨ colOf E os k then fid + 1 else E.f k, fun o => if o = fid then v else E.μ o, E.al⟩
  have hne : ∀ p ∈ os, p ≠ fid := fun p hp e => by subst e; obtain ⟨_, _, _, _, _, _, h⟩ := hos p hp; rw [hfid] at h; cases h
  have hq : ∀ p, updL L (killed os ++ [(fid, Ob.row e t xs 0 0 0 none)]) p = if p = fid then .row e t xs 0 0 0 none else if p ∈ os then .dead else L p := fun p => by
    rw [updL_app]
    obtain ⟨u1, u2⟩ := updL_one (updL L (killed os)) fid (.row e t xs 0 0 0 none)
    by_cases ep : p = fid
    · subst ep; rw [u1, if_pos rfl]
    · rw [u2 p ep, if_neg ep, updL_killed]
  have hf : ∀ k, k < w.heap.size → E'.f k = E.f k ∨ ∃ p, p ∈ os ∧ E.f k = p + 1 := fun k hk => by
    by_cases hc : colOf E os k
    · exact .inr hc
    · exact .inl (if_neg (fun h => h.elim (by omega) hc))
  have hK : ∀ p, p ∈ os → (∃ e t xs hv v0 v1, L p = .row e t xs hv v0 v1 none) ∧ updL L (killed os ++ [(fid, Ob.row e t xs 0 0 0 none)]) p = .dead := fun p hp => ⟨hos p hp, by rw [hq p, if_neg (hne p hp), if_pos hp]⟩
  have hrest : ∀ p, p ≠ fid → ¬ p ∈ os → E'.μ p = E.μ p ∧ updL L (killed os ++ [(fid, Ob.row e t xs 0 0 0 none)]) p = L p := fun p h1 h2 => ⟨if_neg h1, by rw [hq p, if_neg h1, if_neg h2]⟩
  have ht := Tr.gen (E' := E') (K := fun p => p ∈ os) (q := none) hg (fun k e => by cases e) hf (fun p hp _ hk => hrest p (fun ep => hp (by rw [ep]; exact hfid)) hk) hK (fun p h => by cases h)
  refine ⟨E', ⟨ht, fun p => ?_, hg.os, hg.tape, hg.output⟩, ?_⟩
  · by_cases ep : p = fid
    · subst ep
      rw [hq p, if_pos rfl]
      show Kd.S t.kd e w' 0 _ (if p = p then v else _) xs
      rw [if_pos rfl]
      exact Kd.S_mono hS (fun k hk => if_pos hk)
    · by_cases eo : p ∈ os
      · rw [(hK p eo).2]; trivial
      · exact Tr.gen_o (K := fun p => p ∈ os) (q := none) ht hg (fun k e => by cases e) hf ho (fun e => by cases e) eo (hrest p ep eo).1 (hrest p ep eo).2
  · unfold vOk
    obtain ⟨A, c, e1, _⟩ := S_shape hS
    rw [hq fid, if_pos rfl]
    exact ⟨by rw [e1]; rfl, Nat.le_refl _, fun _ => (if_pos rfl).symm⟩
/-- A row that has grown. -/
theorem grown_row {o e : Nat} {t : Ty} {xs xs' : List t.den} {hv v0 v1 : Nat} {v' : Value} {w' : World} {os : List Nat} (ho : ∀ o, oOk E L w o (L o)) (hob : L o = .row e t xs hv v0 v1 none) (hg : w.grownBy w' (E.μ o).ownBlock) (hos : ∀ p ∈ os, p ≠ o ∧ ∃ e t xs hv v0 v1, L p = .row e t xs hv v0 v1 none)
    (hS : Kd.S t.kd e w' 0 (fun k => E.f k = o + 1 ∨ colOf E os k ∨ w.heap.size ≤ k) v' xs') (hat : v'.ownBlock = (E.μ o).ownBlock ∨ ∃ b, v'.ownBlock = some b ∧ w.heap.size ≤ b) :
    ∃ E', Moved P E L w (updL L (killed os ++ [(o, .row e t xs' (hv + 1) (v0 + 1) v1 none)])) E' w' ∧ vOk E' (updL L (killed os ++ [(o, .row e t xs' (hv + 1) (v0 + 1) v1 none)])) w' (.own o (hv + 1)) v' := by
  let E' : Env := ⟨fun k => if w.heap.size ≤ k ∨ colOf E os k then o + 1 else E.f k, fun p => if p = o then v' else E.μ p, E.al⟩
  have hoo := ho o
  rw [hob] at hoo
  have hS0 : Kd.S t.kd e w 0 (fun k => E.f k = o + 1) (E.μ o) xs := hoo
  have hq : ∀ p, updL L (killed os ++ [(o, Ob.row e t xs' (hv + 1) (v0 + 1) v1 none)]) p = if p = o then .row e t xs' (hv + 1) (v0 + 1) v1 none else if p ∈ os then .dead else L p := fun p => by
    rw [updL_app]
    obtain ⟨u1, u2⟩ := updL_one (updL L (killed os)) o (.row e t xs' (hv + 1) (v0 + 1) v1 none)
    by_cases ep : p = o
    · subst ep; rw [u1, if_pos rfl]
    · rw [u2 p ep, if_neg ep, updL_killed]
  have hrow : ∀ k, (E.μ o).ownBlock = some k → ∃ o', (some o : Option Nat) = some o' ∧ E.f k = o' + 1 ∧ some k = (E.μ o').ownBlock := fun k hk => ⟨o, rfl, (Kd.S_R hS0).1 k hk, hk.symm⟩
  have hf : ∀ k, k < w.heap.size → E'.f k = E.f k ∨ ∃ p, p ∈ os ∧ E.f k = p + 1 := fun k hk => by
    by_cases hc : colOf E os k
    · exact .inr hc
    · exact .inl (if_neg (fun h => h.elim (by omega) hc))
  have hK : ∀ p, p ∈ os → (∃ e t xs hv v0 v1, L p = .row e t xs hv v0 v1 none) ∧ updL L (killed os ++ [(o, Ob.row e t xs' (hv + 1) (v0 + 1) v1 none)]) p = .dead := fun p hp => ⟨(hos p hp).2, by rw [hq p, if_neg (hos p hp).1, if_pos hp]⟩
  have hrest : ∀ p, p ≠ o → ¬ p ∈ os → E'.μ p = E.μ p ∧ updL L (killed os ++ [(o, Ob.row e t xs' (hv + 1) (v0 + 1) v1 none)]) p = L p := fun p h1 h2 => ⟨if_neg h1, by rw [hq p, if_neg h1, if_neg h2]⟩
  have hμo : E'.μ o = v' := if_pos rfl
  have ht := Tr.gen (E' := E') (K := fun p => p ∈ os) (q := some o) hg hrow hf (fun p hp hne hk => hrest p (fun ep => hne (by rw [ep])) hk) hK (fun p hp => by
    injection hp with hp
    subst hp
    refine ⟨(fun h => (hos o h).1 rfl), e, t, xs, hv, v0, v1, xs', hv + 1, v0 + 1, hob, by rw [hq o, if_pos rfl], .inl (by omega), by omega, fun k hk _ hs => ?_⟩
    rw [hμo]
    rcases hat with hat | ⟨b, hb, hle⟩
    · rw [hat]; exact hs
    · rw [hb]
      intro e
      injection e with e
      omega)
  refine ⟨E', ⟨ht, fun p => ?_, hg.os, hg.tape, hg.output⟩, ?_⟩
  · by_cases ep : p = o
    · subst ep
      rw [hq p, if_pos rfl]
      show Kd.S t.kd e w' 0 _ (E'.μ p) xs'
      rw [hμo]
      exact Kd.S_mono hS (fun k hk => by
        show (if w.heap.size ≤ k ∨ colOf E os k then p + 1 else E.f k) = p + 1
        by_cases hc : w.heap.size ≤ k ∨ colOf E os k
        · rw [if_pos hc]
        · rw [if_neg hc]
          rcases hk with hk | hk | hk
          · exact hk
          · exact absurd (.inr hk) hc
          · exact absurd (.inl hk) hc)
    · by_cases eo : p ∈ os
      · rw [(hK p eo).2]; trivial
      · exact Tr.gen_o (K := fun p => p ∈ os) (q := some o) ht hg hrow hf ho (fun e => ep (by injection e with e; exact e.symm)) eo (hrest p ep eo).1 (hrest p ep eo).2
  · unfold vOk
    obtain ⟨A, c, e1, _⟩ := S_shape hS
    rw [hq o, if_pos rfl]
    exact ⟨by rw [e1]; rfl, Nat.le_refl _, fun _ => hμo.symm⟩
theorem flat_M {w w' : World} {base : Nat} {ok : Nat → Prop} : ∀ (t : Ty) (x : t.den) (c : List Value), t.flat = true → t.kd.K w x c → t.kd.M w' base ok x c
  | .int _, _, _, _, h => h
  | .bool, _, _, _, h => h
  | .str, _, _, _, h => h
  | .slice _ _, _, _, h, _ => by cases h
  | .pair a b, x, c, hf, ⟨c0, c1, e, h0, h1⟩ => by
    unfold Ty.flat at hf
    rw [Bool.and_eq_true] at hf
    exact ⟨fun _ => true, c0, c1, e, flat_M a _ _ hf.1 h0, flat_M b _ _ hf.2 h1⟩
theorem sz_pos : ∀ t : Ty, 0 < t.sz
  | .int _ | .bool | .str | .slice _ _ => Nat.one_pos
  | .pair a b => by show 0 < a.sz + b.sz; have := sz_pos a; omega
theorem cellsOk_len : ∀ {vs : List Value} {l : List AV}, cellsOk vs l = true → vs.length = l.length
  | [], [], _ => rfl
  | v :: r, a :: l, h => by
    unfold cellsOk at h
    rw [Bool.and_eq_true] at h
    rw [List.length_cons, List.length_cons, cellsOk_len h.2]
  | [], _ :: _, h => by cases h
  | _ :: _, [], h => by cases h
theorem zeroCells_len : ∀ t : Ty, (zeroCells t).length = t.sz
  | .int _ | .bool | .str | .slice _ _ => rfl
  | .pair a b => by show (zeroCells a ++ zeroCells b).length = _; rw [List.length_append, zeroCells_len a, zeroCells_len b]; rfl
theorem Ty.tag_sz (f : Nat → Nat) (t : Ty) : (Kd.tag f t.kd).sz = t.sz := Ty.kd_sz t
/-- A row that is written in its own block. -/
theorem row_over {o e : Nat} {t : Ty} {xs xs' : List t.den} {hv v0 v1 : Nat} {w' : World} (ho : ∀ o, oOk E L w o (L o)) (hob : L o = .row e t xs hv v0 v1 none) (hg : w.grownBy w' (E.μ o).ownBlock)
    (hS : Kd.S t.kd e w' 0 (fun k => E.f k = o + 1) (E.μ o) xs') (hlen : xs'.length = xs.length) :
    Moved P E L w (updL L [(o, .row e t xs' hv (v0 + 1) v1 none)]) E w' := by
  have hoo := ho o
  rw [hob] at hoo
  have hS0 : Kd.S t.kd e w 0 (fun k => E.f k = o + 1) (E.μ o) xs := hoo
  obtain ⟨u1, u2⟩ := updL_one L o (.row e t xs' hv (v0 + 1) v1 none)
  have ht := Tr.gen (E' := E) (L' := updL L [(o, .row e t xs' hv (v0 + 1) v1 none)]) (K := fun _ => False) (q := some o) hg (fun k hk => ⟨o, rfl, (Kd.S_R hS0).1 k hk, hk.symm⟩) (fun k _ => .inl rfl) (fun p hp hne _ => ⟨rfl, u2 p (fun e => hne (by rw [e]))⟩) (fun p hp => hp.elim) (fun p hp => by
    injection hp with hp
    subst hp
    exact ⟨fun h => h, e, t, xs, hv, v0, v1, xs', hv, v0 + 1, hob, u1, .inr ⟨rfl, rfl, hlen⟩, Nat.lt_succ_self _, fun k _ _ h => h⟩)
  refine ⟨ht, fun p => ?_, hg.os, hg.tape, hg.output⟩
  by_cases ep : p = o
  · subst ep
    rw [u1]
    exact hS
  · refine ht.o (ho p) (u2 p ep) rfl (fun k hk hf => ⟨hf, hg.block k hk (fun e => ?_)⟩)
    have := (Kd.S_R hS0).1 k e.symm
    omega
/-- append, as a run. -/
theorem app_row {e : Nat} {t : Ty} {ty : TypeId} {xs ys : List t.den} {ok okp : Nat → Prop} {v : Value} {A : Option Addr} {c : Nat} {news : List Value} (fy : Nat → Nat) (hT : TOk P T i) (hi : i.ty = .slice e t) (HO : Kd.S t.kd e w 0 ok v xs) (hap : ∀ k, okp k → ¬ ok k)
    (hrl : news.length = ys.length * t.sz) (hrep : ∀ j y, ys[j]? = some y → t.kd.M w 0 (fun k => okp k ∧ fy k = j) y ((news.drop (j * t.sz)).take t.sz)) (hA : 0 < ys.length → ∃ ad, A = some ad ∧ ∀ j u, news[j]? = some u → w.cell? (ad.add j) = some u) (hl : (xs.length + ys.length) * i.bytes ≤ 140737488355328) :
    ∃ v' w', (Builtin.append_ #[T, T] ty #[v, .slice A ys.length c]).run P w = .ok v' w' ∧ Kd.S t.kd e w' 0 (fun k => ok k ∨ okp k ∨ w.heap.size ≤ k) v' (xs ++ ys) ∧ w.grownBy w' v.ownBlock ∧ (v'.ownBlock = v.ownBlock ∨ ∃ b, v'.ownBlock = some b ∧ w.heap.size ≤ b) := by
  obtain ⟨hu, j0, z, hj, hs, hby, hb0, hz, hzc⟩ := hT.slc e t hi
  rcases Nat.eq_zero_or_pos ys.length with h0 | h0
  · obtain rfl : ys = [] := List.eq_nil_of_length_eq_zero h0
    refine ⟨v, w, ?_, by rw [List.append_nil]; exact Kd.S_mono HO (fun _ h => .inl h), World.grownBy.refl w _, .inl rfl⟩
    obtain ⟨_, inner, hown, _⟩ := Kd.S_R HO
    rcases hown.2 with ⟨rfl, hn⟩ | ⟨g, cap, cur, rfl, _, _, hnc, _⟩
    · cases A <;> simp [Builtin.append_, run_underlying hu, sizeOf, typeInfo, hj, Builtin.lenOf, Builtin.firstCells, loadCells, loadCellsFrom]
    · cases A <;> simp [Builtin.append_, run_underlying hu, sizeOf, typeInfo, hj, Builtin.lenOf, Builtin.firstCells, hnc, storeCells, loadCells, loadCellsFrom]
  · obtain ⟨ad, rfl, hcell⟩ := hA h0
    obtain ⟨f0, hR0⟩ := HO
    obtain ⟨f, hft, hfo⟩ : ∃ f : Nat → Nat, (∀ k, okp k → f k = xs.length + fy k) ∧ (∀ k, ok k → f k = f0 k) := by
      classical
      exact ⟨fun k => if okp k then xs.length + fy k else f0 k, fun k hk => if_pos hk, fun k hk => if_neg (fun h2 => hap k h2 hk)⟩
    obtain ⟨hok, inner, hown, hr⟩ := Kd.R_tag hR0 (fun k hk _ => hfo k hk)
    rw [List.length_zipIdx] at hown
    have hzs : z.cells.size = t.sz := by rw [← Array.length_toList, cellsOk_len hzc, zeroCells_len]
    have hone' : ∀ u ∈ news, u.oneCell' = true := by
      intro u hu
      obtain ⟨q, hq, rfl⟩ := List.mem_iff_getElem.1 hu
      have hql : q / t.sz < ys.length := by
        rw [Nat.div_lt_iff_lt_mul (sz_pos t), ← hrl]
        exact hq
      have hc := hrep (q / t.sz) _ (List.getElem?_eq_getElem hql)
      refine t.kd.K_one (t.kd.K_of_M hc) _ ?_
      rw [List.mem_iff_getElem?]
      refine ⟨q % t.sz, ?_⟩
      rw [List.getElem?_take, if_pos (Nat.mod_lt _ (sz_pos t)), List.getElem?_drop, Nat.mul_comm, Nat.div_add_mod, List.getElem?_eq_getElem hq]
    have hlen : xs.length + ys.length ≤ 140737488355328 := Nat.le_trans (Nat.le_mul_of_pos_right _ hb0) hl
    obtain ⟨v1, w1, hrun, h2, hg, _, hat⟩ := run_append_own_at (P := P) w 0 T ty e j0 z t.sz i.bytes hu hj hz hs hby hzs (sz_pos t) v xs.length inner (by rw [Ty.tag_sz] at hown; exact hown) ad ys.length c news hrl hcell hone' (by simp only [maxLen]; omega) hl (Nat.zero_le _)
    have hat' : v1.ownBlock = v.ownBlock ∨ ∃ b, v1.ownBlock = some b ∧ w.heap.size ≤ b := by
      rcases hat with hat | hat
      · exact .inl hat
      · exact .inr ⟨_, hat, Nat.le_refl _⟩
    have hne : ∀ k, some k ≠ v.ownBlock → k < w.heap.size → some k ≠ v1.ownBlock := by
      intro k hk hlt
      rcases hat' with hat | ⟨b, hb, hle⟩
      · rw [hat]; exact hk
      · rw [hb]
        intro he
        injection he with he
        omega
    have step : ∀ {q : t.den} {n : Nat} {c : List Value} {o : Nat → Prop}, t.kd.M w 0 o q c → (∀ k, o k → ((ok k ∨ okp k ∨ w.heap.size ≤ k) ∧ some k ≠ v.ownBlock) ∧ f k = n) → (Kd.tag f t.kd).M w1 0 (fun k => (ok k ∨ okp k ∨ w.heap.size ≤ k) ∧ some k ≠ v1.ownBlock) (q, n) c := by
      intro q n c o hq ho
      have h1 := t.kd.M_move (w1 := w1) (fun k hk => hg.block k hk.2.2.1 (ho k hk.1).1.2) (t.kd.M_bound hq)
      exact t.kd.M_mono (fun k hk => ⟨⟨(ho k hk.1).1.1, hne k (ho k hk.1).1.2 hk.2.2.1⟩, (ho k hk.1).2⟩) h1
    refine ⟨v1, w1, hrun, ⟨f, fun k hk => ?_, inner ++ news, ?_, ?_⟩, hg, hat'⟩
    · rcases hat' with hat | ⟨b, hb, hle⟩
      · rw [hat] at hk; exact .inl (hok k hk)
      · rw [hb] at hk
        injection hk with hk
        exact .inr (.inr (by omega))
    · rw [List.length_zipIdx, List.length_append, Ty.tag_sz]; exact h2
    · rw [List.zipIdx_append]
      refine Kd.reps_append (hr.imp_ (fun p c hq => step hq (fun k hk => ⟨⟨.inl hk.1.1, hk.1.2⟩, hk.2⟩))) ?_
      rw [Nat.zero_add, Ty.tag_sz]
      refine ⟨by rw [List.length_zipIdx]; exact hrl, fun j p hj => ?_⟩
      rw [List.getElem?_zipIdx] at hj
      obtain ⟨y, hy, rfl⟩ := Option.map_eq_some_iff.1 hj
      refine step (hrep j y hy) (fun k hk => ?_)
      exact ⟨⟨.inr (.inl hk.1), fun he => hap k hk.1 (hok k he.symm)⟩, by rw [hft k hk.1, hk.2]⟩
end
end Go.Eng
