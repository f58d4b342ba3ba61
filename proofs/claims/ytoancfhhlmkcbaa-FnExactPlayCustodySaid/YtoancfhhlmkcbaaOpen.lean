/- What an argument reads as: a value that reads as data of a type is, cell by cell, what the print's kinds say of it. -/
import Derived.Test.YtoancfhhlmkcbaaWWords
import Derived.Deep.Slices
import Derived.ChangeArms
import Derived.WideShapes
set_option linter.unusedVariables false
namespace Go.Proofs.Ytoancfhhlmkcbaa.Open
open Go.RowKit Go.ChangeShapes Go.WideShapes Go.Deep Go.Proofs.YtoancfhhlmkcbaaW.PrintWords

/-- What reads at type t reads as kind d, and ok is so of it. -/
def Opens {α : Type} (P : Program) (W : World) (t : TypeId) (d : Kd α) (ok : α → Prop) : Prop :=
  P.cellsOf t = d.sz ∧ ∀ (H : Type) (enc : TypeId × Value → H) (base : Nat) (spare : Nat → Bool) (held : Bool) (n : Nat) (cs : List Value) (y : DataW H × List MemPlace),
    DataW.trod enc P W base spare held n t cs = some y → ∃ x : α, d.K W x cs ∧ ok x

variable {P : Program} {W : World}

theorem opens_int {t : TypeId} {k : IntKind} (ht : P.underlying t = some (.int k)) (hc : P.cellsOf t = 1) : Opens P W t (Kd.int k) (fun x => (Lit.int k x).wf = true) :=
  ⟨hc, fun H enc base spare held n cs y h => by
    obtain ⟨x, h1, _, hw⟩ := DataW.trod_int ht h
    exact ⟨x, h1, hw⟩⟩
theorem opens_bool {t : TypeId} (ht : P.underlying t = some .bool) (hc : P.cellsOf t = 1) : Opens P W t Kd.bool (fun _ => True) :=
  ⟨hc, fun H enc base spare held n cs y h => by
    obtain ⟨x, h1, _⟩ := DataW.trod_bool ht h
    exact ⟨x, h1, trivial⟩⟩
theorem opens_string {t : TypeId} (ht : P.underlying t = some .string) (hc : P.cellsOf t = 1) : Opens P W t Kd.string (fun s => s.size ≤ maxLen) :=
  ⟨hc, fun H enc base spare held n cs y h => by
    obtain ⟨x, h1, _, hs⟩ := DataW.trod_string ht h
    exact ⟨x, h1, hs⟩⟩

theorem addr_two (a : Addr) (i j : Nat) : (a.add i).add j = a.add (i + j) := by
  unfold Addr.add
  by_cases h : i = 0
  · subst h; simp
  · by_cases h2 : j = 0
    · subst h2; simp
    · simp [h, h2, Nat.add_assoc]

theorem opens_slice {α : Type} (z : α) {t e : TypeId} {d : Kd α} {ok : α → Prop} (ht : P.underlying t = some (.slice e)) (hc : P.cellsOf t = 1) (he : Opens P W e d ok) :
    Opens P W t (Kd.slice e d) (fun l => l.length ≤ maxLen ∧ ∀ x ∈ l, ok x) :=
  ⟨hc, fun H enc base spare held n cs y h => by
    rcases open_slice ht h with ⟨rfl, _⟩ | ⟨a, len, cap, m, n', D, Pl, rfl, _, hl, hm, hmm, _, hx⟩
    · exact ⟨[], ⟨none, 0, rfl, Nat.le_refl _, rfl, by simp, fun h0 => absurd h0 (by simp)⟩, by simp, by simp⟩
    · have hle : len ≤ m := by rw [hmm]; split <;> omega
      haveI : Inhabited α := ⟨z⟩
      obtain ⟨f, hf⟩ := choose_lt (α := α) (n := len) (p := fun i x => ok x ∧ ∃ cs', W.cells? base (a.add (i * P.cellsOf e)) (P.cellsOf e) = some cs' ∧ d.K W x cs') (fun i hi => by
        obtain ⟨cs', h1, h2⟩ := hx i (by omega)
        obtain ⟨x, hk, hok⟩ := he.2 H enc base spare held n' cs' _ h2
        exact ⟨x, hok, cs', h1, hk⟩)
      have hlen : ((List.range len).map f).length = len := by simp
      refine ⟨(List.range len).map f, ⟨some a, cap, by rw [hlen], by rw [hlen]; exact hl, ?_⟩, ?_, ?_⟩
      · rw [hlen]
        refine ⟨hlen, by unfold maxLen at hm; omega, fun _ => ⟨a, rfl, fun j p hj => ?_⟩⟩
        have hjl : j < len := by
          rcases Nat.lt_or_ge j len with h' | h'
          · exact h'
          · rw [List.getElem?_eq_none (by rw [hlen]; exact h')] at hj; cases hj
        have hp : p = f j := by
          rw [List.getElem?_map, List.getElem?_range hjl] at hj
          simpa using hj.symm
        subst hp
        obtain ⟨_, cs', h1, hk⟩ := hf j hjl
        refine ⟨cs', d.K_len hk, hk, fun i u hu => ?_⟩
        obtain ⟨_, hcl, hcc⟩ := World.cells?_some h1
        rw [← he.1]
        have hi : i < P.cellsOf e := by
          rw [← hcl]
          rcases Nat.lt_or_ge i cs'.length with h' | h'
          · exact h'
          · rw [List.getElem?_eq_none h'] at hu; cases hu
        have := hcc i hi
        rw [hu] at this
        rw [show a.add (j * P.cellsOf e + i) = (a.add (j * P.cellsOf e)).add i from (addr_two a _ _).symm]
        exact this
      · rw [hlen]; omega
      · intro x hx'
        obtain ⟨i, hi, rfl⟩ := List.mem_map.1 hx'
        exact (hf i (by simpa using hi)).1⟩

/-- The fields from the offset o on. -/
def OpensFs {α : Type} (P : Program) (W : World) (o : Nat) (fs : List Field) (d : Kd α) (ok : α → Prop) : Prop :=
  ∀ (H : Type) (enc : TypeId × Value → H) (base : Nat) (spare : Nat → Bool) (held : Bool) (n : Nat) (cs : List Value) (xs : List (DataW H × List MemPlace)),
    cs.length = o + d.sz → fs.mapM (fun f => DataW.trod enc P W base spare held n f.type ((cs.drop f.offset).take (P.cellsOf f.type))) = some xs → ∃ x : α, d.K W x (cs.drop o) ∧ ok x
theorem fs_one {α : Type} {o : Nat} {f : Field} {d : Kd α} {ok : α → Prop} (ho : f.offset = o) (h : Opens P W f.type d ok) : OpensFs P W o [f] d ok := by
  intro H enc base spare held n cs xs hl hm
  simp only [List.mapM_cons, List.mapM_nil, Option.bind_eq_bind, Option.pure_def] at hm
  obtain ⟨y, hy, _⟩ := Option.bind_eq_some_iff.mp hm
  rw [ho, List.take_of_length_le (by rw [List.length_drop, h.1]; omega)] at hy
  exact h.2 _ _ _ _ _ _ _ _ hy
theorem fs_cons {α β : Type} {o : Nat} {f : Field} {rest : List Field} {a : Kd α} {b : Kd β} {oka : α → Prop} {okb : β → Prop} (ho : f.offset = o) (h : Opens P W f.type a oka) (hr : OpensFs P W (o + a.sz) rest b okb) :
    OpensFs P W o (f :: rest) (Kd.pair a b) (fun x => oka x.1 ∧ okb x.2) := by
  intro H enc base spare held n cs xs hl hm
  have hl : cs.length = o + (a.sz + b.sz) := hl
  simp only [List.mapM_cons, Option.bind_eq_bind, Option.pure_def] at hm
  obtain ⟨y, hy, hm⟩ := Option.bind_eq_some_iff.mp hm
  obtain ⟨ys, hys, _⟩ := Option.bind_eq_some_iff.mp hm
  rw [ho, h.1] at hy
  obtain ⟨x, hk, hx⟩ := h.2 _ _ _ _ _ _ _ _ hy
  obtain ⟨z, hk2, hz⟩ := hr H enc base spare held n cs ys (by omega) hys
  refine ⟨(x, z), ⟨(cs.drop o).take a.sz, cs.drop (o + a.sz), ?_, hk, hk2⟩, hx, hz⟩
  rw [← List.drop_drop, List.take_append_drop]
theorem opens_struct {α : Type} {t : TypeId} {fs : List Field} {d : Kd α} {ok : α → Prop} (ht : P.underlying t = some (.struct fs.toArray)) (hc : P.cellsOf t = d.sz) (h : OpensFs P W 0 fs d ok) : Opens P W t d ok :=
  ⟨hc, fun H enc base spare held n cs y hy => by
    match n, hy with
    | 0, hy => simp [DataW.trod] at hy
    | n + 1, hy =>
      simp only [DataW.trod, ht] at hy
      split at hy
      · rename_i hl
        obtain ⟨xs, hxs, _⟩ := Option.map_eq_some_iff.mp hy
        have := h H enc base spare held n cs xs (by rw [hl, hc]; omega) hxs
        simpa using this
      · cases hy⟩
theorem opens_iso {α β : Type} {t : TypeId} {d : Kd α} {ok : α → Prop} (h : Opens P W t d ok) (f : β → α) (g : α → β) (hg : ∀ x, f (g x) = x) : Opens P W t (Kd.iso d f) (fun y => ok (f y)) :=
  ⟨h.1, fun H enc base spare held n cs y hy => by
    obtain ⟨x, hk, hx⟩ := h.2 _ _ _ _ _ _ _ _ hy
    exact ⟨g x, by show d.K W (f (g x)) cs; rw [hg]; exact hk, by show ok (f (g x)); rw [hg]; exact hx⟩⟩
/-- An argument. -/
theorem opens_arg {α : Type} {t : TypeId} {d : Kd α} {ok : α → Prop} (h : Opens P W t d ok) {H : Type} {enc : TypeId × Value → H} {base : Nat} {spare : Nat → Bool} {held : Bool} {v : Value} {y : DataW H} {p : List MemPlace}
    (hv : DataW.Trod enc P W base spare held t v y p) : ∃ x : α, d.K W x v.cells.toList ∧ ok x := by
  obtain ⟨n, hn⟩ := hv
  exact h.2 _ _ _ _ _ _ _ _ hn
/-- A struct by value: its cells. -/
theorem agg_cells {t : TypeId} {fs : Array Field} {r : Reach} {b : Nat} {v : Value} (ht : P.underlying t = some (.struct fs)) (hv : Value.okWide P W r b t v) {cs : List Value} (h : v.cells.toList = cs) : v = .agg cs.toArray := by
  obtain ⟨c, rfl, _⟩ := okWide_struct ht hv
  subst h
  simp [Value.cells]
theorem slice_cells {t e : TypeId} {r : Reach} {b : Nat} {v : Value} (ht : P.underlying t = some (.slice e)) (hv : Value.okWide P W r b t v) {x : Value} (h : v.cells.toList = [x]) : v = x := by
  obtain ⟨a, len, cap, rfl⟩ := okWide_slice ht hv
  simpa [Value.cells] using h
end Go.Proofs.Ytoancfhhlmkcbaa.Open
