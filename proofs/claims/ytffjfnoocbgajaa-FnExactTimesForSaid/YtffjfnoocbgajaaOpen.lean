/- What comes in, told by kinds: each argument that the row's reading reaches is an element of a Lean type, whatever its type is made of. -/
import Derived.Test.YtffjfnoocbgajaaV0
import Derived.ProofKit
import Derived.WalkKit
import Derived.OpenShut
import Derived.Deep.Slices
import Derived.Lib.SmallJoins
namespace Go.Proofs.Ytffjfnoocbgajaa.O
open Go.ChangeShapes Go.WideShapes Go.RowKit Go.Deep Go.Proofs.YtffjfnoocbgajaaW.PrintWords

/-- Whatever is read at type t is of kind d, and Q holds of it. -/
def Op {α : Type} (P : Program) (t : TypeId) (d : Kd α) (Q : α → Prop) : Prop :=
  ∀ (H : Type) (enc : TypeId × Value → H) (w : World) (base : Nat) (spare : Nat → Bool) (held : Bool) (fuel : Nat) (cs : List Value) (x : DataW H × List MemPlace),
    DataW.trod enc P w base spare held fuel t cs = some x → ∃ y, d.K w y cs ∧ Q y

variable {P : Program} {t e : TypeId}

theorem op_int {k : IntKind} (ht : P.underlying t = some (.int k)) : Op P t (Kd.int k) (fun y => (Lit.int k y).wf = true) := by
  intro H enc w base spare held fuel cs x h
  obtain ⟨n, rfl, rfl, hw⟩ := DataW.trod_int ht h
  exact ⟨n, rfl, hw⟩
theorem op_string (ht : P.underlying t = some .string) : Op P t Kd.string (fun y => y.size ≤ 9223372036854775807) := by
  intro H enc w base spare held fuel cs x h
  obtain ⟨s, rfl, rfl, hw⟩ := DataW.trod_string ht h
  exact ⟨s, rfl, hw⟩
theorem op_bool (ht : P.underlying t = some .bool) : Op P t Kd.bool (fun _ => True) := by
  intro H enc w base spare held fuel cs x h
  obtain ⟨b, rfl, rfl⟩ := DataW.trod_bool ht h
  exact ⟨b, rfl, trivial⟩
theorem op_slice {α : Type} [Inhabited α] {d : Kd α} {Q : α → Prop} (ht : P.underlying t = some (.slice e)) (he : Op P e d Q) (hs : P.cellsOf e = d.sz) :
    Op P t (Kd.slice e d) (fun xs => xs.length ≤ 9223372036854775807 ∧ ∀ x ∈ xs, Q x) := by
  intro H enc w base spare held fuel cs x h
  rcases open_slice ht h with ⟨rfl, _⟩ | ⟨a, len, cap, m, n, D, Pl, rfl, hb, hl, hm, hmm, _, hx⟩
  · exact ⟨[], ⟨none, 0, rfl, Nat.le_refl _, rfl, by simp, fun h => absurd h (by simp)⟩, by simp, by simp⟩
  · have hle : len ≤ m := by rw [hmm]; split <;> omega
    have hm' : len ≤ 9223372036854775807 := by unfold maxLen at hm; omega
    obtain ⟨Y, hY⟩ := choose_lt (α := α) (n := len) (p := fun i y => Q y ∧ ∃ c : List Value, c.length = d.sz ∧ d.K w y c ∧ ∀ j u, c[j]? = some u → w.cell? (a.add (i * d.sz + j)) = some u) (fun i hi => by
      obtain ⟨cs', h1, h2⟩ := hx i (by omega)
      obtain ⟨y, hk, hq⟩ := he H enc w base spare held n cs' _ h2
      rw [hs] at h1
      obtain ⟨_, hlen, hcell⟩ := World.cells?_some h1
      refine ⟨y, hq, cs', hlen, hk, fun j u hu => ?_⟩
      have hj : j < d.sz := by have := (List.getElem?_eq_some_iff.1 hu).1; omega
      have := hcell j hj
      rw [Deep.add_add, hu] at this
      exact this)
    refine ⟨(List.range len).map Y, ⟨some a, cap, by simp, by simpa using hl, by simp, by simpa using hm', fun _ => ⟨a, rfl, fun j p hj => ?_⟩⟩, by simpa using hm', fun y hy => ?_⟩
    · have hjl : j < len := by have := (List.getElem?_eq_some_iff.1 hj).1; simpa using this
      rw [List.getElem?_map, List.getElem?_range hjl] at hj
      simp only [Option.map_some, Option.some.injEq] at hj
      subst hj
      exact (hY j hjl).2
    · obtain ⟨i, hi, rfl⟩ := List.mem_map.1 hy
      exact (hY i (List.mem_range.1 hi)).1
theorem op_imp {α : Type} {d : Kd α} {Q Q' : α → Prop} (h : Op P t d Q) (hq : ∀ x, Q x → Q' x) : Op P t d Q' := by
  intro H enc w base spare held fuel cs x hx
  obtain ⟨y, hk, hy⟩ := h H enc w base spare held fuel cs x hx
  exact ⟨y, hk, hq _ hy⟩
/-- A struct of two fields. -/
theorem op_struct2 {α β : Type} {a : Kd α} {b : Kd β} {Q : α → Prop} {R : β → Prop} {f0 f1 : Field} (ht : P.underlying t = some (.struct #[f0, f1])) (h0 : Op P f0.type a Q) (h1 : Op P f1.type b R)
    (o0 : f0.offset = 0) (o1 : f1.offset = a.sz) (c0 : P.cellsOf f0.type = a.sz) (c1 : P.cellsOf f1.type = b.sz) (hc : P.cellsOf t = a.sz + b.sz) : Op P t (Kd.pair a b) (fun y => Q y.1 ∧ R y.2) := by
  intro H enc w base spare held fuel cs x h
  obtain ⟨y0, y1, n, hx, hl, g0, g1⟩ := trod_struct2 ht h
  rw [o0, c0] at g0
  rw [o1, c1] at g1
  obtain ⟨u, hu, qu⟩ := h0 H enc w base spare held n _ _ g0
  obtain ⟨v, hv, qv⟩ := h1 H enc w base spare held n _ _ g1
  refine ⟨(u, v), ⟨_, _, ?_, hu, hv⟩, qu, qv⟩
  rw [hc] at hl
  have e1 : (cs.drop a.sz).take b.sz = cs.drop a.sz := List.take_of_length_le (by rw [List.length_drop]; omega)
  rw [e1, List.drop_zero, List.take_append_drop]
theorem op_iso {α β : Type} {d : Kd α} {f : β → α} (g : α → β) (hg : ∀ x, f (g x) = x) {Q : α → Prop} (h : Op P t d Q) : Op P t (Kd.iso d f) (fun y => Q (f y)) := by
  intro H enc w base spare held fuel cs x hx
  obtain ⟨y, hk, hy⟩ := h H enc w base spare held fuel cs x hx
  exact ⟨g y, by show d.K w (f (g y)) cs; rw [hg]; exact hk, by show Q (f (g y)); rw [hg]; exact hy⟩

section
variable {H : Type} {enc : TypeId × Value → H} {w : World} {base : Nat} {spare : Nat → Bool} {held : Bool} {v : Value} {d : DataW H} {p : List MemPlace} {r : Reach} {b0 : Nat}
/-- An argument that is a slice, opened. -/
theorem arg_slice {α : Type} {k : Kd α} {Q : List α → Prop} (ht : P.underlying t = some (.slice e)) (h : Op P t (Kd.slice e k) Q) (hv : Value.okWide P w r b0 t v) (hd : DataW.Trod enc P w base spare held t v d p) :
    ∃ (A : Option Addr) (xs : List α) (c : Nat), v = .slice A xs.length c ∧ xs.length ≤ c ∧ k.C w A xs.length xs ∧ Q xs := by
  obtain ⟨a, len, cap, rfl⟩ := okWide_slice ht hv
  obtain ⟨fuel, hf⟩ := hd
  obtain ⟨xs, ⟨A, c, hcs, hl, hr⟩, hq⟩ := h H enc w base spare held fuel _ _ hf
  simp [Value.cells] at hcs
  obtain ⟨rfl, rfl, rfl⟩ := hcs
  exact ⟨a, xs, cap, rfl, hl, hr, hq⟩
/-- An argument that is a struct, opened: its cells are of the kind. -/
theorem arg_struct {α : Type} {k : Kd α} {Q : α → Prop} {fs : Array Field} (ht : P.underlying t = some (.struct fs)) (h : Op P t k Q) (hv : Value.okWide P w r b0 t v) (hd : DataW.Trod enc P w base spare held t v d p) :
    ∃ (cs : Array Value) (y : α), v = .agg cs ∧ k.K w y cs.toList ∧ Q y := by
  obtain ⟨cs, rfl, hsz⟩ := okWide_struct ht hv
  obtain ⟨fuel, hf⟩ := hd
  obtain ⟨y, hk, hq⟩ := h H enc w base spare held fuel _ _ hf
  exact ⟨cs, y, rfl, hk, hq⟩
end
end Go.Proofs.Ytffjfnoocbgajaa.O
