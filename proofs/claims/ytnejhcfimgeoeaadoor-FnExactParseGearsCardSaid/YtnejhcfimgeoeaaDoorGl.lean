/- What the library's contracts ask of the world at ParseGears' seat: internal/bytealg.MaxLen holds some int, strconv's two sentinels hold errors. -/
import Derived.Test.YtnejhcfimgeoeaaDoorShelf
import Derived.RowKit3
import Derived.Below
namespace Go.Proofs.YtnejhcfimgeoeaaDoor
open Go.RowKit
def Gl (w : World) : Prop := (∃ m, w.cell? ⟨0, 0, none⟩ = some (.int .i64 m)) ∧ (∃ ev, w.cell? ⟨1, 0, none⟩ = some ev ∧ (ev = .nilIface ∨ ∃ te pe, ev = .iface te pe)) ∧ (∃ ev, w.cell? ⟨2, 0, none⟩ = some ev ∧ (ev = .nilIface ∨ ∃ te pe, ev = .iface te pe))
theorem cell_kept_below {w w' : World} {a : Addr} {v : Value} (hc : w.cell? a = some v) (hb : Below w.heap.size w w') : w'.cell? a = some v := by
  have := hb.block a.block (World.block_lt_of_cell? w a hc)
  simpa [World.cell?, this] using hc
theorem cell_same {w w' : World} {g : Nat} {a : Addr} (hb : w'.heap[g]? = w.heap[g]?) (ha : a.block = g) : w'.cell? a = w.cell? a := by
  subst ha
  simp [World.cell?, hb]
theorem Gl.below {w w' : World} (h : Gl w) (hb : Below w.heap.size w w') : Gl w' := by
  obtain ⟨⟨m, h0⟩, ⟨e1, h1, k1⟩, ⟨e2, h2, k2⟩⟩ := h
  exact ⟨⟨m, cell_kept_below h0 hb⟩, ⟨e1, cell_kept_below h1 hb, k1⟩, ⟨e2, cell_kept_below h2 hb, k2⟩⟩
/-- What strconv.Atoi answers, whatever the error. -/
def atoiV (l : List UInt8) : Int := match Lib.atoiAll l with | .ok v => v | .range => Lib.atoiSat l | _ => 0
end Go.Proofs.YtnejhcfimgeoeaaDoor
