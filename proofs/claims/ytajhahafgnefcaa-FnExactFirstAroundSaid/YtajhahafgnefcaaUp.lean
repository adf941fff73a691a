/- A world that another one was made from without a write: what is known of the elder one holds of the later one. By classes, so that printed texts stay short. -/
import Derived.Test.YtajhahafgnefcaaV0
namespace Go.Proofs.YtajhahafgnefcaaW.PrintWords
open Go.RowKit Go.Proofs.YtajhahafgnefcaaW.PrintMore
class Up (w1 w2 : World) : Prop where
  below : Below w1.heap.size w1 w2
instance Up.refl_ (w : World) : Up w w := ⟨Below.refl _ _⟩
instance Up.alloc_ (w1 w2 : World) (o : Obj) [h : Up w1 w2] : Up w1 (w2.alloc o) := ⟨below_alloc h.below o⟩
instance Up.drew_ (w1 w2 : World) [h : Up w1 w2] : Up w1 w2.drew := ⟨below_drew h.below⟩
instance Up.drewN_ (w1 w2 : World) (n : Nat) [h : Up w1 w2] : Up w1 (w2.drewN n) := ⟨pw_below_drewN h.below n⟩
theorem upR_ {α : Type} {d : Kd α} {e : Nat} {w1 w2 : World} {base : Nat} {ok : Nat → Prop} {v : Value} {xs : List α} [u : Up w1 w2] (h : d.R e w1 base ok v xs) : d.R e w2 base ok v xs := Kd.R_below h u.below
theorem upB_ {w w1 w2 : World} [u : Up w1 w2] (h : Below w.heap.size w w1) : Below w.heap.size w w2 := below_step h u.below
theorem upK_ {w1 w2 : World} {g : Nat} {o : Obj} [u : Up w1 w2] (h : w1.heap[g]? = some o) : w2.heap[g]? = some o := (u.below.block g (blk_lt h)).trans h
theorem pu_ : (∀ (a : Act) (d : Tmp) (v : Value), Act.put a (some d) v = { a with tmps := a.tmps.setIfInBounds d v }) ∧ (∀ (a : Act) (v : Value), Act.put a none v = a) ∧ (∀ (l : List Value) (i : Nat) (x : Value), l.toArray.setIfInBounds i x = (l.set i x).toArray) ∧
    (∀ (x : Value) (l : List Value) (y : Value), (x :: l).set 0 y = y :: l) ∧ (∀ (x : Value) (l : List Value) (n : Nat) (y : Value), (x :: l).set (n + 1) y = x :: l.set n y) ∧ (∀ n : Int, IntKind.i64.wrap n = wrap64 n) ∧ (∀ n : Int, IntKind.i32.wrap n = wrap32 n) :=
  ⟨fun _ _ _ => rfl, fun _ _ => rfl, fun l i x => List.setIfInBounds_toArray .., fun _ _ _ => rfl, fun _ _ _ _ => rfl, fun n => by unfold wrap64; exact IntKind.wrap_i64 n, fun n => by unfold wrap32; exact IntKind.wrap_i32 n⟩
end Go.Proofs.YtajhahafgnefcaaW.PrintWords
