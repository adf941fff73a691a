/- How strings are compared, as the walks of this seat spell it: by '<' alone. -/
import Derived.Tactics
import Derived.Laws.Strings
namespace Go.Proofs.Ytoaekmghlmeflaa.O
theorem bytesLess_flip : ∀ a b : List UInt8, (Op.bytesLess a b || a == b) = !(Op.bytesLess b a)
  | [], [] => by simp [Op.bytesLess]
  | [], y :: b => by simp [Op.bytesLess]
  | x :: a, [] => by simp [Op.bytesLess]
  | x :: a, y :: b => by
    have ih := bytesLess_flip a b
    simp only [Op.bytesLess]
    rcases Nat.lt_trichotomy x.toNat y.toNat with h | h | h
    · have h1 : x < y := h
      have h2 : ¬ y < x := fun h' => by have : y.toNat < x.toNat := h'; omega
      have h3 : (y == x) = false := by rw [beq_eq_false_iff_ne]; rintro rfl; omega
      simp [h1, h2, h3]
    · have h1 : x = y := UInt8.toNat_inj.1 h
      subst h1
      have h2 : ¬ x < x := fun h' => by have : x.toNat < x.toNat := h'; omega
      have h4 : (x :: a == x :: b) = (a == b) := by simp
      rw [h4]
      simpa [h2] using ih
    · have h1 : y < x := h
      have h2 : ¬ x < y := fun h' => by have : x.toNat < y.toNat := h'; omega
      have h3 : (x == y) = false := by rw [beq_eq_false_iff_ne]; rintro rfl; omega
      have h4 : (x :: a == y :: b) = false := by
        rw [beq_eq_false_iff_ne]; intro h5; injection h5 with h5 _; rw [h5] at h; omega
      rw [h4]
      simp [h1, h2, h3]
theorem str_geq (t : TypeId) (a b : ByteArray) : binOp .geq t (.string a) (.string b) = pure (.bool !(Op.bytesLess a.toList b.toList)) := by simp [binOp, Op.stringOp]
theorem str_leq (t : TypeId) (a b : ByteArray) : binOp .leq t (.string a) (.string b) = pure (.bool !(Op.bytesLess b.toList a.toList)) := by
  rw [← bytesLess_flip]; simp [binOp, Op.stringOp]
theorem str_gtr (t : TypeId) (a b : ByteArray) : binOp .gtr t (.string a) (.string b) = pure (.bool (Op.bytesLess b.toList a.toList)) := by
  rw [← Bool.not_not (Op.bytesLess b.toList a.toList), ← bytesLess_flip]; simp [binOp, Op.stringOp]
end Go.Proofs.Ytoaekmghlmeflaa.O
