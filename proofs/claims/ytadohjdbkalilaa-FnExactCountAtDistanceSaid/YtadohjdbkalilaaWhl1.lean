/- What the printed functions on locks, counts and codes come to (impl and spec alike). -/
import Derived.Test.YtadohjdbkalilaaMath
import Derived.Test.YtadohjdbkalilaaQ1
import Derived.Test.YtadohjdbkalilaaQ2
namespace Go.Proofs.Ytadohjdbkalilaa.L
open Go.RowKit Go.Proofs.YtadohjdbkalilaaW.PrintWords Go.Proofs.YtadohjdbkalilaaW.PrintMore Go.Proofs.Ytadohjdbkalilaa.M Go.Proofs.Ytadohjdbkalilaa.Q
set_option linter.unusedVariables false
set_option linter.unusedSimpArgs false
/-! ### locks -/
theorem whGood_f (W D : Int) : spec_whGood.f W D = some (good W D) := by
  unfold spec_whGood.f spec_l1In.f good
  by_cases h1 : 1 ≤ W <;> by_cases h2 : W ≤ 6 <;> by_cases h3 : 2 ≤ D <;> by_cases h4 : D ≤ 10 <;> simp [h1, h2, h3, h4]
theorem IsLock_s (W D : Int) : spec_IsLock.f W D = some (good W D) := by
  unfold spec_IsLock.f; rw [whGood_f]; rfl
theorem IsLock_i (W D : Int) : impl_IsLock.f W D = some (good W D) := by
  unfold impl_IsLock.f impl_within.f good
  by_cases h1 : 1 ≤ W <;> by_cases h2 : W ≤ 6 <;> by_cases h3 : 2 ≤ D <;> by_cases h4 : D ≤ 10 <;> simp [h1, h2, h3, h4]
theorem l1In_f (n lo hi : Int) : spec_l1In.f n lo hi = some (decide (lo ≤ n ∧ n ≤ hi)) := by
  unfold spec_l1In.f
  by_cases h1 : lo ≤ n <;> by_cases h2 : n ≤ hi <;> simp [h1, h2]
theorem within_f (n lo hi : Int) : impl_within.f n lo hi = some (decide (lo ≤ n ∧ n ≤ hi)) := by
  unfold impl_within.f
  by_cases h1 : lo ≤ n <;> by_cases h2 : n ≤ hi <;> simp [h1, h2]

/-! ### counts -/
theorem whCount_l0 {W D : Int} (h0 : 2 ≤ D) (h1 : D ≤ 10) : ∀ (m n : Nat), n + m ≤ 6 → Ev (fun k => spec_whCount.l0 k (pw D n) (m : Int) W D) (pw D (n + m))
  | 0, n, h => by
    refine Ev.succ ?_
    simp only [spec_whCount.l0]
    exact Ev.neg (by omega) (Ev.now _)
  | m + 1, n, h => by
    have b := pw_le6 (D := D) (by omega) h1 (n := n + 1) (by omega)
    have p := pw_pos (D := D) (by omega) (n + 1)
    refine Ev.succ ?_
    simp only [spec_whCount.l0]
    refine Ev.pos (by omega) ?_
    rw [show wrap64 (pw D n * D) = pw D (n + 1) from wrap_id (by rw [pw] at *; omega) (by rw [pw] at *; omega), show wrap64 (((m + 1 : Nat) : Int) - 1) = (m : Int) by rw [wrap_id] <;> omega,
      show n + (m + 1) = (n + 1) + m by omega]
    exact whCount_l0 h0 h1 m (n + 1) (by omega)
theorem whCount_ev {W D : Int} (h : good W D = true) : Ev (fun k => spec_whCount.f k W D) (pw D W.toNat) := by
  obtain ⟨a, b, c, d⟩ := good_iff.1 h
  obtain ⟨w, rfl⟩ := Int.eq_ofNat_of_zero_le (show 0 ≤ W by omega)
  unfold spec_whCount.f
  have := whCount_l0 (W := w) c d w 0 (by omega)
  rw [Nat.zero_add] at this
  exact this
theorem power_l0 {D : Int} (h0 : 2 ≤ D) (h1 : D ≤ 10) : ∀ (m n : Nat), n + m ≤ 6 → Ev (fun k => impl_power.l0 k D (pw D n) ((n + m : Nat) : Int) (n : Int)) (pw D (n + m))
  | 0, n, h => by
    refine Ev.succ ?_
    simp only [impl_power.l0]
    exact Ev.neg (by omega) (Ev.now _)
  | m + 1, n, h => by
    have b := pw_le6 (D := D) (by omega) h1 (n := n + 1) (by omega)
    have p := pw_pos (D := D) (by omega) (n + 1)
    refine Ev.succ ?_
    simp only [impl_power.l0]
    refine Ev.pos (by omega) ?_
    rw [show wrap64 (pw D n * D) = pw D (n + 1) from wrap_id (by rw [pw] at *; omega) (by rw [pw] at *; omega), show wrap64 ((n : Int) + 1) = ((n + 1 : Nat) : Int) by rw [wrap_id] <;> omega,
      show n + (m + 1) = (n + 1) + m by omega]
    exact power_l0 h0 h1 m (n + 1) (by omega)
theorem count_ev {W D : Int} (h : good W D = true) : Ev (fun k => impl_Lock_count.f k W D) (pw D W.toNat) := by
  obtain ⟨a, b, c, d⟩ := good_iff.1 h
  obtain ⟨w, rfl⟩ := Int.eq_ofNat_of_zero_le (show 0 ≤ W by omega)
  unfold impl_Lock_count.f impl_power.f
  have := power_l0 c d w 0 (by omega)
  rw [Nat.zero_add] at this
  exact Ev.bind this (Ev.now _)

/-! ### codes -/
theorem whCode_l0 {W D : Int} (hD : 2 ≤ D ∧ D ≤ 10) {s : ByteArray} (hs : s.size ≤ 1048576) : ∀ (t p : List Int), bys s = p ++ t → Ev (fun k => spec_whCode.l0 k s (p.length : Int) W D) (t.all fun b => decide (48 ≤ b ∧ b < 48 + D))
  | [], p, e => by
    have el : p.length = s.size := by rw [← bys_length, e]; simp
    refine Ev.succ ?_
    simp only [spec_whCode.l0]
    exact Ev.neg (by omega) (Ev.now _)
  | x :: t, p, e => by
    have el : p.length + (t.length + 1) = s.size := by rw [← bys_length, e]; simp
    have hx := bys_range s x (by rw [e]; simp)
    refine Ev.succ ?_
    simp only [spec_whCode.l0]
    refine Ev.pos (by omega) (Ev.pos (by omega) ?_)
    rw [bt_bys, e, rd_mid, wrap_id (x := x) (by omega) (by omega), wrap_id (x := x - 48) (by omega) (by omega), wrap_id (x := D - 1) (by omega) (by omega), l1In_f]
    refine Ev.bind0 rfl ?_
    by_cases hb : 48 ≤ x ∧ x < 48 + D
    · refine Ev.pos (by simp; omega) ?_
      rw [show wrap64 ((p.length : Int) + 1) = ((p ++ [x]).length : Int) from len_next p x (by omega)]
      simp only [List.all_cons, hb, and_self, decide_true, Bool.true_and]
      exact whCode_l0 hD hs t (p ++ [x]) (by rw [e]; simp)
    · refine Ev.neg (by simp; omega) ?_
      rw [List.all_cons, decide_eq_false hb, Bool.false_and]
      exact Ev.now _
theorem whCode_ev {W D : Int} (h : good W D = true) (s : ByteArray) (hs : s.size ≤ 1048576) : Ev (fun k => spec_whCode.f k W D s) (isC W D s) := by
  obtain ⟨a, b, c, d⟩ := good_iff.1 h
  unfold spec_whCode.f isC
  by_cases e : (s.size : Int) = W
  · refine Ev.pos e ?_
    rw [decide_eq_true e, Bool.true_and]
    exact whCode_l0 ⟨c, d⟩ hs (bys s) [] rfl
  · refine Ev.neg e ?_
    rw [decide_eq_false e, Bool.false_and]
    exact Ev.now _
theorem isText_l0 {W D : Int} (hD : 2 ≤ D ∧ D ≤ 10) {s : ByteArray} (hs : s.size ≤ 1048576) : ∀ (t p : List Int), bys s = p ++ t → Ev (fun k => impl_Lock_isText.l0 k s (s.size : Int) (p.length : Int) W D) (t.all fun b => decide (48 ≤ b ∧ b < 48 + D))
  | [], p, e => by
    have el : p.length = s.size := by rw [← bys_length, e]; simp
    refine Ev.succ ?_
    simp only [impl_Lock_isText.l0]
    exact Ev.neg (by omega) (Ev.now _)
  | x :: t, p, e => by
    have el : p.length + (t.length + 1) = s.size := by rw [← bys_length, e]; simp
    have hx := bys_range s x (by rw [e]; simp)
    refine Ev.succ ?_
    simp only [impl_Lock_isText.l0]
    refine Ev.pos (by omega) (Ev.pos (by omega) (Ev.pos (by omega) ?_))
    rw [bt_bys, e, rd_mid, wrap_id (x := x) (by omega) (by omega), wrap_id (x := 48 + D) (by omega) (by omega), wrap_id (x := 48 + D - 1) (by omega) (by omega), within_f]
    refine Ev.bind0 rfl ?_
    by_cases hb : 48 ≤ x ∧ x < 48 + D
    · refine Ev.pos (by simp; omega) ?_
      rw [show wrap64 ((p.length : Int) + 1) = ((p ++ [x]).length : Int) from len_next p x (by omega)]
      simp only [List.all_cons, hb, and_self, decide_true, Bool.true_and]
      exact isText_l0 hD hs t (p ++ [x]) (by rw [e]; simp)
    · refine Ev.neg (by simp; omega) ?_
      rw [List.all_cons, decide_eq_false hb, Bool.false_and]
      exact Ev.now _
theorem isCode_ev {W D : Int} (h : good W D = true) (s : ByteArray) (hs : s.size ≤ 1048576) : Ev (fun k => impl_Lock_isCode.f k W D s) (isC W D s) := by
  obtain ⟨a, b, c, d⟩ := good_iff.1 h
  unfold impl_Lock_isCode.f isC
  by_cases e : (s.size : Int) = W
  · refine Ev.pos e ?_
    rw [decide_eq_true e, Bool.true_and]
    refine Ev.bind (isText_l0 (W := W) ⟨c, d⟩ hs (bys s) [] rfl) (Ev.now _)
  · refine Ev.neg e ?_
    rw [decide_eq_false e, Bool.false_and]
    exact Ev.now _

/-! ### IsLock, CountCodes, IsCode -/
def CountCodesM (W D : Int) : Int × Bool := if good W D = true then (pw D W.toNat, true) else (0, false)
theorem CountCodes_s (W D : Int) : Ev (fun k => spec_CountCodes.f k W D) (CountCodesM W D) := by
  unfold spec_CountCodes.f CountCodesM
  refine Ev.bind0 (whGood_f W D) ?_
  by_cases h : good W D = true
  · rw [if_pos h]; refine Ev.pos h (Ev.bind (whCount_ev h) (Ev.now _))
  · rw [if_neg h]; exact Ev.neg h (Ev.now _)
theorem CountCodes_i (W D : Int) : Ev (fun k => impl_CountCodes.f k W D) (CountCodesM W D) := by
  unfold impl_CountCodes.f CountCodesM
  refine Ev.bind0 (IsLock_i W D) ?_
  by_cases h : good W D = true
  · rw [if_pos h]; refine Ev.pos h (Ev.bind (count_ev h) (Ev.now _))
  · rw [if_neg h]; exact Ev.neg h (Ev.now _)
def IsCodeM (W D : Int) (s : ByteArray) : Bool × Bool := if good W D = true then (isC W D s, true) else (false, false)
theorem IsCode_s (W D : Int) (s : ByteArray) (hs : s.size ≤ 1048576) : Ev (fun k => spec_IsCode.f k W D s) (IsCodeM W D s) := by
  unfold spec_IsCode.f IsCodeM
  refine Ev.bind0 (whGood_f W D) ?_
  by_cases h : good W D = true
  · rw [if_pos h]; refine Ev.pos h (Ev.bind (whCode_ev h s hs) (Ev.now _))
  · rw [if_neg h]; exact Ev.neg h (Ev.now _)
theorem IsCode_i (W D : Int) (s : ByteArray) (hs : s.size ≤ 1048576) : Ev (fun k => impl_IsCode.f k W D s) (IsCodeM W D s) := by
  unfold impl_IsCode.f IsCodeM
  refine Ev.bind0 (IsLock_i W D) ?_
  by_cases h : good W D = true
  · rw [if_pos h]; refine Ev.pos h (Ev.bind (isCode_ev h s hs) (Ev.now _))
  · rw [if_neg h]; exact Ev.neg h (Ev.now _)
end Go.Proofs.Ytadohjdbkalilaa.L
