/- What the printed functions on numbers of codes and on sums of codes come to. -/
import Derived.Test.YtadohjdbkalilaaMath
import Derived.Test.YtadohjdbkalilaaWhl1
import Derived.Test.YtadohjdbkalilaaWhl2
import Derived.Test.YtadohjdbkalilaaQ6
namespace Go.Proofs.Ytadohjdbkalilaa.L
open Go.RowKit Go.Proofs.YtadohjdbkalilaaW.PrintWords Go.Proofs.YtadohjdbkalilaaW.PrintMore Go.Proofs.Ytadohjdbkalilaa.M Go.Proofs.Ytadohjdbkalilaa.Q
set_option linter.unusedVariables false
set_option linter.unusedSimpArgs false
/-! ### numbers -/
theorem whNumber_l0 {W D : Int} (hD : 2 ≤ D ∧ D ≤ 10) : ∀ (t p : List Int), Ok D (p ++ t) → (p ++ t).length ≤ 6 → Ev (fun k => spec_whNumber.l0 k (num D p) (p ++ t) ((p ++ t).length : Int) (p.length : Int) W D) (num D (p ++ t))
  | [], p, h, hl => by
    refine Ev.succ ?_
    simp only [spec_whNumber.l0]
    refine Ev.neg (len_end p) (Ev.val (by simp))
  | x :: t, p, h, hl => by
    have hx := (Ok.cons.1 (Ok.append.1 h).2).1
    have hp : Ok D (p ++ [x]) := by rw [app_next p t x] at h; exact (Ok.append.1 h).1
    rw [List.length_append, List.length_cons] at hl
    have b1 := num_bound (by omega) hp
    have b2 := pw_le6 (D := D) (by omega) hD.2 (n := (p ++ [x]).length) (by simp; omega)
    have b3 := num_bound (D := D) (by omega) (Ok.append.1 hp).1
    have b4 : 0 ≤ num D p * D := Int.mul_nonneg b3.1 (by omega)
    rw [num_snoc] at b1
    refine Ev.succ ?_
    simp only [spec_whNumber.l0]
    refine Ev.pos (len_mid p t x) (Ev.pos (by omega) (Ev.pos (len_mid p t x) ?_))
    rw [rd_mid, wrap_id (x := num D p * D) (by omega) (by omega), wrap_id (x := num D p * D + x) (by omega) (by omega), ← num_snoc, len_next p x (by omega), app_next p t x]
    exact whNumber_l0 hD t (p ++ [x]) (by rw [← app_next p t x]; exact h) (by simp; omega)
theorem whNumber_ev {W D : Int} (hD : 2 ≤ D ∧ D ≤ 10) {ds : List Int} (h : Ok D ds) (hl : ds.length ≤ 6) : Ev (fun k => spec_whNumber.f k W D (txt ds)) (num D ds) := by
  unfold spec_whNumber.f
  refine Ev.bind (whDigits_txt (h.le hD.2) (by omega)) ?_
  exact whNumber_l0 hD ds [] h hl
theorem number_l0 {W D : Int} (hD : 2 ≤ D ∧ D ≤ 10) : ∀ (t p : List Int), Ok D (p ++ t) → (p ++ t).length ≤ 6 → Ev (fun k => impl_Lock_number.l0 k (num D p) (p ++ t) ((p ++ t).length : Int) (p.length : Int) W D) (num D (p ++ t))
  | [], p, h, hl => by
    refine Ev.succ ?_
    simp only [impl_Lock_number.l0]
    refine Ev.neg (len_end p) (Ev.val (by simp))
  | x :: t, p, h, hl => by
    have hx := (Ok.cons.1 (Ok.append.1 h).2).1
    have hp : Ok D (p ++ [x]) := by rw [app_next p t x] at h; exact (Ok.append.1 h).1
    rw [List.length_append, List.length_cons] at hl
    have b1 := num_bound (by omega) hp
    have b2 := pw_le6 (D := D) (by omega) hD.2 (n := (p ++ [x]).length) (by simp; omega)
    have b3 := num_bound (D := D) (by omega) (Ok.append.1 hp).1
    have b4 : 0 ≤ num D p * D := Int.mul_nonneg b3.1 (by omega)
    rw [num_snoc] at b1
    refine Ev.succ ?_
    simp only [impl_Lock_number.l0]
    refine Ev.pos (len_mid p t x) (Ev.pos (by omega) (Ev.pos (len_mid p t x) ?_))
    rw [rd_mid, wrap_id (x := num D p * D) (by omega) (by omega), wrap_id (x := num D p * D + x) (by omega) (by omega), ← num_snoc, len_next p x (by omega), app_next p t x]
    exact number_l0 hD t (p ++ [x]) (by rw [← app_next p t x]; exact h) (by simp; omega)
theorem number_ev {W D : Int} (hD : 2 ≤ D ∧ D ≤ 10) {ds : List Int} (h : Ok D ds) (hl : ds.length ≤ 6) : Ev (fun k => impl_Lock_number.f k W D (txt ds)) (num D ds) := by
  unfold impl_Lock_number.f
  refine Ev.bind (digits_txt (h.le hD.2) (by omega)) ?_
  exact number_l0 hD ds [] h hl

/-! ### who asks -/
theorem whAsked_ev (W D : Int) (s : ByteArray) (hs : s.size ≤ 1048576) : Ev (fun k => spec_whAsked.f k W D s) (good W D && isC W D s) := by
  unfold spec_whAsked.f
  refine Ev.bind0 (whGood_f W D) ?_
  by_cases h : good W D = true
  · refine Ev.pos h (Ev.bind (whCode_ev h s hs) (Ev.val (by rw [h]; rfl)))
  · refine Ev.neg h (Ev.val (by simp [h]))
theorem has_l0 {W D : Int} (h : good W D = true) : ∀ (t p : List ByteArray), (∀ s ∈ t, s.size ≤ 1048576) → (p ++ t).length ≤ 1048576 → Ev (fun k => impl_has.l0 k (p ++ t) ((p ++ t).length : Int) (p.length : Int) W D) (t.all (isC W D))
  | [], p, hs, hl => by
    refine Ev.succ ?_
    simp only [impl_has.l0]
    refine Ev.neg (len_end p) (Ev.val (by simp))
  | x :: t, p, hs, hl => by
    rw [List.length_append, List.length_cons] at hl
    refine Ev.succ ?_
    simp only [impl_has.l0]
    refine Ev.pos (len_mid p t x) (Ev.pos (by omega) (Ev.pos (len_mid p t x) ?_))
    rw [rdOf_mid, len_next p x (by omega), app_next p t x]
    refine Ev.bind (isCode_ev h x (hs x (by simp))) ?_
    by_cases hx : isC W D x = true
    · refine Ev.pos hx ?_
      rw [List.all_cons, hx, Bool.true_and]
      exact has_l0 h t (p ++ [x]) (fun s hs' => hs s (by simp [hs'])) (by simp; omega)
    · refine Ev.neg hx (Ev.val ?_)
      simp [hx]
theorem has_ev (W D : Int) (l : List ByteArray) (hs : ∀ s ∈ l, s.size ≤ 1048576) (hl : l.length ≤ 1048576) : Ev (fun k => impl_has.f k W D l) (good W D && l.all (isC W D)) := by
  unfold impl_has.f
  refine Ev.bind0 (IsLock_i W D) ?_
  by_cases h : good W D = true
  · refine Ev.pos h ?_
    rw [h, Bool.true_and]
    exact has_l0 h l [] hs hl
  · refine Ev.neg h (Ev.val (by simp [h]))

/-! ### NumberOfCode -/
def NumberOfCodeM (W D : Int) (s : ByteArray) : Int × Bool := if (good W D && isC W D s) = true then (num D (dgs s), true) else (0, false)
theorem NumberOfCode_s (W D : Int) (s : ByteArray) (hs : s.size ≤ 1048576) : Ev (fun k => spec_NumberOfCode.f k W D s) (NumberOfCodeM W D s) := by
  unfold spec_NumberOfCode.f NumberOfCodeM
  refine Ev.bind (whAsked_ev W D s hs) ?_
  by_cases h : (good W D && isC W D s) = true
  · rw [if_pos h]
    obtain ⟨hg, hc⟩ := Bool.and_eq_true_iff.1 h
    obtain ⟨a, b, c, d⟩ := good_iff.1 hg
    obtain ⟨e1, e2, e3⟩ := code_of hc d
    refine Ev.pos h ?_
    refine Ev.bind (a := num D (dgs s)) ?_ (Ev.now _)
    have := whNumber_ev (W := W) ⟨c, d⟩ e2 (by omega)
    rwa [← e1] at this
  · rw [if_neg h]; exact Ev.neg h (Ev.now _)
theorem NumberOfCode_i (W D : Int) (s : ByteArray) (hs : s.size ≤ 1048576) : Ev (fun k => impl_NumberOfCode.f k W D s) (NumberOfCodeM W D s) := by
  unfold impl_NumberOfCode.f NumberOfCodeM
  refine Ev.bind (has_ev W D [s] (by simpa using hs) (by simp)) ?_
  rw [show [s].all (isC W D) = isC W D s by simp]
  by_cases h : (good W D && isC W D s) = true
  · rw [if_pos h]
    obtain ⟨hg, hc⟩ := Bool.and_eq_true_iff.1 h
    obtain ⟨a, b, c, d⟩ := good_iff.1 hg
    obtain ⟨e1, e2, e3⟩ := code_of hc d
    refine Ev.pos h ?_
    refine Ev.bind (a := num D (dgs s)) ?_ (Ev.now _)
    have := number_ev (W := W) ⟨c, d⟩ e2 (by omega)
    rwa [← e1] at this
  · rw [if_neg h]; exact Ev.neg h (Ev.now _)
end Go.Proofs.Ytadohjdbkalilaa.L
