/- What the printed functions that FnExactSingleGears reaches come to: lemmas for its plain law. -/
import Derived.Test.YtffjfnoocbgajaaMath
import Derived.Test.YtffjfnoocbgajaaS0
import Derived.Test.YtffjfnoocbgajaaS1
import Derived.Test.YtffjfnoocbgajaaS2
import Derived.Test.YtffjfnoocbgajaaS3
import Derived.Test.YtffjfnoocbgajaaS4
import Derived.Test.YtffjfnoocbgajaaS5
import Derived.Test.YtffjfnoocbgajaaS6
import Derived.Test.YtffjfnoocbgajaaS7
import Derived.Test.YtffjfnoocbgajaaS8
import Derived.Test.YtffjfnoocbgajaaS9
import Derived.Test.YtffjfnoocbgajaaS10
import Derived.Test.YtffjfnoocbgajaaS11
namespace Go.Proofs.Ytffjfnoocbgajaa.L
open Go.RowKit Go.Proofs.YtffjfnoocbgajaaW.PrintWords Go.Proofs.YtffjfnoocbgajaaW.PrintMore Go.Proofs.Ytffjfnoocbgajaa.M Go.Proofs.Ytffjfnoocbgajaa.S
set_option linter.unusedVariables false
set_option linter.unusedSimpArgs false
theorem whGood_f (W D : Int) : spec_whGood.f W D = some (good W D) := by
  unfold spec_whGood.f spec_l1In.f good
  by_cases h1 : 1 ≤ W <;> by_cases h2 : W ≤ 6 <;> by_cases h3 : 2 ≤ D <;> by_cases h4 : D ≤ 10 <;> simp [h1, h2, h3, h4]
theorem IsLock_i (W D : Int) : impl_IsLock.f W D = some (good W D) := by
  unfold impl_IsLock.f impl_within.f good
  by_cases h1 : 1 ≤ W <;> by_cases h2 : W ≤ 6 <;> by_cases h3 : 2 ≤ D <;> by_cases h4 : D ≤ 10 <;> simp [h1, h2, h3, h4]
theorem whCount_l0 {W D : Int} (h0 : 2 ≤ D) (h1 : D ≤ 10) : ∀ (m n : Nat), n + m ≤ 6 → Ev (fun k => spec_whCount.l0 k (pw D n) (m : Int) W D) (pw D (n + m))
  | 0, n, h => by
    refine Ev.succ ?_
    simp only [spec_whCount.l0]
    exact Ev.neg (by omega) (Ev.now _)
  | m + 1, n, h => by
    have b := pw_le6 (D := D) (by omega) h1 (n := n + 1) (by omega)
    have p := pw_pos (D := D) (by omega) (n + 1)
    refine Ev.succ ?_
    simp only [spec_whCount.l0]
    refine Ev.pos (by omega) ?_
    rw [show wrap64 (pw D n * D) = pw D (n + 1) from wrap_id (by rw [pw] at *; omega) (by rw [pw] at *; omega), show wrap64 (((m + 1 : Nat) : Int) - 1) = (m : Int) by rw [wrap_id] <;> omega,
      show n + (m + 1) = (n + 1) + m by omega]
    exact whCount_l0 h0 h1 m (n + 1) (by omega)
theorem whCount_ev {W D : Int} (h : good W D = true) : Ev (fun k => spec_whCount.f k W D) (pw D W.toNat) := by
  obtain ⟨a, b, c, d⟩ := good_iff.1 h
  obtain ⟨w, rfl⟩ := Int.eq_ofNat_of_zero_le (show 0 ≤ W by omega)
  unfold spec_whCount.f
  have := whCount_l0 (W := w) c d w 0 (by omega)
  rw [Nat.zero_add] at this
  exact this
theorem power_l0 {D : Int} (h0 : 2 ≤ D) (h1 : D ≤ 10) : ∀ (m n : Nat), n + m ≤ 6 → Ev (fun k => impl_power.l0 k D (pw D n) ((n + m : Nat) : Int) (n : Int)) (pw D (n + m))
  | 0, n, h => by
    refine Ev.succ ?_
    simp only [impl_power.l0]
    exact Ev.neg (by omega) (Ev.now _)
  | m + 1, n, h => by
    have b := pw_le6 (D := D) (by omega) h1 (n := n + 1) (by omega)
    have p := pw_pos (D := D) (by omega) (n + 1)
    refine Ev.succ ?_
    simp only [impl_power.l0]
    refine Ev.pos (by omega) ?_
    rw [show wrap64 (pw D n * D) = pw D (n + 1) from wrap_id (by rw [pw] at *; omega) (by rw [pw] at *; omega), show wrap64 ((n : Int) + 1) = ((n + 1 : Nat) : Int) by rw [wrap_id] <;> omega,
      show n + (m + 1) = (n + 1) + m by omega]
    exact power_l0 h0 h1 m (n + 1) (by omega)
theorem count_ev {W D : Int} (h : good W D = true) : Ev (fun k => impl_Lock_count.f k W D) (pw D W.toNat) := by
  obtain ⟨a, b, c, d⟩ := good_iff.1 h
  obtain ⟨w, rfl⟩ := Int.eq_ofNat_of_zero_le (show 0 ≤ W by omega)
  unfold impl_Lock_count.f impl_power.f
  have := power_l0 c d w 0 (by omega)
  rw [Nat.zero_add] at this
  exact Ev.bind this (Ev.now _)

def small (W D m : Int) : Bool := good W D && decide (pw D W.toNat ≤ m)
theorem isSmall_ev (W D m : Int) : Ev (fun k => impl_isSmall.f k W D m) (small W D m) := by
  unfold impl_isSmall.f small
  refine Ev.bind0 (IsLock_i W D) ?_
  by_cases h : good W D = true
  · rw [h, Bool.true_and]; exact Ev.pos rfl (Ev.bind (count_ev h) (Ev.now _))
  · exact Ev.neg h (Ev.val (by simp [h]))
theorem rdL_mid1 (p t : List (List Int)) (x : List Int) : rd_L1 (p ++ x :: t) (p.length : Int) = x := by
  unfold rd_L1; rw [Int.toNat_natCast, List.getD_eq_getElem?_getD, List.getElem?_append_right (Nat.le_refl _), Nat.sub_self]; rfl
theorem eqIntS_l0 : ∀ (t p : List Int), (p ++ t).length ≤ 9223372036854775806 → Ev (fun k => laws_eqIntS.l0 k (p ++ t) (p ++ t) (p.length : Int)) true
  | [], p, hl => by
    refine Ev.succ ?_
    simp only [laws_eqIntS.l0]
    exact Ev.neg (len_end p) (Ev.now _)
  | x :: t, p, hl => by
    rw [List.length_append, List.length_cons] at hl
    refine Ev.succ ?_
    simp only [laws_eqIntS.l0]
    refine Ev.pos (len_mid p t x) (Ev.pos (by omega) (Ev.pos (len_mid p t x) ?_))
    refine Ev.pos trivial ?_
    rw [len_next p x (by omega), app_next p t x]
    exact eqIntS_l0 t (p ++ [x]) (by simp; omega)
theorem eqIntS_ev (l : List Int) (hl : l.length ≤ 9223372036854775806) : Ev (fun k => laws_eqIntS.f k l l) true := by
  unfold laws_eqIntS.f
  exact Ev.pos rfl (eqIntS_l0 l [] hl)
theorem eqIntSS_l0 : ∀ (t p : List (List Int)), (∀ s ∈ t, s.length ≤ 1048576) → (p ++ t).length ≤ 9223372036854775806 → Ev (fun k => laws_eqIntSS.l0 k (p ++ t) (p ++ t) (p.length : Int)) true
  | [], p, hs, hl => by
    refine Ev.succ ?_
    simp only [laws_eqIntSS.l0]
    exact Ev.neg (len_end p) (Ev.now _)
  | x :: t, p, hs, hl => by
    rw [List.length_append, List.length_cons] at hl
    refine Ev.succ ?_
    simp only [laws_eqIntSS.l0]
    refine Ev.pos (len_mid p t x) (Ev.pos (by omega) (Ev.pos (len_mid p t x) ?_))
    rw [rdL_mid1]
    refine Ev.bind (eqIntS_ev x (by have := hs x (by simp); omega)) (Ev.pos rfl ?_)
    rw [len_next p x (by omega), app_next p t x]
    exact eqIntSS_l0 t (p ++ [x]) (fun s h => hs s (by simp [h])) (by simp; omega)
theorem eqGears_ev (W D : Int) (l : List (List Int)) (hl : l.length ≤ 1048576) (hs : ∀ s ∈ l, s.length ≤ 1048576) : Ev (fun k => laws_eqGears.f k W D l W D l) true := by
  unfold laws_eqGears.f laws_eqIntSS.f
  refine Ev.bind0 (a := true) (by unfold laws_eqLock.f; simp) (Ev.pos rfl (Ev.bind (a := true) (Ev.pos rfl (eqIntSS_l0 l [] hs (by simp; omega))) (Ev.pos rfl (Ev.now _))))
def markedI : Int → List Int → List Int
  | _, [] => []
  | a, _ :: l => a :: markedI (a + 1) l
theorem markIntS_l0 : ∀ (t p : List Int) (a : Int), 0 ≤ a → a + t.length ≤ 1000000000 → (p ++ t).length ≤ 1000000000 →
    Ev (fun k => laws_markIntS.l0 k (p ++ t) a (p.length : Int)) (a + t.length, p ++ markedI a t)
  | [], p, a, _, _, _ => by
    refine Ev.succ ?_
    simp only [laws_markIntS.l0]
    exact Ev.neg (len_end p) (Ev.val (by simp [markedI]))
  | x :: t, p, a, h0, h1, h2 => by
    rw [List.length_cons] at h1
    have ih := markIntS_l0 t (p ++ [a]) (a + 1) (by omega) (by omega) (by simpa using h2)
    refine Ev.succ ?_
    simp only [laws_markIntS.l0]
    refine Ev.pos (len_mid p t x) (Ev.pos (by omega) ?_)
    rw [set_mid, wrap_id (x := a + 1) (by omega) (by omega), len_next p a (by simp at h2; omega), app_next p t a]
    have e : (a + 1 + (t.length : Int), p ++ [a] ++ markedI (a + 1) t) = (a + ((x :: t).length : Int), p ++ markedI a (x :: t)) := by
      simp only [markedI, List.append_assoc, List.singleton_append, List.length_cons]
      congr 1
      omega
    rw [e] at ih
    exact ih
theorem heldIntS_l0 : ∀ (t p : List Int) (a : Int), 0 ≤ a → a + t.length ≤ 1000000000 → (p ++ t).length ≤ 1000000000 →
    Ev (fun k => laws_heldIntS.l0 k (p ++ markedI a t) a (p.length : Int)) (a + t.length)
  | [], p, a, _, _, _ => by
    refine Ev.succ ?_
    simp only [laws_heldIntS.l0, markedI]
    exact Ev.neg (len_end p) (Ev.val (by simp))
  | x :: t, p, a, h0, h1, h2 => by
    rw [List.length_cons] at h1
    have ih := heldIntS_l0 t (p ++ [a]) (a + 1) (by omega) (by omega) (by simpa using h2)
    rw [show markedI a (x :: t) = a :: markedI (a + 1) t from rfl]
    refine Ev.succ ?_
    simp only [laws_heldIntS.l0]
    refine Ev.pos (len_mid p _ _) (Ev.pos (by omega) ?_)
    rw [rd_mid, wrap_id (x := a + 1) (by omega) (by omega)]
    refine Ev.pos rfl ?_
    rw [len_next p a (by simp at h2; omega), app_next p _ a]
    have e : (a + 1 + (t.length : Int)) = (a + ((x :: t).length : Int)) := by rw [List.length_cons]; omega
    rw [e] at ih
    exact ih
theorem markIntS_ev (l : List Int) (a : Int) (h0 : 0 ≤ a) (h1 : a + l.length ≤ 1000000000) : Ev (fun k => laws_markIntS.f k l a) (a + l.length, markedI a l) ∧ Ev (fun k => laws_heldIntS.f k (markedI a l) a) (a + l.length) :=
  ⟨markIntS_l0 l [] a h0 h1 (by simp; omega), heldIntS_l0 l [] a h0 h1 (by simp; omega)⟩
def cellsS : List (List Int) → Nat
  | [] => 0
  | x :: l => x.length + cellsS l
def markedS : Int → List (List Int) → List (List Int)
  | _, [] => []
  | a, x :: l => markedI a x :: markedS (a + x.length) l
theorem setL_mid (p t : List (List Int)) (x y : List Int) : (p ++ x :: t).set ((p.length : Int)).toNat y = p ++ y :: t := by simp
theorem markIntSS_l0 : ∀ (t p : List (List Int)) (a : Int), 0 ≤ a → a + cellsS t ≤ 1000000000 → (p ++ t).length ≤ 1000000000 →
    Ev (fun k => laws_markIntSS.l0 k (p ++ t) a (p.length : Int)) (a + cellsS t, p ++ markedS a t)
  | [], p, a, _, _, _ => by
    refine Ev.succ ?_
    simp only [laws_markIntSS.l0]
    exact Ev.neg (len_end p) (Ev.val (by simp [markedS, cellsS]))
  | x :: t, p, a, h0, h1, h2 => by
    rw [cellsS] at h1
    have ih := markIntSS_l0 t (p ++ [markedI a x]) (a + x.length) (by omega) (by omega) (by simpa using h2)
    refine Ev.succ ?_
    simp only [laws_markIntSS.l0]
    refine Ev.pos (len_mid p t x) (Ev.pos (by omega) ?_)
    rw [rdL_mid1]
    refine Ev.bind (markIntS_ev x a h0 (by omega)).1 ?_
    rw [setL_mid, len_next p (markedI a x) (by simp at h2; omega), app_next p t (markedI a x)]
    have e : (a + (x.length : Int) + (cellsS t : Int), p ++ [markedI a x] ++ markedS (a + x.length) t) = (a + (cellsS (x :: t) : Int), p ++ markedS a (x :: t)) := by
      simp only [markedS, cellsS, List.append_assoc, List.singleton_append]
      congr 1
      omega
    rw [e] at ih
    exact ih
theorem heldIntSS_l0 : ∀ (t p : List (List Int)) (a : Int), 0 ≤ a → a + cellsS t ≤ 1000000000 → (p ++ t).length ≤ 1000000000 →
    Ev (fun k => laws_heldIntSS.l0 k (p ++ markedS a t) a (p.length : Int)) (a + cellsS t)
  | [], p, a, _, _, _ => by
    refine Ev.succ ?_
    simp only [laws_heldIntSS.l0, markedS]
    exact Ev.neg (len_end p) (Ev.val (by simp [cellsS]))
  | x :: t, p, a, h0, h1, h2 => by
    rw [cellsS] at h1
    have ih := heldIntSS_l0 t (p ++ [markedI a x]) (a + x.length) (by omega) (by omega) (by simpa using h2)
    rw [show markedS a (x :: t) = markedI a x :: markedS (a + x.length) t from rfl]
    refine Ev.succ ?_
    simp only [laws_heldIntSS.l0]
    refine Ev.pos (len_mid p _ _) (Ev.pos (by omega) ?_)
    rw [rdL_mid1]
    refine Ev.bind (markIntS_ev x a h0 (by omega)).2 (Ev.neg (by omega) ?_)
    rw [len_next p (markedI a x) (by simp at h2; omega), app_next p _ (markedI a x)]
    have e : (a + (x.length : Int) + (cellsS t : Int)) = (a + (cellsS (x :: t) : Int)) := by rw [cellsS]; omega
    rw [e] at ih
    exact ih
theorem markGears_ev (W D : Int) (l : List (List Int)) (hc : cellsS l ≤ 100000000) (hl : l.length ≤ 100000000) :
    Ev (fun k => laws_markGears.f k W D l 1) (1 + (cellsS l : Int), markedS 1 l) ∧ Ev (fun k => laws_heldGears.f k W D (markedS 1 l) 1) (1 + (cellsS l : Int)) :=
  ⟨markIntSS_l0 l [] 1 (by omega) (by omega) (by simp; omega), by
    unfold laws_heldGears.f
    exact Ev.bind (heldIntSS_l0 l [] 1 (by omega) (by omega) (by simp; omega)) (Ev.neg (by omega) (Ev.now _))⟩
def eyeRow (n i : Nat) : List Int := (List.replicate n (0 : Int)).set i 1
def eyes (n : Nat) : List (List Int) := (List.range n).map (eyeRow n)
def SingleM (W D : Int) : Int × Int × List (List Int) × Bool := if (small W D 1000 && !decide (W > 5)) = true then (W, D, eyes W.toNat, true) else (0, 0, [], false)
theorem eyes_step (n j : Nat) : (List.range j).map (eyeRow n) ++ [eyeRow n j] = (List.range (j + 1)).map (eyeRow n) := by
  rw [List.range_succ, List.map_append]; rfl
theorem single_sl0 (W D : Int) (h0 : 0 ≤ W) (h1 : W ≤ 5) : ∀ (m j : Nat), j + m = W.toNat → Ev (fun k => spec_SingleGears.l0 k (j : Int) W D W D ((List.range j).map (eyeRow W.toNat))) (W, D, eyes W.toNat, true)
  | 0, j, e => by
    refine Ev.succ ?_
    simp only [spec_SingleGears.l0]
    refine Ev.neg (by omega) (Ev.val ?_)
    rw [show j = W.toNat by omega, eyes]
  | m + 1, j, e => by
    refine Ev.succ ?_
    simp only [spec_SingleGears.l0]
    refine Ev.pos (by omega) (Ev.pos h0 (Ev.pos (by omega) (Ev.bind0 rfl (Ev.pos (by omega) (Ev.pos (by rw [List.length_replicate]; omega) (Ev.pos (by rw [List.length_map, List.length_range]; omega) ?_))))))
    rw [wrap_id (x := (j : Int) + 1) (by omega) (by omega), show ((j : Int) + 1) = ((j + 1 : Nat) : Int) by omega, show ((j : Int)).toNat = j from rfl, show (List.replicate W.toNat (0 : Int)).set j 1 = eyeRow W.toNat j from rfl, eyes_step]
    exact single_sl0 W D h0 h1 m (j + 1) (by omega)
theorem single_il0 (W D : Int) (h0 : 0 ≤ W) (h1 : W ≤ 5) : ∀ (m j : Nat), j + m = W.toNat → Ev (fun k => impl_SingleGears.l0 k W (j : Int) W D W D ((List.range j).map (eyeRow W.toNat))) (W, D, eyes W.toNat, true)
  | 0, j, e => by
    refine Ev.succ ?_
    simp only [impl_SingleGears.l0]
    refine Ev.neg (by omega) (Ev.val ?_)
    rw [show j = W.toNat by omega, eyes]
  | m + 1, j, e => by
    refine Ev.succ ?_
    simp only [impl_SingleGears.l0]
    refine Ev.pos (by omega) (Ev.pos h0 (Ev.pos (by omega) (Ev.bind0 rfl (Ev.pos (by omega) (Ev.pos (by rw [List.length_replicate]; omega) (Ev.pos (by rw [List.length_map, List.length_range]; omega) ?_))))))
    rw [wrap_id (x := (j : Int) + 1) (by omega) (by omega), show ((j : Int) + 1) = ((j + 1 : Nat) : Int) by omega, show ((j : Int)).toNat = j from rfl, show (List.replicate W.toNat (0 : Int)).set j 1 = eyeRow W.toNat j from rfl, eyes_step]
    exact single_il0 W D h0 h1 m (j + 1) (by omega)
theorem SingleGears_s (W D : Int) : Ev (fun k => spec_SingleGears.f k W D) (SingleM W D) := by
  unfold spec_SingleGears.f SingleM small
  refine Ev.bind0 (whGood_f W D) ?_
  by_cases h : good W D = true
  · have g := good_iff.1 h
    refine Ev.pos h (Ev.bind (whCount_ev h) ?_)
    by_cases h2 : pw D W.toNat > 1000
    · refine Ev.pos h2 (Ev.succ ?_)
      simp only [spec_SingleGears.j0]
      exact Ev.pos trivial (Ev.val (by simp; omega))
    · refine Ev.neg h2 (Ev.succ ?_)
      simp only [spec_SingleGears.j0]
      by_cases h3 : W > 5
      · exact Ev.pos (by simpa using h3) (Ev.val (by rw [if_neg (by simp [h3])]))
      · refine Ev.neg (by simpa using h3) ?_
        rw [if_pos (by simp [h]; omega)]
        exact single_sl0 W D (by omega) (by omega) W.toNat 0 (by omega)
  · refine Ev.neg h (Ev.succ ?_)
    simp only [spec_SingleGears.j0]
    exact Ev.pos trivial (Ev.val (by rw [if_neg (by simp [h])]))
theorem SingleGears_i (W D : Int) : Ev (fun k => impl_SingleGears.f k W D) (SingleM W D) := by
  unfold impl_SingleGears.f SingleM
  refine Ev.bind (isSmall_ev W D 1000) ?_
  by_cases h : small W D 1000 = true
  · have h' := h
    unfold small at h'
    rw [Bool.and_eq_true] at h'
    have g := good_iff.1 h'.1
    refine Ev.pos h (Ev.succ ?_)
    simp only [impl_SingleGears.j0]
    by_cases h3 : W > 5
    · exact Ev.pos (by simpa using h3) (Ev.val (by rw [if_neg (by simp [h3])]))
    · refine Ev.neg (by simpa using h3) ?_
      rw [if_pos (by simp [h]; omega)]
      exact single_il0 W D (by omega) (by omega) W.toNat 0 (by omega)
  · refine Ev.neg h (Ev.succ ?_)
    simp only [impl_SingleGears.j0]
    exact Ev.pos trivial (Ev.val (by rw [if_neg (by simp [h])]))
theorem cellsS_le (n : Nat) : ∀ (l : List (List Int)), (∀ s ∈ l, s.length ≤ n) → cellsS l ≤ n * l.length
  | [], _ => by simp [cellsS]
  | x :: l, h => by
    have h1 := h x (by simp)
    have h2 := cellsS_le n l (fun s hs => h s (by simp [hs]))
    rw [cellsS, List.length_cons, Nat.mul_succ]
    omega
theorem single_small (W D : Int) : (SingleM W D).2.2.1.length ≤ 5 ∧ ∀ s ∈ (SingleM W D).2.2.1, s.length ≤ 5 := by
  unfold SingleM
  split
  · rename_i h
    simp only [Bool.and_eq_true, Bool.not_eq_true', decide_eq_false_iff_not] at h
    refine ⟨by simp [eyes]; omega, fun s hs => ?_⟩
    obtain ⟨i, _, rfl⟩ := List.mem_map.1 hs
    simp [eyeRow]; omega
  · exact ⟨by simp, by simp⟩
end Go.Proofs.Ytffjfnoocbgajaa.L
