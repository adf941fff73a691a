/- What the printed functions that FnExactCodeOfNumber reaches come to: lemmas for its plain law. -/
import Derived.Test.YtadohjdbkalilaaMath
import Derived.Test.YtadohjdbkalilaaR1
import Derived.Test.YtadohjdbkalilaaR2
import Derived.Test.YtadohjdbkalilaaR3
import Derived.Test.YtadohjdbkalilaaR4
import Derived.Test.YtadohjdbkalilaaR5
import Derived.Test.YtadohjdbkalilaaR7
import Derived.Test.YtadohjdbkalilaaR8
import Derived.Test.YtadohjdbkalilaaR9
import Derived.Test.YtadohjdbkalilaaR10
namespace Go.Proofs.Ytadohjdbkalilaa.L
open Go.RowKit Go.Proofs.YtadohjdbkalilaaW.PrintWords Go.Proofs.YtadohjdbkalilaaW.PrintMore Go.Proofs.Ytadohjdbkalilaa.M Go.Proofs.Ytadohjdbkalilaa.R
set_option linter.unusedVariables false
set_option linter.unusedSimpArgs false
theorem whGood_f (W D : Int) : spec_whGood.f W D = some (good W D) := by
  unfold spec_whGood.f spec_l1In.f good
  by_cases h1 : 1 ≤ W <;> by_cases h2 : W ≤ 6 <;> by_cases h3 : 2 ≤ D <;> by_cases h4 : D ≤ 10 <;> simp [h1, h2, h3, h4]
theorem IsLock_i (W D : Int) : impl_IsLock.f W D = some (good W D) := by
  unfold impl_IsLock.f impl_within.f good
  by_cases h1 : 1 ≤ W <;> by_cases h2 : W ≤ 6 <;> by_cases h3 : 2 ≤ D <;> by_cases h4 : D ≤ 10 <;> simp [h1, h2, h3, h4]
theorem l1In_f (n lo hi : Int) : spec_l1In.f n lo hi = some (decide (lo ≤ n ∧ n ≤ hi)) := by
  unfold spec_l1In.f
  by_cases h1 : lo ≤ n <;> by_cases h2 : n ≤ hi <;> simp [h1, h2]
theorem within_f (n lo hi : Int) : impl_within.f n lo hi = some (decide (lo ≤ n ∧ n ≤ hi)) := by
  unfold impl_within.f
  by_cases h1 : lo ≤ n <;> by_cases h2 : n ≤ hi <;> simp [h1, h2]

theorem whCount_l0 {W D : Int} (h0 : 2 ≤ D) (h1 : D ≤ 10) : ∀ (m n : Nat), n + m ≤ 6 → Ev (fun k => spec_whCount.l0 k (pw D n) (m : Int) W D) (pw D (n + m))
  | 0, n, h => by
    refine Ev.succ ?_
    simp only [spec_whCount.l0]
    exact Ev.neg (by omega) (Ev.now _)
  | m + 1, n, h => by
    have b := pw_le6 (D := D) (by omega) h1 (n := n + 1) (by omega)
    have p := pw_pos (D := D) (by omega) (n + 1)
    refine Ev.succ ?_
    simp only [spec_whCount.l0]
    refine Ev.pos (by omega) ?_
    rw [show wrap64 (pw D n * D) = pw D (n + 1) from wrap_id (by rw [pw] at *; omega) (by rw [pw] at *; omega), show wrap64 (((m + 1 : Nat) : Int) - 1) = (m : Int) by rw [wrap_id] <;> omega,
      show n + (m + 1) = (n + 1) + m by omega]
    exact whCount_l0 h0 h1 m (n + 1) (by omega)
theorem whCount_ev {W D : Int} (h : good W D = true) : Ev (fun k => spec_whCount.f k W D) (pw D W.toNat) := by
  obtain ⟨a, b, c, d⟩ := good_iff.1 h
  obtain ⟨w, rfl⟩ := Int.eq_ofNat_of_zero_le (show 0 ≤ W by omega)
  unfold spec_whCount.f
  have := whCount_l0 (W := w) c d w 0 (by omega)
  rw [Nat.zero_add] at this
  exact this
theorem power_l0 {D : Int} (h0 : 2 ≤ D) (h1 : D ≤ 10) : ∀ (m n : Nat), n + m ≤ 6 → Ev (fun k => impl_power.l0 k D (pw D n) ((n + m : Nat) : Int) (n : Int)) (pw D (n + m))
  | 0, n, h => by
    refine Ev.succ ?_
    simp only [impl_power.l0]
    exact Ev.neg (by omega) (Ev.now _)
  | m + 1, n, h => by
    have b := pw_le6 (D := D) (by omega) h1 (n := n + 1) (by omega)
    have p := pw_pos (D := D) (by omega) (n + 1)
    refine Ev.succ ?_
    simp only [impl_power.l0]
    refine Ev.pos (by omega) ?_
    rw [show wrap64 (pw D n * D) = pw D (n + 1) from wrap_id (by rw [pw] at *; omega) (by rw [pw] at *; omega), show wrap64 ((n : Int) + 1) = ((n + 1 : Nat) : Int) by rw [wrap_id] <;> omega,
      show n + (m + 1) = (n + 1) + m by omega]
    exact power_l0 h0 h1 m (n + 1) (by omega)
theorem count_ev {W D : Int} (h : good W D = true) : Ev (fun k => impl_Lock_count.f k W D) (pw D W.toNat) := by
  obtain ⟨a, b, c, d⟩ := good_iff.1 h
  obtain ⟨w, rfl⟩ := Int.eq_ofNat_of_zero_le (show 0 ≤ W by omega)
  unfold impl_Lock_count.f impl_power.f
  have := power_l0 c d w 0 (by omega)
  rw [Nat.zero_add] at this
  exact Ev.bind this (Ev.now _)

theorem l1Num_ev {d : Int} (h0 : 0 ≤ d) (h1 : d < 10) : Ev (fun k => spec_l1Num.f k d) (txt [d]) := by
  refine Ev.succ ?_
  simp only [spec_l1Num.f]
  refine Ev.pos h1 (Ev.val ?_)
  rw [wrap_id (by omega) (by omega), show (48 + d) % 256 = 48 + d by omega]; rfl
theorem whText_l0 : ∀ (t p : List Int), Ok 10 (p ++ t) → (p ++ t).length ≤ 1048576 → Ev (fun k => spec_whText.l0 k (txt p) (p ++ t) ((p ++ t).length : Int) (p.length : Int)) (txt (p ++ t))
  | [], p, h, hl => by
    refine Ev.succ ?_
    simp only [spec_whText.l0]
    refine Ev.neg (len_end p) (Ev.val (by simp))
  | x :: t, p, h, hl => by
    have hx := (Ok.cons.1 (Ok.append.1 h).2).1
    rw [List.length_append, List.length_cons] at hl
    refine Ev.succ ?_
    simp only [spec_whText.l0]
    refine Ev.pos (len_mid p t x) (Ev.pos (by omega) (Ev.pos (len_mid p t x) ?_))
    rw [rd_mid]
    refine Ev.bind (l1Num_ev hx.1 hx.2) (Ev.pos (by rw [txt_size, txt_size]; simp; omega) ?_)
    rw [len_next p x (by omega), txt_append, app_next p t x]
    refine whText_l0 t (p ++ [x]) (by rw [← app_next p t x]; exact h) (by simp; omega)
theorem whText_ev {ds : List Int} (h : Ok 10 ds) (hl : ds.length ≤ 1048576) : Ev (fun k => spec_whText.f k ds) (txt ds) := by
  unfold spec_whText.f
  exact whText_l0 ds [] h hl
theorem text_l0 : ∀ (t p : List Int), Ok 10 (p ++ t) → (p ++ t).length ≤ 1048576 → Ev (fun k => impl_text.l0 k (p.map (48 + ·)) (p ++ t) ((p ++ t).length : Int) (p.length : Int)) (txt (p ++ t))
  | [], p, h, hl => by
    refine Ev.succ ?_
    simp only [impl_text.l0]
    refine Ev.neg (len_end p) (Ev.val (by unfold txt; simp))
  | x :: t, p, h, hl => by
    have hx := (Ok.cons.1 (Ok.append.1 h).2).1
    rw [List.length_append, List.length_cons] at hl
    refine Ev.succ ?_
    simp only [impl_text.l0]
    refine Ev.pos (len_mid p t x) (Ev.pos (by omega) (Ev.pos (len_mid p t x) (Ev.pos (by rw [List.length_map]; omega) ?_)))
    rw [rd_mid, wrap_id (x := 48 + x) (by omega) (by omega), show (48 + x) % 256 = 48 + x by omega, len_next p x (by omega), app_next p t x]
    have := text_l0 t (p ++ [x]) (by rw [← app_next p t x]; exact h) (by simp; omega)
    rw [List.map_append] at this
    exact this
theorem text_ev {ds : List Int} (h : Ok 10 ds) (hl : ds.length ≤ 1048576) : Ev (fun k => impl_text.f k ds) (txt ds) := by
  unfold impl_text.f
  exact text_l0 ds [] h hl

theorem whOf_l0 {W D : Int} (hD : 2 ≤ D ∧ D ≤ 10) : ∀ (m : Nat) (n : Int) (tail : List Int), 0 ≤ n → n ≤ 1000000000 → Ok D tail → m + tail.length ≤ 1000 →
    Ev (fun k => spec_whOf.l0 k n (List.replicate m 0 ++ tail) ((m : Int) - 1) W D) (txt (cod D m n ++ tail))
  | 0, n, tail, h0, h1, ht, hl => by
    refine Ev.succ ?_
    simp only [spec_whOf.l0]
    refine Ev.neg (by omega) (Ev.bind (whText_ev (by simpa using ht.le hD.2) (by simp; omega)) (Ev.val (by simp [cod])))
  | m + 1, n, tail, h0, h1, ht, hl => by
    have e1 : List.replicate (m + 1) (0 : Int) ++ tail = List.replicate m 0 ++ 0 :: tail := by
      rw [List.replicate_succ', List.append_assoc]; rfl
    have hm : ((List.replicate m (0 : Int)).length : Int) = (m : Int) := by simp
    have q0 : 0 ≤ n / D := Int.ediv_nonneg h0 (by omega)
    have q1 : n / D ≤ n := Int.ediv_le_self _ h0
    have r0 := Int.emod_nonneg n (show D ≠ 0 by omega)
    have r1 := Int.emod_lt_of_pos n (show 0 < D by omega)
    refine Ev.succ ?_
    simp only [spec_whOf.l0]
    refine Ev.pos (by omega) (Ev.neg (by omega) (Ev.pos (by omega) (Ev.pos (by simp; omega) ?_)))
    rw [e1, show ((m + 1 : Nat) : Int) - 1 = ((List.replicate m (0 : Int)).length : Int) by rw [hm]; omega, set_mid, hm, Int.tdiv_eq_ediv_of_nonneg h0, Int.tmod_eq_emod_of_nonneg h0, wrap_id (x := n / D) (by omega) (by omega), wrap_id (x := (m : Int) - 1) (by omega) (by omega)]
    rw [show cod D (m + 1) n ++ tail = cod D m (n / D) ++ (n % D :: tail) by simp [cod]]
    exact whOf_l0 hD m (n / D) (n % D :: tail) q0 (by omega) (Ok.cons.2 ⟨⟨r0, r1⟩, ht⟩) (by simp; omega)
theorem whOf_ev {W D n : Int} (hW : 0 ≤ W ∧ W ≤ 6) (hD : 2 ≤ D ∧ D ≤ 10) (h0 : 0 ≤ n) (h1 : n ≤ 1000000000) : Ev (fun k => spec_whOf.f k W D n) (txt (cod D W.toNat n)) := by
  obtain ⟨w, rfl⟩ := Int.eq_ofNat_of_zero_le hW.1
  unfold spec_whOf.f
  refine Ev.pos (by omega) (Ev.pos (by omega) ?_)
  have := whOf_l0 (W := w) hD w n [] h0 h1 (Ok.nil D) (by simp; omega)
  rw [List.append_nil, List.append_nil] at this
  rw [Int.toNat_natCast, wrap_id (x := (w : Int) - 1) (by omega) (by omega)]
  exact this
theorem code_l0 {W D : Int} (hD : 2 ≤ D ∧ D ≤ 10) : ∀ (m : Nat) (n : Int) (tail : List Int), 0 ≤ n → n ≤ 1000000000 → Ok D tail → m + tail.length ≤ 1000 →
    Ev (fun k => impl_Lock_code.l0 k n (List.replicate m 0 ++ tail) ((m : Int) - 1) W D) (txt (cod D m n ++ tail))
  | 0, n, tail, h0, h1, ht, hl => by
    refine Ev.succ ?_
    simp only [impl_Lock_code.l0]
    refine Ev.neg (by omega) (Ev.bind (text_ev (by simpa using ht.le hD.2) (by simp; omega)) (Ev.val (by simp [cod])))
  | m + 1, n, tail, h0, h1, ht, hl => by
    have e1 : List.replicate (m + 1) (0 : Int) ++ tail = List.replicate m 0 ++ 0 :: tail := by
      rw [List.replicate_succ', List.append_assoc]; rfl
    have hm : ((List.replicate m (0 : Int)).length : Int) = (m : Int) := by simp
    have q0 : 0 ≤ n / D := Int.ediv_nonneg h0 (by omega)
    have q1 : n / D ≤ n := Int.ediv_le_self _ h0
    have r0 := Int.emod_nonneg n (show D ≠ 0 by omega)
    have r1 := Int.emod_lt_of_pos n (show 0 < D by omega)
    refine Ev.succ ?_
    simp only [impl_Lock_code.l0]
    refine Ev.pos (by omega) (Ev.neg (by omega) (Ev.pos (by omega) (Ev.pos (by simp; omega) ?_)))
    rw [e1, show ((m + 1 : Nat) : Int) - 1 = ((List.replicate m (0 : Int)).length : Int) by rw [hm]; omega, set_mid, hm, Int.tdiv_eq_ediv_of_nonneg h0, Int.tmod_eq_emod_of_nonneg h0, wrap_id (x := n / D) (by omega) (by omega), wrap_id (x := (m : Int) - 1) (by omega) (by omega)]
    rw [show cod D (m + 1) n ++ tail = cod D m (n / D) ++ (n % D :: tail) by simp [cod]]
    exact code_l0 hD m (n / D) (n % D :: tail) q0 (by omega) (Ok.cons.2 ⟨⟨r0, r1⟩, ht⟩) (by simp; omega)
theorem code_ev {W D n : Int} (hW : 0 ≤ W ∧ W ≤ 6) (hD : 2 ≤ D ∧ D ≤ 10) (h0 : 0 ≤ n) (h1 : n ≤ 1000000000) : Ev (fun k => impl_Lock_code.f k W D n) (txt (cod D W.toNat n)) := by
  obtain ⟨w, rfl⟩ := Int.eq_ofNat_of_zero_le hW.1
  unfold impl_Lock_code.f
  refine Ev.pos (by omega) (Ev.pos (by omega) ?_)
  have := code_l0 (W := w) hD w n [] h0 h1 (Ok.nil D) (by simp; omega)
  rw [List.append_nil, List.append_nil] at this
  rw [Int.toNat_natCast, wrap_id (x := (w : Int) - 1) (by omega) (by omega)]
  exact this
def CodeOfNumberM (W D n : Int) : ByteArray × Bool := if (good W D && decide (0 ≤ n ∧ n ≤ pw D W.toNat - 1)) = true then (txt (cod D W.toNat n), true) else (⟨#[]⟩, false)
theorem CodeOfNumber_s (W D n : Int) : Ev (fun k => spec_CodeOfNumber.f k W D n) (CodeOfNumberM W D n) := by
  unfold spec_CodeOfNumber.f CodeOfNumberM
  refine Ev.bind0 (whGood_f W D) ?_
  by_cases h : good W D = true
  · obtain ⟨a, b, c, d⟩ := good_iff.1 h
    have p0 := pw_pos (D := D) (by omega) W.toNat
    have p1 := pw_le6 (D := D) (by omega) d (n := W.toNat) (by omega)
    rw [h, Bool.true_and]
    refine Ev.pos rfl (Ev.bind (whCount_ev h) (Ev.bind0 (l1In_f _ _ _) ?_))
    rw [wrap_id (x := pw D W.toNat - 1) (by omega) (by omega)]
    by_cases hn : 0 ≤ n ∧ n ≤ pw D W.toNat - 1
    · rw [decide_eq_true hn, if_pos rfl]
      exact Ev.pos rfl (Ev.bind (whOf_ev ⟨by omega, b⟩ ⟨c, d⟩ hn.1 (by omega)) (Ev.now _))
    · rw [decide_eq_false hn]
      exact Ev.neg (by simp) (Ev.val (by simp))
  · exact Ev.neg h (Ev.val (by simp [h]))
theorem CodeOfNumber_i (W D n : Int) : Ev (fun k => impl_CodeOfNumber.f k W D n) (CodeOfNumberM W D n) := by
  unfold impl_CodeOfNumber.f CodeOfNumberM
  refine Ev.bind0 (IsLock_i W D) ?_
  by_cases h : good W D = true
  · obtain ⟨a, b, c, d⟩ := good_iff.1 h
    have p0 := pw_pos (D := D) (by omega) W.toNat
    have p1 := pw_le6 (D := D) (by omega) d (n := W.toNat) (by omega)
    rw [h, Bool.true_and]
    refine Ev.pos rfl (Ev.bind (count_ev h) (Ev.bind0 (within_f _ _ _) ?_))
    rw [wrap_id (x := pw D W.toNat - 1) (by omega) (by omega)]
    by_cases hn : 0 ≤ n ∧ n ≤ pw D W.toNat - 1
    · rw [decide_eq_true hn, if_pos rfl]
      exact Ev.pos rfl (Ev.bind (code_ev ⟨by omega, b⟩ ⟨c, d⟩ hn.1 (by omega)) (Ev.now _))
    · rw [decide_eq_false hn]
      exact Ev.neg (by simp) (Ev.val (by simp))
  · exact Ev.neg h (Ev.val (by simp [h]))
end Go.Proofs.Ytadohjdbkalilaa.L
