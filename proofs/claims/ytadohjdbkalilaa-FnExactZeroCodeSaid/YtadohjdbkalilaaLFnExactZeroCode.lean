/- What the printed functions that FnExactZeroCode reaches come to: lemmas for its plain law. -/
import Derived.Test.YtadohjdbkalilaaMath
import Derived.Test.YtadohjdbkalilaaR1
import Derived.Test.YtadohjdbkalilaaR2
import Derived.Test.YtadohjdbkalilaaR3
import Derived.Test.YtadohjdbkalilaaR4
import Derived.Test.YtadohjdbkalilaaR5
import Derived.Test.YtadohjdbkalilaaR6
namespace Go.Proofs.Ytadohjdbkalilaa.L
open Go.RowKit Go.Proofs.YtadohjdbkalilaaW.PrintWords Go.Proofs.YtadohjdbkalilaaW.PrintMore Go.Proofs.Ytadohjdbkalilaa.M Go.Proofs.Ytadohjdbkalilaa.R
set_option linter.unusedVariables false
set_option linter.unusedSimpArgs false
theorem whGood_f (W D : Int) : spec_whGood.f W D = some (good W D) := by
  unfold spec_whGood.f spec_l1In.f good
  by_cases h1 : 1 ≤ W <;> by_cases h2 : W ≤ 6 <;> by_cases h3 : 2 ≤ D <;> by_cases h4 : D ≤ 10 <;> simp [h1, h2, h3, h4]
theorem IsLock_i (W D : Int) : impl_IsLock.f W D = some (good W D) := by
  unfold impl_IsLock.f impl_within.f good
  by_cases h1 : 1 ≤ W <;> by_cases h2 : W ≤ 6 <;> by_cases h3 : 2 ≤ D <;> by_cases h4 : D ≤ 10 <;> simp [h1, h2, h3, h4]
theorem l1Num_ev {d : Int} (h0 : 0 ≤ d) (h1 : d < 10) : Ev (fun k => spec_l1Num.f k d) (txt [d]) := by
  refine Ev.succ ?_
  simp only [spec_l1Num.f]
  refine Ev.pos h1 (Ev.val ?_)
  rw [wrap_id (by omega) (by omega), show (48 + d) % 256 = 48 + d by omega]; rfl
theorem whText_l0 : ∀ (t p : List Int), Ok 10 (p ++ t) → (p ++ t).length ≤ 1048576 → Ev (fun k => spec_whText.l0 k (txt p) (p ++ t) ((p ++ t).length : Int) (p.length : Int)) (txt (p ++ t))
  | [], p, h, hl => by
    refine Ev.succ ?_
    simp only [spec_whText.l0]
    refine Ev.neg (len_end p) (Ev.val (by simp))
  | x :: t, p, h, hl => by
    have hx := (Ok.cons.1 (Ok.append.1 h).2).1
    rw [List.length_append, List.length_cons] at hl
    refine Ev.succ ?_
    simp only [spec_whText.l0]
    refine Ev.pos (len_mid p t x) (Ev.pos (by omega) (Ev.pos (len_mid p t x) ?_))
    rw [rd_mid]
    refine Ev.bind (l1Num_ev hx.1 hx.2) (Ev.pos (by rw [txt_size, txt_size]; simp; omega) ?_)
    rw [len_next p x (by omega), txt_append, app_next p t x]
    refine whText_l0 t (p ++ [x]) (by rw [← app_next p t x]; exact h) (by simp; omega)
theorem whText_ev {ds : List Int} (h : Ok 10 ds) (hl : ds.length ≤ 1048576) : Ev (fun k => spec_whText.f k ds) (txt ds) := by
  unfold spec_whText.f
  exact whText_l0 ds [] h hl
theorem text_l0 : ∀ (t p : List Int), Ok 10 (p ++ t) → (p ++ t).length ≤ 1048576 → Ev (fun k => impl_text.l0 k (p.map (48 + ·)) (p ++ t) ((p ++ t).length : Int) (p.length : Int)) (txt (p ++ t))
  | [], p, h, hl => by
    refine Ev.succ ?_
    simp only [impl_text.l0]
    refine Ev.neg (len_end p) (Ev.val (by unfold txt; simp))
  | x :: t, p, h, hl => by
    have hx := (Ok.cons.1 (Ok.append.1 h).2).1
    rw [List.length_append, List.length_cons] at hl
    refine Ev.succ ?_
    simp only [impl_text.l0]
    refine Ev.pos (len_mid p t x) (Ev.pos (by omega) (Ev.pos (len_mid p t x) (Ev.pos (by rw [List.length_map]; omega) ?_)))
    rw [rd_mid, wrap_id (x := 48 + x) (by omega) (by omega), show (48 + x) % 256 = 48 + x by omega, len_next p x (by omega), app_next p t x]
    have := text_l0 t (p ++ [x]) (by rw [← app_next p t x]; exact h) (by simp; omega)
    rw [List.map_append] at this
    exact this
theorem text_ev {ds : List Int} (h : Ok 10 ds) (hl : ds.length ≤ 1048576) : Ev (fun k => impl_text.f k ds) (txt ds) := by
  unfold impl_text.f
  exact text_l0 ds [] h hl

theorem cod_zero (D : Int) : ∀ w : Nat, cod D w 0 = List.replicate w 0
  | 0 => rfl
  | w + 1 => by rw [cod, Int.zero_ediv, Int.zero_emod, cod_zero D w, List.replicate_succ']
theorem code_l0 {W D : Int} (hD : 2 ≤ D ∧ D ≤ 10) : ∀ (m : Nat) (n : Int) (tail : List Int), 0 ≤ n → n ≤ 1000000000 → Ok D tail → m + tail.length ≤ 1000 →
    Ev (fun k => impl_Lock_code.l0 k n (List.replicate m 0 ++ tail) ((m : Int) - 1) W D) (txt (cod D m n ++ tail))
  | 0, n, tail, h0, h1, ht, hl => by
    refine Ev.succ ?_
    simp only [impl_Lock_code.l0]
    refine Ev.neg (by omega) (Ev.bind (text_ev (by simpa using ht.le hD.2) (by simp; omega)) (Ev.val (by simp [cod])))
  | m + 1, n, tail, h0, h1, ht, hl => by
    have e1 : List.replicate (m + 1) (0 : Int) ++ tail = List.replicate m 0 ++ 0 :: tail := by
      rw [List.replicate_succ', List.append_assoc]; rfl
    have hm : ((List.replicate m (0 : Int)).length : Int) = (m : Int) := by simp
    have q0 : 0 ≤ n / D := Int.ediv_nonneg h0 (by omega)
    have q1 : n / D ≤ n := Int.ediv_le_self _ h0
    have r0 := Int.emod_nonneg n (show D ≠ 0 by omega)
    have r1 := Int.emod_lt_of_pos n (show 0 < D by omega)
    refine Ev.succ ?_
    simp only [impl_Lock_code.l0]
    refine Ev.pos (by omega) (Ev.neg (by omega) (Ev.pos (by omega) (Ev.pos (by simp; omega) ?_)))
    rw [e1, show ((m + 1 : Nat) : Int) - 1 = ((List.replicate m (0 : Int)).length : Int) by rw [hm]; omega, set_mid, hm, Int.tdiv_eq_ediv_of_nonneg h0, Int.tmod_eq_emod_of_nonneg h0, wrap_id (x := n / D) (by omega) (by omega), wrap_id (x := (m : Int) - 1) (by omega) (by omega)]
    rw [show cod D (m + 1) n ++ tail = cod D m (n / D) ++ (n % D :: tail) by simp [cod]]
    exact code_l0 hD m (n / D) (n % D :: tail) q0 (by omega) (Ok.cons.2 ⟨⟨r0, r1⟩, ht⟩) (by simp; omega)
theorem code_ev {W D n : Int} (hW : 0 ≤ W ∧ W ≤ 6) (hD : 2 ≤ D ∧ D ≤ 10) (h0 : 0 ≤ n) (h1 : n ≤ 1000000000) : Ev (fun k => impl_Lock_code.f k W D n) (txt (cod D W.toNat n)) := by
  obtain ⟨w, rfl⟩ := Int.eq_ofNat_of_zero_le hW.1
  unfold impl_Lock_code.f
  refine Ev.pos (by omega) (Ev.pos (by omega) ?_)
  have := code_l0 (W := w) hD w n [] h0 h1 (Ok.nil D) (by simp; omega)
  rw [List.append_nil, List.append_nil] at this
  rw [Int.toNat_natCast, wrap_id (x := (w : Int) - 1) (by omega) (by omega)]
  exact this
def ZeroCodeM (W D : Int) : ByteArray × Bool := if good W D = true then (txt (List.replicate W.toNat 0), true) else (⟨#[]⟩, false)
theorem ZeroCode_s (W D : Int) : Ev (fun k => spec_ZeroCode.f k W D) (ZeroCodeM W D) := by
  unfold spec_ZeroCode.f ZeroCodeM
  refine Ev.bind0 (whGood_f W D) ?_
  by_cases h : good W D = true
  · obtain ⟨a, b, c, d⟩ := good_iff.1 h
    rw [if_pos h]
    exact Ev.pos h (Ev.pos (by omega) (Ev.pos (by omega) (Ev.bind (whText_ev (Ok.rep (by omega) _) (by simp; omega)) (Ev.now _))))
  · rw [if_neg h]; exact Ev.neg h (Ev.now _)
theorem ZeroCode_i (W D : Int) : Ev (fun k => impl_ZeroCode.f k W D) (ZeroCodeM W D) := by
  unfold impl_ZeroCode.f ZeroCodeM
  refine Ev.bind0 (IsLock_i W D) ?_
  by_cases h : good W D = true
  · obtain ⟨a, b, c, d⟩ := good_iff.1 h
    rw [if_pos h]
    have := code_ev (W := W) (D := D) ⟨by omega, b⟩ ⟨c, d⟩ (Int.le_refl 0) (by omega)
    rw [cod_zero] at this
    exact Ev.pos h (Ev.bind this (Ev.now _))
  · rw [if_neg h]; exact Ev.neg h (Ev.now _)
end Go.Proofs.Ytadohjdbkalilaa.L
