/- What the printed functions that FnWheelsTurn reaches come to: lemmas for its plain law. -/
import Derived.Laws.Bits64b
import Derived.Test.YtoaekmghlmeflaaMath
import Derived.Test.YtoaekmghlmeflaaU0
import Derived.Test.YtoaekmghlmeflaaU1
import Derived.Test.YtoaekmghlmeflaaU4
import Derived.Test.YtoaekmghlmeflaaU5
import Derived.Test.YtoaekmghlmeflaaU6
import Derived.Test.YtoaekmghlmeflaaU8
import Derived.Test.YtoaekmghlmeflaaU9
import Derived.Test.YtoaekmghlmeflaaU10
import Derived.Test.YtoaekmghlmeflaaU12
import Derived.Test.YtoaekmghlmeflaaU15
import Derived.Test.YtoaekmghlmeflaaU17
import Derived.Test.YtoaekmghlmeflaaU19
import Derived.Test.YtoaekmghlmeflaaU21
import Derived.Test.YtoaekmghlmeflaaU24
import Derived.Test.YtoaekmghlmeflaaU27
import Derived.Test.YtoaekmghlmeflaaU28
import Derived.Test.YtoaekmghlmeflaaU29
import Derived.Test.YtoaekmghlmeflaaU32
import Derived.Test.YtoaekmghlmeflaaU34
import Derived.Test.YtoaekmghlmeflaaU35
import Derived.Test.YtoaekmghlmeflaaU36
import Derived.Test.YtoaekmghlmeflaaU37
import Derived.Test.YtoaekmghlmeflaaU39
import Derived.Test.YtoaekmghlmeflaaU41
import Derived.Test.YtoaekmghlmeflaaU43
import Derived.Test.YtoaekmghlmeflaaU46
import Derived.Test.YtoaekmghlmeflaaU48
import Derived.Test.YtoaekmghlmeflaaU50
import Derived.Test.YtoaekmghlmeflaaU51
import Derived.Test.YtoaekmghlmeflaaU52
namespace Go.Proofs.Ytoaekmghlmeflaa.L
open Go.RowKit Go.Proofs.YtoaekmghlmeflaaW.PrintWords Go.Proofs.YtoaekmghlmeflaaW.PrintMore Go.Proofs.Ytoaekmghlmeflaa.M Go.Proofs.Ytoaekmghlmeflaa.U
set_option linter.unusedVariables false
set_option linter.unusedSimpArgs false
theorem whGood_f (W D : Int) : spec_whGood.f W D = some (good W D) := by
  unfold spec_whGood.f spec_l1In.f good
  by_cases h1 : 1 ≤ W <;> by_cases h2 : W ≤ 6 <;> by_cases h3 : 2 ≤ D <;> by_cases h4 : D ≤ 10 <;> simp [h1, h2, h3, h4]
theorem IsLock_s (W D : Int) : spec_IsLock.f W D = some (good W D) := by
  unfold spec_IsLock.f; rw [whGood_f]; rfl
theorem IsLock_i (W D : Int) : impl_IsLock.f W D = some (good W D) := by
  unfold impl_IsLock.f impl_within.f good
  by_cases h1 : 1 ≤ W <;> by_cases h2 : W ≤ 6 <;> by_cases h3 : 2 ≤ D <;> by_cases h4 : D ≤ 10 <;> simp [h1, h2, h3, h4]
theorem l1In_f (n lo hi : Int) : spec_l1In.f n lo hi = some (decide (lo ≤ n ∧ n ≤ hi)) := by
  unfold spec_l1In.f
  by_cases h1 : lo ≤ n <;> by_cases h2 : n ≤ hi <;> simp [h1, h2]
theorem within_f (n lo hi : Int) : impl_within.f n lo hi = some (decide (lo ≤ n ∧ n ≤ hi)) := by
  unfold impl_within.f
  by_cases h1 : lo ≤ n <;> by_cases h2 : n ≤ hi <;> simp [h1, h2]

theorem whCount_l0 {W D : Int} (h0 : 2 ≤ D) (h1 : D ≤ 10) : ∀ (m n : Nat), n + m ≤ 6 → Ev (fun k => spec_whCount.l0 k (pw D n) (m : Int) W D) (pw D (n + m))
  | 0, n, h => by
    refine Ev.succ ?_
    simp only [spec_whCount.l0]
    exact Ev.neg (by omega) (Ev.now _)
  | m + 1, n, h => by
    have b := pw_le6 (D := D) (by omega) h1 (n := n + 1) (by omega)
    have p := pw_pos (D := D) (by omega) (n + 1)
    refine Ev.succ ?_
    simp only [spec_whCount.l0]
    refine Ev.pos (by omega) ?_
    rw [show wrap64 (pw D n * D) = pw D (n + 1) from wrap_id (by rw [pw] at *; omega) (by rw [pw] at *; omega), show wrap64 (((m + 1 : Nat) : Int) - 1) = (m : Int) by rw [wrap_id] <;> omega,
      show n + (m + 1) = (n + 1) + m by omega]
    exact whCount_l0 h0 h1 m (n + 1) (by omega)
theorem whCount_ev {W D : Int} (h : good W D = true) : Ev (fun k => spec_whCount.f k W D) (pw D W.toNat) := by
  obtain ⟨a, b, c, d⟩ := good_iff.1 h
  obtain ⟨w, rfl⟩ := Int.eq_ofNat_of_zero_le (show 0 ≤ W by omega)
  unfold spec_whCount.f
  have := whCount_l0 (W := w) c d w 0 (by omega)
  rw [Nat.zero_add] at this
  exact this
theorem power_l0 {D : Int} (h0 : 2 ≤ D) (h1 : D ≤ 10) : ∀ (m n : Nat), n + m ≤ 6 → Ev (fun k => impl_power.l0 k D (pw D n) ((n + m : Nat) : Int) (n : Int)) (pw D (n + m))
  | 0, n, h => by
    refine Ev.succ ?_
    simp only [impl_power.l0]
    exact Ev.neg (by omega) (Ev.now _)
  | m + 1, n, h => by
    have b := pw_le6 (D := D) (by omega) h1 (n := n + 1) (by omega)
    have p := pw_pos (D := D) (by omega) (n + 1)
    refine Ev.succ ?_
    simp only [impl_power.l0]
    refine Ev.pos (by omega) ?_
    rw [show wrap64 (pw D n * D) = pw D (n + 1) from wrap_id (by rw [pw] at *; omega) (by rw [pw] at *; omega), show wrap64 ((n : Int) + 1) = ((n + 1 : Nat) : Int) by rw [wrap_id] <;> omega,
      show n + (m + 1) = (n + 1) + m by omega]
    exact power_l0 h0 h1 m (n + 1) (by omega)
theorem count_ev {W D : Int} (h : good W D = true) : Ev (fun k => impl_Lock_count.f k W D) (pw D W.toNat) := by
  obtain ⟨a, b, c, d⟩ := good_iff.1 h
  obtain ⟨w, rfl⟩ := Int.eq_ofNat_of_zero_le (show 0 ≤ W by omega)
  unfold impl_Lock_count.f impl_power.f
  have := power_l0 c d w 0 (by omega)
  rw [Nat.zero_add] at this
  exact Ev.bind this (Ev.now _)

theorem whCode_l0 {W D : Int} (hD : 2 ≤ D ∧ D ≤ 10) {s : ByteArray} (hs : s.size ≤ 1048576) : ∀ (t p : List Int), bys s = p ++ t → Ev (fun k => spec_whCode.l0 k s (p.length : Int) W D) (t.all fun b => decide (48 ≤ b ∧ b < 48 + D))
  | [], p, e => by
    have el : p.length = s.size := by rw [← bys_length, e]; simp
    refine Ev.succ ?_
    simp only [spec_whCode.l0]
    exact Ev.neg (by omega) (Ev.now _)
  | x :: t, p, e => by
    have el : p.length + (t.length + 1) = s.size := by rw [← bys_length, e]; simp
    have hx := bys_range s x (by rw [e]; simp)
    refine Ev.succ ?_
    simp only [spec_whCode.l0]
    refine Ev.pos (by omega) (Ev.pos (by omega) ?_)
    rw [bt_bys, e, rd_mid, wrap_id (x := x) (by omega) (by omega), wrap_id (x := x - 48) (by omega) (by omega), wrap_id (x := D - 1) (by omega) (by omega), l1In_f]
    refine Ev.bind0 rfl ?_
    by_cases hb : 48 ≤ x ∧ x < 48 + D
    · refine Ev.pos (by simp; omega) ?_
      rw [show wrap64 ((p.length : Int) + 1) = ((p ++ [x]).length : Int) from len_next p x (by omega)]
      simp only [List.all_cons, hb, and_self, decide_true, Bool.true_and]
      exact whCode_l0 hD hs t (p ++ [x]) (by rw [e]; simp)
    · refine Ev.neg (by simp; omega) ?_
      rw [List.all_cons, decide_eq_false hb, Bool.false_and]
      exact Ev.now _
theorem whCode_ev {W D : Int} (h : good W D = true) (s : ByteArray) (hs : s.size ≤ 1048576) : Ev (fun k => spec_whCode.f k W D s) (isC W D s) := by
  obtain ⟨a, b, c, d⟩ := good_iff.1 h
  unfold spec_whCode.f isC
  by_cases e : (s.size : Int) = W
  · refine Ev.pos e ?_
    rw [decide_eq_true e, Bool.true_and]
    exact whCode_l0 ⟨c, d⟩ hs (bys s) [] rfl
  · refine Ev.neg e ?_
    rw [decide_eq_false e, Bool.false_and]
    exact Ev.now _
theorem isText_l0 {W D : Int} (hD : 2 ≤ D ∧ D ≤ 10) {s : ByteArray} (hs : s.size ≤ 1048576) : ∀ (t p : List Int), bys s = p ++ t → Ev (fun k => impl_Lock_isText.l0 k s (s.size : Int) (p.length : Int) W D) (t.all fun b => decide (48 ≤ b ∧ b < 48 + D))
  | [], p, e => by
    have el : p.length = s.size := by rw [← bys_length, e]; simp
    refine Ev.succ ?_
    simp only [impl_Lock_isText.l0]
    exact Ev.neg (by omega) (Ev.now _)
  | x :: t, p, e => by
    have el : p.length + (t.length + 1) = s.size := by rw [← bys_length, e]; simp
    have hx := bys_range s x (by rw [e]; simp)
    refine Ev.succ ?_
    simp only [impl_Lock_isText.l0]
    refine Ev.pos (by omega) (Ev.pos (by omega) (Ev.pos (by omega) ?_))
    rw [bt_bys, e, rd_mid, wrap_id (x := x) (by omega) (by omega), wrap_id (x := 48 + D) (by omega) (by omega), wrap_id (x := 48 + D - 1) (by omega) (by omega), within_f]
    refine Ev.bind0 rfl ?_
    by_cases hb : 48 ≤ x ∧ x < 48 + D
    · refine Ev.pos (by simp; omega) ?_
      rw [show wrap64 ((p.length : Int) + 1) = ((p ++ [x]).length : Int) from len_next p x (by omega)]
      simp only [List.all_cons, hb, and_self, decide_true, Bool.true_and]
      exact isText_l0 hD hs t (p ++ [x]) (by rw [e]; simp)
    · refine Ev.neg (by simp; omega) ?_
      rw [List.all_cons, decide_eq_false hb, Bool.false_and]
      exact Ev.now _
theorem isCode_ev {W D : Int} (h : good W D = true) (s : ByteArray) (hs : s.size ≤ 1048576) : Ev (fun k => impl_Lock_isCode.f k W D s) (isC W D s) := by
  obtain ⟨a, b, c, d⟩ := good_iff.1 h
  unfold impl_Lock_isCode.f isC
  by_cases e : (s.size : Int) = W
  · refine Ev.pos e ?_
    rw [decide_eq_true e, Bool.true_and]
    refine Ev.bind (isText_l0 (W := W) ⟨c, d⟩ hs (bys s) [] rfl) (Ev.now _)
  · refine Ev.neg e ?_
    rw [decide_eq_false e, Bool.false_and]
    exact Ev.now _

def CountCodesM (W D : Int) : Int × Bool := if good W D = true then (pw D W.toNat, true) else (0, false)
theorem CountCodes_s (W D : Int) : Ev (fun k => spec_CountCodes.f k W D) (CountCodesM W D) := by
  unfold spec_CountCodes.f CountCodesM
  refine Ev.bind0 (whGood_f W D) ?_
  by_cases h : good W D = true
  · rw [if_pos h]; refine Ev.pos h (Ev.bind (whCount_ev h) (Ev.now _))
  · rw [if_neg h]; exact Ev.neg h (Ev.now _)
theorem CountCodes_i (W D : Int) : Ev (fun k => impl_CountCodes.f k W D) (CountCodesM W D) := by
  unfold impl_CountCodes.f CountCodesM
  refine Ev.bind0 (IsLock_i W D) ?_
  by_cases h : good W D = true
  · rw [if_pos h]; refine Ev.pos h (Ev.bind (count_ev h) (Ev.now _))
  · rw [if_neg h]; exact Ev.neg h (Ev.now _)
def IsCodeM (W D : Int) (s : ByteArray) : Bool × Bool := if good W D = true then (isC W D s, true) else (false, false)
theorem IsCode_s (W D : Int) (s : ByteArray) (hs : s.size ≤ 1048576) : Ev (fun k => spec_IsCode.f k W D s) (IsCodeM W D s) := by
  unfold spec_IsCode.f IsCodeM
  refine Ev.bind0 (whGood_f W D) ?_
  by_cases h : good W D = true
  · rw [if_pos h]; refine Ev.pos h (Ev.bind (whCode_ev h s hs) (Ev.now _))
  · rw [if_neg h]; exact Ev.neg h (Ev.now _)
theorem IsCode_i (W D : Int) (s : ByteArray) (hs : s.size ≤ 1048576) : Ev (fun k => impl_IsCode.f k W D s) (IsCodeM W D s) := by
  unfold impl_IsCode.f IsCodeM
  refine Ev.bind0 (IsLock_i W D) ?_
  by_cases h : good W D = true
  · rw [if_pos h]; refine Ev.pos h (Ev.bind (isCode_ev h s hs) (Ev.now _))
  · rw [if_neg h]; exact Ev.neg h (Ev.now _)
theorem dgs_app {s : ByteArray} {p t : List Int} (e : bys s = p ++ t) : dgs s = (p.map fun b => (b - 48) % 256) ++ (t.map fun b => (b - 48) % 256) := by
  unfold dgs; rw [e, List.map_append]
theorem whDigits_l0 {s : ByteArray} (hs : s.size ≤ 1048576) : ∀ (t p : List Int), bys s = p ++ t → Ev (fun k => spec_whDigits.l0 k s (p.map fun b => (b - 48) % 256) (p.length : Int)) (dgs s)
  | [], p, e => by
    have el : p.length = s.size := by rw [← bys_length, e]; simp
    refine Ev.succ ?_
    simp only [spec_whDigits.l0]
    refine Ev.neg (by omega) (Ev.val ?_)
    rw [dgs_app e]; simp
  | x :: t, p, e => by
    have el : p.length + (t.length + 1) = s.size := by rw [← bys_length, e]; simp
    refine Ev.succ ?_
    simp only [spec_whDigits.l0]
    refine Ev.pos (by omega) (Ev.pos (by omega) (Ev.pos (by rw [List.length_map]; omega) ?_))
    rw [bt_bys, e, rd_mid, show wrap64 ((p.length : Int) + 1) = ((p ++ [x]).length : Int) from len_next p x (by omega)]
    have := whDigits_l0 hs t (p ++ [x]) (by rw [e]; simp)
    rw [List.map_append] at this
    exact this
theorem whDigits_ev (s : ByteArray) (hs : s.size ≤ 1048576) : Ev (fun k => spec_whDigits.f k s) (dgs s) := by
  unfold spec_whDigits.f
  exact whDigits_l0 hs (bys s) [] rfl
theorem digits_l0 {s : ByteArray} (hs : s.size ≤ 1048576) : ∀ (t p : List Int), bys s = p ++ t → Ev (fun k => impl_digits.l0 k s (p.map fun b => (b - 48) % 256) (s.size : Int) (p.length : Int)) (dgs s)
  | [], p, e => by
    have el : p.length = s.size := by rw [← bys_length, e]; simp
    refine Ev.succ ?_
    simp only [impl_digits.l0]
    refine Ev.neg (by omega) (Ev.val ?_)
    rw [dgs_app e]; simp
  | x :: t, p, e => by
    have el : p.length + (t.length + 1) = s.size := by rw [← bys_length, e]; simp
    refine Ev.succ ?_
    simp only [impl_digits.l0]
    refine Ev.pos (by omega) (Ev.pos (by omega) (Ev.pos (by omega) (Ev.pos (by rw [List.length_map]; omega) ?_)))
    rw [bt_bys, e, rd_mid, show wrap64 ((p.length : Int) + 1) = ((p ++ [x]).length : Int) from len_next p x (by omega)]
    have := digits_l0 hs t (p ++ [x]) (by rw [e]; simp)
    rw [List.map_append] at this
    exact this
theorem digits_ev (s : ByteArray) (hs : s.size ≤ 1048576) : Ev (fun k => impl_digits.f k s) (dgs s) := by
  unfold impl_digits.f
  exact digits_l0 hs (bys s) [] rfl
theorem whDigits_txt {ds : List Int} (h : Ok 10 ds) (hl : ds.length ≤ 1048576) : Ev (fun k => spec_whDigits.f k (txt ds)) ds := by
  have := whDigits_ev (txt ds) (by rw [txt_size]; exact hl)
  rwa [dgs_txt h] at this
theorem digits_txt {ds : List Int} (h : Ok 10 ds) (hl : ds.length ≤ 1048576) : Ev (fun k => impl_digits.f k (txt ds)) ds := by
  have := digits_ev (txt ds) (by rw [txt_size]; exact hl)
  rwa [dgs_txt h] at this

theorem l1Num_ev {d : Int} (h0 : 0 ≤ d) (h1 : d < 10) : Ev (fun k => spec_l1Num.f k d) (txt [d]) := by
  refine Ev.succ ?_
  simp only [spec_l1Num.f]
  refine Ev.pos h1 (Ev.val ?_)
  rw [wrap_id (by omega) (by omega), show (48 + d) % 256 = 48 + d by omega]; rfl
theorem whText_l0 : ∀ (t p : List Int), Ok 10 (p ++ t) → (p ++ t).length ≤ 1048576 → Ev (fun k => spec_whText.l0 k (txt p) (p ++ t) ((p ++ t).length : Int) (p.length : Int)) (txt (p ++ t))
  | [], p, h, hl => by
    refine Ev.succ ?_
    simp only [spec_whText.l0]
    refine Ev.neg (len_end p) (Ev.val (by simp))
  | x :: t, p, h, hl => by
    have hx := (Ok.cons.1 (Ok.append.1 h).2).1
    rw [List.length_append, List.length_cons] at hl
    refine Ev.succ ?_
    simp only [spec_whText.l0]
    refine Ev.pos (len_mid p t x) (Ev.pos (by omega) (Ev.pos (len_mid p t x) ?_))
    rw [rd_mid]
    refine Ev.bind (l1Num_ev hx.1 hx.2) (Ev.pos (by rw [txt_size, txt_size]; simp; omega) ?_)
    rw [len_next p x (by omega), txt_append, app_next p t x]
    refine whText_l0 t (p ++ [x]) (by rw [← app_next p t x]; exact h) (by simp; omega)
theorem whText_ev {ds : List Int} (h : Ok 10 ds) (hl : ds.length ≤ 1048576) : Ev (fun k => spec_whText.f k ds) (txt ds) := by
  unfold spec_whText.f
  exact whText_l0 ds [] h hl
theorem text_l0 : ∀ (t p : List Int), Ok 10 (p ++ t) → (p ++ t).length ≤ 1048576 → Ev (fun k => impl_text.l0 k (p.map (48 + ·)) (p ++ t) ((p ++ t).length : Int) (p.length : Int)) (txt (p ++ t))
  | [], p, h, hl => by
    refine Ev.succ ?_
    simp only [impl_text.l0]
    refine Ev.neg (len_end p) (Ev.val (by unfold txt; simp))
  | x :: t, p, h, hl => by
    have hx := (Ok.cons.1 (Ok.append.1 h).2).1
    rw [List.length_append, List.length_cons] at hl
    refine Ev.succ ?_
    simp only [impl_text.l0]
    refine Ev.pos (len_mid p t x) (Ev.pos (by omega) (Ev.pos (len_mid p t x) (Ev.pos (by rw [List.length_map]; omega) ?_)))
    rw [rd_mid, wrap_id (x := 48 + x) (by omega) (by omega), show (48 + x) % 256 = 48 + x by omega, len_next p x (by omega), app_next p t x]
    have := text_l0 t (p ++ [x]) (by rw [← app_next p t x]; exact h) (by simp; omega)
    rw [List.map_append] at this
    exact this
theorem text_ev {ds : List Int} (h : Ok 10 ds) (hl : ds.length ≤ 1048576) : Ev (fun k => impl_text.f k ds) (txt ds) := by
  unfold impl_text.f
  exact text_l0 ds [] h hl

theorem l1Mod_f (k : Int) {n : Int} (h0 : 0 < n) (h1 : n ≤ 1000) : spec_l1Mod.f k n = some (k % n) := by
  unfold spec_l1Mod.f; rw [if_neg (by omega), tmod_around h0 h1]
theorem around_f (k : Int) {n : Int} (h0 : 0 < n) (h1 : n ≤ 1000) : impl_around.f k n = some (k % n) := by
  unfold impl_around.f; rw [if_neg (by omega), tmod_around h0 h1]
/-- How far two digits are apart. -/
def near (D a b : Int) : Int := mn ((b - a) % D) (D - (b - a) % D)
theorem near_bound {D a b : Int} (h : 0 < D) : 0 ≤ near D a b ∧ near D a b ≤ D := by
  have h3 := Int.emod_nonneg (b - a) (show D ≠ 0 by omega)
  have h4 := Int.emod_lt_of_pos (b - a) h
  unfold near mn; split <;> omega
theorem gap_f (W : Int) {D a b : Int} (h0 : 0 < D) (h1 : D ≤ 1000) (ha : -1000 ≤ a ∧ a ≤ 1000) (hb : -1000 ≤ b ∧ b ≤ 1000) : impl_Lock_gap.f W D a b = some ((b - a) % D) := by
  unfold impl_Lock_gap.f
  rw [wrap_id (x := b - a) (by omega) (by omega), around_f _ h0 h1, Option.bind_some]
theorem near_f (W : Int) {D a b : Int} (h0 : 0 < D) (h1 : D ≤ 1000) (ha : -1000 ≤ a ∧ a ≤ 1000) (hb : -1000 ≤ b ∧ b ≤ 1000) : impl_Lock_near.f W D a b = some (near D a b) := by
  have h3 := Int.emod_nonneg (b - a) (show D ≠ 0 by omega)
  have h4 := Int.emod_lt_of_pos (b - a) h0
  unfold impl_Lock_near.f
  rw [gap_f W h0 h1 ha hb, Option.bind_some, wrap_id (by omega) (by omega)]; rfl
theorem whNumber_l0 {W D : Int} (hD : 2 ≤ D ∧ D ≤ 10) : ∀ (t p : List Int), Ok D (p ++ t) → (p ++ t).length ≤ 6 → Ev (fun k => spec_whNumber.l0 k (num D p) (p ++ t) ((p ++ t).length : Int) (p.length : Int) W D) (num D (p ++ t))
  | [], p, h, hl => by
    refine Ev.succ ?_
    simp only [spec_whNumber.l0]
    refine Ev.neg (len_end p) (Ev.val (by simp))
  | x :: t, p, h, hl => by
    have hx := (Ok.cons.1 (Ok.append.1 h).2).1
    have hp : Ok D (p ++ [x]) := by rw [app_next p t x] at h; exact (Ok.append.1 h).1
    rw [List.length_append, List.length_cons] at hl
    have b1 := num_bound (by omega) hp
    have b2 := pw_le6 (D := D) (by omega) hD.2 (n := (p ++ [x]).length) (by simp; omega)
    have b3 := num_bound (D := D) (by omega) (Ok.append.1 hp).1
    have b4 : 0 ≤ num D p * D := Int.mul_nonneg b3.1 (by omega)
    rw [num_snoc] at b1
    refine Ev.succ ?_
    simp only [spec_whNumber.l0]
    refine Ev.pos (len_mid p t x) (Ev.pos (by omega) (Ev.pos (len_mid p t x) ?_))
    rw [rd_mid, wrap_id (x := num D p * D) (by omega) (by omega), wrap_id (x := num D p * D + x) (by omega) (by omega), ← num_snoc, len_next p x (by omega), app_next p t x]
    exact whNumber_l0 hD t (p ++ [x]) (by rw [← app_next p t x]; exact h) (by simp; omega)
theorem whNumber_ev {W D : Int} (hD : 2 ≤ D ∧ D ≤ 10) {ds : List Int} (h : Ok D ds) (hl : ds.length ≤ 6) : Ev (fun k => spec_whNumber.f k W D (txt ds)) (num D ds) := by
  unfold spec_whNumber.f
  refine Ev.bind (whDigits_txt (h.le hD.2) (by omega)) ?_
  exact whNumber_l0 hD ds [] h hl
theorem number_l0 {W D : Int} (hD : 2 ≤ D ∧ D ≤ 10) : ∀ (t p : List Int), Ok D (p ++ t) → (p ++ t).length ≤ 6 → Ev (fun k => impl_Lock_number.l0 k (num D p) (p ++ t) ((p ++ t).length : Int) (p.length : Int) W D) (num D (p ++ t))
  | [], p, h, hl => by
    refine Ev.succ ?_
    simp only [impl_Lock_number.l0]
    refine Ev.neg (len_end p) (Ev.val (by simp))
  | x :: t, p, h, hl => by
    have hx := (Ok.cons.1 (Ok.append.1 h).2).1
    have hp : Ok D (p ++ [x]) := by rw [app_next p t x] at h; exact (Ok.append.1 h).1
    rw [List.length_append, List.length_cons] at hl
    have b1 := num_bound (by omega) hp
    have b2 := pw_le6 (D := D) (by omega) hD.2 (n := (p ++ [x]).length) (by simp; omega)
    have b3 := num_bound (D := D) (by omega) (Ok.append.1 hp).1
    have b4 : 0 ≤ num D p * D := Int.mul_nonneg b3.1 (by omega)
    rw [num_snoc] at b1
    refine Ev.succ ?_
    simp only [impl_Lock_number.l0]
    refine Ev.pos (len_mid p t x) (Ev.pos (by omega) (Ev.pos (len_mid p t x) ?_))
    rw [rd_mid, wrap_id (x := num D p * D) (by omega) (by omega), wrap_id (x := num D p * D + x) (by omega) (by omega), ← num_snoc, len_next p x (by omega), app_next p t x]
    exact number_l0 hD t (p ++ [x]) (by rw [← app_next p t x]; exact h) (by simp; omega)
theorem number_ev {W D : Int} (hD : 2 ≤ D ∧ D ≤ 10) {ds : List Int} (h : Ok D ds) (hl : ds.length ≤ 6) : Ev (fun k => impl_Lock_number.f k W D (txt ds)) (num D ds) := by
  unfold impl_Lock_number.f
  refine Ev.bind (digits_txt (h.le hD.2) (by omega)) ?_
  exact number_l0 hD ds [] h hl

theorem whAsked_ev (W D : Int) (s : ByteArray) (hs : s.size ≤ 1048576) : Ev (fun k => spec_whAsked.f k W D s) (good W D && isC W D s) := by
  unfold spec_whAsked.f
  refine Ev.bind0 (whGood_f W D) ?_
  by_cases h : good W D = true
  · refine Ev.pos h (Ev.bind (whCode_ev h s hs) (Ev.val (by rw [h]; rfl)))
  · refine Ev.neg h (Ev.val (by simp [h]))
theorem has_l0 {W D : Int} (h : good W D = true) : ∀ (t p : List ByteArray), (∀ s ∈ t, s.size ≤ 1048576) → (p ++ t).length ≤ 1048576 → Ev (fun k => impl_has.l0 k (p ++ t) ((p ++ t).length : Int) (p.length : Int) W D) (t.all (isC W D))
  | [], p, hs, hl => by
    refine Ev.succ ?_
    simp only [impl_has.l0]
    refine Ev.neg (len_end p) (Ev.val (by simp))
  | x :: t, p, hs, hl => by
    rw [List.length_append, List.length_cons] at hl
    refine Ev.succ ?_
    simp only [impl_has.l0]
    refine Ev.pos (len_mid p t x) (Ev.pos (by omega) (Ev.pos (len_mid p t x) ?_))
    rw [rdOf_mid, len_next p x (by omega), app_next p t x]
    refine Ev.bind (isCode_ev h x (hs x (by simp))) ?_
    by_cases hx : isC W D x = true
    · refine Ev.pos hx ?_
      rw [List.all_cons, hx, Bool.true_and]
      exact has_l0 h t (p ++ [x]) (fun s hs' => hs s (by simp [hs'])) (by simp; omega)
    · refine Ev.neg hx (Ev.val ?_)
      simp [hx]
theorem has_ev (W D : Int) (l : List ByteArray) (hs : ∀ s ∈ l, s.size ≤ 1048576) (hl : l.length ≤ 1048576) : Ev (fun k => impl_has.f k W D l) (good W D && l.all (isC W D)) := by
  unfold impl_has.f
  refine Ev.bind0 (IsLock_i W D) ?_
  by_cases h : good W D = true
  · refine Ev.pos h ?_
    rw [h, Bool.true_and]
    exact has_l0 h l [] hs hl
  · refine Ev.neg h (Ev.val (by simp [h]))

def NumberOfCodeM (W D : Int) (s : ByteArray) : Int × Bool := if (good W D && isC W D s) = true then (num D (dgs s), true) else (0, false)
theorem NumberOfCode_s (W D : Int) (s : ByteArray) (hs : s.size ≤ 1048576) : Ev (fun k => spec_NumberOfCode.f k W D s) (NumberOfCodeM W D s) := by
  unfold spec_NumberOfCode.f NumberOfCodeM
  refine Ev.bind (whAsked_ev W D s hs) ?_
  by_cases h : (good W D && isC W D s) = true
  · rw [if_pos h]
    obtain ⟨hg, hc⟩ := Bool.and_eq_true_iff.1 h
    obtain ⟨a, b, c, d⟩ := good_iff.1 hg
    obtain ⟨e1, e2, e3⟩ := code_of hc d
    refine Ev.pos h ?_
    refine Ev.bind (a := num D (dgs s)) ?_ (Ev.now _)
    have := whNumber_ev (W := W) ⟨c, d⟩ e2 (by omega)
    rwa [← e1] at this
  · rw [if_neg h]; exact Ev.neg h (Ev.now _)
theorem NumberOfCode_i (W D : Int) (s : ByteArray) (hs : s.size ≤ 1048576) : Ev (fun k => impl_NumberOfCode.f k W D s) (NumberOfCodeM W D s) := by
  unfold impl_NumberOfCode.f NumberOfCodeM
  refine Ev.bind (has_ev W D [s] (by simpa using hs) (by simp)) ?_
  rw [show [s].all (isC W D) = isC W D s by simp]
  by_cases h : (good W D && isC W D s) = true
  · rw [if_pos h]
    obtain ⟨hg, hc⟩ := Bool.and_eq_true_iff.1 h
    obtain ⟨a, b, c, d⟩ := good_iff.1 hg
    obtain ⟨e1, e2, e3⟩ := code_of hc d
    refine Ev.pos h ?_
    refine Ev.bind (a := num D (dgs s)) ?_ (Ev.now _)
    have := number_ev (W := W) ⟨c, d⟩ e2 (by omega)
    rwa [← e1] at this
  · rw [if_neg h]; exact Ev.neg h (Ev.now _)
theorem whTwo_ev (W D : Int) (s t : ByteArray) (hs : s.size ≤ 1048576) (ht : t.size ≤ 1048576) : Ev (fun k => spec_whTwo.f k W D s t) (good W D && (isC W D s && isC W D t)) := by
  unfold spec_whTwo.f
  refine Ev.bind (whAsked_ev W D s hs) ?_
  by_cases h : (good W D && isC W D s) = true
  · obtain ⟨hg, hc⟩ := Bool.and_eq_true_iff.1 h
    exact Ev.pos h (Ev.bind (whCode_ev hg t ht) (Ev.val (by rw [hg, hc]; rfl)))
  · refine Ev.neg h (Ev.val ?_)
    rw [← Bool.and_assoc]; simp [h]
theorem has2_ev (W D : Int) (s t : ByteArray) (hs : s.size ≤ 1048576) (ht : t.size ≤ 1048576) : Ev (fun k => impl_has.f k W D [s, t]) (good W D && (isC W D s && isC W D t)) := by
  have := has_ev W D [s, t] (by intro u hu; simp at hu; rcases hu with rfl | rfl <;> assumption) (by simp)
  simpa using this
theorem has1_ev (W D : Int) (s : ByteArray) (hs : s.size ≤ 1048576) : Ev (fun k => impl_has.f k W D [s]) (good W D && isC W D s) := by
  have := has_ev W D [s] (by simpa using hs) (by simp)
  simpa using this

def dist (D : Int) : List Int → List Int → Int
  | a :: aa, b :: bb => near D a b + dist D aa bb
  | _, _ => 0
theorem distance_l0 {W D : Int} (hD : 2 ≤ D ∧ D ≤ 10) {s r : ByteArray} : ∀ (t u p q : List Int) (x : Int), bys s = p ++ t.map (48 + ·) → bys r = q ++ u.map (48 + ·) → Ok D t → Ok D u → p.length = q.length → t.length = u.length → s.size ≤ 6 → 0 ≤ x → x ≤ 10 * p.length →
    Ev (fun k => impl_Lock_distance.l0 k s r x (s.size : Int) (p.length : Int) W D) (x + dist D t u)
  | [], u, p, q, x, es, er, ht, hu, hpq, htu, hl, h0, h1 => by
    have el : p.length = s.size := by rw [← bys_length, es]; simp
    refine Ev.succ ?_
    simp only [impl_Lock_distance.l0]
    refine Ev.neg (by omega) (Ev.val (by simp [dist]))
  | a :: t, [], p, q, x, es, er, ht, hu, hpq, htu, hl, h0, h1 => by simp at htu
  | a :: t, b :: u, p, q, x, es, er, ht, hu, hpq, htu, hl, h0, h1 => by
    have ha := (Ok.cons.1 ht).1
    have hb := (Ok.cons.1 hu).1
    have hn := near_bound (D := D) (a := a) (b := b) (by omega)
    have el : p.length + (t.length + 1) = s.size := by rw [← bys_length, es]; simp
    have el2 : q.length + (u.length + 1) = r.size := by rw [← bys_length, er]; simp
    have e1 : bt s (p.length : Int) = 48 + a := by rw [bt_bys, es, List.map_cons, rd_mid]
    have e2 : bt r (p.length : Int) = 48 + b := by rw [bt_bys, er, List.map_cons, hpq, rd_mid]
    refine Ev.succ ?_
    simp only [impl_Lock_distance.l0]
    refine Ev.pos (by omega) (Ev.pos (by omega) (Ev.pos (by omega) (Ev.pos (by rw [List.length_cons, List.length_cons] at htu; omega) ?_)))
    rw [e1, e2, wrap_id (x := 48 + a) (by omega) (by omega), wrap_id (x := 48 + b) (by omega) (by omega)]
    refine Ev.bind0 (near_f W (by omega) (by omega) (by omega) (by omega)) ?_
    rw [show near D (48 + a) (48 + b) = near D a b by unfold near; rw [show 48 + b - (48 + a) = b - a by omega]]
    rw [wrap_id (x := x + near D a b) (by omega) (by omega), show wrap64 ((p.length : Int) + 1) = ((p ++ [48 + a]).length : Int) from len_next p _ (by omega)]
    rw [show x + dist D (a :: t) (b :: u) = (x + near D a b) + dist D t u by simp only [dist]; omega]
    exact distance_l0 hD t u (p ++ [48 + a]) (q ++ [48 + b]) (x + near D a b) (by rw [es]; simp) (by rw [er]; simp) (Ok.cons.1 ht).2 (Ok.cons.1 hu).2 (by simp [hpq]) (by simpa using htu) hl (by omega) (by simp; omega)
theorem distance_ev {W D : Int} (hD : 2 ≤ D ∧ D ≤ 10) {a b : List Int} (ha : Ok D a) (hb : Ok D b) (hl : a.length ≤ 6) (e : a.length = b.length) : Ev (fun k => impl_Lock_distance.f k W D (txt a) (txt b)) (dist D a b) := by
  unfold impl_Lock_distance.f
  have := distance_l0 (W := W) hD (s := txt a) (r := txt b) a b [] [] 0 (bys_txt (ha.le hD.2)) (bys_txt (hb.le hD.2)) ha hb rfl e (by rw [txt_size]; exact hl) (by omega) (by simp)
  rwa [Int.zero_add] at this
/-- Two codes of a lock. -/
theorem two_of {W D : Int} {s t : ByteArray} (h : (good W D && (isC W D s && isC W D t)) = true) : (1 ≤ W ∧ W ≤ 6 ∧ 2 ≤ D ∧ D ≤ 10) ∧ s = txt (dgs s) ∧ t = txt (dgs t) ∧ Ok D (dgs s) ∧ Ok D (dgs t) ∧ ((dgs s).length : Int) = W ∧ ((dgs t).length : Int) = W := by
  obtain ⟨hg, hc⟩ := Bool.and_eq_true_iff.1 h
  obtain ⟨h1, h2⟩ := Bool.and_eq_true_iff.1 hc
  have g := good_iff.1 hg
  obtain ⟨a1, a2, a3⟩ := code_of h1 g.2.2.2
  obtain ⟨b1, b2, b3⟩ := code_of h2 g.2.2.2
  exact ⟨g, a1, b1, a2, b2, a3, b3⟩
theorem one_of {W D : Int} {s : ByteArray} (h : (good W D && isC W D s) = true) : (1 ≤ W ∧ W ≤ 6 ∧ 2 ≤ D ∧ D ≤ 10) ∧ s = txt (dgs s) ∧ Ok D (dgs s) ∧ ((dgs s).length : Int) = W := by
  obtain ⟨hg, h1⟩ := Bool.and_eq_true_iff.1 h
  have g := good_iff.1 hg
  obtain ⟨a1, a2, a3⟩ := code_of h1 g.2.2.2
  exact ⟨g, a1, a2, a3⟩
def FewestTurnsM (W D : Int) (s t : ByteArray) : Int × Bool := if (good W D && (isC W D s && isC W D t)) = true then (dist D (dgs s) (dgs t), true) else (0, false)
theorem FewestTurns_i (W D : Int) (s t : ByteArray) (hs : s.size ≤ 1048576) (ht : t.size ≤ 1048576) : Ev (fun k => impl_FewestTurns.f k W D s t) (FewestTurnsM W D s t) := by
  unfold impl_FewestTurns.f FewestTurnsM
  refine Ev.bind (has2_ev W D s t hs ht) ?_
  by_cases h : (good W D && (isC W D s && isC W D t)) = true
  · rw [if_pos h]
    obtain ⟨⟨a, b, c, d⟩, e1, e2, o1, o2, l1, l2⟩ := two_of h
    refine Ev.pos h (Ev.bind (a := dist D (dgs s) (dgs t)) ?_ (Ev.now _))
    have := distance_ev (W := W) ⟨c, d⟩ o1 o2 (by omega) (by omega)
    rwa [← e1, ← e2] at this
  · rw [if_neg h]; exact Ev.neg h (Ev.now _)

def addM (D c : Int) : List Int → List Int → List Int
  | a :: aa, b :: bb => (a + c * b) % D :: addM D c aa bb
  | aa, _ => aa
theorem addM_length (D c : Int) : ∀ a b : List Int, (addM D c a b).length = a.length
  | [], b => by simp [addM]
  | a :: aa, [] => by simp [addM]
  | a :: aa, b :: bb => by simp [addM, addM_length D c aa bb]
theorem addM_ok {D : Int} (h : 0 < D) (c : Int) : ∀ a b : List Int, Ok D a → Ok D (addM D c a b)
  | [], b, ha => by simpa [addM] using ha
  | a :: aa, [], ha => by simpa [addM] using ha
  | a :: aa, b :: bb, ha => by
    rw [addM, Ok.cons]
    exact ⟨⟨Int.emod_nonneg _ (by omega), Int.emod_lt_of_pos _ h⟩, addM_ok h c aa bb (Ok.cons.1 ha).2⟩
theorem whAdd_l0 {W D c : Int} (hD : 2 ≤ D ∧ D ≤ 10) (hc : -1000000 ≤ c ∧ c ≤ 1000000) : ∀ (t u p q : List Int), Ok D (p ++ t) → Ok 1000 u → p.length = q.length → t.length = u.length → (p ++ t).length ≤ 1000 →
    Ev (fun k => spec_whAdd.l0 k c (p ++ t) (q ++ u) ((p ++ t).length : Int) (p.length : Int) W D) (txt (p ++ addM D c t u))
  | [], u, p, q, ht, hu, hpq, htu, hl => by
    refine Ev.succ ?_
    simp only [spec_whAdd.l0]
    refine Ev.neg (len_end p) ?_
    refine Ev.bind (whText_ev (ht.le hD.2) (by omega)) (Ev.val (by simp [addM]))
  | a :: t, [], p, q, ht, hu, hpq, htu, hl => by simp at htu
  | a :: t, b :: u, p, q, ht, hu, hpq, htu, hl => by
    have ha := (Ok.cons.1 (Ok.append.1 ht).2).1
    have hb := (Ok.cons.1 hu).1
    have hcb : -1000000000 ≤ c * b ∧ c * b ≤ 1000000000 := by
      have h1 : c * b ≤ 1000000 * b := Int.mul_le_mul_of_nonneg_right hc.2 hb.1
      have h2 : -1000000 * b ≤ c * b := Int.mul_le_mul_of_nonneg_right hc.1 hb.1
      omega
    rw [List.length_append, List.length_cons] at hl
    refine Ev.succ ?_
    simp only [spec_whAdd.l0]
    refine Ev.pos (len_mid p t a) (Ev.pos (by omega) (Ev.pos (len_mid p t a) (Ev.pos (by rw [hpq]; exact len_mid q u b) ?_)))
    rw [rd_mid, show rd (q ++ b :: u) (p.length : Int) = b by rw [hpq]; exact rd_mid q u b, wrap_id (x := c * b) (by omega) (by omega), wrap_id (x := a + c * b) (by omega) (by omega), len_next p ((a + c * b) % D) (by omega)]
    refine Ev.bind0 (l1Mod_f _ (by omega) (by omega)) ?_
    rw [set_mid, app_next p t ((a + c * b) % D), app_next q u b, show ((p ++ a :: t).length : Int) = ((p ++ [(a + c * b) % D] ++ t).length : Int) by simp]
    rw [show p ++ addM D c (a :: t) (b :: u) = (p ++ [(a + c * b) % D]) ++ addM D c t u by simp [addM]]
    have ok2 : Ok D (p ++ [(a + c * b) % D] ++ t) := by
      rw [Ok.append, Ok.append]
      refine ⟨⟨(Ok.append.1 ht).1, ?_⟩, (Ok.cons.1 (Ok.append.1 ht).2).2⟩
      rw [Ok.cons]
      exact ⟨⟨Int.emod_nonneg _ (by omega), Int.emod_lt_of_pos _ (by omega)⟩, Ok.nil D⟩
    exact whAdd_l0 hD hc t u (p ++ [(a + c * b) % D]) (q ++ [b]) ok2 (Ok.cons.1 hu).2 (by simp [hpq]) (by simpa using htu) (by simp; omega)
theorem whAdd_ev {W D c : Int} (hD : 2 ≤ D ∧ D ≤ 10) (hc : -1000000 ≤ c ∧ c ≤ 1000000) {a b : List Int} (ha : Ok D a) (hb : Ok D b) (hl : a.length ≤ 6) (e : a.length = b.length) : Ev (fun k => spec_whAdd.f k W D (txt a) (txt b) c) (txt (addM D c a b)) := by
  unfold spec_whAdd.f
  refine Ev.bind (whDigits_txt (ha.le hD.2) (by omega)) (Ev.bind (whDigits_txt (hb.le hD.2) (by omega)) ?_)
  exact whAdd_l0 (W := W) hD hc a b [] [] ha (hb.le (by omega)) rfl e (by simp; omega)
def AddCodesM (W D : Int) (s t : ByteArray) : ByteArray × Bool := if (good W D && (isC W D s && isC W D t)) = true then (txt (addM D 1 (dgs s) (dgs t)), true) else (⟨#[]⟩, false)
theorem AddCodes_s (W D : Int) (s t : ByteArray) (hs : s.size ≤ 1048576) (ht : t.size ≤ 1048576) : Ev (fun k => spec_AddCodes.f k W D s t) (AddCodesM W D s t) := by
  unfold spec_AddCodes.f AddCodesM
  refine Ev.bind (whTwo_ev W D s t hs ht) ?_
  by_cases h : (good W D && (isC W D s && isC W D t)) = true
  · rw [if_pos h]
    obtain ⟨⟨a, b, c, d⟩, e1, e2, o1, o2, l1, l2⟩ := two_of h
    refine Ev.pos h (Ev.bind (a := txt (addM D 1 (dgs s) (dgs t))) ?_ (Ev.now _))
    have := whAdd_ev (W := W) (c := 1) ⟨c, d⟩ (by omega) o1 o2 (by omega) (by omega)
    rwa [← e1, ← e2] at this
  · rw [if_neg h]; exact Ev.neg h (Ev.now _)
theorem AddCodes_l0 {W D : Int} (hD : 2 ≤ D ∧ D ≤ 10) : ∀ (t u p q : List Int), Ok D (p ++ t) → Ok D u → p.length = q.length → t.length = u.length → (p ++ t).length ≤ 1000 →
    Ev (fun k => impl_AddCodes.l0 k (p ++ t) (q ++ u) ((p ++ t).length : Int) (p.length : Int) W D) (txt (p ++ addM D 1 t u), true)
  | [], u, p, q, ht, hu, hpq, htu, hl => by
    refine Ev.succ ?_
    simp only [impl_AddCodes.l0]
    refine Ev.neg (len_end p) ?_
    refine Ev.bind (text_ev (ht.le hD.2) (by omega)) (Ev.val (by simp [addM]))
  | a :: t, [], p, q, ht, hu, hpq, htu, hl => by simp at htu
  | a :: t, b :: u, p, q, ht, hu, hpq, htu, hl => by
    have ha := (Ok.cons.1 (Ok.append.1 ht).2).1
    have hb := (Ok.cons.1 hu).1
    rw [List.length_append, List.length_cons] at hl
    refine Ev.succ ?_
    simp only [impl_AddCodes.l0]
    refine Ev.pos (len_mid p t a) (Ev.pos (by omega) (Ev.pos (len_mid p t a) (Ev.pos (by rw [hpq]; exact len_mid q u b) ?_)))
    rw [rd_mid, show rd (q ++ b :: u) (p.length : Int) = b by rw [hpq]; exact rd_mid q u b, wrap_id (x := a + b) (by omega) (by omega), len_next p ((a + b) % D) (by omega)]
    refine Ev.bind0 (around_f _ (by omega) (by omega)) ?_
    rw [set_mid, app_next p t ((a + b) % D), app_next q u b, show ((p ++ a :: t).length : Int) = ((p ++ [(a + b) % D] ++ t).length : Int) by simp]
    rw [show p ++ addM D 1 (a :: t) (b :: u) = (p ++ [(a + b) % D]) ++ addM D 1 t u by simp [addM]]
    have ok2 : Ok D (p ++ [(a + b) % D] ++ t) := by
      rw [Ok.append, Ok.append]
      refine ⟨⟨(Ok.append.1 ht).1, ?_⟩, (Ok.cons.1 (Ok.append.1 ht).2).2⟩
      rw [Ok.cons]
      exact ⟨⟨Int.emod_nonneg _ (by omega), Int.emod_lt_of_pos _ (by omega)⟩, Ok.nil D⟩
    exact AddCodes_l0 hD t u (p ++ [(a + b) % D]) (q ++ [b]) ok2 (Ok.cons.1 hu).2 (by simp [hpq]) (by simpa using htu) (by simp; omega)
theorem AddCodes_i (W D : Int) (s t : ByteArray) (hs : s.size ≤ 1048576) (ht : t.size ≤ 1048576) : Ev (fun k => impl_AddCodes.f k W D s t) (AddCodesM W D s t) := by
  unfold impl_AddCodes.f AddCodesM
  refine Ev.bind (has2_ev W D s t hs ht) ?_
  by_cases h : (good W D && (isC W D s && isC W D t)) = true
  · rw [if_pos h]
    obtain ⟨⟨a, b, c, d⟩, e1, e2, o1, o2, l1, l2⟩ := two_of h
    refine Ev.pos h (Ev.bind (digits_ev s hs) (Ev.bind (digits_ev t ht) ?_))
    exact AddCodes_l0 ⟨c, d⟩ (dgs s) (dgs t) [] [] o1 o2 rfl (by omega) (by simp; omega)
  · rw [if_neg h]; exact Ev.neg h (Ev.now _)

def oppM (D : Int) (ds : List Int) : List Int := ds.map fun x => (-x) % D
theorem oppM_ok {D : Int} (h : 0 < D) (ds : List Int) : Ok D (oppM D ds) := by
  intro x hx
  obtain ⟨d, _, rfl⟩ := List.mem_map.1 hx
  exact ⟨Int.emod_nonneg _ (by omega), Int.emod_lt_of_pos _ h⟩
theorem addM_rep (D : Int) : ∀ ds : List Int, addM D (-1) (List.replicate ds.length 0) ds = oppM D ds
  | [] => rfl
  | d :: ds => by
    have := addM_rep D ds
    simp only [List.length_cons, List.replicate_succ, addM, oppM, List.map_cons] at *
    rw [this, show (0 : Int) + -1 * d = -d by omega]
def OppositeCodeM (W D : Int) (s : ByteArray) : ByteArray × Bool := if (good W D && isC W D s) = true then (txt (oppM D (dgs s)), true) else (⟨#[]⟩, false)
theorem OppositeCode_s (W D : Int) (s : ByteArray) (hs : s.size ≤ 1048576) : Ev (fun k => spec_OppositeCode.f k W D s) (OppositeCodeM W D s) := by
  unfold spec_OppositeCode.f OppositeCodeM
  refine Ev.bind (whAsked_ev W D s hs) ?_
  by_cases h : (good W D && isC W D s) = true
  · rw [if_pos h]
    obtain ⟨⟨a, b, c, d⟩, e1, o1, l1⟩ := one_of h
    have hl : W.toNat = (dgs s).length := by omega
    refine Ev.pos h (Ev.pos (by omega) (Ev.pos (by omega) (Ev.bind (whText_ev (Ok.rep (by omega) _) (by simp; omega)) ?_)))
    refine Ev.bind (a := txt (oppM D (dgs s))) ?_ (Ev.now _)
    have := whAdd_ev (W := W) (c := -1) ⟨c, d⟩ (by omega) (Ok.rep (by omega) W.toNat) o1 (by simp; omega) (by simp [hl])
    rwa [← e1, hl, addM_rep, ← hl] at this
  · rw [if_neg h]; exact Ev.neg h (Ev.now _)
theorem OppositeCode_l0 {W D : Int} (hD : 2 ≤ D ∧ D ≤ 10) : ∀ (t p : List Int), Ok D (p ++ t) → (p ++ t).length ≤ 1000 →
    Ev (fun k => impl_OppositeCode.l0 k (p ++ t) ((p ++ t).length : Int) (p.length : Int) W D) (txt (p ++ oppM D t), true)
  | [], p, ht, hl => by
    refine Ev.succ ?_
    simp only [impl_OppositeCode.l0]
    refine Ev.neg (len_end p) ?_
    refine Ev.bind (text_ev (ht.le hD.2) (by omega)) (Ev.val (by simp [oppM]))
  | a :: t, p, ht, hl => by
    have ha := (Ok.cons.1 (Ok.append.1 ht).2).1
    rw [List.length_append, List.length_cons] at hl
    refine Ev.succ ?_
    simp only [impl_OppositeCode.l0]
    refine Ev.pos (len_mid p t a) (Ev.pos (by omega) (Ev.pos (len_mid p t a) ?_))
    rw [rd_mid, wrap_id (x := -a) (by omega) (by omega), len_next p ((-a) % D) (by omega)]
    refine Ev.bind0 (around_f _ (by omega) (by omega)) ?_
    rw [set_mid, app_next p t ((-a) % D), show ((p ++ a :: t).length : Int) = ((p ++ [(-a) % D] ++ t).length : Int) by simp]
    rw [show p ++ oppM D (a :: t) = (p ++ [(-a) % D]) ++ oppM D t by simp [oppM]]
    have ok2 : Ok D (p ++ [(-a) % D] ++ t) := by
      rw [Ok.append, Ok.append]
      refine ⟨⟨(Ok.append.1 ht).1, ?_⟩, (Ok.cons.1 (Ok.append.1 ht).2).2⟩
      rw [Ok.cons]
      exact ⟨⟨Int.emod_nonneg _ (by omega), Int.emod_lt_of_pos _ (by omega)⟩, Ok.nil D⟩
    exact OppositeCode_l0 hD t (p ++ [(-a) % D]) ok2 (by simp; omega)
theorem OppositeCode_i (W D : Int) (s : ByteArray) (hs : s.size ≤ 1048576) : Ev (fun k => impl_OppositeCode.f k W D s) (OppositeCodeM W D s) := by
  unfold impl_OppositeCode.f OppositeCodeM
  refine Ev.bind (has1_ev W D s hs) ?_
  by_cases h : (good W D && isC W D s) = true
  · rw [if_pos h]
    obtain ⟨⟨a, b, c, d⟩, e1, o1, l1⟩ := one_of h
    refine Ev.pos h (Ev.bind (digits_ev s hs) ?_)
    exact OppositeCode_l0 ⟨c, d⟩ (dgs s) [] o1 (by simp; omega)
  · rw [if_neg h]; exact Ev.neg h (Ev.now _)
theorem rd_nat (l : List Int) {i : Int} (h0 : 0 ≤ i) (h1 : i < l.length) : ∃ p x t, l = p ++ x :: t ∧ (p.length : Int) = i := by
  refine ⟨l.take i.toNat, l[i.toNat], l.drop (i.toNat + 1), ?_, ?_⟩
  · rw [← List.drop_eq_getElem_cons (by omega), List.take_append_drop]
  · rw [List.length_take]; omega
/-- The digits behind a turn. -/
def turnM (D : Int) (ds : List Int) (i b : Int) : List Int := ds.set i.toNat ((rd ds i + b) % D)
theorem turnM_length (D : Int) (ds : List Int) (i b : Int) : (turnM D ds i b).length = ds.length := by simp [turnM]
theorem turnM_ok {D : Int} (h : 0 < D) {ds : List Int} (hd : Ok D ds) (i b : Int) : Ok D (turnM D ds i b) := by
  intro x hx
  rcases List.mem_or_eq_of_mem_set hx with hx | rfl
  · exact hd x hx
  · exact ⟨Int.emod_nonneg _ (by omega), Int.emod_lt_of_pos _ h⟩
theorem rd_range {D : Int} {ds : List Int} (hd : Ok D ds) {i : Int} (h0 : 0 ≤ i) (h1 : i < ds.length) : 0 ≤ rd ds i ∧ rd ds i < D := by
  obtain ⟨p, x, t, e, hp⟩ := rd_nat ds h0 h1
  subst e; rw [← hp, rd_mid]
  exact hd x (by simp)
theorem turned_ev {W D : Int} (hD : 2 ≤ D ∧ D ≤ 10) {ds : List Int} (hd : Ok D ds) (hl : ds.length ≤ 6) {i b : Int} (h0 : 0 ≤ i) (h1 : i < ds.length) (hb : -1 ≤ b ∧ b ≤ 1) : Ev (fun k => impl_Lock_turned.f k W D (txt ds) i b) (txt (turnM D ds i b)) := by
  have hr := rd_range hd h0 h1
  unfold impl_Lock_turned.f
  refine Ev.bind (digits_txt (hd.le hD.2) (by omega)) (Ev.pos h0 (Ev.pos h1 ?_))
  rw [wrap_id (x := rd ds i + b) (by omega) (by omega)]
  refine Ev.bind0 (around_f _ (by omega) (by omega)) ?_
  exact Ev.bind (text_ev ((turnM_ok (by omega) hd i b).le hD.2) (by rw [List.length_set]; omega)) (Ev.now _)
theorem whMake_ev {W D : Int} (hD : 2 ≤ D ∧ D ≤ 10) {ds : List Int} (hd : Ok D ds) (hl : ds.length ≤ 6) {i b : Int} (h0 : 0 ≤ i) (h1 : i < ds.length) (hb : -1 ≤ b ∧ b ≤ 1) : Ev (fun k => spec_whMake.f k W D (txt ds) i b) (txt (turnM D ds i b)) := by
  have hr := rd_range hd h0 h1
  unfold spec_whMake.f
  refine Ev.bind (whDigits_txt (hd.le hD.2) (by omega)) (Ev.pos h0 (Ev.pos h1 ?_))
  rw [wrap_id (x := rd ds i + b) (by omega) (by omega)]
  refine Ev.bind0 (l1Mod_f _ (by omega) (by omega)) ?_
  exact Ev.bind (whText_ev ((turnM_ok (by omega) hd i b).le hD.2) (by rw [List.length_set]; omega)) (Ev.now _)

theorem rdT_mid (p t : List S40) (x : S40) : rd_T40 (p ++ x :: t) (p.length : Int) = x := by
  unfold rd_T40; rw [Int.toNat_natCast, List.getD_eq_getElem?_getD, List.getElem?_append_right (Nat.le_refl _), Nat.sub_self]; rfl
def okT (W : Int) (t : S40) : Bool := decide (0 ≤ t.f0 ∧ t.f0 ≤ W - 1) && decide (t.f1 = 1 ∨ t.f1 = -1)
theorem okT_iff {W : Int} {t : S40} : okT W t = true ↔ (0 ≤ t.f0 ∧ t.f0 ≤ W - 1) ∧ (t.f1 = 1 ∨ t.f1 = -1) := by simp [okT]
def areT (W : Int) (l : List S40) : Bool := l.all (okT W) && decide (l.length ≤ 200)
theorem whTurn_f {W : Int} (hW : 0 ≤ W ∧ W ≤ 100) (D i b : Int) : spec_whTurn.f W D i b = some (okT W ⟨i, b⟩) := by
  unfold spec_whTurn.f okT
  rw [wrap_id (x := W - 1) (by omega) (by omega), l1In_f, Option.bind_some]
  by_cases h : 0 ≤ i ∧ i ≤ W - 1
  · rw [decide_eq_true h, if_pos rfl]
    by_cases h1 : b = 1
    · rw [if_pos h1]; simp [h1]
    · rw [if_neg h1]; simp [h1]
      by_cases h2 : b = -1 <;> simp [h2]
  · rw [decide_eq_false h]; simp
theorem areTurns_l0 {W : Int} (hW : 0 ≤ W ∧ W ≤ 100) (l0 : List S40) : ∀ (t p : List S40), (p ++ t).length ≤ 1048576 →
    Ev (fun k => impl_areTurns.l0 k l0 W (p ++ t) ((p ++ t).length : Int) (p.length : Int)) (t.all (okT W) && decide (l0.length ≤ 200))
  | [], p, hl => by
    refine Ev.succ ?_
    simp only [impl_areTurns.l0]
    refine Ev.neg (len_end p) (Ev.val ?_)
    simp only [List.all_nil, Bool.true_and]
    congr 1; apply propext; omega
  | x :: t, p, hl => by
    rw [List.length_append, List.length_cons] at hl
    refine Ev.succ ?_
    simp only [impl_areTurns.l0]
    refine Ev.pos (len_mid p t x) (Ev.pos (by omega) (Ev.pos (len_mid p t x) ?_))
    rw [rdT_mid, wrap_id (x := W - 1) (by omega) (by omega), within_f, len_next p x (by omega), app_next p t x]
    refine Ev.bind0 rfl ?_
    have ih := areTurns_l0 hW l0 t (p ++ [x]) (by simp; omega)
    by_cases h : 0 ≤ x.f0 ∧ x.f0 ≤ W - 1
    · rw [decide_eq_true h]
      refine Ev.pos rfl ?_
      by_cases h1 : x.f1 = 1
      · refine Ev.pos h1 ?_
        rw [List.all_cons, okT_iff.2 ⟨h, .inl h1⟩, Bool.true_and]; exact ih
      · refine Ev.neg h1 ?_
        by_cases h2 : x.f1 = -1
        · refine Ev.pos h2 ?_
          rw [List.all_cons, okT_iff.2 ⟨h, .inr h2⟩, Bool.true_and]; exact ih
        · refine Ev.neg h2 (Ev.val ?_)
          simp [okT, h1, h2]
    · rw [decide_eq_false h]
      refine Ev.neg (by simp) (Ev.val ?_)
      simp [okT]
      intro h3 h4
      exact absurd ⟨h3, by omega⟩ h
theorem areTurns_ev {W : Int} (hW : 0 ≤ W ∧ W ≤ 100) (l : List S40) (hl : l.length ≤ 1048576) : Ev (fun k => impl_areTurns.f k l W) (areT W l) := by
  unfold impl_areTurns.f
  exact areTurns_l0 hW l l [] hl
theorem whTurns_l0 {W D : Int} (hW : 0 ≤ W ∧ W ≤ 100) : ∀ (t p : List S40), (p ++ t).length ≤ 1048576 →
    Ev (fun k => spec_whTurns.l0 k (p ++ t) ((p ++ t).length : Int) (p.length : Int) W D) (t.all (okT W))
  | [], p, hl => by
    refine Ev.succ ?_
    simp only [spec_whTurns.l0]
    exact Ev.neg (len_end p) (Ev.now _)
  | x :: t, p, hl => by
    rw [List.length_append, List.length_cons] at hl
    refine Ev.succ ?_
    simp only [spec_whTurns.l0]
    refine Ev.pos (len_mid p t x) (Ev.pos (by omega) (Ev.pos (len_mid p t x) ?_))
    rw [rdT_mid, len_next p x (by omega), app_next p t x]
    refine Ev.bind0 (whTurn_f hW D _ _) ?_
    have ih := whTurns_l0 (D := D) hW t (p ++ [x]) (by simp; omega)
    by_cases h : okT W x = true
    · refine Ev.pos h ?_
      rw [List.all_cons, h, Bool.true_and]; exact ih
    · refine Ev.neg h (Ev.val ?_)
      simp [h]
theorem whTurns_ev {W : Int} (hW : 0 ≤ W ∧ W ≤ 100) (D : Int) (l : List S40) (hl : l.length ≤ 1048576) : Ev (fun k => spec_whTurns.f k W D l) (areT W l) := by
  unfold spec_whTurns.f areT
  by_cases h : (l.length : Int) > 200
  · refine Ev.pos h (Ev.val ?_)
    rw [decide_eq_false (by omega)]; simp
  · refine Ev.neg h ?_
    rw [decide_eq_true (by omega), Bool.and_true]
    exact whTurns_l0 hW l [] hl

def turnsM (D : Int) (ds : List Int) (l : List S40) : List Int := l.foldl (fun ds t => turnM D ds t.f0 t.f1) ds
theorem turnsM_length (D : Int) (l : List S40) : ∀ ds : List Int, (turnsM D ds l).length = ds.length := by
  induction l with
  | nil => intro ds; rfl
  | cons t l ih => intro ds; exact (ih _).trans (turnM_length D ds _ _)
theorem turnsM_ok {D : Int} (h : 0 < D) (l : List S40) : ∀ ds : List Int, Ok D ds → Ok D (turnsM D ds l) := by
  induction l with
  | nil => intro ds hd; exact hd
  | cons t l ih => intro ds hd; exact ih _ (turnM_ok h hd _ _)
def TurnWheelsM (W D : Int) (s : ByteArray) (l : List S40) : ByteArray × Bool := if (good W D && isC W D s && areT W l) = true then (txt (turnsM D (dgs s) l), true) else (⟨#[]⟩, false)
theorem TurnWheels_il {W D : Int} (hD : 2 ≤ D ∧ D ≤ 10) : ∀ (t p : List S40) (ds : List Int), (p ++ t).length ≤ 1048576 → t.all (okT W) = true → Ok D ds → (ds.length : Int) = W → W ≤ 6 →
    Ev (fun k => impl_TurnWheels.l0 k (txt ds) (p ++ t) ((p ++ t).length : Int) (p.length : Int) W D) (txt (turnsM D ds t), true)
  | [], p, ds, hl, ha, hd, hw, h6 => by
    refine Ev.succ ?_
    simp only [impl_TurnWheels.l0]
    exact Ev.neg (len_end p) (Ev.now _)
  | x :: t, p, ds, hl, ha, hd, hw, h6 => by
    rw [List.length_append, List.length_cons] at hl
    rw [List.all_cons, Bool.and_eq_true_iff] at ha
    obtain ⟨h1, h2⟩ := okT_iff.1 ha.1
    refine Ev.succ ?_
    simp only [impl_TurnWheels.l0]
    refine Ev.pos (len_mid p t x) (Ev.pos (by omega) (Ev.pos (len_mid p t x) ?_))
    rw [rdT_mid, len_next p x (by omega), app_next p t x]
    refine Ev.bind (turned_ev (W := W) hD hd (by omega) h1.1 (by omega) (by omega)) ?_
    exact TurnWheels_il hD t (p ++ [x]) (turnM D ds x.f0 x.f1) (by simp; omega) ha.2 (turnM_ok (by omega) hd _ _) (by rw [turnM_length]; exact hw) h6
theorem TurnWheels_i (W D : Int) (s : ByteArray) (l : List S40) (hs : s.size ≤ 1048576) (hl : l.length ≤ 1048576) : Ev (fun k => impl_TurnWheels.f k W D s l) (TurnWheelsM W D s l) := by
  unfold impl_TurnWheels.f TurnWheelsM
  refine Ev.bind (has1_ev W D s hs) ?_
  by_cases h : (good W D && isC W D s) = true
  · obtain ⟨⟨a, b, c, d⟩, e1, o1, l1⟩ := one_of h
    rw [h, Bool.true_and]
    refine Ev.pos rfl (Ev.bind (areTurns_ev (by omega) l hl) (Ev.succ ?_))
    simp only [impl_TurnWheels.j0]
    by_cases ht : areT W l = true
    · rw [if_pos ht]
      refine Ev.neg (by simp [ht]) ?_
      have := TurnWheels_il (W := W) ⟨c, d⟩ l [] (dgs s) hl (Bool.and_eq_true_iff.1 ht).1 o1 l1 b
      rwa [← e1] at this
    · rw [if_neg ht]
      exact Ev.pos (by simp [ht]) (Ev.now _)
  · refine Ev.neg h (Ev.succ ?_)
    simp only [impl_TurnWheels.j0]
    refine Ev.pos trivial (Ev.val ?_)
    rw [if_neg (by simp at h ⊢; intro h1 h2; exact absurd h2 (by simp [h h1]))]
theorem TurnWheels_sl {W D : Int} (hD : 2 ≤ D ∧ D ≤ 10) : ∀ (t p : List S40) (ds : List Int), (p ++ t).length ≤ 1048576 → t.all (okT W) = true → Ok D ds → (ds.length : Int) = W → W ≤ 6 →
    Ev (fun k => spec_TurnWheels.l0 k (txt ds) (p ++ t) ((p ++ t).length : Int) (p.length : Int) W D) (txt (turnsM D ds t), true)
  | [], p, ds, hl, ha, hd, hw, h6 => by
    refine Ev.succ ?_
    simp only [spec_TurnWheels.l0]
    exact Ev.neg (len_end p) (Ev.now _)
  | x :: t, p, ds, hl, ha, hd, hw, h6 => by
    rw [List.length_append, List.length_cons] at hl
    rw [List.all_cons, Bool.and_eq_true_iff] at ha
    obtain ⟨h1, h2⟩ := okT_iff.1 ha.1
    refine Ev.succ ?_
    simp only [spec_TurnWheels.l0]
    refine Ev.pos (len_mid p t x) (Ev.pos (by omega) (Ev.pos (len_mid p t x) ?_))
    rw [rdT_mid, len_next p x (by omega), app_next p t x]
    refine Ev.bind (whMake_ev (W := W) hD hd (by omega) h1.1 (by omega) (by omega)) ?_
    exact TurnWheels_sl hD t (p ++ [x]) (turnM D ds x.f0 x.f1) (by simp; omega) ha.2 (turnM_ok (by omega) hd _ _) (by rw [turnM_length]; exact hw) h6
theorem TurnWheels_s (W D : Int) (s : ByteArray) (l : List S40) (hs : s.size ≤ 1048576) (hl : l.length ≤ 1048576) : Ev (fun k => spec_TurnWheels.f k W D s l) (TurnWheelsM W D s l) := by
  unfold spec_TurnWheels.f TurnWheelsM
  refine Ev.bind (whAsked_ev W D s hs) ?_
  by_cases h : (good W D && isC W D s) = true
  · obtain ⟨⟨a, b, c, d⟩, e1, o1, l1⟩ := one_of h
    rw [h, Bool.true_and]
    refine Ev.pos rfl (Ev.bind (whTurns_ev (by omega) D l hl) (Ev.succ ?_))
    simp only [spec_TurnWheels.j0]
    by_cases ht : areT W l = true
    · rw [if_pos ht]
      refine Ev.neg (by simp [ht]) ?_
      have := TurnWheels_sl (W := W) ⟨c, d⟩ l [] (dgs s) hl (Bool.and_eq_true_iff.1 ht).1 o1 l1 b
      rwa [← e1] at this
    · rw [if_neg ht]
      exact Ev.pos (by simp [ht]) (Ev.now _)
  · refine Ev.neg h (Ev.succ ?_)
    simp only [spec_TurnWheels.j0]
    refine Ev.pos trivial (Ev.val ?_)
    rw [if_neg (by simp at h ⊢; intro h1 h2; exact absurd h2 (by simp [h h1]))]
theorem TurnWheel_i (W D : Int) (s : ByteArray) (i b : Int) (hs : s.size ≤ 1048576) : Ev (fun k => impl_TurnWheel.f k W D s i b) (TurnWheelsM W D s [⟨i, b⟩]) := by
  unfold impl_TurnWheel.f
  exact Ev.bind (TurnWheels_i W D s [⟨i, b⟩] hs (by simp)) (Ev.now _)
theorem TurnWheel_s (W D : Int) (s : ByteArray) (i b : Int) (hs : s.size ≤ 1048576) : Ev (fun k => spec_TurnWheel.f k W D s i b) (TurnWheelsM W D s [⟨i, b⟩]) := by
  unfold spec_TurnWheel.f TurnWheelsM
  refine Ev.bind (whAsked_ev W D s hs) ?_
  by_cases h : (good W D && isC W D s) = true
  · obtain ⟨⟨a, b', c, d⟩, e1, o1, l1⟩ := one_of h
    rw [h, Bool.true_and]
    refine Ev.pos rfl (Ev.bind0 (whTurn_f (by omega) D _ _) ?_)
    have e2 : areT W [⟨i, b⟩] = okT W ⟨i, b⟩ := by simp [areT]
    rw [e2]
    by_cases ht : okT W ⟨i, b⟩ = true
    · rw [if_pos ht]
      obtain ⟨h1, h2⟩ := okT_iff.1 ht
      refine Ev.pos ht (Ev.bind (a := txt (turnM D (dgs s) i b)) ?_ (Ev.now _))
      have := whMake_ev (W := W) ⟨c, d⟩ o1 (by omega) (i := i) (b := b) h1.1 (by simp at h1; omega) (by simp at h2; omega)
      rwa [← e1] at this
    · rw [if_neg ht]
      exact Ev.neg ht (Ev.now _)
  · refine Ev.neg h (Ev.val ?_)
    rw [if_neg (by simp at h ⊢; intro h1 h2; exact absurd h2 (by simp [h h1]))]
theorem whOf_l0 {W D : Int} (hD : 2 ≤ D ∧ D ≤ 10) : ∀ (m : Nat) (n : Int) (tail : List Int), 0 ≤ n → n ≤ 1000000000 → Ok D tail → m + tail.length ≤ 1000 →
    Ev (fun k => spec_whOf.l0 k n (List.replicate m 0 ++ tail) ((m : Int) - 1) W D) (txt (cod D m n ++ tail))
  | 0, n, tail, h0, h1, ht, hl => by
    refine Ev.succ ?_
    simp only [spec_whOf.l0]
    refine Ev.neg (by omega) (Ev.bind (whText_ev (by simpa using ht.le hD.2) (by simp; omega)) (Ev.val (by simp [cod])))
  | m + 1, n, tail, h0, h1, ht, hl => by
    have e1 : List.replicate (m + 1) (0 : Int) ++ tail = List.replicate m 0 ++ 0 :: tail := by
      rw [List.replicate_succ', List.append_assoc]; rfl
    have hm : ((List.replicate m (0 : Int)).length : Int) = (m : Int) := by simp
    have q0 : 0 ≤ n / D := Int.ediv_nonneg h0 (by omega)
    have q1 : n / D ≤ n := Int.ediv_le_self _ h0
    have r0 := Int.emod_nonneg n (show D ≠ 0 by omega)
    have r1 := Int.emod_lt_of_pos n (show 0 < D by omega)
    refine Ev.succ ?_
    simp only [spec_whOf.l0]
    refine Ev.pos (by omega) (Ev.neg (by omega) (Ev.pos (by omega) (Ev.pos (by simp; omega) ?_)))
    rw [e1, show ((m + 1 : Nat) : Int) - 1 = ((List.replicate m (0 : Int)).length : Int) by rw [hm]; omega, set_mid, hm, Int.tdiv_eq_ediv_of_nonneg h0, Int.tmod_eq_emod_of_nonneg h0, wrap_id (x := n / D) (by omega) (by omega), wrap_id (x := (m : Int) - 1) (by omega) (by omega)]
    rw [show cod D (m + 1) n ++ tail = cod D m (n / D) ++ (n % D :: tail) by simp [cod]]
    exact whOf_l0 hD m (n / D) (n % D :: tail) q0 (by omega) (Ok.cons.2 ⟨⟨r0, r1⟩, ht⟩) (by simp; omega)
theorem whOf_ev {W D n : Int} (hW : 0 ≤ W ∧ W ≤ 6) (hD : 2 ≤ D ∧ D ≤ 10) (h0 : 0 ≤ n) (h1 : n ≤ 1000000000) : Ev (fun k => spec_whOf.f k W D n) (txt (cod D W.toNat n)) := by
  obtain ⟨w, rfl⟩ := Int.eq_ofNat_of_zero_le hW.1
  unfold spec_whOf.f
  refine Ev.pos (by omega) (Ev.pos (by omega) ?_)
  have := whOf_l0 (W := w) hD w n [] h0 h1 (Ok.nil D) (by simp; omega)
  rw [List.append_nil, List.append_nil] at this
  rw [Int.toNat_natCast, wrap_id (x := (w : Int) - 1) (by omega) (by omega)]
  exact this
theorem cod_zero (D : Int) : ∀ w : Nat, cod D w 0 = List.replicate w 0
  | 0 => rfl
  | w + 1 => by rw [cod, Int.zero_ediv, Int.zero_emod, cod_zero D w, List.replicate_succ']
theorem code_l0 {W D : Int} (hD : 2 ≤ D ∧ D ≤ 10) : ∀ (m : Nat) (n : Int) (tail : List Int), 0 ≤ n → n ≤ 1000000000 → Ok D tail → m + tail.length ≤ 1000 →
    Ev (fun k => impl_Lock_code.l0 k n (List.replicate m 0 ++ tail) ((m : Int) - 1) W D) (txt (cod D m n ++ tail))
  | 0, n, tail, h0, h1, ht, hl => by
    refine Ev.succ ?_
    simp only [impl_Lock_code.l0]
    refine Ev.neg (by omega) (Ev.bind (text_ev (by simpa using ht.le hD.2) (by simp; omega)) (Ev.val (by simp [cod])))
  | m + 1, n, tail, h0, h1, ht, hl => by
    have e1 : List.replicate (m + 1) (0 : Int) ++ tail = List.replicate m 0 ++ 0 :: tail := by
      rw [List.replicate_succ', List.append_assoc]; rfl
    have hm : ((List.replicate m (0 : Int)).length : Int) = (m : Int) := by simp
    have q0 : 0 ≤ n / D := Int.ediv_nonneg h0 (by omega)
    have q1 : n / D ≤ n := Int.ediv_le_self _ h0
    have r0 := Int.emod_nonneg n (show D ≠ 0 by omega)
    have r1 := Int.emod_lt_of_pos n (show 0 < D by omega)
    refine Ev.succ ?_
    simp only [impl_Lock_code.l0]
    refine Ev.pos (by omega) (Ev.neg (by omega) (Ev.pos (by omega) (Ev.pos (by simp; omega) ?_)))
    rw [e1, show ((m + 1 : Nat) : Int) - 1 = ((List.replicate m (0 : Int)).length : Int) by rw [hm]; omega, set_mid, hm, Int.tdiv_eq_ediv_of_nonneg h0, Int.tmod_eq_emod_of_nonneg h0, wrap_id (x := n / D) (by omega) (by omega), wrap_id (x := (m : Int) - 1) (by omega) (by omega)]
    rw [show cod D (m + 1) n ++ tail = cod D m (n / D) ++ (n % D :: tail) by simp [cod]]
    exact code_l0 hD m (n / D) (n % D :: tail) q0 (by omega) (Ok.cons.2 ⟨⟨r0, r1⟩, ht⟩) (by simp; omega)
theorem code_ev {W D n : Int} (hW : 0 ≤ W ∧ W ≤ 6) (hD : 2 ≤ D ∧ D ≤ 10) (h0 : 0 ≤ n) (h1 : n ≤ 1000000000) : Ev (fun k => impl_Lock_code.f k W D n) (txt (cod D W.toNat n)) := by
  obtain ⟨w, rfl⟩ := Int.eq_ofNat_of_zero_le hW.1
  unfold impl_Lock_code.f
  refine Ev.pos (by omega) (Ev.pos (by omega) ?_)
  have := code_l0 (W := w) hD w n [] h0 h1 (Ok.nil D) (by simp; omega)
  rw [List.append_nil, List.append_nil] at this
  rw [Int.toNat_natCast, wrap_id (x := (w : Int) - 1) (by omega) (by omega)]
  exact this
def ZeroCodeM (W D : Int) : ByteArray × Bool := if good W D = true then (txt (List.replicate W.toNat 0), true) else (⟨#[]⟩, false)
theorem ZeroCode_s (W D : Int) : Ev (fun k => spec_ZeroCode.f k W D) (ZeroCodeM W D) := by
  unfold spec_ZeroCode.f ZeroCodeM
  refine Ev.bind0 (whGood_f W D) ?_
  by_cases h : good W D = true
  · obtain ⟨a, b, c, d⟩ := good_iff.1 h
    rw [if_pos h]
    exact Ev.pos h (Ev.pos (by omega) (Ev.pos (by omega) (Ev.bind (whText_ev (Ok.rep (by omega) _) (by simp; omega)) (Ev.now _))))
  · rw [if_neg h]; exact Ev.neg h (Ev.now _)
theorem ZeroCode_i (W D : Int) : Ev (fun k => impl_ZeroCode.f k W D) (ZeroCodeM W D) := by
  unfold impl_ZeroCode.f ZeroCodeM
  refine Ev.bind0 (IsLock_i W D) ?_
  by_cases h : good W D = true
  · obtain ⟨a, b, c, d⟩ := good_iff.1 h
    rw [if_pos h]
    have := code_ev (W := W) (D := D) ⟨by omega, b⟩ ⟨c, d⟩ (Int.le_refl 0) (by omega)
    rw [cod_zero] at this
    exact Ev.pos h (Ev.bind this (Ev.now _))
  · rw [if_neg h]; exact Ev.neg h (Ev.now _)
def CodeOfNumberM (W D n : Int) : ByteArray × Bool := if (good W D && decide (0 ≤ n ∧ n ≤ pw D W.toNat - 1)) = true then (txt (cod D W.toNat n), true) else (⟨#[]⟩, false)
theorem CodeOfNumber_s (W D n : Int) : Ev (fun k => spec_CodeOfNumber.f k W D n) (CodeOfNumberM W D n) := by
  unfold spec_CodeOfNumber.f CodeOfNumberM
  refine Ev.bind0 (whGood_f W D) ?_
  by_cases h : good W D = true
  · obtain ⟨a, b, c, d⟩ := good_iff.1 h
    have p0 := pw_pos (D := D) (by omega) W.toNat
    have p1 := pw_le6 (D := D) (by omega) d (n := W.toNat) (by omega)
    rw [h, Bool.true_and]
    refine Ev.pos rfl (Ev.bind (whCount_ev h) (Ev.bind0 (l1In_f _ _ _) ?_))
    rw [wrap_id (x := pw D W.toNat - 1) (by omega) (by omega)]
    by_cases hn : 0 ≤ n ∧ n ≤ pw D W.toNat - 1
    · rw [decide_eq_true hn, if_pos rfl]
      exact Ev.pos rfl (Ev.bind (whOf_ev ⟨by omega, b⟩ ⟨c, d⟩ hn.1 (by omega)) (Ev.now _))
    · rw [decide_eq_false hn]
      exact Ev.neg (by simp) (Ev.val (by simp))
  · exact Ev.neg h (Ev.val (by simp [h]))
theorem CodeOfNumber_i (W D n : Int) : Ev (fun k => impl_CodeOfNumber.f k W D n) (CodeOfNumberM W D n) := by
  unfold impl_CodeOfNumber.f CodeOfNumberM
  refine Ev.bind0 (IsLock_i W D) ?_
  by_cases h : good W D = true
  · obtain ⟨a, b, c, d⟩ := good_iff.1 h
    have p0 := pw_pos (D := D) (by omega) W.toNat
    have p1 := pw_le6 (D := D) (by omega) d (n := W.toNat) (by omega)
    rw [h, Bool.true_and]
    refine Ev.pos rfl (Ev.bind (count_ev h) (Ev.bind0 (within_f _ _ _) ?_))
    rw [wrap_id (x := pw D W.toNat - 1) (by omega) (by omega)]
    by_cases hn : 0 ≤ n ∧ n ≤ pw D W.toNat - 1
    · rw [decide_eq_true hn, if_pos rfl]
      exact Ev.pos rfl (Ev.bind (code_ev ⟨by omega, b⟩ ⟨c, d⟩ hn.1 (by omega)) (Ev.now _))
    · rw [decide_eq_false hn]
      exact Ev.neg (by simp) (Ev.val (by simp))
  · exact Ev.neg h (Ev.val (by simp [h]))
theorem bkT_sl {l : List S40} (hl : l.length ≤ 1048576) : ∀ (m k : Nat), k + m = l.length →
    Ev (fun n => spec_BackTurns.l0 n l ((bk l.length k).map fun (i : Nat) => negT (rd_T40 l (i : Int))) ((m : Int) - 1)) (backT l, true)
  | 0, k, h => by
    have hk : k = l.length := by omega
    subst hk
    refine Ev.succ ?_
    simp only [spec_BackTurns.l0]
    exact Ev.neg (by omega) (Ev.val rfl)
  | m + 1, k, h => by
    have ih := bkT_sl hl m (k + 1) (by omega)
    rw [bk_succ, List.map_append, show l.length - 1 - k = m by omega] at ih
    refine Ev.succ ?_
    simp only [spec_BackTurns.l0]
    rw [show ((m + 1 : Nat) : Int) - 1 = (m : Int) by omega]
    refine Ev.pos (by omega) (Ev.pos (by omega) (Ev.pos (by omega) (Ev.pos (by rw [List.length_map, bk_length]; omega) ?_)))
    rw [wrap_id (x := (m : Int) - 1) (by omega) (by omega)]
    exact ih
def BackTurnsM (W D : Int) (l : List S40) : List S40 × Bool := if (good W D && areT W l) = true then (backT l, true) else ([], false)
theorem BackTurns_s (W D : Int) (l : List S40) (hl : l.length ≤ 1048576) : Ev (fun k => spec_BackTurns.f k W D l) (BackTurnsM W D l) := by
  unfold spec_BackTurns.f BackTurnsM
  refine Ev.bind0 (whGood_f W D) ?_
  by_cases h : good W D = true
  · have g := good_iff.1 h
    rw [h, Bool.true_and]
    refine Ev.pos rfl (Ev.bind (whTurns_ev (by omega) D l hl) (Ev.succ ?_))
    simp only [spec_BackTurns.j0]
    by_cases ht : areT W l = true
    · rw [if_pos ht]
      refine Ev.neg (by simp [ht]) ?_
      have := bkT_sl hl l.length 0 (by omega)
      rw [wrap_id (x := (l.length : Int) - 1) (by omega) (by omega)]
      exact this
    · rw [if_neg ht]
      exact Ev.pos (by simp [ht]) (Ev.now _)
  · refine Ev.neg h (Ev.succ ?_)
    simp only [spec_BackTurns.j0]
    rw [if_neg (fun h2 => h (Bool.and_eq_true_iff.1 h2).1)]
    exact Ev.pos trivial (Ev.now _)
theorem BackTurns_i (W D : Int) (l : List S40) (hl : l.length ≤ 1048576) : Ev (fun k => impl_BackTurns.f k W D l) (BackTurnsM W D l) := by
  unfold impl_BackTurns.f BackTurnsM
  refine Ev.bind0 (IsLock_i W D) ?_
  by_cases h : good W D = true
  · have g := good_iff.1 h
    rw [h, Bool.true_and]
    refine Ev.pos rfl (Ev.bind (areTurns_ev (by omega) l hl) ?_)
    by_cases ht : areT W l = true
    · simp only [ht, if_true]
      have h2 : l.length ≤ 200 := of_decide_eq_true (Bool.and_eq_true_iff.1 ht).2
      exact Ev.pos (by omega) (Ev.now _)
    · simp only [ht, if_false]
      exact Ev.now _
  · rw [if_neg (fun h2 => h (Bool.and_eq_true_iff.1 h2).1)]
    exact Ev.neg h (Ev.now _)
theorem BackTurnsM_len (W D : Int) (l : List S40) : (BackTurnsM W D l).1.length ≤ 200 := by
  unfold BackTurnsM
  by_cases h : (good W D && areT W l) = true
  · rw [if_pos h]
    have h2 : l.length ≤ 200 := of_decide_eq_true (Bool.and_eq_true_iff.1 (Bool.and_eq_true_iff.1 h).2).2
    show (backT l).length ≤ 200
    unfold backT
    rw [List.length_map, bk_length]
    exact h2
  · rw [if_neg h]; simp
theorem aTurns_l0 : ∀ (t p : List S40), (p ++ t).length ≤ 9223372036854775806 → Ev (fun k => laws_aTurns.l0 k (p ++ t) (p ++ t) ((p ++ t).length : Int) (p.length : Int)) true
  | [], p, hl => by
    refine Ev.succ ?_
    simp only [laws_aTurns.l0]
    exact Ev.neg (len_end p) (Ev.now _)
  | x :: t, p, hl => by
    have hl2 := hl
    rw [List.length_append, List.length_cons] at hl2
    refine Ev.succ ?_
    simp only [laws_aTurns.l0]
    refine Ev.pos (len_mid p t x) (Ev.pos (by omega) (Ev.pos (len_mid p t x) (Ev.pos (len_mid p t x) (Ev.neg (by simp) ?_))))
    rw [len_next p x (by omega), app_next p t x]
    exact aTurns_l0 t (p ++ [x]) (by rw [← app_next]; exact hl)
theorem aTurns_ev (l : List S40) (hl : l.length ≤ 9223372036854775806) : Ev (fun k => laws_aTurns.f k l l) true := by
  unfold laws_aTurns.f
  exact Ev.pos rfl (aTurns_l0 l [] hl)
theorem sub_mod {D a b : Int} (ha : 0 ≤ a ∧ a < D) (hb : 0 ≤ b ∧ b < D) : (b - a) % D = if a ≤ b then b - a else b - a + D := by
  by_cases h : a ≤ b
  · rw [if_pos h]; exact Int.emod_eq_of_lt (by omega) (by omega)
  · rw [if_neg h, ← Int.add_emod_right]; exact Int.emod_eq_of_lt (by omega) (by omega)
theorem near_of {D a b : Int} (ha : 0 ≤ a ∧ a < D) (hb : 0 ≤ b ∧ b < D) : near D a b = if a ≤ b then mn (b - a) (D - (b - a)) else mn (b - a + D) (D - (b - a + D)) := by
  unfold near
  rw [sub_mod ha hb]
  split <;> rfl
theorem near_self {D a : Int} (ha : 0 ≤ a ∧ a < D) : near D a a = 0 := by
  rw [near_of ha ha, if_pos (Int.le_refl _)]; unfold mn; split <;> omega
theorem near_tri {D a b c : Int} (ha : 0 ≤ a ∧ a < D) (hb : 0 ≤ b ∧ b < D) (hc : 0 ≤ c ∧ c < D) : near D a c ≤ near D a b + near D b c := by
  rw [near_of ha hc, near_of ha hb, near_of hb hc]
  unfold mn
  split <;> split <;> split <;> (repeat' split) <;> omega
theorem dist_self {D : Int} : ∀ ds : List Int, Ok D ds → dist D ds ds = 0
  | [], _ => rfl
  | d :: ds, h => by
    rw [Ok.cons] at h
    show near D d d + dist D ds ds = 0
    rw [near_self h.1, dist_self ds h.2]; rfl
theorem dist_tri {D : Int} : ∀ a b c : List Int, Ok D a → Ok D b → Ok D c → a.length = b.length → b.length = c.length → dist D a c ≤ dist D a b + dist D b c
  | [], b, c, _, _, _, e1, e2 => by
    cases b with
    | nil => simp [dist]
    | cons _ _ => simp at e1
  | a :: aa, [], c, _, _, _, e1, e2 => by simp at e1
  | a :: aa, b :: bb, [], _, _, _, e1, e2 => by simp at e2
  | a :: aa, b :: bb, c :: cc, h1, h2, h3, e1, e2 => by
    rw [Ok.cons] at h1 h2 h3
    have ih := dist_tri aa bb cc h1.2 h2.2 h3.2 (by simpa using e1) (by simpa using e2)
    have := near_tri h1.1 h2.1 h3.1
    show near D a c + dist D aa cc ≤ (near D a b + dist D aa bb) + (near D b c + dist D bb cc)
    omega
theorem dist_mid {D : Int} (x y : Int) (t : List Int) : ∀ p : List Int, Ok D (p ++ t) → dist D (p ++ x :: t) (p ++ y :: t) = near D x y
  | [], h => by
    show near D x y + dist D t t = _
    rw [dist_self t h, Int.add_zero]
  | d :: p, h => by
    rw [List.cons_append, Ok.cons] at h
    show near D d d + dist D (p ++ x :: t) (p ++ y :: t) = _
    rw [near_self h.1, dist_mid x y t p h.2, Int.zero_add]
theorem step_mod {D x b : Int} (hD : 2 ≤ D) (hx : 0 ≤ x ∧ x < D) (hb : b = 1 ∨ b = -1) : (x + b) % D ≠ x ∧ near D x ((x + b) % D) = 1 := by
  have hy : 0 ≤ (x + b) % D ∧ (x + b) % D < D := ⟨Int.emod_nonneg _ (by omega), Int.emod_lt_of_pos _ (by omega)⟩
  have e : (x + b) % D = if x + b < 0 then x + b + D else if x + b < D then x + b else x + b - D := by
    by_cases h : x + b < 0
    · rw [if_pos h, ← Int.add_emod_right]; exact Int.emod_eq_of_lt (by omega) (by omega)
    · rw [if_neg h]
      by_cases h2 : x + b < D
      · rw [if_pos h2]; exact Int.emod_eq_of_lt (by omega) h2
      · rw [if_neg h2, ← Int.sub_emod_right]; exact Int.emod_eq_of_lt (by omega) (by omega)
  rw [near_of hx hy]
  rw [e]
  unfold mn
  rcases hb with rfl | rfl <;> (constructor <;> (repeat' split) <;> omega)
theorem turn_at {D : Int} {ds : List Int} {i : Int} (h0 : 0 ≤ i) (h1 : i < ds.length) : ∃ p x t, ds = p ++ x :: t ∧ (p.length : Int) = i ∧ ∀ b, turnM D ds i b = p ++ ((x + b) % D) :: t := by
  obtain ⟨p, x, t, rfl, e⟩ := rd_nat ds h0 h1
  refine ⟨p, x, t, rfl, e, fun b => ?_⟩
  unfold turnM
  rw [← e, rd_mid, set_mid]
theorem mid_ok {D : Int} {p t : List Int} {x : Int} (h : Ok D (p ++ x :: t)) : Ok D (p ++ t) ∧ 0 ≤ x ∧ x < D := by
  rw [Ok.append, Ok.cons] at h
  exact ⟨Ok.append.2 ⟨h.1, h.2.2⟩, h.2.1⟩
theorem dist_turn {D : Int} (hD : 2 ≤ D) {ds : List Int} (hd : Ok D ds) {i b : Int} (h0 : 0 ≤ i) (h1 : i < ds.length) (hb : b = 1 ∨ b = -1) : dist D ds (turnM D ds i b) = 1 := by
  obtain ⟨p, x, t, rfl, _, ht⟩ := turn_at (D := D) h0 h1
  obtain ⟨h2, h3⟩ := mid_ok hd
  rw [ht b, dist_mid x _ t p h2]
  exact (step_mod hD h3 hb).2
theorem turn_back {D : Int} (hD : 2 ≤ D) {ds : List Int} (hd : Ok D ds) {i b : Int} (h0 : 0 ≤ i) (h1 : i < ds.length) (hb : b = 1 ∨ b = -1) : turnM D (turnM D ds i b) i (wrap64 (-b)) = ds := by
  obtain ⟨p, x, t, rfl, e, ht⟩ := turn_at (D := D) h0 h1
  obtain ⟨h2, h3⟩ := mid_ok hd
  rw [ht b]
  unfold turnM
  rw [← e, rd_mid, set_mid, wrap_id (by omega) (by omega), Int.emod_add_emod, show x + b + -b = x by omega, Int.emod_eq_of_lt h3.1 h3.2]
theorem okT_at {W : Int} {t : S40} (h : okT W t = true) {ds : List Int} (hl : (ds.length : Int) = W) : 0 ≤ t.f0 ∧ t.f0 < (ds.length : Int) ∧ (t.f1 = 1 ∨ t.f1 = -1) := by
  rw [okT_iff] at h; exact ⟨h.1.1, by omega, h.2⟩
theorem turnsM_back {W D : Int} (hD : 2 ≤ D) : ∀ (l : List S40) (ds : List Int), Ok D ds → (ds.length : Int) = W → l.all (okT W) = true → turnsM D (turnsM D ds l) (l.reverse.map negT) = ds
  | [], ds, _, _, _ => rfl
  | t :: l, ds, hd, hw, hl => by
    rw [List.all_cons, Bool.and_eq_true] at hl
    obtain ⟨h0, h1, h2⟩ := okT_at hl.1 hw
    have ih := turnsM_back hD l (turnM D ds t.f0 t.f1) (turnM_ok (by omega) hd _ _) (by rw [turnM_length]; exact hw) hl.2
    rw [List.reverse_cons, List.map_append]
    show (l.reverse.map negT ++ [negT t]).foldl (fun ds t => turnM D ds t.f0 t.f1) (turnsM D (turnM D ds t.f0 t.f1) l) = ds
    rw [List.foldl_append]
    show turnM D (turnsM D (turnsM D (turnM D ds t.f0 t.f1) l) (l.reverse.map negT)) t.f0 (wrap64 (-t.f1)) = ds
    rw [ih]
    exact turn_back hD hd h0 h1 h2
theorem backT_rev (l : List S40) : backT l = l.reverse.map negT := by
  unfold backT bk
  rw [List.map_map]
  apply List.ext_getElem
  · simp
  · intro j h1 h2
    have hj : j < l.length := by simpa using h1
    simp only [List.getElem_map, Function.comp, List.getElem_range, List.getElem_reverse]
    unfold rd_T40
    rw [Int.toNat_natCast, List.getD_eq_getElem?_getD, List.getElem?_eq_getElem (by omega)]
    rfl
theorem backT_ok {W : Int} {l : List S40} (h : areT W l = true) : areT W (backT l) = true := by
  unfold areT at h ⊢
  rw [Bool.and_eq_true] at h ⊢
  rw [backT_rev]
  refine ⟨?_, by simpa using h.2⟩
  rw [List.all_eq_true] at h ⊢
  intro x hx
  rw [List.mem_map] at hx
  obtain ⟨y, hy, rfl⟩ := hx
  have h3 := h.1 y (List.mem_reverse.1 hy)
  rw [okT_iff] at h3 ⊢
  refine ⟨h3.1, ?_⟩
  show wrap64 (-y.f1) = 1 ∨ wrap64 (-y.f1) = -1
  rw [wrap_id (by omega) (by omega)]
  omega
theorem dist_turns {W D : Int} (hD : 2 ≤ D) : ∀ (l : List S40) (ds : List Int), Ok D ds → (ds.length : Int) = W → l.all (okT W) = true → dist D ds (turnsM D ds l) ≤ l.length
  | [], ds, hd, _, _ => by
    show dist D ds ds ≤ 0
    rw [dist_self ds hd]; exact Int.le_refl _
  | t :: l, ds, hd, hw, hl => by
    rw [List.all_cons, Bool.and_eq_true] at hl
    obtain ⟨h0, h1, h2⟩ := okT_at hl.1 hw
    have hd2 := turnM_ok (D := D) (by omega) hd t.f0 t.f1
    have hw2 : ((turnM D ds t.f0 t.f1).length : Int) = W := by rw [turnM_length]; exact hw
    have ih := dist_turns hD l (turnM D ds t.f0 t.f1) hd2 hw2 hl.2
    have h3 := dist_turn hD hd h0 h1 h2
    have h4 := dist_tri ds (turnM D ds t.f0 t.f1) (turnsM D (turnM D ds t.f0 t.f1) l) hd hd2 (turnsM_ok (by omega) l _ hd2) (by rw [turnM_length]) (by rw [turnsM_length])
    show dist D ds (turnsM D (turnM D ds t.f0 t.f1) l) ≤ ((t :: l).length : Int)
    rw [List.length_cons]
    omega
theorem addM_comm (D : Int) : ∀ a b : List Int, a.length = b.length → addM D 1 a b = addM D 1 b a
  | [], b, e => by
    cases b with
    | nil => rfl
    | cons _ _ => simp at e
  | a :: aa, [], e => by simp at e
  | a :: aa, b :: bb, e => by
    show (a + 1 * b) % D :: addM D 1 aa bb = (b + 1 * a) % D :: addM D 1 bb aa
    rw [addM_comm D aa bb (by simpa using e), show a + 1 * b = b + 1 * a by omega]
theorem addM_opp {D : Int} : ∀ a : List Int, addM D 1 a (oppM D a) = List.replicate a.length 0
  | [] => rfl
  | a :: aa => by
    show (a + 1 * (-a % D)) % D :: addM D 1 aa (oppM D aa) = _
    rw [addM_opp aa, Int.one_mul, Int.add_comm, Int.emod_add_emod, show -a + a = 0 by omega, Int.zero_emod]; rfl
theorem dist_add {D : Int} (hD : 0 < D) : ∀ a b : List Int, a.length = b.length → dist D a (addM D 1 a b) = dist D (List.replicate a.length 0) b
  | [], b, e => by simp [addM, dist]
  | a :: aa, [], e => by simp at e
  | a :: aa, b :: bb, e => by
    show near D a ((a + 1 * b) % D) + dist D aa (addM D 1 aa bb) = near D 0 b + dist D (List.replicate aa.length 0) bb
    rw [dist_add hD aa bb (by simpa using e)]
    congr 1
    unfold near
    rw [show ((a + 1 * b) % D - a) % D = (b - 0) % D by rw [Int.sub_eq_add_neg, Int.emod_add_emod]; congr 1; omega]
theorem rng_l0 {a b : ByteArray} {w : Int} (hl : a.size = b.size) (h : ∀ j : Nat, j < a.size → bt a (j : Int) < 128 ∧ (bt a (j : Int) != bt b (j : Int)) = ((j : Int) == w)) : ∀ (m j : Nat), j + m = a.size → Ev (fun k => laws_rng.l0 k a b w (j : Int)) true
  | 0, j, e => by
    refine Ev.succ ?_
    simp only [laws_rng.l0]
    exact Ev.neg (by omega) (Ev.now _)
  | m + 1, j, e => by
    obtain ⟨h1, h2⟩ := h j (by omega)
    refine Ev.succ ?_
    simp only [laws_rng.l0]
    refine Ev.pos (by omega) (Ev.pos h1 (Ev.pos (by omega) (Ev.neg (by rw [h2]; simp) ?_)))
    have ih := rng_l0 hl h m (j + 1) (by omega)
    rw [show ((j + 1 : Nat) : Int) = (j : Int) + 1 by omega] at ih
    exact ih
theorem rd_map_add (l : List Int) (j : Nat) (h : j < l.length) : rd (l.map (48 + ·)) (j : Int) = 48 + rd l (j : Int) := by
  unfold rd
  simp [List.getD_eq_getElem?_getD, h]
theorem rd_two (p t : List Int) (x : Int) (j : Nat) : rd (p ++ x :: t) (j : Int) = if j < p.length then rd p (j : Int) else if j = p.length then x else rd t ((j - p.length - 1 : Nat) : Int) := by
  unfold rd
  simp only [Int.toNat_natCast, List.getD_eq_getElem?_getD]
  by_cases h : j < p.length
  · rw [if_pos h, List.getElem?_append_left h]
  · rw [if_neg h, List.getElem?_append_right (by omega)]
    by_cases h2 : j = p.length
    · rw [if_pos h2, h2, Nat.sub_self]; rfl
    · rw [if_neg h2, show j - p.length = (j - p.length - 1) + 1 by omega, List.getElem?_cons_succ]; rfl
theorem rng_ev {D : Int} (hD : 2 ≤ D ∧ D ≤ 10) {ds : List Int} (hd : Ok D ds) {i b : Int} (h0 : 0 ≤ i) (h1 : i < ds.length) (hb : b = 1 ∨ b = -1) : Ev (fun k => laws_rng.f k (txt (turnM D ds i b)) (txt ds) i) true := by
  have ho := turnM_ok (D := D) (by omega) hd i b
  obtain ⟨p, x, t, rfl, e, ht⟩ := turn_at (D := D) h0 h1
  obtain ⟨h2, h3⟩ := mid_ok hd
  have h4 := (step_mod hD.1 h3 hb).1
  rw [ht b] at ho ⊢
  generalize (x + b) % D = y at ho h4 ⊢
  unfold laws_rng.f
  have hs : (txt (p ++ y :: t)).size = (txt (p ++ x :: t)).size := by simp [txt_size]
  refine rng_l0 hs (fun j hj => ?_) _ 0 (Nat.zero_add _)
  rw [txt_size] at hj
  have hj2 : j < (p ++ x :: t).length := by simpa using hj
  rw [bt_bys, bt_bys, bys_txt (ho.le (by omega)), bys_txt (hd.le (by omega)), rd_map_add _ _ hj, rd_map_add _ _ hj2]
  have hr := rd_range ho (i := (j : Int)) (by omega) (by omega)
  refine ⟨by omega, ?_⟩
  rw [rd_two, rd_two, ← e]
  by_cases g1 : j < p.length
  · rw [if_pos g1, if_pos g1]
    simp; omega
  · rw [if_neg g1, if_neg g1]
    by_cases g2 : j = p.length
    · rw [if_pos g2, if_pos g2, g2]
      simp; omega
    · rw [if_neg g2, if_neg g2]
      simp; omega
theorem TurnsM_one {W D : Int} {ds : List Int} {t : S40} (hg : good W D = true) (hd : Ok D ds) (hw : (ds.length : Int) = W) (ht : okT W t = true) : TurnWheelsM W D (txt ds) [t] = (txt (turnM D ds t.f0 t.f1), true) := by
  have g := good_iff.1 hg
  unfold TurnWheelsM
  rw [if_pos (by rw [hg, isC_txt hd (by omega) hw, areT, List.all_cons, ht]; rfl), dgs_txt (hd.le (by omega))]
  rfl
theorem FewM_two {W D : Int} {a b : List Int} (hg : good W D = true) (ha : Ok D a) (hb : Ok D b) (hw : (a.length : Int) = W) (hw2 : (b.length : Int) = W) : FewestTurnsM W D (txt a) (txt b) = (dist D a b, true) := by
  have g := good_iff.1 hg
  unfold FewestTurnsM
  rw [if_pos (by rw [hg, isC_txt ha (by omega) hw, isC_txt hb (by omega) hw2]; rfl), dgs_txt (ha.le (by omega)), dgs_txt (hb.le (by omega))]
theorem loopF_ev {W D : Int} (hg : good W D = true) : ∀ (l : List S40) (ds : List Int), Ok D ds → (ds.length : Int) = W → l.all (okT W) = true → Ev (fun k => loopF k W D l (txt ds)) (some (txt (turnsM D ds l)))
  | [], ds, _, _, _ => by
    simp only [loopF]
    exact Ev.now _
  | t :: l, ds, hd, hw, hl => by
    have g := good_iff.1 hg
    rw [List.all_cons, Bool.and_eq_true] at hl
    obtain ⟨h0, h1, h2⟩ := okT_at hl.1 hw
    have hd2 := turnM_ok (D := D) (by omega) hd t.f0 t.f1
    have hw2 : ((turnM D ds t.f0 t.f1).length : Int) = W := by rw [turnM_length]; exact hw
    have e1 := TurnWheel_i W D (txt ds) t.f0 t.f1 (by rw [txt_size]; omega)
    rw [show (⟨t.f0, t.f1⟩ : S40) = t from rfl, TurnsM_one hg hd hw hl.1] at e1
    have e2 := FewestTurns_i W D (txt ds) (txt (turnM D ds t.f0 t.f1)) (by rw [txt_size]; omega) (by rw [txt_size]; omega)
    rw [FewM_two hg hd hd2 hw hw2, dist_turn (by omega) hd h0 h1 h2] at e2
    simp only [loopF]
    refine Ev.bind e1 (Ev.bind e2 (Ev.neg ?_ (Ev.bind (rng_ev (by omega) hd h0 h1 h2) (Ev.pos rfl ?_))))
    · simp [txt_size, hw2]
    · exact loopF_ev hg l (turnM D ds t.f0 t.f1) hd2 hw2 hl.2
/-- Bytes, and a place in them from which n steps are still far from the end of the whole numbers. -/
def Byt (l : List Int) : Prop := ∀ i, 0 ≤ rd l i
theorem Byt.of {l : List Int} (h : ∀ x ∈ l, (Lit.int .u8 x).wf = true) : Byt l := by
  intro i
  unfold rd
  rw [List.getD_eq_getElem?_getD]
  cases e : l[i.toNat]? with
  | none => exact Int.le_refl 0
  | some x =>
    have := h x (List.mem_of_getElem? e)
    simp [Lit.wf, IntKind.min, IntKind.max, IntKind.signed, IntKind.bits] at this
    exact this.1
theorem dw_low_nonneg (n : Int) : 0 ≤ wrap64 (Go.bits .and .u64 ((IntKind.u64.wrap n) / 1099511627776) 255) := by
  have h1 : 0 ≤ IntKind.u64.wrap n := wrap_u64_nonneg n
  have h2 : IntKind.u64.wrap n < 18446744073709551616 := by
    simp only [IntKind.wrap, IntKind.bits, IntKind.signed, Bool.false_and]
    exact Int.emod_lt_of_pos _ (by decide)
  obtain ⟨m, hm⟩ := Int.eq_ofNat_of_zero_le (show 0 ≤ IntKind.u64.wrap n / 1099511627776 by omega)
  have hm2 : m < 18446744073709551616 := by omega
  rw [hm, show (255 : Int) = ((255 : Nat) : Int) from rfl, bits_and_u64_nat m 255 hm2 (by decide)]
  have h3 : m &&& 255 < 2 ^ 8 := Nat.and_lt_two_pow _ (by decide)
  unfold wrap64
  omega
theorem dw_next_ok {l : List Int} (hl : Byt l) {p q : Int} (h0 : 0 ≤ p) (h1 : p ≤ 90000) (hb : ∀ i, rd l i ≤ 255) : ∃ b s, spec_l1Cur_next.f l p q = some (b, p + 1, s) ∧ 0 ≤ b := by
  have e : wrap64 (p + 1) = p + 1 := wrap_id (by omega) (by omega)
  have hr : wrap64 (rd l p) = rd l p := wrap_id (by have := hl p; omega) (by have := hb p; omega)
  unfold spec_l1Cur_next.f
  rw [e]
  by_cases c : p < (l.length : Int)
  · rw [if_pos c, if_pos h0, if_pos (by omega)]
    exact ⟨_, _, rfl, by rw [hr]; exact hl p⟩
  · rw [if_neg c]
    by_cases c2 : p + 1 ≤ (l.length : Int)
    · rw [if_pos c2]; exact ⟨_, _, rfl, by decide⟩
    · rw [if_neg c2]; exact ⟨_, _, rfl, dw_low_nonneg _⟩
/-- A byte's bounds in one. -/
structure Byts (l : List Int) : Prop where
  a : Byt l
  b : ∀ i, rd l i ≤ 255
theorem Byts.of {l : List Int} (h : ∀ x ∈ l, (Lit.int .u8 x).wf = true) : Byts l := by
  refine ⟨Byt.of h, fun i => ?_⟩
  unfold rd
  rw [List.getD_eq_getElem?_getD]
  cases e : l[i.toNat]? with
  | none => show (0 : Int) ≤ 255; decide
  | some x =>
    have := h x (List.mem_of_getElem? e)
    simp [Lit.wf, IntKind.min, IntKind.max, IntKind.signed, IntKind.bits] at this
    show x ≤ 255
    omega
theorem dw_pick_ok {l : List Int} (hl : Byts l) {p q n : Int} (h0 : 0 ≤ p) (h1 : p ≤ 90000) (hn : 1 ≤ n) (hn2 : n ≤ 200) : ∃ x p2 s, spec_l1Cur_pick.f l p q n = some (x, p2, s) ∧ 0 ≤ x ∧ x < n ∧ p ≤ p2 ∧ p2 ≤ p + 1 := by
  unfold spec_l1Cur_pick.f
  by_cases c : n ≤ 1
  · rw [if_pos c]; exact ⟨0, p, q, rfl, by omega, by omega, by omega, by omega⟩
  · rw [if_neg c]
    obtain ⟨b, s, e, hb⟩ := dw_next_ok hl.a (q := q) h0 h1 hl.b
    rw [e, Option.bind_some, if_neg (by omega), if_neg (by omega)]
    exact ⟨_, _, _, rfl, Int.tmod_nonneg _ hb, Int.tmod_lt_of_pos _ (by omega), by show p ≤ p + 1; omega, Int.le_refl _⟩
theorem dw_one_ok {l : List Int} (hl : Byts l) {p q n : Int} (h0 : 0 ≤ p) (h1 : p ≤ 90000) (hn : 1 ≤ n) (hn2 : n ≤ 200) : ∃ b p2 s, spec_l1Cur_one.f l p q n = some (b, p2, s) ∧ p ≤ p2 ∧ p2 ≤ p + 1 := by
  obtain ⟨x, p2, s, e, _, _, h2, h3⟩ := dw_pick_ok hl (q := q) h0 h1 hn hn2
  unfold spec_l1Cur_one.f
  rw [e]
  exact ⟨_, _, _, rfl, h2, h3⟩
theorem dw_among_ok {l : List Int} (hl : Byts l) {p q : Int} {x : List Int} (h0 : 0 ≤ p) (h1 : p ≤ 90000) (hn : 1 ≤ x.length) (hn2 : x.length ≤ 200) : ∃ v p2 s, spec_l1Cur_among.f l p q x = some (v, p2, s) ∧ p ≤ p2 ∧ p2 ≤ p + 1 := by
  obtain ⟨y, p2, s, e, ha, hb, h2, h3⟩ := dw_pick_ok hl (q := q) (n := (x.length : Int)) h0 h1 (by omega) (by omega)
  unfold spec_l1Cur_among.f
  rw [e, Option.bind_some, if_pos ha, if_pos hb]
  exact ⟨_, _, _, rfl, h2, h3⟩
theorem dw_of_ok {l : List Int} (hl : Byts l) {p q : Int} {x : List ByteArray} (h0 : 0 ≤ p) (h1 : p ≤ 90000) (hn : 1 ≤ x.length) (hn2 : x.length ≤ 200) (hs : ∀ y ∈ x, y.size ≤ 7) : ∃ v p2 s, spec_l1Cur_of.f l p q x = some (v, p2, s) ∧ v.size ≤ 7 ∧ p ≤ p2 ∧ p2 ≤ p + 1 := by
  obtain ⟨y, p2, s, e, ha, hb, h2, h3⟩ := dw_pick_ok hl (q := q) (n := (x.length : Int)) h0 h1 (by omega) (by omega)
  unfold spec_l1Cur_of.f
  rw [e, Option.bind_some, if_pos ha, if_pos hb]
  refine ⟨_, _, _, rfl, ?_, h2, h3⟩
  have hy : y.toNat < x.length := by omega
  have e2 : rdOf ByteArray.empty x y = x[y.toNat]'hy := by unfold rdOf; rw [List.getD_eq_getElem?_getD, List.getElem?_eq_getElem hy]; rfl
  show (rdOf ByteArray.empty x y).size ≤ 7
  rw [e2]
  exact hs _ (List.getElem_mem hy)
theorem dw_lock_ok {l : List Int} (hl : Byts l) {p q : Int} (h0 : 0 ≤ p) (h1 : p ≤ 8000) : ∃ W D p2 s, spec_l1Cur_lock.f l p q = some (W, D, p2, s) ∧ p ≤ p2 ∧ p2 ≤ p + 3 := by
  obtain ⟨b, p1, s1, e1, ha, hb⟩ := dw_one_ok hl (p := p) (q := q) (n := 14) h0 (by omega) (by decide) (by decide)
  unfold spec_l1Cur_lock.f
  rw [e1, Option.bind_some]
  dsimp only
  cases b with
  | true =>
    rw [if_pos rfl]
    obtain ⟨v, p2, s2, e2, hc, hd⟩ := dw_among_ok hl (p := p1) (q := s1) (x := [0, (-1), 1, 6, 7, 4611686018427387904]) (by omega) (by omega) (by decide) (by decide)
    rw [e2, Option.bind_some]
    dsimp only
    obtain ⟨v3, p3, s3, e3, he, hf⟩ := dw_among_ok hl (p := p2) (q := s2) (x := [1, 2, 3, 10, 11, (-1)]) (by omega) (by omega) (by decide) (by decide)
    rw [e3, Option.bind_some]
    exact ⟨_, _, _, _, rfl, by show p ≤ p3; omega, by show p3 ≤ p + 3; omega⟩
  | false =>
    rw [if_neg (by decide)]
    unfold spec_l1Cur_sureLock.f
    obtain ⟨x, p2, s2, e2, hx, hy, hc, hd⟩ := dw_pick_ok hl (p := p1) (q := s1) (n := 8) (by omega) (by omega) (by decide) (by decide)
    rw [e2, Option.bind_some, if_pos ⟨hx, hy⟩, Option.bind_some]
    exact ⟨_, _, _, _, rfl, by show p ≤ p2; omega, by show p2 ≤ p + 3; omega⟩
theorem dw_num1_ok {a : Int} (h0 : 0 ≤ a) (h1 : a < 10) : ∃ t, Ev (fun k => spec_l1Num.f k a) t ∧ t.size = 1 := by
  refine ⟨strOfNums [(wrap64 (48 + a)) % 256], Ev.succ ?_, ?_⟩
  · simp only [spec_l1Num.f]
    exact Ev.pos h1 (Ev.now _)
  · rfl
theorem dw_code_l0 {l : List Int} (hl : Byts l) {W D : Int} : ∀ (m : Nat) (t : ByteArray) (x p q : Int), x = 7 - (m : Int) → m ≤ 7 → (t.size : Int) ≤ x → 0 ≤ p → p ≤ 8100 - (m : Int) → ∃ r p2 s, Ev (fun k => spec_l1Cur_code1.l0 k t x l p q W D) (r, p2, s) ∧ r.size ≤ 7 ∧ 0 ≤ p2 ∧ p2 ≤ p + (m : Int) := by
  intro m
  induction m with
  | zero =>
    intro t x p q hx hm ht h0 h1
    refine ⟨t, p, q, ?_, by omega, h0, by omega⟩
    refine Ev.succ ?_
    simp only [spec_l1Cur_code1.l0]
    have h7 : decide (x < 7) = false := decide_eq_false (by omega)
    by_cases c : x < W
    · refine Ev.pos c (Ev.succ ?_)
      simp only [spec_l1Cur_code1.j1, h7]
      exact Ev.neg (by simp) (Ev.now _)
    · refine Ev.neg c (Ev.succ ?_)
      simp only [spec_l1Cur_code1.j1]
      exact Ev.neg (by simp) (Ev.now _)
  | succ m ih =>
    intro t x p q hx hm ht h0 h1
    by_cases c : x < W
    · have h7 : decide (x < 7) = true := decide_eq_true (by omega)
      obtain ⟨d, e1, hd, hd2⟩ : ∃ d, ((spec_l1Most.f 1 D).bind fun t156 => spec_l1Least.f 10 t156) = some d ∧ 1 ≤ d ∧ d ≤ 10 := by
        unfold spec_l1Most.f spec_l1Least.f
        by_cases c1 : (1 : Int) > D
        · rw [if_pos c1]; exact ⟨1, by simp, by decide, by decide⟩
        · rw [if_neg c1, Option.bind_some]
          by_cases c2 : (10 : Int) < D
          · rw [if_pos c2]; exact ⟨10, rfl, by decide, by decide⟩
          · rw [if_neg c2]; exact ⟨D, rfl, by omega, by omega⟩
      obtain ⟨z, p2, s2, e2, hz, hz2, ha, hb⟩ := dw_pick_ok hl (p := p) (q := q) (n := d) h0 (by omega) hd (by omega)
      obtain ⟨u, eu, hu⟩ := dw_num1_ok hz (by omega)
      have hsz : (t ++ u).size = t.size + u.size := ByteArray.size_append
      obtain ⟨r, p3, s3, e3, h3, h4, h5⟩ := ih (t ++ u) (wrap64 (x + 1)) p2 s2 (by rw [wrap_id (by omega) (by omega)]; omega) (by omega) (by rw [hsz, wrap_id (by omega) (by omega)]; omega) (by omega) (by omega)
      refine ⟨r, p3, s3, ?_, h3, h4, by omega⟩
      refine Ev.succ ?_
      simp only [spec_l1Cur_code1.l0]
      refine Ev.pos c (Ev.succ ?_)
      simp only [spec_l1Cur_code1.j1, h7]
      obtain ⟨y, e4, e5⟩ := Option.bind_eq_some_iff.mp e1
      refine Ev.pos (by simp) (Ev.bind0 e4 (Ev.bind0 e5 (Ev.bind0 e2 (Ev.bind eu (Ev.pos (by omega) e3)))))
    · refine ⟨t, p, q, ?_, by omega, h0, by omega⟩
      refine Ev.succ ?_
      simp only [spec_l1Cur_code1.l0]
      refine Ev.neg c (Ev.succ ?_)
      simp only [spec_l1Cur_code1.j1]
      exact Ev.neg (by simp) (Ev.now _)
theorem dw_code_ok {l : List Int} (hl : Byts l) {W D p q : Int} (h0 : 0 ≤ p) (h1 : p ≤ 8000) : ∃ r p2 s, Ev (fun k => spec_l1Cur_code1.f k l p q W D) (r, p2, s) ∧ r.size ≤ 7 ∧ 0 ≤ p2 ∧ p2 ≤ p + 8 := by
  obtain ⟨b, p1, s1, e1, ha, hb⟩ := dw_one_ok hl (p := p) (q := q) (n := 14) h0 (by omega) (by decide) (by decide)
  unfold spec_l1Cur_code1.f
  cases b with
  | true =>
    obtain ⟨v, p2, s2, e2, hv, hc, hd⟩ := dw_of_ok hl (p := p1) (q := s1) (x := [(⟨#[]⟩ : ByteArray), (⟨#[120]⟩ : ByteArray), (⟨#[48]⟩ : ByteArray), (⟨#[57, 57]⟩ : ByteArray), (⟨#[48, 48, 48, 48, 48, 48, 48]⟩ : ByteArray), (⟨#[49, 97]⟩ : ByteArray)]) (by omega) (by omega) (by decide) (by decide) (by decide)
    exact ⟨v, p2, s2, Ev.bind0 e1 (Ev.pos rfl (Ev.bind0 e2 (Ev.now _))), hv, by omega, by omega⟩
  | false =>
    obtain ⟨r, p2, s2, e2, hr, hc, hd⟩ := dw_code_l0 hl (W := W) (D := D) 7 ⟨#[]⟩ 0 p1 s1 (by decide) (by decide) (by decide) (by omega) (by omega)
    exact ⟨r, p2, s2, Ev.bind0 e1 (Ev.neg (by simp) e2), hr, hc, by omega⟩
theorem dw_turn_ok {l : List Int} (hl : Byts l) {W D p q : Int} (h0 : 0 ≤ p) (h1 : p ≤ 8200) : ∃ a b p2 s, spec_l1Cur_turn.f l p q W D = some (a, b, p2, s) ∧ 0 ≤ p2 ∧ p2 ≤ p + 3 := by
  obtain ⟨b, p1, s1, e1, ha, hb⟩ := dw_one_ok hl (p := p) (q := q) (n := 12) h0 (by omega) (by decide) (by decide)
  unfold spec_l1Cur_turn.f
  rw [e1, Option.bind_some]
  dsimp only
  cases b with
  | true =>
    rw [if_pos rfl]
    obtain ⟨v, p2, s2, e2, hc, hd⟩ := dw_among_ok hl (p := p1) (q := s1) (x := [(-1), 0, W, 4611686018427387904]) (by omega) (by omega) (by simp) (by simp)
    rw [e2, Option.bind_some]
    dsimp only
    obtain ⟨v3, p3, s3, e3, he, hf⟩ := dw_among_ok hl (p := p2) (q := s2) (x := [0, 1, (-1), 2]) (by omega) (by omega) (by decide) (by decide)
    rw [e3, Option.bind_some]
    exact ⟨_, _, _, _, rfl, by show 0 ≤ p3; omega, by show p3 ≤ p + 3; omega⟩
  | false =>
    rw [if_neg (by decide)]
    obtain ⟨d, e2, hd, hd2⟩ : ∃ d, ((spec_l1Most.f 1 W).bind fun t => spec_l1Least.f 6 t) = some d ∧ 1 ≤ d ∧ d ≤ 6 := by
      unfold spec_l1Most.f spec_l1Least.f
      by_cases c1 : (1 : Int) > W
      · rw [if_pos c1]; exact ⟨1, by simp, by decide, by decide⟩
      · rw [if_neg c1, Option.bind_some]
        by_cases c2 : (6 : Int) < W
        · rw [if_pos c2]; exact ⟨6, rfl, by decide, by decide⟩
        · rw [if_neg c2]; exact ⟨W, rfl, by omega, by omega⟩
    obtain ⟨y, e4, e5⟩ := Option.bind_eq_some_iff.mp e2
    obtain ⟨z, p2, s2, e6, hz, hz2, hc, hf⟩ := dw_pick_ok hl (p := p1) (q := s1) (n := d) (by omega) (by omega) hd (by omega)
    obtain ⟨v3, p3, s3, e7, he, hg⟩ := dw_among_ok hl (p := p2) (q := s2) (x := [1, (-1)]) (by omega) (by omega) (by decide) (by decide)
    rw [e4, Option.bind_some, e5, Option.bind_some, e6, Option.bind_some]
    dsimp only
    rw [e7, Option.bind_some]
    exact ⟨_, _, _, _, rfl, by show 0 ≤ p3; omega, by show p3 ≤ p + 3; omega⟩
theorem dw_turns_l0 {l : List Int} (hl : Byts l) {W D : Int} : ∀ (m : Nat) (ts : List S40) (p q : Int), ts.length + m ≤ 11 → 0 ≤ p → p ≤ 8100 - 3 * (m : Int) → ∃ r p2 s, Ev (fun k => spec_l1Cur_turns.l0 k ts (m : Int) l p q W D) (r, p2, s) ∧ r.length ≤ 11 := by
  intro m
  induction m with
  | zero =>
    intro ts p q hm h0 h1
    refine ⟨ts, p, q, Ev.succ ?_, by omega⟩
    simp only [spec_l1Cur_turns.l0]
    exact Ev.neg (by omega) (Ev.now _)
  | succ m ih =>
    intro ts p q hm h0 h1
    obtain ⟨a, b, p2, s2, e2, ha, hb⟩ := dw_turn_ok hl (W := W) (D := D) (p := p) (q := q) h0 (by omega)
    obtain ⟨r, p3, s3, e3, h3⟩ := ih (ts ++ [⟨a, b⟩]) p2 s2 (by rw [List.length_append, List.length_singleton]; omega) ha (by omega)
    refine ⟨r, p3, s3, Ev.succ ?_, h3⟩
    simp only [spec_l1Cur_turns.l0]
    refine Ev.pos (by omega) (Ev.bind0 e2 (Ev.pos (by omega) ?_))
    rw [show wrap64 (((m + 1 : Nat) : Int) - 1) = (m : Int) by rw [wrap_id (by omega) (by omega)]; omega]
    exact e3
theorem dw_turns_ok {l : List Int} (hl : Byts l) {W D p q : Int} (h0 : 0 ≤ p) (h1 : p ≤ 8000) : ∃ r p2 s, Ev (fun k => spec_l1Cur_turns.f k l p q W D) (r, p2, s) ∧ r.length ≤ 11 := by
  obtain ⟨z, p2, s2, e2, hz, hz2, hc, hf⟩ := dw_pick_ok hl (p := p) (q := q) (n := 12) h0 (by omega) (by decide) (by decide)
  obtain ⟨m, rfl⟩ := Int.eq_ofNat_of_zero_le hz
  obtain ⟨r, p3, s3, e3, h3⟩ := dw_turns_l0 hl (W := W) (D := D) m [] p2 s2 (by simp; omega) (by omega) (by omega)
  unfold spec_l1Cur_turns.f
  exact ⟨r, p3, s3, Ev.bind0 e2 e3, h3⟩
theorem DrawTurnWheels_ok {l : List Int} (hl : Byts l) : ∃ W D s ts, Ev (fun k => spec_DrawTurnWheels.f k l) (W, D, s, ts) ∧ s.size ≤ 7 ∧ ts.length ≤ 11 := by
  obtain ⟨W, D, p1, s1, e1, ha, hb⟩ := dw_lock_ok hl (p := 0) (q := 0) (by decide) (by decide)
  obtain ⟨t, p2, s2, e2, ht, hc, hd⟩ := dw_code_ok hl (W := W) (D := D) (p := p1) (q := s1) (by omega) (by omega)
  obtain ⟨r, p3, s3, e3, hr⟩ := dw_turns_ok hl (W := W) (D := D) (p := p2) (q := s2) hc (by omega)
  unfold spec_DrawTurnWheels.f
  exact ⟨W, D, t, r, Ev.bind0 e1 (Ev.bind e2 (Ev.bind e3 (Ev.now _))), ht, hr⟩
theorem DrawTurnWheel_ok {l : List Int} (hl : Byts l) : ∃ W D s a b, Ev (fun k => spec_DrawTurnWheel.f k l) (W, D, s, a, b) ∧ s.size ≤ 7 := by
  obtain ⟨W, D, p1, s1, e1, ha, hb⟩ := dw_lock_ok hl (p := 0) (q := 0) (by decide) (by decide)
  obtain ⟨t, p2, s2, e2, ht, hc, hd⟩ := dw_code_ok hl (W := W) (D := D) (p := p1) (q := s1) (by omega) (by omega)
  obtain ⟨a, b, p3, s3, e3, _⟩ := dw_turn_ok hl (W := W) (D := D) (p := p2) (q := s2) hc (by omega)
  unfold spec_DrawTurnWheel.f
  exact ⟨W, D, t, a, b, Ev.bind0 e1 (Ev.bind e2 (Ev.bind0 e3 (Ev.now _))), ht⟩
theorem DrawAddCodes_ok {l : List Int} (hl : Byts l) : ∃ W D s t, Ev (fun k => spec_DrawAddCodes.f k l) (W, D, s, t) ∧ s.size ≤ 7 ∧ t.size ≤ 7 := by
  obtain ⟨W, D, p1, s1, e1, ha, hb⟩ := dw_lock_ok hl (p := 0) (q := 0) (by decide) (by decide)
  obtain ⟨t, p2, s2, e2, ht, hc, hd⟩ := dw_code_ok hl (W := W) (D := D) (p := p1) (q := s1) (by omega) (by omega)
  obtain ⟨u, p3, s3, e3, hu, _, _⟩ := dw_code_ok hl (W := W) (D := D) (p := p2) (q := s2) hc (by omega)
  unfold spec_DrawAddCodes.f
  refine ⟨W, D, t, u, Ev.bind (a := (W, D, t, u)) ?_ (Ev.now _), ht, hu⟩
  unfold spec_DrawFewestTurns.f
  exact Ev.bind0 e1 (Ev.bind e2 (Ev.bind e3 (Ev.now _)))
theorem DrawCodeOfNumber_ok {l : List Int} (hl : Byts l) : ∃ W D n, spec_DrawCodeOfNumber.f l = some (W, D, n) := by
  obtain ⟨W, D, p1, s1, e1, ha, hb⟩ := dw_lock_ok hl (p := 0) (q := 0) (by decide) (by decide)
  obtain ⟨b, p2, s2, e2, hc, hd⟩ := dw_one_ok hl (p := p1) (q := s1) (n := 4) (by omega) (by omega) (by decide) (by decide)
  unfold spec_DrawCodeOfNumber.f
  rw [e1, Option.bind_some]
  dsimp only
  rw [e2, Option.bind_some]
  cases b with
  | true =>
    rw [if_pos rfl]
    obtain ⟨v, p3, s3, e3, _⟩ := dw_among_ok hl (p := p2) (q := s2) (x := [-1, 0, 9, 999999, 1000000, 4611686018427387904]) (by omega) (by omega) (by decide) (by decide)
    dsimp only
    rw [e3]
    exact ⟨_, _, _, rfl⟩
  | false =>
    rw [if_neg (by simp)]
    obtain ⟨v, p3, s3, e3, _⟩ := dw_pick_ok hl (p := p2) (q := s2) (n := 40) (by omega) (by omega) (by decide) (by decide)
    dsimp only
    rw [e3]
    exact ⟨_, _, _, rfl⟩
end Go.Proofs.Ytoaekmghlmeflaa.L
