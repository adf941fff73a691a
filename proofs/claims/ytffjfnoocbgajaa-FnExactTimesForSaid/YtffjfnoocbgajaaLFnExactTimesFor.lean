/- What the printed functions that FnExactTimesFor reaches come to: lemmas for its plain law. -/
import Derived.Test.YtffjfnoocbgajaaMath
import Derived.Test.YtffjfnoocbgajaaM0
import Derived.Test.YtffjfnoocbgajaaM1
import Derived.Test.YtffjfnoocbgajaaM2
import Derived.Test.YtffjfnoocbgajaaM3
import Derived.Test.YtffjfnoocbgajaaM4
import Derived.Test.YtffjfnoocbgajaaM5
import Derived.Test.YtffjfnoocbgajaaM6
import Derived.Test.YtffjfnoocbgajaaM7
import Derived.Test.YtffjfnoocbgajaaM8
import Derived.Test.YtffjfnoocbgajaaM9
import Derived.Test.YtffjfnoocbgajaaM10
import Derived.Test.YtffjfnoocbgajaaM11
import Derived.Test.YtffjfnoocbgajaaM12
import Derived.Test.YtffjfnoocbgajaaM13
import Derived.Test.YtffjfnoocbgajaaM14
import Derived.Test.YtffjfnoocbgajaaM15
import Derived.Test.YtffjfnoocbgajaaM16
import Derived.Test.YtffjfnoocbgajaaM17
import Derived.Test.YtffjfnoocbgajaaM18
import Derived.Test.YtffjfnoocbgajaaM19
import Derived.Test.YtffjfnoocbgajaaM20
import Derived.Test.YtffjfnoocbgajaaM21
import Derived.Test.YtffjfnoocbgajaaM22
import Derived.Test.YtffjfnoocbgajaaM23
import Derived.Test.YtffjfnoocbgajaaM24
import Derived.Test.YtffjfnoocbgajaaM25
import Derived.Test.YtffjfnoocbgajaaM26
import Derived.Test.YtffjfnoocbgajaaM28
import Derived.Test.YtffjfnoocbgajaaM29
import Derived.Test.YtffjfnoocbgajaaM30
import Derived.Test.YtffjfnoocbgajaaM33
import Derived.Test.YtffjfnoocbgajaaM34
namespace Go.Proofs.Ytffjfnoocbgajaa.L
open Go.RowKit Go.Proofs.YtffjfnoocbgajaaW.PrintWords Go.Proofs.YtffjfnoocbgajaaW.PrintMore Go.Proofs.Ytffjfnoocbgajaa.M Go.Proofs.Ytffjfnoocbgajaa.M
set_option linter.unusedVariables false
set_option linter.unusedSimpArgs false
theorem whGood_f (W D : Int) : spec_whGood.f W D = some (good W D) := by
  unfold spec_whGood.f spec_l1In.f good
  by_cases h1 : 1 ≤ W <;> by_cases h2 : W ≤ 6 <;> by_cases h3 : 2 ≤ D <;> by_cases h4 : D ≤ 10 <;> simp [h1, h2, h3, h4]
theorem IsLock_i (W D : Int) : impl_IsLock.f W D = some (good W D) := by
  unfold impl_IsLock.f impl_within.f good
  by_cases h1 : 1 ≤ W <;> by_cases h2 : W ≤ 6 <;> by_cases h3 : 2 ≤ D <;> by_cases h4 : D ≤ 10 <;> simp [h1, h2, h3, h4]
theorem l1In_f (n lo hi : Int) : spec_l1In.f n lo hi = some (decide (lo ≤ n ∧ n ≤ hi)) := by
  unfold spec_l1In.f
  by_cases h1 : lo ≤ n <;> by_cases h2 : n ≤ hi <;> simp [h1, h2]
theorem within_f (n lo hi : Int) : impl_within.f n lo hi = some (decide (lo ≤ n ∧ n ≤ hi)) := by
  unfold impl_within.f
  by_cases h1 : lo ≤ n <;> by_cases h2 : n ≤ hi <;> simp [h1, h2]

theorem whCount_l0 {W D : Int} (h0 : 2 ≤ D) (h1 : D ≤ 10) : ∀ (m n : Nat), n + m ≤ 6 → Ev (fun k => spec_whCount.l0 k (pw D n) (m : Int) W D) (pw D (n + m))
  | 0, n, h => by
    refine Ev.succ ?_
    simp only [spec_whCount.l0]
    exact Ev.neg (by omega) (Ev.now _)
  | m + 1, n, h => by
    have b := pw_le6 (D := D) (by omega) h1 (n := n + 1) (by omega)
    have p := pw_pos (D := D) (by omega) (n + 1)
    refine Ev.succ ?_
    simp only [spec_whCount.l0]
    refine Ev.pos (by omega) ?_
    rw [show wrap64 (pw D n * D) = pw D (n + 1) from wrap_id (by rw [pw] at *; omega) (by rw [pw] at *; omega), show wrap64 (((m + 1 : Nat) : Int) - 1) = (m : Int) by rw [wrap_id] <;> omega,
      show n + (m + 1) = (n + 1) + m by omega]
    exact whCount_l0 h0 h1 m (n + 1) (by omega)
theorem whCount_ev {W D : Int} (h : good W D = true) : Ev (fun k => spec_whCount.f k W D) (pw D W.toNat) := by
  obtain ⟨a, b, c, d⟩ := good_iff.1 h
  obtain ⟨w, rfl⟩ := Int.eq_ofNat_of_zero_le (show 0 ≤ W by omega)
  unfold spec_whCount.f
  have := whCount_l0 (W := w) c d w 0 (by omega)
  rw [Nat.zero_add] at this
  exact this
theorem power_l0 {D : Int} (h0 : 2 ≤ D) (h1 : D ≤ 10) : ∀ (m n : Nat), n + m ≤ 6 → Ev (fun k => impl_power.l0 k D (pw D n) ((n + m : Nat) : Int) (n : Int)) (pw D (n + m))
  | 0, n, h => by
    refine Ev.succ ?_
    simp only [impl_power.l0]
    exact Ev.neg (by omega) (Ev.now _)
  | m + 1, n, h => by
    have b := pw_le6 (D := D) (by omega) h1 (n := n + 1) (by omega)
    have p := pw_pos (D := D) (by omega) (n + 1)
    refine Ev.succ ?_
    simp only [impl_power.l0]
    refine Ev.pos (by omega) ?_
    rw [show wrap64 (pw D n * D) = pw D (n + 1) from wrap_id (by rw [pw] at *; omega) (by rw [pw] at *; omega), show wrap64 ((n : Int) + 1) = ((n + 1 : Nat) : Int) by rw [wrap_id] <;> omega,
      show n + (m + 1) = (n + 1) + m by omega]
    exact power_l0 h0 h1 m (n + 1) (by omega)
theorem count_ev {W D : Int} (h : good W D = true) : Ev (fun k => impl_Lock_count.f k W D) (pw D W.toNat) := by
  obtain ⟨a, b, c, d⟩ := good_iff.1 h
  obtain ⟨w, rfl⟩ := Int.eq_ofNat_of_zero_le (show 0 ≤ W by omega)
  unfold impl_Lock_count.f impl_power.f
  have := power_l0 c d w 0 (by omega)
  rw [Nat.zero_add] at this
  exact Ev.bind this (Ev.now _)

theorem whCode_l0 {W D : Int} (hD : 2 ≤ D ∧ D ≤ 10) {s : ByteArray} (hs : s.size ≤ 1048576) : ∀ (t p : List Int), bys s = p ++ t → Ev (fun k => spec_whCode.l0 k s (p.length : Int) W D) (t.all fun b => decide (48 ≤ b ∧ b < 48 + D))
  | [], p, e => by
    have el : p.length = s.size := by rw [← bys_length, e]; simp
    refine Ev.succ ?_
    simp only [spec_whCode.l0]
    exact Ev.neg (by omega) (Ev.now _)
  | x :: t, p, e => by
    have el : p.length + (t.length + 1) = s.size := by rw [← bys_length, e]; simp
    have hx := bys_range s x (by rw [e]; simp)
    refine Ev.succ ?_
    simp only [spec_whCode.l0]
    refine Ev.pos (by omega) (Ev.pos (by omega) ?_)
    rw [bt_bys, e, rd_mid, wrap_id (x := x) (by omega) (by omega), wrap_id (x := x - 48) (by omega) (by omega), wrap_id (x := D - 1) (by omega) (by omega), l1In_f]
    refine Ev.bind0 rfl ?_
    by_cases hb : 48 ≤ x ∧ x < 48 + D
    · refine Ev.pos (by simp; omega) ?_
      rw [show wrap64 ((p.length : Int) + 1) = ((p ++ [x]).length : Int) from len_next p x (by omega)]
      simp only [List.all_cons, hb, and_self, decide_true, Bool.true_and]
      exact whCode_l0 hD hs t (p ++ [x]) (by rw [e]; simp)
    · refine Ev.neg (by simp; omega) ?_
      rw [List.all_cons, decide_eq_false hb, Bool.false_and]
      exact Ev.now _
theorem whCode_ev {W D : Int} (h : good W D = true) (s : ByteArray) (hs : s.size ≤ 1048576) : Ev (fun k => spec_whCode.f k W D s) (isC W D s) := by
  obtain ⟨a, b, c, d⟩ := good_iff.1 h
  unfold spec_whCode.f isC
  by_cases e : (s.size : Int) = W
  · refine Ev.pos e ?_
    rw [decide_eq_true e, Bool.true_and]
    exact whCode_l0 ⟨c, d⟩ hs (bys s) [] rfl
  · refine Ev.neg e ?_
    rw [decide_eq_false e, Bool.false_and]
    exact Ev.now _
theorem isText_l0 {W D : Int} (hD : 2 ≤ D ∧ D ≤ 10) {s : ByteArray} (hs : s.size ≤ 1048576) : ∀ (t p : List Int), bys s = p ++ t → Ev (fun k => impl_Lock_isText.l0 k s (s.size : Int) (p.length : Int) W D) (t.all fun b => decide (48 ≤ b ∧ b < 48 + D))
  | [], p, e => by
    have el : p.length = s.size := by rw [← bys_length, e]; simp
    refine Ev.succ ?_
    simp only [impl_Lock_isText.l0]
    exact Ev.neg (by omega) (Ev.now _)
  | x :: t, p, e => by
    have el : p.length + (t.length + 1) = s.size := by rw [← bys_length, e]; simp
    have hx := bys_range s x (by rw [e]; simp)
    refine Ev.succ ?_
    simp only [impl_Lock_isText.l0]
    refine Ev.pos (by omega) (Ev.pos (by omega) (Ev.pos (by omega) ?_))
    rw [bt_bys, e, rd_mid, wrap_id (x := x) (by omega) (by omega), wrap_id (x := 48 + D) (by omega) (by omega), wrap_id (x := 48 + D - 1) (by omega) (by omega), within_f]
    refine Ev.bind0 rfl ?_
    by_cases hb : 48 ≤ x ∧ x < 48 + D
    · refine Ev.pos (by simp; omega) ?_
      rw [show wrap64 ((p.length : Int) + 1) = ((p ++ [x]).length : Int) from len_next p x (by omega)]
      simp only [List.all_cons, hb, and_self, decide_true, Bool.true_and]
      exact isText_l0 hD hs t (p ++ [x]) (by rw [e]; simp)
    · refine Ev.neg (by simp; omega) ?_
      rw [List.all_cons, decide_eq_false hb, Bool.false_and]
      exact Ev.now _
theorem isCode_ev {W D : Int} (h : good W D = true) (s : ByteArray) (hs : s.size ≤ 1048576) : Ev (fun k => impl_Lock_isCode.f k W D s) (isC W D s) := by
  obtain ⟨a, b, c, d⟩ := good_iff.1 h
  unfold impl_Lock_isCode.f isC
  by_cases e : (s.size : Int) = W
  · refine Ev.pos e ?_
    rw [decide_eq_true e, Bool.true_and]
    refine Ev.bind (isText_l0 (W := W) ⟨c, d⟩ hs (bys s) [] rfl) (Ev.now _)
  · refine Ev.neg e ?_
    rw [decide_eq_false e, Bool.false_and]
    exact Ev.now _

theorem dgs_app {s : ByteArray} {p t : List Int} (e : bys s = p ++ t) : dgs s = (p.map fun b => (b - 48) % 256) ++ (t.map fun b => (b - 48) % 256) := by
  unfold dgs; rw [e, List.map_append]
theorem whDigits_l0 {s : ByteArray} (hs : s.size ≤ 1048576) : ∀ (t p : List Int), bys s = p ++ t → Ev (fun k => spec_whDigits.l0 k s (p.map fun b => (b - 48) % 256) (p.length : Int)) (dgs s)
  | [], p, e => by
    have el : p.length = s.size := by rw [← bys_length, e]; simp
    refine Ev.succ ?_
    simp only [spec_whDigits.l0]
    refine Ev.neg (by omega) (Ev.val ?_)
    rw [dgs_app e]; simp
  | x :: t, p, e => by
    have el : p.length + (t.length + 1) = s.size := by rw [← bys_length, e]; simp
    refine Ev.succ ?_
    simp only [spec_whDigits.l0]
    refine Ev.pos (by omega) (Ev.pos (by omega) (Ev.pos (by rw [List.length_map]; omega) ?_))
    rw [bt_bys, e, rd_mid, show wrap64 ((p.length : Int) + 1) = ((p ++ [x]).length : Int) from len_next p x (by omega)]
    have := whDigits_l0 hs t (p ++ [x]) (by rw [e]; simp)
    rw [List.map_append] at this
    exact this
theorem whDigits_ev (s : ByteArray) (hs : s.size ≤ 1048576) : Ev (fun k => spec_whDigits.f k s) (dgs s) := by
  unfold spec_whDigits.f
  exact whDigits_l0 hs (bys s) [] rfl
theorem digits_l0 {s : ByteArray} (hs : s.size ≤ 1048576) : ∀ (t p : List Int), bys s = p ++ t → Ev (fun k => impl_digits.l0 k s (p.map fun b => (b - 48) % 256) (s.size : Int) (p.length : Int)) (dgs s)
  | [], p, e => by
    have el : p.length = s.size := by rw [← bys_length, e]; simp
    refine Ev.succ ?_
    simp only [impl_digits.l0]
    refine Ev.neg (by omega) (Ev.val ?_)
    rw [dgs_app e]; simp
  | x :: t, p, e => by
    have el : p.length + (t.length + 1) = s.size := by rw [← bys_length, e]; simp
    refine Ev.succ ?_
    simp only [impl_digits.l0]
    refine Ev.pos (by omega) (Ev.pos (by omega) (Ev.pos (by omega) (Ev.pos (by rw [List.length_map]; omega) ?_)))
    rw [bt_bys, e, rd_mid, show wrap64 ((p.length : Int) + 1) = ((p ++ [x]).length : Int) from len_next p x (by omega)]
    have := digits_l0 hs t (p ++ [x]) (by rw [e]; simp)
    rw [List.map_append] at this
    exact this
theorem digits_ev (s : ByteArray) (hs : s.size ≤ 1048576) : Ev (fun k => impl_digits.f k s) (dgs s) := by
  unfold impl_digits.f
  exact digits_l0 hs (bys s) [] rfl
theorem whDigits_txt {ds : List Int} (h : Ok 10 ds) (hl : ds.length ≤ 1048576) : Ev (fun k => spec_whDigits.f k (txt ds)) ds := by
  have := whDigits_ev (txt ds) (by rw [txt_size]; exact hl)
  rwa [dgs_txt h] at this
theorem digits_txt {ds : List Int} (h : Ok 10 ds) (hl : ds.length ≤ 1048576) : Ev (fun k => impl_digits.f k (txt ds)) ds := by
  have := digits_ev (txt ds) (by rw [txt_size]; exact hl)
  rwa [dgs_txt h] at this

theorem l1Num_ev {d : Int} (h0 : 0 ≤ d) (h1 : d < 10) : Ev (fun k => spec_l1Num.f k d) (txt [d]) := by
  refine Ev.succ ?_
  simp only [spec_l1Num.f]
  refine Ev.pos h1 (Ev.val ?_)
  rw [wrap_id (by omega) (by omega), show (48 + d) % 256 = 48 + d by omega]; rfl
theorem whText_l0 : ∀ (t p : List Int), Ok 10 (p ++ t) → (p ++ t).length ≤ 1048576 → Ev (fun k => spec_whText.l0 k (txt p) (p ++ t) ((p ++ t).length : Int) (p.length : Int)) (txt (p ++ t))
  | [], p, h, hl => by
    refine Ev.succ ?_
    simp only [spec_whText.l0]
    refine Ev.neg (len_end p) (Ev.val (by simp))
  | x :: t, p, h, hl => by
    have hx := (Ok.cons.1 (Ok.append.1 h).2).1
    rw [List.length_append, List.length_cons] at hl
    refine Ev.succ ?_
    simp only [spec_whText.l0]
    refine Ev.pos (len_mid p t x) (Ev.pos (by omega) (Ev.pos (len_mid p t x) ?_))
    rw [rd_mid]
    refine Ev.bind (l1Num_ev hx.1 hx.2) (Ev.pos (by rw [txt_size, txt_size]; simp; omega) ?_)
    rw [len_next p x (by omega), txt_append, app_next p t x]
    refine whText_l0 t (p ++ [x]) (by rw [← app_next p t x]; exact h) (by simp; omega)
theorem whText_ev {ds : List Int} (h : Ok 10 ds) (hl : ds.length ≤ 1048576) : Ev (fun k => spec_whText.f k ds) (txt ds) := by
  unfold spec_whText.f
  exact whText_l0 ds [] h hl
theorem text_l0 : ∀ (t p : List Int), Ok 10 (p ++ t) → (p ++ t).length ≤ 1048576 → Ev (fun k => impl_text.l0 k (p.map (48 + ·)) (p ++ t) ((p ++ t).length : Int) (p.length : Int)) (txt (p ++ t))
  | [], p, h, hl => by
    refine Ev.succ ?_
    simp only [impl_text.l0]
    refine Ev.neg (len_end p) (Ev.val (by unfold txt; simp))
  | x :: t, p, h, hl => by
    have hx := (Ok.cons.1 (Ok.append.1 h).2).1
    rw [List.length_append, List.length_cons] at hl
    refine Ev.succ ?_
    simp only [impl_text.l0]
    refine Ev.pos (len_mid p t x) (Ev.pos (by omega) (Ev.pos (len_mid p t x) (Ev.pos (by rw [List.length_map]; omega) ?_)))
    rw [rd_mid, wrap_id (x := 48 + x) (by omega) (by omega), show (48 + x) % 256 = 48 + x by omega, len_next p x (by omega), app_next p t x]
    have := text_l0 t (p ++ [x]) (by rw [← app_next p t x]; exact h) (by simp; omega)
    rw [List.map_append] at this
    exact this
theorem text_ev {ds : List Int} (h : Ok 10 ds) (hl : ds.length ≤ 1048576) : Ev (fun k => impl_text.f k ds) (txt ds) := by
  unfold impl_text.f
  exact text_l0 ds [] h hl

theorem l1Mod_f (k : Int) {n : Int} (h0 : 0 < n) (h1 : n ≤ 1000) : spec_l1Mod.f k n = some (k % n) := by
  unfold spec_l1Mod.f; rw [if_neg (by omega), tmod_around h0 h1]
theorem around_f (k : Int) {n : Int} (h0 : 0 < n) (h1 : n ≤ 1000) : impl_around.f k n = some (k % n) := by
  unfold impl_around.f; rw [if_neg (by omega), tmod_around h0 h1]
theorem whNumber_l0 {W D : Int} (hD : 2 ≤ D ∧ D ≤ 10) : ∀ (t p : List Int), Ok D (p ++ t) → (p ++ t).length ≤ 6 → Ev (fun k => spec_whNumber.l0 k (num D p) (p ++ t) ((p ++ t).length : Int) (p.length : Int) W D) (num D (p ++ t))
  | [], p, h, hl => by
    refine Ev.succ ?_
    simp only [spec_whNumber.l0]
    refine Ev.neg (len_end p) (Ev.val (by simp))
  | x :: t, p, h, hl => by
    have hx := (Ok.cons.1 (Ok.append.1 h).2).1
    have hp : Ok D (p ++ [x]) := by rw [app_next p t x] at h; exact (Ok.append.1 h).1
    rw [List.length_append, List.length_cons] at hl
    have b1 := num_bound (by omega) hp
    have b2 := pw_le6 (D := D) (by omega) hD.2 (n := (p ++ [x]).length) (by simp; omega)
    have b3 := num_bound (D := D) (by omega) (Ok.append.1 hp).1
    have b4 : 0 ≤ num D p * D := Int.mul_nonneg b3.1 (by omega)
    rw [num_snoc] at b1
    refine Ev.succ ?_
    simp only [spec_whNumber.l0]
    refine Ev.pos (len_mid p t x) (Ev.pos (by omega) (Ev.pos (len_mid p t x) ?_))
    rw [rd_mid, wrap_id (x := num D p * D) (by omega) (by omega), wrap_id (x := num D p * D + x) (by omega) (by omega), ← num_snoc, len_next p x (by omega), app_next p t x]
    exact whNumber_l0 hD t (p ++ [x]) (by rw [← app_next p t x]; exact h) (by simp; omega)
theorem whNumber_ev {W D : Int} (hD : 2 ≤ D ∧ D ≤ 10) {ds : List Int} (h : Ok D ds) (hl : ds.length ≤ 6) : Ev (fun k => spec_whNumber.f k W D (txt ds)) (num D ds) := by
  unfold spec_whNumber.f
  refine Ev.bind (whDigits_txt (h.le hD.2) (by omega)) ?_
  exact whNumber_l0 hD ds [] h hl
theorem has_l0 {W D : Int} (h : good W D = true) : ∀ (t p : List ByteArray), (∀ s ∈ t, s.size ≤ 1048576) → (p ++ t).length ≤ 1048576 → Ev (fun k => impl_has.l0 k (p ++ t) ((p ++ t).length : Int) (p.length : Int) W D) (t.all (isC W D))
  | [], p, hs, hl => by
    refine Ev.succ ?_
    simp only [impl_has.l0]
    refine Ev.neg (len_end p) (Ev.val (by simp))
  | x :: t, p, hs, hl => by
    rw [List.length_append, List.length_cons] at hl
    refine Ev.succ ?_
    simp only [impl_has.l0]
    refine Ev.pos (len_mid p t x) (Ev.pos (by omega) (Ev.pos (len_mid p t x) ?_))
    rw [rdOf_mid, len_next p x (by omega), app_next p t x]
    refine Ev.bind (isCode_ev h x (hs x (by simp))) ?_
    by_cases hx : isC W D x = true
    · refine Ev.pos hx ?_
      rw [List.all_cons, hx, Bool.true_and]
      exact has_l0 h t (p ++ [x]) (fun s hs' => hs s (by simp [hs'])) (by simp; omega)
    · refine Ev.neg hx (Ev.val ?_)
      simp [hx]
theorem has_ev (W D : Int) (l : List ByteArray) (hs : ∀ s ∈ l, s.size ≤ 1048576) (hl : l.length ≤ 1048576) : Ev (fun k => impl_has.f k W D l) (good W D && l.all (isC W D)) := by
  unfold impl_has.f
  refine Ev.bind0 (IsLock_i W D) ?_
  by_cases h : good W D = true
  · refine Ev.pos h ?_
    rw [h, Bool.true_and]
    exact has_l0 h l [] hs hl
  · refine Ev.neg h (Ev.val (by simp [h]))

def addM (D c : Int) : List Int → List Int → List Int
  | a :: aa, b :: bb => (a + c * b) % D :: addM D c aa bb
  | aa, _ => aa
theorem addM_length (D c : Int) : ∀ a b : List Int, (addM D c a b).length = a.length
  | [], b => by simp [addM]
  | a :: aa, [] => by simp [addM]
  | a :: aa, b :: bb => by simp [addM, addM_length D c aa bb]
theorem addM_ok {D : Int} (h : 0 < D) (c : Int) : ∀ a b : List Int, Ok D a → Ok D (addM D c a b)
  | [], b, ha => by simpa [addM] using ha
  | a :: aa, [], ha => by simpa [addM] using ha
  | a :: aa, b :: bb, ha => by
    rw [addM, Ok.cons]
    exact ⟨⟨Int.emod_nonneg _ (by omega), Int.emod_lt_of_pos _ h⟩, addM_ok h c aa bb (Ok.cons.1 ha).2⟩
theorem whAdd_l0 {W D c : Int} (hD : 2 ≤ D ∧ D ≤ 10) (hc : -1000000 ≤ c ∧ c ≤ 1000000) : ∀ (t u p q : List Int), Ok D (p ++ t) → Ok 1000 u → p.length = q.length → t.length = u.length → (p ++ t).length ≤ 1000 →
    Ev (fun k => spec_whAdd.l0 k c (p ++ t) (q ++ u) ((p ++ t).length : Int) (p.length : Int) W D) (txt (p ++ addM D c t u))
  | [], u, p, q, ht, hu, hpq, htu, hl => by
    refine Ev.succ ?_
    simp only [spec_whAdd.l0]
    refine Ev.neg (len_end p) ?_
    refine Ev.bind (whText_ev (ht.le hD.2) (by omega)) (Ev.val (by simp [addM]))
  | a :: t, [], p, q, ht, hu, hpq, htu, hl => by simp at htu
  | a :: t, b :: u, p, q, ht, hu, hpq, htu, hl => by
    have ha := (Ok.cons.1 (Ok.append.1 ht).2).1
    have hb := (Ok.cons.1 hu).1
    have hcb : -1000000000 ≤ c * b ∧ c * b ≤ 1000000000 := by
      have h1 : c * b ≤ 1000000 * b := Int.mul_le_mul_of_nonneg_right hc.2 hb.1
      have h2 : -1000000 * b ≤ c * b := Int.mul_le_mul_of_nonneg_right hc.1 hb.1
      omega
    rw [List.length_append, List.length_cons] at hl
    refine Ev.succ ?_
    simp only [spec_whAdd.l0]
    refine Ev.pos (len_mid p t a) (Ev.pos (by omega) (Ev.pos (len_mid p t a) (Ev.pos (by rw [hpq]; exact len_mid q u b) ?_)))
    rw [rd_mid, show rd (q ++ b :: u) (p.length : Int) = b by rw [hpq]; exact rd_mid q u b, wrap_id (x := c * b) (by omega) (by omega), wrap_id (x := a + c * b) (by omega) (by omega), len_next p ((a + c * b) % D) (by omega)]
    refine Ev.bind0 (l1Mod_f _ (by omega) (by omega)) ?_
    rw [set_mid, app_next p t ((a + c * b) % D), app_next q u b, show ((p ++ a :: t).length : Int) = ((p ++ [(a + c * b) % D] ++ t).length : Int) by simp]
    rw [show p ++ addM D c (a :: t) (b :: u) = (p ++ [(a + c * b) % D]) ++ addM D c t u by simp [addM]]
    have ok2 : Ok D (p ++ [(a + c * b) % D] ++ t) := by
      rw [Ok.append, Ok.append]
      refine ⟨⟨(Ok.append.1 ht).1, ?_⟩, (Ok.cons.1 (Ok.append.1 ht).2).2⟩
      rw [Ok.cons]
      exact ⟨⟨Int.emod_nonneg _ (by omega), Int.emod_lt_of_pos _ (by omega)⟩, Ok.nil D⟩
    exact whAdd_l0 hD hc t u (p ++ [(a + c * b) % D]) (q ++ [b]) ok2 (Ok.cons.1 hu).2 (by simp [hpq]) (by simpa using htu) (by simp; omega)
theorem whAdd_ev {W D c : Int} (hD : 2 ≤ D ∧ D ≤ 10) (hc : -1000000 ≤ c ∧ c ≤ 1000000) {a b : List Int} (ha : Ok D a) (hb : Ok D b) (hl : a.length ≤ 6) (e : a.length = b.length) : Ev (fun k => spec_whAdd.f k W D (txt a) (txt b) c) (txt (addM D c a b)) := by
  unfold spec_whAdd.f
  refine Ev.bind (whDigits_txt (ha.le hD.2) (by omega)) (Ev.bind (whDigits_txt (hb.le hD.2) (by omega)) ?_)
  exact whAdd_l0 (W := W) hD hc a b [] [] ha (hb.le (by omega)) rfl e (by simp; omega)
theorem rdL_mid1 (p t : List (List Int)) (x : List Int) : rd_L1 (p ++ x :: t) (p.length : Int) = x := by
  unfold rd_L1; rw [Int.toNat_natCast, List.getD_eq_getElem?_getD, List.getElem?_append_right (Nat.le_refl _), Nat.sub_self]; rfl
def okK (W D : Int) (knob : List Int) : Bool := decide ((knob.length : Int) = W) && knob.all fun n => decide (0 ≤ n ∧ n ≤ D - 1)
theorem okK_iff {W D : Int} {knob : List Int} : okK W D knob = true ↔ (knob.length : Int) = W ∧ Ok D knob := by
  unfold okK Ok
  simp only [Bool.and_eq_true, decide_eq_true_eq, List.all_eq_true]
  constructor
  · rintro ⟨h1, h2⟩; exact ⟨h1, fun d hd => by have := h2 d hd; omega⟩
  · rintro ⟨h1, h2⟩; exact ⟨h1, fun d hd => by have := h2 d hd; omega⟩
def gearsM (W D : Int) (ks : List (List Int)) : Bool := good W D && (decide (pw D W.toNat ≤ 1000) && (decide (1 ≤ (ks.length : Int) ∧ (ks.length : Int) ≤ 5) && ks.all (okK W D)))
theorem gearsM_iff {W D : Int} {ks : List (List Int)} : gearsM W D ks = true ↔ (1 ≤ W ∧ W ≤ 6 ∧ 2 ≤ D ∧ D ≤ 10) ∧ pw D W.toNat ≤ 1000 ∧ (1 ≤ ks.length ∧ ks.length ≤ 5) ∧ ∀ k ∈ ks, (k.length : Int) = W ∧ Ok D k := by
  unfold gearsM
  simp only [Bool.and_eq_true, good_iff, decide_eq_true_eq, List.all_eq_true, okK_iff]
  constructor
  · rintro ⟨h1, h2, h3, h4⟩; exact ⟨h1, h2, by omega, h4⟩
  · rintro ⟨h1, h2, h3, h4⟩; exact ⟨h1, h2, by omega, h4⟩
theorem l1All_l0 {lo hi : Int} : ∀ (t p : List Int), (p ++ t).length ≤ 1048576 → Ev (fun k => spec_l1All.l0 k lo hi (p ++ t) ((p ++ t).length : Int) (p.length : Int)) (t.all fun n => decide (lo ≤ n ∧ n ≤ hi))
  | [], p, hl => by
    refine Ev.succ ?_
    simp only [spec_l1All.l0]
    exact Ev.neg (len_end p) (Ev.now _)
  | x :: t, p, hl => by
    rw [List.length_append, List.length_cons] at hl
    refine Ev.succ ?_
    simp only [spec_l1All.l0]
    refine Ev.pos (len_mid p t x) (Ev.pos (by omega) (Ev.pos (len_mid p t x) ?_))
    rw [rd_mid, l1In_f, len_next p x (by omega), app_next p t x]
    refine Ev.bind0 rfl ?_
    by_cases h : lo ≤ x ∧ x ≤ hi
    · refine Ev.pos (by simpa using h) ?_
      rw [List.all_cons, decide_eq_true h, Bool.true_and]
      exact l1All_l0 t (p ++ [x]) (by simp; omega)
    · refine Ev.neg (by simpa using h) (Ev.val ?_)
      rw [List.all_cons, decide_eq_false h]; rfl
theorem l1All_ev (l : List Int) (lo hi : Int) (hl : l.length ≤ 1048576) : Ev (fun k => spec_l1All.f k l lo hi) (l.all fun n => decide (lo ≤ n ∧ n ≤ hi)) := by
  unfold spec_l1All.f
  exact l1All_l0 l [] hl
theorem joKnob_ev {W D : Int} (hD : 2 ≤ D ∧ D ≤ 10) (l : List Int) (hl : l.length ≤ 1048576) : Ev (fun k => spec_joKnob.f k W D l) (okK W D l) := by
  unfold spec_joKnob.f okK
  by_cases h : (l.length : Int) = W
  · refine Ev.pos h ?_
    rw [decide_eq_true h, Bool.true_and, wrap_id (x := D - 1) (by omega) (by omega)]
    exact Ev.bind (l1All_ev l 0 (D - 1) hl) (Ev.now _)
  · refine Ev.neg h (Ev.val ?_)
    rw [decide_eq_false h]; rfl
theorem joGood_l0 {W D : Int} (hD : 2 ≤ D ∧ D ≤ 10) {ks0 : List (List Int)} : ∀ (t p : List (List Int)), (∀ k ∈ t, k.length ≤ 1048576) → (p ++ t).length ≤ 1048576 → Ev (fun k => spec_joGood.l0 k (p ++ t) ((p ++ t).length : Int) (p.length : Int) W D ks0) (t.all (okK W D))
  | [], p, hk, hl => by
    refine Ev.succ ?_
    simp only [spec_joGood.l0]
    exact Ev.neg (len_end p) (Ev.now _)
  | x :: t, p, hk, hl => by
    rw [List.length_append, List.length_cons] at hl
    refine Ev.succ ?_
    simp only [spec_joGood.l0]
    refine Ev.pos (len_mid p t x) (Ev.pos (by omega) (Ev.pos (len_mid p t x) ?_))
    rw [rdL_mid1, len_next p x (by omega), app_next p t x]
    refine Ev.bind (joKnob_ev hD x (hk x (by simp))) ?_
    by_cases h : okK W D x = true
    · refine Ev.pos h ?_
      rw [List.all_cons, h, Bool.true_and]
      exact joGood_l0 hD t (p ++ [x]) (fun k h' => hk k (by simp [h'])) (by simp; omega)
    · refine Ev.neg h (Ev.val ?_)
      simp [h]
theorem joGood_ev (W D : Int) (ks : List (List Int)) (hl : ks.length ≤ 1048576) (hk : ∀ k ∈ ks, k.length ≤ 1048576) : Ev (fun k => spec_joGood.f k W D ks) (gearsM W D ks) := by
  unfold spec_joGood.f gearsM
  refine Ev.bind0 (whGood_f W D) ?_
  by_cases h : good W D = true
  · obtain ⟨a, b, c, d⟩ := good_iff.1 h
    rw [h, Bool.true_and]
    refine Ev.pos rfl (Ev.bind (whCount_ev h) ?_)
    by_cases h1 : pw D W.toNat > 1000
    · refine Ev.pos h1 (Ev.succ ?_)
      simp only [spec_joGood.j0]
      refine Ev.pos trivial (Ev.val ?_)
      rw [decide_eq_false (by omega)]; rfl
    · refine Ev.neg h1 (Ev.bind0 (l1In_f _ _ _) (Ev.succ ?_))
      rw [decide_eq_true (show pw D W.toNat ≤ 1000 by omega), Bool.true_and]
      simp only [spec_joGood.j0]
      by_cases h2 : 1 ≤ (ks.length : Int) ∧ (ks.length : Int) ≤ 5
      · rw [decide_eq_true h2, Bool.true_and]
        refine Ev.neg (by simp) ?_
        exact joGood_l0 ⟨c, d⟩ ks [] hk hl
      · rw [decide_eq_false h2]
        exact Ev.pos (by simp) (Ev.now _)
  · refine Ev.neg h (Ev.succ ?_)
    simp only [spec_joGood.j0]
    refine Ev.pos trivial (Ev.val ?_)
    simp [h]
theorem areG_l1 {W D : Int} (hD : 2 ≤ D ∧ D ≤ 10) {X19 : List (List Int)} {X20 X21 : Int} {ks0 : List (List Int)} {b : Bool} : ∀ (t p : List Int), (p ++ t).length ≤ 1048576 →
    Ev (fun k => impl_AreGears.l0 k X19 X20 (wrap64 (X21 + 1)) W D ks0) b →
    Ev (fun k => impl_AreGears.l1 k X19 X20 X21 (p ++ t) ((p ++ t).length : Int) (p.length : Int) W D ks0) ((t.all fun n => decide (0 ≤ n ∧ n ≤ D - 1)) && b)
  | [], p, hl, h => by
    refine Ev.succ ?_
    simp only [impl_AreGears.l1]
    refine Ev.neg (len_end p) ?_
    rw [List.all_nil, Bool.true_and]; exact h
  | x :: t, p, hl, h => by
    rw [List.length_append, List.length_cons] at hl
    refine Ev.succ ?_
    simp only [impl_AreGears.l1]
    refine Ev.pos (len_mid p t x) (Ev.pos (by omega) (Ev.pos (len_mid p t x) ?_))
    rw [rd_mid, within_f, wrap_id (x := D - 1) (by omega) (by omega), len_next p x (by omega), app_next p t x]
    refine Ev.bind0 rfl ?_
    by_cases hx : 0 ≤ x ∧ x ≤ D - 1
    · refine Ev.pos (by simpa using hx) ?_
      rw [List.all_cons, decide_eq_true hx, Bool.true_and]
      exact areG_l1 hD t (p ++ [x]) (by simp; omega) h
    · refine Ev.neg (by simpa using hx) (Ev.val ?_)
      rw [List.all_cons, decide_eq_false hx]; rfl
theorem areG_l0 {W D : Int} (hD : 2 ≤ D ∧ D ≤ 10) {ks0 : List (List Int)} : ∀ (t p : List (List Int)), (∀ k ∈ t, k.length ≤ 1048576) → (p ++ t).length ≤ 1048576 → Ev (fun k => impl_AreGears.l0 k (p ++ t) ((p ++ t).length : Int) (p.length : Int) W D ks0) (t.all (okK W D))
  | [], p, hk, hl => by
    refine Ev.succ ?_
    simp only [impl_AreGears.l0]
    exact Ev.neg (len_end p) (Ev.now _)
  | x :: t, p, hk, hl => by
    have hl0 := hl
    rw [List.length_append, List.length_cons] at hl
    refine Ev.succ ?_
    simp only [impl_AreGears.l0]
    refine Ev.pos (len_mid p t x) (Ev.pos (by omega) (Ev.pos (len_mid p t x) ?_))
    rw [rdL_mid1]
    have ih := areG_l0 (W := W) hD (ks0 := ks0) t (p ++ [x]) (fun k h' => hk k (by simp [h'])) (by simp; omega)
    by_cases h : (x.length : Int) = W
    · refine Ev.pos h ?_
      rw [List.all_cons]
      have : okK W D x = x.all fun n => decide (0 ≤ n ∧ n ≤ D - 1) := by unfold okK; rw [decide_eq_true h, Bool.true_and]
      rw [this]
      refine areG_l1 hD (X20 := ((p ++ x :: t).length : Int)) x [] (hk x (by simp)) ?_
      rw [len_next p x (by omega), app_next p t x]
      exact ih
    · refine Ev.neg h (Ev.val ?_)
      simp [okK, h]
theorem AreGears_i (W D : Int) (ks : List (List Int)) (hl : ks.length ≤ 1048576) (hk : ∀ k ∈ ks, k.length ≤ 1048576) : Ev (fun k => impl_AreGears.f k W D ks) (gearsM W D ks) := by
  unfold impl_AreGears.f gearsM
  have e : impl_isSmall.f = fun k a b m => (impl_IsLock.f a b).bind fun t => if t = true then ((impl_Lock_count.f k a b).bind fun t2 => some (decide (t2 ≤ m))) else some false := by
    funext k a b m; unfold impl_isSmall.f; rfl
  by_cases h : good W D = true
  · obtain ⟨a, b, c, d⟩ := good_iff.1 h
    rw [h, Bool.true_and]
    refine Ev.bind (a := decide (pw D W.toNat ≤ 1000)) ?_ ?_
    · rw [e]; exact Ev.bind0 (IsLock_i W D) (Ev.pos h (Ev.bind (count_ev h) (Ev.now _)))
    by_cases h1 : pw D W.toNat ≤ 1000
    · rw [decide_eq_true h1, Bool.true_and]
      refine Ev.pos rfl (Ev.bind0 (within_f _ _ _) (Ev.succ ?_))
      simp only [impl_AreGears.j0]
      by_cases h2 : 1 ≤ (ks.length : Int) ∧ (ks.length : Int) ≤ 5
      · rw [decide_eq_true h2, Bool.true_and]
        refine Ev.neg (by simp) ?_
        exact areG_l0 ⟨c, d⟩ ks [] hk hl
      · rw [decide_eq_false h2]
        exact Ev.pos (by simp) (Ev.now _)
    · rw [decide_eq_false h1]
      refine Ev.neg (by simp) (Ev.succ ?_)
      simp only [impl_AreGears.j0]
      exact Ev.pos trivial (Ev.now _)
  · refine Ev.bind (a := false) ?_ ?_
    · rw [e]; exact Ev.bind0 (IsLock_i W D) (Ev.neg h (Ev.now _))
    refine Ev.neg (by simp) (Ev.succ ?_)
    simp only [impl_AreGears.j0]
    refine Ev.pos trivial (Ev.val ?_)
    simp [h]
theorem knob_mem {W D : Int} {ks : List (List Int)} (h : gearsM W D ks = true) {i : Int} (h0 : 0 ≤ i) (h1 : i < ks.length) : ((rd_L1 ks i).length : Int) = W ∧ Ok D (rd_L1 ks i) := by
  have hm := (gearsM_iff.1 h).2.2.2
  unfold rd_L1
  rw [List.getD_eq_getElem?_getD, List.getElem?_eq_getElem (by omega)]
  exact hm _ (List.getElem_mem _)
theorem joCode_ev (W D : Int) (ks : List (List Int)) (s : ByteArray) (hl : ks.length ≤ 1048576) (hk : ∀ k ∈ ks, k.length ≤ 1048576) (hs : s.size ≤ 1048576) : Ev (fun k => spec_joCode.f k W D ks s) (gearsM W D ks && isC W D s) := by
  unfold spec_joCode.f
  refine Ev.bind (joGood_ev W D ks hl hk) ?_
  by_cases h : gearsM W D ks = true
  · have hg : good W D = true := (Bool.and_eq_true_iff.1 h).1
    rw [h, Bool.true_and]
    exact Ev.pos rfl (Ev.bind (whCode_ev hg s hs) (Ev.now _))
  · exact Ev.neg h (Ev.val (by simp [h]))
theorem geared_ev (W D : Int) (ks : List (List Int)) (l : List ByteArray) (hl : ks.length ≤ 1048576) (hk : ∀ k ∈ ks, k.length ≤ 1048576) (hs : ∀ s ∈ l, s.size ≤ 1048576) (hl2 : l.length ≤ 1048576) : Ev (fun k => impl_geared.f k W D ks l) (gearsM W D ks && l.all (isC W D)) := by
  unfold impl_geared.f
  refine Ev.bind (AreGears_i W D ks hl hk) ?_
  by_cases h : gearsM W D ks = true
  · have hg : good W D = true := (Bool.and_eq_true_iff.1 h).1
    rw [h, Bool.true_and]
    have := has_ev W D l hs hl2
    rw [hg, Bool.true_and] at this
    exact Ev.pos rfl (Ev.bind this (Ev.now _))
  · exact Ev.neg h (Ev.val (by simp [h]))
theorem gturned_l0 {W D c : Int} (hD : 2 ≤ D ∧ D ≤ 10) (hc : -1000000 ≤ c ∧ c ≤ 1000000) {ks0 : List (List Int)} : ∀ (t u p q : List Int), Ok D (p ++ t) → Ok D u → p.length = q.length → t.length = u.length → (p ++ t).length ≤ 1000 →
    Ev (fun k => impl_Gears_turned.l0 k c (p ++ t) (q ++ u) ((q ++ u).length : Int) (p.length : Int) W D ks0) (txt (p ++ addM D c t u))
  | [], u, p, q, ht, hu, hpq, htu, hl => by
    have : u = [] := List.length_eq_zero_iff.1 htu.symm
    subst this
    refine Ev.succ ?_
    simp only [impl_Gears_turned.l0]
    refine Ev.neg (by rw [hpq]; exact len_end q) ?_
    refine Ev.bind (text_ev (ht.le hD.2) (by omega)) (Ev.val (by simp [addM]))
  | a :: t, [], p, q, ht, hu, hpq, htu, hl => by simp at htu
  | a :: t, b :: u, p, q, ht, hu, hpq, htu, hl => by
    have ha := (Ok.cons.1 (Ok.append.1 ht).2).1
    have hb := (Ok.cons.1 hu).1
    have hcb : -1000000000 ≤ c * b ∧ c * b ≤ 1000000000 := by
      have h1 : c * b ≤ 1000000 * b := Int.mul_le_mul_of_nonneg_right hc.2 hb.1
      have h2 : -1000000 * b ≤ c * b := Int.mul_le_mul_of_nonneg_right hc.1 hb.1
      omega
    rw [List.length_append, List.length_cons] at hl
    refine Ev.succ ?_
    simp only [impl_Gears_turned.l0]
    refine Ev.pos (by rw [hpq]; exact len_mid q u b) (Ev.pos (by omega) (Ev.pos (by rw [hpq]; exact len_mid q u b) (Ev.pos (len_mid p t a) ?_)))
    rw [rd_mid, show rd (q ++ b :: u) (p.length : Int) = b by rw [hpq]; exact rd_mid q u b, Int.mul_comm b c, wrap_id (x := c * b) (by omega) (by omega), wrap_id (x := a + c * b) (by omega) (by omega), len_next p ((a + c * b) % D) (by omega)]
    refine Ev.bind0 (around_f _ (by omega) (by omega)) ?_
    rw [set_mid, app_next p t ((a + c * b) % D), app_next q u b]
    rw [show p ++ addM D c (a :: t) (b :: u) = (p ++ [(a + c * b) % D]) ++ addM D c t u by simp [addM]]
    have ok2 : Ok D (p ++ [(a + c * b) % D] ++ t) := by
      rw [Ok.append, Ok.append]
      refine ⟨⟨(Ok.append.1 ht).1, ?_⟩, (Ok.cons.1 (Ok.append.1 ht).2).2⟩
      rw [Ok.cons]
      exact ⟨⟨Int.emod_nonneg _ (by omega), Int.emod_lt_of_pos _ (by omega)⟩, Ok.nil D⟩
    exact gturned_l0 hD hc t u (p ++ [(a + c * b) % D]) (q ++ [b]) ok2 (Ok.cons.1 hu).2 (by simp [hpq]) (by simpa using htu) (by simp; omega)
/-- A knob turned, by the program. -/
theorem gturned_ev {W D c i : Int} {ks : List (List Int)} (hg : gearsM W D ks = true) (hc : -1000000 ≤ c ∧ c ≤ 1000000) (h0 : 0 ≤ i) (h1 : i < ks.length) {ds : List Int} (hd : Ok D ds) (hl : (ds.length : Int) = W) : Ev (fun k => impl_Gears_turned.f k W D ks (txt ds) i c) (txt (addM D c ds (rd_L1 ks i))) := by
  obtain ⟨⟨a, b, c', d⟩, _, _, _⟩ := gearsM_iff.1 hg
  obtain ⟨k1, k2⟩ := knob_mem hg h0 h1
  unfold impl_Gears_turned.f
  refine Ev.bind (digits_txt (hd.le d) (by omega)) (Ev.pos h0 (Ev.pos h1 ?_))
  exact gturned_l0 ⟨c', d⟩ hc ds (rd_L1 ks i) [] [] hd k2 rfl (by omega) (by simp; omega)
/-- A knob turned, by the reference. -/
theorem joTurn_ev {W D c i : Int} {ks : List (List Int)} (hg : gearsM W D ks = true) (hc : -1000000 ≤ c ∧ c ≤ 1000000) (h0 : 0 ≤ i) (h1 : i < ks.length) {ds : List Int} (hd : Ok D ds) (hl : (ds.length : Int) = W) : Ev (fun k => spec_joTurn.f k W D ks (txt ds) i c) (txt (addM D c ds (rd_L1 ks i))) := by
  obtain ⟨⟨a, b, c', d⟩, _, _, _⟩ := gearsM_iff.1 hg
  obtain ⟨k1, k2⟩ := knob_mem hg h0 h1
  unfold spec_joTurn.f
  refine Ev.pos h0 (Ev.pos h1 (Ev.bind (whText_ev (k2.le d) (by omega)) ?_))
  exact Ev.bind (whAdd_ev (W := W) ⟨c', d⟩ hc hd k2 (by omega) (by omega)) (Ev.now _)
theorem gcode_of {W D : Int} {ks : List (List Int)} {s : ByteArray} (hg : gearsM W D ks = true) (hc : isC W D s = true) : s = txt (dgs s) ∧ Ok D (dgs s) ∧ ((dgs s).length : Int) = W := code_of hc (gearsM_iff.1 hg).1.2.2.2
theorem szIntS_f (l : List Int) (hl : l.length ≤ 9223372036854775807) {c : Int} (h0 : 0 ≤ c) (h1 : c ≤ 1048576) : laws_szIntS.f l c = some (if c - (l.length : Int) < 0 then -1 else c - (l.length : Int)) := by
  unfold laws_szIntS.f
  rw [wrap_id (x := c - (l.length : Int)) (by omega) (by omega)]
  split <;> rfl
theorem toIntS_l0 : ∀ (t p u : List Int), t.length = u.length → (p ++ t).length ≤ 1048576 → Ev (fun k => laws_toIntS.l0 k (p ++ t) (p ++ u) (p.length : Int)) (p ++ t)
  | [], p, u, e, hl => by
    have : u = [] := List.length_eq_zero_iff.1 e.symm
    subst this
    refine Ev.succ ?_
    simp only [laws_toIntS.l0]
    exact Ev.neg (len_end p) (Ev.now _)
  | x :: t, p, [], e, hl => by simp at e
  | x :: t, p, y :: u, e, hl => by
    rw [List.length_append, List.length_cons] at hl
    refine Ev.succ ?_
    simp only [laws_toIntS.l0]
    refine Ev.pos (len_mid p t x) (Ev.pos (by omega) (Ev.pos (len_mid p u y) ?_))
    rw [rd_mid, set_mid, len_next p x (by omega), app_next p t x, app_next p u x]
    exact toIntS_l0 t (p ++ [x]) u (by simpa using e) (by simp; omega)
theorem toIntS_ev (l : List Int) (hl : l.length ≤ 1048576) : Ev (fun k => laws_toIntS.f k l) l := by
  unfold laws_toIntS.f
  refine Ev.pos (by omega) (Ev.pos (by omega) ?_)
  exact toIntS_l0 l [] _ (by simp) hl
theorem toIntSS_l0 : ∀ (t p u : List (List Int)), (∀ s ∈ t, s.length ≤ 1048576) → t.length = u.length → (p ++ t).length ≤ 1048576 → Ev (fun k => laws_toIntSS.l0 k (p ++ t) (p ++ u) (p.length : Int)) (p ++ t)
  | [], p, u, hs, e, hl => by
    have : u = [] := List.length_eq_zero_iff.1 e.symm
    subst this
    refine Ev.succ ?_
    simp only [laws_toIntSS.l0]
    exact Ev.neg (len_end p) (Ev.now _)
  | x :: t, p, [], hs, e, hl => by simp at e
  | x :: t, p, y :: u, hs, e, hl => by
    rw [List.length_append, List.length_cons] at hl
    refine Ev.succ ?_
    simp only [laws_toIntSS.l0]
    refine Ev.pos (len_mid p t x) (Ev.pos (by omega) ?_)
    rw [rdL_mid1]
    refine Ev.bind (toIntS_ev x (hs x (by simp))) (Ev.pos (len_mid p u y) ?_)
    rw [set_mid, len_next p x (by omega), app_next p t x, app_next p u x]
    exact toIntSS_l0 t (p ++ [x]) u (fun s h => hs s (by simp [h])) (by simpa using e) (by simp; omega)
theorem toGears_ev (W D : Int) (l : List (List Int)) (hl : l.length ≤ 1048576) (hs : ∀ s ∈ l, s.length ≤ 1048576) : Ev (fun k => laws_toGears.f k W D l) (W, D, l) := by
  unfold laws_toGears.f laws_toIntSS.f
  refine Ev.bind0 rfl (Ev.bind (a := l) (Ev.pos (by omega) (Ev.pos (by omega) ?_)) (Ev.now _))
  exact toIntSS_l0 l [] _ hs (by simp) hl
theorem eqIntS_l0 : ∀ (t p : List Int), (p ++ t).length ≤ 9223372036854775806 → Ev (fun k => laws_eqIntS.l0 k (p ++ t) (p ++ t) (p.length : Int)) true
  | [], p, hl => by
    refine Ev.succ ?_
    simp only [laws_eqIntS.l0]
    exact Ev.neg (len_end p) (Ev.now _)
  | x :: t, p, hl => by
    rw [List.length_append, List.length_cons] at hl
    refine Ev.succ ?_
    simp only [laws_eqIntS.l0]
    refine Ev.pos (len_mid p t x) (Ev.pos (by omega) (Ev.pos (len_mid p t x) ?_))
    refine Ev.pos trivial ?_
    rw [len_next p x (by omega), app_next p t x]
    exact eqIntS_l0 t (p ++ [x]) (by simp; omega)
theorem eqIntS_ev (l : List Int) (hl : l.length ≤ 9223372036854775806) : Ev (fun k => laws_eqIntS.f k l l) true := by
  unfold laws_eqIntS.f
  exact Ev.pos rfl (eqIntS_l0 l [] hl)
theorem eqIntSS_l0 : ∀ (t p : List (List Int)), (∀ s ∈ t, s.length ≤ 1048576) → (p ++ t).length ≤ 9223372036854775806 → Ev (fun k => laws_eqIntSS.l0 k (p ++ t) (p ++ t) (p.length : Int)) true
  | [], p, hs, hl => by
    refine Ev.succ ?_
    simp only [laws_eqIntSS.l0]
    exact Ev.neg (len_end p) (Ev.now _)
  | x :: t, p, hs, hl => by
    rw [List.length_append, List.length_cons] at hl
    refine Ev.succ ?_
    simp only [laws_eqIntSS.l0]
    refine Ev.pos (len_mid p t x) (Ev.pos (by omega) (Ev.pos (len_mid p t x) ?_))
    rw [rdL_mid1]
    refine Ev.bind (eqIntS_ev x (by have := hs x (by simp); omega)) (Ev.pos rfl ?_)
    rw [len_next p x (by omega), app_next p t x]
    exact eqIntSS_l0 t (p ++ [x]) (fun s h => hs s (by simp [h])) (by simp; omega)
theorem eqGears_ev (W D : Int) (l : List (List Int)) (hl : l.length ≤ 1048576) (hs : ∀ s ∈ l, s.length ≤ 1048576) : Ev (fun k => laws_eqGears.f k W D l W D l) true := by
  unfold laws_eqGears.f laws_eqIntSS.f
  refine Ev.bind0 (a := true) (by unfold laws_eqLock.f; simp) (Ev.pos rfl (Ev.bind (a := true) (Ev.pos rfl (eqIntSS_l0 l [] hs (by simp; omega))) (Ev.pos rfl (Ev.now _))))
/-- One neighbour looked at. -/
def see {α : Type} (nm : α → Int) (f : Int) (st : List Int × List α) (v : α) : List Int × List α :=
  if rd st.1 (nm v) < 0 then (st.1.set (nm v).toNat (f + 1), st.2 ++ [v]) else st
def bfs {α : Type} (nm : α → Int) (nb : α → List α) : Nat → List Int → List α → List Int
  | 0, far, _ => far
  | _ + 1, far, [] => far
  | n + 1, far, u :: q => bfs nm nb n ((nb u).foldl (see nm (rd far (nm u))) (far, q)).1 ((nb u).foldl (see nm (rd far (nm u))) (far, q)).2
/-- How many nodes are not met. -/
def negs (far : List Int) : Nat := far.countP (fun x => decide (x < 0))
theorem negs_cons (x : Int) (far : List Int) : negs (x :: far) = negs far + if x < 0 then 1 else 0 := by simp [negs, List.countP_cons]
theorem negs_set : ∀ (far : List Int) (i : Nat) (y : Int), i < far.length → far.getD i 0 < 0 → 0 ≤ y → negs (far.set i y) + 1 = negs far
  | [], i, y, h, _, _ => by cases h
  | x :: far, 0, y, _, h, hy => by
    have h : x < 0 := h
    rw [List.set_cons_zero, negs_cons, negs_cons, if_pos h, if_neg (by omega)]
  | x :: far, i + 1, y, hi, h, hy => by
    have := negs_set far i y (by simpa using hi) (by simpa using h) hy
    rw [List.set_cons_succ, negs_cons, negs_cons]
    omega
theorem negs_rep (n : Nat) : negs (List.replicate n (-1)) = n := by
  induction n with
  | zero => rfl
  | succ n ih => rw [List.replicate_succ, negs_cons, ih]; rfl
theorem rd_mem {l : List Int} {i : Int} (h0 : 0 ≤ i) (h1 : i < l.length) : rd l i ∈ l := by
  unfold rd
  rw [List.getD_eq_getElem?_getD, List.getElem?_eq_getElem (show i.toNat < l.length by omega)]
  exact List.getElem_mem _
/-- What holds of the table and the queue at each step; C: what nodes there are. -/
structure BI {α : Type} (N : Nat) (C : α → Prop) (far : List Int) (q : List α) : Prop where
  len : far.length = N
  que : ∀ u ∈ q, C u
  ge : ∀ x ∈ far, -1 ≤ x
  bnd : ∀ x ∈ far, x + negs far ≤ N
theorem see_BI {α : Type} {N : Nat} {C : α → Prop} {nm : α → Int} (hC : ∀ u, C u → 0 ≤ nm u ∧ nm u < N) {far : List Int} {q : List α} (h : BI N C far q) {f : Int} {v : α} (hv : C v) (h0 : -1 ≤ f) (h1 : f + negs far ≤ N) :
    BI N C (see nm f (far, q) v).1 (see nm f (far, q) v).2 ∧ (see nm f (far, q) v).2.length + negs (see nm f (far, q) v).1 = q.length + negs far ∧ negs (see nm f (far, q) v).1 ≤ negs far := by
  unfold see
  obtain ⟨b1, b2⟩ := hC v hv
  by_cases hn : rd far (nm v) < 0
  · rw [if_pos hn]
    have hs := negs_set far (nm v).toNat (f + 1) (by have := h.len; omega) hn (by omega)
    refine ⟨⟨by simpa using h.len, ?_, ?_, ?_⟩, by simp; omega, by show negs (far.set _ _) ≤ _; omega⟩
    · intro u hu
      rcases List.mem_append.1 hu with hu | hu
      · exact h.que u hu
      · rw [List.mem_singleton.1 hu]; exact hv
    · intro x hx
      rcases List.mem_or_eq_of_mem_set hx with hx | rfl
      · exact h.ge x hx
      · omega
    · intro x hx
      show x + (negs (far.set _ _) : Int) ≤ N
      rcases List.mem_or_eq_of_mem_set hx with hx | rfl
      · have := h.bnd x hx; omega
      · omega
  · rw [if_neg hn]
    exact ⟨h, rfl, Nat.le_refl _⟩
theorem fold_BI {α : Type} {N : Nat} {C : α → Prop} {nm : α → Int} (hC : ∀ u, C u → 0 ≤ nm u ∧ nm u < N) {f : Int} (h0 : -1 ≤ f) : ∀ (vs : List α) (far : List Int) (q : List α), BI N C far q → (∀ v ∈ vs, C v) → f + negs far ≤ N →
    BI N C (vs.foldl (see nm f) (far, q)).1 (vs.foldl (see nm f) (far, q)).2 ∧ (vs.foldl (see nm f) (far, q)).2.length + negs (vs.foldl (see nm f) (far, q)).1 = q.length + negs far ∧ negs (vs.foldl (see nm f) (far, q)).1 ≤ negs far
  | [], far, q, h, _, _ => ⟨h, rfl, Nat.le_refl _⟩
  | v :: vs, far, q, h, hv, h1 => by
    obtain ⟨a, b, c⟩ := see_BI hC h (hv v (List.mem_cons_self ..)) h0 h1
    obtain ⟨a', b', c'⟩ := fold_BI hC h0 vs (see nm f (far, q) v).1 (see nm f (far, q) v).2 a (fun x hx => hv x (List.mem_cons_of_mem _ hx)) (by omega)
    exact ⟨a', b'.trans b, Nat.le_trans c' c⟩
theorem BI_pop {α : Type} {N : Nat} {C : α → Prop} {far : List Int} {u : α} {q : List α} (h : BI N C far (u :: q)) : BI N C far q := ⟨h.len, fun x hx => h.que x (List.mem_cons_of_mem _ hx), h.ge, h.bnd⟩
theorem BI_rd {α : Type} {N : Nat} {C : α → Prop} {far : List Int} {q : List α} (h : BI N C far q) {i : Int} (h0 : 0 ≤ i) (h1 : i < N) : -1 ≤ rd far i ∧ rd far i + negs far ≤ N :=
  have hm := rd_mem (l := far) h0 (by rw [h.len]; exact h1)
  ⟨h.ge _ hm, h.bnd _ hm⟩
/-- The table is as long as before, and nothing is below -1. -/
theorem bfs_BI {α : Type} {N : Nat} {C : α → Prop} {nm : α → Int} {nb : α → List α} (hC : ∀ u, C u → 0 ≤ nm u ∧ nm u < N) (hnb : ∀ u, C u → ∀ v ∈ nb u, C v) : ∀ (n : Nat) (far : List Int) (q : List α), BI N C far q → BI N C (bfs nm nb n far q) []
  | 0, far, q, h => ⟨h.len, fun _ hu => (by cases hu), h.ge, h.bnd⟩
  | n + 1, far, [], h => h
  | n + 1, far, u :: q, h => by
    have hu := h.que u (List.mem_cons_self ..)
    obtain ⟨b1, b2⟩ := hC u hu
    obtain ⟨c1, c2⟩ := BI_rd h b1 b2
    obtain ⟨a, b, c⟩ := fold_BI hC (f := rd far (nm u)) c1 (nb u) far q (BI_pop h) (hnb u hu) c2
    exact bfs_BI hC hnb n _ _ a
theorem start_BI {α : Type} {N : Nat} {C : α → Prop} {nm : α → Int} (hC : ∀ u, C u → 0 ≤ nm u ∧ nm u < N) {u : α} (hu : C u) : BI N C ((List.replicate N (-1)).set (nm u).toNat 0) [u] ∧ [u].length + negs ((List.replicate N (-1)).set (nm u).toNat 0) = N := by
  obtain ⟨b1, b2⟩ := hC u hu
  have hs := negs_set (List.replicate N (-1)) (nm u).toNat 0 (by simp; omega) (by rw [List.getD_eq_getElem?_getD, List.getElem?_replicate, if_pos (by omega)]; decide) (Int.le_refl 0)
  rw [negs_rep] at hs
  refine ⟨⟨by simp, fun x hx => by rw [List.mem_singleton.1 hx]; exact hu, ?_, ?_⟩, by simp; omega⟩
  · intro x hx
    rcases List.mem_or_eq_of_mem_set hx with hx | rfl
    · rw [(List.mem_replicate.1 hx).2]; omega
    · omega
  · intro x hx
    rcases List.mem_or_eq_of_mem_set hx with hx | rfl
    · rw [(List.mem_replicate.1 hx).2]; omega
    · omega
theorem rd_set {l : List Int} {i j x : Int} (h0 : 0 ≤ i) (h1 : i < l.length) (h2 : 0 ≤ j) : rd (l.set i.toNat x) j = if i = j then x else rd l j := by
  unfold rd
  rw [List.getD_eq_getElem?_getD, List.getElem?_set]
  by_cases h : i = j
  · rw [if_pos (by omega), if_pos (by omega), if_pos h]; rfl
  · rw [if_neg (by omega), if_neg h, ← List.getD_eq_getElem?_getD]
/-- What the looking at a list of neighbours does to the table and the queue. -/
structure Fold {α : Type} (nm : α → Int) (f : Int) (vs : List α) (far : List Int) (q : List α) (far' : List Int) (q' : List α) : Prop where
  keep : ∀ i, 0 ≤ i → 0 ≤ rd far i → rd far' i = rd far i
  new : ∀ i, 0 ≤ i → rd far' i = rd far i ∨ (rd far i < 0 ∧ rd far' i = f + 1 ∧ ∃ v ∈ vs, nm v = i ∧ v ∈ q')
  all : ∀ v ∈ vs, 0 ≤ rd far' (nm v)
  que : ∃ ns, q' = q ++ ns ∧ ∀ a ∈ ns, a ∈ vs ∧ rd far' (nm a) = f + 1
theorem fold_is {α : Type} {N : Nat} {C : α → Prop} {nm : α → Int} (hC : ∀ u, C u → 0 ≤ nm u ∧ nm u < N) {f : Int} (h0 : 0 ≤ f) : ∀ (vs : List α) (far : List Int) (q : List α), (∀ v ∈ vs, C v) → far.length = N →
    Fold nm f vs far q (vs.foldl (see nm f) (far, q)).1 (vs.foldl (see nm f) (far, q)).2
  | [], far, q, _, _ => ⟨fun _ _ _ => rfl, fun _ _ => Or.inl rfl, fun _ h => (by cases h), [], (List.append_nil _).symm, fun _ h => (by cases h)⟩
  | v :: vs, far, q, hv, hl => by
    obtain ⟨b1, b2⟩ := hC v (hv v (List.mem_cons_self ..))
    rw [List.foldl_cons]
    by_cases hs : rd far (nm v) < 0
    · have e : see nm f (far, q) v = (far.set (nm v).toNat (f + 1), q ++ [v]) := by unfold see; rw [if_pos hs]
      rw [e]
      have ih := fold_is hC h0 vs (far.set (nm v).toNat (f + 1)) (q ++ [v]) (fun x hx => hv x (List.mem_cons_of_mem _ hx)) (by simpa using hl)
      have hset : ∀ j, 0 ≤ j → rd (far.set (nm v).toNat (f + 1)) j = if nm v = j then f + 1 else rd far j := fun j hj => rd_set b1 (by omega) hj
      obtain ⟨k1, k2, k3, ns, k4, k5⟩ := ih
      have hvv : rd (vs.foldl (see nm f) (far.set (nm v).toNat (f + 1), q ++ [v])).1 (nm v) = f + 1 := by
        have := hset (nm v) b1
        rw [if_pos rfl] at this
        rw [k1 (nm v) b1 (by omega), this]
      refine ⟨fun i hi hr => ?_, fun i hi => ?_, fun x hx => ?_, v :: ns, by rw [k4]; simp, fun a ha => ?_⟩
      · have := hset i hi
        rw [if_neg (by intro hh; rw [hh] at hs; omega)] at this
        rw [k1 i hi (by omega), this]
      · have := hset i hi
        by_cases hi2 : nm v = i
        · right
          refine ⟨by rw [← hi2]; exact hs, by rw [← hi2]; exact hvv, v, List.mem_cons_self .., hi2, by rw [k4]; simp⟩
        · rw [if_neg hi2] at this
          rcases k2 i hi with hh | ⟨h1, h2, x, h3, h4, h5⟩
          · left; rw [hh, this]
          · right; exact ⟨by omega, h2, x, List.mem_cons_of_mem _ h3, h4, h5⟩
      · rcases List.mem_cons.1 hx with rfl | hx
        · rw [hvv]; omega
        · exact k3 x hx
      · rcases List.mem_cons.1 ha with rfl | ha
        · exact ⟨List.mem_cons_self .., hvv⟩
        · exact ⟨List.mem_cons_of_mem _ (k5 a ha).1, (k5 a ha).2⟩
    · have e : see nm f (far, q) v = (far, q) := by unfold see; rw [if_neg hs]
      rw [e]
      obtain ⟨k1, k2, k3, ns, k4, k5⟩ := fold_is hC h0 vs far q (fun x hx => hv x (List.mem_cons_of_mem _ hx)) hl
      refine ⟨k1, fun i hi => ?_, fun x hx => ?_, ns, k4, fun a ha => ⟨List.mem_cons_of_mem _ (k5 a ha).1, (k5 a ha).2⟩⟩
      · rcases k2 i hi with hh | ⟨h1, h2, x, h3, h4, h5⟩
        · exact Or.inl hh
        · exact Or.inr ⟨h1, h2, x, List.mem_cons_of_mem _ h3, h4, h5⟩
      · rcases List.mem_cons.1 hx with rfl | hx
        · rw [k1 _ b1 (by omega)]; omega
        · exact k3 x hx
/-- What holds at each step. -/
structure BJ {α : Type} (C : α → Prop) (nm : α → Int) (nb : α → List α) (src : α) (far : List Int) (q : List α) : Prop where
  cq : ∀ a ∈ q, C a ∧ 0 ≤ rd far (nm a)
  so : q.Pairwise (fun a b => rd far (nm a) ≤ rd far (nm b))
  top : ∀ v, C v → ∀ a ∈ q, rd far (nm v) ≤ rd far (nm a) + 1
  clo : ∀ x, C x → 0 ≤ rd far (nm x) → x ∉ q → ∀ v ∈ nb x, 0 ≤ rd far (nm v) ∧ rd far (nm v) ≤ rd far (nm x) + 1
  prd : ∀ v, C v → 0 < rd far (nm v) → ∃ u, C u ∧ rd far (nm u) = rd far (nm v) - 1 ∧ v ∈ nb u
  zer : ∀ v, C v → rd far (nm v) = 0 → v = src
  src0 : rd far (nm src) = 0
theorem BJ_step {α : Type} {N : Nat} {C : α → Prop} {nm : α → Int} {nb : α → List α} (hC : ∀ u, C u → 0 ≤ nm u ∧ nm u < N) (hinj : ∀ u v, C u → C v → nm u = nm v → u = v) (hnb : ∀ u, C u → ∀ v ∈ nb u, C v) {src : α} (hsrc : C src) {far : List Int} {u : α} {q : List α} (hl : far.length = N)
    (h : BJ C nm nb src far (u :: q)) : BJ C nm nb src ((nb u).foldl (see nm (rd far (nm u))) (far, q)).1 ((nb u).foldl (see nm (rd far (nm u))) (far, q)).2 := by
  obtain ⟨hu, hu0⟩ := h.cq u (List.mem_cons_self ..)
  obtain ⟨k1, k2, k3, ns, k4, k5⟩ := fold_is hC hu0 (nb u) far q (hnb u hu) hl
  generalize ((nb u).foldl (see nm (rd far (nm u))) (far, q)).1 = far' at k1 k2 k3 k4 k5 ⊢
  generalize ((nb u).foldl (see nm (rd far (nm u))) (far, q)).2 = q' at k2 k4 ⊢
  subst k4
  have hso := List.pairwise_cons.1 h.so
  have le1 : ∀ v, C v → rd far' (nm v) ≤ rd far (nm u) + 1 := fun v hv => by
    rcases k2 (nm v) (hC v hv).1 with hh | ⟨_, hh, _⟩
    · rw [hh]; exact h.top v hv u (List.mem_cons_self ..)
    · omega
  have kq : ∀ a ∈ q, rd far' (nm a) = rd far (nm a) := fun a ha => by
    obtain ⟨c1, c2⟩ := h.cq a (List.mem_cons_of_mem _ ha)
    exact k1 _ (hC a c1).1 c2
  have ku : rd far' (nm u) = rd far (nm u) := k1 _ (hC u hu).1 hu0
  refine ⟨fun a ha => ?_, ?_, fun v hv a ha => ?_, fun x hx hx0 hxq v hv => ?_, fun v hv hv0 => ?_, fun v hv hv0 => ?_, ?_⟩
  · rcases List.mem_append.1 ha with ha | ha
    · obtain ⟨c1, c2⟩ := h.cq a (List.mem_cons_of_mem _ ha)
      exact ⟨c1, by rw [kq a ha]; exact c2⟩
    · exact ⟨hnb u hu a (k5 a ha).1, by rw [(k5 a ha).2]; omega⟩
  · rw [List.pairwise_append]
    refine ⟨hso.2.imp_of_mem (fun {a b} ha hb hab => by rw [kq a ha, kq b hb]; exact hab), ?_, fun a ha b hb => ?_⟩
    · rw [List.pairwise_iff_forall_sublist]
      intro a b hab
      have ha : a ∈ ns := hab.subset (by simp)
      have hb : b ∈ ns := hab.subset (by simp)
      rw [(k5 a ha).2, (k5 b hb).2]; exact Int.le_refl _
    · rw [(k5 b hb).2]
      exact le1 a (h.cq a (List.mem_cons_of_mem _ ha)).1
  · have hle := le1 v hv
    rcases List.mem_append.1 ha with ha | ha
    · have := hso.1 a ha
      rw [kq a ha]
      rcases k2 (nm v) (hC v hv).1 with hh | ⟨_, hh, _⟩
      · rw [hh]; exact h.top v hv a (List.mem_cons_of_mem _ ha)
      · omega
    · rw [(k5 a ha).2]; omega
  · have hxold : rd far' (nm x) = rd far (nm x) := by
      rcases k2 (nm x) (hC x hx).1 with hh | ⟨_, _, y, hy, hy2, hy3⟩
      · exact hh
      · rw [hinj y x (hnb u hu y hy) hx hy2] at hy3
        exact absurd hy3 hxq
    rw [hxold] at hx0 ⊢
    by_cases hxu : x = u
    · subst hxu
      exact ⟨k3 v hv, le1 v (hnb x hx v hv)⟩
    · have hxn : x ∉ u :: q := fun hm => by
        rcases List.mem_cons.1 hm with hm | hm
        · exact hxu hm
        · exact hxq (List.mem_append.2 (Or.inl hm))
      obtain ⟨c1, c2⟩ := h.clo x hx hx0 hxn v hv
      rw [k1 _ (hC v (hnb x hx v hv)).1 c1]
      exact ⟨c1, c2⟩
  · rcases k2 (nm v) (hC v hv).1 with hh | ⟨_, hh, y, hy, hy2, _⟩
    · rw [hh] at hv0 ⊢
      obtain ⟨x, x1, x2, x3⟩ := h.prd v hv hv0
      exact ⟨x, x1, by rw [k1 _ (hC x x1).1 (by omega)]; exact x2, x3⟩
    · rw [hh]
      refine ⟨u, hu, by rw [ku]; omega, ?_⟩
      rw [← hinj y v (hnb u hu y hy) hv hy2]; exact hy
  · rcases k2 (nm v) (hC v hv).1 with hh | ⟨_, hh, _⟩
    · rw [hh] at hv0; exact h.zer v hv hv0
    · omega
  · rw [k1 _ (hC src hsrc).1 (by rw [h.src0]; exact Int.le_refl 0)]; exact h.src0
theorem bfs_BJ {α : Type} {N : Nat} {C : α → Prop} {nm : α → Int} {nb : α → List α} (hC : ∀ u, C u → 0 ≤ nm u ∧ nm u < N) (hinj : ∀ u v, C u → C v → nm u = nm v → u = v) (hnb : ∀ u, C u → ∀ v ∈ nb u, C v) {src : α} (hsrc : C src) : ∀ (n : Nat) (far : List Int) (q : List α), BI N C far q → BJ C nm nb src far q → q.length + negs far ≤ n →
    BJ C nm nb src (bfs nm nb n far q) []
  | 0, far, [], _, h, _ => h
  | 0, far, u :: q, _, _, hn => by simp at hn
  | n + 1, far, [], _, h, _ => h
  | n + 1, far, u :: q, hb, h, hn => by
    have hu := hb.que u (List.mem_cons_self ..)
    obtain ⟨b1, b2⟩ := hC u hu
    obtain ⟨c1, c2⟩ := BI_rd hb b1 b2
    obtain ⟨s1, s2, s3⟩ := fold_BI hC c1 (nb u) far q (BI_pop hb) (hnb u hu) c2
    exact bfs_BJ hC hinj hnb hsrc n _ _ s1 (BJ_step hC hinj hnb hsrc hb.len h) (by simp at hn; omega)
theorem rd_rep {N : Nat} {i : Int} (h0 : 0 ≤ i) (h1 : i < N) : rd (List.replicate N (-1)) i = -1 := by
  unfold rd
  rw [List.getD_eq_getElem?_getD, List.getElem?_replicate, if_pos (by omega)]; rfl
theorem start_BJ {α : Type} {N : Nat} {C : α → Prop} {nm : α → Int} {nb : α → List α} (hC : ∀ u, C u → 0 ≤ nm u ∧ nm u < N) (hinj : ∀ u v, C u → C v → nm u = nm v → u = v) {src : α} (hsrc : C src) : BJ C nm nb src ((List.replicate N (-1)).set (nm src).toNat 0) [src] := by
  obtain ⟨b1, b2⟩ := hC src hsrc
  have hr : ∀ v, C v → rd ((List.replicate N (-1)).set (nm src).toNat 0) (nm v) = if nm src = nm v then 0 else -1 := fun v hv => by
    rw [rd_set b1 (by simpa using b2) (hC v hv).1, rd_rep (hC v hv).1 (hC v hv).2]
  have h0 : rd ((List.replicate N (-1)).set (nm src).toNat 0) (nm src) = 0 := by rw [hr src hsrc, if_pos rfl]
  refine ⟨fun a ha => ?_, by simp, fun v hv a ha => ?_, fun x hx hx0 hxq => ?_, fun v hv hv0 => ?_, fun v hv hv0 => ?_, h0⟩
  · rw [List.mem_singleton.1 ha]; exact ⟨hsrc, by omega⟩
  · rw [List.mem_singleton.1 ha, h0, hr v hv]; split <;> omega
  · rw [hr x hx] at hx0
    split at hx0
    · rename_i hh; exact absurd (hinj x src hx hsrc hh.symm) (fun e => hxq (by rw [e]; simp))
    · omega
  · rw [hr v hv] at hv0; split at hv0 <;> omega
  · rw [hr v hv] at hv0
    split at hv0
    · rename_i hh; exact hinj v src hv hsrc hh.symm
    · omega
/-- A walk of n steps. -/
def walkN {α : Type} (C : α → Prop) (nb : α → List α) : Nat → α → α → Prop
  | 0, a, b => a = b
  | n + 1, a, b => ∃ c, C c ∧ b ∈ nb c ∧ walkN C nb n a c
theorem walk_far {α : Type} {C : α → Prop} {nm : α → Int} {nb : α → List α} {src : α} {far : List Int} (h : BJ C nm nb src far []) : ∀ (n : Nat) (v : α), walkN C nb n src v → 0 ≤ rd far (nm v) ∧ rd far (nm v) ≤ n
  | 0, v, hw => by
    have hw : src = v := hw
    subst hw; rw [h.src0]; exact ⟨Int.le_refl _, Int.le_refl _⟩
  | n + 1, v, ⟨c, c1, c2, c3⟩ => by
    obtain ⟨d1, d2⟩ := walk_far h n c c3
    obtain ⟨e1, e2⟩ := h.clo c c1 d1 (by simp) v c2
    exact ⟨e1, by omega⟩
theorem far_walk {α : Type} {C : α → Prop} {nm : α → Int} {nb : α → List α} {src : α} {far : List Int} (h : BJ C nm nb src far []) : ∀ (n : Nat) (v : α), C v → rd far (nm v) = n → walkN C nb n src v
  | 0, v, hv, e => (h.zer v hv e).symm
  | n + 1, v, hv, e => by
    obtain ⟨u, u1, u2, u3⟩ := h.prd v hv (by omega)
    exact ⟨u, u1, u3, far_walk h n u u1 (by omega)⟩
def kC (W D : Int) (ds : List Int) : Prop := Ok D ds ∧ (ds.length : Int) = W
def nbK (D : Int) (u : List Int) : List (List Int) → List (List Int)
  | [] => []
  | k :: ks => addM D 1 u k :: addM D (-1) u k :: nbK D u ks
theorem addM_kC {W D : Int} (hD : 0 < D) {u : List Int} (hu : kC W D u) (c : Int) (k : List Int) : kC W D (addM D c u k) := ⟨addM_ok hD c u k hu.1, by rw [addM_length]; exact hu.2⟩
theorem nbK_C {W D : Int} (hD : 0 < D) {u : List Int} (hu : kC W D u) : ∀ (ks : List (List Int)), ∀ v ∈ nbK D u ks, kC W D v
  | [], v, h => by cases h
  | k :: ks, v, h => by
    rcases List.mem_cons.1 h with rfl | h
    · exact addM_kC hD hu _ _
    rcases List.mem_cons.1 h with rfl | h
    · exact addM_kC hD hu _ _
    exact nbK_C hD hu ks v h
theorem kC_num {W D : Int} (hD : 2 ≤ D) : ∀ u, kC W D u → 0 ≤ num D u ∧ num D u < ((pw D W.toNat).toNat : Int) := fun u hu => by
  obtain ⟨a, b⟩ := num_bound (show 0 < D by omega) hu.1
  have e : u.length = W.toNat := by have := hu.2; omega
  rw [e] at b
  exact ⟨a, by omega⟩
/-- The table of the search from a code on. -/
def FAR (W D : Int) (ks : List (List Int)) (ds : List Int) : List Int :=
  bfs (num D) (fun u => nbK D u ks) (pw D W.toNat).toNat ((List.replicate (pw D W.toNat).toNat (-1)).set (num D ds).toNat 0) [ds]
theorem jfar_l3 {W D : Int} {ks : List (List Int)} (hg : gearsM W D ks = true) {u : List Int} (hu : kC W D u) {x9 : Int} (h0 : -1 ≤ x9) {i : Int} (i0 : 0 ≤ i) (i1 : i < ks.length) {b : Int} (hb1 : b = 1 ∨ b = -1) {x53 x54 : Int} {r : List Int} (p : List ByteArray) (far : List Int) (q : List (List Int))
    (hb : BI (pw D W.toNat).toNat (kC W D) far q) (hq : p.length + q.length + negs far ≤ 1000) (hn : x9 + negs far ≤ (pw D W.toNat).toNat)
    (h : Ev (fun k => spec_joFar.l3 k (see (num D) x9 (far, q) (addM D b u (rd_L1 ks i))).1 (p ++ txt u :: (see (num D) x9 (far, q) (addM D b u (rd_L1 ks i))).2.map txt) (p.length : Int) x9 i (b - 2) x53 x54 W D ks) r) :
    Ev (fun k => spec_joFar.l3 k far (p ++ txt u :: q.map txt) (p.length : Int) x9 i b x53 x54 W D ks) r := by
  obtain ⟨⟨g1, g2, g3, g4⟩, g5, _, _⟩ := gearsM_iff.1 hg
  have hC := kC_num (W := W) (show 2 ≤ D by omega)
  obtain ⟨v, hv⟩ : ∃ v, v = addM D b u (rd_L1 ks i) := ⟨_, rfl⟩
  have hc : kC W D v := by rw [hv]; exact addM_kC (by omega) hu _ _
  obtain ⟨b1, b2⟩ := hC _ hc
  have hlen := hb.len
  refine Ev.succ ?_
  simp only [spec_joFar.l3]
  refine Ev.pos (by omega) (Ev.pos (by omega) (Ev.pos (len_mid _ _ _) ?_))
  rw [rdOf_mid]
  refine Ev.bind (joTurn_ev hg (by omega) i0 i1 hu.1 hu.2) ?_
  rw [← hv] at h ⊢
  refine Ev.bind (whNumber_ev ⟨g3, g4⟩ hc.1 (by have := hc.2; omega)) ?_
  refine Ev.pos b1 (Ev.pos (by rw [hlen]; exact b2) ?_)
  rw [wrap_id (x := b - 2) (by omega) (by omega)]
  by_cases hs : rd far (num D v) < 0
  · have e : see (num D) x9 (far, q) v = (far.set (num D v).toNat (x9 + 1), q ++ [v]) := by unfold see; rw [if_pos hs]
    rw [e] at h
    refine Ev.pos hs (Ev.pos (by simp <;> omega) ?_)
    rw [wrap_id (x := x9 + 1) (by omega) (by omega)]
    rw [List.map_append] at h
    rw [List.append_assoc]
    exact h
  · have e : see (num D) x9 (far, q) v = (far, q) := by unfold see; rw [if_neg hs]
    rw [e] at h
    exact Ev.neg hs h
theorem jfar_l2 {W D : Int} {ks : List (List Int)} (hg : gearsM W D ks = true) {u : List Int} (hu : kC W D u) {x9 : Int} (h0 : -1 ≤ x9) {r : List Int} (p : List ByteArray) : ∀ (t pk : List (List Int)) (far : List Int) (q : List (List Int)), ks = pk ++ t →
    BI (pw D W.toNat).toNat (kC W D) far q → p.length + q.length + negs far ≤ 1000 → x9 + negs far ≤ (pw D W.toNat).toNat →
    Ev (fun k => spec_joFar.l1 k ((nbK D u t).foldl (see (num D) x9) (far, q)).1 (p ++ txt u :: ((nbK D u t).foldl (see (num D) x9) (far, q)).2.map txt) ((p.length : Int) + 1) W D ks) r →
    Ev (fun k => spec_joFar.l2 k far (p ++ txt u :: q.map txt) (p.length : Int) x9 (ks.length : Int) (pk.length : Int) W D ks) r
  | [], pk, far, q, hk, hb, hq, hn, h => by
    refine Ev.succ ?_
    simp only [spec_joFar.l2]
    refine Ev.neg (by rw [hk]; exact len_end pk) ?_
    rw [wrap_id (x := (p.length : Int) + 1) (by omega) (by omega)]
    exact h
  | kn :: t, pk, far, q, hk, hb, hq, hn, h => by
    obtain ⟨⟨g1, g2, g3, g4⟩, g5, g6, _⟩ := gearsM_iff.1 hg
    have hC := kC_num (W := W) (show 2 ≤ D by omega)
    have hrd : rd_L1 ks (pk.length : Int) = kn := by rw [hk]; exact rdL_mid1 pk t kn
    have hlt : (pk.length : Int) < (ks.length : Int) := by rw [hk]; exact len_mid pk t kn
    have hv1 : kC W D (addM D 1 u kn) := addM_kC (by omega) hu _ _
    have hv2 : kC W D (addM D (-1) u kn) := addM_kC (by omega) hu _ _
    obtain ⟨s1, s2, s3⟩ := see_BI hC hb hv1 h0 hn
    obtain ⟨t1, t2, t3⟩ := see_BI hC s1 hv2 h0 (by omega)
    refine Ev.succ ?_
    simp only [spec_joFar.l2]
    refine Ev.pos hlt ?_
    refine jfar_l3 hg hu h0 (by omega) hlt (Or.inl rfl) p far q hb hq hn ?_
    rw [hrd]
    refine jfar_l3 hg hu h0 (by omega) hlt (Or.inr rfl) p _ _ s1 (by omega) (by omega) ?_
    rw [hrd]
    refine Ev.succ ?_
    simp only [spec_joFar.l3]
    refine Ev.neg (by decide) ?_
    rw [len_next pk kn (by omega)]
    exact jfar_l2 hg hu h0 p t (pk ++ [kn]) _ _ (by rw [hk]; simp) t1 (by have := t2; have := s2; omega) (by omega) h
theorem jfar_l1 {W D : Int} {ks : List (List Int)} (hg : gearsM W D ks = true) : ∀ (n : Nat) (p : List ByteArray) (far : List Int) (q : List (List Int)), BI (pw D W.toNat).toNat (kC W D) far q → q.length + negs far ≤ n → p.length + q.length + negs far ≤ 1000 →
    Ev (fun k => spec_joFar.l1 k far (p ++ q.map txt) (p.length : Int) W D ks) (bfs (num D) (fun u => nbK D u ks) n far q)
  | 0, p, far, [], _, _, _ => by
    refine Ev.succ ?_
    simp only [spec_joFar.l1]
    exact Ev.neg (len_end p) (Ev.now _)
  | 0, p, far, u :: q, _, h, _ => by simp at h
  | n + 1, p, far, [], _, _, _ => by
    refine Ev.succ ?_
    simp only [spec_joFar.l1]
    exact Ev.neg (len_end p) (Ev.now _)
  | n + 1, p, far, u :: q, hb, h, hn => by
    obtain ⟨⟨g1, g2, g3, g4⟩, g5, g6, _⟩ := gearsM_iff.1 hg
    have hC := kC_num (W := W) (show 2 ≤ D by omega)
    have hu := hb.que u (List.mem_cons_self ..)
    obtain ⟨b1, b2⟩ := hC _ hu
    obtain ⟨c1, c2⟩ := BI_rd hb b1 b2
    have hlen := hb.len
    have hnb := nbK_C (W := W) (show 0 < D by omega) hu ks
    obtain ⟨s1, s2, s3⟩ := fold_BI hC c1 (nbK D u ks) far q (BI_pop hb) hnb c2
    simp only [List.length_cons] at h hn
    refine Ev.succ ?_
    simp only [spec_joFar.l1]
    rw [List.map_cons]
    refine Ev.pos (len_mid _ _ _) (Ev.pos (by omega) ?_)
    rw [rdOf_mid]
    refine Ev.bind (whNumber_ev ⟨g3, g4⟩ hu.1 (by have := hu.2; omega)) (Ev.pos b1 (Ev.pos (by rw [hlen]; exact b2) ?_))
    refine jfar_l2 hg hu c1 p ks [] far q rfl (BI_pop hb) (by omega) c2 ?_
    have := jfar_l1 hg n (p ++ [txt u]) _ _ s1 (by omega) (by simp; omega)
    rw [List.append_assoc, show ((p ++ [txt u]).length : Int) = (p.length : Int) + 1 by simp] at this
    exact this
theorem jfar_l0 {W D : Int} {s : ByteArray} {ks : List (List Int)} {r : List Int} : ∀ (t p : List Int), (p ++ t).length ≤ 1000 → p = List.replicate p.length (-1) →
    Ev (fun k => (spec_whNumber.f k W D s).bind fun t200 => (if 0 ≤ t200 then (if t200 < ((List.replicate (p ++ t).length (-1)).length : Int) then (spec_joFar.l1 k ((List.replicate (p ++ t).length (-1)).set (t200 : Int).toNat 0) (([s] : List ByteArray)) 0 W D ks) else (none)) else (none))) r →
    Ev (fun k => spec_joFar.l0 k s (p ++ t) ((p ++ t).length : Int) (p.length : Int) W D ks) r
  | [], p, hl, hp, h => by
    refine Ev.succ ?_
    simp only [spec_joFar.l0]
    refine Ev.neg (len_end p) ?_
    rw [List.append_nil] at h ⊢
    rw [← hp] at h
    exact h
  | x :: t, p, hl, hp, h => by
    refine Ev.succ ?_
    simp only [spec_joFar.l0]
    refine Ev.pos (len_mid p t x) (Ev.pos (by omega) (Ev.pos (len_mid p t x) ?_))
    rw [set_mid, len_next p (-1) (by simp at hl; omega), app_next p t (-1)]
    have e : (p ++ x :: t).length = (p ++ [-1] ++ t).length := by simp
    rw [e] at hl h ⊢
    exact jfar_l0 t (p ++ [-1]) hl (by rw [List.length_append, List.length_singleton, List.replicate_succ', ← hp]) h
theorem jfar_ev {W D : Int} {ks : List (List Int)} (hg : gearsM W D ks = true) {ds : List Int} (hd : kC W D ds) : Ev (fun k => spec_joFar.f k W D ks (txt ds)) (FAR W D ks ds) := by
  obtain ⟨⟨g1, g2, g3, g4⟩, g5, g6, _⟩ := gearsM_iff.1 hg
  have hC := kC_num (W := W) (show 2 ≤ D by omega)
  obtain ⟨b1, b2⟩ := hC _ hd
  have hp := pw_pos (show 0 < D by omega) W.toNat
  obtain ⟨s1, s2⟩ := start_BI (N := (pw D W.toNat).toNat) hC hd
  unfold spec_joFar.f
  refine Ev.bind (whCount_ev (good_iff.2 ⟨g1, g2, g3, g4⟩)) (Ev.pos (by omega) (Ev.pos (by omega) (Ev.bind0 rfl ?_)))
  refine jfar_l0 (List.replicate (pw D W.toNat).toNat 0) [] (by simp; omega) rfl ?_
  simp only [List.nil_append, List.length_replicate]
  refine Ev.bind (whNumber_ev ⟨g3, g4⟩ hd.1 (by have := hd.2; omega)) (Ev.pos b1 (Ev.pos (by first | omega | (simp; omega)) ?_))
  exact jfar_l1 hg (pw D W.toNat).toNat [] _ [ds] s1 (by omega) (by simp at s2 ⊢; omega)
theorem gkC {W D : Int} {ks : List (List Int)} {s : ByteArray} (hg : gearsM W D ks = true) (hc : isC W D s = true) : s = txt (dgs s) ∧ kC W D (dgs s) := by
  obtain ⟨a, b, c⟩ := gcode_of hg hc
  exact ⟨a, b, c⟩
theorem kC_inj {W D : Int} (hD : 2 ≤ D) : ∀ u v, kC W D u → kC W D v → num D u = num D v → u = v := fun u v hu hv e => num_inj (by omega) hu.1 hv.1 (by have := hu.2; have := hv.2; omega) e
theorem joTwo_ev (W D : Int) (ks : List (List Int)) (s t : ByteArray) (hl : ks.length ≤ 1048576) (hk : ∀ k ∈ ks, k.length ≤ 1048576) (hs : s.size ≤ 1048576) (ht : t.size ≤ 1048576) : Ev (fun k => spec_joTwo.f k W D ks s t) (gearsM W D ks && (isC W D s && isC W D t)) := by
  unfold spec_joTwo.f
  refine Ev.bind (joCode_ev W D ks s hl hk hs) ?_
  by_cases h : (gearsM W D ks && isC W D s) = true
  · obtain ⟨hg, hc⟩ := Bool.and_eq_true_iff.1 h
    obtain ⟨⟨g1, g2, g3, g4⟩, g5, g6, _⟩ := gearsM_iff.1 hg
    rw [h, hg, hc, Bool.true_and, Bool.true_and]
    exact Ev.pos rfl (Ev.bind (whCode_ev (good_iff.2 ⟨g1, g2, g3, g4⟩) t ht) (Ev.now _))
  · have h' : (gearsM W D ks && (isC W D s && isC W D t)) = false := by
      rw [← Bool.and_assoc, Bool.eq_false_iff.2 h, Bool.false_and]
    rw [Bool.eq_false_iff.2 h, h']
    exact Ev.neg (by simp) (Ev.now _)
def markedI : Int → List Int → List Int
  | _, [] => []
  | a, _ :: l => a :: markedI (a + 1) l
theorem markIntS_l0 : ∀ (t p : List Int) (a : Int), 0 ≤ a → a + t.length ≤ 1000000000 → (p ++ t).length ≤ 1000000000 →
    Ev (fun k => laws_markIntS.l0 k (p ++ t) a (p.length : Int)) (a + t.length, p ++ markedI a t)
  | [], p, a, _, _, _ => by
    refine Ev.succ ?_
    simp only [laws_markIntS.l0]
    exact Ev.neg (len_end p) (Ev.val (by simp [markedI]))
  | x :: t, p, a, h0, h1, h2 => by
    rw [List.length_cons] at h1
    have ih := markIntS_l0 t (p ++ [a]) (a + 1) (by omega) (by omega) (by simpa using h2)
    refine Ev.succ ?_
    simp only [laws_markIntS.l0]
    refine Ev.pos (len_mid p t x) (Ev.pos (by omega) ?_)
    rw [set_mid, wrap_id (x := a + 1) (by omega) (by omega), len_next p a (by simp at h2; omega), app_next p t a]
    have e : (a + 1 + (t.length : Int), p ++ [a] ++ markedI (a + 1) t) = (a + ((x :: t).length : Int), p ++ markedI a (x :: t)) := by
      simp only [markedI, List.append_assoc, List.singleton_append, List.length_cons]
      congr 1
      omega
    rw [e] at ih
    exact ih
theorem heldIntS_l0 : ∀ (t p : List Int) (a : Int), 0 ≤ a → a + t.length ≤ 1000000000 → (p ++ t).length ≤ 1000000000 →
    Ev (fun k => laws_heldIntS.l0 k (p ++ markedI a t) a (p.length : Int)) (a + t.length)
  | [], p, a, _, _, _ => by
    refine Ev.succ ?_
    simp only [laws_heldIntS.l0, markedI]
    exact Ev.neg (len_end p) (Ev.val (by simp))
  | x :: t, p, a, h0, h1, h2 => by
    rw [List.length_cons] at h1
    have ih := heldIntS_l0 t (p ++ [a]) (a + 1) (by omega) (by omega) (by simpa using h2)
    rw [show markedI a (x :: t) = a :: markedI (a + 1) t from rfl]
    refine Ev.succ ?_
    simp only [laws_heldIntS.l0]
    refine Ev.pos (len_mid p _ _) (Ev.pos (by omega) ?_)
    rw [rd_mid, wrap_id (x := a + 1) (by omega) (by omega)]
    refine Ev.pos rfl ?_
    rw [len_next p a (by simp at h2; omega), app_next p _ a]
    have e : (a + 1 + (t.length : Int)) = (a + ((x :: t).length : Int)) := by rw [List.length_cons]; omega
    rw [e] at ih
    exact ih
theorem markIntS_ev (l : List Int) (a : Int) (h0 : 0 ≤ a) (h1 : a + l.length ≤ 1000000000) : Ev (fun k => laws_markIntS.f k l a) (a + l.length, markedI a l) ∧ Ev (fun k => laws_heldIntS.f k (markedI a l) a) (a + l.length) :=
  ⟨markIntS_l0 l [] a h0 h1 (by simp; omega), heldIntS_l0 l [] a h0 h1 (by simp; omega)⟩
def cellsS : List (List Int) → Nat
  | [] => 0
  | x :: l => x.length + cellsS l
def markedS : Int → List (List Int) → List (List Int)
  | _, [] => []
  | a, x :: l => markedI a x :: markedS (a + x.length) l
theorem setL_mid (p t : List (List Int)) (x y : List Int) : (p ++ x :: t).set ((p.length : Int)).toNat y = p ++ y :: t := by simp
theorem markIntSS_l0 : ∀ (t p : List (List Int)) (a : Int), 0 ≤ a → a + cellsS t ≤ 1000000000 → (p ++ t).length ≤ 1000000000 →
    Ev (fun k => laws_markIntSS.l0 k (p ++ t) a (p.length : Int)) (a + cellsS t, p ++ markedS a t)
  | [], p, a, _, _, _ => by
    refine Ev.succ ?_
    simp only [laws_markIntSS.l0]
    exact Ev.neg (len_end p) (Ev.val (by simp [markedS, cellsS]))
  | x :: t, p, a, h0, h1, h2 => by
    rw [cellsS] at h1
    have ih := markIntSS_l0 t (p ++ [markedI a x]) (a + x.length) (by omega) (by omega) (by simpa using h2)
    refine Ev.succ ?_
    simp only [laws_markIntSS.l0]
    refine Ev.pos (len_mid p t x) (Ev.pos (by omega) ?_)
    rw [rdL_mid1]
    refine Ev.bind (markIntS_ev x a h0 (by omega)).1 ?_
    rw [setL_mid, len_next p (markedI a x) (by simp at h2; omega), app_next p t (markedI a x)]
    have e : (a + (x.length : Int) + (cellsS t : Int), p ++ [markedI a x] ++ markedS (a + x.length) t) = (a + (cellsS (x :: t) : Int), p ++ markedS a (x :: t)) := by
      simp only [markedS, cellsS, List.append_assoc, List.singleton_append]
      congr 1
      omega
    rw [e] at ih
    exact ih
def firstN (f : Int → Option (List Int)) : Nat → Int → Option (List Int)
  | 0, _ => none
  | m + 1, n => match f n with
    | some x => some (n :: x)
    | none => firstN f m (n + 1)
def findM (D : Int) (t : List Int) : List (List Int) → List Int → Option (List Int)
  | [], u => if u = t then some [] else none
  | k :: ks, u => firstN (fun n => findM D t ks (addM D n u k)) D.toNat 0
def aft (D : Int) : List (List Int) → List Int → List Int → List Int
  | k :: ks, n :: ns, u => aft D ks ns (addM D n u k)
  | _, _, u => u
theorem firstN_some {f : Int → Option (List Int)} : ∀ (m : Nat) (n : Int) (x : List Int), firstN f m n = some x → ∃ i y, n ≤ i ∧ i < n + m ∧ x = i :: y ∧ f i = some y
  | 0, n, x, h => by simp [firstN] at h
  | m + 1, n, x, h => by
    unfold firstN at h
    split at h
    · rename_i y hy
      exact ⟨n, y, Int.le_refl _, by omega, (Option.some.inj h).symm, hy⟩
    · obtain ⟨i, y, h1, h2, h3, h4⟩ := firstN_some m (n + 1) x h
      exact ⟨i, y, by omega, by omega, h3, h4⟩
theorem firstN_none {f : Int → Option (List Int)} : ∀ (m : Nat) (n : Int), firstN f m n = none → ∀ i, n ≤ i → i < n + m → f i = none
  | 0, n, _, i, h1, h2 => by omega
  | m + 1, n, h, i, h1, h2 => by
    unfold firstN at h
    split at h
    · simp at h
    · rename_i hn
      by_cases e : n = i
      · rw [← e]; exact hn
      · exact firstN_none m (n + 1) h i (by omega) (by omega)
theorem findM_sound {D : Int} (hD : 0 ≤ D) {t : List Int} : ∀ (ks : List (List Int)) (u x : List Int), findM D t ks u = some x → x.length = ks.length ∧ (∀ n ∈ x, 0 ≤ n ∧ n < D) ∧ aft D ks x u = t
  | [], u, x, h => by
    unfold findM at h
    split at h
    · rename_i e
      rw [← Option.some.inj h]
      exact ⟨rfl, by simp, e⟩
    · simp at h
  | k :: ks, u, x, h => by
    unfold findM at h
    obtain ⟨i, y, h1, h2, rfl, h4⟩ := firstN_some _ _ _ h
    obtain ⟨a, b, c⟩ := findM_sound hD ks _ y h4
    refine ⟨by simp [a], fun n hn => ?_, c⟩
    rcases List.mem_cons.1 hn with rfl | hn
    · omega
    · exact b n hn
theorem findM_complete {D : Int} {t : List Int} : ∀ (ks : List (List Int)) (u x : List Int), x.length = ks.length → (∀ n ∈ x, 0 ≤ n ∧ n < D) → aft D ks x u = t → findM D t ks u ≠ none
  | [], u, x, h1, _, h3 => by
    cases x with
    | nil =>
      unfold findM
      rw [if_pos (show u = t from h3)]
      simp
    | cons _ _ => simp at h1
  | k :: ks, u, [], h1, _, _ => by simp at h1
  | k :: ks, u, n :: x, h1, h2, h3 => by
    intro h
    unfold findM at h
    have hn := h2 n (List.mem_cons_self ..)
    have := firstN_none _ _ h n (by omega) (by omega)
    exact findM_complete ks _ x (by simpa using h1) (fun m hm => h2 m (List.mem_cons_of_mem _ hm)) h3 this
theorem addM_add (D a b : Int) : ∀ u k : List Int, addM D a (addM D b u k) k = addM D (a + b) u k
  | [], k => by simp [addM]
  | x :: u, [] => by simp [addM]
  | x :: u, y :: k => by
    simp only [addM, addM_add D a b u k]
    rw [Int.emod_add_emod, show x + b * y + a * y = x + (a + b) * y by rw [Int.add_mul]; omega]
theorem addM_swap (D a b : Int) : ∀ u k l : List Int, addM D a (addM D b u k) l = addM D b (addM D a u l) k
  | [], k, l => by simp [addM]
  | x :: u, [], l => by
    cases l with
    | nil => simp [addM]
    | cons z l => simp [addM]
  | x :: u, y :: k, [] => by simp [addM]
  | x :: u, y :: k, z :: l => by
    simp only [addM, addM_swap D a b u k l]
    rw [Int.emod_add_emod, Int.emod_add_emod, show x + b * y + a * z = x + a * z + b * y by omega]
theorem addM_mod (D n : Int) : ∀ u k : List Int, addM D (n % D) u k = addM D n u k
  | [], k => by simp [addM]
  | x :: u, [] => by simp [addM]
  | x :: u, y :: k => by
    simp only [addM, addM_mod D n u k]
    have e : x + n * y = x + n % D * y + D * (n / D * y) := by
      have h := Int.emod_add_mul_ediv n D
      have h2 : n * y = (n % D + D * (n / D)) * y := by rw [h]
      rw [h2, Int.add_mul, Int.mul_assoc]
      omega
    rw [e, Int.add_mul_emod_self_left]
theorem addM_zero {D : Int} : ∀ u k : List Int, Ok D u → addM D 0 u k = u
  | [], k, _ => by simp [addM]
  | x :: u, [], _ => by simp [addM]
  | x :: u, y :: k, h => by
    obtain ⟨⟨h0, h1⟩, h2⟩ := Ok.cons.1 h
    simp only [addM, addM_zero u k h2]
    rw [Int.zero_mul, Int.add_zero, Int.emod_eq_of_lt h0 h1]
theorem aft_push (D c : Int) (k : List Int) : ∀ (ks : List (List Int)) (ns w : List Int), addM D c (aft D ks ns w) k = aft D ks ns (addM D c w k)
  | [], ns, w => by simp [aft]
  | q :: ks, [], w => by simp [aft]
  | q :: ks, n :: ns, w => by
    simp only [aft]
    rw [aft_push D c k ks ns, addM_swap]
theorem aft_one (D c : Int) {k : List Int} : ∀ (ks : List (List Int)) (ns u : List Int), ns.length = ks.length → k ∈ ks → ∃ ns', ns'.length = ks.length ∧ aft D ks ns' u = addM D c (aft D ks ns u) k
  | [], ns, u, _, h => by cases h
  | q :: ks, [], u, h, _ => by simp at h
  | q :: ks, n :: ns, u, h, hk => by
    rcases List.mem_cons.1 hk with rfl | hk
    · refine ⟨(c + n) :: ns, by simpa using h, ?_⟩
      simp only [aft]
      rw [aft_push, addM_add]
    · obtain ⟨ns', h1, h2⟩ := aft_one D c ks ns (addM D n u q) (by simpa using h) hk
      exact ⟨n :: ns', by simp [h1], h2⟩
theorem aft_mod (D : Int) : ∀ (ks : List (List Int)) (ns u : List Int), aft D ks (ns.map (· % D)) u = aft D ks ns u
  | [], ns, u => by simp [aft]
  | q :: ks, [], u => by simp [aft]
  | q :: ks, n :: ns, u => by
    simp only [List.map_cons, aft]
    rw [addM_mod, aft_mod]
theorem aft_zero {D : Int} : ∀ (ks : List (List Int)) (u : List Int), Ok D u → aft D ks (List.replicate ks.length 0) u = u
  | [], u, _ => by simp [aft]
  | q :: ks, u, h => by
    simp only [List.length_cons, List.replicate_succ, aft]
    rw [addM_zero u q h, aft_zero ks u h]
theorem nbK_mem {D : Int} {u v : List Int} : ∀ (ks : List (List Int)), v ∈ nbK D u ks → ∃ k ∈ ks, ∃ c, v = addM D c u k
  | [], h => by cases h
  | k :: ks, h => by
    rcases List.mem_cons.1 h with rfl | h
    · exact ⟨k, List.mem_cons_self .., 1, rfl⟩
    rcases List.mem_cons.1 h with rfl | h
    · exact ⟨k, List.mem_cons_self .., -1, rfl⟩
    obtain ⟨q, h1, c, h2⟩ := nbK_mem ks h
    exact ⟨q, List.mem_cons_of_mem _ h1, c, h2⟩
theorem mem_nbK {D : Int} {u k : List Int} : ∀ (ks : List (List Int)), k ∈ ks → addM D 1 u k ∈ nbK D u ks
  | [], h => by cases h
  | q :: ks, h => by
    rcases List.mem_cons.1 h with rfl | h
    · exact List.mem_cons_self ..
    · exact List.mem_cons_of_mem _ (List.mem_cons_of_mem _ (mem_nbK ks h))
theorem walk_tuple {W D : Int} {ks : List (List Int)} {u : List Int} (hu : Ok D u) : ∀ (n : Nat) (v : List Int), walkN (kC W D) (fun u => nbK D u ks) n u v → ∃ ns, ns.length = ks.length ∧ aft D ks ns u = v
  | 0, v, h => ⟨List.replicate ks.length 0, by simp, (aft_zero ks u hu).trans h⟩
  | n + 1, v, ⟨c, c1, c2, c3⟩ => by
    obtain ⟨ns, h1, h2⟩ := walk_tuple hu n c c3
    obtain ⟨k, hk, b, rfl⟩ := nbK_mem ks c2
    obtain ⟨ns', h3, h4⟩ := aft_one D b ks ns u h1 hk
    exact ⟨ns', h3, by rw [h4, h2]⟩
theorem walk_trans {α : Type} {C : α → Prop} {nb : α → List α} {a b : α} {m : Nat} (h : walkN C nb m a b) : ∀ (n : Nat) (c : α), walkN C nb n b c → ∃ j, walkN C nb j a c
  | 0, c, h2 => by
    have h2 : b = c := h2
    subst h2; exact ⟨m, h⟩
  | n + 1, c, ⟨d, d1, d2, d3⟩ => by
    obtain ⟨j, hj⟩ := walk_trans h n d d3
    exact ⟨j + 1, d, d1, d2, hj⟩
theorem knob_walk {W D : Int} (hD : 0 < D) {KS : List (List Int)} {u k : List Int} (hu : kC W D u) (hk : k ∈ KS) : ∀ m : Nat, ∃ j, walkN (kC W D) (fun u => nbK D u KS) j u (addM D (m : Int) u k)
  | 0 => ⟨0, (addM_zero u k hu.1).symm⟩
  | m + 1 => by
    obtain ⟨j, hj⟩ := knob_walk hD hu hk m
    refine ⟨j + 1, addM D (m : Int) u k, addM_kC hD hu _ _, ?_, hj⟩
    have e : addM D ((m + 1 : Nat) : Int) u k = addM D 1 (addM D (m : Int) u k) k := by rw [addM_add]; congr 1; omega
    rw [e]
    exact mem_nbK KS hk
theorem tuple_walk {W D : Int} (hD : 0 < D) {KS : List (List Int)} : ∀ (ks : List (List Int)) (x u : List Int), kC W D u → (∀ k ∈ ks, k ∈ KS) → (∀ n ∈ x, 0 ≤ n) → ∃ j, walkN (kC W D) (fun u => nbK D u KS) j u (aft D ks x u)
  | [], x, u, _, _, _ => ⟨0, by simp [aft, walkN]⟩
  | k :: ks, [], u, _, _, _ => ⟨0, by simp [aft, walkN]⟩
  | k :: ks, n :: x, u, hu, hk, hn => by
    have h0 := hn n (List.mem_cons_self ..)
    obtain ⟨m, rfl⟩ := Int.eq_ofNat_of_zero_le h0
    obtain ⟨j, hj⟩ := knob_walk hD hu (hk k (List.mem_cons_self ..)) m
    obtain ⟨i, hi⟩ := tuple_walk hD ks x (addM D (m : Int) u k) (addM_kC hD hu _ _) (fun q hq => hk q (List.mem_cons_of_mem _ hq)) (fun q hq => hn q (List.mem_cons_of_mem _ hq))
    exact walk_trans hj i _ hi
theorem FAR_BJw {W D : Int} (hD : 2 ≤ D) {ks : List (List Int)} {ds : List Int} (hd : kC W D ds) : BJ (kC W D) (num D) (fun u => nbK D u ks) ds (FAR W D ks ds) [] := by
  have hC := kC_num (W := W) hD
  obtain ⟨s1, s2⟩ := start_BI (N := (pw D W.toNat).toNat) hC hd
  exact bfs_BJ hC (kC_inj hD) (fun u hu => nbK_C (by omega) hu ks) hd _ _ _ s1 (start_BJ hC (kC_inj hD) hd) (by omega)
/-- What a search says: whether some turns of the knobs lead there. -/
theorem far_find {W D : Int} (hD : 2 ≤ D) {ks : List (List Int)} {u t : List Int} (hu : kC W D u) (ht : kC W D t) : 0 ≤ rd (FAR W D ks u) (num D t) ↔ findM D t ks u ≠ none := by
  have hb := FAR_BJw hD (ks := ks) hu
  constructor
  · intro h
    obtain ⟨n, hn⟩ := Int.eq_ofNat_of_zero_le h
    obtain ⟨ns, h1, h2⟩ := walk_tuple hu.1 n t (far_walk hb n t ht hn)
    refine findM_complete ks u (ns.map (· % D)) (by simpa using h1) (fun m hm => ?_) (by rw [aft_mod]; exact h2)
    obtain ⟨q, _, rfl⟩ := List.mem_map.1 hm
    exact ⟨Int.emod_nonneg _ (by omega), Int.emod_lt_of_pos _ (by omega)⟩
  · intro h
    cases e : findM D t ks u with
    | none => exact absurd e h
    | some x =>
      obtain ⟨h1, h2, h3⟩ := findM_sound (by omega) ks u x e
      obtain ⟨j, hj⟩ := tuple_walk (show 0 < D by omega) (KS := ks) ks x u hu (fun _ h => h) (fun n hn => (h2 n hn).1)
      rw [h3] at hj
      exact (walk_far hb j t hj).1
theorem jfar_nil {W D : Int} (hW : 1 ≤ W ∧ W ≤ 6) (hD : 2 ≤ D ∧ D ≤ 10) (hp : pw D W.toNat ≤ 1000) {ds : List Int} (hd : kC W D ds) : Ev (fun k => spec_joFar.f k W D [] (txt ds)) (FAR W D [] ds) := by
  have hC := kC_num (W := W) hD.1
  obtain ⟨b1, b2⟩ := hC _ hd
  have h0 := pw_pos (show 0 < D by omega) W.toNat
  have e : FAR W D [] ds = (List.replicate (pw D W.toNat).toNat (-1)).set (num D ds).toNat 0 := by
    unfold FAR
    obtain ⟨m, hm⟩ : ∃ m, (pw D W.toNat).toNat = m + 1 := ⟨(pw D W.toNat).toNat - 1, by omega⟩
    rw [hm]
    cases m with
    | zero => rfl
    | succ m => rfl
  rw [e]
  unfold spec_joFar.f
  refine Ev.bind (whCount_ev (good_iff.2 ⟨hW.1, hW.2, hD.1, hD.2⟩)) (Ev.pos (by omega) (Ev.pos (by omega) (Ev.bind0 rfl ?_)))
  refine jfar_l0 (List.replicate (pw D W.toNat).toNat 0) [] (by simp; omega) rfl ?_
  simp only [List.nil_append, List.length_replicate]
  refine Ev.bind (whNumber_ev ⟨hD.1, hD.2⟩ hd.1 (by have := hd.2; omega)) (Ev.pos b1 (Ev.pos (by first | omega | (simp; omega)) ?_))
  refine Ev.succ ?_
  simp only [spec_joFar.l1]
  refine Ev.pos (by simp) (Ev.pos (by omega) ?_)
  have e2 : rdOf ByteArray.empty [txt ds] 0 = txt ds := rfl
  rw [e2]
  refine Ev.bind (whNumber_ev ⟨hD.1, hD.2⟩ hd.1 (by have := hd.2; omega)) (Ev.pos b1 (Ev.pos (by simp; omega) ?_))
  refine Ev.succ ?_
  simp only [spec_joFar.l2]
  refine Ev.neg (by simp) ?_
  refine Ev.succ ?_
  simp only [spec_joFar.l1]
  exact Ev.neg (by simp [wrap64]) (Ev.now _)
def TimesForM (W D : Int) (ks : List (List Int)) (s t : ByteArray) : List Int × Bool :=
  if (gearsM W D ks && (isC W D s && isC W D t)) = true then (match findM D (dgs t) ks (dgs s) with
    | some x => (x, true)
    | none => ([], false)) else ([], false)
theorem find_i {W D : Int} {ks : List (List Int)} (hg : gearsM W D ks = true) {t : List Int} (ht : kC W D t) : ∀ (rest front : List (List Int)) (u pre : List Int), ks = front ++ rest → pre.length = front.length → kC W D u →
    Ev (fun k => impl_TimesFor.l0 k W D ks (txt t) (txt u) pre) (match findM D t rest u with | some x => (true, pre ++ x) | none => (false, pre))
  | [], front, u, pre, hk, hp, hu => by
    obtain ⟨⟨g1, g2, g3, g4⟩, g5, g6, _⟩ := gearsM_iff.1 hg
    refine Ev.succ ?_
    simp only [impl_TimesFor.l0]
    refine Ev.pos (by rw [hk, List.append_nil, hp]; exact beq_self_eq_true _) (Ev.val ?_)
    unfold findM
    by_cases e : u = t
    · rw [if_pos e, e]; simp
    · rw [if_neg e]
      have h2 : ((txt u).toList == (txt t).toList) = false := by
        rw [beq_eq_false_iff_ne]
        exact fun h => e (txt_inj (hu.1.le g4) (ht.1.le g4) (toList_inj.1 h))
      rw [h2]
  | q :: rest, front, u, pre, hk, hp, hu => by
    obtain ⟨⟨g1, g2, g3, g4⟩, g5, g6, _⟩ := gearsM_iff.1 hg
    have hl : ks.length = front.length + (rest.length + 1) := by rw [hk]; simp
    have loop : ∀ (m : Nat) (n : Int), 0 ≤ n → n + m = D → Ev (fun k => impl_TimesFor.l1 k W D ks (txt t) (txt u) pre n) (match firstN (fun n => findM D t rest (addM D n u q)) m n with | some x => (true, pre ++ x) | none => (false, pre)) := by
      intro m
      induction m with
      | zero =>
        intro n h0 h1
        refine Ev.succ ?_
        simp only [impl_TimesFor.l1]
        exact Ev.neg (by omega) (Ev.now _)
      | succ m im =>
        intro n h0 h1
        refine Ev.succ ?_
        simp only [impl_TimesFor.l1]
        refine Ev.pos (by omega) (Ev.pos (by omega) ?_)
        have hq : rd_L1 ks (pre.length : Int) = q := by rw [hk, hp]; exact rdL_mid1 front rest q
        have h3 := gturned_ev (c := n) (i := (pre.length : Int)) hg (by omega) (by omega) (by omega) hu.1 hu.2
        rw [hq] at h3
        refine Ev.bind h3 (Ev.bind (find_i hg ht rest (front ++ [q]) (addM D n u q) (pre ++ [n]) (by rw [hk]; simp) (by simp [hp]) (addM_kC (by omega) hu _ _)) ?_)
        cases e : findM D t rest (addM D n u q) with
        | some x =>
          have e1 : firstN (fun n => findM D t rest (addM D n u q)) (m + 1) n = some (n :: x) := by simp only [firstN, e]
          rw [e1]
          exact Ev.pos rfl (Ev.val (by simp))
        | none =>
          have e1 : firstN (fun n => findM D t rest (addM D n u q)) (m + 1) n = firstN (fun n => findM D t rest (addM D n u q)) m (n + 1) := by simp only [firstN, e]
          rw [e1]
          refine Ev.neg (by simp) (Ev.pos (by simp) ?_)
          have h4 := im (n + 1) (by omega) (by omega)
          rw [show wrap64 (n + 1) = n + 1 from wrap_id (by omega) (by omega)]
          simpa using h4
    refine Ev.succ ?_
    simp only [impl_TimesFor.l0]
    refine Ev.neg (by simp; omega) ?_
    unfold findM
    exact loop D.toNat 0 (by omega) (by omega)
theorem TimesFor_i (W D : Int) (ks : List (List Int)) (s t : ByteArray) (hl : ks.length ≤ 1048576) (hk : ∀ k ∈ ks, k.length ≤ 1048576) (hs : s.size ≤ 1048576) (ht : t.size ≤ 1048576) : Ev (fun k => impl_TimesFor.f k W D ks s t) (TimesForM W D ks s t) := by
  unfold impl_TimesFor.f TimesForM
  have hgd := geared_ev W D ks [s, t] hl hk (fun x hx => by simp at hx; rcases hx with rfl | rfl <;> assumption) (by simp)
  have eb : (gearsM W D ks && [s, t].all (isC W D)) = (gearsM W D ks && (isC W D s && isC W D t)) := by simp
  rw [eb] at hgd
  refine Ev.bind hgd ?_
  by_cases h : (gearsM W D ks && (isC W D s && isC W D t)) = true
  · obtain ⟨hg, hc⟩ := Bool.and_eq_true_iff.1 h
    obtain ⟨hc1, hc2⟩ := Bool.and_eq_true_iff.1 hc
    obtain ⟨e1, o1⟩ := gkC hg hc1
    obtain ⟨e2, o2⟩ := gkC hg hc2
    have h1 := find_i hg o2 ks [] (dgs s) [] rfl rfl o1
    rw [← e1, ← e2] at h1
    rw [if_pos h, h]
    refine Ev.neg (by simp) (Ev.bind h1 ?_)
    cases findM D (dgs t) ks (dgs s) with
    | some x => exact Ev.neg (by simp) (Ev.val (by simp))
    | none => exact Ev.pos rfl (Ev.val rfl)
  · rw [if_neg h, Bool.eq_false_iff.2 h]
    exact Ev.pos rfl (Ev.now _)
theorem FAR_lenw {W D : Int} (hD : 2 ≤ D) {ks : List (List Int)} {ds : List Int} (hd : kC W D ds) : (FAR W D ks ds).length = (pw D W.toNat).toNat := by
  have hC := kC_num (W := W) hD
  obtain ⟨s1, s2⟩ := start_BI (N := (pw D W.toNat).toNat) hC hd
  exact (bfs_BI hC (fun u hu => nbK_C (by omega) hu ks) _ _ _ s1).len
theorem times_s {W D : Int} {ks : List (List Int)} (hg : gearsM W D ks = true) {t : List Int} (ht : kC W D t) : ∀ (rest front : List (List Int)) (u beg : List Int), ks = front ++ rest → beg.length = front.length → kC W D u → (rest = [] → u = t) →
    Ev (fun k => spec_joTimes.f k W D ks (txt u) (txt t) beg) (match findM D t rest u with | some x => (beg ++ x, true) | none => ([], false))
  | [], front, u, beg, hk, hb, hu, h0 => by
    have e := h0 rfl
    subst e
    refine Ev.succ ?_
    simp only [spec_joTimes.f]
    refine Ev.pos (by rw [hk, List.append_nil, hb]; exact beq_self_eq_true _) (Ev.val ?_)
    unfold findM
    rw [if_pos rfl]; simp
  | q :: rest, front, u, beg, hk, hb, hu, _ => by
    obtain ⟨⟨g1, g2, g3, g4⟩, g5, g6, g7⟩ := gearsM_iff.1 hg
    have hl : ks.length = front.length + (rest.length + 1) := by rw [hk]; simp
    have hdr : ks.drop (beg.length + 1) = rest := by rw [hk, hb, List.drop_append]; simp
    obtain ⟨b1, b2⟩ := kC_num (W := W) g3 _ ht
    have hfar : ∀ v, kC W D v → Ev (fun k => spec_joFar.f k W D rest (txt v)) (FAR W D rest v) := by
      intro v hv
      cases rest with
      | nil => exact jfar_nil ⟨g1, g2⟩ ⟨g3, g4⟩ g5 hv
      | cons a b => exact jfar_ev (ks := a :: b) (gearsM_iff.2 ⟨⟨g1, g2, g3, g4⟩, g5, ⟨by simp, by simp only [List.length_cons] at hl ⊢; omega⟩, fun k h => g7 k (by rw [hk]; exact List.mem_append_right _ (List.mem_cons_of_mem _ h))⟩) hv
    have loop : ∀ (m : Nat) (n : Int), 0 ≤ n → n + m = D → Ev (fun k => spec_joTimes.l0 k W D ks (txt u) (txt t) beg n) (match firstN (fun n => findM D t rest (addM D n u q)) m n with | some x => (beg ++ x, true) | none => ([], false)) := by
      intro m
      induction m with
      | zero =>
        intro n h0 h1
        refine Ev.succ ?_
        simp only [spec_joTimes.l0]
        exact Ev.neg (by omega) (Ev.now _)
      | succ m im =>
        intro n h0 h1
        refine Ev.succ ?_
        simp only [spec_joTimes.l0]
        rw [hdr]
        have hq : rd_L1 ks (beg.length : Int) = q := by rw [hk, hb]; exact rdL_mid1 front rest q
        have h3 := joTurn_ev (c := n) (i := (beg.length : Int)) hg (by omega) (by omega) (by omega) hu.1 hu.2
        rw [hq] at h3
        have hv : kC W D (addM D n u q) := addM_kC (by omega) hu _ _
        have hlen := FAR_lenw (W := W) g3 (ks := rest) hv
        have hff := far_find (W := W) g3 (ks := rest) hv ht
        refine Ev.pos (by omega) (Ev.bind h3 (Ev.bind (hfar _ hv) (Ev.bind (whNumber_ev ⟨g3, g4⟩ ht.1 (by have := ht.2; omega)) (Ev.pos b1 (Ev.pos (by omega) ?_)))))
        cases e : findM D t rest (addM D n u q) with
        | some x =>
          have e1 : firstN (fun n => findM D t rest (addM D n u q)) (m + 1) n = some (n :: x) := by simp only [firstN, e]
          rw [e1]
          refine Ev.pos (hff.2 (by rw [e]; simp)) (Ev.bind0 (a := beg) ?_ (Ev.pos (by omega) ?_))
          · unfold spec_l1Own.f
            simp only [Option.bind_some, List.length_nil, Nat.zero_add, List.nil_append]
            exact if_pos (by omega)
          · have h4 := times_s hg ht rest (front ++ [q]) (addM D n u q) (beg ++ [n]) (by rw [hk]; simp) (by simp [hb]) hv (fun e0 => by
              rw [e0] at e
              unfold findM at e
              split at e
              · assumption
              · simp at e)
            rw [e] at h4
            simpa using h4
        | none =>
          have e1 : firstN (fun n => findM D t rest (addM D n u q)) (m + 1) n = firstN (fun n => findM D t rest (addM D n u q)) m (n + 1) := by simp only [firstN, e]
          rw [e1]
          refine Ev.neg (fun h => hff.1 h e) ?_
          rw [show wrap64 (n + 1) = n + 1 from wrap_id (by omega) (by omega)]
          exact im (n + 1) (by omega) (by omega)
    refine Ev.succ ?_
    simp only [spec_joTimes.f]
    refine Ev.neg (by simp; omega) (Ev.pos (by omega) ?_)
    unfold findM
    exact loop D.toNat 0 (by omega) (by omega)
theorem TimesFor_s (W D : Int) (ks : List (List Int)) (s t : ByteArray) (hl : ks.length ≤ 1048576) (hk : ∀ k ∈ ks, k.length ≤ 1048576) (hs : s.size ≤ 1048576) (ht : t.size ≤ 1048576) : Ev (fun k => spec_TimesFor.f k W D ks s t) (TimesForM W D ks s t) := by
  unfold spec_TimesFor.f TimesForM
  refine Ev.bind (joTwo_ev W D ks s t hl hk hs ht) ?_
  by_cases h : (gearsM W D ks && (isC W D s && isC W D t)) = true
  · obtain ⟨hg, hc⟩ := Bool.and_eq_true_iff.1 h
    obtain ⟨hc1, hc2⟩ := Bool.and_eq_true_iff.1 hc
    obtain ⟨e1, o1⟩ := gkC hg hc1
    obtain ⟨e2, o2⟩ := gkC hg hc2
    have h1 := times_s hg o2 ks [] (dgs s) [] rfl rfl o1 (fun e => by have := (gearsM_iff.1 hg).2.2.1; rw [e] at this; simp at this)
    rw [← e1, ← e2] at h1
    rw [if_pos h, h]
    refine Ev.neg (by simp) (Ev.bind h1 ?_)
    cases findM D (dgs t) ks (dgs s) with
    | some x => exact Ev.neg (by simp) (Ev.val (by simp))
    | none => exact Ev.pos rfl (Ev.val rfl)
  · rw [if_neg h, Bool.eq_false_iff.2 h]
    exact Ev.pos rfl (Ev.now _)
theorem TimesForM_len (W D : Int) (ks : List (List Int)) (s t : ByteArray) : (TimesForM W D ks s t).1.length ≤ 5 := by
  unfold TimesForM
  split
  · rename_i h
    obtain ⟨hg, hc⟩ := Bool.and_eq_true_iff.1 h
    obtain ⟨⟨g1, g2, g3, g4⟩, g5, g6, _⟩ := gearsM_iff.1 hg
    cases e : findM D (dgs t) ks (dgs s) with
    | some x =>
      have := (findM_sound (by omega) ks _ x e).1
      simp only
      omega
    | none => simp
  · simp
theorem cellsS_mem : ∀ {l : List (List Int)} {s : List Int}, s ∈ l → s.length ≤ cellsS l
  | [], s, h => by cases h
  | x :: l, s, h => by
    rw [cellsS]
    rcases List.mem_cons.1 h with rfl | h
    · omega
    · have := cellsS_mem h; omega
theorem szIntSS_c : ∀ (t p : List (List Int)) (c : Int), (∀ s ∈ t, s.length ≤ 9223372036854775807) → (p ++ t).length ≤ 9223372036854775806 → 0 ≤ c → c ≤ 1048576 →
    ∃ r, Ev (fun k => laws_szIntSS.l0 k (p ++ t) c (p.length : Int)) r ∧ (r < 0 ∨ (cellsS t : Int) ≤ c)
  | [], p, c, hs, hl, h0, h1 => by
    refine ⟨c, Ev.succ ?_, .inr (by simp [cellsS]; omega)⟩
    simp only [laws_szIntSS.l0]
    exact Ev.neg (len_end p) (Ev.now _)
  | x :: t, p, c, hs, hl, h0, h1 => by
    rw [List.length_append, List.length_cons] at hl
    have hx := hs x (by simp)
    have hf := szIntS_f x hx h0 h1
    by_cases h : c - (x.length : Int) < 0
    · rw [if_pos h] at hf
      refine ⟨-1, Ev.succ ?_, .inl (by omega)⟩
      simp only [laws_szIntSS.l0]
      refine Ev.pos (len_mid p t x) (Ev.pos (by omega) ?_)
      rw [rdL_mid1]
      exact Ev.bind0 hf (Ev.pos (by omega) (Ev.now _))
    · rw [if_neg h] at hf
      obtain ⟨r, hr, hp⟩ := szIntSS_c t (p ++ [x]) (c - (x.length : Int)) (fun s h' => hs s (by simp [h'])) (by simp; omega) (by omega) (by omega)
      refine ⟨r, Ev.succ ?_, hp.imp id (fun h' => by rw [cellsS]; omega)⟩
      simp only [laws_szIntSS.l0]
      refine Ev.pos (len_mid p t x) (Ev.pos (by omega) ?_)
      rw [rdL_mid1]
      refine Ev.bind0 hf (Ev.neg h ?_)
      rw [len_next p x (by omega), app_next p t x]
      exact hr
theorem szGears_c (W D : Int) (l : List (List Int)) (hl : l.length ≤ 9223372036854775807) (hs : ∀ s ∈ l, s.length ≤ 9223372036854775807) :
    ∃ r, Ev (fun k => laws_szGears.f k W D l 1048576) r ∧ (r < 0 ∨ (l.length ≤ 1048576 ∧ cellsS l ≤ 1048576)) := by
  have key : ∃ r, Ev (fun k => laws_szIntSS.f k l 1048576) r ∧ (r < 0 ∨ (l.length ≤ 1048576 ∧ cellsS l ≤ 1048576)) := by
    by_cases h : (1048576 : Int) - (l.length : Int) < 0
    · refine ⟨-1, ?_, .inl (by omega)⟩
      unfold laws_szIntSS.f
      rw [wrap_id (x := (1048576 : Int) - (l.length : Int)) (by omega) (by omega)]
      exact Ev.pos h (Ev.now _)
    · obtain ⟨r, hr, hp⟩ := szIntSS_c l [] ((1048576 : Int) - (l.length : Int)) hs (by simp; omega) (by omega) (by omega)
      refine ⟨r, ?_, hp.imp id (fun h' => ⟨by omega, by omega⟩)⟩
      unfold laws_szIntSS.f
      rw [wrap_id (x := (1048576 : Int) - (l.length : Int)) (by omega) (by omega)]
      exact Ev.neg h hr
  obtain ⟨r, hr, hp⟩ := key
  by_cases h : r < 0
  · exact ⟨-1, by unfold laws_szGears.f; exact Ev.bind hr (Ev.pos h (Ev.now _)), .inl (by omega)⟩
  · exact ⟨r, by unfold laws_szGears.f; exact Ev.bind hr (Ev.neg h (Ev.now _)), hp⟩
theorem markGears1_ev (W D : Int) (l : List (List Int)) (hc : cellsS l ≤ 100000000) (hl : l.length ≤ 100000000) :
    Ev (fun k => laws_markGears.f k W D l 1) (1 + (cellsS l : Int), markedS 1 l) :=
  markIntSS_l0 l [] 1 (by omega) (by omega) (by simp; omega)
end Go.Proofs.Ytffjfnoocbgajaa.L
