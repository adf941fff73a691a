/- What the printed functions that FnExactKnobsAfter reaches come to: lemmas for its plain law. -/
import Derived.Test.YtffjfnoocbgajaaMath
import Derived.Test.YtffjfnoocbgajaaQ0
import Derived.Test.YtffjfnoocbgajaaQ1
import Derived.Test.YtffjfnoocbgajaaQ2
import Derived.Test.YtffjfnoocbgajaaQ3
import Derived.Test.YtffjfnoocbgajaaQ4
import Derived.Test.YtffjfnoocbgajaaQ5
import Derived.Test.YtffjfnoocbgajaaQ6
import Derived.Test.YtffjfnoocbgajaaQ7
import Derived.Test.YtffjfnoocbgajaaQ8
import Derived.Test.YtffjfnoocbgajaaQ9
import Derived.Test.YtffjfnoocbgajaaQ10
import Derived.Test.YtffjfnoocbgajaaQ11
import Derived.Test.YtffjfnoocbgajaaQ12
import Derived.Test.YtffjfnoocbgajaaQ14
import Derived.Test.YtffjfnoocbgajaaQ15
import Derived.Test.YtffjfnoocbgajaaQ16
import Derived.Test.YtffjfnoocbgajaaQ17
import Derived.Test.YtffjfnoocbgajaaQ18
import Derived.Test.YtffjfnoocbgajaaQ19
import Derived.Test.YtffjfnoocbgajaaQ20
import Derived.Test.YtffjfnoocbgajaaQ21
import Derived.Test.YtffjfnoocbgajaaQ22
import Derived.Test.YtffjfnoocbgajaaQ23
import Derived.Test.YtffjfnoocbgajaaQ24
import Derived.Test.YtffjfnoocbgajaaQ25
import Derived.Test.YtffjfnoocbgajaaQ26
import Derived.Test.YtffjfnoocbgajaaQ29
import Derived.Test.YtffjfnoocbgajaaQ30
import Derived.Test.YtffjfnoocbgajaaQ31
namespace Go.Proofs.Ytffjfnoocbgajaa.L
open Go.RowKit Go.Proofs.YtffjfnoocbgajaaW.PrintWords Go.Proofs.YtffjfnoocbgajaaW.PrintMore Go.Proofs.Ytffjfnoocbgajaa.M Go.Proofs.Ytffjfnoocbgajaa.Q
set_option linter.unusedVariables false
set_option linter.unusedSimpArgs false
theorem whGood_f (W D : Int) : spec_whGood.f W D = some (good W D) := by
  unfold spec_whGood.f spec_l1In.f good
  by_cases h1 : 1 ≤ W <;> by_cases h2 : W ≤ 6 <;> by_cases h3 : 2 ≤ D <;> by_cases h4 : D ≤ 10 <;> simp [h1, h2, h3, h4]
theorem IsLock_i (W D : Int) : impl_IsLock.f W D = some (good W D) := by
  unfold impl_IsLock.f impl_within.f good
  by_cases h1 : 1 ≤ W <;> by_cases h2 : W ≤ 6 <;> by_cases h3 : 2 ≤ D <;> by_cases h4 : D ≤ 10 <;> simp [h1, h2, h3, h4]
theorem l1In_f (n lo hi : Int) : spec_l1In.f n lo hi = some (decide (lo ≤ n ∧ n ≤ hi)) := by
  unfold spec_l1In.f
  by_cases h1 : lo ≤ n <;> by_cases h2 : n ≤ hi <;> simp [h1, h2]
theorem within_f (n lo hi : Int) : impl_within.f n lo hi = some (decide (lo ≤ n ∧ n ≤ hi)) := by
  unfold impl_within.f
  by_cases h1 : lo ≤ n <;> by_cases h2 : n ≤ hi <;> simp [h1, h2]

theorem whCount_l0 {W D : Int} (h0 : 2 ≤ D) (h1 : D ≤ 10) : ∀ (m n : Nat), n + m ≤ 6 → Ev (fun k => spec_whCount.l0 k (pw D n) (m : Int) W D) (pw D (n + m))
  | 0, n, h => by
    refine Ev.succ ?_
    simp only [spec_whCount.l0]
    exact Ev.neg (by omega) (Ev.now _)
  | m + 1, n, h => by
    have b := pw_le6 (D := D) (by omega) h1 (n := n + 1) (by omega)
    have p := pw_pos (D := D) (by omega) (n + 1)
    refine Ev.succ ?_
    simp only [spec_whCount.l0]
    refine Ev.pos (by omega) ?_
    rw [show wrap64 (pw D n * D) = pw D (n + 1) from wrap_id (by rw [pw] at *; omega) (by rw [pw] at *; omega), show wrap64 (((m + 1 : Nat) : Int) - 1) = (m : Int) by rw [wrap_id] <;> omega,
      show n + (m + 1) = (n + 1) + m by omega]
    exact whCount_l0 h0 h1 m (n + 1) (by omega)
theorem whCount_ev {W D : Int} (h : good W D = true) : Ev (fun k => spec_whCount.f k W D) (pw D W.toNat) := by
  obtain ⟨a, b, c, d⟩ := good_iff.1 h
  obtain ⟨w, rfl⟩ := Int.eq_ofNat_of_zero_le (show 0 ≤ W by omega)
  unfold spec_whCount.f
  have := whCount_l0 (W := w) c d w 0 (by omega)
  rw [Nat.zero_add] at this
  exact this
theorem power_l0 {D : Int} (h0 : 2 ≤ D) (h1 : D ≤ 10) : ∀ (m n : Nat), n + m ≤ 6 → Ev (fun k => impl_power.l0 k D (pw D n) ((n + m : Nat) : Int) (n : Int)) (pw D (n + m))
  | 0, n, h => by
    refine Ev.succ ?_
    simp only [impl_power.l0]
    exact Ev.neg (by omega) (Ev.now _)
  | m + 1, n, h => by
    have b := pw_le6 (D := D) (by omega) h1 (n := n + 1) (by omega)
    have p := pw_pos (D := D) (by omega) (n + 1)
    refine Ev.succ ?_
    simp only [impl_power.l0]
    refine Ev.pos (by omega) ?_
    rw [show wrap64 (pw D n * D) = pw D (n + 1) from wrap_id (by rw [pw] at *; omega) (by rw [pw] at *; omega), show wrap64 ((n : Int) + 1) = ((n + 1 : Nat) : Int) by rw [wrap_id] <;> omega,
      show n + (m + 1) = (n + 1) + m by omega]
    exact power_l0 h0 h1 m (n + 1) (by omega)
theorem count_ev {W D : Int} (h : good W D = true) : Ev (fun k => impl_Lock_count.f k W D) (pw D W.toNat) := by
  obtain ⟨a, b, c, d⟩ := good_iff.1 h
  obtain ⟨w, rfl⟩ := Int.eq_ofNat_of_zero_le (show 0 ≤ W by omega)
  unfold impl_Lock_count.f impl_power.f
  have := power_l0 c d w 0 (by omega)
  rw [Nat.zero_add] at this
  exact Ev.bind this (Ev.now _)

theorem whCode_l0 {W D : Int} (hD : 2 ≤ D ∧ D ≤ 10) {s : ByteArray} (hs : s.size ≤ 1048576) : ∀ (t p : List Int), bys s = p ++ t → Ev (fun k => spec_whCode.l0 k s (p.length : Int) W D) (t.all fun b => decide (48 ≤ b ∧ b < 48 + D))
  | [], p, e => by
    have el : p.length = s.size := by rw [← bys_length, e]; simp
    refine Ev.succ ?_
    simp only [spec_whCode.l0]
    exact Ev.neg (by omega) (Ev.now _)
  | x :: t, p, e => by
    have el : p.length + (t.length + 1) = s.size := by rw [← bys_length, e]; simp
    have hx := bys_range s x (by rw [e]; simp)
    refine Ev.succ ?_
    simp only [spec_whCode.l0]
    refine Ev.pos (by omega) (Ev.pos (by omega) ?_)
    rw [bt_bys, e, rd_mid, wrap_id (x := x) (by omega) (by omega), wrap_id (x := x - 48) (by omega) (by omega), wrap_id (x := D - 1) (by omega) (by omega), l1In_f]
    refine Ev.bind0 rfl ?_
    by_cases hb : 48 ≤ x ∧ x < 48 + D
    · refine Ev.pos (by simp; omega) ?_
      rw [show wrap64 ((p.length : Int) + 1) = ((p ++ [x]).length : Int) from len_next p x (by omega)]
      simp only [List.all_cons, hb, and_self, decide_true, Bool.true_and]
      exact whCode_l0 hD hs t (p ++ [x]) (by rw [e]; simp)
    · refine Ev.neg (by simp; omega) ?_
      rw [List.all_cons, decide_eq_false hb, Bool.false_and]
      exact Ev.now _
theorem whCode_ev {W D : Int} (h : good W D = true) (s : ByteArray) (hs : s.size ≤ 1048576) : Ev (fun k => spec_whCode.f k W D s) (isC W D s) := by
  obtain ⟨a, b, c, d⟩ := good_iff.1 h
  unfold spec_whCode.f isC
  by_cases e : (s.size : Int) = W
  · refine Ev.pos e ?_
    rw [decide_eq_true e, Bool.true_and]
    exact whCode_l0 ⟨c, d⟩ hs (bys s) [] rfl
  · refine Ev.neg e ?_
    rw [decide_eq_false e, Bool.false_and]
    exact Ev.now _
theorem isText_l0 {W D : Int} (hD : 2 ≤ D ∧ D ≤ 10) {s : ByteArray} (hs : s.size ≤ 1048576) : ∀ (t p : List Int), bys s = p ++ t → Ev (fun k => impl_Lock_isText.l0 k s (s.size : Int) (p.length : Int) W D) (t.all fun b => decide (48 ≤ b ∧ b < 48 + D))
  | [], p, e => by
    have el : p.length = s.size := by rw [← bys_length, e]; simp
    refine Ev.succ ?_
    simp only [impl_Lock_isText.l0]
    exact Ev.neg (by omega) (Ev.now _)
  | x :: t, p, e => by
    have el : p.length + (t.length + 1) = s.size := by rw [← bys_length, e]; simp
    have hx := bys_range s x (by rw [e]; simp)
    refine Ev.succ ?_
    simp only [impl_Lock_isText.l0]
    refine Ev.pos (by omega) (Ev.pos (by omega) (Ev.pos (by omega) ?_))
    rw [bt_bys, e, rd_mid, wrap_id (x := x) (by omega) (by omega), wrap_id (x := 48 + D) (by omega) (by omega), wrap_id (x := 48 + D - 1) (by omega) (by omega), within_f]
    refine Ev.bind0 rfl ?_
    by_cases hb : 48 ≤ x ∧ x < 48 + D
    · refine Ev.pos (by simp; omega) ?_
      rw [show wrap64 ((p.length : Int) + 1) = ((p ++ [x]).length : Int) from len_next p x (by omega)]
      simp only [List.all_cons, hb, and_self, decide_true, Bool.true_and]
      exact isText_l0 hD hs t (p ++ [x]) (by rw [e]; simp)
    · refine Ev.neg (by simp; omega) ?_
      rw [List.all_cons, decide_eq_false hb, Bool.false_and]
      exact Ev.now _
theorem isCode_ev {W D : Int} (h : good W D = true) (s : ByteArray) (hs : s.size ≤ 1048576) : Ev (fun k => impl_Lock_isCode.f k W D s) (isC W D s) := by
  obtain ⟨a, b, c, d⟩ := good_iff.1 h
  unfold impl_Lock_isCode.f isC
  by_cases e : (s.size : Int) = W
  · refine Ev.pos e ?_
    rw [decide_eq_true e, Bool.true_and]
    refine Ev.bind (isText_l0 (W := W) ⟨c, d⟩ hs (bys s) [] rfl) (Ev.now _)
  · refine Ev.neg e ?_
    rw [decide_eq_false e, Bool.false_and]
    exact Ev.now _

theorem dgs_app {s : ByteArray} {p t : List Int} (e : bys s = p ++ t) : dgs s = (p.map fun b => (b - 48) % 256) ++ (t.map fun b => (b - 48) % 256) := by
  unfold dgs; rw [e, List.map_append]
theorem whDigits_l0 {s : ByteArray} (hs : s.size ≤ 1048576) : ∀ (t p : List Int), bys s = p ++ t → Ev (fun k => spec_whDigits.l0 k s (p.map fun b => (b - 48) % 256) (p.length : Int)) (dgs s)
  | [], p, e => by
    have el : p.length = s.size := by rw [← bys_length, e]; simp
    refine Ev.succ ?_
    simp only [spec_whDigits.l0]
    refine Ev.neg (by omega) (Ev.val ?_)
    rw [dgs_app e]; simp
  | x :: t, p, e => by
    have el : p.length + (t.length + 1) = s.size := by rw [← bys_length, e]; simp
    refine Ev.succ ?_
    simp only [spec_whDigits.l0]
    refine Ev.pos (by omega) (Ev.pos (by omega) (Ev.pos (by rw [List.length_map]; omega) ?_))
    rw [bt_bys, e, rd_mid, show wrap64 ((p.length : Int) + 1) = ((p ++ [x]).length : Int) from len_next p x (by omega)]
    have := whDigits_l0 hs t (p ++ [x]) (by rw [e]; simp)
    rw [List.map_append] at this
    exact this
theorem whDigits_ev (s : ByteArray) (hs : s.size ≤ 1048576) : Ev (fun k => spec_whDigits.f k s) (dgs s) := by
  unfold spec_whDigits.f
  exact whDigits_l0 hs (bys s) [] rfl
theorem digits_l0 {s : ByteArray} (hs : s.size ≤ 1048576) : ∀ (t p : List Int), bys s = p ++ t → Ev (fun k => impl_digits.l0 k s (p.map fun b => (b - 48) % 256) (s.size : Int) (p.length : Int)) (dgs s)
  | [], p, e => by
    have el : p.length = s.size := by rw [← bys_length, e]; simp
    refine Ev.succ ?_
    simp only [impl_digits.l0]
    refine Ev.neg (by omega) (Ev.val ?_)
    rw [dgs_app e]; simp
  | x :: t, p, e => by
    have el : p.length + (t.length + 1) = s.size := by rw [← bys_length, e]; simp
    refine Ev.succ ?_
    simp only [impl_digits.l0]
    refine Ev.pos (by omega) (Ev.pos (by omega) (Ev.pos (by omega) (Ev.pos (by rw [List.length_map]; omega) ?_)))
    rw [bt_bys, e, rd_mid, show wrap64 ((p.length : Int) + 1) = ((p ++ [x]).length : Int) from len_next p x (by omega)]
    have := digits_l0 hs t (p ++ [x]) (by rw [e]; simp)
    rw [List.map_append] at this
    exact this
theorem digits_ev (s : ByteArray) (hs : s.size ≤ 1048576) : Ev (fun k => impl_digits.f k s) (dgs s) := by
  unfold impl_digits.f
  exact digits_l0 hs (bys s) [] rfl
theorem whDigits_txt {ds : List Int} (h : Ok 10 ds) (hl : ds.length ≤ 1048576) : Ev (fun k => spec_whDigits.f k (txt ds)) ds := by
  have := whDigits_ev (txt ds) (by rw [txt_size]; exact hl)
  rwa [dgs_txt h] at this
theorem digits_txt {ds : List Int} (h : Ok 10 ds) (hl : ds.length ≤ 1048576) : Ev (fun k => impl_digits.f k (txt ds)) ds := by
  have := digits_ev (txt ds) (by rw [txt_size]; exact hl)
  rwa [dgs_txt h] at this

theorem l1Num_ev {d : Int} (h0 : 0 ≤ d) (h1 : d < 10) : Ev (fun k => spec_l1Num.f k d) (txt [d]) := by
  refine Ev.succ ?_
  simp only [spec_l1Num.f]
  refine Ev.pos h1 (Ev.val ?_)
  rw [wrap_id (by omega) (by omega), show (48 + d) % 256 = 48 + d by omega]; rfl
theorem whText_l0 : ∀ (t p : List Int), Ok 10 (p ++ t) → (p ++ t).length ≤ 1048576 → Ev (fun k => spec_whText.l0 k (txt p) (p ++ t) ((p ++ t).length : Int) (p.length : Int)) (txt (p ++ t))
  | [], p, h, hl => by
    refine Ev.succ ?_
    simp only [spec_whText.l0]
    refine Ev.neg (len_end p) (Ev.val (by simp))
  | x :: t, p, h, hl => by
    have hx := (Ok.cons.1 (Ok.append.1 h).2).1
    rw [List.length_append, List.length_cons] at hl
    refine Ev.succ ?_
    simp only [spec_whText.l0]
    refine Ev.pos (len_mid p t x) (Ev.pos (by omega) (Ev.pos (len_mid p t x) ?_))
    rw [rd_mid]
    refine Ev.bind (l1Num_ev hx.1 hx.2) (Ev.pos (by rw [txt_size, txt_size]; simp; omega) ?_)
    rw [len_next p x (by omega), txt_append, app_next p t x]
    refine whText_l0 t (p ++ [x]) (by rw [← app_next p t x]; exact h) (by simp; omega)
theorem whText_ev {ds : List Int} (h : Ok 10 ds) (hl : ds.length ≤ 1048576) : Ev (fun k => spec_whText.f k ds) (txt ds) := by
  unfold spec_whText.f
  exact whText_l0 ds [] h hl
theorem text_l0 : ∀ (t p : List Int), Ok 10 (p ++ t) → (p ++ t).length ≤ 1048576 → Ev (fun k => impl_text.l0 k (p.map (48 + ·)) (p ++ t) ((p ++ t).length : Int) (p.length : Int)) (txt (p ++ t))
  | [], p, h, hl => by
    refine Ev.succ ?_
    simp only [impl_text.l0]
    refine Ev.neg (len_end p) (Ev.val (by unfold txt; simp))
  | x :: t, p, h, hl => by
    have hx := (Ok.cons.1 (Ok.append.1 h).2).1
    rw [List.length_append, List.length_cons] at hl
    refine Ev.succ ?_
    simp only [impl_text.l0]
    refine Ev.pos (len_mid p t x) (Ev.pos (by omega) (Ev.pos (len_mid p t x) (Ev.pos (by rw [List.length_map]; omega) ?_)))
    rw [rd_mid, wrap_id (x := 48 + x) (by omega) (by omega), show (48 + x) % 256 = 48 + x by omega, len_next p x (by omega), app_next p t x]
    have := text_l0 t (p ++ [x]) (by rw [← app_next p t x]; exact h) (by simp; omega)
    rw [List.map_append] at this
    exact this
theorem text_ev {ds : List Int} (h : Ok 10 ds) (hl : ds.length ≤ 1048576) : Ev (fun k => impl_text.f k ds) (txt ds) := by
  unfold impl_text.f
  exact text_l0 ds [] h hl

theorem l1Mod_f (k : Int) {n : Int} (h0 : 0 < n) (h1 : n ≤ 1000) : spec_l1Mod.f k n = some (k % n) := by
  unfold spec_l1Mod.f; rw [if_neg (by omega), tmod_around h0 h1]
theorem around_f (k : Int) {n : Int} (h0 : 0 < n) (h1 : n ≤ 1000) : impl_around.f k n = some (k % n) := by
  unfold impl_around.f; rw [if_neg (by omega), tmod_around h0 h1]
theorem has_l0 {W D : Int} (h : good W D = true) : ∀ (t p : List ByteArray), (∀ s ∈ t, s.size ≤ 1048576) → (p ++ t).length ≤ 1048576 → Ev (fun k => impl_has.l0 k (p ++ t) ((p ++ t).length : Int) (p.length : Int) W D) (t.all (isC W D))
  | [], p, hs, hl => by
    refine Ev.succ ?_
    simp only [impl_has.l0]
    refine Ev.neg (len_end p) (Ev.val (by simp))
  | x :: t, p, hs, hl => by
    rw [List.length_append, List.length_cons] at hl
    refine Ev.succ ?_
    simp only [impl_has.l0]
    refine Ev.pos (len_mid p t x) (Ev.pos (by omega) (Ev.pos (len_mid p t x) ?_))
    rw [rdOf_mid, len_next p x (by omega), app_next p t x]
    refine Ev.bind (isCode_ev h x (hs x (by simp))) ?_
    by_cases hx : isC W D x = true
    · refine Ev.pos hx ?_
      rw [List.all_cons, hx, Bool.true_and]
      exact has_l0 h t (p ++ [x]) (fun s hs' => hs s (by simp [hs'])) (by simp; omega)
    · refine Ev.neg hx (Ev.val ?_)
      simp [hx]
theorem has_ev (W D : Int) (l : List ByteArray) (hs : ∀ s ∈ l, s.size ≤ 1048576) (hl : l.length ≤ 1048576) : Ev (fun k => impl_has.f k W D l) (good W D && l.all (isC W D)) := by
  unfold impl_has.f
  refine Ev.bind0 (IsLock_i W D) ?_
  by_cases h : good W D = true
  · refine Ev.pos h ?_
    rw [h, Bool.true_and]
    exact has_l0 h l [] hs hl
  · refine Ev.neg h (Ev.val (by simp [h]))

def addM (D c : Int) : List Int → List Int → List Int
  | a :: aa, b :: bb => (a + c * b) % D :: addM D c aa bb
  | aa, _ => aa
theorem addM_length (D c : Int) : ∀ a b : List Int, (addM D c a b).length = a.length
  | [], b => by simp [addM]
  | a :: aa, [] => by simp [addM]
  | a :: aa, b :: bb => by simp [addM, addM_length D c aa bb]
theorem addM_ok {D : Int} (h : 0 < D) (c : Int) : ∀ a b : List Int, Ok D a → Ok D (addM D c a b)
  | [], b, ha => by simpa [addM] using ha
  | a :: aa, [], ha => by simpa [addM] using ha
  | a :: aa, b :: bb, ha => by
    rw [addM, Ok.cons]
    exact ⟨⟨Int.emod_nonneg _ (by omega), Int.emod_lt_of_pos _ h⟩, addM_ok h c aa bb (Ok.cons.1 ha).2⟩
theorem whAdd_l0 {W D c : Int} (hD : 2 ≤ D ∧ D ≤ 10) (hc : -1000000 ≤ c ∧ c ≤ 1000000) : ∀ (t u p q : List Int), Ok D (p ++ t) → Ok 1000 u → p.length = q.length → t.length = u.length → (p ++ t).length ≤ 1000 →
    Ev (fun k => spec_whAdd.l0 k c (p ++ t) (q ++ u) ((p ++ t).length : Int) (p.length : Int) W D) (txt (p ++ addM D c t u))
  | [], u, p, q, ht, hu, hpq, htu, hl => by
    refine Ev.succ ?_
    simp only [spec_whAdd.l0]
    refine Ev.neg (len_end p) ?_
    refine Ev.bind (whText_ev (ht.le hD.2) (by omega)) (Ev.val (by simp [addM]))
  | a :: t, [], p, q, ht, hu, hpq, htu, hl => by simp at htu
  | a :: t, b :: u, p, q, ht, hu, hpq, htu, hl => by
    have ha := (Ok.cons.1 (Ok.append.1 ht).2).1
    have hb := (Ok.cons.1 hu).1
    have hcb : -1000000000 ≤ c * b ∧ c * b ≤ 1000000000 := by
      have h1 : c * b ≤ 1000000 * b := Int.mul_le_mul_of_nonneg_right hc.2 hb.1
      have h2 : -1000000 * b ≤ c * b := Int.mul_le_mul_of_nonneg_right hc.1 hb.1
      omega
    rw [List.length_append, List.length_cons] at hl
    refine Ev.succ ?_
    simp only [spec_whAdd.l0]
    refine Ev.pos (len_mid p t a) (Ev.pos (by omega) (Ev.pos (len_mid p t a) (Ev.pos (by rw [hpq]; exact len_mid q u b) ?_)))
    rw [rd_mid, show rd (q ++ b :: u) (p.length : Int) = b by rw [hpq]; exact rd_mid q u b, wrap_id (x := c * b) (by omega) (by omega), wrap_id (x := a + c * b) (by omega) (by omega), len_next p ((a + c * b) % D) (by omega)]
    refine Ev.bind0 (l1Mod_f _ (by omega) (by omega)) ?_
    rw [set_mid, app_next p t ((a + c * b) % D), app_next q u b, show ((p ++ a :: t).length : Int) = ((p ++ [(a + c * b) % D] ++ t).length : Int) by simp]
    rw [show p ++ addM D c (a :: t) (b :: u) = (p ++ [(a + c * b) % D]) ++ addM D c t u by simp [addM]]
    have ok2 : Ok D (p ++ [(a + c * b) % D] ++ t) := by
      rw [Ok.append, Ok.append]
      refine ⟨⟨(Ok.append.1 ht).1, ?_⟩, (Ok.cons.1 (Ok.append.1 ht).2).2⟩
      rw [Ok.cons]
      exact ⟨⟨Int.emod_nonneg _ (by omega), Int.emod_lt_of_pos _ (by omega)⟩, Ok.nil D⟩
    exact whAdd_l0 hD hc t u (p ++ [(a + c * b) % D]) (q ++ [b]) ok2 (Ok.cons.1 hu).2 (by simp [hpq]) (by simpa using htu) (by simp; omega)
theorem whAdd_ev {W D c : Int} (hD : 2 ≤ D ∧ D ≤ 10) (hc : -1000000 ≤ c ∧ c ≤ 1000000) {a b : List Int} (ha : Ok D a) (hb : Ok D b) (hl : a.length ≤ 6) (e : a.length = b.length) : Ev (fun k => spec_whAdd.f k W D (txt a) (txt b) c) (txt (addM D c a b)) := by
  unfold spec_whAdd.f
  refine Ev.bind (whDigits_txt (ha.le hD.2) (by omega)) (Ev.bind (whDigits_txt (hb.le hD.2) (by omega)) ?_)
  exact whAdd_l0 (W := W) hD hc a b [] [] ha (hb.le (by omega)) rfl e (by simp; omega)
theorem rdL_mid1 (p t : List (List Int)) (x : List Int) : rd_L1 (p ++ x :: t) (p.length : Int) = x := by
  unfold rd_L1; rw [Int.toNat_natCast, List.getD_eq_getElem?_getD, List.getElem?_append_right (Nat.le_refl _), Nat.sub_self]; rfl
def okK (W D : Int) (knob : List Int) : Bool := decide ((knob.length : Int) = W) && knob.all fun n => decide (0 ≤ n ∧ n ≤ D - 1)
theorem okK_iff {W D : Int} {knob : List Int} : okK W D knob = true ↔ (knob.length : Int) = W ∧ Ok D knob := by
  unfold okK Ok
  simp only [Bool.and_eq_true, decide_eq_true_eq, List.all_eq_true]
  constructor
  · rintro ⟨h1, h2⟩; exact ⟨h1, fun d hd => by have := h2 d hd; omega⟩
  · rintro ⟨h1, h2⟩; exact ⟨h1, fun d hd => by have := h2 d hd; omega⟩
def gearsM (W D : Int) (ks : List (List Int)) : Bool := good W D && (decide (pw D W.toNat ≤ 1000) && (decide (1 ≤ (ks.length : Int) ∧ (ks.length : Int) ≤ 5) && ks.all (okK W D)))
theorem gearsM_iff {W D : Int} {ks : List (List Int)} : gearsM W D ks = true ↔ (1 ≤ W ∧ W ≤ 6 ∧ 2 ≤ D ∧ D ≤ 10) ∧ pw D W.toNat ≤ 1000 ∧ (1 ≤ ks.length ∧ ks.length ≤ 5) ∧ ∀ k ∈ ks, (k.length : Int) = W ∧ Ok D k := by
  unfold gearsM
  simp only [Bool.and_eq_true, good_iff, decide_eq_true_eq, List.all_eq_true, okK_iff]
  constructor
  · rintro ⟨h1, h2, h3, h4⟩; exact ⟨h1, h2, by omega, h4⟩
  · rintro ⟨h1, h2, h3, h4⟩; exact ⟨h1, h2, by omega, h4⟩
theorem l1All_l0 {lo hi : Int} : ∀ (t p : List Int), (p ++ t).length ≤ 1048576 → Ev (fun k => spec_l1All.l0 k lo hi (p ++ t) ((p ++ t).length : Int) (p.length : Int)) (t.all fun n => decide (lo ≤ n ∧ n ≤ hi))
  | [], p, hl => by
    refine Ev.succ ?_
    simp only [spec_l1All.l0]
    exact Ev.neg (len_end p) (Ev.now _)
  | x :: t, p, hl => by
    rw [List.length_append, List.length_cons] at hl
    refine Ev.succ ?_
    simp only [spec_l1All.l0]
    refine Ev.pos (len_mid p t x) (Ev.pos (by omega) (Ev.pos (len_mid p t x) ?_))
    rw [rd_mid, l1In_f, len_next p x (by omega), app_next p t x]
    refine Ev.bind0 rfl ?_
    by_cases h : lo ≤ x ∧ x ≤ hi
    · refine Ev.pos (by simpa using h) ?_
      rw [List.all_cons, decide_eq_true h, Bool.true_and]
      exact l1All_l0 t (p ++ [x]) (by simp; omega)
    · refine Ev.neg (by simpa using h) (Ev.val ?_)
      rw [List.all_cons, decide_eq_false h]; rfl
theorem l1All_ev (l : List Int) (lo hi : Int) (hl : l.length ≤ 1048576) : Ev (fun k => spec_l1All.f k l lo hi) (l.all fun n => decide (lo ≤ n ∧ n ≤ hi)) := by
  unfold spec_l1All.f
  exact l1All_l0 l [] hl
theorem joKnob_ev {W D : Int} (hD : 2 ≤ D ∧ D ≤ 10) (l : List Int) (hl : l.length ≤ 1048576) : Ev (fun k => spec_joKnob.f k W D l) (okK W D l) := by
  unfold spec_joKnob.f okK
  by_cases h : (l.length : Int) = W
  · refine Ev.pos h ?_
    rw [decide_eq_true h, Bool.true_and, wrap_id (x := D - 1) (by omega) (by omega)]
    exact Ev.bind (l1All_ev l 0 (D - 1) hl) (Ev.now _)
  · refine Ev.neg h (Ev.val ?_)
    rw [decide_eq_false h]; rfl
theorem joGood_l0 {W D : Int} (hD : 2 ≤ D ∧ D ≤ 10) {ks0 : List (List Int)} : ∀ (t p : List (List Int)), (∀ k ∈ t, k.length ≤ 1048576) → (p ++ t).length ≤ 1048576 → Ev (fun k => spec_joGood.l0 k (p ++ t) ((p ++ t).length : Int) (p.length : Int) W D ks0) (t.all (okK W D))
  | [], p, hk, hl => by
    refine Ev.succ ?_
    simp only [spec_joGood.l0]
    exact Ev.neg (len_end p) (Ev.now _)
  | x :: t, p, hk, hl => by
    rw [List.length_append, List.length_cons] at hl
    refine Ev.succ ?_
    simp only [spec_joGood.l0]
    refine Ev.pos (len_mid p t x) (Ev.pos (by omega) (Ev.pos (len_mid p t x) ?_))
    rw [rdL_mid1, len_next p x (by omega), app_next p t x]
    refine Ev.bind (joKnob_ev hD x (hk x (by simp))) ?_
    by_cases h : okK W D x = true
    · refine Ev.pos h ?_
      rw [List.all_cons, h, Bool.true_and]
      exact joGood_l0 hD t (p ++ [x]) (fun k h' => hk k (by simp [h'])) (by simp; omega)
    · refine Ev.neg h (Ev.val ?_)
      simp [h]
theorem joGood_ev (W D : Int) (ks : List (List Int)) (hl : ks.length ≤ 1048576) (hk : ∀ k ∈ ks, k.length ≤ 1048576) : Ev (fun k => spec_joGood.f k W D ks) (gearsM W D ks) := by
  unfold spec_joGood.f gearsM
  refine Ev.bind0 (whGood_f W D) ?_
  by_cases h : good W D = true
  · obtain ⟨a, b, c, d⟩ := good_iff.1 h
    rw [h, Bool.true_and]
    refine Ev.pos rfl (Ev.bind (whCount_ev h) ?_)
    by_cases h1 : pw D W.toNat > 1000
    · refine Ev.pos h1 (Ev.succ ?_)
      simp only [spec_joGood.j0]
      refine Ev.pos trivial (Ev.val ?_)
      rw [decide_eq_false (by omega)]; rfl
    · refine Ev.neg h1 (Ev.bind0 (l1In_f _ _ _) (Ev.succ ?_))
      rw [decide_eq_true (show pw D W.toNat ≤ 1000 by omega), Bool.true_and]
      simp only [spec_joGood.j0]
      by_cases h2 : 1 ≤ (ks.length : Int) ∧ (ks.length : Int) ≤ 5
      · rw [decide_eq_true h2, Bool.true_and]
        refine Ev.neg (by simp) ?_
        exact joGood_l0 ⟨c, d⟩ ks [] hk hl
      · rw [decide_eq_false h2]
        exact Ev.pos (by simp) (Ev.now _)
  · refine Ev.neg h (Ev.succ ?_)
    simp only [spec_joGood.j0]
    refine Ev.pos trivial (Ev.val ?_)
    simp [h]
theorem areG_l1 {W D : Int} (hD : 2 ≤ D ∧ D ≤ 10) {X19 : List (List Int)} {X20 X21 : Int} {ks0 : List (List Int)} {b : Bool} : ∀ (t p : List Int), (p ++ t).length ≤ 1048576 →
    Ev (fun k => impl_AreGears.l0 k X19 X20 (wrap64 (X21 + 1)) W D ks0) b →
    Ev (fun k => impl_AreGears.l1 k X19 X20 X21 (p ++ t) ((p ++ t).length : Int) (p.length : Int) W D ks0) ((t.all fun n => decide (0 ≤ n ∧ n ≤ D - 1)) && b)
  | [], p, hl, h => by
    refine Ev.succ ?_
    simp only [impl_AreGears.l1]
    refine Ev.neg (len_end p) ?_
    rw [List.all_nil, Bool.true_and]; exact h
  | x :: t, p, hl, h => by
    rw [List.length_append, List.length_cons] at hl
    refine Ev.succ ?_
    simp only [impl_AreGears.l1]
    refine Ev.pos (len_mid p t x) (Ev.pos (by omega) (Ev.pos (len_mid p t x) ?_))
    rw [rd_mid, within_f, wrap_id (x := D - 1) (by omega) (by omega), len_next p x (by omega), app_next p t x]
    refine Ev.bind0 rfl ?_
    by_cases hx : 0 ≤ x ∧ x ≤ D - 1
    · refine Ev.pos (by simpa using hx) ?_
      rw [List.all_cons, decide_eq_true hx, Bool.true_and]
      exact areG_l1 hD t (p ++ [x]) (by simp; omega) h
    · refine Ev.neg (by simpa using hx) (Ev.val ?_)
      rw [List.all_cons, decide_eq_false hx]; rfl
theorem areG_l0 {W D : Int} (hD : 2 ≤ D ∧ D ≤ 10) {ks0 : List (List Int)} : ∀ (t p : List (List Int)), (∀ k ∈ t, k.length ≤ 1048576) → (p ++ t).length ≤ 1048576 → Ev (fun k => impl_AreGears.l0 k (p ++ t) ((p ++ t).length : Int) (p.length : Int) W D ks0) (t.all (okK W D))
  | [], p, hk, hl => by
    refine Ev.succ ?_
    simp only [impl_AreGears.l0]
    exact Ev.neg (len_end p) (Ev.now _)
  | x :: t, p, hk, hl => by
    have hl0 := hl
    rw [List.length_append, List.length_cons] at hl
    refine Ev.succ ?_
    simp only [impl_AreGears.l0]
    refine Ev.pos (len_mid p t x) (Ev.pos (by omega) (Ev.pos (len_mid p t x) ?_))
    rw [rdL_mid1]
    have ih := areG_l0 (W := W) hD (ks0 := ks0) t (p ++ [x]) (fun k h' => hk k (by simp [h'])) (by simp; omega)
    by_cases h : (x.length : Int) = W
    · refine Ev.pos h ?_
      rw [List.all_cons]
      have : okK W D x = x.all fun n => decide (0 ≤ n ∧ n ≤ D - 1) := by unfold okK; rw [decide_eq_true h, Bool.true_and]
      rw [this]
      refine areG_l1 hD (X20 := ((p ++ x :: t).length : Int)) x [] (hk x (by simp)) ?_
      rw [len_next p x (by omega), app_next p t x]
      exact ih
    · refine Ev.neg h (Ev.val ?_)
      simp [okK, h]
theorem AreGears_i (W D : Int) (ks : List (List Int)) (hl : ks.length ≤ 1048576) (hk : ∀ k ∈ ks, k.length ≤ 1048576) : Ev (fun k => impl_AreGears.f k W D ks) (gearsM W D ks) := by
  unfold impl_AreGears.f gearsM
  have e : impl_isSmall.f = fun k a b m => (impl_IsLock.f a b).bind fun t => if t = true then ((impl_Lock_count.f k a b).bind fun t2 => some (decide (t2 ≤ m))) else some false := by
    funext k a b m; unfold impl_isSmall.f; rfl
  by_cases h : good W D = true
  · obtain ⟨a, b, c, d⟩ := good_iff.1 h
    rw [h, Bool.true_and]
    refine Ev.bind (a := decide (pw D W.toNat ≤ 1000)) ?_ ?_
    · rw [e]; exact Ev.bind0 (IsLock_i W D) (Ev.pos h (Ev.bind (count_ev h) (Ev.now _)))
    by_cases h1 : pw D W.toNat ≤ 1000
    · rw [decide_eq_true h1, Bool.true_and]
      refine Ev.pos rfl (Ev.bind0 (within_f _ _ _) (Ev.succ ?_))
      simp only [impl_AreGears.j0]
      by_cases h2 : 1 ≤ (ks.length : Int) ∧ (ks.length : Int) ≤ 5
      · rw [decide_eq_true h2, Bool.true_and]
        refine Ev.neg (by simp) ?_
        exact areG_l0 ⟨c, d⟩ ks [] hk hl
      · rw [decide_eq_false h2]
        exact Ev.pos (by simp) (Ev.now _)
    · rw [decide_eq_false h1]
      refine Ev.neg (by simp) (Ev.succ ?_)
      simp only [impl_AreGears.j0]
      exact Ev.pos trivial (Ev.now _)
  · refine Ev.bind (a := false) ?_ ?_
    · rw [e]; exact Ev.bind0 (IsLock_i W D) (Ev.neg h (Ev.now _))
    refine Ev.neg (by simp) (Ev.succ ?_)
    simp only [impl_AreGears.j0]
    refine Ev.pos trivial (Ev.val ?_)
    simp [h]
theorem knob_mem {W D : Int} {ks : List (List Int)} (h : gearsM W D ks = true) {i : Int} (h0 : 0 ≤ i) (h1 : i < ks.length) : ((rd_L1 ks i).length : Int) = W ∧ Ok D (rd_L1 ks i) := by
  have hm := (gearsM_iff.1 h).2.2.2
  unfold rd_L1
  rw [List.getD_eq_getElem?_getD, List.getElem?_eq_getElem (by omega)]
  exact hm _ (List.getElem_mem _)
theorem joCode_ev (W D : Int) (ks : List (List Int)) (s : ByteArray) (hl : ks.length ≤ 1048576) (hk : ∀ k ∈ ks, k.length ≤ 1048576) (hs : s.size ≤ 1048576) : Ev (fun k => spec_joCode.f k W D ks s) (gearsM W D ks && isC W D s) := by
  unfold spec_joCode.f
  refine Ev.bind (joGood_ev W D ks hl hk) ?_
  by_cases h : gearsM W D ks = true
  · have hg : good W D = true := (Bool.and_eq_true_iff.1 h).1
    rw [h, Bool.true_and]
    exact Ev.pos rfl (Ev.bind (whCode_ev hg s hs) (Ev.now _))
  · exact Ev.neg h (Ev.val (by simp [h]))
theorem geared_ev (W D : Int) (ks : List (List Int)) (l : List ByteArray) (hl : ks.length ≤ 1048576) (hk : ∀ k ∈ ks, k.length ≤ 1048576) (hs : ∀ s ∈ l, s.size ≤ 1048576) (hl2 : l.length ≤ 1048576) : Ev (fun k => impl_geared.f k W D ks l) (gearsM W D ks && l.all (isC W D)) := by
  unfold impl_geared.f
  refine Ev.bind (AreGears_i W D ks hl hk) ?_
  by_cases h : gearsM W D ks = true
  · have hg : good W D = true := (Bool.and_eq_true_iff.1 h).1
    rw [h, Bool.true_and]
    have := has_ev W D l hs hl2
    rw [hg, Bool.true_and] at this
    exact Ev.pos rfl (Ev.bind this (Ev.now _))
  · exact Ev.neg h (Ev.val (by simp [h]))
theorem isTimes_f (n : Int) : impl_isTimes.f n = some (decide (-1000 ≤ n ∧ n ≤ 1000)) := by
  unfold impl_isTimes.f; rw [within_f]; rfl
theorem gturned_l0 {W D c : Int} (hD : 2 ≤ D ∧ D ≤ 10) (hc : -1000000 ≤ c ∧ c ≤ 1000000) {ks0 : List (List Int)} : ∀ (t u p q : List Int), Ok D (p ++ t) → Ok D u → p.length = q.length → t.length = u.length → (p ++ t).length ≤ 1000 →
    Ev (fun k => impl_Gears_turned.l0 k c (p ++ t) (q ++ u) ((q ++ u).length : Int) (p.length : Int) W D ks0) (txt (p ++ addM D c t u))
  | [], u, p, q, ht, hu, hpq, htu, hl => by
    have : u = [] := List.length_eq_zero_iff.1 htu.symm
    subst this
    refine Ev.succ ?_
    simp only [impl_Gears_turned.l0]
    refine Ev.neg (by rw [hpq]; exact len_end q) ?_
    refine Ev.bind (text_ev (ht.le hD.2) (by omega)) (Ev.val (by simp [addM]))
  | a :: t, [], p, q, ht, hu, hpq, htu, hl => by simp at htu
  | a :: t, b :: u, p, q, ht, hu, hpq, htu, hl => by
    have ha := (Ok.cons.1 (Ok.append.1 ht).2).1
    have hb := (Ok.cons.1 hu).1
    have hcb : -1000000000 ≤ c * b ∧ c * b ≤ 1000000000 := by
      have h1 : c * b ≤ 1000000 * b := Int.mul_le_mul_of_nonneg_right hc.2 hb.1
      have h2 : -1000000 * b ≤ c * b := Int.mul_le_mul_of_nonneg_right hc.1 hb.1
      omega
    rw [List.length_append, List.length_cons] at hl
    refine Ev.succ ?_
    simp only [impl_Gears_turned.l0]
    refine Ev.pos (by rw [hpq]; exact len_mid q u b) (Ev.pos (by omega) (Ev.pos (by rw [hpq]; exact len_mid q u b) (Ev.pos (len_mid p t a) ?_)))
    rw [rd_mid, show rd (q ++ b :: u) (p.length : Int) = b by rw [hpq]; exact rd_mid q u b, Int.mul_comm b c, wrap_id (x := c * b) (by omega) (by omega), wrap_id (x := a + c * b) (by omega) (by omega), len_next p ((a + c * b) % D) (by omega)]
    refine Ev.bind0 (around_f _ (by omega) (by omega)) ?_
    rw [set_mid, app_next p t ((a + c * b) % D), app_next q u b]
    rw [show p ++ addM D c (a :: t) (b :: u) = (p ++ [(a + c * b) % D]) ++ addM D c t u by simp [addM]]
    have ok2 : Ok D (p ++ [(a + c * b) % D] ++ t) := by
      rw [Ok.append, Ok.append]
      refine ⟨⟨(Ok.append.1 ht).1, ?_⟩, (Ok.cons.1 (Ok.append.1 ht).2).2⟩
      rw [Ok.cons]
      exact ⟨⟨Int.emod_nonneg _ (by omega), Int.emod_lt_of_pos _ (by omega)⟩, Ok.nil D⟩
    exact gturned_l0 hD hc t u (p ++ [(a + c * b) % D]) (q ++ [b]) ok2 (Ok.cons.1 hu).2 (by simp [hpq]) (by simpa using htu) (by simp; omega)
/-- A knob turned, by the program. -/
theorem gturned_ev {W D c i : Int} {ks : List (List Int)} (hg : gearsM W D ks = true) (hc : -1000000 ≤ c ∧ c ≤ 1000000) (h0 : 0 ≤ i) (h1 : i < ks.length) {ds : List Int} (hd : Ok D ds) (hl : (ds.length : Int) = W) : Ev (fun k => impl_Gears_turned.f k W D ks (txt ds) i c) (txt (addM D c ds (rd_L1 ks i))) := by
  obtain ⟨⟨a, b, c', d⟩, _, _, _⟩ := gearsM_iff.1 hg
  obtain ⟨k1, k2⟩ := knob_mem hg h0 h1
  unfold impl_Gears_turned.f
  refine Ev.bind (digits_txt (hd.le d) (by omega)) (Ev.pos h0 (Ev.pos h1 ?_))
  exact gturned_l0 ⟨c', d⟩ hc ds (rd_L1 ks i) [] [] hd k2 rfl (by omega) (by simp; omega)
/-- A knob turned, by the reference. -/
theorem joTurn_ev {W D c i : Int} {ks : List (List Int)} (hg : gearsM W D ks = true) (hc : -1000000 ≤ c ∧ c ≤ 1000000) (h0 : 0 ≤ i) (h1 : i < ks.length) {ds : List Int} (hd : Ok D ds) (hl : (ds.length : Int) = W) : Ev (fun k => spec_joTurn.f k W D ks (txt ds) i c) (txt (addM D c ds (rd_L1 ks i))) := by
  obtain ⟨⟨a, b, c', d⟩, _, _, _⟩ := gearsM_iff.1 hg
  obtain ⟨k1, k2⟩ := knob_mem hg h0 h1
  unfold spec_joTurn.f
  refine Ev.pos h0 (Ev.pos h1 (Ev.bind (whText_ev (k2.le d) (by omega)) ?_))
  exact Ev.bind (whAdd_ev (W := W) ⟨c', d⟩ hc hd k2 (by omega) (by omega)) (Ev.now _)
theorem gcode_of {W D : Int} {ks : List (List Int)} {s : ByteArray} (hg : gearsM W D ks = true) (hc : isC W D s = true) : s = txt (dgs s) ∧ Ok D (dgs s) ∧ ((dgs s).length : Int) = W := code_of hc (gearsM_iff.1 hg).1.2.2.2
/-- The digits behind turns of the knobs from the i-th on. -/
def afterM (D : Int) (ks : List (List Int)) : Nat → List Int → List Int → List Int
  | _, [], ds => ds
  | i, n :: ns, ds => afterM D ks (i + 1) ns (addM D n ds (rd_L1 ks (i : Int)))
theorem joAfter_l0 {W D : Int} {ks : List (List Int)} (hg : gearsM W D ks = true) : ∀ (t p ds : List Int), Ok D ds → (ds.length : Int) = W → (∀ n ∈ t, -1000 ≤ n ∧ n ≤ 1000) → (p ++ t).length = ks.length →
    Ev (fun k => spec_joAfter.l0 k (txt ds) (p ++ t) ((p ++ t).length : Int) (p.length : Int) W D ks) (txt (afterM D ks p.length t ds))
  | [], p, ds, hd, hl, hn, e => by
    refine Ev.succ ?_
    simp only [spec_joAfter.l0]
    exact Ev.neg (len_end p) (Ev.now _)
  | x :: t, p, ds, hd, hl, hn, e => by
    obtain ⟨⟨a, b, c, d⟩, _, h5, _⟩ := gearsM_iff.1 hg
    rw [List.length_append, List.length_cons] at e
    have hx := hn x (by simp)
    refine Ev.succ ?_
    simp only [spec_joAfter.l0]
    refine Ev.pos (len_mid p t x) (Ev.pos (by omega) (Ev.pos (len_mid p t x) ?_))
    rw [rd_mid, len_next p x (by omega), app_next p t x]
    refine Ev.bind (joTurn_ev hg (by omega) (by omega) (by omega) hd hl) ?_
    have := joAfter_l0 hg t (p ++ [x]) (addM D x ds (rd_L1 ks (p.length : Int))) (addM_ok (by omega) x ds _ hd) (by rw [addM_length]; exact hl) (fun n h => hn n (by simp [h])) (by simp; omega)
    rw [show (p ++ [x]).length = p.length + 1 by simp] at this
    rw [afterM, show ((p ++ [x]).length : Int) = ((p.length + 1 : Nat) : Int) by simp]
    exact this
def KnobsAfterM (W D : Int) (ks : List (List Int)) (s : ByteArray) (l : List Int) : ByteArray × Bool :=
  if ((gearsM W D ks && isC W D s) && (decide (l.length = ks.length) && l.all fun n => decide (-1000 ≤ n ∧ n ≤ 1000))) = true then (txt (afterM D ks 0 l (dgs s)), true) else (⟨#[]⟩, false)
theorem KnobsAfter_s (W D : Int) (ks : List (List Int)) (s : ByteArray) (l : List Int) (hl : ks.length ≤ 1048576) (hk : ∀ k ∈ ks, k.length ≤ 1048576) (hs : s.size ≤ 1048576) (hll : l.length ≤ 1048576) : Ev (fun k => spec_KnobsAfter.f k W D ks s l) (KnobsAfterM W D ks s l) := by
  unfold spec_KnobsAfter.f KnobsAfterM
  refine Ev.bind (joCode_ev W D ks s hl hk hs) ?_
  by_cases h : (gearsM W D ks && isC W D s) = true
  · obtain ⟨hg, hc⟩ := Bool.and_eq_true_iff.1 h
    obtain ⟨e1, o1, l1⟩ := gcode_of hg hc
    rw [h, Bool.true_and]
    refine Ev.pos rfl ?_
    by_cases h1 : (l.length : Int) = (ks.length : Int)
    · rw [decide_eq_true (show l.length = ks.length by omega), Bool.true_and]
      refine Ev.pos h1 (Ev.bind (l1All_ev l _ _ hll) ?_)
      by_cases h2 : (l.all fun n => decide (-1000 ≤ n ∧ n ≤ 1000)) = true
      · rw [if_pos h2]
        refine Ev.pos h2 (Ev.bind (a := txt (afterM D ks 0 l (dgs s))) ?_ (Ev.now _))
        unfold spec_joAfter.f
        have := joAfter_l0 hg l [] (dgs s) o1 l1 (by simpa using h2) (by simp; omega)
        rw [← e1] at this
        exact this
      · rw [if_neg h2]; exact Ev.neg h2 (Ev.now _)
    · rw [decide_eq_false (show ¬ l.length = ks.length by omega)]
      exact Ev.neg h1 (Ev.val (by simp))
  · refine Ev.neg h (Ev.val ?_)
    rw [if_neg (by intro h'; exact h (Bool.and_eq_true_iff.1 h').1)]
theorem KnobsAfter_l0 {W D : Int} {ks : List (List Int)} (hg : gearsM W D ks = true) : ∀ (t p ds : List Int), Ok D ds → (ds.length : Int) = W → (p ++ t).length = ks.length →
    Ev (fun k => impl_KnobsAfter.l0 k (txt ds) (p ++ t) ((p ++ t).length : Int) (p.length : Int) W D ks) (if (t.all fun n => decide (-1000 ≤ n ∧ n ≤ 1000)) = true then (txt (afterM D ks p.length t ds), true) else (⟨#[]⟩, false))
  | [], p, ds, hd, hl, e => by
    refine Ev.succ ?_
    simp only [impl_KnobsAfter.l0]
    exact Ev.neg (len_end p) (Ev.val (by simp [afterM]))
  | x :: t, p, ds, hd, hl, e => by
    obtain ⟨⟨a, b, c, d⟩, _, h5, _⟩ := gearsM_iff.1 hg
    rw [List.length_append, List.length_cons] at e
    refine Ev.succ ?_
    simp only [impl_KnobsAfter.l0]
    refine Ev.pos (len_mid p t x) (Ev.pos (by omega) (Ev.pos (len_mid p t x) ?_))
    rw [rd_mid, len_next p x (by omega), app_next p t x]
    refine Ev.bind0 (isTimes_f _) ?_
    by_cases hx : -1000 ≤ x ∧ x ≤ 1000
    · rw [decide_eq_true hx, List.all_cons, decide_eq_true hx, Bool.true_and]
      refine Ev.pos rfl (Ev.bind (gturned_ev hg (by omega) (by omega) (by omega) hd hl) ?_)
      have := KnobsAfter_l0 hg t (p ++ [x]) (addM D x ds (rd_L1 ks (p.length : Int))) (addM_ok (by omega) x ds _ hd) (by rw [addM_length]; exact hl) (by simp; omega)
      rw [show (p ++ [x]).length = p.length + 1 by simp] at this
      rw [afterM, show ((p ++ [x]).length : Int) = ((p.length + 1 : Nat) : Int) by simp]
      exact this
    · rw [decide_eq_false hx, List.all_cons, decide_eq_false hx]
      exact Ev.neg (by simp) (Ev.val (by simp))
theorem KnobsAfter_i (W D : Int) (ks : List (List Int)) (s : ByteArray) (l : List Int) (hl : ks.length ≤ 1048576) (hk : ∀ k ∈ ks, k.length ≤ 1048576) (hs : s.size ≤ 1048576) (hll : l.length ≤ 1048576) : Ev (fun k => impl_KnobsAfter.f k W D ks s l) (KnobsAfterM W D ks s l) := by
  unfold impl_KnobsAfter.f KnobsAfterM
  refine Ev.bind (geared_ev W D ks [s] hl hk (by simpa using hs) (by simp)) ?_
  rw [show [s].all (isC W D) = isC W D s by simp]
  by_cases h : (gearsM W D ks && isC W D s) = true
  · obtain ⟨hg, hc⟩ := Bool.and_eq_true_iff.1 h
    obtain ⟨e1, o1, l1⟩ := gcode_of hg hc
    rw [h, Bool.true_and]
    refine Ev.pos rfl (Ev.succ ?_)
    simp only [impl_KnobsAfter.j0]
    by_cases h1 : (l.length : Int) = (ks.length : Int)
    · rw [decide_eq_true (show l.length = ks.length by omega), Bool.true_and]
      refine Ev.neg (by simp [h1]) ?_
      have := KnobsAfter_l0 hg l [] (dgs s) o1 l1 (by simp; omega)
      rw [← e1] at this
      exact this
    · rw [decide_eq_false (show ¬ l.length = ks.length by omega)]
      exact Ev.pos (by simpa using h1) (Ev.val (by simp))
  · refine Ev.neg h (Ev.succ ?_)
    simp only [impl_KnobsAfter.j0]
    refine Ev.pos trivial (Ev.val ?_)
    rw [if_neg (by intro h'; exact h (Bool.and_eq_true_iff.1 h').1)]
theorem szIntS_f (l : List Int) (hl : l.length ≤ 9223372036854775807) {c : Int} (h0 : 0 ≤ c) (h1 : c ≤ 1048576) : laws_szIntS.f l c = some (if c - (l.length : Int) < 0 then -1 else c - (l.length : Int)) := by
  unfold laws_szIntS.f
  rw [wrap_id (x := c - (l.length : Int)) (by omega) (by omega)]
  split <;> rfl
theorem szIntSS_l0 : ∀ (t p : List (List Int)) (c : Int), (∀ s ∈ t, s.length ≤ 9223372036854775807) → (p ++ t).length ≤ 9223372036854775806 → 0 ≤ c → c ≤ 1048576 →
    ∃ r, Ev (fun k => laws_szIntSS.l0 k (p ++ t) c (p.length : Int)) r ∧ (r < 0 ∨ (∀ s ∈ t, s.length ≤ 1048576))
  | [], p, c, hs, hl, h0, h1 => by
    refine ⟨c, Ev.succ ?_, .inr (by simp)⟩
    simp only [laws_szIntSS.l0]
    exact Ev.neg (len_end p) (Ev.now _)
  | x :: t, p, c, hs, hl, h0, h1 => by
    rw [List.length_append, List.length_cons] at hl
    have hx := hs x (by simp)
    have hf := szIntS_f x hx h0 h1
    by_cases h : c - (x.length : Int) < 0
    · rw [if_pos h] at hf
      refine ⟨-1, Ev.succ ?_, .inl (by omega)⟩
      simp only [laws_szIntSS.l0]
      refine Ev.pos (len_mid p t x) (Ev.pos (by omega) ?_)
      rw [rdL_mid1]
      exact Ev.bind0 hf (Ev.pos (by omega) (Ev.now _))
    · rw [if_neg h] at hf
      obtain ⟨r, hr, hp⟩ := szIntSS_l0 t (p ++ [x]) (c - (x.length : Int)) (fun s h' => hs s (by simp [h'])) (by simp; omega) (by omega) (by omega)
      refine ⟨r, Ev.succ ?_, hp.imp id (fun h' s hs' => ?_)⟩
      · simp only [laws_szIntSS.l0]
        refine Ev.pos (len_mid p t x) (Ev.pos (by omega) ?_)
        rw [rdL_mid1]
        refine Ev.bind0 hf (Ev.neg h ?_)
        rw [len_next p x (by omega), app_next p t x]
        exact hr
      · rcases List.mem_cons.1 hs' with rfl | h2
        · omega
        · exact h' s h2
theorem szGears_ev (W D : Int) (l : List (List Int)) (hl : l.length ≤ 9223372036854775807) (hs : ∀ s ∈ l, s.length ≤ 9223372036854775807) :
    ∃ r, Ev (fun k => laws_szGears.f k W D l 1048576) r ∧ (r < 0 ∨ (l.length ≤ 1048576 ∧ ∀ s ∈ l, s.length ≤ 1048576)) := by
  have key : ∃ r, Ev (fun k => laws_szIntSS.f k l 1048576) r ∧ (r < 0 ∨ (l.length ≤ 1048576 ∧ ∀ s ∈ l, s.length ≤ 1048576)) := by
    by_cases h : (1048576 : Int) - (l.length : Int) < 0
    · refine ⟨-1, ?_, .inl (by omega)⟩
      unfold laws_szIntSS.f
      rw [wrap_id (x := (1048576 : Int) - (l.length : Int)) (by omega) (by omega)]
      exact Ev.pos h (Ev.now _)
    · obtain ⟨r, hr, hp⟩ := szIntSS_l0 l [] ((1048576 : Int) - (l.length : Int)) hs (by simp; omega) (by omega) (by omega)
      refine ⟨r, ?_, hp.imp id (fun h' => ⟨by omega, h'⟩)⟩
      unfold laws_szIntSS.f
      rw [wrap_id (x := (1048576 : Int) - (l.length : Int)) (by omega) (by omega)]
      exact Ev.neg h hr
  obtain ⟨r, hr, hp⟩ := key
  by_cases h : r < 0
  · exact ⟨-1, by unfold laws_szGears.f; exact Ev.bind hr (Ev.pos h (Ev.now _)), .inl (by omega)⟩
  · exact ⟨r, by unfold laws_szGears.f; exact Ev.bind hr (Ev.neg h (Ev.now _)), hp⟩
theorem toIntS_l0 : ∀ (t p u : List Int), t.length = u.length → (p ++ t).length ≤ 1048576 → Ev (fun k => laws_toIntS.l0 k (p ++ t) (p ++ u) (p.length : Int)) (p ++ t)
  | [], p, u, e, hl => by
    have : u = [] := List.length_eq_zero_iff.1 e.symm
    subst this
    refine Ev.succ ?_
    simp only [laws_toIntS.l0]
    exact Ev.neg (len_end p) (Ev.now _)
  | x :: t, p, [], e, hl => by simp at e
  | x :: t, p, y :: u, e, hl => by
    rw [List.length_append, List.length_cons] at hl
    refine Ev.succ ?_
    simp only [laws_toIntS.l0]
    refine Ev.pos (len_mid p t x) (Ev.pos (by omega) (Ev.pos (len_mid p u y) ?_))
    rw [rd_mid, set_mid, len_next p x (by omega), app_next p t x, app_next p u x]
    exact toIntS_l0 t (p ++ [x]) u (by simpa using e) (by simp; omega)
theorem toIntS_ev (l : List Int) (hl : l.length ≤ 1048576) : Ev (fun k => laws_toIntS.f k l) l := by
  unfold laws_toIntS.f
  refine Ev.pos (by omega) (Ev.pos (by omega) ?_)
  exact toIntS_l0 l [] _ (by simp) hl
theorem toIntSS_l0 : ∀ (t p u : List (List Int)), (∀ s ∈ t, s.length ≤ 1048576) → t.length = u.length → (p ++ t).length ≤ 1048576 → Ev (fun k => laws_toIntSS.l0 k (p ++ t) (p ++ u) (p.length : Int)) (p ++ t)
  | [], p, u, hs, e, hl => by
    have : u = [] := List.length_eq_zero_iff.1 e.symm
    subst this
    refine Ev.succ ?_
    simp only [laws_toIntSS.l0]
    exact Ev.neg (len_end p) (Ev.now _)
  | x :: t, p, [], hs, e, hl => by simp at e
  | x :: t, p, y :: u, hs, e, hl => by
    rw [List.length_append, List.length_cons] at hl
    refine Ev.succ ?_
    simp only [laws_toIntSS.l0]
    refine Ev.pos (len_mid p t x) (Ev.pos (by omega) ?_)
    rw [rdL_mid1]
    refine Ev.bind (toIntS_ev x (hs x (by simp))) (Ev.pos (len_mid p u y) ?_)
    rw [set_mid, len_next p x (by omega), app_next p t x, app_next p u x]
    exact toIntSS_l0 t (p ++ [x]) u (fun s h => hs s (by simp [h])) (by simpa using e) (by simp; omega)
theorem toGears_ev (W D : Int) (l : List (List Int)) (hl : l.length ≤ 1048576) (hs : ∀ s ∈ l, s.length ≤ 1048576) : Ev (fun k => laws_toGears.f k W D l) (W, D, l) := by
  unfold laws_toGears.f laws_toIntSS.f
  refine Ev.bind0 rfl (Ev.bind (a := l) (Ev.pos (by omega) (Ev.pos (by omega) ?_)) (Ev.now _))
  exact toIntSS_l0 l [] _ hs (by simp) hl
theorem eqIntS_l0 : ∀ (t p : List Int), (p ++ t).length ≤ 9223372036854775806 → Ev (fun k => laws_eqIntS.l0 k (p ++ t) (p ++ t) (p.length : Int)) true
  | [], p, hl => by
    refine Ev.succ ?_
    simp only [laws_eqIntS.l0]
    exact Ev.neg (len_end p) (Ev.now _)
  | x :: t, p, hl => by
    rw [List.length_append, List.length_cons] at hl
    refine Ev.succ ?_
    simp only [laws_eqIntS.l0]
    refine Ev.pos (len_mid p t x) (Ev.pos (by omega) (Ev.pos (len_mid p t x) ?_))
    refine Ev.pos trivial ?_
    rw [len_next p x (by omega), app_next p t x]
    exact eqIntS_l0 t (p ++ [x]) (by simp; omega)
theorem eqIntS_ev (l : List Int) (hl : l.length ≤ 9223372036854775806) : Ev (fun k => laws_eqIntS.f k l l) true := by
  unfold laws_eqIntS.f
  exact Ev.pos rfl (eqIntS_l0 l [] hl)
theorem eqIntSS_l0 : ∀ (t p : List (List Int)), (∀ s ∈ t, s.length ≤ 1048576) → (p ++ t).length ≤ 9223372036854775806 → Ev (fun k => laws_eqIntSS.l0 k (p ++ t) (p ++ t) (p.length : Int)) true
  | [], p, hs, hl => by
    refine Ev.succ ?_
    simp only [laws_eqIntSS.l0]
    exact Ev.neg (len_end p) (Ev.now _)
  | x :: t, p, hs, hl => by
    rw [List.length_append, List.length_cons] at hl
    refine Ev.succ ?_
    simp only [laws_eqIntSS.l0]
    refine Ev.pos (len_mid p t x) (Ev.pos (by omega) (Ev.pos (len_mid p t x) ?_))
    rw [rdL_mid1]
    refine Ev.bind (eqIntS_ev x (by have := hs x (by simp); omega)) (Ev.pos rfl ?_)
    rw [len_next p x (by omega), app_next p t x]
    exact eqIntSS_l0 t (p ++ [x]) (fun s h => hs s (by simp [h])) (by simp; omega)
theorem eqGears_ev (W D : Int) (l : List (List Int)) (hl : l.length ≤ 1048576) (hs : ∀ s ∈ l, s.length ≤ 1048576) : Ev (fun k => laws_eqGears.f k W D l W D l) true := by
  unfold laws_eqGears.f laws_eqIntSS.f
  refine Ev.bind0 (a := true) (by unfold laws_eqLock.f; simp) (Ev.pos rfl (Ev.bind (a := true) (Ev.pos rfl (eqIntSS_l0 l [] hs (by simp; omega))) (Ev.pos rfl (Ev.now _))))
end Go.Proofs.Ytffjfnoocbgajaa.L
