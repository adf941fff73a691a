/- What the printed functions that FnExactPeriodOfKnob reaches come to: lemmas for its plain law. -/
import Derived.Test.YtffjfnoocbgajaaMath
import Derived.Test.YtffjfnoocbgajaaQ0
import Derived.Test.YtffjfnoocbgajaaQ1
import Derived.Test.YtffjfnoocbgajaaQ2
import Derived.Test.YtffjfnoocbgajaaQ3
import Derived.Test.YtffjfnoocbgajaaQ4
import Derived.Test.YtffjfnoocbgajaaQ5
import Derived.Test.YtffjfnoocbgajaaQ6
import Derived.Test.YtffjfnoocbgajaaQ7
import Derived.Test.YtffjfnoocbgajaaQ8
import Derived.Test.YtffjfnoocbgajaaQ9
import Derived.Test.YtffjfnoocbgajaaQ10
import Derived.Test.YtffjfnoocbgajaaQ11
import Derived.Test.YtffjfnoocbgajaaQ12
import Derived.Test.YtffjfnoocbgajaaQ14
import Derived.Test.YtffjfnoocbgajaaQ15
import Derived.Test.YtffjfnoocbgajaaQ16
import Derived.Test.YtffjfnoocbgajaaQ17
import Derived.Test.YtffjfnoocbgajaaQ18
import Derived.Test.YtffjfnoocbgajaaQ21
import Derived.Test.YtffjfnoocbgajaaQ33
import Derived.Test.YtffjfnoocbgajaaQ34
import Derived.Test.YtffjfnoocbgajaaQ35
import Derived.Test.YtffjfnoocbgajaaQ36
namespace Go.Proofs.Ytffjfnoocbgajaa.L
open Go.RowKit Go.Proofs.YtffjfnoocbgajaaW.PrintWords Go.Proofs.YtffjfnoocbgajaaW.PrintMore Go.Proofs.Ytffjfnoocbgajaa.M Go.Proofs.Ytffjfnoocbgajaa.Q
set_option linter.unusedVariables false
set_option linter.unusedSimpArgs false
theorem whGood_f (W D : Int) : spec_whGood.f W D = some (good W D) := by
  unfold spec_whGood.f spec_l1In.f good
  by_cases h1 : 1 ≤ W <;> by_cases h2 : W ≤ 6 <;> by_cases h3 : 2 ≤ D <;> by_cases h4 : D ≤ 10 <;> simp [h1, h2, h3, h4]
theorem IsLock_i (W D : Int) : impl_IsLock.f W D = some (good W D) := by
  unfold impl_IsLock.f impl_within.f good
  by_cases h1 : 1 ≤ W <;> by_cases h2 : W ≤ 6 <;> by_cases h3 : 2 ≤ D <;> by_cases h4 : D ≤ 10 <;> simp [h1, h2, h3, h4]
theorem l1In_f (n lo hi : Int) : spec_l1In.f n lo hi = some (decide (lo ≤ n ∧ n ≤ hi)) := by
  unfold spec_l1In.f
  by_cases h1 : lo ≤ n <;> by_cases h2 : n ≤ hi <;> simp [h1, h2]
theorem within_f (n lo hi : Int) : impl_within.f n lo hi = some (decide (lo ≤ n ∧ n ≤ hi)) := by
  unfold impl_within.f
  by_cases h1 : lo ≤ n <;> by_cases h2 : n ≤ hi <;> simp [h1, h2]

theorem whCount_l0 {W D : Int} (h0 : 2 ≤ D) (h1 : D ≤ 10) : ∀ (m n : Nat), n + m ≤ 6 → Ev (fun k => spec_whCount.l0 k (pw D n) (m : Int) W D) (pw D (n + m))
  | 0, n, h => by
    refine Ev.succ ?_
    simp only [spec_whCount.l0]
    exact Ev.neg (by omega) (Ev.now _)
  | m + 1, n, h => by
    have b := pw_le6 (D := D) (by omega) h1 (n := n + 1) (by omega)
    have p := pw_pos (D := D) (by omega) (n + 1)
    refine Ev.succ ?_
    simp only [spec_whCount.l0]
    refine Ev.pos (by omega) ?_
    rw [show wrap64 (pw D n * D) = pw D (n + 1) from wrap_id (by rw [pw] at *; omega) (by rw [pw] at *; omega), show wrap64 (((m + 1 : Nat) : Int) - 1) = (m : Int) by rw [wrap_id] <;> omega,
      show n + (m + 1) = (n + 1) + m by omega]
    exact whCount_l0 h0 h1 m (n + 1) (by omega)
theorem whCount_ev {W D : Int} (h : good W D = true) : Ev (fun k => spec_whCount.f k W D) (pw D W.toNat) := by
  obtain ⟨a, b, c, d⟩ := good_iff.1 h
  obtain ⟨w, rfl⟩ := Int.eq_ofNat_of_zero_le (show 0 ≤ W by omega)
  unfold spec_whCount.f
  have := whCount_l0 (W := w) c d w 0 (by omega)
  rw [Nat.zero_add] at this
  exact this
theorem power_l0 {D : Int} (h0 : 2 ≤ D) (h1 : D ≤ 10) : ∀ (m n : Nat), n + m ≤ 6 → Ev (fun k => impl_power.l0 k D (pw D n) ((n + m : Nat) : Int) (n : Int)) (pw D (n + m))
  | 0, n, h => by
    refine Ev.succ ?_
    simp only [impl_power.l0]
    exact Ev.neg (by omega) (Ev.now _)
  | m + 1, n, h => by
    have b := pw_le6 (D := D) (by omega) h1 (n := n + 1) (by omega)
    have p := pw_pos (D := D) (by omega) (n + 1)
    refine Ev.succ ?_
    simp only [impl_power.l0]
    refine Ev.pos (by omega) ?_
    rw [show wrap64 (pw D n * D) = pw D (n + 1) from wrap_id (by rw [pw] at *; omega) (by rw [pw] at *; omega), show wrap64 ((n : Int) + 1) = ((n + 1 : Nat) : Int) by rw [wrap_id] <;> omega,
      show n + (m + 1) = (n + 1) + m by omega]
    exact power_l0 h0 h1 m (n + 1) (by omega)
theorem count_ev {W D : Int} (h : good W D = true) : Ev (fun k => impl_Lock_count.f k W D) (pw D W.toNat) := by
  obtain ⟨a, b, c, d⟩ := good_iff.1 h
  obtain ⟨w, rfl⟩ := Int.eq_ofNat_of_zero_le (show 0 ≤ W by omega)
  unfold impl_Lock_count.f impl_power.f
  have := power_l0 c d w 0 (by omega)
  rw [Nat.zero_add] at this
  exact Ev.bind this (Ev.now _)

theorem dgs_app {s : ByteArray} {p t : List Int} (e : bys s = p ++ t) : dgs s = (p.map fun b => (b - 48) % 256) ++ (t.map fun b => (b - 48) % 256) := by
  unfold dgs; rw [e, List.map_append]
theorem whDigits_l0 {s : ByteArray} (hs : s.size ≤ 1048576) : ∀ (t p : List Int), bys s = p ++ t → Ev (fun k => spec_whDigits.l0 k s (p.map fun b => (b - 48) % 256) (p.length : Int)) (dgs s)
  | [], p, e => by
    have el : p.length = s.size := by rw [← bys_length, e]; simp
    refine Ev.succ ?_
    simp only [spec_whDigits.l0]
    refine Ev.neg (by omega) (Ev.val ?_)
    rw [dgs_app e]; simp
  | x :: t, p, e => by
    have el : p.length + (t.length + 1) = s.size := by rw [← bys_length, e]; simp
    refine Ev.succ ?_
    simp only [spec_whDigits.l0]
    refine Ev.pos (by omega) (Ev.pos (by omega) (Ev.pos (by rw [List.length_map]; omega) ?_))
    rw [bt_bys, e, rd_mid, show wrap64 ((p.length : Int) + 1) = ((p ++ [x]).length : Int) from len_next p x (by omega)]
    have := whDigits_l0 hs t (p ++ [x]) (by rw [e]; simp)
    rw [List.map_append] at this
    exact this
theorem whDigits_ev (s : ByteArray) (hs : s.size ≤ 1048576) : Ev (fun k => spec_whDigits.f k s) (dgs s) := by
  unfold spec_whDigits.f
  exact whDigits_l0 hs (bys s) [] rfl
theorem whDigits_txt {ds : List Int} (h : Ok 10 ds) (hl : ds.length ≤ 1048576) : Ev (fun k => spec_whDigits.f k (txt ds)) ds := by
  have := whDigits_ev (txt ds) (by rw [txt_size]; exact hl)
  rwa [dgs_txt h] at this
theorem l1Num_ev {d : Int} (h0 : 0 ≤ d) (h1 : d < 10) : Ev (fun k => spec_l1Num.f k d) (txt [d]) := by
  refine Ev.succ ?_
  simp only [spec_l1Num.f]
  refine Ev.pos h1 (Ev.val ?_)
  rw [wrap_id (by omega) (by omega), show (48 + d) % 256 = 48 + d by omega]; rfl
theorem whText_l0 : ∀ (t p : List Int), Ok 10 (p ++ t) → (p ++ t).length ≤ 1048576 → Ev (fun k => spec_whText.l0 k (txt p) (p ++ t) ((p ++ t).length : Int) (p.length : Int)) (txt (p ++ t))
  | [], p, h, hl => by
    refine Ev.succ ?_
    simp only [spec_whText.l0]
    refine Ev.neg (len_end p) (Ev.val (by simp))
  | x :: t, p, h, hl => by
    have hx := (Ok.cons.1 (Ok.append.1 h).2).1
    rw [List.length_append, List.length_cons] at hl
    refine Ev.succ ?_
    simp only [spec_whText.l0]
    refine Ev.pos (len_mid p t x) (Ev.pos (by omega) (Ev.pos (len_mid p t x) ?_))
    rw [rd_mid]
    refine Ev.bind (l1Num_ev hx.1 hx.2) (Ev.pos (by rw [txt_size, txt_size]; simp; omega) ?_)
    rw [len_next p x (by omega), txt_append, app_next p t x]
    refine whText_l0 t (p ++ [x]) (by rw [← app_next p t x]; exact h) (by simp; omega)
theorem whText_ev {ds : List Int} (h : Ok 10 ds) (hl : ds.length ≤ 1048576) : Ev (fun k => spec_whText.f k ds) (txt ds) := by
  unfold spec_whText.f
  exact whText_l0 ds [] h hl
theorem l1Mod_f (k : Int) {n : Int} (h0 : 0 < n) (h1 : n ≤ 1000) : spec_l1Mod.f k n = some (k % n) := by
  unfold spec_l1Mod.f; rw [if_neg (by omega), tmod_around h0 h1]
def addM (D c : Int) : List Int → List Int → List Int
  | a :: aa, b :: bb => (a + c * b) % D :: addM D c aa bb
  | aa, _ => aa
theorem whAdd_l0 {W D c : Int} (hD : 2 ≤ D ∧ D ≤ 10) (hc : -1000000 ≤ c ∧ c ≤ 1000000) : ∀ (t u p q : List Int), Ok D (p ++ t) → Ok 1000 u → p.length = q.length → t.length = u.length → (p ++ t).length ≤ 1000 →
    Ev (fun k => spec_whAdd.l0 k c (p ++ t) (q ++ u) ((p ++ t).length : Int) (p.length : Int) W D) (txt (p ++ addM D c t u))
  | [], u, p, q, ht, hu, hpq, htu, hl => by
    refine Ev.succ ?_
    simp only [spec_whAdd.l0]
    refine Ev.neg (len_end p) ?_
    refine Ev.bind (whText_ev (ht.le hD.2) (by omega)) (Ev.val (by simp [addM]))
  | a :: t, [], p, q, ht, hu, hpq, htu, hl => by simp at htu
  | a :: t, b :: u, p, q, ht, hu, hpq, htu, hl => by
    have ha := (Ok.cons.1 (Ok.append.1 ht).2).1
    have hb := (Ok.cons.1 hu).1
    have hcb : -1000000000 ≤ c * b ∧ c * b ≤ 1000000000 := by
      have h1 : c * b ≤ 1000000 * b := Int.mul_le_mul_of_nonneg_right hc.2 hb.1
      have h2 : -1000000 * b ≤ c * b := Int.mul_le_mul_of_nonneg_right hc.1 hb.1
      omega
    rw [List.length_append, List.length_cons] at hl
    refine Ev.succ ?_
    simp only [spec_whAdd.l0]
    refine Ev.pos (len_mid p t a) (Ev.pos (by omega) (Ev.pos (len_mid p t a) (Ev.pos (by rw [hpq]; exact len_mid q u b) ?_)))
    rw [rd_mid, show rd (q ++ b :: u) (p.length : Int) = b by rw [hpq]; exact rd_mid q u b, wrap_id (x := c * b) (by omega) (by omega), wrap_id (x := a + c * b) (by omega) (by omega), len_next p ((a + c * b) % D) (by omega)]
    refine Ev.bind0 (l1Mod_f _ (by omega) (by omega)) ?_
    rw [set_mid, app_next p t ((a + c * b) % D), app_next q u b, show ((p ++ a :: t).length : Int) = ((p ++ [(a + c * b) % D] ++ t).length : Int) by simp]
    rw [show p ++ addM D c (a :: t) (b :: u) = (p ++ [(a + c * b) % D]) ++ addM D c t u by simp [addM]]
    have ok2 : Ok D (p ++ [(a + c * b) % D] ++ t) := by
      rw [Ok.append, Ok.append]
      refine ⟨⟨(Ok.append.1 ht).1, ?_⟩, (Ok.cons.1 (Ok.append.1 ht).2).2⟩
      rw [Ok.cons]
      exact ⟨⟨Int.emod_nonneg _ (by omega), Int.emod_lt_of_pos _ (by omega)⟩, Ok.nil D⟩
    exact whAdd_l0 hD hc t u (p ++ [(a + c * b) % D]) (q ++ [b]) ok2 (Ok.cons.1 hu).2 (by simp [hpq]) (by simpa using htu) (by simp; omega)
theorem whAdd_ev {W D c : Int} (hD : 2 ≤ D ∧ D ≤ 10) (hc : -1000000 ≤ c ∧ c ≤ 1000000) {a b : List Int} (ha : Ok D a) (hb : Ok D b) (hl : a.length ≤ 6) (e : a.length = b.length) : Ev (fun k => spec_whAdd.f k W D (txt a) (txt b) c) (txt (addM D c a b)) := by
  unfold spec_whAdd.f
  refine Ev.bind (whDigits_txt (ha.le hD.2) (by omega)) (Ev.bind (whDigits_txt (hb.le hD.2) (by omega)) ?_)
  exact whAdd_l0 (W := W) hD hc a b [] [] ha (hb.le (by omega)) rfl e (by simp; omega)
theorem whOf_l0 {W D : Int} (hD : 2 ≤ D ∧ D ≤ 10) : ∀ (m : Nat) (n : Int) (tail : List Int), 0 ≤ n → n ≤ 1000000000 → Ok D tail → m + tail.length ≤ 1000 →
    Ev (fun k => spec_whOf.l0 k n (List.replicate m 0 ++ tail) ((m : Int) - 1) W D) (txt (cod D m n ++ tail))
  | 0, n, tail, h0, h1, ht, hl => by
    refine Ev.succ ?_
    simp only [spec_whOf.l0]
    refine Ev.neg (by omega) (Ev.bind (whText_ev (by simpa using ht.le hD.2) (by simp; omega)) (Ev.val (by simp [cod])))
  | m + 1, n, tail, h0, h1, ht, hl => by
    have e1 : List.replicate (m + 1) (0 : Int) ++ tail = List.replicate m 0 ++ 0 :: tail := by
      rw [List.replicate_succ', List.append_assoc]; rfl
    have hm : ((List.replicate m (0 : Int)).length : Int) = (m : Int) := by simp
    have q0 : 0 ≤ n / D := Int.ediv_nonneg h0 (by omega)
    have q1 : n / D ≤ n := Int.ediv_le_self _ h0
    have r0 := Int.emod_nonneg n (show D ≠ 0 by omega)
    have r1 := Int.emod_lt_of_pos n (show 0 < D by omega)
    refine Ev.succ ?_
    simp only [spec_whOf.l0]
    refine Ev.pos (by omega) (Ev.neg (by omega) (Ev.pos (by omega) (Ev.pos (by simp; omega) ?_)))
    rw [e1, show ((m + 1 : Nat) : Int) - 1 = ((List.replicate m (0 : Int)).length : Int) by rw [hm]; omega, set_mid, hm, Int.tdiv_eq_ediv_of_nonneg h0, Int.tmod_eq_emod_of_nonneg h0, wrap_id (x := n / D) (by omega) (by omega), wrap_id (x := (m : Int) - 1) (by omega) (by omega)]
    rw [show cod D (m + 1) n ++ tail = cod D m (n / D) ++ (n % D :: tail) by simp [cod]]
    exact whOf_l0 hD m (n / D) (n % D :: tail) q0 (by omega) (Ok.cons.2 ⟨⟨r0, r1⟩, ht⟩) (by simp; omega)
theorem whOf_ev {W D n : Int} (hW : 0 ≤ W ∧ W ≤ 6) (hD : 2 ≤ D ∧ D ≤ 10) (h0 : 0 ≤ n) (h1 : n ≤ 1000000000) : Ev (fun k => spec_whOf.f k W D n) (txt (cod D W.toNat n)) := by
  obtain ⟨w, rfl⟩ := Int.eq_ofNat_of_zero_le hW.1
  unfold spec_whOf.f
  refine Ev.pos (by omega) (Ev.pos (by omega) ?_)
  have := whOf_l0 (W := w) hD w n [] h0 h1 (Ok.nil D) (by simp; omega)
  rw [List.append_nil, List.append_nil] at this
  rw [Int.toNat_natCast, wrap_id (x := (w : Int) - 1) (by omega) (by omega)]
  exact this
theorem cod_zero (D : Int) : ∀ w : Nat, cod D w 0 = List.replicate w 0
  | 0 => rfl
  | w + 1 => by rw [cod, Int.zero_ediv, Int.zero_emod, cod_zero D w, List.replicate_succ']
theorem rdL_mid1 (p t : List (List Int)) (x : List Int) : rd_L1 (p ++ x :: t) (p.length : Int) = x := by
  unfold rd_L1; rw [Int.toNat_natCast, List.getD_eq_getElem?_getD, List.getElem?_append_right (Nat.le_refl _), Nat.sub_self]; rfl
def okK (W D : Int) (knob : List Int) : Bool := decide ((knob.length : Int) = W) && knob.all fun n => decide (0 ≤ n ∧ n ≤ D - 1)
theorem okK_iff {W D : Int} {knob : List Int} : okK W D knob = true ↔ (knob.length : Int) = W ∧ Ok D knob := by
  unfold okK Ok
  simp only [Bool.and_eq_true, decide_eq_true_eq, List.all_eq_true]
  constructor
  · rintro ⟨h1, h2⟩; exact ⟨h1, fun d hd => by have := h2 d hd; omega⟩
  · rintro ⟨h1, h2⟩; exact ⟨h1, fun d hd => by have := h2 d hd; omega⟩
def gearsM (W D : Int) (ks : List (List Int)) : Bool := good W D && (decide (pw D W.toNat ≤ 1000) && (decide (1 ≤ (ks.length : Int) ∧ (ks.length : Int) ≤ 5) && ks.all (okK W D)))
theorem gearsM_iff {W D : Int} {ks : List (List Int)} : gearsM W D ks = true ↔ (1 ≤ W ∧ W ≤ 6 ∧ 2 ≤ D ∧ D ≤ 10) ∧ pw D W.toNat ≤ 1000 ∧ (1 ≤ ks.length ∧ ks.length ≤ 5) ∧ ∀ k ∈ ks, (k.length : Int) = W ∧ Ok D k := by
  unfold gearsM
  simp only [Bool.and_eq_true, good_iff, decide_eq_true_eq, List.all_eq_true, okK_iff]
  constructor
  · rintro ⟨h1, h2, h3, h4⟩; exact ⟨h1, h2, by omega, h4⟩
  · rintro ⟨h1, h2, h3, h4⟩; exact ⟨h1, h2, by omega, h4⟩
theorem l1All_l0 {lo hi : Int} : ∀ (t p : List Int), (p ++ t).length ≤ 1048576 → Ev (fun k => spec_l1All.l0 k lo hi (p ++ t) ((p ++ t).length : Int) (p.length : Int)) (t.all fun n => decide (lo ≤ n ∧ n ≤ hi))
  | [], p, hl => by
    refine Ev.succ ?_
    simp only [spec_l1All.l0]
    exact Ev.neg (len_end p) (Ev.now _)
  | x :: t, p, hl => by
    rw [List.length_append, List.length_cons] at hl
    refine Ev.succ ?_
    simp only [spec_l1All.l0]
    refine Ev.pos (len_mid p t x) (Ev.pos (by omega) (Ev.pos (len_mid p t x) ?_))
    rw [rd_mid, l1In_f, len_next p x (by omega), app_next p t x]
    refine Ev.bind0 rfl ?_
    by_cases h : lo ≤ x ∧ x ≤ hi
    · refine Ev.pos (by simpa using h) ?_
      rw [List.all_cons, decide_eq_true h, Bool.true_and]
      exact l1All_l0 t (p ++ [x]) (by simp; omega)
    · refine Ev.neg (by simpa using h) (Ev.val ?_)
      rw [List.all_cons, decide_eq_false h]; rfl
theorem l1All_ev (l : List Int) (lo hi : Int) (hl : l.length ≤ 1048576) : Ev (fun k => spec_l1All.f k l lo hi) (l.all fun n => decide (lo ≤ n ∧ n ≤ hi)) := by
  unfold spec_l1All.f
  exact l1All_l0 l [] hl
theorem joKnob_ev {W D : Int} (hD : 2 ≤ D ∧ D ≤ 10) (l : List Int) (hl : l.length ≤ 1048576) : Ev (fun k => spec_joKnob.f k W D l) (okK W D l) := by
  unfold spec_joKnob.f okK
  by_cases h : (l.length : Int) = W
  · refine Ev.pos h ?_
    rw [decide_eq_true h, Bool.true_and, wrap_id (x := D - 1) (by omega) (by omega)]
    exact Ev.bind (l1All_ev l 0 (D - 1) hl) (Ev.now _)
  · refine Ev.neg h (Ev.val ?_)
    rw [decide_eq_false h]; rfl
theorem joGood_l0 {W D : Int} (hD : 2 ≤ D ∧ D ≤ 10) {ks0 : List (List Int)} : ∀ (t p : List (List Int)), (∀ k ∈ t, k.length ≤ 1048576) → (p ++ t).length ≤ 1048576 → Ev (fun k => spec_joGood.l0 k (p ++ t) ((p ++ t).length : Int) (p.length : Int) W D ks0) (t.all (okK W D))
  | [], p, hk, hl => by
    refine Ev.succ ?_
    simp only [spec_joGood.l0]
    exact Ev.neg (len_end p) (Ev.now _)
  | x :: t, p, hk, hl => by
    rw [List.length_append, List.length_cons] at hl
    refine Ev.succ ?_
    simp only [spec_joGood.l0]
    refine Ev.pos (len_mid p t x) (Ev.pos (by omega) (Ev.pos (len_mid p t x) ?_))
    rw [rdL_mid1, len_next p x (by omega), app_next p t x]
    refine Ev.bind (joKnob_ev hD x (hk x (by simp))) ?_
    by_cases h : okK W D x = true
    · refine Ev.pos h ?_
      rw [List.all_cons, h, Bool.true_and]
      exact joGood_l0 hD t (p ++ [x]) (fun k h' => hk k (by simp [h'])) (by simp; omega)
    · refine Ev.neg h (Ev.val ?_)
      simp [h]
theorem joGood_ev (W D : Int) (ks : List (List Int)) (hl : ks.length ≤ 1048576) (hk : ∀ k ∈ ks, k.length ≤ 1048576) : Ev (fun k => spec_joGood.f k W D ks) (gearsM W D ks) := by
  unfold spec_joGood.f gearsM
  refine Ev.bind0 (whGood_f W D) ?_
  by_cases h : good W D = true
  · obtain ⟨a, b, c, d⟩ := good_iff.1 h
    rw [h, Bool.true_and]
    refine Ev.pos rfl (Ev.bind (whCount_ev h) ?_)
    by_cases h1 : pw D W.toNat > 1000
    · refine Ev.pos h1 (Ev.succ ?_)
      simp only [spec_joGood.j0]
      refine Ev.pos trivial (Ev.val ?_)
      rw [decide_eq_false (by omega)]; rfl
    · refine Ev.neg h1 (Ev.bind0 (l1In_f _ _ _) (Ev.succ ?_))
      rw [decide_eq_true (show pw D W.toNat ≤ 1000 by omega), Bool.true_and]
      simp only [spec_joGood.j0]
      by_cases h2 : 1 ≤ (ks.length : Int) ∧ (ks.length : Int) ≤ 5
      · rw [decide_eq_true h2, Bool.true_and]
        refine Ev.neg (by simp) ?_
        exact joGood_l0 ⟨c, d⟩ ks [] hk hl
      · rw [decide_eq_false h2]
        exact Ev.pos (by simp) (Ev.now _)
  · refine Ev.neg h (Ev.succ ?_)
    simp only [spec_joGood.j0]
    refine Ev.pos trivial (Ev.val ?_)
    simp [h]
theorem areG_l1 {W D : Int} (hD : 2 ≤ D ∧ D ≤ 10) {X19 : List (List Int)} {X20 X21 : Int} {ks0 : List (List Int)} {b : Bool} : ∀ (t p : List Int), (p ++ t).length ≤ 1048576 →
    Ev (fun k => impl_AreGears.l0 k X19 X20 (wrap64 (X21 + 1)) W D ks0) b →
    Ev (fun k => impl_AreGears.l1 k X19 X20 X21 (p ++ t) ((p ++ t).length : Int) (p.length : Int) W D ks0) ((t.all fun n => decide (0 ≤ n ∧ n ≤ D - 1)) && b)
  | [], p, hl, h => by
    refine Ev.succ ?_
    simp only [impl_AreGears.l1]
    refine Ev.neg (len_end p) ?_
    rw [List.all_nil, Bool.true_and]; exact h
  | x :: t, p, hl, h => by
    rw [List.length_append, List.length_cons] at hl
    refine Ev.succ ?_
    simp only [impl_AreGears.l1]
    refine Ev.pos (len_mid p t x) (Ev.pos (by omega) (Ev.pos (len_mid p t x) ?_))
    rw [rd_mid, within_f, wrap_id (x := D - 1) (by omega) (by omega), len_next p x (by omega), app_next p t x]
    refine Ev.bind0 rfl ?_
    by_cases hx : 0 ≤ x ∧ x ≤ D - 1
    · refine Ev.pos (by simpa using hx) ?_
      rw [List.all_cons, decide_eq_true hx, Bool.true_and]
      exact areG_l1 hD t (p ++ [x]) (by simp; omega) h
    · refine Ev.neg (by simpa using hx) (Ev.val ?_)
      rw [List.all_cons, decide_eq_false hx]; rfl
theorem areG_l0 {W D : Int} (hD : 2 ≤ D ∧ D ≤ 10) {ks0 : List (List Int)} : ∀ (t p : List (List Int)), (∀ k ∈ t, k.length ≤ 1048576) → (p ++ t).length ≤ 1048576 → Ev (fun k => impl_AreGears.l0 k (p ++ t) ((p ++ t).length : Int) (p.length : Int) W D ks0) (t.all (okK W D))
  | [], p, hk, hl => by
    refine Ev.succ ?_
    simp only [impl_AreGears.l0]
    exact Ev.neg (len_end p) (Ev.now _)
  | x :: t, p, hk, hl => by
    have hl0 := hl
    rw [List.length_append, List.length_cons] at hl
    refine Ev.succ ?_
    simp only [impl_AreGears.l0]
    refine Ev.pos (len_mid p t x) (Ev.pos (by omega) (Ev.pos (len_mid p t x) ?_))
    rw [rdL_mid1]
    have ih := areG_l0 (W := W) hD (ks0 := ks0) t (p ++ [x]) (fun k h' => hk k (by simp [h'])) (by simp; omega)
    by_cases h : (x.length : Int) = W
    · refine Ev.pos h ?_
      rw [List.all_cons]
      have : okK W D x = x.all fun n => decide (0 ≤ n ∧ n ≤ D - 1) := by unfold okK; rw [decide_eq_true h, Bool.true_and]
      rw [this]
      refine areG_l1 hD (X20 := ((p ++ x :: t).length : Int)) x [] (hk x (by simp)) ?_
      rw [len_next p x (by omega), app_next p t x]
      exact ih
    · refine Ev.neg h (Ev.val ?_)
      simp [okK, h]
theorem AreGears_i (W D : Int) (ks : List (List Int)) (hl : ks.length ≤ 1048576) (hk : ∀ k ∈ ks, k.length ≤ 1048576) : Ev (fun k => impl_AreGears.f k W D ks) (gearsM W D ks) := by
  unfold impl_AreGears.f gearsM
  have e : impl_isSmall.f = fun k a b m => (impl_IsLock.f a b).bind fun t => if t = true then ((impl_Lock_count.f k a b).bind fun t2 => some (decide (t2 ≤ m))) else some false := by
    funext k a b m; unfold impl_isSmall.f; rfl
  by_cases h : good W D = true
  · obtain ⟨a, b, c, d⟩ := good_iff.1 h
    rw [h, Bool.true_and]
    refine Ev.bind (a := decide (pw D W.toNat ≤ 1000)) ?_ ?_
    · rw [e]; exact Ev.bind0 (IsLock_i W D) (Ev.pos h (Ev.bind (count_ev h) (Ev.now _)))
    by_cases h1 : pw D W.toNat ≤ 1000
    · rw [decide_eq_true h1, Bool.true_and]
      refine Ev.pos rfl (Ev.bind0 (within_f _ _ _) (Ev.succ ?_))
      simp only [impl_AreGears.j0]
      by_cases h2 : 1 ≤ (ks.length : Int) ∧ (ks.length : Int) ≤ 5
      · rw [decide_eq_true h2, Bool.true_and]
        refine Ev.neg (by simp) ?_
        exact areG_l0 ⟨c, d⟩ ks [] hk hl
      · rw [decide_eq_false h2]
        exact Ev.pos (by simp) (Ev.now _)
    · rw [decide_eq_false h1]
      refine Ev.neg (by simp) (Ev.succ ?_)
      simp only [impl_AreGears.j0]
      exact Ev.pos trivial (Ev.now _)
  · refine Ev.bind (a := false) ?_ ?_
    · rw [e]; exact Ev.bind0 (IsLock_i W D) (Ev.neg h (Ev.now _))
    refine Ev.neg (by simp) (Ev.succ ?_)
    simp only [impl_AreGears.j0]
    refine Ev.pos trivial (Ev.val ?_)
    simp [h]
theorem knob_mem {W D : Int} {ks : List (List Int)} (h : gearsM W D ks = true) {i : Int} (h0 : 0 ≤ i) (h1 : i < ks.length) : ((rd_L1 ks i).length : Int) = W ∧ Ok D (rd_L1 ks i) := by
  have hm := (gearsM_iff.1 h).2.2.2
  unfold rd_L1
  rw [List.getD_eq_getElem?_getD, List.getElem?_eq_getElem (by omega)]
  exact hm _ (List.getElem_mem _)
theorem hasKnob_ev (W D : Int) (ks : List (List Int)) (i : Int) (hl : ks.length ≤ 1048576) (hk : ∀ k ∈ ks, k.length ≤ 1048576) : Ev (fun k => impl_hasKnob.f k W D ks i) (gearsM W D ks && decide (0 ≤ i ∧ i ≤ (ks.length : Int) - 1)) := by
  unfold impl_hasKnob.f
  refine Ev.bind (AreGears_i W D ks hl hk) ?_
  by_cases h : gearsM W D ks = true
  · rw [h, Bool.true_and, wrap_id (x := (ks.length : Int) - 1) (by omega) (by omega)]
    exact Ev.pos rfl (Ev.bind0 (within_f _ _ _) (Ev.now _))
  · exact Ev.neg h (Ev.val (by simp [h]))
/-- A knob turned, by the reference. -/
theorem joTurn_ev {W D c i : Int} {ks : List (List Int)} (hg : gearsM W D ks = true) (hc : -1000000 ≤ c ∧ c ≤ 1000000) (h0 : 0 ≤ i) (h1 : i < ks.length) {ds : List Int} (hd : Ok D ds) (hl : (ds.length : Int) = W) : Ev (fun k => spec_joTurn.f k W D ks (txt ds) i c) (txt (addM D c ds (rd_L1 ks i))) := by
  obtain ⟨⟨a, b, c', d⟩, _, _, _⟩ := gearsM_iff.1 hg
  obtain ⟨k1, k2⟩ := knob_mem hg h0 h1
  unfold spec_joTurn.f
  refine Ev.pos h0 (Ev.pos h1 (Ev.bind (whText_ev (k2.le d) (by omega)) ?_))
  exact Ev.bind (whAdd_ev (W := W) ⟨c', d⟩ hc hd k2 (by omega) (by omega)) (Ev.now _)
/-- The common divisor of a number and of many. -/
def gcds : Nat → List Int → Nat
  | d, [] => d
  | d, n :: ns => gcds (Nat.gcd d n.toNat) ns
theorem dvd_gcds (x : Nat) : ∀ (ns : List Int) (d : Nat), x ∣ gcds d ns ↔ x ∣ d ∧ ∀ n ∈ ns, x ∣ n.toNat
  | [], d => by simp [gcds]
  | n :: ns, d => by
    rw [gcds, dvd_gcds x ns, Nat.dvd_gcd_iff]
    constructor
    · rintro ⟨⟨h1, h2⟩, h3⟩
      exact ⟨h1, fun m hm => by rcases List.mem_cons.1 hm with rfl | h; exact h2; exact h3 m h⟩
    · rintro ⟨h1, h2⟩
      exact ⟨⟨h1, h2 n (by simp)⟩, fun m hm => h2 m (by simp [hm])⟩
theorem gcds_mul (t : Nat) : ∀ (ns : List Int) (d : Nat), t * gcds d ns = gcds (t * d) (ns.map fun n => ((t * n.toNat : Nat) : Int))
  | [], d => rfl
  | n :: ns, d => by
    rw [gcds, gcds_mul t ns, List.map_cons, gcds, Int.toNat_natCast, Nat.gcd_mul_left]
/-- All knobs' multiples are whole turns just at the multiples of the period. -/
theorem period_iff {D : Nat} (hD : 0 < D) (ns : List Int) (t : Nat) : (∀ n ∈ ns, D ∣ t * n.toNat) ↔ D / gcds D ns ∣ t := by
  have hg : gcds D ns ∣ D := ((dvd_gcds _ ns D).1 (Nat.dvd_refl _)).1
  obtain ⟨m, hm⟩ := hg
  have hgp : 0 < gcds D ns := Nat.pos_of_dvd_of_pos ⟨m, hm⟩ hD
  have e : (∀ n ∈ ns, D ∣ t * n.toNat) ↔ D ∣ t * gcds D ns := by
    rw [gcds_mul, dvd_gcds]
    constructor
    · intro h
      refine ⟨Nat.dvd_mul_left _ _, fun n hn => ?_⟩
      obtain ⟨k, hk, rfl⟩ := List.mem_map.1 hn
      rw [Int.toNat_natCast]; exact h k hk
    · rintro ⟨_, h⟩ n hn
      have := h _ (List.mem_map_of_mem hn)
      rwa [Int.toNat_natCast] at this
  rw [e]
  have hdiv : D / gcds D ns = m := by
    conv => lhs; lhs; rw [hm]
    exact Nat.mul_div_cancel_left _ hgp
  rw [hdiv]
  constructor
  · intro h
    have h2 : gcds D ns * m ∣ gcds D ns * t := by rw [← hm, Nat.mul_comm (gcds D ns) t]; exact h
    exact Nat.dvd_of_mul_dvd_mul_left hgp h2
  · rintro ⟨c, rfl⟩
    refine ⟨c, ?_⟩
    conv => rhs; rw [hm]
    rw [Nat.mul_comm m c, Nat.mul_assoc, Nat.mul_comm m, Nat.mul_comm c]
theorem gcd_l0 : ∀ (n a b : Nat), b ≤ n → a ≤ 1000000 → b ≤ 1000000 → Ev (fun k => impl_gcd.l0 k (a : Int) (b : Int)) ((Nat.gcd a b : Nat) : Int)
  | n, a, b, hn, ha, hb => by
    refine Ev.succ ?_
    simp only [impl_gcd.l0]
    match b, n, hn with
    | 0, _, _ => exact Ev.pos (by simp) (Ev.val (by simp))
    | b + 1, 0, hn => omega
    | b + 1, n + 1, hn =>
      refine Ev.neg (by omega) ?_
      have hlt : a % (b + 1) < b + 1 := Nat.mod_lt _ (by omega)
      rw [Int.tmod_eq_emod_of_nonneg (by omega), show ((a : Int) % ((b + 1 : Nat) : Int)) = ((a % (b + 1) : Nat) : Int) by rw [Int.natCast_emod]]
      rw [show Nat.gcd a (b + 1) = Nat.gcd (b + 1) (a % (b + 1)) by rw [Nat.gcd_comm a, Nat.gcd_rec, Nat.gcd_comm]]
      exact gcd_l0 n (b + 1) (a % (b + 1)) (by omega) hb (by omega)
theorem gcd_ev (a b : Nat) (ha : a ≤ 1000000) (hb : b ≤ 1000000) : Ev (fun k => impl_gcd.f k (a : Int) (b : Int)) ((Nat.gcd a b : Nat) : Int) := by
  unfold impl_gcd.f; exact gcd_l0 b a b (Nat.le_refl _) ha hb
theorem gcds_pos : ∀ (ns : List Int) (d : Nat), 0 < d → 0 < gcds d ns ∧ gcds d ns ≤ d
  | [], d, h => ⟨h, Nat.le_refl _⟩
  | n :: ns, d, h => by
    have h1 : 0 < Nat.gcd d n.toNat := Nat.gcd_pos_of_pos_left _ h
    have h2 := gcds_pos ns _ h1
    have h3 : Nat.gcd d n.toNat ≤ d := Nat.gcd_le_left _ h
    exact ⟨h2.1, Nat.le_trans h2.2 h3⟩
theorem period_l0 {W D : Int} (hD : 2 ≤ D ∧ D ≤ 10) {ks : List (List Int)} : ∀ (t p : List Int) (d : Nat), 0 < d → d ≤ 10 → Ok D t → (p ++ t).length ≤ 1000 →
    Ev (fun k => impl_PeriodOfKnob.l0 k (d : Int) (p ++ t) ((p ++ t).length : Int) (p.length : Int) W D ks) (D / (gcds d t : Int), true)
  | [], p, d, h0, h1, ht, hl => by
    have q1 : D / (d : Int) ≤ D := Int.ediv_le_self _ (by omega)
    have q0 : 0 ≤ D / (d : Int) := Int.ediv_nonneg (by omega) (by omega)
    refine Ev.succ ?_
    simp only [impl_PeriodOfKnob.l0]
    refine Ev.neg (len_end p) (Ev.neg (by omega) (Ev.val ?_))
    rw [Int.tdiv_eq_ediv_of_nonneg (by omega), wrap_id (by omega) (by omega)]; rfl
  | x :: t, p, d, h0, h1, ht, hl => by
    have hx := (Ok.cons.1 ht).1
    rw [List.length_append, List.length_cons] at hl
    have h2 : 0 < Nat.gcd d x.toNat := Nat.gcd_pos_of_pos_left _ h0
    have h3 : Nat.gcd d x.toNat ≤ d := Nat.gcd_le_left _ h0
    refine Ev.succ ?_
    simp only [impl_PeriodOfKnob.l0]
    refine Ev.pos (len_mid p t x) (Ev.pos (by omega) (Ev.pos (len_mid p t x) ?_))
    rw [rd_mid, len_next p x (by omega), app_next p t x]
    have hg := gcd_ev d x.toNat (by omega) (by omega)
    rw [show ((x.toNat : Nat) : Int) = x by omega] at hg
    refine Ev.bind hg ?_
    exact period_l0 hD t (p ++ [x]) (Nat.gcd d x.toNat) h2 (by omega) (Ok.cons.1 ht).2 (by simp; omega)
/-- t turns of a knob from zeros. -/
def mulM (D t : Int) (ns : List Int) : List Int := ns.map fun n => (t * n) % D
theorem mulM_ok {D : Int} (h : 0 < D) (t : Int) (ns : List Int) : Ok D (mulM D t ns) := by
  intro x hx
  obtain ⟨d, _, rfl⟩ := List.mem_map.1 hx
  exact ⟨Int.emod_nonneg _ (by omega), Int.emod_lt_of_pos _ h⟩
theorem mulM_step (D t : Int) : ∀ ns : List Int, addM D 1 (mulM D t ns) ns = mulM D (t + 1) ns
  | [] => rfl
  | n :: ns => by
    have ih := mulM_step D t ns
    simp only [mulM, List.map_cons, addM] at *
    rw [ih]
    congr 1
    rw [Int.one_mul, Int.add_mul, Int.one_mul, Int.emod_add_emod]
theorem mulM_zero (D : Int) (ns : List Int) : mulM D 0 ns = List.replicate ns.length 0 := by
  induction ns with
  | nil => rfl
  | cons n ns ih => simp only [mulM, List.map_cons, Int.zero_mul, Int.zero_emod, List.length_cons, List.replicate_succ] at *; rw [ih]
theorem mulM_iff {D : Int} (hD : 0 < D) {ns : List Int} (hn : Ok D ns) (t : Nat) : mulM D t ns = List.replicate ns.length 0 ↔ D.toNat / gcds D.toNat ns ∣ t := by
  rw [← period_iff (by omega) ns t]
  have e : ∀ n ∈ ns, (((t : Int) * n) % D = 0 ↔ D.toNat ∣ t * n.toNat) := by
    intro n h
    have hb := hn n h
    have e1 : (t : Int) * n = ((t * n.toNat : Nat) : Int) := by rw [Int.natCast_mul, Int.toNat_of_nonneg hb.1]
    rw [e1]
    have e2 : D = ((D.toNat : Nat) : Int) := by omega
    rw [Nat.dvd_iff_mod_eq_zero]
    conv => lhs; rw [e2]
    rw [← Int.natCast_emod]
    omega
  constructor
  · intro h n hm
    rw [← e n hm]
    have : ((t : Int) * n) % D ∈ mulM D t ns := List.mem_map_of_mem hm
    rw [h] at this
    exact List.eq_of_mem_replicate this
  · intro h
    apply List.eq_replicate_iff.2
    refine ⟨by simp [mulM], fun b hb => ?_⟩
    obtain ⟨n, hm, rfl⟩ := List.mem_map.1 hb
    exact (e n hm).2 (h n hm)
theorem jperiod_l0 {W D i : Int} {ks : List (List Int)} (hg : gearsM W D ks = true) (h0 : 0 ≤ i) (h1 : i < ks.length) (m : Nat) (hm : m = D.toNat / gcds D.toNat (rd_L1 ks i)) : ∀ (r t : Nat), 1 ≤ t → t + r = m →
    Ev (fun k => spec_PeriodOfKnob.l0 k i (txt (List.replicate W.toNat 0)) (txt (mulM D t (rd_L1 ks i))) (t : Int) W D ks) ((m : Int), true)
  | r, t, ht, e => by
    obtain ⟨⟨a, b, c, d⟩, _, _, _⟩ := gearsM_iff.1 hg
    obtain ⟨k1, k2⟩ := knob_mem hg h0 h1
    have hml : (mulM D (t : Int) (rd_L1 ks i)).length = (rd_L1 ks i).length := by simp [mulM]
    have hiff := mulM_iff (D := D) (by omega) k2 t
    have hm10 : m ≤ 10 := by rw [hm]; exact Nat.le_trans (Nat.div_le_self _ _) (by omega)
    have hW : W.toNat = (rd_L1 ks i).length := by omega
    have key : (txt (mulM D (t : Int) (rd_L1 ks i))).toList = (txt (List.replicate W.toNat 0)).toList ↔ m ∣ t := by
      rw [toList_inj, hm, ← hiff, hW]
      constructor
      · intro h; exact txt_inj ((mulM_ok (by omega) _ _).le d) (Ok.rep (by omega) _) h
      · intro h; rw [h]
    refine Ev.succ ?_
    simp only [spec_PeriodOfKnob.l0]
    match r, e with
    | 0, e =>
      have : t = m := by omega
      subst this
      exact Ev.pos (key.2 (Nat.dvd_refl _)) (Ev.now _)
    | r + 1, e =>
      refine Ev.neg (fun h => ?_) ?_
      · have := Nat.le_of_dvd (by omega) (key.1 h); omega
      · refine Ev.bind (joTurn_ev hg (c := 1) (by omega) h0 h1 (mulM_ok (by omega) _ _) (by rw [hml]; exact k1)) ?_
        rw [mulM_step, wrap_id (x := (t : Int) + 1) (by omega) (by omega)]
        exact jperiod_l0 hg h0 h1 m hm r (t + 1) (by omega) (by omega)
def PeriodM (W D : Int) (ks : List (List Int)) (i : Int) : Int × Bool := if (gearsM W D ks && decide (0 ≤ i ∧ i ≤ (ks.length : Int) - 1)) = true then (D / (gcds D.toNat (rd_L1 ks i) : Int), true) else (0, false)
theorem PeriodOfKnob_i (W D : Int) (ks : List (List Int)) (i : Int) (hl : ks.length ≤ 1048576) (hk : ∀ k ∈ ks, k.length ≤ 1048576) : Ev (fun k => impl_PeriodOfKnob.f k W D ks i) (PeriodM W D ks i) := by
  unfold impl_PeriodOfKnob.f PeriodM
  refine Ev.bind (hasKnob_ev W D ks i hl hk) ?_
  by_cases h : (gearsM W D ks && decide (0 ≤ i ∧ i ≤ (ks.length : Int) - 1)) = true
  · obtain ⟨hg, hi⟩ := Bool.and_eq_true_iff.1 h
    have hi' := of_decide_eq_true hi
    obtain ⟨⟨a, b, c, d⟩, _, _, _⟩ := gearsM_iff.1 hg
    obtain ⟨k1, k2⟩ := knob_mem hg hi'.1 (by omega)
    rw [if_pos h]
    refine Ev.pos h (Ev.pos hi'.1 (Ev.pos (by omega) ?_))
    have := period_l0 (W := W) (D := D) (ks := ks) ⟨c, d⟩ (rd_L1 ks i) [] D.toNat (by omega) (by omega) k2 (by simp; omega)
    rw [show ((D.toNat : Nat) : Int) = D by omega] at this
    exact this
  · rw [if_neg h]; exact Ev.neg h (Ev.now _)
theorem PeriodOfKnob_s (W D : Int) (ks : List (List Int)) (i : Int) (hl : ks.length ≤ 1048576) (hk : ∀ k ∈ ks, k.length ≤ 1048576) : Ev (fun k => spec_PeriodOfKnob.f k W D ks i) (PeriodM W D ks i) := by
  unfold spec_PeriodOfKnob.f PeriodM
  refine Ev.bind (joGood_ev W D ks hl hk) ?_
  by_cases hg : gearsM W D ks = true
  · obtain ⟨⟨a, b, c, d⟩, _, h5, _⟩ := gearsM_iff.1 hg
    rw [hg, Bool.true_and, wrap_id (x := (ks.length : Int) - 1) (by omega) (by omega)]
    refine Ev.pos rfl (Ev.bind0 (l1In_f _ _ _) (Ev.succ ?_))
    simp only [spec_PeriodOfKnob.j0]
    by_cases hi : 0 ≤ i ∧ i ≤ (ks.length : Int) - 1
    · obtain ⟨k1, k2⟩ := knob_mem hg hi.1 (by omega)
      have hW : W.toNat = (rd_L1 ks i).length := by omega
      rw [decide_eq_true hi, if_pos rfl]
      refine Ev.neg (by simp) (Ev.bind (whOf_ev ⟨by omega, b⟩ ⟨c, d⟩ (Int.le_refl 0) (by omega)) ?_)
      rw [cod_zero]
      refine Ev.bind (joTurn_ev hg (c := 1) (by omega) hi.1 (by omega) (Ok.rep (by omega) _) (by simp; omega)) ?_
      have hp := gcds_pos (rd_L1 ks i) D.toNat (by omega)
      have hm1 : 1 ≤ D.toNat / gcds D.toNat (rd_L1 ks i) := Nat.div_pos hp.2 hp.1
      have := jperiod_l0 hg hi.1 (by omega) _ rfl (D.toNat / gcds D.toNat (rd_L1 ks i) - 1) 1 (by omega) (by omega)
      have e1 : addM D 1 (List.replicate W.toNat 0) (rd_L1 ks i) = mulM D ((1 : Nat) : Int) (rd_L1 ks i) := by
        rw [hW, ← mulM_zero D]; exact mulM_step D 0 _
      rw [e1]
      rw [Int.natCast_ediv, show ((D.toNat : Nat) : Int) = D by omega] at this
      exact this
    · rw [decide_eq_false hi]
      exact Ev.pos (by simp) (Ev.val (by simp))
  · refine Ev.neg hg (Ev.succ ?_)
    simp only [spec_PeriodOfKnob.j0]
    refine Ev.pos trivial (Ev.val ?_)
    rw [if_neg (by intro h'; exact hg (Bool.and_eq_true_iff.1 h').1)]
theorem szIntS_f (l : List Int) (hl : l.length ≤ 9223372036854775807) {c : Int} (h0 : 0 ≤ c) (h1 : c ≤ 1048576) : laws_szIntS.f l c = some (if c - (l.length : Int) < 0 then -1 else c - (l.length : Int)) := by
  unfold laws_szIntS.f
  rw [wrap_id (x := c - (l.length : Int)) (by omega) (by omega)]
  split <;> rfl
theorem szIntSS_l0 : ∀ (t p : List (List Int)) (c : Int), (∀ s ∈ t, s.length ≤ 9223372036854775807) → (p ++ t).length ≤ 9223372036854775806 → 0 ≤ c → c ≤ 1048576 →
    ∃ r, Ev (fun k => laws_szIntSS.l0 k (p ++ t) c (p.length : Int)) r ∧ (r < 0 ∨ (∀ s ∈ t, s.length ≤ 1048576))
  | [], p, c, hs, hl, h0, h1 => by
    refine ⟨c, Ev.succ ?_, .inr (by simp)⟩
    simp only [laws_szIntSS.l0]
    exact Ev.neg (len_end p) (Ev.now _)
  | x :: t, p, c, hs, hl, h0, h1 => by
    rw [List.length_append, List.length_cons] at hl
    have hx := hs x (by simp)
    have hf := szIntS_f x hx h0 h1
    by_cases h : c - (x.length : Int) < 0
    · rw [if_pos h] at hf
      refine ⟨-1, Ev.succ ?_, .inl (by omega)⟩
      simp only [laws_szIntSS.l0]
      refine Ev.pos (len_mid p t x) (Ev.pos (by omega) ?_)
      rw [rdL_mid1]
      exact Ev.bind0 hf (Ev.pos (by omega) (Ev.now _))
    · rw [if_neg h] at hf
      obtain ⟨r, hr, hp⟩ := szIntSS_l0 t (p ++ [x]) (c - (x.length : Int)) (fun s h' => hs s (by simp [h'])) (by simp; omega) (by omega) (by omega)
      refine ⟨r, Ev.succ ?_, hp.imp id (fun h' s hs' => ?_)⟩
      · simp only [laws_szIntSS.l0]
        refine Ev.pos (len_mid p t x) (Ev.pos (by omega) ?_)
        rw [rdL_mid1]
        refine Ev.bind0 hf (Ev.neg h ?_)
        rw [len_next p x (by omega), app_next p t x]
        exact hr
      · rcases List.mem_cons.1 hs' with rfl | h2
        · omega
        · exact h' s h2
theorem szGears_ev (W D : Int) (l : List (List Int)) (hl : l.length ≤ 9223372036854775807) (hs : ∀ s ∈ l, s.length ≤ 9223372036854775807) :
    ∃ r, Ev (fun k => laws_szGears.f k W D l 1048576) r ∧ (r < 0 ∨ (l.length ≤ 1048576 ∧ ∀ s ∈ l, s.length ≤ 1048576)) := by
  have key : ∃ r, Ev (fun k => laws_szIntSS.f k l 1048576) r ∧ (r < 0 ∨ (l.length ≤ 1048576 ∧ ∀ s ∈ l, s.length ≤ 1048576)) := by
    by_cases h : (1048576 : Int) - (l.length : Int) < 0
    · refine ⟨-1, ?_, .inl (by omega)⟩
      unfold laws_szIntSS.f
      rw [wrap_id (x := (1048576 : Int) - (l.length : Int)) (by omega) (by omega)]
      exact Ev.pos h (Ev.now _)
    · obtain ⟨r, hr, hp⟩ := szIntSS_l0 l [] ((1048576 : Int) - (l.length : Int)) hs (by simp; omega) (by omega) (by omega)
      refine ⟨r, ?_, hp.imp id (fun h' => ⟨by omega, h'⟩)⟩
      unfold laws_szIntSS.f
      rw [wrap_id (x := (1048576 : Int) - (l.length : Int)) (by omega) (by omega)]
      exact Ev.neg h hr
  obtain ⟨r, hr, hp⟩ := key
  by_cases h : r < 0
  · exact ⟨-1, by unfold laws_szGears.f; exact Ev.bind hr (Ev.pos h (Ev.now _)), .inl (by omega)⟩
  · exact ⟨r, by unfold laws_szGears.f; exact Ev.bind hr (Ev.neg h (Ev.now _)), hp⟩
theorem toIntS_l0 : ∀ (t p u : List Int), t.length = u.length → (p ++ t).length ≤ 1048576 → Ev (fun k => laws_toIntS.l0 k (p ++ t) (p ++ u) (p.length : Int)) (p ++ t)
  | [], p, u, e, hl => by
    have : u = [] := List.length_eq_zero_iff.1 e.symm
    subst this
    refine Ev.succ ?_
    simp only [laws_toIntS.l0]
    exact Ev.neg (len_end p) (Ev.now _)
  | x :: t, p, [], e, hl => by simp at e
  | x :: t, p, y :: u, e, hl => by
    rw [List.length_append, List.length_cons] at hl
    refine Ev.succ ?_
    simp only [laws_toIntS.l0]
    refine Ev.pos (len_mid p t x) (Ev.pos (by omega) (Ev.pos (len_mid p u y) ?_))
    rw [rd_mid, set_mid, len_next p x (by omega), app_next p t x, app_next p u x]
    exact toIntS_l0 t (p ++ [x]) u (by simpa using e) (by simp; omega)
theorem toIntS_ev (l : List Int) (hl : l.length ≤ 1048576) : Ev (fun k => laws_toIntS.f k l) l := by
  unfold laws_toIntS.f
  refine Ev.pos (by omega) (Ev.pos (by omega) ?_)
  exact toIntS_l0 l [] _ (by simp) hl
theorem toIntSS_l0 : ∀ (t p u : List (List Int)), (∀ s ∈ t, s.length ≤ 1048576) → t.length = u.length → (p ++ t).length ≤ 1048576 → Ev (fun k => laws_toIntSS.l0 k (p ++ t) (p ++ u) (p.length : Int)) (p ++ t)
  | [], p, u, hs, e, hl => by
    have : u = [] := List.length_eq_zero_iff.1 e.symm
    subst this
    refine Ev.succ ?_
    simp only [laws_toIntSS.l0]
    exact Ev.neg (len_end p) (Ev.now _)
  | x :: t, p, [], hs, e, hl => by simp at e
  | x :: t, p, y :: u, hs, e, hl => by
    rw [List.length_append, List.length_cons] at hl
    refine Ev.succ ?_
    simp only [laws_toIntSS.l0]
    refine Ev.pos (len_mid p t x) (Ev.pos (by omega) ?_)
    rw [rdL_mid1]
    refine Ev.bind (toIntS_ev x (hs x (by simp))) (Ev.pos (len_mid p u y) ?_)
    rw [set_mid, len_next p x (by omega), app_next p t x, app_next p u x]
    exact toIntSS_l0 t (p ++ [x]) u (fun s h => hs s (by simp [h])) (by simpa using e) (by simp; omega)
theorem toGears_ev (W D : Int) (l : List (List Int)) (hl : l.length ≤ 1048576) (hs : ∀ s ∈ l, s.length ≤ 1048576) : Ev (fun k => laws_toGears.f k W D l) (W, D, l) := by
  unfold laws_toGears.f laws_toIntSS.f
  refine Ev.bind0 rfl (Ev.bind (a := l) (Ev.pos (by omega) (Ev.pos (by omega) ?_)) (Ev.now _))
  exact toIntSS_l0 l [] _ hs (by simp) hl
theorem eqIntS_l0 : ∀ (t p : List Int), (p ++ t).length ≤ 9223372036854775806 → Ev (fun k => laws_eqIntS.l0 k (p ++ t) (p ++ t) (p.length : Int)) true
  | [], p, hl => by
    refine Ev.succ ?_
    simp only [laws_eqIntS.l0]
    exact Ev.neg (len_end p) (Ev.now _)
  | x :: t, p, hl => by
    rw [List.length_append, List.length_cons] at hl
    refine Ev.succ ?_
    simp only [laws_eqIntS.l0]
    refine Ev.pos (len_mid p t x) (Ev.pos (by omega) (Ev.pos (len_mid p t x) ?_))
    refine Ev.pos trivial ?_
    rw [len_next p x (by omega), app_next p t x]
    exact eqIntS_l0 t (p ++ [x]) (by simp; omega)
theorem eqIntS_ev (l : List Int) (hl : l.length ≤ 9223372036854775806) : Ev (fun k => laws_eqIntS.f k l l) true := by
  unfold laws_eqIntS.f
  exact Ev.pos rfl (eqIntS_l0 l [] hl)
theorem eqIntSS_l0 : ∀ (t p : List (List Int)), (∀ s ∈ t, s.length ≤ 1048576) → (p ++ t).length ≤ 9223372036854775806 → Ev (fun k => laws_eqIntSS.l0 k (p ++ t) (p ++ t) (p.length : Int)) true
  | [], p, hs, hl => by
    refine Ev.succ ?_
    simp only [laws_eqIntSS.l0]
    exact Ev.neg (len_end p) (Ev.now _)
  | x :: t, p, hs, hl => by
    rw [List.length_append, List.length_cons] at hl
    refine Ev.succ ?_
    simp only [laws_eqIntSS.l0]
    refine Ev.pos (len_mid p t x) (Ev.pos (by omega) (Ev.pos (len_mid p t x) ?_))
    rw [rdL_mid1]
    refine Ev.bind (eqIntS_ev x (by have := hs x (by simp); omega)) (Ev.pos rfl ?_)
    rw [len_next p x (by omega), app_next p t x]
    exact eqIntSS_l0 t (p ++ [x]) (fun s h => hs s (by simp [h])) (by simp; omega)
theorem eqGears_ev (W D : Int) (l : List (List Int)) (hl : l.length ≤ 1048576) (hs : ∀ s ∈ l, s.length ≤ 1048576) : Ev (fun k => laws_eqGears.f k W D l W D l) true := by
  unfold laws_eqGears.f laws_eqIntSS.f
  refine Ev.bind0 (a := true) (by unfold laws_eqLock.f; simp) (Ev.pos rfl (Ev.bind (a := true) (Ev.pos rfl (eqIntSS_l0 l [] hs (by simp; omega))) (Ev.pos rfl (Ev.now _))))
end Go.Proofs.Ytffjfnoocbgajaa.L
