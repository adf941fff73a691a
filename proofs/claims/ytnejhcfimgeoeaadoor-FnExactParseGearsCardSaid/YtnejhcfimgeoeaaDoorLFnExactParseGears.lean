/- What the printed functions that FnExactParseGears reaches come to: lemmas for its plain law. -/
import Derived.Lib.IndexMore
import Derived.Lib.Split
import Derived.Lib.SplitLaws
import Derived.Test.YtnejhcfimgeoeaaDoorGl
import Derived.Test.YtnejhcfimgeoeaaDoorMath
import Derived.Test.YtnejhcfimgeoeaaDoorP0
import Derived.Test.YtnejhcfimgeoeaaDoorP1
import Derived.Test.YtnejhcfimgeoeaaDoorP2
import Derived.Test.YtnejhcfimgeoeaaDoorP3
import Derived.Test.YtnejhcfimgeoeaaDoorP4
import Derived.Test.YtnejhcfimgeoeaaDoorP5
import Derived.Test.YtnejhcfimgeoeaaDoorP6
import Derived.Test.YtnejhcfimgeoeaaDoorP7
import Derived.Test.YtnejhcfimgeoeaaDoorP8
import Derived.Test.YtnejhcfimgeoeaaDoorP9
import Derived.Test.YtnejhcfimgeoeaaDoorP10
import Derived.Test.YtnejhcfimgeoeaaDoorP11
import Derived.Test.YtnejhcfimgeoeaaDoorP12
import Derived.Test.YtnejhcfimgeoeaaDoorP13
import Derived.Test.YtnejhcfimgeoeaaDoorP14
import Derived.Test.YtnejhcfimgeoeaaDoorP15
import Derived.Test.YtnejhcfimgeoeaaDoorP16
import Derived.Test.YtnejhcfimgeoeaaDoorP17
import Derived.Test.YtnejhcfimgeoeaaDoorP18
import Derived.Test.YtnejhcfimgeoeaaDoorP19
import Derived.Test.YtnejhcfimgeoeaaDoorP20
import Derived.Test.YtnejhcfimgeoeaaDoorP21
import Derived.Test.YtnejhcfimgeoeaaDoorP22
import Derived.Test.YtnejhcfimgeoeaaDoorP23
namespace Go.Proofs.YtnejhcfimgeoeaaDoor.L
open Go.RowKit Go.Proofs.YtnejhcfimgeoeaaDoorW.PrintWords Go.Proofs.YtnejhcfimgeoeaaDoorW.PrintMore Go.Proofs.YtnejhcfimgeoeaaDoor.M Go.Proofs.YtnejhcfimgeoeaaDoor.P
set_option linter.unusedVariables false
set_option linter.unusedSimpArgs false
theorem whGood_f (W D : Int) : spec_whGood.f W D = some (good W D) := by
  unfold spec_whGood.f spec_l1In.f good
  by_cases h1 : 1 ≤ W <;> by_cases h2 : W ≤ 6 <;> by_cases h3 : 2 ≤ D <;> by_cases h4 : D ≤ 10 <;> simp [h1, h2, h3, h4]
theorem IsLock_i (W D : Int) : impl_IsLock.f W D = some (good W D) := by
  unfold impl_IsLock.f impl_within.f good
  by_cases h1 : 1 ≤ W <;> by_cases h2 : W ≤ 6 <;> by_cases h3 : 2 ≤ D <;> by_cases h4 : D ≤ 10 <;> simp [h1, h2, h3, h4]
theorem l1In_f (n lo hi : Int) : spec_l1In.f n lo hi = some (decide (lo ≤ n ∧ n ≤ hi)) := by
  unfold spec_l1In.f
  by_cases h1 : lo ≤ n <;> by_cases h2 : n ≤ hi <;> simp [h1, h2]
theorem within_f (n lo hi : Int) : impl_within.f n lo hi = some (decide (lo ≤ n ∧ n ≤ hi)) := by
  unfold impl_within.f
  by_cases h1 : lo ≤ n <;> by_cases h2 : n ≤ hi <;> simp [h1, h2]

theorem whCount_l0 {W D : Int} (h0 : 2 ≤ D) (h1 : D ≤ 10) : ∀ (m n : Nat), n + m ≤ 6 → Ev (fun k => spec_whCount.l0 k (pw D n) (m : Int) W D) (pw D (n + m))
  | 0, n, h => by
    refine Ev.succ ?_
    simp only [spec_whCount.l0]
    exact Ev.neg (by omega) (Ev.now _)
  | m + 1, n, h => by
    have b := pw_le6 (D := D) (by omega) h1 (n := n + 1) (by omega)
    have p := pw_pos (D := D) (by omega) (n + 1)
    refine Ev.succ ?_
    simp only [spec_whCount.l0]
    refine Ev.pos (by omega) ?_
    rw [show wrap64 (pw D n * D) = pw D (n + 1) from wrap_id (by rw [pw] at *; omega) (by rw [pw] at *; omega), show wrap64 (((m + 1 : Nat) : Int) - 1) = (m : Int) by rw [wrap_id] <;> omega,
      show n + (m + 1) = (n + 1) + m by omega]
    exact whCount_l0 h0 h1 m (n + 1) (by omega)
theorem whCount_ev {W D : Int} (h : good W D = true) : Ev (fun k => spec_whCount.f k W D) (pw D W.toNat) := by
  obtain ⟨a, b, c, d⟩ := good_iff.1 h
  obtain ⟨w, rfl⟩ := Int.eq_ofNat_of_zero_le (show 0 ≤ W by omega)
  unfold spec_whCount.f
  have := whCount_l0 (W := w) c d w 0 (by omega)
  rw [Nat.zero_add] at this
  exact this
theorem power_l0 {D : Int} (h0 : 2 ≤ D) (h1 : D ≤ 10) : ∀ (m n : Nat), n + m ≤ 6 → Ev (fun k => impl_power.l0 k D (pw D n) ((n + m : Nat) : Int) (n : Int)) (pw D (n + m))
  | 0, n, h => by
    refine Ev.succ ?_
    simp only [impl_power.l0]
    exact Ev.neg (by omega) (Ev.now _)
  | m + 1, n, h => by
    have b := pw_le6 (D := D) (by omega) h1 (n := n + 1) (by omega)
    have p := pw_pos (D := D) (by omega) (n + 1)
    refine Ev.succ ?_
    simp only [impl_power.l0]
    refine Ev.pos (by omega) ?_
    rw [show wrap64 (pw D n * D) = pw D (n + 1) from wrap_id (by rw [pw] at *; omega) (by rw [pw] at *; omega), show wrap64 ((n : Int) + 1) = ((n + 1 : Nat) : Int) by rw [wrap_id] <;> omega,
      show n + (m + 1) = (n + 1) + m by omega]
    exact power_l0 h0 h1 m (n + 1) (by omega)
theorem count_ev {W D : Int} (h : good W D = true) : Ev (fun k => impl_Lock_count.f k W D) (pw D W.toNat) := by
  obtain ⟨a, b, c, d⟩ := good_iff.1 h
  obtain ⟨w, rfl⟩ := Int.eq_ofNat_of_zero_le (show 0 ≤ W by omega)
  unfold impl_Lock_count.f impl_power.f
  have := power_l0 c d w 0 (by omega)
  rw [Nat.zero_add] at this
  exact Ev.bind this (Ev.now _)

theorem dgs_app {s : ByteArray} {p t : List Int} (e : bys s = p ++ t) : dgs s = (p.map fun b => (b - 48) % 256) ++ (t.map fun b => (b - 48) % 256) := by
  unfold dgs; rw [e, List.map_append]
theorem whDigits_l0 {s : ByteArray} (hs : s.size ≤ 1048576) : ∀ (t p : List Int), bys s = p ++ t → Ev (fun k => spec_whDigits.l0 k s (p.map fun b => (b - 48) % 256) (p.length : Int)) (dgs s)
  | [], p, e => by
    have el : p.length = s.size := by rw [← bys_length, e]; simp
    refine Ev.succ ?_
    simp only [spec_whDigits.l0]
    refine Ev.neg (by omega) (Ev.val ?_)
    rw [dgs_app e]; simp
  | x :: t, p, e => by
    have el : p.length + (t.length + 1) = s.size := by rw [← bys_length, e]; simp
    refine Ev.succ ?_
    simp only [spec_whDigits.l0]
    refine Ev.pos (by omega) (Ev.pos (by omega) (Ev.pos (by rw [List.length_map]; omega) ?_))
    rw [bt_bys, e, rd_mid, show wrap64 ((p.length : Int) + 1) = ((p ++ [x]).length : Int) from len_next p x (by omega)]
    have := whDigits_l0 hs t (p ++ [x]) (by rw [e]; simp)
    rw [List.map_append] at this
    exact this
theorem whDigits_ev (s : ByteArray) (hs : s.size ≤ 1048576) : Ev (fun k => spec_whDigits.f k s) (dgs s) := by
  unfold spec_whDigits.f
  exact whDigits_l0 hs (bys s) [] rfl
theorem digits_l0 {s : ByteArray} (hs : s.size ≤ 1048576) : ∀ (t p : List Int), bys s = p ++ t → Ev (fun k => impl_digits.l0 k s (p.map fun b => (b - 48) % 256) (s.size : Int) (p.length : Int)) (dgs s)
  | [], p, e => by
    have el : p.length = s.size := by rw [← bys_length, e]; simp
    refine Ev.succ ?_
    simp only [impl_digits.l0]
    refine Ev.neg (by omega) (Ev.val ?_)
    rw [dgs_app e]; simp
  | x :: t, p, e => by
    have el : p.length + (t.length + 1) = s.size := by rw [← bys_length, e]; simp
    refine Ev.succ ?_
    simp only [impl_digits.l0]
    refine Ev.pos (by omega) (Ev.pos (by omega) (Ev.pos (by omega) (Ev.pos (by rw [List.length_map]; omega) ?_)))
    rw [bt_bys, e, rd_mid, show wrap64 ((p.length : Int) + 1) = ((p ++ [x]).length : Int) from len_next p x (by omega)]
    have := digits_l0 hs t (p ++ [x]) (by rw [e]; simp)
    rw [List.map_append] at this
    exact this
theorem digits_ev (s : ByteArray) (hs : s.size ≤ 1048576) : Ev (fun k => impl_digits.f k s) (dgs s) := by
  unfold impl_digits.f
  exact digits_l0 hs (bys s) [] rfl
theorem l1Num_ev {d : Int} (h0 : 0 ≤ d) (h1 : d < 10) : Ev (fun k => spec_l1Num.f k d) (txt [d]) := by
  refine Ev.succ ?_
  simp only [spec_l1Num.f]
  refine Ev.pos h1 (Ev.val ?_)
  rw [wrap_id (by omega) (by omega), show (48 + d) % 256 = 48 + d by omega]; rfl
theorem whText_l0 : ∀ (t p : List Int), Ok 10 (p ++ t) → (p ++ t).length ≤ 1048576 → Ev (fun k => spec_whText.l0 k (txt p) (p ++ t) ((p ++ t).length : Int) (p.length : Int)) (txt (p ++ t))
  | [], p, h, hl => by
    refine Ev.succ ?_
    simp only [spec_whText.l0]
    refine Ev.neg (len_end p) (Ev.val (by simp))
  | x :: t, p, h, hl => by
    have hx := (Ok.cons.1 (Ok.append.1 h).2).1
    rw [List.length_append, List.length_cons] at hl
    refine Ev.succ ?_
    simp only [spec_whText.l0]
    refine Ev.pos (len_mid p t x) (Ev.pos (by omega) (Ev.pos (len_mid p t x) ?_))
    rw [rd_mid]
    refine Ev.bind (l1Num_ev hx.1 hx.2) (Ev.pos (by rw [txt_size, txt_size]; simp; omega) ?_)
    rw [len_next p x (by omega), txt_append, app_next p t x]
    refine whText_l0 t (p ++ [x]) (by rw [← app_next p t x]; exact h) (by simp; omega)
theorem whText_ev {ds : List Int} (h : Ok 10 ds) (hl : ds.length ≤ 1048576) : Ev (fun k => spec_whText.f k ds) (txt ds) := by
  unfold spec_whText.f
  exact whText_l0 ds [] h hl
theorem text_l0 : ∀ (t p : List Int), Ok 10 (p ++ t) → (p ++ t).length ≤ 1048576 → Ev (fun k => impl_text.l0 k (p.map (48 + ·)) (p ++ t) ((p ++ t).length : Int) (p.length : Int)) (txt (p ++ t))
  | [], p, h, hl => by
    refine Ev.succ ?_
    simp only [impl_text.l0]
    refine Ev.neg (len_end p) (Ev.val (by unfold txt; simp))
  | x :: t, p, h, hl => by
    have hx := (Ok.cons.1 (Ok.append.1 h).2).1
    rw [List.length_append, List.length_cons] at hl
    refine Ev.succ ?_
    simp only [impl_text.l0]
    refine Ev.pos (len_mid p t x) (Ev.pos (by omega) (Ev.pos (len_mid p t x) (Ev.pos (by rw [List.length_map]; omega) ?_)))
    rw [rd_mid, wrap_id (x := 48 + x) (by omega) (by omega), show (48 + x) % 256 = 48 + x by omega, len_next p x (by omega), app_next p t x]
    have := text_l0 t (p ++ [x]) (by rw [← app_next p t x]; exact h) (by simp; omega)
    rw [List.map_append] at this
    exact this
theorem text_ev {ds : List Int} (h : Ok 10 ds) (hl : ds.length ≤ 1048576) : Ev (fun k => impl_text.f k ds) (txt ds) := by
  unfold impl_text.f
  exact text_l0 ds [] h hl

theorem rdL_mid1 (p t : List (List Int)) (x : List Int) : rd_L2 (p ++ x :: t) (p.length : Int) = x := by
  unfold rd_L2; rw [Int.toNat_natCast, List.getD_eq_getElem?_getD, List.getElem?_append_right (Nat.le_refl _), Nat.sub_self]; rfl
def okK (W D : Int) (knob : List Int) : Bool := decide ((knob.length : Int) = W) && knob.all fun n => decide (0 ≤ n ∧ n ≤ D - 1)
theorem okK_iff {W D : Int} {knob : List Int} : okK W D knob = true ↔ (knob.length : Int) = W ∧ Ok D knob := by
  unfold okK Ok
  simp only [Bool.and_eq_true, decide_eq_true_eq, List.all_eq_true]
  constructor
  · rintro ⟨h1, h2⟩; exact ⟨h1, fun d hd => by have := h2 d hd; omega⟩
  · rintro ⟨h1, h2⟩; exact ⟨h1, fun d hd => by have := h2 d hd; omega⟩
def gearsM (W D : Int) (ks : List (List Int)) : Bool := good W D && (decide (pw D W.toNat ≤ 1000) && (decide (1 ≤ (ks.length : Int) ∧ (ks.length : Int) ≤ 5) && ks.all (okK W D)))
theorem gearsM_iff {W D : Int} {ks : List (List Int)} : gearsM W D ks = true ↔ (1 ≤ W ∧ W ≤ 6 ∧ 2 ≤ D ∧ D ≤ 10) ∧ pw D W.toNat ≤ 1000 ∧ (1 ≤ ks.length ∧ ks.length ≤ 5) ∧ ∀ k ∈ ks, (k.length : Int) = W ∧ Ok D k := by
  unfold gearsM
  simp only [Bool.and_eq_true, good_iff, decide_eq_true_eq, List.all_eq_true, okK_iff]
  constructor
  · rintro ⟨h1, h2, h3, h4⟩; exact ⟨h1, h2, by omega, h4⟩
  · rintro ⟨h1, h2, h3, h4⟩; exact ⟨h1, h2, by omega, h4⟩
theorem l1All_l0 {lo hi : Int} : ∀ (t p : List Int), (p ++ t).length ≤ 1048576 → Ev (fun k => spec_l1All.l0 k lo hi (p ++ t) ((p ++ t).length : Int) (p.length : Int)) (t.all fun n => decide (lo ≤ n ∧ n ≤ hi))
  | [], p, hl => by
    refine Ev.succ ?_
    simp only [spec_l1All.l0]
    exact Ev.neg (len_end p) (Ev.now _)
  | x :: t, p, hl => by
    rw [List.length_append, List.length_cons] at hl
    refine Ev.succ ?_
    simp only [spec_l1All.l0]
    refine Ev.pos (len_mid p t x) (Ev.pos (by omega) (Ev.pos (len_mid p t x) ?_))
    rw [rd_mid, l1In_f, len_next p x (by omega), app_next p t x]
    refine Ev.bind0 rfl ?_
    by_cases h : lo ≤ x ∧ x ≤ hi
    · refine Ev.pos (by simpa using h) ?_
      rw [List.all_cons, decide_eq_true h, Bool.true_and]
      exact l1All_l0 t (p ++ [x]) (by simp; omega)
    · refine Ev.neg (by simpa using h) (Ev.val ?_)
      rw [List.all_cons, decide_eq_false h]; rfl
theorem l1All_ev (l : List Int) (lo hi : Int) (hl : l.length ≤ 1048576) : Ev (fun k => spec_l1All.f k l lo hi) (l.all fun n => decide (lo ≤ n ∧ n ≤ hi)) := by
  unfold spec_l1All.f
  exact l1All_l0 l [] hl
theorem joKnob_ev {W D : Int} (hD : 2 ≤ D ∧ D ≤ 10) (l : List Int) (hl : l.length ≤ 1048576) : Ev (fun k => spec_joKnob.f k W D l) (okK W D l) := by
  unfold spec_joKnob.f okK
  by_cases h : (l.length : Int) = W
  · refine Ev.pos h ?_
    rw [decide_eq_true h, Bool.true_and, wrap_id (x := D - 1) (by omega) (by omega)]
    exact Ev.bind (l1All_ev l 0 (D - 1) hl) (Ev.now _)
  · refine Ev.neg h (Ev.val ?_)
    rw [decide_eq_false h]; rfl
theorem joGood_l0 {W D : Int} (hD : 2 ≤ D ∧ D ≤ 10) {ks0 : List (List Int)} : ∀ (t p : List (List Int)), (∀ k ∈ t, k.length ≤ 1048576) → (p ++ t).length ≤ 1048576 → Ev (fun k => spec_joGood.l0 k (p ++ t) ((p ++ t).length : Int) (p.length : Int) W D ks0) (t.all (okK W D))
  | [], p, hk, hl => by
    refine Ev.succ ?_
    simp only [spec_joGood.l0]
    exact Ev.neg (len_end p) (Ev.now _)
  | x :: t, p, hk, hl => by
    rw [List.length_append, List.length_cons] at hl
    refine Ev.succ ?_
    simp only [spec_joGood.l0]
    refine Ev.pos (len_mid p t x) (Ev.pos (by omega) (Ev.pos (len_mid p t x) ?_))
    rw [rdL_mid1, len_next p x (by omega), app_next p t x]
    refine Ev.bind (joKnob_ev hD x (hk x (by simp))) ?_
    by_cases h : okK W D x = true
    · refine Ev.pos h ?_
      rw [List.all_cons, h, Bool.true_and]
      exact joGood_l0 hD t (p ++ [x]) (fun k h' => hk k (by simp [h'])) (by simp; omega)
    · refine Ev.neg h (Ev.val ?_)
      simp [h]
theorem joGood_ev (W D : Int) (ks : List (List Int)) (hl : ks.length ≤ 1048576) (hk : ∀ k ∈ ks, k.length ≤ 1048576) : Ev (fun k => spec_joGood.f k W D ks) (gearsM W D ks) := by
  unfold spec_joGood.f gearsM
  refine Ev.bind0 (whGood_f W D) ?_
  by_cases h : good W D = true
  · obtain ⟨a, b, c, d⟩ := good_iff.1 h
    rw [h, Bool.true_and]
    refine Ev.pos rfl (Ev.bind (whCount_ev h) ?_)
    by_cases h1 : pw D W.toNat > 1000
    · refine Ev.pos h1 (Ev.succ ?_)
      simp only [spec_joGood.j0]
      refine Ev.pos trivial (Ev.val ?_)
      rw [decide_eq_false (by omega)]; rfl
    · refine Ev.neg h1 (Ev.bind0 (l1In_f _ _ _) (Ev.succ ?_))
      rw [decide_eq_true (show pw D W.toNat ≤ 1000 by omega), Bool.true_and]
      simp only [spec_joGood.j0]
      by_cases h2 : 1 ≤ (ks.length : Int) ∧ (ks.length : Int) ≤ 5
      · rw [decide_eq_true h2, Bool.true_and]
        refine Ev.neg (by simp) ?_
        exact joGood_l0 ⟨c, d⟩ ks [] hk hl
      · rw [decide_eq_false h2]
        exact Ev.pos (by simp) (Ev.now _)
  · refine Ev.neg h (Ev.succ ?_)
    simp only [spec_joGood.j0]
    refine Ev.pos trivial (Ev.val ?_)
    simp [h]
theorem areG_l1 {W D : Int} (hD : 2 ≤ D ∧ D ≤ 10) {X19 : List (List Int)} {X20 X21 : Int} {ks0 : List (List Int)} {b : Bool} : ∀ (t p : List Int), (p ++ t).length ≤ 1048576 →
    Ev (fun k => impl_AreGears.l0 k X19 X20 (wrap64 (X21 + 1)) W D ks0) b →
    Ev (fun k => impl_AreGears.l1 k X19 X20 X21 (p ++ t) ((p ++ t).length : Int) (p.length : Int) W D ks0) ((t.all fun n => decide (0 ≤ n ∧ n ≤ D - 1)) && b)
  | [], p, hl, h => by
    refine Ev.succ ?_
    simp only [impl_AreGears.l1]
    refine Ev.neg (len_end p) ?_
    rw [List.all_nil, Bool.true_and]; exact h
  | x :: t, p, hl, h => by
    rw [List.length_append, List.length_cons] at hl
    refine Ev.succ ?_
    simp only [impl_AreGears.l1]
    refine Ev.pos (len_mid p t x) (Ev.pos (by omega) (Ev.pos (len_mid p t x) ?_))
    rw [rd_mid, within_f, wrap_id (x := D - 1) (by omega) (by omega), len_next p x (by omega), app_next p t x]
    refine Ev.bind0 rfl ?_
    by_cases hx : 0 ≤ x ∧ x ≤ D - 1
    · refine Ev.pos (by simpa using hx) ?_
      rw [List.all_cons, decide_eq_true hx, Bool.true_and]
      exact areG_l1 hD t (p ++ [x]) (by simp; omega) h
    · refine Ev.neg (by simpa using hx) (Ev.val ?_)
      rw [List.all_cons, decide_eq_false hx]; rfl
theorem areG_l0 {W D : Int} (hD : 2 ≤ D ∧ D ≤ 10) {ks0 : List (List Int)} : ∀ (t p : List (List Int)), (∀ k ∈ t, k.length ≤ 1048576) → (p ++ t).length ≤ 1048576 → Ev (fun k => impl_AreGears.l0 k (p ++ t) ((p ++ t).length : Int) (p.length : Int) W D ks0) (t.all (okK W D))
  | [], p, hk, hl => by
    refine Ev.succ ?_
    simp only [impl_AreGears.l0]
    exact Ev.neg (len_end p) (Ev.now _)
  | x :: t, p, hk, hl => by
    have hl0 := hl
    rw [List.length_append, List.length_cons] at hl
    refine Ev.succ ?_
    simp only [impl_AreGears.l0]
    refine Ev.pos (len_mid p t x) (Ev.pos (by omega) (Ev.pos (len_mid p t x) ?_))
    rw [rdL_mid1]
    have ih := areG_l0 (W := W) hD (ks0 := ks0) t (p ++ [x]) (fun k h' => hk k (by simp [h'])) (by simp; omega)
    by_cases h : (x.length : Int) = W
    · refine Ev.pos h ?_
      rw [List.all_cons]
      have : okK W D x = x.all fun n => decide (0 ≤ n ∧ n ≤ D - 1) := by unfold okK; rw [decide_eq_true h, Bool.true_and]
      rw [this]
      refine areG_l1 hD (X20 := ((p ++ x :: t).length : Int)) x [] (hk x (by simp)) ?_
      rw [len_next p x (by omega), app_next p t x]
      exact ih
    · refine Ev.neg h (Ev.val ?_)
      simp [okK, h]
theorem AreGears_i (W D : Int) (ks : List (List Int)) (hl : ks.length ≤ 1048576) (hk : ∀ k ∈ ks, k.length ≤ 1048576) : Ev (fun k => impl_AreGears.f k W D ks) (gearsM W D ks) := by
  unfold impl_AreGears.f gearsM
  have e : impl_isSmall.f = fun k a b m => (impl_IsLock.f a b).bind fun t => if t = true then ((impl_Lock_count.f k a b).bind fun t2 => some (decide (t2 ≤ m))) else some false := by
    funext k a b m; unfold impl_isSmall.f; rfl
  by_cases h : good W D = true
  · obtain ⟨a, b, c, d⟩ := good_iff.1 h
    rw [h, Bool.true_and]
    refine Ev.bind (a := decide (pw D W.toNat ≤ 1000)) ?_ ?_
    · rw [e]; exact Ev.bind0 (IsLock_i W D) (Ev.pos h (Ev.bind (count_ev h) (Ev.now _)))
    by_cases h1 : pw D W.toNat ≤ 1000
    · rw [decide_eq_true h1, Bool.true_and]
      refine Ev.pos rfl (Ev.bind0 (within_f _ _ _) (Ev.succ ?_))
      simp only [impl_AreGears.j0]
      by_cases h2 : 1 ≤ (ks.length : Int) ∧ (ks.length : Int) ≤ 5
      · rw [decide_eq_true h2, Bool.true_and]
        refine Ev.neg (by simp) ?_
        exact areG_l0 ⟨c, d⟩ ks [] hk hl
      · rw [decide_eq_false h2]
        exact Ev.pos (by simp) (Ev.now _)
    · rw [decide_eq_false h1]
      refine Ev.neg (by simp) (Ev.succ ?_)
      simp only [impl_AreGears.j0]
      exact Ev.pos trivial (Ev.now _)
  · refine Ev.bind (a := false) ?_ ?_
    · rw [e]; exact Ev.bind0 (IsLock_i W D) (Ev.neg h (Ev.now _))
    refine Ev.neg (by simp) (Ev.succ ?_)
    simp only [impl_AreGears.j0]
    refine Ev.pos trivial (Ev.val ?_)
    simp [h]
theorem eqIntS_l0 : ∀ (t p : List Int), (p ++ t).length ≤ 9223372036854775806 → Ev (fun k => laws_eqIntS.l0 k (p ++ t) (p ++ t) (p.length : Int)) true
  | [], p, hl => by
    refine Ev.succ ?_
    simp only [laws_eqIntS.l0]
    exact Ev.neg (len_end p) (Ev.now _)
  | x :: t, p, hl => by
    rw [List.length_append, List.length_cons] at hl
    refine Ev.succ ?_
    simp only [laws_eqIntS.l0]
    refine Ev.pos (len_mid p t x) (Ev.pos (by omega) (Ev.pos (len_mid p t x) ?_))
    refine Ev.pos trivial ?_
    rw [len_next p x (by omega), app_next p t x]
    exact eqIntS_l0 t (p ++ [x]) (by simp; omega)
theorem eqIntS_ev (l : List Int) (hl : l.length ≤ 9223372036854775806) : Ev (fun k => laws_eqIntS.f k l l) true := by
  unfold laws_eqIntS.f
  exact Ev.pos rfl (eqIntS_l0 l [] hl)
theorem eqIntSS_l0 : ∀ (t p : List (List Int)), (∀ s ∈ t, s.length ≤ 1048576) → (p ++ t).length ≤ 9223372036854775806 → Ev (fun k => laws_eqIntSS.l0 k (p ++ t) (p ++ t) (p.length : Int)) true
  | [], p, hs, hl => by
    refine Ev.succ ?_
    simp only [laws_eqIntSS.l0]
    exact Ev.neg (len_end p) (Ev.now _)
  | x :: t, p, hs, hl => by
    rw [List.length_append, List.length_cons] at hl
    refine Ev.succ ?_
    simp only [laws_eqIntSS.l0]
    refine Ev.pos (len_mid p t x) (Ev.pos (by omega) (Ev.pos (len_mid p t x) ?_))
    rw [rdL_mid1]
    refine Ev.bind (eqIntS_ev x (by have := hs x (by simp); omega)) (Ev.pos rfl ?_)
    rw [len_next p x (by omega), app_next p t x]
    exact eqIntSS_l0 t (p ++ [x]) (fun s h => hs s (by simp [h])) (by simp; omega)
theorem eqGears_ev (W D : Int) (l : List (List Int)) (hl : l.length ≤ 1048576) (hs : ∀ s ∈ l, s.length ≤ 1048576) : Ev (fun k => laws_eqGears.f k W D l W D l) true := by
  unfold laws_eqGears.f laws_eqIntSS.f
  refine Ev.bind0 (a := true) (by unfold laws_eqLock.f; simp) (Ev.pos rfl (Ev.bind (a := true) (Ev.pos rfl (eqIntSS_l0 l [] hs (by simp; omega))) (Ev.pos rfl (Ev.now _))))
def decM (n : Int) : ByteArray := if n < 10 then txt [n] else txt [n / 10, n % 10]
theorem decM_size (n : Int) : (decM n).size ≤ 2 := by unfold decM; split <;> rw [txt_size] <;> simp
theorem itoa2 {n : Int} (h0 : 0 ≤ n) (h1 : n < 100) : strconv_Itoa_48.f n = some (decM n) := by
  unfold strconv_Itoa_48.f decM
  rw [if_pos h0, if_pos h1]
  congr 1
  by_cases h : n < 10
  · rw [if_pos h, Lib.decDigits_one (by omega)]
    unfold txt strOfNums
    have e : (48 + n).toNat = 48 + n.toNat := by omega
    simp [e]
  · rw [if_neg h, Lib.decDigits_two (by omega) (by omega)]
    unfold txt strOfNums
    have e1 : (48 + n / 10).toNat = 48 + n.toNat / 10 := by omega
    have e2 : (48 + n % 10).toNat = 48 + n.toNat % 10 := by omega
    simp [e1, e2]
theorem l1Num2_ev {n : Int} (h0 : 0 ≤ n) (h1 : n < 100) : Ev (fun k => spec_l1Num.f k n) (decM n) := by
  unfold decM
  by_cases h : n < 10
  · rw [if_pos h]; exact l1Num_ev h0 h
  · rw [if_neg h]
    have e1 : Int.tdiv n 10 = n / 10 := Int.tdiv_eq_ediv_of_nonneg h0
    have e2 : Int.tmod n 10 = n % 10 := Int.tmod_eq_emod_of_nonneg h0
    refine Ev.succ ?_
    simp only [spec_l1Num.f]
    rw [e1, e2, wrap_id (x := n / 10) (by omega) (by omega), wrap_id (x := 48 + n % 10) (by omega) (by omega)]
    refine Ev.neg h (Ev.bind (l1Num_ev (by omega) (by omega)) (Ev.bind0 rfl (Ev.pos (by rw [txt_size, str_size]; simp) (Ev.val ?_))))
    rw [show (48 + n % 10) % 256 = 48 + n % 10 by omega]
    unfold txt
    rw [str_append]
    rfl
def joTextM (W D : Int) (ks : List (List Int)) : ByteArray := ks.foldl (fun acc k => acc ++ ((⟨#[58]⟩ : ByteArray) ++ txt k)) ((decM W ++ (⟨#[120]⟩ : ByteArray)) ++ decM D)
theorem joText_sl {D : Int} (hD : D ≤ 10) : ∀ (t p : List (List Int)) (acc : ByteArray), (∀ k ∈ t, k.length ≤ 6 ∧ Ok D k) → (p ++ t).length ≤ 1000 → acc.size ≤ 10 + 10 * p.length → Ev (fun k => spec_joText.l0 k acc (p ++ t) ((p ++ t).length : Int) (p.length : Int)) (t.foldl (fun acc k => acc ++ ((⟨#[58]⟩ : ByteArray) ++ txt k)) acc)
  | [], p, acc, ht, hl, ha => by
    refine Ev.succ ?_
    simp only [spec_joText.l0]
    exact Ev.neg (len_end p) (Ev.now _)
  | x :: t, p, acc, ht, hl, ha => by
    rw [List.length_append, List.length_cons] at hl
    obtain ⟨x1, x2⟩ := ht x (by simp)
    have hs : ((⟨#[58]⟩ : ByteArray) ++ txt x).size = 1 + x.length := by rw [ByteArray.size_append, txt_size]; rfl
    refine Ev.succ ?_
    simp only [spec_joText.l0]
    refine Ev.pos (len_mid p t x) (Ev.pos (by omega) (Ev.pos (len_mid p t x) ?_))
    rw [rdL_mid1, len_next p x (by omega), app_next p t x]
    refine Ev.bind (whText_ev (x2.le hD) (by omega)) (Ev.pos (by rw [txt_size]; omega) (Ev.pos (by rw [hs]; omega) ?_))
    exact joText_sl hD t (p ++ [x]) _ (fun k hk => ht k (by simp [hk])) (by simp; omega) (by rw [ByteArray.size_append, hs]; simp; omega)
theorem joText_il {D : Int} (hD : D ≤ 10) : ∀ (t p : List (List Int)) (acc : ByteArray), (∀ k ∈ t, k.length ≤ 6 ∧ Ok D k) → (p ++ t).length ≤ 1000 → acc.size ≤ 10 + 10 * p.length → Ev (fun k => impl_gearsText.l0 k acc (p ++ t) ((p ++ t).length : Int) (p.length : Int)) (t.foldl (fun acc k => acc ++ ((⟨#[58]⟩ : ByteArray) ++ txt k)) acc)
  | [], p, acc, ht, hl, ha => by
    refine Ev.succ ?_
    simp only [impl_gearsText.l0]
    exact Ev.neg (len_end p) (Ev.now _)
  | x :: t, p, acc, ht, hl, ha => by
    rw [List.length_append, List.length_cons] at hl
    obtain ⟨x1, x2⟩ := ht x (by simp)
    have hs : ((⟨#[58]⟩ : ByteArray) ++ txt x).size = 1 + x.length := by rw [ByteArray.size_append, txt_size]; rfl
    refine Ev.succ ?_
    simp only [impl_gearsText.l0]
    refine Ev.pos (len_mid p t x) (Ev.pos (by omega) (Ev.pos (len_mid p t x) ?_))
    rw [rdL_mid1, len_next p x (by omega), app_next p t x]
    refine Ev.bind (text_ev (x2.le hD) (by omega)) (Ev.pos (by rw [txt_size]; omega) (Ev.pos (by rw [hs]; omega) ?_))
    exact joText_il hD t (p ++ [x]) _ (fun k hk => ht k (by simp [hk])) (by simp; omega) (by rw [ByteArray.size_append, hs]; simp; omega)
theorem lockT_size (W D : Int) : ((decM W ++ (⟨#[120]⟩ : ByteArray)) ++ decM D).size ≤ 5 := by
  have h1 := decM_size W
  have h2 := decM_size D
  have h3 : (⟨#[120]⟩ : ByteArray).size = 1 := rfl
  rw [ByteArray.size_append, ByteArray.size_append]
  omega
theorem gears_small {W D : Int} {ks : List (List Int)} (h : gearsM W D ks = true) : (1 ≤ W ∧ W ≤ 6 ∧ 2 ≤ D ∧ D ≤ 10) ∧ ks.length ≤ 5 ∧ ∀ k ∈ ks, k.length ≤ 6 ∧ Ok D k := by
  obtain ⟨g, _, h2, h3⟩ := gearsM_iff.1 h
  exact ⟨g, h2.2, fun k hk => ⟨by have := (h3 k hk).1; omega, (h3 k hk).2⟩⟩
theorem joText_ev {W D : Int} {ks : List (List Int)} (h : gearsM W D ks = true) : Ev (fun k => spec_joText.f k W D ks) (joTextM W D ks) := by
  obtain ⟨g, h2, h3⟩ := gears_small h
  have s1 := decM_size W
  have s2 := decM_size D
  have s3 : (⟨#[120]⟩ : ByteArray).size = 1 := rfl
  have s4 := lockT_size W D
  unfold spec_joText.f
  refine Ev.bind (l1Num2_ev (by omega) (by omega)) (Ev.pos (by omega) (Ev.bind (l1Num2_ev (by omega) (by omega)) (Ev.pos (by rw [ByteArray.size_append]; omega) ?_)))
  exact joText_sl g.2.2.2 ks [] _ h3 (by simp; omega) (by simp; omega)
theorem gearsText_ev {W D : Int} {ks : List (List Int)} (h : gearsM W D ks = true) : Ev (fun k => impl_gearsText.f k W D ks) (joTextM W D ks) := by
  obtain ⟨g, h2, h3⟩ := gears_small h
  have s1 := decM_size W
  have s2 := decM_size D
  have s3 : (⟨#[120]⟩ : ByteArray).size = 1 := rfl
  have s4 := lockT_size W D
  unfold impl_gearsText.f impl_lockText.f
  refine Ev.bind0 (a := (decM W ++ (⟨#[120]⟩ : ByteArray)) ++ decM D) ?_ (joText_il g.2.2.2 ks [] _ h3 (by simp; omega) (by simp; omega))
  rw [itoa2 (by omega) (by omega), Option.bind_some, if_pos (by omega), itoa2 (by omega) (by omega), Option.bind_some, if_pos (by rw [ByteArray.size_append]; omega)]
def markedI : Int → List Int → List Int
  | _, [] => []
  | a, _ :: l => a :: markedI (a + 1) l
theorem markIntS_l0 : ∀ (t p : List Int) (a : Int), 0 ≤ a → a + t.length ≤ 1000000000 → (p ++ t).length ≤ 1000000000 →
    Ev (fun k => laws_markIntS.l0 k (p ++ t) a (p.length : Int)) (a + t.length, p ++ markedI a t)
  | [], p, a, _, _, _ => by
    refine Ev.succ ?_
    simp only [laws_markIntS.l0]
    exact Ev.neg (len_end p) (Ev.val (by simp [markedI]))
  | x :: t, p, a, h0, h1, h2 => by
    rw [List.length_cons] at h1
    have ih := markIntS_l0 t (p ++ [a]) (a + 1) (by omega) (by omega) (by simpa using h2)
    refine Ev.succ ?_
    simp only [laws_markIntS.l0]
    refine Ev.pos (len_mid p t x) (Ev.pos (by omega) ?_)
    rw [set_mid, wrap_id (x := a + 1) (by omega) (by omega), len_next p a (by simp at h2; omega), app_next p t a]
    have e : (a + 1 + (t.length : Int), p ++ [a] ++ markedI (a + 1) t) = (a + ((x :: t).length : Int), p ++ markedI a (x :: t)) := by
      simp only [markedI, List.append_assoc, List.singleton_append, List.length_cons]
      congr 1
      omega
    rw [e] at ih
    exact ih
theorem heldIntS_l0 : ∀ (t p : List Int) (a : Int), 0 ≤ a → a + t.length ≤ 1000000000 → (p ++ t).length ≤ 1000000000 →
    Ev (fun k => laws_heldIntS.l0 k (p ++ markedI a t) a (p.length : Int)) (a + t.length)
  | [], p, a, _, _, _ => by
    refine Ev.succ ?_
    simp only [laws_heldIntS.l0, markedI]
    exact Ev.neg (len_end p) (Ev.val (by simp))
  | x :: t, p, a, h0, h1, h2 => by
    rw [List.length_cons] at h1
    have ih := heldIntS_l0 t (p ++ [a]) (a + 1) (by omega) (by omega) (by simpa using h2)
    rw [show markedI a (x :: t) = a :: markedI (a + 1) t from rfl]
    refine Ev.succ ?_
    simp only [laws_heldIntS.l0]
    refine Ev.pos (len_mid p _ _) (Ev.pos (by omega) ?_)
    rw [rd_mid, wrap_id (x := a + 1) (by omega) (by omega)]
    refine Ev.pos rfl ?_
    rw [len_next p a (by simp at h2; omega), app_next p _ a]
    have e : (a + 1 + (t.length : Int)) = (a + ((x :: t).length : Int)) := by rw [List.length_cons]; omega
    rw [e] at ih
    exact ih
theorem markIntS_ev (l : List Int) (a : Int) (h0 : 0 ≤ a) (h1 : a + l.length ≤ 1000000000) : Ev (fun k => laws_markIntS.f k l a) (a + l.length, markedI a l) ∧ Ev (fun k => laws_heldIntS.f k (markedI a l) a) (a + l.length) :=
  ⟨markIntS_l0 l [] a h0 h1 (by simp; omega), heldIntS_l0 l [] a h0 h1 (by simp; omega)⟩
def cellsS : List (List Int) → Nat
  | [] => 0
  | x :: l => x.length + cellsS l
def markedS : Int → List (List Int) → List (List Int)
  | _, [] => []
  | a, x :: l => markedI a x :: markedS (a + x.length) l
theorem setL_mid (p t : List (List Int)) (x y : List Int) : (p ++ x :: t).set ((p.length : Int)).toNat y = p ++ y :: t := by simp
theorem markIntSS_l0 : ∀ (t p : List (List Int)) (a : Int), 0 ≤ a → a + cellsS t ≤ 1000000000 → (p ++ t).length ≤ 1000000000 →
    Ev (fun k => laws_markIntSS.l0 k (p ++ t) a (p.length : Int)) (a + cellsS t, p ++ markedS a t)
  | [], p, a, _, _, _ => by
    refine Ev.succ ?_
    simp only [laws_markIntSS.l0]
    exact Ev.neg (len_end p) (Ev.val (by simp [markedS, cellsS]))
  | x :: t, p, a, h0, h1, h2 => by
    rw [cellsS] at h1
    have ih := markIntSS_l0 t (p ++ [markedI a x]) (a + x.length) (by omega) (by omega) (by simpa using h2)
    refine Ev.succ ?_
    simp only [laws_markIntSS.l0]
    refine Ev.pos (len_mid p t x) (Ev.pos (by omega) ?_)
    rw [rdL_mid1]
    refine Ev.bind (markIntS_ev x a h0 (by omega)).1 ?_
    rw [setL_mid, len_next p (markedI a x) (by simp at h2; omega), app_next p t (markedI a x)]
    have e : (a + (x.length : Int) + (cellsS t : Int), p ++ [markedI a x] ++ markedS (a + x.length) t) = (a + (cellsS (x :: t) : Int), p ++ markedS a (x :: t)) := by
      simp only [markedS, cellsS, List.append_assoc, List.singleton_append]
      congr 1
      omega
    rw [e] at ih
    exact ih
theorem heldIntSS_l0 : ∀ (t p : List (List Int)) (a : Int), 0 ≤ a → a + cellsS t ≤ 1000000000 → (p ++ t).length ≤ 1000000000 →
    Ev (fun k => laws_heldIntSS.l0 k (p ++ markedS a t) a (p.length : Int)) (a + cellsS t)
  | [], p, a, _, _, _ => by
    refine Ev.succ ?_
    simp only [laws_heldIntSS.l0, markedS]
    exact Ev.neg (len_end p) (Ev.val (by simp [cellsS]))
  | x :: t, p, a, h0, h1, h2 => by
    rw [cellsS] at h1
    have ih := heldIntSS_l0 t (p ++ [markedI a x]) (a + x.length) (by omega) (by omega) (by simpa using h2)
    rw [show markedS a (x :: t) = markedI a x :: markedS (a + x.length) t from rfl]
    refine Ev.succ ?_
    simp only [laws_heldIntSS.l0]
    refine Ev.pos (len_mid p _ _) (Ev.pos (by omega) ?_)
    rw [rdL_mid1]
    refine Ev.bind (markIntS_ev x a h0 (by omega)).2 (Ev.neg (by omega) ?_)
    rw [len_next p (markedI a x) (by simp at h2; omega), app_next p _ (markedI a x)]
    have e : (a + (x.length : Int) + (cellsS t : Int)) = (a + (cellsS (x :: t) : Int)) := by rw [cellsS]; omega
    rw [e] at ih
    exact ih
theorem markGears_ev (W D : Int) (l : List (List Int)) (hc : cellsS l ≤ 100000000) (hl : l.length ≤ 100000000) :
    Ev (fun k => laws_markGears.f k W D l 1) (1 + (cellsS l : Int), markedS 1 l) ∧ Ev (fun k => laws_heldGears.f k W D (markedS 1 l) 1) (1 + (cellsS l : Int)) :=
  ⟨markIntSS_l0 l [] 1 (by omega) (by omega) (by simp; omega), by
    unfold laws_heldGears.f
    exact Ev.bind (heldIntSS_l0 l [] 1 (by omega) (by omega) (by simp; omega)) (Ev.neg (by omega) (Ev.now _))⟩
def mkB (l : List UInt8) : ByteArray := ⟨l.toArray⟩
theorem mkB_data (s : ByteArray) : mkB s.data.toList = s := rfl
theorem mkB_size (l : List UInt8) : (mkB l).size = l.length := by show l.toArray.size = _; simp
theorem list_size (s : ByteArray) : s.data.toList.length = s.size := Array.length_toList
theorem extract_mk (s : ByteArray) (a b : List UInt8) (t : List UInt8) (h : s.data.toList = a ++ b ++ t) : s.extract a.length (a.length + b.length) = mkB b := by
  have e : (s.extract a.length (a.length + b.length)).data.toList = b := by
    rw [ByteArray.data_extract, Array.toList_extract, h]
    simp
  rw [← mkB_data (s.extract a.length (a.length + b.length)), e]
def splitA (c : UInt8) : List UInt8 → List UInt8 → List (List UInt8)
  | cur, [] => [cur]
  | cur, b :: t => if b = c then cur :: splitA c [] t else splitA c (cur ++ [b]) t
theorem bt_at (s : ByteArray) (a : List UInt8) (b : UInt8) (t : List UInt8) (h : s.data.toList = a ++ b :: t) : bt s (a.length : Int) = (b.toNat : Int) := by
  rw [bt_bys]
  have e : bys s = (a.map fun b => (b.toNat : Int)) ++ (b.toNat : Int) :: (t.map fun b => (b.toNat : Int)) := by unfold bys; rw [h]; simp
  rw [e, show (a.length : Int) = ((a.map fun b => (b.toNat : Int)).length : Int) by simp, rd_mid]
theorem l1Split_l0 (s : ByteArray) (c : UInt8) (hs : s.size ≤ 1048576) : ∀ (t cur done : List UInt8) (acc : List ByteArray), s.data.toList = done ++ cur ++ t → acc.length ≤ done.length →
    Ev (fun k => spec_l1Split.l0 k s (c.toNat : Int) acc (done.length : Int) ((done.length + cur.length : Nat) : Int)) (acc ++ (splitA c cur t).map mkB)
  | [], cur, done, acc, h, ha => by
    have hl := list_size s
    rw [h, List.append_nil, List.length_append] at hl
    refine Ev.succ ?_
    simp only [spec_l1Split.l0]
    refine Ev.neg (by omega) (Ev.pos (by omega) (Ev.pos (by omega) (Ev.pos (by omega) (Ev.val ?_))))
    have e := extract_mk s done cur [] h
    rw [show done.length + cur.length = s.size by omega] at e
    rw [Int.toNat_natCast, e]
    rfl
  | b :: t, cur, done, acc, h, ha => by
    have hl := list_size s
    rw [h, List.length_append, List.length_append, List.length_cons] at hl
    refine Ev.succ ?_
    simp only [spec_l1Split.l0]
    have hb := bt_at s (done ++ cur) b t h
    rw [List.length_append] at hb
    refine Ev.pos (by omega) (Ev.pos (by omega) ?_)
    rw [hb, wrap_id (x := ((done.length + cur.length : Nat) : Int) + 1) (by omega) (by omega)]
    by_cases hc : b = c
    · subst hc
      refine Ev.pos rfl (Ev.pos (by omega) (Ev.pos (by omega) (Ev.pos (by omega) (Ev.pos (by omega) ?_))))
      have ih := l1Split_l0 s b hs t [] (done ++ cur ++ [b]) (acc ++ [mkB cur]) (by rw [h]; simp) (by simp; omega)
      rw [Int.toNat_natCast, Int.toNat_natCast, extract_mk s done cur (b :: t) h]
      rw [splitA, if_pos rfl, List.map_cons]
      simp only [List.length_append, List.length_cons, List.length_nil, Nat.add_zero, Nat.zero_add] at ih
      rw [show ((done.length + cur.length : Nat) : Int) + 1 = ((done.length + cur.length + 1 : Nat) : Int) by omega]
      rw [List.append_assoc] at ih
      exact ih
    · refine Ev.neg (fun e => hc (UInt8.toNat_inj.1 (by omega))) ?_
      have ih := l1Split_l0 s c hs t (cur ++ [b]) done acc (by rw [h]; simp) ha
      rw [splitA, if_neg hc]
      simp only [List.length_append, List.length_cons, List.length_nil, Nat.zero_add] at ih
      rw [show ((done.length + cur.length : Nat) : Int) + 1 = ((done.length + (cur.length + 1) : Nat) : Int) by omega]
      exact ih
theorem l1Split_ev (s : ByteArray) (c : UInt8) (hs : s.size ≤ 1048576) : Ev (fun k => spec_l1Split.f k s (c.toNat : Int)) ((splitA c [] s.data.toList).map mkB) := by
  unfold spec_l1Split.f
  exact l1Split_l0 s c hs s.data.toList [] [] [] rfl (Nat.le_refl _)
theorem splitA_pre (c : UInt8) : ∀ (t cur : List UInt8), ∃ h r, splitA c [] t = h :: r ∧ splitA c cur t = (cur ++ h) :: r
  | [], cur => ⟨[], [], rfl, by simp [splitA]⟩
  | b :: t, cur => by
    by_cases hb : b = c
    · exact ⟨[], splitA c [] t, by simp [splitA, hb], by simp [splitA, hb]⟩
    · obtain ⟨h, r, h1, h2⟩ := splitA_pre c t [b]
      obtain ⟨h', r', h1', h2'⟩ := splitA_pre c t (cur ++ [b])
      rw [h1] at h1'
      injection h1' with e1 e2
      subst e1 e2
      refine ⟨b :: h, r, by simp [splitA, hb, h2], ?_⟩
      rw [splitA, if_neg hb, h2']
      simp
theorem splitK_one (c : UInt8) : ∀ s : List UInt8, Lib.splitK [c] 0 (Lib.count s [c]) s = splitA c [] s
  | [] => by rw [Lib.count_one]; rfl
  | b :: l => by
    have ih := splitK_one c l
    by_cases hb : b = c
    · subst hb
      have hix : Lib.index (b :: l) [b] = 0 := by rw [Lib.index]; simp [List.isPrefixOf]
      rw [Lib.count_cons_eq, Nat.add_comm, Lib.splitK, hix, splitA, if_pos rfl]
      simp [ih]
    · rw [Lib.count_cons_ne b c l hb, splitA, if_neg hb]
      have hp : ([c] : List UInt8).isPrefixOf (b :: l) = false := by simp [List.isPrefixOf, Ne.symm hb]
      have hix : Lib.index (b :: l) [c] = if Lib.index l [c] == -1 then -1 else Lib.index l [c] + 1 := by rw [Lib.index, hp]; simp
      obtain ⟨h, r, h1, h2⟩ := splitA_pre c l [b]
      rw [List.nil_append, h2]
      rw [h1] at ih
      cases hn : Lib.count l [c] with
      | zero =>
        rw [hn] at ih
        simp only [Lib.splitK] at ih ⊢
        injection ih with e1 e2
        rw [← e1, ← e2]; rfl
      | succ m =>
        rw [hn] at ih
        have hge := Lib.index_ge l [c]
        simp only [Lib.splitK] at ih ⊢
        by_cases hm : Lib.index l [c] = -1
        · rw [Lib.count_miss hm] at hn; cases hn
        · rw [if_neg (by simpa using hm)] at ih
          rw [hix, if_neg (show ¬ ((Lib.index l [c] == -1) = true) by simpa using hm), if_neg (show ¬ ((Lib.index l [c] + 1 == -1) = true) by simp; omega)]
          injection ih with e1 e2
          obtain ⟨j, hj⟩ : ∃ j : Nat, Lib.index l [c] = j := ⟨(Lib.index l [c]).toNat, by omega⟩
          rw [hj] at e1 e2 ⊢
          rw [← e1, ← e2]
          simp only [Nat.add_zero, Int.toNat_natCast, List.length_cons, List.length_nil, Nat.zero_add]
          rw [show ((j : Int) + 1).toNat = j + 1 by omega]
          simp
theorem Split_f (s : ByteArray) (c : UInt8) (hs : s.size ≤ 1048576) : strings_Split.f s (⟨#[c]⟩ : ByteArray) = some ((splitA c [] s.data.toList).map mkB) := by
  unfold strings_Split.f
  rw [if_pos ⟨by omega, by show 1 ≤ 1; omega⟩]
  congr 1
  have h := Lib.splitB_data (⟨#[c]⟩ : ByteArray) 0 (Lib.countB s ⟨#[c]⟩) s
  have h2 : Lib.splitK (⟨#[c]⟩ : ByteArray).data.toList 0 (Lib.countB s ⟨#[c]⟩) s.data.toList = splitA c [] s.data.toList := splitK_one c s.data.toList
  rw [h2] at h
  rw [← h, List.map_map]
  have : (mkB ∘ fun x : ByteArray => x.data.toList) = id := by funext x; rfl
  rw [this, List.map_id]
theorem splitA_size (c : UInt8) : ∀ (t cur : List UInt8), 1 ≤ (splitA c cur t).length ∧ (splitA c cur t).length ≤ t.length + 1 ∧ ∀ l ∈ splitA c cur t, l.length ≤ cur.length + t.length
  | [], cur => by simp [splitA]
  | b :: t, cur => by
    by_cases hb : b = c
    · obtain ⟨h1, h2, h3⟩ := splitA_size c t []
      simp only [splitA, hb, if_true, List.length_cons]
      refine ⟨by omega, by omega, fun l hl => ?_⟩
      rcases List.mem_cons.1 hl with rfl | hl
      · omega
      · have := h3 l hl; simp at this; omega
    · obtain ⟨h1, h2, h3⟩ := splitA_size c t (cur ++ [b])
      simp only [splitA, hb, if_false, List.length_cons]
      refine ⟨h1, by omega, fun l hl => ?_⟩
      have := h3 l hl; simp at this; omega
theorem splitA_end (c : UInt8) : ∀ (u cur : List UInt8), c ∉ u → splitA c cur u = [cur ++ u]
  | [], cur, _ => by simp [splitA]
  | b :: u, cur, h => by
    rw [List.mem_cons, not_or] at h
    rw [splitA, if_neg (fun e => h.1 e.symm), splitA_end c u _ h.2]
    simp
theorem splitA_app (c : UInt8) (v : List UInt8) : ∀ (u cur : List UInt8), c ∉ u → splitA c cur (u ++ c :: v) = (cur ++ u) :: splitA c [] v
  | [], cur, _ => by simp [splitA]
  | b :: u, cur, h => by
    rw [List.mem_cons, not_or] at h
    rw [List.cons_append, splitA, if_neg (fun e => h.1 e.symm), splitA_app c v u _ h.2]
    simp
theorem splitA_flat {α : Type} (c : UInt8) (g : α → List UInt8) : ∀ (ks : List α) (u : List UInt8), c ∉ u → (∀ k ∈ ks, c ∉ g k) → splitA c [] (u ++ ks.flatMap fun k => c :: g k) = u :: ks.map g
  | [], u, h, _ => by simp [splitA_end c u [] h]
  | k :: ks, u, h, hk => by
    rw [List.flatMap_cons, List.cons_append, splitA_app c _ u [] h, splitA_flat c g ks (g k) (hk k (by simp)) (fun k' h' => hk k' (by simp [h']))]
    simp
def rdL : Int → List UInt8 → Int
  | n, [] => n
  | n, b :: t => if (b.toNat : Int) < 48 then -1 else if (b.toNat : Int) > 57 then -1 else rdL (wrap64 (wrap64 (10 * n) + ((b.toNat : Int) - 48) % 256)) t
def rdM (l : List UInt8) : Int := match l with
  | [] => -1
  | b :: t => if t.length + 1 ≤ 6 then (if (b.toNat : Int) = 48 then (if t.length + 1 > 1 then -1 else rdL 0 l) else rdL 0 l) else -1
theorem l1Read_l0 (s : ByteArray) (hs : s.size ≤ 1048576) : ∀ (t p : List UInt8) (n : Int), s.data.toList = p ++ t → Ev (fun k => spec_l1Read.l0 k s n (p.length : Int)) (rdL n t)
  | [], p, n, h => by
    have hl := list_size s
    rw [h, List.append_nil] at hl
    refine Ev.succ ?_
    simp only [spec_l1Read.l0]
    exact Ev.neg (by omega) (Ev.now _)
  | b :: t, p, n, h => by
    have hl := list_size s
    rw [h, List.length_append, List.length_cons] at hl
    refine Ev.succ ?_
    simp only [spec_l1Read.l0]
    refine Ev.pos (by omega) (Ev.pos (by omega) ?_)
    rw [bt_at s p b t h, rdL]
    by_cases h1 : (b.toNat : Int) < 48
    · rw [if_pos h1]; exact Ev.pos h1 (Ev.now _)
    · rw [if_neg h1]
      refine Ev.neg h1 ?_
      by_cases h2 : (b.toNat : Int) > 57
      · rw [if_pos h2]; exact Ev.pos h2 (Ev.now _)
      · rw [if_neg h2]
        refine Ev.neg h2 ?_
        rw [len_next p b (by omega)]
        exact l1Read_l0 s hs t (p ++ [b]) _ (by rw [h]; simp)
theorem l1Read_ev (l : List UInt8) (hs : l.length ≤ 1048576) : Ev (fun k => spec_l1Read.f k (mkB l)) (rdM l) := by
  have hz := mkB_size l
  have hr := l1Read_l0 (mkB l) (by omega) l [] 0 rfl
  unfold spec_l1Read.f
  rw [l1In_f]
  refine Ev.bind0 rfl ?_
  cases l with
  | nil =>
    refine Ev.neg (by rw [hz]; simp) (Ev.succ ?_)
    simp only [spec_l1Read.j0]
    exact Ev.pos trivial (Ev.now _)
  | cons b t =>
    rw [List.length_cons] at hz
    unfold rdM
    by_cases h6 : t.length + 1 ≤ 6
    · have hb := bt_at (mkB (b :: t)) [] b t rfl
      rw [List.length_nil] at hb
      refine Ev.pos (by rw [hz]; simp; omega) (Ev.pos (by rw [hz]; omega) ?_)
      simp only [if_pos h6]
      rw [show bt (mkB (b :: t)) 0 = (b.toNat : Int) from hb]
      by_cases h8 : (b.toNat : Int) = 48
      · rw [if_pos h8]
        refine Ev.pos h8 (Ev.succ ?_)
        simp only [spec_l1Read.j0]
        by_cases h9 : t.length + 1 > 1
        · rw [if_pos h9]; exact Ev.pos (by rw [hz]; simp; omega) (Ev.now _)
        · rw [if_neg h9]; exact Ev.neg (by rw [hz]; simp; omega) hr
      · rw [if_neg h8]
        refine Ev.neg h8 (Ev.succ ?_)
        simp only [spec_l1Read.j0]
        exact Ev.neg (by simp) hr
    · simp only [if_neg h6]
      refine Ev.neg (by rw [hz]; simp; omega) (Ev.succ ?_)
      simp only [spec_l1Read.j0]
      exact Ev.pos trivial (Ev.now _)
/-- A lock's text, taken apart. -/
def lockChk (W D : Int) : Bool :=
  let t := ((decM W ++ (⟨#[120]⟩ : ByteArray)) ++ decM D).data.toList
  let c := Lib.cut t [120]
  (splitA 120 [] t == [(decM W).data.toList, (decM D).data.toList]) && (rdM (decM W).data.toList == W) && (rdM (decM D).data.toList == D) && (atoiV c.1 == W) && (atoiV c.2.1 == D) && !(t.contains 58)
theorem lockChk_all : (List.range 6).all (fun w => (List.range 9).all fun d => lockChk ((w : Int) + 1) ((d : Int) + 2)) = true := by decide +kernel
theorem lockChk_of {W D : Int} (g : 1 ≤ W ∧ W ≤ 6 ∧ 2 ≤ D ∧ D ≤ 10) : lockChk W D = true := by
  have h := List.all_eq_true.1 lockChk_all (W.toNat - 1) (List.mem_range.2 (by omega))
  have h2 := List.all_eq_true.1 h (D.toNat - 2) (List.mem_range.2 (by omega))
  rwa [show ((W.toNat - 1 : Nat) : Int) + 1 = W by omega, show ((D.toNat - 2 : Nat) : Int) + 2 = D by omega] at h2
theorem fold_data (ks : List (List Int)) : ∀ acc : ByteArray, (ks.foldl (fun acc k => acc ++ ((⟨#[58]⟩ : ByteArray) ++ txt k)) acc).data.toList = acc.data.toList ++ ks.flatMap fun k => 58 :: (txt k).data.toList := by
  induction ks with
  | nil => intro acc; simp
  | cons k ks ih =>
    intro acc
    rw [List.foldl_cons, ih, List.flatMap_cons]
    simp [ByteArray.data_append]
theorem txt_no58 {ds : List Int} (h : Ok 10 ds) : (58 : UInt8) ∉ (txt ds).data.toList := by
  intro hm
  have h1 : (58 : Int) ∈ bys (txt ds) := by unfold bys; exact List.mem_map.2 ⟨58, hm, rfl⟩
  rw [bys_txt h] at h1
  obtain ⟨d, hd, e⟩ := List.mem_map.1 h1
  have := h d hd
  omega
/-- What the reading makes of a text. -/
def gPartsM (s : ByteArray) : List (List UInt8) := splitA 58 [] s.data.toList
def gHeadM (s : ByteArray) : List UInt8 := (gPartsM s).headD []
def gKnobsM (s : ByteArray) : List (List Int) := (gPartsM s).tail.map fun l => dgs (mkB l)
def gSidesM (s : ByteArray) : List (List UInt8) := splitA 120 [] (gHeadM s)
def zeroG : Int × Int × List (List Int) × Bool := (0, 0, [], false)
def fitM (s : ByteArray) (W D : Int) : Bool := gearsM W D (gKnobsM s) && decide (joTextM W D (gKnobsM s) = s)
def gOutM (s : ByteArray) (W D : Int) : Int × Int × List (List Int) × Bool := if fitM s W D = true then (W, D, gKnobsM s, true) else zeroG
theorem round_trip {W D : Int} {ks : List (List Int)} (h : gearsM W D ks = true) : gPartsM (joTextM W D ks) = ((decM W ++ (⟨#[120]⟩ : ByteArray)) ++ decM D).data.toList :: ks.map (fun k => (txt k).data.toList) ∧ gKnobsM (joTextM W D ks) = ks ∧ (joTextM W D ks).size ≤ 60 := by
  obtain ⟨g, h2, h3⟩ := gears_small h
  have hc := lockChk_of g
  unfold lockChk at hc
  simp only [Bool.and_eq_true, Bool.not_eq_true', beq_iff_eq] at hc
  have hn : (58 : UInt8) ∉ ((decM W ++ (⟨#[120]⟩ : ByteArray)) ++ decM D).data.toList := by
    intro hm
    have := hc.2
    rw [List.contains_iff_mem.2 hm] at this
    cases this
  have hok : ∀ k ∈ ks, Ok 10 k := fun k hk => (h3 k hk).2.le g.2.2.2
  have hp : gPartsM (joTextM W D ks) = ((decM W ++ (⟨#[120]⟩ : ByteArray)) ++ decM D).data.toList :: ks.map (fun k => (txt k).data.toList) := by
    unfold gPartsM joTextM
    rw [fold_data]
    exact splitA_flat 58 (fun k => (txt k).data.toList) ks _ hn (fun k hk => txt_no58 (hok k hk))
  refine ⟨hp, ?_, ?_⟩
  · unfold gKnobsM
    rw [hp, List.tail_cons, List.map_map]
    refine (List.map_congr_left (g := id) fun k hk => ?_).trans (List.map_id _)
    exact dgs_txt (hok k hk)
  · have e : ∀ (l : List (List Int)), (∀ k ∈ l, k.length ≤ 6) → ∀ acc : ByteArray, (l.foldl (fun acc k => acc ++ ((⟨#[58]⟩ : ByteArray) ++ txt k)) acc).size ≤ acc.size + 7 * l.length := by
      intro l
      induction l with
      | nil => intro _ acc; simp
      | cons k l ih =>
        intro hl acc
        have h4 := ih (fun k' h' => hl k' (by simp [h'])) (acc ++ ((⟨#[58]⟩ : ByteArray) ++ txt k))
        have h5 := hl k (by simp)
        rw [ByteArray.size_append, ByteArray.size_append, txt_size] at h4
        have h6 : (⟨#[58]⟩ : ByteArray).size = 1 := rfl
        rw [List.foldl_cons, List.length_cons]
        omega
    have h4 := e ks (fun k hk => (h3 k hk).1) ((decM W ++ (⟨#[120]⟩ : ByteArray)) ++ decM D)
    have h5 := lockT_size W D
    unfold joTextM
    omega
theorem fit_lock {s : ByteArray} {W D : Int} (h : fitM s W D = true) : s.size ≤ 60 ∧ gSidesM s = [(decM W).data.toList, (decM D).data.toList] ∧ rdM (decM W).data.toList = W ∧ rdM (decM D).data.toList = D ∧ atoiV (Lib.cut (gHeadM s) [120]).1 = W ∧ atoiV (Lib.cut (gHeadM s) [120]).2.1 = D := by
  unfold fitM at h
  rw [Bool.and_eq_true, decide_eq_true_eq] at h
  obtain ⟨h1, h2⟩ := h
  obtain ⟨hp, _, hz⟩ := round_trip h1
  rw [h2] at hp hz
  have hc := lockChk_of (gears_small h1).1
  unfold lockChk at hc
  simp only [Bool.and_eq_true, Bool.not_eq_true', beq_iff_eq] at hc
  obtain ⟨⟨⟨⟨⟨c1, c2⟩, c3⟩, c4⟩, c5⟩, _⟩ := hc
  have hh : gHeadM s = ((decM W ++ (⟨#[120]⟩ : ByteArray)) ++ decM D).data.toList := by unfold gHeadM; rw [hp]; rfl
  refine ⟨hz, ?_, c2, c3, ?_, ?_⟩
  · unfold gSidesM; rw [hh]; exact c1
  · rw [hh]; exact c4
  · rw [hh]; exact c5
theorem parts_small (s : ByteArray) : 1 ≤ (gPartsM s).length ∧ (gPartsM s).length ≤ s.size + 1 ∧ ∀ l ∈ gPartsM s, l.length ≤ s.size := by
  obtain ⟨h1, h2, h3⟩ := splitA_size 58 s.data.toList []
  rw [list_size] at h2
  refine ⟨h1, h2, fun l hl => ?_⟩
  have := h3 l hl
  rw [list_size, List.length_nil] at this
  omega
theorem knobs_small (s : ByteArray) : (gKnobsM s).length ≤ s.size ∧ ∀ k ∈ gKnobsM s, k.length ≤ s.size := by
  obtain ⟨h1, h2, h3⟩ := parts_small s
  refine ⟨by unfold gKnobsM; rw [List.length_map, List.length_tail]; omega, fun k hk => ?_⟩
  obtain ⟨l, hl, rfl⟩ := List.mem_map.1 hk
  rw [dgs_length, mkB_size]
  exact h3 l (List.mem_of_mem_tail hl)
theorem rdOf_mk (p t : List (List UInt8)) (x : List UInt8) : rdOf ByteArray.empty ((p ++ x :: t).map mkB) (p.length : Int) = mkB x := by
  rw [List.map_append, List.map_cons, show (p.length : Int) = ((p.map mkB).length : Int) by simp, rdOf_mid]
theorem parse_sl0 (s : ByteArray) (W D : Int) (hs : s.size ≤ 1000) : ∀ (t p : List (List UInt8)), (gPartsM s).tail = p ++ t →
    Ev (fun k => spec_joParse.l0 k s ((p ++ t).map mkB) (((p ++ t).map mkB).length : Int) (p.length : Int) W D (p.map fun l => dgs (mkB l))) (W, D, gKnobsM s, fitM s W D)
  | [], p, h => by
    have e : (p.map fun l => dgs (mkB l)) = gKnobsM s := by unfold gKnobsM; rw [h, List.append_nil]
    obtain ⟨k1, k2⟩ := knobs_small s
    refine Ev.succ ?_
    simp only [spec_joParse.l0]
    rw [e]
    refine Ev.neg (by simp) (Ev.bind (joGood_ev W D (gKnobsM s) (by omega) (fun k hk => by have := k2 k hk; omega)) ?_)
    by_cases hg : gearsM W D (gKnobsM s) = true
    · refine Ev.pos hg (Ev.bind (joText_ev hg) (Ev.val ?_))
      unfold fitM
      rw [hg, Bool.true_and]
      congr 3
      rw [Bool.eq_iff_iff, beq_iff_eq, decide_eq_true_eq, toList_inj]
    · refine Ev.neg hg (Ev.val ?_)
      unfold fitM
      rw [Bool.not_eq_true] at hg
      rw [hg]; rfl
  | x :: t, p, h => by
    obtain ⟨h1, h2, h3⟩ := parts_small s
    have hlen : (gPartsM s).tail.length = p.length + (t.length + 1) := by rw [h, List.length_append, List.length_cons]
    rw [List.length_tail] at hlen
    have hx : x.length ≤ s.size := h3 x (List.mem_of_mem_tail (by rw [h]; simp))
    have ih := parse_sl0 s W D hs t (p ++ [x]) (by rw [h]; simp)
    refine Ev.succ ?_
    simp only [spec_joParse.l0]
    refine Ev.pos (by simp; omega) (Ev.pos (by omega) (Ev.pos (by simp; omega) ?_))
    rw [rdOf_mk, len_next p x (by omega)]
    refine Ev.bind (whDigits_ev (mkB x) (by rw [mkB_size]; omega)) (Ev.pos (by rw [List.length_map]; omega) ?_)
    rw [show (p ++ [x]).map (fun l => dgs (mkB l)) = p.map (fun l => dgs (mkB l)) ++ [dgs (mkB x)] by simp] at ih
    rw [app_next p t x]
    exact ih
theorem parse_il0 (s : ByteArray) (W D : Int) (hs : s.size ≤ 1000) : ∀ (t p : List (List UInt8)), (gPartsM s).tail = p ++ t →
    Ev (fun k => impl_ParseGears.l0 k s ((p ++ t).map mkB) (((p ++ t).map mkB).length : Int) (p.length : Int) W D (p.map fun l => dgs (mkB l))) (gOutM s W D)
  | [], p, h => by
    have e : (p.map fun l => dgs (mkB l)) = gKnobsM s := by unfold gKnobsM; rw [h, List.append_nil]
    obtain ⟨k1, k2⟩ := knobs_small s
    refine Ev.succ ?_
    simp only [impl_ParseGears.l0]
    rw [e]
    refine Ev.neg (by simp) (Ev.bind (AreGears_i W D (gKnobsM s) (by omega) (fun k hk => by have := k2 k hk; omega)) ?_)
    unfold gOutM fitM
    by_cases hg : gearsM W D (gKnobsM s) = true
    · refine Ev.pos hg (Ev.bind (gearsText_ev hg) ?_)
      by_cases ht : joTextM W D (gKnobsM s) = s
      · exact Ev.pos (by rw [ht]) (Ev.val (by rw [hg, if_pos (by simp [ht])]))
      · exact Ev.neg (fun h' => ht (toList_inj.1 h')) (Ev.val (by rw [if_neg (by simp [ht])]; rfl))
    · exact Ev.neg hg (Ev.val (by rw [if_neg (by simp [hg])]; rfl))
  | x :: t, p, h => by
    obtain ⟨h1, h2, h3⟩ := parts_small s
    have hlen : (gPartsM s).tail.length = p.length + (t.length + 1) := by rw [h, List.length_append, List.length_cons]
    rw [List.length_tail] at hlen
    have hx : x.length ≤ s.size := h3 x (List.mem_of_mem_tail (by rw [h]; simp))
    have ih := parse_il0 s W D hs t (p ++ [x]) (by rw [h]; simp)
    refine Ev.succ ?_
    simp only [impl_ParseGears.l0]
    refine Ev.pos (by simp; omega) (Ev.pos (by omega) (Ev.pos (by simp; omega) ?_))
    rw [rdOf_mk, len_next p x (by omega)]
    refine Ev.bind (digits_ev (mkB x) (by rw [mkB_size]; omega)) (Ev.pos (by rw [List.length_map]; omega) ?_)
    rw [show (p ++ [x]).map (fun l => dgs (mkB l)) = p.map (fun l => dgs (mkB l)) ++ [dgs (mkB x)] by simp] at ih
    rw [app_next p t x]
    exact ih
theorem parts_cons (s : ByteArray) : gPartsM s = gHeadM s :: (gPartsM s).tail := by
  have h := (parts_small s).1
  unfold gHeadM
  cases hp : gPartsM s with
  | nil => rw [hp] at h; simp at h
  | cons a b => rfl
def JoM (s : ByteArray) : Int × Int × List (List Int) × Bool := if s.size > 60 ∨ (gSidesM s).length ≠ 2 then (0, 0, [], false) else (rdM ((gSidesM s).getD 0 []), rdM ((gSidesM s).getD 1 []), gKnobsM s, fitM s (rdM ((gSidesM s).getD 0 [])) (rdM ((gSidesM s).getD 1 [])))
theorem joParse_ev (s : ByteArray) (hs : s.size ≤ 1048576) : Ev (fun k => spec_joParse.f k s) (JoM s) := by
  obtain ⟨h1, h2, h3⟩ := parts_small s
  have hc := parts_cons s
  have hh : (gHeadM s).length ≤ s.size := h3 _ (by rw [hc]; simp)
  have e0 : rdOf ByteArray.empty ((gPartsM s).map mkB) 0 = mkB (gHeadM s) := by rw [hc]; exact rdOf_mk [] _ _
  have s1 := l1Split_ev s 58 hs
  have s2 := l1Split_ev (mkB (gHeadM s)) 120 (by rw [mkB_size]; omega)
  obtain ⟨z1, z2, z3⟩ := splitA_size 120 (gHeadM s) []
  unfold spec_joParse.f JoM
  refine Ev.bind s1 (Ev.pos (by rw [List.length_map]; exact_mod_cast h1) ?_)
  rw [show (splitA 58 [] s.data.toList) = gPartsM s from rfl, e0]
  refine Ev.bind s2 ?_
  rw [show (splitA 120 [] (mkB (gHeadM s)).data.toList) = gSidesM s from rfl]
  by_cases h6 : (s.size : Int) > 60
  · rw [if_pos (.inl (by omega))]
    refine Ev.pos h6 (Ev.succ ?_)
    simp only [spec_joParse.j0]
    exact Ev.pos trivial (Ev.now _)
  · refine Ev.neg h6 (Ev.succ ?_)
    simp only [spec_joParse.j0]
    by_cases h7 : (gSidesM s).length = 2
    · rw [if_neg (by omega)]
      obtain ⟨a, b, hab⟩ : ∃ a b, gSidesM s = [a, b] := by
        match hq : gSidesM s, h7 with
        | [a, b], _ => exact ⟨a, b, rfl⟩
      have z4 : ∀ l ∈ gSidesM s, l.length ≤ 1000 := fun l hl => by have := z3 l hl; rw [List.length_nil] at this; omega
      rw [hab] at z4 ⊢
      refine Ev.neg (by simp) (Ev.pos (by simp) (Ev.bind (l1Read_ev a (by have := z4 a (by simp); omega)) (Ev.pos (by simp) (Ev.bind (l1Read_ev b (by have := z4 b (by simp); omega)) (Ev.pos (by rw [List.length_map]; exact_mod_cast h1) (Ev.bind0 rfl ?_))))))
      rw [show ((gPartsM s).map mkB).drop 1 = (([] : List (List UInt8)) ++ (gPartsM s).tail).map mkB by rw [List.nil_append, ← List.map_drop, List.drop_one]]
      exact parse_sl0 s (rdM a) (rdM b) (by omega) (gPartsM s).tail [] rfl
    · rw [if_pos (.inr h7)]
      exact Ev.pos (by simp; omega) (Ev.now _)
def ParseGM (s : ByteArray) : Int × Int × List (List Int) × Bool := if s.size > 60 ∨ (gSidesM s).length ≠ 2 then zeroG else gOutM s (rdM ((gSidesM s).getD 0 [])) (rdM ((gSidesM s).getD 1 []))
theorem ParseGears_s (s : ByteArray) (hs : s.size ≤ 1048576) : Ev (fun k => spec_ParseGears.f k s) (ParseGM s) := by
  unfold spec_ParseGears.f ParseGM
  refine Ev.bind (joParse_ev s hs) ?_
  unfold JoM
  by_cases h : s.size > 60 ∨ (gSidesM s).length ≠ 2
  · rw [if_pos h, if_pos h]; exact Ev.neg (by simp) (Ev.now _)
  · rw [if_neg h, if_neg h]
    unfold gOutM
    by_cases h2 : fitM s (rdM ((gSidesM s).getD 0 [])) (rdM ((gSidesM s).getD 1 [])) = true
    · rw [if_pos h2, if_pos h2]; exact Ev.now _
    · rw [if_neg h2, if_neg h2]; exact Ev.now _
def ParseIM (s : ByteArray) : Int × Int × List (List Int) × Bool := if s.size > 100 then zeroG else gOutM s (atoiV (Lib.cut (gHeadM s) [120]).1) (atoiV (Lib.cut (gHeadM s) [120]).2.1)
theorem cut_small (l : List UInt8) : (Lib.cut l [120]).1.length ≤ l.length ∧ (Lib.cut l [120]).2.1.length ≤ l.length := by
  unfold Lib.cut
  split
  · exact ⟨by rw [List.length_take]; omega, by rw [List.length_drop]; omega⟩
  · exact ⟨Nat.le_refl _, Nat.zero_le _⟩
theorem ParseGears_i0 (s : ByteArray) : Ev (fun k => impl_ParseGears.f k s) (ParseIM s) := by
  obtain ⟨h1, h2, h3⟩ := parts_small s
  have hc := parts_cons s
  have hh : (gHeadM s).length ≤ s.size := h3 _ (by rw [hc]; simp)
  have e0 : rdOf ByteArray.empty ((gPartsM s).map mkB) 0 = mkB (gHeadM s) := by rw [hc]; exact rdOf_mk [] _ _
  unfold impl_ParseGears.f ParseIM
  by_cases h6 : (s.size : Int) > 100
  · rw [if_pos (by omega)]; exact Ev.pos h6 (Ev.now _)
  · rw [if_neg (by omega)]
    refine Ev.neg h6 (Ev.bind0 (Split_f s 58 (by omega)) (Ev.pos (by rw [List.length_map]; exact_mod_cast h1) ?_))
    rw [show (splitA 58 [] s.data.toList) = gPartsM s from rfl, e0]
    obtain ⟨c1, c2⟩ := cut_small (gHeadM s)
    have hl : impl_parseLock.f (mkB (gHeadM s)) = some (atoiV (Lib.cut (gHeadM s) [120]).1, atoiV (Lib.cut (gHeadM s) [120]).2.1) := by
      unfold impl_parseLock.f strings_Cut.f
      rw [if_pos (by rw [mkB_size]; omega), Option.bind_some]
      show ((strconv_Atoi_26.f (mkB (Lib.cut (gHeadM s) [120]).1)).bind fun bt178 => (strconv_Atoi_26.f (mkB (Lib.cut (gHeadM s) [120]).2.1)).bind fun bt180 => some (bt178.1, bt180.1)) = _
      unfold strconv_Atoi_26.f
      rw [if_pos (by rw [mkB_size]; omega), if_pos (by rw [mkB_size]; omega)]
      rfl
    refine Ev.bind0 hl (Ev.pos (by rw [List.length_map]; exact_mod_cast h1) (Ev.bind0 rfl ?_))
    rw [show ((gPartsM s).map mkB).drop 1 = (([] : List (List UInt8)) ++ (gPartsM s).tail).map mkB by rw [List.nil_append, ← List.map_drop, List.drop_one]]
    exact parse_il0 s _ _ (by omega) (gPartsM s).tail [] rfl
theorem ParseGM_eq (s : ByteArray) : ParseIM s = ParseGM s := by
  unfold ParseIM ParseGM
  generalize hWi : atoiV (Lib.cut (gHeadM s) [120]).1 = Wi
  generalize hDi : atoiV (Lib.cut (gHeadM s) [120]).2.1 = Di
  by_cases h : fitM s Wi Di = true
  · obtain ⟨f1, f2, f3, f4, _, _⟩ := fit_lock h
    rw [if_neg (by omega), if_neg (by rw [f2]; simp; omega), f2]
    simp only [List.getD_cons_zero, List.getD_cons_succ]
    rw [f3, f4]
  · have hz : gOutM s Wi Di = zeroG := by unfold gOutM; rw [if_neg h]
    rw [hz, ite_self]
    symm
    split
    · rfl
    · unfold gOutM
      rw [if_neg]
      intro h2
      obtain ⟨_, _, _, _, f5, f6⟩ := fit_lock h2
      rw [hWi] at f5
      rw [hDi] at f6
      rw [← f5, ← f6] at h2
      exact h h2
theorem ParseGears_i (s : ByteArray) : Ev (fun k => impl_ParseGears.f k s) (ParseGM s) := by
  rw [← ParseGM_eq]; exact ParseGears_i0 s
theorem parseGM_small (s : ByteArray) : (ParseGM s).2.2.1.length ≤ 5 ∧ ∀ k ∈ (ParseGM s).2.2.1, k.length ≤ 6 := by
  unfold ParseGM
  split
  · exact ⟨by simp [zeroG], by simp [zeroG]⟩
  · unfold gOutM
    split
    · rename_i h
      unfold fitM at h
      rw [Bool.and_eq_true] at h
      obtain ⟨_, h2, h3⟩ := gears_small h.1
      exact ⟨h2, fun k hk => (h3 k hk).1⟩
    · exact ⟨by simp [zeroG], by simp [zeroG]⟩
theorem cellsS_le6 : ∀ (l : List (List Int)), (∀ s ∈ l, s.length ≤ 6) → cellsS l ≤ 6 * l.length
  | [], _ => by simp [cellsS]
  | x :: l, h => by
    have h1 := h x (by simp)
    have h2 := cellsS_le6 l (fun s hs => h s (by simp [hs]))
    rw [cellsS, List.length_cons]
    omega
end Go.Proofs.YtnejhcfimgeoeaaDoor.L
