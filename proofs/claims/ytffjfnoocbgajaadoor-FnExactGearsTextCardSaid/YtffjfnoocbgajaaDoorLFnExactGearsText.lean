/- What the printed functions that FnExactGearsText reaches come to: lemmas for its plain law. -/
import Derived.Test.YtffjfnoocbgajaaDoorMath
import Derived.Test.YtffjfnoocbgajaaDoorG0
import Derived.Test.YtffjfnoocbgajaaDoorG1
import Derived.Test.YtffjfnoocbgajaaDoorG2
import Derived.Test.YtffjfnoocbgajaaDoorG3
import Derived.Test.YtffjfnoocbgajaaDoorG4
import Derived.Test.YtffjfnoocbgajaaDoorG5
import Derived.Test.YtffjfnoocbgajaaDoorG6
import Derived.Test.YtffjfnoocbgajaaDoorG7
import Derived.Test.YtffjfnoocbgajaaDoorG8
import Derived.Test.YtffjfnoocbgajaaDoorG9
import Derived.Test.YtffjfnoocbgajaaDoorG10
import Derived.Test.YtffjfnoocbgajaaDoorG11
import Derived.Test.YtffjfnoocbgajaaDoorG12
import Derived.Test.YtffjfnoocbgajaaDoorG13
import Derived.Test.YtffjfnoocbgajaaDoorG14
import Derived.Test.YtffjfnoocbgajaaDoorG15
import Derived.Test.YtffjfnoocbgajaaDoorG16
import Derived.Test.YtffjfnoocbgajaaDoorG17
import Derived.Test.YtffjfnoocbgajaaDoorG18
import Derived.Test.YtffjfnoocbgajaaDoorG19
namespace Go.Proofs.YtffjfnoocbgajaaDoor.L
open Go.RowKit Go.Proofs.YtffjfnoocbgajaaDoorW.PrintWords Go.Proofs.YtffjfnoocbgajaaDoorW.PrintMore Go.Proofs.YtffjfnoocbgajaaDoor.M Go.Proofs.YtffjfnoocbgajaaDoor.G
set_option linter.unusedVariables false
set_option linter.unusedSimpArgs false
theorem whGood_f (W D : Int) : spec_whGood.f W D = some (good W D) := by
  unfold spec_whGood.f spec_l1In.f good
  by_cases h1 : 1 ≤ W <;> by_cases h2 : W ≤ 6 <;> by_cases h3 : 2 ≤ D <;> by_cases h4 : D ≤ 10 <;> simp [h1, h2, h3, h4]
theorem IsLock_i (W D : Int) : impl_IsLock.f W D = some (good W D) := by
  unfold impl_IsLock.f impl_within.f good
  by_cases h1 : 1 ≤ W <;> by_cases h2 : W ≤ 6 <;> by_cases h3 : 2 ≤ D <;> by_cases h4 : D ≤ 10 <;> simp [h1, h2, h3, h4]
theorem l1In_f (n lo hi : Int) : spec_l1In.f n lo hi = some (decide (lo ≤ n ∧ n ≤ hi)) := by
  unfold spec_l1In.f
  by_cases h1 : lo ≤ n <;> by_cases h2 : n ≤ hi <;> simp [h1, h2]
theorem within_f (n lo hi : Int) : impl_within.f n lo hi = some (decide (lo ≤ n ∧ n ≤ hi)) := by
  unfold impl_within.f
  by_cases h1 : lo ≤ n <;> by_cases h2 : n ≤ hi <;> simp [h1, h2]

theorem whCount_l0 {W D : Int} (h0 : 2 ≤ D) (h1 : D ≤ 10) : ∀ (m n : Nat), n + m ≤ 6 → Ev (fun k => spec_whCount.l0 k (pw D n) (m : Int) W D) (pw D (n + m))
  | 0, n, h => by
    refine Ev.succ ?_
    simp only [spec_whCount.l0]
    exact Ev.neg (by omega) (Ev.now _)
  | m + 1, n, h => by
    have b := pw_le6 (D := D) (by omega) h1 (n := n + 1) (by omega)
    have p := pw_pos (D := D) (by omega) (n + 1)
    refine Ev.succ ?_
    simp only [spec_whCount.l0]
    refine Ev.pos (by omega) ?_
    rw [show wrap64 (pw D n * D) = pw D (n + 1) from wrap_id (by rw [pw] at *; omega) (by rw [pw] at *; omega), show wrap64 (((m + 1 : Nat) : Int) - 1) = (m : Int) by rw [wrap_id] <;> omega,
      show n + (m + 1) = (n + 1) + m by omega]
    exact whCount_l0 h0 h1 m (n + 1) (by omega)
theorem whCount_ev {W D : Int} (h : good W D = true) : Ev (fun k => spec_whCount.f k W D) (pw D W.toNat) := by
  obtain ⟨a, b, c, d⟩ := good_iff.1 h
  obtain ⟨w, rfl⟩ := Int.eq_ofNat_of_zero_le (show 0 ≤ W by omega)
  unfold spec_whCount.f
  have := whCount_l0 (W := w) c d w 0 (by omega)
  rw [Nat.zero_add] at this
  exact this
theorem power_l0 {D : Int} (h0 : 2 ≤ D) (h1 : D ≤ 10) : ∀ (m n : Nat), n + m ≤ 6 → Ev (fun k => impl_power.l0 k D (pw D n) ((n + m : Nat) : Int) (n : Int)) (pw D (n + m))
  | 0, n, h => by
    refine Ev.succ ?_
    simp only [impl_power.l0]
    exact Ev.neg (by omega) (Ev.now _)
  | m + 1, n, h => by
    have b := pw_le6 (D := D) (by omega) h1 (n := n + 1) (by omega)
    have p := pw_pos (D := D) (by omega) (n + 1)
    refine Ev.succ ?_
    simp only [impl_power.l0]
    refine Ev.pos (by omega) ?_
    rw [show wrap64 (pw D n * D) = pw D (n + 1) from wrap_id (by rw [pw] at *; omega) (by rw [pw] at *; omega), show wrap64 ((n : Int) + 1) = ((n + 1 : Nat) : Int) by rw [wrap_id] <;> omega,
      show n + (m + 1) = (n + 1) + m by omega]
    exact power_l0 h0 h1 m (n + 1) (by omega)
theorem count_ev {W D : Int} (h : good W D = true) : Ev (fun k => impl_Lock_count.f k W D) (pw D W.toNat) := by
  obtain ⟨a, b, c, d⟩ := good_iff.1 h
  obtain ⟨w, rfl⟩ := Int.eq_ofNat_of_zero_le (show 0 ≤ W by omega)
  unfold impl_Lock_count.f impl_power.f
  have := power_l0 c d w 0 (by omega)
  rw [Nat.zero_add] at this
  exact Ev.bind this (Ev.now _)

theorem l1Num_ev {d : Int} (h0 : 0 ≤ d) (h1 : d < 10) : Ev (fun k => spec_l1Num.f k d) (txt [d]) := by
  refine Ev.succ ?_
  simp only [spec_l1Num.f]
  refine Ev.pos h1 (Ev.val ?_)
  rw [wrap_id (by omega) (by omega), show (48 + d) % 256 = 48 + d by omega]; rfl
theorem whText_l0 : ∀ (t p : List Int), Ok 10 (p ++ t) → (p ++ t).length ≤ 1048576 → Ev (fun k => spec_whText.l0 k (txt p) (p ++ t) ((p ++ t).length : Int) (p.length : Int)) (txt (p ++ t))
  | [], p, h, hl => by
    refine Ev.succ ?_
    simp only [spec_whText.l0]
    refine Ev.neg (len_end p) (Ev.val (by simp))
  | x :: t, p, h, hl => by
    have hx := (Ok.cons.1 (Ok.append.1 h).2).1
    rw [List.length_append, List.length_cons] at hl
    refine Ev.succ ?_
    simp only [spec_whText.l0]
    refine Ev.pos (len_mid p t x) (Ev.pos (by omega) (Ev.pos (len_mid p t x) ?_))
    rw [rd_mid]
    refine Ev.bind (l1Num_ev hx.1 hx.2) (Ev.pos (by rw [txt_size, txt_size]; simp; omega) ?_)
    rw [len_next p x (by omega), txt_append, app_next p t x]
    refine whText_l0 t (p ++ [x]) (by rw [← app_next p t x]; exact h) (by simp; omega)
theorem whText_ev {ds : List Int} (h : Ok 10 ds) (hl : ds.length ≤ 1048576) : Ev (fun k => spec_whText.f k ds) (txt ds) := by
  unfold spec_whText.f
  exact whText_l0 ds [] h hl
theorem text_l0 : ∀ (t p : List Int), Ok 10 (p ++ t) → (p ++ t).length ≤ 1048576 → Ev (fun k => impl_text.l0 k (p.map (48 + ·)) (p ++ t) ((p ++ t).length : Int) (p.length : Int)) (txt (p ++ t))
  | [], p, h, hl => by
    refine Ev.succ ?_
    simp only [impl_text.l0]
    refine Ev.neg (len_end p) (Ev.val (by unfold txt; simp))
  | x :: t, p, h, hl => by
    have hx := (Ok.cons.1 (Ok.append.1 h).2).1
    rw [List.length_append, List.length_cons] at hl
    refine Ev.succ ?_
    simp only [impl_text.l0]
    refine Ev.pos (len_mid p t x) (Ev.pos (by omega) (Ev.pos (len_mid p t x) (Ev.pos (by rw [List.length_map]; omega) ?_)))
    rw [rd_mid, wrap_id (x := 48 + x) (by omega) (by omega), show (48 + x) % 256 = 48 + x by omega, len_next p x (by omega), app_next p t x]
    have := text_l0 t (p ++ [x]) (by rw [← app_next p t x]; exact h) (by simp; omega)
    rw [List.map_append] at this
    exact this
theorem text_ev {ds : List Int} (h : Ok 10 ds) (hl : ds.length ≤ 1048576) : Ev (fun k => impl_text.f k ds) (txt ds) := by
  unfold impl_text.f
  exact text_l0 ds [] h hl

theorem rdL_mid1 (p t : List (List Int)) (x : List Int) : rd_L1 (p ++ x :: t) (p.length : Int) = x := by
  unfold rd_L1; rw [Int.toNat_natCast, List.getD_eq_getElem?_getD, List.getElem?_append_right (Nat.le_refl _), Nat.sub_self]; rfl
def okK (W D : Int) (knob : List Int) : Bool := decide ((knob.length : Int) = W) && knob.all fun n => decide (0 ≤ n ∧ n ≤ D - 1)
theorem okK_iff {W D : Int} {knob : List Int} : okK W D knob = true ↔ (knob.length : Int) = W ∧ Ok D knob := by
  unfold okK Ok
  simp only [Bool.and_eq_true, decide_eq_true_eq, List.all_eq_true]
  constructor
  · rintro ⟨h1, h2⟩; exact ⟨h1, fun d hd => by have := h2 d hd; omega⟩
  · rintro ⟨h1, h2⟩; exact ⟨h1, fun d hd => by have := h2 d hd; omega⟩
def gearsM (W D : Int) (ks : List (List Int)) : Bool := good W D && (decide (pw D W.toNat ≤ 1000) && (decide (1 ≤ (ks.length : Int) ∧ (ks.length : Int) ≤ 5) && ks.all (okK W D)))
theorem gearsM_iff {W D : Int} {ks : List (List Int)} : gearsM W D ks = true ↔ (1 ≤ W ∧ W ≤ 6 ∧ 2 ≤ D ∧ D ≤ 10) ∧ pw D W.toNat ≤ 1000 ∧ (1 ≤ ks.length ∧ ks.length ≤ 5) ∧ ∀ k ∈ ks, (k.length : Int) = W ∧ Ok D k := by
  unfold gearsM
  simp only [Bool.and_eq_true, good_iff, decide_eq_true_eq, List.all_eq_true, okK_iff]
  constructor
  · rintro ⟨h1, h2, h3, h4⟩; exact ⟨h1, h2, by omega, h4⟩
  · rintro ⟨h1, h2, h3, h4⟩; exact ⟨h1, h2, by omega, h4⟩
theorem l1All_l0 {lo hi : Int} : ∀ (t p : List Int), (p ++ t).length ≤ 1048576 → Ev (fun k => spec_l1All.l0 k lo hi (p ++ t) ((p ++ t).length : Int) (p.length : Int)) (t.all fun n => decide (lo ≤ n ∧ n ≤ hi))
  | [], p, hl => by
    refine Ev.succ ?_
    simp only [spec_l1All.l0]
    exact Ev.neg (len_end p) (Ev.now _)
  | x :: t, p, hl => by
    rw [List.length_append, List.length_cons] at hl
    refine Ev.succ ?_
    simp only [spec_l1All.l0]
    refine Ev.pos (len_mid p t x) (Ev.pos (by omega) (Ev.pos (len_mid p t x) ?_))
    rw [rd_mid, l1In_f, len_next p x (by omega), app_next p t x]
    refine Ev.bind0 rfl ?_
    by_cases h : lo ≤ x ∧ x ≤ hi
    · refine Ev.pos (by simpa using h) ?_
      rw [List.all_cons, decide_eq_true h, Bool.true_and]
      exact l1All_l0 t (p ++ [x]) (by simp; omega)
    · refine Ev.neg (by simpa using h) (Ev.val ?_)
      rw [List.all_cons, decide_eq_false h]; rfl
theorem l1All_ev (l : List Int) (lo hi : Int) (hl : l.length ≤ 1048576) : Ev (fun k => spec_l1All.f k l lo hi) (l.all fun n => decide (lo ≤ n ∧ n ≤ hi)) := by
  unfold spec_l1All.f
  exact l1All_l0 l [] hl
theorem joKnob_ev {W D : Int} (hD : 2 ≤ D ∧ D ≤ 10) (l : List Int) (hl : l.length ≤ 1048576) : Ev (fun k => spec_joKnob.f k W D l) (okK W D l) := by
  unfold spec_joKnob.f okK
  by_cases h : (l.length : Int) = W
  · refine Ev.pos h ?_
    rw [decide_eq_true h, Bool.true_and, wrap_id (x := D - 1) (by omega) (by omega)]
    exact Ev.bind (l1All_ev l 0 (D - 1) hl) (Ev.now _)
  · refine Ev.neg h (Ev.val ?_)
    rw [decide_eq_false h]; rfl
theorem joGood_l0 {W D : Int} (hD : 2 ≤ D ∧ D ≤ 10) {ks0 : List (List Int)} : ∀ (t p : List (List Int)), (∀ k ∈ t, k.length ≤ 1048576) → (p ++ t).length ≤ 1048576 → Ev (fun k => spec_joGood.l0 k (p ++ t) ((p ++ t).length : Int) (p.length : Int) W D ks0) (t.all (okK W D))
  | [], p, hk, hl => by
    refine Ev.succ ?_
    simp only [spec_joGood.l0]
    exact Ev.neg (len_end p) (Ev.now _)
  | x :: t, p, hk, hl => by
    rw [List.length_append, List.length_cons] at hl
    refine Ev.succ ?_
    simp only [spec_joGood.l0]
    refine Ev.pos (len_mid p t x) (Ev.pos (by omega) (Ev.pos (len_mid p t x) ?_))
    rw [rdL_mid1, len_next p x (by omega), app_next p t x]
    refine Ev.bind (joKnob_ev hD x (hk x (by simp))) ?_
    by_cases h : okK W D x = true
    · refine Ev.pos h ?_
      rw [List.all_cons, h, Bool.true_and]
      exact joGood_l0 hD t (p ++ [x]) (fun k h' => hk k (by simp [h'])) (by simp; omega)
    · refine Ev.neg h (Ev.val ?_)
      simp [h]
theorem joGood_ev (W D : Int) (ks : List (List Int)) (hl : ks.length ≤ 1048576) (hk : ∀ k ∈ ks, k.length ≤ 1048576) : Ev (fun k => spec_joGood.f k W D ks) (gearsM W D ks) := by
  unfold spec_joGood.f gearsM
  refine Ev.bind0 (whGood_f W D) ?_
  by_cases h : good W D = true
  · obtain ⟨a, b, c, d⟩ := good_iff.1 h
    rw [h, Bool.true_and]
    refine Ev.pos rfl (Ev.bind (whCount_ev h) ?_)
    by_cases h1 : pw D W.toNat > 1000
    · refine Ev.pos h1 (Ev.succ ?_)
      simp only [spec_joGood.j0]
      refine Ev.pos trivial (Ev.val ?_)
      rw [decide_eq_false (by omega)]; rfl
    · refine Ev.neg h1 (Ev.bind0 (l1In_f _ _ _) (Ev.succ ?_))
      rw [decide_eq_true (show pw D W.toNat ≤ 1000 by omega), Bool.true_and]
      simp only [spec_joGood.j0]
      by_cases h2 : 1 ≤ (ks.length : Int) ∧ (ks.length : Int) ≤ 5
      · rw [decide_eq_true h2, Bool.true_and]
        refine Ev.neg (by simp) ?_
        exact joGood_l0 ⟨c, d⟩ ks [] hk hl
      · rw [decide_eq_false h2]
        exact Ev.pos (by simp) (Ev.now _)
  · refine Ev.neg h (Ev.succ ?_)
    simp only [spec_joGood.j0]
    refine Ev.pos trivial (Ev.val ?_)
    simp [h]
theorem areG_l1 {W D : Int} (hD : 2 ≤ D ∧ D ≤ 10) {X19 : List (List Int)} {X20 X21 : Int} {ks0 : List (List Int)} {b : Bool} : ∀ (t p : List Int), (p ++ t).length ≤ 1048576 →
    Ev (fun k => impl_AreGears.l0 k X19 X20 (wrap64 (X21 + 1)) W D ks0) b →
    Ev (fun k => impl_AreGears.l1 k X19 X20 X21 (p ++ t) ((p ++ t).length : Int) (p.length : Int) W D ks0) ((t.all fun n => decide (0 ≤ n ∧ n ≤ D - 1)) && b)
  | [], p, hl, h => by
    refine Ev.succ ?_
    simp only [impl_AreGears.l1]
    refine Ev.neg (len_end p) ?_
    rw [List.all_nil, Bool.true_and]; exact h
  | x :: t, p, hl, h => by
    rw [List.length_append, List.length_cons] at hl
    refine Ev.succ ?_
    simp only [impl_AreGears.l1]
    refine Ev.pos (len_mid p t x) (Ev.pos (by omega) (Ev.pos (len_mid p t x) ?_))
    rw [rd_mid, within_f, wrap_id (x := D - 1) (by omega) (by omega), len_next p x (by omega), app_next p t x]
    refine Ev.bind0 rfl ?_
    by_cases hx : 0 ≤ x ∧ x ≤ D - 1
    · refine Ev.pos (by simpa using hx) ?_
      rw [List.all_cons, decide_eq_true hx, Bool.true_and]
      exact areG_l1 hD t (p ++ [x]) (by simp; omega) h
    · refine Ev.neg (by simpa using hx) (Ev.val ?_)
      rw [List.all_cons, decide_eq_false hx]; rfl
theorem areG_l0 {W D : Int} (hD : 2 ≤ D ∧ D ≤ 10) {ks0 : List (List Int)} : ∀ (t p : List (List Int)), (∀ k ∈ t, k.length ≤ 1048576) → (p ++ t).length ≤ 1048576 → Ev (fun k => impl_AreGears.l0 k (p ++ t) ((p ++ t).length : Int) (p.length : Int) W D ks0) (t.all (okK W D))
  | [], p, hk, hl => by
    refine Ev.succ ?_
    simp only [impl_AreGears.l0]
    exact Ev.neg (len_end p) (Ev.now _)
  | x :: t, p, hk, hl => by
    have hl0 := hl
    rw [List.length_append, List.length_cons] at hl
    refine Ev.succ ?_
    simp only [impl_AreGears.l0]
    refine Ev.pos (len_mid p t x) (Ev.pos (by omega) (Ev.pos (len_mid p t x) ?_))
    rw [rdL_mid1]
    have ih := areG_l0 (W := W) hD (ks0 := ks0) t (p ++ [x]) (fun k h' => hk k (by simp [h'])) (by simp; omega)
    by_cases h : (x.length : Int) = W
    · refine Ev.pos h ?_
      rw [List.all_cons]
      have : okK W D x = x.all fun n => decide (0 ≤ n ∧ n ≤ D - 1) := by unfold okK; rw [decide_eq_true h, Bool.true_and]
      rw [this]
      refine areG_l1 hD (X20 := ((p ++ x :: t).length : Int)) x [] (hk x (by simp)) ?_
      rw [len_next p x (by omega), app_next p t x]
      exact ih
    · refine Ev.neg h (Ev.val ?_)
      simp [okK, h]
theorem AreGears_i (W D : Int) (ks : List (List Int)) (hl : ks.length ≤ 1048576) (hk : ∀ k ∈ ks, k.length ≤ 1048576) : Ev (fun k => impl_AreGears.f k W D ks) (gearsM W D ks) := by
  unfold impl_AreGears.f gearsM
  have e : impl_isSmall.f = fun k a b m => (impl_IsLock.f a b).bind fun t => if t = true then ((impl_Lock_count.f k a b).bind fun t2 => some (decide (t2 ≤ m))) else some false := by
    funext k a b m; unfold impl_isSmall.f; rfl
  by_cases h : good W D = true
  · obtain ⟨a, b, c, d⟩ := good_iff.1 h
    rw [h, Bool.true_and]
    refine Ev.bind (a := decide (pw D W.toNat ≤ 1000)) ?_ ?_
    · rw [e]; exact Ev.bind0 (IsLock_i W D) (Ev.pos h (Ev.bind (count_ev h) (Ev.now _)))
    by_cases h1 : pw D W.toNat ≤ 1000
    · rw [decide_eq_true h1, Bool.true_and]
      refine Ev.pos rfl (Ev.bind0 (within_f _ _ _) (Ev.succ ?_))
      simp only [impl_AreGears.j0]
      by_cases h2 : 1 ≤ (ks.length : Int) ∧ (ks.length : Int) ≤ 5
      · rw [decide_eq_true h2, Bool.true_and]
        refine Ev.neg (by simp) ?_
        exact areG_l0 ⟨c, d⟩ ks [] hk hl
      · rw [decide_eq_false h2]
        exact Ev.pos (by simp) (Ev.now _)
    · rw [decide_eq_false h1]
      refine Ev.neg (by simp) (Ev.succ ?_)
      simp only [impl_AreGears.j0]
      exact Ev.pos trivial (Ev.now _)
  · refine Ev.bind (a := false) ?_ ?_
    · rw [e]; exact Ev.bind0 (IsLock_i W D) (Ev.neg h (Ev.now _))
    refine Ev.neg (by simp) (Ev.succ ?_)
    simp only [impl_AreGears.j0]
    refine Ev.pos trivial (Ev.val ?_)
    simp [h]
theorem szIntS_f (l : List Int) (hl : l.length ≤ 9223372036854775807) {c : Int} (h0 : 0 ≤ c) (h1 : c ≤ 1048576) : laws_szIntS.f l c = some (if c - (l.length : Int) < 0 then -1 else c - (l.length : Int)) := by
  unfold laws_szIntS.f
  rw [wrap_id (x := c - (l.length : Int)) (by omega) (by omega)]
  split <;> rfl
theorem szIntSS_l0 : ∀ (t p : List (List Int)) (c : Int), (∀ s ∈ t, s.length ≤ 9223372036854775807) → (p ++ t).length ≤ 9223372036854775806 → 0 ≤ c → c ≤ 1048576 →
    ∃ r, Ev (fun k => laws_szIntSS.l0 k (p ++ t) c (p.length : Int)) r ∧ (r < 0 ∨ (∀ s ∈ t, s.length ≤ 1048576))
  | [], p, c, hs, hl, h0, h1 => by
    refine ⟨c, Ev.succ ?_, .inr (by simp)⟩
    simp only [laws_szIntSS.l0]
    exact Ev.neg (len_end p) (Ev.now _)
  | x :: t, p, c, hs, hl, h0, h1 => by
    rw [List.length_append, List.length_cons] at hl
    have hx := hs x (by simp)
    have hf := szIntS_f x hx h0 h1
    by_cases h : c - (x.length : Int) < 0
    · rw [if_pos h] at hf
      refine ⟨-1, Ev.succ ?_, .inl (by omega)⟩
      simp only [laws_szIntSS.l0]
      refine Ev.pos (len_mid p t x) (Ev.pos (by omega) ?_)
      rw [rdL_mid1]
      exact Ev.bind0 hf (Ev.pos (by omega) (Ev.now _))
    · rw [if_neg h] at hf
      obtain ⟨r, hr, hp⟩ := szIntSS_l0 t (p ++ [x]) (c - (x.length : Int)) (fun s h' => hs s (by simp [h'])) (by simp; omega) (by omega) (by omega)
      refine ⟨r, Ev.succ ?_, hp.imp id (fun h' s hs' => ?_)⟩
      · simp only [laws_szIntSS.l0]
        refine Ev.pos (len_mid p t x) (Ev.pos (by omega) ?_)
        rw [rdL_mid1]
        refine Ev.bind0 hf (Ev.neg h ?_)
        rw [len_next p x (by omega), app_next p t x]
        exact hr
      · rcases List.mem_cons.1 hs' with rfl | h2
        · omega
        · exact h' s h2
theorem szGears_ev (W D : Int) (l : List (List Int)) (hl : l.length ≤ 9223372036854775807) (hs : ∀ s ∈ l, s.length ≤ 9223372036854775807) :
    ∃ r, Ev (fun k => laws_szGears.f k W D l 1048576) r ∧ (r < 0 ∨ (l.length ≤ 1048576 ∧ ∀ s ∈ l, s.length ≤ 1048576)) := by
  have key : ∃ r, Ev (fun k => laws_szIntSS.f k l 1048576) r ∧ (r < 0 ∨ (l.length ≤ 1048576 ∧ ∀ s ∈ l, s.length ≤ 1048576)) := by
    by_cases h : (1048576 : Int) - (l.length : Int) < 0
    · refine ⟨-1, ?_, .inl (by omega)⟩
      unfold laws_szIntSS.f
      rw [wrap_id (x := (1048576 : Int) - (l.length : Int)) (by omega) (by omega)]
      exact Ev.pos h (Ev.now _)
    · obtain ⟨r, hr, hp⟩ := szIntSS_l0 l [] ((1048576 : Int) - (l.length : Int)) hs (by simp; omega) (by omega) (by omega)
      refine ⟨r, ?_, hp.imp id (fun h' => ⟨by omega, h'⟩)⟩
      unfold laws_szIntSS.f
      rw [wrap_id (x := (1048576 : Int) - (l.length : Int)) (by omega) (by omega)]
      exact Ev.neg h hr
  obtain ⟨r, hr, hp⟩ := key
  by_cases h : r < 0
  · exact ⟨-1, by unfold laws_szGears.f; exact Ev.bind hr (Ev.pos h (Ev.now _)), .inl (by omega)⟩
  · exact ⟨r, by unfold laws_szGears.f; exact Ev.bind hr (Ev.neg h (Ev.now _)), hp⟩
theorem toIntS_l0 : ∀ (t p u : List Int), t.length = u.length → (p ++ t).length ≤ 1048576 → Ev (fun k => laws_toIntS.l0 k (p ++ t) (p ++ u) (p.length : Int)) (p ++ t)
  | [], p, u, e, hl => by
    have : u = [] := List.length_eq_zero_iff.1 e.symm
    subst this
    refine Ev.succ ?_
    simp only [laws_toIntS.l0]
    exact Ev.neg (len_end p) (Ev.now _)
  | x :: t, p, [], e, hl => by simp at e
  | x :: t, p, y :: u, e, hl => by
    rw [List.length_append, List.length_cons] at hl
    refine Ev.succ ?_
    simp only [laws_toIntS.l0]
    refine Ev.pos (len_mid p t x) (Ev.pos (by omega) (Ev.pos (len_mid p u y) ?_))
    rw [rd_mid, set_mid, len_next p x (by omega), app_next p t x, app_next p u x]
    exact toIntS_l0 t (p ++ [x]) u (by simpa using e) (by simp; omega)
theorem toIntS_ev (l : List Int) (hl : l.length ≤ 1048576) : Ev (fun k => laws_toIntS.f k l) l := by
  unfold laws_toIntS.f
  refine Ev.pos (by omega) (Ev.pos (by omega) ?_)
  exact toIntS_l0 l [] _ (by simp) hl
theorem toIntSS_l0 : ∀ (t p u : List (List Int)), (∀ s ∈ t, s.length ≤ 1048576) → t.length = u.length → (p ++ t).length ≤ 1048576 → Ev (fun k => laws_toIntSS.l0 k (p ++ t) (p ++ u) (p.length : Int)) (p ++ t)
  | [], p, u, hs, e, hl => by
    have : u = [] := List.length_eq_zero_iff.1 e.symm
    subst this
    refine Ev.succ ?_
    simp only [laws_toIntSS.l0]
    exact Ev.neg (len_end p) (Ev.now _)
  | x :: t, p, [], hs, e, hl => by simp at e
  | x :: t, p, y :: u, hs, e, hl => by
    rw [List.length_append, List.length_cons] at hl
    refine Ev.succ ?_
    simp only [laws_toIntSS.l0]
    refine Ev.pos (len_mid p t x) (Ev.pos (by omega) ?_)
    rw [rdL_mid1]
    refine Ev.bind (toIntS_ev x (hs x (by simp))) (Ev.pos (len_mid p u y) ?_)
    rw [set_mid, len_next p x (by omega), app_next p t x, app_next p u x]
    exact toIntSS_l0 t (p ++ [x]) u (fun s h => hs s (by simp [h])) (by simpa using e) (by simp; omega)
theorem toGears_ev (W D : Int) (l : List (List Int)) (hl : l.length ≤ 1048576) (hs : ∀ s ∈ l, s.length ≤ 1048576) : Ev (fun k => laws_toGears.f k W D l) (W, D, l) := by
  unfold laws_toGears.f laws_toIntSS.f
  refine Ev.bind0 rfl (Ev.bind (a := l) (Ev.pos (by omega) (Ev.pos (by omega) ?_)) (Ev.now _))
  exact toIntSS_l0 l [] _ hs (by simp) hl
theorem eqIntS_l0 : ∀ (t p : List Int), (p ++ t).length ≤ 9223372036854775806 → Ev (fun k => laws_eqIntS.l0 k (p ++ t) (p ++ t) (p.length : Int)) true
  | [], p, hl => by
    refine Ev.succ ?_
    simp only [laws_eqIntS.l0]
    exact Ev.neg (len_end p) (Ev.now _)
  | x :: t, p, hl => by
    rw [List.length_append, List.length_cons] at hl
    refine Ev.succ ?_
    simp only [laws_eqIntS.l0]
    refine Ev.pos (len_mid p t x) (Ev.pos (by omega) (Ev.pos (len_mid p t x) ?_))
    refine Ev.pos trivial ?_
    rw [len_next p x (by omega), app_next p t x]
    exact eqIntS_l0 t (p ++ [x]) (by simp; omega)
theorem eqIntS_ev (l : List Int) (hl : l.length ≤ 9223372036854775806) : Ev (fun k => laws_eqIntS.f k l l) true := by
  unfold laws_eqIntS.f
  exact Ev.pos rfl (eqIntS_l0 l [] hl)
theorem eqIntSS_l0 : ∀ (t p : List (List Int)), (∀ s ∈ t, s.length ≤ 1048576) → (p ++ t).length ≤ 9223372036854775806 → Ev (fun k => laws_eqIntSS.l0 k (p ++ t) (p ++ t) (p.length : Int)) true
  | [], p, hs, hl => by
    refine Ev.succ ?_
    simp only [laws_eqIntSS.l0]
    exact Ev.neg (len_end p) (Ev.now _)
  | x :: t, p, hs, hl => by
    rw [List.length_append, List.length_cons] at hl
    refine Ev.succ ?_
    simp only [laws_eqIntSS.l0]
    refine Ev.pos (len_mid p t x) (Ev.pos (by omega) (Ev.pos (len_mid p t x) ?_))
    rw [rdL_mid1]
    refine Ev.bind (eqIntS_ev x (by have := hs x (by simp); omega)) (Ev.pos rfl ?_)
    rw [len_next p x (by omega), app_next p t x]
    exact eqIntSS_l0 t (p ++ [x]) (fun s h => hs s (by simp [h])) (by simp; omega)
theorem eqGears_ev (W D : Int) (l : List (List Int)) (hl : l.length ≤ 1048576) (hs : ∀ s ∈ l, s.length ≤ 1048576) : Ev (fun k => laws_eqGears.f k W D l W D l) true := by
  unfold laws_eqGears.f laws_eqIntSS.f
  refine Ev.bind0 (a := true) (by unfold laws_eqLock.f; simp) (Ev.pos rfl (Ev.bind (a := true) (Ev.pos rfl (eqIntSS_l0 l [] hs (by simp; omega))) (Ev.pos rfl (Ev.now _))))
def decM (n : Int) : ByteArray := if n < 10 then txt [n] else txt [n / 10, n % 10]
theorem decM_size (n : Int) : (decM n).size ≤ 2 := by unfold decM; split <;> rw [txt_size] <;> simp
theorem itoa2 {n : Int} (h0 : 0 ≤ n) (h1 : n < 100) : strconv_Itoa_34.f n = some (decM n) := by
  unfold strconv_Itoa_34.f decM
  rw [if_pos h0, if_pos h1]
  congr 1
  by_cases h : n < 10
  · rw [if_pos h, Lib.decDigits_one (by omega)]
    unfold txt strOfNums
    have e : (48 + n).toNat = 48 + n.toNat := by omega
    simp [e]
  · rw [if_neg h, Lib.decDigits_two (by omega) (by omega)]
    unfold txt strOfNums
    have e1 : (48 + n / 10).toNat = 48 + n.toNat / 10 := by omega
    have e2 : (48 + n % 10).toNat = 48 + n.toNat % 10 := by omega
    simp [e1, e2]
theorem l1Num2_ev {n : Int} (h0 : 0 ≤ n) (h1 : n < 100) : Ev (fun k => spec_l1Num.f k n) (decM n) := by
  unfold decM
  by_cases h : n < 10
  · rw [if_pos h]; exact l1Num_ev h0 h
  · rw [if_neg h]
    have e1 : Int.tdiv n 10 = n / 10 := Int.tdiv_eq_ediv_of_nonneg h0
    have e2 : Int.tmod n 10 = n % 10 := Int.tmod_eq_emod_of_nonneg h0
    refine Ev.succ ?_
    simp only [spec_l1Num.f]
    rw [e1, e2, wrap_id (x := n / 10) (by omega) (by omega), wrap_id (x := 48 + n % 10) (by omega) (by omega)]
    refine Ev.neg h (Ev.bind (l1Num_ev (by omega) (by omega)) (Ev.bind0 rfl (Ev.pos (by rw [txt_size, str_size]; simp) (Ev.val ?_))))
    rw [show (48 + n % 10) % 256 = 48 + n % 10 by omega]
    unfold txt
    rw [str_append]
    rfl
def joTextM (W D : Int) (ks : List (List Int)) : ByteArray := ks.foldl (fun acc k => acc ++ ((⟨#[58]⟩ : ByteArray) ++ txt k)) ((decM W ++ (⟨#[120]⟩ : ByteArray)) ++ decM D)
theorem joText_sl {D : Int} (hD : D ≤ 10) : ∀ (t p : List (List Int)) (acc : ByteArray), (∀ k ∈ t, k.length ≤ 6 ∧ Ok D k) → (p ++ t).length ≤ 1000 → acc.size ≤ 10 + 10 * p.length → Ev (fun k => spec_joText.l0 k acc (p ++ t) ((p ++ t).length : Int) (p.length : Int)) (t.foldl (fun acc k => acc ++ ((⟨#[58]⟩ : ByteArray) ++ txt k)) acc)
  | [], p, acc, ht, hl, ha => by
    refine Ev.succ ?_
    simp only [spec_joText.l0]
    exact Ev.neg (len_end p) (Ev.now _)
  | x :: t, p, acc, ht, hl, ha => by
    rw [List.length_append, List.length_cons] at hl
    obtain ⟨x1, x2⟩ := ht x (by simp)
    have hs : ((⟨#[58]⟩ : ByteArray) ++ txt x).size = 1 + x.length := by rw [ByteArray.size_append, txt_size]; rfl
    refine Ev.succ ?_
    simp only [spec_joText.l0]
    refine Ev.pos (len_mid p t x) (Ev.pos (by omega) (Ev.pos (len_mid p t x) ?_))
    rw [rdL_mid1, len_next p x (by omega), app_next p t x]
    refine Ev.bind (whText_ev (x2.le hD) (by omega)) (Ev.pos (by rw [txt_size]; omega) (Ev.pos (by rw [hs]; omega) ?_))
    exact joText_sl hD t (p ++ [x]) _ (fun k hk => ht k (by simp [hk])) (by simp; omega) (by rw [ByteArray.size_append, hs]; simp; omega)
theorem joText_il {D : Int} (hD : D ≤ 10) : ∀ (t p : List (List Int)) (acc : ByteArray), (∀ k ∈ t, k.length ≤ 6 ∧ Ok D k) → (p ++ t).length ≤ 1000 → acc.size ≤ 10 + 10 * p.length → Ev (fun k => impl_gearsText.l0 k acc (p ++ t) ((p ++ t).length : Int) (p.length : Int)) (t.foldl (fun acc k => acc ++ ((⟨#[58]⟩ : ByteArray) ++ txt k)) acc)
  | [], p, acc, ht, hl, ha => by
    refine Ev.succ ?_
    simp only [impl_gearsText.l0]
    exact Ev.neg (len_end p) (Ev.now _)
  | x :: t, p, acc, ht, hl, ha => by
    rw [List.length_append, List.length_cons] at hl
    obtain ⟨x1, x2⟩ := ht x (by simp)
    have hs : ((⟨#[58]⟩ : ByteArray) ++ txt x).size = 1 + x.length := by rw [ByteArray.size_append, txt_size]; rfl
    refine Ev.succ ?_
    simp only [impl_gearsText.l0]
    refine Ev.pos (len_mid p t x) (Ev.pos (by omega) (Ev.pos (len_mid p t x) ?_))
    rw [rdL_mid1, len_next p x (by omega), app_next p t x]
    refine Ev.bind (text_ev (x2.le hD) (by omega)) (Ev.pos (by rw [txt_size]; omega) (Ev.pos (by rw [hs]; omega) ?_))
    exact joText_il hD t (p ++ [x]) _ (fun k hk => ht k (by simp [hk])) (by simp; omega) (by rw [ByteArray.size_append, hs]; simp; omega)
theorem lockT_size (W D : Int) : ((decM W ++ (⟨#[120]⟩ : ByteArray)) ++ decM D).size ≤ 5 := by
  have h1 := decM_size W
  have h2 := decM_size D
  have h3 : (⟨#[120]⟩ : ByteArray).size = 1 := rfl
  rw [ByteArray.size_append, ByteArray.size_append]
  omega
theorem gears_small {W D : Int} {ks : List (List Int)} (h : gearsM W D ks = true) : (1 ≤ W ∧ W ≤ 6 ∧ 2 ≤ D ∧ D ≤ 10) ∧ ks.length ≤ 5 ∧ ∀ k ∈ ks, k.length ≤ 6 ∧ Ok D k := by
  obtain ⟨g, _, h2, h3⟩ := gearsM_iff.1 h
  exact ⟨g, h2.2, fun k hk => ⟨by have := (h3 k hk).1; omega, (h3 k hk).2⟩⟩
theorem joText_ev {W D : Int} {ks : List (List Int)} (h : gearsM W D ks = true) : Ev (fun k => spec_joText.f k W D ks) (joTextM W D ks) := by
  obtain ⟨g, h2, h3⟩ := gears_small h
  have s1 := decM_size W
  have s2 := decM_size D
  have s3 : (⟨#[120]⟩ : ByteArray).size = 1 := rfl
  have s4 := lockT_size W D
  unfold spec_joText.f
  refine Ev.bind (l1Num2_ev (by omega) (by omega)) (Ev.pos (by omega) (Ev.bind (l1Num2_ev (by omega) (by omega)) (Ev.pos (by rw [ByteArray.size_append]; omega) ?_)))
  exact joText_sl g.2.2.2 ks [] _ h3 (by simp; omega) (by simp; omega)
theorem gearsText_ev {W D : Int} {ks : List (List Int)} (h : gearsM W D ks = true) : Ev (fun k => impl_gearsText.f k W D ks) (joTextM W D ks) := by
  obtain ⟨g, h2, h3⟩ := gears_small h
  have s1 := decM_size W
  have s2 := decM_size D
  have s3 : (⟨#[120]⟩ : ByteArray).size = 1 := rfl
  have s4 := lockT_size W D
  unfold impl_gearsText.f impl_lockText.f
  refine Ev.bind0 (a := (decM W ++ (⟨#[120]⟩ : ByteArray)) ++ decM D) ?_ (joText_il g.2.2.2 ks [] _ h3 (by simp; omega) (by simp; omega))
  rw [itoa2 (by omega) (by omega), Option.bind_some, if_pos (by omega), itoa2 (by omega) (by omega), Option.bind_some, if_pos (by rw [ByteArray.size_append]; omega)]
def GearsTextM (W D : Int) (ks : List (List Int)) : ByteArray × Bool := if gearsM W D ks = true then (joTextM W D ks, true) else (⟨#[]⟩, false)
theorem GearsText_s (W D : Int) (ks : List (List Int)) (hl : ks.length ≤ 1048576) (hk : ∀ k ∈ ks, k.length ≤ 1048576) : Ev (fun k => spec_GearsText.f k W D ks) (GearsTextM W D ks) := by
  unfold spec_GearsText.f GearsTextM
  refine Ev.bind (joGood_ev W D ks hl hk) ?_
  by_cases h : gearsM W D ks = true
  · rw [if_pos h]; exact Ev.pos h (Ev.bind (joText_ev h) (Ev.now _))
  · rw [if_neg h]; exact Ev.neg h (Ev.now _)
theorem GearsText_i (W D : Int) (ks : List (List Int)) (hl : ks.length ≤ 1048576) (hk : ∀ k ∈ ks, k.length ≤ 1048576) : Ev (fun k => impl_GearsText.f k W D ks) (GearsTextM W D ks) := by
  unfold impl_GearsText.f GearsTextM
  refine Ev.bind (AreGears_i W D ks hl hk) ?_
  by_cases h : gearsM W D ks = true
  · rw [if_pos h]; exact Ev.pos h (Ev.bind (gearsText_ev h) (Ev.now _))
  · rw [if_neg h]; exact Ev.neg h (Ev.now _)
end Go.Proofs.YtffjfnoocbgajaaDoor.L
