/- What the printed functions that FnExactTurnThatMeets reaches come to: lemmas for its plain law. -/
import Derived.Test.YtajhahafgnefcaaMath
import Derived.Test.YtajhahafgnefcaaR0
import Derived.Test.YtajhahafgnefcaaR1
import Derived.Test.YtajhahafgnefcaaR2
import Derived.Test.YtajhahafgnefcaaR3
import Derived.Test.YtajhahafgnefcaaR4
import Derived.Test.YtajhahafgnefcaaR5
import Derived.Test.YtajhahafgnefcaaR6
import Derived.Test.YtajhahafgnefcaaR7
import Derived.Test.YtajhahafgnefcaaR8
import Derived.Test.YtajhahafgnefcaaR9
import Derived.Test.YtajhahafgnefcaaR10
import Derived.Test.YtajhahafgnefcaaR11
import Derived.Test.YtajhahafgnefcaaR12
import Derived.Test.YtajhahafgnefcaaR13
import Derived.Test.YtajhahafgnefcaaR14
import Derived.Test.YtajhahafgnefcaaR15
import Derived.Test.YtajhahafgnefcaaR16
import Derived.Test.YtajhahafgnefcaaR17
import Derived.Test.YtajhahafgnefcaaR18
import Derived.Test.YtajhahafgnefcaaR19
import Derived.Test.YtajhahafgnefcaaR20
import Derived.Test.YtajhahafgnefcaaR22
import Derived.Test.YtajhahafgnefcaaR23
import Derived.Test.YtajhahafgnefcaaR24
import Derived.Test.YtajhahafgnefcaaR25
import Derived.Test.YtajhahafgnefcaaR26
import Derived.Test.YtajhahafgnefcaaR27
import Derived.Test.YtajhahafgnefcaaR28
import Derived.Test.YtajhahafgnefcaaR29
import Derived.Test.YtajhahafgnefcaaR30
import Derived.Test.YtajhahafgnefcaaR31
namespace Go.Proofs.Ytajhahafgnefcaa.L
open Go.RowKit Go.Proofs.YtajhahafgnefcaaW.PrintWords Go.Proofs.YtajhahafgnefcaaW.PrintMore Go.Proofs.Ytajhahafgnefcaa.M Go.Proofs.Ytajhahafgnefcaa.R
set_option linter.unusedVariables false
set_option linter.unusedSimpArgs false
theorem whGood_f (W D : Int) : spec_whGood.f W D = some (good W D) := by
  unfold spec_whGood.f spec_l1In.f good
  by_cases h1 : 1 ≤ W <;> by_cases h2 : W ≤ 6 <;> by_cases h3 : 2 ≤ D <;> by_cases h4 : D ≤ 10 <;> simp [h1, h2, h3, h4]
theorem IsLock_i (W D : Int) : impl_IsLock.f W D = some (good W D) := by
  unfold impl_IsLock.f impl_within.f good
  by_cases h1 : 1 ≤ W <;> by_cases h2 : W ≤ 6 <;> by_cases h3 : 2 ≤ D <;> by_cases h4 : D ≤ 10 <;> simp [h1, h2, h3, h4]
theorem l1In_f (n lo hi : Int) : spec_l1In.f n lo hi = some (decide (lo ≤ n ∧ n ≤ hi)) := by
  unfold spec_l1In.f
  by_cases h1 : lo ≤ n <;> by_cases h2 : n ≤ hi <;> simp [h1, h2]
theorem within_f (n lo hi : Int) : impl_within.f n lo hi = some (decide (lo ≤ n ∧ n ≤ hi)) := by
  unfold impl_within.f
  by_cases h1 : lo ≤ n <;> by_cases h2 : n ≤ hi <;> simp [h1, h2]

theorem whCount_l0 {W D : Int} (h0 : 2 ≤ D) (h1 : D ≤ 10) : ∀ (m n : Nat), n + m ≤ 6 → Ev (fun k => spec_whCount.l0 k (pw D n) (m : Int) W D) (pw D (n + m))
  | 0, n, h => by
    refine Ev.succ ?_
    simp only [spec_whCount.l0]
    exact Ev.neg (by omega) (Ev.now _)
  | m + 1, n, h => by
    have b := pw_le6 (D := D) (by omega) h1 (n := n + 1) (by omega)
    have p := pw_pos (D := D) (by omega) (n + 1)
    refine Ev.succ ?_
    simp only [spec_whCount.l0]
    refine Ev.pos (by omega) ?_
    rw [show wrap64 (pw D n * D) = pw D (n + 1) from wrap_id (by rw [pw] at *; omega) (by rw [pw] at *; omega), show wrap64 (((m + 1 : Nat) : Int) - 1) = (m : Int) by rw [wrap_id] <;> omega,
      show n + (m + 1) = (n + 1) + m by omega]
    exact whCount_l0 h0 h1 m (n + 1) (by omega)
theorem whCount_ev {W D : Int} (h : good W D = true) : Ev (fun k => spec_whCount.f k W D) (pw D W.toNat) := by
  obtain ⟨a, b, c, d⟩ := good_iff.1 h
  obtain ⟨w, rfl⟩ := Int.eq_ofNat_of_zero_le (show 0 ≤ W by omega)
  unfold spec_whCount.f
  have := whCount_l0 (W := w) c d w 0 (by omega)
  rw [Nat.zero_add] at this
  exact this
theorem power_l0 {D : Int} (h0 : 2 ≤ D) (h1 : D ≤ 10) : ∀ (m n : Nat), n + m ≤ 6 → Ev (fun k => impl_power.l0 k D (pw D n) ((n + m : Nat) : Int) (n : Int)) (pw D (n + m))
  | 0, n, h => by
    refine Ev.succ ?_
    simp only [impl_power.l0]
    exact Ev.neg (by omega) (Ev.now _)
  | m + 1, n, h => by
    have b := pw_le6 (D := D) (by omega) h1 (n := n + 1) (by omega)
    have p := pw_pos (D := D) (by omega) (n + 1)
    refine Ev.succ ?_
    simp only [impl_power.l0]
    refine Ev.pos (by omega) ?_
    rw [show wrap64 (pw D n * D) = pw D (n + 1) from wrap_id (by rw [pw] at *; omega) (by rw [pw] at *; omega), show wrap64 ((n : Int) + 1) = ((n + 1 : Nat) : Int) by rw [wrap_id] <;> omega,
      show n + (m + 1) = (n + 1) + m by omega]
    exact power_l0 h0 h1 m (n + 1) (by omega)
theorem count_ev {W D : Int} (h : good W D = true) : Ev (fun k => impl_Lock_count.f k W D) (pw D W.toNat) := by
  obtain ⟨a, b, c, d⟩ := good_iff.1 h
  obtain ⟨w, rfl⟩ := Int.eq_ofNat_of_zero_le (show 0 ≤ W by omega)
  unfold impl_Lock_count.f impl_power.f
  have := power_l0 c d w 0 (by omega)
  rw [Nat.zero_add] at this
  exact Ev.bind this (Ev.now _)

theorem whCode_l0 {W D : Int} (hD : 2 ≤ D ∧ D ≤ 10) {s : ByteArray} (hs : s.size ≤ 1048576) : ∀ (t p : List Int), bys s = p ++ t → Ev (fun k => spec_whCode.l0 k s (p.length : Int) W D) (t.all fun b => decide (48 ≤ b ∧ b < 48 + D))
  | [], p, e => by
    have el : p.length = s.size := by rw [← bys_length, e]; simp
    refine Ev.succ ?_
    simp only [spec_whCode.l0]
    exact Ev.neg (by omega) (Ev.now _)
  | x :: t, p, e => by
    have el : p.length + (t.length + 1) = s.size := by rw [← bys_length, e]; simp
    have hx := bys_range s x (by rw [e]; simp)
    refine Ev.succ ?_
    simp only [spec_whCode.l0]
    refine Ev.pos (by omega) (Ev.pos (by omega) ?_)
    rw [bt_bys, e, rd_mid, wrap_id (x := x) (by omega) (by omega), wrap_id (x := x - 48) (by omega) (by omega), wrap_id (x := D - 1) (by omega) (by omega), l1In_f]
    refine Ev.bind0 rfl ?_
    by_cases hb : 48 ≤ x ∧ x < 48 + D
    · refine Ev.pos (by simp; omega) ?_
      rw [show wrap64 ((p.length : Int) + 1) = ((p ++ [x]).length : Int) from len_next p x (by omega)]
      simp only [List.all_cons, hb, and_self, decide_true, Bool.true_and]
      exact whCode_l0 hD hs t (p ++ [x]) (by rw [e]; simp)
    · refine Ev.neg (by simp; omega) ?_
      rw [List.all_cons, decide_eq_false hb, Bool.false_and]
      exact Ev.now _
theorem whCode_ev {W D : Int} (h : good W D = true) (s : ByteArray) (hs : s.size ≤ 1048576) : Ev (fun k => spec_whCode.f k W D s) (isC W D s) := by
  obtain ⟨a, b, c, d⟩ := good_iff.1 h
  unfold spec_whCode.f isC
  by_cases e : (s.size : Int) = W
  · refine Ev.pos e ?_
    rw [decide_eq_true e, Bool.true_and]
    exact whCode_l0 ⟨c, d⟩ hs (bys s) [] rfl
  · refine Ev.neg e ?_
    rw [decide_eq_false e, Bool.false_and]
    exact Ev.now _
theorem isText_l0 {W D : Int} (hD : 2 ≤ D ∧ D ≤ 10) {s : ByteArray} (hs : s.size ≤ 1048576) : ∀ (t p : List Int), bys s = p ++ t → Ev (fun k => impl_Lock_isText.l0 k s (s.size : Int) (p.length : Int) W D) (t.all fun b => decide (48 ≤ b ∧ b < 48 + D))
  | [], p, e => by
    have el : p.length = s.size := by rw [← bys_length, e]; simp
    refine Ev.succ ?_
    simp only [impl_Lock_isText.l0]
    exact Ev.neg (by omega) (Ev.now _)
  | x :: t, p, e => by
    have el : p.length + (t.length + 1) = s.size := by rw [← bys_length, e]; simp
    have hx := bys_range s x (by rw [e]; simp)
    refine Ev.succ ?_
    simp only [impl_Lock_isText.l0]
    refine Ev.pos (by omega) (Ev.pos (by omega) (Ev.pos (by omega) ?_))
    rw [bt_bys, e, rd_mid, wrap_id (x := x) (by omega) (by omega), wrap_id (x := 48 + D) (by omega) (by omega), wrap_id (x := 48 + D - 1) (by omega) (by omega), within_f]
    refine Ev.bind0 rfl ?_
    by_cases hb : 48 ≤ x ∧ x < 48 + D
    · refine Ev.pos (by simp; omega) ?_
      rw [show wrap64 ((p.length : Int) + 1) = ((p ++ [x]).length : Int) from len_next p x (by omega)]
      simp only [List.all_cons, hb, and_self, decide_true, Bool.true_and]
      exact isText_l0 hD hs t (p ++ [x]) (by rw [e]; simp)
    · refine Ev.neg (by simp; omega) ?_
      rw [List.all_cons, decide_eq_false hb, Bool.false_and]
      exact Ev.now _
theorem isCode_ev {W D : Int} (h : good W D = true) (s : ByteArray) (hs : s.size ≤ 1048576) : Ev (fun k => impl_Lock_isCode.f k W D s) (isC W D s) := by
  obtain ⟨a, b, c, d⟩ := good_iff.1 h
  unfold impl_Lock_isCode.f isC
  by_cases e : (s.size : Int) = W
  · refine Ev.pos e ?_
    rw [decide_eq_true e, Bool.true_and]
    refine Ev.bind (isText_l0 (W := W) ⟨c, d⟩ hs (bys s) [] rfl) (Ev.now _)
  · refine Ev.neg e ?_
    rw [decide_eq_false e, Bool.false_and]
    exact Ev.now _

theorem dgs_app {s : ByteArray} {p t : List Int} (e : bys s = p ++ t) : dgs s = (p.map fun b => (b - 48) % 256) ++ (t.map fun b => (b - 48) % 256) := by
  unfold dgs; rw [e, List.map_append]
theorem whDigits_l0 {s : ByteArray} (hs : s.size ≤ 1048576) : ∀ (t p : List Int), bys s = p ++ t → Ev (fun k => spec_whDigits.l0 k s (p.map fun b => (b - 48) % 256) (p.length : Int)) (dgs s)
  | [], p, e => by
    have el : p.length = s.size := by rw [← bys_length, e]; simp
    refine Ev.succ ?_
    simp only [spec_whDigits.l0]
    refine Ev.neg (by omega) (Ev.val ?_)
    rw [dgs_app e]; simp
  | x :: t, p, e => by
    have el : p.length + (t.length + 1) = s.size := by rw [← bys_length, e]; simp
    refine Ev.succ ?_
    simp only [spec_whDigits.l0]
    refine Ev.pos (by omega) (Ev.pos (by omega) (Ev.pos (by rw [List.length_map]; omega) ?_))
    rw [bt_bys, e, rd_mid, show wrap64 ((p.length : Int) + 1) = ((p ++ [x]).length : Int) from len_next p x (by omega)]
    have := whDigits_l0 hs t (p ++ [x]) (by rw [e]; simp)
    rw [List.map_append] at this
    exact this
theorem whDigits_ev (s : ByteArray) (hs : s.size ≤ 1048576) : Ev (fun k => spec_whDigits.f k s) (dgs s) := by
  unfold spec_whDigits.f
  exact whDigits_l0 hs (bys s) [] rfl
theorem digits_l0 {s : ByteArray} (hs : s.size ≤ 1048576) : ∀ (t p : List Int), bys s = p ++ t → Ev (fun k => impl_digits.l0 k s (p.map fun b => (b - 48) % 256) (s.size : Int) (p.length : Int)) (dgs s)
  | [], p, e => by
    have el : p.length = s.size := by rw [← bys_length, e]; simp
    refine Ev.succ ?_
    simp only [impl_digits.l0]
    refine Ev.neg (by omega) (Ev.val ?_)
    rw [dgs_app e]; simp
  | x :: t, p, e => by
    have el : p.length + (t.length + 1) = s.size := by rw [← bys_length, e]; simp
    refine Ev.succ ?_
    simp only [impl_digits.l0]
    refine Ev.pos (by omega) (Ev.pos (by omega) (Ev.pos (by omega) (Ev.pos (by rw [List.length_map]; omega) ?_)))
    rw [bt_bys, e, rd_mid, show wrap64 ((p.length : Int) + 1) = ((p ++ [x]).length : Int) from len_next p x (by omega)]
    have := digits_l0 hs t (p ++ [x]) (by rw [e]; simp)
    rw [List.map_append] at this
    exact this
theorem digits_ev (s : ByteArray) (hs : s.size ≤ 1048576) : Ev (fun k => impl_digits.f k s) (dgs s) := by
  unfold impl_digits.f
  exact digits_l0 hs (bys s) [] rfl
theorem whDigits_txt {ds : List Int} (h : Ok 10 ds) (hl : ds.length ≤ 1048576) : Ev (fun k => spec_whDigits.f k (txt ds)) ds := by
  have := whDigits_ev (txt ds) (by rw [txt_size]; exact hl)
  rwa [dgs_txt h] at this
theorem digits_txt {ds : List Int} (h : Ok 10 ds) (hl : ds.length ≤ 1048576) : Ev (fun k => impl_digits.f k (txt ds)) ds := by
  have := digits_ev (txt ds) (by rw [txt_size]; exact hl)
  rwa [dgs_txt h] at this

theorem l1Num_ev {d : Int} (h0 : 0 ≤ d) (h1 : d < 10) : Ev (fun k => spec_l1Num.f k d) (txt [d]) := by
  refine Ev.succ ?_
  simp only [spec_l1Num.f]
  refine Ev.pos h1 (Ev.val ?_)
  rw [wrap_id (by omega) (by omega), show (48 + d) % 256 = 48 + d by omega]; rfl
theorem whText_l0 : ∀ (t p : List Int), Ok 10 (p ++ t) → (p ++ t).length ≤ 1048576 → Ev (fun k => spec_whText.l0 k (txt p) (p ++ t) ((p ++ t).length : Int) (p.length : Int)) (txt (p ++ t))
  | [], p, h, hl => by
    refine Ev.succ ?_
    simp only [spec_whText.l0]
    refine Ev.neg (len_end p) (Ev.val (by simp))
  | x :: t, p, h, hl => by
    have hx := (Ok.cons.1 (Ok.append.1 h).2).1
    rw [List.length_append, List.length_cons] at hl
    refine Ev.succ ?_
    simp only [spec_whText.l0]
    refine Ev.pos (len_mid p t x) (Ev.pos (by omega) (Ev.pos (len_mid p t x) ?_))
    rw [rd_mid]
    refine Ev.bind (l1Num_ev hx.1 hx.2) (Ev.pos (by rw [txt_size, txt_size]; simp; omega) ?_)
    rw [len_next p x (by omega), txt_append, app_next p t x]
    refine whText_l0 t (p ++ [x]) (by rw [← app_next p t x]; exact h) (by simp; omega)
theorem whText_ev {ds : List Int} (h : Ok 10 ds) (hl : ds.length ≤ 1048576) : Ev (fun k => spec_whText.f k ds) (txt ds) := by
  unfold spec_whText.f
  exact whText_l0 ds [] h hl
theorem text_l0 : ∀ (t p : List Int), Ok 10 (p ++ t) → (p ++ t).length ≤ 1048576 → Ev (fun k => impl_text.l0 k (p.map (48 + ·)) (p ++ t) ((p ++ t).length : Int) (p.length : Int)) (txt (p ++ t))
  | [], p, h, hl => by
    refine Ev.succ ?_
    simp only [impl_text.l0]
    refine Ev.neg (len_end p) (Ev.val (by unfold txt; simp))
  | x :: t, p, h, hl => by
    have hx := (Ok.cons.1 (Ok.append.1 h).2).1
    rw [List.length_append, List.length_cons] at hl
    refine Ev.succ ?_
    simp only [impl_text.l0]
    refine Ev.pos (len_mid p t x) (Ev.pos (by omega) (Ev.pos (len_mid p t x) (Ev.pos (by rw [List.length_map]; omega) ?_)))
    rw [rd_mid, wrap_id (x := 48 + x) (by omega) (by omega), show (48 + x) % 256 = 48 + x by omega, len_next p x (by omega), app_next p t x]
    have := text_l0 t (p ++ [x]) (by rw [← app_next p t x]; exact h) (by simp; omega)
    rw [List.map_append] at this
    exact this
theorem text_ev {ds : List Int} (h : Ok 10 ds) (hl : ds.length ≤ 1048576) : Ev (fun k => impl_text.f k ds) (txt ds) := by
  unfold impl_text.f
  exact text_l0 ds [] h hl

theorem l1Mod_f (k : Int) {n : Int} (h0 : 0 < n) (h1 : n ≤ 1000) : spec_l1Mod.f k n = some (k % n) := by
  unfold spec_l1Mod.f; rw [if_neg (by omega), tmod_around h0 h1]
theorem around_f (k : Int) {n : Int} (h0 : 0 < n) (h1 : n ≤ 1000) : impl_around.f k n = some (k % n) := by
  unfold impl_around.f; rw [if_neg (by omega), tmod_around h0 h1]
theorem has_l0 {W D : Int} (h : good W D = true) : ∀ (t p : List ByteArray), (∀ s ∈ t, s.size ≤ 1048576) → (p ++ t).length ≤ 1048576 → Ev (fun k => impl_has.l0 k (p ++ t) ((p ++ t).length : Int) (p.length : Int) W D) (t.all (isC W D))
  | [], p, hs, hl => by
    refine Ev.succ ?_
    simp only [impl_has.l0]
    refine Ev.neg (len_end p) (Ev.val (by simp))
  | x :: t, p, hs, hl => by
    rw [List.length_append, List.length_cons] at hl
    refine Ev.succ ?_
    simp only [impl_has.l0]
    refine Ev.pos (len_mid p t x) (Ev.pos (by omega) (Ev.pos (len_mid p t x) ?_))
    rw [rdOf_mid, len_next p x (by omega), app_next p t x]
    refine Ev.bind (isCode_ev h x (hs x (by simp))) ?_
    by_cases hx : isC W D x = true
    · refine Ev.pos hx ?_
      rw [List.all_cons, hx, Bool.true_and]
      exact has_l0 h t (p ++ [x]) (fun s hs' => hs s (by simp [hs'])) (by simp; omega)
    · refine Ev.neg hx (Ev.val ?_)
      simp [hx]
theorem has_ev (W D : Int) (l : List ByteArray) (hs : ∀ s ∈ l, s.size ≤ 1048576) (hl : l.length ≤ 1048576) : Ev (fun k => impl_has.f k W D l) (good W D && l.all (isC W D)) := by
  unfold impl_has.f
  refine Ev.bind0 (IsLock_i W D) ?_
  by_cases h : good W D = true
  · refine Ev.pos h ?_
    rw [h, Bool.true_and]
    exact has_l0 h l [] hs hl
  · refine Ev.neg h (Ev.val (by simp [h]))

theorem rd_nat (l : List Int) {i : Int} (h0 : 0 ≤ i) (h1 : i < l.length) : ∃ p x t, l = p ++ x :: t ∧ (p.length : Int) = i := by
  refine ⟨l.take i.toNat, l[i.toNat], l.drop (i.toNat + 1), ?_, ?_⟩
  · rw [← List.drop_eq_getElem_cons (by omega), List.take_append_drop]
  · rw [List.length_take]; omega
/-- The digits behind a turn. -/
def turnM (D : Int) (ds : List Int) (i b : Int) : List Int := ds.set i.toNat ((rd ds i + b) % D)
theorem turnM_length (D : Int) (ds : List Int) (i b : Int) : (turnM D ds i b).length = ds.length := by simp [turnM]
theorem turnM_ok {D : Int} (h : 0 < D) {ds : List Int} (hd : Ok D ds) (i b : Int) : Ok D (turnM D ds i b) := by
  intro x hx
  rcases List.mem_or_eq_of_mem_set hx with hx | rfl
  · exact hd x hx
  · exact ⟨Int.emod_nonneg _ (by omega), Int.emod_lt_of_pos _ h⟩
theorem rd_range {D : Int} {ds : List Int} (hd : Ok D ds) {i : Int} (h0 : 0 ≤ i) (h1 : i < ds.length) : 0 ≤ rd ds i ∧ rd ds i < D := by
  obtain ⟨p, x, t, e, hp⟩ := rd_nat ds h0 h1
  subst e; rw [← hp, rd_mid]
  exact hd x (by simp)
theorem turned_ev {W D : Int} (hD : 2 ≤ D ∧ D ≤ 10) {ds : List Int} (hd : Ok D ds) (hl : ds.length ≤ 6) {i b : Int} (h0 : 0 ≤ i) (h1 : i < ds.length) (hb : -1 ≤ b ∧ b ≤ 1) : Ev (fun k => impl_Lock_turned.f k W D (txt ds) i b) (txt (turnM D ds i b)) := by
  have hr := rd_range hd h0 h1
  unfold impl_Lock_turned.f
  refine Ev.bind (digits_txt (hd.le hD.2) (by omega)) (Ev.pos h0 (Ev.pos h1 ?_))
  rw [wrap_id (x := rd ds i + b) (by omega) (by omega)]
  refine Ev.bind0 (around_f _ (by omega) (by omega)) ?_
  exact Ev.bind (text_ev ((turnM_ok (by omega) hd i b).le hD.2) (by rw [List.length_set]; omega)) (Ev.now _)
theorem whMake_ev {W D : Int} (hD : 2 ≤ D ∧ D ≤ 10) {ds : List Int} (hd : Ok D ds) (hl : ds.length ≤ 6) {i b : Int} (h0 : 0 ≤ i) (h1 : i < ds.length) (hb : -1 ≤ b ∧ b ≤ 1) : Ev (fun k => spec_whMake.f k W D (txt ds) i b) (txt (turnM D ds i b)) := by
  have hr := rd_range hd h0 h1
  unfold spec_whMake.f
  refine Ev.bind (whDigits_txt (hd.le hD.2) (by omega)) (Ev.pos h0 (Ev.pos h1 ?_))
  rw [wrap_id (x := rd ds i + b) (by omega) (by omega)]
  refine Ev.bind0 (l1Mod_f _ (by omega) (by omega)) ?_
  exact Ev.bind (whText_ev ((turnM_ok (by omega) hd i b).le hD.2) (by rw [List.length_set]; omega)) (Ev.now _)

theorem rdT_mid (p t : List S59) (x : S59) : rd_T59 (p ++ x :: t) (p.length : Int) = x := by
  unfold rd_T59; rw [Int.toNat_natCast, List.getD_eq_getElem?_getD, List.getElem?_append_right (Nat.le_refl _), Nat.sub_self]; rfl
def okT (W : Int) (t : S59) : Bool := decide (0 ≤ t.f0 ∧ t.f0 ≤ W - 1) && decide (t.f1 = 1 ∨ t.f1 = -1)
theorem okT_iff {W : Int} {t : S59} : okT W t = true ↔ (0 ≤ t.f0 ∧ t.f0 ≤ W - 1) ∧ (t.f1 = 1 ∨ t.f1 = -1) := by simp [okT]
def areT (W : Int) (l : List S59) : Bool := l.all (okT W) && decide (l.length ≤ 200)
theorem whTurn_f {W : Int} (hW : 0 ≤ W ∧ W ≤ 100) (D i b : Int) : spec_whTurn.f W D i b = some (okT W ⟨i, b⟩) := by
  unfold spec_whTurn.f okT
  rw [wrap_id (x := W - 1) (by omega) (by omega), l1In_f, Option.bind_some]
  by_cases h : 0 ≤ i ∧ i ≤ W - 1
  · rw [decide_eq_true h, if_pos rfl]
    by_cases h1 : b = 1
    · rw [if_pos h1]; simp [h1]
    · rw [if_neg h1]; simp [h1]
      by_cases h2 : b = -1 <;> simp [h2]
  · rw [decide_eq_false h]; simp
theorem areTurns_l0 {W : Int} (hW : 0 ≤ W ∧ W ≤ 100) (l0 : List S59) : ∀ (t p : List S59), (p ++ t).length ≤ 1048576 →
    Ev (fun k => impl_areTurns.l0 k l0 W (p ++ t) ((p ++ t).length : Int) (p.length : Int)) (t.all (okT W) && decide (l0.length ≤ 200))
  | [], p, hl => by
    refine Ev.succ ?_
    simp only [impl_areTurns.l0]
    refine Ev.neg (len_end p) (Ev.val ?_)
    simp only [List.all_nil, Bool.true_and]
    congr 1; apply propext; omega
  | x :: t, p, hl => by
    rw [List.length_append, List.length_cons] at hl
    refine Ev.succ ?_
    simp only [impl_areTurns.l0]
    refine Ev.pos (len_mid p t x) (Ev.pos (by omega) (Ev.pos (len_mid p t x) ?_))
    rw [rdT_mid, wrap_id (x := W - 1) (by omega) (by omega), within_f, len_next p x (by omega), app_next p t x]
    refine Ev.bind0 rfl ?_
    have ih := areTurns_l0 hW l0 t (p ++ [x]) (by simp; omega)
    by_cases h : 0 ≤ x.f0 ∧ x.f0 ≤ W - 1
    · rw [decide_eq_true h]
      refine Ev.pos rfl ?_
      by_cases h1 : x.f1 = 1
      · refine Ev.pos h1 ?_
        rw [List.all_cons, okT_iff.2 ⟨h, .inl h1⟩, Bool.true_and]; exact ih
      · refine Ev.neg h1 ?_
        by_cases h2 : x.f1 = -1
        · refine Ev.pos h2 ?_
          rw [List.all_cons, okT_iff.2 ⟨h, .inr h2⟩, Bool.true_and]; exact ih
        · refine Ev.neg h2 (Ev.val ?_)
          simp [okT, h1, h2]
    · rw [decide_eq_false h]
      refine Ev.neg (by simp) (Ev.val ?_)
      simp [okT]
      intro h3 h4
      exact absurd ⟨h3, by omega⟩ h
theorem areTurns_ev {W : Int} (hW : 0 ≤ W ∧ W ≤ 100) (l : List S59) (hl : l.length ≤ 1048576) : Ev (fun k => impl_areTurns.f k l W) (areT W l) := by
  unfold impl_areTurns.f
  exact areTurns_l0 hW l l [] hl
theorem whTurns_l0 {W D : Int} (hW : 0 ≤ W ∧ W ≤ 100) : ∀ (t p : List S59), (p ++ t).length ≤ 1048576 →
    Ev (fun k => spec_whTurns.l0 k (p ++ t) ((p ++ t).length : Int) (p.length : Int) W D) (t.all (okT W))
  | [], p, hl => by
    refine Ev.succ ?_
    simp only [spec_whTurns.l0]
    exact Ev.neg (len_end p) (Ev.now _)
  | x :: t, p, hl => by
    rw [List.length_append, List.length_cons] at hl
    refine Ev.succ ?_
    simp only [spec_whTurns.l0]
    refine Ev.pos (len_mid p t x) (Ev.pos (by omega) (Ev.pos (len_mid p t x) ?_))
    rw [rdT_mid, len_next p x (by omega), app_next p t x]
    refine Ev.bind0 (whTurn_f hW D _ _) ?_
    have ih := whTurns_l0 (D := D) hW t (p ++ [x]) (by simp; omega)
    by_cases h : okT W x = true
    · refine Ev.pos h ?_
      rw [List.all_cons, h, Bool.true_and]; exact ih
    · refine Ev.neg h (Ev.val ?_)
      simp [h]
theorem whTurns_ev {W : Int} (hW : 0 ≤ W ∧ W ≤ 100) (D : Int) (l : List S59) (hl : l.length ≤ 1048576) : Ev (fun k => spec_whTurns.f k W D l) (areT W l) := by
  unfold spec_whTurns.f areT
  by_cases h : (l.length : Int) > 200
  · refine Ev.pos h (Ev.val ?_)
    rw [decide_eq_false (by omega)]; simp
  · refine Ev.neg h ?_
    rw [decide_eq_true (by omega), Bool.and_true]
    exact whTurns_l0 hW l [] hl

def small (W D m : Int) : Bool := good W D && decide (pw D W.toNat ≤ m)
theorem deSmall_ev (W D : Int) : Ev (fun k => spec_deSmall.f k W D) (small W D 1000) := by
  unfold spec_deSmall.f small
  refine Ev.bind0 (whGood_f W D) ?_
  by_cases h : good W D = true
  · rw [h, Bool.true_and]; exact Ev.pos rfl (Ev.bind (whCount_ev h) (Ev.now _))
  · exact Ev.neg h (Ev.val (by simp [h]))
theorem isSmall_ev (W D m : Int) : Ev (fun k => impl_isSmall.f k W D m) (small W D m) := by
  unfold impl_isSmall.f small
  refine Ev.bind0 (IsLock_i W D) ?_
  by_cases h : good W D = true
  · rw [h, Bool.true_and]; exact Ev.pos rfl (Ev.bind (count_ev h) (Ev.now _))
  · exact Ev.neg h (Ev.val (by simp [h]))
def rising : List ByteArray → Bool
  | a :: b :: l => Op.bytesLess a.toList b.toList && rising (b :: l)
  | _ => true
def deadM (W D : Int) (l : List ByteArray) : Bool := decide (l.length ≤ 60) && (l.all (isC W D) && rising l)
theorem idx_prev (p' t : List ByteArray) (q x : ByteArray) : rdOf ByteArray.empty (p' ++ q :: x :: t) (p'.length : Int) = q ∧ rdOf ByteArray.empty (p' ++ q :: x :: t) ((p'.length + 1 : Nat) : Int) = x := by
  refine ⟨rdOf_mid _ _ _ _, ?_⟩
  have := rdOf_mid ByteArray.empty (p' ++ [q]) t x
  rw [List.length_append, List.length_singleton, List.append_assoc] at this
  exact this
theorem deList_l0 {W D : Int} (hg : good W D = true) : ∀ (t p' : List ByteArray) (q : ByteArray), (p' ++ q :: t).length ≤ 1048576 → (∀ s ∈ t, s.size ≤ 1048576) →
    Ev (fun k => spec_deList.l0 k (p' ++ q :: t) (p' ++ q :: t) ((p' ++ q :: t).length : Int) ((p'.length + 1 : Nat) : Int) W D) (t.all (isC W D) && rising (q :: t))
  | [], p', q, hl, hs => by
    refine Ev.succ ?_
    simp only [spec_deList.l0]
    exact Ev.neg (by simp) (Ev.now _)
  | x :: t, p', q, hl, hs => by
    obtain ⟨e1, e2⟩ := idx_prev p' t q x
    rw [List.length_append, List.length_cons, List.length_cons] at hl
    have hlen : ((p' ++ q :: x :: t).length : Int) = p'.length + t.length + 2 := by simp; omega
    refine Ev.succ ?_
    simp only [spec_deList.l0]
    refine Ev.pos (by omega) (Ev.pos (by omega) (Ev.pos (by omega) ?_))
    rw [e2]
    refine Ev.bind (whCode_ev hg x (hs x (by simp))) ?_
    by_cases hx : isC W D x = true
    · refine Ev.pos hx (Ev.pos (by omega) ?_)
      rw [show wrap64 (((p'.length + 1 : Nat) : Int) - 1) = (p'.length : Int) by rw [wrap_id] <;> omega, e1]
      refine Ev.pos (by omega) (Ev.pos (by omega) ?_)
      by_cases hq : Op.bytesLess q.toList x.toList = true
      · refine Ev.pos hq ?_
        have := deList_l0 hg t (p' ++ [q]) x (by simp; omega) (fun s h => hs s (by simp [h]))
        rw [List.append_assoc, List.singleton_append, show (p' ++ [q]).length = p'.length + 1 by simp] at this
        rw [show wrap64 (((p'.length + 1 : Nat) : Int) + 1) = ((p'.length + 1 + 1 : Nat) : Int) by rw [wrap_id] <;> omega]
        rw [List.all_cons, hx, Bool.true_and, rising, hq, Bool.true_and]
        exact this
      · refine Ev.neg hq (Ev.val ?_)
        simp [rising, hq]
    · refine Ev.neg hx (Ev.val ?_)
      simp [hx]
theorem deList_ev {W D : Int} (hg : good W D = true) (l : List ByteArray) (hl : l.length ≤ 1048576) (hs : ∀ s ∈ l, s.size ≤ 1048576) : Ev (fun k => spec_deList.f k W D l) (deadM W D l) := by
  unfold spec_deList.f deadM
  by_cases h : (l.length : Int) > 60
  · refine Ev.pos h (Ev.val ?_)
    rw [decide_eq_false (by omega)]; rfl
  · refine Ev.neg h ?_
    rw [decide_eq_true (by omega), Bool.true_and]
    match l, hl, hs with
    | [], _, _ =>
      refine Ev.succ ?_
      simp only [spec_deList.l0]
      exact Ev.neg (by simp) (Ev.now _)
    | q :: t, hl, hs =>
      rw [List.length_cons] at hl
      refine Ev.succ ?_
      simp only [spec_deList.l0]
      refine Ev.pos (by rw [List.length_cons]; omega) (Ev.pos (by omega) (Ev.pos (by rw [List.length_cons]; omega) ?_))
      rw [show rdOf ByteArray.empty (q :: t) 0 = q from rfl]
      refine Ev.bind (whCode_ev hg q (hs q (by simp))) ?_
      by_cases hx : isC W D q = true
      · refine Ev.pos hx (Ev.neg (by omega) ?_)
        have := deList_l0 hg t [] q (by simp; omega) (fun s h => hs s (by simp [h]))
        rw [List.all_cons, hx, Bool.true_and, show wrap64 ((0 : Int) + 1) = 1 by rw [wrap_id] <;> omega]
        exact this
      · refine Ev.neg hx (Ev.val ?_)
        simp [hx]
theorem areDead_l0 : ∀ (t p' : List ByteArray) (q : ByteArray), (p' ++ q :: t).length ≤ 1048576 →
    Ev (fun k => impl_areDead.l0 k (p' ++ q :: t) ((p'.length + 1 : Nat) : Int)) (rising (q :: t))
  | [], p', q, hl => by
    refine Ev.succ ?_
    simp only [impl_areDead.l0]
    exact Ev.neg (by simp) (Ev.now _)
  | x :: t, p', q, hl => by
    obtain ⟨e1, e2⟩ := idx_prev p' t q x
    rw [List.length_append, List.length_cons, List.length_cons] at hl
    have hlen : ((p' ++ q :: x :: t).length : Int) = p'.length + t.length + 2 := by simp; omega
    refine Ev.succ ?_
    simp only [impl_areDead.l0]
    refine Ev.pos (by omega) (Ev.pos (by omega) ?_)
    rw [show wrap64 (((p'.length + 1 : Nat) : Int) - 1) = (p'.length : Int) by rw [wrap_id] <;> omega, e1, e2]
    refine Ev.pos (by omega) (Ev.pos (by omega) ?_)
    by_cases hq : Op.bytesLess q.toList x.toList = true
    · refine Ev.pos hq ?_
      have := areDead_l0 t (p' ++ [q]) x (by simp; omega)
      rw [List.append_assoc, List.singleton_append, show (p' ++ [q]).length = p'.length + 1 by simp] at this
      rw [show wrap64 (((p'.length + 1 : Nat) : Int) + 1) = ((p'.length + 1 + 1 : Nat) : Int) by rw [wrap_id] <;> omega, rising, hq, Bool.true_and]
      exact this
    · refine Ev.neg hq (Ev.val ?_)
      simp [rising, hq]
theorem areDead_ev (W D : Int) (l : List ByteArray) (hl : l.length ≤ 1048576) (hs : ∀ s ∈ l, s.size ≤ 1048576) : Ev (fun k => impl_areDead.f k W D l) (small W D 1000 && deadM W D l) := by
  unfold impl_areDead.f
  refine Ev.bind (isSmall_ev W D 1000) ?_
  by_cases h : small W D 1000 = true
  · have hg : good W D = true := (Bool.and_eq_true_iff.1 h).1
    rw [h, Bool.true_and]
    refine Ev.pos rfl ?_
    unfold deadM
    by_cases h6 : (l.length : Int) > 60
    · refine Ev.pos h6 (Ev.succ ?_)
      simp only [impl_areDead.j0]
      refine Ev.pos trivial (Ev.val ?_)
      rw [decide_eq_false (by omega)]; rfl
    · refine Ev.neg h6 (Ev.bind (has_ev W D l hs hl) (Ev.succ ?_))
      simp only [impl_areDead.j0]
      rw [decide_eq_true (by omega), Bool.true_and, hg, Bool.true_and]
      by_cases ha : l.all (isC W D) = true
      · refine Ev.neg (by simp [ha]) ?_
        rw [ha, Bool.true_and]
        match l, hl with
        | [], _ =>
          refine Ev.succ ?_
          simp only [impl_areDead.l0]
          exact Ev.neg (by simp) (Ev.now _)
        | q :: t, hl => exact areDead_l0 t [] q hl
      · refine Ev.pos (by simp [ha]) (Ev.val ?_)
        simp [ha]
  · refine Ev.neg h (Ev.succ ?_)
    simp only [impl_areDead.j0]
    refine Ev.pos trivial (Ev.val ?_)
    simp [h]
theorem toStringS_l0 : ∀ (t p u : List ByteArray), t.length = u.length → (p ++ t).length ≤ 1048576 → Ev (fun k => laws_toStringS.l0 k (p ++ t) (p ++ u) (p.length : Int)) (p ++ t)
  | [], p, u, e, hl => by
    have : u = [] := List.length_eq_zero_iff.1 e.symm
    subst this
    refine Ev.succ ?_
    simp only [laws_toStringS.l0]
    exact Ev.neg (len_end p) (Ev.now _)
  | x :: t, p, [], e, hl => by simp at e
  | x :: t, p, y :: u, e, hl => by
    rw [List.length_append, List.length_cons] at hl
    refine Ev.succ ?_
    simp only [laws_toStringS.l0]
    refine Ev.pos (len_mid p t x) (Ev.pos (by omega) (Ev.pos (len_mid p u y) ?_))
    rw [rdOf_mid, set_mid, len_next p x (by omega), app_next p t x, app_next p u x]
    exact toStringS_l0 t (p ++ [x]) u (by simpa using e) (by simp; omega)
theorem toStringS_ev (l : List ByteArray) (hl : l.length ≤ 1048576) : Ev (fun k => laws_toStringS.f k l) l := by
  unfold laws_toStringS.f
  refine Ev.pos (by omega) (Ev.pos (by omega) ?_)
  exact toStringS_l0 l [] _ (by simp) hl
theorem eqStringS_l0 : ∀ (t p : List ByteArray), (p ++ t).length ≤ 9223372036854775806 → Ev (fun k => laws_eqStringS.l0 k (p ++ t) (p ++ t) (p.length : Int)) true
  | [], p, hl => by
    refine Ev.succ ?_
    simp only [laws_eqStringS.l0]
    exact Ev.neg (len_end p) (Ev.now _)
  | x :: t, p, hl => by
    rw [List.length_append, List.length_cons] at hl
    refine Ev.succ ?_
    simp only [laws_eqStringS.l0]
    refine Ev.pos (len_mid p t x) (Ev.pos (by omega) (Ev.pos (len_mid p t x) ?_))
    refine Ev.pos trivial ?_
    rw [len_next p x (by omega), app_next p t x]
    exact eqStringS_l0 t (p ++ [x]) (by simp; omega)
theorem eqStringS_ev (l : List ByteArray) (hl : l.length ≤ 9223372036854775806) : Ev (fun k => laws_eqStringS.f k l l) true := by
  unfold laws_eqStringS.f
  exact Ev.pos rfl (eqStringS_l0 l [] hl)

theorem rdI_mid (p t : List S59) (x : S59) : rd_T59 (p ++ x :: t) (p.length : Int) = x := by
  unfold rd_T59; rw [Int.toNat_natCast, List.getD_eq_getElem?_getD, List.getElem?_append_right (Nat.le_refl _), Nat.sub_self]; rfl
theorem rdL_mid (p t : List S61) (x : S61) : rd_T61 (p ++ x :: t) (p.length : Int) = x := by
  unfold rd_T61; rw [Int.toNat_natCast, List.getD_eq_getElem?_getD, List.getElem?_append_right (Nat.le_refl _), Nat.sub_self]; rfl
def toT (t : S61) : S59 := ⟨t.f0, t.f1⟩
theorem toTurnS_l0 : ∀ (t p : List S61) (u : List S59), t.length = u.length → (p ++ t).length ≤ 1048576 → Ev (fun k => laws_toTurnS.l0 k (p ++ t) (p.map toT ++ u) (p.length : Int)) ((p ++ t).map toT)
  | [], p, u, e, hl => by
    have : u = [] := List.length_eq_zero_iff.1 e.symm
    subst this
    refine Ev.succ ?_
    simp only [laws_toTurnS.l0]
    exact Ev.neg (len_end p) (Ev.val (by simp))
  | x :: t, p, [], e, hl => by simp at e
  | x :: t, p, y :: u, e, hl => by
    rw [List.length_append, List.length_cons] at hl
    refine Ev.succ ?_
    simp only [laws_toTurnS.l0]
    have e2 : (p.length : Int) = ((p.map toT).length : Int) := by simp
    refine Ev.pos (len_mid p t x) (Ev.pos (by omega) (Ev.bind0 rfl (Ev.pos (by rw [e2]; exact len_mid (p.map toT) u y) ?_)))
    rw [rdL_mid, show ((p.map toT ++ y :: u).set (p.length : Int).toNat (⟨x.f0, x.f1⟩ : S59)) = (p ++ [x]).map toT ++ u by rw [e2, set_mid]; simp [toT], len_next p x (by omega), app_next p t x]
    exact toTurnS_l0 t (p ++ [x]) u (by simpa using e) (by simp; omega)
theorem toTurnS_ev (l : List S61) (hl : l.length ≤ 1048576) : Ev (fun k => laws_toTurnS.f k l) (l.map toT) := by
  unfold laws_toTurnS.f
  refine Ev.pos (by omega) (Ev.pos (by omega) ?_)
  exact toTurnS_l0 l [] _ (by simp) hl
theorem eqTurnS_l0 : ∀ (t p : List S59), (p ++ t).length ≤ 9223372036854775806 → Ev (fun k => laws_eqTurnS.l0 k (p ++ t) (p ++ t) (p.length : Int)) true
  | [], p, hl => by
    refine Ev.succ ?_
    simp only [laws_eqTurnS.l0]
    exact Ev.neg (len_end p) (Ev.now _)
  | x :: t, p, hl => by
    rw [List.length_append, List.length_cons] at hl
    refine Ev.succ ?_
    simp only [laws_eqTurnS.l0]
    refine Ev.pos (len_mid p t x) (Ev.pos (by omega) (Ev.pos (len_mid p t x) ?_))
    rw [rdI_mid]
    refine Ev.bind0 (a := true) (by unfold laws_eqTurn.f; rw [if_pos rfl, if_pos rfl]) (Ev.pos rfl ?_)
    rw [len_next p x (by omega), app_next p t x]
    exact eqTurnS_l0 t (p ++ [x]) (by simp; omega)
theorem eqTurnS_ev (l : List S59) (hl : l.length ≤ 9223372036854775806) : Ev (fun k => laws_eqTurnS.f k l l) true := by
  unfold laws_eqTurnS.f
  exact Ev.pos rfl (eqTurnS_l0 l [] hl)
theorem szStringT_l0 : ∀ (t p : List ByteArray) (c : Int), (∀ s ∈ t, s.size ≤ 9223372036854775807) → (p ++ t).length ≤ 9223372036854775806 → 0 ≤ c → c ≤ 1048576 →
    ∃ r, Ev (fun k => laws_szStringS.l0 k (p ++ t) c (p.length : Int)) r ∧ r ≤ c ∧ (r < 0 ∨ (∀ s ∈ t, s.size ≤ 1048576))
  | [], p, c, hs, hl, h0, h1 => by
    refine ⟨c, Ev.succ ?_, Int.le_refl _, .inr (by simp)⟩
    simp only [laws_szStringS.l0]
    exact Ev.neg (len_end p) (Ev.now _)
  | x :: t, p, c, hs, hl, h0, h1 => by
    rw [List.length_append, List.length_cons] at hl
    have hx := hs x (by simp)
    by_cases h : c - (x.size : Int) < 0
    · refine ⟨-1, Ev.succ ?_, by omega, .inl (by omega)⟩
      simp only [laws_szStringS.l0]
      refine Ev.pos (len_mid p t x) (Ev.pos (by omega) ?_)
      rw [rdOf_mid, wrap_id (x := c - (x.size : Int)) (by omega) (by omega)]
      exact Ev.pos h (Ev.now _)
    · obtain ⟨r, hr, hrc, hp⟩ := szStringT_l0 t (p ++ [x]) (c - (x.size : Int)) (fun s h' => hs s (by simp [h'])) (by simp; omega) (by omega) (by omega)
      refine ⟨r, Ev.succ ?_, by omega, hp.imp id (fun h' s hs' => ?_)⟩
      · simp only [laws_szStringS.l0]
        refine Ev.pos (len_mid p t x) (Ev.pos (by omega) ?_)
        rw [rdOf_mid, wrap_id (x := c - (x.size : Int)) (by omega) (by omega), len_next p x (by omega), app_next p t x]
        exact Ev.neg h hr
      · rcases List.mem_cons.1 hs' with rfl | h2
        · omega
        · exact h' s h2
theorem szStringT_ev (l : List ByteArray) (hl : l.length ≤ 9223372036854775807) (hs : ∀ s ∈ l, s.size ≤ 9223372036854775807) :
    ∃ r, Ev (fun k => laws_szStringS.f k l 1048576) r ∧ r ≤ 1048576 ∧ (r < 0 ∨ (l.length ≤ 1048576 ∧ ∀ s ∈ l, s.size ≤ 1048576)) := by
  by_cases h : (1048576 : Int) - (l.length : Int) < 0
  · refine ⟨-1, ?_, by omega, .inl (by omega)⟩
    unfold laws_szStringS.f
    rw [wrap_id (x := (1048576 : Int) - (l.length : Int)) (by omega) (by omega)]
    exact Ev.pos h (Ev.now _)
  · obtain ⟨r, hr, hrc, hp⟩ := szStringT_l0 l [] ((1048576 : Int) - (l.length : Int)) hs (by simp; omega) (by omega) (by omega)
    refine ⟨r, ?_, by omega, hp.imp id (fun h' => ⟨by omega, h'⟩)⟩
    unfold laws_szStringS.f
    rw [wrap_id (x := (1048576 : Int) - (l.length : Int)) (by omega) (by omega)]
    exact Ev.neg h hr
theorem szTurnT_f (l : List S61) {c : Int} (h0 : 0 ≤ c) (h1 : c ≤ 1048576) (hl : l.length ≤ 9223372036854775807) : ∃ r, laws_szTurnS.f l c = some r ∧ (r < 0 ∨ l.length ≤ 1048576) := by
  unfold laws_szTurnS.f
  rw [wrap_id (x := c - (l.length : Int)) (by omega) (by omega)]
  by_cases h : c - (l.length : Int) < 0
  · exact ⟨-1, if_pos h, .inl (by omega)⟩
  · exact ⟨_, if_neg h, .inr (by omega)⟩
/-- Whether a text is one of a list. -/
def inD (l : List ByteArray) (s : ByteArray) : Bool := l.any fun x => decide (x.toList = s.toList)
theorem inD_iff {l : List ByteArray} {s : ByteArray} : inD l s = true ↔ s ∈ l := by
  unfold inD
  rw [List.any_eq_true]
  constructor
  · rintro ⟨x, hx, h⟩
    rw [decide_eq_true_eq, toList_inj] at h
    exact h ▸ hx
  · intro h
    exact ⟨s, h, by rw [decide_eq_true_eq]⟩
theorem inD_cons (x : ByteArray) (t : List ByteArray) (s : ByteArray) : inD (x :: t) s = (decide (x.toList = s.toList) || inD t s) := rfl
theorem hasS_l0 {s : ByteArray} : ∀ (t p : List ByteArray), (p ++ t).length ≤ 1048576 → Ev (fun k => spec_l1HasS.l0 k s (p ++ t) ((p ++ t).length : Int) (p.length : Int)) (inD t s)
  | [], p, _ => by
    refine Ev.succ ?_
    simp only [spec_l1HasS.l0]
    exact Ev.neg (len_end p) (Ev.now _)
  | x :: t, p, hl => by
    refine Ev.succ ?_
    simp only [spec_l1HasS.l0]
    refine Ev.pos (len_mid p t x) (Ev.pos (by omega) (Ev.pos (len_mid p t x) ?_))
    rw [rdOf_mid]
    by_cases h : x.toList = s.toList
    · exact Ev.pos h (Ev.val (by simp [inD, h]))
    · rw [len_next p x (by simp at hl; omega), app_next p t x] at *
      refine Ev.neg h ?_
      rw [show inD (x :: t) s = inD t s by simp [inD, h]]
      exact hasS_l0 t (p ++ [x]) hl
theorem hasS_ev (l : List ByteArray) (s : ByteArray) (hl : l.length ≤ 1048576) : Ev (fun k => spec_l1HasS.f k l s) (inD l s) := hasS_l0 l [] hl
theorem idxS_l0 {s : ByteArray} : ∀ (t p : List ByteArray), (p ++ t).length ≤ 1048576 → ∃ i : Int, Ev (fun k => slices_Index_string_string.l0 k (p ++ t) s ((p ++ t).length : Int) (p.length : Int)) i ∧ decide (i ≥ 0) = inD t s
  | [], p, _ => by
    refine ⟨-1, Ev.succ ?_, rfl⟩
    simp only [slices_Index_string_string.l0]
    exact Ev.neg (len_end p) (Ev.now _)
  | x :: t, p, hl => by
    by_cases h : s.toList = x.toList
    · refine ⟨(p.length : Int), Ev.succ ?_, by simp [inD, h]⟩
      simp only [slices_Index_string_string.l0]
      refine Ev.pos (len_mid p t x) (Ev.pos (by omega) (Ev.pos (len_mid p t x) ?_))
      rw [rdOf_mid]
      exact Ev.pos h (Ev.now _)
    · rw [app_next p t x] at hl
      obtain ⟨i, hi, hi2⟩ := idxS_l0 (s := s) t (p ++ [x]) hl
      refine ⟨i, Ev.succ ?_, by rw [hi2, inD_cons, decide_eq_false (fun e => h e.symm), Bool.false_or]⟩
      simp only [slices_Index_string_string.l0]
      refine Ev.pos (len_mid p t x) (Ev.pos (by omega) (Ev.pos (len_mid p t x) ?_))
      rw [rdOf_mid, len_next p x (by simp at hl; omega), app_next p t x]
      exact Ev.neg h hi
theorem contains_ev (l : List ByteArray) (s : ByteArray) (hl : l.length ≤ 1048576) : Ev (fun k => slices_Contains_string_string.f k l s) (inD l s) := by
  obtain ⟨i, hi, hi2⟩ := idxS_l0 (s := s) l [] hl
  unfold slices_Contains_string_string.f
  exact Ev.bind hi (Ev.val hi2)
theorem live_l0 {l1 : List ByteArray} (h1 : l1.length ≤ 1048576) : ∀ (t p : List ByteArray), (p ++ t).length ≤ 1048576 → Ev (fun k => impl_areLive.l0 k l1 (p ++ t) (p.length : Int)) (t.any (inD l1))
  | [], p, _ => by
    refine Ev.succ ?_
    simp only [impl_areLive.l0]
    exact Ev.neg (len_end p) (Ev.now _)
  | x :: t, p, hl => by
    refine Ev.succ ?_
    simp only [impl_areLive.l0]
    refine Ev.pos (len_mid p t x) (Ev.pos (by omega) ?_)
    rw [rdOf_mid]
    refine Ev.bind (contains_ev l1 x h1) ?_
    by_cases h : inD l1 x = true
    · rw [h]; exact Ev.pos rfl (Ev.val (by simp [h]))
    · have hf := Bool.eq_false_iff.2 h
      rw [hf, List.any_cons, hf, Bool.false_or, len_next p x (by simp at hl; omega)]
      rw [app_next p t x] at hl ⊢
      refine Ev.neg (by simp) ?_
      exact live_l0 h1 t (p ++ [x]) hl
/-- Dead codes, and others that live. -/
def liveM (W D : Int) (dead codes : List ByteArray) : Bool := (small W D 1000 && deadM W D dead) && (codes.all (isC W D) && !(codes.any (inD dead)))
theorem areLive_ev (W D : Int) (dead codes : List ByteArray) (hl : dead.length ≤ 1048576) (hs : ∀ s ∈ dead, s.size ≤ 1048576) (hl2 : codes.length ≤ 1048576) (hs2 : ∀ s ∈ codes, s.size ≤ 1048576) : Ev (fun k => impl_areLive.f k W D dead codes) (liveM W D dead codes) := by
  unfold impl_areLive.f liveM
  refine Ev.bind (areDead_ev W D dead hl hs) ?_
  by_cases h : (small W D 1000 && deadM W D dead) = true
  · have hg : good W D = true := by
      have := (Bool.and_eq_true_iff.1 h).1
      unfold small at this
      exact (Bool.and_eq_true_iff.1 this).1
    rw [h, Bool.true_and]
    refine Ev.pos rfl (Ev.bind (has_ev W D codes hs2 hl2) ?_)
    rw [hg, Bool.true_and]
    by_cases h2 : codes.all (isC W D) = true
    · rw [h2, Bool.true_and]
      exact Ev.pos rfl (Ev.bind (live_l0 hl codes [] hl2) (Ev.now _))
    · rw [Bool.eq_false_iff.2 h2, Bool.false_and]
      exact Ev.neg (by simp) (Ev.now _)
  · rw [Bool.eq_false_iff.2 h, Bool.false_and]
    exact Ev.neg (by simp) (Ev.now _)
theorem deAsked_ev (W D : Int) (dead : List ByteArray) (s : ByteArray) (hl : dead.length ≤ 1048576) (hs : ∀ s ∈ dead, s.size ≤ 1048576) (hs2 : s.size ≤ 1048576) : Ev (fun k => spec_deAsked.f k W D dead s) (liveM W D dead [s]) := by
  unfold spec_deAsked.f liveM
  refine Ev.bind (deSmall_ev W D) ?_
  by_cases h : small W D 1000 = true
  · have hg : good W D = true := by
      unfold small at h
      exact (Bool.and_eq_true_iff.1 h).1
    rw [h, Bool.true_and]
    refine Ev.pos rfl (Ev.bind (deList_ev hg dead hl hs) ?_)
    by_cases h2 : deadM W D dead = true
    · rw [h2, Bool.true_and]
      refine Ev.pos rfl (Ev.bind (whCode_ev hg s hs2) ?_)
      by_cases h3 : isC W D s = true
      · rw [h3]
        refine Ev.pos rfl (Ev.bind (hasS_ev dead s hl) (Ev.val ?_))
        simp [h3]
      · rw [Bool.eq_false_iff.2 h3]
        exact Ev.neg (by simp) (Ev.val (by simp [Bool.eq_false_iff.2 h3]))
    · rw [Bool.eq_false_iff.2 h2, Bool.false_and]
      exact Ev.neg (by simp) (Ev.now _)
  · rw [Bool.eq_false_iff.2 h, Bool.false_and, Bool.false_and]
    exact Ev.neg (by simp) (Ev.now _)
theorem live_of {W D : Int} {dead : List ByteArray} {s : ByteArray} (h : liveM W D dead [s] = true) : (1 ≤ W ∧ W ≤ 6 ∧ 2 ≤ D ∧ D ≤ 10) ∧ pw D W.toNat ≤ 1000 ∧ deadM W D dead = true ∧ isC W D s = true ∧ s ∉ dead := by
  unfold liveM small at h
  simp only [Bool.and_eq_true, decide_eq_true_eq, List.all_cons, List.all_nil, Bool.and_true, List.any_cons, List.any_nil, Bool.or_false, Bool.not_eq_true'] at h
  obtain ⟨⟨⟨a, b⟩, c⟩, d, e⟩ := h
  refine ⟨good_iff.1 a, b, c, d, fun hm => ?_⟩
  rw [inD_iff.2 hm] at e
  cases e
/-- Where turns lead, and the place of the first one that leads to a dead code. -/
def walkM (D : Int) (dead : List ByteArray) : List Int → Nat → List S59 → List Int × Int
  | ds, _, [] => (ds, -1)
  | ds, i, t :: ts => if inD dead (txt (turnM D ds t.f0 t.f1)) = true then (turnM D ds t.f0 t.f1, (i : Int)) else walkM D dead (turnM D ds t.f0 t.f1) (i + 1) ts
theorem deWalk_l0 {W D : Int} (hD : 2 ≤ D ∧ D ≤ 10) {dead : List ByteArray} (hdl : dead.length ≤ 1048576) : ∀ (t p : List S59) (ds : List Int), (p ++ t).length ≤ 1048576 → t.all (okT W) = true → Ok D ds → (ds.length : Int) = W → W ≤ 6 →
    Ev (fun k => spec_deWalk.l0 k dead (txt ds) (p ++ t) ((p ++ t).length : Int) (p.length : Int) W D) (txt (walkM D dead ds p.length t).1, (walkM D dead ds p.length t).2)
  | [], p, ds, _, _, _, _, _ => by
    refine Ev.succ ?_
    simp only [spec_deWalk.l0]
    exact Ev.neg (len_end p) (Ev.now _)
  | x :: t, p, ds, hl, ht, hd, hlen, hW => by
    rw [List.all_cons, Bool.and_eq_true_iff] at ht
    obtain ⟨⟨a, b⟩, c⟩ := okT_iff.1 ht.1
    refine Ev.succ ?_
    simp only [spec_deWalk.l0]
    refine Ev.pos (len_mid p t x) (Ev.pos (by omega) (Ev.pos (len_mid p t x) ?_))
    rw [rdT_mid]
    refine Ev.bind (whMake_ev hD hd (by omega) a (by omega) (by omega)) (Ev.bind (hasS_ev dead _ hdl) ?_)
    by_cases h : inD dead (txt (turnM D ds x.f0 x.f1)) = true
    · rw [h]
      exact Ev.pos rfl (Ev.val (by simp [walkM, h]))
    · rw [Bool.eq_false_iff.2 h]
      refine Ev.neg (by simp) ?_
      have := deWalk_l0 hD hdl t (p ++ [x]) (turnM D ds x.f0 x.f1) (by simpa using hl) ht.2 (turnM_ok (by omega) hd _ _) (by rw [turnM_length]; exact hlen) hW
      rw [len_next p x (by simp at hl; omega), app_next p t x, show walkM D dead ds p.length (x :: t) = walkM D dead (turnM D ds x.f0 x.f1) (p ++ [x]).length t by simp [walkM, Bool.eq_false_iff.2 h]]
      exact this
theorem iwalk_l0 {W D : Int} (hD : 2 ≤ D ∧ D ≤ 10) {dead : List ByteArray} (hdl : dead.length ≤ 1048576) : ∀ (t p : List S59) (ds : List Int), (p ++ t).length ≤ 1048576 → t.all (okT W) = true → Ok D ds → (ds.length : Int) = W → W ≤ 6 →
    Ev (fun k => impl_walk.l0 k dead (txt ds) (p ++ t) ((p ++ t).length : Int) (p.length : Int) W D) (txt (walkM D dead ds p.length t).1, (walkM D dead ds p.length t).2)
  | [], p, ds, _, _, _, _, _ => by
    refine Ev.succ ?_
    simp only [impl_walk.l0]
    exact Ev.neg (len_end p) (Ev.now _)
  | x :: t, p, ds, hl, ht, hd, hlen, hW => by
    rw [List.all_cons, Bool.and_eq_true_iff] at ht
    obtain ⟨⟨a, b⟩, c⟩ := okT_iff.1 ht.1
    refine Ev.succ ?_
    simp only [impl_walk.l0]
    refine Ev.pos (len_mid p t x) (Ev.pos (by omega) (Ev.pos (len_mid p t x) ?_))
    rw [rdT_mid]
    refine Ev.bind (turned_ev hD hd (by omega) a (by omega) (by omega)) (Ev.bind (contains_ev dead _ hdl) ?_)
    by_cases h : inD dead (txt (turnM D ds x.f0 x.f1)) = true
    · rw [h]
      exact Ev.pos rfl (Ev.val (by simp [walkM, h]))
    · rw [Bool.eq_false_iff.2 h]
      refine Ev.neg (by simp) ?_
      have := iwalk_l0 hD hdl t (p ++ [x]) (turnM D ds x.f0 x.f1) (by simpa using hl) ht.2 (turnM_ok (by omega) hd _ _) (by rw [turnM_length]; exact hlen) hW
      rw [len_next p x (by simp at hl; omega), app_next p t x, show walkM D dead ds p.length (x :: t) = walkM D dead (turnM D ds x.f0 x.f1) (p ++ [x]).length t by simp [walkM, Bool.eq_false_iff.2 h]]
      exact this
def wayM (W D : Int) (dead : List ByteArray) (s : ByteArray) (l : List S59) : Option (List Int × Int) := if (liveM W D dead [s] && areT W l) = true then some (walkM D dead (dgs s) 0 l) else none
def meetsM : Option (List Int × Int) → Int × Bool
  | none => (0, false)
  | some x => if x.2 < 0 then (0, false) else (x.2, true)
theorem found_is (x : Int) : (mx x 0, decide (x ≥ 0)) = if x < 0 then (0, false) else (x, true) := by
  unfold mx
  by_cases h : x < 0
  · rw [if_pos h, if_pos h, decide_eq_false (by omega)]
  · rw [if_neg h, if_neg h, decide_eq_true (by omega)]
theorem live_code {W D : Int} {dead : List ByteArray} {s : ByteArray} (h : liveM W D dead [s] = true) : (1 ≤ W ∧ W ≤ 6 ∧ 2 ≤ D ∧ D ≤ 10) ∧ s = txt (dgs s) ∧ Ok D (dgs s) ∧ ((dgs s).length : Int) = W := by
  obtain ⟨a, b, c, d, e⟩ := live_of h
  exact ⟨a, code_of d a.2.2.2⟩
theorem all_of_areT {W : Int} {l : List S59} (h : areT W l = true) : l.all (okT W) = true := (Bool.and_eq_true_iff.1 h).1
theorem deWalk_ev {W D : Int} {dead : List ByteArray} {s : ByteArray} {l : List S59} (hdl : dead.length ≤ 1048576) (hll : l.length ≤ 1048576) (h : liveM W D dead [s] = true) (ht : areT W l = true) : Ev (fun k => spec_deWalk.f k W D dead s l) (txt (walkM D dead (dgs s) 0 l).1, (walkM D dead (dgs s) 0 l).2) := by
  obtain ⟨⟨g1, g2, g3, g4⟩, e1, o1, l1⟩ := live_code h
  have := deWalk_l0 (W := W) ⟨g3, g4⟩ hdl l [] (dgs s) (by simpa using hll) (all_of_areT ht) o1 l1 g2
  rw [← e1] at this
  exact this
theorem iwalk_ev {W D : Int} {dead : List ByteArray} {s : ByteArray} {l : List S59} (hdl : dead.length ≤ 1048576) (hll : l.length ≤ 1048576) (h : liveM W D dead [s] = true) (ht : areT W l = true) : Ev (fun k => impl_walk.f k W D dead s l) (txt (walkM D dead (dgs s) 0 l).1, (walkM D dead (dgs s) 0 l).2) := by
  obtain ⟨⟨g1, g2, g3, g4⟩, e1, o1, l1⟩ := live_code h
  have := iwalk_l0 (W := W) ⟨g3, g4⟩ hdl l [] (dgs s) (by simpa using hll) (all_of_areT ht) o1 l1 g2
  rw [← e1] at this
  exact this
theorem TurnThatMeets_s (W D : Int) (dead : List ByteArray) (s : ByteArray) (l : List S59) (hl : dead.length ≤ 1048576) (hs : ∀ s ∈ dead, s.size ≤ 1048576) (hs2 : s.size ≤ 1048576) (hll : l.length ≤ 1048576) : Ev (fun k => spec_TurnThatMeets.f k W D dead s l) (meetsM (wayM W D dead s l)) := by
  unfold spec_TurnThatMeets.f wayM
  refine Ev.bind (deAsked_ev W D dead s hl hs hs2) ?_
  by_cases h : liveM W D dead [s] = true
  · obtain ⟨⟨g1, g2, g3, g4⟩, e1, o1, l1⟩ := live_code h
    rw [h, Bool.true_and]
    refine Ev.pos rfl (Ev.bind (whTurns_ev ⟨by omega, by omega⟩ D l hll) (Ev.succ ?_))
    simp only [spec_TurnThatMeets.j0]
    by_cases ht : areT W l = true
    · rw [ht]
      refine Ev.neg (by simp) (Ev.bind (deWalk_ev hl hll h ht) ?_)
      rw [if_pos rfl]
      simp only [meetsM]
      split
      · exact Ev.now _
      · exact Ev.now _
    · rw [Bool.eq_false_iff.2 ht]
      exact Ev.pos rfl (Ev.now _)
  · rw [Bool.eq_false_iff.2 h, Bool.false_and]
    refine Ev.neg (by simp) (Ev.succ ?_)
    simp only [spec_TurnThatMeets.j0]
    exact Ev.pos trivial (Ev.now _)
theorem TurnThatMeets_i (W D : Int) (dead : List ByteArray) (s : ByteArray) (l : List S59) (hl : dead.length ≤ 1048576) (hs : ∀ s ∈ dead, s.size ≤ 1048576) (hs2 : s.size ≤ 1048576) (hll : l.length ≤ 1048576) : Ev (fun k => impl_TurnThatMeets.f k W D dead s l) (meetsM (wayM W D dead s l)) := by
  unfold impl_TurnThatMeets.f wayM
  refine Ev.bind (areLive_ev W D dead [s] hl hs (by simp) (fun x hx => by rw [List.mem_singleton.1 hx]; exact hs2)) ?_
  by_cases h : liveM W D dead [s] = true
  · obtain ⟨⟨g1, g2, g3, g4⟩, e1, o1, l1⟩ := live_code h
    rw [h, Bool.true_and]
    refine Ev.pos rfl (Ev.bind (areTurns_ev ⟨by omega, by omega⟩ l hll) (Ev.succ ?_))
    simp only [impl_TurnThatMeets.j0]
    by_cases ht : areT W l = true
    · rw [ht]
      refine Ev.neg (by simp) (Ev.bind (iwalk_ev hl hll h ht) (Ev.bind0 rfl (Ev.val ?_)))
      rw [if_pos rfl]
      exact found_is _
    · rw [Bool.eq_false_iff.2 ht]
      exact Ev.pos rfl (Ev.now _)
  · rw [Bool.eq_false_iff.2 h, Bool.false_and]
    refine Ev.neg (by simp) (Ev.succ ?_)
    simp only [impl_TurnThatMeets.j0]
    exact Ev.pos trivial (Ev.now _)
end Go.Proofs.Ytajhahafgnefcaa.L
