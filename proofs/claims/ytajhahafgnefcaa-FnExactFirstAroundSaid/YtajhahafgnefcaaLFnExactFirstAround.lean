/- What the printed functions that FnExactFirstAround reaches come to: lemmas for its plain law. -/
import Derived.Test.YtajhahafgnefcaaMath
import Derived.Test.YtajhahafgnefcaaR0
import Derived.Test.YtajhahafgnefcaaR1
import Derived.Test.YtajhahafgnefcaaR2
import Derived.Test.YtajhahafgnefcaaR3
import Derived.Test.YtajhahafgnefcaaR4
import Derived.Test.YtajhahafgnefcaaR5
import Derived.Test.YtajhahafgnefcaaR6
import Derived.Test.YtajhahafgnefcaaR7
import Derived.Test.YtajhahafgnefcaaR9
import Derived.Test.YtajhahafgnefcaaR10
import Derived.Test.YtajhahafgnefcaaR11
import Derived.Test.YtajhahafgnefcaaR12
import Derived.Test.YtajhahafgnefcaaR15
import Derived.Test.YtajhahafgnefcaaR16
import Derived.Test.YtajhahafgnefcaaR17
import Derived.Test.YtajhahafgnefcaaR18
import Derived.Test.YtajhahafgnefcaaR19
import Derived.Test.YtajhahafgnefcaaR20
import Derived.Test.YtajhahafgnefcaaR22
import Derived.Test.YtajhahafgnefcaaR24
import Derived.Test.YtajhahafgnefcaaR25
import Derived.Test.YtajhahafgnefcaaR30
import Derived.Test.YtajhahafgnefcaaR31
import Derived.Test.YtajhahafgnefcaaR36
import Derived.Test.YtajhahafgnefcaaR37
import Derived.Test.YtajhahafgnefcaaR39
import Derived.Test.YtajhahafgnefcaaR40
import Derived.Test.YtajhahafgnefcaaR41
import Derived.Test.YtajhahafgnefcaaR42
import Derived.Test.YtajhahafgnefcaaR43
import Derived.Test.YtajhahafgnefcaaR44
import Derived.Test.YtajhahafgnefcaaR82
import Derived.Test.YtajhahafgnefcaaR83
import Derived.Test.YtajhahafgnefcaaR84
import Derived.Test.YtajhahafgnefcaaR85
import Derived.Test.YtajhahafgnefcaaR86
import Derived.Test.YtajhahafgnefcaaR87
import Derived.Test.YtajhahafgnefcaaR88
namespace Go.Proofs.Ytajhahafgnefcaa.L
open Go.RowKit Go.Proofs.YtajhahafgnefcaaW.PrintWords Go.Proofs.YtajhahafgnefcaaW.PrintMore Go.Proofs.Ytajhahafgnefcaa.M Go.Proofs.Ytajhahafgnefcaa.R
set_option linter.unusedVariables false
set_option linter.unusedSimpArgs false
theorem whGood_f (W D : Int) : Gb.f W D = some (good W D) := by
 unfold Gb.f FT.f good
 by_cases h1 : 1 ≤ W <;> by_cases h2 : W ≤ 6 <;> by_cases h3 : 2 ≤ D <;> by_cases h4 : D ≤ 10 <;> simp [h1, h2, h3, h4]
theorem IsLock_i (W D : Int) : FZ.f W D = some (good W D) := by
 unfold FZ.f FS.f good
 by_cases h1 : 1 ≤ W <;> by_cases h2 : W ≤ 6 <;> by_cases h3 : 2 ≤ D <;> by_cases h4 : D ≤ 10 <;> simp [h1, h2, h3, h4]
theorem l1In_f (n lo hi : Int) : FT.f n lo hi = some (decide (lo ≤ n ∧ n ≤ hi)) := by
 unfold FT.f
 by_cases h1 : lo ≤ n <;> by_cases h2 : n ≤ hi <;> simp [h1, h2]
theorem within_f (n lo hi : Int) : FS.f n lo hi = some (decide (lo ≤ n ∧ n ≤ hi)) := by
 unfold FS.f
 by_cases h1 : lo ≤ n <;> by_cases h2 : n ≤ hi <;> simp [h1, h2]

theorem whCount_l0 {W D : Int} (h0 : 2 ≤ D) (h1 : D ≤ 10) : ∀ (m n : Nat), n + m ≤ 6 → Ev (fun k => Fp.l0 k (pw D n) (m : Int) W D) (pw D (n + m))
 | 0, n, h => by
  refine Ev.succ ?_
  simp only [Fp.l0]
  exact Ev.neg (by omega) (Ev.now _)
 | m + 1, n, h => by
  have b := pw_le6 (D := D) (by omega) h1 (n := n + 1) (by omega)
  have p := pw_pos (D := D) (by omega) (n + 1)
  refine Ev.succ ?_
  simp only [Fp.l0]
  refine Ev.pos (by omega) ?_
  rw [show wrap64 (pw D n * D) = pw D (n + 1) from wrap_id (by rw [pw] at *; omega) (by rw [pw] at *; omega), show wrap64 (((m + 1 : Nat) : Int) - 1) = (m : Int) by rw [wrap_id] <;> omega,
   show n + (m + 1) = (n + 1) + m by omega]
  exact whCount_l0 h0 h1 m (n + 1) (by omega)
theorem whCount_ev {W D : Int} (h : good W D = true) : Ev (fun k => Fp.f k W D) (pw D W.toNat) := by
 obtain ⟨a, b, c, d⟩ := good_iff.1 h
 obtain ⟨w, rfl⟩ := Int.eq_ofNat_of_zero_le (show 0 ≤ W by omega)
 unfold Fp.f
 have := whCount_l0 (W := w) c d w 0 (by omega)
 rw [Nat.zero_add] at this
 exact this
theorem power_l0 {D : Int} (h0 : 2 ≤ D) (h1 : D ≤ 10) : ∀ (m n : Nat), n + m ≤ 6 → Ev (fun k => FP.l0 k D (pw D n) ((n + m : Nat) : Int) (n : Int)) (pw D (n + m))
 | 0, n, h => by
  refine Ev.succ ?_
  simp only [FP.l0]
  exact Ev.neg (by omega) (Ev.now _)
 | m + 1, n, h => by
  have b := pw_le6 (D := D) (by omega) h1 (n := n + 1) (by omega)
  have p := pw_pos (D := D) (by omega) (n + 1)
  refine Ev.succ ?_
  simp only [FP.l0]
  refine Ev.pos (by omega) ?_
  rw [show wrap64 (pw D n * D) = pw D (n + 1) from wrap_id (by rw [pw] at *; omega) (by rw [pw] at *; omega), show wrap64 ((n : Int) + 1) = ((n + 1 : Nat) : Int) by rw [wrap_id] <;> omega,
   show n + (m + 1) = (n + 1) + m by omega]
  exact power_l0 h0 h1 m (n + 1) (by omega)
theorem count_ev {W D : Int} (h : good W D = true) : Ev (fun k => FC.f k W D) (pw D W.toNat) := by
 obtain ⟨a, b, c, d⟩ := good_iff.1 h
 obtain ⟨w, rfl⟩ := Int.eq_ofNat_of_zero_le (show 0 ≤ W by omega)
 unfold FC.f FP.f
 have := power_l0 c d w 0 (by omega)
 rw [Nat.zero_add] at this
 exact Ev.bind this (Ev.now _)

theorem whCode_l0 {W D : Int} (hD : 2 ≤ D ∧ D ≤ 10) {s : ByteArray} (hs : s.size ≤ 1048576) : ∀ (t p : List Int), bys s = p ++ t → Ev (fun k => Fx.l0 k s (p.length : Int) W D) (t.all fun b => decide (48 ≤ b ∧ b < 48 + D))
 | [], p, e => by
  have el : p.length = s.size := by rw [← bys_length, e]; simp
  refine Ev.succ ?_
  simp only [Fx.l0]
  exact Ev.neg (by omega) (Ev.now _)
 | x :: t, p, e => by
  have el : p.length + (t.length + 1) = s.size := by rw [← bys_length, e]; simp
  have hx := bys_range s x (by rw [e]; simp)
  refine Ev.succ ?_
  simp only [Fx.l0]
  refine Ev.pos (by omega) (Ev.pos (by omega) ?_)
  rw [bt_bys, e, rd_mid, wrap_id (x := x) (by omega) (by omega), wrap_id (x := x - 48) (by omega) (by omega), wrap_id (x := D - 1) (by omega) (by omega), l1In_f]
  refine Ev.bind0 rfl ?_
  by_cases hb : 48 ≤ x ∧ x < 48 + D
  ·refine Ev.pos (by simp; omega) ?_
   rw [show wrap64 ((p.length : Int) + 1) = ((p ++ [x]).length : Int) from len_next p x (by omega)]
   simp only [List.all_cons, hb, and_self, decide_true, Bool.true_and]
   exact whCode_l0 hD hs t (p ++ [x]) (by rw [e]; simp)
  ·refine Ev.neg (by simp; omega) ?_
   rw [List.all_cons, decide_eq_false hb, Bool.false_and]
   exact Ev.now _
theorem whCode_ev {W D : Int} (h : good W D = true) (s : ByteArray) (hs : s.size ≤ 1048576) : Ev (fun k => Fx.f k W D s) (isC W D s) := by
 obtain ⟨a, b, c, d⟩ := good_iff.1 h
 unfold Fx.f isC
 by_cases e : (s.size : Int) = W
 ·refine Ev.pos e ?_
  rw [decide_eq_true e, Bool.true_and]
  exact whCode_l0 ⟨c, d⟩ hs (bys s) [] rfl
 ·refine Ev.neg e ?_
  rw [decide_eq_false e, Bool.false_and]
  exact Ev.now _
theorem isText_l0 {W D : Int} (hD : 2 ≤ D ∧ D ≤ 10) {s : ByteArray} (hs : s.size ≤ 1048576) : ∀ (t p : List Int), bys s = p ++ t → Ev (fun k => Fw.l0 k s (s.size : Int) (p.length : Int) W D) (t.all fun b => decide (48 ≤ b ∧ b < 48 + D))
 | [], p, e => by
  have el : p.length = s.size := by rw [← bys_length, e]; simp
  refine Ev.succ ?_
  simp only [Fw.l0]
  exact Ev.neg (by omega) (Ev.now _)
 | x :: t, p, e => by
  have el : p.length + (t.length + 1) = s.size := by rw [← bys_length, e]; simp
  have hx := bys_range s x (by rw [e]; simp)
  refine Ev.succ ?_
  simp only [Fw.l0]
  refine Ev.pos (by omega) (Ev.pos (by omega) (Ev.pos (by omega) ?_))
  rw [bt_bys, e, rd_mid, wrap_id (x := x) (by omega) (by omega), wrap_id (x := 48 + D) (by omega) (by omega), wrap_id (x := 48 + D - 1) (by omega) (by omega), within_f]
  refine Ev.bind0 rfl ?_
  by_cases hb : 48 ≤ x ∧ x < 48 + D
  ·refine Ev.pos (by simp; omega) ?_
   rw [show wrap64 ((p.length : Int) + 1) = ((p ++ [x]).length : Int) from len_next p x (by omega)]
   simp only [List.all_cons, hb, and_self, decide_true, Bool.true_and]
   exact isText_l0 hD hs t (p ++ [x]) (by rw [e]; simp)
  ·refine Ev.neg (by simp; omega) ?_
   rw [List.all_cons, decide_eq_false hb, Bool.false_and]
   exact Ev.now _
theorem isCode_ev {W D : Int} (h : good W D = true) (s : ByteArray) (hs : s.size ≤ 1048576) : Ev (fun k => FU.f k W D s) (isC W D s) := by
 obtain ⟨a, b, c, d⟩ := good_iff.1 h
 unfold FU.f isC
 by_cases e : (s.size : Int) = W
 ·refine Ev.pos e ?_
  rw [decide_eq_true e, Bool.true_and]
  refine Ev.bind (isText_l0 (W := W) ⟨c, d⟩ hs (bys s) [] rfl) (Ev.now _)
 ·refine Ev.neg e ?_
  rw [decide_eq_false e, Bool.false_and]
  exact Ev.now _

theorem dgs_app {s : ByteArray} {p t : List Int} (e : bys s = p ++ t) : dgs s = (p.map fun b => (b - 48) % 256) ++ (t.map fun b => (b - 48) % 256) := by
 unfold dgs; rw [e, List.map_append]
theorem whDigits_l0 {s : ByteArray} (hs : s.size ≤ 1048576) : ∀ (t p : List Int), bys s = p ++ t → Ev (fun k => Fy.l0 k s (p.map fun b => (b - 48) % 256) (p.length : Int)) (dgs s)
 | [], p, e => by
  have el : p.length = s.size := by rw [← bys_length, e]; simp
  refine Ev.succ ?_
  simp only [Fy.l0]
  refine Ev.neg (by omega) (Ev.val ?_)
  rw [dgs_app e]; simp
 | x :: t, p, e => by
  have el : p.length + (t.length + 1) = s.size := by rw [← bys_length, e]; simp
  refine Ev.succ ?_
  simp only [Fy.l0]
  refine Ev.pos (by omega) (Ev.pos (by omega) (Ev.pos (by rw [List.length_map]; omega) ?_))
  rw [bt_bys, e, rd_mid, show wrap64 ((p.length : Int) + 1) = ((p ++ [x]).length : Int) from len_next p x (by omega)]
  have := whDigits_l0 hs t (p ++ [x]) (by rw [e]; simp)
  rw [List.map_append] at this
  exact this
theorem whDigits_ev (s : ByteArray) (hs : s.size ≤ 1048576) : Ev (fun k => Fy.f k s) (dgs s) := by
 unfold Fy.f
 exact whDigits_l0 hs (bys s) [] rfl
theorem digits_l0 {s : ByteArray} (hs : s.size ≤ 1048576) : ∀ (t p : List Int), bys s = p ++ t → Ev (fun k => FG.l0 k s (p.map fun b => (b - 48) % 256) (s.size : Int) (p.length : Int)) (dgs s)
 | [], p, e => by
  have el : p.length = s.size := by rw [← bys_length, e]; simp
  refine Ev.succ ?_
  simp only [FG.l0]
  refine Ev.neg (by omega) (Ev.val ?_)
  rw [dgs_app e]; simp
 | x :: t, p, e => by
  have el : p.length + (t.length + 1) = s.size := by rw [← bys_length, e]; simp
  refine Ev.succ ?_
  simp only [FG.l0]
  refine Ev.pos (by omega) (Ev.pos (by omega) (Ev.pos (by omega) (Ev.pos (by rw [List.length_map]; omega) ?_)))
  rw [bt_bys, e, rd_mid, show wrap64 ((p.length : Int) + 1) = ((p ++ [x]).length : Int) from len_next p x (by omega)]
  have := digits_l0 hs t (p ++ [x]) (by rw [e]; simp)
  rw [List.map_append] at this
  exact this
theorem digits_ev (s : ByteArray) (hs : s.size ≤ 1048576) : Ev (fun k => FG.f k s) (dgs s) := by
 unfold FG.f
 exact digits_l0 hs (bys s) [] rfl
theorem whDigits_txt {ds : List Int} (h : Ok 10 ds) (hl : ds.length ≤ 1048576) : Ev (fun k => Fy.f k (txt ds)) ds := by
 have := whDigits_ev (txt ds) (by rw [txt_size]; exact hl)
 rwa [dgs_txt h] at this
theorem digits_txt {ds : List Int} (h : Ok 10 ds) (hl : ds.length ≤ 1048576) : Ev (fun k => FG.f k (txt ds)) ds := by
 have := digits_ev (txt ds) (by rw [txt_size]; exact hl)
 rwa [dgs_txt h] at this

theorem l1Num_ev {d : Int} (h0 : 0 ≤ d) (h1 : d < 10) : Ev (fun k => FM.f k d) (txt [d]) := by
 refine Ev.succ ?_
 simp only [FM.f]
 refine Ev.pos h1 (Ev.val ?_)
 rw [wrap_id (by omega) (by omega), show (48 + d) % 256 = 48 + d by omega]; rfl
theorem whText_l0 : ∀ (t p : List Int), Ok 10 (p ++ t) → (p ++ t).length ≤ 1048576 → Ev (fun k => FH.l0 k (txt p) (p ++ t) ((p ++ t).length : Int) (p.length : Int)) (txt (p ++ t))
 | [], p, h, hl => by
  refine Ev.succ ?_
  simp only [FH.l0]
  refine Ev.neg (len_end p) (Ev.val (by simp))
 | x :: t, p, h, hl => by
  have hx := (Ok.cons.1 (Ok.append.1 h).2).1
  rw [List.length_append, List.length_cons] at hl
  refine Ev.succ ?_
  simp only [FH.l0]
  refine Ev.pos (len_mid p t x) (Ev.pos (by omega) (Ev.pos (len_mid p t x) ?_))
  rw [rd_mid]
  refine Ev.bind (l1Num_ev hx.1 hx.2) (Ev.pos (by rw [txt_size, txt_size]; simp; omega) ?_)
  rw [len_next p x (by omega), txt_append, app_next p t x]
  refine whText_l0 t (p ++ [x]) (by rw [← app_next p t x]; exact h) (by simp; omega)
theorem whText_ev {ds : List Int} (h : Ok 10 ds) (hl : ds.length ≤ 1048576) : Ev (fun k => FH.f k ds) (txt ds) := by
 unfold FH.f
 exact whText_l0 ds [] h hl
theorem l1Mod_f (k : Int) {n : Int} (h0 : 0 < n) (h1 : n ≤ 1000) : Gc.f k n = some (k % n) := by
 unfold Gc.f; rw [if_neg (by omega), tmod_around h0 h1]
theorem around_f (k : Int) {n : Int} (h0 : 0 < n) (h1 : n ≤ 1000) : Ga.f k n = some (k % n) := by
 unfold Ga.f; rw [if_neg (by omega), tmod_around h0 h1]
theorem whNumber_l0 {W D : Int} (hD : 2 ≤ D ∧ D ≤ 10) : ∀ (t p : List Int), Ok D (p ++ t) → (p ++ t).length ≤ 6 → Ev (fun k => Fg.l0 k (num D p) (p ++ t) ((p ++ t).length : Int) (p.length : Int) W D) (num D (p ++ t))
 | [], p, h, hl => by
  refine Ev.succ ?_
  simp only [Fg.l0]
  refine Ev.neg (len_end p) (Ev.val (by simp))
 | x :: t, p, h, hl => by
  have hx := (Ok.cons.1 (Ok.append.1 h).2).1
  have hp : Ok D (p ++ [x]) := by rw [app_next p t x] at h; exact (Ok.append.1 h).1
  rw [List.length_append, List.length_cons] at hl
  have b1 := num_bound (by omega) hp
  have b2 := pw_le6 (D := D) (by omega) hD.2 (n := (p ++ [x]).length) (by simp; omega)
  have b3 := num_bound (D := D) (by omega) (Ok.append.1 hp).1
  have b4 : 0 ≤ num D p * D := Int.mul_nonneg b3.1 (by omega)
  rw [num_snoc] at b1
  refine Ev.succ ?_
  simp only [Fg.l0]
  refine Ev.pos (len_mid p t x) (Ev.pos (by omega) (Ev.pos (len_mid p t x) ?_))
  rw [rd_mid, wrap_id (x := num D p * D) (by omega) (by omega), wrap_id (x := num D p * D + x) (by omega) (by omega), ← num_snoc, len_next p x (by omega), app_next p t x]
  exact whNumber_l0 hD t (p ++ [x]) (by rw [← app_next p t x]; exact h) (by simp; omega)
theorem whNumber_ev {W D : Int} (hD : 2 ≤ D ∧ D ≤ 10) {ds : List Int} (h : Ok D ds) (hl : ds.length ≤ 6) : Ev (fun k => Fg.f k W D (txt ds)) (num D ds) := by
 unfold Fg.f
 refine Ev.bind (whDigits_txt (h.le hD.2) (by omega)) ?_
 exact whNumber_l0 hD ds [] h hl
theorem number_l0 {W D : Int} (hD : 2 ≤ D ∧ D ≤ 10) : ∀ (t p : List Int), Ok D (p ++ t) → (p ++ t).length ≤ 6 → Ev (fun k => Fk.l0 k (num D p) (p ++ t) ((p ++ t).length : Int) (p.length : Int) W D) (num D (p ++ t))
 | [], p, h, hl => by
  refine Ev.succ ?_
  simp only [Fk.l0]
  refine Ev.neg (len_end p) (Ev.val (by simp))
 | x :: t, p, h, hl => by
  have hx := (Ok.cons.1 (Ok.append.1 h).2).1
  have hp : Ok D (p ++ [x]) := by rw [app_next p t x] at h; exact (Ok.append.1 h).1
  rw [List.length_append, List.length_cons] at hl
  have b1 := num_bound (by omega) hp
  have b2 := pw_le6 (D := D) (by omega) hD.2 (n := (p ++ [x]).length) (by simp; omega)
  have b3 := num_bound (D := D) (by omega) (Ok.append.1 hp).1
  have b4 : 0 ≤ num D p * D := Int.mul_nonneg b3.1 (by omega)
  rw [num_snoc] at b1
  refine Ev.succ ?_
  simp only [Fk.l0]
  refine Ev.pos (len_mid p t x) (Ev.pos (by omega) (Ev.pos (len_mid p t x) ?_))
  rw [rd_mid, wrap_id (x := num D p * D) (by omega) (by omega), wrap_id (x := num D p * D + x) (by omega) (by omega), ← num_snoc, len_next p x (by omega), app_next p t x]
  exact number_l0 hD t (p ++ [x]) (by rw [← app_next p t x]; exact h) (by simp; omega)
theorem number_ev {W D : Int} (hD : 2 ≤ D ∧ D ≤ 10) {ds : List Int} (h : Ok D ds) (hl : ds.length ≤ 6) : Ev (fun k => Fk.f k W D (txt ds)) (num D ds) := by
 unfold Fk.f
 refine Ev.bind (digits_txt (h.le hD.2) (by omega)) ?_
 exact number_l0 hD ds [] h hl

theorem has_l0 {W D : Int} (h : good W D = true) : ∀ (t p : List ByteArray), (∀ s ∈ t, s.size ≤ 1048576) → (p ++ t).length ≤ 1048576 → Ev (fun k => FJ.l0 k (p ++ t) ((p ++ t).length : Int) (p.length : Int) W D) (t.all (isC W D))
 | [], p, hs, hl => by
  refine Ev.succ ?_
  simp only [FJ.l0]
  refine Ev.neg (len_end p) (Ev.val (by simp))
 | x :: t, p, hs, hl => by
  rw [List.length_append, List.length_cons] at hl
  refine Ev.succ ?_
  simp only [FJ.l0]
  refine Ev.pos (len_mid p t x) (Ev.pos (by omega) (Ev.pos (len_mid p t x) ?_))
  rw [rdOf_mid, len_next p x (by omega), app_next p t x]
  refine Ev.bind (isCode_ev h x (hs x (by simp))) ?_
  by_cases hx : isC W D x = true
  ·refine Ev.pos hx ?_
   rw [List.all_cons, hx, Bool.true_and]
   exact has_l0 h t (p ++ [x]) (fun s hs' => hs s (by simp [hs'])) (by simp; omega)
  ·refine Ev.neg hx (Ev.val ?_)
   simp [hx]
theorem has_ev (W D : Int) (l : List ByteArray) (hs : ∀ s ∈ l, s.size ≤ 1048576) (hl : l.length ≤ 1048576) : Ev (fun k => FJ.f k W D l) (good W D && l.all (isC W D)) := by
 unfold FJ.f
 refine Ev.bind0 (IsLock_i W D) ?_
 by_cases h : good W D = true
 ·refine Ev.pos h ?_
  rw [h, Bool.true_and]
  exact has_l0 h l [] hs hl
 ·refine Ev.neg h (Ev.val (by simp [h]))

theorem rd_nat (l : List Int) {i : Int} (h0 : 0 ≤ i) (h1 : i < l.length) : ∃ p x t, l = p ++ x :: t ∧ (p.length : Int) = i := by
 refine ⟨l.take i.toNat, l[i.toNat], l.drop (i.toNat + 1), ?_, ?_⟩
 ·rw [← List.drop_eq_getElem_cons (by omega), List.take_append_drop]
 ·rw [List.length_take]; omega
/-- The digits behind a turn. -/
def turnM (D : Int) (ds : List Int) (i b : Int) : List Int := ds.set i.toNat ((rd ds i + b) % D)
theorem turnM_length (D : Int) (ds : List Int) (i b : Int) : (turnM D ds i b).length = ds.length := by simp [turnM]
theorem turnM_ok {D : Int} (h : 0 < D) {ds : List Int} (hd : Ok D ds) (i b : Int) : Ok D (turnM D ds i b) := by
 intro x hx
 rcases List.mem_or_eq_of_mem_set hx with hx | rfl
 ·exact hd x hx
 ·exact ⟨Int.emod_nonneg _ (by omega), Int.emod_lt_of_pos _ h⟩
theorem rd_range {D : Int} {ds : List Int} (hd : Ok D ds) {i : Int} (h0 : 0 ≤ i) (h1 : i < ds.length) : 0 ≤ rd ds i ∧ rd ds i < D := by
 obtain ⟨p, x, t, e, hp⟩ := rd_nat ds h0 h1
 subst e; rw [← hp, rd_mid]
 exact hd x (by simp)
theorem whMake_ev {W D : Int} (hD : 2 ≤ D ∧ D ≤ 10) {ds : List Int} (hd : Ok D ds) (hl : ds.length ≤ 6) {i b : Int} (h0 : 0 ≤ i) (h1 : i < ds.length) (hb : -1 ≤ b ∧ b ≤ 1) : Ev (fun k => FA.f k W D (txt ds) i b) (txt (turnM D ds i b)) := by
 have hr := rd_range hd h0 h1
 unfold FA.f
 refine Ev.bind (whDigits_txt (hd.le hD.2) (by omega)) (Ev.pos h0 (Ev.pos h1 ?_))
 rw [wrap_id (x := rd ds i + b) (by omega) (by omega)]
 refine Ev.bind0 (l1Mod_f _ (by omega) (by omega)) ?_
 exact Ev.bind (whText_ev ((turnM_ok (by omega) hd i b).le hD.2) (by rw [List.length_set]; omega)) (Ev.now _)

theorem rdT_mid (p t : List S59) (x : S59) : rd_T59 (p ++ x :: t) (p.length : Int) = x := by
 unfold rd_T59; rw [Int.toNat_natCast, List.getD_eq_getElem?_getD, List.getElem?_append_right (Nat.le_refl _), Nat.sub_self]; rfl
def small (W D m : Int) : Bool := good W D && decide (pw D W.toNat ≤ m)
theorem deSmall_ev (W D : Int) : Ev (fun k => FX.f k W D) (small W D 1000) := by
 unfold FX.f small
 refine Ev.bind0 (whGood_f W D) ?_
 by_cases h : good W D = true
 ·rw [h, Bool.true_and]; exact Ev.pos rfl (Ev.bind (whCount_ev h) (Ev.now _))
 ·exact Ev.neg h (Ev.val (by simp [h]))
theorem isSmall_ev (W D m : Int) : Ev (fun k => FQ.f k W D m) (small W D m) := by
 unfold FQ.f small
 refine Ev.bind0 (IsLock_i W D) ?_
 by_cases h : good W D = true
 ·rw [h, Bool.true_and]; exact Ev.pos rfl (Ev.bind (count_ev h) (Ev.now _))
 ·exact Ev.neg h (Ev.val (by simp [h]))
def rising : List ByteArray → Bool
 | a :: b :: l => Op.bytesLess a.toList b.toList && rising (b :: l)
 | _ => true
def deadM (W D : Int) (l : List ByteArray) : Bool := decide (l.length ≤ 60) && (l.all (isC W D) && rising l)
theorem idx_prev (p' t : List ByteArray) (q x : ByteArray) : rdOf ByteArray.empty (p' ++ q :: x :: t) (p'.length : Int) = q ∧ rdOf ByteArray.empty (p' ++ q :: x :: t) ((p'.length + 1 : Nat) : Int) = x := by
 refine ⟨rdOf_mid _ _ _ _, ?_⟩
 have := rdOf_mid ByteArray.empty (p' ++ [q]) t x
 rw [List.length_append, List.length_singleton, List.append_assoc] at this
 exact this
theorem deList_l0 {W D : Int} (hg : good W D = true) : ∀ (t p' : List ByteArray) (q : ByteArray), (p' ++ q :: t).length ≤ 1048576 → (∀ s ∈ t, s.size ≤ 1048576) →
  Ev (fun k => Fz.l0 k (p' ++ q :: t) (p' ++ q :: t) ((p' ++ q :: t).length : Int) ((p'.length + 1 : Nat) : Int) W D) (t.all (isC W D) && rising (q :: t))
 | [], p', q, hl, hs => by
  refine Ev.succ ?_
  simp only [Fz.l0]
  exact Ev.neg (by simp) (Ev.now _)
 | x :: t, p', q, hl, hs => by
  obtain ⟨e1, e2⟩ := idx_prev p' t q x
  rw [List.length_append, List.length_cons, List.length_cons] at hl
  have hlen : ((p' ++ q :: x :: t).length : Int) = p'.length + t.length + 2 := by simp; omega
  refine Ev.succ ?_
  simp only [Fz.l0]
  refine Ev.pos (by omega) (Ev.pos (by omega) (Ev.pos (by omega) ?_))
  rw [e2]
  refine Ev.bind (whCode_ev hg x (hs x (by simp))) ?_
  by_cases hx : isC W D x = true
  ·refine Ev.pos hx (Ev.pos (by omega) ?_)
   rw [show wrap64 (((p'.length + 1 : Nat) : Int) - 1) = (p'.length : Int) by rw [wrap_id] <;> omega, e1]
   refine Ev.pos (by omega) (Ev.pos (by omega) ?_)
   by_cases hq : Op.bytesLess q.toList x.toList = true
   ·refine Ev.pos hq ?_
    have := deList_l0 hg t (p' ++ [q]) x (by simp; omega) (fun s h => hs s (by simp [h]))
    rw [List.append_assoc, List.singleton_append, show (p' ++ [q]).length = p'.length + 1 by simp] at this
    rw [show wrap64 (((p'.length + 1 : Nat) : Int) + 1) = ((p'.length + 1 + 1 : Nat) : Int) by rw [wrap_id] <;> omega]
    rw [List.all_cons, hx, Bool.true_and, rising, hq, Bool.true_and]
    exact this
   ·refine Ev.neg hq (Ev.val ?_)
    simp [rising, hq]
  ·refine Ev.neg hx (Ev.val ?_)
   simp [hx]
theorem deList_ev {W D : Int} (hg : good W D = true) (l : List ByteArray) (hl : l.length ≤ 1048576) (hs : ∀ s ∈ l, s.size ≤ 1048576) : Ev (fun k => Fz.f k W D l) (deadM W D l) := by
 unfold Fz.f deadM
 by_cases h : (l.length : Int) > 60
 ·refine Ev.pos h (Ev.val ?_)
  rw [decide_eq_false (by omega)]; rfl
 ·refine Ev.neg h ?_
  rw [decide_eq_true (by omega), Bool.true_and]
  match l, hl, hs with
  | [], _, _ =>
   refine Ev.succ ?_
   simp only [Fz.l0]
   exact Ev.neg (by simp) (Ev.now _)
  | q :: t, hl, hs =>
   rw [List.length_cons] at hl
   refine Ev.succ ?_
   simp only [Fz.l0]
   refine Ev.pos (by rw [List.length_cons]; omega) (Ev.pos (by omega) (Ev.pos (by rw [List.length_cons]; omega) ?_))
   rw [show rdOf ByteArray.empty (q :: t) 0 = q from rfl]
   refine Ev.bind (whCode_ev hg q (hs q (by simp))) ?_
   by_cases hx : isC W D q = true
   ·refine Ev.pos hx (Ev.neg (by omega) ?_)
    have := deList_l0 hg t [] q (by simp; omega) (fun s h => hs s (by simp [h]))
    rw [List.all_cons, hx, Bool.true_and, show wrap64 ((0 : Int) + 1) = 1 by rw [wrap_id] <;> omega]
    exact this
   ·refine Ev.neg hx (Ev.val ?_)
    simp [hx]
theorem areDead_l0 : ∀ (t p' : List ByteArray) (q : ByteArray), (p' ++ q :: t).length ≤ 1048576 →
  Ev (fun k => Fl.l0 k (p' ++ q :: t) ((p'.length + 1 : Nat) : Int)) (rising (q :: t))
 | [], p', q, hl => by
  refine Ev.succ ?_
  simp only [Fl.l0]
  exact Ev.neg (by simp) (Ev.now _)
 | x :: t, p', q, hl => by
  obtain ⟨e1, e2⟩ := idx_prev p' t q x
  rw [List.length_append, List.length_cons, List.length_cons] at hl
  have hlen : ((p' ++ q :: x :: t).length : Int) = p'.length + t.length + 2 := by simp; omega
  refine Ev.succ ?_
  simp only [Fl.l0]
  refine Ev.pos (by omega) (Ev.pos (by omega) ?_)
  rw [show wrap64 (((p'.length + 1 : Nat) : Int) - 1) = (p'.length : Int) by rw [wrap_id] <;> omega, e1, e2]
  refine Ev.pos (by omega) (Ev.pos (by omega) ?_)
  by_cases hq : Op.bytesLess q.toList x.toList = true
  ·refine Ev.pos hq ?_
   have := areDead_l0 t (p' ++ [q]) x (by simp; omega)
   rw [List.append_assoc, List.singleton_append, show (p' ++ [q]).length = p'.length + 1 by simp] at this
   rw [show wrap64 (((p'.length + 1 : Nat) : Int) + 1) = ((p'.length + 1 + 1 : Nat) : Int) by rw [wrap_id] <;> omega, rising, hq, Bool.true_and]
   exact this
  ·refine Ev.neg hq (Ev.val ?_)
   simp [rising, hq]
theorem areDead_ev (W D : Int) (l : List ByteArray) (hl : l.length ≤ 1048576) (hs : ∀ s ∈ l, s.size ≤ 1048576) : Ev (fun k => Fl.f k W D l) (small W D 1000 && deadM W D l) := by
 unfold Fl.f
 refine Ev.bind (isSmall_ev W D 1000) ?_
 by_cases h : small W D 1000 = true
 ·have hg : good W D = true := (Bool.and_eq_true_iff.1 h).1
  rw [h, Bool.true_and]
  refine Ev.pos rfl ?_
  unfold deadM
  by_cases h6 : (l.length : Int) > 60
  ·refine Ev.pos h6 (Ev.succ ?_)
   simp only [Fl.j0]
   refine Ev.pos trivial (Ev.val ?_)
   rw [decide_eq_false (by omega)]; rfl
  ·refine Ev.neg h6 (Ev.bind (has_ev W D l hs hl) (Ev.succ ?_))
   simp only [Fl.j0]
   rw [decide_eq_true (by omega), Bool.true_and, hg, Bool.true_and]
   by_cases ha : l.all (isC W D) = true
   ·refine Ev.neg (by simp [ha]) ?_
    rw [ha, Bool.true_and]
    match l, hl with
    | [], _ =>
     refine Ev.succ ?_
     simp only [Fl.l0]
     exact Ev.neg (by simp) (Ev.now _)
    | q :: t, hl => exact areDead_l0 t [] q hl
   ·refine Ev.pos (by simp [ha]) (Ev.val ?_)
    simp [ha]
 ·refine Ev.neg h (Ev.succ ?_)
  simp only [Fl.j0]
  refine Ev.pos trivial (Ev.val ?_)
  simp [h]
theorem szStringS_l0 : ∀ (t p : List ByteArray) (c : Int), (∀ s ∈ t, s.size ≤ 9223372036854775807) → (p ++ t).length ≤ 9223372036854775806 → 0 ≤ c → c ≤ 1048576 →
  ∃ r, Ev (fun k => Fr.l0 k (p ++ t) c (p.length : Int)) r ∧ (r < 0 ∨ (∀ s ∈ t, s.size ≤ 1048576))
 | [], p, c, hs, hl, h0, h1 => by
  refine ⟨c, Ev.succ ?_, .inr (by simp)⟩
  simp only [Fr.l0]
  exact Ev.neg (len_end p) (Ev.now _)
 | x :: t, p, c, hs, hl, h0, h1 => by
  rw [List.length_append, List.length_cons] at hl
  have hx := hs x (by simp)
  by_cases h : c - (x.size : Int) < 0
  ·refine ⟨-1, Ev.succ ?_, .inl (by omega)⟩
   simp only [Fr.l0]
   refine Ev.pos (len_mid p t x) (Ev.pos (by omega) ?_)
   rw [rdOf_mid, wrap_id (x := c - (x.size : Int)) (by omega) (by omega)]
   exact Ev.pos h (Ev.now _)
  ·obtain ⟨r, hr, hp⟩ := szStringS_l0 t (p ++ [x]) (c - (x.size : Int)) (fun s h' => hs s (by simp [h'])) (by simp; omega) (by omega) (by omega)
   refine ⟨r, Ev.succ ?_, hp.imp id (fun h' s hs' => ?_)⟩
   ·simp only [Fr.l0]
    refine Ev.pos (len_mid p t x) (Ev.pos (by omega) ?_)
    rw [rdOf_mid, wrap_id (x := c - (x.size : Int)) (by omega) (by omega), len_next p x (by omega), app_next p t x]
    exact Ev.neg h hr
   ·rcases List.mem_cons.1 hs' with rfl | h2
    ·omega
    ·exact h' s h2
theorem szStringS_ev (l : List ByteArray) (hl : l.length ≤ 9223372036854775807) (hs : ∀ s ∈ l, s.size ≤ 9223372036854775807) :
  ∃ r, Ev (fun k => Fr.f k l 1048576) r ∧ (r < 0 ∨ (l.length ≤ 1048576 ∧ ∀ s ∈ l, s.size ≤ 1048576)) := by
 by_cases h : (1048576 : Int) - (l.length : Int) < 0
 ·refine ⟨-1, ?_, .inl (by omega)⟩
  unfold Fr.f
  rw [wrap_id (x := (1048576 : Int) - (l.length : Int)) (by omega) (by omega)]
  exact Ev.pos h (Ev.now _)
 ·obtain ⟨r, hr, hp⟩ := szStringS_l0 l [] ((1048576 : Int) - (l.length : Int)) hs (by simp; omega) (by omega) (by omega)
  refine ⟨r, ?_, hp.imp id (fun h' => ⟨by omega, h'⟩)⟩
  unfold Fr.f
  rw [wrap_id (x := (1048576 : Int) - (l.length : Int)) (by omega) (by omega)]
  exact Ev.neg h hr
theorem toStringS_l0 : ∀ (t p u : List ByteArray), t.length = u.length → (p ++ t).length ≤ 1048576 → Ev (fun k => Fj.l0 k (p ++ t) (p ++ u) (p.length : Int)) (p ++ t)
 | [], p, u, e, hl => by
  have : u = [] := List.length_eq_zero_iff.1 e.symm
  subst this
  refine Ev.succ ?_
  simp only [Fj.l0]
  exact Ev.neg (len_end p) (Ev.now _)
 | x :: t, p, [], e, hl => by simp at e
 | x :: t, p, y :: u, e, hl => by
  rw [List.length_append, List.length_cons] at hl
  refine Ev.succ ?_
  simp only [Fj.l0]
  refine Ev.pos (len_mid p t x) (Ev.pos (by omega) (Ev.pos (len_mid p u y) ?_))
  rw [rdOf_mid, set_mid, len_next p x (by omega), app_next p t x, app_next p u x]
  exact toStringS_l0 t (p ++ [x]) u (by simpa using e) (by simp; omega)
theorem toStringS_ev (l : List ByteArray) (hl : l.length ≤ 1048576) : Ev (fun k => Fj.f k l) l := by
 unfold Fj.f
 refine Ev.pos (by omega) (Ev.pos (by omega) ?_)
 exact toStringS_l0 l [] _ (by simp) hl
theorem eqStringS_l0 : ∀ (t p : List ByteArray), (p ++ t).length ≤ 9223372036854775806 → Ev (fun k => Fv.l0 k (p ++ t) (p ++ t) (p.length : Int)) true
 | [], p, hl => by
  refine Ev.succ ?_
  simp only [Fv.l0]
  exact Ev.neg (len_end p) (Ev.now _)
 | x :: t, p, hl => by
  rw [List.length_append, List.length_cons] at hl
  refine Ev.succ ?_
  simp only [Fv.l0]
  refine Ev.pos (len_mid p t x) (Ev.pos (by omega) (Ev.pos (len_mid p t x) ?_))
  refine Ev.pos trivial ?_
  rw [len_next p x (by omega), app_next p t x]
  exact eqStringS_l0 t (p ++ [x]) (by simp; omega)
theorem eqStringS_ev (l : List ByteArray) (hl : l.length ≤ 9223372036854775806) : Ev (fun k => Fv.f k l l) true := by
 unfold Fv.f
 exact Ev.pos rfl (eqStringS_l0 l [] hl)

theorem markText_l0 : ∀ (n : Nat) (x : Int) (s : ByteArray), x.toNat ≤ n → s.size + x.toNat ≤ 4611686018427387904 → ∃ t, Ev (fun k => FB.l0 k x s) t
 | n, x, s, hn, hs => by
  by_cases h : x > 0
  ·match n, hn with
   | 0, hn => omega
   | n + 1, hn =>
    have e : Int.tdiv x 10 = x / 10 := Int.tdiv_eq_ediv_of_nonneg (by omega)
    have hsz : (strOfNums [(wrap64 (48 + (Int.tmod x 10))) % 256]).size = 1 := by rw [str_size]; rfl
    obtain ⟨t, ht⟩ := markText_l0 n (x / 10) (strOfNums [(wrap64 (48 + (Int.tmod x 10))) % 256] ++ s) (by omega) (by
     rw [ByteArray.size_append, hsz]; omega)
    refine ⟨t, Ev.succ ?_⟩
    simp only [FB.l0]
    refine Ev.pos h (Ev.bind0 rfl (Ev.pos (by rw [hsz]; omega) ?_))
    rw [e, wrap_id (x := x / 10) (by omega) (by omega)]
    exact ht
  ·refine ⟨(⟨#[109]⟩ : ByteArray) ++ s, Ev.succ ?_⟩
   ·simp only [FB.l0]
    exact Ev.neg h (Ev.pos (by omega) (Ev.now _))
theorem markText_ev (n : Int) (hn : n ≤ 4611686018427387904) : ∃ t, Ev (fun k => FB.f k n) t := by
 unfold FB.f
 by_cases h : n ≤ 0
 ·exact ⟨_, Ev.pos h (Ev.now _)⟩
 ·obtain ⟨t, ht⟩ := markText_l0 n.toNat n ⟨#[]⟩ (Nat.le_refl _) (by show 0 + n.toNat ≤ _; omega)
  exact ⟨t, Ev.neg h ht⟩
/-- The list is marked from a on. -/
def MarkedS : Int → List ByteArray → Prop
 | _, [] => True
 | a, s :: l => Ev (fun k => FB.f k a) s ∧ MarkedS (a + 1) l
theorem markStringS_l0 : ∀ (t p : List ByteArray) (a : Int), 0 ≤ a → a + t.length ≤ 1000000000 → (p ++ t).length ≤ 1000000000 →
  ∃ t', Ev (fun k => Fm.l0 k (p ++ t) a (p.length : Int)) (a + t.length, p ++ t') ∧ MarkedS a t' ∧ t'.length = t.length
 | [], p, a, h0, ha, hl => by
  refine ⟨[], Ev.succ ?_, trivial, rfl⟩
  simp only [Fm.l0]
  exact Ev.neg (len_end p) (Ev.val (by simp))
 | x :: t, p, a, h0, ha, hl => by
  rw [List.length_append, List.length_cons] at hl
  rw [List.length_cons] at ha
  obtain ⟨s, hs⟩ := markText_ev a (by omega)
  obtain ⟨t', h1, h2, h3⟩ := markStringS_l0 t (p ++ [s]) (a + 1) (by omega) (by omega) (by simp; omega)
  refine ⟨s :: t', Ev.succ ?_, ⟨hs, h2⟩, by simp [h3]⟩
  simp only [Fm.l0]
  refine Ev.pos (len_mid p t x) (Ev.bind hs (Ev.pos (by omega) ?_))
  rw [set_mid, wrap_id (x := a + 1) (by omega) (by omega), len_next p s (by omega), app_next p t s]
  rw [show (a + ((x :: t).length : Int), p ++ s :: t') = (a + 1 + (t.length : Int), p ++ [s] ++ t') by simp; omega]
  exact h1
theorem rdI_mid (p t : List S59) (x : S59) : rd_T59 (p ++ x :: t) (p.length : Int) = x := by
 unfold rd_T59; rw [Int.toNat_natCast, List.getD_eq_getElem?_getD, List.getElem?_append_right (Nat.le_refl _), Nat.sub_self]; rfl
theorem eqTurnS_l0 : ∀ (t p : List S59), (p ++ t).length ≤ 9223372036854775806 → Ev (fun k => Fh.l0 k (p ++ t) (p ++ t) (p.length : Int)) true
 | [], p, hl => by
  refine Ev.succ ?_
  simp only [Fh.l0]
  exact Ev.neg (len_end p) (Ev.now _)
 | x :: t, p, hl => by
  rw [List.length_append, List.length_cons] at hl
  refine Ev.succ ?_
  simp only [Fh.l0]
  refine Ev.pos (len_mid p t x) (Ev.pos (by omega) (Ev.pos (len_mid p t x) ?_))
  rw [rdI_mid]
  refine Ev.bind0 (a := true) (by unfold Gd.f; rw [if_pos rfl, if_pos rfl]) (Ev.pos rfl ?_)
  rw [len_next p x (by omega), app_next p t x]
  exact eqTurnS_l0 t (p ++ [x]) (by simp; omega)
theorem eqTurnS_ev (l : List S59) (hl : l.length ≤ 9223372036854775806) : Ev (fun k => Fh.f k l l) true := by
 unfold Fh.f
 exact Ev.pos rfl (eqTurnS_l0 l [] hl)
/-- One neighbour looked at. -/
def see {α : Type} (nm : α → Int) (f : Int) (st : List Int × List α) (v : α) : List Int × List α :=
 if rd st.1 (nm v) < 0 then (st.1.set (nm v).toNat (f + 1), st.2 ++ [v]) else st
def bfs {α : Type} (nm : α → Int) (nb : α → List α) : Nat → List Int → List α → List Int
 | 0, far, _ => far
 | _ + 1, far, [] => far
 | n + 1, far, u :: q => bfs nm nb n ((nb u).foldl (see nm (rd far (nm u))) (far, q)).1 ((nb u).foldl (see nm (rd far (nm u))) (far, q)).2
/-- How many nodes are not met. -/
def negs (far : List Int) : Nat := far.countP (fun x => decide (x < 0))
theorem negs_cons (x : Int) (far : List Int) : negs (x :: far) = negs far + if x < 0 then 1 else 0 := by simp [negs, List.countP_cons]
theorem negs_set : ∀ (far : List Int) (i : Nat) (y : Int), i < far.length → far.getD i 0 < 0 → 0 ≤ y → negs (far.set i y) + 1 = negs far
 | [], i, y, h, _, _ => by cases h
 | x :: far, 0, y, _, h, hy => by
  have h : x < 0 := h
  rw [List.set_cons_zero, negs_cons, negs_cons, if_pos h, if_neg (by omega)]
 | x :: far, i + 1, y, hi, h, hy => by
  have := negs_set far i y (by simpa using hi) (by simpa using h) hy
  rw [List.set_cons_succ, negs_cons, negs_cons]
  omega
theorem negs_rep (n : Nat) : negs (List.replicate n (-1)) = n := by
 induction n with
 | zero => rfl
 | succ n ih => rw [List.replicate_succ, negs_cons, ih]; rfl
theorem rd_mem {l : List Int} {i : Int} (h0 : 0 ≤ i) (h1 : i < l.length) : rd l i ∈ l := by
 unfold rd
 rw [List.getD_eq_getElem?_getD, List.getElem?_eq_getElem (show i.toNat < l.length by omega)]
 exact List.getElem_mem _
/-- What holds of the table and the queue at each step; C: what nodes there are. -/
structure BI {α : Type} (N : Nat) (C : α → Prop) (far : List Int) (q : List α) : Prop where
 len : far.length = N
 que : ∀ u ∈ q, C u
 ge : ∀ x ∈ far, -1 ≤ x
 bnd : ∀ x ∈ far, x + negs far ≤ N
theorem see_BI {α : Type} {N : Nat} {C : α → Prop} {nm : α → Int} (hC : ∀ u, C u → 0 ≤ nm u ∧ nm u < N) {far : List Int} {q : List α} (h : BI N C far q) {f : Int} {v : α} (hv : C v) (h0 : -1 ≤ f) (h1 : f + negs far ≤ N) :
  BI N C (see nm f (far, q) v).1 (see nm f (far, q) v).2 ∧ (see nm f (far, q) v).2.length + negs (see nm f (far, q) v).1 = q.length + negs far ∧ negs (see nm f (far, q) v).1 ≤ negs far := by
 unfold see
 obtain ⟨b1, b2⟩ := hC v hv
 by_cases hn : rd far (nm v) < 0
 ·rw [if_pos hn]
  have hs := negs_set far (nm v).toNat (f + 1) (by have := h.len; omega) hn (by omega)
  refine ⟨⟨by simpa using h.len, ?_, ?_, ?_⟩, by simp; omega, by show negs (far.set _ _) ≤ _; omega⟩
  ·intro u hu
   rcases List.mem_append.1 hu with hu | hu
   ·exact h.que u hu
   ·rw [List.mem_singleton.1 hu]; exact hv
  ·intro x hx
   rcases List.mem_or_eq_of_mem_set hx with hx | rfl
   ·exact h.ge x hx
   ·omega
  ·intro x hx
   show x + (negs (far.set _ _) : Int) ≤ N
   rcases List.mem_or_eq_of_mem_set hx with hx | rfl
   ·have := h.bnd x hx; omega
   ·omega
 ·rw [if_neg hn]
  exact ⟨h, rfl, Nat.le_refl _⟩
theorem fold_BI {α : Type} {N : Nat} {C : α → Prop} {nm : α → Int} (hC : ∀ u, C u → 0 ≤ nm u ∧ nm u < N) {f : Int} (h0 : -1 ≤ f) : ∀ (vs : List α) (far : List Int) (q : List α), BI N C far q → (∀ v ∈ vs, C v) → f + negs far ≤ N →
  BI N C (vs.foldl (see nm f) (far, q)).1 (vs.foldl (see nm f) (far, q)).2 ∧ (vs.foldl (see nm f) (far, q)).2.length + negs (vs.foldl (see nm f) (far, q)).1 = q.length + negs far ∧ negs (vs.foldl (see nm f) (far, q)).1 ≤ negs far
 | [], far, q, h, _, _ => ⟨h, rfl, Nat.le_refl _⟩
 | v :: vs, far, q, h, hv, h1 => by
  obtain ⟨a, b, c⟩ := see_BI hC h (hv v (List.mem_cons_self ..)) h0 h1
  obtain ⟨a', b', c'⟩ := fold_BI hC h0 vs (see nm f (far, q) v).1 (see nm f (far, q) v).2 a (fun x hx => hv x (List.mem_cons_of_mem _ hx)) (by omega)
  exact ⟨a', b'.trans b, Nat.le_trans c' c⟩
theorem BI_pop {α : Type} {N : Nat} {C : α → Prop} {far : List Int} {u : α} {q : List α} (h : BI N C far (u :: q)) : BI N C far q := ⟨h.len, fun x hx => h.que x (List.mem_cons_of_mem _ hx), h.ge, h.bnd⟩
theorem BI_rd {α : Type} {N : Nat} {C : α → Prop} {far : List Int} {q : List α} (h : BI N C far q) {i : Int} (h0 : 0 ≤ i) (h1 : i < N) : -1 ≤ rd far i ∧ rd far i + negs far ≤ N :=
 have hm := rd_mem (l := far) h0 (by rw [h.len]; exact h1)
 ⟨h.ge _ hm, h.bnd _ hm⟩
/-- The table is as long as before, and nothing is below -1. -/
theorem bfs_BI {α : Type} {N : Nat} {C : α → Prop} {nm : α → Int} {nb : α → List α} (hC : ∀ u, C u → 0 ≤ nm u ∧ nm u < N) (hnb : ∀ u, C u → ∀ v ∈ nb u, C v) : ∀ (n : Nat) (far : List Int) (q : List α), BI N C far q → BI N C (bfs nm nb n far q) []
 | 0, far, q, h => ⟨h.len, fun _ hu => (by cases hu), h.ge, h.bnd⟩
 | n + 1, far, [], h => h
 | n + 1, far, u :: q, h => by
  have hu := h.que u (List.mem_cons_self ..)
  obtain ⟨b1, b2⟩ := hC u hu
  obtain ⟨c1, c2⟩ := BI_rd h b1 b2
  obtain ⟨a, b, c⟩ := fold_BI hC (f := rd far (nm u)) c1 (nb u) far q (BI_pop h) (hnb u hu) c2
  exact bfs_BI hC hnb n _ _ a
theorem start_BI {α : Type} {N : Nat} {C : α → Prop} {nm : α → Int} (hC : ∀ u, C u → 0 ≤ nm u ∧ nm u < N) {u : α} (hu : C u) : BI N C ((List.replicate N (-1)).set (nm u).toNat 0) [u] ∧ [u].length + negs ((List.replicate N (-1)).set (nm u).toNat 0) = N := by
 obtain ⟨b1, b2⟩ := hC u hu
 have hs := negs_set (List.replicate N (-1)) (nm u).toNat 0 (by simp; omega) (by rw [List.getD_eq_getElem?_getD, List.getElem?_replicate, if_pos (by omega)]; decide) (Int.le_refl 0)
 rw [negs_rep] at hs
 refine ⟨⟨by simp, fun x hx => by rw [List.mem_singleton.1 hx]; exact hu, ?_, ?_⟩, by simp; omega⟩
 ·intro x hx
  rcases List.mem_or_eq_of_mem_set hx with hx | rfl
  ·rw [(List.mem_replicate.1 hx).2]; omega
  ·omega
 ·intro x hx
  rcases List.mem_or_eq_of_mem_set hx with hx | rfl
  ·rw [(List.mem_replicate.1 hx).2]; omega
  ·omega
theorem rd_set_self {l : List Int} {i x : Int} (h0 : 0 ≤ i) (h1 : i < l.length) : rd (l.set i.toNat x) i = x := by
 unfold rd
 rw [List.getD_eq_getElem?_getD, List.getElem?_set_self (by omega)]; rfl
theorem rd_set {l : List Int} {i j x : Int} (h0 : 0 ≤ i) (h1 : i < l.length) (h2 : 0 ≤ j) : rd (l.set i.toNat x) j = if i = j then x else rd l j := by
 unfold rd
 rw [List.getD_eq_getElem?_getD, List.getElem?_set]
 by_cases h : i = j
 ·rw [if_pos (by omega), if_pos (by omega), if_pos h]; rfl
 ·rw [if_neg (by omega), if_neg h, ← List.getD_eq_getElem?_getD]
/-- What the looking at a list of neighbours does to the table and the queue. -/
structure Fold {α : Type} (nm : α → Int) (f : Int) (vs : List α) (far : List Int) (q : List α) (far' : List Int) (q' : List α) : Prop where
 keep : ∀ i, 0 ≤ i → 0 ≤ rd far i → rd far' i = rd far i
 new : ∀ i, 0 ≤ i → rd far' i = rd far i ∨ (rd far i < 0 ∧ rd far' i = f + 1 ∧ ∃ v ∈ vs, nm v = i ∧ v ∈ q')
 all : ∀ v ∈ vs, 0 ≤ rd far' (nm v)
 que : ∃ ns, q' = q ++ ns ∧ ∀ a ∈ ns, a ∈ vs ∧ rd far' (nm a) = f + 1
theorem fold_is {α : Type} {N : Nat} {C : α → Prop} {nm : α → Int} (hC : ∀ u, C u → 0 ≤ nm u ∧ nm u < N) {f : Int} (h0 : 0 ≤ f) : ∀ (vs : List α) (far : List Int) (q : List α), (∀ v ∈ vs, C v) → far.length = N →
  Fold nm f vs far q (vs.foldl (see nm f) (far, q)).1 (vs.foldl (see nm f) (far, q)).2
 | [], far, q, _, _ => ⟨fun _ _ _ => rfl, fun _ _ => Or.inl rfl, fun _ h => (by cases h), [], (List.append_nil _).symm, fun _ h => (by cases h)⟩
 | v :: vs, far, q, hv, hl => by
  obtain ⟨b1, b2⟩ := hC v (hv v (List.mem_cons_self ..))
  rw [List.foldl_cons]
  by_cases hs : rd far (nm v) < 0
  ·have e : see nm f (far, q) v = (far.set (nm v).toNat (f + 1), q ++ [v]) := by unfold see; rw [if_pos hs]
   rw [e]
   have ih := fold_is hC h0 vs (far.set (nm v).toNat (f + 1)) (q ++ [v]) (fun x hx => hv x (List.mem_cons_of_mem _ hx)) (by simpa using hl)
   have hset : ∀ j, 0 ≤ j → rd (far.set (nm v).toNat (f + 1)) j = if nm v = j then f + 1 else rd far j := fun j hj => rd_set b1 (by omega) hj
   obtain ⟨k1, k2, k3, ns, k4, k5⟩ := ih
   have hvv : rd (vs.foldl (see nm f) (far.set (nm v).toNat (f + 1), q ++ [v])).1 (nm v) = f + 1 := by
    have := hset (nm v) b1
    rw [if_pos rfl] at this
    rw [k1 (nm v) b1 (by omega), this]
   refine ⟨fun i hi hr => ?_, fun i hi => ?_, fun x hx => ?_, v :: ns, by rw [k4]; simp, fun a ha => ?_⟩
   ·have := hset i hi
    rw [if_neg (by intro hh; rw [hh] at hs; omega)] at this
    rw [k1 i hi (by omega), this]
   ·have := hset i hi
    by_cases hi2 : nm v = i
    ·right
     refine ⟨by rw [← hi2]; exact hs, by rw [← hi2]; exact hvv, v, List.mem_cons_self .., hi2, by rw [k4]; simp⟩
    ·rw [if_neg hi2] at this
     rcases k2 i hi with hh | ⟨h1, h2, x, h3, h4, h5⟩
     ·left; rw [hh, this]
     ·right; exact ⟨by omega, h2, x, List.mem_cons_of_mem _ h3, h4, h5⟩
   ·rcases List.mem_cons.1 hx with rfl | hx
    ·rw [hvv]; omega
    ·exact k3 x hx
   ·rcases List.mem_cons.1 ha with rfl | ha
    ·exact ⟨List.mem_cons_self .., hvv⟩
    ·exact ⟨List.mem_cons_of_mem _ (k5 a ha).1, (k5 a ha).2⟩
  ·have e : see nm f (far, q) v = (far, q) := by unfold see; rw [if_neg hs]
   rw [e]
   obtain ⟨k1, k2, k3, ns, k4, k5⟩ := fold_is hC h0 vs far q (fun x hx => hv x (List.mem_cons_of_mem _ hx)) hl
   refine ⟨k1, fun i hi => ?_, fun x hx => ?_, ns, k4, fun a ha => ⟨List.mem_cons_of_mem _ (k5 a ha).1, (k5 a ha).2⟩⟩
   ·rcases k2 i hi with hh | ⟨h1, h2, x, h3, h4, h5⟩
    ·exact Or.inl hh
    ·exact Or.inr ⟨h1, h2, x, List.mem_cons_of_mem _ h3, h4, h5⟩
   ·rcases List.mem_cons.1 hx with rfl | hx
    ·rw [k1 _ b1 (by omega)]; omega
    ·exact k3 x hx
/-- What holds at each step. -/
structure BJ {α : Type} (C : α → Prop) (nm : α → Int) (nb : α → List α) (src : α) (far : List Int) (q : List α) : Prop where
 cq : ∀ a ∈ q, C a ∧ 0 ≤ rd far (nm a)
 so : q.Pairwise (fun a b => rd far (nm a) ≤ rd far (nm b))
 top : ∀ v, C v → ∀ a ∈ q, rd far (nm v) ≤ rd far (nm a) + 1
 clo : ∀ x, C x → 0 ≤ rd far (nm x) → x ∉ q → ∀ v ∈ nb x, 0 ≤ rd far (nm v) ∧ rd far (nm v) ≤ rd far (nm x) + 1
 prd : ∀ v, C v → 0 < rd far (nm v) → ∃ u, C u ∧ rd far (nm u) = rd far (nm v) - 1 ∧ v ∈ nb u
 zer : ∀ v, C v → rd far (nm v) = 0 → v = src
 src0 : rd far (nm src) = 0
theorem BJ_step {α : Type} {N : Nat} {C : α → Prop} {nm : α → Int} {nb : α → List α} (hC : ∀ u, C u → 0 ≤ nm u ∧ nm u < N) (hinj : ∀ u v, C u → C v → nm u = nm v → u = v) (hnb : ∀ u, C u → ∀ v ∈ nb u, C v) {src : α} (hsrc : C src) {far : List Int} {u : α} {q : List α} (hl : far.length = N)
  (h : BJ C nm nb src far (u :: q)) : BJ C nm nb src ((nb u).foldl (see nm (rd far (nm u))) (far, q)).1 ((nb u).foldl (see nm (rd far (nm u))) (far, q)).2 := by
 obtain ⟨hu, hu0⟩ := h.cq u (List.mem_cons_self ..)
 obtain ⟨k1, k2, k3, ns, k4, k5⟩ := fold_is hC hu0 (nb u) far q (hnb u hu) hl
 generalize ((nb u).foldl (see nm (rd far (nm u))) (far, q)).1 = far' at k1 k2 k3 k4 k5 ⊢
 generalize ((nb u).foldl (see nm (rd far (nm u))) (far, q)).2 = q' at k2 k4 ⊢
 subst k4
 have hso := List.pairwise_cons.1 h.so
 have le1 : ∀ v, C v → rd far' (nm v) ≤ rd far (nm u) + 1 := fun v hv => by
  rcases k2 (nm v) (hC v hv).1 with hh | ⟨_, hh, _⟩
  ·rw [hh]; exact h.top v hv u (List.mem_cons_self ..)
  ·omega
 have kq : ∀ a ∈ q, rd far' (nm a) = rd far (nm a) := fun a ha => by
  obtain ⟨c1, c2⟩ := h.cq a (List.mem_cons_of_mem _ ha)
  exact k1 _ (hC a c1).1 c2
 have ku : rd far' (nm u) = rd far (nm u) := k1 _ (hC u hu).1 hu0
 refine ⟨fun a ha => ?_, ?_, fun v hv a ha => ?_, fun x hx hx0 hxq v hv => ?_, fun v hv hv0 => ?_, fun v hv hv0 => ?_, ?_⟩
 ·rcases List.mem_append.1 ha with ha | ha
  ·obtain ⟨c1, c2⟩ := h.cq a (List.mem_cons_of_mem _ ha)
   exact ⟨c1, by rw [kq a ha]; exact c2⟩
  ·exact ⟨hnb u hu a (k5 a ha).1, by rw [(k5 a ha).2]; omega⟩
 ·rw [List.pairwise_append]
  refine ⟨hso.2.imp_of_mem (fun {a b} ha hb hab => by rw [kq a ha, kq b hb]; exact hab), ?_, fun a ha b hb => ?_⟩
  ·rw [List.pairwise_iff_forall_sublist]
   intro a b hab
   have ha : a ∈ ns := hab.subset (by simp)
   have hb : b ∈ ns := hab.subset (by simp)
   rw [(k5 a ha).2, (k5 b hb).2]; exact Int.le_refl _
  ·rw [(k5 b hb).2]
   exact le1 a (h.cq a (List.mem_cons_of_mem _ ha)).1
 ·have hle := le1 v hv
  rcases List.mem_append.1 ha with ha | ha
  ·have := hso.1 a ha
   rw [kq a ha]
   rcases k2 (nm v) (hC v hv).1 with hh | ⟨_, hh, _⟩
   ·rw [hh]; exact h.top v hv a (List.mem_cons_of_mem _ ha)
   ·omega
  ·rw [(k5 a ha).2]; omega
 ·have hxold : rd far' (nm x) = rd far (nm x) := by
   rcases k2 (nm x) (hC x hx).1 with hh | ⟨_, _, y, hy, hy2, hy3⟩
   ·exact hh
   ·rw [hinj y x (hnb u hu y hy) hx hy2] at hy3
    exact absurd hy3 hxq
  rw [hxold] at hx0 ⊢
  by_cases hxu : x = u
  ·subst hxu
   exact ⟨k3 v hv, le1 v (hnb x hx v hv)⟩
  ·have hxn : x ∉ u :: q := fun hm => by
    rcases List.mem_cons.1 hm with hm | hm
    ·exact hxu hm
    ·exact hxq (List.mem_append.2 (Or.inl hm))
   obtain ⟨c1, c2⟩ := h.clo x hx hx0 hxn v hv
   rw [k1 _ (hC v (hnb x hx v hv)).1 c1]
   exact ⟨c1, c2⟩
 ·rcases k2 (nm v) (hC v hv).1 with hh | ⟨_, hh, y, hy, hy2, _⟩
  ·rw [hh] at hv0 ⊢
   obtain ⟨x, x1, x2, x3⟩ := h.prd v hv hv0
   exact ⟨x, x1, by rw [k1 _ (hC x x1).1 (by omega)]; exact x2, x3⟩
  ·rw [hh]
   refine ⟨u, hu, by rw [ku]; omega, ?_⟩
   rw [← hinj y v (hnb u hu y hy) hv hy2]; exact hy
 ·rcases k2 (nm v) (hC v hv).1 with hh | ⟨_, hh, _⟩
  ·rw [hh] at hv0; exact h.zer v hv hv0
  ·omega
 ·rw [k1 _ (hC src hsrc).1 (by rw [h.src0]; exact Int.le_refl 0)]; exact h.src0
theorem bfs_BJ {α : Type} {N : Nat} {C : α → Prop} {nm : α → Int} {nb : α → List α} (hC : ∀ u, C u → 0 ≤ nm u ∧ nm u < N) (hinj : ∀ u v, C u → C v → nm u = nm v → u = v) (hnb : ∀ u, C u → ∀ v ∈ nb u, C v) {src : α} (hsrc : C src) : ∀ (n : Nat) (far : List Int) (q : List α), BI N C far q → BJ C nm nb src far q → q.length + negs far ≤ n →
  BJ C nm nb src (bfs nm nb n far q) []
 | 0, far, [], _, h, _ => h
 | 0, far, u :: q, _, _, hn => by simp at hn
 | n + 1, far, [], _, h, _ => h
 | n + 1, far, u :: q, hb, h, hn => by
  have hu := hb.que u (List.mem_cons_self ..)
  obtain ⟨b1, b2⟩ := hC u hu
  obtain ⟨c1, c2⟩ := BI_rd hb b1 b2
  obtain ⟨s1, s2, s3⟩ := fold_BI hC c1 (nb u) far q (BI_pop hb) (hnb u hu) c2
  exact bfs_BJ hC hinj hnb hsrc n _ _ s1 (BJ_step hC hinj hnb hsrc hb.len h) (by simp at hn; omega)
theorem rd_rep {N : Nat} {i : Int} (h0 : 0 ≤ i) (h1 : i < N) : rd (List.replicate N (-1)) i = -1 := by
 unfold rd
 rw [List.getD_eq_getElem?_getD, List.getElem?_replicate, if_pos (by omega)]; rfl
theorem start_BJ {α : Type} {N : Nat} {C : α → Prop} {nm : α → Int} {nb : α → List α} (hC : ∀ u, C u → 0 ≤ nm u ∧ nm u < N) (hinj : ∀ u v, C u → C v → nm u = nm v → u = v) {src : α} (hsrc : C src) : BJ C nm nb src ((List.replicate N (-1)).set (nm src).toNat 0) [src] := by
 obtain ⟨b1, b2⟩ := hC src hsrc
 have hr : ∀ v, C v → rd ((List.replicate N (-1)).set (nm src).toNat 0) (nm v) = if nm src = nm v then 0 else -1 := fun v hv => by
  rw [rd_set b1 (by simpa using b2) (hC v hv).1, rd_rep (hC v hv).1 (hC v hv).2]
 have h0 : rd ((List.replicate N (-1)).set (nm src).toNat 0) (nm src) = 0 := by rw [hr src hsrc, if_pos rfl]
 refine ⟨fun a ha => ?_, by simp, fun v hv a ha => ?_, fun x hx hx0 hxq => ?_, fun v hv hv0 => ?_, fun v hv hv0 => ?_, h0⟩
 ·rw [List.mem_singleton.1 ha]; exact ⟨hsrc, by omega⟩
 ·rw [List.mem_singleton.1 ha, h0, hr v hv]; split <;> omega
 ·rw [hr x hx] at hx0
  split at hx0
  ·rename_i hh; exact absurd (hinj x src hx hsrc hh.symm) (fun e => hxq (by rw [e]; simp))
  ·omega
 ·rw [hr v hv] at hv0; split at hv0 <;> omega
 ·rw [hr v hv] at hv0
  split at hv0
  ·rename_i hh; exact hinj v src hv hsrc hh.symm
  ·omega
def kC (W D : Int) (ds : List Int) : Prop := Ok D ds ∧ (ds.length : Int) = W
theorem kC_num {W D : Int} (hD : 2 ≤ D) : ∀ u, kC W D u → 0 ≤ num D u ∧ num D u < ((pw D W.toNat).toNat : Int) := fun u hu => by
 obtain ⟨a, b⟩ := num_bound (show 0 < D by omega) hu.1
 have e : u.length = W.toNat := by have := hu.2; omega
 rw [e] at b
 exact ⟨a, by omega⟩
theorem kC_inj {W D : Int} (hD : 2 ≤ D) : ∀ u v, kC W D u → kC W D v → num D u = num D v → u = v := fun u v hu hv e => num_inj (by omega) hu.1 hv.1 (by have := hu.2; have := hv.2; omega) e
theorem markS1_ev (l : List ByteArray) (hl : l.length ≤ 100000000) : ∃ l', Ev (fun k => Fm.f k l 1) (1 + l.length, l') := by
 obtain ⟨l', h1, h2, h3⟩ := markStringS_l0 l [] 1 (by omega) (by omega) (by simp; omega)
 exact ⟨l', by unfold Fm.f; exact h1⟩
/-- Whether a text is one of a list. -/
def inD (l : List ByteArray) (s : ByteArray) : Bool := l.any fun x => decide (x.toList = s.toList)
theorem inD_iff {l : List ByteArray} {s : ByteArray} : inD l s = true ↔ s ∈ l := by
 unfold inD
 rw [List.any_eq_true]
 constructor
 ·rintro ⟨x, hx, h⟩
  rw [decide_eq_true_eq, toList_inj] at h
  exact h ▸ hx
 ·intro h
  exact ⟨s, h, by rw [decide_eq_true_eq]⟩
theorem inD_cons (x : ByteArray) (t : List ByteArray) (s : ByteArray) : inD (x :: t) s = (decide (x.toList = s.toList) || inD t s) := rfl
theorem hasS_l0 {s : ByteArray} : ∀ (t p : List ByteArray), (p ++ t).length ≤ 1048576 → Ev (fun k => Fn.l0 k s (p ++ t) ((p ++ t).length : Int) (p.length : Int)) (inD t s)
 | [], p, _ => by
  refine Ev.succ ?_
  simp only [Fn.l0]
  exact Ev.neg (len_end p) (Ev.now _)
 | x :: t, p, hl => by
  refine Ev.succ ?_
  simp only [Fn.l0]
  refine Ev.pos (len_mid p t x) (Ev.pos (by omega) (Ev.pos (len_mid p t x) ?_))
  rw [rdOf_mid]
  by_cases h : x.toList = s.toList
  ·exact Ev.pos h (Ev.val (by simp [inD, h]))
  ·rw [len_next p x (by simp at hl; omega), app_next p t x] at *
   refine Ev.neg h ?_
   rw [show inD (x :: t) s = inD t s by simp [inD, h]]
   exact hasS_l0 t (p ++ [x]) hl
theorem hasS_ev (l : List ByteArray) (s : ByteArray) (hl : l.length ≤ 1048576) : Ev (fun k => Fn.f k l s) (inD l s) := hasS_l0 l [] hl
theorem idxS_l0 {s : ByteArray} : ∀ (t p : List ByteArray), (p ++ t).length ≤ 1048576 → ∃ i : Int, Ev (fun k => Fi.l0 k (p ++ t) s ((p ++ t).length : Int) (p.length : Int)) i ∧ decide (i ≥ 0) = inD t s
 | [], p, _ => by
  refine ⟨-1, Ev.succ ?_, rfl⟩
  simp only [Fi.l0]
  exact Ev.neg (len_end p) (Ev.now _)
 | x :: t, p, hl => by
  by_cases h : s.toList = x.toList
  ·refine ⟨(p.length : Int), Ev.succ ?_, by simp [inD, h]⟩
   simp only [Fi.l0]
   refine Ev.pos (len_mid p t x) (Ev.pos (by omega) (Ev.pos (len_mid p t x) ?_))
   rw [rdOf_mid]
   exact Ev.pos h (Ev.now _)
  ·rw [app_next p t x] at hl
   obtain ⟨i, hi, hi2⟩ := idxS_l0 (s := s) t (p ++ [x]) hl
   refine ⟨i, Ev.succ ?_, by rw [hi2, inD_cons, decide_eq_false (fun e => h e.symm), Bool.false_or]⟩
   simp only [Fi.l0]
   refine Ev.pos (len_mid p t x) (Ev.pos (by omega) (Ev.pos (len_mid p t x) ?_))
   rw [rdOf_mid, len_next p x (by simp at hl; omega), app_next p t x]
   exact Ev.neg h hi
theorem contains_ev (l : List ByteArray) (s : ByteArray) (hl : l.length ≤ 1048576) : Ev (fun k => FF.f k l s) (inD l s) := by
 obtain ⟨i, hi, hi2⟩ := idxS_l0 (s := s) l [] hl
 unfold FF.f
 exact Ev.bind hi (Ev.val hi2)
theorem live_l0 {l1 : List ByteArray} (h1 : l1.length ≤ 1048576) : ∀ (t p : List ByteArray), (p ++ t).length ≤ 1048576 → Ev (fun k => Ft.l0 k l1 (p ++ t) (p.length : Int)) (t.any (inD l1))
 | [], p, _ => by
  refine Ev.succ ?_
  simp only [Ft.l0]
  exact Ev.neg (len_end p) (Ev.now _)
 | x :: t, p, hl => by
  refine Ev.succ ?_
  simp only [Ft.l0]
  refine Ev.pos (len_mid p t x) (Ev.pos (by omega) ?_)
  rw [rdOf_mid]
  refine Ev.bind (contains_ev l1 x h1) ?_
  by_cases h : inD l1 x = true
  ·rw [h]; exact Ev.pos rfl (Ev.val (by simp [h]))
  ·have hf := Bool.eq_false_iff.2 h
   rw [hf, List.any_cons, hf, Bool.false_or, len_next p x (by simp at hl; omega)]
   rw [app_next p t x] at hl ⊢
   refine Ev.neg (by simp) ?_
   exact live_l0 h1 t (p ++ [x]) hl
/-- Dead codes, and others that live. -/
def liveM (W D : Int) (dead codes : List ByteArray) : Bool := (small W D 1000 && deadM W D dead) && (codes.all (isC W D) && !(codes.any (inD dead)))
theorem areLive_ev (W D : Int) (dead codes : List ByteArray) (hl : dead.length ≤ 1048576) (hs : ∀ s ∈ dead, s.size ≤ 1048576) (hl2 : codes.length ≤ 1048576) (hs2 : ∀ s ∈ codes, s.size ≤ 1048576) : Ev (fun k => Ft.f k W D dead codes) (liveM W D dead codes) := by
 unfold Ft.f liveM
 refine Ev.bind (areDead_ev W D dead hl hs) ?_
 by_cases h : (small W D 1000 && deadM W D dead) = true
 ·have hg : good W D = true := by
   have := (Bool.and_eq_true_iff.1 h).1
   unfold small at this
   exact (Bool.and_eq_true_iff.1 this).1
  rw [h, Bool.true_and]
  refine Ev.pos rfl (Ev.bind (has_ev W D codes hs2 hl2) ?_)
  rw [hg, Bool.true_and]
  by_cases h2 : codes.all (isC W D) = true
  ·rw [h2, Bool.true_and]
   exact Ev.pos rfl (Ev.bind (live_l0 hl codes [] hl2) (Ev.now _))
  ·rw [Bool.eq_false_iff.2 h2, Bool.false_and]
   exact Ev.neg (by simp) (Ev.now _)
 ·rw [Bool.eq_false_iff.2 h, Bool.false_and]
  exact Ev.neg (by simp) (Ev.now _)
theorem deAsked_ev (W D : Int) (dead : List ByteArray) (s : ByteArray) (hl : dead.length ≤ 1048576) (hs : ∀ s ∈ dead, s.size ≤ 1048576) (hs2 : s.size ≤ 1048576) : Ev (fun k => FN.f k W D dead s) (liveM W D dead [s]) := by
 unfold FN.f liveM
 refine Ev.bind (deSmall_ev W D) ?_
 by_cases h : small W D 1000 = true
 ·have hg : good W D = true := by
   unfold small at h
   exact (Bool.and_eq_true_iff.1 h).1
  rw [h, Bool.true_and]
  refine Ev.pos rfl (Ev.bind (deList_ev hg dead hl hs) ?_)
  by_cases h2 : deadM W D dead = true
  ·rw [h2, Bool.true_and]
   refine Ev.pos rfl (Ev.bind (whCode_ev hg s hs2) ?_)
   by_cases h3 : isC W D s = true
   ·rw [h3]
    refine Ev.pos rfl (Ev.bind (hasS_ev dead s hl) (Ev.val ?_))
    simp [h3]
   ·rw [Bool.eq_false_iff.2 h3]
    exact Ev.neg (by simp) (Ev.val (by simp [Bool.eq_false_iff.2 h3]))
  ·rw [Bool.eq_false_iff.2 h2, Bool.false_and]
   exact Ev.neg (by simp) (Ev.now _)
 ·rw [Bool.eq_false_iff.2 h, Bool.false_and, Bool.false_and]
  exact Ev.neg (by simp) (Ev.now _)
theorem live_two (W D : Int) (dead : List ByteArray) (s t : ByteArray) : liveM W D dead [s, t] = (liveM W D dead [s] && liveM W D dead [t]) := by
 unfold liveM
 simp only [List.all_cons, List.all_nil, List.any_cons, List.any_nil, Bool.and_true, Bool.or_false]
 cases small W D 1000 <;> cases deadM W D dead <;> cases isC W D s <;> cases isC W D t <;> cases inD dead s <;> cases inD dead t <;> rfl
theorem deTwo_ev (W D : Int) (dead : List ByteArray) (s t : ByteArray) (hl : dead.length ≤ 1048576) (hs : ∀ s ∈ dead, s.size ≤ 1048576) (hs2 : s.size ≤ 1048576) (ht2 : t.size ≤ 1048576) : Ev (fun k => FY.f k W D dead s t) (liveM W D dead [s, t]) := by
 unfold FY.f
 rw [live_two]
 refine Ev.bind (deAsked_ev W D dead s hl hs hs2) ?_
 by_cases h : liveM W D dead [s] = true
 ·rw [h, Bool.true_and]
  exact Ev.pos rfl (Ev.bind (deAsked_ev W D dead t hl hs ht2) (Ev.now _))
 ·rw [Bool.eq_false_iff.2 h, Bool.false_and]
  exact Ev.neg (by simp) (Ev.now _)
theorem live_of {W D : Int} {dead : List ByteArray} {s : ByteArray} (h : liveM W D dead [s] = true) : (1 ≤ W ∧ W ≤ 6 ∧ 2 ≤ D ∧ D ≤ 10) ∧ pw D W.toNat ≤ 1000 ∧ deadM W D dead = true ∧ isC W D s = true ∧ s ∉ dead := by
 unfold liveM small at h
 simp only [Bool.and_eq_true, decide_eq_true_eq, List.all_cons, List.all_nil, Bool.and_true, List.any_cons, List.any_nil, Bool.or_false, Bool.not_eq_true'] at h
 obtain ⟨⟨⟨a, b⟩, c⟩, d, e⟩ := h
 refine ⟨good_iff.1 a, b, c, d, fun hm => ?_⟩
 rw [inD_iff.2 hm] at e
 cases e
theorem num_append (D : Int) (a b : List Int) : num D (a ++ b) = num D a * pw D b.length + num D b := by
 induction b using snoc_ind with
 | h0 => simp [num, pw]
 | h1 b x ih =>
  rw [← List.append_assoc, num_snoc, ih, num_snoc, List.length_append, List.length_singleton, pw]
  generalize pw D b.length = P
  generalize num D a = A
  generalize num D b = B
  rw [Int.add_mul, Int.mul_assoc, Int.add_assoc]
theorem num_mid (D : Int) (p t : List Int) (d : Int) : num D (p ++ d :: t) = (num D p * D + d) * pw D t.length + num D t := by
 rw [show p ++ d :: t = (p ++ [d]) ++ t by simp, num_append, num_snoc]
theorem num_change (D : Int) (p t : List Int) (d e : Int) : num D (p ++ d :: t) + (e - d) * pw D t.length = num D (p ++ e :: t) := by
 rw [num_mid, num_mid]
 generalize num D p * D = A
 generalize pw D t.length = P
 rw [Int.sub_mul, Int.add_mul, Int.add_mul]
 omega
theorem num_digit {D : Int} (hD : 2 ≤ D) {p t : List Int} {d : Int} (h : Ok D (p ++ d :: t)) : num D (p ++ d :: t) / pw D t.length % D = d := by
 obtain ⟨h1, h2⟩ := Ok.append.1 h
 obtain ⟨h3, h4⟩ := Ok.cons.1 h2
 obtain ⟨b1, b2⟩ := num_bound (show 0 < D by omega) h4
 have hp := pw_pos (show 0 < D by omega) t.length
 rw [num_mid, Int.add_comm, Int.add_mul_ediv_right _ _ (by omega), Int.ediv_eq_zero_of_lt b1 b2, Int.zero_add, Int.add_comm, Int.add_mul_emod_self_right, Int.emod_eq_of_lt h3.1 h3.2]
/-- The codes one turn away, in the order of the turns. -/
def nbW (D : Int) : List Int → List Int → List (List Int)
 | _, [] => []
 | p, d :: t => (p ++ ((d + 1) % D) :: t) :: (p ++ ((d - 1) % D) :: t) :: nbW D (p ++ [d]) t
theorem nbW_length (D : Int) : ∀ (t p : List Int), (nbW D p t).length = 2 * t.length
 | [], p => rfl
 | d :: t, p => by simp [nbW, nbW_length D t (p ++ [d])]; omega
theorem nbW_kC {W D : Int} (hD : 2 ≤ D) : ∀ (t p : List Int), kC W D (p ++ t) → ∀ v ∈ nbW D p t, kC W D v
 | [], p, _, v, h => by cases h
 | d :: t, p, hk, v, h => by
  have hm : ∀ e : Int, kC W D (p ++ (e % D) :: t) := fun e => by
   obtain ⟨h1, h2⟩ := Ok.append.1 hk.1
   refine ⟨Ok.append.2 ⟨h1, Ok.cons.2 ⟨⟨Int.emod_nonneg _ (by omega), Int.emod_lt_of_pos _ (by omega)⟩, (Ok.cons.1 h2).2⟩⟩, ?_⟩
   have := hk.2
   simp at this ⊢
   exact this
  rcases List.mem_cons.1 h with rfl | h
  ·exact hm _
  rcases List.mem_cons.1 h with rfl | h
  ·exact hm _
  rw [app_next p t d] at hk
  exact nbW_kC hD t (p ++ [d]) hk v h
theorem nbW_turn (D : Int) (p t : List Int) (d b : Int) : turnM D (p ++ d :: t) (p.length : Int) b = p ++ ((d + b) % D) :: t := by
 unfold turnM
 rw [rd_mid, set_mid]
theorem mod_back {D d b : Int} (h0 : 0 ≤ d) (h1 : d < D) : ((d + b) % D - b) % D = d := by
 rw [Int.sub_eq_add_neg, Int.emod_add_emod, Int.add_neg_cancel_right, Int.emod_eq_of_lt h0 h1]
theorem nbW_sym {D : Int} : ∀ (t p q : List Int), Ok D (p ++ t) → ∀ v ∈ nbW D p t, p ++ t ∈ nbW D [] v
 | [], p, q, _, v, h => by cases h
 | d :: t, p, q, hk, v, h => by
  have hd := (Ok.cons.1 (Ok.append.1 hk).2).1
  have key : ∀ (e : Int) (p r : List Int) (x : List Int), (x = r ++ p ++ ((e + 1) % D) :: t ∨ x = r ++ p ++ ((e - 1) % D) :: t) → x ∈ nbW D r (p ++ e :: t) := by
   intro e p
   induction p with
   | nil =>
    intro r x hx
    simp only [List.append_nil, List.nil_append] at hx ⊢
    simp only [nbW]
    rcases hx with rfl | rfl
    ·exact List.mem_cons_self ..
    ·exact List.mem_cons_of_mem _ (List.mem_cons_self ..)
   | cons y p ih =>
    intro r x hx
    simp only [List.cons_append, nbW]
    refine List.mem_cons_of_mem _ (List.mem_cons_of_mem _ (ih (r ++ [y]) x ?_))
    simpa using hx
  rcases List.mem_cons.1 h with rfl | h
  ·refine key ((d + 1) % D) p [] _ (Or.inr ?_)
   rw [mod_back hd.1 hd.2]; rfl
  rcases List.mem_cons.1 h with rfl | h
  ·refine key ((d - 1) % D) p [] _ (Or.inl ?_)
   have := mod_back (b := -1) hd.1 hd.2
   rw [show (d + -1) % D - -1 = (d - 1) % D + 1 by rw [Int.sub_neg]; rfl] at this
   rw [this]; rfl
  have := nbW_sym t (p ++ [d]) q (by rw [← app_next]; exact hk) v h
  rwa [← app_next] at this
/-- Live codes. -/
def lC (W D : Int) (dead : List ByteArray) (u : List Int) : Prop := kC W D u ∧ inD dead (txt u) = false
def nbL (D : Int) (dead : List ByteArray) (u : List Int) : List (List Int) := (nbW D [] u).filter fun v => !inD dead (txt v)
theorem nbL_C {W D : Int} (hD : 2 ≤ D) (dead : List ByteArray) : ∀ u, lC W D dead u → ∀ v ∈ nbL D dead u, lC W D dead v := fun u hu v hv => by
 obtain ⟨h1, h2⟩ := List.mem_filter.1 hv
 exact ⟨nbW_kC hD u [] hu.1 v h1, by simpa using h2⟩
theorem nbL_sym {W D : Int} (dead : List ByteArray) : ∀ u, lC W D dead u → ∀ v ∈ nbL D dead u, u ∈ nbL D dead v := fun u hu v hv => by
 obtain ⟨h1, h2⟩ := List.mem_filter.1 hv
 refine List.mem_filter.2 ⟨nbW_sym u [] [] hu.1.1 v h1, by rw [hu.2]; rfl⟩
theorem lC_num {W D : Int} (hD : 2 ≤ D) (dead : List ByteArray) : ∀ u, lC W D dead u → 0 ≤ num D u ∧ num D u < ((pw D W.toNat).toNat : Int) := fun u hu => kC_num hD u hu.1
/-- The program's steps. -/
theorem steps_l0 {W D : Int} (hD : 2 ≤ D ∧ D ≤ 10) {T : List Bool} : ∀ (t p acc : List Int), Ok D (p ++ t) → (p ++ t).length ≤ 6 → acc.length ≤ 2 * p.length → ((p ++ t).length : Int) = W →
  Ev (fun k => Fe.l0 k (num D (p ++ t)) acc (pw D t.length) W (p.length : Int) W D T) (acc ++ (nbW D p t).map (num D))
 | [], p, acc, _, _, _, hW => by
  refine Ev.succ ?_
  simp only [Fe.l0]
  refine Ev.neg (by rw [← hW]; exact len_end p) (Ev.val (by simp [nbW]))
 | d :: t, p, acc, hk, hl, ha, hW => by
  have hd := (Ok.cons.1 (Ok.append.1 hk).2).1
  have hp := pw_pos (show 0 < D by omega) t.length
  have hp6 : pw D t.length ≤ 1000000 := pw_le6 (by omega) (by omega) (by simp at hl; omega)
  have hp7 : pw D (d :: t).length ≤ 1000000 := pw_le6 (by omega) (by omega) (by simp at hl ⊢; omega)
  obtain ⟨b1, b2⟩ := num_bound (show 0 < D by omega) hk
  have hp8 : pw D (p ++ d :: t).length ≤ 1000000 := pw_le6 (by omega) (by omega) hl
  have hdig := num_digit (by omega) hk
  have hdiv : Int.tdiv (pw D (d :: t).length) D = pw D t.length := by
   rw [List.length_cons, pw, Int.mul_tdiv_cancel _ (by omega)]
  have hq : 0 ≤ num D (p ++ d :: t) / pw D t.length := Int.ediv_nonneg b1 (by omega)
  have hq2 : num D (p ++ d :: t) / pw D t.length ≤ 1000000 := by
   have := Int.ediv_le_self (pw D t.length) b1; omega
  have ht : Int.tdiv (num D (p ++ d :: t)) (pw D t.length) = num D (p ++ d :: t) / pw D t.length := Int.tdiv_eq_ediv_of_nonneg b1
  have hm : Int.tmod (num D (p ++ d :: t) / pw D t.length) D = d := by rw [Int.tmod_eq_emod_of_nonneg hq]; exact hdig
  have hc : ∀ e : Int, Ok D (p ++ (e % D) :: t) := fun e => by
   obtain ⟨h1, h2⟩ := Ok.append.1 hk
   exact Ok.append.2 ⟨h1, Ok.cons.2 ⟨⟨Int.emod_nonneg _ (by omega), Int.emod_lt_of_pos _ (by omega)⟩, (Ok.cons.1 h2).2⟩⟩
  have hchange : ∀ e : Int, wrap64 (num D (p ++ d :: t) + wrap64 (wrap64 (e % D - d) * pw D t.length)) = num D (p ++ (e % D) :: t) := fun e => by
   have h1 := num_change D p t d (e % D)
   obtain ⟨c1, c2⟩ := num_bound (show 0 < D by omega) (hc e)
   have c3 : pw D (p ++ (e % D) :: t).length ≤ 1000000 := by
    rw [show (p ++ (e % D) :: t).length = (p ++ d :: t).length by simp]; exact hp8
   have e1 := Int.emod_nonneg e (show D ≠ 0 by omega)
   have e2 := Int.emod_lt_of_pos e (show 0 < D by omega)
   rw [wrap_id (x := e % D - d) (by omega) (by omega), wrap_id (x := (e % D - d) * pw D t.length) (by omega) (by omega), h1, wrap_id (by omega) (by omega)]
  refine Ev.succ ?_
  simp only [Fe.l0]
  rw [hdiv, wrap_id (x := pw D t.length) (by omega) (by omega), ht, wrap_id (x := num D (p ++ d :: t) / pw D t.length) (by omega) (by omega), hm]
  refine Ev.pos (by rw [← hW]; exact len_mid p t d) (Ev.neg (by omega) (Ev.neg (by omega) (Ev.bind0 (around_f _ (by omega) (by omega)) (Ev.bind0 (around_f _ (by omega) (by omega)) (Ev.bind0 rfl ?_)))))
  rw [wrap_id (x := d + 1) (by omega) (by omega), wrap_id (x := d - 1) (by omega) (by omega), hchange, hchange, len_next p d (by simp at hl; omega)]
  refine Ev.pos (by simp at hl ⊢; omega) ?_
  have := steps_l0 (W := W) hD (T := T) t (p ++ [d]) (acc ++ [num D (p ++ ((d + 1) % D) :: t), num D (p ++ ((d - 1) % D) :: t)]) (by rw [← app_next]; exact hk) (by rw [← app_next]; exact hl) (by simp; omega) (by rw [← app_next]; exact hW)
  rw [← app_next] at this
  rw [show acc ++ (nbW D p (d :: t)).map (num D) = acc ++ [num D (p ++ ((d + 1) % D) :: t), num D (p ++ ((d - 1) % D) :: t)] ++ (nbW D (p ++ [d]) t).map (num D) by simp [nbW]]
  exact this
theorem steps_ev {W D : Int} (hg : good W D = true) {u : List Int} (hu : kC W D u) (T : List Bool) : Ev (fun k => Fe.f k W D T (num D u)) ((nbW D [] u).map (num D)) := by
 obtain ⟨g1, g2, g3, g4⟩ := good_iff.1 hg
 unfold Fe.f
 refine Ev.bind (count_ev hg) ?_
 have hl : u.length = W.toNat := by have := hu.2; omega
 have := steps_l0 (W := W) ⟨g3, g4⟩ (T := T) u [] [] hu.1 (by simp; omega) (Nat.le_refl _) (by simpa using hu.2)
 rw [hl] at this
 exact this
/-- The table of dead codes. -/
def tabM (D : Int) (T : List Bool) (l : List ByteArray) : List Bool := l.foldl (fun T s => T.set (num D (dgs s)).toNat true) T
theorem tabM_length (D : Int) : ∀ (l : List ByteArray) (T : List Bool), (tabM D T l).length = T.length
 | [], T => rfl
 | s :: l, T => by
  show (tabM D (T.set (num D (dgs s)).toNat true) l).length = _
  rw [tabM_length D l, List.length_set]
theorem fieldOf_l0 {W D : Int} (hg : good W D = true) : ∀ (t p : List ByteArray) (T : List Bool), (p ++ t).length ≤ 1048576 → t.all (isC W D) = true → (T.length : Int) = pw D W.toNat →
  Ev (fun k => FE.l0 k (p ++ t) ((p ++ t).length : Int) (p.length : Int) W D W D T) (W, D, tabM D T t)
 | [], p, T, _, _, _ => by
  refine Ev.succ ?_
  simp only [FE.l0]
  exact Ev.neg (len_end p) (Ev.now _)
 | s :: t, p, T, hl, ht, hT => by
  obtain ⟨g1, g2, g3, g4⟩ := good_iff.1 hg
  rw [List.all_cons, Bool.and_eq_true_iff] at ht
  obtain ⟨e1, o1, l1⟩ := code_of ht.1 g4
  obtain ⟨b1, b2⟩ := num_bound (show 0 < D by omega) o1
  have hll : (dgs s).length = W.toNat := by omega
  rw [hll] at b2
  refine Ev.succ ?_
  simp only [FE.l0]
  refine Ev.pos (len_mid p t s) (Ev.pos (by omega) (Ev.pos (len_mid p t s) ?_))
  rw [rdOf_mid]
  have hn := number_ev (W := W) ⟨g3, g4⟩ o1 (by omega)
  rw [← e1] at hn
  refine Ev.bind hn (Ev.pos b1 (Ev.pos (by omega) ?_))
  rw [len_next p s (by simp at hl; omega), app_next p t s] at *
  exact fieldOf_l0 hg t (p ++ [s]) (T.set (num D (dgs s)).toNat true) hl ht.2 (by simpa using hT)
def tabD (W D : Int) (dead : List ByteArray) : List Bool := tabM D (List.replicate (pw D W.toNat).toNat false) dead
theorem fieldOf_ev {W D : Int} {dead : List ByteArray} (hg : good W D = true) (hl : dead.length ≤ 1048576) (hd : dead.all (isC W D) = true) : Ev (fun k => FE.f k W D dead) (W, D, tabD W D dead) := by
 obtain ⟨g1, g2, g3, g4⟩ := good_iff.1 hg
 have hp := pw_pos (show 0 < D by omega) W.toNat
 have hp6 := pw_le6 (show 0 < D by omega) g4 (n := W.toNat) (by omega)
 unfold FE.f
 refine Ev.bind (count_ev hg) (Ev.pos (by omega) (Ev.pos (by omega) ?_))
 exact fieldOf_l0 hg dead [] _ (by simpa using hl) hd (by simp; omega)
theorem rdB_set {l : List Bool} {i j : Int} {x : Bool} (h0 : 0 ≤ i) (h1 : i < l.length) (h2 : 0 ≤ j) : rdOf false (l.set i.toNat x) j = if i = j then x else rdOf false l j := by
 unfold rdOf
 rw [List.getD_eq_getElem?_getD, List.getElem?_set]
 by_cases h : i = j
 ·rw [if_pos (by omega), if_pos (by omega), if_pos h]; rfl
 ·rw [if_neg (by omega), if_neg h, ← List.getD_eq_getElem?_getD]
theorem tabM_rd {W D : Int} (hg : good W D = true) {v : List Int} (hv : kC W D v) : ∀ (l : List ByteArray) (T : List Bool), l.all (isC W D) = true → (T.length : Int) = pw D W.toNat → rdOf false (tabM D T l) (num D v) = (rdOf false T (num D v) || inD l (txt v))
 | [], T, _, _ => by simp [tabM, inD]
 | s :: l, T, hl, hT => by
  obtain ⟨g1, g2, g3, g4⟩ := good_iff.1 hg
  rw [List.all_cons, Bool.and_eq_true_iff] at hl
  obtain ⟨e1, o1, l1⟩ := code_of hl.1 g4
  obtain ⟨b1, b2⟩ := num_bound (show 0 < D by omega) o1
  have hll : (dgs s).length = W.toNat := by omega
  rw [hll] at b2
  have ih := tabM_rd hg hv l (T.set (num D (dgs s)).toNat true) hl.2 (by simpa using hT)
  rw [show tabM D T (s :: l) = tabM D (T.set (num D (dgs s)).toNat true) l from rfl, ih, rdB_set b1 (by omega) (num_bound (show 0 < D by omega) hv.1).1, inD_cons]
  by_cases h : num D (dgs s) = num D v
  ·have : dgs s = v := num_inj (by omega) o1 hv.1 (by have := hv.2; omega) h
   rw [if_pos h, e1, this, decide_eq_true rfl]; simp
  ·rw [if_neg h]
   have hne : ¬ s.toList = (txt v).toList := by
    rw [toList_inj]
    intro e
    apply h
    rw [e, dgs_txt (hv.1.le g4)]
   rw [decide_eq_false hne, Bool.false_or]
theorem tabD_rd {W D : Int} {dead : List ByteArray} (hg : good W D = true) (hd : dead.all (isC W D) = true) {v : List Int} (hv : kC W D v) : rdOf false (tabD W D dead) (num D v) = inD dead (txt v) := by
 obtain ⟨g1, g2, g3, g4⟩ := good_iff.1 hg
 have hp := pw_pos (show 0 < D by omega) W.toNat
 unfold tabD
 rw [tabM_rd hg hv dead _ hd (by simp; omega)]
 have : rdOf false (List.replicate (pw D W.toNat).toNat false) (num D v) = false := by
  unfold rdOf
  rw [List.getD_eq_getElem?_getD, List.getElem?_replicate]
  split <;> rfl
 rw [this, Bool.false_or]
theorem tabD_length (W D : Int) (dead : List ByteArray) : (tabD W D dead).length = (pw D W.toNat).toNat := by
 unfold tabD; rw [tabM_length, List.length_replicate]
theorem see_keepval {α : Type} {nm : α → Int} {f : Int} {st : List Int × List α} {v : α} (hv : 0 ≤ nm v) (hl : nm v < st.1.length) {i : Int} (hi : 0 ≤ i) (h : 0 ≤ rd st.1 i) : rd (see nm f st v).1 i = rd st.1 i := by
 unfold see
 by_cases hs : rd st.1 (nm v) < 0
 ·rw [if_pos hs]
  show rd (st.1.set (nm v).toNat (f + 1)) i = _
  unfold rd at hs h ⊢
  rw [List.getD_eq_getElem?_getD, List.getElem?_set]
  by_cases e : (nm v).toNat = i.toNat
  ·rw [e] at hs; omega
  ·rw [if_neg e, ← List.getD_eq_getElem?_getD]
 ·rw [if_neg hs]
theorem dfar_l1 {W D : Int} {dead : List ByteArray} (hg : good W D = true) (hd : dead.all (isC W D) = true) (hp1 : pw D W.toNat ≤ 1000) {u : List Int} (hu : kC W D u) {f : Int} (h0 : 0 ≤ f) {r : List Int} : ∀ (t p : List (List Int)) (far : List Int) (q : List (List Int)),
  (∀ v ∈ t, kC W D v) → (p ++ t).length ≤ 1000 → BI (pw D W.toNat).toNat (lC W D dead) far q → q.length + negs far ≤ 1000 → rd far (num D u) = f → f + negs far ≤ (pw D W.toNat).toNat →
  Ev (fun k => Ff.l0 k ((t.filter fun v => !inD dead (txt v)).foldl (see (num D) f) (far, q)).1 (((t.filter fun v => !inD dead (txt v)).foldl (see (num D) f) (far, q)).2.map (num D)) W D (tabD W D dead)) r →
  Ev (fun k => Ff.l1 k far (num D u :: q.map (num D)) ((p ++ t).map (num D)) (((p ++ t).map (num D)).length : Int) (p.length : Int) W D (tabD W D dead)) r
 | [], p, far, q, _, _, _, _, _, _, h => by
  refine Ev.succ ?_
  simp only [Ff.l1]
  exact Ev.neg (by simp) (Ev.pos (by simp <;> omega) h)
 | v :: t, p, far, q, hv, hl, hb, hq, hf, hn, h => by
  obtain ⟨g1, g2, g3, g4⟩ := good_iff.1 hg
  have hC := lC_num (W := W) g3 dead
  have hvk := hv v (List.mem_cons_self ..)
  obtain ⟨b1, b2⟩ := kC_num (W := W) g3 v hvk
  obtain ⟨c1, c2⟩ := kC_num (W := W) g3 u hu
  have hlen := hb.len
  have htl := tabD_length W D dead
  have hrd : rd ((p ++ v :: t).map (num D)) (p.length : Int) = num D v := by
   rw [List.map_append, List.map_cons, show (p.length : Int) = ((p.map (num D)).length : Int) by simp]; exact rd_mid _ _ _
  have hlt : (p.length : Int) < (((p ++ v :: t).map (num D)).length : Int) := by simp; omega
  have hnx : wrap64 ((p.length : Int) + 1) = ((p ++ [v]).length : Int) := len_next p v (by simp at hl; omega)
  rw [List.filter_cons] at h
  refine Ev.succ ?_
  simp only [Ff.l1]
  refine Ev.pos hlt (Ev.pos (by omega) (Ev.pos hlt ?_))
  rw [hrd]
  refine Ev.pos b1 (Ev.pos (by omega) ?_)
  rw [hnx, tabD_rd hg hd hvk]
  have next : ∀ (far' : List Int) (q' : List (List Int)), BI (pw D W.toNat).toNat (lC W D dead) far' q' → q'.length + negs far' ≤ 1000 → rd far' (num D u) = f → f + negs far' ≤ (pw D W.toNat).toNat →
    Ev (fun k => Ff.l0 k ((t.filter fun v => !inD dead (txt v)).foldl (see (num D) f) (far', q')).1 (((t.filter fun v => !inD dead (txt v)).foldl (see (num D) f) (far', q')).2.map (num D)) W D (tabD W D dead)) r →
    Ev (fun k => Ff.l1 k far' (num D u :: q'.map (num D)) ((p ++ v :: t).map (num D)) (((p ++ v :: t).map (num D)).length : Int) ((p ++ [v]).length : Int) W D (tabD W D dead)) r := fun far' q' k1 k2 k3 k4 k5 => by
   have := dfar_l1 hg hd hp1 hu h0 t (p ++ [v]) far' q' (fun x hx => hv x (List.mem_cons_of_mem _ hx)) (by rw [← app_next]; exact hl) k1 k2 k3 k4 k5
   rw [← app_next] at this
   exact this
  by_cases hs : rd far (num D v) < 0
  ·refine Ev.pos hs (Ev.pos (by omega) ?_)
   by_cases hdd : inD dead (txt v) = true
   ·rw [hdd] at h ⊢
    exact Ev.pos rfl (next far q hb hq hf hn h)
   ·have hdf := Bool.eq_false_iff.2 hdd
    rw [hdf] at h ⊢
    obtain ⟨s1, s2, s3⟩ := see_BI hC hb (v := v) ⟨hvk, hdf⟩ (show -1 ≤ f by omega) hn
    have e : see (num D) f (far, q) v = (far.set (num D v).toNat (f + 1), q ++ [v]) := by unfold see; rw [if_pos hs]
    have hkv := see_keepval (nm := num D) (f := f) (st := (far, q)) (v := v) b1 (by simp only; omega) c1 (by simp only; omega)
    rw [e] at s1 s2 s3 hkv
    simp only at s2 s3 hkv
    rw [if_pos (by rfl), List.foldl_cons, e] at h
    refine Ev.neg (by simp) (Ev.pos (by simp <;> omega) ?_)
    rw [show rd (num D u :: q.map (num D)) 0 = num D u from rfl]
    refine Ev.pos c1 (Ev.pos (by omega) (Ev.pos (by simp <;> omega) ?_))
    rw [hf, wrap_id (x := f + 1) (by omega) (by omega)]
    have := next (far.set (num D v).toNat (f + 1)) (q ++ [v]) s1 (by omega) (by rw [hkv]; exact hf) (by omega) h
    rw [List.map_append] at this
    exact this
  ·refine Ev.neg hs ?_
   by_cases hdd : inD dead (txt v) = true
   ·rw [hdd] at h
    exact next far q hb hq hf hn h
   ·have hdf := Bool.eq_false_iff.2 hdd
    rw [hdf] at h
    have e : see (num D) f (far, q) v = (far, q) := by unfold see; rw [if_neg hs]
    rw [if_pos (by rfl), List.foldl_cons, e] at h
    exact next far q hb hq hf hn h
theorem dfar_l0 {W D : Int} {dead : List ByteArray} (hg : good W D = true) (hd : dead.all (isC W D) = true) (hp1 : pw D W.toNat ≤ 1000) : ∀ (n : Nat) (far : List Int) (q : List (List Int)), BI (pw D W.toNat).toNat (lC W D dead) far q → (∀ a ∈ q, 0 ≤ rd far (num D a)) → q.length + negs far ≤ n → n ≤ 1000 →
  Ev (fun k => Ff.l0 k far (q.map (num D)) W D (tabD W D dead)) (bfs (num D) (nbL D dead) n far q)
 | 0, far, [], _, _, _, _ => by
  refine Ev.succ ?_
  simp only [Ff.l0]
  exact Ev.neg (by simp) (Ev.now _)
 | 0, far, u :: q, _, _, h, _ => by simp at h
 | n + 1, far, [], _, _, _, _ => by
  refine Ev.succ ?_
  simp only [Ff.l0]
  exact Ev.neg (by simp) (Ev.now _)
 | n + 1, far, u :: q, hb, hpos, h, hn => by
  obtain ⟨g1, g2, g3, g4⟩ := good_iff.1 hg
  have hC := lC_num (W := W) g3 dead
  have hu := hb.que u (List.mem_cons_self ..)
  have hu0 := hpos u (List.mem_cons_self ..)
  obtain ⟨b1, b2⟩ := hC _ hu
  obtain ⟨c1, c2⟩ := BI_rd hb b1 b2
  have hlen := hb.len
  have hnb := nbL_C (W := W) g3 dead u hu
  obtain ⟨s1, s2, s3⟩ := fold_BI hC c1 (nbL D dead u) far q (BI_pop hb) hnb c2
  have hkeep : ∀ a ∈ ((nbL D dead u).foldl (see (num D) (rd far (num D u))) (far, q)).2, 0 ≤ rd ((nbL D dead u).foldl (see (num D) (rd far (num D u))) (far, q)).1 (num D a) := by
   obtain ⟨k1, k2, k3, ns, k4, k5⟩ := fold_is hC hu0 (nbL D dead u) far q hnb hb.len
   intro a ha
   rw [k4] at ha
   rcases List.mem_append.1 ha with ha | ha
   ·have := hpos a (List.mem_cons_of_mem _ ha)
    rw [k1 _ (hC a (hb.que a (List.mem_cons_of_mem _ ha))).1 this]; exact this
   ·rw [(k5 a ha).2]; omega
  refine Ev.succ ?_
  simp only [Ff.l0]
  refine Ev.pos (by simp <;> omega) (Ev.pos (by simp <;> omega) ?_)
  rw [show rd ((u :: q).map (num D)) 0 = num D u from rfl]
  refine Ev.bind (steps_ev hg hu.1 _) ?_
  refine dfar_l1 hg hd hp1 hu.1 hu0 (nbW D [] u) [] far q (nbW_kC g3 u [] hu.1) (by rw [List.nil_append, nbW_length]; have := hu.1.2; omega) (BI_pop hb) (by rw [List.length_cons] at h; omega) rfl c2 ?_
  exact dfar_l0 hg hd hp1 n ((nbL D dead u).foldl (see (num D) (rd far (num D u))) (far, q)).1 ((nbL D dead u).foldl (see (num D) (rd far (num D u))) (far, q)).2 s1 hkeep (by rw [List.length_cons] at h; omega) (by omega)
/-- The table of the search from a live code on. -/
def FARD (W D : Int) (dead : List ByteArray) (ds : List Int) : List Int :=
 bfs (num D) (nbL D dead) (pw D W.toNat).toNat ((List.replicate (pw D W.toNat).toNat (-1)).set (num D ds).toNat 0) [ds]
theorem start0 {N : Nat} {i : Int} (h0 : 0 ≤ i) (h1 : i < N) : rd ((List.replicate N (-1)).set i.toNat 0) i = 0 := rd_set_self h0 (by simpa using h1)
theorem ffar_ev {W D : Int} {dead : List ByteArray} (hg : good W D = true) (hd : dead.all (isC W D) = true) (hp1 : pw D W.toNat ≤ 1000) {ds : List Int} (hds : lC W D dead ds) : Ev (fun k => Ff.f k W D (tabD W D dead) (num D ds)) (FARD W D dead ds) := by
 obtain ⟨g1, g2, g3, g4⟩ := good_iff.1 hg
 have hC := lC_num (W := W) g3 dead
 obtain ⟨b1, b2⟩ := hC _ hds
 have hp := pw_pos (show 0 < D by omega) W.toNat
 obtain ⟨s1, s2⟩ := start_BI (N := (pw D W.toNat).toNat) hC hds
 unfold Ff.f
 rw [tabD_length]
 refine Ev.bind0 (a := List.replicate (pw D W.toNat).toNat (-1)) ?_ ?_
 ·unfold Fq.f
  rw [if_pos ⟨rfl, by omega, by omega⟩]; rfl
 refine Ev.pos b1 (Ev.pos (by simp; omega) ?_)
 exact dfar_l0 hg hd hp1 _ _ _ s1 (fun a ha => by rw [List.mem_singleton.1 ha, start0 b1 b2]; exact Int.le_refl 0) (by omega) (by omega)
theorem farOf_ev {W D : Int} {dead : List ByteArray} (hg : good W D = true) (hl : dead.length ≤ 1048576) (hd : dead.all (isC W D) = true) (hp1 : pw D W.toNat ≤ 1000) {ds : List Int} (hds : lC W D dead ds) : Ev (fun k => FR.f k W D dead (txt ds)) (W, D, tabD W D dead, FARD W D dead ds) := by
 obtain ⟨g1, g2, g3, g4⟩ := good_iff.1 hg
 unfold FR.f
 exact Ev.bind (fieldOf_ev hg hl hd) (Ev.bind (number_ev ⟨g3, g4⟩ hds.1.1 (by have := hds.1.2; omega)) (Ev.bind (ffar_ev hg hd hp1 hds) (Ev.now _)))
def seeD (D : Int) (dead : List ByteArray) (f a : Int) (st : (List Int × List (List Int)) × List Int) (v : List Int) : (List Int × List (List Int)) × List Int :=
 if inD dead (txt v) = true then st else (see (num D) f st.1 v, if rd (see (num D) f st.1 v).1 (num D v) = f + 1 then st.2.set (num D v).toNat (mn (rd st.2 (num D v) + rd st.2 a) 1000000000000001) else st.2)
def bfsD (D : Int) (dead : List ByteArray) : Nat → List Int → List (List Int) → List Int → List Int × List Int
 | 0, far, _, w => (far, w)
 | _ + 1, far, [], w => (far, w)
 | n + 1, far, u :: q, w => bfsD D dead n ((nbW D [] u).foldl (seeD D dead (rd far (num D u)) (num D u)) ((far, q), w)).1.1 ((nbW D [] u).foldl (seeD D dead (rd far (num D u)) (num D u)) ((far, q), w)).1.2 ((nbW D [] u).foldl (seeD D dead (rd far (num D u)) (num D u)) ((far, q), w)).2
theorem foldD_fst (D : Int) (dead : List ByteArray) (f a : Int) : ∀ (vs : List (List Int)) (st : (List Int × List (List Int)) × List Int), (vs.foldl (seeD D dead f a) st).1 = (vs.filter fun v => !inD dead (txt v)).foldl (see (num D) f) st.1
 | [], st => rfl
 | v :: vs, st => by
  rw [List.foldl_cons, foldD_fst D dead f a vs, List.filter_cons]
  unfold seeD
  by_cases h : inD dead (txt v) = true
  ·rw [if_pos h, h]; rfl
  ·rw [if_neg h, Bool.eq_false_iff.2 h]; rfl
theorem bfsD_fst (D : Int) (dead : List ByteArray) : ∀ (n : Nat) (far : List Int) (q : List (List Int)) (w : List Int), (bfsD D dead n far q w).1 = bfs (num D) (nbL D dead) n far q
 | 0, far, q, w => rfl
 | n + 1, far, [], w => rfl
 | n + 1, far, u :: q, w => by
  simp only [bfsD, bfs]
  rw [bfsD_fst D dead n, foldD_fst]
  rfl
/-- What holds while the neighbours of u are looked at. -/
structure DI (W D : Int) (dead : List ByteArray) (f a : Int) (st : (List Int × List (List Int)) × List Int) : Prop where
 bi : BI (pw D W.toNat).toNat (lC W D dead) st.1.1 st.1.2
 fa : rd st.1.1 a = f
 fn : f + negs st.1.1 ≤ (pw D W.toNat).toNat
 wl : st.2.length = (pw D W.toNat).toNat
 wb : ∀ x ∈ st.2, 0 ≤ x ∧ x ≤ 1000000000000001
theorem seeD_DI {W D : Int} (hD : 2 ≤ D) {dead : List ByteArray} {f a : Int} (h0 : 0 ≤ f) (ha : 0 ≤ a ∧ a < ((pw D W.toNat).toNat : Int)) {st : (List Int × List (List Int)) × List Int} (h : DI W D dead f a st) {v : List Int} (hv : kC W D v) :
  DI W D dead f a (seeD D dead f a st v) ∧ (seeD D dead f a st v).1.2.length + negs (seeD D dead f a st v).1.1 = st.1.2.length + negs st.1.1 := by
 unfold seeD
 by_cases hd : inD dead (txt v) = true
 ·rw [if_pos hd]; exact ⟨h, rfl⟩
 ·rw [if_neg hd]
  have hC := lC_num (W := W) hD dead
  have hlv : lC W D dead v := ⟨hv, Bool.eq_false_iff.2 hd⟩
  obtain ⟨b1, b2⟩ := hC v hlv
  have hlen := h.bi.len
  obtain ⟨s1, s2, s3⟩ := see_BI hC h.bi hlv (show -1 ≤ f by omega) h.fn
  have hfn := h.fn
  have hfa := h.fa
  have hkv := see_keepval (nm := num D) (f := f) (st := st.1) (v := v) b1 (by omega) ha.1 (by omega)
  refine ⟨⟨s1, by rw [hkv]; exact hfa, ?_, ?_, ?_⟩, s2⟩
  ·show f + (negs (see (num D) f st.1 v).1 : Int) ≤ _
   have s3' : negs (see (num D) f st.1 v).1 ≤ negs st.1.1 := s3
   omega
  ·show (if _ then _ else _ : List Int).length = _
   split
   ·rw [List.length_set]; exact h.wl
   ·exact h.wl
  ·intro x hx
   have hx : x ∈ (if rd (see (num D) f st.1 v).1 (num D v) = f + 1 then st.2.set (num D v).toNat (mn (rd st.2 (num D v) + rd st.2 a) 1000000000000001) else st.2) := hx
   split at hx
   ·rcases List.mem_or_eq_of_mem_set hx with hx | rfl
    ·exact h.wb x hx
    ·have w1 := h.wb _ (rd_mem (l := st.2) b1 (by rw [h.wl]; exact b2))
     have w2 := h.wb _ (rd_mem (l := st.2) ha.1 (by rw [h.wl]; exact ha.2))
     unfold mn; split <;> omega
   ·exact h.wb x hx
theorem least_f (a b : Int) : FV.f a b = some (mn a b) := by
 unfold FV.f mn
 by_cases h : a < b
 ·rw [if_pos h, if_neg (by omega)]
 ·rw [if_neg h]
  by_cases h2 : b < a
  ·rw [if_pos h2]
  ·rw [if_neg h2, show a = b by omega]
theorem jd_l3 {W D : Int} {dead : List ByteArray} (hg : good W D = true) (hdl : dead.length ≤ 1048576) {u : List Int} (hu : kC W D u) {f : Int} (h0 : 0 ≤ f) {i : Int} (i0 : 0 ≤ i) (i1 : i < W) {j b : Int} (hj : (j = 0 ∧ b = 1) ∨ (j = 1 ∧ b = -1)) {r : List Int × List Int} (pl : List ByteArray) (st : (List Int × List (List Int)) × List Int)
  (hst : DI W D dead f (num D u) st) (hq : pl.length + st.1.2.length + negs st.1.1 ≤ 1000)
  (h : Ev (fun k => Fc.l3 k dead (seeD D dead f (num D u) st (turnM D u i b)).1.1 (seeD D dead f (num D u) st (turnM D u i b)).2 (pl ++ txt u :: (seeD D dead f (num D u) st (turnM D u i b)).1.2.map txt) (pl.length : Int) (num D u) i [1, -1] 2 (j + 1) W D) r) :
  Ev (fun k => Fc.l3 k dead st.1.1 st.2 (pl ++ txt u :: st.1.2.map txt) (pl.length : Int) (num D u) i [1, -1] 2 j W D) r := by
 obtain ⟨g1, g2, g3, g4⟩ := good_iff.1 hg
 obtain ⟨a1, a2⟩ := kC_num (W := W) g3 u hu
 have hul := hu.2
 have hp6 := pw_le6 (show 0 < D by omega) g4 (n := W.toNat) (by omega)
 obtain ⟨v, hv⟩ : ∃ v, v = turnM D u i b := ⟨_, rfl⟩
 have hvk : kC W D v := by rw [hv]; exact ⟨turnM_ok (by omega) hu.1 _ _, by rw [turnM_length]; exact hu.2⟩
 obtain ⟨b1, b2⟩ := kC_num (W := W) g3 v hvk
 have hlen := hst.bi.len
 have hwl := hst.wl
 have hfa := hst.fa
 have hfn := hst.fn
 have w1 := hst.wb _ (rd_mem (l := st.2) b1 (by omega))
 have w2 := hst.wb _ (rd_mem (l := st.2) a1 (by omega))
 have hrj : rd [1, -1] j = b := by rcases hj with ⟨rfl, rfl⟩ | ⟨rfl, rfl⟩ <;> rfl
 refine Ev.succ ?_
 simp only [Fc.l3]
 refine Ev.pos (by omega) (Ev.pos (by omega) (Ev.pos (by simp; omega) (Ev.pos (by omega) (Ev.pos (len_mid _ _ _) ?_))))
 rw [rdOf_mid, hrj, wrap_id (x := j + 1) (by omega) (by omega)]
 refine Ev.bind (whMake_ev ⟨g3, g4⟩ hu.1 (by omega) i0 (by omega) (by omega)) ?_
 rw [← hv] at h ⊢
 refine Ev.bind (whNumber_ev ⟨g3, g4⟩ hvk.1 (by have := hvk.2; omega)) (Ev.bind (hasS_ev dead _ hdl) ?_)
 by_cases hd : inD dead (txt v) = true
 ·rw [hd]
  have e : seeD D dead f (num D u) st v = st := by unfold seeD; rw [if_pos hd]
  rw [e] at h
  exact Ev.pos rfl h
 ·rw [Bool.eq_false_iff.2 hd]
  refine Ev.neg (by simp) (Ev.pos b1 (Ev.pos (by omega) ?_))
  by_cases hs : rd st.1.1 (num D v) < 0
  ·have hne : num D v ≠ num D u := fun e => by rw [e] at hs; omega
   have es : see (num D) f st.1 v = (st.1.1.set (num D v).toNat (f + 1), st.1.2 ++ [v]) := by unfold see; rw [if_pos hs]
   have r1 : rd (st.1.1.set (num D v).toNat (f + 1)) (num D v) = f + 1 := by rw [rd_set_self b1 (by omega)]
   have r2 : rd (st.1.1.set (num D v).toNat (f + 1)) (num D u) = f := by
    unfold rd at hs hfa ⊢
    rw [List.getD_eq_getElem?_getD, List.getElem?_set, if_neg (by omega), ← List.getD_eq_getElem?_getD]; exact hfa
   have e : seeD D dead f (num D u) st v = ((st.1.1.set (num D v).toNat (f + 1), st.1.2 ++ [v]), st.2.set (num D v).toNat (mn (rd st.2 (num D v) + rd st.2 (num D u)) 1000000000000001)) := by
    unfold seeD; rw [if_neg hd, es, if_pos r1]
   rw [e] at h
   refine Ev.pos hs (Ev.pos a1 (Ev.pos (by omega) ?_))
   rw [hfa, wrap_id (x := f + 1) (by omega) (by omega)]
   refine Ev.bind0 rfl (Ev.pos (by simp; omega) (Ev.bind0 rfl ?_))
   rw [r1, r2, wrap_id (x := f + 1) (by omega) (by omega)]
   refine Ev.pos rfl (Ev.pos (by omega) (Ev.pos (by omega) ?_))
   rw [wrap_id (x := rd st.2 (num D v) + rd st.2 (num D u)) (by omega) (by omega)]
   refine Ev.bind0 (least_f _ _) ?_
   rw [List.map_append] at h
   rw [List.append_assoc]
   exact h
  ·have es : see (num D) f st.1 v = st.1 := by unfold see; rw [if_neg hs]
   refine Ev.neg hs (Ev.pos a1 (Ev.pos (by omega) ?_))
   rw [hfa, wrap_id (x := f + 1) (by omega) (by omega)]
   by_cases he : rd st.1.1 (num D v) = f + 1
   ·have e : seeD D dead f (num D u) st v = (st.1, st.2.set (num D v).toNat (mn (rd st.2 (num D v) + rd st.2 (num D u)) 1000000000000001)) := by
     unfold seeD; rw [if_neg hd, es, if_pos he]
    rw [e] at h
    refine Ev.pos he (Ev.pos (by omega) (Ev.pos (by omega) ?_))
    rw [wrap_id (x := rd st.2 (num D v) + rd st.2 (num D u)) (by omega) (by omega)]
    exact Ev.bind0 (least_f _ _) h
   ·have e : seeD D dead f (num D u) st v = st := by
     unfold seeD; rw [if_neg hd, es, if_neg he]
    rw [e] at h
    exact Ev.neg he h
theorem jd_l2 {W D : Int} {dead : List ByteArray} (hg : good W D = true) (hdl : dead.length ≤ 1048576) {u : List Int} (hu : kC W D u) {f : Int} (h0 : 0 ≤ f) {r : List Int × List Int} (pl : List ByteArray) : ∀ (t p : List Int) (st : (List Int × List (List Int)) × List Int), u = p ++ t →
  DI W D dead f (num D u) st → pl.length + st.1.2.length + negs st.1.1 ≤ 1000 →
  Ev (fun k => Fc.l1 k dead ((nbW D p t).foldl (seeD D dead f (num D u)) st).1.1 ((nbW D p t).foldl (seeD D dead f (num D u)) st).2 (pl ++ txt u :: ((nbW D p t).foldl (seeD D dead f (num D u)) st).1.2.map txt) ((pl.length : Int) + 1) W D) r →
  Ev (fun k => Fc.l2 k dead st.1.1 st.2 (pl ++ txt u :: st.1.2.map txt) (pl.length : Int) (num D u) (p.length : Int) W D) r
 | [], p, st, hp, hst, hq, h => by
  have hul := hu.2
  rw [hp, List.append_nil] at hul
  refine Ev.succ ?_
  simp only [Fc.l2]
  refine Ev.neg (by omega) ?_
  rw [wrap_id (x := (pl.length : Int) + 1) (by omega) (by omega)]
  exact h
 | d :: t, p, st, hp, hst, hq, h => by
  obtain ⟨g1, g2, g3, g4⟩ := good_iff.1 hg
  obtain ⟨a1, a2⟩ := kC_num (W := W) g3 u hu
  have hul := hu.2
  have hpl : (p.length : Int) < W := by rw [← hul, hp]; exact len_mid p t d
  have t1 : turnM D u (p.length : Int) 1 = p ++ ((d + 1) % D) :: t := by rw [hp]; exact nbW_turn D p t d 1
  have t2 : turnM D u (p.length : Int) (-1) = p ++ ((d - 1) % D) :: t := by rw [hp]; exact nbW_turn D p t d (-1)
  have k1 : kC W D (turnM D u (p.length : Int) 1) := ⟨turnM_ok (by omega) hu.1 _ _, by rw [turnM_length]; exact hu.2⟩
  have k2 : kC W D (turnM D u (p.length : Int) (-1)) := ⟨turnM_ok (by omega) hu.1 _ _, by rw [turnM_length]; exact hu.2⟩
  obtain ⟨s1, s2⟩ := seeD_DI g3 h0 ⟨a1, a2⟩ hst k1
  obtain ⟨s3, s4⟩ := seeD_DI g3 h0 ⟨a1, a2⟩ s1 k2
  refine Ev.succ ?_
  simp only [Fc.l2]
  refine Ev.pos hpl (Ev.bind0 rfl ?_)
  refine jd_l3 hg hdl hu h0 (by omega) hpl (Or.inl ⟨rfl, rfl⟩) pl st hst hq ?_
  refine jd_l3 hg hdl hu h0 (by omega) hpl (Or.inr ⟨rfl, rfl⟩) pl _ s1 (by omega) ?_
  refine Ev.succ ?_
  simp only [Fc.l3]
  refine Ev.neg (by decide) ?_
  rw [len_next p d (by omega)]
  refine jd_l2 hg hdl hu h0 pl t (p ++ [d]) _ (by rw [hp]; simp) s3 (by omega) ?_
  rw [t2, t1]
  exact h
theorem jd_l1 {W D : Int} {dead : List ByteArray} (hg : good W D = true) (hdl : dead.length ≤ 1048576) : ∀ (n : Nat) (pl : List ByteArray) (far : List Int) (q : List (List Int)) (w : List Int), BI (pw D W.toNat).toNat (lC W D dead) far q → (∀ a ∈ q, 0 ≤ rd far (num D a)) → w.length = (pw D W.toNat).toNat → (∀ x ∈ w, 0 ≤ x ∧ x ≤ 1000000000000001) →
  q.length + negs far ≤ n → pl.length + q.length + negs far ≤ 1000 →
  Ev (fun k => Fc.l1 k dead far w (pl ++ q.map txt) (pl.length : Int) W D) (bfsD D dead n far q w)
 | 0, pl, far, [], w, _, _, _, _, _, _ => by
  refine Ev.succ ?_
  simp only [Fc.l1]
  exact Ev.neg (len_end pl) (Ev.now _)
 | 0, pl, far, u :: q, w, _, _, _, _, h, _ => by simp at h
 | n + 1, pl, far, [], w, _, _, _, _, _, _ => by
  refine Ev.succ ?_
  simp only [Fc.l1]
  exact Ev.neg (len_end pl) (Ev.now _)
 | n + 1, pl, far, u :: q, w, hb, hpos, hwl, hwb, h, hn => by
  obtain ⟨g1, g2, g3, g4⟩ := good_iff.1 hg
  have hC := lC_num (W := W) g3 dead
  have hu := hb.que u (List.mem_cons_self ..)
  have hu0 := hpos u (List.mem_cons_self ..)
  obtain ⟨b1, b2⟩ := hC _ hu
  obtain ⟨c1, c2⟩ := BI_rd hb b1 b2
  have hlen := hb.len
  have hnb := nbL_C (W := W) g3 dead u hu
  rw [List.length_cons] at h hn
  have hall : ∀ (vs : List (List Int)) (st : (List Int × List (List Int)) × List Int), (∀ v ∈ vs, kC W D v) → DI W D dead (rd far (num D u)) (num D u) st → DI W D dead (rd far (num D u)) (num D u) (vs.foldl (seeD D dead (rd far (num D u)) (num D u)) st) ∧ (vs.foldl (seeD D dead (rd far (num D u)) (num D u)) st).1.2.length + negs (vs.foldl (seeD D dead (rd far (num D u)) (num D u)) st).1.1 = st.1.2.length + negs st.1.1 := by
   intro vs
   induction vs with
   | nil => intro st _ hst; exact ⟨hst, rfl⟩
   | cons v vs ih =>
    intro st hv hst
    obtain ⟨s1, s2⟩ := seeD_DI g3 hu0 ⟨b1, b2⟩ hst (hv v (List.mem_cons_self ..))
    obtain ⟨s3, s4⟩ := ih _ (fun x hx => hv x (List.mem_cons_of_mem _ hx)) s1
    exact ⟨s3, s4.trans s2⟩
  have h0 : DI W D dead (rd far (num D u)) (num D u) ((far, q), w) := ⟨BI_pop hb, rfl, c2, hwl, hwb⟩
  obtain ⟨s1, s2⟩ := hall (nbW D [] u) ((far, q), w) (nbW_kC g3 u [] hu.1) h0
  have hkeep : ∀ a ∈ ((nbW D [] u).foldl (seeD D dead (rd far (num D u)) (num D u)) ((far, q), w)).1.2, 0 ≤ rd ((nbW D [] u).foldl (seeD D dead (rd far (num D u)) (num D u)) ((far, q), w)).1.1 (num D a) := by
   rw [foldD_fst]
   obtain ⟨k1, k2, k3, ns, k4, k5⟩ := fold_is hC hu0 (nbL D dead u) far q hnb hb.len
   intro a ha
   have ha : a ∈ ((nbL D dead u).foldl (see (num D) (rd far (num D u))) (far, q)).2 := ha
   show 0 ≤ rd ((nbL D dead u).foldl (see (num D) (rd far (num D u))) (far, q)).1 (num D a)
   rw [k4] at ha
   rcases List.mem_append.1 ha with ha | ha
   ·have := hpos a (List.mem_cons_of_mem _ ha)
    rw [k1 _ (hC a (hb.que a (List.mem_cons_of_mem _ ha))).1 this]; exact this
   ·rw [(k5 a ha).2]; omega
  refine Ev.succ ?_
  simp only [Fc.l1]
  rw [List.map_cons]
  refine Ev.pos (len_mid _ _ _) (Ev.pos (by omega) ?_)
  rw [rdOf_mid]
  refine Ev.bind (whNumber_ev ⟨g3, g4⟩ hu.1.1 (by have := hu.1.2; omega)) ?_
  refine jd_l2 hg hdl hu.1 hu0 pl u [] ((far, q), w) rfl h0 (by simp only; omega) ?_
  have s2' : ((nbW D [] u).foldl (seeD D dead (rd far (num D u)) (num D u)) ((far, q), w)).1.2.length + negs ((nbW D [] u).foldl (seeD D dead (rd far (num D u)) (num D u)) ((far, q), w)).1.1 = q.length + negs far := s2
  have := jd_l1 hg hdl n (pl ++ [txt u]) _ _ _ s1.bi hkeep s1.wl s1.wb (by omega) (by rw [List.length_append, List.length_singleton]; omega)
  rw [List.append_assoc, show ((pl ++ [txt u]).length : Int) = (pl.length : Int) + 1 by simp] at this
  exact this
/-- The reference's two tables. -/
def FARS (W D : Int) (dead : List ByteArray) (ds : List Int) : List Int × List Int :=
 bfsD D dead (pw D W.toNat).toNat ((List.replicate (pw D W.toNat).toNat (-1)).set (num D ds).toNat 0) [ds] ((List.replicate (pw D W.toNat).toNat 0).set (num D ds).toNat 1)
theorem FARS_fst (W D : Int) (dead : List ByteArray) (ds : List Int) : (FARS W D dead ds).1 = FARD W D dead ds := bfsD_fst D dead _ _ _ _
theorem jd_l0 {W D : Int} {dead : List ByteArray} {s : ByteArray} {w : List Int} {r : List Int × List Int} : ∀ (t p : List Int), (p ++ t).length ≤ 1000 → p = List.replicate p.length (-1) →
  Ev (fun k => (Fg.f k W D s).bind fun t340 => (if 0 ≤ t340 then (if t340 < ((List.replicate (p ++ t).length (-1)).length : Int) then (if t340 < (w.length : Int) then (Fc.l1 k dead ((List.replicate (p ++ t).length (-1)).set (t340 : Int).toNat 0) (w.set (t340 : Int).toNat 1) (([s] : List ByteArray)) 0 W D) else (none)) else (none)) else (none))) r →
  Ev (fun k => Fc.l0 k dead s (p ++ t) w ((p ++ t).length : Int) (p.length : Int) W D) r
 | [], p, hl, hp, h => by
  refine Ev.succ ?_
  simp only [Fc.l0]
  refine Ev.neg (len_end p) ?_
  rw [List.append_nil] at h ⊢
  rw [← hp] at h
  exact h
 | x :: t, p, hl, hp, h => by
  refine Ev.succ ?_
  simp only [Fc.l0]
  refine Ev.pos (len_mid p t x) (Ev.pos (by omega) (Ev.pos (len_mid p t x) ?_))
  rw [set_mid, len_next p (-1) (by simp at hl; omega), app_next p t (-1)]
  have e : (p ++ x :: t).length = (p ++ [-1] ++ t).length := by simp
  rw [e] at hl h ⊢
  exact jd_l0 t (p ++ [-1]) hl (by rw [List.length_append, List.length_singleton, List.replicate_succ', ← hp]) h
theorem deFar_ev {W D : Int} {dead : List ByteArray} (hg : good W D = true) (hdl : dead.length ≤ 1048576) (hp1 : pw D W.toNat ≤ 1000) {ds : List Int} (hds : lC W D dead ds) : Ev (fun k => Fc.f k W D dead (txt ds)) (FARS W D dead ds) := by
 obtain ⟨g1, g2, g3, g4⟩ := good_iff.1 hg
 have hC := lC_num (W := W) g3 dead
 obtain ⟨b1, b2⟩ := hC _ hds
 have hp := pw_pos (show 0 < D by omega) W.toNat
 obtain ⟨s1, s2⟩ := start_BI (N := (pw D W.toNat).toNat) hC hds
 unfold Fc.f
 refine Ev.bind (whCount_ev hg) (Ev.pos (by omega) (Ev.pos (by omega) (Ev.bind0 rfl (Ev.bind (whCount_ev hg) (Ev.pos (by omega) (Ev.pos (by omega) ?_))))))
 refine jd_l0 (List.replicate (pw D W.toNat).toNat 0) [] (by simp; omega) rfl ?_
 simp only [List.nil_append, List.length_replicate]
 refine Ev.bind (whNumber_ev ⟨g3, g4⟩ hds.1.1 (by have := hds.1.2; omega)) (Ev.pos b1 (Ev.pos (by omega) (Ev.pos (by omega) ?_)))
 refine jd_l1 hg hdl (pw D W.toNat).toNat [] _ [ds] _ s1 (fun a ha => by rw [List.mem_singleton.1 ha, start0 b1 b2]; exact Int.le_refl 0) (by simp) (fun x hx => ?_) (by omega) (by simp at s2 ⊢; omega)
 rcases List.mem_or_eq_of_mem_set hx with hx | rfl
 ·rw [(List.mem_replicate.1 hx).2]; omega
 ·omega
theorem live_all {W D : Int} {dead : List ByteArray} {s : ByteArray} (h : liveM W D dead [s] = true) : good W D = true ∧ pw D W.toNat ≤ 1000 ∧ dead.all (isC W D) = true ∧ s = txt (dgs s) ∧ lC W D dead (dgs s) := by
 obtain ⟨a, b, c, d, e⟩ := live_of h
 obtain ⟨e1, o1, l1⟩ := code_of d a.2.2.2
 have c2 := (Bool.and_eq_true_iff.1 (Bool.and_eq_true_iff.1 c).2).1
 refine ⟨good_iff.2 a, b, c2, e1, ⟨o1, l1⟩, ?_⟩
 rw [← e1]
 cases hh : inD dead s with
 | false => rfl
 | true => exact absurd (inD_iff.1 hh) e
theorem FARD_BI {W D : Int} {dead : List ByteArray} (hg : good W D = true) {ds : List Int} (hds : lC W D dead ds) : BI (pw D W.toNat).toNat (lC W D dead) (FARD W D dead ds) [] := by
 obtain ⟨g1, g2, g3, g4⟩ := good_iff.1 hg
 have hC := lC_num (W := W) g3 dead
 exact bfs_BI hC (nbL_C g3 dead) _ _ _ (start_BI (N := (pw D W.toNat).toNat) hC hds).1
theorem FARD_len {W D : Int} {dead : List ByteArray} (hg : good W D = true) {ds : List Int} (hds : lC W D dead ds) : ((FARD W D dead ds).length : Int) = pw D W.toNat := by
 have := (FARD_BI hg hds).len
 have hp := pw_pos (D := D) (by have := good_iff.1 hg; omega) W.toNat
 omega
theorem two_live {W D : Int} {dead : List ByteArray} {s t : ByteArray} (h : liveM W D dead [s, t] = true) : liveM W D dead [s] = true ∧ liveM W D dead [t] = true := by
 rw [live_two] at h
 exact Bool.and_eq_true_iff.1 h
theorem fold_C {α : Type} {N : Nat} {C : α → Prop} {nm : α → Int} (hC : ∀ u, C u → 0 ≤ nm u ∧ nm u < N) {f : Int} (h0 : 0 ≤ f) {vs : List α} {far : List Int} {q : List α} (hv : ∀ v ∈ vs, C v) (hl : far.length = N) (h : ∀ i : Int, 0 ≤ i → i < N → 0 ≤ rd far i → ∃ v, C v ∧ nm v = i) :
  ∀ i : Int, 0 ≤ i → i < N → 0 ≤ rd (vs.foldl (see nm f) (far, q)).1 i → ∃ v, C v ∧ nm v = i := fun i i0 iN i1 => by
 rcases (fold_is hC h0 vs far q hv hl).new i i0 with e | ⟨_, _, v, v1, v2, _⟩
 ·rw [e] at i1; exact h i i0 iN i1
 ·exact ⟨v, hv v v1, v2⟩
theorem bfs_C {α : Type} {N : Nat} {C : α → Prop} {nm : α → Int} {nb : α → List α} (hC : ∀ u, C u → 0 ≤ nm u ∧ nm u < N) (hinj : ∀ u v, C u → C v → nm u = nm v → u = v) (hnb : ∀ u, C u → ∀ v ∈ nb u, C v) {src : α} (hsrc : C src) : ∀ (n : Nat) (far : List Int) (q : List α), BI N C far q → BJ C nm nb src far q →
  (∀ i : Int, 0 ≤ i → i < N → 0 ≤ rd far i → ∃ v, C v ∧ nm v = i) → ∀ i : Int, 0 ≤ i → i < N → 0 ≤ rd (bfs nm nb n far q) i → ∃ v, C v ∧ nm v = i
 | 0, far, q, _, _, h => h
 | n + 1, far, [], _, _, h => h
 | n + 1, far, u :: q, hb, hj, h => by
  obtain ⟨hu, hu0⟩ := hj.cq u (List.mem_cons_self ..)
  obtain ⟨b1, b2⟩ := hC u hu
  obtain ⟨c1, c2⟩ := BI_rd hb b1 b2
  obtain ⟨s1, s2, s3⟩ := fold_BI hC c1 (nb u) far q (BI_pop hb) (hnb u hu) c2
  exact bfs_C hC hinj hnb hsrc n _ _ s1 (BJ_step hC hinj hnb hsrc hb.len hj) (fold_C hC hu0 (hnb u hu) hb.len h)
theorem lC_inj {W D : Int} (hD : 2 ≤ D) (dead : List ByteArray) : ∀ u v, lC W D dead u → lC W D dead v → num D u = num D v → u = v := fun u v hu hv => kC_inj hD u v hu.1 hv.1
theorem FARD_BJ {W D : Int} {dead : List ByteArray} (hD : 2 ≤ D) {ds : List Int} (hds : lC W D dead ds) : BJ (lC W D dead) (num D) (nbL D dead) ds (FARD W D dead ds) [] := by
 have hC := lC_num (W := W) hD dead
 obtain ⟨s1, s2⟩ := start_BI (N := (pw D W.toNat).toNat) hC hds
 exact bfs_BJ hC (lC_inj hD dead) (nbL_C hD dead) hds _ _ _ s1 (start_BJ hC (lC_inj hD dead) hds) (by omega)
theorem FARD_C {W D : Int} {dead : List ByteArray} (hD : 2 ≤ D) {ds : List Int} (hds : lC W D dead ds) : ∀ i : Int, 0 ≤ i → i < ((pw D W.toNat).toNat : Int) → 0 ≤ rd (FARD W D dead ds) i → ∃ v, lC W D dead v ∧ num D v = i := by
 have hC := lC_num (W := W) hD dead
 obtain ⟨b1, b2⟩ := hC ds hds
 obtain ⟨s1, s2⟩ := start_BI (N := (pw D W.toNat).toNat) hC hds
 refine bfs_C hC (lC_inj hD dead) (nbL_C hD dead) hds _ _ _ s1 (start_BJ hC (lC_inj hD dead) hds) (fun i i0 iN i1 => ?_)
 by_cases h : num D ds = i
 ·exact ⟨ds, hds, h⟩
 ·rw [rd_set b1 (by simpa using b2) i0, if_neg h, rd_rep i0 iN] at i1
  omega
def markedT : Int → List S59 → List S59
 | _, [] => []
 | a, _ :: l => ⟨a, a + 1⟩ :: markedT (a + 2) l
theorem markTurnS_l0 : ∀ (t p : List S59) (a : Int), 0 ≤ a → a + 2 * t.length ≤ 1000000000 → (p ++ t).length ≤ 1000000000 →
  Ev (fun k => Fs.l0 k (p ++ t) a (p.length : Int)) (a + 2 * t.length, p ++ markedT a t)
 | [], p, a, _, _, _ => by
  refine Ev.succ ?_
  simp only [Fs.l0]
  exact Ev.neg (len_end p) (Ev.val (by simp [markedT]))
 | x :: t, p, a, h0, h1, h2 => by
  rw [List.length_cons] at h1
  have ih := markTurnS_l0 t (p ++ [⟨a, a + 1⟩]) (a + 2) (by omega) (by omega) (by simpa using h2)
  refine Ev.succ ?_
  simp only [Fs.l0]
  refine Ev.pos (len_mid p t x) (Ev.pos (by omega) (Ev.bind0 rfl ?_))
  rw [set_mid, rdT_mid, rdT_mid, set_mid, wrap_id (x := a + 1) (by omega) (by omega), wrap_id (x := a + 1 + 1) (by omega) (by omega), len_next p (⟨a, a + 1⟩ : S59) (by simp at h2; omega), app_next p t (⟨a, a + 1⟩ : S59)]
  rw [show a + 1 + 1 = a + 2 by omega]
  have e : (a + 2 + 2 * (t.length : Int), p ++ [(⟨a, a + 1⟩ : S59)] ++ markedT (a + 2) t) = (a + 2 * ((x :: t).length : Int), p ++ markedT a (x :: t)) := by
   simp only [markedT, List.append_assoc, List.singleton_append, List.length_cons]
   congr 1
   omega
  rw [e] at ih
  exact ih
theorem heldTurnS_l0 : ∀ (t p : List S59) (a : Int), 0 ≤ a → a + 2 * t.length ≤ 1000000000 → (p ++ t).length ≤ 1000000000 →
  Ev (fun k => Fo.l0 k (p ++ markedT a t) a (p.length : Int)) (a + 2 * t.length)
 | [], p, a, _, _, _ => by
  refine Ev.succ ?_
  simp only [Fo.l0, markedT]
  exact Ev.neg (len_end p) (Ev.val (by simp))
 | x :: t, p, a, h0, h1, h2 => by
  rw [List.length_cons] at h1
  have ih := heldTurnS_l0 t (p ++ [⟨a, a + 1⟩]) (a + 2) (by omega) (by omega) (by simpa using h2)
  rw [show markedT a (x :: t) = ⟨a, a + 1⟩ :: markedT (a + 2) t from rfl]
  refine Ev.succ ?_
  simp only [Fo.l0]
  refine Ev.pos (len_mid p _ _) (Ev.pos (by omega) ?_)
  rw [rdT_mid, wrap_id (x := a + 1) (by omega) (by omega), wrap_id (x := a + 1 + 1) (by omega) (by omega)]
  refine Ev.pos rfl (Ev.pos rfl ?_)
  rw [len_next p (⟨a, a + 1⟩ : S59) (by simp at h2; omega), app_next p _ (⟨a, a + 1⟩ : S59), show a + 1 + 1 = a + 2 by omega]
  have e : (a + 2 + 2 * (t.length : Int)) = (a + 2 * ((x :: t).length : Int)) := by rw [List.length_cons]; omega
  rw [e] at ih
  exact ih
theorem markTurnS_ev (l : List S59) (hl : l.length ≤ 100000000) : Ev (fun k => Fs.f k l 1) (1 + 2 * l.length, markedT 1 l) ∧ Ev (fun k => Fo.f k (markedT 1 l) 1) (1 + 2 * l.length) :=
 ⟨markTurnS_l0 l [] 1 (by omega) (by omega) (by simp; omega), heldTurnS_l0 l [] 1 (by omega) (by omega) (by simp; omega)⟩
/-- The codes one turn away, each with its turn. -/
def nbT (D : Int) : List Int → List Int → List (S59 × List Int)
 | _, [] => []
 | p, d :: t => (⟨p.length, 1⟩, p ++ ((d + 1) % D) :: t) :: (⟨p.length, -1⟩, p ++ ((d - 1) % D) :: t) :: nbT D (p ++ [d]) t
theorem nbT_snd (D : Int) : ∀ (t p : List Int), (nbT D p t).map (·.2) = nbW D p t
 | [], p => rfl
 | d :: t, p => by simp [nbT, nbW, nbT_snd D t (p ++ [d])]
def allT : Nat → Nat → List S59
 | _, 0 => []
 | i, n + 1 => ⟨i, 1⟩ :: ⟨i, -1⟩ :: allT (i + 1) n
theorem nbT_fst (D : Int) : ∀ (t p : List Int), (nbT D p t).map (·.1) = allT p.length t.length
 | [], p => rfl
 | d :: t, p => by
  have := nbT_fst D t (p ++ [d])
  rw [List.length_append, List.length_singleton] at this
  simp [nbT, allT, this]
theorem trnA_l0 {W : Int} : ∀ (n i : Nat) (acc : List S59), (i : Int) + n = W → W ≤ 100 → acc.length ≤ 2 * i → Ev (fun k => FD.l0 k acc W (i : Int)) (acc ++ allT i n)
 | 0, i, acc, h, _, _ => by
  refine Ev.succ ?_
  simp only [FD.l0]
  exact Ev.neg (by omega) (Ev.val (by simp [allT]))
 | n + 1, i, acc, h, hW, ha => by
  have ih := trnA_l0 n (i + 1) (acc ++ [⟨i, 1⟩, ⟨i, -1⟩]) (by omega) hW (by simp; omega)
  refine Ev.succ ?_
  simp only [FD.l0]
  refine Ev.pos (by omega) (Ev.bind0 rfl (Ev.pos (by simp; omega) ?_))
  rw [wrap_id (x := (i : Int) + 1) (by omega) (by omega)]
  have e : acc ++ [(⟨i, 1⟩ : S59), ⟨i, -1⟩] ++ allT (i + 1) n = acc ++ allT i (n + 1) := by simp [allT]
  rw [e] at ih
  exact ih
theorem trnA_ev {W : Int} (h0 : 0 ≤ W) (h1 : W ≤ 100) : Ev (fun k => FD.f k W) (allT 0 W.toNat) := by
 unfold FD.f
 exact trnA_l0 W.toNat 0 [] (by omega) h1 (by simp)
def hit (D : Int) (F : List Int) (n : Int) (x : S59 × List Int) : Bool := decide (rd F (num D x.2) = n)
/-- The way to 0 by the first turn that goes down. -/
def wayF (D : Int) (F : List Int) : Nat → List Int → List S59 → List S59
 | 0, _, out => out
 | n + 1, u, out => match (nbT D [] u).find? (hit D F n) with
  | some x => wayF D F n x.2 (out ++ [x.1])
  | none => out
theorem wayF_len (D : Int) (F : List Int) : ∀ (n : Nat) (u : List Int) (out : List S59), (wayF D F n u out).length ≤ out.length + n
 | 0, u, out => Nat.le_refl _
 | n + 1, u, out => by
  simp only [wayF]
  split
  ·have := wayF_len D F n (by assumption : S59 × List Int).2 (out ++ [(by assumption : S59 × List Int).1])
   rename_i x _
   have := wayF_len D F n x.2 (out ++ [x.1])
   rw [List.length_append, List.length_singleton] at this
   omega
  ·omega
theorem hit_ex {W D : Int} {dead : List ByteArray} (hD : 2 ≤ D) {ts : List Int} (hts : lC W D dead ts) {u : List Int} (hu : lC W D dead u) {n : Nat} (hn : rd (FARD W D dead ts) (num D u) = (n : Int) + 1) : ∃ x, (nbT D [] u).find? (hit D (FARD W D dead ts) n) = some x ∧ lC W D dead x.2 ∧ rd (FARD W D dead ts) (num D x.2) = n := by
 obtain ⟨y, y1, y2, y3⟩ := (FARD_BJ hD hts).prd u hu (by omega)
 have hy := (List.mem_filter.1 (nbL_sym dead y y1 u y3)).1
 rw [← nbT_snd] at hy
 obtain ⟨x, x1, x2⟩ := List.mem_map.1 hy
 cases hf : (nbT D [] u).find? (hit D (FARD W D dead ts) n) with
 | none =>
  have := List.find?_eq_none.1 hf x x1
  exact absurd (decide_eq_true (by rw [x2, y2]; omega)) this
 | some z =>
  have h1 := List.find?_some hf
  have h2 : rd (FARD W D dead ts) (num D z.2) = n := of_decide_eq_true h1
  have h3 : z.2 ∈ nbW D [] u := by rw [← nbT_snd]; exact List.mem_map.2 ⟨z, List.mem_of_find?_eq_some hf, rfl⟩
  have hk := nbW_kC hD u [] hu.1 z.2 h3
  obtain ⟨b1, b2⟩ := kC_num (W := W) hD _ hk
  obtain ⟨v, v1, v2⟩ := FARD_C hD hts _ b1 b2 (by omega)
  rw [kC_inj hD v z.2 v1.1 hk v2] at v1
  exact ⟨z, rfl, v1, h2⟩
theorem down_iff {W D : Int} {dead : List ByteArray} (hD : 2 ≤ D) {ts : List Int} (hts : lC W D dead ts) {u : List Int} (hu : lC W D dead u) {n : Int} (hn : rd (FARD W D dead ts) (num D u) = n + 1) {v : List Int} (hv : v ∈ nbW D [] u) : rd (FARD W D dead ts) (num D v) ≥ 0 → rd (FARD W D dead ts) (num D v) < n + 1 → rd (FARD W D dead ts) (num D v) = n := fun h0 h1 => by
 have hk := nbW_kC hD u [] hu.1 v hv
 obtain ⟨b1, b2⟩ := kC_num (W := W) hD _ hk
 obtain ⟨z, z1, z2⟩ := FARD_C hD hts _ b1 b2 h0
 rw [kC_inj hD z v z1.1 hk z2] at z1
 have hs := nbL_sym dead u hu v (List.mem_filter.2 ⟨hv, by rw [z1.2]; rfl⟩)
 have := ((FARD_BJ hD hts).clo v z1 h0 (by simp) u hs).2
 omega
theorem ifa_l1 {W D : Int} {dead : List ByteArray} (hD : 2 ≤ D) {ts : List Int} (hts : lC W D dead ts) {u : List Int} (hu : lC W D dead u) {n : Nat} (hn : rd (FARD W D dead ts) (num D u) = (n : Int) + 1) {T : List Bool} {F : List Int} (hF : F = FARD W D dead ts) {out : List S59} (ho : out.length ≤ 1000000) {r : List S59 × Bool} {all : List S59} {st : List Int} {x : S59 × List Int} : ∀ (t p : List (S59 × List Int)), all = (p ++ t).map (·.1) → st = (p ++ t).map (fun y => num D y.2) → (∀ y ∈ t, y.2 ∈ nbW D [] u) → (p ++ t).length ≤ 1000 →
  t.find? (hit D F n) = some x → Ev (fun k => Fd.l0 k F (num D x.2) (out ++ [x.1]) all W D T) r → Ev (fun k => Fd.l1 k F (num D u) out all st (st.length : Int) (p.length : Int) W D T) r
 | [], p, _, _, _, _, hf, _ => by cases hf
 | y :: t, p, ha, hs, hm, hl, hf, h => by
  have hC := lC_num (W := W) hD dead
  obtain ⟨c1, c2⟩ := hC u hu
  have hy := hm y (List.mem_cons_self ..)
  obtain ⟨b1, b2⟩ := kC_num (W := W) hD _ (nbW_kC hD u [] hu.1 _ hy)
  have hfl : F.length = (pw D W.toNat).toNat := by
   rw [hF]
   exact (bfs_BI hC (nbL_C hD dead) _ _ _ (start_BI (N := (pw D W.toNat).toNat) hC hts).1).len
  have hrd : rd st (p.length : Int) = num D y.2 := by
   rw [hs, List.map_append, List.map_cons, show (p.length : Int) = ((p.map fun y => num D y.2).length : Int) by simp]; exact rd_mid _ _ _
  have hrT : rd_T59 all (p.length : Int) = y.1 := by
   rw [ha, List.map_append, List.map_cons, show (p.length : Int) = ((p.map fun y => y.1).length : Int) by simp]; exact rdT_mid _ _ _
  have hsl : st.length = p.length + t.length + 1 := by rw [hs]; simp; omega
  have hal : all.length = p.length + t.length + 1 := by rw [ha]; simp; omega
  have next : t.find? (hit D F n) = some x → Ev (fun k => Fd.l1 k F (num D u) out all st (st.length : Int) ((p ++ [y]).length : Int) W D T) r := fun hf' =>
   ifa_l1 hD hts hu hn hF ho t (p ++ [y]) (by rw [← app_next]; exact ha) (by rw [← app_next]; exact hs) (fun z hz => hm z (List.mem_cons_of_mem _ hz)) (by rw [← app_next]; exact hl) hf' h
  refine Ev.succ ?_
  simp only [Fd.l1]
  refine Ev.pos (by omega) (Ev.pos (by omega) (Ev.pos (by omega) ?_))
  rw [hrd, hrT, len_next p y (by simp at hl; omega)]
  refine Ev.pos b1 (Ev.pos (by omega) ?_)
  rw [List.find?_cons] at hf
  by_cases hh : hit D F n y = true
  ·rw [hh] at hf
   injection hf with hf
   have hv : rd F (num D y.2) = n := of_decide_eq_true hh
   refine Ev.pos (by omega) (Ev.pos c1 (Ev.pos (by omega) ?_))
   rw [← hF] at hn
   refine Ev.pos (by omega) (Ev.pos (by omega) (Ev.pos (by omega) ?_))
   rw [← hf] at h
   exact h
  ·rw [Bool.eq_false_iff.2 hh] at hf
   have hne : rd F (num D y.2) ≠ n := fun e => hh (decide_eq_true e)
   by_cases h0 : rd F (num D y.2) ≥ 0
   ·refine Ev.pos h0 (Ev.pos c1 (Ev.pos (by omega) (Ev.neg (fun h1 => hne ?_) (next hf))))
    rw [hF] at h0 h1 ⊢
    exact down_iff hD hts hu hn hy h0 (by omega)
   ·exact Ev.neg h0 (next hf)
theorem ifa_l0 {W D : Int} {dead : List ByteArray} (hg : good W D = true) {ts : List Int} (hts : lC W D dead ts) {T : List Bool} : ∀ (n : Nat) (u : List Int) (out : List S59), lC W D dead u → rd (FARD W D dead ts) (num D u) = n → out.length + n ≤ 1000000 →
  Ev (fun k => Fd.l0 k (FARD W D dead ts) (num D u) out (allT 0 W.toNat) W D T) (wayF D (FARD W D dead ts) n u out, true)
 | 0, u, out, hu, hn, ho => by
  obtain ⟨g1, g2, g3, g4⟩ := good_iff.1 hg
  obtain ⟨b1, b2⟩ := lC_num (W := W) g3 dead _ hu
  have hlen := FARD_len hg hts
  refine Ev.succ ?_
  simp only [Fd.l0]
  exact Ev.pos b1 (Ev.pos (by omega) (Ev.neg (by omega) (Ev.now _)))
 | n + 1, u, out, hu, hn, ho => by
  obtain ⟨g1, g2, g3, g4⟩ := good_iff.1 hg
  obtain ⟨b1, b2⟩ := lC_num (W := W) g3 dead _ hu
  have hlen := FARD_len hg hts
  have hul := hu.1.2
  obtain ⟨x, x1, x2, x3⟩ := hit_ex g3 hts hu (n := n) (by omega)
  refine Ev.succ ?_
  simp only [Fd.l0]
  refine Ev.pos b1 (Ev.pos (by omega) (Ev.pos (by omega) (Ev.bind (steps_ev hg hu.1 T) ?_)))
  have e1 : allT 0 W.toNat = (nbT D [] u).map (·.1) := by rw [nbT_fst, show u.length = W.toNat by omega]; rfl
  have e2 : (nbW D [] u).map (num D) = (nbT D [] u).map (fun y => num D y.2) := by rw [← nbT_snd, List.map_map]; rfl
  have e3 : (nbT D [] u).length ≤ 1000 := by
   have : ((nbT D [] u).map (·.2)).length = (nbW D [] u).length := by rw [nbT_snd]
   rw [List.length_map, nbW_length] at this
   omega
  refine ifa_l1 g3 hts hu (n := n) (by omega) rfl (by omega) (nbT D [] u) [] e1 e2 (fun y hy => by rw [← nbT_snd]; exact List.mem_map.2 ⟨y, hy, rfl⟩) e3 x1 ?_
  have := ifa_l0 hg hts (T := T) n x.2 (out ++ [x.1]) x2 x3 (by rw [List.length_append, List.length_singleton]; omega)
  rw [show wayF D (FARD W D dead ts) (n + 1) u out = wayF D (FARD W D dead ts) n x.2 (out ++ [x.1]) by simp only [wayF]; rw [x1]]
  exact this
def FirstAroundM (W D : Int) (dead : List ByteArray) (s t : ByteArray) : List S59 × Bool :=
 if liveM W D dead [s, t] = true then (if rd (FARD W D dead (dgs t)) (num D (dgs s)) < 0 then ([], false) else (wayF D (FARD W D dead (dgs t)) (rd (FARD W D dead (dgs t)) (num D (dgs s))).toNat (dgs s) [], true)) else ([], false)
theorem FirstAround_i (W D : Int) (dead : List ByteArray) (s t : ByteArray) (hl : dead.length ≤ 1048576) (hs : ∀ s ∈ dead, s.size ≤ 1048576) (hs2 : s.size ≤ 1048576) (ht2 : t.size ≤ 1048576) : Ev (fun k => Fd.f k W D dead s t) (FirstAroundM W D dead s t) := by
 unfold Fd.f FirstAroundM
 refine Ev.bind (areLive_ev W D dead [s, t] hl hs (by simp) (fun x hx => by simp at hx; rcases hx with rfl | rfl <;> assumption)) ?_
 by_cases h : liveM W D dead [s, t] = true
 ·obtain ⟨h1, h2⟩ := two_live h
  obtain ⟨hg, hp, hd, e1, l1⟩ := live_all h1
  obtain ⟨_, _, _, e2, l2⟩ := live_all h2
  obtain ⟨g1, g2, g3, g4⟩ := good_iff.1 hg
  have hC := lC_num (W := W) g3 dead
  obtain ⟨c1, c2⟩ := hC _ l1
  have hlen := FARD_len hg l2
  have hb : BI (pw D W.toNat).toNat (lC W D dead) (FARD W D dead (dgs t)) [] := FARD_BI hg l2
  have hle : rd (FARD W D dead (dgs t)) (num D (dgs s)) ≤ 1000 := by
   have := (BI_rd (far := FARD W D dead (dgs t)) hb c1 c2).2
   omega
  have h3 := farOf_ev hg hl hd hp l2
  have hn1 := number_ev (W := W) ⟨g3, g4⟩ l1.1.1 (by have := l1.1.2; omega)
  rw [← e2] at h3
  rw [← e1] at hn1
  rw [h]
  refine Ev.pos rfl (Ev.bind h3 (Ev.bind hn1 (Ev.bind (trnA_ev (by omega) (by omega)) (Ev.pos c1 (Ev.pos (by simp only; omega) ?_)))))
  simp only [if_true]
  by_cases hneg : rd (FARD W D dead (dgs t)) (num D (dgs s)) < 0
  ·rw [if_pos hneg]
   exact Ev.pos hneg (Ev.now _)
  ·rw [if_neg hneg]
   exact Ev.neg hneg (ifa_l0 hg l2 _ (dgs s) [] l1 (by omega) (by simp only [List.length_nil]; omega))
 ·rw [Bool.eq_false_iff.2 h]
  exact Ev.neg (by simp) (Ev.now _)
theorem sfa_end {W D : Int} {F : List Int} {t : ByteArray} {out : List S59} {v : ByteArray} {r : List S59 × Bool} {i : Int} (h : Ev (fun k => Fb.l0 k t F out v W D) r) : Ev (fun k => Fb.l1 k t F out v true i W D) r := by
 refine Ev.succ ?_
 simp only [Fb.l1]
 by_cases hi : i < W
 ·refine Ev.pos hi (Ev.succ ?_)
  simp only [Fb.j2]
  exact Ev.neg (by simp) h
 ·refine Ev.neg hi (Ev.succ ?_)
  simp only [Fb.j2]
  exact Ev.neg (by simp) h
theorem sfa_l1 {W D : Int} {dead : List ByteArray} (hg : good W D = true) {ts : List Int} (hts : lC W D dead ts) {u : List Int} (hu : lC W D dead u) {n : Nat} (hn : rd (FARD W D dead ts) (num D u) = (n : Int) + 1) (hn2 : n ≤ 1000000) {out : List S59} (ho : out.length ≤ 1000000) {r : List S59 × Bool} {goal : ByteArray} {x : S59 × List Int} : ∀ (t p : List Int), u = p ++ t →
  (nbT D p t).find? (hit D (FARD W D dead ts) n) = some x → Ev (fun k => Fb.l0 k goal (FARD W D dead ts) (out ++ [x.1]) (txt x.2) W D) r → Ev (fun k => Fb.l1 k goal (FARD W D dead ts) out (txt u) false (p.length : Int) W D) r
 | [], p, _, hf, _ => by cases hf
 | d :: t, p, hp, hf, h => by
  obtain ⟨g1, g2, g3, g4⟩ := good_iff.1 hg
  have hlen := FARD_len hg hts
  have hul := hu.1.2
  have hpl : (p.length : Int) < W := by rw [← hul, hp]; exact len_mid p t d
  obtain ⟨c1, c2⟩ := lC_num (W := W) g3 dead _ hu
  have t1 : turnM D u (p.length : Int) 1 = p ++ ((d + 1) % D) :: t := by rw [hp]; exact nbW_turn D p t d 1
  have t2 : turnM D u (p.length : Int) (-1) = p ++ ((d - 1) % D) :: t := by rw [hp]; exact nbW_turn D p t d (-1)
  have k1 : kC W D (turnM D u (p.length : Int) 1) := ⟨turnM_ok (by omega) hu.1.1 _ _, by rw [turnM_length]; exact hul⟩
  have k2 : kC W D (turnM D u (p.length : Int) (-1)) := ⟨turnM_ok (by omega) hu.1.1 _ _, by rw [turnM_length]; exact hul⟩
  have nu := whNumber_ev (W := W) ⟨g3, g4⟩ hu.1.1 (by omega)
  simp only [nbT] at hf
  rw [List.find?_cons] at hf
  -- a round of the inner loop that goes on
  have miss : ∀ (j b : Int) (v : List Int), (j = 0 ∧ b = 1) ∨ (j = 1 ∧ b = -1) → v = turnM D u (p.length : Int) b → kC W D v → ¬ rd (FARD W D dead ts) (num D v) = n → Ev (fun k => Fb.l2 k goal (FARD W D dead ts) out (txt u) false (p.length : Int) [1, -1] 2 (j + 1) W D) r →
    Ev (fun k => Fb.l2 k goal (FARD W D dead ts) out (txt u) false (p.length : Int) [1, -1] 2 j W D) r := fun j b v hj hv hk hne hh => by
   obtain ⟨b1, b2⟩ := kC_num (W := W) g3 _ hk
   have hrj : rd [1, -1] j = b := by rcases hj with ⟨rfl, rfl⟩ | ⟨rfl, rfl⟩ <;> rfl
   refine Ev.succ ?_
   simp only [Fb.l2]
   refine Ev.pos (by omega) (Ev.pos (by omega) (Ev.pos (by simp; omega) ?_))
   rw [hrj, wrap_id (x := j + 1) (by omega) (by omega)]
   refine Ev.bind (whMake_ev ⟨g3, g4⟩ hu.1.1 (by omega) (by omega) (by omega) (by omega)) (Ev.neg (by simp) ?_)
   rw [← hv]
   refine Ev.bind (whNumber_ev ⟨g3, g4⟩ hk.1 (by have := hk.2; omega)) (Ev.pos b1 (Ev.pos (by omega) (Ev.bind nu (Ev.pos c1 (Ev.pos (by omega) ?_)))))
   rw [hn, wrap_id (x := (n : Int) + 1 - 1) (by omega) (by omega)]
   exact Ev.neg (by omega) hh
  have take : ∀ (j b : Int) (v : List Int), (j = 0 ∧ b = 1) ∨ (j = 1 ∧ b = -1) → v = turnM D u (p.length : Int) b → kC W D v → rd (FARD W D dead ts) (num D v) = n → Ev (fun k => Fb.l2 k goal (FARD W D dead ts) (out ++ [⟨p.length, b⟩]) (txt v) true (p.length : Int) [1, -1] 2 (j + 1) W D) r →
    Ev (fun k => Fb.l2 k goal (FARD W D dead ts) out (txt u) false (p.length : Int) [1, -1] 2 j W D) r := fun j b v hj hv hk he hh => by
   obtain ⟨b1, b2⟩ := kC_num (W := W) g3 _ hk
   have hrj : rd [1, -1] j = b := by rcases hj with ⟨rfl, rfl⟩ | ⟨rfl, rfl⟩ <;> rfl
   refine Ev.succ ?_
   simp only [Fb.l2]
   refine Ev.pos (by omega) (Ev.pos (by omega) (Ev.pos (by simp; omega) ?_))
   rw [hrj, wrap_id (x := j + 1) (by omega) (by omega)]
   refine Ev.bind (whMake_ev ⟨g3, g4⟩ hu.1.1 (by omega) (by omega) (by omega) (by omega)) (Ev.neg (by simp) ?_)
   rw [← hv]
   refine Ev.bind (whNumber_ev ⟨g3, g4⟩ hk.1 (by have := hk.2; omega)) (Ev.pos b1 (Ev.pos (by omega) (Ev.bind nu (Ev.pos c1 (Ev.pos (by omega) ?_)))))
   rw [hn, wrap_id (x := (n : Int) + 1 - 1) (by omega) (by omega)]
   exact Ev.pos (by omega) (Ev.pos (by omega) hh)
  have stop : ∀ (o : List S59) (v : ByteArray) (dn : Bool), Ev (fun k => Fb.l1 k goal (FARD W D dead ts) o v dn ((p.length : Int) + 1) W D) r → Ev (fun k => Fb.l2 k goal (FARD W D dead ts) o v dn (p.length : Int) [1, -1] 2 2 W D) r := fun o v dn hh => by
   refine Ev.succ ?_
   simp only [Fb.l2]
   rw [wrap_id (x := (p.length : Int) + 1) (by omega) (by omega)]
   exact Ev.neg (by omega) hh
  refine Ev.succ ?_
  simp only [Fb.l1]
  refine Ev.pos hpl (Ev.succ ?_)
  simp only [Fb.j2]
  refine Ev.pos rfl (Ev.bind0 rfl ?_)
  show Ev (fun k => Fb.l2 k goal (FARD W D dead ts) out (txt u) false (p.length : Int) [1, -1] 2 0 W D) r
  by_cases h1 : rd (FARD W D dead ts) (num D (turnM D u (p.length : Int) 1)) = n
  ·rw [t1] at h1
   rw [show hit D (FARD W D dead ts) n ((⟨p.length, 1⟩ : S59), p ++ ((d + 1) % D) :: t) = true from decide_eq_true h1] at hf
   injection hf with hf
   refine take 0 1 _ (.inl ⟨rfl, rfl⟩) rfl k1 (by rw [t1]; exact h1) ?_
   -- the second round is passed by
   refine Ev.succ ?_
   simp only [Fb.l2]
   refine Ev.pos (by omega) (Ev.pos (by omega) (Ev.pos (by simp) ?_))
   refine Ev.bind (whMake_ev ⟨g3, g4⟩ k1.1 (by have := k1.2; omega) (by omega) (by have := k1.2; omega) (by decide)) (Ev.pos trivial ?_)
   rw [wrap_id (x := (0 : Int) + 1 + 1) (by omega) (by omega)]
   refine stop _ _ true (sfa_end ?_)
   rw [t1]
   rw [← hf] at h
   exact h
  ·refine miss 0 1 _ (.inl ⟨rfl, rfl⟩) rfl k1 h1 ?_
   rw [t1] at h1
   rw [show hit D (FARD W D dead ts) n ((⟨p.length, 1⟩ : S59), p ++ ((d + 1) % D) :: t) = false from decide_eq_false h1] at hf
   simp only at hf
   rw [List.find?_cons] at hf
   by_cases h2 : rd (FARD W D dead ts) (num D (turnM D u (p.length : Int) (-1))) = n
   ·rw [t2] at h2
    rw [show hit D (FARD W D dead ts) n ((⟨p.length, -1⟩ : S59), p ++ ((d - 1) % D) :: t) = true from decide_eq_true h2] at hf
    injection hf with hf
    refine take (0 + 1) (-1) _ (.inr ⟨rfl, rfl⟩) rfl k2 (by rw [t2]; exact h2) ?_
    refine stop _ _ true (sfa_end ?_)
    rw [t2]
    rw [← hf] at h
    exact h
   ·refine miss (0 + 1) (-1) _ (.inr ⟨rfl, rfl⟩) rfl k2 h2 ?_
    rw [t2] at h2
    rw [show hit D (FARD W D dead ts) n ((⟨p.length, -1⟩ : S59), p ++ ((d - 1) % D) :: t) = false from decide_eq_false h2] at hf
    simp only at hf
    refine stop _ _ false ?_
    have := sfa_l1 hg hts hu hn hn2 ho (goal := goal) t (p ++ [d]) (by rw [hp]; simp) hf h
    rw [List.length_append, List.length_singleton] at this
    exact this
theorem sfa_l0 {W D : Int} {dead : List ByteArray} (hg : good W D = true) {ts : List Int} (hts : lC W D dead ts) : ∀ (n : Nat) (u : List Int) (out : List S59), lC W D dead u → rd (FARD W D dead ts) (num D u) = n → out.length + n ≤ 1000000 →
  Ev (fun k => Fb.l0 k (txt ts) (FARD W D dead ts) out (txt u) W D) (wayF D (FARD W D dead ts) n u out, true)
 | 0, u, out, hu, hn, ho => by
  obtain ⟨g1, g2, g3, g4⟩ := good_iff.1 hg
  have := (FARD_BJ g3 hts).zer u hu hn
  refine Ev.succ ?_
  simp only [Fb.l0]
  exact Ev.pos (by rw [this]) (Ev.now _)
 | n + 1, u, out, hu, hn, ho => by
  obtain ⟨g1, g2, g3, g4⟩ := good_iff.1 hg
  obtain ⟨x, x1, x2, x3⟩ := hit_ex g3 hts hu (n := n) (by omega)
  have h0 := (FARD_BJ g3 hts).src0
  refine Ev.succ ?_
  simp only [Fb.l0]
  refine Ev.neg (fun e => ?_) ?_
  ·have := txt_inj (hu.1.1.le g4) (hts.1.1.le g4) (toList_inj.1 e)
   rw [this] at hn
   omega
  refine sfa_l1 hg hts hu (n := n) (by omega) (by omega) (by omega) u [] rfl x1 ?_
  have := sfa_l0 hg hts n x.2 (out ++ [x.1]) x2 x3 (by rw [List.length_append, List.length_singleton]; omega)
  rw [show wayF D (FARD W D dead ts) (n + 1) u out = wayF D (FARD W D dead ts) n x.2 (out ++ [x.1]) by simp only [wayF]; rw [x1]]
  exact this
theorem FirstAround_s (W D : Int) (dead : List ByteArray) (s t : ByteArray) (hl : dead.length ≤ 1048576) (hs : ∀ s ∈ dead, s.size ≤ 1048576) (hs2 : s.size ≤ 1048576) (ht2 : t.size ≤ 1048576) : Ev (fun k => Fb.f k W D dead s t) (FirstAroundM W D dead s t) := by
 unfold Fb.f FirstAroundM
 refine Ev.bind (deTwo_ev W D dead s t hl hs hs2 ht2) ?_
 by_cases h : liveM W D dead [s, t] = true
 ·obtain ⟨h1, h2⟩ := two_live h
  obtain ⟨hg, hp, hd, e1, l1⟩ := live_all h1
  obtain ⟨_, _, _, e2, l2⟩ := live_all h2
  obtain ⟨g1, g2, g3, g4⟩ := good_iff.1 hg
  have hC := lC_num (W := W) g3 dead
  obtain ⟨c1, c2⟩ := hC _ l1
  have hlen := FARD_len hg l2
  have hb : BI (pw D W.toNat).toNat (lC W D dead) (FARD W D dead (dgs t)) [] := FARD_BI hg l2
  have hle : rd (FARD W D dead (dgs t)) (num D (dgs s)) ≤ 1000 := by
   have := (BI_rd (far := FARD W D dead (dgs t)) hb c1 c2).2
   omega
  have h3 := deFar_ev hg hl hp l2
  have hn1 := whNumber_ev (W := W) ⟨g3, g4⟩ l1.1.1 (by have := l1.1.2; omega)
  rw [← e2] at h3
  rw [← e1] at hn1
  rw [h]
  refine Ev.pos rfl (Ev.bind h3 (Ev.bind hn1 (Ev.pos c1 ?_)))
  simp only [if_true, FARS_fst]
  refine Ev.pos (by omega) ?_
  by_cases hneg : rd (FARD W D dead (dgs t)) (num D (dgs s)) < 0
  ·rw [if_pos hneg]
   exact Ev.pos hneg (Ev.now _)
  ·rw [if_neg hneg]
   refine Ev.neg hneg ?_
   have := sfa_l0 hg l2 (rd (FARD W D dead (dgs t)) (num D (dgs s))).toNat (dgs s) [] l1 (by omega) (by simp only [List.length_nil]; omega)
   rw [← e1, ← e2] at this
   exact this
 ·rw [Bool.eq_false_iff.2 h]
  exact Ev.neg (by simp) (Ev.now _)
theorem FirstAround_len (W D : Int) (dead : List ByteArray) (s t : ByteArray) : (FirstAroundM W D dead s t).1.length ≤ 1000000 := by
 unfold FirstAroundM
 by_cases h : liveM W D dead [s, t] = true
 ·rw [if_pos h]
  obtain ⟨h1, h2⟩ := two_live h
  obtain ⟨hg, hp, hd, e1, l1⟩ := live_all h1
  obtain ⟨_, _, _, e2, l2⟩ := live_all h2
  obtain ⟨g1, g2, g3, g4⟩ := good_iff.1 hg
  have hC := lC_num (W := W) g3 dead
  obtain ⟨c1, c2⟩ := hC _ l1
  have hb : BI (pw D W.toNat).toNat (lC W D dead) (FARD W D dead (dgs t)) [] := FARD_BI hg l2
  have hle := (BI_rd (far := FARD W D dead (dgs t)) hb c1 c2).2
  split
  ·simp
  ·have := wayF_len D (FARD W D dead (dgs t)) (rd (FARD W D dead (dgs t)) (num D (dgs s))).toNat (dgs s) []
   simp only [List.length_nil] at this
   show (wayF D (FARD W D dead (dgs t)) (rd (FARD W D dead (dgs t)) (num D (dgs s))).toNat (dgs s) []).length ≤ _
   omega
 ·rw [if_neg h]; simp
end Go.Proofs.Ytajhahafgnefcaa.L
