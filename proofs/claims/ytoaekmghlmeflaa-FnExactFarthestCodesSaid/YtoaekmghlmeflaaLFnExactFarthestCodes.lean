/- What the printed functions that FnExactFarthestCodes reaches come to: lemmas for its plain law. -/
import Derived.Test.YtoaekmghlmeflaaMath
import Derived.Test.YtoaekmghlmeflaaQ1
import Derived.Test.YtoaekmghlmeflaaQ2
import Derived.Test.YtoaekmghlmeflaaQ3
import Derived.Test.YtoaekmghlmeflaaQ4
import Derived.Test.YtoaekmghlmeflaaQ6
import Derived.Test.YtoaekmghlmeflaaQ7
import Derived.Test.YtoaekmghlmeflaaQ8
import Derived.Test.YtoaekmghlmeflaaQ9
import Derived.Test.YtoaekmghlmeflaaQ13
import Derived.Test.YtoaekmghlmeflaaQ14
import Derived.Test.YtoaekmghlmeflaaQ18
import Derived.Test.YtoaekmghlmeflaaQ29
import Derived.Test.YtoaekmghlmeflaaQ30
import Derived.Test.YtoaekmghlmeflaaQ31
import Derived.Test.YtoaekmghlmeflaaQ32
import Derived.Test.YtoaekmghlmeflaaQ33
import Derived.Test.YtoaekmghlmeflaaQ34
namespace Go.Proofs.Ytoaekmghlmeflaa.L
open Go.RowKit Go.Proofs.YtoaekmghlmeflaaW.PrintWords Go.Proofs.YtoaekmghlmeflaaW.PrintMore Go.Proofs.Ytoaekmghlmeflaa.M Go.Proofs.Ytoaekmghlmeflaa.Q
set_option linter.unusedVariables false
set_option linter.unusedSimpArgs false
theorem whGood_f (W D : Int) : spec_whGood.f W D = some (good W D) := by
  unfold spec_whGood.f spec_l1In.f good
  by_cases h1 : 1 ≤ W <;> by_cases h2 : W ≤ 6 <;> by_cases h3 : 2 ≤ D <;> by_cases h4 : D ≤ 10 <;> simp [h1, h2, h3, h4]
theorem IsLock_i (W D : Int) : impl_IsLock.f W D = some (good W D) := by
  unfold impl_IsLock.f impl_within.f good
  by_cases h1 : 1 ≤ W <;> by_cases h2 : W ≤ 6 <;> by_cases h3 : 2 ≤ D <;> by_cases h4 : D ≤ 10 <;> simp [h1, h2, h3, h4]
theorem l1In_f (n lo hi : Int) : spec_l1In.f n lo hi = some (decide (lo ≤ n ∧ n ≤ hi)) := by
  unfold spec_l1In.f
  by_cases h1 : lo ≤ n <;> by_cases h2 : n ≤ hi <;> simp [h1, h2]
theorem within_f (n lo hi : Int) : impl_within.f n lo hi = some (decide (lo ≤ n ∧ n ≤ hi)) := by
  unfold impl_within.f
  by_cases h1 : lo ≤ n <;> by_cases h2 : n ≤ hi <;> simp [h1, h2]

theorem whCode_l0 {W D : Int} (hD : 2 ≤ D ∧ D ≤ 10) {s : ByteArray} (hs : s.size ≤ 1048576) : ∀ (t p : List Int), bys s = p ++ t → Ev (fun k => spec_whCode.l0 k s (p.length : Int) W D) (t.all fun b => decide (48 ≤ b ∧ b < 48 + D))
  | [], p, e => by
    have el : p.length = s.size := by rw [← bys_length, e]; simp
    refine Ev.succ ?_
    simp only [spec_whCode.l0]
    exact Ev.neg (by omega) (Ev.now _)
  | x :: t, p, e => by
    have el : p.length + (t.length + 1) = s.size := by rw [← bys_length, e]; simp
    have hx := bys_range s x (by rw [e]; simp)
    refine Ev.succ ?_
    simp only [spec_whCode.l0]
    refine Ev.pos (by omega) (Ev.pos (by omega) ?_)
    rw [bt_bys, e, rd_mid, wrap_id (x := x) (by omega) (by omega), wrap_id (x := x - 48) (by omega) (by omega), wrap_id (x := D - 1) (by omega) (by omega), l1In_f]
    refine Ev.bind0 rfl ?_
    by_cases hb : 48 ≤ x ∧ x < 48 + D
    · refine Ev.pos (by simp; omega) ?_
      rw [show wrap64 ((p.length : Int) + 1) = ((p ++ [x]).length : Int) from len_next p x (by omega)]
      simp only [List.all_cons, hb, and_self, decide_true, Bool.true_and]
      exact whCode_l0 hD hs t (p ++ [x]) (by rw [e]; simp)
    · refine Ev.neg (by simp; omega) ?_
      rw [List.all_cons, decide_eq_false hb, Bool.false_and]
      exact Ev.now _
theorem whCode_ev {W D : Int} (h : good W D = true) (s : ByteArray) (hs : s.size ≤ 1048576) : Ev (fun k => spec_whCode.f k W D s) (isC W D s) := by
  obtain ⟨a, b, c, d⟩ := good_iff.1 h
  unfold spec_whCode.f isC
  by_cases e : (s.size : Int) = W
  · refine Ev.pos e ?_
    rw [decide_eq_true e, Bool.true_and]
    exact whCode_l0 ⟨c, d⟩ hs (bys s) [] rfl
  · refine Ev.neg e ?_
    rw [decide_eq_false e, Bool.false_and]
    exact Ev.now _
theorem isText_l0 {W D : Int} (hD : 2 ≤ D ∧ D ≤ 10) {s : ByteArray} (hs : s.size ≤ 1048576) : ∀ (t p : List Int), bys s = p ++ t → Ev (fun k => impl_Lock_isText.l0 k s (s.size : Int) (p.length : Int) W D) (t.all fun b => decide (48 ≤ b ∧ b < 48 + D))
  | [], p, e => by
    have el : p.length = s.size := by rw [← bys_length, e]; simp
    refine Ev.succ ?_
    simp only [impl_Lock_isText.l0]
    exact Ev.neg (by omega) (Ev.now _)
  | x :: t, p, e => by
    have el : p.length + (t.length + 1) = s.size := by rw [← bys_length, e]; simp
    have hx := bys_range s x (by rw [e]; simp)
    refine Ev.succ ?_
    simp only [impl_Lock_isText.l0]
    refine Ev.pos (by omega) (Ev.pos (by omega) (Ev.pos (by omega) ?_))
    rw [bt_bys, e, rd_mid, wrap_id (x := x) (by omega) (by omega), wrap_id (x := 48 + D) (by omega) (by omega), wrap_id (x := 48 + D - 1) (by omega) (by omega), within_f]
    refine Ev.bind0 rfl ?_
    by_cases hb : 48 ≤ x ∧ x < 48 + D
    · refine Ev.pos (by simp; omega) ?_
      rw [show wrap64 ((p.length : Int) + 1) = ((p ++ [x]).length : Int) from len_next p x (by omega)]
      simp only [List.all_cons, hb, and_self, decide_true, Bool.true_and]
      exact isText_l0 hD hs t (p ++ [x]) (by rw [e]; simp)
    · refine Ev.neg (by simp; omega) ?_
      rw [List.all_cons, decide_eq_false hb, Bool.false_and]
      exact Ev.now _
theorem isCode_ev {W D : Int} (h : good W D = true) (s : ByteArray) (hs : s.size ≤ 1048576) : Ev (fun k => impl_Lock_isCode.f k W D s) (isC W D s) := by
  obtain ⟨a, b, c, d⟩ := good_iff.1 h
  unfold impl_Lock_isCode.f isC
  by_cases e : (s.size : Int) = W
  · refine Ev.pos e ?_
    rw [decide_eq_true e, Bool.true_and]
    refine Ev.bind (isText_l0 (W := W) ⟨c, d⟩ hs (bys s) [] rfl) (Ev.now _)
  · refine Ev.neg e ?_
    rw [decide_eq_false e, Bool.false_and]
    exact Ev.now _

theorem dgs_app {s : ByteArray} {p t : List Int} (e : bys s = p ++ t) : dgs s = (p.map fun b => (b - 48) % 256) ++ (t.map fun b => (b - 48) % 256) := by
  unfold dgs; rw [e, List.map_append]
theorem whDigits_l0 {s : ByteArray} (hs : s.size ≤ 1048576) : ∀ (t p : List Int), bys s = p ++ t → Ev (fun k => spec_whDigits.l0 k s (p.map fun b => (b - 48) % 256) (p.length : Int)) (dgs s)
  | [], p, e => by
    have el : p.length = s.size := by rw [← bys_length, e]; simp
    refine Ev.succ ?_
    simp only [spec_whDigits.l0]
    refine Ev.neg (by omega) (Ev.val ?_)
    rw [dgs_app e]; simp
  | x :: t, p, e => by
    have el : p.length + (t.length + 1) = s.size := by rw [← bys_length, e]; simp
    refine Ev.succ ?_
    simp only [spec_whDigits.l0]
    refine Ev.pos (by omega) (Ev.pos (by omega) (Ev.pos (by rw [List.length_map]; omega) ?_))
    rw [bt_bys, e, rd_mid, show wrap64 ((p.length : Int) + 1) = ((p ++ [x]).length : Int) from len_next p x (by omega)]
    have := whDigits_l0 hs t (p ++ [x]) (by rw [e]; simp)
    rw [List.map_append] at this
    exact this
theorem whDigits_ev (s : ByteArray) (hs : s.size ≤ 1048576) : Ev (fun k => spec_whDigits.f k s) (dgs s) := by
  unfold spec_whDigits.f
  exact whDigits_l0 hs (bys s) [] rfl
theorem digits_l0 {s : ByteArray} (hs : s.size ≤ 1048576) : ∀ (t p : List Int), bys s = p ++ t → Ev (fun k => impl_digits.l0 k s (p.map fun b => (b - 48) % 256) (s.size : Int) (p.length : Int)) (dgs s)
  | [], p, e => by
    have el : p.length = s.size := by rw [← bys_length, e]; simp
    refine Ev.succ ?_
    simp only [impl_digits.l0]
    refine Ev.neg (by omega) (Ev.val ?_)
    rw [dgs_app e]; simp
  | x :: t, p, e => by
    have el : p.length + (t.length + 1) = s.size := by rw [← bys_length, e]; simp
    refine Ev.succ ?_
    simp only [impl_digits.l0]
    refine Ev.pos (by omega) (Ev.pos (by omega) (Ev.pos (by omega) (Ev.pos (by rw [List.length_map]; omega) ?_)))
    rw [bt_bys, e, rd_mid, show wrap64 ((p.length : Int) + 1) = ((p ++ [x]).length : Int) from len_next p x (by omega)]
    have := digits_l0 hs t (p ++ [x]) (by rw [e]; simp)
    rw [List.map_append] at this
    exact this
theorem digits_ev (s : ByteArray) (hs : s.size ≤ 1048576) : Ev (fun k => impl_digits.f k s) (dgs s) := by
  unfold impl_digits.f
  exact digits_l0 hs (bys s) [] rfl
theorem l1Num_ev {d : Int} (h0 : 0 ≤ d) (h1 : d < 10) : Ev (fun k => spec_l1Num.f k d) (txt [d]) := by
  refine Ev.succ ?_
  simp only [spec_l1Num.f]
  refine Ev.pos h1 (Ev.val ?_)
  rw [wrap_id (by omega) (by omega), show (48 + d) % 256 = 48 + d by omega]; rfl
theorem text_l0 : ∀ (t p : List Int), Ok 10 (p ++ t) → (p ++ t).length ≤ 1048576 → Ev (fun k => impl_text.l0 k (p.map (48 + ·)) (p ++ t) ((p ++ t).length : Int) (p.length : Int)) (txt (p ++ t))
  | [], p, h, hl => by
    refine Ev.succ ?_
    simp only [impl_text.l0]
    refine Ev.neg (len_end p) (Ev.val (by unfold txt; simp))
  | x :: t, p, h, hl => by
    have hx := (Ok.cons.1 (Ok.append.1 h).2).1
    rw [List.length_append, List.length_cons] at hl
    refine Ev.succ ?_
    simp only [impl_text.l0]
    refine Ev.pos (len_mid p t x) (Ev.pos (by omega) (Ev.pos (len_mid p t x) (Ev.pos (by rw [List.length_map]; omega) ?_)))
    rw [rd_mid, wrap_id (x := 48 + x) (by omega) (by omega), show (48 + x) % 256 = 48 + x by omega, len_next p x (by omega), app_next p t x]
    have := text_l0 t (p ++ [x]) (by rw [← app_next p t x]; exact h) (by simp; omega)
    rw [List.map_append] at this
    exact this
theorem text_ev {ds : List Int} (h : Ok 10 ds) (hl : ds.length ≤ 1048576) : Ev (fun k => impl_text.f k ds) (txt ds) := by
  unfold impl_text.f
  exact text_l0 ds [] h hl

theorem l1Mod_f (k : Int) {n : Int} (h0 : 0 < n) (h1 : n ≤ 1000) : spec_l1Mod.f k n = some (k % n) := by
  unfold spec_l1Mod.f; rw [if_neg (by omega), tmod_around h0 h1]
theorem around_f (k : Int) {n : Int} (h0 : 0 < n) (h1 : n ≤ 1000) : impl_around.f k n = some (k % n) := by
  unfold impl_around.f; rw [if_neg (by omega), tmod_around h0 h1]
/-- How far two digits are apart. -/
def near (D a b : Int) : Int := mn ((b - a) % D) (D - (b - a) % D)
theorem whFar_f (W : Int) {D a b : Int} (h0 : 0 < D) (h1 : D ≤ 1000) (ha : -1000 ≤ a ∧ a ≤ 1000) (hb : -1000 ≤ b ∧ b ≤ 1000) : spec_whFar.f W D a b = some ((b - a) % D, (D - (b - a) % D) % D) := by
  have h3 := Int.emod_nonneg (b - a) (show D ≠ 0 by omega)
  have h4 := Int.emod_lt_of_pos (b - a) h0
  unfold spec_whFar.f
  rw [wrap_id (x := b - a) (by omega) (by omega), l1Mod_f _ h0 h1, Option.bind_some, if_neg (by omega), wrap_id (by omega) (by omega), Int.tmod_eq_emod_of_nonneg (by omega)]
theorem least_far {D a b : Int} (h0 : 0 < D) : spec_l1Least.f ((b - a) % D) ((D - (b - a) % D) % D) = some (near D a b) := by
  have h3 := Int.emod_nonneg (b - a) (show D ≠ 0 by omega)
  have h4 := Int.emod_lt_of_pos (b - a) h0
  unfold spec_l1Least.f near mn
  by_cases e : (b - a) % D = 0
  · rw [e]; simp; omega
  · rw [Int.emod_eq_of_lt (a := D - (b - a) % D) (by omega) (by omega)]
    by_cases h : (b - a) % D < D - (b - a) % D
    · rw [if_pos h, if_neg (by omega)]
    · rw [if_neg h]
      split
      · rfl
      · congr 1; omega
theorem gap_f (W : Int) {D a b : Int} (h0 : 0 < D) (h1 : D ≤ 1000) (ha : -1000 ≤ a ∧ a ≤ 1000) (hb : -1000 ≤ b ∧ b ≤ 1000) : impl_Lock_gap.f W D a b = some ((b - a) % D) := by
  unfold impl_Lock_gap.f
  rw [wrap_id (x := b - a) (by omega) (by omega), around_f _ h0 h1, Option.bind_some]
theorem near_f (W : Int) {D a b : Int} (h0 : 0 < D) (h1 : D ≤ 1000) (ha : -1000 ≤ a ∧ a ≤ 1000) (hb : -1000 ≤ b ∧ b ≤ 1000) : impl_Lock_near.f W D a b = some (near D a b) := by
  have h3 := Int.emod_nonneg (b - a) (show D ≠ 0 by omega)
  have h4 := Int.emod_lt_of_pos (b - a) h0
  unfold impl_Lock_near.f
  rw [gap_f W h0 h1 ha hb, Option.bind_some, wrap_id (by omega) (by omega)]; rfl
theorem whAsked_ev (W D : Int) (s : ByteArray) (hs : s.size ≤ 1048576) : Ev (fun k => spec_whAsked.f k W D s) (good W D && isC W D s) := by
  unfold spec_whAsked.f
  refine Ev.bind0 (whGood_f W D) ?_
  by_cases h : good W D = true
  · refine Ev.pos h (Ev.bind (whCode_ev h s hs) (Ev.val (by rw [h]; rfl)))
  · refine Ev.neg h (Ev.val (by simp [h]))
theorem has_l0 {W D : Int} (h : good W D = true) : ∀ (t p : List ByteArray), (∀ s ∈ t, s.size ≤ 1048576) → (p ++ t).length ≤ 1048576 → Ev (fun k => impl_has.l0 k (p ++ t) ((p ++ t).length : Int) (p.length : Int) W D) (t.all (isC W D))
  | [], p, hs, hl => by
    refine Ev.succ ?_
    simp only [impl_has.l0]
    refine Ev.neg (len_end p) (Ev.val (by simp))
  | x :: t, p, hs, hl => by
    rw [List.length_append, List.length_cons] at hl
    refine Ev.succ ?_
    simp only [impl_has.l0]
    refine Ev.pos (len_mid p t x) (Ev.pos (by omega) (Ev.pos (len_mid p t x) ?_))
    rw [rdOf_mid, len_next p x (by omega), app_next p t x]
    refine Ev.bind (isCode_ev h x (hs x (by simp))) ?_
    by_cases hx : isC W D x = true
    · refine Ev.pos hx ?_
      rw [List.all_cons, hx, Bool.true_and]
      exact has_l0 h t (p ++ [x]) (fun s hs' => hs s (by simp [hs'])) (by simp; omega)
    · refine Ev.neg hx (Ev.val ?_)
      simp [hx]
theorem has_ev (W D : Int) (l : List ByteArray) (hs : ∀ s ∈ l, s.size ≤ 1048576) (hl : l.length ≤ 1048576) : Ev (fun k => impl_has.f k W D l) (good W D && l.all (isC W D)) := by
  unfold impl_has.f
  refine Ev.bind0 (IsLock_i W D) ?_
  by_cases h : good W D = true
  · refine Ev.pos h ?_
    rw [h, Bool.true_and]
    exact has_l0 h l [] hs hl
  · refine Ev.neg h (Ev.val (by simp [h]))

theorem has1_ev (W D : Int) (s : ByteArray) (hs : s.size ≤ 1048576) : Ev (fun k => impl_has.f k W D [s]) (good W D && isC W D s) := by
  have := has_ev W D [s] (by simpa using hs) (by simp)
  simpa using this

theorem one_of {W D : Int} {s : ByteArray} (h : (good W D && isC W D s) = true) : (1 ≤ W ∧ W ≤ 6 ∧ 2 ≤ D ∧ D ≤ 10) ∧ s = txt (dgs s) ∧ Ok D (dgs s) ∧ ((dgs s).length : Int) = W := by
  obtain ⟨hg, h1⟩ := Bool.and_eq_true_iff.1 h
  have g := good_iff.1 hg
  obtain ⟨a1, a2, a3⟩ := code_of h1 g.2.2.2
  exact ⟨g, a1, a2, a3⟩
/-- The digits from j on that are farthest from d. -/
def ksel (D d : Int) : Nat → Nat → List Int
  | _, 0 => []
  | j, m + 1 => (if near D d (j : Int) = D / 2 then [(j : Int)] else []) ++ ksel D d (j + 1) m
theorem ksel_length (D d : Int) : ∀ m j : Nat, (ksel D d j m).length ≤ m
  | 0, j => by simp [ksel]
  | m + 1, j => by
    have := ksel_length D d m (j + 1)
    simp only [ksel, List.length_append]
    split <;> simp <;> omega
def fstep (D d : Int) (out : List ByteArray) : List ByteArray := out.flatMap fun s => (ksel D d 0 D.toNat).map fun k => s ++ txt [k]
theorem fstep_cons (D d : Int) (s : ByteArray) (out : List ByteArray) : fstep D d (s :: out) = ((ksel D d 0 D.toNat).map fun k => s ++ txt [k]) ++ fstep D d out := by simp [fstep]
theorem fstep_length {D : Int} (hD : 2 ≤ D ∧ D ≤ 10) (d : Int) (out : List ByteArray) : (fstep D d out).length ≤ 10 * out.length := by
  induction out with
  | nil => simp [fstep]
  | cons s out ih =>
    have := ksel_length D d D.toNat 0
    rw [fstep_cons, List.length_append, List.length_map, List.length_cons]
    omega
theorem fstep_size {D d : Int} {n : Nat} {out : List ByteArray} (h : ∀ s ∈ out, s.size ≤ n) : ∀ s ∈ fstep D d out, s.size ≤ n + 1 := by
  intro s hs
  obtain ⟨t, ht, hk⟩ := List.mem_flatMap.1 hs
  obtain ⟨k, _, rfl⟩ := List.mem_map.1 hk
  rw [ByteArray.size_append, txt_size]
  have := h t ht
  simp; omega
def farM (D : Int) (ds : List Int) (out : List ByteArray) : List ByteArray := ds.foldl (fun o d => fstep D d o) out
theorem half_f {D : Int} (hD : 2 ≤ D ∧ D ≤ 10) : wrap64 (Int.tdiv D 2) = D / 2 := by
  rw [Int.tdiv_eq_ediv_of_nonneg (by omega), wrap_id (by omega) (by omega)]
theorem fc_sl2 {W D : Int} (hD : 2 ≤ D ∧ D ≤ 10) {x7 d X30 X31 X36 X37 : Int} {X29 : List Int} {X35 : List ByteArray} {s : ByteArray} (hd : 0 ≤ d ∧ d < D) (hs : s.size ≤ 1000) {r : List ByteArray × Int × Bool} : ∀ (m j : Nat) (acc : List ByteArray), ((j + m : Nat) : Int) = D → acc.length + m ≤ 1000000000 →
    Ev (fun k => spec_FarthestCodes.l1 k x7 d (acc ++ (ksel D d j m).map fun k => s ++ txt [k]) X29 X30 X31 X35 X36 (wrap64 (X37 + 1)) W D) r →
    Ev (fun k => spec_FarthestCodes.l2 k x7 d acc s (j : Int) X29 X30 X31 X35 X36 X37 W D) r
  | 0, j, acc, e, hl, h => by
    refine Ev.succ ?_
    simp only [spec_FarthestCodes.l2]
    refine Ev.neg (by omega) ?_
    simpa [ksel] using h
  | m + 1, j, acc, e, hl, h => by
    refine Ev.succ ?_
    simp only [spec_FarthestCodes.l2]
    refine Ev.pos (by omega) (Ev.bind0 (whFar_f W (by omega) (by omega) (by omega) (by omega)) (Ev.bind0 (least_far (by omega)) ?_))
    rw [half_f hD, show wrap64 ((j : Int) + 1) = ((j + 1 : Nat) : Int) by rw [wrap_id] <;> omega]
    by_cases hn : near D d (j : Int) = D / 2
    · refine Ev.pos hn (Ev.bind (l1Num_ev (by omega) (by omega)) (Ev.pos (by rw [txt_size]; simp; omega) (Ev.pos (by omega) ?_)))
      refine fc_sl2 hD hd hs m (j + 1) (acc ++ [s ++ txt [(j : Int)]]) (by omega) (by simp; omega) ?_
      simpa [ksel, hn] using h
    · refine Ev.neg hn ?_
      refine fc_sl2 hD hd hs m (j + 1) acc (by omega) (by omega) ?_
      simpa [ksel, hn] using h
theorem fc_sl1 {W D : Int} (hD : 2 ≤ D ∧ D ≤ 10) {x7 d X30 X31 : Int} {X29 : List Int} (hd : 0 ≤ d ∧ d < D) {r : List ByteArray × Int × Bool} : ∀ (t p acc : List ByteArray), (∀ s ∈ t, s.size ≤ 1000) → (p ++ t).length ≤ 10000000 → acc.length + 10 * t.length ≤ 100000000 →
    Ev (fun k => spec_FarthestCodes.l0 k x7 (acc ++ fstep D d t) X29 X30 (wrap64 (X31 + 1)) W D) r →
    Ev (fun k => spec_FarthestCodes.l1 k x7 d acc X29 X30 X31 (p ++ t) ((p ++ t).length : Int) (p.length : Int) W D) r
  | [], p, acc, hs, hl, ha, h => by
    refine Ev.succ ?_
    simp only [spec_FarthestCodes.l1]
    refine Ev.neg (len_end p) ?_
    simpa [fstep] using h
  | x :: t, p, acc, hs, hl, ha, h => by
    rw [List.length_append, List.length_cons] at hl
    rw [List.length_cons] at ha
    have hk := ksel_length D d D.toNat 0
    refine Ev.succ ?_
    simp only [spec_FarthestCodes.l1]
    refine Ev.pos (len_mid p t x) (Ev.pos (by omega) (Ev.pos (len_mid p t x) ?_))
    rw [rdOf_mid]
    refine fc_sl2 hD hd (hs x (by simp)) D.toNat 0 acc (by omega) (by omega) ?_
    rw [len_next p x (by omega), app_next p t x]
    refine fc_sl1 hD hd t (p ++ [x]) _ (fun s h' => hs s (by simp [h'])) (by simp; omega) (by simp; omega) ?_
    rw [fstep_cons, ← List.append_assoc] at h
    exact h
theorem fc_sl0 {W D : Int} (hD : 2 ≤ D ∧ D ≤ 10) {x7 : Int} : ∀ (t p : List Int) (out : List ByteArray), Ok D t → (p ++ t).length ≤ 6 → (∀ s ∈ out, s.size ≤ p.length) → out.length ≤ 10 ^ p.length →
    Ev (fun k => spec_FarthestCodes.l0 k x7 out (p ++ t) ((p ++ t).length : Int) (p.length : Int) W D) (farM D t out, x7, true)
  | [], p, out, ht, hl, hs, ho => by
    refine Ev.succ ?_
    simp only [spec_FarthestCodes.l0]
    exact Ev.neg (len_end p) (Ev.now _)
  | x :: t, p, out, ht, hl, hs, ho => by
    have hx := (Ok.cons.1 ht).1
    rw [List.length_append, List.length_cons] at hl
    have h10 : 10 ^ p.length ≤ 10 ^ 5 := Nat.pow_le_pow_right (by omega) (by omega)
    have hf := fstep_length hD x out
    refine Ev.succ ?_
    simp only [spec_FarthestCodes.l0]
    refine Ev.pos (len_mid p t x) (Ev.pos (by omega) (Ev.pos (len_mid p t x) ?_))
    rw [rd_mid]
    refine fc_sl1 hD hx out [] [] (fun s h => by have := hs s h; omega) (by simp; omega) (by simp; omega) ?_
    rw [len_next p x (by omega), app_next p t x, List.nil_append]
    exact fc_sl0 hD t (p ++ [x]) (fstep D x out) (Ok.cons.1 ht).2 (by simp; omega) (by have := fstep_size (D := D) (d := x) hs; simpa using this) (by simp [Nat.pow_succ]; omega)
def FarthestCodesM (W D : Int) (s : ByteArray) : List ByteArray × Int × Bool := if (good W D && isC W D s) = true then (farM D (dgs s) [⟨#[]⟩], D / 2 * W, true) else ([], 0, false)
theorem FarthestCodes_s (W D : Int) (s : ByteArray) (hs : s.size ≤ 1048576) : Ev (fun k => spec_FarthestCodes.f k W D s) (FarthestCodesM W D s) := by
  unfold spec_FarthestCodes.f FarthestCodesM
  refine Ev.bind (whAsked_ev W D s hs) ?_
  by_cases h : (good W D && isC W D s) = true
  · rw [if_pos h]
    obtain ⟨⟨a, b, c, d⟩, e1, o1, l1⟩ := one_of h
    have hm : 0 ≤ D / 2 * W ∧ D / 2 * W ≤ 5 * 6 := ⟨Int.mul_nonneg (by omega) (by omega), Int.mul_le_mul (by omega) b (by omega) (by omega)⟩
    refine Ev.pos h (Ev.bind (whDigits_ev s hs) ?_)
    rw [half_f ⟨c, d⟩, Int.mul_comm, wrap_id (x := D / 2 * W) (by omega) (by omega)]
    exact fc_sl0 ⟨c, d⟩ (dgs s) [] [⟨#[]⟩] o1 (by simp; omega) (by intro s hs; simp at hs; subst hs; simp [ByteArray.size]) (by simp)
  · rw [if_neg h]; exact Ev.neg h (Ev.now _)
theorem fc_il2 {W D : Int} (hD : 2 ≤ D ∧ D ≤ 10) {d X22 X23 X29 X30 : Int} {X21 : List Int} {X28 : List ByteArray} {s : ByteArray} (hd : 0 ≤ d ∧ d < D) (hs : s.size ≤ 1000) {r : List ByteArray × Int × Bool} : ∀ (m j : Nat) (acc : List ByteArray), ((j + m : Nat) : Int) = D → acc.length + m ≤ 1000000000 →
    Ev (fun k => impl_FarthestCodes.l1 k d (acc ++ (ksel D d j m).map fun k => s ++ txt [k]) X21 X22 X23 X28 X29 (wrap64 (X30 + 1)) W D) r →
    Ev (fun k => impl_FarthestCodes.l2 k d acc s X21 X22 X23 X28 X29 X30 D (j : Int) W D) r
  | 0, j, acc, e, hl, h => by
    refine Ev.succ ?_
    simp only [impl_FarthestCodes.l2]
    refine Ev.neg (by omega) ?_
    simpa [ksel] using h
  | m + 1, j, acc, e, hl, h => by
    refine Ev.succ ?_
    simp only [impl_FarthestCodes.l2]
    refine Ev.pos (by omega) (Ev.bind0 (near_f W (by omega) (by omega) (by omega) (by omega)) ?_)
    rw [half_f hD, show wrap64 ((j : Int) + 1) = ((j + 1 : Nat) : Int) by rw [wrap_id] <;> omega]
    by_cases hn : near D d (j : Int) = D / 2
    · have hok : Ok 10 [(j : Int)] := by rw [Ok.cons]; exact ⟨by omega, Ok.nil _⟩
      refine Ev.pos hn (Ev.bind (text_ev hok (by simp)) (Ev.pos (by rw [txt_size]; simp; omega) (Ev.pos (by omega) ?_)))
      refine fc_il2 hD hd hs m (j + 1) (acc ++ [s ++ txt [(j : Int)]]) (by omega) (by simp; omega) ?_
      simpa [ksel, hn] using h
    · refine Ev.neg hn ?_
      refine fc_il2 hD hd hs m (j + 1) acc (by omega) (by omega) ?_
      simpa [ksel, hn] using h
theorem fc_il1 {W D : Int} (hD : 2 ≤ D ∧ D ≤ 10) {d X22 X23 : Int} {X21 : List Int} (hd : 0 ≤ d ∧ d < D) {r : List ByteArray × Int × Bool} : ∀ (t p acc : List ByteArray), (∀ s ∈ t, s.size ≤ 1000) → (p ++ t).length ≤ 10000000 → acc.length + 10 * t.length ≤ 100000000 →
    Ev (fun k => impl_FarthestCodes.l0 k (acc ++ fstep D d t) X21 X22 (wrap64 (X23 + 1)) W D) r →
    Ev (fun k => impl_FarthestCodes.l1 k d acc X21 X22 X23 (p ++ t) ((p ++ t).length : Int) (p.length : Int) W D) r
  | [], p, acc, hs, hl, ha, h => by
    refine Ev.succ ?_
    simp only [impl_FarthestCodes.l1]
    refine Ev.neg (len_end p) ?_
    simpa [fstep] using h
  | x :: t, p, acc, hs, hl, ha, h => by
    rw [List.length_append, List.length_cons] at hl
    rw [List.length_cons] at ha
    have hk := ksel_length D d D.toNat 0
    refine Ev.succ ?_
    simp only [impl_FarthestCodes.l1]
    refine Ev.pos (len_mid p t x) (Ev.pos (by omega) (Ev.pos (len_mid p t x) ?_))
    rw [rdOf_mid]
    refine fc_il2 hD hd (hs x (by simp)) D.toNat 0 acc (by omega) (by omega) ?_
    rw [len_next p x (by omega), app_next p t x]
    refine fc_il1 hD hd t (p ++ [x]) _ (fun s h' => hs s (by simp [h'])) (by simp; omega) (by simp; omega) ?_
    rw [fstep_cons, ← List.append_assoc] at h
    exact h
theorem fc_il0 {W D : Int} (hW : 1 ≤ W ∧ W ≤ 6) (hD : 2 ≤ D ∧ D ≤ 10) : ∀ (t p : List Int) (out : List ByteArray), Ok D t → (p ++ t).length ≤ 6 → (∀ s ∈ out, s.size ≤ p.length) → out.length ≤ 10 ^ p.length →
    Ev (fun k => impl_FarthestCodes.l0 k out (p ++ t) ((p ++ t).length : Int) (p.length : Int) W D) (farM D t out, D / 2 * W, true)
  | [], p, out, ht, hl, hs, ho => by
    have hm : 0 ≤ D / 2 * W ∧ D / 2 * W ≤ 5 * 6 := ⟨Int.mul_nonneg (by omega) (by omega), Int.mul_le_mul (by omega) hW.2 (by omega) (by omega)⟩
    refine Ev.succ ?_
    simp only [impl_FarthestCodes.l0]
    refine Ev.neg (len_end p) (Ev.val ?_)
    rw [half_f hD, wrap_id (x := D / 2 * W) (by omega) (by omega)]; rfl
  | x :: t, p, out, ht, hl, hs, ho => by
    have hx := (Ok.cons.1 ht).1
    rw [List.length_append, List.length_cons] at hl
    have h10 : 10 ^ p.length ≤ 10 ^ 5 := Nat.pow_le_pow_right (by omega) (by omega)
    have hf := fstep_length hD x out
    refine Ev.succ ?_
    simp only [impl_FarthestCodes.l0]
    refine Ev.pos (len_mid p t x) (Ev.pos (by omega) (Ev.pos (len_mid p t x) ?_))
    rw [rd_mid]
    refine fc_il1 hD hx out [] [] (fun s h => by have := hs s h; omega) (by simp; omega) (by simp; omega) ?_
    rw [len_next p x (by omega), app_next p t x, List.nil_append]
    exact fc_il0 hW hD t (p ++ [x]) (fstep D x out) (Ok.cons.1 ht).2 (by simp; omega) (by have := fstep_size (D := D) (d := x) hs; simpa using this) (by simp [Nat.pow_succ]; omega)
theorem FarthestCodes_i (W D : Int) (s : ByteArray) (hs : s.size ≤ 1048576) : Ev (fun k => impl_FarthestCodes.f k W D s) (FarthestCodesM W D s) := by
  unfold impl_FarthestCodes.f FarthestCodesM
  refine Ev.bind (has1_ev W D s hs) ?_
  by_cases h : (good W D && isC W D s) = true
  · rw [if_pos h]
    obtain ⟨⟨a, b, c, d⟩, e1, o1, l1⟩ := one_of h
    refine Ev.pos h (Ev.bind (digits_ev s hs) ?_)
    exact fc_il0 ⟨a, b⟩ ⟨c, d⟩ (dgs s) [] [⟨#[]⟩] o1 (by simp; omega) (by intro s hs; simp at hs; subst hs; simp [ByteArray.size]) (by simp)
  · rw [if_neg h]; exact Ev.neg h (Ev.now _)
theorem farM_length {D : Int} (hD : 2 ≤ D ∧ D ≤ 10) : ∀ (ds : List Int) (out : List ByteArray), (farM D ds out).length ≤ 10 ^ ds.length * out.length
  | [], out => by simp [farM]
  | d :: ds, out => by
    have h1 := fstep_length hD d out
    have h2 := farM_length hD ds (fstep D d out)
    have e : farM D (d :: ds) out = farM D ds (fstep D d out) := rfl
    rw [e, List.length_cons, Nat.pow_succ, Nat.mul_assoc]
    exact Nat.le_trans h2 (Nat.mul_le_mul_left _ h1)
theorem FarthestCodesM_length (W D : Int) (s : ByteArray) : (FarthestCodesM W D s).1.length ≤ 1000000 := by
  unfold FarthestCodesM
  by_cases h : (good W D && isC W D s) = true
  · rw [if_pos h]
    obtain ⟨⟨a, b, c, d⟩, e1, o1, l1⟩ := one_of h
    have := farM_length ⟨c, d⟩ (dgs s) [⟨#[]⟩]
    have h10 : 10 ^ (dgs s).length ≤ 10 ^ 6 := Nat.pow_le_pow_right (by omega) (by omega)
    simp only [List.length_singleton, Nat.mul_one] at this
    show (farM D (dgs s) [⟨#[]⟩]).length ≤ _
    omega
  · rw [if_neg h]; simp
theorem eqStringS_l0 : ∀ (t p : List ByteArray), (p ++ t).length ≤ 9223372036854775806 → Ev (fun k => laws_eqStringS.l0 k (p ++ t) (p ++ t) (p.length : Int)) true
  | [], p, hl => by
    refine Ev.succ ?_
    simp only [laws_eqStringS.l0]
    exact Ev.neg (len_end p) (Ev.now _)
  | x :: t, p, hl => by
    rw [List.length_append, List.length_cons] at hl
    refine Ev.succ ?_
    simp only [laws_eqStringS.l0]
    refine Ev.pos (len_mid p t x) (Ev.pos (by omega) (Ev.pos (len_mid p t x) ?_))
    refine Ev.pos trivial ?_
    rw [len_next p x (by omega), app_next p t x]
    exact eqStringS_l0 t (p ++ [x]) (by simp; omega)
theorem eqStringS_ev (l : List ByteArray) (hl : l.length ≤ 9223372036854775806) : Ev (fun k => laws_eqStringS.f k l l) true := by
  unfold laws_eqStringS.f
  exact Ev.pos rfl (eqStringS_l0 l [] hl)

theorem markText_l0 : ∀ (n : Nat) (x : Int) (s : ByteArray), x.toNat ≤ n → s.size + x.toNat ≤ 4611686018427387904 → ∃ t, Ev (fun k => laws_markText.l0 k x s) t
  | n, x, s, hn, hs => by
    by_cases h : x > 0
    · match n, hn with
      | 0, hn => omega
      | n + 1, hn =>
        have e : Int.tdiv x 10 = x / 10 := Int.tdiv_eq_ediv_of_nonneg (by omega)
        have hsz : (strOfNums [(wrap64 (48 + (Int.tmod x 10))) % 256]).size = 1 := by rw [str_size]; rfl
        obtain ⟨t, ht⟩ := markText_l0 n (x / 10) (strOfNums [(wrap64 (48 + (Int.tmod x 10))) % 256] ++ s) (by omega) (by
          rw [ByteArray.size_append, hsz]; omega)
        refine ⟨t, Ev.succ ?_⟩
        simp only [laws_markText.l0]
        refine Ev.pos h (Ev.bind0 rfl (Ev.pos (by rw [hsz]; omega) ?_))
        rw [e, wrap_id (x := x / 10) (by omega) (by omega)]
        exact ht
    · refine ⟨(⟨#[109]⟩ : ByteArray) ++ s, Ev.succ ?_⟩
      · simp only [laws_markText.l0]
        exact Ev.neg h (Ev.pos (by omega) (Ev.now _))
theorem markText_ev (n : Int) (hn : n ≤ 4611686018427387904) : ∃ t, Ev (fun k => laws_markText.f k n) t := by
  unfold laws_markText.f
  by_cases h : n ≤ 0
  · exact ⟨_, Ev.pos h (Ev.now _)⟩
  · obtain ⟨t, ht⟩ := markText_l0 n.toNat n ⟨#[]⟩ (Nat.le_refl _) (by show 0 + n.toNat ≤ _; omega)
    exact ⟨t, Ev.neg h ht⟩
/-- The list is marked from a on. -/
def MarkedS : Int → List ByteArray → Prop
  | _, [] => True
  | a, s :: l => Ev (fun k => laws_markText.f k a) s ∧ MarkedS (a + 1) l
theorem markStringS_l0 : ∀ (t p : List ByteArray) (a : Int), 0 ≤ a → a + t.length ≤ 1000000000 → (p ++ t).length ≤ 1000000000 →
    ∃ t', Ev (fun k => laws_markStringS.l0 k (p ++ t) a (p.length : Int)) (a + t.length, p ++ t') ∧ MarkedS a t' ∧ t'.length = t.length
  | [], p, a, h0, ha, hl => by
    refine ⟨[], Ev.succ ?_, trivial, rfl⟩
    simp only [laws_markStringS.l0]
    exact Ev.neg (len_end p) (Ev.val (by simp))
  | x :: t, p, a, h0, ha, hl => by
    rw [List.length_append, List.length_cons] at hl
    rw [List.length_cons] at ha
    obtain ⟨s, hs⟩ := markText_ev a (by omega)
    obtain ⟨t', h1, h2, h3⟩ := markStringS_l0 t (p ++ [s]) (a + 1) (by omega) (by omega) (by simp; omega)
    refine ⟨s :: t', Ev.succ ?_, ⟨hs, h2⟩, by simp [h3]⟩
    simp only [laws_markStringS.l0]
    refine Ev.pos (len_mid p t x) (Ev.bind hs (Ev.pos (by omega) ?_))
    rw [set_mid, wrap_id (x := a + 1) (by omega) (by omega), len_next p s (by omega), app_next p t s]
    rw [show (a + ((x :: t).length : Int), p ++ s :: t') = (a + 1 + (t.length : Int), p ++ [s] ++ t') by simp; omega]
    exact h1
theorem heldStringS_l0 : ∀ (t p : List ByteArray) (a : Int), 0 ≤ a → a + t.length ≤ 1000000000 → (p ++ t).length ≤ 1000000000 → MarkedS a t →
    Ev (fun k => laws_heldStringS.l0 k (p ++ t) a (p.length : Int)) (a + t.length)
  | [], p, a, h0, ha, hl, hm => by
    refine Ev.succ ?_
    simp only [laws_heldStringS.l0]
    exact Ev.neg (len_end p) (Ev.val (by simp))
  | x :: t, p, a, h0, ha, hl, hm => by
    rw [List.length_append, List.length_cons] at hl
    rw [List.length_cons] at ha
    refine Ev.succ ?_
    simp only [laws_heldStringS.l0]
    refine Ev.pos (len_mid p t x) (Ev.pos (by omega) (Ev.bind hm.1 ?_))
    rw [rdOf_mid]
    refine Ev.pos rfl ?_
    rw [wrap_id (x := a + 1) (by omega) (by omega), len_next p x (by omega), app_next p t x, show a + ((x :: t).length : Int) = a + 1 + (t.length : Int) by simp; omega]
    exact heldStringS_l0 t (p ++ [x]) (a + 1) (by omega) (by omega) (by simp; omega) hm.2
theorem markStringS_ev (l : List ByteArray) (hl : l.length ≤ 100000000) : ∃ l', Ev (fun k => laws_markStringS.f k l 1) (1 + l.length, l') ∧ Ev (fun k => laws_heldStringS.f k l' 1) (1 + l.length) := by
  obtain ⟨l', h1, h2, h3⟩ := markStringS_l0 l [] 1 (by omega) (by omega) (by simp; omega)
  refine ⟨l', by unfold laws_markStringS.f; exact h1, ?_⟩
  have := heldStringS_l0 l' [] 1 (by omega) (by omega) (by simp; omega) h2
  rw [h3] at this
  unfold laws_heldStringS.f
  exact this
end Go.Proofs.Ytoaekmghlmeflaa.L
