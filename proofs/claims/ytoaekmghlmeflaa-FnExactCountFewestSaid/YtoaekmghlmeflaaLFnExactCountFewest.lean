/- What the printed functions that FnExactCountFewest reaches come to: lemmas for its plain law. -/
import Derived.Test.YtoaekmghlmeflaaMath
import Derived.Test.YtoaekmghlmeflaaQ1
import Derived.Test.YtoaekmghlmeflaaQ2
import Derived.Test.YtoaekmghlmeflaaQ3
import Derived.Test.YtoaekmghlmeflaaQ4
import Derived.Test.YtoaekmghlmeflaaQ5
import Derived.Test.YtoaekmghlmeflaaQ6
import Derived.Test.YtoaekmghlmeflaaQ7
import Derived.Test.YtoaekmghlmeflaaQ8
import Derived.Test.YtoaekmghlmeflaaQ9
import Derived.Test.YtoaekmghlmeflaaQ10
namespace Go.Proofs.Ytoaekmghlmeflaa.L
open Go.RowKit Go.Proofs.YtoaekmghlmeflaaW.PrintWords Go.Proofs.YtoaekmghlmeflaaW.PrintMore Go.Proofs.Ytoaekmghlmeflaa.M Go.Proofs.Ytoaekmghlmeflaa.Q
set_option linter.unusedVariables false
set_option linter.unusedSimpArgs false
theorem whGood_f (W D : Int) : spec_whGood.f W D = some (good W D) := by
  unfold spec_whGood.f spec_l1In.f good
  by_cases h1 : 1 ≤ W <;> by_cases h2 : W ≤ 6 <;> by_cases h3 : 2 ≤ D <;> by_cases h4 : D ≤ 10 <;> simp [h1, h2, h3, h4]
theorem IsLock_i (W D : Int) : impl_IsLock.f W D = some (good W D) := by
  unfold impl_IsLock.f impl_within.f good
  by_cases h1 : 1 ≤ W <;> by_cases h2 : W ≤ 6 <;> by_cases h3 : 2 ≤ D <;> by_cases h4 : D ≤ 10 <;> simp [h1, h2, h3, h4]
theorem l1In_f (n lo hi : Int) : spec_l1In.f n lo hi = some (decide (lo ≤ n ∧ n ≤ hi)) := by
  unfold spec_l1In.f
  by_cases h1 : lo ≤ n <;> by_cases h2 : n ≤ hi <;> simp [h1, h2]
theorem within_f (n lo hi : Int) : impl_within.f n lo hi = some (decide (lo ≤ n ∧ n ≤ hi)) := by
  unfold impl_within.f
  by_cases h1 : lo ≤ n <;> by_cases h2 : n ≤ hi <;> simp [h1, h2]

theorem whCode_l0 {W D : Int} (hD : 2 ≤ D ∧ D ≤ 10) {s : ByteArray} (hs : s.size ≤ 1048576) : ∀ (t p : List Int), bys s = p ++ t → Ev (fun k => spec_whCode.l0 k s (p.length : Int) W D) (t.all fun b => decide (48 ≤ b ∧ b < 48 + D))
  | [], p, e => by
    have el : p.length = s.size := by rw [← bys_length, e]; simp
    refine Ev.succ ?_
    simp only [spec_whCode.l0]
    exact Ev.neg (by omega) (Ev.now _)
  | x :: t, p, e => by
    have el : p.length + (t.length + 1) = s.size := by rw [← bys_length, e]; simp
    have hx := bys_range s x (by rw [e]; simp)
    refine Ev.succ ?_
    simp only [spec_whCode.l0]
    refine Ev.pos (by omega) (Ev.pos (by omega) ?_)
    rw [bt_bys, e, rd_mid, wrap_id (x := x) (by omega) (by omega), wrap_id (x := x - 48) (by omega) (by omega), wrap_id (x := D - 1) (by omega) (by omega), l1In_f]
    refine Ev.bind0 rfl ?_
    by_cases hb : 48 ≤ x ∧ x < 48 + D
    · refine Ev.pos (by simp; omega) ?_
      rw [show wrap64 ((p.length : Int) + 1) = ((p ++ [x]).length : Int) from len_next p x (by omega)]
      simp only [List.all_cons, hb, and_self, decide_true, Bool.true_and]
      exact whCode_l0 hD hs t (p ++ [x]) (by rw [e]; simp)
    · refine Ev.neg (by simp; omega) ?_
      rw [List.all_cons, decide_eq_false hb, Bool.false_and]
      exact Ev.now _
theorem whCode_ev {W D : Int} (h : good W D = true) (s : ByteArray) (hs : s.size ≤ 1048576) : Ev (fun k => spec_whCode.f k W D s) (isC W D s) := by
  obtain ⟨a, b, c, d⟩ := good_iff.1 h
  unfold spec_whCode.f isC
  by_cases e : (s.size : Int) = W
  · refine Ev.pos e ?_
    rw [decide_eq_true e, Bool.true_and]
    exact whCode_l0 ⟨c, d⟩ hs (bys s) [] rfl
  · refine Ev.neg e ?_
    rw [decide_eq_false e, Bool.false_and]
    exact Ev.now _
theorem isText_l0 {W D : Int} (hD : 2 ≤ D ∧ D ≤ 10) {s : ByteArray} (hs : s.size ≤ 1048576) : ∀ (t p : List Int), bys s = p ++ t → Ev (fun k => impl_Lock_isText.l0 k s (s.size : Int) (p.length : Int) W D) (t.all fun b => decide (48 ≤ b ∧ b < 48 + D))
  | [], p, e => by
    have el : p.length = s.size := by rw [← bys_length, e]; simp
    refine Ev.succ ?_
    simp only [impl_Lock_isText.l0]
    exact Ev.neg (by omega) (Ev.now _)
  | x :: t, p, e => by
    have el : p.length + (t.length + 1) = s.size := by rw [← bys_length, e]; simp
    have hx := bys_range s x (by rw [e]; simp)
    refine Ev.succ ?_
    simp only [impl_Lock_isText.l0]
    refine Ev.pos (by omega) (Ev.pos (by omega) (Ev.pos (by omega) ?_))
    rw [bt_bys, e, rd_mid, wrap_id (x := x) (by omega) (by omega), wrap_id (x := 48 + D) (by omega) (by omega), wrap_id (x := 48 + D - 1) (by omega) (by omega), within_f]
    refine Ev.bind0 rfl ?_
    by_cases hb : 48 ≤ x ∧ x < 48 + D
    · refine Ev.pos (by simp; omega) ?_
      rw [show wrap64 ((p.length : Int) + 1) = ((p ++ [x]).length : Int) from len_next p x (by omega)]
      simp only [List.all_cons, hb, and_self, decide_true, Bool.true_and]
      exact isText_l0 hD hs t (p ++ [x]) (by rw [e]; simp)
    · refine Ev.neg (by simp; omega) ?_
      rw [List.all_cons, decide_eq_false hb, Bool.false_and]
      exact Ev.now _
theorem isCode_ev {W D : Int} (h : good W D = true) (s : ByteArray) (hs : s.size ≤ 1048576) : Ev (fun k => impl_Lock_isCode.f k W D s) (isC W D s) := by
  obtain ⟨a, b, c, d⟩ := good_iff.1 h
  unfold impl_Lock_isCode.f isC
  by_cases e : (s.size : Int) = W
  · refine Ev.pos e ?_
    rw [decide_eq_true e, Bool.true_and]
    refine Ev.bind (isText_l0 (W := W) ⟨c, d⟩ hs (bys s) [] rfl) (Ev.now _)
  · refine Ev.neg e ?_
    rw [decide_eq_false e, Bool.false_and]
    exact Ev.now _

theorem dgs_app {s : ByteArray} {p t : List Int} (e : bys s = p ++ t) : dgs s = (p.map fun b => (b - 48) % 256) ++ (t.map fun b => (b - 48) % 256) := by
  unfold dgs; rw [e, List.map_append]
theorem whDigits_l0 {s : ByteArray} (hs : s.size ≤ 1048576) : ∀ (t p : List Int), bys s = p ++ t → Ev (fun k => spec_whDigits.l0 k s (p.map fun b => (b - 48) % 256) (p.length : Int)) (dgs s)
  | [], p, e => by
    have el : p.length = s.size := by rw [← bys_length, e]; simp
    refine Ev.succ ?_
    simp only [spec_whDigits.l0]
    refine Ev.neg (by omega) (Ev.val ?_)
    rw [dgs_app e]; simp
  | x :: t, p, e => by
    have el : p.length + (t.length + 1) = s.size := by rw [← bys_length, e]; simp
    refine Ev.succ ?_
    simp only [spec_whDigits.l0]
    refine Ev.pos (by omega) (Ev.pos (by omega) (Ev.pos (by rw [List.length_map]; omega) ?_))
    rw [bt_bys, e, rd_mid, show wrap64 ((p.length : Int) + 1) = ((p ++ [x]).length : Int) from len_next p x (by omega)]
    have := whDigits_l0 hs t (p ++ [x]) (by rw [e]; simp)
    rw [List.map_append] at this
    exact this
theorem whDigits_ev (s : ByteArray) (hs : s.size ≤ 1048576) : Ev (fun k => spec_whDigits.f k s) (dgs s) := by
  unfold spec_whDigits.f
  exact whDigits_l0 hs (bys s) [] rfl
theorem l1Mod_f (k : Int) {n : Int} (h0 : 0 < n) (h1 : n ≤ 1000) : spec_l1Mod.f k n = some (k % n) := by
  unfold spec_l1Mod.f; rw [if_neg (by omega), tmod_around h0 h1]
theorem around_f (k : Int) {n : Int} (h0 : 0 < n) (h1 : n ≤ 1000) : impl_around.f k n = some (k % n) := by
  unfold impl_around.f; rw [if_neg (by omega), tmod_around h0 h1]
/-- How far two digits are apart. -/
def near (D a b : Int) : Int := mn ((b - a) % D) (D - (b - a) % D)
theorem near_bound {D a b : Int} (h : 0 < D) : 0 ≤ near D a b ∧ near D a b ≤ D := by
  have h3 := Int.emod_nonneg (b - a) (show D ≠ 0 by omega)
  have h4 := Int.emod_lt_of_pos (b - a) h
  unfold near mn; split <;> omega
theorem near_half {D a b : Int} (h : 0 < D) : 2 * near D a b ≤ D := by
  have h3 := Int.emod_nonneg (b - a) (show D ≠ 0 by omega)
  have h4 := Int.emod_lt_of_pos (b - a) h
  unfold near mn; split <;> omega
theorem whFar_f (W : Int) {D a b : Int} (h0 : 0 < D) (h1 : D ≤ 1000) (ha : -1000 ≤ a ∧ a ≤ 1000) (hb : -1000 ≤ b ∧ b ≤ 1000) : spec_whFar.f W D a b = some ((b - a) % D, (D - (b - a) % D) % D) := by
  have h3 := Int.emod_nonneg (b - a) (show D ≠ 0 by omega)
  have h4 := Int.emod_lt_of_pos (b - a) h0
  unfold spec_whFar.f
  rw [wrap_id (x := b - a) (by omega) (by omega), l1Mod_f _ h0 h1, Option.bind_some, if_neg (by omega), wrap_id (by omega) (by omega), Int.tmod_eq_emod_of_nonneg (by omega)]
theorem least_far {D a b : Int} (h0 : 0 < D) : spec_l1Least.f ((b - a) % D) ((D - (b - a) % D) % D) = some (near D a b) := by
  have h3 := Int.emod_nonneg (b - a) (show D ≠ 0 by omega)
  have h4 := Int.emod_lt_of_pos (b - a) h0
  unfold spec_l1Least.f near mn
  by_cases e : (b - a) % D = 0
  · rw [e]; simp; omega
  · rw [Int.emod_eq_of_lt (a := D - (b - a) % D) (by omega) (by omega)]
    by_cases h : (b - a) % D < D - (b - a) % D
    · rw [if_pos h, if_neg (by omega)]
    · rw [if_neg h]
      split
      · rfl
      · congr 1; omega
theorem gap_f (W : Int) {D a b : Int} (h0 : 0 < D) (h1 : D ≤ 1000) (ha : -1000 ≤ a ∧ a ≤ 1000) (hb : -1000 ≤ b ∧ b ≤ 1000) : impl_Lock_gap.f W D a b = some ((b - a) % D) := by
  unfold impl_Lock_gap.f
  rw [wrap_id (x := b - a) (by omega) (by omega), around_f _ h0 h1, Option.bind_some]
theorem near_f (W : Int) {D a b : Int} (h0 : 0 < D) (h1 : D ≤ 1000) (ha : -1000 ≤ a ∧ a ≤ 1000) (hb : -1000 ≤ b ∧ b ≤ 1000) : impl_Lock_near.f W D a b = some (near D a b) := by
  have h3 := Int.emod_nonneg (b - a) (show D ≠ 0 by omega)
  have h4 := Int.emod_lt_of_pos (b - a) h0
  unfold impl_Lock_near.f
  rw [gap_f W h0 h1 ha hb, Option.bind_some, wrap_id (by omega) (by omega)]; rfl
theorem whAsked_ev (W D : Int) (s : ByteArray) (hs : s.size ≤ 1048576) : Ev (fun k => spec_whAsked.f k W D s) (good W D && isC W D s) := by
  unfold spec_whAsked.f
  refine Ev.bind0 (whGood_f W D) ?_
  by_cases h : good W D = true
  · refine Ev.pos h (Ev.bind (whCode_ev h s hs) (Ev.val (by rw [h]; rfl)))
  · refine Ev.neg h (Ev.val (by simp [h]))
theorem has_l0 {W D : Int} (h : good W D = true) : ∀ (t p : List ByteArray), (∀ s ∈ t, s.size ≤ 1048576) → (p ++ t).length ≤ 1048576 → Ev (fun k => impl_has.l0 k (p ++ t) ((p ++ t).length : Int) (p.length : Int) W D) (t.all (isC W D))
  | [], p, hs, hl => by
    refine Ev.succ ?_
    simp only [impl_has.l0]
    refine Ev.neg (len_end p) (Ev.val (by simp))
  | x :: t, p, hs, hl => by
    rw [List.length_append, List.length_cons] at hl
    refine Ev.succ ?_
    simp only [impl_has.l0]
    refine Ev.pos (len_mid p t x) (Ev.pos (by omega) (Ev.pos (len_mid p t x) ?_))
    rw [rdOf_mid, len_next p x (by omega), app_next p t x]
    refine Ev.bind (isCode_ev h x (hs x (by simp))) ?_
    by_cases hx : isC W D x = true
    · refine Ev.pos hx ?_
      rw [List.all_cons, hx, Bool.true_and]
      exact has_l0 h t (p ++ [x]) (fun s hs' => hs s (by simp [hs'])) (by simp; omega)
    · refine Ev.neg hx (Ev.val ?_)
      simp [hx]
theorem has_ev (W D : Int) (l : List ByteArray) (hs : ∀ s ∈ l, s.size ≤ 1048576) (hl : l.length ≤ 1048576) : Ev (fun k => impl_has.f k W D l) (good W D && l.all (isC W D)) := by
  unfold impl_has.f
  refine Ev.bind0 (IsLock_i W D) ?_
  by_cases h : good W D = true
  · refine Ev.pos h ?_
    rw [h, Bool.true_and]
    exact has_l0 h l [] hs hl
  · refine Ev.neg h (Ev.val (by simp [h]))

theorem whTwo_ev (W D : Int) (s t : ByteArray) (hs : s.size ≤ 1048576) (ht : t.size ≤ 1048576) : Ev (fun k => spec_whTwo.f k W D s t) (good W D && (isC W D s && isC W D t)) := by
  unfold spec_whTwo.f
  refine Ev.bind (whAsked_ev W D s hs) ?_
  by_cases h : (good W D && isC W D s) = true
  · obtain ⟨hg, hc⟩ := Bool.and_eq_true_iff.1 h
    exact Ev.pos h (Ev.bind (whCode_ev hg t ht) (Ev.val (by rw [hg, hc]; rfl)))
  · refine Ev.neg h (Ev.val ?_)
    rw [← Bool.and_assoc]; simp [h]
theorem has2_ev (W D : Int) (s t : ByteArray) (hs : s.size ≤ 1048576) (ht : t.size ≤ 1048576) : Ev (fun k => impl_has.f k W D [s, t]) (good W D && (isC W D s && isC W D t)) := by
  have := has_ev W D [s, t] (by intro u hu; simp at hu; rcases hu with rfl | rfl <;> assumption) (by simp)
  simpa using this
/-- Two codes of a lock. -/
theorem two_of {W D : Int} {s t : ByteArray} (h : (good W D && (isC W D s && isC W D t)) = true) : (1 ≤ W ∧ W ≤ 6 ∧ 2 ≤ D ∧ D ≤ 10) ∧ s = txt (dgs s) ∧ t = txt (dgs t) ∧ Ok D (dgs s) ∧ Ok D (dgs t) ∧ ((dgs s).length : Int) = W ∧ ((dgs t).length : Int) = W := by
  obtain ⟨hg, hc⟩ := Bool.and_eq_true_iff.1 h
  obtain ⟨h1, h2⟩ := Bool.and_eq_true_iff.1 hc
  have g := good_iff.1 hg
  obtain ⟨a1, a2, a3⟩ := code_of h1 g.2.2.2
  obtain ⟨b1, b2, b3⟩ := code_of h2 g.2.2.2
  exact ⟨g, a1, b1, a2, b2, a3, b3⟩
/-- The ways to set k turns among a earlier ones, step by step. -/
def ch (a : Nat) : Nat → Int
  | 0 => 1
  | k + 1 => ch a k * ((a : Int) + (k : Int) + 1) / ((k : Int) + 1)
theorem ch_facts : ∀ a : Fin 26, ∀ k : Fin 5, ch a.val (k.val + 1) * ((k.val : Int) + 1) = ch a.val k.val * ((a.val : Int) + (k.val : Int) + 1) ∧ ch a.val k.val ≤ ch a.val (k.val + 1) ∧ 1 ≤ ch a.val k.val ∧ ch a.val (k.val + 1) ≤ 142506 := by decide +kernel
theorem ch_step {a k : Nat} (ha : a ≤ 25) (hk : k < 5) : ch a (k + 1) * ((k : Int) + 1) = ch a k * ((a : Int) + (k : Int) + 1) ∧ ch a k ≤ ch a (k + 1) ∧ 1 ≤ ch a k ∧ ch a (k + 1) ≤ 142506 := ch_facts ⟨a, by omega⟩ ⟨k, hk⟩
theorem ch_pos {a k : Nat} (ha : a ≤ 25) (hk : k ≤ 5) : 1 ≤ ch a k ∧ ch a k ≤ 142506 := by
  match k, hk with
  | 0, _ => simp [ch]
  | k + 1, hk => have := ch_step (a := a) (k := k) ha (by omega); omega
theorem ch_mono {a : Nat} (ha : a ≤ 25) {j k : Nat} (hj : j ≤ k) (hk : k ≤ 5) : ch a j ≤ ch a k := by
  induction k with
  | zero => have : j = 0 := by omega
            subst this; exact Int.le_refl _
  | succ k ih =>
    rcases Nat.lt_or_ge j (k + 1) with h | h
    · have h1 := ih (by omega) (by omega)
      have h2 := (ch_step (a := a) (k := k) ha (by omega)).2.1
      omega
    · have : j = k + 1 := by omega
      subst this; exact Int.le_refl _
/-- The turns of each wheel: none when there are more ways than MaxWays. -/
def cfM (D : Int) : List Int → Int → Nat → Option Int
  | [], w, _ => some w
  | n :: ns, w, a =>
    if (if 2 * n = D then w * 2 else w) > 1000000000000000 then none
    else if (if 2 * n = D then w * 2 else w) * ch a n.toNat > 1000000000000000 then none
    else cfM D ns ((if 2 * n = D then w * 2 else w) * ch a n.toNat) (a + n.toNat)
def outM : Option Int → Int × Bool
  | none => (0, false)
  | some w => (w, true)
def nears (D : Int) (a b : List Int) : List Int := List.zipWith (near D) a b
theorem near_nat {D a b : Int} (h : 0 < D) (hD : D ≤ 10) : near D a b = ((near D a b).toNat : Int) ∧ (near D a b).toNat ≤ 5 := by
  have h1 := near_bound (D := D) (a := a) (b := b) h
  have h2 := near_half (D := D) (a := a) (b := b) h
  omega
/-- The reference's inner loop: the turns of one wheel. -/
theorem cf_sl1 {W D : Int} {x8 x9 : List Int} {u d X26 X27 : Int} {r : Int × Bool} {w : Int} {a n : Nat} (hw : 1 ≤ w) (ha : a ≤ 25) (hn : n ≤ 5) (hle : spec_l1Least.f u d = some (n : Int)) : ∀ (m j : Nat), j + m = n → w * ch a j ≤ 1000000000000000 →
    (w * ch a n > 1000000000000000 → Ev (fun k => spec_CountFewest.l1 k x8 x9 (w * ch a j) ((a + j : Nat) : Int) u d ((j + 1 : Nat) : Int) X26 X27 W D) (0, false)) ∧
    (w * ch a n ≤ 1000000000000000 → Ev (fun k => spec_CountFewest.l0 k x8 x9 (w * ch a n) ((a + n : Nat) : Int) X26 (wrap64 (X27 + 1)) W D) r → Ev (fun k => spec_CountFewest.l1 k x8 x9 (w * ch a j) ((a + j : Nat) : Int) u d ((j + 1 : Nat) : Int) X26 X27 W D) r)
  | 0, j, e, hj => by
    have : j = n := by omega
    subst this
    refine ⟨fun h => by omega, fun _ h => Ev.succ ?_⟩
    simp only [spec_CountFewest.l1]
    exact Ev.bind0 hle (Ev.neg (by omega) h)
  | m + 1, j, e, hj => by
    obtain ⟨s1, s2, s3, s4⟩ := ch_step (a := a) (k := j) ha (by omega)
    have hp : 1 ≤ w * ch a j := by
      have : 1 * 1 ≤ w * ch a j := Int.mul_le_mul hw s3 (by omega) (by omega)
      omega
    have hm : 0 ≤ w * ch a j * ((a : Int) + (j : Int) + 1) ∧ w * ch a j * ((a : Int) + (j : Int) + 1) ≤ 1000000000000000 * 31 :=
      ⟨Int.mul_nonneg (by omega) (by omega), Int.mul_le_mul hj (by omega) (by omega) (by omega)⟩
    have hd : Int.tdiv (w * ch a j * ((a : Int) + (j : Int) + 1)) ((j : Int) + 1) = w * ch a (j + 1) := by
      rw [Int.mul_assoc, ← s1, ← Int.mul_assoc, Int.mul_tdiv_cancel _ (by omega)]
    have hp2 : 0 ≤ w * ch a (j + 1) := Int.mul_nonneg (by omega) (by omega)
    have e5 : w * ch a (j + 1) * ((j : Int) + 1) = w * ch a j * ((a : Int) + (j : Int) + 1) := by rw [Int.mul_assoc, s1, ← Int.mul_assoc]
    have e6 : w * ch a (j + 1) * 1 ≤ w * ch a (j + 1) * ((j : Int) + 1) := Int.mul_le_mul_of_nonneg_left (by omega) hp2
    have hb2 : w * ch a (j + 1) ≤ 1000000000000000 * 31 := by omega
    have hmono : w * ch a (j + 1) ≤ w * ch a n := Int.mul_le_mul_of_nonneg_left (ch_mono ha (by omega) hn) (by omega)
    have common : ∀ r', (w * ch a (j + 1) > 1000000000000000 → Ev (fun _ => some ((0 : Int), false)) r') → (w * ch a (j + 1) ≤ 1000000000000000 → Ev (fun k => spec_CountFewest.l1 k x8 x9 (w * ch a (j + 1)) ((a + (j + 1) : Nat) : Int) u d ((j + 1 + 1 : Nat) : Int) X26 X27 W D) r') →
        Ev (fun k => spec_CountFewest.l1 k x8 x9 (w * ch a j) ((a + j : Nat) : Int) u d ((j + 1 : Nat) : Int) X26 X27 W D) r' := by
      intro r' h1 h2
      refine Ev.succ ?_
      simp only [spec_CountFewest.l1]
      refine Ev.bind0 hle (Ev.pos (by omega) (Ev.neg (by omega) ?_))
      rw [show wrap64 (((a + j : Nat) : Int) + 1) = (a : Int) + (j : Int) + 1 by rw [wrap_id] <;> omega, wrap_id (x := w * ch a j * ((a : Int) + (j : Int) + 1)) (by omega) (by omega), show ((j + 1 : Nat) : Int) = (j : Int) + 1 by omega, hd, wrap_id (x := w * ch a (j + 1)) (by omega) (by omega)]
      by_cases hbig : w * ch a (j + 1) > 1000000000000000
      · exact Ev.pos hbig (h1 hbig)
      · refine Ev.neg hbig ?_
        rw [show (a : Int) + (j : Int) + 1 = ((a + (j + 1) : Nat) : Int) by omega, show wrap64 ((j : Int) + 1 + 1) = ((j + 1 + 1 : Nat) : Int) by rw [wrap_id] <;> omega]
        exact h2 (by omega)
    constructor
    · intro hbig
      exact common _ (fun _ => Ev.now _) (fun hs => (cf_sl1 (r := r) hw ha hn hle m (j + 1) (by omega) hs).1 hbig)
    · intro hs hr
      exact common _ (fun hbig => by omega) (fun hs2 => (cf_sl1 (r := r) hw ha hn hle m (j + 1) (by omega) hs2).2 hs hr)
theorem up_down {D a b : Int} (h0 : 0 < D) : ((b - a) % D = (D - (b - a) % D) % D ∧ (b - a) % D > 0) ↔ 2 * near D a b = D := by
  have h3 := Int.emod_nonneg (b - a) (show D ≠ 0 by omega)
  have h4 := Int.emod_lt_of_pos (b - a) h0
  unfold near mn
  by_cases e : (b - a) % D = 0
  · rw [e]; simp; split <;> omega
  · rw [Int.emod_eq_of_lt (a := D - (b - a) % D) (by omega) (by omega)]
    split <;> omega
theorem cf_sl0 {W D : Int} (hD : 2 ≤ D ∧ D ≤ 10) : ∀ (t u p q : List Int) (w : Int) (a : Nat), Ok D t → Ok D u → p.length = q.length → t.length = u.length → (p ++ t).length ≤ 6 → 1 ≤ w → w ≤ 1000000000000000 → a ≤ 5 * p.length →
    Ev (fun k => spec_CountFewest.l0 k (p ++ t) (q ++ u) w (a : Int) ((p ++ t).length : Int) (p.length : Int) W D) (outM (cfM D (nears D t u) w a))
  | [], u, p, q, w, a, ht, hu, hpq, htu, hl, h0, h1, h2 => by
    refine Ev.succ ?_
    simp only [spec_CountFewest.l0]
    refine Ev.neg (len_end p) (Ev.val (by simp [nears, cfM, outM]))
  | x :: t, [], p, q, w, a, ht, hu, hpq, htu, hl, h0, h1, h2 => by simp at htu
  | x :: t, y :: u, p, q, w, a, ht, hu, hpq, htu, hl, h0, h1, h2 => by
    have hx := (Ok.cons.1 ht).1
    have hy := (Ok.cons.1 hu).1
    obtain ⟨n1, n2⟩ := near_nat (D := D) (a := x) (b := y) (by omega) hD.2
    rw [List.length_append, List.length_cons] at hl
    generalize hn : (near D x y).toNat = n at n1 n2
    have e1 : nears D (x :: t) (y :: u) = near D x y :: nears D t u := rfl
    refine Ev.succ ?_
    simp only [spec_CountFewest.l0]
    refine Ev.pos (len_mid p t x) (Ev.pos (by omega) (Ev.pos (len_mid p t x) (Ev.pos (by rw [hpq]; exact len_mid q u y) ?_)))
    rw [rd_mid, show rd (q ++ y :: u) (p.length : Int) = y by rw [hpq]; exact rd_mid q u y]
    refine Ev.bind0 (whFar_f W (by omega) (by omega) (by omega) (by omega)) ?_
    have hle : spec_l1Least.f ((y - x) % D) ((D - (y - x) % D) % D) = some (n : Int) := by rw [least_far (by omega), n1]
    -- what follows the doubling
    have tail : ∀ w1, w1 = (if 2 * near D x y = D then w * 2 else w) → Ev (fun k => spec_CountFewest.j2 k (p ++ x :: t) (q ++ y :: u) w1 (a : Int) ((y - x) % D) ((D - (y - x) % D) % D) ((p ++ x :: t).length : Int) (p.length : Int) W D) (outM (cfM D (nears D (x :: t) (y :: u)) w a)) := by
      intro w1 hw1
      rw [e1, cfM, ← hw1, hn]
      have hw1' : 1 ≤ w1 := by rw [hw1]; split <;> omega
      refine Ev.succ ?_
      simp only [spec_CountFewest.j2]
      by_cases hbig : w1 > 1000000000000000
      · rw [if_pos hbig]; exact Ev.pos hbig (Ev.now _)
      · rw [if_neg hbig]
        refine Ev.neg hbig ?_
        have key := cf_sl1 (W := W) (D := D) (x8 := p ++ x :: t) (x9 := q ++ y :: u) (X26 := ((p ++ x :: t).length : Int)) (X27 := (p.length : Int)) (r := outM (cfM D (nears D t u) (w1 * ch a n) (a + n))) (w := w1) (a := a) hw1' (by omega) n2 hle n 0 (by omega) (by rw [ch]; omega)
        rw [ch, Int.mul_one] at key
        by_cases hb2 : w1 * ch a n > 1000000000000000
        · rw [if_pos hb2]; exact key.1 hb2
        · rw [if_neg hb2]
          refine key.2 (by omega) ?_
          have hc := ch_pos (a := a) (k := n) (by omega) n2
          have hp1 : 1 * 1 ≤ w1 * ch a n := Int.mul_le_mul hw1' hc.1 (by omega) (by omega)
          rw [len_next p x (by omega), app_next p t x, app_next q u y]
          exact cf_sl0 hD t u (p ++ [x]) (q ++ [y]) (w1 * ch a n) (a + n) (Ok.cons.1 ht).2 (Ok.cons.1 hu).2 (by simp [hpq]) (by simpa using htu) (by simp; omega) (by omega) (by omega) (by simp; omega)
    have ud := up_down (D := D) (a := x) (b := y) (by omega)
    by_cases he : (y - x) % D = (D - (y - x) % D) % D
    · refine Ev.pos he (Ev.succ ?_)
      simp only [spec_CountFewest.j1]
      by_cases hpos : (y - x) % D > 0
      · refine Ev.pos (by simpa using hpos) ?_
        rw [wrap_id (x := w * 2) (by omega) (by omega)]
        exact tail _ (by rw [if_pos (ud.1 ⟨he, hpos⟩)])
      · refine Ev.neg (by simpa using hpos) ?_
        exact tail _ (by rw [if_neg (fun h => hpos (ud.2 h).2)])
    · refine Ev.neg he (Ev.succ ?_)
      simp only [spec_CountFewest.j1]
      refine Ev.neg (by simp) ?_
      exact tail _ (by rw [if_neg (fun h => he (ud.2 h).1)])
def CountFewestM (W D : Int) (s t : ByteArray) : Int × Bool := if (good W D && (isC W D s && isC W D t)) = true then outM (cfM D (nears D (dgs s) (dgs t)) 1 0) else (0, false)
theorem CountFewest_s (W D : Int) (s t : ByteArray) (hs : s.size ≤ 1048576) (ht : t.size ≤ 1048576) : Ev (fun k => spec_CountFewest.f k W D s t) (CountFewestM W D s t) := by
  unfold spec_CountFewest.f CountFewestM
  refine Ev.bind (whTwo_ev W D s t hs ht) ?_
  by_cases h : (good W D && (isC W D s && isC W D t)) = true
  · rw [if_pos h]
    obtain ⟨⟨a, b, c, d⟩, e1, e2, o1, o2, l1, l2⟩ := two_of h
    refine Ev.pos h (Ev.bind (whDigits_ev s hs) (Ev.bind (whDigits_ev t ht) ?_))
    exact cf_sl0 ⟨c, d⟩ (dgs s) (dgs t) [] [] 1 0 o1 o2 rfl (by omega) (by simp; omega) (by omega) (by omega) (by simp)
  · rw [if_neg h]; exact Ev.neg h (Ev.now _)

theorem times_neg (b : Int) : impl_times.f (-1) b = some (-1) := by unfold impl_times.f; rw [if_pos (by omega)]
theorem times_f {a b : Int} (ha : 0 ≤ a) (hb : 1 ≤ b) (hb2 : b ≤ 1000000000000000) : impl_times.f a b = some (if a * b > 1000000000000000 then -1 else a * b) := by
  unfold impl_times.f
  rw [if_neg (by omega), if_neg (by omega), if_pos (by omega), if_neg (by omega), Int.tdiv_eq_ediv_of_nonneg (by omega)]
  have q0 : 0 ≤ 1000000000000000 / b := Int.ediv_nonneg (by omega) (by omega)
  have q1 : 1000000000000000 / b ≤ 1000000000000000 := Int.ediv_le_self _ (by omega)
  rw [wrap_id (x := 1000000000000000 / b) (by omega) (by omega)]
  by_cases h : a > 1000000000000000 / b
  · rw [if_pos h]
    have : 1000000000000000 < a * b := Int.lt_mul_of_ediv_lt (by omega) h
    rw [if_pos this]
  · rw [if_neg h]
    have h2 : a * b ≤ 1000000000000000 := Int.mul_le_of_le_ediv (by omega) (by omega)
    have h3 : 0 ≤ a * b := Int.mul_nonneg ha (by omega)
    rw [if_neg (by omega), wrap_id (x := a * b) (by omega) (by omega)]
/-- The program's inner loop. -/
theorem cf_il1 {W D : Int} {s1 s2 : ByteArray} {X21 X22 v : Int} {r : Int × Bool} {a n : Nat} (ha : a ≤ 25) (hn : n ≤ 5) : ∀ (m j : Nat), j + m = n →
    Ev (fun k => (impl_times.f v (ch a n)).bind fun t => impl_CountFewest.l0 k s1 s2 t ((a + n : Nat) : Int) X21 (wrap64 (X22 + 1)) W D) r →
    Ev (fun k => impl_CountFewest.l1 k s1 s2 v ((a + j : Nat) : Int) (n : Int) (ch a j) ((j + 1 : Nat) : Int) X21 X22 W D) r
  | 0, j, e, h => by
    have : j = n := by omega
    subst this
    refine Ev.succ ?_
    simp only [impl_CountFewest.l1]
    exact Ev.neg (by omega) h
  | m + 1, j, e, h => by
    obtain ⟨s1, s2, s3, s4⟩ := ch_step (a := a) (k := j) ha (by omega)
    have hm : 0 ≤ ch a j * ((a : Int) + (j : Int) + 1) ∧ ch a j * ((a : Int) + (j : Int) + 1) ≤ 142506 * 31 :=
      ⟨Int.mul_nonneg (by omega) (by omega), Int.mul_le_mul (by omega) (by omega) (by omega) (by omega)⟩
    refine Ev.succ ?_
    simp only [impl_CountFewest.l1]
    refine Ev.pos (by omega) (Ev.neg (by omega) ?_)
    rw [show wrap64 (((a + j : Nat) : Int) + 1) = (a : Int) + (j : Int) + 1 by rw [wrap_id] <;> omega, wrap_id (x := ch a j * ((a : Int) + (j : Int) + 1)) (by omega) (by omega), show ((j + 1 : Nat) : Int) = (j : Int) + 1 by omega, ← s1, Int.mul_tdiv_cancel _ (by omega), wrap_id (x := ch a (j + 1)) (by omega) (by omega),
      show (a : Int) + (j : Int) + 1 = ((a + (j + 1) : Nat) : Int) by omega, show wrap64 ((j : Int) + 1 + 1) = ((j + 1 + 1 : Nat) : Int) by rw [wrap_id] <;> omega]
    exact cf_il1 ha hn m (j + 1) (by omega) h
theorem cf_il0 {W D : Int} (hD : 2 ≤ D ∧ D ≤ 10) {s r : ByteArray} : ∀ (t u p q : List Int) (w : Option Int) (a : Nat), bys s = p ++ t.map (48 + ·) → bys r = q ++ u.map (48 + ·) → Ok D t → Ok D u → p.length = q.length → t.length = u.length → s.size ≤ 6 → (s.size : Int) = W → (∀ x, w = some x → 1 ≤ x ∧ x ≤ 1000000000000000) → a ≤ 5 * p.length →
    Ev (fun k => impl_CountFewest.l0 k s r (w.getD (-1)) (a : Int) W (p.length : Int) W D) (outM (w.bind fun x => cfM D (nears D t u) x a))
  | [], u, p, q, w, a, es, er, ht, hu, hpq, htu, hl, hW, hw, h2 => by
    have el : p.length = s.size := by rw [← bys_length, es]; simp
    refine Ev.succ ?_
    simp only [impl_CountFewest.l0]
    refine Ev.neg (by omega) (Ev.bind0 rfl (Ev.val ?_))
    cases w with
    | none => simp [outM, mx]
    | some x =>
      have := hw x rfl
      simp [outM, nears, cfM, mx]
      omega
  | x :: t, [], p, q, w, a, es, er, ht, hu, hpq, htu, hl, hW, hw, h2 => by simp at htu
  | x :: t, y :: u, p, q, w, a, es, er, ht, hu, hpq, htu, hl, hW, hw, h2 => by
    have hx := (Ok.cons.1 ht).1
    have hy := (Ok.cons.1 hu).1
    obtain ⟨n1, n2⟩ := near_nat (D := D) (a := x) (b := y) (by omega) hD.2
    have el : p.length + (t.length + 1) = s.size := by rw [← bys_length, es]; simp
    have el2 : q.length + (u.length + 1) = r.size := by rw [← bys_length, er]; simp
    rw [List.length_cons, List.length_cons] at htu
    have b1 : bt s (p.length : Int) = 48 + x := by rw [bt_bys, es, List.map_cons, rd_mid]
    have b2 : bt r (p.length : Int) = 48 + y := by rw [bt_bys, er, List.map_cons, hpq, rd_mid]
    generalize hn : (near D x y).toNat = n at n1 n2
    have hc := ch_pos (a := a) (k := n) (by omega) n2
    refine Ev.succ ?_
    simp only [impl_CountFewest.l0]
    refine Ev.pos (by omega) (Ev.pos (by omega) (Ev.pos (by omega) (Ev.pos (by omega) ?_)))
    rw [b1, b2, wrap_id (x := 48 + x) (by omega) (by omega), wrap_id (x := 48 + y) (by omega) (by omega)]
    refine Ev.bind0 (near_f W (by omega) (by omega) (by omega) (by omega)) ?_
    rw [show near D (48 + x) (48 + y) = near D x y by unfold near; rw [show 48 + y - (48 + x) = y - x by omega]]
    -- what follows the doubling
    have tail : ∀ w1 : Option Int, (∀ z, w1 = some z → 1 ≤ z ∧ z ≤ 1000000000000000) → Ev (fun k => impl_CountFewest.j1 k s r (w1.getD (-1)) (a : Int) (near D x y) W (p.length : Int) W D)
        (outM (w1.bind fun z => if z * ch a n > 1000000000000000 then none else cfM D (nears D t u) (z * ch a n) (a + n))) := by
      intro w1 hw1
      refine Ev.succ ?_
      simp only [impl_CountFewest.j1]
      rw [n1]
      have key := cf_il1 (W := W) (D := D) (s1 := s) (s2 := r) (X21 := W) (X22 := (p.length : Int)) (v := w1.getD (-1)) (r := outM (w1.bind fun z => if z * ch a n > 1000000000000000 then none else cfM D (nears D t u) (z * ch a n) (a + n))) (a := a) (n := n) (by omega) n2 n 0 (by omega)
      rw [ch] at key
      refine key ?_
      have next : ∀ w2 : Option Int, (∀ z, w2 = some z → 1 ≤ z ∧ z ≤ 1000000000000000) → Ev (fun k => impl_CountFewest.l0 k s r (w2.getD (-1)) ((a + n : Nat) : Int) W (wrap64 ((p.length : Int) + 1)) W D) (outM (w2.bind fun z => cfM D (nears D t u) z (a + n))) := by
        intro w2 hw2
        rw [show wrap64 ((p.length : Int) + 1) = ((p ++ [48 + x]).length : Int) from len_next p _ (by omega)]
        exact cf_il0 hD t u (p ++ [48 + x]) (q ++ [48 + y]) w2 (a + n) (by rw [es]; simp) (by rw [er]; simp) (Ok.cons.1 ht).2 (Ok.cons.1 hu).2 (by simp [hpq]) (by omega) hl hW hw2 (by simp; omega)
      cases w1 with
      | none =>
        refine Ev.bind0 (times_neg _) ?_
        exact next none (fun z h => by cases h)
      | some z =>
        have hz := hw1 z rfl
        refine Ev.bind0 (times_f (a := z) (by omega) hc.1 (by omega)) ?_
        have hp1 : 1 * 1 ≤ z * ch a n := Int.mul_le_mul hz.1 hc.1 (by omega) (by omega)
        show Ev _ (outM (if z * ch a n > 1000000000000000 then none else cfM D (nears D t u) (z * ch a n) (a + n)))
        by_cases hb : z * ch a n > 1000000000000000
        · rw [if_pos hb, if_pos hb]
          exact next none (fun z h => by cases h)
        · rw [if_neg hb, if_neg hb]
          exact next (some (z * ch a n)) (fun z' h => by injection h with h; subst h; omega)
    have e1 : nears D (x :: t) (y :: u) = near D x y :: nears D t u := rfl
    have res : (w.bind fun z => cfM D (nears D (x :: t) (y :: u)) z a) = ((w.bind fun z => if (if 2 * near D x y = D then z * 2 else z) > 1000000000000000 then none else some (if 2 * near D x y = D then z * 2 else z)).bind fun z => if z * ch a n > 1000000000000000 then none else cfM D (nears D t u) (z * ch a n) (a + n)) := by
      cases w with
      | none => rfl
      | some z =>
        simp only [Option.bind_some, e1, cfM, hn]
        by_cases hq : (if 2 * near D x y = D then z * 2 else z) > 1000000000000000
        · simp only [hq, if_true, Option.bind_none]
        · simp only [hq, if_false, Option.bind_some]
    rw [res, wrap_id (x := 2 * near D x y) (by omega) (by omega)]
    by_cases h2n : 2 * near D x y = D
    · refine Ev.pos h2n ?_
      simp only [h2n, if_true]
      cases w with
      | none =>
        refine Ev.bind0 (times_neg _) ?_
        exact tail none (fun z h => by cases h)
      | some z =>
        have hz := hw z rfl
        refine Ev.bind0 (times_f (a := z) (b := 2) (by omega) (by omega) (by omega)) ?_
        simp only [Option.bind_some]
        by_cases hb : z * 2 > 1000000000000000
        · rw [if_pos hb, if_pos hb]
          exact tail none (fun z h => by cases h)
        · rw [if_neg hb, if_neg hb]
          exact tail (some (z * 2)) (fun z' h => by injection h with h; subst h; omega)
    · refine Ev.neg h2n ?_
      simp only [h2n, if_false]
      have hid : (w.bind fun z => if z > 1000000000000000 then none else some z) = w := by
        cases w with
        | none => rfl
        | some z => simp only [Option.bind_some]; rw [if_neg (by have := hw z rfl; omega)]
      rw [hid]
      exact tail w hw
theorem CountFewest_i (W D : Int) (s t : ByteArray) (hs : s.size ≤ 1048576) (ht : t.size ≤ 1048576) : Ev (fun k => impl_CountFewest.f k W D s t) (CountFewestM W D s t) := by
  unfold impl_CountFewest.f CountFewestM
  refine Ev.bind (has2_ev W D s t hs ht) ?_
  by_cases h : (good W D && (isC W D s && isC W D t)) = true
  · rw [if_pos h]
    obtain ⟨⟨a, b, c, d⟩, e1, e2, o1, o2, l1, l2⟩ := two_of h
    refine Ev.pos h ?_
    have es : (s.size : Int) = W := by rw [dgs_length] at l1; exact l1
    have b1 : bys s = (dgs s).map (48 + ·) := by have := bys_txt (o1.le d); rwa [← e1] at this
    have b2 : bys t = (dgs t).map (48 + ·) := by have := bys_txt (o2.le d); rwa [← e2] at this
    have := cf_il0 (W := W) (s := s) (r := t) ⟨c, d⟩ (dgs s) (dgs t) [] [] (some 1) 0 b1 b2 o1 o2 rfl (by omega) (by omega) es (by intro x hx; injection hx with hx; subst hx; omega) (by simp)
    exact this
  · rw [if_neg h]; exact Ev.neg h (Ev.now _)
end Go.Proofs.Ytoaekmghlmeflaa.L
