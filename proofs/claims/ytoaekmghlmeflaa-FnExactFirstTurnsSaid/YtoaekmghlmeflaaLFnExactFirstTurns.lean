/- What the printed functions that FnExactFirstTurns reaches come to: lemmas for its plain law. -/
import Derived.Test.YtoaekmghlmeflaaMath
import Derived.Test.YtoaekmghlmeflaaQ0
import Derived.Test.YtoaekmghlmeflaaQ1
import Derived.Test.YtoaekmghlmeflaaQ2
import Derived.Test.YtoaekmghlmeflaaQ3
import Derived.Test.YtoaekmghlmeflaaQ4
import Derived.Test.YtoaekmghlmeflaaQ5
import Derived.Test.YtoaekmghlmeflaaQ6
import Derived.Test.YtoaekmghlmeflaaQ7
import Derived.Test.YtoaekmghlmeflaaQ8
import Derived.Test.YtoaekmghlmeflaaQ9
import Derived.Test.YtoaekmghlmeflaaQ10
import Derived.Test.YtoaekmghlmeflaaQ11
import Derived.Test.YtoaekmghlmeflaaQ12
import Derived.Test.YtoaekmghlmeflaaQ13
import Derived.Test.YtoaekmghlmeflaaQ14
namespace Go.Proofs.Ytoaekmghlmeflaa.L
open Go.RowKit Go.Proofs.YtoaekmghlmeflaaW.PrintWords Go.Proofs.YtoaekmghlmeflaaW.PrintMore Go.Proofs.Ytoaekmghlmeflaa.M Go.Proofs.Ytoaekmghlmeflaa.Q
set_option linter.unusedVariables false
set_option linter.unusedSimpArgs false
theorem whGood_f (W D : Int) : spec_whGood.f W D = some (good W D) := by
  unfold spec_whGood.f spec_l1In.f good
  by_cases h1 : 1 ≤ W <;> by_cases h2 : W ≤ 6 <;> by_cases h3 : 2 ≤ D <;> by_cases h4 : D ≤ 10 <;> simp [h1, h2, h3, h4]
theorem IsLock_i (W D : Int) : impl_IsLock.f W D = some (good W D) := by
  unfold impl_IsLock.f impl_within.f good
  by_cases h1 : 1 ≤ W <;> by_cases h2 : W ≤ 6 <;> by_cases h3 : 2 ≤ D <;> by_cases h4 : D ≤ 10 <;> simp [h1, h2, h3, h4]
theorem l1In_f (n lo hi : Int) : spec_l1In.f n lo hi = some (decide (lo ≤ n ∧ n ≤ hi)) := by
  unfold spec_l1In.f
  by_cases h1 : lo ≤ n <;> by_cases h2 : n ≤ hi <;> simp [h1, h2]
theorem within_f (n lo hi : Int) : impl_within.f n lo hi = some (decide (lo ≤ n ∧ n ≤ hi)) := by
  unfold impl_within.f
  by_cases h1 : lo ≤ n <;> by_cases h2 : n ≤ hi <;> simp [h1, h2]

theorem whCode_l0 {W D : Int} (hD : 2 ≤ D ∧ D ≤ 10) {s : ByteArray} (hs : s.size ≤ 1048576) : ∀ (t p : List Int), bys s = p ++ t → Ev (fun k => spec_whCode.l0 k s (p.length : Int) W D) (t.all fun b => decide (48 ≤ b ∧ b < 48 + D))
  | [], p, e => by
    have el : p.length = s.size := by rw [← bys_length, e]; simp
    refine Ev.succ ?_
    simp only [spec_whCode.l0]
    exact Ev.neg (by omega) (Ev.now _)
  | x :: t, p, e => by
    have el : p.length + (t.length + 1) = s.size := by rw [← bys_length, e]; simp
    have hx := bys_range s x (by rw [e]; simp)
    refine Ev.succ ?_
    simp only [spec_whCode.l0]
    refine Ev.pos (by omega) (Ev.pos (by omega) ?_)
    rw [bt_bys, e, rd_mid, wrap_id (x := x) (by omega) (by omega), wrap_id (x := x - 48) (by omega) (by omega), wrap_id (x := D - 1) (by omega) (by omega), l1In_f]
    refine Ev.bind0 rfl ?_
    by_cases hb : 48 ≤ x ∧ x < 48 + D
    · refine Ev.pos (by simp; omega) ?_
      rw [show wrap64 ((p.length : Int) + 1) = ((p ++ [x]).length : Int) from len_next p x (by omega)]
      simp only [List.all_cons, hb, and_self, decide_true, Bool.true_and]
      exact whCode_l0 hD hs t (p ++ [x]) (by rw [e]; simp)
    · refine Ev.neg (by simp; omega) ?_
      rw [List.all_cons, decide_eq_false hb, Bool.false_and]
      exact Ev.now _
theorem whCode_ev {W D : Int} (h : good W D = true) (s : ByteArray) (hs : s.size ≤ 1048576) : Ev (fun k => spec_whCode.f k W D s) (isC W D s) := by
  obtain ⟨a, b, c, d⟩ := good_iff.1 h
  unfold spec_whCode.f isC
  by_cases e : (s.size : Int) = W
  · refine Ev.pos e ?_
    rw [decide_eq_true e, Bool.true_and]
    exact whCode_l0 ⟨c, d⟩ hs (bys s) [] rfl
  · refine Ev.neg e ?_
    rw [decide_eq_false e, Bool.false_and]
    exact Ev.now _
theorem isText_l0 {W D : Int} (hD : 2 ≤ D ∧ D ≤ 10) {s : ByteArray} (hs : s.size ≤ 1048576) : ∀ (t p : List Int), bys s = p ++ t → Ev (fun k => impl_Lock_isText.l0 k s (s.size : Int) (p.length : Int) W D) (t.all fun b => decide (48 ≤ b ∧ b < 48 + D))
  | [], p, e => by
    have el : p.length = s.size := by rw [← bys_length, e]; simp
    refine Ev.succ ?_
    simp only [impl_Lock_isText.l0]
    exact Ev.neg (by omega) (Ev.now _)
  | x :: t, p, e => by
    have el : p.length + (t.length + 1) = s.size := by rw [← bys_length, e]; simp
    have hx := bys_range s x (by rw [e]; simp)
    refine Ev.succ ?_
    simp only [impl_Lock_isText.l0]
    refine Ev.pos (by omega) (Ev.pos (by omega) (Ev.pos (by omega) ?_))
    rw [bt_bys, e, rd_mid, wrap_id (x := x) (by omega) (by omega), wrap_id (x := 48 + D) (by omega) (by omega), wrap_id (x := 48 + D - 1) (by omega) (by omega), within_f]
    refine Ev.bind0 rfl ?_
    by_cases hb : 48 ≤ x ∧ x < 48 + D
    · refine Ev.pos (by simp; omega) ?_
      rw [show wrap64 ((p.length : Int) + 1) = ((p ++ [x]).length : Int) from len_next p x (by omega)]
      simp only [List.all_cons, hb, and_self, decide_true, Bool.true_and]
      exact isText_l0 hD hs t (p ++ [x]) (by rw [e]; simp)
    · refine Ev.neg (by simp; omega) ?_
      rw [List.all_cons, decide_eq_false hb, Bool.false_and]
      exact Ev.now _
theorem isCode_ev {W D : Int} (h : good W D = true) (s : ByteArray) (hs : s.size ≤ 1048576) : Ev (fun k => impl_Lock_isCode.f k W D s) (isC W D s) := by
  obtain ⟨a, b, c, d⟩ := good_iff.1 h
  unfold impl_Lock_isCode.f isC
  by_cases e : (s.size : Int) = W
  · refine Ev.pos e ?_
    rw [decide_eq_true e, Bool.true_and]
    refine Ev.bind (isText_l0 (W := W) ⟨c, d⟩ hs (bys s) [] rfl) (Ev.now _)
  · refine Ev.neg e ?_
    rw [decide_eq_false e, Bool.false_and]
    exact Ev.now _

theorem dgs_app {s : ByteArray} {p t : List Int} (e : bys s = p ++ t) : dgs s = (p.map fun b => (b - 48) % 256) ++ (t.map fun b => (b - 48) % 256) := by
  unfold dgs; rw [e, List.map_append]
theorem whDigits_l0 {s : ByteArray} (hs : s.size ≤ 1048576) : ∀ (t p : List Int), bys s = p ++ t → Ev (fun k => spec_whDigits.l0 k s (p.map fun b => (b - 48) % 256) (p.length : Int)) (dgs s)
  | [], p, e => by
    have el : p.length = s.size := by rw [← bys_length, e]; simp
    refine Ev.succ ?_
    simp only [spec_whDigits.l0]
    refine Ev.neg (by omega) (Ev.val ?_)
    rw [dgs_app e]; simp
  | x :: t, p, e => by
    have el : p.length + (t.length + 1) = s.size := by rw [← bys_length, e]; simp
    refine Ev.succ ?_
    simp only [spec_whDigits.l0]
    refine Ev.pos (by omega) (Ev.pos (by omega) (Ev.pos (by rw [List.length_map]; omega) ?_))
    rw [bt_bys, e, rd_mid, show wrap64 ((p.length : Int) + 1) = ((p ++ [x]).length : Int) from len_next p x (by omega)]
    have := whDigits_l0 hs t (p ++ [x]) (by rw [e]; simp)
    rw [List.map_append] at this
    exact this
theorem whDigits_ev (s : ByteArray) (hs : s.size ≤ 1048576) : Ev (fun k => spec_whDigits.f k s) (dgs s) := by
  unfold spec_whDigits.f
  exact whDigits_l0 hs (bys s) [] rfl
theorem l1Mod_f (k : Int) {n : Int} (h0 : 0 < n) (h1 : n ≤ 1000) : spec_l1Mod.f k n = some (k % n) := by
  unfold spec_l1Mod.f; rw [if_neg (by omega), tmod_around h0 h1]
theorem around_f (k : Int) {n : Int} (h0 : 0 < n) (h1 : n ≤ 1000) : impl_around.f k n = some (k % n) := by
  unfold impl_around.f; rw [if_neg (by omega), tmod_around h0 h1]
theorem whFar_f (W : Int) {D a b : Int} (h0 : 0 < D) (h1 : D ≤ 1000) (ha : -1000 ≤ a ∧ a ≤ 1000) (hb : -1000 ≤ b ∧ b ≤ 1000) : spec_whFar.f W D a b = some ((b - a) % D, (D - (b - a) % D) % D) := by
  have h3 := Int.emod_nonneg (b - a) (show D ≠ 0 by omega)
  have h4 := Int.emod_lt_of_pos (b - a) h0
  unfold spec_whFar.f
  rw [wrap_id (x := b - a) (by omega) (by omega), l1Mod_f _ h0 h1, Option.bind_some, if_neg (by omega), wrap_id (by omega) (by omega), Int.tmod_eq_emod_of_nonneg (by omega)]
theorem gap_f (W : Int) {D a b : Int} (h0 : 0 < D) (h1 : D ≤ 1000) (ha : -1000 ≤ a ∧ a ≤ 1000) (hb : -1000 ≤ b ∧ b ≤ 1000) : impl_Lock_gap.f W D a b = some ((b - a) % D) := by
  unfold impl_Lock_gap.f
  rw [wrap_id (x := b - a) (by omega) (by omega), around_f _ h0 h1, Option.bind_some]
theorem whAsked_ev (W D : Int) (s : ByteArray) (hs : s.size ≤ 1048576) : Ev (fun k => spec_whAsked.f k W D s) (good W D && isC W D s) := by
  unfold spec_whAsked.f
  refine Ev.bind0 (whGood_f W D) ?_
  by_cases h : good W D = true
  · refine Ev.pos h (Ev.bind (whCode_ev h s hs) (Ev.val (by rw [h]; rfl)))
  · refine Ev.neg h (Ev.val (by simp [h]))
theorem has_l0 {W D : Int} (h : good W D = true) : ∀ (t p : List ByteArray), (∀ s ∈ t, s.size ≤ 1048576) → (p ++ t).length ≤ 1048576 → Ev (fun k => impl_has.l0 k (p ++ t) ((p ++ t).length : Int) (p.length : Int) W D) (t.all (isC W D))
  | [], p, hs, hl => by
    refine Ev.succ ?_
    simp only [impl_has.l0]
    refine Ev.neg (len_end p) (Ev.val (by simp))
  | x :: t, p, hs, hl => by
    rw [List.length_append, List.length_cons] at hl
    refine Ev.succ ?_
    simp only [impl_has.l0]
    refine Ev.pos (len_mid p t x) (Ev.pos (by omega) (Ev.pos (len_mid p t x) ?_))
    rw [rdOf_mid, len_next p x (by omega), app_next p t x]
    refine Ev.bind (isCode_ev h x (hs x (by simp))) ?_
    by_cases hx : isC W D x = true
    · refine Ev.pos hx ?_
      rw [List.all_cons, hx, Bool.true_and]
      exact has_l0 h t (p ++ [x]) (fun s hs' => hs s (by simp [hs'])) (by simp; omega)
    · refine Ev.neg hx (Ev.val ?_)
      simp [hx]
theorem has_ev (W D : Int) (l : List ByteArray) (hs : ∀ s ∈ l, s.size ≤ 1048576) (hl : l.length ≤ 1048576) : Ev (fun k => impl_has.f k W D l) (good W D && l.all (isC W D)) := by
  unfold impl_has.f
  refine Ev.bind0 (IsLock_i W D) ?_
  by_cases h : good W D = true
  · refine Ev.pos h ?_
    rw [h, Bool.true_and]
    exact has_l0 h l [] hs hl
  · refine Ev.neg h (Ev.val (by simp [h]))

theorem whTwo_ev (W D : Int) (s t : ByteArray) (hs : s.size ≤ 1048576) (ht : t.size ≤ 1048576) : Ev (fun k => spec_whTwo.f k W D s t) (good W D && (isC W D s && isC W D t)) := by
  unfold spec_whTwo.f
  refine Ev.bind (whAsked_ev W D s hs) ?_
  by_cases h : (good W D && isC W D s) = true
  · obtain ⟨hg, hc⟩ := Bool.and_eq_true_iff.1 h
    exact Ev.pos h (Ev.bind (whCode_ev hg t ht) (Ev.val (by rw [hg, hc]; rfl)))
  · refine Ev.neg h (Ev.val ?_)
    rw [← Bool.and_assoc]; simp [h]
theorem has2_ev (W D : Int) (s t : ByteArray) (hs : s.size ≤ 1048576) (ht : t.size ≤ 1048576) : Ev (fun k => impl_has.f k W D [s, t]) (good W D && (isC W D s && isC W D t)) := by
  have := has_ev W D [s, t] (by intro u hu; simp at hu; rcases hu with rfl | rfl <;> assumption) (by simp)
  simpa using this
/-- Two codes of a lock. -/
theorem two_of {W D : Int} {s t : ByteArray} (h : (good W D && (isC W D s && isC W D t)) = true) : (1 ≤ W ∧ W ≤ 6 ∧ 2 ≤ D ∧ D ≤ 10) ∧ s = txt (dgs s) ∧ t = txt (dgs t) ∧ Ok D (dgs s) ∧ Ok D (dgs t) ∧ ((dgs s).length : Int) = W ∧ ((dgs t).length : Int) = W := by
  obtain ⟨hg, hc⟩ := Bool.and_eq_true_iff.1 h
  obtain ⟨h1, h2⟩ := Bool.and_eq_true_iff.1 hc
  have g := good_iff.1 hg
  obtain ⟨a1, a2, a3⟩ := code_of h1 g.2.2.2
  obtain ⟨b1, b2, b3⟩ := code_of h2 g.2.2.2
  exact ⟨g, a1, b1, a2, b2, a3, b3⟩
theorem rdT_mid (p t : List S40) (x : S40) : rd_T40 (p ++ x :: t) (p.length : Int) = x := by
  unfold rd_T40; rw [Int.toNat_natCast, List.getD_eq_getElem?_getD, List.getElem?_append_right (Nat.le_refl _), Nat.sub_self]; rfl
theorem rdI_mid (p t : List S40) (x : S40) : rd_T40 (p ++ x :: t) (p.length : Int) = x := by
  unfold rd_T40; rw [Int.toNat_natCast, List.getD_eq_getElem?_getD, List.getElem?_append_right (Nat.le_refl _), Nat.sub_self]; rfl
theorem eqTurnS_l0 : ∀ (t p : List S40), (p ++ t).length ≤ 9223372036854775806 → Ev (fun k => laws_eqTurnS.l0 k (p ++ t) (p ++ t) (p.length : Int)) true
  | [], p, hl => by
    refine Ev.succ ?_
    simp only [laws_eqTurnS.l0]
    exact Ev.neg (len_end p) (Ev.now _)
  | x :: t, p, hl => by
    rw [List.length_append, List.length_cons] at hl
    refine Ev.succ ?_
    simp only [laws_eqTurnS.l0]
    refine Ev.pos (len_mid p t x) (Ev.pos (by omega) (Ev.pos (len_mid p t x) ?_))
    rw [rdI_mid]
    refine Ev.bind0 (a := true) (by unfold laws_eqTurn.f; rw [if_pos rfl, if_pos rfl]) (Ev.pos rfl ?_)
    rw [len_next p x (by omega), app_next p t x]
    exact eqTurnS_l0 t (p ++ [x]) (by simp; omega)
theorem eqTurnS_ev (l : List S40) (hl : l.length ≤ 9223372036854775806) : Ev (fun k => laws_eqTurnS.f k l l) true := by
  unfold laws_eqTurnS.f
  exact Ev.pos rfl (eqTurnS_l0 l [] hl)
theorem least_f (a b : Int) : spec_l1Least.f a b = some (mn a b) := by
  unfold spec_l1Least.f mn
  by_cases h : a < b
  · rw [if_pos h, if_neg (by omega)]
  · rw [if_neg h]
    by_cases h2 : b < a
    · rw [if_pos h2]
    · rw [if_neg h2, show a = b by omega]
def markedT : Int → List S40 → List S40
  | _, [] => []
  | a, _ :: l => ⟨a, a + 1⟩ :: markedT (a + 2) l
theorem markTurnS_l0 : ∀ (t p : List S40) (a : Int), 0 ≤ a → a + 2 * t.length ≤ 1000000000 → (p ++ t).length ≤ 1000000000 →
    Ev (fun k => laws_markTurnS.l0 k (p ++ t) a (p.length : Int)) (a + 2 * t.length, p ++ markedT a t)
  | [], p, a, _, _, _ => by
    refine Ev.succ ?_
    simp only [laws_markTurnS.l0]
    exact Ev.neg (len_end p) (Ev.val (by simp [markedT]))
  | x :: t, p, a, h0, h1, h2 => by
    rw [List.length_cons] at h1
    have ih := markTurnS_l0 t (p ++ [⟨a, a + 1⟩]) (a + 2) (by omega) (by omega) (by simpa using h2)
    refine Ev.succ ?_
    simp only [laws_markTurnS.l0]
    refine Ev.pos (len_mid p t x) (Ev.pos (by omega) (Ev.bind0 rfl ?_))
    rw [set_mid, rdT_mid, rdT_mid, set_mid, wrap_id (x := a + 1) (by omega) (by omega), wrap_id (x := a + 1 + 1) (by omega) (by omega), len_next p (⟨a, a + 1⟩ : S40) (by simp at h2; omega), app_next p t (⟨a, a + 1⟩ : S40)]
    rw [show a + 1 + 1 = a + 2 by omega]
    have e : (a + 2 + 2 * (t.length : Int), p ++ [(⟨a, a + 1⟩ : S40)] ++ markedT (a + 2) t) = (a + 2 * ((x :: t).length : Int), p ++ markedT a (x :: t)) := by
      simp only [markedT, List.append_assoc, List.singleton_append, List.length_cons]
      congr 1
      omega
    rw [e] at ih
    exact ih
theorem heldTurnS_l0 : ∀ (t p : List S40) (a : Int), 0 ≤ a → a + 2 * t.length ≤ 1000000000 → (p ++ t).length ≤ 1000000000 →
    Ev (fun k => laws_heldTurnS.l0 k (p ++ markedT a t) a (p.length : Int)) (a + 2 * t.length)
  | [], p, a, _, _, _ => by
    refine Ev.succ ?_
    simp only [laws_heldTurnS.l0, markedT]
    exact Ev.neg (len_end p) (Ev.val (by simp))
  | x :: t, p, a, h0, h1, h2 => by
    rw [List.length_cons] at h1
    have ih := heldTurnS_l0 t (p ++ [⟨a, a + 1⟩]) (a + 2) (by omega) (by omega) (by simpa using h2)
    rw [show markedT a (x :: t) = ⟨a, a + 1⟩ :: markedT (a + 2) t from rfl]
    refine Ev.succ ?_
    simp only [laws_heldTurnS.l0]
    refine Ev.pos (len_mid p _ _) (Ev.pos (by omega) ?_)
    rw [rdT_mid, wrap_id (x := a + 1) (by omega) (by omega), wrap_id (x := a + 1 + 1) (by omega) (by omega)]
    refine Ev.pos rfl (Ev.pos rfl ?_)
    rw [len_next p (⟨a, a + 1⟩ : S40) (by simp at h2; omega), app_next p _ (⟨a, a + 1⟩ : S40), show a + 1 + 1 = a + 2 by omega]
    have e : (a + 2 + 2 * (t.length : Int)) = (a + 2 * ((x :: t).length : Int)) := by rw [List.length_cons]; omega
    rw [e] at ih
    exact ih
theorem markTurnS_ev (l : List S40) (hl : l.length ≤ 100000000) : Ev (fun k => laws_markTurnS.f k l 1) (1 + 2 * l.length, markedT 1 l) ∧ Ev (fun k => laws_heldTurnS.f k (markedT 1 l) 1) (1 + 2 * l.length) :=
  ⟨markTurnS_l0 l [] 1 (by omega) (by omega) (by simp; omega), heldTurnS_l0 l [] 1 (by omega) (by omega) (by simp; omega)⟩
def oneT (D : Int) (i : Nat) (a b : Int) : List S40 :=
  if 2 * ((b - a) % D) > D then List.replicate (D - (b - a) % D).toNat ⟨i, -1⟩ else List.replicate ((b - a) % D).toNat ⟨i, 1⟩
def ftM (D : Int) : Nat → List Int → List Int → List S40
  | i, a :: s, b :: t => oneT D i a b ++ ftM D (i + 1) s t
  | _, _, _ => []
theorem oneT_len {D : Int} (hD : 2 ≤ D ∧ D ≤ 10) (i : Nat) (a b : Int) : (oneT D i a b).length ≤ 10 := by
  have h0 := Int.emod_nonneg (b - a) (show D ≠ 0 by omega)
  have h1 := Int.emod_lt_of_pos (b - a) (show 0 < D by omega)
  unfold oneT
  split <;> rw [List.length_replicate] <;> omega
theorem ftM_len {D : Int} (hD : 2 ≤ D ∧ D ≤ 10) : ∀ (s t : List Int) (i : Nat), (ftM D i s t).length ≤ 10 * s.length
  | [], t, i => by simp [ftM]
  | a :: s, [], i => by simp [ftM]
  | a :: s, b :: t, i => by
    have h1 := oneT_len hD i a b
    have h2 := ftM_len hD s t (i + 1)
    simp only [ftM, List.length_append, List.length_cons]
    omega
theorem ft_sl1 {W D : Int} {X Y : List Int} {i y N x : Int} {r : List S40 × Bool} : ∀ (n : Nat) (acc : List S40), acc.length + n ≤ 1000000 →
    Ev (fun k => spec_FirstTurns.l0 k X Y (acc ++ List.replicate n ⟨i, y⟩) N (wrap64 (x + 1)) W D) r → Ev (fun k => spec_FirstTurns.l1 k X Y acc i y (n : Int) N x W D) r
  | 0, acc, _, h => by
    refine Ev.succ ?_
    simp only [spec_FirstTurns.l1]
    refine Ev.neg (by omega) ?_
    simpa using h
  | n + 1, acc, hl, h => by
    refine Ev.succ ?_
    simp only [spec_FirstTurns.l1]
    refine Ev.pos (by omega) (Ev.pos (by omega) ?_)
    rw [wrap_id (x := ((n + 1 : Nat) : Int) - 1) (by omega) (by omega), show ((n + 1 : Nat) : Int) - 1 = (n : Int) by omega]
    refine ft_sl1 n (acc ++ [⟨i, y⟩]) (by simp; omega) ?_
    rw [List.append_assoc, List.singleton_append, ← List.replicate_succ]
    exact h
theorem ft_sl0 {W D : Int} (hD : 2 ≤ D ∧ D ≤ 10) : ∀ (s t p q : List Int) (acc : List S40), Ok D s → Ok D t → s.length = t.length → p.length = q.length → (p ++ s).length ≤ 6 → acc.length ≤ 10 * p.length →
    Ev (fun k => spec_FirstTurns.l0 k (p ++ s) (q ++ t) acc ((p ++ s).length : Int) (p.length : Int) W D) (acc ++ ftM D p.length s t, true)
  | [], t, p, q, acc, _, _, _, _, _, _ => by
    refine Ev.succ ?_
    simp only [spec_FirstTurns.l0]
    exact Ev.neg (len_end p) (Ev.val (by simp [ftM]))
  | a :: s, [], p, q, acc, _, _, hl, _, _, _ => by simp at hl
  | a :: s, b :: t, p, q, acc, hs, ht, hl, hpq, h6, ha => by
    have ha0 := (Ok.cons.1 hs).1
    have hb0 := (Ok.cons.1 ht).1
    have h0 := Int.emod_nonneg (b - a) (show D ≠ 0 by omega)
    have h1 := Int.emod_lt_of_pos (b - a) (show 0 < D by omega)
    have h1' := oneT_len hD p.length a b
    have hq1 : rd (q ++ b :: t) (p.length : Int) = b := by rw [hpq]; exact rd_mid _ _ _
    have h6' : p.length + (s.length + 1) ≤ 6 := by simpa using h6
    have ih := ft_sl0 (W := W) hD s t (p ++ [a]) (q ++ [b]) (acc ++ oneT D p.length a b) (Ok.cons.1 hs).2 (Ok.cons.1 ht).2 (by simpa using hl) (by simp [hpq]) (by simpa using h6) (by simp; omega)
    rw [← app_next, ← app_next, List.append_assoc, ← len_next p a (by omega), show (p ++ [a]).length = p.length + 1 by simp] at ih
    have e1 : ftM D p.length (a :: s) (b :: t) = oneT D p.length a b ++ ftM D (p.length + 1) s t := rfl
    rw [← e1] at ih
    have go : ∀ (y : Int) (n : Nat), n ≤ 10 → oneT D p.length a b = List.replicate n ⟨p.length, y⟩ → Ev (fun k => spec_FirstTurns.l1 k (p ++ a :: s) (q ++ b :: t) acc (p.length : Int) y (n : Int) ((p ++ a :: s).length : Int) (p.length : Int) W D) (acc ++ ftM D p.length (a :: s) (b :: t), true) := fun y n hn e => by
      refine ft_sl1 n acc (by omega) ?_
      rw [← e]
      exact ih
    refine Ev.succ ?_
    simp only [spec_FirstTurns.l0]
    refine Ev.pos (len_mid p s a) (Ev.pos (by omega) (Ev.pos (len_mid p s a) (Ev.pos (by rw [hpq]; exact len_mid q t b) ?_)))
    rw [rd_mid, hq1]
    refine Ev.bind0 (whFar_f W (by omega) (by omega) (by omega) (by omega)) ?_
    generalize hu : (b - a) % D = u at h0 h1
    have hdown : (D - u) % D = if u = 0 then 0 else D - u := by
      by_cases h : u = 0
      · rw [if_pos h, h]; simp
      · rw [if_neg h]; exact Int.emod_eq_of_lt (by omega) (by omega)
    have hone : oneT D p.length a b = if 2 * u > D then List.replicate (D - u).toNat ⟨p.length, -1⟩ else List.replicate u.toNat ⟨p.length, 1⟩ := by unfold oneT; rw [hu]
    simp only
    rw [hdown]
    by_cases h : (if u = 0 then 0 else D - u) < u
    · have hu0 : ¬ u = 0 := fun x => by rw [if_pos x] at h; omega
      rw [if_neg hu0] at h ⊢
      refine Ev.pos h (Ev.succ ?_)
      simp only [spec_FirstTurns.j1]
      refine Ev.bind0 (least_f _ _) ?_
      have e2 : mn u (D - u) = ((D - u).toNat : Int) := by unfold mn; rw [if_pos (by omega)]; omega
      rw [e2]
      exact go (-1) (D - u).toNat (by omega) (by rw [hone, if_pos (by omega)])
    · refine Ev.neg h (Ev.succ ?_)
      simp only [spec_FirstTurns.j1]
      refine Ev.bind0 (least_f _ _) ?_
      have e2 : mn u (if u = 0 then 0 else D - u) = (u.toNat : Int) := by
        unfold mn
        by_cases hu0 : u = 0
        · rw [if_pos hu0, hu0]; rfl
        · rw [if_neg hu0] at h ⊢
          split <;> omega
      rw [e2]
      have hno : ¬ 2 * u > D := by
        by_cases hu0 : u = 0
        · omega
        · rw [if_neg hu0] at h; omega
      exact go 1 u.toNat (by omega) (by rw [hone, if_neg hno])
def FirstTurnsM (W D : Int) (s t : ByteArray) : List S40 × Bool := if (good W D && (isC W D s && isC W D t)) = true then (ftM D 0 (dgs s) (dgs t), true) else ([], false)
theorem FirstTurns_s (W D : Int) (s t : ByteArray) (hs : s.size ≤ 1048576) (ht : t.size ≤ 1048576) : Ev (fun k => spec_FirstTurns.f k W D s t) (FirstTurnsM W D s t) := by
  unfold spec_FirstTurns.f FirstTurnsM
  refine Ev.bind (whTwo_ev W D s t hs ht) ?_
  by_cases h : (good W D && (isC W D s && isC W D t)) = true
  · rw [if_pos h]
    obtain ⟨⟨a, b, c, d⟩, e1, e2, o1, o2, l1, l2⟩ := two_of h
    refine Ev.pos h (Ev.bind (whDigits_ev s hs) (Ev.bind (whDigits_ev t ht) ?_))
    exact ft_sl0 ⟨c, d⟩ (dgs s) (dgs t) [] [] [] o1 o2 (by omega) rfl (by simp; omega) (by simp)
  · rw [if_neg h]; exact Ev.neg h (Ev.now _)
theorem repT_f (x : S40) (n : Nat) (hn : n ≤ 100) : impl_Turn.f [x] (n : Int) = some (List.replicate n x) := by
  unfold impl_Turn.f
  rw [if_pos ⟨rfl, by omega, by omega⟩, Int.toNat_natCast]; rfl
theorem ft_il0 {W D : Int} (hD : 2 ≤ D ∧ D ≤ 10) {s r : ByteArray} : ∀ (t u p q : List Int) (acc : List S40), bys s = p ++ t.map (48 + ·) → bys r = q ++ u.map (48 + ·) → Ok D t → Ok D u → p.length = q.length → t.length = u.length → (s.size : Int) = W → W ≤ 6 → acc.length ≤ 10 * p.length →
    Ev (fun k => impl_FirstTurns.l0 k s r acc W (p.length : Int) W D) (acc ++ ftM D p.length t u, true)
  | [], u, p, q, acc, es, _, _, _, _, _, hW, _, _ => by
    have := congrArg List.length es
    rw [bys_length] at this
    simp at this
    refine Ev.succ ?_
    simp only [impl_FirstTurns.l0]
    exact Ev.neg (by omega) (Ev.val (by simp [ftM]))
  | a :: t, [], p, q, acc, _, _, _, _, _, hl, _, _, _ => by simp at hl
  | a :: t, b :: u, p, q, acc, es, er, ht, hu, hpq, hl, hW, h6, ha => by
    have ls := congrArg List.length es
    have lr := congrArg List.length er
    rw [bys_length] at ls lr
    simp at ls lr hl
    have ha0 := (Ok.cons.1 ht).1
    have hb0 := (Ok.cons.1 hu).1
    have h0 := Int.emod_nonneg (b - a) (show D ≠ 0 by omega)
    have h1 := Int.emod_lt_of_pos (b - a) (show 0 < D by omega)
    have h1' := oneT_len hD p.length a b
    have ea : bt s (p.length : Int) = 48 + a := by rw [bt_bys, es]; exact rd_mid _ _ _
    have eb : bt r (p.length : Int) = 48 + b := by rw [bt_bys, er, hpq]; exact rd_mid _ _ _
    have ih := ft_il0 (W := W) hD t u (p ++ [48 + a]) (q ++ [48 + b]) (acc ++ oneT D p.length a b) (by rw [es]; simp) (by rw [er]; simp) (Ok.cons.1 ht).2 (Ok.cons.1 hu).2 (by simp [hpq]) hl hW h6 (by simp; omega)
    rw [List.append_assoc, ← len_next p (48 + a) (by omega), show (p ++ [48 + a]).length = p.length + 1 by simp] at ih
    have e1 : ftM D p.length (a :: t) (b :: u) = oneT D p.length a b ++ ftM D (p.length + 1) t u := rfl
    rw [← e1] at ih
    refine Ev.succ ?_
    simp only [impl_FirstTurns.l0]
    refine Ev.pos (by omega) (Ev.pos (by omega) (Ev.pos (by omega) (Ev.pos (by omega) ?_)))
    rw [ea, eb, wrap_id (x := 48 + a) (by omega) (by omega), wrap_id (x := 48 + b) (by omega) (by omega)]
    refine Ev.bind0 (gap_f W (by omega) (by omega) (by omega) (by omega)) ?_
    rw [show 48 + b - (48 + a) = b - a by omega]
    have hone : oneT D p.length a b = if 2 * ((b - a) % D) > D then List.replicate (D - (b - a) % D).toNat ⟨p.length, -1⟩ else List.replicate ((b - a) % D).toNat ⟨p.length, 1⟩ := rfl
    generalize hu' : (b - a) % D = v at h0 h1 hone
    rw [wrap_id (x := 2 * v) (by omega) (by omega), wrap_id (x := D - v) (by omega) (by omega)]
    by_cases h : 2 * v > D
    · rw [if_pos h] at hone
      have e3 := repT_f ⟨p.length, -1⟩ (D - v).toNat (by omega)
      rw [Int.toNat_of_nonneg (show 0 ≤ D - v by omega), ← hone] at e3
      exact Ev.pos h (Ev.bind0 e3 (Ev.pos (by omega) ih))
    · rw [if_neg h] at hone
      have e3 := repT_f ⟨p.length, 1⟩ v.toNat (by omega)
      rw [Int.toNat_of_nonneg h0, ← hone] at e3
      exact Ev.neg h (Ev.bind0 e3 (Ev.pos (by omega) ih))
theorem FirstTurns_i (W D : Int) (s t : ByteArray) (hs : s.size ≤ 1048576) (ht : t.size ≤ 1048576) : Ev (fun k => impl_FirstTurns.f k W D s t) (FirstTurnsM W D s t) := by
  unfold impl_FirstTurns.f FirstTurnsM
  refine Ev.bind (has2_ev W D s t hs ht) ?_
  by_cases h : (good W D && (isC W D s && isC W D t)) = true
  · rw [if_pos h]
    obtain ⟨⟨a, b, c, d⟩, e1, e2, o1, o2, l1, l2⟩ := two_of h
    refine Ev.pos h ?_
    have es : (s.size : Int) = W := by rw [dgs_length] at l1; exact l1
    have b1 : bys s = (dgs s).map (48 + ·) := by have := bys_txt (o1.le d); rwa [← e1] at this
    have b2 : bys t = (dgs t).map (48 + ·) := by have := bys_txt (o2.le d); rwa [← e2] at this
    exact ft_il0 (W := W) ⟨c, d⟩ (dgs s) (dgs t) [] [] [] b1 b2 o1 o2 rfl (by omega) es (by omega) (by simp)
  · rw [if_neg h]; exact Ev.neg h (Ev.now _)
theorem FirstTurns_len (W D : Int) (s t : ByteArray) : (FirstTurnsM W D s t).1.length ≤ 60 := by
  unfold FirstTurnsM
  by_cases h : (good W D && (isC W D s && isC W D t)) = true
  · rw [if_pos h]
    obtain ⟨⟨a, b, c, d⟩, e1, e2, o1, o2, l1, l2⟩ := two_of h
    have := ftM_len ⟨c, d⟩ (dgs s) (dgs t) 0
    show (ftM D 0 (dgs s) (dgs t)).length ≤ 60
    omega
  · rw [if_neg h]; simp
end Go.Proofs.Ytoaekmghlmeflaa.L
