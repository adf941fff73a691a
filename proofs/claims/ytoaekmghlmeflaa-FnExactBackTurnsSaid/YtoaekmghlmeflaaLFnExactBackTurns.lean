/- What the printed functions that FnExactBackTurns reaches come to: lemmas for its plain law. -/
import Derived.Test.YtoaekmghlmeflaaMath
import Derived.Test.YtoaekmghlmeflaaB0
import Derived.Test.YtoaekmghlmeflaaB1
import Derived.Test.YtoaekmghlmeflaaB2
import Derived.Test.YtoaekmghlmeflaaB3
import Derived.Test.YtoaekmghlmeflaaB4
import Derived.Test.YtoaekmghlmeflaaB5
import Derived.Test.YtoaekmghlmeflaaB6
import Derived.Test.YtoaekmghlmeflaaB7
import Derived.Test.YtoaekmghlmeflaaB8
import Derived.Test.YtoaekmghlmeflaaB9
import Derived.Test.YtoaekmghlmeflaaB10
import Derived.Test.YtoaekmghlmeflaaB11
namespace Go.Proofs.Ytoaekmghlmeflaa.L
open Go.RowKit Go.Proofs.YtoaekmghlmeflaaW.PrintWords Go.Proofs.YtoaekmghlmeflaaW.PrintMore Go.Proofs.Ytoaekmghlmeflaa.M Go.Proofs.Ytoaekmghlmeflaa.B
set_option linter.unusedVariables false
set_option linter.unusedSimpArgs false
theorem whGood_f (W D : Int) : spec_whGood.f W D = some (good W D) := by
  unfold spec_whGood.f spec_l1In.f good
  by_cases h1 : 1 ≤ W <;> by_cases h2 : W ≤ 6 <;> by_cases h3 : 2 ≤ D <;> by_cases h4 : D ≤ 10 <;> simp [h1, h2, h3, h4]
theorem IsLock_i (W D : Int) : impl_IsLock.f W D = some (good W D) := by
  unfold impl_IsLock.f impl_within.f good
  by_cases h1 : 1 ≤ W <;> by_cases h2 : W ≤ 6 <;> by_cases h3 : 2 ≤ D <;> by_cases h4 : D ≤ 10 <;> simp [h1, h2, h3, h4]
theorem l1In_f (n lo hi : Int) : spec_l1In.f n lo hi = some (decide (lo ≤ n ∧ n ≤ hi)) := by
  unfold spec_l1In.f
  by_cases h1 : lo ≤ n <;> by_cases h2 : n ≤ hi <;> simp [h1, h2]
theorem within_f (n lo hi : Int) : impl_within.f n lo hi = some (decide (lo ≤ n ∧ n ≤ hi)) := by
  unfold impl_within.f
  by_cases h1 : lo ≤ n <;> by_cases h2 : n ≤ hi <;> simp [h1, h2]

theorem rdT_mid (p t : List S40) (x : S40) : rd_T40 (p ++ x :: t) (p.length : Int) = x := by
  unfold rd_T40; rw [Int.toNat_natCast, List.getD_eq_getElem?_getD, List.getElem?_append_right (Nat.le_refl _), Nat.sub_self]; rfl
def okT (W : Int) (t : S40) : Bool := decide (0 ≤ t.f0 ∧ t.f0 ≤ W - 1) && decide (t.f1 = 1 ∨ t.f1 = -1)
theorem okT_iff {W : Int} {t : S40} : okT W t = true ↔ (0 ≤ t.f0 ∧ t.f0 ≤ W - 1) ∧ (t.f1 = 1 ∨ t.f1 = -1) := by simp [okT]
def areT (W : Int) (l : List S40) : Bool := l.all (okT W) && decide (l.length ≤ 200)
theorem whTurn_f {W : Int} (hW : 0 ≤ W ∧ W ≤ 100) (D i b : Int) : spec_whTurn.f W D i b = some (okT W ⟨i, b⟩) := by
  unfold spec_whTurn.f okT
  rw [wrap_id (x := W - 1) (by omega) (by omega), l1In_f, Option.bind_some]
  by_cases h : 0 ≤ i ∧ i ≤ W - 1
  · rw [decide_eq_true h, if_pos rfl]
    by_cases h1 : b = 1
    · rw [if_pos h1]; simp [h1]
    · rw [if_neg h1]; simp [h1]
      by_cases h2 : b = -1 <;> simp [h2]
  · rw [decide_eq_false h]; simp
theorem areTurns_l0 {W : Int} (hW : 0 ≤ W ∧ W ≤ 100) (l0 : List S40) : ∀ (t p : List S40), (p ++ t).length ≤ 1048576 →
    Ev (fun k => impl_areTurns.l0 k l0 W (p ++ t) ((p ++ t).length : Int) (p.length : Int)) (t.all (okT W) && decide (l0.length ≤ 200))
  | [], p, hl => by
    refine Ev.succ ?_
    simp only [impl_areTurns.l0]
    refine Ev.neg (len_end p) (Ev.val ?_)
    simp only [List.all_nil, Bool.true_and]
    congr 1; apply propext; omega
  | x :: t, p, hl => by
    rw [List.length_append, List.length_cons] at hl
    refine Ev.succ ?_
    simp only [impl_areTurns.l0]
    refine Ev.pos (len_mid p t x) (Ev.pos (by omega) (Ev.pos (len_mid p t x) ?_))
    rw [rdT_mid, wrap_id (x := W - 1) (by omega) (by omega), within_f, len_next p x (by omega), app_next p t x]
    refine Ev.bind0 rfl ?_
    have ih := areTurns_l0 hW l0 t (p ++ [x]) (by simp; omega)
    by_cases h : 0 ≤ x.f0 ∧ x.f0 ≤ W - 1
    · rw [decide_eq_true h]
      refine Ev.pos rfl ?_
      by_cases h1 : x.f1 = 1
      · refine Ev.pos h1 ?_
        rw [List.all_cons, okT_iff.2 ⟨h, .inl h1⟩, Bool.true_and]; exact ih
      · refine Ev.neg h1 ?_
        by_cases h2 : x.f1 = -1
        · refine Ev.pos h2 ?_
          rw [List.all_cons, okT_iff.2 ⟨h, .inr h2⟩, Bool.true_and]; exact ih
        · refine Ev.neg h2 (Ev.val ?_)
          simp [okT, h1, h2]
    · rw [decide_eq_false h]
      refine Ev.neg (by simp) (Ev.val ?_)
      simp [okT]
      intro h3 h4
      exact absurd ⟨h3, by omega⟩ h
theorem areTurns_ev {W : Int} (hW : 0 ≤ W ∧ W ≤ 100) (l : List S40) (hl : l.length ≤ 1048576) : Ev (fun k => impl_areTurns.f k l W) (areT W l) := by
  unfold impl_areTurns.f
  exact areTurns_l0 hW l l [] hl
theorem whTurns_l0 {W D : Int} (hW : 0 ≤ W ∧ W ≤ 100) : ∀ (t p : List S40), (p ++ t).length ≤ 1048576 →
    Ev (fun k => spec_whTurns.l0 k (p ++ t) ((p ++ t).length : Int) (p.length : Int) W D) (t.all (okT W))
  | [], p, hl => by
    refine Ev.succ ?_
    simp only [spec_whTurns.l0]
    exact Ev.neg (len_end p) (Ev.now _)
  | x :: t, p, hl => by
    rw [List.length_append, List.length_cons] at hl
    refine Ev.succ ?_
    simp only [spec_whTurns.l0]
    refine Ev.pos (len_mid p t x) (Ev.pos (by omega) (Ev.pos (len_mid p t x) ?_))
    rw [rdT_mid, len_next p x (by omega), app_next p t x]
    refine Ev.bind0 (whTurn_f hW D _ _) ?_
    have ih := whTurns_l0 (D := D) hW t (p ++ [x]) (by simp; omega)
    by_cases h : okT W x = true
    · refine Ev.pos h ?_
      rw [List.all_cons, h, Bool.true_and]; exact ih
    · refine Ev.neg h (Ev.val ?_)
      simp [h]
theorem whTurns_ev {W : Int} (hW : 0 ≤ W ∧ W ≤ 100) (D : Int) (l : List S40) (hl : l.length ≤ 1048576) : Ev (fun k => spec_whTurns.f k W D l) (areT W l) := by
  unfold spec_whTurns.f areT
  by_cases h : (l.length : Int) > 200
  · refine Ev.pos h (Ev.val ?_)
    rw [decide_eq_false (by omega)]; simp
  · refine Ev.neg h ?_
    rw [decide_eq_true (by omega), Bool.and_true]
    exact whTurns_l0 hW l [] hl

theorem rdI_mid (p t : List S40) (x : S40) : rd_T40 (p ++ x :: t) (p.length : Int) = x := by
  unfold rd_T40; rw [Int.toNat_natCast, List.getD_eq_getElem?_getD, List.getElem?_append_right (Nat.le_refl _), Nat.sub_self]; rfl
theorem rdL_mid (p t : List S69) (x : S69) : rd_T69 (p ++ x :: t) (p.length : Int) = x := by
  unfold rd_T69; rw [Int.toNat_natCast, List.getD_eq_getElem?_getD, List.getElem?_append_right (Nat.le_refl _), Nat.sub_self]; rfl
theorem szTurnS_f (l : List S69) (hl : l.length ≤ 9223372036854775807) : ∃ r, laws_szTurnS.f l 1048576 = some r ∧ (r < 0 ∨ l.length ≤ 1048576) := by
  unfold laws_szTurnS.f
  rw [wrap_id (x := (1048576 : Int) - (l.length : Int)) (by omega) (by omega)]
  by_cases h : (1048576 : Int) - (l.length : Int) < 0
  · exact ⟨-1, if_pos h, .inl (by omega)⟩
  · exact ⟨_, if_neg h, .inr (by omega)⟩
def toT (t : S69) : S40 := ⟨t.f0, t.f1⟩
theorem toTurnS_l0 : ∀ (t p : List S69) (u : List S40), t.length = u.length → (p ++ t).length ≤ 1048576 → Ev (fun k => laws_toTurnS.l0 k (p ++ t) (p.map toT ++ u) (p.length : Int)) ((p ++ t).map toT)
  | [], p, u, e, hl => by
    have : u = [] := List.length_eq_zero_iff.1 e.symm
    subst this
    refine Ev.succ ?_
    simp only [laws_toTurnS.l0]
    exact Ev.neg (len_end p) (Ev.val (by simp))
  | x :: t, p, [], e, hl => by simp at e
  | x :: t, p, y :: u, e, hl => by
    rw [List.length_append, List.length_cons] at hl
    refine Ev.succ ?_
    simp only [laws_toTurnS.l0]
    have e2 : (p.length : Int) = ((p.map toT).length : Int) := by simp
    refine Ev.pos (len_mid p t x) (Ev.pos (by omega) (Ev.bind0 rfl (Ev.pos (by rw [e2]; exact len_mid (p.map toT) u y) ?_)))
    rw [rdL_mid, show ((p.map toT ++ y :: u).set (p.length : Int).toNat (⟨x.f0, x.f1⟩ : S40)) = (p ++ [x]).map toT ++ u by rw [e2, set_mid]; simp [toT], len_next p x (by omega), app_next p t x]
    exact toTurnS_l0 t (p ++ [x]) u (by simpa using e) (by simp; omega)
theorem toTurnS_ev (l : List S69) (hl : l.length ≤ 1048576) : Ev (fun k => laws_toTurnS.f k l) (l.map toT) := by
  unfold laws_toTurnS.f
  refine Ev.pos (by omega) (Ev.pos (by omega) ?_)
  exact toTurnS_l0 l [] _ (by simp) hl
theorem eqTurnS_l0 : ∀ (t p : List S40), (p ++ t).length ≤ 9223372036854775806 → Ev (fun k => laws_eqTurnS.l0 k (p ++ t) (p ++ t) (p.length : Int)) true
  | [], p, hl => by
    refine Ev.succ ?_
    simp only [laws_eqTurnS.l0]
    exact Ev.neg (len_end p) (Ev.now _)
  | x :: t, p, hl => by
    rw [List.length_append, List.length_cons] at hl
    refine Ev.succ ?_
    simp only [laws_eqTurnS.l0]
    refine Ev.pos (len_mid p t x) (Ev.pos (by omega) (Ev.pos (len_mid p t x) ?_))
    rw [rdI_mid]
    refine Ev.bind0 (a := true) (by unfold laws_eqTurn.f; rw [if_pos rfl, if_pos rfl]) (Ev.pos rfl ?_)
    rw [len_next p x (by omega), app_next p t x]
    exact eqTurnS_l0 t (p ++ [x]) (by simp; omega)
theorem eqTurnS_ev (l : List S40) (hl : l.length ≤ 9223372036854775806) : Ev (fun k => laws_eqTurnS.f k l l) true := by
  unfold laws_eqTurnS.f
  exact Ev.pos rfl (eqTurnS_l0 l [] hl)
def markedT : Int → List S40 → List S40
  | _, [] => []
  | a, _ :: l => ⟨a, a + 1⟩ :: markedT (a + 2) l
theorem markTurnS_l0 : ∀ (t p : List S40) (a : Int), 0 ≤ a → a + 2 * t.length ≤ 1000000000 → (p ++ t).length ≤ 1000000000 →
    Ev (fun k => laws_markTurnS.l0 k (p ++ t) a (p.length : Int)) (a + 2 * t.length, p ++ markedT a t)
  | [], p, a, _, _, _ => by
    refine Ev.succ ?_
    simp only [laws_markTurnS.l0]
    exact Ev.neg (len_end p) (Ev.val (by simp [markedT]))
  | x :: t, p, a, h0, h1, h2 => by
    rw [List.length_cons] at h1
    have ih := markTurnS_l0 t (p ++ [⟨a, a + 1⟩]) (a + 2) (by omega) (by omega) (by simpa using h2)
    refine Ev.succ ?_
    simp only [laws_markTurnS.l0]
    refine Ev.pos (len_mid p t x) (Ev.pos (by omega) (Ev.bind0 rfl ?_))
    rw [set_mid, rdT_mid, rdT_mid, set_mid, wrap_id (x := a + 1) (by omega) (by omega), wrap_id (x := a + 1 + 1) (by omega) (by omega), len_next p (⟨a, a + 1⟩ : S40) (by simp at h2; omega), app_next p t (⟨a, a + 1⟩ : S40)]
    rw [show a + 1 + 1 = a + 2 by omega]
    have e : (a + 2 + 2 * (t.length : Int), p ++ [(⟨a, a + 1⟩ : S40)] ++ markedT (a + 2) t) = (a + 2 * ((x :: t).length : Int), p ++ markedT a (x :: t)) := by
      simp only [markedT, List.append_assoc, List.singleton_append, List.length_cons]
      congr 1
      omega
    rw [e] at ih
    exact ih
theorem heldTurnS_l0 : ∀ (t p : List S40) (a : Int), 0 ≤ a → a + 2 * t.length ≤ 1000000000 → (p ++ t).length ≤ 1000000000 →
    Ev (fun k => laws_heldTurnS.l0 k (p ++ markedT a t) a (p.length : Int)) (a + 2 * t.length)
  | [], p, a, _, _, _ => by
    refine Ev.succ ?_
    simp only [laws_heldTurnS.l0, markedT]
    exact Ev.neg (len_end p) (Ev.val (by simp))
  | x :: t, p, a, h0, h1, h2 => by
    rw [List.length_cons] at h1
    have ih := heldTurnS_l0 t (p ++ [⟨a, a + 1⟩]) (a + 2) (by omega) (by omega) (by simpa using h2)
    rw [show markedT a (x :: t) = ⟨a, a + 1⟩ :: markedT (a + 2) t from rfl]
    refine Ev.succ ?_
    simp only [laws_heldTurnS.l0]
    refine Ev.pos (len_mid p _ _) (Ev.pos (by omega) ?_)
    rw [rdT_mid, wrap_id (x := a + 1) (by omega) (by omega), wrap_id (x := a + 1 + 1) (by omega) (by omega)]
    refine Ev.pos rfl (Ev.pos rfl ?_)
    rw [len_next p (⟨a, a + 1⟩ : S40) (by simp at h2; omega), app_next p _ (⟨a, a + 1⟩ : S40), show a + 1 + 1 = a + 2 by omega]
    have e : (a + 2 + 2 * (t.length : Int)) = (a + 2 * ((x :: t).length : Int)) := by rw [List.length_cons]; omega
    rw [e] at ih
    exact ih
theorem markTurnS_ev (l : List S40) (hl : l.length ≤ 100000000) : Ev (fun k => laws_markTurnS.f k l 1) (1 + 2 * l.length, markedT 1 l) ∧ Ev (fun k => laws_heldTurnS.f k (markedT 1 l) 1) (1 + 2 * l.length) :=
  ⟨markTurnS_l0 l [] 1 (by omega) (by omega) (by simp; omega), heldTurnS_l0 l [] 1 (by omega) (by omega) (by simp; omega)⟩
theorem bkT_sl {l : List S40} (hl : l.length ≤ 1048576) : ∀ (m k : Nat), k + m = l.length →
    Ev (fun n => spec_BackTurns.l0 n l ((bk l.length k).map fun (i : Nat) => negT (rd_T40 l (i : Int))) ((m : Int) - 1)) (backT l, true)
  | 0, k, h => by
    have hk : k = l.length := by omega
    subst hk
    refine Ev.succ ?_
    simp only [spec_BackTurns.l0]
    exact Ev.neg (by omega) (Ev.val rfl)
  | m + 1, k, h => by
    have ih := bkT_sl hl m (k + 1) (by omega)
    rw [bk_succ, List.map_append, show l.length - 1 - k = m by omega] at ih
    refine Ev.succ ?_
    simp only [spec_BackTurns.l0]
    rw [show ((m + 1 : Nat) : Int) - 1 = (m : Int) by omega]
    refine Ev.pos (by omega) (Ev.pos (by omega) (Ev.pos (by omega) (Ev.pos (by rw [List.length_map, bk_length]; omega) ?_)))
    rw [wrap_id (x := (m : Int) - 1) (by omega) (by omega)]
    exact ih
def BackTurnsM (W D : Int) (l : List S40) : List S40 × Bool := if (good W D && areT W l) = true then (backT l, true) else ([], false)
theorem BackTurns_s (W D : Int) (l : List S40) (hl : l.length ≤ 1048576) : Ev (fun k => spec_BackTurns.f k W D l) (BackTurnsM W D l) := by
  unfold spec_BackTurns.f BackTurnsM
  refine Ev.bind0 (whGood_f W D) ?_
  by_cases h : good W D = true
  · have g := good_iff.1 h
    rw [h, Bool.true_and]
    refine Ev.pos rfl (Ev.bind (whTurns_ev (by omega) D l hl) (Ev.succ ?_))
    simp only [spec_BackTurns.j0]
    by_cases ht : areT W l = true
    · rw [if_pos ht]
      refine Ev.neg (by simp [ht]) ?_
      have := bkT_sl hl l.length 0 (by omega)
      rw [wrap_id (x := (l.length : Int) - 1) (by omega) (by omega)]
      exact this
    · rw [if_neg ht]
      exact Ev.pos (by simp [ht]) (Ev.now _)
  · refine Ev.neg h (Ev.succ ?_)
    simp only [spec_BackTurns.j0]
    rw [if_neg (fun h2 => h (Bool.and_eq_true_iff.1 h2).1)]
    exact Ev.pos trivial (Ev.now _)
theorem BackTurns_i (W D : Int) (l : List S40) (hl : l.length ≤ 1048576) : Ev (fun k => impl_BackTurns.f k W D l) (BackTurnsM W D l) := by
  unfold impl_BackTurns.f BackTurnsM
  refine Ev.bind0 (IsLock_i W D) ?_
  by_cases h : good W D = true
  · have g := good_iff.1 h
    rw [h, Bool.true_and]
    refine Ev.pos rfl (Ev.bind (areTurns_ev (by omega) l hl) ?_)
    by_cases ht : areT W l = true
    · simp only [ht, if_true]
      have h2 : l.length ≤ 200 := of_decide_eq_true (Bool.and_eq_true_iff.1 ht).2
      exact Ev.pos (by omega) (Ev.now _)
    · simp only [ht, if_false]
      exact Ev.now _
  · rw [if_neg (fun h2 => h (Bool.and_eq_true_iff.1 h2).1)]
    exact Ev.neg h (Ev.now _)
theorem BackTurnsM_len (W D : Int) (l : List S40) : (BackTurnsM W D l).1.length ≤ 200 := by
  unfold BackTurnsM
  by_cases h : (good W D && areT W l) = true
  · rw [if_pos h]
    have h2 : l.length ≤ 200 := of_decide_eq_true (Bool.and_eq_true_iff.1 (Bool.and_eq_true_iff.1 h).2).2
    show (backT l).length ≤ 200
    unfold backT
    rw [List.length_map, bk_length]
    exact h2
  · rw [if_neg h]; simp
end Go.Proofs.Ytoaekmghlmeflaa.L
