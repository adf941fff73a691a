/- What the printed functions that FnExactTurnsText reaches come to: lemmas for its plain law. -/
import Derived.Test.YtoaekmghlmeflaaDoorMath
import Derived.Test.YtoaekmghlmeflaaDoorT0
import Derived.Test.YtoaekmghlmeflaaDoorT1
import Derived.Test.YtoaekmghlmeflaaDoorT2
import Derived.Test.YtoaekmghlmeflaaDoorT3
import Derived.Test.YtoaekmghlmeflaaDoorT4
import Derived.Test.YtoaekmghlmeflaaDoorT5
import Derived.Test.YtoaekmghlmeflaaDoorT6
import Derived.Test.YtoaekmghlmeflaaDoorT7
import Derived.Test.YtoaekmghlmeflaaDoorT8
import Derived.Test.YtoaekmghlmeflaaDoorT9
import Derived.Test.YtoaekmghlmeflaaDoorT10
import Derived.Test.YtoaekmghlmeflaaDoorT11
namespace Go.Proofs.YtoaekmghlmeflaaDoor.L
open Go.RowKit Go.Proofs.YtoaekmghlmeflaaDoorW.PrintWords Go.Proofs.YtoaekmghlmeflaaDoorW.PrintMore Go.Proofs.YtoaekmghlmeflaaDoor.M Go.Proofs.YtoaekmghlmeflaaDoor.T
set_option linter.unusedVariables false
set_option linter.unusedSimpArgs false
theorem l1In_f (n lo hi : Int) : spec_l1In.f n lo hi = some (decide (lo ≤ n ∧ n ≤ hi)) := by
  unfold spec_l1In.f
  by_cases h1 : lo ≤ n <;> by_cases h2 : n ≤ hi <;> simp [h1, h2]
theorem within_f (n lo hi : Int) : impl_within.f n lo hi = some (decide (lo ≤ n ∧ n ≤ hi)) := by
  unfold impl_within.f
  by_cases h1 : lo ≤ n <;> by_cases h2 : n ≤ hi <;> simp [h1, h2]

theorem l1Num_ev {d : Int} (h0 : 0 ≤ d) (h1 : d < 10) : Ev (fun k => spec_l1Num.f k d) (txt [d]) := by
  refine Ev.succ ?_
  simp only [spec_l1Num.f]
  refine Ev.pos h1 (Ev.val ?_)
  rw [wrap_id (by omega) (by omega), show (48 + d) % 256 = 48 + d by omega]; rfl
theorem rdT_mid (p t : List S35) (x : S35) : rd_T35 (p ++ x :: t) (p.length : Int) = x := by
  unfold rd_T35; rw [Int.toNat_natCast, List.getD_eq_getElem?_getD, List.getElem?_append_right (Nat.le_refl _), Nat.sub_self]; rfl
def okT (W : Int) (t : S35) : Bool := decide (0 ≤ t.f0 ∧ t.f0 ≤ W - 1) && decide (t.f1 = 1 ∨ t.f1 = -1)
theorem okT_iff {W : Int} {t : S35} : okT W t = true ↔ (0 ≤ t.f0 ∧ t.f0 ≤ W - 1) ∧ (t.f1 = 1 ∨ t.f1 = -1) := by simp [okT]
def areT (W : Int) (l : List S35) : Bool := l.all (okT W) && decide (l.length ≤ 200)
theorem whTurn_f {W : Int} (hW : 0 ≤ W ∧ W ≤ 100) (D i b : Int) : spec_whTurn.f W D i b = some (okT W ⟨i, b⟩) := by
  unfold spec_whTurn.f okT
  rw [wrap_id (x := W - 1) (by omega) (by omega), l1In_f, Option.bind_some]
  by_cases h : 0 ≤ i ∧ i ≤ W - 1
  · rw [decide_eq_true h, if_pos rfl]
    by_cases h1 : b = 1
    · rw [if_pos h1]; simp [h1]
    · rw [if_neg h1]; simp [h1]
      by_cases h2 : b = -1 <;> simp [h2]
  · rw [decide_eq_false h]; simp
theorem areTurns_l0 {W : Int} (hW : 0 ≤ W ∧ W ≤ 100) (l0 : List S35) : ∀ (t p : List S35), (p ++ t).length ≤ 1048576 →
    Ev (fun k => impl_areTurns.l0 k l0 W (p ++ t) ((p ++ t).length : Int) (p.length : Int)) (t.all (okT W) && decide (l0.length ≤ 200))
  | [], p, hl => by
    refine Ev.succ ?_
    simp only [impl_areTurns.l0]
    refine Ev.neg (len_end p) (Ev.val ?_)
    simp only [List.all_nil, Bool.true_and]
    congr 1; apply propext; omega
  | x :: t, p, hl => by
    rw [List.length_append, List.length_cons] at hl
    refine Ev.succ ?_
    simp only [impl_areTurns.l0]
    refine Ev.pos (len_mid p t x) (Ev.pos (by omega) (Ev.pos (len_mid p t x) ?_))
    rw [rdT_mid, wrap_id (x := W - 1) (by omega) (by omega), within_f, len_next p x (by omega), app_next p t x]
    refine Ev.bind0 rfl ?_
    have ih := areTurns_l0 hW l0 t (p ++ [x]) (by simp; omega)
    by_cases h : 0 ≤ x.f0 ∧ x.f0 ≤ W - 1
    · rw [decide_eq_true h]
      refine Ev.pos rfl ?_
      by_cases h1 : x.f1 = 1
      · refine Ev.pos h1 ?_
        rw [List.all_cons, okT_iff.2 ⟨h, .inl h1⟩, Bool.true_and]; exact ih
      · refine Ev.neg h1 ?_
        by_cases h2 : x.f1 = -1
        · refine Ev.pos h2 ?_
          rw [List.all_cons, okT_iff.2 ⟨h, .inr h2⟩, Bool.true_and]; exact ih
        · refine Ev.neg h2 (Ev.val ?_)
          simp [okT, h1, h2]
    · rw [decide_eq_false h]
      refine Ev.neg (by simp) (Ev.val ?_)
      simp [okT]
      intro h3 h4
      exact absurd ⟨h3, by omega⟩ h
theorem areTurns_ev {W : Int} (hW : 0 ≤ W ∧ W ≤ 100) (l : List S35) (hl : l.length ≤ 1048576) : Ev (fun k => impl_areTurns.f k l W) (areT W l) := by
  unfold impl_areTurns.f
  exact areTurns_l0 hW l l [] hl
theorem whTurns_l0 {W D : Int} (hW : 0 ≤ W ∧ W ≤ 100) : ∀ (t p : List S35), (p ++ t).length ≤ 1048576 →
    Ev (fun k => spec_whTurns.l0 k (p ++ t) ((p ++ t).length : Int) (p.length : Int) W D) (t.all (okT W))
  | [], p, hl => by
    refine Ev.succ ?_
    simp only [spec_whTurns.l0]
    exact Ev.neg (len_end p) (Ev.now _)
  | x :: t, p, hl => by
    rw [List.length_append, List.length_cons] at hl
    refine Ev.succ ?_
    simp only [spec_whTurns.l0]
    refine Ev.pos (len_mid p t x) (Ev.pos (by omega) (Ev.pos (len_mid p t x) ?_))
    rw [rdT_mid, len_next p x (by omega), app_next p t x]
    refine Ev.bind0 (whTurn_f hW D _ _) ?_
    have ih := whTurns_l0 (D := D) hW t (p ++ [x]) (by simp; omega)
    by_cases h : okT W x = true
    · refine Ev.pos h ?_
      rw [List.all_cons, h, Bool.true_and]; exact ih
    · refine Ev.neg h (Ev.val ?_)
      simp [h]
theorem whTurns_ev {W : Int} (hW : 0 ≤ W ∧ W ≤ 100) (D : Int) (l : List S35) (hl : l.length ≤ 1048576) : Ev (fun k => spec_whTurns.f k W D l) (areT W l) := by
  unfold spec_whTurns.f areT
  by_cases h : (l.length : Int) > 200
  · refine Ev.pos h (Ev.val ?_)
    rw [decide_eq_false (by omega)]; simp
  · refine Ev.neg h ?_
    rw [decide_eq_true (by omega), Bool.and_true]
    exact whTurns_l0 hW l [] hl

theorem rdI_mid (p t : List S35) (x : S35) : rd_T35 (p ++ x :: t) (p.length : Int) = x := by
  unfold rd_T35; rw [Int.toNat_natCast, List.getD_eq_getElem?_getD, List.getElem?_append_right (Nat.le_refl _), Nat.sub_self]; rfl
theorem rdL_mid (p t : List S43) (x : S43) : rd_T43 (p ++ x :: t) (p.length : Int) = x := by
  unfold rd_T43; rw [Int.toNat_natCast, List.getD_eq_getElem?_getD, List.getElem?_append_right (Nat.le_refl _), Nat.sub_self]; rfl
theorem szTurnS_f (l : List S43) (hl : l.length ≤ 9223372036854775807) : ∃ r, laws_szTurnS.f l 1048576 = some r ∧ (r < 0 ∨ l.length ≤ 1048576) := by
  unfold laws_szTurnS.f
  rw [wrap_id (x := (1048576 : Int) - (l.length : Int)) (by omega) (by omega)]
  by_cases h : (1048576 : Int) - (l.length : Int) < 0
  · exact ⟨-1, if_pos h, .inl (by omega)⟩
  · exact ⟨_, if_neg h, .inr (by omega)⟩
def toT (t : S43) : S35 := ⟨t.f0, t.f1⟩
theorem toTurnS_l0 : ∀ (t p : List S43) (u : List S35), t.length = u.length → (p ++ t).length ≤ 1048576 → Ev (fun k => laws_toTurnS.l0 k (p ++ t) (p.map toT ++ u) (p.length : Int)) ((p ++ t).map toT)
  | [], p, u, e, hl => by
    have : u = [] := List.length_eq_zero_iff.1 e.symm
    subst this
    refine Ev.succ ?_
    simp only [laws_toTurnS.l0]
    exact Ev.neg (len_end p) (Ev.val (by simp))
  | x :: t, p, [], e, hl => by simp at e
  | x :: t, p, y :: u, e, hl => by
    rw [List.length_append, List.length_cons] at hl
    refine Ev.succ ?_
    simp only [laws_toTurnS.l0]
    have e2 : (p.length : Int) = ((p.map toT).length : Int) := by simp
    refine Ev.pos (len_mid p t x) (Ev.pos (by omega) (Ev.bind0 rfl (Ev.pos (by rw [e2]; exact len_mid (p.map toT) u y) ?_)))
    rw [rdL_mid, show ((p.map toT ++ y :: u).set (p.length : Int).toNat (⟨x.f0, x.f1⟩ : S35)) = (p ++ [x]).map toT ++ u by rw [e2, set_mid]; simp [toT], len_next p x (by omega), app_next p t x]
    exact toTurnS_l0 t (p ++ [x]) u (by simpa using e) (by simp; omega)
theorem toTurnS_ev (l : List S43) (hl : l.length ≤ 1048576) : Ev (fun k => laws_toTurnS.f k l) (l.map toT) := by
  unfold laws_toTurnS.f
  refine Ev.pos (by omega) (Ev.pos (by omega) ?_)
  exact toTurnS_l0 l [] _ (by simp) hl
theorem eqTurnS_l0 : ∀ (t p : List S35), (p ++ t).length ≤ 9223372036854775806 → Ev (fun k => laws_eqTurnS.l0 k (p ++ t) (p ++ t) (p.length : Int)) true
  | [], p, hl => by
    refine Ev.succ ?_
    simp only [laws_eqTurnS.l0]
    exact Ev.neg (len_end p) (Ev.now _)
  | x :: t, p, hl => by
    rw [List.length_append, List.length_cons] at hl
    refine Ev.succ ?_
    simp only [laws_eqTurnS.l0]
    refine Ev.pos (len_mid p t x) (Ev.pos (by omega) (Ev.pos (len_mid p t x) ?_))
    rw [rdI_mid]
    refine Ev.bind0 (a := true) (by unfold laws_eqTurn.f; rw [if_pos rfl, if_pos rfl]) (Ev.pos rfl ?_)
    rw [len_next p x (by omega), app_next p t x]
    exact eqTurnS_l0 t (p ++ [x]) (by simp; omega)
theorem eqTurnS_ev (l : List S35) (hl : l.length ≤ 9223372036854775806) : Ev (fun k => laws_eqTurnS.f k l l) true := by
  unfold laws_eqTurnS.f
  exact Ev.pos rfl (eqTurnS_l0 l [] hl)
theorem itoa1 {d : Int} (h0 : 0 ≤ d) (h1 : d < 10) : strconv_Itoa_23.f d = some (txt [d]) := by
  unfold strconv_Itoa_23.f
  rw [if_pos h0, if_pos (by omega), Lib.decDigits_one (by omega)]
  congr 1
  unfold txt strOfNums
  have e : (48 + d).toNat = 48 + d.toNat := by omega
  simp [e]
def shB (t : S35) : List Int := [48 + t.f0, if t.f1 = 1 then 43 else 45]
def shM (l : List S35) : ByteArray := strOfNums (l.flatMap shB)
theorem shB_len : ∀ l : List S35, (l.flatMap shB).length = 2 * l.length
  | [] => rfl
  | t :: l => by rw [List.flatMap_cons, List.length_append, shB_len l, List.length_cons]; simp [shB]; omega
theorem shM_size (l : List S35) : (shM l).size = 2 * l.length := by unfold shM; rw [str_size, shB_len]
theorem shM_snoc (p : List S35) (t : S35) (q : ByteArray) (hq : q = strOfNums [if t.f1 = 1 then 43 else 45]) : (shM p ++ txt [t.f0]) ++ q = shM (p ++ [t]) := by
  unfold shM txt
  rw [hq, str_append, str_append, List.flatMap_append]
  congr 1
  simp [shB]
theorem shown_sl : ∀ (t p : List S35), (p ++ t).length ≤ 1048576 → t.all (okT 6) = true → Ev (fun k => spec_whShown.l0 k (shM p) (p ++ t) ((p ++ t).length : Int) (p.length : Int)) (shM (p ++ t))
  | [], p, hl, ha => by
    refine Ev.succ ?_
    simp only [spec_whShown.l0]
    exact Ev.neg (len_end p) (Ev.val (by simp))
  | x :: t, p, hl, ha => by
    rw [List.length_append, List.length_cons] at hl
    rw [List.all_cons, Bool.and_eq_true_iff] at ha
    obtain ⟨h1, h2⟩ := okT_iff.1 ha.1
    have hs := shM_size p
    have ih := shown_sl t (p ++ [x]) (by simp; omega) ha.2
    refine Ev.succ ?_
    simp only [spec_whShown.l0]
    refine Ev.pos (len_mid p t x) (Ev.pos (by omega) (Ev.pos (len_mid p t x) ?_))
    rw [rdT_mid, len_next p x (by omega), app_next p t x]
    refine Ev.bind (l1Num_ev h1.1 (by omega)) (Ev.pos (by rw [txt_size]; simp; omega) ?_)
    by_cases h : x.f1 = 1
    · refine Ev.pos h (Ev.pos (by rw [ByteArray.size_append, txt_size]; simp; omega) ?_)
      rw [shM_snoc p x _ (by rw [if_pos h]; rfl)]
      exact ih
    · refine Ev.neg h (Ev.pos (by rw [ByteArray.size_append, txt_size]; simp; omega) ?_)
      rw [shM_snoc p x _ (by rw [if_neg h]; rfl)]
      exact ih
theorem shown_il : ∀ (t p : List S35), (p ++ t).length ≤ 1048576 → t.all (okT 6) = true → Ev (fun k => impl_turnsText.l0 k (shM p) (p ++ t) ((p ++ t).length : Int) (p.length : Int)) (shM (p ++ t))
  | [], p, hl, ha => by
    refine Ev.succ ?_
    simp only [impl_turnsText.l0]
    exact Ev.neg (len_end p) (Ev.val (by simp))
  | x :: t, p, hl, ha => by
    rw [List.length_append, List.length_cons] at hl
    rw [List.all_cons, Bool.and_eq_true_iff] at ha
    obtain ⟨h1, h2⟩ := okT_iff.1 ha.1
    have hs := shM_size p
    have ih := shown_il t (p ++ [x]) (by simp; omega) ha.2
    refine Ev.succ ?_
    simp only [impl_turnsText.l0]
    refine Ev.pos (len_mid p t x) (Ev.pos (by omega) (Ev.pos (len_mid p t x) ?_))
    rw [rdT_mid, len_next p x (by omega), app_next p t x]
    refine Ev.bind0 (itoa1 h1.1 (by omega)) (Ev.pos (by rw [txt_size]; simp; omega) ?_)
    by_cases h : x.f1 = 1
    · refine Ev.pos (by omega) (Ev.pos (by rw [ByteArray.size_append, txt_size]; simp; omega) ?_)
      rw [shM_snoc p x _ (by rw [if_pos h]; rfl)]
      exact ih
    · refine Ev.neg (by omega) (Ev.pos (by rw [ByteArray.size_append, txt_size]; simp; omega) ?_)
      rw [shM_snoc p x _ (by rw [if_neg h]; rfl)]
      exact ih
def TurnsTextM (l : List S35) : ByteArray × Bool := if areT 6 l = true then (shM l, true) else (⟨#[]⟩, false)
theorem turnsText_ev (l : List S35) (hl : l.length ≤ 1048576) (h : areT 6 l = true) : Ev (fun k => impl_turnsText.f k l) (shM l) := by
  unfold impl_turnsText.f
  exact shown_il l [] hl (Bool.and_eq_true_iff.1 h).1
theorem TurnsText_s (l : List S35) (hl : l.length ≤ 1048576) : Ev (fun k => spec_TurnsText.f k l) (TurnsTextM l) := by
  unfold spec_TurnsText.f TurnsTextM
  refine Ev.bind (whTurns_ev (W := 6) (by omega) 0 l hl) ?_
  by_cases h : areT 6 l = true
  · rw [if_pos h]
    refine Ev.pos h (Ev.bind (a := shM l) ?_ (Ev.now _))
    unfold spec_whShown.f
    exact shown_sl l [] hl (Bool.and_eq_true_iff.1 h).1
  · rw [if_neg h]; exact Ev.neg h (Ev.now _)
theorem TurnsText_i (l : List S35) (hl : l.length ≤ 1048576) : Ev (fun k => impl_TurnsText.f k l) (TurnsTextM l) := by
  unfold impl_TurnsText.f TurnsTextM
  refine Ev.bind (areTurns_ev (W := 6) (by omega) l hl) ?_
  by_cases h : areT 6 l = true
  · rw [if_pos h]; exact Ev.pos h (Ev.bind (turnsText_ev l hl h) (Ev.now _))
  · rw [if_neg h]; exact Ev.neg h (Ev.now _)
end Go.Proofs.YtoaekmghlmeflaaDoor.L
