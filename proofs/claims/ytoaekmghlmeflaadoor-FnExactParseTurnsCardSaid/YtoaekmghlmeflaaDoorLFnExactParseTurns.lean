/- What the printed functions that FnExactParseTurns reaches come to: lemmas for its plain law. -/
import Derived.Test.YtoaekmghlmeflaaDoorMath
import Derived.Test.YtoaekmghlmeflaaDoorT0
import Derived.Test.YtoaekmghlmeflaaDoorT1
import Derived.Test.YtoaekmghlmeflaaDoorT2
import Derived.Test.YtoaekmghlmeflaaDoorT3
import Derived.Test.YtoaekmghlmeflaaDoorT8
import Derived.Test.YtoaekmghlmeflaaDoorT9
import Derived.Test.YtoaekmghlmeflaaDoorT10
import Derived.Test.YtoaekmghlmeflaaDoorT13
import Derived.Test.YtoaekmghlmeflaaDoorT14
import Derived.Test.YtoaekmghlmeflaaDoorT15
import Derived.Test.YtoaekmghlmeflaaDoorT16
import Derived.Test.YtoaekmghlmeflaaDoorT17
namespace Go.Proofs.YtoaekmghlmeflaaDoor.L
open Go.RowKit Go.Proofs.YtoaekmghlmeflaaDoorW.PrintWords Go.Proofs.YtoaekmghlmeflaaDoorW.PrintMore Go.Proofs.YtoaekmghlmeflaaDoor.M Go.Proofs.YtoaekmghlmeflaaDoor.T
set_option linter.unusedVariables false
set_option linter.unusedSimpArgs false
theorem within_f (n lo hi : Int) : impl_within.f n lo hi = some (decide (lo ≤ n ∧ n ≤ hi)) := by
  unfold impl_within.f
  by_cases h1 : lo ≤ n <;> by_cases h2 : n ≤ hi <;> simp [h1, h2]

theorem rdT_mid (p t : List S35) (x : S35) : rd_T35 (p ++ x :: t) (p.length : Int) = x := by
  unfold rd_T35; rw [Int.toNat_natCast, List.getD_eq_getElem?_getD, List.getElem?_append_right (Nat.le_refl _), Nat.sub_self]; rfl
def okT (W : Int) (t : S35) : Bool := decide (0 ≤ t.f0 ∧ t.f0 ≤ W - 1) && decide (t.f1 = 1 ∨ t.f1 = -1)
theorem okT_iff {W : Int} {t : S35} : okT W t = true ↔ (0 ≤ t.f0 ∧ t.f0 ≤ W - 1) ∧ (t.f1 = 1 ∨ t.f1 = -1) := by simp [okT]
def areT (W : Int) (l : List S35) : Bool := l.all (okT W) && decide (l.length ≤ 200)
theorem areTurns_l0 {W : Int} (hW : 0 ≤ W ∧ W ≤ 100) (l0 : List S35) : ∀ (t p : List S35), (p ++ t).length ≤ 1048576 →
    Ev (fun k => impl_areTurns.l0 k l0 W (p ++ t) ((p ++ t).length : Int) (p.length : Int)) (t.all (okT W) && decide (l0.length ≤ 200))
  | [], p, hl => by
    refine Ev.succ ?_
    simp only [impl_areTurns.l0]
    refine Ev.neg (len_end p) (Ev.val ?_)
    simp only [List.all_nil, Bool.true_and]
    congr 1; apply propext; omega
  | x :: t, p, hl => by
    rw [List.length_append, List.length_cons] at hl
    refine Ev.succ ?_
    simp only [impl_areTurns.l0]
    refine Ev.pos (len_mid p t x) (Ev.pos (by omega) (Ev.pos (len_mid p t x) ?_))
    rw [rdT_mid, wrap_id (x := W - 1) (by omega) (by omega), within_f, len_next p x (by omega), app_next p t x]
    refine Ev.bind0 rfl ?_
    have ih := areTurns_l0 hW l0 t (p ++ [x]) (by simp; omega)
    by_cases h : 0 ≤ x.f0 ∧ x.f0 ≤ W - 1
    · rw [decide_eq_true h]
      refine Ev.pos rfl ?_
      by_cases h1 : x.f1 = 1
      · refine Ev.pos h1 ?_
        rw [List.all_cons, okT_iff.2 ⟨h, .inl h1⟩, Bool.true_and]; exact ih
      · refine Ev.neg h1 ?_
        by_cases h2 : x.f1 = -1
        · refine Ev.pos h2 ?_
          rw [List.all_cons, okT_iff.2 ⟨h, .inr h2⟩, Bool.true_and]; exact ih
        · refine Ev.neg h2 (Ev.val ?_)
          simp [okT, h1, h2]
    · rw [decide_eq_false h]
      refine Ev.neg (by simp) (Ev.val ?_)
      simp [okT]
      intro h3 h4
      exact absurd ⟨h3, by omega⟩ h
theorem areTurns_ev {W : Int} (hW : 0 ≤ W ∧ W ≤ 100) (l : List S35) (hl : l.length ≤ 1048576) : Ev (fun k => impl_areTurns.f k l W) (areT W l) := by
  unfold impl_areTurns.f
  exact areTurns_l0 hW l l [] hl
theorem rdI_mid (p t : List S35) (x : S35) : rd_T35 (p ++ x :: t) (p.length : Int) = x := by
  unfold rd_T35; rw [Int.toNat_natCast, List.getD_eq_getElem?_getD, List.getElem?_append_right (Nat.le_refl _), Nat.sub_self]; rfl
theorem eqTurnS_l0 : ∀ (t p : List S35), (p ++ t).length ≤ 9223372036854775806 → Ev (fun k => laws_eqTurnS.l0 k (p ++ t) (p ++ t) (p.length : Int)) true
  | [], p, hl => by
    refine Ev.succ ?_
    simp only [laws_eqTurnS.l0]
    exact Ev.neg (len_end p) (Ev.now _)
  | x :: t, p, hl => by
    rw [List.length_append, List.length_cons] at hl
    refine Ev.succ ?_
    simp only [laws_eqTurnS.l0]
    refine Ev.pos (len_mid p t x) (Ev.pos (by omega) (Ev.pos (len_mid p t x) ?_))
    rw [rdI_mid]
    refine Ev.bind0 (a := true) (by unfold laws_eqTurn.f; rw [if_pos rfl, if_pos rfl]) (Ev.pos rfl ?_)
    rw [len_next p x (by omega), app_next p t x]
    exact eqTurnS_l0 t (p ++ [x]) (by simp; omega)
theorem eqTurnS_ev (l : List S35) (hl : l.length ≤ 9223372036854775806) : Ev (fun k => laws_eqTurnS.f k l l) true := by
  unfold laws_eqTurnS.f
  exact Ev.pos rfl (eqTurnS_l0 l [] hl)
def markedT : Int → List S35 → List S35
  | _, [] => []
  | a, _ :: l => ⟨a, a + 1⟩ :: markedT (a + 2) l
theorem markTurnS_l0 : ∀ (t p : List S35) (a : Int), 0 ≤ a → a + 2 * t.length ≤ 1000000000 → (p ++ t).length ≤ 1000000000 →
    Ev (fun k => laws_markTurnS.l0 k (p ++ t) a (p.length : Int)) (a + 2 * t.length, p ++ markedT a t)
  | [], p, a, _, _, _ => by
    refine Ev.succ ?_
    simp only [laws_markTurnS.l0]
    exact Ev.neg (len_end p) (Ev.val (by simp [markedT]))
  | x :: t, p, a, h0, h1, h2 => by
    rw [List.length_cons] at h1
    have ih := markTurnS_l0 t (p ++ [⟨a, a + 1⟩]) (a + 2) (by omega) (by omega) (by simpa using h2)
    refine Ev.succ ?_
    simp only [laws_markTurnS.l0]
    refine Ev.pos (len_mid p t x) (Ev.pos (by omega) (Ev.bind0 rfl ?_))
    rw [set_mid, rdT_mid, rdT_mid, set_mid, wrap_id (x := a + 1) (by omega) (by omega), wrap_id (x := a + 1 + 1) (by omega) (by omega), len_next p (⟨a, a + 1⟩ : S35) (by simp at h2; omega), app_next p t (⟨a, a + 1⟩ : S35)]
    rw [show a + 1 + 1 = a + 2 by omega]
    have e : (a + 2 + 2 * (t.length : Int), p ++ [(⟨a, a + 1⟩ : S35)] ++ markedT (a + 2) t) = (a + 2 * ((x :: t).length : Int), p ++ markedT a (x :: t)) := by
      simp only [markedT, List.append_assoc, List.singleton_append, List.length_cons]
      congr 1
      omega
    rw [e] at ih
    exact ih
theorem heldTurnS_l0 : ∀ (t p : List S35) (a : Int), 0 ≤ a → a + 2 * t.length ≤ 1000000000 → (p ++ t).length ≤ 1000000000 →
    Ev (fun k => laws_heldTurnS.l0 k (p ++ markedT a t) a (p.length : Int)) (a + 2 * t.length)
  | [], p, a, _, _, _ => by
    refine Ev.succ ?_
    simp only [laws_heldTurnS.l0, markedT]
    exact Ev.neg (len_end p) (Ev.val (by simp))
  | x :: t, p, a, h0, h1, h2 => by
    rw [List.length_cons] at h1
    have ih := heldTurnS_l0 t (p ++ [⟨a, a + 1⟩]) (a + 2) (by omega) (by omega) (by simpa using h2)
    rw [show markedT a (x :: t) = ⟨a, a + 1⟩ :: markedT (a + 2) t from rfl]
    refine Ev.succ ?_
    simp only [laws_heldTurnS.l0]
    refine Ev.pos (len_mid p _ _) (Ev.pos (by omega) ?_)
    rw [rdT_mid, wrap_id (x := a + 1) (by omega) (by omega), wrap_id (x := a + 1 + 1) (by omega) (by omega)]
    refine Ev.pos rfl (Ev.pos rfl ?_)
    rw [len_next p (⟨a, a + 1⟩ : S35) (by simp at h2; omega), app_next p _ (⟨a, a + 1⟩ : S35), show a + 1 + 1 = a + 2 by omega]
    have e : (a + 2 + 2 * (t.length : Int)) = (a + 2 * ((x :: t).length : Int)) := by rw [List.length_cons]; omega
    rw [e] at ih
    exact ih
theorem markTurnS_ev (l : List S35) (hl : l.length ≤ 100000000) : Ev (fun k => laws_markTurnS.f k l 1) (1 + 2 * l.length, markedT 1 l) ∧ Ev (fun k => laws_heldTurnS.f k (markedT 1 l) 1) (1 + 2 * l.length) :=
  ⟨markTurnS_l0 l [] 1 (by omega) (by omega) (by simp; omega), heldTurnS_l0 l [] 1 (by omega) (by omega) (by simp; omega)⟩
theorem itoa1 {d : Int} (h0 : 0 ≤ d) (h1 : d < 10) : strconv_Itoa_23.f d = some (txt [d]) := by
  unfold strconv_Itoa_23.f
  rw [if_pos h0, if_pos (by omega), Lib.decDigits_one (by omega)]
  congr 1
  unfold txt strOfNums
  have e : (48 + d).toNat = 48 + d.toNat := by omega
  simp [e]
def shB (t : S35) : List Int := [48 + t.f0, if t.f1 = 1 then 43 else 45]
def shM (l : List S35) : ByteArray := strOfNums (l.flatMap shB)
theorem shB_len : ∀ l : List S35, (l.flatMap shB).length = 2 * l.length
  | [] => rfl
  | t :: l => by rw [List.flatMap_cons, List.length_append, shB_len l, List.length_cons]; simp [shB]; omega
theorem shM_size (l : List S35) : (shM l).size = 2 * l.length := by unfold shM; rw [str_size, shB_len]
theorem shM_snoc (p : List S35) (t : S35) (q : ByteArray) (hq : q = strOfNums [if t.f1 = 1 then 43 else 45]) : (shM p ++ txt [t.f0]) ++ q = shM (p ++ [t]) := by
  unfold shM txt
  rw [hq, str_append, str_append, List.flatMap_append]
  congr 1
  simp [shB]
theorem shown_il : ∀ (t p : List S35), (p ++ t).length ≤ 1048576 → t.all (okT 6) = true → Ev (fun k => impl_turnsText.l0 k (shM p) (p ++ t) ((p ++ t).length : Int) (p.length : Int)) (shM (p ++ t))
  | [], p, hl, ha => by
    refine Ev.succ ?_
    simp only [impl_turnsText.l0]
    exact Ev.neg (len_end p) (Ev.val (by simp))
  | x :: t, p, hl, ha => by
    rw [List.length_append, List.length_cons] at hl
    rw [List.all_cons, Bool.and_eq_true_iff] at ha
    obtain ⟨h1, h2⟩ := okT_iff.1 ha.1
    have hs := shM_size p
    have ih := shown_il t (p ++ [x]) (by simp; omega) ha.2
    refine Ev.succ ?_
    simp only [impl_turnsText.l0]
    refine Ev.pos (len_mid p t x) (Ev.pos (by omega) (Ev.pos (len_mid p t x) ?_))
    rw [rdT_mid, len_next p x (by omega), app_next p t x]
    refine Ev.bind0 (itoa1 h1.1 (by omega)) (Ev.pos (by rw [txt_size]; simp; omega) ?_)
    by_cases h : x.f1 = 1
    · refine Ev.pos (by omega) (Ev.pos (by rw [ByteArray.size_append, txt_size]; simp; omega) ?_)
      rw [shM_snoc p x _ (by rw [if_pos h]; rfl)]
      exact ih
    · refine Ev.neg (by omega) (Ev.pos (by rw [ByteArray.size_append, txt_size]; simp; omega) ?_)
      rw [shM_snoc p x _ (by rw [if_neg h]; rfl)]
      exact ih
theorem turnsText_ev (l : List S35) (hl : l.length ≤ 1048576) (h : areT 6 l = true) : Ev (fun k => impl_turnsText.f k l) (shM l) := by
  unfold impl_turnsText.f
  exact shown_il l [] hl (Bool.and_eq_true_iff.1 h).1
def rp : List Int → List S35
  | a :: b :: r => ⟨a - 48, 44 - b⟩ :: rp r
  | _ => []
def prs : List Int → List S35 → List S35 × Bool
  | a :: b :: r, acc => if (0 ≤ a - 48 ∧ a - 48 ≤ 5) ∧ (b = 43 ∨ b = 45) then prs r (acc ++ [⟨a - 48, 44 - b⟩]) else ([], false)
  | _, acc => (acc, true)
theorem prs_rp : ∀ (bs : List Int) (acc : List S35), prs bs acc = if (rp bs).all (okT 6) = true then (acc ++ rp bs, true) else ([], false)
  | [], acc => by simp [prs, rp]
  | [a], acc => by simp [prs, rp]
  | a :: b :: r, acc => by
    have ih := prs_rp r (acc ++ [⟨a - 48, 44 - b⟩])
    have e : okT 6 (⟨a - 48, 44 - b⟩ : S35) = decide ((0 ≤ a - 48 ∧ a - 48 ≤ 5) ∧ (b = 43 ∨ b = 45)) := by
      rw [Bool.eq_iff_iff, okT_iff, decide_eq_true_iff]
      constructor
      · rintro ⟨h1, h2⟩; exact ⟨by simp at h1; omega, by simp at h2; omega⟩
      · rintro ⟨h1, h2⟩; exact ⟨by simp; omega, by simp; omega⟩
    rw [prs, rp, List.all_cons, e]
    by_cases h : (0 ≤ a - 48 ∧ a - 48 ≤ 5) ∧ (b = 43 ∨ b = 45)
    · rw [if_pos h, ih, decide_eq_true h, Bool.true_and]; simp
    · rw [if_neg h, decide_eq_false h, Bool.false_and, if_neg (by decide)]
theorem rp_len : ∀ bs : List Int, 2 * (rp bs).length ≤ bs.length
  | [] => by simp [rp]
  | [a] => by simp [rp]
  | a :: b :: r => by have := rp_len r; rw [rp]; simp only [List.length_cons]; omega
theorem rp_back : ∀ bs : List Int, bs.length % 2 = 0 → (rp bs).all (okT 6) = true → (rp bs).flatMap shB = bs
  | [], _, _ => rfl
  | [a], h, _ => by simp at h
  | a :: b :: r, h, ha => by
    rw [rp, List.all_cons, Bool.and_eq_true_iff] at ha
    obtain ⟨h1, h2⟩ := okT_iff.1 ha.1
    have ih := rp_back r (by simp only [List.length_cons] at h; omega) ha.2
    rw [rp, List.flatMap_cons, ih]
    simp at h2
    have e : (if (44 - b : Int) = 1 then (43 : Int) else 45) = b := by split <;> omega
    simp only [shB, e]
    rw [show (48 : Int) + (a - 48) = a by omega]
    rfl
def ParseTurnsM (s : ByteArray) : List S35 × Bool := if (s.size : Int) % 2 = 0 ∧ (s.size : Int) ≤ 400 then prs (bys s) [] else ([], false)
theorem prs_sl {s : ByteArray} (hs : s.size ≤ 1048576) (h2 : s.size % 2 = 0) : ∀ (t p : List Int) (acc : List S35), bys s = p ++ t → p.length % 2 = 0 → acc.length ≤ p.length → Ev (fun k => spec_whParse.l0 k s acc (p.length : Int)) (prs t acc)
  | [], p, acc, e, hp, ha => by
    have hl := congrArg List.length e
    rw [bys_length] at hl
    simp at hl
    refine Ev.succ ?_
    simp only [spec_whParse.l0]
    exact Ev.neg (by omega) (Ev.val rfl)
  | [a], p, acc, e, hp, ha => by
    have hl := congrArg List.length e
    rw [bys_length] at hl
    simp at hl
    omega
  | a :: b :: r, p, acc, e, hp, ha => by
    have hl := congrArg List.length e
    rw [bys_length] at hl
    simp at hl
    have ra := bys_range s a (by rw [e]; simp)
    have rb := bys_range s b (by rw [e]; simp)
    have ea : bt s (p.length : Int) = a := by rw [bt_bys, e]; exact rd_mid _ _ _
    have eb : bt s ((p.length : Int) + 1) = b := by
      have := rd_mid (p ++ [a]) r b
      rw [List.length_append, List.length_singleton] at this
      rw [bt_bys, e, show p ++ a :: b :: r = (p ++ [a]) ++ b :: r by simp]
      simpa using this
    have ih := fun t => prs_sl hs h2 r (p ++ [a, b]) (acc ++ [t]) (by rw [e]; simp) (by simp; omega) (by simp; omega)
    have en : ((p ++ [a, b]).length : Int) = (p.length : Int) + 2 := by simp
    refine Ev.succ ?_
    simp only [spec_whParse.l0]
    rw [wrap_id (x := (p.length : Int) + 1) (by omega) (by omega), wrap_id (x := (p.length : Int) + 2) (by omega) (by omega), ea, eb, wrap_id (x := a) (by omega) (by omega), wrap_id (x := a - 48) (by omega) (by omega)]
    refine Ev.pos (by omega) (Ev.pos (by omega) (Ev.pos (by omega) (Ev.pos (by omega) ?_)))
    have hin : ∀ x : Int, spec_l1In.f x 0 5 = some (decide (0 ≤ x ∧ x ≤ 5)) := fun x => by
      unfold spec_l1In.f
      by_cases h : x ≥ 0
      · rw [if_pos h]; congr 1; simp; omega
      · rw [if_neg h]; congr 1; simp; omega
    rw [prs]
    by_cases c : b = 45
    · refine Ev.pos c (Ev.bind0 (hin _) ?_)
      by_cases d : 0 ≤ a - 48 ∧ a - 48 ≤ 5
      · refine Ev.pos (by simpa using d) (Ev.neg (by omega) (Ev.pos (by omega) ?_))
        rw [if_pos ⟨d, .inr c⟩, show (44 : Int) - b = -1 by omega, ← en]
        exact ih _
      · rw [if_neg (fun h => d h.1)]
        exact Ev.neg (by simpa using d) (Ev.now _)
    · refine Ev.neg c (Ev.bind0 (hin _) ?_)
      by_cases d : 0 ≤ a - 48 ∧ a - 48 ≤ 5
      · refine Ev.pos (by simpa using d) ?_
        by_cases c2 : b = 43
        · refine Ev.pos c2 (Ev.pos (by omega) ?_)
          rw [if_pos ⟨d, .inl c2⟩, show (44 : Int) - b = 1 by omega, ← en]
          exact ih _
        · rw [if_neg (fun h => h.2.elim c2 c)]
          exact Ev.neg c2 (Ev.now _)
      · rw [if_neg (fun h => d h.1)]
        exact Ev.neg (by simpa using d) (Ev.now _)
theorem ParseTurns_s (s : ByteArray) (hs : s.size ≤ 1048576) : Ev (fun k => spec_ParseTurns.f k s) (ParseTurnsM s) := by
  have key : Ev (fun k => spec_whParse.f k s) (ParseTurnsM s) := by
    unfold spec_whParse.f ParseTurnsM
    by_cases h : (s.size : Int) % 2 = 0
    · refine Ev.pos h (Ev.succ ?_)
      simp only [spec_whParse.j0]
      by_cases h4 : (s.size : Int) ≤ 400
      · rw [if_pos ⟨h, h4⟩]
        refine Ev.neg (by simp; omega) ?_
        exact prs_sl hs (by omega) (bys s) [] [] rfl rfl (Nat.le_refl _)
      · rw [if_neg (fun h5 => h4 h5.2)]
        exact Ev.pos (by simp; omega) (Ev.now _)
    · refine Ev.neg h (Ev.succ ?_)
      simp only [spec_whParse.j0]
      rw [if_neg (fun h5 => h h5.1)]
      exact Ev.pos trivial (Ev.now _)
  unfold spec_ParseTurns.f
  exact Ev.bind key (Ev.now _)
theorem prs_il {s : ByteArray} (hs : s.size ≤ 400) (h2 : s.size % 2 = 0) : ∀ (t p : List Int) (acc : List S35), bys s = p ++ t → p.length % 2 = 0 → acc.length ≤ p.length → acc ++ rp t = rp (bys s) → Ev (fun k => impl_ParseTurns.l0 k s acc (p.length : Int)) (prs (bys s) [])
  | [], p, acc, e, hp, ha, er => by
    have hl := congrArg List.length e
    rw [bys_length] at hl
    simp at hl
    have ea : acc = rp (bys s) := by simpa [rp] using er
    have hlen := rp_len (bys s)
    rw [bys_length] at hlen
    refine Ev.succ ?_
    simp only [impl_ParseTurns.l0]
    refine Ev.neg (by omega) ?_
    rw [ea, prs_rp]
    refine Ev.bind (areTurns_ev (W := 6) (by omega) _ (by omega)) ?_
    have e200 : areT 6 (rp (bys s)) = (rp (bys s)).all (okT 6) := by unfold areT; rw [decide_eq_true (by omega), Bool.and_true]
    by_cases hc : (rp (bys s)).all (okT 6) = true
    · rw [if_pos hc]
      refine Ev.pos (by rw [e200]; exact hc) (Ev.bind (turnsText_ev _ (by omega) (by rw [e200]; exact hc)) (Ev.pos ?_ (Ev.val (by simp))))
      rw [toList_inj]
      unfold shM
      rw [rp_back _ (by rw [bys_length]; exact h2) hc, str_bys]
    · rw [if_neg hc]
      exact Ev.neg (by rw [e200]; exact hc) (Ev.now _)
  | [a], p, acc, e, hp, ha, er => by
    have hl := congrArg List.length e
    rw [bys_length] at hl
    simp at hl
    omega
  | a :: b :: r, p, acc, e, hp, ha, er => by
    have hl := congrArg List.length e
    rw [bys_length] at hl
    simp at hl
    have ra := bys_range s a (by rw [e]; simp)
    have rb := bys_range s b (by rw [e]; simp)
    have ea : bt s (p.length : Int) = a := by rw [bt_bys, e]; exact rd_mid _ _ _
    have eb : bt s ((p.length : Int) + 1) = b := by
      have := rd_mid (p ++ [a]) r b
      rw [List.length_append, List.length_singleton] at this
      rw [bt_bys, e, show p ++ a :: b :: r = (p ++ [a]) ++ b :: r by simp]
      simpa using this
    have ih := prs_il hs h2 r (p ++ [a, b]) (acc ++ [⟨a - 48, 44 - b⟩]) (by rw [e]; simp) (by simp; omega) (by simp; omega) (by rw [← er, rp]; simp)
    have en : ((p ++ [a, b]).length : Int) = (p.length : Int) + 2 := by simp
    refine Ev.succ ?_
    simp only [impl_ParseTurns.l0]
    rw [wrap_id (x := (p.length : Int) + 1) (by omega) (by omega), wrap_id (x := (p.length : Int) + 2) (by omega) (by omega), ea, eb, wrap_id (x := a) (by omega) (by omega), wrap_id (x := a - 48) (by omega) (by omega), wrap_id (x := b) (by omega) (by omega), wrap_id (x := 44 - b) (by omega) (by omega)]
    refine Ev.pos (by omega) (Ev.pos (by omega) (Ev.pos (by omega) (Ev.pos (by omega) (Ev.pos (by omega) ?_))))
    rw [← en]
    exact ih
theorem ParseTurns_i (s : ByteArray) (hs : s.size ≤ 1048576) : Ev (fun k => impl_ParseTurns.f k s) (ParseTurnsM s) := by
  unfold impl_ParseTurns.f ParseTurnsM
  by_cases h : (s.size : Int) % 2 = 0
  · refine Ev.pos h (Ev.succ ?_)
    simp only [impl_ParseTurns.j0]
    by_cases h4 : (s.size : Int) ≤ 400
    · rw [if_pos ⟨h, h4⟩]
      refine Ev.neg (by simp; omega) ?_
      exact prs_il (by omega) (by omega) (bys s) [] [] rfl rfl (Nat.le_refl _) rfl
    · rw [if_neg (fun h5 => h4 h5.2)]
      exact Ev.pos (by simp; omega) (Ev.now _)
  · refine Ev.neg h (Ev.succ ?_)
    simp only [impl_ParseTurns.j0]
    rw [if_neg (fun h5 => h h5.1)]
    exact Ev.pos trivial (Ev.now _)
theorem ParseTurnsM_len (s : ByteArray) : (ParseTurnsM s).1.length ≤ 400 := by
  unfold ParseTurnsM
  by_cases h : (s.size : Int) % 2 = 0 ∧ (s.size : Int) ≤ 400
  · have hlen := rp_len (bys s)
    rw [bys_length] at hlen
    rw [if_pos h, prs_rp]
    split
    · simp; omega
    · simp
  · rw [if_neg h]; simp
end Go.Proofs.YtoaekmghlmeflaaDoor.L
