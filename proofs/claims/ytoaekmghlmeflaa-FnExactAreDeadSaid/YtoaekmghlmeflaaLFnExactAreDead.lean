/- What the printed functions that FnExactAreDead reaches come to: lemmas for its plain law. -/
import Derived.Test.YtoaekmghlmeflaaMath
import Derived.Test.YtoaekmghlmeflaaQ1
import Derived.Test.YtoaekmghlmeflaaQ2
import Derived.Test.YtoaekmghlmeflaaQ6
import Derived.Test.YtoaekmghlmeflaaQ7
import Derived.Test.YtoaekmghlmeflaaQ8
import Derived.Test.YtoaekmghlmeflaaQ29
import Derived.Test.YtoaekmghlmeflaaQ36
import Derived.Test.YtoaekmghlmeflaaQ37
import Derived.Test.YtoaekmghlmeflaaQ38
import Derived.Test.YtoaekmghlmeflaaQ39
import Derived.Test.YtoaekmghlmeflaaQ40
import Derived.Test.YtoaekmghlmeflaaQ41
import Derived.Test.YtoaekmghlmeflaaQ42
namespace Go.Proofs.Ytoaekmghlmeflaa.L
open Go.RowKit Go.Proofs.YtoaekmghlmeflaaW.PrintWords Go.Proofs.YtoaekmghlmeflaaW.PrintMore Go.Proofs.Ytoaekmghlmeflaa.M Go.Proofs.Ytoaekmghlmeflaa.Q
set_option linter.unusedVariables false
set_option linter.unusedSimpArgs false
theorem whGood_f (W D : Int) : spec_whGood.f W D = some (good W D) := by
  unfold spec_whGood.f spec_l1In.f good
  by_cases h1 : 1 ≤ W <;> by_cases h2 : W ≤ 6 <;> by_cases h3 : 2 ≤ D <;> by_cases h4 : D ≤ 10 <;> simp [h1, h2, h3, h4]
theorem IsLock_i (W D : Int) : impl_IsLock.f W D = some (good W D) := by
  unfold impl_IsLock.f impl_within.f good
  by_cases h1 : 1 ≤ W <;> by_cases h2 : W ≤ 6 <;> by_cases h3 : 2 ≤ D <;> by_cases h4 : D ≤ 10 <;> simp [h1, h2, h3, h4]
theorem l1In_f (n lo hi : Int) : spec_l1In.f n lo hi = some (decide (lo ≤ n ∧ n ≤ hi)) := by
  unfold spec_l1In.f
  by_cases h1 : lo ≤ n <;> by_cases h2 : n ≤ hi <;> simp [h1, h2]
theorem within_f (n lo hi : Int) : impl_within.f n lo hi = some (decide (lo ≤ n ∧ n ≤ hi)) := by
  unfold impl_within.f
  by_cases h1 : lo ≤ n <;> by_cases h2 : n ≤ hi <;> simp [h1, h2]

theorem whCount_l0 {W D : Int} (h0 : 2 ≤ D) (h1 : D ≤ 10) : ∀ (m n : Nat), n + m ≤ 6 → Ev (fun k => spec_whCount.l0 k (pw D n) (m : Int) W D) (pw D (n + m))
  | 0, n, h => by
    refine Ev.succ ?_
    simp only [spec_whCount.l0]
    exact Ev.neg (by omega) (Ev.now _)
  | m + 1, n, h => by
    have b := pw_le6 (D := D) (by omega) h1 (n := n + 1) (by omega)
    have p := pw_pos (D := D) (by omega) (n + 1)
    refine Ev.succ ?_
    simp only [spec_whCount.l0]
    refine Ev.pos (by omega) ?_
    rw [show wrap64 (pw D n * D) = pw D (n + 1) from wrap_id (by rw [pw] at *; omega) (by rw [pw] at *; omega), show wrap64 (((m + 1 : Nat) : Int) - 1) = (m : Int) by rw [wrap_id] <;> omega,
      show n + (m + 1) = (n + 1) + m by omega]
    exact whCount_l0 h0 h1 m (n + 1) (by omega)
theorem whCount_ev {W D : Int} (h : good W D = true) : Ev (fun k => spec_whCount.f k W D) (pw D W.toNat) := by
  obtain ⟨a, b, c, d⟩ := good_iff.1 h
  obtain ⟨w, rfl⟩ := Int.eq_ofNat_of_zero_le (show 0 ≤ W by omega)
  unfold spec_whCount.f
  have := whCount_l0 (W := w) c d w 0 (by omega)
  rw [Nat.zero_add] at this
  exact this
theorem power_l0 {D : Int} (h0 : 2 ≤ D) (h1 : D ≤ 10) : ∀ (m n : Nat), n + m ≤ 6 → Ev (fun k => impl_power.l0 k D (pw D n) ((n + m : Nat) : Int) (n : Int)) (pw D (n + m))
  | 0, n, h => by
    refine Ev.succ ?_
    simp only [impl_power.l0]
    exact Ev.neg (by omega) (Ev.now _)
  | m + 1, n, h => by
    have b := pw_le6 (D := D) (by omega) h1 (n := n + 1) (by omega)
    have p := pw_pos (D := D) (by omega) (n + 1)
    refine Ev.succ ?_
    simp only [impl_power.l0]
    refine Ev.pos (by omega) ?_
    rw [show wrap64 (pw D n * D) = pw D (n + 1) from wrap_id (by rw [pw] at *; omega) (by rw [pw] at *; omega), show wrap64 ((n : Int) + 1) = ((n + 1 : Nat) : Int) by rw [wrap_id] <;> omega,
      show n + (m + 1) = (n + 1) + m by omega]
    exact power_l0 h0 h1 m (n + 1) (by omega)
theorem count_ev {W D : Int} (h : good W D = true) : Ev (fun k => impl_Lock_count.f k W D) (pw D W.toNat) := by
  obtain ⟨a, b, c, d⟩ := good_iff.1 h
  obtain ⟨w, rfl⟩ := Int.eq_ofNat_of_zero_le (show 0 ≤ W by omega)
  unfold impl_Lock_count.f impl_power.f
  have := power_l0 c d w 0 (by omega)
  rw [Nat.zero_add] at this
  exact Ev.bind this (Ev.now _)

theorem whCode_l0 {W D : Int} (hD : 2 ≤ D ∧ D ≤ 10) {s : ByteArray} (hs : s.size ≤ 1048576) : ∀ (t p : List Int), bys s = p ++ t → Ev (fun k => spec_whCode.l0 k s (p.length : Int) W D) (t.all fun b => decide (48 ≤ b ∧ b < 48 + D))
  | [], p, e => by
    have el : p.length = s.size := by rw [← bys_length, e]; simp
    refine Ev.succ ?_
    simp only [spec_whCode.l0]
    exact Ev.neg (by omega) (Ev.now _)
  | x :: t, p, e => by
    have el : p.length + (t.length + 1) = s.size := by rw [← bys_length, e]; simp
    have hx := bys_range s x (by rw [e]; simp)
    refine Ev.succ ?_
    simp only [spec_whCode.l0]
    refine Ev.pos (by omega) (Ev.pos (by omega) ?_)
    rw [bt_bys, e, rd_mid, wrap_id (x := x) (by omega) (by omega), wrap_id (x := x - 48) (by omega) (by omega), wrap_id (x := D - 1) (by omega) (by omega), l1In_f]
    refine Ev.bind0 rfl ?_
    by_cases hb : 48 ≤ x ∧ x < 48 + D
    · refine Ev.pos (by simp; omega) ?_
      rw [show wrap64 ((p.length : Int) + 1) = ((p ++ [x]).length : Int) from len_next p x (by omega)]
      simp only [List.all_cons, hb, and_self, decide_true, Bool.true_and]
      exact whCode_l0 hD hs t (p ++ [x]) (by rw [e]; simp)
    · refine Ev.neg (by simp; omega) ?_
      rw [List.all_cons, decide_eq_false hb, Bool.false_and]
      exact Ev.now _
theorem whCode_ev {W D : Int} (h : good W D = true) (s : ByteArray) (hs : s.size ≤ 1048576) : Ev (fun k => spec_whCode.f k W D s) (isC W D s) := by
  obtain ⟨a, b, c, d⟩ := good_iff.1 h
  unfold spec_whCode.f isC
  by_cases e : (s.size : Int) = W
  · refine Ev.pos e ?_
    rw [decide_eq_true e, Bool.true_and]
    exact whCode_l0 ⟨c, d⟩ hs (bys s) [] rfl
  · refine Ev.neg e ?_
    rw [decide_eq_false e, Bool.false_and]
    exact Ev.now _
theorem isText_l0 {W D : Int} (hD : 2 ≤ D ∧ D ≤ 10) {s : ByteArray} (hs : s.size ≤ 1048576) : ∀ (t p : List Int), bys s = p ++ t → Ev (fun k => impl_Lock_isText.l0 k s (s.size : Int) (p.length : Int) W D) (t.all fun b => decide (48 ≤ b ∧ b < 48 + D))
  | [], p, e => by
    have el : p.length = s.size := by rw [← bys_length, e]; simp
    refine Ev.succ ?_
    simp only [impl_Lock_isText.l0]
    exact Ev.neg (by omega) (Ev.now _)
  | x :: t, p, e => by
    have el : p.length + (t.length + 1) = s.size := by rw [← bys_length, e]; simp
    have hx := bys_range s x (by rw [e]; simp)
    refine Ev.succ ?_
    simp only [impl_Lock_isText.l0]
    refine Ev.pos (by omega) (Ev.pos (by omega) (Ev.pos (by omega) ?_))
    rw [bt_bys, e, rd_mid, wrap_id (x := x) (by omega) (by omega), wrap_id (x := 48 + D) (by omega) (by omega), wrap_id (x := 48 + D - 1) (by omega) (by omega), within_f]
    refine Ev.bind0 rfl ?_
    by_cases hb : 48 ≤ x ∧ x < 48 + D
    · refine Ev.pos (by simp; omega) ?_
      rw [show wrap64 ((p.length : Int) + 1) = ((p ++ [x]).length : Int) from len_next p x (by omega)]
      simp only [List.all_cons, hb, and_self, decide_true, Bool.true_and]
      exact isText_l0 hD hs t (p ++ [x]) (by rw [e]; simp)
    · refine Ev.neg (by simp; omega) ?_
      rw [List.all_cons, decide_eq_false hb, Bool.false_and]
      exact Ev.now _
theorem isCode_ev {W D : Int} (h : good W D = true) (s : ByteArray) (hs : s.size ≤ 1048576) : Ev (fun k => impl_Lock_isCode.f k W D s) (isC W D s) := by
  obtain ⟨a, b, c, d⟩ := good_iff.1 h
  unfold impl_Lock_isCode.f isC
  by_cases e : (s.size : Int) = W
  · refine Ev.pos e ?_
    rw [decide_eq_true e, Bool.true_and]
    refine Ev.bind (isText_l0 (W := W) ⟨c, d⟩ hs (bys s) [] rfl) (Ev.now _)
  · refine Ev.neg e ?_
    rw [decide_eq_false e, Bool.false_and]
    exact Ev.now _

theorem has_l0 {W D : Int} (h : good W D = true) : ∀ (t p : List ByteArray), (∀ s ∈ t, s.size ≤ 1048576) → (p ++ t).length ≤ 1048576 → Ev (fun k => impl_has.l0 k (p ++ t) ((p ++ t).length : Int) (p.length : Int) W D) (t.all (isC W D))
  | [], p, hs, hl => by
    refine Ev.succ ?_
    simp only [impl_has.l0]
    refine Ev.neg (len_end p) (Ev.val (by simp))
  | x :: t, p, hs, hl => by
    rw [List.length_append, List.length_cons] at hl
    refine Ev.succ ?_
    simp only [impl_has.l0]
    refine Ev.pos (len_mid p t x) (Ev.pos (by omega) (Ev.pos (len_mid p t x) ?_))
    rw [rdOf_mid, len_next p x (by omega), app_next p t x]
    refine Ev.bind (isCode_ev h x (hs x (by simp))) ?_
    by_cases hx : isC W D x = true
    · refine Ev.pos hx ?_
      rw [List.all_cons, hx, Bool.true_and]
      exact has_l0 h t (p ++ [x]) (fun s hs' => hs s (by simp [hs'])) (by simp; omega)
    · refine Ev.neg hx (Ev.val ?_)
      simp [hx]
theorem has_ev (W D : Int) (l : List ByteArray) (hs : ∀ s ∈ l, s.size ≤ 1048576) (hl : l.length ≤ 1048576) : Ev (fun k => impl_has.f k W D l) (good W D && l.all (isC W D)) := by
  unfold impl_has.f
  refine Ev.bind0 (IsLock_i W D) ?_
  by_cases h : good W D = true
  · refine Ev.pos h ?_
    rw [h, Bool.true_and]
    exact has_l0 h l [] hs hl
  · refine Ev.neg h (Ev.val (by simp [h]))

def small (W D m : Int) : Bool := good W D && decide (pw D W.toNat ≤ m)
theorem deSmall_ev (W D : Int) : Ev (fun k => spec_deSmall.f k W D) (small W D 1000) := by
  unfold spec_deSmall.f small
  refine Ev.bind0 (whGood_f W D) ?_
  by_cases h : good W D = true
  · rw [h, Bool.true_and]; exact Ev.pos rfl (Ev.bind (whCount_ev h) (Ev.now _))
  · exact Ev.neg h (Ev.val (by simp [h]))
theorem isSmall_ev (W D m : Int) : Ev (fun k => impl_isSmall.f k W D m) (small W D m) := by
  unfold impl_isSmall.f small
  refine Ev.bind0 (IsLock_i W D) ?_
  by_cases h : good W D = true
  · rw [h, Bool.true_and]; exact Ev.pos rfl (Ev.bind (count_ev h) (Ev.now _))
  · exact Ev.neg h (Ev.val (by simp [h]))
def rising : List ByteArray → Bool
  | a :: b :: l => Op.bytesLess a.toList b.toList && rising (b :: l)
  | _ => true
def deadM (W D : Int) (l : List ByteArray) : Bool := decide (l.length ≤ 60) && (l.all (isC W D) && rising l)
theorem idx_prev (p' t : List ByteArray) (q x : ByteArray) : rdOf ByteArray.empty (p' ++ q :: x :: t) (p'.length : Int) = q ∧ rdOf ByteArray.empty (p' ++ q :: x :: t) ((p'.length + 1 : Nat) : Int) = x := by
  refine ⟨rdOf_mid _ _ _ _, ?_⟩
  have := rdOf_mid ByteArray.empty (p' ++ [q]) t x
  rw [List.length_append, List.length_singleton, List.append_assoc] at this
  exact this
theorem deList_l0 {W D : Int} (hg : good W D = true) : ∀ (t p' : List ByteArray) (q : ByteArray), (p' ++ q :: t).length ≤ 1048576 → (∀ s ∈ t, s.size ≤ 1048576) →
    Ev (fun k => spec_deList.l0 k (p' ++ q :: t) (p' ++ q :: t) ((p' ++ q :: t).length : Int) ((p'.length + 1 : Nat) : Int) W D) (t.all (isC W D) && rising (q :: t))
  | [], p', q, hl, hs => by
    refine Ev.succ ?_
    simp only [spec_deList.l0]
    exact Ev.neg (by simp) (Ev.now _)
  | x :: t, p', q, hl, hs => by
    obtain ⟨e1, e2⟩ := idx_prev p' t q x
    rw [List.length_append, List.length_cons, List.length_cons] at hl
    have hlen : ((p' ++ q :: x :: t).length : Int) = p'.length + t.length + 2 := by simp; omega
    refine Ev.succ ?_
    simp only [spec_deList.l0]
    refine Ev.pos (by omega) (Ev.pos (by omega) (Ev.pos (by omega) ?_))
    rw [e2]
    refine Ev.bind (whCode_ev hg x (hs x (by simp))) ?_
    by_cases hx : isC W D x = true
    · refine Ev.pos hx (Ev.pos (by omega) ?_)
      rw [show wrap64 (((p'.length + 1 : Nat) : Int) - 1) = (p'.length : Int) by rw [wrap_id] <;> omega, e1]
      refine Ev.pos (by omega) (Ev.pos (by omega) ?_)
      by_cases hq : Op.bytesLess q.toList x.toList = true
      · refine Ev.pos hq ?_
        have := deList_l0 hg t (p' ++ [q]) x (by simp; omega) (fun s h => hs s (by simp [h]))
        rw [List.append_assoc, List.singleton_append, show (p' ++ [q]).length = p'.length + 1 by simp] at this
        rw [show wrap64 (((p'.length + 1 : Nat) : Int) + 1) = ((p'.length + 1 + 1 : Nat) : Int) by rw [wrap_id] <;> omega]
        rw [List.all_cons, hx, Bool.true_and, rising, hq, Bool.true_and]
        exact this
      · refine Ev.neg hq (Ev.val ?_)
        simp [rising, hq]
    · refine Ev.neg hx (Ev.val ?_)
      simp [hx]
theorem deList_ev {W D : Int} (hg : good W D = true) (l : List ByteArray) (hl : l.length ≤ 1048576) (hs : ∀ s ∈ l, s.size ≤ 1048576) : Ev (fun k => spec_deList.f k W D l) (deadM W D l) := by
  unfold spec_deList.f deadM
  by_cases h : (l.length : Int) > 60
  · refine Ev.pos h (Ev.val ?_)
    rw [decide_eq_false (by omega)]; rfl
  · refine Ev.neg h ?_
    rw [decide_eq_true (by omega), Bool.true_and]
    match l, hl, hs with
    | [], _, _ =>
      refine Ev.succ ?_
      simp only [spec_deList.l0]
      exact Ev.neg (by simp) (Ev.now _)
    | q :: t, hl, hs =>
      rw [List.length_cons] at hl
      refine Ev.succ ?_
      simp only [spec_deList.l0]
      refine Ev.pos (by rw [List.length_cons]; omega) (Ev.pos (by omega) (Ev.pos (by rw [List.length_cons]; omega) ?_))
      rw [show rdOf ByteArray.empty (q :: t) 0 = q from rfl]
      refine Ev.bind (whCode_ev hg q (hs q (by simp))) ?_
      by_cases hx : isC W D q = true
      · refine Ev.pos hx (Ev.neg (by omega) ?_)
        have := deList_l0 hg t [] q (by simp; omega) (fun s h => hs s (by simp [h]))
        rw [List.all_cons, hx, Bool.true_and, show wrap64 ((0 : Int) + 1) = 1 by rw [wrap_id] <;> omega]
        exact this
      · refine Ev.neg hx (Ev.val ?_)
        simp [hx]
theorem areDead_l0 : ∀ (t p' : List ByteArray) (q : ByteArray), (p' ++ q :: t).length ≤ 1048576 →
    Ev (fun k => impl_areDead.l0 k (p' ++ q :: t) ((p'.length + 1 : Nat) : Int)) (rising (q :: t))
  | [], p', q, hl => by
    refine Ev.succ ?_
    simp only [impl_areDead.l0]
    exact Ev.neg (by simp) (Ev.now _)
  | x :: t, p', q, hl => by
    obtain ⟨e1, e2⟩ := idx_prev p' t q x
    rw [List.length_append, List.length_cons, List.length_cons] at hl
    have hlen : ((p' ++ q :: x :: t).length : Int) = p'.length + t.length + 2 := by simp; omega
    refine Ev.succ ?_
    simp only [impl_areDead.l0]
    refine Ev.pos (by omega) (Ev.pos (by omega) ?_)
    rw [show wrap64 (((p'.length + 1 : Nat) : Int) - 1) = (p'.length : Int) by rw [wrap_id] <;> omega, e1, e2]
    refine Ev.pos (by omega) (Ev.pos (by omega) ?_)
    by_cases hq : Op.bytesLess q.toList x.toList = true
    · refine Ev.pos hq ?_
      have := areDead_l0 t (p' ++ [q]) x (by simp; omega)
      rw [List.append_assoc, List.singleton_append, show (p' ++ [q]).length = p'.length + 1 by simp] at this
      rw [show wrap64 (((p'.length + 1 : Nat) : Int) + 1) = ((p'.length + 1 + 1 : Nat) : Int) by rw [wrap_id] <;> omega, rising, hq, Bool.true_and]
      exact this
    · refine Ev.neg hq (Ev.val ?_)
      simp [rising, hq]
theorem areDead_ev (W D : Int) (l : List ByteArray) (hl : l.length ≤ 1048576) (hs : ∀ s ∈ l, s.size ≤ 1048576) : Ev (fun k => impl_areDead.f k W D l) (small W D 1000 && deadM W D l) := by
  unfold impl_areDead.f
  refine Ev.bind (isSmall_ev W D 1000) ?_
  by_cases h : small W D 1000 = true
  · have hg : good W D = true := (Bool.and_eq_true_iff.1 h).1
    rw [h, Bool.true_and]
    refine Ev.pos rfl ?_
    unfold deadM
    by_cases h6 : (l.length : Int) > 60
    · refine Ev.pos h6 (Ev.succ ?_)
      simp only [impl_areDead.j0]
      refine Ev.pos trivial (Ev.val ?_)
      rw [decide_eq_false (by omega)]; rfl
    · refine Ev.neg h6 (Ev.bind (has_ev W D l hs hl) (Ev.succ ?_))
      simp only [impl_areDead.j0]
      rw [decide_eq_true (by omega), Bool.true_and, hg, Bool.true_and]
      by_cases ha : l.all (isC W D) = true
      · refine Ev.neg (by simp [ha]) ?_
        rw [ha, Bool.true_and]
        match l, hl with
        | [], _ =>
          refine Ev.succ ?_
          simp only [impl_areDead.l0]
          exact Ev.neg (by simp) (Ev.now _)
        | q :: t, hl => exact areDead_l0 t [] q hl
      · refine Ev.pos (by simp [ha]) (Ev.val ?_)
        simp [ha]
  · refine Ev.neg h (Ev.succ ?_)
    simp only [impl_areDead.j0]
    refine Ev.pos trivial (Ev.val ?_)
    simp [h]
def AreDeadM (W D : Int) (l : List ByteArray) : Bool × Bool := if small W D 1000 = true then (deadM W D l, true) else (false, false)
theorem AreDead_s (W D : Int) (l : List ByteArray) (hl : l.length ≤ 1048576) (hs : ∀ s ∈ l, s.size ≤ 1048576) : Ev (fun k => spec_AreDead.f k W D l) (AreDeadM W D l) := by
  unfold spec_AreDead.f AreDeadM
  refine Ev.bind (deSmall_ev W D) ?_
  by_cases h : small W D 1000 = true
  · rw [if_pos h]
    exact Ev.pos h (Ev.bind (deList_ev (Bool.and_eq_true_iff.1 h).1 l hl hs) (Ev.now _))
  · rw [if_neg h]; exact Ev.neg h (Ev.now _)
theorem AreDead_i (W D : Int) (l : List ByteArray) (hl : l.length ≤ 1048576) (hs : ∀ s ∈ l, s.size ≤ 1048576) : Ev (fun k => impl_AreDead.f k W D l) (AreDeadM W D l) := by
  unfold impl_AreDead.f AreDeadM
  refine Ev.bind (isSmall_ev W D 1000) ?_
  by_cases h : small W D 1000 = true
  · rw [if_pos h]
    refine Ev.pos h (Ev.bind (areDead_ev W D l hl hs) (Ev.val ?_))
    rw [h, Bool.true_and]
  · rw [if_neg h]; exact Ev.neg h (Ev.now _)
theorem szStringS_l0 : ∀ (t p : List ByteArray) (c : Int), (∀ s ∈ t, s.size ≤ 9223372036854775807) → (p ++ t).length ≤ 9223372036854775806 → 0 ≤ c → c ≤ 1048576 →
    ∃ r, Ev (fun k => laws_szStringS.l0 k (p ++ t) c (p.length : Int)) r ∧ (r < 0 ∨ (∀ s ∈ t, s.size ≤ 1048576))
  | [], p, c, hs, hl, h0, h1 => by
    refine ⟨c, Ev.succ ?_, .inr (by simp)⟩
    simp only [laws_szStringS.l0]
    exact Ev.neg (len_end p) (Ev.now _)
  | x :: t, p, c, hs, hl, h0, h1 => by
    rw [List.length_append, List.length_cons] at hl
    have hx := hs x (by simp)
    by_cases h : c - (x.size : Int) < 0
    · refine ⟨-1, Ev.succ ?_, .inl (by omega)⟩
      simp only [laws_szStringS.l0]
      refine Ev.pos (len_mid p t x) (Ev.pos (by omega) ?_)
      rw [rdOf_mid, wrap_id (x := c - (x.size : Int)) (by omega) (by omega)]
      exact Ev.pos h (Ev.now _)
    · obtain ⟨r, hr, hp⟩ := szStringS_l0 t (p ++ [x]) (c - (x.size : Int)) (fun s h' => hs s (by simp [h'])) (by simp; omega) (by omega) (by omega)
      refine ⟨r, Ev.succ ?_, hp.imp id (fun h' s hs' => ?_)⟩
      · simp only [laws_szStringS.l0]
        refine Ev.pos (len_mid p t x) (Ev.pos (by omega) ?_)
        rw [rdOf_mid, wrap_id (x := c - (x.size : Int)) (by omega) (by omega), len_next p x (by omega), app_next p t x]
        exact Ev.neg h hr
      · rcases List.mem_cons.1 hs' with rfl | h2
        · omega
        · exact h' s h2
theorem szStringS_ev (l : List ByteArray) (hl : l.length ≤ 9223372036854775807) (hs : ∀ s ∈ l, s.size ≤ 9223372036854775807) :
    ∃ r, Ev (fun k => laws_szStringS.f k l 1048576) r ∧ (r < 0 ∨ (l.length ≤ 1048576 ∧ ∀ s ∈ l, s.size ≤ 1048576)) := by
  by_cases h : (1048576 : Int) - (l.length : Int) < 0
  · refine ⟨-1, ?_, .inl (by omega)⟩
    unfold laws_szStringS.f
    rw [wrap_id (x := (1048576 : Int) - (l.length : Int)) (by omega) (by omega)]
    exact Ev.pos h (Ev.now _)
  · obtain ⟨r, hr, hp⟩ := szStringS_l0 l [] ((1048576 : Int) - (l.length : Int)) hs (by simp; omega) (by omega) (by omega)
    refine ⟨r, ?_, hp.imp id (fun h' => ⟨by omega, h'⟩)⟩
    unfold laws_szStringS.f
    rw [wrap_id (x := (1048576 : Int) - (l.length : Int)) (by omega) (by omega)]
    exact Ev.neg h hr
theorem toStringS_l0 : ∀ (t p u : List ByteArray), t.length = u.length → (p ++ t).length ≤ 1048576 → Ev (fun k => laws_toStringS.l0 k (p ++ t) (p ++ u) (p.length : Int)) (p ++ t)
  | [], p, u, e, hl => by
    have : u = [] := List.length_eq_zero_iff.1 e.symm
    subst this
    refine Ev.succ ?_
    simp only [laws_toStringS.l0]
    exact Ev.neg (len_end p) (Ev.now _)
  | x :: t, p, [], e, hl => by simp at e
  | x :: t, p, y :: u, e, hl => by
    rw [List.length_append, List.length_cons] at hl
    refine Ev.succ ?_
    simp only [laws_toStringS.l0]
    refine Ev.pos (len_mid p t x) (Ev.pos (by omega) (Ev.pos (len_mid p u y) ?_))
    rw [rdOf_mid, set_mid, len_next p x (by omega), app_next p t x, app_next p u x]
    exact toStringS_l0 t (p ++ [x]) u (by simpa using e) (by simp; omega)
theorem toStringS_ev (l : List ByteArray) (hl : l.length ≤ 1048576) : Ev (fun k => laws_toStringS.f k l) l := by
  unfold laws_toStringS.f
  refine Ev.pos (by omega) (Ev.pos (by omega) ?_)
  exact toStringS_l0 l [] _ (by simp) hl
theorem eqStringS_l0 : ∀ (t p : List ByteArray), (p ++ t).length ≤ 9223372036854775806 → Ev (fun k => laws_eqStringS.l0 k (p ++ t) (p ++ t) (p.length : Int)) true
  | [], p, hl => by
    refine Ev.succ ?_
    simp only [laws_eqStringS.l0]
    exact Ev.neg (len_end p) (Ev.now _)
  | x :: t, p, hl => by
    rw [List.length_append, List.length_cons] at hl
    refine Ev.succ ?_
    simp only [laws_eqStringS.l0]
    refine Ev.pos (len_mid p t x) (Ev.pos (by omega) (Ev.pos (len_mid p t x) ?_))
    refine Ev.pos trivial ?_
    rw [len_next p x (by omega), app_next p t x]
    exact eqStringS_l0 t (p ++ [x]) (by simp; omega)
theorem eqStringS_ev (l : List ByteArray) (hl : l.length ≤ 9223372036854775806) : Ev (fun k => laws_eqStringS.f k l l) true := by
  unfold laws_eqStringS.f
  exact Ev.pos rfl (eqStringS_l0 l [] hl)
end Go.Proofs.Ytoaekmghlmeflaa.L
