/- What the printed functions on distances, sums and opposite codes come to. -/
import Derived.Test.YtadohjdbkalilaaMath
import Derived.Test.YtadohjdbkalilaaWhl1
import Derived.Test.YtadohjdbkalilaaWhl2
import Derived.Test.YtadohjdbkalilaaWhl3
import Derived.Test.YtadohjdbkalilaaQ6
import Derived.Test.YtadohjdbkalilaaQ7
import Derived.Test.YtadohjdbkalilaaQ8
namespace Go.Proofs.Ytadohjdbkalilaa.L
open Go.RowKit Go.Proofs.YtadohjdbkalilaaW.PrintWords Go.Proofs.YtadohjdbkalilaaW.PrintMore Go.Proofs.Ytadohjdbkalilaa.M Go.Proofs.Ytadohjdbkalilaa.Q
set_option linter.unusedVariables false
set_option linter.unusedSimpArgs false
theorem whTwo_ev (W D : Int) (s t : ByteArray) (hs : s.size ≤ 1048576) (ht : t.size ≤ 1048576) : Ev (fun k => spec_whTwo.f k W D s t) (good W D && (isC W D s && isC W D t)) := by
  unfold spec_whTwo.f
  refine Ev.bind (whAsked_ev W D s hs) ?_
  by_cases h : (good W D && isC W D s) = true
  · obtain ⟨hg, hc⟩ := Bool.and_eq_true_iff.1 h
    exact Ev.pos h (Ev.bind (whCode_ev hg t ht) (Ev.val (by rw [hg, hc]; rfl)))
  · refine Ev.neg h (Ev.val ?_)
    rw [← Bool.and_assoc]; simp [h]
theorem has2_ev (W D : Int) (s t : ByteArray) (hs : s.size ≤ 1048576) (ht : t.size ≤ 1048576) : Ev (fun k => impl_has.f k W D [s, t]) (good W D && (isC W D s && isC W D t)) := by
  have := has_ev W D [s, t] (by intro u hu; simp at hu; rcases hu with rfl | rfl <;> assumption) (by simp)
  simpa using this
theorem has1_ev (W D : Int) (s : ByteArray) (hs : s.size ≤ 1048576) : Ev (fun k => impl_has.f k W D [s]) (good W D && isC W D s) := by
  have := has_ev W D [s] (by simpa using hs) (by simp)
  simpa using this

/-! ### distance -/
def dist (D : Int) : List Int → List Int → Int
  | a :: aa, b :: bb => near D a b + dist D aa bb
  | _, _ => 0
theorem dist_bound {D : Int} (h : 0 < D) : ∀ a b : List Int, 0 ≤ dist D a b ∧ dist D a b ≤ D * a.length
  | [], b => by simp [dist]
  | a :: aa, [] => by
    simp only [dist, List.length_cons]
    refine ⟨by omega, Int.mul_nonneg (by omega) (by omega)⟩
  | a :: aa, b :: bb => by
    have h1 := dist_bound h aa bb
    have h2 := near_bound (D := D) (a := a) (b := b) h
    simp only [dist, List.length_cons]
    rw [Int.natCast_add, Int.mul_add]
    omega
theorem whDistance_l0 {W D : Int} (hD : 2 ≤ D ∧ D ≤ 10) : ∀ (t u p q : List Int) (x : Int), Ok D t → Ok D u → p.length = q.length → t.length = u.length → (p ++ t).length ≤ 6 → 0 ≤ x → x ≤ 10 * p.length →
    Ev (fun k => spec_whDistance.l0 k (p ++ t) (q ++ u) x ((p ++ t).length : Int) (p.length : Int) W D) (x + dist D t u)
  | [], u, p, q, x, ht, hu, hpq, htu, hl, h0, h1 => by
    refine Ev.succ ?_
    simp only [spec_whDistance.l0]
    refine Ev.neg (len_end p) (Ev.val (by simp [dist]))
  | a :: t, [], p, q, x, ht, hu, hpq, htu, hl, h0, h1 => by simp at htu
  | a :: t, b :: u, p, q, x, ht, hu, hpq, htu, hl, h0, h1 => by
    have ha := (Ok.cons.1 ht).1
    have hb := (Ok.cons.1 hu).1
    have hn := near_bound (D := D) (a := a) (b := b) (by omega)
    rw [List.length_append, List.length_cons] at hl
    refine Ev.succ ?_
    simp only [spec_whDistance.l0]
    refine Ev.pos (len_mid p t a) (Ev.pos (by omega) (Ev.pos (len_mid p t a) (Ev.pos (by rw [hpq]; exact len_mid q u b) ?_)))
    rw [rd_mid, show rd (q ++ b :: u) (p.length : Int) = b by rw [hpq]; exact rd_mid q u b, len_next p a (by omega), app_next p t a, app_next q u b]
    refine Ev.bind0 (whFar_f W (by omega) (by omega) (by omega) (by omega)) (Ev.bind0 (least_far (by omega)) ?_)
    rw [wrap_id (by omega) (by omega)]
    rw [show x + dist D (a :: t) (b :: u) = (x + near D a b) + dist D t u by simp only [dist]; omega]
    exact whDistance_l0 hD t u (p ++ [a]) (q ++ [b]) (x + near D a b) (Ok.cons.1 ht).2 (Ok.cons.1 hu).2 (by simp [hpq]) (by simpa using htu) (by simp; omega) (by omega) (by simp; omega)
theorem whDistance_ev {W D : Int} (hD : 2 ≤ D ∧ D ≤ 10) {a b : List Int} (ha : Ok D a) (hb : Ok D b) (hl : a.length ≤ 6) (e : a.length = b.length) : Ev (fun k => spec_whDistance.f k W D (txt a) (txt b)) (dist D a b) := by
  unfold spec_whDistance.f
  refine Ev.bind (whDigits_txt (ha.le hD.2) (by omega)) (Ev.bind (whDigits_txt (hb.le hD.2) (by omega)) ?_)
  have := whDistance_l0 (W := W) hD a b [] [] 0 ha hb rfl e hl (by omega) (by simp)
  rwa [Int.zero_add] at this
theorem distance_l0 {W D : Int} (hD : 2 ≤ D ∧ D ≤ 10) {s r : ByteArray} : ∀ (t u p q : List Int) (x : Int), bys s = p ++ t.map (48 + ·) → bys r = q ++ u.map (48 + ·) → Ok D t → Ok D u → p.length = q.length → t.length = u.length → s.size ≤ 6 → 0 ≤ x → x ≤ 10 * p.length →
    Ev (fun k => impl_Lock_distance.l0 k s r x (s.size : Int) (p.length : Int) W D) (x + dist D t u)
  | [], u, p, q, x, es, er, ht, hu, hpq, htu, hl, h0, h1 => by
    have el : p.length = s.size := by rw [← bys_length, es]; simp
    refine Ev.succ ?_
    simp only [impl_Lock_distance.l0]
    refine Ev.neg (by omega) (Ev.val (by simp [dist]))
  | a :: t, [], p, q, x, es, er, ht, hu, hpq, htu, hl, h0, h1 => by simp at htu
  | a :: t, b :: u, p, q, x, es, er, ht, hu, hpq, htu, hl, h0, h1 => by
    have ha := (Ok.cons.1 ht).1
    have hb := (Ok.cons.1 hu).1
    have hn := near_bound (D := D) (a := a) (b := b) (by omega)
    have el : p.length + (t.length + 1) = s.size := by rw [← bys_length, es]; simp
    have el2 : q.length + (u.length + 1) = r.size := by rw [← bys_length, er]; simp
    have e1 : bt s (p.length : Int) = 48 + a := by rw [bt_bys, es, List.map_cons, rd_mid]
    have e2 : bt r (p.length : Int) = 48 + b := by rw [bt_bys, er, List.map_cons, hpq, rd_mid]
    refine Ev.succ ?_
    simp only [impl_Lock_distance.l0]
    refine Ev.pos (by omega) (Ev.pos (by omega) (Ev.pos (by omega) (Ev.pos (by rw [List.length_cons, List.length_cons] at htu; omega) ?_)))
    rw [e1, e2, wrap_id (x := 48 + a) (by omega) (by omega), wrap_id (x := 48 + b) (by omega) (by omega)]
    refine Ev.bind0 (near_f W (by omega) (by omega) (by omega) (by omega)) ?_
    rw [show near D (48 + a) (48 + b) = near D a b by unfold near; rw [show 48 + b - (48 + a) = b - a by omega]]
    rw [wrap_id (x := x + near D a b) (by omega) (by omega), show wrap64 ((p.length : Int) + 1) = ((p ++ [48 + a]).length : Int) from len_next p _ (by omega)]
    rw [show x + dist D (a :: t) (b :: u) = (x + near D a b) + dist D t u by simp only [dist]; omega]
    exact distance_l0 hD t u (p ++ [48 + a]) (q ++ [48 + b]) (x + near D a b) (by rw [es]; simp) (by rw [er]; simp) (Ok.cons.1 ht).2 (Ok.cons.1 hu).2 (by simp [hpq]) (by simpa using htu) hl (by omega) (by simp; omega)
theorem distance_ev {W D : Int} (hD : 2 ≤ D ∧ D ≤ 10) {a b : List Int} (ha : Ok D a) (hb : Ok D b) (hl : a.length ≤ 6) (e : a.length = b.length) : Ev (fun k => impl_Lock_distance.f k W D (txt a) (txt b)) (dist D a b) := by
  unfold impl_Lock_distance.f
  have := distance_l0 (W := W) hD (s := txt a) (r := txt b) a b [] [] 0 (bys_txt (ha.le hD.2)) (bys_txt (hb.le hD.2)) ha hb rfl e (by rw [txt_size]; exact hl) (by omega) (by simp)
  rwa [Int.zero_add] at this
/-- Two codes of a lock. -/
theorem two_of {W D : Int} {s t : ByteArray} (h : (good W D && (isC W D s && isC W D t)) = true) : (1 ≤ W ∧ W ≤ 6 ∧ 2 ≤ D ∧ D ≤ 10) ∧ s = txt (dgs s) ∧ t = txt (dgs t) ∧ Ok D (dgs s) ∧ Ok D (dgs t) ∧ ((dgs s).length : Int) = W ∧ ((dgs t).length : Int) = W := by
  obtain ⟨hg, hc⟩ := Bool.and_eq_true_iff.1 h
  obtain ⟨h1, h2⟩ := Bool.and_eq_true_iff.1 hc
  have g := good_iff.1 hg
  obtain ⟨a1, a2, a3⟩ := code_of h1 g.2.2.2
  obtain ⟨b1, b2, b3⟩ := code_of h2 g.2.2.2
  exact ⟨g, a1, b1, a2, b2, a3, b3⟩
theorem one_of {W D : Int} {s : ByteArray} (h : (good W D && isC W D s) = true) : (1 ≤ W ∧ W ≤ 6 ∧ 2 ≤ D ∧ D ≤ 10) ∧ s = txt (dgs s) ∧ Ok D (dgs s) ∧ ((dgs s).length : Int) = W := by
  obtain ⟨hg, h1⟩ := Bool.and_eq_true_iff.1 h
  have g := good_iff.1 hg
  obtain ⟨a1, a2, a3⟩ := code_of h1 g.2.2.2
  exact ⟨g, a1, a2, a3⟩
def FewestTurnsM (W D : Int) (s t : ByteArray) : Int × Bool := if (good W D && (isC W D s && isC W D t)) = true then (dist D (dgs s) (dgs t), true) else (0, false)
theorem FewestTurns_s (W D : Int) (s t : ByteArray) (hs : s.size ≤ 1048576) (ht : t.size ≤ 1048576) : Ev (fun k => spec_FewestTurns.f k W D s t) (FewestTurnsM W D s t) := by
  unfold spec_FewestTurns.f FewestTurnsM
  refine Ev.bind (whTwo_ev W D s t hs ht) ?_
  by_cases h : (good W D && (isC W D s && isC W D t)) = true
  · rw [if_pos h]
    obtain ⟨⟨a, b, c, d⟩, e1, e2, o1, o2, l1, l2⟩ := two_of h
    refine Ev.pos h (Ev.bind (a := dist D (dgs s) (dgs t)) ?_ (Ev.now _))
    have := whDistance_ev (W := W) ⟨c, d⟩ o1 o2 (by omega) (by omega)
    rwa [← e1, ← e2] at this
  · rw [if_neg h]; exact Ev.neg h (Ev.now _)
theorem FewestTurns_i (W D : Int) (s t : ByteArray) (hs : s.size ≤ 1048576) (ht : t.size ≤ 1048576) : Ev (fun k => impl_FewestTurns.f k W D s t) (FewestTurnsM W D s t) := by
  unfold impl_FewestTurns.f FewestTurnsM
  refine Ev.bind (has2_ev W D s t hs ht) ?_
  by_cases h : (good W D && (isC W D s && isC W D t)) = true
  · rw [if_pos h]
    obtain ⟨⟨a, b, c, d⟩, e1, e2, o1, o2, l1, l2⟩ := two_of h
    refine Ev.pos h (Ev.bind (a := dist D (dgs s) (dgs t)) ?_ (Ev.now _))
    have := distance_ev (W := W) ⟨c, d⟩ o1 o2 (by omega) (by omega)
    rwa [← e1, ← e2] at this
  · rw [if_neg h]; exact Ev.neg h (Ev.now _)

/-! ### sums -/
def addM (D c : Int) : List Int → List Int → List Int
  | a :: aa, b :: bb => (a + c * b) % D :: addM D c aa bb
  | aa, _ => aa
theorem addM_length (D c : Int) : ∀ a b : List Int, (addM D c a b).length = a.length
  | [], b => by simp [addM]
  | a :: aa, [] => by simp [addM]
  | a :: aa, b :: bb => by simp [addM, addM_length D c aa bb]
theorem addM_ok {D : Int} (h : 0 < D) (c : Int) : ∀ a b : List Int, Ok D a → Ok D (addM D c a b)
  | [], b, ha => by simpa [addM] using ha
  | a :: aa, [], ha => by simpa [addM] using ha
  | a :: aa, b :: bb, ha => by
    rw [addM, Ok.cons]
    exact ⟨⟨Int.emod_nonneg _ (by omega), Int.emod_lt_of_pos _ h⟩, addM_ok h c aa bb (Ok.cons.1 ha).2⟩
theorem whAdd_l0 {W D c : Int} (hD : 2 ≤ D ∧ D ≤ 10) (hc : -1000000 ≤ c ∧ c ≤ 1000000) : ∀ (t u p q : List Int), Ok D (p ++ t) → Ok 1000 u → p.length = q.length → t.length = u.length → (p ++ t).length ≤ 1000 →
    Ev (fun k => spec_whAdd.l0 k c (p ++ t) (q ++ u) ((p ++ t).length : Int) (p.length : Int) W D) (txt (p ++ addM D c t u))
  | [], u, p, q, ht, hu, hpq, htu, hl => by
    refine Ev.succ ?_
    simp only [spec_whAdd.l0]
    refine Ev.neg (len_end p) ?_
    refine Ev.bind (whText_ev (ht.le hD.2) (by omega)) (Ev.val (by simp [addM]))
  | a :: t, [], p, q, ht, hu, hpq, htu, hl => by simp at htu
  | a :: t, b :: u, p, q, ht, hu, hpq, htu, hl => by
    have ha := (Ok.cons.1 (Ok.append.1 ht).2).1
    have hb := (Ok.cons.1 hu).1
    have hcb : -1000000000 ≤ c * b ∧ c * b ≤ 1000000000 := by
      have h1 : c * b ≤ 1000000 * b := Int.mul_le_mul_of_nonneg_right hc.2 hb.1
      have h2 : -1000000 * b ≤ c * b := Int.mul_le_mul_of_nonneg_right hc.1 hb.1
      omega
    rw [List.length_append, List.length_cons] at hl
    refine Ev.succ ?_
    simp only [spec_whAdd.l0]
    refine Ev.pos (len_mid p t a) (Ev.pos (by omega) (Ev.pos (len_mid p t a) (Ev.pos (by rw [hpq]; exact len_mid q u b) ?_)))
    rw [rd_mid, show rd (q ++ b :: u) (p.length : Int) = b by rw [hpq]; exact rd_mid q u b, wrap_id (x := c * b) (by omega) (by omega), wrap_id (x := a + c * b) (by omega) (by omega), len_next p ((a + c * b) % D) (by omega)]
    refine Ev.bind0 (l1Mod_f _ (by omega) (by omega)) ?_
    rw [set_mid, app_next p t ((a + c * b) % D), app_next q u b, show ((p ++ a :: t).length : Int) = ((p ++ [(a + c * b) % D] ++ t).length : Int) by simp]
    rw [show p ++ addM D c (a :: t) (b :: u) = (p ++ [(a + c * b) % D]) ++ addM D c t u by simp [addM]]
    have ok2 : Ok D (p ++ [(a + c * b) % D] ++ t) := by
      rw [Ok.append, Ok.append]
      refine ⟨⟨(Ok.append.1 ht).1, ?_⟩, (Ok.cons.1 (Ok.append.1 ht).2).2⟩
      rw [Ok.cons]
      exact ⟨⟨Int.emod_nonneg _ (by omega), Int.emod_lt_of_pos _ (by omega)⟩, Ok.nil D⟩
    exact whAdd_l0 hD hc t u (p ++ [(a + c * b) % D]) (q ++ [b]) ok2 (Ok.cons.1 hu).2 (by simp [hpq]) (by simpa using htu) (by simp; omega)
theorem whAdd_ev {W D c : Int} (hD : 2 ≤ D ∧ D ≤ 10) (hc : -1000000 ≤ c ∧ c ≤ 1000000) {a b : List Int} (ha : Ok D a) (hb : Ok D b) (hl : a.length ≤ 6) (e : a.length = b.length) : Ev (fun k => spec_whAdd.f k W D (txt a) (txt b) c) (txt (addM D c a b)) := by
  unfold spec_whAdd.f
  refine Ev.bind (whDigits_txt (ha.le hD.2) (by omega)) (Ev.bind (whDigits_txt (hb.le hD.2) (by omega)) ?_)
  exact whAdd_l0 (W := W) hD hc a b [] [] ha (hb.le (by omega)) rfl e (by simp; omega)
end Go.Proofs.Ytadohjdbkalilaa.L
