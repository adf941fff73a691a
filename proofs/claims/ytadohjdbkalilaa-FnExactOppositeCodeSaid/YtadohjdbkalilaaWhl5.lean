/- AddCodes and OppositeCode, of the program and of the reference, are one function. -/
import Derived.Test.YtadohjdbkalilaaMath
import Derived.Test.YtadohjdbkalilaaWhl1
import Derived.Test.YtadohjdbkalilaaWhl2
import Derived.Test.YtadohjdbkalilaaWhl3
import Derived.Test.YtadohjdbkalilaaWhl4
import Derived.Test.YtadohjdbkalilaaQ8
import Derived.Test.YtadohjdbkalilaaQ9
namespace Go.Proofs.Ytadohjdbkalilaa.L
open Go.RowKit Go.Proofs.YtadohjdbkalilaaW.PrintWords Go.Proofs.YtadohjdbkalilaaW.PrintMore Go.Proofs.Ytadohjdbkalilaa.M Go.Proofs.Ytadohjdbkalilaa.Q
set_option linter.unusedVariables false
set_option linter.unusedSimpArgs false
def AddCodesM (W D : Int) (s t : ByteArray) : ByteArray × Bool := if (good W D && (isC W D s && isC W D t)) = true then (txt (addM D 1 (dgs s) (dgs t)), true) else (⟨#[]⟩, false)
theorem AddCodes_s (W D : Int) (s t : ByteArray) (hs : s.size ≤ 1048576) (ht : t.size ≤ 1048576) : Ev (fun k => spec_AddCodes.f k W D s t) (AddCodesM W D s t) := by
  unfold spec_AddCodes.f AddCodesM
  refine Ev.bind (whTwo_ev W D s t hs ht) ?_
  by_cases h : (good W D && (isC W D s && isC W D t)) = true
  · rw [if_pos h]
    obtain ⟨⟨a, b, c, d⟩, e1, e2, o1, o2, l1, l2⟩ := two_of h
    refine Ev.pos h (Ev.bind (a := txt (addM D 1 (dgs s) (dgs t))) ?_ (Ev.now _))
    have := whAdd_ev (W := W) (c := 1) ⟨c, d⟩ (by omega) o1 o2 (by omega) (by omega)
    rwa [← e1, ← e2] at this
  · rw [if_neg h]; exact Ev.neg h (Ev.now _)
theorem AddCodes_l0 {W D : Int} (hD : 2 ≤ D ∧ D ≤ 10) : ∀ (t u p q : List Int), Ok D (p ++ t) → Ok D u → p.length = q.length → t.length = u.length → (p ++ t).length ≤ 1000 →
    Ev (fun k => impl_AddCodes.l0 k (p ++ t) (q ++ u) ((p ++ t).length : Int) (p.length : Int) W D) (txt (p ++ addM D 1 t u), true)
  | [], u, p, q, ht, hu, hpq, htu, hl => by
    refine Ev.succ ?_
    simp only [impl_AddCodes.l0]
    refine Ev.neg (len_end p) ?_
    refine Ev.bind (text_ev (ht.le hD.2) (by omega)) (Ev.val (by simp [addM]))
  | a :: t, [], p, q, ht, hu, hpq, htu, hl => by simp at htu
  | a :: t, b :: u, p, q, ht, hu, hpq, htu, hl => by
    have ha := (Ok.cons.1 (Ok.append.1 ht).2).1
    have hb := (Ok.cons.1 hu).1
    rw [List.length_append, List.length_cons] at hl
    refine Ev.succ ?_
    simp only [impl_AddCodes.l0]
    refine Ev.pos (len_mid p t a) (Ev.pos (by omega) (Ev.pos (len_mid p t a) (Ev.pos (by rw [hpq]; exact len_mid q u b) ?_)))
    rw [rd_mid, show rd (q ++ b :: u) (p.length : Int) = b by rw [hpq]; exact rd_mid q u b, wrap_id (x := a + b) (by omega) (by omega), len_next p ((a + b) % D) (by omega)]
    refine Ev.bind0 (around_f _ (by omega) (by omega)) ?_
    rw [set_mid, app_next p t ((a + b) % D), app_next q u b, show ((p ++ a :: t).length : Int) = ((p ++ [(a + b) % D] ++ t).length : Int) by simp]
    rw [show p ++ addM D 1 (a :: t) (b :: u) = (p ++ [(a + b) % D]) ++ addM D 1 t u by simp [addM]]
    have ok2 : Ok D (p ++ [(a + b) % D] ++ t) := by
      rw [Ok.append, Ok.append]
      refine ⟨⟨(Ok.append.1 ht).1, ?_⟩, (Ok.cons.1 (Ok.append.1 ht).2).2⟩
      rw [Ok.cons]
      exact ⟨⟨Int.emod_nonneg _ (by omega), Int.emod_lt_of_pos _ (by omega)⟩, Ok.nil D⟩
    exact AddCodes_l0 hD t u (p ++ [(a + b) % D]) (q ++ [b]) ok2 (Ok.cons.1 hu).2 (by simp [hpq]) (by simpa using htu) (by simp; omega)
theorem AddCodes_i (W D : Int) (s t : ByteArray) (hs : s.size ≤ 1048576) (ht : t.size ≤ 1048576) : Ev (fun k => impl_AddCodes.f k W D s t) (AddCodesM W D s t) := by
  unfold impl_AddCodes.f AddCodesM
  refine Ev.bind (has2_ev W D s t hs ht) ?_
  by_cases h : (good W D && (isC W D s && isC W D t)) = true
  · rw [if_pos h]
    obtain ⟨⟨a, b, c, d⟩, e1, e2, o1, o2, l1, l2⟩ := two_of h
    refine Ev.pos h (Ev.bind (digits_ev s hs) (Ev.bind (digits_ev t ht) ?_))
    exact AddCodes_l0 ⟨c, d⟩ (dgs s) (dgs t) [] [] o1 o2 rfl (by omega) (by simp; omega)
  · rw [if_neg h]; exact Ev.neg h (Ev.now _)

/-! ### the opposite code -/
def oppM (D : Int) (ds : List Int) : List Int := ds.map fun x => (-x) % D
theorem oppM_ok {D : Int} (h : 0 < D) (ds : List Int) : Ok D (oppM D ds) := by
  intro x hx
  obtain ⟨d, _, rfl⟩ := List.mem_map.1 hx
  exact ⟨Int.emod_nonneg _ (by omega), Int.emod_lt_of_pos _ h⟩
theorem addM_rep (D : Int) : ∀ ds : List Int, addM D (-1) (List.replicate ds.length 0) ds = oppM D ds
  | [] => rfl
  | d :: ds => by
    have := addM_rep D ds
    simp only [List.length_cons, List.replicate_succ, addM, oppM, List.map_cons] at *
    rw [this, show (0 : Int) + -1 * d = -d by omega]
def OppositeCodeM (W D : Int) (s : ByteArray) : ByteArray × Bool := if (good W D && isC W D s) = true then (txt (oppM D (dgs s)), true) else (⟨#[]⟩, false)
theorem OppositeCode_s (W D : Int) (s : ByteArray) (hs : s.size ≤ 1048576) : Ev (fun k => spec_OppositeCode.f k W D s) (OppositeCodeM W D s) := by
  unfold spec_OppositeCode.f OppositeCodeM
  refine Ev.bind (whAsked_ev W D s hs) ?_
  by_cases h : (good W D && isC W D s) = true
  · rw [if_pos h]
    obtain ⟨⟨a, b, c, d⟩, e1, o1, l1⟩ := one_of h
    have hl : W.toNat = (dgs s).length := by omega
    refine Ev.pos h (Ev.pos (by omega) (Ev.pos (by omega) (Ev.bind (whText_ev (Ok.rep (by omega) _) (by simp; omega)) ?_)))
    refine Ev.bind (a := txt (oppM D (dgs s))) ?_ (Ev.now _)
    have := whAdd_ev (W := W) (c := -1) ⟨c, d⟩ (by omega) (Ok.rep (by omega) W.toNat) o1 (by simp; omega) (by simp [hl])
    rwa [← e1, hl, addM_rep, ← hl] at this
  · rw [if_neg h]; exact Ev.neg h (Ev.now _)
theorem OppositeCode_l0 {W D : Int} (hD : 2 ≤ D ∧ D ≤ 10) : ∀ (t p : List Int), Ok D (p ++ t) → (p ++ t).length ≤ 1000 →
    Ev (fun k => impl_OppositeCode.l0 k (p ++ t) ((p ++ t).length : Int) (p.length : Int) W D) (txt (p ++ oppM D t), true)
  | [], p, ht, hl => by
    refine Ev.succ ?_
    simp only [impl_OppositeCode.l0]
    refine Ev.neg (len_end p) ?_
    refine Ev.bind (text_ev (ht.le hD.2) (by omega)) (Ev.val (by simp [oppM]))
  | a :: t, p, ht, hl => by
    have ha := (Ok.cons.1 (Ok.append.1 ht).2).1
    rw [List.length_append, List.length_cons] at hl
    refine Ev.succ ?_
    simp only [impl_OppositeCode.l0]
    refine Ev.pos (len_mid p t a) (Ev.pos (by omega) (Ev.pos (len_mid p t a) ?_))
    rw [rd_mid, wrap_id (x := -a) (by omega) (by omega), len_next p ((-a) % D) (by omega)]
    refine Ev.bind0 (around_f _ (by omega) (by omega)) ?_
    rw [set_mid, app_next p t ((-a) % D), show ((p ++ a :: t).length : Int) = ((p ++ [(-a) % D] ++ t).length : Int) by simp]
    rw [show p ++ oppM D (a :: t) = (p ++ [(-a) % D]) ++ oppM D t by simp [oppM]]
    have ok2 : Ok D (p ++ [(-a) % D] ++ t) := by
      rw [Ok.append, Ok.append]
      refine ⟨⟨(Ok.append.1 ht).1, ?_⟩, (Ok.cons.1 (Ok.append.1 ht).2).2⟩
      rw [Ok.cons]
      exact ⟨⟨Int.emod_nonneg _ (by omega), Int.emod_lt_of_pos _ (by omega)⟩, Ok.nil D⟩
    exact OppositeCode_l0 hD t (p ++ [(-a) % D]) ok2 (by simp; omega)
theorem OppositeCode_i (W D : Int) (s : ByteArray) (hs : s.size ≤ 1048576) : Ev (fun k => impl_OppositeCode.f k W D s) (OppositeCodeM W D s) := by
  unfold impl_OppositeCode.f OppositeCodeM
  refine Ev.bind (has1_ev W D s hs) ?_
  by_cases h : (good W D && isC W D s) = true
  · rw [if_pos h]
    obtain ⟨⟨a, b, c, d⟩, e1, o1, l1⟩ := one_of h
    refine Ev.pos h (Ev.bind (digits_ev s hs) ?_)
    exact OppositeCode_l0 ⟨c, d⟩ (dgs s) [] o1 (by simp; omega)
  · rw [if_neg h]; exact Ev.neg h (Ev.now _)
end Go.Proofs.Ytadohjdbkalilaa.L
