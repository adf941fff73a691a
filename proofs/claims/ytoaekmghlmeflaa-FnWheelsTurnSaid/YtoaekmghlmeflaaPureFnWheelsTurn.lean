/- FnWheelsTurn's plain law: turns change one wheel and are taken back, sums of codes turn wheels around, and codes have their numbers, at whatever is drawn out of whatever bytes. -/
import Derived.Test.YtoaekmghlmeflaaLFnWheelsTurn
import Derived.Test.YtoaekmghlmeflaaU0
import Derived.Test.YtoaekmghlmeflaaU1
import Derived.Test.YtoaekmghlmeflaaU27
import Derived.Test.YtoaekmghlmeflaaU52
namespace Go.Proofs.Ytoaekmghlmeflaa.Pure
open Go.RowKit Go.Proofs.YtoaekmghlmeflaaW.PrintWords Go.Proofs.YtoaekmghlmeflaaW.PrintMore Go.Proofs.Ytoaekmghlmeflaa.M Go.Proofs.Ytoaekmghlmeflaa.L Go.Proofs.Ytoaekmghlmeflaa.U
set_option linter.unusedVariables false
set_option linter.unusedSimpArgs false
theorem opp2 (W D : Int) (s : ByteArray) : (OppositeCodeM W D s).2 = (good W D && isC W D s) := by
  unfold OppositeCodeM; split <;> simp_all
theorem num2 (W D : Int) (s : ByteArray) : (NumberOfCodeM W D s).2 = (good W D && isC W D s) := by
  unfold NumberOfCodeM; split <;> simp_all
theorem add2 (W D : Int) (s t : ByteArray) : (AddCodesM W D s t).2 = (good W D && (isC W D s && isC W D t)) := by
  unfold AddCodesM; split <;> simp_all
theorem AddM_two {W D : Int} {a b : List Int} (hg : good W D = true) (ha : Ok D a) (hb : Ok D b) (hw : (a.length : Int) = W) (hw2 : (b.length : Int) = W) : AddCodesM W D (txt a) (txt b) = (txt (addM D 1 a b), true) := by
  have g := good_iff.1 hg
  unfold AddCodesM
  rw [if_pos (by rw [hg, isC_txt ha (by omega) hw, isC_txt hb (by omega) hw2]; rfl), dgs_txt (ha.le (by omega)), dgs_txt (hb.le (by omega))]
theorem NumM_one {W D : Int} {a : List Int} (hg : good W D = true) (ha : Ok D a) (hw : (a.length : Int) = W) : NumberOfCodeM W D (txt a) = (num D a, true) := by
  have g := good_iff.1 hg
  unfold NumberOfCodeM
  rw [if_pos (by rw [hg, isC_txt ha (by omega) hw]; rfl), dgs_txt (ha.le (by omega))]
theorem OppM_one {W D : Int} {a : List Int} (hg : good W D = true) (ha : Ok D a) (hw : (a.length : Int) = W) : OppositeCodeM W D (txt a) = (txt (oppM D a), true) := by
  have g := good_iff.1 hg
  unfold OppositeCodeM
  rw [if_pos (by rw [hg, isC_txt ha (by omega) hw]; rfl), dgs_txt (ha.le (by omega))]
theorem ZeroM_one {W D : Int} (hg : good W D = true) : ZeroCodeM W D = (txt (List.replicate W.toNat 0), true) := by
  unfold ZeroCodeM
  rw [if_pos hg]
theorem fin5 (n0 n1 rk : Int) : Ev (fun k => wF5 k n0 n1 rk (CodeOfNumberM n0 n1 rk).1 (CodeOfNumberM n0 n1 rk).2 (CountCodesM n0 n1).1 (CountCodesM n0 n1).2) true := by
  unfold wF5
  by_cases h : (good n0 n1 && decide (0 ≤ rk ∧ rk ≤ pw n1 n0.toNat - 1)) = true
  · have h2 := Bool.and_eq_true_iff.1 h
    have g := good_iff.1 h2.1
    have hr := of_decide_eq_true h2.2
    have e1 : CodeOfNumberM n0 n1 rk = (txt (cod n1 n0.toNat rk), true) := by unfold CodeOfNumberM; rw [if_pos h]
    have e2 : CountCodesM n0 n1 = (pw n1 n0.toNat, true) := by unfold CountCodesM; rw [if_pos h2.1]
    have hl : ((cod n1 n0.toNat rk).length : Int) = n0 := by rw [cod_length]; omega
    have e3 := NumberOfCode_i n0 n1 (txt (cod n1 n0.toNat rk)) (by rw [txt_size]; omega)
    rw [NumM_one h2.1 (cod_ok (by omega) _ _) hl, num_cod (by omega) _ hr.1 (by omega)] at e3
    rw [e1, e2]
    refine Ev.pos rfl (Ev.bind e3 (Ev.val ?_))
    have : rk < pw n1 n0.toNat := by omega
    simp [this]
  · have e1 : CodeOfNumberM n0 n1 rk = (⟨#[]⟩, false) := by unfold CodeOfNumberM; rw [if_neg h]
    rw [e1]
    exact Ev.neg (by simp) (Ev.now _)
theorem fin4 (m0 m1 n0 n1 rk : Int) (s7 s8 : ByteArray) (h7 : s7.size ≤ 1048576) (h8 : s8.size ≤ 1048576) : Ev (fun k => wF4 k m0 m1 n0 n1 rk s7 s8 (AddCodesM m0 m1 s7 s8).1 (AddCodesM m0 m1 s7 s8).2 (CodeOfNumberM n0 n1 rk).1 (CodeOfNumberM n0 n1 rk).2 (ZeroCodeM m0 m1).1 (CountCodesM n0 n1).1 (CountCodesM n0 n1).2) true := by
  unfold wF4
  by_cases h : (good m0 m1 && (isC m0 m1 s7 && isC m0 m1 s8)) = true
  · have h2 := Bool.and_eq_true_iff.1 h
    have h3 := Bool.and_eq_true_iff.1 h2.2
    have hg := h2.1
    have g := good_iff.1 hg
    obtain ⟨a, rfl, ha, hla⟩ := code_elim h3.1 (by omega)
    obtain ⟨b, rfl, hb, hlb⟩ := code_elim h3.2 (by omega)
    have hs : ((addM m1 1 a b).length : Int) = m0 := by rw [addM_length]; exact hla
    have hso := addM_ok (D := m1) (by omega) 1 a b ha
    have hz : ((List.replicate m0.toNat (0 : Int)).length : Int) = m0 := by simp; omega
    have hzo := Ok.rep (D := m1) (by omega) m0.toNat
    rw [AddM_two hg ha hb hla hlb, ZeroM_one hg]
    have e1 := AddCodes_i m0 m1 (txt b) (txt a) h8 h7
    rw [AddM_two hg hb ha hlb hla] at e1
    have e2 := FewestTurns_i m0 m1 (txt a) (txt (addM m1 1 a b)) h7 (by rw [txt_size]; omega)
    rw [FewM_two hg ha hso hla hs] at e2
    have e3 := FewestTurns_i m0 m1 (txt (List.replicate m0.toNat 0)) (txt b) (by rw [txt_size]; omega) h8
    rw [FewM_two hg hzo hb hz hlb] at e3
    refine Ev.pos rfl (Ev.bind e1 (Ev.bind e2 (Ev.bind e3 (Ev.neg ?_ (fin5 n0 n1 rk)))))
    have e4 : dist m1 a (addM m1 1 a b) = dist m1 (List.replicate m0.toNat 0) b := by
      rw [dist_add (by omega) a b (by omega), show a.length = m0.toNat by omega]
    rw [addM_comm m1 b a (by omega), e4]
    simp
  · have e1 := add2 m0 m1 s7 s8
    rw [Bool.not_eq_true] at h
    rw [h] at e1
    rw [e1]
    exact Ev.neg (by simp) (fin5 n0 n1 rk)
theorem fin3 (m0 m1 n0 n1 rk : Int) (s7 s8 : ByteArray) (h7 : s7.size ≤ 1048576) (h8 : s8.size ≤ 1048576) : Ev (fun k => wF3 k m0 m1 n0 n1 rk s7 s8 (AddCodesM m0 m1 s7 s8).1 (AddCodesM m0 m1 s7 s8).2 (NumberOfCodeM m0 m1 s7).1 (NumberOfCodeM m0 m1 s7).2 (OppositeCodeM m0 m1 s7).1 (CodeOfNumberM n0 n1 rk).1 (CodeOfNumberM n0 n1 rk).2 (ZeroCodeM m0 m1).1 (ZeroCodeM m0 m1).2 (CountCodesM n0 n1).1 (CountCodesM n0 n1).2) true := by
  have f4 := fin4 m0 m1 n0 n1 rk s7 s8 h7 h8
  unfold wF3
  by_cases h : (good m0 m1 && isC m0 m1 s7) = true
  · have h2 := Bool.and_eq_true_iff.1 h
    have hg := h2.1
    have g := good_iff.1 hg
    obtain ⟨a, rfl, ha, hla⟩ := code_elim h2.2 (by omega)
    have hoo := oppM_ok (D := m1) (by omega) a
    have hol : ((oppM m1 a).length : Int) = m0 := by rw [oppM, List.length_map]; exact hla
    have hn := num_bound (D := m1) (by omega) ha
    have hw : m0.toNat = a.length := by omega
    have e1 := CodeOfNumber_i m0 m1 (num m1 a)
    rw [show CodeOfNumberM m0 m1 (num m1 a) = (txt a, true) by
      unfold CodeOfNumberM
      rw [if_pos (by rw [hg, decide_eq_true (by rw [hw]; omega)]; rfl), hw, cod_num (by omega) ha]] at e1
    have e2 := AddCodes_i m0 m1 (txt a) (txt (oppM m1 a)) h7 (by rw [txt_size]; omega)
    rw [AddM_two hg ha hoo hla hol, addM_opp a] at e2
    rw [NumM_one hg ha hla, OppM_one hg ha hla]
    refine Ev.pos rfl (Ev.bind e1 (Ev.bind e2 (Ev.neg ?_ f4)))
    rw [ZeroM_one hg, hw]
    simp
  · have e1 := num2 m0 m1 s7
    rw [Bool.not_eq_true] at h
    rw [h] at e1
    rw [e1]
    exact Ev.neg (by simp) f4
theorem wF2_ev {mr : List Int} (hb : Byts mr) : Ev (fun k => wF2 k mr) true := by
  obtain ⟨b0, b1, s4, d0, d1, g1, h4⟩ := DrawTurnWheel_ok hb
  obtain ⟨m0, m1, s7, s8, g2, h7, h8⟩ := DrawAddCodes_ok hb
  obtain ⟨n0, n1, rk, g3⟩ := DrawCodeOfNumber_ok hb
  replace h4 : s4.size ≤ 1048576 := by omega
  replace h7 : s7.size ≤ 1048576 := by omega
  replace h8 : s8.size ≤ 1048576 := by omega
  unfold wF2
  refine Ev.bind g1 (Ev.bind (TurnWheel_i b0 b1 s4 d0 d1 h4) (Ev.bind (TurnWheel_s b0 b1 s4 d0 d1 h4) (Ev.bind g2 (Ev.bind (AddCodes_i m0 m1 s7 s8 h7 h8) (Ev.bind (AddCodes_s m0 m1 s7 s8 h7 h8) (Ev.bind (NumberOfCode_i m0 m1 s7 h7) (Ev.bind (NumberOfCode_s m0 m1 s7 h7) (Ev.bind (OppositeCode_i m0 m1 s7 h7) (Ev.bind (OppositeCode_s m0 m1 s7 h7) (Ev.bind0 g3 (Ev.bind (CodeOfNumber_i n0 n1 rk) (Ev.bind (CodeOfNumber_s n0 n1 rk) (Ev.bind (ZeroCode_i m0 m1) (Ev.bind (ZeroCode_s m0 m1) (Ev.bind (CountCodes_i n0 n1) (Ev.bind (CountCodes_s n0 n1) (Ev.neg ?_ (fin3 m0 m1 n0 n1 rk s7 s8 h7 h8))))))))))))))))))
  simp only [bne_self', Bool.false_or, opp2, num2, add2]
  cases good m0 m1 <;> cases isC m0 m1 s7 <;> simp
theorem wF1_ev {mr : List Int} (hb : Byts mr) (W D : Int) (s : ByteArray) (l : List S40) (hs : s.size ≤ 1048576) (hl : l.length ≤ 1048576) : Ev (fun k => wF1 k W D mr s l (TurnWheelsM W D s l).1 (TurnWheelsM W D s l).2 (BackTurnsM W D l).1) true := by
  have f2 := wF2_ev hb
  unfold wF1
  by_cases h : (good W D && isC W D s && areT W l) = true
  · have h1 := Bool.and_eq_true_iff.1 h
    have h2 := Bool.and_eq_true_iff.1 h1.1
    have hg := h2.1
    have g := good_iff.1 hg
    have hT := h1.2
    have hA : l.all (okT W) = true := (Bool.and_eq_true_iff.1 hT).1
    obtain ⟨ds, rfl, hd, hw⟩ := code_elim h2.2 (by omega)
    have eT : TurnWheelsM W D (txt ds) l = (txt (turnsM D ds l), true) := by
      unfold TurnWheelsM; rw [if_pos h, dgs_txt (hd.le (by omega))]
    have eB : BackTurnsM W D l = (backT l, true) := by
      unfold BackTurnsM; rw [if_pos (by rw [hg, hT]; rfl)]
    have ho := turnsM_ok (D := D) (by omega) l ds hd
    have hw2 : ((turnsM D ds l).length : Int) = W := by rw [turnsM_length]; exact hw
    have hbk := backT_ok hT
    have hbl : (backT l).length ≤ 1048576 := by rw [backT_rev]; simpa using hl
    have e1 := TurnWheels_i W D (txt (turnsM D ds l)) (backT l) (by rw [txt_size]; omega) hbl
    rw [show TurnWheelsM W D (txt (turnsM D ds l)) (backT l) = (txt ds, true) by
      unfold TurnWheelsM
      rw [if_pos (by rw [hg, isC_txt ho (by omega) hw2, hbk]; rfl), dgs_txt (ho.le (by omega)), backT_rev, turnsM_back (by omega) l ds hd hw hA]] at e1
    have e2 := FewestTurns_i W D (txt ds) (txt (turnsM D ds l)) hs (by rw [txt_size]; omega)
    rw [FewM_two hg hd ho hw hw2] at e2
    rw [eT, eB]
    refine Ev.pos rfl (Ev.bind e1 (Ev.bind e2 (Ev.neg ?_ (Ev.bind (loopF_ev hg l ds hd hw hA) ?_))))
    · have := dist_turns (D := D) (by omega) l ds hd hw hA
      simp; omega
    · simp only [Option.elim_some]
      exact Ev.neg (by simp) f2
  · have e1 : (TurnWheelsM W D s l).2 = false := by unfold TurnWheelsM; rw [if_neg h]
    rw [e1]
    exact Ev.neg (by simp) f2
theorem FnWheelsTurn (l : List Int) (hl : l.length ≤ 9223372036854775807 ∧ ∀ x ∈ l, (Lit.int .u8 x).wf = true) (m : List Int) (hm : m.length ≤ 9223372036854775807 ∧ ∀ x ∈ m, (Lit.int .u8 x).wf = true) : ∃ k, laws_FnWheelsTurn.f k l m = some true := by
  refine Ev.rounds (r := true) ?_
  have bl := Byts.of hl.2
  have bm := Byts.of hm.2
  obtain ⟨W, D, s, ts, g, hs7, ht⟩ := DrawTurnWheels_ok bl
  have hs : s.size ≤ 1048576 := by omega
  have hl3 : ts.length ≤ 1048576 := by omega
  unfold laws_FnWheelsTurn.f
  obtain ⟨b, hb⟩ : ∃ b, laws_big.f l m = some b := by
    unfold laws_big.f
    split
    · exact ⟨_, rfl⟩
    · exact ⟨_, rfl⟩
  refine Ev.bind0 hb ?_
  cases b with
  | true => exact Ev.pos rfl (Ev.now _)
  | false =>
  have f1 := wF1_ev bm W D s ts hs hl3
  have hbl := BackTurnsM_len W D ts
  have t2 : (TurnWheelsM W D s ts).2 = (good W D && isC W D s && areT W ts) := by unfold TurnWheelsM; split <;> simp_all
  have b2 : (BackTurnsM W D ts).2 = (good W D && areT W ts) := by unfold BackTurnsM; split <;> simp_all
  have i2 : (IsCodeM W D s).2 = good W D := by unfold IsCodeM; split <;> simp_all
  have i1 : (IsCodeM W D s).1 = (good W D && isC W D s) := by unfold IsCodeM; split <;> simp_all
  refine Ev.neg (by decide) (Ev.bind g (Ev.bind (TurnWheels_i W D s ts hs hl3) (Ev.bind (TurnWheels_s W D s ts hs hl3) (Ev.bind (BackTurns_i W D ts hl3) (Ev.bind (BackTurns_s W D ts hl3) (Ev.bind (IsCode_i W D s hs) (Ev.bind (IsCode_s W D s hs) (Ev.neg (by simp) (Ev.neg (by simp) ?_)))))))))
  unfold H9_1 H9_2 H9_3 H9_4 H9_5 H9_6
  refine Ev.neg (by simp) (Ev.bind (aTurns_ev _ (by omega)) (Ev.pos rfl (Ev.neg (by simp) (Ev.neg (by simp) (Ev.bind0 (IsLock_i W D) (Ev.neg (by rw [i2]; simp) (Ev.bind0 (IsLock_i W D) (Ev.bind0 (IsLock_s W D) (Ev.neg (by simp) ?_)))))))))
  have e7 : ∀ F : Bool → Option Bool, H9_7 F (TurnWheelsM W D s ts).2 (BackTurnsM W D ts).2 (IsCodeM W D s).1 (IsCodeM W D s).2 = F false := by
    intro F
    unfold H9_7
    rw [t2, b2, i1, i2]
    cases good W D <;> cases isC W D s <;> cases areT W ts <;> rfl
  simp only [e7]
  exact Ev.neg (by simp) f1
end Go.Proofs.Ytoaekmghlmeflaa.Pure
