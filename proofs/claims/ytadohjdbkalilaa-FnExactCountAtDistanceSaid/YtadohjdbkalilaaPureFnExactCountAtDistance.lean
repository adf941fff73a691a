/- FnExactCountAtDistance's plain law: the program's CountAtDistance and the reference's answer alike at every lock and distance: each of the 54 locks is reckoned once, with the distance open. -/
import Derived.KernelRfl
import Derived.Test.YtadohjdbkalilaaMath
import Derived.Test.YtadohjdbkalilaaWhl1
import Derived.Test.YtadohjdbkalilaaQ3
import Derived.Test.YtadohjdbkalilaaQ4
namespace Go.Proofs.Ytadohjdbkalilaa.Pure
open Go.RowKit Go.Proofs.YtadohjdbkalilaaW.PrintWords Go.Proofs.YtadohjdbkalilaaW.PrintMore Go.Proofs.Ytadohjdbkalilaa.M Go.Proofs.Ytadohjdbkalilaa.L Go.Proofs.Ytadohjdbkalilaa.Q
set_option linter.unusedVariables false
set_option linter.unusedSimpArgs false
/-- What a lock's rows come to: the program's at a distance, the reference's whole. -/
structure Case (W D : Int) (R : List Int) : Prop where
  s : spec_whRounds.f 3000 W D = some R
  i : ∀ x : Int, impl_CountAtDistance.j0 10000 x false W D = if 0 ≤ x then (if x < (((R ++ List.replicate (101 - R.length) (0 : Int)).length : Nat) : Int) then some (rd (R ++ List.replicate (101 - R.length) (0 : Int)) x, true) else none) else none
  l : R.length ≤ 101
set_option maxRecDepth 100000
theorem case1_2 : Case 1 2 [1, 1] := ⟨by kernel_rfl, fun x => by kernel_rfl, by decide⟩
theorem case1_3 : Case 1 3 [1, 2] := ⟨by kernel_rfl, fun x => by kernel_rfl, by decide⟩
theorem case1_4 : Case 1 4 [1, 2, 1] := ⟨by kernel_rfl, fun x => by kernel_rfl, by decide⟩
theorem case1_5 : Case 1 5 [1, 2, 2] := ⟨by kernel_rfl, fun x => by kernel_rfl, by decide⟩
theorem case1_6 : Case 1 6 [1, 2, 2, 1] := ⟨by kernel_rfl, fun x => by kernel_rfl, by decide⟩
theorem case1_7 : Case 1 7 [1, 2, 2, 2] := ⟨by kernel_rfl, fun x => by kernel_rfl, by decide⟩
theorem case1_8 : Case 1 8 [1, 2, 2, 2, 1] := ⟨by kernel_rfl, fun x => by kernel_rfl, by decide⟩
theorem case1_9 : Case 1 9 [1, 2, 2, 2, 2] := ⟨by kernel_rfl, fun x => by kernel_rfl, by decide⟩
theorem case1_10 : Case 1 10 [1, 2, 2, 2, 2, 1] := ⟨by kernel_rfl, fun x => by kernel_rfl, by decide⟩
theorem case2_2 : Case 2 2 [1, 2, 1] := ⟨by kernel_rfl, fun x => by kernel_rfl, by decide⟩
theorem case2_3 : Case 2 3 [1, 4, 4] := ⟨by kernel_rfl, fun x => by kernel_rfl, by decide⟩
theorem case2_4 : Case 2 4 [1, 4, 6, 4, 1] := ⟨by kernel_rfl, fun x => by kernel_rfl, by decide⟩
theorem case2_5 : Case 2 5 [1, 4, 8, 8, 4] := ⟨by kernel_rfl, fun x => by kernel_rfl, by decide⟩
theorem case2_6 : Case 2 6 [1, 4, 8, 10, 8, 4, 1] := ⟨by kernel_rfl, fun x => by kernel_rfl, by decide⟩
theorem case2_7 : Case 2 7 [1, 4, 8, 12, 12, 8, 4] := ⟨by kernel_rfl, fun x => by kernel_rfl, by decide⟩
theorem case2_8 : Case 2 8 [1, 4, 8, 12, 14, 12, 8, 4, 1] := ⟨by kernel_rfl, fun x => by kernel_rfl, by decide⟩
theorem case2_9 : Case 2 9 [1, 4, 8, 12, 16, 16, 12, 8, 4] := ⟨by kernel_rfl, fun x => by kernel_rfl, by decide⟩
theorem case2_10 : Case 2 10 [1, 4, 8, 12, 16, 18, 16, 12, 8, 4, 1] := ⟨by kernel_rfl, fun x => by kernel_rfl, by decide⟩
theorem case3_2 : Case 3 2 [1, 3, 3, 1] := ⟨by kernel_rfl, fun x => by kernel_rfl, by decide⟩
theorem case3_3 : Case 3 3 [1, 6, 12, 8] := ⟨by kernel_rfl, fun x => by kernel_rfl, by decide⟩
theorem case3_4 : Case 3 4 [1, 6, 15, 20, 15, 6, 1] := ⟨by kernel_rfl, fun x => by kernel_rfl, by decide⟩
theorem case3_5 : Case 3 5 [1, 6, 18, 32, 36, 24, 8] := ⟨by kernel_rfl, fun x => by kernel_rfl, by decide⟩
theorem case3_6 : Case 3 6 [1, 6, 18, 35, 48, 48, 35, 18, 6, 1] := ⟨by kernel_rfl, fun x => by kernel_rfl, by decide⟩
theorem case3_7 : Case 3 7 [1, 6, 18, 38, 60, 72, 68, 48, 24, 8] := ⟨by kernel_rfl, fun x => by kernel_rfl, by decide⟩
theorem case3_8 : Case 3 8 [1, 6, 18, 38, 63, 84, 92, 84, 63, 38, 18, 6, 1] := ⟨by kernel_rfl, fun x => by kernel_rfl, by decide⟩
theorem case3_9 : Case 3 9 [1, 6, 18, 38, 66, 96, 116, 120, 108, 80, 48, 24, 8] := ⟨by kernel_rfl, fun x => by kernel_rfl, by decide⟩
theorem case3_10 : Case 3 10 [1, 6, 18, 38, 66, 99, 128, 144, 144, 128, 99, 66, 38, 18, 6, 1] := ⟨by kernel_rfl, fun x => by kernel_rfl, by decide⟩
theorem case4_2 : Case 4 2 [1, 4, 6, 4, 1] := ⟨by kernel_rfl, fun x => by kernel_rfl, by decide⟩
theorem case4_3 : Case 4 3 [1, 8, 24, 32, 16] := ⟨by kernel_rfl, fun x => by kernel_rfl, by decide⟩
theorem case4_4 : Case 4 4 [1, 8, 28, 56, 70, 56, 28, 8, 1] := ⟨by kernel_rfl, fun x => by kernel_rfl, by decide⟩
theorem case4_5 : Case 4 5 [1, 8, 32, 80, 136, 160, 128, 64, 16] := ⟨by kernel_rfl, fun x => by kernel_rfl, by decide⟩
theorem case4_6 : Case 4 6 [1, 8, 32, 84, 160, 232, 262, 232, 160, 84, 32, 8, 1] := ⟨by kernel_rfl, fun x => by kernel_rfl, by decide⟩
theorem case4_7 : Case 4 7 [1, 8, 32, 88, 184, 304, 408, 448, 400, 288, 160, 64, 16] := ⟨by kernel_rfl, fun x => by kernel_rfl, by decide⟩
theorem case4_8 : Case 4 8 [1, 8, 32, 88, 188, 328, 480, 600, 646, 600, 480, 328, 188, 88, 32, 8, 1] := ⟨by kernel_rfl, fun x => by kernel_rfl, by decide⟩
theorem case4_9 : Case 4 9 [1, 8, 32, 88, 192, 352, 552, 752, 904, 960, 896, 736, 528, 320, 160, 64, 16] := ⟨by kernel_rfl, fun x => by kernel_rfl, by decide⟩
theorem case4_10 : Case 4 10 [1, 8, 32, 88, 192, 356, 576, 824, 1056, 1224, 1286, 1224, 1056, 824, 576, 356, 192, 88, 32, 8, 1] := ⟨by kernel_rfl, fun x => by kernel_rfl, by decide⟩
theorem case5_2 : Case 5 2 [1, 5, 10, 10, 5, 1] := ⟨by kernel_rfl, fun x => by kernel_rfl, by decide⟩
theorem case5_3 : Case 5 3 [1, 10, 40, 80, 80, 32] := ⟨by kernel_rfl, fun x => by kernel_rfl, by decide⟩
theorem case5_4 : Case 5 4 [1, 10, 45, 120, 210, 252, 210, 120, 45, 10, 1] := ⟨by kernel_rfl, fun x => by kernel_rfl, by decide⟩
theorem case5_5 : Case 5 5 [1, 10, 50, 160, 360, 592, 720, 640, 400, 160, 32] := ⟨by kernel_rfl, fun x => by kernel_rfl, by decide⟩
theorem case5_6 : Case 5 6 [1, 10, 50, 165, 400, 752, 1130, 1380, 1380, 1130, 752, 400, 165, 50, 10, 1] := ⟨by kernel_rfl, fun x => by kernel_rfl, by decide⟩
theorem case5_7 : Case 5 7 [1, 10, 50, 170, 440, 912, 1560, 2240, 2720, 2800, 2432, 1760, 1040, 480, 160, 32] := ⟨by kernel_rfl, fun x => by kernel_rfl, by decide⟩
theorem case5_8 : Case 5 8 [1, 10, 50, 170, 445, 952, 1720, 2680, 3650, 4380, 4652, 4380, 3650, 2680, 1720, 952, 445, 170, 50, 10, 1] := ⟨by kernel_rfl, fun x => by kernel_rfl, by decide⟩
theorem case5_9 : Case 5 9 [1, 10, 50, 170, 450, 992, 1880, 3120, 4600, 6080, 7232, 7760, 7520, 6560, 5120, 3552, 2160, 1120, 480, 160, 32] := ⟨by kernel_rfl, fun x => by kernel_rfl, by decide⟩
theorem case5_10 : Case 5 10 [1, 10, 50, 170, 450, 997, 1920, 3280, 5040, 7040, 9002, 10580, 11460, 11460, 10580, 9002, 7040, 5040, 3280, 1920, 997, 450, 170, 50, 10, 1] := ⟨by kernel_rfl, fun x => by kernel_rfl, by decide⟩
theorem case6_2 : Case 6 2 [1, 6, 15, 20, 15, 6, 1] := ⟨by kernel_rfl, fun x => by kernel_rfl, by decide⟩
theorem case6_3 : Case 6 3 [1, 12, 60, 160, 240, 192, 64] := ⟨by kernel_rfl, fun x => by kernel_rfl, by decide⟩
theorem case6_4 : Case 6 4 [1, 12, 66, 220, 495, 792, 924, 792, 495, 220, 66, 12, 1] := ⟨by kernel_rfl, fun x => by kernel_rfl, by decide⟩
theorem case6_5 : Case 6 5 [1, 12, 72, 280, 780, 1632, 2624, 3264, 3120, 2240, 1152, 384, 64] := ⟨by kernel_rfl, fun x => by kernel_rfl, by decide⟩
theorem case6_6 : Case 6 6 [1, 12, 72, 286, 840, 1932, 3599, 5544, 7152, 7780, 7152, 5544, 3599, 1932, 840, 286, 72, 12, 1] := ⟨by kernel_rfl, fun x => by kernel_rfl, by decide⟩
theorem case6_7 : Case 6 7 [1, 12, 72, 292, 900, 2232, 4604, 8064, 12144, 15840, 17952, 17664, 15024, 10944, 6720, 3392, 1344, 384, 64] := ⟨by kernel_rfl, fun x => by kernel_rfl, by decide⟩
theorem case6_8 : Case 6 8 [1, 12, 72, 292, 906, 2292, 4904, 9084, 14799, 21432, 27792, 32424, 34124, 32424, 27792, 21432, 14799, 9084, 4904, 2292, 906, 292, 72, 12, 1] := ⟨by kernel_rfl, fun x => by kernel_rfl, by decide⟩
theorem case6_9 : Case 6 9 [1, 12, 72, 292, 912, 2352, 5204, 10104, 17484, 27264, 38592, 49824, 58864, 63744, 63264, 57472, 47664, 35904, 24384, 14784, 7872, 3584, 1344, 384, 64] := ⟨by kernel_rfl, fun x => by kernel_rfl, by decide⟩
theorem case6_10 : Case 6 10 [1, 12, 72, 292, 912, 2358, 5264, 10404, 18504, 29964, 44559, 61224, 78064, 92664, 102624, 106164, 102624, 92664, 78064, 61224, 44559, 29964, 18504, 10404, 5264, 2358, 912, 292, 72, 12, 1] := ⟨by kernel_rfl, fun x => by kernel_rfl, by decide⟩
theorem cases (W D : Int) (h : good W D = true) : ∃ R, Case W D R := by
  obtain ⟨a, b, c, d⟩ := good_iff.1 h
  have hW : W = 1 ∨ W = 2 ∨ W = 3 ∨ W = 4 ∨ W = 5 ∨ W = 6 := by omega
  have hD : D = 2 ∨ D = 3 ∨ D = 4 ∨ D = 5 ∨ D = 6 ∨ D = 7 ∨ D = 8 ∨ D = 9 ∨ D = 10 := by omega
  rcases hW with rfl | rfl | rfl | rfl | rfl | rfl <;> rcases hD with rfl | rfl | rfl | rfl | rfl | rfl | rfl | rfl | rfl
  all_goals first
    | exact ⟨_, case1_2⟩
    | exact ⟨_, case1_3⟩
    | exact ⟨_, case1_4⟩
    | exact ⟨_, case1_5⟩
    | exact ⟨_, case1_6⟩
    | exact ⟨_, case1_7⟩
    | exact ⟨_, case1_8⟩
    | exact ⟨_, case1_9⟩
    | exact ⟨_, case1_10⟩
    | exact ⟨_, case2_2⟩
    | exact ⟨_, case2_3⟩
    | exact ⟨_, case2_4⟩
    | exact ⟨_, case2_5⟩
    | exact ⟨_, case2_6⟩
    | exact ⟨_, case2_7⟩
    | exact ⟨_, case2_8⟩
    | exact ⟨_, case2_9⟩
    | exact ⟨_, case2_10⟩
    | exact ⟨_, case3_2⟩
    | exact ⟨_, case3_3⟩
    | exact ⟨_, case3_4⟩
    | exact ⟨_, case3_5⟩
    | exact ⟨_, case3_6⟩
    | exact ⟨_, case3_7⟩
    | exact ⟨_, case3_8⟩
    | exact ⟨_, case3_9⟩
    | exact ⟨_, case3_10⟩
    | exact ⟨_, case4_2⟩
    | exact ⟨_, case4_3⟩
    | exact ⟨_, case4_4⟩
    | exact ⟨_, case4_5⟩
    | exact ⟨_, case4_6⟩
    | exact ⟨_, case4_7⟩
    | exact ⟨_, case4_8⟩
    | exact ⟨_, case4_9⟩
    | exact ⟨_, case4_10⟩
    | exact ⟨_, case5_2⟩
    | exact ⟨_, case5_3⟩
    | exact ⟨_, case5_4⟩
    | exact ⟨_, case5_5⟩
    | exact ⟨_, case5_6⟩
    | exact ⟨_, case5_7⟩
    | exact ⟨_, case5_8⟩
    | exact ⟨_, case5_9⟩
    | exact ⟨_, case5_10⟩
    | exact ⟨_, case6_2⟩
    | exact ⟨_, case6_3⟩
    | exact ⟨_, case6_4⟩
    | exact ⟨_, case6_5⟩
    | exact ⟨_, case6_6⟩
    | exact ⟨_, case6_7⟩
    | exact ⟨_, case6_8⟩
    | exact ⟨_, case6_9⟩
    | exact ⟨_, case6_10⟩
theorem rd_zeros (R : List Int) (n : Nat) (x : Int) (h0 : 0 ≤ x) (h1 : (R.length : Int) ≤ x) : rd (R ++ List.replicate n (0 : Int)) x = 0 := by
  unfold rd
  rw [List.getD_eq_getElem?_getD, List.getElem?_append_right (by omega)]
  rw [List.getElem?_replicate]
  split <;> rfl
theorem rd_front (R S : List Int) (x : Int) (h0 : 0 ≤ x) (h1 : x < (R.length : Int)) : rd (R ++ S) x = rd R x := by
  unfold rd
  rw [List.getD_eq_getElem?_getD, List.getD_eq_getElem?_getD, List.getElem?_append_left (by omega)]
theorem FnExactCountAtDistance (W D x : Int) : ∃ k, laws_FnExactCountAtDistance.f k W D x = some true := by
  refine Ev.rounds (r := true) ?_
  unfold laws_FnExactCountAtDistance.f
  have key : ∃ r, Ev (fun k => spec_CountAtDistance.f k W D x) r ∧ Ev (fun k => impl_CountAtDistance.f k W D x) r := by
    unfold spec_CountAtDistance.f impl_CountAtDistance.f
    rw [whGood_f, IsLock_i, l1In_f, within_f]
    by_cases h : good W D = true
    · by_cases hx : 0 ≤ x ∧ x ≤ 100
      · obtain ⟨R, hs, hi, hl⟩ := cases W D h
        have hi' := hi x
        have hlen : ((R ++ List.replicate (101 - R.length) (0 : Int)).length : Int) = 101 := by simp; omega
        rw [if_pos hx.1, if_pos (by rw [hlen]; omega)] at hi'
        have e1 : Ev (fun k => spec_whRounds.f k W D) R := Ev.of (fun k => spec_whRounds.mono W D k) hs
        have e2 : Ev (fun k => impl_CountAtDistance.j0 k x false W D) (rd (R ++ List.replicate (101 - R.length) (0 : Int)) x, true) := Ev.of (fun k => (impl_CountAtDistance.mono_l k).1 x false W D) hi'
        refine ⟨(rd (R ++ List.replicate (101 - R.length) (0 : Int)) x, true), ?_, ?_⟩
        · refine Ev.bind0 rfl (Ev.pos h (Ev.bind0 rfl ?_))
          rw [decide_eq_true hx]
          refine Ev.succ ?_
          simp only [spec_CountAtDistance.j0]
          refine Ev.neg (by simp) (Ev.bind e1 ?_)
          by_cases hr : x ≥ (R.length : Int)
          · refine Ev.pos hr (Ev.val ?_)
            rw [rd_zeros R _ x hx.1 hr]
          · refine Ev.neg hr (Ev.pos hx.1 (Ev.pos (by omega) (Ev.val ?_)))
            rw [rd_front R _ x hx.1 (by omega)]
        · refine Ev.bind0 rfl (Ev.pos h (Ev.bind0 rfl ?_))
          rw [decide_eq_true hx]
          exact e2
      · refine ⟨(0, false), ?_, ?_⟩
        · refine Ev.bind0 rfl (Ev.pos h (Ev.bind0 rfl ?_))
          rw [decide_eq_false hx]
          refine Ev.succ ?_
          simp only [spec_CountAtDistance.j0]
          exact Ev.pos (by simp) (Ev.now _)
        · refine Ev.bind0 rfl (Ev.pos h (Ev.bind0 rfl ?_))
          rw [decide_eq_false hx]
          refine Ev.succ ?_
          simp only [impl_CountAtDistance.j0]
          exact Ev.pos (by simp) (Ev.now _)
    · refine ⟨(0, false), ?_, ?_⟩
      · refine Ev.bind0 rfl (Ev.neg h (Ev.succ ?_))
        simp only [spec_CountAtDistance.j0]
        exact Ev.pos (by simp) (Ev.now _)
      · refine Ev.bind0 rfl (Ev.neg h (Ev.succ ?_))
        simp only [impl_CountAtDistance.j0]
        exact Ev.pos (by simp) (Ev.now _)
  obtain ⟨r, hs, hi⟩ := key
  refine Ev.bind0 rfl (Ev.bind hs (Ev.bind0 rfl (Ev.bind hi ?_)))
  exact Ev.pos rfl (Ev.neg (by simp) (Ev.now _))
end Go.Proofs.Ytadohjdbkalilaa.Pure
