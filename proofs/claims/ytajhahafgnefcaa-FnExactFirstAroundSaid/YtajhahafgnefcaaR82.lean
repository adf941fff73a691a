import Derived.Test.YtajhahafgnefcaaUp
import Derived.Test.YtajhahafgnefcaaR0
import Derived.Test.YtajhahafgnefcaaR12
import Derived.Test.YtajhahafgnefcaaR36
import Derived.Test.YtajhahafgnefcaaR37
namespace Go.Proofs.Ytajhahafgnefcaa.R
open Go.RowKit Go.Proofs.YtajhahafgnefcaaW.PrintWords Go.Proofs.YtajhahafgnefcaaW.PrintLast Go.Proofs.YtajhahafgnefcaaW.PrintMore
set_option linter.unusedVariables false
set_option linter.unusedSimpArgs false

/-! ### Fb: function 44 -/
mutual
def Fb.l0 : Nat → ByteArray → List Int → List (S59) → ByteArray → Int → Int → Option ((List (S59)) × Bool)
 | 0, _, _, _, _, _, _ => none
 | k + 1, x3, x10, x12, x13, x926000, x926001 => if x13.toList = x3.toList then (some (x12, true)) else (Fb.l1 k x3 x10 x12 x13 false 0 x926000 x926001)
def Fb.l1 : Nat → ByteArray → List Int → List (S59) → ByteArray → Bool → Int → Int → Int → Option ((List (S59)) × Bool)
 | 0, _, _, _, _, _, _, _, _ => none
 | k + 1, x3, x10, x12, x13, x14, x15, x926000, x926001 => if x15 < x926000 then (Fb.j2 k x3 x10 x12 x13 x14 x15 (!x14) x926000 x926001) else (Fb.j2 k x3 x10 x12 x13 x14 x15 false x926000 x926001)
def Fb.j2 : Nat → ByteArray → List Int → List (S59) → ByteArray → Bool → Int → Bool → Int → Int → Option ((List (S59)) × Bool)
 | 0, _, _, _, _, _, _, _, _, _ => none
 | k + 1, x3, x10, x12, x13, x14, x15, x51, x926000, x926001 => if x51 = true then ((some (([1, (-1)] : List Int) : List Int)).bind fun y935 => (Fb.l2 k x3 x10 x12 x13 x14 x15 y935 (y935.length : Int) 0 x926000 x926001)) else (Fb.l0 k x3 x10 x12 x13 x926000 x926001)
def Fb.l2 : Nat → ByteArray → List Int → List (S59) → ByteArray → Bool → Int → List Int → Int → Int → Int → Int → Option ((List (S59)) × Bool)
 | 0, _, _, _, _, _, _, _, _, _, _, _ => none
 | k + 1, x3, x10, x12, x13, x14, x15, x54, x55, x56, x926000, x926001 => if x56 < x55 then (if 0 ≤ x56 then (if x56 < (x54.length : Int) then ((FA.f k x926000 x926001 x13 x15 (rd x54 x56)).bind fun t940 => (if x14 = true then (Fb.l2 k x3 x10 x12 x13 x14 x15 x54 x55 (wrap64 (x56 + 1)) x926000 x926001) else ((Fg.f k x926000 x926001 t940).bind fun t941 => (if 0 ≤ t941 then (if t941 < (x10.length : Int) then ((Fg.f k x926000 x926001 x13).bind fun t943 => (if 0 ≤ t943 then (if t943 < (x10.length : Int) then (if (rd x10 t941) = (wrap64 ((rd x10 t943) - 1)) then (if x12.length < 8796093022208 then (Fb.l2 k x3 x10 (x12 ++ [(⟨x15, rd x54 x56⟩ : S59)]) t940 true x15 x54 x55 (wrap64 (x56 + 1)) x926000 x926001) else (none)) else (Fb.l2 k x3 x10 x12 x13 x14 x15 x54 x55 (wrap64 (x56 + 1)) x926000 x926001)) else (none)) else (none))) else (none)) else (none))))) else (none)) else (none)) else (Fb.l1 k x3 x10 x12 x13 x14 (wrap64 (x15 + 1)) x926000 x926001)
end
def Fb.f (k : Nat) (a0_0 : Int) (a0_1 : Int) (l1 : List ByteArray) (a2 : ByteArray) (a3 : ByteArray) : Option ((List (S59)) × Bool) := (FY.f k a0_0 a0_1 l1 a2 a3).bind fun t926 => (if t926 = true then ((Fc.f k a0_0 a0_1 l1 a3).bind fun bt927 => ((Fg.f k a0_0 a0_1 a2).bind fun t933 => (if 0 ≤ t933 then (if t933 < (bt927.1.length : Int) then (if (rd bt927.1 t933) < 0 then (some (([] : List (S59)), false)) else (Fb.l0 k a3 bt927.1 ([] : List (S59)) a2 a0_0 a0_1)) else (none)) else (none)))) else (some (([] : List (S59)), false)))
theorem Fb.mono_l : ∀ k, (∀ y0 y1 y2 y3 y4 y5, LeO (Fb.l0 k y0 y1 y2 y3 y4 y5) (Fb.l0 (k + 1) y0 y1 y2 y3 y4 y5)) ∧ (∀ y0 y1 y2 y3 y4 y5 y6 y7, LeO (Fb.l1 k y0 y1 y2 y3 y4 y5 y6 y7) (Fb.l1 (k + 1) y0 y1 y2 y3 y4 y5 y6 y7)) ∧ (∀ y0 y1 y2 y3 y4 y5 y6 y7 y8, LeO (Fb.j2 k y0 y1 y2 y3 y4 y5 y6 y7 y8) (Fb.j2 (k + 1) y0 y1 y2 y3 y4 y5 y6 y7 y8)) ∧ (∀ y0 y1 y2 y3 y4 y5 y6 y7 y8 y9 y10, LeO (Fb.l2 k y0 y1 y2 y3 y4 y5 y6 y7 y8 y9 y10) (Fb.l2 (k + 1) y0 y1 y2 y3 y4 y5 y6 y7 y8 y9 y10))
 | 0 => ⟨fun _ _ _ _ _ _ r h => by simp [Fb.l0] at h, fun _ _ _ _ _ _ _ _ r h => by simp [Fb.l1] at h, fun _ _ _ _ _ _ _ _ _ r h => by simp [Fb.j2] at h, fun _ _ _ _ _ _ _ _ _ _ _ r h => by simp [Fb.l2] at h⟩
 | k + 1 => by
  obtain ⟨ih0, ih1, ih2, ih3⟩ := Fb.mono_l k
  refine ⟨?_, ?_, ?_, ?_⟩
  ·intro y0 y1 y2 y3 y4 y5
   unfold Fb.l0
   repeat' (with_reducible first | exact ih0 _ _ _ _ _ _ | exact ih1 _ _ _ _ _ _ _ _ | exact ih2 _ _ _ _ _ _ _ _ _ | exact ih3 _ _ _ _ _ _ _ _ _ _ _ | exact Fc.mono _ _ _ _ _ | exact FY.mono _ _ _ _ _ _ | exact FA.mono _ _ _ _ _ _ | exact Fg.mono _ _ _ _ | exact LeO.refl _ | exact LeO.none _ | refine LeO.ite ?_ ?_ | refine LeO.bind ?_ (fun _ => ?_))
  ·intro y0 y1 y2 y3 y4 y5 y6 y7
   unfold Fb.l1
   repeat' (with_reducible first | exact ih0 _ _ _ _ _ _ | exact ih1 _ _ _ _ _ _ _ _ | exact ih2 _ _ _ _ _ _ _ _ _ | exact ih3 _ _ _ _ _ _ _ _ _ _ _ | exact Fc.mono _ _ _ _ _ | exact FY.mono _ _ _ _ _ _ | exact FA.mono _ _ _ _ _ _ | exact Fg.mono _ _ _ _ | exact LeO.refl _ | exact LeO.none _ | refine LeO.ite ?_ ?_ | refine LeO.bind ?_ (fun _ => ?_))
  ·intro y0 y1 y2 y3 y4 y5 y6 y7 y8
   unfold Fb.j2
   repeat' (with_reducible first | exact ih0 _ _ _ _ _ _ | exact ih1 _ _ _ _ _ _ _ _ | exact ih2 _ _ _ _ _ _ _ _ _ | exact ih3 _ _ _ _ _ _ _ _ _ _ _ | exact Fc.mono _ _ _ _ _ | exact FY.mono _ _ _ _ _ _ | exact FA.mono _ _ _ _ _ _ | exact Fg.mono _ _ _ _ | exact LeO.refl _ | exact LeO.none _ | refine LeO.ite ?_ ?_ | refine LeO.bind ?_ (fun _ => ?_))
  ·intro y0 y1 y2 y3 y4 y5 y6 y7 y8 y9 y10
   unfold Fb.l2
   repeat' (with_reducible first | exact ih0 _ _ _ _ _ _ | exact ih1 _ _ _ _ _ _ _ _ | exact ih2 _ _ _ _ _ _ _ _ _ | exact ih3 _ _ _ _ _ _ _ _ _ _ _ | exact Fc.mono _ _ _ _ _ | exact FY.mono _ _ _ _ _ _ | exact FA.mono _ _ _ _ _ _ | exact Fg.mono _ _ _ _ | exact LeO.refl _ | exact LeO.none _ | refine LeO.ite ?_ ?_ | refine LeO.bind ?_ (fun _ => ?_))
theorem Fb.mono : ∀ a0 a1 a2 a3 a4 k, LeO (Fb.f k a0 a1 a2 a3 a4) (Fb.f (k + 1) a0 a1 a2 a3 a4) := by
 intro a0 a1 a2 a3 a4 k
 obtain ⟨ih0, ih1, ih2, ih3⟩ := Fb.mono_l k
 unfold Fb.f
 repeat' (with_reducible first | exact ih0 _ _ _ _ _ _ | exact ih1 _ _ _ _ _ _ _ _ | exact ih2 _ _ _ _ _ _ _ _ _ | exact ih3 _ _ _ _ _ _ _ _ _ _ _ | exact Fc.mono _ _ _ _ _ | exact FY.mono _ _ _ _ _ _ | exact FA.mono _ _ _ _ _ _ | exact Fg.mono _ _ _ _ | exact LeO.refl _ | exact LeO.none _ | refine LeO.ite ?_ ?_ | refine LeO.bind ?_ (fun _ => ?_))
def Fb.T18 : Bool × List (List Nat × List Nat) := (true, [([], []), ([0], [0]), ([1], [1]), ([2], [2]), ([2], [2]), ([2], [2]), ([4, 5, 2, 2], [2, 4, 5]), ([3, 6, 2], [2, 3, 6]), ([7, 2], [2, 7]), ([2], [2]), ([2], [2]), ([2], [2]), ([10, 11, 6, 2], [2, 10, 11]), ([9, 12, 2], [2, 9, 12]), ([13, 2], [2, 13]), ([14, 2], [2, 14]), ([8, 15, 2], [2, 8, 15]), ([2, 16], [2, 16])])
def Fb.B18 : List Nat := [0, 1, 3, 7, 7, 7, 55, 127, 255, 7, 7, 7, 3191, 7799, 15991, 32375, 65535, 131071]
theorem Fb.tab18 : rtab .any (opsOf Try.f44 18) = Fb.T18 := by kernel_rfl
theorem Fb.bits18 : waitsOk Fb.T18.2 Fb.B18 = true := by kernel_rfl
set_option maxHeartbeats 8000000 in
set_option maxRecDepth 100000 in
theorem Fb.calls (k : Nat) (a0_0 : Int) (a0_1 : Int) (A1 : Option Addr) (c1 : Nat) (l1 : List ByteArray) (a2 : ByteArray) (a3 : ByteArray) (r1 : List (S59)) (r2 : Bool) (w : World) (hr1 : Kd.C Kd.string w A1 l1.length l1) (hc1 : l1.length ≤ c1) (h : Fb.f k a0_0 a0_1 l1 a2 a3 = some (r1, r2)) :
  Calls Try.prog 44 #[.agg #[.int .i64 a0_0, .int .i64 a0_1], .slice A1 l1.length c1, .string a2, .string a3] w fun e w' => ∃ v0_ : Value, e = .returned (.tuple #[v0_, .bool r2]) ∧ Kd.R k59 59 w' w.heap.size (fun _ => True) v0_ r1 ∧ Below w.heap.size w w' := by
 have hu30 := Try.underlying30
 have hu59 := Try.underlying59
 have HR1 := Aside0.mk hr1
 have HC1 := Aside0.mk hc1
 clear hr1 hc1; have HB := Aside0.mk (Below.refl w.heap.size w)
 have H : ((FY.f k a0_0 a0_1 l1 a2 a3).bind fun t926 => (if t926 = true then ((Fc.f k a0_0 a0_1 l1 a3).bind fun bt927 => ((Fg.f k a0_0 a0_1 a2).bind fun t933 => (if 0 ≤ t933 then (if t933 < (bt927.1.length : Int) then (if (rd bt927.1 t933) < 0 then (some (([] : List (S59)), false)) else (Fb.l0 k a3 bt927.1 ([] : List (S59)) a2 a0_0 a0_1)) else (none)) else (none)))) else (some (([] : List (S59)), false)))) = some (r1, r2) := h
 clear h; replace H := Option.bind_eq_some_iff.mp H
 obtain ⟨t926, A50, H⟩ := H
 replace H : (if t926 = true then ((Fc.f k a0_0 a0_1 l1 a3).bind fun bt927 => ((Fg.f k a0_0 a0_1 a2).bind fun t933 => (if 0 ≤ t933 then (if t933 < (bt927.1.length : Int) then (if (rd bt927.1 t933) < 0 then (some (([] : List (S59)), false)) else (Fb.l0 k a3 bt927.1 ([] : List (S59)) a2 a0_0 a0_1)) else (none)) else (none)))) else (some (([] : List (S59)), false))) = some (r1, r2) := H
 have A5 := Aside0.mk A50
 clear A50; by_cases c6 : t926 = true
 ·subst c6
  have H1 : ((Fc.f k a0_0 a0_1 l1 a3).bind fun bt927 => ((Fg.f k a0_0 a0_1 a2).bind fun t933 => (if 0 ≤ t933 then (if t933 < (bt927.1.length : Int) then (if (rd bt927.1 t933) < 0 then (some (([] : List (S59)), false)) else (Fb.l0 k a3 bt927.1 ([] : List (S59)) a2 a0_0 a0_1)) else (none)) else (none)))) = some (r1, r2) := by rw [if_pos rfl] at H; exact H
  clear H; have H := H1
  clear H1; replace H := Option.bind_eq_some_iff.mp H
  obtain ⟨⟨t927, t930⟩, A70, H⟩ := H
  replace H : ((Fg.f k a0_0 a0_1 a2).bind fun t933 => (if 0 ≤ t933 then (if t933 < (t927.length : Int) then (if (rd t927 t933) < 0 then (some (([] : List (S59)), false)) else (Fb.l0 k a3 t927 ([] : List (S59)) a2 a0_0 a0_1)) else (none)) else (none))) = some (r1, r2) := H
  have A7 := Aside0.mk A70
  clear A70; replace H := Option.bind_eq_some_iff.mp H
  obtain ⟨t933, A80, H⟩ := H
  replace H : (if 0 ≤ t933 then (if t933 < (t927.length : Int) then (if (rd t927 t933) < 0 then (some (([] : List (S59)), false)) else (Fb.l0 k a3 t927 ([] : List (S59)) a2 a0_0 a0_1)) else (none)) else (none)) = some (r1, r2) := H
  have A8 := Aside0.mk A80
  clear A80; by_cases c9 : 0 ≤ t933
  ·rw [if_pos c9] at H
   have c9b0 : decide (0 ≤ t933) = true := decide_eq_true c9
   clear c9; by_cases c10 : t933 < (t927.length : Int)
   ·rw [if_pos c10] at H
    have c10b0 : decide (t933 < (t927.length : Int)) = true := decide_eq_true c10
    clear c10; by_cases c11 : (rd t927 t933) < 0
    ·rw [if_pos c11] at H
     have c11b0 : decide ((rd t927 t933) < 0) = true := decide_eq_true c11
     clear c11; simp only [Option.some.injEq, Prod.mk.injEq] at H
     obtain ⟨rfl, rfl⟩ := H
     go_enter Try.func44, Try.ntmps44
     go_wp2_with (first | ((with_reducible refine gate_dst (N := 4) rfl ?_); refine box_event ?hg (N := 4) ?hd (cs := #[.int .i64 a0_0, .int .i64 a0_1]) (t := 30) ?hr ?_; (case hd => rfl); (case hg => rfl); (case hr => first | (go_simp; done) | (go_simp; rfl)); intro gb925 hg w12 hbox hb; have n0_ := Aside0.mk (below_step (upB_ HB.out) hb); have n1_ := Aside0.mk (hbox); have n2_ := Aside0.mk ((by rw [hg]; exact (below_size (upB_ HB.out)) : w.heap.size ≤ gb925)); have n3_ := Aside0.mk ((by rw [hg]; exact (below_size (upB_ HB.out)) : w.heap.size ≤ gb925)); clear HB; have HB := n0_; have BK925 := n1_; have GW925 := n2_; have GE925 := n3_; clear n0_ n1_ n2_ n3_; clear hb hbox hg; have hcz13_0 : w12.cell? ⟨gb925, 0, none⟩ = some (.int .i64 a0_0) := (blk_cell BK925.out 0).trans rfl; have hcz13_1 : w12.cell? ⟨gb925, 1, none⟩ = some (.int .i64 a0_1) := (blk_cell BK925.out 1).trans rfl; have hfz13_0 := blk_frozen BK925.out 0; have hfz13_1 := blk_frozen BK925.out 1) | ((with_reducible refine gate_callee (f := 58) rfl ?_); refine goesL_ (some 24) rfl rfl Try.func58 (by kernel_rfl) rfl #[.agg #[.int .i64 a0_0, .int .i64 a0_1], .slice A1 l1.length c1, .string a2, .string a3] rfl (by (try simp only [List.map_toArray, List.map_cons, List.map_nil]); first | done | rfl | (simp only [List.length_drop, List.length_take]; rfl)) ?_; (with_reducible refine (FY.calls k a0_0 a0_1 _ _ l1 a2 a3 true _ ?side1 ?side2 A5.out).mono ?_); (case side1 => repeat (first | exact (Kd.C_below HR1.out HB.out) | (with_reducible refine Kd.C_alloc ?_ _) | (with_reducible refine Kd.C_drewN ?_ _) | (with_reducible refine Kd.C_drew ?_))); (case side2 => exact HC1.out); rintro e w14 ⟨rfl, hb⟩; refine ⟨_, rfl, ?_⟩; have n0_ := Aside0.mk (blk_below (g := gb925) (o := .cells #[.int .i64 a0_0, .int .i64 a0_1] 30 (0, 0)) (upK_ BK925.out) hb); have n1_ := Aside0.mk (below_step (upB_ HB.out) hb); clear BK925; clear HB; have BK925 := n0_; have HB := n1_; clear n0_ n1_; (try clear hb); (try clear hb2); (try clear hk); (try clear hi); have hcz15_0 : w14.cell? ⟨gb925, 0, none⟩ = some (.int .i64 a0_0) := (blk_cell BK925.out 0).trans rfl; have hcz15_1 : w14.cell? ⟨gb925, 1, none⟩ = some (.int .i64 a0_1) := (blk_cell BK925.out 1).trans rfl; have hfz15_0 := blk_frozen BK925.out 0; have hfz15_1 := blk_frozen BK925.out 1) | ((with_reducible refine gate_callee (f := 70) rfl ?_); refine goesL_ (some 30) rfl rfl Try.func70 (by kernel_rfl) rfl #[.agg #[.int .i64 a0_0, .int .i64 a0_1], .slice A1 l1.length c1, .string a3] rfl (by (try simp only [List.map_toArray, List.map_cons, List.map_nil]); first | done | rfl | (simp only [List.length_drop, List.length_take]; rfl)) ?_; (with_reducible refine (Fc.calls k a0_0 a0_1 _ _ l1 a3 t927 t930 _ ?side1 ?side2 A7.out).mono ?_); (case side1 => repeat (first | exact (Kd.C_below HR1.out HB.out) | (with_reducible refine Kd.C_alloc ?_ _) | (with_reducible refine Kd.C_drewN ?_ _) | (with_reducible refine Kd.C_drew ?_))); (case side2 => exact HC1.out); rintro e w16 ⟨v928, v931, rfl, ho0, ho1, hb⟩; refine ⟨_, rfl, ?_⟩; have n0_ := Aside0.mk (Kd.R_lower ho0 (below_size (upB_ HB.out))); have n1_ := Aside0.mk (Kd.R_lower ho1 (below_size (upB_ HB.out))); have n2_ := Aside0.mk (blk_below (g := gb925) (o := .cells #[.int .i64 a0_0, .int .i64 a0_1] 30 (0, 0)) (upK_ BK925.out) hb); have n3_ := Aside0.mk (below_step (upB_ HB.out) hb); clear BK925; clear HB; have HO929 := n0_; have HO932 := n1_; have BK925 := n2_; have HB := n3_; clear n0_ n1_ n2_ n3_; (try clear hb); (try clear hb2); (try clear hk); (try clear hi); (try clear ho0); (try clear ho1); have hcz17_0 : w16.cell? ⟨gb925, 0, none⟩ = some (.int .i64 a0_0) := (blk_cell BK925.out 0).trans rfl; have hcz17_1 : w16.cell? ⟨gb925, 1, none⟩ = some (.int .i64 a0_1) := (blk_cell BK925.out 1).trans rfl; have hfz17_0 := blk_frozen BK925.out 0; have hfz17_1 := blk_frozen BK925.out 1) | ((with_reducible refine gate_callee (f := 71) rfl ?_); refine goesL_ (some 36) rfl rfl Try.func71 (by kernel_rfl) rfl #[.agg #[.int .i64 a0_0, .int .i64 a0_1], .string a2] rfl (by (try simp only [List.map_toArray, List.map_cons, List.map_nil]); first | done | rfl | (simp only [List.length_drop, List.length_take]; rfl)) ?_; (with_reducible refine (Fg.calls k a0_0 a0_1 a2 t933 _ A8.out).mono ?_); rintro e w18 ⟨rfl, hb⟩; refine ⟨_, rfl, ?_⟩; have n0_ := Aside0.mk (Kd.R_below (upR_ HO929.out) hb); have n1_ := Aside0.mk (Kd.R_below (upR_ HO932.out) hb); have n2_ := Aside0.mk (blk_below (g := gb925) (o := .cells #[.int .i64 a0_0, .int .i64 a0_1] 30 (0, 0)) (upK_ BK925.out) hb); have n3_ := Aside0.mk (below_step (upB_ HB.out) hb); clear HO929; clear HO932; clear BK925; clear HB; have HO929 := n0_; have HO932 := n1_; have BK925 := n2_; have HB := n3_; clear n0_ n1_ n2_ n3_; (try clear hb); (try clear hb2); (try clear hk); (try clear hi); obtain ⟨Ao19, co19, eo19⟩ := Kd.R_slice HO929.out; subst eo19; have p934 : 0 ≤ (t933 : Int) := of_decide_eq_true (by first | (with_reducible assumption) | assumption); have q934 : t933 < (t927.length : Int) := of_decide_eq_true (by first | (with_reducible assumption) | assumption); obtain ⟨ad934, e934, hx934_0⟩ := Kd.at_int (Kd.R_reads' HO929.out).2.2 t933 p934 q934; cases e934; replace p934 := eq_true p934; replace q934 := eq_true q934))
     go_ret2
     exact ⟨_, by first | rfl | (simp [errW_none, errW_some] <;> rfl) | (simp [*, errW_none, errW_some] <;> rfl), by first | exact Kd.R_nil _ _ _ _ _ | exact Kd.N_nil _ _ _ _ _ | exact Kd.V_nil _ _ _ _ _ | exact Kd.Q_nil _ _ _ _ _ | exact Kd.S_nil _ _ _ _ _, by repeat (first | (with_reducible first | exact HB.out | apply below_alloc | apply pw_below_drewN | apply below_drew1 | refine below_set ?_ GE925.out) | exact HB.out)⟩
    ·rw [if_neg c11] at H
     have c11b0 : decide ((rd t927 t933) < 0) = false := decide_eq_false c11
     clear c11; have H' := Aside0.mk H
     clear H; go_enter Try.func44, Try.ntmps44
     go_wp2_with (first | ((with_reducible refine gate_dst (N := 4) rfl ?_); refine box_event ?hg (N := 4) ?hd (cs := #[.int .i64 a0_0, .int .i64 a0_1]) (t := 30) ?hr ?_; (case hd => rfl); (case hg => rfl); (case hr => first | (go_simp; done) | (go_simp; rfl)); intro gb925 hg w20 hbox hb; have n0_ := Aside0.mk (below_step (upB_ HB.out) hb); have n1_ := Aside0.mk (hbox); have n2_ := Aside0.mk ((by rw [hg]; exact (below_size (upB_ HB.out)) : w.heap.size ≤ gb925)); have n3_ := Aside0.mk ((by rw [hg]; exact (below_size (upB_ HB.out)) : w.heap.size ≤ gb925)); clear HB; have HB := n0_; have BK925 := n1_; have GW925 := n2_; have GE925 := n3_; clear n0_ n1_ n2_ n3_; clear hb hbox hg; have hcz21_0 : w20.cell? ⟨gb925, 0, none⟩ = some (.int .i64 a0_0) := (blk_cell BK925.out 0).trans rfl; have hcz21_1 : w20.cell? ⟨gb925, 1, none⟩ = some (.int .i64 a0_1) := (blk_cell BK925.out 1).trans rfl; have hfz21_0 := blk_frozen BK925.out 0; have hfz21_1 := blk_frozen BK925.out 1) | ((with_reducible refine gate_callee (f := 58) rfl ?_); refine goesL_ (some 24) rfl rfl Try.func58 (by kernel_rfl) rfl #[.agg #[.int .i64 a0_0, .int .i64 a0_1], .slice A1 l1.length c1, .string a2, .string a3] rfl (by (try simp only [List.map_toArray, List.map_cons, List.map_nil]); first | done | rfl | (simp only [List.length_drop, List.length_take]; rfl)) ?_; (with_reducible refine (FY.calls k a0_0 a0_1 _ _ l1 a2 a3 true _ ?side1 ?side2 A5.out).mono ?_); (case side1 => repeat (first | exact (Kd.C_below HR1.out HB.out) | (with_reducible refine Kd.C_alloc ?_ _) | (with_reducible refine Kd.C_drewN ?_ _) | (with_reducible refine Kd.C_drew ?_))); (case side2 => exact HC1.out); rintro e w22 ⟨rfl, hb⟩; refine ⟨_, rfl, ?_⟩; have n0_ := Aside0.mk (blk_below (g := gb925) (o := .cells #[.int .i64 a0_0, .int .i64 a0_1] 30 (0, 0)) (upK_ BK925.out) hb); have n1_ := Aside0.mk (below_step (upB_ HB.out) hb); clear BK925; clear HB; have BK925 := n0_; have HB := n1_; clear n0_ n1_; (try clear hb); (try clear hb2); (try clear hk); (try clear hi); have hcz23_0 : w22.cell? ⟨gb925, 0, none⟩ = some (.int .i64 a0_0) := (blk_cell BK925.out 0).trans rfl; have hcz23_1 : w22.cell? ⟨gb925, 1, none⟩ = some (.int .i64 a0_1) := (blk_cell BK925.out 1).trans rfl; have hfz23_0 := blk_frozen BK925.out 0; have hfz23_1 := blk_frozen BK925.out 1) | ((with_reducible refine gate_callee (f := 70) rfl ?_); refine goesL_ (some 30) rfl rfl Try.func70 (by kernel_rfl) rfl #[.agg #[.int .i64 a0_0, .int .i64 a0_1], .slice A1 l1.length c1, .string a3] rfl (by (try simp only [List.map_toArray, List.map_cons, List.map_nil]); first | done | rfl | (simp only [List.length_drop, List.length_take]; rfl)) ?_; (with_reducible refine (Fc.calls k a0_0 a0_1 _ _ l1 a3 t927 t930 _ ?side1 ?side2 A7.out).mono ?_); (case side1 => repeat (first | exact (Kd.C_below HR1.out HB.out) | (with_reducible refine Kd.C_alloc ?_ _) | (with_reducible refine Kd.C_drewN ?_ _) | (with_reducible refine Kd.C_drew ?_))); (case side2 => exact HC1.out); rintro e w24 ⟨v928, v931, rfl, ho0, ho1, hb⟩; refine ⟨_, rfl, ?_⟩; have n0_ := Aside0.mk (Kd.R_lower ho0 (below_size (upB_ HB.out))); have n1_ := Aside0.mk (Kd.R_lower ho1 (below_size (upB_ HB.out))); have n2_ := Aside0.mk (blk_below (g := gb925) (o := .cells #[.int .i64 a0_0, .int .i64 a0_1] 30 (0, 0)) (upK_ BK925.out) hb); have n3_ := Aside0.mk (below_step (upB_ HB.out) hb); clear BK925; clear HB; have HO929 := n0_; have HO932 := n1_; have BK925 := n2_; have HB := n3_; clear n0_ n1_ n2_ n3_; (try clear hb); (try clear hb2); (try clear hk); (try clear hi); (try clear ho0); (try clear ho1); have hcz25_0 : w24.cell? ⟨gb925, 0, none⟩ = some (.int .i64 a0_0) := (blk_cell BK925.out 0).trans rfl; have hcz25_1 : w24.cell? ⟨gb925, 1, none⟩ = some (.int .i64 a0_1) := (blk_cell BK925.out 1).trans rfl; have hfz25_0 := blk_frozen BK925.out 0; have hfz25_1 := blk_frozen BK925.out 1) | ((with_reducible refine gate_callee (f := 71) rfl ?_); refine goesL_ (some 36) rfl rfl Try.func71 (by kernel_rfl) rfl #[.agg #[.int .i64 a0_0, .int .i64 a0_1], .string a2] rfl (by (try simp only [List.map_toArray, List.map_cons, List.map_nil]); first | done | rfl | (simp only [List.length_drop, List.length_take]; rfl)) ?_; (with_reducible refine (Fg.calls k a0_0 a0_1 a2 t933 _ A8.out).mono ?_); rintro e w26 ⟨rfl, hb⟩; refine ⟨_, rfl, ?_⟩; have n0_ := Aside0.mk (Kd.R_below (upR_ HO929.out) hb); have n1_ := Aside0.mk (Kd.R_below (upR_ HO932.out) hb); have n2_ := Aside0.mk (blk_below (g := gb925) (o := .cells #[.int .i64 a0_0, .int .i64 a0_1] 30 (0, 0)) (upK_ BK925.out) hb); have n3_ := Aside0.mk (below_step (upB_ HB.out) hb); clear HO929; clear HO932; clear BK925; clear HB; have HO929 := n0_; have HO932 := n1_; have BK925 := n2_; have HB := n3_; clear n0_ n1_ n2_ n3_; (try clear hb); (try clear hb2); (try clear hk); (try clear hi); obtain ⟨Ao27, co27, eo27⟩ := Kd.R_slice HO929.out; subst eo27; have p934 : 0 ≤ (t933 : Int) := of_decide_eq_true (by first | (with_reducible assumption) | assumption); have q934 : t933 < (t927.length : Int) := of_decide_eq_true (by first | (with_reducible assumption) | assumption); obtain ⟨ad934, e934, hx934_0⟩ := Kd.at_int (Kd.R_reads' HO929.out).2.2 t933 p934 q934; cases e934; replace p934 := eq_true p934; replace q934 := eq_true q934))
     go_loopg [12, 13] k (fun kq v12 v13 w' => ∃ (x12_1 : List (S59)) (x13_1 : ByteArray), v13 = .string x13_1 ∧ Aside0 (Fb.l0 kq a3 t927 x12_1 x13_1 a0_0 a0_1 = some (r1, r2)) ∧ Aside0 (kq ≤ k) ∧ Aside0 (Kd.R (Kd.int .i64) 3 w' w.heap.size (fun _ => True) (.slice (some ad934) t927.length co27) t927) ∧ Aside0 (Kd.R k59 59 w' w.heap.size (fun _ => True) v12 x12_1) ∧ Aside0 (w'.heap[gb925]? = some (.cells #[.int .i64 a0_0, .int .i64 a0_1] 30 (0, 0))) ∧ Aside0 (Below w.heap.size w w'))
     case atStart => exact ⟨(([] : List (S59))), (a2), (by first | rfl | (simp; done) | (simp [*]; done)), H', ⟨Nat.le_refl _⟩, ⟨by (with_reducible repeat (first | apply Kd.R_alloc | apply Kd.R_drewN | apply Kd.R_drew)); exact Kd.R_mono HO929.out (fun _ hk => trivial)⟩, ⟨by first | exact Kd.R_nil _ _ _ _ _ | exact Kd.N_nil _ _ _ _ _ | exact Kd.V_nil _ _ _ _ _ | exact Kd.Q_nil _ _ _ _ _ | exact Kd.S_nil _ _ _ _ _⟩, ⟨upK_ BK925.out⟩, ⟨upB_ HB.out⟩⟩
     case round =>
      clear H'; try clear c1
      try clear p2
      try clear c4
      try clear c5
      try clear c6
      try clear c7
      try clear c9
      try clear c9b0
      try clear p9
      try clear q9
      try clear hx9
      try clear c10
      try clear c10b0
      try clear c11
      try clear c11b0
      try clear hcz13_0
      try clear hcz13_1
      try clear hcz15_0
      try clear hcz15_1
      try clear hcz17_0
      try clear hcz17_1
      try clear hcz21_0
      try clear hcz21_1
      try clear hcz23_0
      try clear hcz23_1
      try clear hcz25_0
      try clear hcz25_1
      try clear hfz13_0
      try clear hfz13_1
      try clear hfz15_0
      try clear hfz15_1
      try clear hfz17_0
      try clear hfz17_1
      try clear hfz21_0
      try clear hfz21_1
      try clear hfz23_0
      try clear hfz23_1
      try clear hfz25_0
      try clear hfz25_1
      try clear hx934_0
      try clear p934
      try clear q934
      obtain ⟨x12_1, x13_1, rfl, HA, HK1, HO_10, HO_12, BK925, HB⟩ := hrel
      cases gk with
      | zero => exact absurd HA.out (by simp [Fb.l0])
      | succ k1 =>
       have H := HA.out
       clear HA; simp only [Fb.l0] at H
       by_cases c28 : x13_1.toList = a3.toList
       ·rw [if_pos c28] at H
        have c28b0 : (x13_1.toList == a3.toList) = true := beq_iff_eq.mpr c28
        have c28b1 : (x13_1.toList != a3.toList) = false := bne_eq_false_iff_eq.mpr c28
        clear c28; simp only [Option.some.injEq, Prod.mk.injEq] at H
        obtain ⟨rfl, rfl⟩ := H
        go_wp2
        go_ret2
        exact ⟨_, by first | rfl | (simp [errW_none, errW_some] <;> rfl) | (simp [*, errW_none, errW_some] <;> rfl), by (with_reducible repeat (first | apply Kd.R_alloc | apply Kd.R_drewN | apply Kd.R_drew)); exact HO_12.out, by repeat (first | (with_reducible first | exact HB.out | apply below_alloc | apply pw_below_drewN | apply below_drew1 | refine below_set ?_ GE925.out) | exact HB.out)⟩
       ·rw [if_neg c28] at H
        have c28b0 : (x13_1.toList == a3.toList) = false := beq_eq_false_iff_ne.mpr c28
        have c28b1 : (x13_1.toList != a3.toList) = true := bne_iff_ne.mpr c28
        have H' := Aside0.mk H
        clear H; go_wp2
        go_loopg [12, 13, 14, 15] k1 (fun kq v12 v13 v14 v15 w' => ∃ (x12_2 : List (S59)) (x13_2 : ByteArray) (x14_2 : Bool) (x15_2 : Int), v13 = .string x13_2 ∧ v14 = .bool x14_2 ∧ v15 = .int .i64 x15_2 ∧ Aside0 (Fb.l1 kq a3 t927 x12_2 x13_2 x14_2 x15_2 a0_0 a0_1 = some (r1, r2)) ∧ Aside0 (kq ≤ k1) ∧ Aside0 (Kd.R (Kd.int .i64) 3 w' w.heap.size (fun _ => True) (.slice (some ad934) t927.length co27) t927) ∧ Aside0 (Kd.R k59 59 w' w.heap.size (fun _ => True) v12 x12_2) ∧ Aside0 (w'.heap[gb925]? = some (.cells #[.int .i64 a0_0, .int .i64 a0_1] 30 (0, 0))) ∧ Aside0 (Below w.heap.size w w'))
        case atStart => exact ⟨(x12_1), (x13_1), (false), (0), (by first | rfl | (simp; done) | (simp [*]; done)), (by first | rfl | (simp; done) | (simp [*]; done)), (by first | rfl | (simp; done) | (simp [*]; done)), H', ⟨Nat.le_refl _⟩, ⟨upR_ HO_10.out⟩, ⟨upR_ HO_12.out⟩, ⟨upK_ BK925.out⟩, ⟨upB_ HB.out⟩⟩
        case round =>
         clear H'; try clear c1
         try clear c2
         try clear p2
         try clear c4
         try clear c5
         try clear c6
         try clear c7
         try clear c9
         try clear c9b0
         try clear p9
         try clear q9
         try clear hx9
         try clear c10
         try clear c10b0
         try clear c11
         try clear c11b0
         try clear c28
         try clear c28b0
         try clear c28b1
         try clear hcz13_0
         try clear hcz13_1
         try clear hcz15_0
         try clear hcz15_1
         try clear hcz17_0
         try clear hcz17_1
         try clear hcz21_0
         try clear hcz21_1
         try clear hcz23_0
         try clear hcz23_1
         try clear hcz25_0
         try clear hcz25_1
         try clear hfz13_0
         try clear hfz13_1
         try clear hfz15_0
         try clear hfz15_1
         try clear hfz17_0
         try clear hfz17_1
         try clear hfz21_0
         try clear hfz21_1
         try clear hfz23_0
         try clear hfz23_1
         try clear hfz25_0
         try clear hfz25_1
         try clear hx934_0
         try clear p2
         try clear p9
         try clear p934
         try clear q9
         try clear q934
         obtain ⟨x12_2, x13_2, x14_2, x15_2, rfl, rfl, rfl, HA, HK2, HO_10, HO_12, BK925, HB⟩ := hrel
         cases gk with
         | zero => exact absurd HA.out (by simp [Fb.l1])
         | succ k2 =>
          have H := HA.out
          clear HA; simp only [Fb.l1] at H
          have HC29 := Aside0.mk H
          clear H; go_upto_region 11 with (fail)
          go_cut [51] (fun v51 wc => ∃ (kq : Nat) (x51_28 : Bool), v51 = .bool x51_28 ∧ Aside0 (Fb.j2 kq a3 t927 x12_2 x13_2 x14_2 x15_2 x51_28 a0_0 a0_1 = some (r1, r2)) ∧ Aside0 (kq ≤ k2) ∧ Aside0 (Kd.R (Kd.int .i64) 3 wc w.heap.size (fun _ => True) (.slice (some ad934) t927.length co27) t927) ∧ Aside0 (Kd.R k59 59 wc w.heap.size (fun _ => True) u12 x12_2) ∧ Aside0 (wc.heap[gb925]? = some (.cells #[.int .i64 a0_0, .int .i64 a0_1] 30 (0, 0))) ∧ Aside0 (Below w.heap.size w wc))
          case first =>
           have H := HC29.out
           clear HC29; by_cases c30 : x15_2 < a0_0
           ·rw [if_pos c30] at H
            have c30b0 : decide (x15_2 < a0_0) = true := decide_eq_true c30
            clear c30; (first | rw [c30b0] | (simp only [i64_w, i32_w]; rw [c30b0]) | skip)
            have H' := Aside0.mk H
            clear H; have hcz31_0 : wr.cell? ⟨gb925, 0, none⟩ = some (.int .i64 a0_0) := (blk_cell BK925.out 0).trans rfl
            have hcz31_1 : wr.cell? ⟨gb925, 1, none⟩ = some (.int .i64 a0_1) := (blk_cell BK925.out 1).trans rfl
            have hfz31_0 := blk_frozen BK925.out 0
            have hfz31_1 := blk_frozen BK925.out 1
            go_wp2
            go_meet
            case rel => exact ⟨_, (!x14_2), (by first | rfl | (simp; done) | (simp [*]; done)), H', ⟨by have := HK1.out; have := HK2.out; first | omega | exact Nat.le_refl _⟩, ⟨upR_ HO_10.out⟩, ⟨upR_ HO_12.out⟩, ⟨upK_ BK925.out⟩, ⟨upB_ HB.out⟩⟩
           ·rw [if_neg c30] at H
            have c30b0 : decide (x15_2 < a0_0) = false := decide_eq_false c30
            clear c30; (first | rw [c30b0] | (simp only [i64_w, i32_w]; rw [c30b0]) | skip)
            have H' := Aside0.mk H
            clear H; have hcz32_0 : wr.cell? ⟨gb925, 0, none⟩ = some (.int .i64 a0_0) := (blk_cell BK925.out 0).trans rfl
            have hcz32_1 : wr.cell? ⟨gb925, 1, none⟩ = some (.int .i64 a0_1) := (blk_cell BK925.out 1).trans rfl
            have hfz32_0 := blk_frozen BK925.out 0
            have hfz32_1 := blk_frozen BK925.out 1
            go_wp2
            go_meet
            case rel => exact ⟨_, (false), (by first | rfl | (simp; done) | (simp [*]; done)), H', ⟨by have := HK1.out; have := HK2.out; first | omega | exact Nat.le_refl _⟩, ⟨upR_ HO_10.out⟩, ⟨upR_ HO_12.out⟩, ⟨upK_ BK925.out⟩, ⟨upB_ HB.out⟩⟩
          case rest =>
           clear HC29; try clear c1
           try clear c2
           try clear p2
           try clear c3
           try clear c4
           try clear c5
           try clear c6
           try clear c7
           try clear c9
           try clear c9b0
           try clear p9
           try clear q9
           try clear hx9
           try clear c10
           try clear c10b0
           try clear c11
           try clear c11b0
           try clear c28
           try clear c28b0
           try clear c28b1
           try clear c30
           try clear c30b0
           try clear hcz13_0
           try clear hcz13_1
           try clear hcz15_0
           try clear hcz15_1
           try clear hcz17_0
           try clear hcz17_1
           try clear hcz21_0
           try clear hcz21_1
           try clear hcz23_0
           try clear hcz23_1
           try clear hcz25_0
           try clear hcz25_1
           try clear hcz31_0
           try clear hcz31_1
           try clear hcz32_0
           try clear hcz32_1
           try clear hfz13_0
           try clear hfz13_1
           try clear hfz15_0
           try clear hfz15_1
           try clear hfz17_0
           try clear hfz17_1
           try clear hfz21_0
           try clear hfz21_1
           try clear hfz23_0
           try clear hfz23_1
           try clear hfz25_0
           try clear hfz25_1
           try clear hfz31_0
           try clear hfz31_1
           try clear hfz32_0
           try clear hfz32_1
           try clear hx934_0
           try clear p2
           try clear p9
           try clear p934
           try clear q9
           try clear q934
           obtain ⟨kq, x51_28, rfl, HA, HJ28, HO_10, HO_12, BK925, HB⟩ := hcut
           cases kq with
           | zero => exact absurd HA.out (by simp [Fb.j2])
           | succ kj28 =>
            have H := HA.out
            clear HA; simp only [Fb.j2] at H
            by_cases c33 : x51_28 = true
            ·subst c33
             have H1 : ((some (([1, (-1)] : List Int) : List Int)).bind fun y935 => (Fb.l2 kj28 a3 t927 x12_2 x13_2 x14_2 x15_2 y935 (y935.length : Int) 0 a0_0 a0_1)) = some (r1, r2) := by rw [if_pos rfl] at H; exact H
             clear H; have H := H1
             clear H1; obtain ⟨y935, hy935⟩ : ∃ y_ : List Int, y_ = (([1, (-1)] : List Int)) := ⟨_, rfl⟩
             replace H : (Fb.l2 kj28 a3 t927 x12_2 x13_2 x14_2 x15_2 y935 (y935.length : Int) 0 a0_0 a0_1) = some (r1, r2) := by first | (rw [hy935]; with_reducible exact H) | (have H2_ := (Option.bind_some _ _).symm.trans H; rw [hy935]; with_reducible exact H2_) | (have H2_ := (Option.bind_some _ _).symm.trans H; with_reducible exact H2_) | with_reducible exact H | (rw [hy935]; exact H) | exact H
             have Ny935 := Aside0.mk hy935
             clear hy935; have H' := Aside0.mk H
             clear H; go_wp2_with (first | ((with_reducible refine gate_dst (N := 54) rfl ?_); refine Kd.R_lit (Kd.int .i64) _ 3 ?hg (N := 54) ?hd (xs := ([1, (-1)] : List Int)) (inner := [.int .i64 1, .int .i64 (-1)]) (ok := fun _ => True) (okp := fun _ => True) ?hr ?hp (fun _ hk => hk) trivial (Below.refl _ _) (Nat.le_refl _) (by simp) ?_; (case hd => rfl); (case hg => rfl); (case hr => first | (go_simp; done) | (go_simp; rfl)); (case hp => exact (Reps.one (show Kd.M (Kd.int .i64) _ _ _ 1 [.int .i64 1] from rfl) (Reps.one (show Kd.M (Kd.int .i64) _ _ _ (-1) [.int .i64 (-1)] from rfl) (Reps.none _ _)))); intro v936 w34 ho35 hb hg_ hnew_; clear hg_ hnew_; (first | rw [← Ny935.out] at ho35 | (simp only [Int.reduceToNat] at ho35; rw [← Ny935.out] at ho35)); have n0_ := Aside0.mk (Kd.R_elder' (upR_ HO_10.out) (Kd.R_base ho35) hb); have n1_ := Aside0.mk (Kd.R_below (upR_ HO_12.out) hb); have n2_ := Aside0.mk (Kd.R_lower (Kd.R_new' ho35 (Kd.R_lt (upR_ HO_10.out))) (below_size (upB_ HB.out))); have n3_ := Aside0.mk (blk_below (g := gb925) (o := .cells #[.int .i64 a0_0, .int .i64 a0_1] 30 (0, 0)) (upK_ BK925.out) hb); have n4_ := Aside0.mk (below_step (upB_ HB.out) hb); clear HO_10; clear HO_12; clear BK925; clear HB; have HO_10 := n0_; have HO_12 := n1_; have HO937 := n2_; have BK925 := n3_; have HB := n4_; clear n0_ n1_ n2_ n3_ n4_; clear hb ho35; obtain ⟨Ao36, co36, eo36⟩ := Kd.R_slice HO937.out; subst eo36))
             go_loopg [12, 13, 14, 56] kj28 (fun kq v12 v13 v14 v56 w' => ∃ (x12_4 : List (S59)) (x13_4 : ByteArray) (x14_4 : Bool) (x56_4 : Int), v13 = .string x13_4 ∧ v14 = .bool x14_4 ∧ v56 = .int .i64 x56_4 ∧ Aside0 (Fb.l2 kq a3 t927 x12_4 x13_4 x14_4 x15_2 y935 (y935.length : Int) x56_4 a0_0 a0_1 = some (r1, r2)) ∧ Aside0 (kq ≤ kj28) ∧ Aside0 (Kd.R (Kd.int .i64) 3 w' w.heap.size (fun k_ => some k_ ≠ ((.slice Ao36 y935.length co36) : Value).ownBlock) (.slice (some ad934) t927.length co27) t927) ∧ Aside0 (Kd.R k59 59 w' w.heap.size (fun _ => True) v12 x12_4) ∧ Aside0 (Kd.R (Kd.int .i64) 3 w' w.heap.size (fun k_ => some k_ ≠ ((.slice (some ad934) t927.length co27) : Value).ownBlock) (.slice Ao36 y935.length co36) y935) ∧ Aside0 (w'.heap[gb925]? = some (.cells #[.int .i64 a0_0, .int .i64 a0_1] 30 (0, 0))) ∧ Aside0 (Below w.heap.size w w'))
             case atStart => exact ⟨(x12_2), (x13_2), (x14_2), (0), (by first | rfl | (simp; done) | (simp [*]; done)), (by first | rfl | (simp; done) | (simp [*]; done)), (by first | rfl | (simp; done) | (simp [*]; done)), H', ⟨Nat.le_refl _⟩, ⟨by (with_reducible repeat (first | apply Kd.R_alloc | apply Kd.R_drewN | apply Kd.R_drew)); exact Kd.R_mono HO_10.out (fun _ hk => hk.2)⟩, ⟨by (with_reducible repeat (first | apply Kd.R_alloc | apply Kd.R_drewN | apply Kd.R_drew)); exact HO_12.out⟩, ⟨by (with_reducible repeat (first | apply Kd.R_alloc | apply Kd.R_drewN | apply Kd.R_drew)); exact Kd.R_mono HO937.out (fun _ hk => hk.2)⟩, ⟨by (with_reducible repeat (first | refine blk_drewN ?_ _ | refine blk_drew ?_ | refine blk_alloc ?_ _)); exact BK925.out⟩, ⟨by repeat (first | (with_reducible first | exact HB.out | apply below_alloc | apply pw_below_drewN | apply below_drew1 | refine below_set ?_ GE925.out) | exact HB.out)⟩⟩
             case round =>
              clear H'; try clear c1
              try clear c2
              try clear p2
              try clear c3
              try clear c4
              try clear c5
              try clear c6
              try clear c7
              try clear c9
              try clear c9b0
              try clear p9
              try clear q9
              try clear hx9
              try clear c10
              try clear c10b0
              try clear c11
              try clear c11b0
              try clear c28
              try clear c28b0
              try clear c28b1
              try clear c30
              try clear c30b0
              try clear c33
              try clear hcz13_0
              try clear hcz13_1
              try clear hcz15_0
              try clear hcz15_1
              try clear hcz17_0
              try clear hcz17_1
              try clear hcz21_0
              try clear hcz21_1
              try clear hcz23_0
              try clear hcz23_1
              try clear hcz25_0
              try clear hcz25_1
              try clear hcz31_0
              try clear hcz31_1
              try clear hcz32_0
              try clear hcz32_1
              try clear hfz13_0
              try clear hfz13_1
              try clear hfz15_0
              try clear hfz15_1
              try clear hfz17_0
              try clear hfz17_1
              try clear hfz21_0
              try clear hfz21_1
              try clear hfz23_0
              try clear hfz23_1
              try clear hfz25_0
              try clear hfz25_1
              try clear hfz31_0
              try clear hfz31_1
              try clear hfz32_0
              try clear hfz32_1
              try clear hx934_0
              try clear p2
              try clear p9
              try clear p934
              try clear q9
              try clear q934
              obtain ⟨x12_4, x13_4, x14_4, x56_4, rfl, rfl, rfl, HA, HK4, HO_10, HO_12, HO_54, BK925, HB⟩ := hrel
              cases gk with
              | zero => exact absurd HA.out (by simp [Fb.l2])
              | succ k4 =>
               have H := HA.out
               clear HA; simp only [Fb.l2] at H
               by_cases c37 : x56_4 < (y935.length : Int)
               ·rw [if_pos c37] at H
                have c37b0 : decide (x56_4 < (y935.length : Int)) = true := decide_eq_true c37
                clear c37; by_cases c38 : 0 ≤ x56_4
                ·rw [if_pos c38] at H
                 have c38b0 : decide (0 ≤ x56_4) = true := decide_eq_true c38
                 clear c38; by_cases c39 : x56_4 < (y935.length : Int)
                 ·rw [if_pos c39] at H
                  have c39b0 : decide (x56_4 < (y935.length : Int)) = true := decide_eq_true c39
                  clear c39; replace H := Option.bind_eq_some_iff.mp H
                  obtain ⟨t940, A400, H⟩ := H
                  replace H : (if x14_4 = true then (Fb.l2 k4 a3 t927 x12_4 x13_4 x14_4 x15_2 y935 (y935.length : Int) (wrap64 (x56_4 + 1)) a0_0 a0_1) else ((Fg.f k4 a0_0 a0_1 t940).bind fun t941 => (if 0 ≤ t941 then (if t941 < (t927.length : Int) then ((Fg.f k4 a0_0 a0_1 x13_4).bind fun t943 => (if 0 ≤ t943 then (if t943 < (t927.length : Int) then (if (rd t927 t941) = (wrap64 ((rd t927 t943) - 1)) then (if x12_4.length < 8796093022208 then (Fb.l2 k4 a3 t927 (x12_4 ++ [(⟨x15_2, rd y935 x56_4⟩ : S59)]) t940 true x15_2 y935 (y935.length : Int) (wrap64 (x56_4 + 1)) a0_0 a0_1) else (none)) else (Fb.l2 k4 a3 t927 x12_4 x13_4 x14_4 x15_2 y935 (y935.length : Int) (wrap64 (x56_4 + 1)) a0_0 a0_1)) else (none)) else (none))) else (none)) else (none)))) = some (r1, r2) := H
                  have A40 := Aside0.mk A400
                  clear A400; by_cases c41 : x14_4 = true
                  ·subst c41
                   have H1 : (Fb.l2 k4 a3 t927 x12_4 x13_4 true x15_2 y935 (y935.length : Int) (wrap64 (x56_4 + 1)) a0_0 a0_1) = some (r1, r2) := by rw [if_pos rfl] at H; exact H
                   clear H; have H := H1
                   clear H1; have H' := Aside0.mk H
                   clear H; have p938 : 0 ≤ (x56_4 : Int) := of_decide_eq_true (by first | (with_reducible assumption) | assumption)
                   have q938 : x56_4 < (y935.length : Int) := of_decide_eq_true (by first | (with_reducible assumption) | assumption)
                   obtain ⟨ad938, e938, hx938_0⟩ := Kd.at_int (Kd.R_reads' HO_54.out).2.2 x56_4 p938 q938
                   cases e938
                   replace p938 := eq_true p938
                   replace q938 := eq_true q938
                   try go_wp2_with (first | ((with_reducible refine gate_dst (N := 18) rfl ?_); refine box_event ?hg (N := 18) ?hd (cs := #[.int .i64 0, .int .i64 0]) (t := 59) ?hr ?_; (case hd => rfl); (case hg => rfl); (case hr => first | (go_simp; done) | (go_simp; rfl)); intro gb939 hg w42 hbox hb; have n0_ := Aside0.mk (Kd.R_below (by (with_reducible repeat (first | apply Kd.R_alloc | apply Kd.R_drewN | apply Kd.R_drew)); exact HO_10.out) hb); have n1_ := Aside0.mk (Kd.R_below (Kd.R_elderB (by (with_reducible repeat (first | apply Kd.R_alloc | apply Kd.R_drewN | apply Kd.R_drew)); exact HO_12.out) gb939 (Nat.le_of_eq hg.symm)) hb); have n2_ := Aside0.mk (Kd.R_below (by (with_reducible repeat (first | apply Kd.R_alloc | apply Kd.R_drewN | apply Kd.R_drew)); exact HO_54.out) hb); have n3_ := Aside0.mk (blk_below (g := gb925) (o := .cells #[.int .i64 a0_0, .int .i64 a0_1] 30 (0, 0)) (by (with_reducible repeat (first | refine blk_drewN ?_ _ | refine blk_drew ?_ | refine blk_alloc ?_ _)); exact BK925.out) hb); have n4_ := Aside0.mk (below_step (by repeat (first | (with_reducible first | exact HB.out | apply below_alloc | apply pw_below_drewN | apply below_drew1 | refine below_set ?_ GE925.out) | exact HB.out)) hb); have n5_ := Aside0.mk (hbox); have n6_ := Aside0.mk ((by rw [hg]; exact (below_size (by repeat (first | (with_reducible first | exact HB.out | apply below_alloc | apply pw_below_drewN | apply below_drew1 | refine below_set ?_ GE925.out) | exact HB.out))) : w.heap.size ≤ gb939)); have n7_ := Aside0.mk ((by rw [hg]; exact (below_size (by repeat (first | (with_reducible first | exact HB.out | apply below_alloc | apply pw_below_drewN | apply below_drew1 | refine below_set ?_ GE925.out) | exact HB.out))) : w.heap.size ≤ gb939)); have n8_ := Aside0.mk ((by rw [hg]; exact Nat.ne_of_lt (blk_lt (g := gb925) (o := .cells #[.int .i64 a0_0, .int .i64 a0_1] 30 (0, 0)) (by (with_reducible repeat (first | refine blk_drewN ?_ _ | refine blk_drew ?_ | refine blk_alloc ?_ _)); exact BK925.out)) : gb925 ≠ gb939)); have n9_ := Aside0.mk ((by rw [hg]; exact Nat.ne_of_gt (blk_lt (g := gb925) (o := .cells #[.int .i64 a0_0, .int .i64 a0_1] 30 (0, 0)) (by (with_reducible repeat (first | refine blk_drewN ?_ _ | refine blk_drew ?_ | refine blk_alloc ?_ _)); exact BK925.out)) : gb939 ≠ gb925)); clear HO_10; clear HO_12; clear HO_54; clear BK925; clear HB; have HO_10 := n0_; have HO_12 := n1_; have HO_54 := n2_; have BK925 := n3_; have HB := n4_; have BK939 := n5_; have GW939 := n6_; have GE939 := n7_; have NB925_939 := n8_; have NB939_925 := n9_; clear n0_ n1_ n2_ n3_ n4_ n5_ n6_ n7_ n8_ n9_; clear hb hbox hg; have hnb43 := NB939_925.out; have hnc43 := NB925_939.out; have hcz44_0 : w42.cell? ⟨gb939, 0, none⟩ = some (.int .i64 0) := (blk_cell BK939.out 0).trans rfl; have hcz44_1 : w42.cell? ⟨gb939, 1, none⟩ = some (.int .i64 0) := (blk_cell BK939.out 1).trans rfl; have hfz44_0 := blk_frozen BK939.out 0; have hfz44_1 := blk_frozen BK939.out 1; have hcz45_0 : w42.cell? ⟨gb925, 0, none⟩ = some (.int .i64 a0_0) := (blk_cell BK925.out 0).trans rfl; have hcz45_1 : w42.cell? ⟨gb925, 1, none⟩ = some (.int .i64 a0_1) := (blk_cell BK925.out 1).trans rfl; have hfz45_0 := blk_frozen BK925.out 0; have hfz45_1 := blk_frozen BK925.out 1) | ((with_reducible refine gate_callee (f := 83) rfl ?_); refine goesL_ (some 66) rfl rfl Try.func83 (by kernel_rfl) rfl #[.agg #[.int .i64 a0_0, .int .i64 a0_1], .string x13_4, .agg #[.int .i64 x15_2, .int .i64 (rd y935 x56_4)]] rfl (by (try simp only [List.map_toArray, List.map_cons, List.map_nil]); first | done | rfl | (simp only [List.length_drop, List.length_take]; rfl)) ?_; (with_reducible refine (FA.calls k4 a0_0 a0_1 x13_4 x15_2 (rd y935 x56_4) t940 _ A40.out).mono ?_); rintro e w46 ⟨rfl, hb⟩; refine ⟨_, rfl, ?_⟩; have n0_ := Aside0.mk (Kd.R_below (by (with_reducible repeat (first | apply Kd.R_alloc | apply Kd.R_drewN | apply Kd.R_drew)); exact (Kd.R_mono (Kd.R_far (p := ⟨gb939, 1, none⟩) (Kd.R_far (p := ⟨gb939, 0, none⟩) (Kd.R_types HO_10.out BK939.out (by decide)) (fun _ hk => hk.2) (.int .i64 x15_2)) (fun _ hk => hk.2) (.int .i64 (rd y935 x56_4))) (fun _ h_ => h_.1))) hb); have n1_ := Aside0.mk (Kd.R_below (by (with_reducible repeat (first | apply Kd.R_alloc | apply Kd.R_drewN | apply Kd.R_drew)); exact (Kd.R_mono (Kd.R_far (p := ⟨gb939, 1, none⟩) (Kd.R_far (p := ⟨gb939, 0, none⟩) (Kd.R_mono HO_12.out (fun k_ hk => (⟨hk, hk.2⟩ : _ ∧ k_ ≠ gb939))) (fun _ hk => hk.2) (.int .i64 x15_2)) (fun _ hk => hk.2) (.int .i64 (rd y935 x56_4))) (fun _ h_ => h_.1))) hb); have n2_ := Aside0.mk (Kd.R_below (by (with_reducible repeat (first | apply Kd.R_alloc | apply Kd.R_drewN | apply Kd.R_drew)); exact (Kd.R_mono (Kd.R_far (p := ⟨gb939, 1, none⟩) (Kd.R_far (p := ⟨gb939, 0, none⟩) (Kd.R_types HO_54.out BK939.out (by decide)) (fun _ hk => hk.2) (.int .i64 x15_2)) (fun _ hk => hk.2) (.int .i64 (rd y935 x56_4))) (fun _ h_ => h_.1))) hb); have n3_ := Aside0.mk (blk_below (g := gb925) (o := .cells #[.int .i64 a0_0, .int .i64 a0_1] 30 (0, 0)) (by (with_reducible repeat (first | refine blk_drewN ?_ _ | refine blk_drew ?_ | refine blk_alloc ?_ _)); refine blk_far ?_ NB925_939.out _; (with_reducible repeat (first | refine blk_drewN ?_ _ | refine blk_drew ?_ | refine blk_alloc ?_ _)); refine blk_far ?_ NB925_939.out _; (with_reducible repeat (first | refine blk_drewN ?_ _ | refine blk_drew ?_ | refine blk_alloc ?_ _)); exact BK925.out) hb); have n4_ := Aside0.mk (blk_below (g := gb939) (o := .cells #[.int .i64 x15_2, .int .i64 (rd y935 x56_4)] 59 (0, 0)) (by (with_reducible repeat (first | refine blk_drewN ?_ _ | refine blk_drew ?_ | refine blk_alloc ?_ _)); refine blk_put (cs := #[.int .i64 x15_2, .int .i64 0]) ?_ 1 _ rfl; (with_reducible repeat (first | refine blk_drewN ?_ _ | refine blk_drew ?_ | refine blk_alloc ?_ _)); refine blk_put (cs := #[.int .i64 0, .int .i64 0]) ?_ 0 _ rfl; (with_reducible repeat (first | refine blk_drewN ?_ _ | refine blk_drew ?_ | refine blk_alloc ?_ _)); exact BK939.out) hb); have n5_ := Aside0.mk (below_step (by repeat (first | (with_reducible first | exact HB.out | apply below_alloc | apply pw_below_drewN | apply below_drew1 | refine below_set ?_ GE925.out | refine below_set ?_ GE939.out) | exact HB.out)) hb); clear HO_10; clear HO_12; clear HO_54; clear BK925; clear BK939; clear HB; have HO_10 := n0_; have HO_12 := n1_; have HO_54 := n2_; have BK925 := n3_; have BK939 := n4_; have HB := n5_; clear n0_ n1_ n2_ n3_ n4_ n5_; (try clear hb); (try clear hb2); (try clear hk); (try clear hi)))
                   have n0_ := Aside0.mk (Kd.R_drew HO_10.out)
                   have n1_ := Aside0.mk (Kd.R_drew HO_12.out)
                   have n2_ := Aside0.mk (Kd.R_drew HO_54.out)
                   have n3_ := Aside0.mk (blk_drew BK925.out)
                   have n4_ := Aside0.mk (blk_drew BK939.out)
                   have n5_ := Aside0.mk (below_drew1 HB.out)
                   clear HO_10; clear HO_12; clear HO_54; clear BK925; clear BK939; clear HB; have HO_10 := n0_; have HO_12 := n1_; have HO_54 := n2_; have BK925 := n3_; have BK939 := n4_; have HB := n5_; clear n0_ n1_ n2_ n3_ n4_ n5_; refine start_ (n := 18) (S := fun w' => True) (ds := []) #[false, false, false, false, false, false, false, false, false, false, false, false, false, false, false, false, false, false] (by kernel_rfl) rfl rfl trivial (fun hHeld => ?_); refine with_tabW Fb.tab18 Fb.bits18 (fun HT_ HW_ => ?_)
                   generalize w46.drew = w47 at HO_10 HO_12 HO_54 BK925 BK939 HB hHeld ⊢
                   refine pure_ (i := 0) (N := some 67) (v := ?_) (a' := ?_) #[true, false, false, false, false, false, false, false, false, false, false, false, false, false, false, false, false, false] rfl rfl (any_of HT_.out (by kernel_rfl)) (fun _ _ _ h => h) (Or.inl ⟨by rfl, ?_⟩) ?_ ?_
                   rotate_left; intro w'; go_simp; with_reducible rfl
                   rotate_left; simp only [pu_]; rfl
                   refine pure_ (i := 1) (N := some 68) (v := ?_) (a' := ?_) #[true, true, false, false, false, false, false, false, false, false, false, false, false, false, false, false, false, false] rfl rfl (any_of HT_.out (by kernel_rfl)) (fun _ _ _ h => h) (Or.inl ⟨by rfl, ?_⟩) ?_ ?_
                   rotate_left; intro w'; go_simp; with_reducible rfl
                   rotate_left; simp only [pu_]; rfl
                   refine pure_ (i := 2) (N := some 69) (v := ?_) (a' := ?_) #[true, true, true, false, false, false, false, false, false, false, false, false, false, false, false, false, false, false] rfl rfl (any_of HT_.out (by kernel_rfl)) (fun _ _ _ h => h) (Or.inl ⟨by rfl, ?_⟩) ?_ ?_
                   rotate_left; intro w'; go_simp; with_reducible rfl
                   rotate_left; simp only [pu_]; rfl
                   refine pure_ (i := 3) (N := some 70) (v := undef) (a' := ?_) #[true, true, true, true, false, false, false, false, false, false, false, false, false, false, false, false, false, false] rfl rfl (any_of HT_.out (by kernel_rfl)) (fun _ _ _ h => h) (Or.inr ⟨by rfl, rfl⟩) ?_ ?_
                   rotate_left; simp only [pu_]; rfl
                   refine pure_ (i := 4) (N := some 71) (v := undef) (a' := ?_) #[true, true, true, true, true, false, false, false, false, false, false, false, false, false, false, false, false, false] rfl rfl (any_of HT_.out (by kernel_rfl)) (fun _ _ _ h => h) (Or.inr ⟨by rfl, rfl⟩) ?_ ?_
                   rotate_left; simp only [pu_]; rfl
                   refine pure_ (i := 5) (N := some 72) (v := undef) (a' := ?_) #[true, true, true, true, true, true, false, false, false, false, false, false, false, false, false, false, false, false] rfl rfl (any_of HT_.out (by kernel_rfl)) (fun _ _ _ h => h) (Or.inr ⟨by rfl, rfl⟩) ?_ ?_
                   rotate_left; simp only [pu_]; rfl
                   refine pure_ (i := 6) (N := some 73) (v := undef) (a' := ?_) #[true, true, true, true, true, true, true, false, false, false, false, false, false, false, false, false, false, false] rfl rfl (any_of HT_.out (by kernel_rfl)) (fun _ _ _ h => h) (Or.inr ⟨by rfl, rfl⟩) ?_ ?_
                   rotate_left; simp only [pu_]; rfl
                   refine pure_ (i := 7) (N := some 74) (v := undef) (a' := ?_) #[true, true, true, true, true, true, true, true, false, false, false, false, false, false, false, false, false, false] rfl rfl (any_of HT_.out (by kernel_rfl)) (fun _ _ _ h => h) (Or.inr ⟨by rfl, rfl⟩) ?_ ?_
                   rotate_left; simp only [pu_]; rfl
                   refine pure_ (i := 8) (N := some 75) (v := undef) (a' := ?_) #[true, true, true, true, true, true, true, true, true, false, false, false, false, false, false, false, false, false] rfl rfl (any_of HT_.out (by kernel_rfl)) (fun _ _ _ h => h) (Or.inr ⟨by rfl, rfl⟩) ?_ ?_
                   rotate_left; simp only [pu_]; rfl
                   refine pure_ (i := 9) (N := some 76) (v := undef) (a' := ?_) #[true, true, true, true, true, true, true, true, true, true, false, false, false, false, false, false, false, false] rfl rfl (any_of HT_.out (by kernel_rfl)) (fun _ _ _ h => h) (Or.inr ⟨by rfl, rfl⟩) ?_ ?_
                   rotate_left; simp only [pu_]; rfl
                   refine pure_ (i := 10) (N := some 77) (v := undef) (a' := ?_) #[true, true, true, true, true, true, true, true, true, true, true, false, false, false, false, false, false, false] rfl rfl (any_of HT_.out (by kernel_rfl)) (fun _ _ _ h => h) (Or.inr ⟨by rfl, rfl⟩) ?_ ?_
                   rotate_left; simp only [pu_]; rfl
                   refine pure_ (i := 11) (N := some 78) (v := undef) (a' := ?_) #[true, true, true, true, true, true, true, true, true, true, true, true, false, false, false, false, false, false] rfl rfl (any_of HT_.out (by kernel_rfl)) (fun _ _ _ h => h) (Or.inr ⟨by rfl, rfl⟩) ?_ ?_
                   rotate_left; simp only [pu_]; rfl
                   refine pure_ (i := 12) (N := some 79) (v := undef) (a' := ?_) #[true, true, true, true, true, true, true, true, true, true, true, true, true, false, false, false, false, false] rfl rfl (any_of HT_.out (by kernel_rfl)) (fun _ _ _ h => h) (Or.inr ⟨by rfl, rfl⟩) ?_ ?_
                   rotate_left; simp only [pu_]; rfl
                   refine pure_ (i := 13) (N := some 80) (v := undef) (a' := ?_) #[true, true, true, true, true, true, true, true, true, true, true, true, true, true, false, false, false, false] rfl rfl (any_of HT_.out (by kernel_rfl)) (fun _ _ _ h => h) (Or.inr ⟨by rfl, rfl⟩) ?_ ?_
                   rotate_left; simp only [pu_]; rfl
                   refine pure_ (i := 14) (N := some 81) (v := undef) (a' := ?_) #[true, true, true, true, true, true, true, true, true, true, true, true, true, true, true, false, false, false] rfl rfl (any_of HT_.out (by kernel_rfl)) (fun _ _ _ h => h) (Or.inr ⟨by rfl, rfl⟩) ?_ ?_
                   rotate_left; simp only [pu_]; rfl
                   refine pure_ (i := 15) (N := some 82) (v := undef) (a' := ?_) #[true, true, true, true, true, true, true, true, true, true, true, true, true, true, true, true, false, false] rfl rfl (any_of HT_.out (by kernel_rfl)) (fun _ _ _ h => h) (Or.inr ⟨by rfl, rfl⟩) ?_ ?_
                   rotate_left; simp only [pu_]; rfl
                   refine pure_ (i := 16) (N := some 83) (v := undef) (a' := ?_) #[true, true, true, true, true, true, true, true, true, true, true, true, true, true, true, true, true, false] rfl rfl (any_of HT_.out (by kernel_rfl)) (fun _ _ _ h => h) (Or.inr ⟨by rfl, rfl⟩) ?_ ?_
                   rotate_left; simp only [pu_]; rfl
                   refine pure_ (i := 17) (N := some 84) (v := ?_) (a' := ?_) #[true, true, true, true, true, true, true, true, true, true, true, true, true, true, true, true, true, true] rfl rfl (any_of HT_.out (by kernel_rfl)) (fun _ _ _ h => h) (Or.inl ⟨by rfl, ?_⟩) ?_ ?_
                   rotate_left; intro w'; go_simp; with_reducible rfl
                   rotate_left; simp only [pu_]; rfl
                   refine done_ (done_of HT_.out (by kernel_rfl)) ?_
                   try go_wp2
                   go_roundg k4
                   case measure => have := HK1.out; have := HK2.out; have := HJ28.out; have := HK4.out; omega
                   case rel => exact ⟨(x12_4), (x13_4), (true), (wrap64 (x56_4 + 1)), (by first | rfl | (simp; done) | (simp [*]; done)), (by first | rfl | (simp; done) | (simp [*]; done)), (by first | rfl | (simp; done) | (simp [*]; done)), H', ⟨by have := HK1.out; have := HK2.out; have := HJ28.out; have := HK4.out; omega⟩, ⟨by (with_reducible repeat (first | apply Kd.R_alloc | apply Kd.R_drewN | apply Kd.R_drew)); exact HO_10.out⟩, ⟨by (with_reducible repeat (first | apply Kd.R_alloc | apply Kd.R_drewN | apply Kd.R_drew)); exact Kd.R_mono HO_12.out (fun _ hk => trivial)⟩, ⟨by (with_reducible repeat (first | apply Kd.R_alloc | apply Kd.R_drewN | apply Kd.R_drew)); exact HO_54.out⟩, ⟨by (with_reducible repeat (first | refine blk_drewN ?_ _ | refine blk_drew ?_ | refine blk_alloc ?_ _)); exact BK925.out⟩, ⟨by repeat (first | (with_reducible first | exact HB.out | apply below_alloc | apply pw_below_drewN | apply below_drew1 | refine below_set ?_ GE925.out | refine below_set ?_ GE939.out) | exact HB.out)⟩⟩
                  ·replace c41 := Bool.eq_false_iff.mpr c41
                   subst c41
                   have H1 : ((Fg.f k4 a0_0 a0_1 t940).bind fun t941 => (if 0 ≤ t941 then (if t941 < (t927.length : Int) then ((Fg.f k4 a0_0 a0_1 x13_4).bind fun t943 => (if 0 ≤ t943 then (if t943 < (t927.length : Int) then (if (rd t927 t941) = (wrap64 ((rd t927 t943) - 1)) then (if x12_4.length < 8796093022208 then (Fb.l2 k4 a3 t927 (x12_4 ++ [(⟨x15_2, rd y935 x56_4⟩ : S59)]) t940 true x15_2 y935 (y935.length : Int) (wrap64 (x56_4 + 1)) a0_0 a0_1) else (none)) else (Fb.l2 k4 a3 t927 x12_4 x13_4 false x15_2 y935 (y935.length : Int) (wrap64 (x56_4 + 1)) a0_0 a0_1)) else (none)) else (none))) else (none)) else (none))) = some (r1, r2) := by rw [if_neg (show ¬ (false = true) by decide)] at H; exact H
                   clear H; have H := H1
                   clear H1; replace H := Option.bind_eq_some_iff.mp H
                   obtain ⟨t941, A480, H⟩ := H
                   replace H : (if 0 ≤ t941 then (if t941 < (t927.length : Int) then ((Fg.f k4 a0_0 a0_1 x13_4).bind fun t943 => (if 0 ≤ t943 then (if t943 < (t927.length : Int) then (if (rd t927 t941) = (wrap64 ((rd t927 t943) - 1)) then (if x12_4.length < 8796093022208 then (Fb.l2 k4 a3 t927 (x12_4 ++ [(⟨x15_2, rd y935 x56_4⟩ : S59)]) t940 true x15_2 y935 (y935.length : Int) (wrap64 (x56_4 + 1)) a0_0 a0_1) else (none)) else (Fb.l2 k4 a3 t927 x12_4 x13_4 false x15_2 y935 (y935.length : Int) (wrap64 (x56_4 + 1)) a0_0 a0_1)) else (none)) else (none))) else (none)) else (none)) = some (r1, r2) := H
                   have A48 := Aside0.mk A480
                   clear A480; by_cases c49 : 0 ≤ t941
                   ·rw [if_pos c49] at H
                    have c49b0 : decide (0 ≤ t941) = true := decide_eq_true c49
                    clear c49; by_cases c50 : t941 < (t927.length : Int)
                    ·rw [if_pos c50] at H
                     have c50b0 : decide (t941 < (t927.length : Int)) = true := decide_eq_true c50
                     clear c50; replace H := Option.bind_eq_some_iff.mp H
                     obtain ⟨t943, A510, H⟩ := H
                     replace H : (if 0 ≤ t943 then (if t943 < (t927.length : Int) then (if (rd t927 t941) = (wrap64 ((rd t927 t943) - 1)) then (if x12_4.length < 8796093022208 then (Fb.l2 k4 a3 t927 (x12_4 ++ [(⟨x15_2, rd y935 x56_4⟩ : S59)]) t940 true x15_2 y935 (y935.length : Int) (wrap64 (x56_4 + 1)) a0_0 a0_1) else (none)) else (Fb.l2 k4 a3 t927 x12_4 x13_4 false x15_2 y935 (y935.length : Int) (wrap64 (x56_4 + 1)) a0_0 a0_1)) else (none)) else (none)) = some (r1, r2) := H
                     have A51 := Aside0.mk A510
                     clear A510; by_cases c52 : 0 ≤ t943
                     ·rw [if_pos c52] at H
                      have c52b0 : decide (0 ≤ t943) = true := decide_eq_true c52
                      clear c52; by_cases c53 : t943 < (t927.length : Int)
                      ·rw [if_pos c53] at H
                       have c53b0 : decide (t943 < (t927.length : Int)) = true := decide_eq_true c53
                       clear c53; by_cases c54 : (rd t927 t941) = (wrap64 ((rd t927 t943) - 1))
                       ·rw [if_pos c54] at H
                        have c54b0 : ((rd t927 t941) == (wrap64 ((rd t927 t943) - 1))) = true := beq_iff_eq.mpr c54
                        (try (have c54b0v : ((rd t927 t941) == (IntKind.i64.wrap ((rd t927 t943) - 1))) = true := by first | exact c54b0 | simpa only [i64_w] using c54b0))
                        have c54b1 : ((rd t927 t941) != (wrap64 ((rd t927 t943) - 1))) = false := bne_eq_false_iff_eq.mpr c54
                        (try (have c54b1v : ((rd t927 t941) != (IntKind.i64.wrap ((rd t927 t943) - 1))) = false := by first | exact c54b1 | simpa only [i64_w] using c54b1))
                        clear c54; by_cases c55 : x12_4.length < 8796093022208
                        ·rw [if_pos c55] at H
                         have LMc55 := Aside0.mk c55
                         clear c55; obtain ⟨y945, hy945⟩ : ∃ y_ : List (S59), y_ = (x12_4 ++ [(⟨x15_2, rd y935 x56_4⟩ : S59)]) := ⟨_, rfl⟩
                         replace H : (Fb.l2 k4 a3 t927 y945 t940 true x15_2 y935 (y935.length : Int) (wrap64 (x56_4 + 1)) a0_0 a0_1) = some (r1, r2) := by first | (rw [hy945]; with_reducible exact H) | (have H2_ := (Option.bind_some _ _).symm.trans H; rw [hy945]; with_reducible exact H2_) | (have H2_ := (Option.bind_some _ _).symm.trans H; with_reducible exact H2_) | with_reducible exact H | (rw [hy945]; exact H) | exact H
                         have Ny945 := Aside0.mk hy945
                         clear hy945; have H' := Aside0.mk H
                         clear H; have p938 : 0 ≤ (x56_4 : Int) := of_decide_eq_true (by first | (with_reducible assumption) | assumption)
                         have q938 : x56_4 < (y935.length : Int) := of_decide_eq_true (by first | (with_reducible assumption) | assumption)
                         obtain ⟨ad938, e938, hx938_0⟩ := Kd.at_int (Kd.R_reads' HO_54.out).2.2 x56_4 p938 q938
                         cases e938
                         replace p938 := eq_true p938
                         replace q938 := eq_true q938
                         try go_wp2_with (first | ((with_reducible refine gate_dst (N := 18) rfl ?_); refine box_event ?hg (N := 18) ?hd (cs := #[.int .i64 0, .int .i64 0]) (t := 59) ?hr ?_; (case hd => rfl); (case hg => rfl); (case hr => first | (go_simp; done) | (go_simp; rfl)); intro gb939 hg w56 hbox hb; have n0_ := Aside0.mk (Kd.R_below (by (with_reducible repeat (first | apply Kd.R_alloc | apply Kd.R_drewN | apply Kd.R_drew)); exact HO_10.out) hb); have n1_ := Aside0.mk (Kd.R_below (Kd.R_elderB (by (with_reducible repeat (first | apply Kd.R_alloc | apply Kd.R_drewN | apply Kd.R_drew)); exact HO_12.out) gb939 (Nat.le_of_eq hg.symm)) hb); have n2_ := Aside0.mk (Kd.R_below (by (with_reducible repeat (first | apply Kd.R_alloc | apply Kd.R_drewN | apply Kd.R_drew)); exact HO_54.out) hb); have n3_ := Aside0.mk (blk_below (g := gb925) (o := .cells #[.int .i64 a0_0, .int .i64 a0_1] 30 (0, 0)) (by (with_reducible repeat (first | refine blk_drewN ?_ _ | refine blk_drew ?_ | refine blk_alloc ?_ _)); exact BK925.out) hb); have n4_ := Aside0.mk (below_step (by repeat (first | (with_reducible first | exact HB.out | apply below_alloc | apply pw_below_drewN | apply below_drew1 | refine below_set ?_ GE925.out) | exact HB.out)) hb); have n5_ := Aside0.mk (hbox); have n6_ := Aside0.mk ((by rw [hg]; exact (below_size (by repeat (first | (with_reducible first | exact HB.out | apply below_alloc | apply pw_below_drewN | apply below_drew1 | refine below_set ?_ GE925.out) | exact HB.out))) : w.heap.size ≤ gb939)); have n7_ := Aside0.mk ((by rw [hg]; exact (below_size (by repeat (first | (with_reducible first | exact HB.out | apply below_alloc | apply pw_below_drewN | apply below_drew1 | refine below_set ?_ GE925.out) | exact HB.out))) : w.heap.size ≤ gb939)); have n8_ := Aside0.mk ((by rw [hg]; exact Nat.ne_of_lt (blk_lt (g := gb925) (o := .cells #[.int .i64 a0_0, .int .i64 a0_1] 30 (0, 0)) (by (with_reducible repeat (first | refine blk_drewN ?_ _ | refine blk_drew ?_ | refine blk_alloc ?_ _)); exact BK925.out)) : gb925 ≠ gb939)); have n9_ := Aside0.mk ((by rw [hg]; exact Nat.ne_of_gt (blk_lt (g := gb925) (o := .cells #[.int .i64 a0_0, .int .i64 a0_1] 30 (0, 0)) (by (with_reducible repeat (first | refine blk_drewN ?_ _ | refine blk_drew ?_ | refine blk_alloc ?_ _)); exact BK925.out)) : gb939 ≠ gb925)); clear HO_10; clear HO_12; clear HO_54; clear BK925; clear HB; have HO_10 := n0_; have HO_12 := n1_; have HO_54 := n2_; have BK925 := n3_; have HB := n4_; have BK939 := n5_; have GW939 := n6_; have GE939 := n7_; have NB925_939 := n8_; have NB939_925 := n9_; clear n0_ n1_ n2_ n3_ n4_ n5_ n6_ n7_ n8_ n9_; clear hb hbox hg; have hnb57 := NB939_925.out; have hnc57 := NB925_939.out; have hcz58_0 : w56.cell? ⟨gb939, 0, none⟩ = some (.int .i64 0) := (blk_cell BK939.out 0).trans rfl; have hcz58_1 : w56.cell? ⟨gb939, 1, none⟩ = some (.int .i64 0) := (blk_cell BK939.out 1).trans rfl; have hfz58_0 := blk_frozen BK939.out 0; have hfz58_1 := blk_frozen BK939.out 1; have hcz59_0 : w56.cell? ⟨gb925, 0, none⟩ = some (.int .i64 a0_0) := (blk_cell BK925.out 0).trans rfl; have hcz59_1 : w56.cell? ⟨gb925, 1, none⟩ = some (.int .i64 a0_1) := (blk_cell BK925.out 1).trans rfl; have hfz59_0 := blk_frozen BK925.out 0; have hfz59_1 := blk_frozen BK925.out 1) | ((with_reducible refine gate_callee (f := 83) rfl ?_); refine goesL_ (some 66) rfl rfl Try.func83 (by kernel_rfl) rfl #[.agg #[.int .i64 a0_0, .int .i64 a0_1], .string x13_4, .agg #[.int .i64 x15_2, .int .i64 (rd y935 x56_4)]] rfl (by (try simp only [List.map_toArray, List.map_cons, List.map_nil]); first | done | rfl | (simp only [List.length_drop, List.length_take]; rfl)) ?_; (with_reducible refine (FA.calls k4 a0_0 a0_1 x13_4 x15_2 (rd y935 x56_4) t940 _ A40.out).mono ?_); rintro e w60 ⟨rfl, hb⟩; refine ⟨_, rfl, ?_⟩; have n0_ := Aside0.mk (Kd.R_below (by (with_reducible repeat (first | apply Kd.R_alloc | apply Kd.R_drewN | apply Kd.R_drew)); exact (Kd.R_mono (Kd.R_far (p := ⟨gb939, 1, none⟩) (Kd.R_far (p := ⟨gb939, 0, none⟩) (Kd.R_types HO_10.out BK939.out (by decide)) (fun _ hk => hk.2) (.int .i64 x15_2)) (fun _ hk => hk.2) (.int .i64 (rd y935 x56_4))) (fun _ h_ => h_.1))) hb); have n1_ := Aside0.mk (Kd.R_below (by (with_reducible repeat (first | apply Kd.R_alloc | apply Kd.R_drewN | apply Kd.R_drew)); exact (Kd.R_mono (Kd.R_far (p := ⟨gb939, 1, none⟩) (Kd.R_far (p := ⟨gb939, 0, none⟩) (Kd.R_mono HO_12.out (fun k_ hk => (⟨hk, hk.2⟩ : _ ∧ k_ ≠ gb939))) (fun _ hk => hk.2) (.int .i64 x15_2)) (fun _ hk => hk.2) (.int .i64 (rd y935 x56_4))) (fun _ h_ => h_.1))) hb); have n2_ := Aside0.mk (Kd.R_below (by (with_reducible repeat (first | apply Kd.R_alloc | apply Kd.R_drewN | apply Kd.R_drew)); exact (Kd.R_mono (Kd.R_far (p := ⟨gb939, 1, none⟩) (Kd.R_far (p := ⟨gb939, 0, none⟩) (Kd.R_types HO_54.out BK939.out (by decide)) (fun _ hk => hk.2) (.int .i64 x15_2)) (fun _ hk => hk.2) (.int .i64 (rd y935 x56_4))) (fun _ h_ => h_.1))) hb); have n3_ := Aside0.mk (blk_below (g := gb925) (o := .cells #[.int .i64 a0_0, .int .i64 a0_1] 30 (0, 0)) (by (with_reducible repeat (first | refine blk_drewN ?_ _ | refine blk_drew ?_ | refine blk_alloc ?_ _)); refine blk_far ?_ NB925_939.out _; (with_reducible repeat (first | refine blk_drewN ?_ _ | refine blk_drew ?_ | refine blk_alloc ?_ _)); refine blk_far ?_ NB925_939.out _; (with_reducible repeat (first | refine blk_drewN ?_ _ | refine blk_drew ?_ | refine blk_alloc ?_ _)); exact BK925.out) hb); have n4_ := Aside0.mk (blk_below (g := gb939) (o := .cells #[.int .i64 x15_2, .int .i64 (rd y935 x56_4)] 59 (0, 0)) (by (with_reducible repeat (first | refine blk_drewN ?_ _ | refine blk_drew ?_ | refine blk_alloc ?_ _)); refine blk_put (cs := #[.int .i64 x15_2, .int .i64 0]) ?_ 1 _ rfl; (with_reducible repeat (first | refine blk_drewN ?_ _ | refine blk_drew ?_ | refine blk_alloc ?_ _)); refine blk_put (cs := #[.int .i64 0, .int .i64 0]) ?_ 0 _ rfl; (with_reducible repeat (first | refine blk_drewN ?_ _ | refine blk_drew ?_ | refine blk_alloc ?_ _)); exact BK939.out) hb); have n5_ := Aside0.mk (below_step (by repeat (first | (with_reducible first | exact HB.out | apply below_alloc | apply pw_below_drewN | apply below_drew1 | refine below_set ?_ GE925.out | refine below_set ?_ GE939.out) | exact HB.out)) hb); clear HO_10; clear HO_12; clear HO_54; clear BK925; clear BK939; clear HB; have HO_10 := n0_; have HO_12 := n1_; have HO_54 := n2_; have BK925 := n3_; have BK939 := n4_; have HB := n5_; clear n0_ n1_ n2_ n3_ n4_ n5_; (try clear hb); (try clear hb2); (try clear hk); (try clear hi)))
                         have n0_ := Aside0.mk (Kd.R_drew HO_10.out)
                         have n1_ := Aside0.mk (Kd.R_drew HO_12.out)
                         have n2_ := Aside0.mk (Kd.R_drew HO_54.out)
                         have n3_ := Aside0.mk (blk_drew BK925.out)
                         have n4_ := Aside0.mk (blk_drew BK939.out)
                         have n5_ := Aside0.mk (below_drew1 HB.out)
                         clear HO_10; clear HO_12; clear HO_54; clear BK925; clear BK939; clear HB; have HO_10 := n0_; have HO_12 := n1_; have HO_54 := n2_; have BK925 := n3_; have BK939 := n4_; have HB := n5_; clear n0_ n1_ n2_ n3_ n4_ n5_; have p942 : 0 ≤ (t941 : Int) := of_decide_eq_true (by first | (with_reducible assumption) | assumption)
                         have q942 : t941 < (t927.length : Int) := of_decide_eq_true (by first | (with_reducible assumption) | assumption)
                         obtain ⟨ad942, e942, hx942_0⟩ := Kd.at_int (Kd.R_reads' HO_10.out).2.2 t941 p942 q942
                         obtain rfl : ad934 = ad942 := (by injection e942)
                         replace p942 := eq_true p942
                         replace q942 := eq_true q942
                         have p944 : 0 ≤ (t943 : Int) := of_decide_eq_true (by first | (with_reducible assumption) | assumption)
                         have q944 : t943 < (t927.length : Int) := of_decide_eq_true (by first | (with_reducible assumption) | assumption)
                         obtain ⟨ad944, e944, hx944_0⟩ := Kd.at_int (Kd.R_reads' HO_10.out).2.2 t943 p944 q944
                         obtain rfl : ad934 = ad944 := (by injection e944)
                         replace p944 := eq_true p944
                         replace q944 := eq_true q944
                         refine start_ (n := 18) (S := fun w' => w'.cell? ⟨gb925, 0, none⟩ = some (.int .i64 a0_0) ∧ w'.cell? ⟨gb925, 1, none⟩ = some (.int .i64 a0_1) ∧ w'.cell? (ad934.add (t941).toNat) = some (.int .i64 (rd t927 t941)) ∧ w'.cell? (ad934.add (t943).toNat) = some (.int .i64 (rd t927 t943))) (ds := []) #[false, false, false, false, false, false, false, false, false, false, false, false, false, false, false, false, false, false] (by kernel_rfl) rfl rfl ⟨(blk_cell BK925.out 0).trans rfl, (blk_cell BK925.out 1).trans rfl, hx942_0, hx944_0⟩ (fun hHeld => ?_); refine with_tabW Fb.tab18 Fb.bits18 (fun HT_ HW_ => ?_)
                         generalize w60.drew = w61 at HO_10 HO_12 HO_54 BK925 BK939 HB hx942_0 hx944_0 hHeld ⊢
                         refine pure_ (i := 0) (N := some 67) (v := ?_) (a' := ?_) #[true, false, false, false, false, false, false, false, false, false, false, false, false, false, false, false, false, false] rfl rfl (any_of HT_.out (by kernel_rfl)) (fun _ _ _ h => h) (Or.inl ⟨by rfl, ?_⟩) ?_ ?_
                         rotate_left; intro w'; go_simp; with_reducible rfl
                         rotate_left; simp only [pu_]; rfl
                         refine pure_ (i := 1) (N := some 68) (v := ?_) (a' := ?_) #[true, true, false, false, false, false, false, false, false, false, false, false, false, false, false, false, false, false] rfl rfl (any_of HT_.out (by kernel_rfl)) (fun _ _ _ h => h) (Or.inl ⟨by rfl, ?_⟩) ?_ ?_
                         rotate_left; intro w'; go_simp; with_reducible rfl
                         rotate_left; simp only [pu_]; rfl
                         refine pure_ (i := 2) (N := some 69) (v := ?_) (a' := ?_) #[true, true, true, false, false, false, false, false, false, false, false, false, false, false, false, false, false, false] rfl rfl (any_of HT_.out (by kernel_rfl)) (fun _ _ _ h => h) (Or.inl ⟨by rfl, ?_⟩) ?_ ?_
                         rotate_left; intro w'; go_simp; with_reducible rfl
                         rotate_left; simp only [pu_]; rfl
                         refine pure_ (i := 3) (N := some 70) (v := ?_) (a' := ?_) #[true, true, true, true, false, false, false, false, false, false, false, false, false, false, false, false, false, false] rfl rfl (any_of HT_.out (by kernel_rfl)) (fun _ _ _ h => h) (Or.inl ⟨by rfl, ?_⟩) ?_ ?_
                         rotate_left; intro w'; go_simp; with_reducible rfl
                         rotate_left; simp only [pu_]; rfl
                         refine pure_ (i := 5) (N := some 72) (v := ?_) (a' := ?_) #[true, true, true, true, false, true, false, false, false, false, false, false, false, false, false, false, false, false] rfl rfl (any_of HT_.out (by kernel_rfl)) (fun _ _ _ h => h) (Or.inl ⟨by rfl, ?_⟩) ?_ ?_
                         rotate_left; intro w'; go_simp; with_reducible rfl
                         rotate_left; simp only [pu_]; rfl
                         refine pure_ (i := 9) (N := some 76) (v := ?_) (a' := ?_) #[true, true, true, true, false, true, false, false, false, true, false, false, false, false, false, false, false, false] rfl rfl (any_of HT_.out (by kernel_rfl)) (fun _ _ _ h => h) (Or.inl ⟨by rfl, ?_⟩) ?_ ?_
                         rotate_left; intro w'; go_simp; with_reducible rfl
                         rotate_left; simp only [pu_]; rfl
                         refine pure_ (i := 11) (N := some 78) (v := ?_) (a' := ?_) #[true, true, true, true, false, true, false, false, false, true, false, true, false, false, false, false, false, false] rfl rfl (any_of HT_.out (by kernel_rfl)) (fun _ _ _ h => h) (Or.inl ⟨by rfl, ?_⟩) ?_ ?_
                         rotate_left; intro w'; go_simp; with_reducible rfl
                         rotate_left; simp only [pu_]; rfl
                         refine take_ (i := 4) (N := some 71) (v := ?_) (a' := ?_) #[true, true, true, true, true, true, false, false, false, true, false, true, false, false, false, false, false, false] rfl rfl (take_ofW HT_.out HW_.out (by kernel_rfl)) (fun _ _ _ h => h) (Or.inl ⟨by rfl, ?_⟩) hHeld ?_ ?_
                         rotate_left; rintro w' ⟨s0, s1, s2, s3⟩; go_simp; with_reducible rfl
                         rotate_left; simp only [pu_]; rfl
                         refine take_ (i := 10) (N := some 77) (v := ?_) (a' := ?_) #[true, true, true, true, true, true, false, false, false, true, true, true, false, false, false, false, false, false] rfl rfl (take_ofW HT_.out HW_.out (by kernel_rfl)) (fun _ _ _ h => h) (Or.inl ⟨by rfl, ?_⟩) hHeld ?_ ?_
                         rotate_left; rintro w' ⟨s0, s1, s2, s3⟩; go_simp; with_reducible rfl
                         rotate_left; simp only [pu_]; rfl
                         refine one_ (i := 6) (N := some 73) #[true, true, true, true, true, true, true, false, false, true, true, true, false, false, false, false, false, false] rfl rfl (one_of HT_.out (by kernel_rfl)) (by decide) (fun K hK => ?_)
                         refine goes_ Try.func71 (by kernel_rfl) rfl #[.agg #[.int .i64 a0_0, .int .i64 a0_1], .string t940] (by rfl) rfl rfl (by (try simp only [List.map_toArray, List.map_cons, List.map_nil]); first | done | rfl | (simp only [List.length_drop, List.length_take]; rfl)) ?_
                         with_reducible refine (Fg.calls k4 a0_0 a0_1 t940 t941 _ A48.out).mono ?_
                         rintro e w62 ⟨rfl, hb⟩
                         have HS2_ := (hb.cell (World.block_lt_of_cell? _ _ (hHeld.2.2.1))).trans (hHeld.2.2.1)
                         have HS3_ := (hb.cell (World.block_lt_of_cell? _ _ (hHeld.2.2.2))).trans (hHeld.2.2.2)
                         refine ⟨_, rfl, ?_⟩
                         have n0_ := Aside0.mk (Kd.R_below (upR_ HO_10.out) hb)
                         have n1_ := Aside0.mk (Kd.R_below (upR_ HO_12.out) hb)
                         have n2_ := Aside0.mk (Kd.R_below (upR_ HO_54.out) hb)
                         have n3_ := Aside0.mk (blk_below (g := gb925) (o := .cells #[.int .i64 a0_0, .int .i64 a0_1] 30 (0, 0)) (upK_ BK925.out) hb)
                         have n4_ := Aside0.mk (blk_below (g := gb939) (o := .cells #[.int .i64 x15_2, .int .i64 (rd y935 x56_4)] 59 (0, 0)) (upK_ BK939.out) hb)
                         have n5_ := Aside0.mk (below_step (upB_ HB.out) hb)
                         clear HO_10; clear HO_12; clear HO_54; clear BK925; clear BK939; clear HB; have HO_10 := n0_; have HO_12 := n1_; have HO_54 := n2_; have BK925 := n3_; have BK939 := n4_; have HB := n5_; clear n0_ n1_ n2_ n3_ n4_ n5_; (try clear hb); (try clear hb2); (try clear hk); (try clear hi); refine hK.out _ _ ⟨(blk_cell BK925.out 0).trans rfl, (blk_cell BK925.out 1).trans rfl, HS2_, HS3_⟩ (fun hHeld => ?_)
                         clear hK K; refine norm_ (a' := ?_) ?_ ?_
                         rotate_left
                         ·show Act.put _ (some 73) _ = _
                          simp only [pu_]
                          rfl
                         refine pure_ (i := 7) (N := some 74) (v := ?_) (a' := ?_) #[true, true, true, true, true, true, true, true, false, true, true, true, false, false, false, false, false, false] rfl rfl (any_of HT_.out (by kernel_rfl)) (fun _ _ _ h => h) (Or.inl ⟨by rfl, ?_⟩) ?_ ?_
                         rotate_left; intro w'; go_simp; with_reducible rfl
                         rotate_left; simp only [pu_]; rfl
                         refine take_ (i := 8) (N := some 75) (v := ?_) (a' := ?_) #[true, true, true, true, true, true, true, true, true, true, true, true, false, false, false, false, false, false] rfl rfl (take_ofW HT_.out HW_.out (by kernel_rfl)) (fun _ _ _ h => h) (Or.inl ⟨by rfl, ?_⟩) hHeld ?_ ?_
                         rotate_left; rintro w' ⟨s0, s1, s2, s3⟩; go_simp; with_reducible rfl
                         rotate_left; simp only [pu_]; rfl
                         refine one_ (i := 12) (N := some 79) #[true, true, true, true, true, true, true, true, true, true, true, true, true, false, false, false, false, false] rfl rfl (one_of HT_.out (by kernel_rfl)) (by decide) (fun K hK => ?_)
                         refine goes_ Try.func71 (by kernel_rfl) rfl #[.agg #[.int .i64 a0_0, .int .i64 a0_1], .string x13_4] (by rfl) rfl rfl (by (try simp only [List.map_toArray, List.map_cons, List.map_nil]); first | done | rfl | (simp only [List.length_drop, List.length_take]; rfl)) ?_
                         with_reducible refine (Fg.calls k4 a0_0 a0_1 x13_4 t943 _ A51.out).mono ?_
                         rintro e w63 ⟨rfl, hb⟩
                         have HS2_ := (hb.cell (World.block_lt_of_cell? _ _ (hHeld.2.2.1))).trans (hHeld.2.2.1)
                         have HS3_ := (hb.cell (World.block_lt_of_cell? _ _ (hHeld.2.2.2))).trans (hHeld.2.2.2)
                         refine ⟨_, rfl, ?_⟩
                         have n0_ := Aside0.mk (Kd.R_below (upR_ HO_10.out) hb)
                         have n1_ := Aside0.mk (Kd.R_below (upR_ HO_12.out) hb)
                         have n2_ := Aside0.mk (Kd.R_below (upR_ HO_54.out) hb)
                         have n3_ := Aside0.mk (blk_below (g := gb925) (o := .cells #[.int .i64 a0_0, .int .i64 a0_1] 30 (0, 0)) (upK_ BK925.out) hb)
                         have n4_ := Aside0.mk (blk_below (g := gb939) (o := .cells #[.int .i64 x15_2, .int .i64 (rd y935 x56_4)] 59 (0, 0)) (upK_ BK939.out) hb)
                         have n5_ := Aside0.mk (below_step (upB_ HB.out) hb)
                         clear HO_10; clear HO_12; clear HO_54; clear BK925; clear BK939; clear HB; have HO_10 := n0_; have HO_12 := n1_; have HO_54 := n2_; have BK925 := n3_; have BK939 := n4_; have HB := n5_; clear n0_ n1_ n2_ n3_ n4_ n5_; (try clear hb); (try clear hb2); (try clear hk); (try clear hi); refine hK.out _ _ ⟨(blk_cell BK925.out 0).trans rfl, (blk_cell BK925.out 1).trans rfl, HS2_, HS3_⟩ (fun hHeld => ?_)
                         clear hK K; refine norm_ (a' := ?_) ?_ ?_
                         rotate_left
                         ·show Act.put _ (some 79) _ = _
                          simp only [pu_]
                          rfl
                         refine pure_ (i := 13) (N := some 80) (v := ?_) (a' := ?_) #[true, true, true, true, true, true, true, true, true, true, true, true, true, true, false, false, false, false] rfl rfl (any_of HT_.out (by kernel_rfl)) (fun _ _ _ h => h) (Or.inl ⟨by rfl, ?_⟩) ?_ ?_
                         rotate_left; intro w'; go_simp; with_reducible rfl
                         rotate_left; simp only [pu_]; rfl
                         refine take_ (i := 14) (N := some 81) (v := ?_) (a' := ?_) #[true, true, true, true, true, true, true, true, true, true, true, true, true, true, true, false, false, false] rfl rfl (take_ofW HT_.out HW_.out (by kernel_rfl)) (fun _ _ _ h => h) (Or.inl ⟨by rfl, ?_⟩) hHeld ?_ ?_
                         rotate_left; rintro w' ⟨s0, s1, s2, s3⟩; go_simp; with_reducible rfl
                         rotate_left; simp only [pu_]; rfl
                         refine pure_ (i := 15) (N := some 82) (v := ?_) (a' := ?_) #[true, true, true, true, true, true, true, true, true, true, true, true, true, true, true, true, false, false] rfl rfl (any_of HT_.out (by kernel_rfl)) (fun _ _ _ h => h) (Or.inl ⟨by rfl, ?_⟩) ?_ ?_
                         rotate_left; intro w'; go_simp; with_reducible rfl
                         rotate_left; simp only [pu_]; rfl
                         refine pure_ (i := 16) (N := some 83) (v := ?_) (a' := ?_) #[true, true, true, true, true, true, true, true, true, true, true, true, true, true, true, true, true, false] rfl rfl (any_of HT_.out (by kernel_rfl)) (fun _ _ _ h => h) (Or.inl ⟨by rfl, ?_⟩) ?_ ?_
                         rotate_left; intro w'; go_simp; with_reducible rfl
                         rotate_left; simp only [pu_]; rfl
                         refine pure_ (i := 17) (N := some 84) (v := ?_) (a' := ?_) #[true, true, true, true, true, true, true, true, true, true, true, true, true, true, true, true, true, true] rfl rfl (any_of HT_.out (by kernel_rfl)) (fun _ _ _ h => h) (Or.inl ⟨by rfl, ?_⟩) ?_ ?_
                         rotate_left; intro w'; go_simp; with_reducible rfl
                         rotate_left; simp only [pu_]; rfl
                         refine done_ (done_of HT_.out (by kernel_rfl)) ?_
                         have hcz64_0 : w63.cell? ⟨gb939, 0, none⟩ = some (.int .i64 x15_2) := (blk_cell BK939.out 0).trans rfl
                         have hcz64_1 : w63.cell? ⟨gb939, 1, none⟩ = some (.int .i64 (rd y935 x56_4)) := (blk_cell BK939.out 1).trans rfl
                         have hfz64_0 := blk_frozen BK939.out 0
                         have hfz64_1 := blk_frozen BK939.out 1
                         try go_wp2_with (first | ((with_reducible refine gate_builtin (b := .append) (xs := #[.tmp 85, .tmp 87]) rfl ?_); at_builtin; refine Kd.R_append k59 (w0 := w) w.heap.size rfl (.tmp 85) (.tmp 87) 33 59 (.agg #[(.int .i64 0), (.int .i64 0)]) 16 rfl Try.underlying33 info59 rfl (by decide) (by omega) u12 x12_4 (⟨x15_2, rd y935 x56_4⟩ : S59) [.int .i64 x15_2, .int .i64 (rd y935 x56_4)] (fun k_ => k_ ≠ gb939) (fun _ => False) rfl rfl ?aP (fun _ hk => hk.elim) ?aF ?aO ?aB ?aS ?aL ?_; (case aP => exact k59_mkM _ _ _ (⟨x15_2, rd y935 x56_4⟩ : S59)); (case aB => exact (upB_ HB.out)); (case aF => exact (fun k_ hk => Kd.freshB (g := gb939) (o := .cells #[.int .i64 x15_2, .int .i64 (rd y935 x56_4)] 59 (0, 0)) (upK_ BK939.out) k_ hk)); (case aO => exact (by (with_reducible repeat (first | apply Kd.R_alloc | apply Kd.R_drewN | apply Kd.R_drew)); exact Kd.R_mono HO_12.out (fun _ hk => hk.2))); (case aS => exact (below_size (upB_ HB.out))); (case aL => have := LMc55.out; omega); intro v946 w65 ho hb hg hat; rw [← Ny945.out] at ho; have n0_ := Aside0.mk (Kd.R_over' (upR_ HO_10.out) (Kd.R_typed (upR_ HO_12.out)) (by decide) hg); have n1_ := Aside0.mk (Kd.R_over' (upR_ HO_54.out) (Kd.R_typed (upR_ HO_12.out)) (by decide) hg); have n2_ := Aside0.mk (blk_grown (g := gb925) (o := .cells #[.int .i64 a0_0, .int .i64 a0_1] 30 (0, 0)) (upK_ BK925.out) hg (Kd.R_ne HO_12.out BK925.out (by decide))); have n3_ := Aside0.mk (blk_grown (g := gb939) (o := .cells #[.int .i64 x15_2, .int .i64 (rd y935 x56_4)] 59 (0, 0)) (upK_ BK939.out) hg (Kd.R_away HO_12.out (fun _ hk => hk.2))); have n4_ := Aside0.mk (hb); have n5_ := Aside0.mk (ho); clear HO_10; clear HO_54; clear BK925; clear BK939; clear HB; clear HO_12; have HO_10 := n0_; have HO_54 := n1_; have BK925 := n2_; have BK939 := n3_; have HB := n4_; have HO947 := n5_; clear n0_ n1_ n2_ n3_ n4_ n5_; clear ho hb hg hat))
                         go_roundg k4
                         case measure => have := HK1.out; have := HK2.out; have := HJ28.out; have := HK4.out; omega
                         case rel => exact ⟨(y945), (t940), (true), (wrap64 (x56_4 + 1)), (by first | rfl | (simp; done) | (simp [*]; done)), (by first | rfl | (simp; done) | (simp [*]; done)), (by first | rfl | (simp; done) | (simp [*]; done)), H', ⟨by have := HK1.out; have := HK2.out; have := HJ28.out; have := HK4.out; omega⟩, ⟨by (with_reducible repeat (first | apply Kd.R_alloc | apply Kd.R_drewN | apply Kd.R_drew)); exact HO_10.out⟩, ⟨by (with_reducible repeat (first | apply Kd.R_alloc | apply Kd.R_drewN | apply Kd.R_drew)); exact Kd.R_mono HO947.out (fun _ hk => trivial)⟩, ⟨by (with_reducible repeat (first | apply Kd.R_alloc | apply Kd.R_drewN | apply Kd.R_drew)); exact HO_54.out⟩, ⟨by (with_reducible repeat (first | refine blk_drewN ?_ _ | refine blk_drew ?_ | refine blk_alloc ?_ _)); exact BK925.out⟩, ⟨by repeat (first | (with_reducible first | exact HB.out | apply below_alloc | apply pw_below_drewN | apply below_drew1 | refine below_set ?_ GE925.out | refine below_set ?_ GE939.out) | exact HB.out)⟩⟩
                        ·rw [if_neg c55] at H
                         exact absurd H (by simp)
                       ·rw [if_neg c54] at H
                        have c54b0 : ((rd t927 t941) == (wrap64 ((rd t927 t943) - 1))) = false := beq_eq_false_iff_ne.mpr c54
                        (try (have c54b0v : ((rd t927 t941) == (IntKind.i64.wrap ((rd t927 t943) - 1))) = false := by first | exact c54b0 | simpa only [i64_w] using c54b0))
                        have c54b1 : ((rd t927 t941) != (wrap64 ((rd t927 t943) - 1))) = true := bne_iff_ne.mpr c54
                        (try (have c54b1v : ((rd t927 t941) != (IntKind.i64.wrap ((rd t927 t943) - 1))) = true := by first | exact c54b1 | simpa only [i64_w] using c54b1))
                        have H' := Aside0.mk H
                        clear H; have p938 : 0 ≤ (x56_4 : Int) := of_decide_eq_true (by first | (with_reducible assumption) | assumption)
                        have q938 : x56_4 < (y935.length : Int) := of_decide_eq_true (by first | (with_reducible assumption) | assumption)
                        obtain ⟨ad938, e938, hx938_0⟩ := Kd.at_int (Kd.R_reads' HO_54.out).2.2 x56_4 p938 q938
                        cases e938
                        replace p938 := eq_true p938
                        replace q938 := eq_true q938
                        try go_wp2_with (first | ((with_reducible refine gate_dst (N := 18) rfl ?_); refine box_event ?hg (N := 18) ?hd (cs := #[.int .i64 0, .int .i64 0]) (t := 59) ?hr ?_; (case hd => rfl); (case hg => rfl); (case hr => first | (go_simp; done) | (go_simp; rfl)); intro gb939 hg w66 hbox hb; have n0_ := Aside0.mk (Kd.R_below (by (with_reducible repeat (first | apply Kd.R_alloc | apply Kd.R_drewN | apply Kd.R_drew)); exact HO_10.out) hb); have n1_ := Aside0.mk (Kd.R_below (Kd.R_elderB (by (with_reducible repeat (first | apply Kd.R_alloc | apply Kd.R_drewN | apply Kd.R_drew)); exact HO_12.out) gb939 (Nat.le_of_eq hg.symm)) hb); have n2_ := Aside0.mk (Kd.R_below (by (with_reducible repeat (first | apply Kd.R_alloc | apply Kd.R_drewN | apply Kd.R_drew)); exact HO_54.out) hb); have n3_ := Aside0.mk (blk_below (g := gb925) (o := .cells #[.int .i64 a0_0, .int .i64 a0_1] 30 (0, 0)) (by (with_reducible repeat (first | refine blk_drewN ?_ _ | refine blk_drew ?_ | refine blk_alloc ?_ _)); exact BK925.out) hb); have n4_ := Aside0.mk (below_step (by repeat (first | (with_reducible first | exact HB.out | apply below_alloc | apply pw_below_drewN | apply below_drew1 | refine below_set ?_ GE925.out) | exact HB.out)) hb); have n5_ := Aside0.mk (hbox); have n6_ := Aside0.mk ((by rw [hg]; exact (below_size (by repeat (first | (with_reducible first | exact HB.out | apply below_alloc | apply pw_below_drewN | apply below_drew1 | refine below_set ?_ GE925.out) | exact HB.out))) : w.heap.size ≤ gb939)); have n7_ := Aside0.mk ((by rw [hg]; exact (below_size (by repeat (first | (with_reducible first | exact HB.out | apply below_alloc | apply pw_below_drewN | apply below_drew1 | refine below_set ?_ GE925.out) | exact HB.out))) : w.heap.size ≤ gb939)); have n8_ := Aside0.mk ((by rw [hg]; exact Nat.ne_of_lt (blk_lt (g := gb925) (o := .cells #[.int .i64 a0_0, .int .i64 a0_1] 30 (0, 0)) (by (with_reducible repeat (first | refine blk_drewN ?_ _ | refine blk_drew ?_ | refine blk_alloc ?_ _)); exact BK925.out)) : gb925 ≠ gb939)); have n9_ := Aside0.mk ((by rw [hg]; exact Nat.ne_of_gt (blk_lt (g := gb925) (o := .cells #[.int .i64 a0_0, .int .i64 a0_1] 30 (0, 0)) (by (with_reducible repeat (first | refine blk_drewN ?_ _ | refine blk_drew ?_ | refine blk_alloc ?_ _)); exact BK925.out)) : gb939 ≠ gb925)); clear HO_10; clear HO_12; clear HO_54; clear BK925; clear HB; have HO_10 := n0_; have HO_12 := n1_; have HO_54 := n2_; have BK925 := n3_; have HB := n4_; have BK939 := n5_; have GW939 := n6_; have GE939 := n7_; have NB925_939 := n8_; have NB939_925 := n9_; clear n0_ n1_ n2_ n3_ n4_ n5_ n6_ n7_ n8_ n9_; clear hb hbox hg; have hnb67 := NB939_925.out; have hnc67 := NB925_939.out; have hcz68_0 : w66.cell? ⟨gb939, 0, none⟩ = some (.int .i64 0) := (blk_cell BK939.out 0).trans rfl; have hcz68_1 : w66.cell? ⟨gb939, 1, none⟩ = some (.int .i64 0) := (blk_cell BK939.out 1).trans rfl; have hfz68_0 := blk_frozen BK939.out 0; have hfz68_1 := blk_frozen BK939.out 1; have hcz69_0 : w66.cell? ⟨gb925, 0, none⟩ = some (.int .i64 a0_0) := (blk_cell BK925.out 0).trans rfl; have hcz69_1 : w66.cell? ⟨gb925, 1, none⟩ = some (.int .i64 a0_1) := (blk_cell BK925.out 1).trans rfl; have hfz69_0 := blk_frozen BK925.out 0; have hfz69_1 := blk_frozen BK925.out 1) | ((with_reducible refine gate_callee (f := 83) rfl ?_); refine goesL_ (some 66) rfl rfl Try.func83 (by kernel_rfl) rfl #[.agg #[.int .i64 a0_0, .int .i64 a0_1], .string x13_4, .agg #[.int .i64 x15_2, .int .i64 (rd y935 x56_4)]] rfl (by (try simp only [List.map_toArray, List.map_cons, List.map_nil]); first | done | rfl | (simp only [List.length_drop, List.length_take]; rfl)) ?_; (with_reducible refine (FA.calls k4 a0_0 a0_1 x13_4 x15_2 (rd y935 x56_4) t940 _ A40.out).mono ?_); rintro e w70 ⟨rfl, hb⟩; refine ⟨_, rfl, ?_⟩; have n0_ := Aside0.mk (Kd.R_below (by (with_reducible repeat (first | apply Kd.R_alloc | apply Kd.R_drewN | apply Kd.R_drew)); exact (Kd.R_mono (Kd.R_far (p := ⟨gb939, 1, none⟩) (Kd.R_far (p := ⟨gb939, 0, none⟩) (Kd.R_types HO_10.out BK939.out (by decide)) (fun _ hk => hk.2) (.int .i64 x15_2)) (fun _ hk => hk.2) (.int .i64 (rd y935 x56_4))) (fun _ h_ => h_.1))) hb); have n1_ := Aside0.mk (Kd.R_below (by (with_reducible repeat (first | apply Kd.R_alloc | apply Kd.R_drewN | apply Kd.R_drew)); exact (Kd.R_mono (Kd.R_far (p := ⟨gb939, 1, none⟩) (Kd.R_far (p := ⟨gb939, 0, none⟩) (Kd.R_mono HO_12.out (fun k_ hk => (⟨hk, hk.2⟩ : _ ∧ k_ ≠ gb939))) (fun _ hk => hk.2) (.int .i64 x15_2)) (fun _ hk => hk.2) (.int .i64 (rd y935 x56_4))) (fun _ h_ => h_.1))) hb); have n2_ := Aside0.mk (Kd.R_below (by (with_reducible repeat (first | apply Kd.R_alloc | apply Kd.R_drewN | apply Kd.R_drew)); exact (Kd.R_mono (Kd.R_far (p := ⟨gb939, 1, none⟩) (Kd.R_far (p := ⟨gb939, 0, none⟩) (Kd.R_types HO_54.out BK939.out (by decide)) (fun _ hk => hk.2) (.int .i64 x15_2)) (fun _ hk => hk.2) (.int .i64 (rd y935 x56_4))) (fun _ h_ => h_.1))) hb); have n3_ := Aside0.mk (blk_below (g := gb925) (o := .cells #[.int .i64 a0_0, .int .i64 a0_1] 30 (0, 0)) (by (with_reducible repeat (first | refine blk_drewN ?_ _ | refine blk_drew ?_ | refine blk_alloc ?_ _)); refine blk_far ?_ NB925_939.out _; (with_reducible repeat (first | refine blk_drewN ?_ _ | refine blk_drew ?_ | refine blk_alloc ?_ _)); refine blk_far ?_ NB925_939.out _; (with_reducible repeat (first | refine blk_drewN ?_ _ | refine blk_drew ?_ | refine blk_alloc ?_ _)); exact BK925.out) hb); have n4_ := Aside0.mk (blk_below (g := gb939) (o := .cells #[.int .i64 x15_2, .int .i64 (rd y935 x56_4)] 59 (0, 0)) (by (with_reducible repeat (first | refine blk_drewN ?_ _ | refine blk_drew ?_ | refine blk_alloc ?_ _)); refine blk_put (cs := #[.int .i64 x15_2, .int .i64 0]) ?_ 1 _ rfl; (with_reducible repeat (first | refine blk_drewN ?_ _ | refine blk_drew ?_ | refine blk_alloc ?_ _)); refine blk_put (cs := #[.int .i64 0, .int .i64 0]) ?_ 0 _ rfl; (with_reducible repeat (first | refine blk_drewN ?_ _ | refine blk_drew ?_ | refine blk_alloc ?_ _)); exact BK939.out) hb); have n5_ := Aside0.mk (below_step (by repeat (first | (with_reducible first | exact HB.out | apply below_alloc | apply pw_below_drewN | apply below_drew1 | refine below_set ?_ GE925.out | refine below_set ?_ GE939.out) | exact HB.out)) hb); clear HO_10; clear HO_12; clear HO_54; clear BK925; clear BK939; clear HB; have HO_10 := n0_; have HO_12 := n1_; have HO_54 := n2_; have BK925 := n3_; have BK939 := n4_; have HB := n5_; clear n0_ n1_ n2_ n3_ n4_ n5_; (try clear hb); (try clear hb2); (try clear hk); (try clear hi)))
                        have n0_ := Aside0.mk (Kd.R_drew HO_10.out)
                        have n1_ := Aside0.mk (Kd.R_drew HO_12.out)
                        have n2_ := Aside0.mk (Kd.R_drew HO_54.out)
                        have n3_ := Aside0.mk (blk_drew BK925.out)
                        have n4_ := Aside0.mk (blk_drew BK939.out)
                        have n5_ := Aside0.mk (below_drew1 HB.out)
                        clear HO_10; clear HO_12; clear HO_54; clear BK925; clear BK939; clear HB; have HO_10 := n0_; have HO_12 := n1_; have HO_54 := n2_; have BK925 := n3_; have BK939 := n4_; have HB := n5_; clear n0_ n1_ n2_ n3_ n4_ n5_; have p942 : 0 ≤ (t941 : Int) := of_decide_eq_true (by first | (with_reducible assumption) | assumption)
                        have q942 : t941 < (t927.length : Int) := of_decide_eq_true (by first | (with_reducible assumption) | assumption)
                        obtain ⟨ad942, e942, hx942_0⟩ := Kd.at_int (Kd.R_reads' HO_10.out).2.2 t941 p942 q942
                        obtain rfl : ad934 = ad942 := (by injection e942)
                        replace p942 := eq_true p942
                        replace q942 := eq_true q942
                        have p944 : 0 ≤ (t943 : Int) := of_decide_eq_true (by first | (with_reducible assumption) | assumption)
                        have q944 : t943 < (t927.length : Int) := of_decide_eq_true (by first | (with_reducible assumption) | assumption)
                        obtain ⟨ad944, e944, hx944_0⟩ := Kd.at_int (Kd.R_reads' HO_10.out).2.2 t943 p944 q944
                        obtain rfl : ad934 = ad944 := (by injection e944)
                        replace p944 := eq_true p944
                        replace q944 := eq_true q944
                        refine start_ (n := 18) (S := fun w' => w'.cell? ⟨gb925, 0, none⟩ = some (.int .i64 a0_0) ∧ w'.cell? ⟨gb925, 1, none⟩ = some (.int .i64 a0_1) ∧ w'.cell? (ad934.add (t941).toNat) = some (.int .i64 (rd t927 t941)) ∧ w'.cell? (ad934.add (t943).toNat) = some (.int .i64 (rd t927 t943))) (ds := []) #[false, false, false, false, false, false, false, false, false, false, false, false, false, false, false, false, false, false] (by kernel_rfl) rfl rfl ⟨(blk_cell BK925.out 0).trans rfl, (blk_cell BK925.out 1).trans rfl, hx942_0, hx944_0⟩ (fun hHeld => ?_); refine with_tabW Fb.tab18 Fb.bits18 (fun HT_ HW_ => ?_)
                        generalize w70.drew = w71 at HO_10 HO_12 HO_54 BK925 BK939 HB hx942_0 hx944_0 hHeld ⊢
                        refine pure_ (i := 0) (N := some 67) (v := ?_) (a' := ?_) #[true, false, false, false, false, false, false, false, false, false, false, false, false, false, false, false, false, false] rfl rfl (any_of HT_.out (by kernel_rfl)) (fun _ _ _ h => h) (Or.inl ⟨by rfl, ?_⟩) ?_ ?_
                        rotate_left; intro w'; go_simp; with_reducible rfl
                        rotate_left; simp only [pu_]; rfl
                        refine pure_ (i := 1) (N := some 68) (v := ?_) (a' := ?_) #[true, true, false, false, false, false, false, false, false, false, false, false, false, false, false, false, false, false] rfl rfl (any_of HT_.out (by kernel_rfl)) (fun _ _ _ h => h) (Or.inl ⟨by rfl, ?_⟩) ?_ ?_
                        rotate_left; intro w'; go_simp; with_reducible rfl
                        rotate_left; simp only [pu_]; rfl
                        refine pure_ (i := 2) (N := some 69) (v := ?_) (a' := ?_) #[true, true, true, false, false, false, false, false, false, false, false, false, false, false, false, false, false, false] rfl rfl (any_of HT_.out (by kernel_rfl)) (fun _ _ _ h => h) (Or.inl ⟨by rfl, ?_⟩) ?_ ?_
                        rotate_left; intro w'; go_simp; with_reducible rfl
                        rotate_left; simp only [pu_]; rfl
                        refine pure_ (i := 3) (N := some 70) (v := ?_) (a' := ?_) #[true, true, true, true, false, false, false, false, false, false, false, false, false, false, false, false, false, false] rfl rfl (any_of HT_.out (by kernel_rfl)) (fun _ _ _ h => h) (Or.inl ⟨by rfl, ?_⟩) ?_ ?_
                        rotate_left; intro w'; go_simp; with_reducible rfl
                        rotate_left; simp only [pu_]; rfl
                        refine pure_ (i := 5) (N := some 72) (v := ?_) (a' := ?_) #[true, true, true, true, false, true, false, false, false, false, false, false, false, false, false, false, false, false] rfl rfl (any_of HT_.out (by kernel_rfl)) (fun _ _ _ h => h) (Or.inl ⟨by rfl, ?_⟩) ?_ ?_
                        rotate_left; intro w'; go_simp; with_reducible rfl
                        rotate_left; simp only [pu_]; rfl
                        refine pure_ (i := 9) (N := some 76) (v := ?_) (a' := ?_) #[true, true, true, true, false, true, false, false, false, true, false, false, false, false, false, false, false, false] rfl rfl (any_of HT_.out (by kernel_rfl)) (fun _ _ _ h => h) (Or.inl ⟨by rfl, ?_⟩) ?_ ?_
                        rotate_left; intro w'; go_simp; with_reducible rfl
                        rotate_left; simp only [pu_]; rfl
                        refine pure_ (i := 11) (N := some 78) (v := ?_) (a' := ?_) #[true, true, true, true, false, true, false, false, false, true, false, true, false, false, false, false, false, false] rfl rfl (any_of HT_.out (by kernel_rfl)) (fun _ _ _ h => h) (Or.inl ⟨by rfl, ?_⟩) ?_ ?_
                        rotate_left; intro w'; go_simp; with_reducible rfl
                        rotate_left; simp only [pu_]; rfl
                        refine take_ (i := 4) (N := some 71) (v := ?_) (a' := ?_) #[true, true, true, true, true, true, false, false, false, true, false, true, false, false, false, false, false, false] rfl rfl (take_ofW HT_.out HW_.out (by kernel_rfl)) (fun _ _ _ h => h) (Or.inl ⟨by rfl, ?_⟩) hHeld ?_ ?_
                        rotate_left; rintro w' ⟨s0, s1, s2, s3⟩; go_simp; with_reducible rfl
                        rotate_left; simp only [pu_]; rfl
                        refine take_ (i := 10) (N := some 77) (v := ?_) (a' := ?_) #[true, true, true, true, true, true, false, false, false, true, true, true, false, false, false, false, false, false] rfl rfl (take_ofW HT_.out HW_.out (by kernel_rfl)) (fun _ _ _ h => h) (Or.inl ⟨by rfl, ?_⟩) hHeld ?_ ?_
                        rotate_left; rintro w' ⟨s0, s1, s2, s3⟩; go_simp; with_reducible rfl
                        rotate_left; simp only [pu_]; rfl
                        refine one_ (i := 6) (N := some 73) #[true, true, true, true, true, true, true, false, false, true, true, true, false, false, false, false, false, false] rfl rfl (one_of HT_.out (by kernel_rfl)) (by decide) (fun K hK => ?_)
                        refine goes_ Try.func71 (by kernel_rfl) rfl #[.agg #[.int .i64 a0_0, .int .i64 a0_1], .string t940] (by rfl) rfl rfl (by (try simp only [List.map_toArray, List.map_cons, List.map_nil]); first | done | rfl | (simp only [List.length_drop, List.length_take]; rfl)) ?_
                        with_reducible refine (Fg.calls k4 a0_0 a0_1 t940 t941 _ A48.out).mono ?_
                        rintro e w72 ⟨rfl, hb⟩
                        have HS2_ := (hb.cell (World.block_lt_of_cell? _ _ (hHeld.2.2.1))).trans (hHeld.2.2.1)
                        have HS3_ := (hb.cell (World.block_lt_of_cell? _ _ (hHeld.2.2.2))).trans (hHeld.2.2.2)
                        refine ⟨_, rfl, ?_⟩
                        have n0_ := Aside0.mk (Kd.R_below (upR_ HO_10.out) hb)
                        have n1_ := Aside0.mk (Kd.R_below (upR_ HO_12.out) hb)
                        have n2_ := Aside0.mk (Kd.R_below (upR_ HO_54.out) hb)
                        have n3_ := Aside0.mk (blk_below (g := gb925) (o := .cells #[.int .i64 a0_0, .int .i64 a0_1] 30 (0, 0)) (upK_ BK925.out) hb)
                        have n4_ := Aside0.mk (blk_below (g := gb939) (o := .cells #[.int .i64 x15_2, .int .i64 (rd y935 x56_4)] 59 (0, 0)) (upK_ BK939.out) hb)
                        have n5_ := Aside0.mk (below_step (upB_ HB.out) hb)
                        clear HO_10; clear HO_12; clear HO_54; clear BK925; clear BK939; clear HB; have HO_10 := n0_; have HO_12 := n1_; have HO_54 := n2_; have BK925 := n3_; have BK939 := n4_; have HB := n5_; clear n0_ n1_ n2_ n3_ n4_ n5_; (try clear hb); (try clear hb2); (try clear hk); (try clear hi); refine hK.out _ _ ⟨(blk_cell BK925.out 0).trans rfl, (blk_cell BK925.out 1).trans rfl, HS2_, HS3_⟩ (fun hHeld => ?_)
                        clear hK K; refine norm_ (a' := ?_) ?_ ?_
                        rotate_left
                        ·show Act.put _ (some 73) _ = _
                         simp only [pu_]
                         rfl
                        refine pure_ (i := 7) (N := some 74) (v := ?_) (a' := ?_) #[true, true, true, true, true, true, true, true, false, true, true, true, false, false, false, false, false, false] rfl rfl (any_of HT_.out (by kernel_rfl)) (fun _ _ _ h => h) (Or.inl ⟨by rfl, ?_⟩) ?_ ?_
                        rotate_left; intro w'; go_simp; with_reducible rfl
                        rotate_left; simp only [pu_]; rfl
                        refine take_ (i := 8) (N := some 75) (v := ?_) (a' := ?_) #[true, true, true, true, true, true, true, true, true, true, true, true, false, false, false, false, false, false] rfl rfl (take_ofW HT_.out HW_.out (by kernel_rfl)) (fun _ _ _ h => h) (Or.inl ⟨by rfl, ?_⟩) hHeld ?_ ?_
                        rotate_left; rintro w' ⟨s0, s1, s2, s3⟩; go_simp; with_reducible rfl
                        rotate_left; simp only [pu_]; rfl
                        refine one_ (i := 12) (N := some 79) #[true, true, true, true, true, true, true, true, true, true, true, true, true, false, false, false, false, false] rfl rfl (one_of HT_.out (by kernel_rfl)) (by decide) (fun K hK => ?_)
                        refine goes_ Try.func71 (by kernel_rfl) rfl #[.agg #[.int .i64 a0_0, .int .i64 a0_1], .string x13_4] (by rfl) rfl rfl (by (try simp only [List.map_toArray, List.map_cons, List.map_nil]); first | done | rfl | (simp only [List.length_drop, List.length_take]; rfl)) ?_
                        with_reducible refine (Fg.calls k4 a0_0 a0_1 x13_4 t943 _ A51.out).mono ?_
                        rintro e w73 ⟨rfl, hb⟩
                        have HS2_ := (hb.cell (World.block_lt_of_cell? _ _ (hHeld.2.2.1))).trans (hHeld.2.2.1)
                        have HS3_ := (hb.cell (World.block_lt_of_cell? _ _ (hHeld.2.2.2))).trans (hHeld.2.2.2)
                        refine ⟨_, rfl, ?_⟩
                        have n0_ := Aside0.mk (Kd.R_below (upR_ HO_10.out) hb)
                        have n1_ := Aside0.mk (Kd.R_below (upR_ HO_12.out) hb)
                        have n2_ := Aside0.mk (Kd.R_below (upR_ HO_54.out) hb)
                        have n3_ := Aside0.mk (blk_below (g := gb925) (o := .cells #[.int .i64 a0_0, .int .i64 a0_1] 30 (0, 0)) (upK_ BK925.out) hb)
                        have n4_ := Aside0.mk (blk_below (g := gb939) (o := .cells #[.int .i64 x15_2, .int .i64 (rd y935 x56_4)] 59 (0, 0)) (upK_ BK939.out) hb)
                        have n5_ := Aside0.mk (below_step (upB_ HB.out) hb)
                        clear HO_10; clear HO_12; clear HO_54; clear BK925; clear BK939; clear HB; have HO_10 := n0_; have HO_12 := n1_; have HO_54 := n2_; have BK925 := n3_; have BK939 := n4_; have HB := n5_; clear n0_ n1_ n2_ n3_ n4_ n5_; (try clear hb); (try clear hb2); (try clear hk); (try clear hi); refine hK.out _ _ ⟨(blk_cell BK925.out 0).trans rfl, (blk_cell BK925.out 1).trans rfl, HS2_, HS3_⟩ (fun hHeld => ?_)
                        clear hK K; refine norm_ (a' := ?_) ?_ ?_
                        rotate_left
                        ·show Act.put _ (some 79) _ = _
                         simp only [pu_]
                         rfl
                        refine pure_ (i := 13) (N := some 80) (v := ?_) (a' := ?_) #[true, true, true, true, true, true, true, true, true, true, true, true, true, true, false, false, false, false] rfl rfl (any_of HT_.out (by kernel_rfl)) (fun _ _ _ h => h) (Or.inl ⟨by rfl, ?_⟩) ?_ ?_
                        rotate_left; intro w'; go_simp; with_reducible rfl
                        rotate_left; simp only [pu_]; rfl
                        refine take_ (i := 14) (N := some 81) (v := ?_) (a' := ?_) #[true, true, true, true, true, true, true, true, true, true, true, true, true, true, true, false, false, false] rfl rfl (take_ofW HT_.out HW_.out (by kernel_rfl)) (fun _ _ _ h => h) (Or.inl ⟨by rfl, ?_⟩) hHeld ?_ ?_
                        rotate_left; rintro w' ⟨s0, s1, s2, s3⟩; go_simp; with_reducible rfl
                        rotate_left; simp only [pu_]; rfl
                        refine pure_ (i := 15) (N := some 82) (v := ?_) (a' := ?_) #[true, true, true, true, true, true, true, true, true, true, true, true, true, true, true, true, false, false] rfl rfl (any_of HT_.out (by kernel_rfl)) (fun _ _ _ h => h) (Or.inl ⟨by rfl, ?_⟩) ?_ ?_
                        rotate_left; intro w'; go_simp; with_reducible rfl
                        rotate_left; simp only [pu_]; rfl
                        refine pure_ (i := 16) (N := some 83) (v := ?_) (a' := ?_) #[true, true, true, true, true, true, true, true, true, true, true, true, true, true, true, true, true, false] rfl rfl (any_of HT_.out (by kernel_rfl)) (fun _ _ _ h => h) (Or.inl ⟨by rfl, ?_⟩) ?_ ?_
                        rotate_left; intro w'; go_simp; with_reducible rfl
                        rotate_left; simp only [pu_]; rfl
                        refine pure_ (i := 17) (N := some 84) (v := ?_) (a' := ?_) #[true, true, true, true, true, true, true, true, true, true, true, true, true, true, true, true, true, true] rfl rfl (any_of HT_.out (by kernel_rfl)) (fun _ _ _ h => h) (Or.inl ⟨by rfl, ?_⟩) ?_ ?_
                        rotate_left; intro w'; go_simp; with_reducible rfl
                        rotate_left; simp only [pu_]; rfl
                        refine done_ (done_of HT_.out (by kernel_rfl)) ?_
                        try go_wp2
                        go_roundg k4
                        case measure => have := HK1.out; have := HK2.out; have := HJ28.out; have := HK4.out; omega
                        case rel => exact ⟨(x12_4), (x13_4), (false), (wrap64 (x56_4 + 1)), (by first | rfl | (simp; done) | (simp [*]; done)), (by first | rfl | (simp; done) | (simp [*]; done)), (by first | rfl | (simp; done) | (simp [*]; done)), H', ⟨by have := HK1.out; have := HK2.out; have := HJ28.out; have := HK4.out; omega⟩, ⟨upR_ HO_10.out⟩, ⟨by (with_reducible repeat (first | apply Kd.R_alloc | apply Kd.R_drewN | apply Kd.R_drew)); exact Kd.R_mono HO_12.out (fun _ hk => trivial)⟩, ⟨upR_ HO_54.out⟩, ⟨upK_ BK925.out⟩, ⟨upB_ HB.out⟩⟩
                      ·rw [if_neg c53] at H
                       exact absurd H (by simp)
                     ·rw [if_neg c52] at H
                      exact absurd H (by simp)
                    ·rw [if_neg c50] at H
                     exact absurd H (by simp)
                   ·rw [if_neg c49] at H
                    exact absurd H (by simp)
                 ·rw [if_neg c39] at H
                  exact absurd H (by simp)
                ·rw [if_neg c38] at H
                 exact absurd H (by simp)
               ·rw [if_neg c37] at H
                have c37b0 : decide (x56_4 < (y935.length : Int)) = false := decide_eq_false c37
                clear c37; have H' := Aside0.mk H
                clear H; go_wp2
                go_roundg k4
                case measure => have := HK1.out; have := HK2.out; have := HJ28.out; have := HK4.out; omega
                case rel => exact ⟨(x12_4), (x13_4), (x14_4), (wrap64 (x15_2 + 1)), (by first | rfl | (simp; done) | (simp [*]; done)), (by first | rfl | (simp; done) | (simp [*]; done)), (by first | rfl | (simp; done) | (simp [*]; done)), H', ⟨by have := HK1.out; have := HK2.out; have := HJ28.out; have := HK4.out; omega⟩, ⟨by (with_reducible repeat (first | apply Kd.R_alloc | apply Kd.R_drewN | apply Kd.R_drew)); exact Kd.R_mono HO_10.out (fun _ hk => trivial)⟩, ⟨upR_ HO_12.out⟩, ⟨upK_ BK925.out⟩, ⟨upB_ HB.out⟩⟩
            ·replace c33 := Bool.eq_false_iff.mpr c33
             subst c33
             have H1 : (Fb.l0 kj28 a3 t927 x12_2 x13_2 a0_0 a0_1) = some (r1, r2) := by rw [if_neg (show ¬ (false = true) by decide)] at H; exact H
             clear H; have H := H1
             clear H1; have H' := Aside0.mk H
             clear H; go_wp2
             go_roundg kj28
             case measure => have := HK1.out; have := HK2.out; have := HJ28.out; omega
             case rel => exact ⟨(x12_2), (x13_2), (by first | rfl | (simp; done) | (simp [*]; done)), H', ⟨by have := HK1.out; have := HK2.out; have := HJ28.out; omega⟩, ⟨upR_ HO_10.out⟩, ⟨upR_ HO_12.out⟩, ⟨upK_ BK925.out⟩, ⟨upB_ HB.out⟩⟩
   ·rw [if_neg c10] at H
    exact absurd H (by simp)
  ·rw [if_neg c9] at H
   exact absurd H (by simp)
 ·replace c6 := Bool.eq_false_iff.mpr c6
  subst c6
  have H1 : (some (([] : List (S59)), false)) = some (r1, r2) := by rw [if_neg (show ¬ (false = true) by decide)] at H; exact H
  clear H; have H := H1
  clear H1; simp only [Option.some.injEq, Prod.mk.injEq] at H
  obtain ⟨rfl, rfl⟩ := H
  go_enter Try.func44, Try.ntmps44
  go_wp2_with (first | ((with_reducible refine gate_dst (N := 4) rfl ?_); refine box_event ?hg (N := 4) ?hd (cs := #[.int .i64 a0_0, .int .i64 a0_1]) (t := 30) ?hr ?_; (case hd => rfl); (case hg => rfl); (case hr => first | (go_simp; done) | (go_simp; rfl)); intro gb925 hg w74 hbox hb; have n0_ := Aside0.mk (below_step (upB_ HB.out) hb); have n1_ := Aside0.mk (hbox); have n2_ := Aside0.mk ((by rw [hg]; exact (below_size (upB_ HB.out)) : w.heap.size ≤ gb925)); have n3_ := Aside0.mk ((by rw [hg]; exact (below_size (upB_ HB.out)) : w.heap.size ≤ gb925)); clear HB; have HB := n0_; have BK925 := n1_; have GW925 := n2_; have GE925 := n3_; clear n0_ n1_ n2_ n3_; clear hb hbox hg; have hcz75_0 : w74.cell? ⟨gb925, 0, none⟩ = some (.int .i64 a0_0) := (blk_cell BK925.out 0).trans rfl; have hcz75_1 : w74.cell? ⟨gb925, 1, none⟩ = some (.int .i64 a0_1) := (blk_cell BK925.out 1).trans rfl; have hfz75_0 := blk_frozen BK925.out 0; have hfz75_1 := blk_frozen BK925.out 1) | ((with_reducible refine gate_callee (f := 58) rfl ?_); refine goesL_ (some 24) rfl rfl Try.func58 (by kernel_rfl) rfl #[.agg #[.int .i64 a0_0, .int .i64 a0_1], .slice A1 l1.length c1, .string a2, .string a3] rfl (by (try simp only [List.map_toArray, List.map_cons, List.map_nil]); first | done | rfl | (simp only [List.length_drop, List.length_take]; rfl)) ?_; (with_reducible refine (FY.calls k a0_0 a0_1 _ _ l1 a2 a3 false _ ?side1 ?side2 A5.out).mono ?_); (case side1 => repeat (first | exact (Kd.C_below HR1.out HB.out) | (with_reducible refine Kd.C_alloc ?_ _) | (with_reducible refine Kd.C_drewN ?_ _) | (with_reducible refine Kd.C_drew ?_))); (case side2 => exact HC1.out); rintro e w76 ⟨rfl, hb⟩; refine ⟨_, rfl, ?_⟩; have n0_ := Aside0.mk (blk_below (g := gb925) (o := .cells #[.int .i64 a0_0, .int .i64 a0_1] 30 (0, 0)) (upK_ BK925.out) hb); have n1_ := Aside0.mk (below_step (upB_ HB.out) hb); clear BK925; clear HB; have BK925 := n0_; have HB := n1_; clear n0_ n1_; (try clear hb); (try clear hb2); (try clear hk); (try clear hi)))
  go_ret2
  exact ⟨_, by first | rfl | (simp [errW_none, errW_some] <;> rfl) | (simp [*, errW_none, errW_some] <;> rfl), by first | exact Kd.R_nil _ _ _ _ _ | exact Kd.N_nil _ _ _ _ _ | exact Kd.V_nil _ _ _ _ _ | exact Kd.Q_nil _ _ _ _ _ | exact Kd.S_nil _ _ _ _ _, by repeat (first | (with_reducible first | exact HB.out | apply below_alloc | apply pw_below_drewN | apply below_drew1 | refine below_set ?_ GE925.out) | exact HB.out)⟩

end Go.Proofs.Ytajhahafgnefcaa.R
