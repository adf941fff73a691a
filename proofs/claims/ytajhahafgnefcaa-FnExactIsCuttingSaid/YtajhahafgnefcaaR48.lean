-- Written by a program of this session (p2.sh: a patched copy of the kit's printer) out of the translation; not by print.sh. Lean checks it.
import Derived.Test.YtajhahafgnefcaaUp
import Derived.Test.YtajhahafgnefcaaR0
import Derived.Test.YtajhahafgnefcaaR2
import Derived.Test.YtajhahafgnefcaaR6
import Derived.Test.YtajhahafgnefcaaR37
import Derived.Test.YtajhahafgnefcaaR47
namespace Go.Proofs.Ytajhahafgnefcaa.R
open Go.RowKit Go.Proofs.YtajhahafgnefcaaW.PrintWords Go.Proofs.YtajhahafgnefcaaW.PrintLast Go.Proofs.YtajhahafgnefcaaW.PrintMore
attribute [local go_sem] max2_int min2_int max_two min_two max_three min_three max_four min_four   -- for this text's walks alone
set_option linter.unusedVariables false
set_option linter.unusedSimpArgs false

/-! ### spec_deParts: function 64 -/
mutual
def spec_deParts.l0 : Nat → List ByteArray → List Bool → Int → Int → Int → Int → Int → Option (Int)
 | 0, _, _, _, _, _, _, _ => none
 | k + 1, x1, x5, x6, x17, x18, x500000, x500001 => if x18 < x17 then ((spec_whOf.f k x500000 x500001 x18).bind fun t504 => (if 0 ≤ x18 then (if x18 < (x5.length : Int) then (if rdOf false x5 x18 = true then (spec_deParts.j1 k x1 x5 x6 t504 x17 x18 true x500000 x500001) else ((spec_l1HasS.f k x1 t504).bind fun t506 => (spec_deParts.j1 k x1 x5 x6 t504 x17 x18 t506 x500000 x500001))) else (none)) else (none))) else (some x6)
def spec_deParts.j1 : Nat → List ByteArray → List Bool → Int → ByteArray → Int → Int → Bool → Int → Int → Option (Int)
 | 0, _, _, _, _, _, _, _, _, _ => none
 | k + 1, x1, x5, x6, x8, x17, x18, x32, x500000, x500001 => if x32 = true then (spec_deParts.l0 k x1 x5 x6 x17 (wrap64 (x18 + 1)) x500000 x500001) else ((spec_deFar.f k x500000 x500001 x1 x8).bind fun bt507 => (spec_deParts.l1 k x1 x5 (wrap64 (x6 + 1)) x17 x18 bt507.1 (bt507.1.length : Int) 0 x500000 x500001))
def spec_deParts.l1 : Nat → List ByteArray → List Bool → Int → Int → Int → List Int → Int → Int → Int → Int → Option (Int)
 | 0, _, _, _, _, _, _, _, _, _, _ => none
 | k + 1, x1, x5, x6, x17, x18, x42, x43, x44, x500000, x500001 => if x44 < x43 then (if 0 ≤ x44 then (if x44 < (x42.length : Int) then (if x44 < (x5.length : Int) then (if rdOf false x5 x44 = true then (spec_deParts.l1 k x1 (x5.set (x44 : Int).toNat true) x6 x17 x18 x42 x43 (wrap64 (x44 + 1)) x500000 x500001) else (spec_deParts.l1 k x1 (x5.set (x44 : Int).toNat (decide ((rd x42 x44) ≥ 0))) x6 x17 x18 x42 x43 (wrap64 (x44 + 1)) x500000 x500001)) else (none)) else (none)) else (none)) else (spec_deParts.l0 k x1 x5 x6 x17 (wrap64 (x18 + 1)) x500000 x500001)
end
def spec_deParts.f (k : Nat) (a0_0 : Int) (a0_1 : Int) (l1 : List ByteArray) : Option (Int) := (spec_whCount.f k a0_0 a0_1).bind fun t500 => (if 0 ≤ t500 then (if (t500 : Int).toNat ≤ 281474976710656 then ((some (List.replicate (t500 : Int).toNat false : List Bool)).bind fun y501 => (spec_deParts.l0 k l1 y501 0 (y501.length : Int) 0 a0_0 a0_1)) else (none)) else (none))
theorem spec_deParts.mono_l : ∀ k, (∀ y0 y1 y2 y3 y4 y5 y6, LeO (spec_deParts.l0 k y0 y1 y2 y3 y4 y5 y6) (spec_deParts.l0 (k + 1) y0 y1 y2 y3 y4 y5 y6)) ∧ (∀ y0 y1 y2 y3 y4 y5 y6 y7 y8, LeO (spec_deParts.j1 k y0 y1 y2 y3 y4 y5 y6 y7 y8) (spec_deParts.j1 (k + 1) y0 y1 y2 y3 y4 y5 y6 y7 y8)) ∧ (∀ y0 y1 y2 y3 y4 y5 y6 y7 y8 y9, LeO (spec_deParts.l1 k y0 y1 y2 y3 y4 y5 y6 y7 y8 y9) (spec_deParts.l1 (k + 1) y0 y1 y2 y3 y4 y5 y6 y7 y8 y9))
 | 0 => ⟨fun _ _ _ _ _ _ _ r h => by simp [spec_deParts.l0] at h, fun _ _ _ _ _ _ _ _ _ r h => by simp [spec_deParts.j1] at h, fun _ _ _ _ _ _ _ _ _ _ r h => by simp [spec_deParts.l1] at h⟩
 | k + 1 => by
  obtain ⟨ih0, ih1, ih2⟩ := spec_deParts.mono_l k
  refine ⟨?_, ?_, ?_⟩
  ·intro y0 y1 y2 y3 y4 y5 y6
   unfold spec_deParts.l0
   repeat' (with_reducible first | exact ih0 _ _ _ _ _ _ _ | exact ih1 _ _ _ _ _ _ _ _ _ | exact ih2 _ _ _ _ _ _ _ _ _ _ | exact spec_deFar.mono _ _ _ _ _ | exact spec_l1HasS.mono _ _ _ | exact spec_whCount.mono _ _ _ | exact spec_whOf.mono _ _ _ _ | exact LeO.refl _ | exact LeO.none _ | refine LeO.ite ?_ ?_ | refine LeO.bind ?_ (fun _ => ?_))
  ·intro y0 y1 y2 y3 y4 y5 y6 y7 y8
   unfold spec_deParts.j1
   repeat' (with_reducible first | exact ih0 _ _ _ _ _ _ _ | exact ih1 _ _ _ _ _ _ _ _ _ | exact ih2 _ _ _ _ _ _ _ _ _ _ | exact spec_deFar.mono _ _ _ _ _ | exact spec_l1HasS.mono _ _ _ | exact spec_whCount.mono _ _ _ | exact spec_whOf.mono _ _ _ _ | exact LeO.refl _ | exact LeO.none _ | refine LeO.ite ?_ ?_ | refine LeO.bind ?_ (fun _ => ?_))
  ·intro y0 y1 y2 y3 y4 y5 y6 y7 y8 y9
   unfold spec_deParts.l1
   repeat' (with_reducible first | exact ih0 _ _ _ _ _ _ _ | exact ih1 _ _ _ _ _ _ _ _ _ | exact ih2 _ _ _ _ _ _ _ _ _ _ | exact spec_deFar.mono _ _ _ _ _ | exact spec_l1HasS.mono _ _ _ | exact spec_whCount.mono _ _ _ | exact spec_whOf.mono _ _ _ _ | exact LeO.refl _ | exact LeO.none _ | refine LeO.ite ?_ ?_ | refine LeO.bind ?_ (fun _ => ?_))
theorem spec_deParts.mono : ∀ a0 a1 a2 k, LeO (spec_deParts.f k a0 a1 a2) (spec_deParts.f (k + 1) a0 a1 a2) := by
 intro a0 a1 a2 k
 obtain ⟨ih0, ih1, ih2⟩ := spec_deParts.mono_l k
 unfold spec_deParts.f
 repeat' (with_reducible first | exact ih0 _ _ _ _ _ _ _ | exact ih1 _ _ _ _ _ _ _ _ _ | exact ih2 _ _ _ _ _ _ _ _ _ _ | exact spec_deFar.mono _ _ _ _ _ | exact spec_l1HasS.mono _ _ _ | exact spec_whCount.mono _ _ _ | exact spec_whOf.mono _ _ _ _ | exact LeO.refl _ | exact LeO.none _ | refine LeO.ite ?_ ?_ | refine LeO.bind ?_ (fun _ => ?_))
set_option maxHeartbeats 8000000 in
set_option maxRecDepth 100000 in
theorem spec_deParts.calls (k : Nat) (a0_0 : Int) (a0_1 : Int) (A1 : Option Addr) (c1 : Nat) (l1 : List ByteArray) (r : Int) (w : World) (hr1 : Kd.C Kd.string w A1 l1.length l1) (hc1 : l1.length ≤ c1) (h : spec_deParts.f k a0_0 a0_1 l1 = some r) :
  Calls Try.prog 64 #[.agg #[.int .i64 a0_0, .int .i64 a0_1], .slice A1 l1.length c1] w fun e w' => e = .returned (.int .i64 r) ∧ Below w.heap.size w w' := by
 have hu30 := Try.underlying30
 have HR1 := Aside0.mk hr1
 have HC1 := Aside0.mk hc1
 clear hr1 hc1; have HB := Aside0.mk (Below.refl w.heap.size w)
 have H : ((spec_whCount.f k a0_0 a0_1).bind fun t500 => (if 0 ≤ t500 then (if (t500 : Int).toNat ≤ 281474976710656 then ((some (List.replicate (t500 : Int).toNat false : List Bool)).bind fun y501 => (spec_deParts.l0 k l1 y501 0 (y501.length : Int) 0 a0_0 a0_1)) else (none)) else (none))) = some r := h
 clear h; replace H := Option.bind_eq_some_iff.mp H
 obtain ⟨t500, A30, H⟩ := H
 replace H : (if 0 ≤ t500 then (if (t500 : Int).toNat ≤ 281474976710656 then ((some (List.replicate (t500 : Int).toNat false : List Bool)).bind fun y501 => (spec_deParts.l0 k l1 y501 0 (y501.length : Int) 0 a0_0 a0_1)) else (none)) else (none)) = some r := H
 have A3 := Aside0.mk A30
 clear A30; by_cases c4 : 0 ≤ t500
 ·rw [if_pos c4] at H
  have c4b0 := eq_true c4
  have c4b1 : decide (0 ≤ t500) = true := decide_eq_true c4
  clear c4; by_cases c5 : (t500 : Int).toNat ≤ 281474976710656
  ·rw [if_pos c5] at H
   have c5b0 := eq_true c5
   have c5b1 : decide ((t500 : Int).toNat ≤ 281474976710656) = true := decide_eq_true c5
   clear c5; obtain ⟨y501, hy501⟩ : ∃ y_ : List Bool, y_ = (List.replicate (t500 : Int).toNat false) := ⟨_, rfl⟩
   replace H : (spec_deParts.l0 k l1 y501 0 (y501.length : Int) 0 a0_0 a0_1) = some r := by first | (rw [hy501]; with_reducible exact H) | (have H2_ := (Option.bind_some _ _).symm.trans H; rw [hy501]; with_reducible exact H2_) | (have H2_ := (Option.bind_some _ _).symm.trans H; with_reducible exact H2_) | with_reducible exact H | (rw [hy501]; exact H) | exact H
   have Ny501 := Aside0.mk hy501
   clear hy501; have H' := Aside0.mk H
   clear H; go_enter Try.func64, Try.ntmps64
   go_wp2_with (first | ((with_reducible refine gate_dst (N := 2) rfl ?_); refine box_event ?hg (N := 2) ?hd (cs := #[.int .i64 a0_0, .int .i64 a0_1]) (t := 30) ?hr ?_; (case hd => rfl); (case hg => rfl); (case hr => first | (go_simp; done) | (go_simp; rfl)); intro gb499 hg w6 hbox hb; have n0_ := Aside0.mk (below_step (upB_ HB.out) hb); have n1_ := Aside0.mk (hbox); have n2_ := Aside0.mk ((by rw [hg]; exact (below_size (upB_ HB.out)) : w.heap.size ≤ gb499)); have n3_ := Aside0.mk ((by rw [hg]; exact (below_size (upB_ HB.out)) : w.heap.size ≤ gb499)); clear HB; have HB := n0_; have BK499 := n1_; have GW499 := n2_; have GE499 := n3_; clear n0_ n1_ n2_ n3_; clear hb hbox hg; have hcz7_0 : w6.cell? ⟨gb499, 0, none⟩ = some (.int .i64 a0_0) := (blk_cell BK499.out 0).trans rfl; have hcz7_1 : w6.cell? ⟨gb499, 1, none⟩ = some (.int .i64 a0_1) := (blk_cell BK499.out 1).trans rfl; have hfz7_0 := blk_frozen BK499.out 0; have hfz7_1 := blk_frozen BK499.out 1) | ((with_reducible refine gate_callee (f := 73) rfl ?_); refine goesL_ (some 14) rfl rfl Try.func73 (by kernel_rfl) rfl #[.agg #[.int .i64 a0_0, .int .i64 a0_1]] rfl (by (try simp only [List.map_toArray, List.map_cons, List.map_nil]); first | done | rfl | (simp only [List.length_drop, List.length_take]; rfl)) ?_; (with_reducible refine (spec_whCount.calls k a0_0 a0_1 t500 _ A3.out).mono ?_); rintro e w8 ⟨rfl, hb⟩; refine ⟨_, rfl, ?_⟩; have n0_ := Aside0.mk (blk_below (g := gb499) (o := .cells #[.int .i64 a0_0, .int .i64 a0_1] 30 (0, 0)) (upK_ BK499.out) hb); have n1_ := Aside0.mk (below_step (upB_ HB.out) hb); clear BK499; clear HB; have BK499 := n0_; have HB := n1_; clear n0_ n1_; (try clear hb); (try clear hb2); (try clear hk); (try clear hi)) | ((with_reducible refine gate_dst (N := 15) rfl ?_); refine Kd.R_make Kd.bool _ 4 rfl (N := 15) rfl 68 _ _ rfl t500 rfl rfl Try.underlying68 (.bool false) 1 info4 rfl (by decide) (by omega) false (ok := fun _ => True) (okp := fun _ => True) rfl (fun _ hk => hk) trivial (of_decide_eq_true (by first | (with_reducible assumption) | assumption)) (Nat.le_trans (Nat.mul_le_mul_right _ (of_decide_eq_true (by first | (with_reducible assumption) | assumption) : t500.toNat ≤ 281474976710656)) (by omega)) (Below.refl _ _) (Nat.le_refl _) ?_; intro v502 w9 ho10 hb hg_ hnew_; clear hg_ hnew_; (first | rw [← Ny501.out] at ho10 | (simp only [Int.reduceToNat] at ho10; rw [← Ny501.out] at ho10)); have n0_ := Aside0.mk (Kd.R_lower ho10 (below_size (upB_ HB.out))); have n1_ := Aside0.mk (blk_below (g := gb499) (o := .cells #[.int .i64 a0_0, .int .i64 a0_1] 30 (0, 0)) (upK_ BK499.out) hb); have n2_ := Aside0.mk (below_step (upB_ HB.out) hb); clear BK499; clear HB; have HO503 := n0_; have BK499 := n1_; have HB := n2_; clear n0_ n1_ n2_; clear hb ho10; obtain ⟨Ao11, co11, eo11⟩ := Kd.R_slice HO503.out; subst eo11))
   go_loopg [6, 18] k (fun kq v6 v18 w' => ∃ (x5_1 : List Bool) (x6_1 : Int) (x18_1 : Int), v6 = .int .i64 x6_1 ∧ v18 = .int .i64 x18_1 ∧ Aside0 (spec_deParts.l0 kq l1 x5_1 x6_1 (y501.length : Int) x18_1 a0_0 a0_1 = some r) ∧ Aside0 (kq ≤ k) ∧ Aside0 (Kd.R Kd.bool 4 w' w.heap.size (fun _ => True) (.slice Ao11 y501.length co11) x5_1) ∧ Aside0 (w'.heap[gb499]? = some (.cells #[.int .i64 a0_0, .int .i64 a0_1] 30 (0, 0))) ∧ Aside0 (Below w.heap.size w w'))
   case atStart => exact ⟨(y501), (0), (0), (by first | rfl | (simp; done) | (simp [*]; done)), (by first | rfl | (simp; done) | (simp [*]; done)), H', ⟨Nat.le_refl _⟩, ⟨upR_ HO503.out⟩, ⟨upK_ BK499.out⟩, ⟨upB_ HB.out⟩⟩
   case round =>
    clear H'; try clear c1
    try clear p2
    try clear c4
    try clear c4b0
    try clear c4b1
    try clear c5
    try clear c5b0
    try clear c5b1
    try clear c6
    try clear c7
    try clear hcz7_0
    try clear hcz7_1
    try clear hfz7_0
    try clear hfz7_1
    obtain ⟨x5_1, x6_1, x18_1, rfl, rfl, HA, HK1, HO_5, BK499, HB⟩ := hrel
    have hl5_1 := (Kd.R_reads' HO_5.out).1
    rw [hl5_1] at HO_5
    (try simp only [hl5_1])
    (try simp only [hl5_1] at BK499)
    cases gk with
    | zero => exact absurd HA.out (by simp [spec_deParts.l0])
    | succ k1 =>
     have H := HA.out
     clear HA; simp only [spec_deParts.l0] at H
     by_cases c12 : x18_1 < (y501.length : Int)
     ·rw [if_pos c12] at H
      have c12b0 : decide (x18_1 < (y501.length : Int)) = true := decide_eq_true c12
      (try (have c12b0qhl5_1 := c12b0; rw [hl5_1] at c12b0qhl5_1))
      clear c12; replace H := Option.bind_eq_some_iff.mp H
      obtain ⟨t504, A130, H⟩ := H
      replace H : (if 0 ≤ x18_1 then (if x18_1 < (x5_1.length : Int) then (if rdOf false x5_1 x18_1 = true then (spec_deParts.j1 k1 l1 x5_1 x6_1 t504 (y501.length : Int) x18_1 true a0_0 a0_1) else ((spec_l1HasS.f k1 l1 t504).bind fun t506 => (spec_deParts.j1 k1 l1 x5_1 x6_1 t504 (y501.length : Int) x18_1 t506 a0_0 a0_1))) else (none)) else (none)) = some r := H
      have A13 := Aside0.mk A130
      clear A130; have HC14 := Aside0.mk H
      clear H; have hcz15_0 : wr.cell? ⟨gb499, 0, none⟩ = some (.int .i64 a0_0) := (blk_cell BK499.out 0).trans rfl
      have hcz15_1 : wr.cell? ⟨gb499, 1, none⟩ = some (.int .i64 a0_1) := (blk_cell BK499.out 1).trans rfl
      have hfz15_0 := blk_frozen BK499.out 0
      have hfz15_1 := blk_frozen BK499.out 1
      go_upto_region 7 with (first | ((with_reducible refine gate_callee (f := 75) rfl ?_); refine goesL_ (some 23) rfl rfl Try.func75 (by kernel_rfl) rfl #[.agg #[.int .i64 a0_0, .int .i64 a0_1], .int .i64 x18_1] rfl (by (try simp only [List.map_toArray, List.map_cons, List.map_nil]); first | done | rfl | (simp only [List.length_drop, List.length_take]; rfl)) ?_; (with_reducible refine (spec_whOf.calls k1 a0_0 a0_1 x18_1 t504 _ A13.out).mono ?_); rintro e w16 ⟨rfl, hb⟩; refine ⟨_, rfl, ?_⟩; have n0_ := Aside0.mk (Kd.R_below (upR_ HO_5.out) hb); have n1_ := Aside0.mk (blk_below (g := gb499) (o := .cells #[.int .i64 a0_0, .int .i64 a0_1] 30 (0, 0)) (upK_ BK499.out) hb); have n2_ := Aside0.mk (below_step (upB_ HB.out) hb); clear HO_5; clear BK499; clear HB; have HO_5 := n0_; have BK499 := n1_; have HB := n2_; clear n0_ n1_ n2_; (try clear hb); (try clear hb2); (try clear hk); (try clear hi)))
      (try simp only [Act.put, List.setIfInBounds_toArray, List.set_cons_zero, List.set_cons_succ])
      go_cut [32] (fun v32 wc => ∃ (kq : Nat) (x32_13 : Bool), v32 = .bool x32_13 ∧ Aside0 (spec_deParts.j1 kq l1 x5_1 x6_1 t504 (y501.length : Int) x18_1 x32_13 a0_0 a0_1 = some r) ∧ Aside0 (kq ≤ k1) ∧ Aside0 (Kd.R Kd.bool 4 wc w.heap.size (fun _ => True) (.slice Ao11 x5_1.length co11) x5_1) ∧ Aside0 (wc.heap[gb499]? = some (.cells #[.int .i64 a0_0, .int .i64 a0_1] 30 (0, 0))) ∧ Aside0 (Below w.heap.size w wc))
      case first =>
       have H := HC14.out
       clear HC14; by_cases c17 : 0 ≤ x18_1
       ·rw [if_pos c17] at H
        have c17b0 : decide (0 ≤ x18_1) = true := decide_eq_true c17
        clear c17; (first | rw [c17b0] | (simp only [i64_w, i32_w]; rw [c17b0]) | skip)
        by_cases c18 : x18_1 < (x5_1.length : Int)
        ·rw [if_pos c18] at H
         have c18b0 : decide (x18_1 < (x5_1.length : Int)) = true := decide_eq_true c18
         (try (have c18b0qhl5_1 := c18b0; rw [hl5_1] at c18b0qhl5_1))
         clear c18; obtain ⟨bq19, hbq19⟩ : ∃ b_ : Bool, b_ = (rdOf false x5_1 x18_1) := ⟨_, rfl⟩
         replace H : (if bq19 = true then (spec_deParts.j1 k1 l1 x5_1 x6_1 t504 (y501.length : Int) x18_1 true a0_0 a0_1) else ((spec_l1HasS.f k1 l1 t504).bind fun t506 => (spec_deParts.j1 k1 l1 x5_1 x6_1 t504 (y501.length : Int) x18_1 t506 a0_0 a0_1))) = some r := by rw [← hbq19] at H; exact H
         have Nbq19 := Aside0.mk hbq19
         clear hbq19; by_cases c20 : bq19 = true
         ·subst c20
          have H1 : (spec_deParts.j1 k1 l1 x5_1 x6_1 t504 (y501.length : Int) x18_1 true a0_0 a0_1) = some r := by rw [if_pos rfl] at H; exact H
          clear H; have H := H1
          clear H1; have H' := Aside0.mk H
          clear H; have p505 : 0 ≤ (x18_1 : Int) := of_decide_eq_true (by first | (with_reducible assumption) | assumption)
          have q505 : x18_1 < (x5_1.length : Int) := of_decide_eq_true (by first | (with_reducible assumption) | assumption)
          obtain ⟨ad505, e505, hx505_0⟩ := Kd.at_bool (Kd.R_reads' HO_5.out).2.2 x18_1 p505 q505
          (try rw [← Nbq19.out] at hx505_0)
          cases e505
          replace p505 := eq_true p505
          replace q505 := eq_true q505
          go_wp2
          go_meet
          case rel => exact ⟨_, (true), (by first | rfl | (simp; done) | (simp [*]; done)), H', ⟨by have := HK1.out; first | omega | exact Nat.le_refl _⟩, ⟨by (try simp only [hl5_1]); (with_reducible repeat (first | apply Kd.R_alloc | apply Kd.R_drewN | apply Kd.R_drew)); exact HO_5.out⟩, ⟨by (try simp only [hl5_1]); (with_reducible repeat (first | refine blk_drewN ?_ _ | refine blk_drew ?_ | refine blk_alloc ?_ _)); exact BK499.out⟩, ⟨upB_ HB.out⟩⟩
         ·replace c20 := Bool.eq_false_iff.mpr c20
          subst c20
          have H1 : ((spec_l1HasS.f k1 l1 t504).bind fun t506 => (spec_deParts.j1 k1 l1 x5_1 x6_1 t504 (y501.length : Int) x18_1 t506 a0_0 a0_1)) = some r := by rw [if_neg (show ¬ (false = true) by decide)] at H; exact H
          clear H; have H := H1
          clear H1; replace H := Option.bind_eq_some_iff.mp H
          obtain ⟨t506, A210, H⟩ := H
          replace H : (spec_deParts.j1 k1 l1 x5_1 x6_1 t504 (y501.length : Int) x18_1 t506 a0_0 a0_1) = some r := H
          have A21 := Aside0.mk A210
          clear A210; have H' := Aside0.mk H
          clear H; have p505 : 0 ≤ (x18_1 : Int) := of_decide_eq_true (by first | (with_reducible assumption) | assumption)
          have q505 : x18_1 < (x5_1.length : Int) := of_decide_eq_true (by first | (with_reducible assumption) | assumption)
          obtain ⟨ad505, e505, hx505_0⟩ := Kd.at_bool (Kd.R_reads' HO_5.out).2.2 x18_1 p505 q505
          (try rw [← Nbq19.out] at hx505_0)
          cases e505
          replace p505 := eq_true p505
          replace q505 := eq_true q505
          go_wp2_with (first | (go_at_call 76; (with_reducible refine (spec_l1HasS.calls k1 _ _ l1 t504 t506 _ ?side1 ?side2 A21.out).mono ?_); (case side1 => repeat (first | exact (Kd.C_below HR1.out HB.out) | (with_reducible refine Kd.C_alloc ?_ _) | (with_reducible refine Kd.C_drewN ?_ _) | (with_reducible refine Kd.C_drew ?_))); (case side2 => exact HC1.out); rintro e w' ⟨rfl, ⟨nd, rfl⟩⟩))
          go_meet
          case rel => exact ⟨_, (t506), (by first | rfl | (simp; done) | (simp [*]; done)), H', ⟨by have := HK1.out; first | omega | exact Nat.le_refl _⟩, ⟨by (try simp only [hl5_1]); (with_reducible repeat (first | apply Kd.R_alloc | apply Kd.R_drewN | apply Kd.R_drew)); exact HO_5.out⟩, ⟨by (try simp only [hl5_1]); (with_reducible repeat (first | refine blk_drewN ?_ _ | refine blk_drew ?_ | refine blk_alloc ?_ _)); exact BK499.out⟩, ⟨upB_ HB.out⟩⟩
        ·rw [if_neg c18] at H
         exact absurd H (by simp)
       ·rw [if_neg c17] at H
        exact absurd H (by simp)
      case rest =>
       clear HC14; try clear c1
       try clear q1
       try clear c2
       try clear p2
       try clear c4
       try clear c4b0
       try clear c4b1
       try clear c5
       try clear c5b0
       try clear c5b1
       try clear p5
       try clear q5
       try clear hx5
       try clear c6
       try clear c7
       try clear c12
       try clear c12b0
       try clear c17
       try clear c17b0
       try clear c18
       try clear c18b0
       try clear q19
       try clear c20
       try clear hcz15_0
       try clear hcz15_1
       try clear hcz7_0
       try clear hcz7_1
       try clear hfz15_0
       try clear hfz15_1
       try clear hfz7_0
       try clear hfz7_1
       try clear hx505_0
       try clear p2
       try clear p505
       try clear q505
       obtain ⟨kq, x32_13, rfl, HA, HJ13, HO_5, BK499, HB⟩ := hcut
       cases kq with
       | zero => exact absurd HA.out (by simp [spec_deParts.j1])
       | succ kj13 =>
        have H := HA.out
        clear HA; simp only [spec_deParts.j1] at H
        by_cases c22 : x32_13 = true
        ·subst c22
         have H1 : (spec_deParts.l0 kj13 l1 x5_1 x6_1 (y501.length : Int) (wrap64 (x18_1 + 1)) a0_0 a0_1) = some r := by rw [if_pos rfl] at H; exact H
         clear H; have H := H1
         clear H1; have H' := Aside0.mk H
         clear H; go_wp2
         (try simp only [← hl5_1])
         go_roundg kj13
         case measure => have := HK1.out; have := HJ13.out; omega
         case rel => exact ⟨(x5_1), (x6_1), (wrap64 (x18_1 + 1)), (by first | rfl | (simp; done) | (simp [*]; done)), (by first | rfl | (simp; done) | (simp [*]; done)), H', ⟨by have := HK1.out; have := HJ13.out; omega⟩, ⟨by (try simp only [hl5_1]); (with_reducible repeat (first | apply Kd.R_alloc | apply Kd.R_drewN | apply Kd.R_drew)); exact HO_5.out⟩, ⟨by (try simp only [hl5_1]); (with_reducible repeat (first | refine blk_drewN ?_ _ | refine blk_drew ?_ | refine blk_alloc ?_ _)); exact BK499.out⟩, ⟨upB_ HB.out⟩⟩
        ·replace c22 := Bool.eq_false_iff.mpr c22
         subst c22
         have H1 : ((spec_deFar.f kj13 a0_0 a0_1 l1 t504).bind fun bt507 => (spec_deParts.l1 kj13 l1 x5_1 (wrap64 (x6_1 + 1)) (y501.length : Int) x18_1 bt507.1 (bt507.1.length : Int) 0 a0_0 a0_1)) = some r := by rw [if_neg (show ¬ (false = true) by decide)] at H; exact H
         clear H; have H := H1
         clear H1; replace H := Option.bind_eq_some_iff.mp H
         obtain ⟨⟨t507, t510⟩, A230, H⟩ := H
         replace H : (spec_deParts.l1 kj13 l1 x5_1 (wrap64 (x6_1 + 1)) (y501.length : Int) x18_1 t507 (t507.length : Int) 0 a0_0 a0_1) = some r := H
         have A23 := Aside0.mk A230
         clear A230; have H' := Aside0.mk H
         clear H; have hcz24_0 : wc.cell? ⟨gb499, 0, none⟩ = some (.int .i64 a0_0) := (blk_cell BK499.out 0).trans rfl
         have hcz24_1 : wc.cell? ⟨gb499, 1, none⟩ = some (.int .i64 a0_1) := (blk_cell BK499.out 1).trans rfl
         have hfz24_0 := blk_frozen BK499.out 0
         have hfz24_1 := blk_frozen BK499.out 1
         go_wp2_with (first | ((with_reducible refine gate_callee (f := 70) rfl ?_); refine goesL_ (some 39) rfl rfl Try.func70 (by kernel_rfl) rfl #[.agg #[.int .i64 a0_0, .int .i64 a0_1], .slice A1 l1.length c1, .string t504] rfl (by (try simp only [List.map_toArray, List.map_cons, List.map_nil]); first | done | rfl | (simp only [List.length_drop, List.length_take]; rfl)) ?_; (with_reducible refine (spec_deFar.calls kj13 a0_0 a0_1 _ _ l1 t504 t507 t510 _ ?side1 ?side2 A23.out).mono ?_); (case side1 => repeat (first | exact (Kd.C_below HR1.out HB.out) | (with_reducible refine Kd.C_alloc ?_ _) | (with_reducible refine Kd.C_drewN ?_ _) | (with_reducible refine Kd.C_drew ?_))); (case side2 => exact HC1.out); rintro e w25 ⟨v508, v511, rfl, ho0, ho1, hb⟩; refine ⟨_, rfl, ?_⟩; have n0_ := Aside0.mk (Kd.R_below (upR_ HO_5.out) hb); have n1_ := Aside0.mk (Kd.R_lower ho0 (below_size (upB_ HB.out))); have n2_ := Aside0.mk (Kd.R_lower ho1 (below_size (upB_ HB.out))); have n3_ := Aside0.mk (blk_below (g := gb499) (o := .cells #[.int .i64 a0_0, .int .i64 a0_1] 30 (0, 0)) (upK_ BK499.out) hb); have n4_ := Aside0.mk (below_step (upB_ HB.out) hb); clear HO_5; clear BK499; clear HB; have HO_5 := n0_; have HO509 := n1_; have HO512 := n2_; have BK499 := n3_; have HB := n4_; clear n0_ n1_ n2_ n3_ n4_; (try clear hb); (try clear hb2); (try clear hk); (try clear hi); (try clear ho0); (try clear ho1); obtain ⟨Ao26, co26, eo26⟩ := Kd.R_slice HO509.out; subst eo26))
         go_loopg [44] kj13 (fun kq v44 w' => ∃ (x5_3 : List Bool) (x44_3 : Int), v44 = .int .i64 x44_3 ∧ Aside0 (spec_deParts.l1 kq l1 x5_3 (wrap64 (x6_1 + 1)) (y501.length : Int) x18_1 t507 (t507.length : Int) x44_3 a0_0 a0_1 = some r) ∧ Aside0 (kq ≤ kj13) ∧ Aside0 (Kd.R Kd.bool 4 w' w.heap.size (fun _ => True) (.slice Ao11 x5_1.length co11) x5_3) ∧ Aside0 (Kd.R (Kd.int .i64) 3 w' w.heap.size (fun _ => True) (.slice Ao26 t507.length co26) t507) ∧ Aside0 (w'.heap[gb499]? = some (.cells #[.int .i64 a0_0, .int .i64 a0_1] 30 (0, 0))) ∧ Aside0 (Below w.heap.size w w'))
         case atStart => exact ⟨(x5_1), (0), (by first | rfl | (simp; done) | (simp [*]; done)), H', ⟨Nat.le_refl _⟩, ⟨by (try simp only [hl5_1]); (with_reducible repeat (first | apply Kd.R_alloc | apply Kd.R_drewN | apply Kd.R_drew)); exact HO_5.out⟩, ⟨by (try simp only [hl5_1]); (with_reducible repeat (first | apply Kd.R_alloc | apply Kd.R_drewN | apply Kd.R_drew)); exact Kd.R_mono HO509.out (fun _ hk => trivial)⟩, ⟨by (try simp only [hl5_1]); (with_reducible repeat (first | refine blk_drewN ?_ _ | refine blk_drew ?_ | refine blk_alloc ?_ _)); exact BK499.out⟩, ⟨upB_ HB.out⟩⟩
         case round =>
          clear H'; try clear c1
          try clear q1
          try clear c2
          try clear p2
          try clear c4
          try clear c4b0
          try clear c4b1
          try clear c5
          try clear c5b0
          try clear c5b1
          try clear p5
          try clear q5
          try clear hx5
          try clear c6
          try clear p6
          try clear c7
          try clear c12
          try clear c12b0
          try clear c17
          try clear c17b0
          try clear c18
          try clear c18b0
          try clear q19
          try clear c20
          try clear c22
          try clear hcz15_0
          try clear hcz15_1
          try clear hcz24_0
          try clear hcz24_1
          try clear hcz7_0
          try clear hcz7_1
          try clear hfz15_0
          try clear hfz15_1
          try clear hfz24_0
          try clear hfz24_1
          try clear hfz7_0
          try clear hfz7_1
          try clear hx505_0
          try clear p2
          try clear p5
          try clear p505
          try clear q1
          try clear q19
          try clear q5
          try clear q505
          obtain ⟨x5_3, x44_3, rfl, HA, HK3, HO_5, HO_42, BK499, HB⟩ := hrel
          have hl5_3 := (Kd.R_reads' HO_5.out).1
          rw [hl5_3] at HO_5
          (try simp only [hl5_3])
          (try simp only [hl5_3] at BK499)
          (try simp only [hl5_3] at HO_42)
          cases gk with
          | zero => exact absurd HA.out (by simp [spec_deParts.l1])
          | succ k3 =>
           have H := HA.out
           clear HA; simp only [spec_deParts.l1] at H
           by_cases c27 : x44_3 < (t507.length : Int)
           ·rw [if_pos c27] at H
            have c27b0 : decide (x44_3 < (t507.length : Int)) = true := decide_eq_true c27
            (try (have c27b0qhl5_1 := c27b0; rw [hl5_1] at c27b0qhl5_1))
            (try (have c27b0qhl5_3 := c27b0; rw [hl5_3] at c27b0qhl5_3))
            clear c27; by_cases c28 : 0 ≤ x44_3
            ·rw [if_pos c28] at H
             have c28b0 : decide (0 ≤ x44_3) = true := decide_eq_true c28
             clear c28; by_cases c29 : x44_3 < (t507.length : Int)
             ·rw [if_pos c29] at H
              have c29b0 : decide (x44_3 < (t507.length : Int)) = true := decide_eq_true c29
              (try (have c29b0qhl5_1 := c29b0; rw [hl5_1] at c29b0qhl5_1))
              (try (have c29b0qhl5_3 := c29b0; rw [hl5_3] at c29b0qhl5_3))
              clear c29; by_cases c30 : x44_3 < (x5_3.length : Int)
              ·rw [if_pos c30] at H
               have c30b0 : decide (x44_3 < (x5_3.length : Int)) = true := decide_eq_true c30
               (try (have c30b0qhl5_1 := c30b0; rw [hl5_1] at c30b0qhl5_1))
               (try (have c30b0qhl5_3 := c30b0; rw [hl5_3] at c30b0qhl5_3))
               clear c30; obtain ⟨bq31, hbq31⟩ : ∃ b_ : Bool, b_ = (rdOf false x5_3 x44_3) := ⟨_, rfl⟩
               replace H : (if bq31 = true then (spec_deParts.l1 k3 l1 (x5_3.set (x44_3 : Int).toNat true) (wrap64 (x6_1 + 1)) (y501.length : Int) x18_1 t507 (t507.length : Int) (wrap64 (x44_3 + 1)) a0_0 a0_1) else (spec_deParts.l1 k3 l1 (x5_3.set (x44_3 : Int).toNat (decide ((rd t507 x44_3) ≥ 0))) (wrap64 (x6_1 + 1)) (y501.length : Int) x18_1 t507 (t507.length : Int) (wrap64 (x44_3 + 1)) a0_0 a0_1)) = some r := by rw [← hbq31] at H; exact H
               have Nbq31 := Aside0.mk hbq31
               clear hbq31; by_cases c32 : bq31 = true
               ·subst c32
                have H1 : (spec_deParts.l1 k3 l1 (x5_3.set (x44_3 : Int).toNat true) (wrap64 (x6_1 + 1)) (y501.length : Int) x18_1 t507 (t507.length : Int) (wrap64 (x44_3 + 1)) a0_0 a0_1) = some r := by rw [if_pos rfl] at H; exact H
                clear H; have H := H1
                clear H1; obtain ⟨y515, hy515⟩ : ∃ y_ : List Bool, y_ = (x5_3.set (x44_3 : Int).toNat true) := ⟨_, rfl⟩
                replace H : (spec_deParts.l1 k3 l1 y515 (wrap64 (x6_1 + 1)) (y501.length : Int) x18_1 t507 (t507.length : Int) (wrap64 (x44_3 + 1)) a0_0 a0_1) = some r := by first | (rw [hy515]; with_reducible exact H) | (have H2_ := (Option.bind_some _ _).symm.trans H; rw [hy515]; with_reducible exact H2_) | (have H2_ := (Option.bind_some _ _).symm.trans H; with_reducible exact H2_) | with_reducible exact H | (rw [hy515]; exact H) | exact H
                have Ny515 := Aside0.mk hy515
                clear hy515; have H' := Aside0.mk H
                clear H; have p513 : 0 ≤ (x44_3 : Int) := of_decide_eq_true (by first | (with_reducible assumption) | assumption)
                have q513 : x44_3 < (t507.length : Int) := of_decide_eq_true (by first | (with_reducible assumption) | assumption)
                obtain ⟨ad513, e513, hx513_0⟩ := Kd.at_int (Kd.R_reads' HO_42.out).2.2 x44_3 p513 q513
                cases e513
                replace p513 := eq_true p513
                replace q513 := eq_true q513
                have p514 : 0 ≤ (x44_3 : Int) := of_decide_eq_true (by first | (with_reducible assumption) | assumption)
                have q514 : x44_3 < (x5_3.length : Int) := of_decide_eq_true (by first | (with_reducible assumption) | assumption)
                obtain ⟨ad514, e514, hx514_0⟩ := Kd.at_bool (Kd.R_reads' HO_5.out).2.2 x44_3 p514 q514
                (try rw [← Nbq31.out] at hx514_0)
                cases e514
                replace p514 := eq_true p514
                replace q514 := eq_true q514
                have p33 : 0 ≤ (x44_3 : Int) := of_decide_eq_true (by first | (with_reducible assumption) | assumption)
                have q33 : (x44_3 : Int) < ((x5_3.length : Int) : Int) := of_decide_eq_true (by first | (with_reducible assumption) | assumption)
                obtain ⟨go33, co33, eo33, gb33, gl33, cl33, HG33⟩ := Kd.R_form HO_5.out (by omega)
                (first | cases eo33 | (injection eo33 with ea_ en_ ec_; (first | subst ea_ | (injection ea_ with ea_; subst ea_)); subst ec_; clear en_))
                have GB33 := Aside0.mk gb33
                have GG33 := Aside0.mk HG33
                clear gb33 gl33 HG33; (first | simp only [add_plain] at hx514_0 | skip)
                obtain ⟨hx33_0, hf33_0⟩ := Kd.R_celln false HO_5.out (x44_3 : Int) p33 q33
                replace p33 := eq_true p33
                replace q33 := eq_true q33
                have HP34 := Kd.R_putg HO_5.out (x44_3 : Int) true
                go_wp2_with (first | ((with_reducible refine gate_store (t := 4) (p := 59) rfl ?_); refine store_event (t := 4) (p := 59) (v := ?vo_w35) (w1 := (wr.setCell ⟨go33, (x44_3 : Int).toNat, none⟩ (.bool true))) ?hg ?ho ?hn ?hr ?_; (case ho => rfl); (case hg => rfl); (case hn => rfl); (case hr => first | (go_simp; done) | (go_simp; rfl)); intro w35 hw; have hg : wr.grownBy w35 (some go33) := (by rw [hw]; exact HP34.2); have hp_ : Kd.R Kd.bool 4 w35 w.heap.size (fun _ => True) (.slice (some ⟨go33, 0, none⟩) x5_3.length co11) y515 := (by rw [hw, Ny515.out]; exact HP34.1); clear HP34; have n0_ := Aside0.mk (hp_); have n1_ := Aside0.mk (Kd.R_over' (v := (.slice (some ⟨go33, 0, none⟩) x5_3.length co11)) (upR_ HO_42.out) (Kd.R_typed HO_5.out) (by decide) hg); have n2_ := Aside0.mk (blk_grown (g := gb499) (o := .cells #[.int .i64 a0_0, .int .i64 a0_1] 30 (0, 0)) (upK_ BK499.out) hg (Kd.R_ne HO_5.out BK499.out (by decide))); have n3_ := Aside0.mk ((by rw [hw]; exact below_set (HB.out) GB33.out : Below w.heap.size w w35)); clear HO_5; clear HO_42; clear BK499; clear HB; have HO_5 := n0_; have HO_42 := n1_; have BK499 := n2_; have HB := n3_; clear n0_ n1_ n2_ n3_; clear hg hw hp_))
                (try simp only [← hl5_3])
                go_roundg k3
                case measure => have := HK1.out; have := HJ13.out; have := HK3.out; omega
                case rel => exact ⟨(y515), (wrap64 (x44_3 + 1)), (by first | rfl | (simp; done) | (simp [*]; done)), H', ⟨by have := HK1.out; have := HJ13.out; have := HK3.out; omega⟩, ⟨by (try simp only [hl5_1, hl5_3]); (with_reducible repeat (first | apply Kd.R_alloc | apply Kd.R_drewN | apply Kd.R_drew)); exact HO_5.out⟩, ⟨by (try simp only [hl5_1, hl5_3]); (with_reducible repeat (first | apply Kd.R_alloc | apply Kd.R_drewN | apply Kd.R_drew)); exact HO_42.out⟩, ⟨by (try simp only [hl5_1, hl5_3]); (with_reducible repeat (first | refine blk_drewN ?_ _ | refine blk_drew ?_ | refine blk_alloc ?_ _)); exact BK499.out⟩, ⟨upB_ HB.out⟩⟩
               ·replace c32 := Bool.eq_false_iff.mpr c32
                subst c32
                have H1 : (spec_deParts.l1 k3 l1 (x5_3.set (x44_3 : Int).toNat (decide ((rd t507 x44_3) ≥ 0))) (wrap64 (x6_1 + 1)) (y501.length : Int) x18_1 t507 (t507.length : Int) (wrap64 (x44_3 + 1)) a0_0 a0_1) = some r := by rw [if_neg (show ¬ (false = true) by decide)] at H; exact H
                clear H; have H := H1
                clear H1; obtain ⟨y516, hy516⟩ : ∃ y_ : List Bool, y_ = (x5_3.set (x44_3 : Int).toNat (decide ((rd t507 x44_3) ≥ 0))) := ⟨_, rfl⟩
                replace H : (spec_deParts.l1 k3 l1 y516 (wrap64 (x6_1 + 1)) (y501.length : Int) x18_1 t507 (t507.length : Int) (wrap64 (x44_3 + 1)) a0_0 a0_1) = some r := by first | (rw [hy516]; with_reducible exact H) | (have H2_ := (Option.bind_some _ _).symm.trans H; rw [hy516]; with_reducible exact H2_) | (have H2_ := (Option.bind_some _ _).symm.trans H; with_reducible exact H2_) | with_reducible exact H | (rw [hy516]; exact H) | exact H
                have Ny516 := Aside0.mk hy516
                clear hy516; have H' := Aside0.mk H
                clear H; have p513 : 0 ≤ (x44_3 : Int) := of_decide_eq_true (by first | (with_reducible assumption) | assumption)
                have q513 : x44_3 < (t507.length : Int) := of_decide_eq_true (by first | (with_reducible assumption) | assumption)
                obtain ⟨ad513, e513, hx513_0⟩ := Kd.at_int (Kd.R_reads' HO_42.out).2.2 x44_3 p513 q513
                cases e513
                replace p513 := eq_true p513
                replace q513 := eq_true q513
                have p514 : 0 ≤ (x44_3 : Int) := of_decide_eq_true (by first | (with_reducible assumption) | assumption)
                have q514 : x44_3 < (x5_3.length : Int) := of_decide_eq_true (by first | (with_reducible assumption) | assumption)
                obtain ⟨ad514, e514, hx514_0⟩ := Kd.at_bool (Kd.R_reads' HO_5.out).2.2 x44_3 p514 q514
                (try rw [← Nbq31.out] at hx514_0)
                cases e514
                replace p514 := eq_true p514
                replace q514 := eq_true q514
                have p36 : 0 ≤ (x44_3 : Int) := of_decide_eq_true (by first | (with_reducible assumption) | assumption)
                have q36 : (x44_3 : Int) < ((x5_3.length : Int) : Int) := of_decide_eq_true (by first | (with_reducible assumption) | assumption)
                obtain ⟨go36, co36, eo36, gb36, gl36, cl36, HG36⟩ := Kd.R_form HO_5.out (by omega)
                (first | cases eo36 | (injection eo36 with ea_ en_ ec_; (first | subst ea_ | (injection ea_ with ea_; subst ea_)); subst ec_; clear en_))
                have GB36 := Aside0.mk gb36
                have GG36 := Aside0.mk HG36
                clear gb36 gl36 HG36; (first | simp only [add_plain] at hx514_0 | skip)
                obtain ⟨hx36_0, hf36_0⟩ := Kd.R_celln false HO_5.out (x44_3 : Int) p36 q36
                replace p36 := eq_true p36
                replace q36 := eq_true q36
                have HP37 := Kd.R_putg HO_5.out (x44_3 : Int) (decide ((rd t507 x44_3) ≥ 0))
                go_wp2_with (first | ((with_reducible refine gate_store (t := 4) (p := 59) rfl ?_); refine store_event (t := 4) (p := 59) (v := ?vo_w38) (w1 := (wr.setCell ⟨go36, (x44_3 : Int).toNat, none⟩ (.bool (decide ((rd t507 x44_3) ≥ 0))))) ?hg ?ho ?hn ?hr ?_; (case ho => rfl); (case hg => rfl); (case hn => rfl); (case hr => first | (go_simp; done) | (go_simp; rfl)); intro w38 hw; have hg : wr.grownBy w38 (some go36) := (by rw [hw]; exact HP37.2); have hp_ : Kd.R Kd.bool 4 w38 w.heap.size (fun _ => True) (.slice (some ⟨go36, 0, none⟩) x5_3.length co11) y516 := (by rw [hw, Ny516.out]; exact HP37.1); clear HP37; have n0_ := Aside0.mk (hp_); have n1_ := Aside0.mk (Kd.R_over' (v := (.slice (some ⟨go36, 0, none⟩) x5_3.length co11)) (upR_ HO_42.out) (Kd.R_typed HO_5.out) (by decide) hg); have n2_ := Aside0.mk (blk_grown (g := gb499) (o := .cells #[.int .i64 a0_0, .int .i64 a0_1] 30 (0, 0)) (upK_ BK499.out) hg (Kd.R_ne HO_5.out BK499.out (by decide))); have n3_ := Aside0.mk ((by rw [hw]; exact below_set (HB.out) GB36.out : Below w.heap.size w w38)); clear HO_5; clear HO_42; clear BK499; clear HB; have HO_5 := n0_; have HO_42 := n1_; have BK499 := n2_; have HB := n3_; clear n0_ n1_ n2_ n3_; clear hg hw hp_))
                (try simp only [← hl5_3])
                go_roundg k3
                case measure => have := HK1.out; have := HJ13.out; have := HK3.out; omega
                case rel => exact ⟨(y516), (wrap64 (x44_3 + 1)), (by first | rfl | (simp; done) | (simp [*]; done)), H', ⟨by have := HK1.out; have := HJ13.out; have := HK3.out; omega⟩, ⟨by (try simp only [hl5_1, hl5_3]); (with_reducible repeat (first | apply Kd.R_alloc | apply Kd.R_drewN | apply Kd.R_drew)); exact HO_5.out⟩, ⟨by (try simp only [hl5_1, hl5_3]); (with_reducible repeat (first | apply Kd.R_alloc | apply Kd.R_drewN | apply Kd.R_drew)); exact HO_42.out⟩, ⟨by (try simp only [hl5_1, hl5_3]); (with_reducible repeat (first | refine blk_drewN ?_ _ | refine blk_drew ?_ | refine blk_alloc ?_ _)); exact BK499.out⟩, ⟨upB_ HB.out⟩⟩
              ·rw [if_neg c30] at H
               exact absurd H (by simp)
             ·rw [if_neg c29] at H
              exact absurd H (by simp)
            ·rw [if_neg c28] at H
             exact absurd H (by simp)
           ·rw [if_neg c27] at H
            have c27b0 : decide (x44_3 < (t507.length : Int)) = false := decide_eq_false c27
            (try (have c27b0qhl5_1 := c27b0; rw [hl5_1] at c27b0qhl5_1))
            (try (have c27b0qhl5_3 := c27b0; rw [hl5_3] at c27b0qhl5_3))
            clear c27; have H' := Aside0.mk H
            clear H; go_wp2
            (try simp only [← hl5_1, ← hl5_3])
            go_roundg k3
            case measure => have := HK1.out; have := HJ13.out; have := HK3.out; omega
            case rel => exact ⟨(x5_3), ((wrap64 (x6_1 + 1))), (wrap64 (x18_1 + 1)), (by first | rfl | (simp; done) | (simp [*]; done)), (by first | rfl | (simp; done) | (simp [*]; done)), H', ⟨by have := HK1.out; have := HJ13.out; have := HK3.out; omega⟩, ⟨by (try simp only [hl5_1, hl5_3]); (with_reducible repeat (first | apply Kd.R_alloc | apply Kd.R_drewN | apply Kd.R_drew)); exact HO_5.out⟩, ⟨by (try simp only [hl5_1, hl5_3]); (with_reducible repeat (first | refine blk_drewN ?_ _ | refine blk_drew ?_ | refine blk_alloc ?_ _)); exact BK499.out⟩, ⟨upB_ HB.out⟩⟩
     ·rw [if_neg c12] at H
      have c12b0 : decide (x18_1 < (y501.length : Int)) = false := decide_eq_false c12
      (try (have c12b0qhl5_1 := c12b0; rw [hl5_1] at c12b0qhl5_1))
      (try (have c12b0qhl5_3 := c12b0; rw [hl5_3] at c12b0qhl5_3))
      clear c12; obtain rfl := Option.some.inj H
      go_wp2
      go_ret
      exact ⟨by first | rfl | (simp [errW_none, errW_some] <;> rfl) | (simp [*, errW_none, errW_some] <;> rfl), by repeat (first | (with_reducible first | exact HB.out | apply below_alloc | apply pw_below_drewN | apply below_drew1 | refine below_set ?_ GE499.out) | exact HB.out)⟩
  ·rw [if_neg c5] at H
   exact absurd H (by simp)
 ·rw [if_neg c4] at H
  exact absurd H (by simp)

end Go.Proofs.Ytajhahafgnefcaa.R
