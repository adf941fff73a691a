-- Written by a program of this session (p2.sh: a patched copy of the kit's printer) out of the translation; not by print.sh. Lean checks it.
import Derived.Test.YtajhahafgnefcaaUp
import Derived.Test.YtajhahafgnefcaaR0
import Derived.Test.YtajhahafgnefcaaR11
namespace Go.Proofs.Ytajhahafgnefcaa.R
open Go.RowKit Go.Proofs.YtajhahafgnefcaaW.PrintWords Go.Proofs.YtajhahafgnefcaaW.PrintLast Go.Proofs.YtajhahafgnefcaaW.PrintMore
attribute [local go_sem] max2_int min2_int max_two min_two max_three min_three max_four min_four   -- for this text's walks alone
set_option linter.unusedVariables false
set_option linter.unusedSimpArgs false

/-! ### spec_whOf: function 75 -/
def spec_whOf.l0 : Nat → Int → List Int → Int → Int → Int → Option (ByteArray)
 | 0, _, _, _, _, _ => none
 | k + 1, x1, x5, x6, x494000, x494001 => if x6 ≥ 0 then (if x494001 = 0 then (none) else (if 0 ≤ x6 then (if x6 < (x5.length : Int) then (spec_whOf.l0 k (wrap64 (Int.tdiv x1 x494001)) (x5.set (x6 : Int).toNat (Int.tmod x1 x494001)) (wrap64 (x6 - 1)) x494000 x494001) else (none)) else (none))) else ((spec_whText.f k x5).bind fun t498 => (some t498))
def spec_whOf.f (k : Nat) (a0_0 : Int) (a0_1 : Int) (a1 : Int) : Option (ByteArray) := if 0 ≤ a0_0 then (if (a0_0 : Int).toNat ≤ 35184372088832 then (spec_whOf.l0 k a1 (List.replicate (a0_0 : Int).toNat 0) (wrap64 (a0_0 - 1)) a0_0 a0_1) else (none)) else (none)
theorem spec_whOf.mono_l : ∀ k, (∀ y0 y1 y2 y3 y4, LeO (spec_whOf.l0 k y0 y1 y2 y3 y4) (spec_whOf.l0 (k + 1) y0 y1 y2 y3 y4))
 | 0 => fun _ _ _ _ _ r h => by simp [spec_whOf.l0] at h
 | k + 1 => by
  have ih0 := spec_whOf.mono_l k
  ·intro y0 y1 y2 y3 y4
   unfold spec_whOf.l0
   repeat' first
   | (with_reducible exact ih0 _ _ _ _ _)
   | (with_reducible exact spec_whText.mono _ _)
   | (with_reducible exact LeO.refl _)
   | (with_reducible exact LeO.none _)
   | (with_reducible refine LeO.ite ?_ ?_)
   | (with_reducible refine LeO.bind ?_ (fun _ => ?_))
   | exact ih0 _ _ _ _ _
   | exact spec_whText.mono _ _
   | exact LeO.none _
   | refine LeO.ite ?_ ?_
   | refine LeO.bind ?_ (fun _ => ?_)
theorem spec_whOf.mono : ∀ a0 a1 a2 k, LeO (spec_whOf.f k a0 a1 a2) (spec_whOf.f (k + 1) a0 a1 a2) := by
 intro a0 a1 a2 k
 have ih0 := spec_whOf.mono_l k
 unfold spec_whOf.f
 repeat' first
   | (with_reducible exact ih0 _ _ _ _ _)
   | (with_reducible exact spec_whText.mono _ _)
   | (with_reducible exact LeO.refl _)
   | (with_reducible exact LeO.none _)
   | (with_reducible refine LeO.ite ?_ ?_)
   | (with_reducible refine LeO.bind ?_ (fun _ => ?_))
   | exact ih0 _ _ _ _ _
   | exact spec_whText.mono _ _
   | exact LeO.none _
   | refine LeO.ite ?_ ?_
   | refine LeO.bind ?_ (fun _ => ?_)
set_option maxHeartbeats 8000000 in
set_option maxRecDepth 100000 in
theorem spec_whOf.calls (k : Nat) (a0_0 : Int) (a0_1 : Int) (a1 : Int) (r : ByteArray) (w : World) (h : spec_whOf.f k a0_0 a0_1 a1 = some r) :
  Calls Try.prog 75 #[.agg #[.int .i64 a0_0, .int .i64 a0_1], .int .i64 a1] w fun e w' => e = .returned (.string r) ∧ Below w.heap.size w w' := by
 have hu30 := Try.underlying30
 have HB := Aside0.mk (Below.refl w.heap.size w)
 have H : (if 0 ≤ a0_0 then (if (a0_0 : Int).toNat ≤ 35184372088832 then (spec_whOf.l0 k a1 (List.replicate (a0_0 : Int).toNat 0) (wrap64 (a0_0 - 1)) a0_0 a0_1) else (none)) else (none)) = some r := h
 clear h; by_cases c3 : 0 ≤ a0_0
 ·rw [if_pos c3] at H
  have c3b0 := eq_true c3
  have c3b1 : decide (0 ≤ a0_0) = true := decide_eq_true c3
  clear c3; by_cases c4 : (a0_0 : Int).toNat ≤ 35184372088832
  ·rw [if_pos c4] at H
   have c4b0 := eq_true c4
   have c4b1 : decide ((a0_0 : Int).toNat ≤ 35184372088832) = true := decide_eq_true c4
   clear c4; obtain ⟨y494, hy494⟩ : ∃ y_ : List Int, y_ = (List.replicate (a0_0 : Int).toNat 0) := ⟨_, rfl⟩
   replace H : (spec_whOf.l0 k a1 y494 (wrap64 (a0_0 - 1)) a0_0 a0_1) = some r := by first | (rw [hy494]; with_reducible exact H) | (have H2_ := (Option.bind_some _ _).symm.trans H; rw [hy494]; with_reducible exact H2_) | (have H2_ := (Option.bind_some _ _).symm.trans H; with_reducible exact H2_) | with_reducible exact H | (rw [hy494]; exact H) | exact H
   have Ny494 := Aside0.mk hy494
   clear hy494; have H' := Aside0.mk H
   clear H; go_enter Try.func75, Try.ntmps75
   go_wp2_with (first | ((with_reducible refine gate_dst (N := 2) rfl ?_); refine box_event ?hg (N := 2) ?hd (cs := #[.int .i64 a0_0, .int .i64 a0_1]) (t := 30) ?hr ?_; (case hd => rfl); (case hg => rfl); (case hr => first | (go_simp; done) | (go_simp; rfl)); intro gb493 hg w5 hbox hb; have n0_ := Aside0.mk (below_step (upB_ HB.out) hb); have n1_ := Aside0.mk (hbox); have n2_ := Aside0.mk ((by rw [hg]; exact (below_size (upB_ HB.out)) : w.heap.size ≤ gb493)); have n3_ := Aside0.mk ((by rw [hg]; exact (below_size (upB_ HB.out)) : w.heap.size ≤ gb493)); clear HB; have HB := n0_; have BK493 := n1_; have GW493 := n2_; have GE493 := n3_; clear n0_ n1_ n2_ n3_; clear hb hbox hg; have hcz6_0 : w5.cell? ⟨gb493, 0, none⟩ = some (.int .i64 a0_0) := (blk_cell BK493.out 0).trans rfl; have hcz6_1 : w5.cell? ⟨gb493, 1, none⟩ = some (.int .i64 a0_1) := (blk_cell BK493.out 1).trans rfl; have hfz6_0 := blk_frozen BK493.out 0; have hfz6_1 := blk_frozen BK493.out 1) | ((with_reducible refine gate_dst (N := 9) rfl ?_); refine Kd.R_make (Kd.int .i64) _ 3 rfl (N := 9) rfl 71 _ _ rfl a0_0 rfl rfl Try.underlying71 (.int .i64 0) 8 info3 rfl (by decide) (by omega) 0 (ok := fun _ => True) (okp := fun _ => True) rfl (fun _ hk => hk) trivial (of_decide_eq_true (by first | (with_reducible assumption) | assumption)) (Nat.le_trans (Nat.mul_le_mul_right _ (of_decide_eq_true (by first | (with_reducible assumption) | assumption) : a0_0.toNat ≤ 35184372088832)) (by omega)) (Below.refl _ _) (Nat.le_refl _) ?_; intro v495 w7 ho8 hb hg_ hnew_; clear hg_ hnew_; (first | rw [← Ny494.out] at ho8 | (simp only [Int.reduceToNat] at ho8; rw [← Ny494.out] at ho8)); have n0_ := Aside0.mk (Kd.R_lower ho8 (below_size (upB_ HB.out))); have n1_ := Aside0.mk (blk_below (g := gb493) (o := .cells #[.int .i64 a0_0, .int .i64 a0_1] 30 (0, 0)) (upK_ BK493.out) hb); have n2_ := Aside0.mk (below_step (upB_ HB.out) hb); clear BK493; clear HB; have HO496 := n0_; have BK493 := n1_; have HB := n2_; clear n0_ n1_ n2_; clear hb ho8; have hcz9_0 : w7.cell? ⟨gb493, 0, none⟩ = some (.int .i64 a0_0) := (blk_cell BK493.out 0).trans rfl; have hcz9_1 : w7.cell? ⟨gb493, 1, none⟩ = some (.int .i64 a0_1) := (blk_cell BK493.out 1).trans rfl; have hfz9_0 := blk_frozen BK493.out 0; have hfz9_1 := blk_frozen BK493.out 1))
   go_loopg [1, 6] k (fun kq v1 v6 w' => ∃ (x1_1 : Int) (x5_1 : List Int) (x6_1 : Int), v1 = .int .i64 x1_1 ∧ v6 = .int .i64 x6_1 ∧ Aside0 (spec_whOf.l0 kq x1_1 x5_1 x6_1 a0_0 a0_1 = some r) ∧ Aside0 (kq ≤ k) ∧ Aside0 (Kd.R (Kd.int .i64) 3 w' w.heap.size (fun _ => True) v495 x5_1) ∧ Aside0 (w'.heap[gb493]? = some (.cells #[.int .i64 a0_0, .int .i64 a0_1] 30 (0, 0))) ∧ Aside0 (Below w.heap.size w w'))
   case atStart => exact ⟨(a1), (y494), (wrap64 (a0_0 - 1)), (by first | rfl | (simp; done) | (simp [*]; done)), (by first | rfl | (simp; done) | (simp [*]; done)), H', ⟨Nat.le_refl _⟩, ⟨upR_ HO496.out⟩, ⟨upK_ BK493.out⟩, ⟨upB_ HB.out⟩⟩
   case round =>
    clear H'; try clear p2
    try clear c3
    try clear c3b0
    try clear c3b1
    try clear c4
    try clear c4b0
    try clear c4b1
    try clear p6
    try clear c7
    try clear hcz6_0
    try clear hcz6_1
    try clear hcz9_0
    try clear hcz9_1
    try clear hfz6_0
    try clear hfz6_1
    try clear hfz9_0
    try clear hfz9_1
    obtain ⟨x1_1, x5_1, x6_1, rfl, rfl, HA, HK1, HO_5, BK493, HB⟩ := hrel
    cases gk with
    | zero => exact absurd HA.out (by simp [spec_whOf.l0])
    | succ k1 =>
     have H := HA.out
     clear HA; simp only [spec_whOf.l0] at H
     by_cases c10 : x6_1 ≥ 0
     ·rw [if_pos c10] at H
      have c10b0 : decide (0 ≤ x6_1) = true := decide_eq_true c10
      clear c10; by_cases c11 : a0_1 = 0
      ·rw [if_pos c11] at H
       exact absurd H (by simp)
      ·rw [if_neg c11] at H
       have c11b0 : (a0_1 == 0) = false := beq_eq_false_iff_ne.mpr c11
       have c11b1 : (a0_1 != 0) = true := bne_iff_ne.mpr c11
       by_cases c12 : 0 ≤ x6_1
       ·rw [if_pos c12] at H
        have c12b0 : decide (0 ≤ x6_1) = true := decide_eq_true c12
        clear c12; by_cases c13 : x6_1 < (x5_1.length : Int)
        ·rw [if_pos c13] at H
         have c13b0 : decide (x6_1 < (x5_1.length : Int)) = true := decide_eq_true c13
         clear c13; obtain ⟨y497, hy497⟩ : ∃ y_ : List Int, y_ = (x5_1.set (x6_1 : Int).toNat (Int.tmod x1_1 a0_1)) := ⟨_, rfl⟩
         replace H : (spec_whOf.l0 k1 (wrap64 (Int.tdiv x1_1 a0_1)) y497 (wrap64 (x6_1 - 1)) a0_0 a0_1) = some r := by first | (rw [hy497]; with_reducible exact H) | (have H2_ := (Option.bind_some _ _).symm.trans H; rw [hy497]; with_reducible exact H2_) | (have H2_ := (Option.bind_some _ _).symm.trans H; with_reducible exact H2_) | with_reducible exact H | (rw [hy497]; exact H) | exact H
         have Ny497 := Aside0.mk hy497
         clear hy497; have H' := Aside0.mk H
         clear H; have hcz15_0 : wr.cell? ⟨gb493, 0, none⟩ = some (.int .i64 a0_0) := (blk_cell BK493.out 0).trans rfl
         have hcz15_1 : wr.cell? ⟨gb493, 1, none⟩ = some (.int .i64 a0_1) := (blk_cell BK493.out 1).trans rfl
         have hfz15_0 := blk_frozen BK493.out 0
         have hfz15_1 := blk_frozen BK493.out 1
         have p14 : 0 ≤ (x6_1 : Int) := of_decide_eq_true (by first | (with_reducible assumption) | assumption)
         have q14 : (x6_1 : Int) < ((x5_1.length : Int) : Int) := of_decide_eq_true (by first | (with_reducible assumption) | assumption)
         obtain ⟨go14, co14, eo14, gb14, gl14, cl14, HG14⟩ := Kd.R_form HO_5.out (by omega)
         (first | cases eo14 | (injection eo14 with ea_ en_ ec_; (first | subst ea_ | (injection ea_ with ea_; subst ea_)); subst ec_; clear en_))
         have GB14 := Aside0.mk gb14
         have GG14 := Aside0.mk HG14
         clear gb14 gl14 HG14; obtain ⟨hx14_0, hf14_0⟩ := Kd.R_celln 0 HO_5.out (x6_1 : Int) p14 q14
         replace p14 := eq_true p14
         replace q14 := eq_true q14
         have HP16 := Kd.R_putg HO_5.out (x6_1 : Int) (Int.tmod x1_1 a0_1)
         go_wp2_with (first | ((with_reducible refine gate_store (t := 3) (p := 23) rfl ?_); refine store_event (t := 3) (p := 23) (v := ?vo_w17) (w1 := (wr.setCell ⟨go14, (x6_1 : Int).toNat, none⟩ (.int .i64 (Int.tmod x1_1 a0_1)))) ?hg ?ho ?hn ?hr ?_; (case ho => rfl); (case hg => rfl); (case hn => rfl); (case hr => first | (go_simp; done) | (go_simp; rfl)); intro w17 hw; have hg : wr.grownBy w17 (some go14) := (by rw [hw]; exact HP16.2); have hp_ : Kd.R (Kd.int .i64) 3 w17 w.heap.size (fun _ => True) (.slice (some ⟨go14, 0, none⟩) x5_1.length co14) y497 := (by rw [hw, Ny497.out]; exact HP16.1); clear HP16; have n0_ := Aside0.mk (hp_); have n1_ := Aside0.mk (blk_grown (g := gb493) (o := .cells #[.int .i64 a0_0, .int .i64 a0_1] 30 (0, 0)) (upK_ BK493.out) hg (Kd.R_ne HO_5.out BK493.out (by decide))); have n2_ := Aside0.mk ((by rw [hw]; exact below_set (HB.out) GB14.out : Below w.heap.size w w17)); clear HO_5; clear BK493; clear HB; have HO_5 := n0_; have BK493 := n1_; have HB := n2_; clear n0_ n1_ n2_; clear hg hw hp_; have hcz18_0 : w17.cell? ⟨gb493, 0, none⟩ = some (.int .i64 a0_0) := (blk_cell BK493.out 0).trans rfl; have hcz18_1 : w17.cell? ⟨gb493, 1, none⟩ = some (.int .i64 a0_1) := (blk_cell BK493.out 1).trans rfl; have hfz18_0 := blk_frozen BK493.out 0; have hfz18_1 := blk_frozen BK493.out 1))
         go_roundg k1
         case measure => have := HK1.out; omega
         case rel => exact ⟨(wrap64 (Int.tdiv x1_1 a0_1)), (y497), (wrap64 (x6_1 - 1)), (by first | rfl | (simp; done) | (simp [*]; done)), (by first | rfl | (simp; done) | (simp [*]; done)), H', ⟨by have := HK1.out; omega⟩, ⟨upR_ HO_5.out⟩, ⟨upK_ BK493.out⟩, ⟨upB_ HB.out⟩⟩
        ·rw [if_neg c13] at H
         exact absurd H (by simp)
       ·rw [if_neg c12] at H
        exact absurd H (by simp)
     ·rw [if_neg c10] at H
      have c10b0 : decide (0 ≤ x6_1) = false := decide_eq_false c10
      clear c10; replace H := Option.bind_eq_some_iff.mp H
      obtain ⟨t498, A190, H⟩ := H
      replace H : (some t498) = some r := H
      have A19 := Aside0.mk A190
      clear A190; obtain rfl := Option.some.inj H
      obtain ⟨Ao20, co20, eo20⟩ := Kd.R_slice HO_5.out
      subst eo20
      go_wp2_with (first | ((with_reducible refine gate_callee (f := 103) rfl ?_); refine goesL_ (some 29) rfl rfl Try.func103 (by kernel_rfl) rfl #[.slice Ao20 x5_1.length co20] rfl (by (try simp only [List.map_toArray, List.map_cons, List.map_nil]); first | done | rfl | (simp only [List.length_drop, List.length_take]; rfl)) ?_; (with_reducible refine (spec_whText.calls k1 _ _ x5_1 t498 _ ?side1 ?side2 A19.out).mono ?_); (case side1 => repeat (first | exact (Kd.R_reads' HO_5.out).2.2 | (with_reducible refine Kd.C_alloc ?_ _) | (with_reducible refine Kd.C_drewN ?_ _) | (with_reducible refine Kd.C_drew ?_))); (case side2 => exact (Kd.R_reads' HO_5.out).2.1); rintro e w21 ⟨rfl, hb⟩; refine ⟨_, rfl, ?_⟩; have n0_ := Aside0.mk (Kd.R_below (upR_ HO_5.out) hb); have n1_ := Aside0.mk (blk_below (g := gb493) (o := .cells #[.int .i64 a0_0, .int .i64 a0_1] 30 (0, 0)) (upK_ BK493.out) hb); have n2_ := Aside0.mk (below_step (upB_ HB.out) hb); clear HO_5; clear BK493; clear HB; have HO_5 := n0_; have BK493 := n1_; have HB := n2_; clear n0_ n1_ n2_; (try clear hb); (try clear hb2); (try clear hk); (try clear hi)))
      go_ret
      exact ⟨by first | rfl | (simp [errW_none, errW_some] <;> rfl) | (simp [*, errW_none, errW_some] <;> rfl), by repeat (first | (with_reducible first | exact HB.out | apply below_alloc | apply pw_below_drewN | apply below_drew1 | refine below_set ?_ GE493.out) | exact HB.out)⟩
  ·rw [if_neg c4] at H
   exact absurd H (by simp)
 ·rw [if_neg c3] at H
  exact absurd H (by simp)

end Go.Proofs.Ytajhahafgnefcaa.R
