-- Written by a program of this session (p2.sh: a patched copy of the kit's printer) out of the translation; not by print.sh. Lean checks it.
import Derived.Test.YtajhahafgnefcaaUp
import Derived.Test.YtajhahafgnefcaaR0
import Derived.Test.YtajhahafgnefcaaR43
import Derived.Test.YtajhahafgnefcaaR49
namespace Go.Proofs.Ytajhahafgnefcaa.R
open Go.RowKit Go.Proofs.YtajhahafgnefcaaW.PrintWords Go.Proofs.YtajhahafgnefcaaW.PrintLast Go.Proofs.YtajhahafgnefcaaW.PrintMore
attribute [local go_sem] max2_int min2_int max_two min_two max_three min_three max_four min_four   -- for this text's walks alone
set_option linter.unusedVariables false
set_option linter.unusedSimpArgs false

/-! ### impl_field_parts: function 67 -/
mutual
def impl_field_parts.l0 : Nat → List Bool → Int → Int → Int → Int → Int → List Bool → Option (Int)
 | 0, _, _, _, _, _, _, _ => none
 | k + 1, x3, x4, x12, x13, x522000, x522001, x522002 => if x13 < x12 then (if 0 ≤ x13 then (if x13 < (x3.length : Int) then (if rdOf false x3 x13 = true then (impl_field_parts.l0 k x3 x4 x12 (wrap64 (x13 + 1)) x522000 x522001 x522002) else ((impl_field_far.f k x522000 x522001 x522002 x13).bind fun t526 => (impl_field_parts.l1 k x3 (wrap64 (x4 + 1)) x12 x13 t526 (t526.length : Int) 0 x522000 x522001 x522002))) else (none)) else (none)) else (some x4)
def impl_field_parts.l1 : Nat → List Bool → Int → Int → Int → List Int → Int → Int → Int → Int → List Bool → Option (Int)
 | 0, _, _, _, _, _, _, _, _, _, _ => none
 | k + 1, x3, x4, x12, x13, x24, x25, x26, x522000, x522001, x522002 => if x26 < x25 then (if 0 ≤ x26 then (if x26 < (x24.length : Int) then (if x26 < (x3.length : Int) then (if rdOf false x3 x26 = true then (impl_field_parts.l1 k (x3.set (x26 : Int).toNat true) x4 x12 x13 x24 x25 (wrap64 (x26 + 1)) x522000 x522001 x522002) else (impl_field_parts.l1 k (x3.set (x26 : Int).toNat (decide ((rd x24 x26) ≥ 0))) x4 x12 x13 x24 x25 (wrap64 (x26 + 1)) x522000 x522001 x522002)) else (none)) else (none)) else (none)) else (impl_field_parts.l0 k x3 x4 x12 (wrap64 (x13 + 1)) x522000 x522001 x522002)
end
def impl_field_parts.f (k : Nat) (a0_0 : Int) (a0_1 : Int) (l0_2 : List Bool) : Option (Int) := (slices_Clone_bool_bool.f l0_2).bind fun t522 => (impl_field_parts.l0 k t522 0 (t522.length : Int) 0 a0_0 a0_1 l0_2)
theorem impl_field_parts.mono_l : ∀ k, (∀ y0 y1 y2 y3 y4 y5 y6, LeO (impl_field_parts.l0 k y0 y1 y2 y3 y4 y5 y6) (impl_field_parts.l0 (k + 1) y0 y1 y2 y3 y4 y5 y6)) ∧ (∀ y0 y1 y2 y3 y4 y5 y6 y7 y8 y9, LeO (impl_field_parts.l1 k y0 y1 y2 y3 y4 y5 y6 y7 y8 y9) (impl_field_parts.l1 (k + 1) y0 y1 y2 y3 y4 y5 y6 y7 y8 y9))
 | 0 => ⟨fun _ _ _ _ _ _ _ r h => by simp [impl_field_parts.l0] at h, fun _ _ _ _ _ _ _ _ _ _ r h => by simp [impl_field_parts.l1] at h⟩
 | k + 1 => by
  obtain ⟨ih0, ih1⟩ := impl_field_parts.mono_l k
  refine ⟨?_, ?_⟩
  ·intro y0 y1 y2 y3 y4 y5 y6
   unfold impl_field_parts.l0
   repeat' (with_reducible first | exact ih0 _ _ _ _ _ _ _ | exact ih1 _ _ _ _ _ _ _ _ _ _ | exact impl_field_far.mono _ _ _ _ _ | exact LeO.refl _ | exact LeO.none _ | refine LeO.ite ?_ ?_ | refine LeO.bind ?_ (fun _ => ?_))
  ·intro y0 y1 y2 y3 y4 y5 y6 y7 y8 y9
   unfold impl_field_parts.l1
   repeat' (with_reducible first | exact ih0 _ _ _ _ _ _ _ | exact ih1 _ _ _ _ _ _ _ _ _ _ | exact impl_field_far.mono _ _ _ _ _ | exact LeO.refl _ | exact LeO.none _ | refine LeO.ite ?_ ?_ | refine LeO.bind ?_ (fun _ => ?_))
theorem impl_field_parts.mono : ∀ a0 a1 a2 k, LeO (impl_field_parts.f k a0 a1 a2) (impl_field_parts.f (k + 1) a0 a1 a2) := by
 intro a0 a1 a2 k
 obtain ⟨ih0, ih1⟩ := impl_field_parts.mono_l k
 unfold impl_field_parts.f
 repeat' (with_reducible first | exact ih0 _ _ _ _ _ _ _ | exact ih1 _ _ _ _ _ _ _ _ _ _ | exact impl_field_far.mono _ _ _ _ _ | exact LeO.refl _ | exact LeO.none _ | refine LeO.ite ?_ ?_ | refine LeO.bind ?_ (fun _ => ?_))
set_option maxHeartbeats 8000000 in
set_option maxRecDepth 100000 in
theorem impl_field_parts.calls (k : Nat) (a0_0 : Int) (a0_1 : Int) (A0_2 : Option Addr) (c0_2 : Nat) (l0_2 : List Bool) (r : Int) (w : World) (hr0_2 : Kd.C Kd.bool w A0_2 l0_2.length l0_2) (hc0_2 : l0_2.length ≤ c0_2) (h : impl_field_parts.f k a0_0 a0_1 l0_2 = some r) :
  Calls Try.prog 67 #[.agg #[.int .i64 a0_0, .int .i64 a0_1, .slice A0_2 l0_2.length c0_2]] w fun e w' => e = .returned (.int .i64 r) ∧ Below w.heap.size w w' := by
 have hu70 := Try.underlying70
 have HR0_2 := Aside0.mk hr0_2
 have HC0_2 := Aside0.mk hc0_2
 clear hr0_2 hc0_2; have HB := Aside0.mk (Below.refl w.heap.size w)
 have H : ((slices_Clone_bool_bool.f l0_2).bind fun t522 => (impl_field_parts.l0 k t522 0 (t522.length : Int) 0 a0_0 a0_1 l0_2)) = some r := h
 clear h; replace H := Option.bind_eq_some_iff.mp H
 obtain ⟨t522, A20, H⟩ := H
 replace H : (impl_field_parts.l0 k t522 0 (t522.length : Int) 0 a0_0 a0_1 l0_2) = some r := H
 have A2 := Aside0.mk A20
 clear A20; have H' := Aside0.mk H
 clear H; go_enter Try.func67, Try.ntmps67
 go_wp2_with (first | ((with_reducible refine gate_dst (N := 1) rfl ?_); refine box_event ?hg (N := 1) ?hd (cs := #[.int .i64 a0_0, .int .i64 a0_1, .slice A0_2 l0_2.length c0_2]) (t := 70) ?hr ?_; (case hd => rfl); (case hg => rfl); (case hr => first | (go_simp; done) | (go_simp; rfl)); intro gb521 hg w3 hbox hb; have n0_ := Aside0.mk (below_step (upB_ HB.out) hb); have n1_ := Aside0.mk (hbox); have n2_ := Aside0.mk ((by rw [hg]; exact (below_size (upB_ HB.out)) : w.heap.size ≤ gb521)); have n3_ := Aside0.mk ((by rw [hg]; exact (below_size (upB_ HB.out)) : w.heap.size ≤ gb521)); clear HB; have HB := n0_; have BK521 := n1_; have GW521 := n2_; have GE521 := n3_; clear n0_ n1_ n2_ n3_; clear hb hbox hg; have hcz4_0 : w3.cell? ⟨gb521, 0, none⟩ = some (.int .i64 a0_0) := (blk_cell BK521.out 0).trans rfl; have hcz4_1 : w3.cell? ⟨gb521, 1, none⟩ = some (.int .i64 a0_1) := (blk_cell BK521.out 1).trans rfl; have hcz4_2 : w3.cell? ⟨gb521, 2, none⟩ = some (.slice A0_2 l0_2.length c0_2) := (blk_cell BK521.out 2).trans rfl; have hfz4_0 := blk_frozen BK521.out 0; have hfz4_1 := blk_frozen BK521.out 1; have hfz4_2 := blk_frozen BK521.out 2) | ((with_reducible refine gate_callee (f := 98) rfl ?_); refine goesL_ (some 10) rfl rfl Try.func98 (by kernel_rfl) rfl #[.slice A0_2 l0_2.length c0_2] rfl (by (try simp only [List.map_toArray, List.map_cons, List.map_nil]); first | done | rfl | (simp only [List.length_drop, List.length_take]; rfl)) ?_; (with_reducible refine (slices_Clone_bool_bool.calls _ _ l0_2 t522 _ ?side1 ?side2 A2.out).mono ?_); (case side1 => repeat (first | exact (Kd.C_below HR0_2.out HB.out) | (with_reducible refine Kd.C_alloc ?_ _) | (with_reducible refine Kd.C_drewN ?_ _) | (with_reducible refine Kd.C_drew ?_))); (case side2 => exact HC0_2.out); rintro e w5 ⟨v523, rfl, ho0, hb⟩; refine ⟨_, rfl, ?_⟩; have n0_ := Aside0.mk (Kd.R_lower ho0 (below_size (upB_ HB.out))); have n1_ := Aside0.mk (blk_below (g := gb521) (o := .cells #[.int .i64 a0_0, .int .i64 a0_1, .slice A0_2 l0_2.length c0_2] 70 (0, 0)) (upK_ BK521.out) hb); have n2_ := Aside0.mk (below_step (upB_ HB.out) hb); clear BK521; clear HB; have HO524 := n0_; have BK521 := n1_; have HB := n2_; clear n0_ n1_ n2_; (try clear hb); (try clear hb2); (try clear hk); (try clear hi); (try clear ho0); obtain ⟨Ao6, co6, eo6⟩ := Kd.R_slice HO524.out; subst eo6))
 go_loopg [4, 13] k (fun kq v4 v13 w' => ∃ (x3_1 : List Bool) (x4_1 : Int) (x13_1 : Int), v4 = .int .i64 x4_1 ∧ v13 = .int .i64 x13_1 ∧ Aside0 (impl_field_parts.l0 kq x3_1 x4_1 (t522.length : Int) x13_1 a0_0 a0_1 l0_2 = some r) ∧ Aside0 (kq ≤ k) ∧ Aside0 (Kd.R Kd.bool 4 w' w.heap.size (fun _ => True) (.slice Ao6 t522.length co6) x3_1) ∧ Aside0 (w'.heap[gb521]? = some (.cells #[.int .i64 a0_0, .int .i64 a0_1, (.slice A0_2 l0_2.length c0_2)] 70 (0, 0))) ∧ Aside0 (Below w.heap.size w w'))
 case atStart => exact ⟨(t522), (0), (0), (by first | rfl | (simp; done) | (simp [*]; done)), (by first | rfl | (simp; done) | (simp [*]; done)), H', ⟨Nat.le_refl _⟩, ⟨upR_ HO524.out⟩, ⟨upK_ BK521.out⟩, ⟨upB_ HB.out⟩⟩
 case round =>
  clear H'; try clear p2
  try clear c6
  try clear hcz4_0
  try clear hcz4_1
  try clear hcz4_2
  try clear hfz4_0
  try clear hfz4_1
  try clear hfz4_2
  obtain ⟨x3_1, x4_1, x13_1, rfl, rfl, HA, HK1, HO_3, BK521, HB⟩ := hrel
  have hl3_1 := (Kd.R_reads' HO_3.out).1
  rw [hl3_1] at HO_3
  (try simp only [hl3_1])
  (try simp only [hl3_1] at BK521)
  cases gk with
  | zero => exact absurd HA.out (by simp [impl_field_parts.l0])
  | succ k1 =>
   have H := HA.out
   clear HA; simp only [impl_field_parts.l0] at H
   by_cases c7 : x13_1 < (t522.length : Int)
   ·rw [if_pos c7] at H
    have c7b0 : decide (x13_1 < (t522.length : Int)) = true := decide_eq_true c7
    (try (have c7b0qhl3_1 := c7b0; rw [hl3_1] at c7b0qhl3_1))
    clear c7; by_cases c8 : 0 ≤ x13_1
    ·rw [if_pos c8] at H
     have c8b0 : decide (0 ≤ x13_1) = true := decide_eq_true c8
     clear c8; by_cases c9 : x13_1 < (x3_1.length : Int)
     ·rw [if_pos c9] at H
      have c9b0 : decide (x13_1 < (x3_1.length : Int)) = true := decide_eq_true c9
      (try (have c9b0qhl3_1 := c9b0; rw [hl3_1] at c9b0qhl3_1))
      clear c9; obtain ⟨bq10, hbq10⟩ : ∃ b_ : Bool, b_ = (rdOf false x3_1 x13_1) := ⟨_, rfl⟩
      replace H : (if bq10 = true then (impl_field_parts.l0 k1 x3_1 x4_1 (t522.length : Int) (wrap64 (x13_1 + 1)) a0_0 a0_1 l0_2) else ((impl_field_far.f k1 a0_0 a0_1 l0_2 x13_1).bind fun t526 => (impl_field_parts.l1 k1 x3_1 (wrap64 (x4_1 + 1)) (t522.length : Int) x13_1 t526 (t526.length : Int) 0 a0_0 a0_1 l0_2))) = some r := by rw [← hbq10] at H; exact H
      have Nbq10 := Aside0.mk hbq10
      clear hbq10; by_cases c11 : bq10 = true
      ·subst c11
       have H1 : (impl_field_parts.l0 k1 x3_1 x4_1 (t522.length : Int) (wrap64 (x13_1 + 1)) a0_0 a0_1 l0_2) = some r := by rw [if_pos rfl] at H; exact H
       clear H; have H := H1
       clear H1; have H' := Aside0.mk H
       clear H; have p525 : 0 ≤ (x13_1 : Int) := of_decide_eq_true (by first | (with_reducible assumption) | assumption)
       have q525 : x13_1 < (x3_1.length : Int) := of_decide_eq_true (by first | (with_reducible assumption) | assumption)
       obtain ⟨ad525, e525, hx525_0⟩ := Kd.at_bool (Kd.R_reads' HO_3.out).2.2 x13_1 p525 q525
       (try rw [← Nbq10.out] at hx525_0)
       cases e525
       replace p525 := eq_true p525
       replace q525 := eq_true q525
       go_wp2
       (try simp only [← hl3_1])
       go_roundg k1
       case measure => have := HK1.out; omega
       case rel => exact ⟨(x3_1), (x4_1), (wrap64 (x13_1 + 1)), (by first | rfl | (simp; done) | (simp [*]; done)), (by first | rfl | (simp; done) | (simp [*]; done)), H', ⟨by have := HK1.out; omega⟩, ⟨by (try simp only [hl3_1]); (with_reducible repeat (first | apply Kd.R_alloc | apply Kd.R_drewN | apply Kd.R_drew)); exact HO_3.out⟩, ⟨by (try simp only [hl3_1]); (with_reducible repeat (first | refine blk_drewN ?_ _ | refine blk_drew ?_ | refine blk_alloc ?_ _)); exact BK521.out⟩, ⟨upB_ HB.out⟩⟩
      ·replace c11 := Bool.eq_false_iff.mpr c11
       subst c11
       have H1 : ((impl_field_far.f k1 a0_0 a0_1 l0_2 x13_1).bind fun t526 => (impl_field_parts.l1 k1 x3_1 (wrap64 (x4_1 + 1)) (t522.length : Int) x13_1 t526 (t526.length : Int) 0 a0_0 a0_1 l0_2)) = some r := by rw [if_neg (show ¬ (false = true) by decide)] at H; exact H
       clear H; have H := H1
       clear H1; replace H := Option.bind_eq_some_iff.mp H
       obtain ⟨t526, A120, H⟩ := H
       replace H : (impl_field_parts.l1 k1 x3_1 (wrap64 (x4_1 + 1)) (t522.length : Int) x13_1 t526 (t526.length : Int) 0 a0_0 a0_1 l0_2) = some r := H
       have A12 := Aside0.mk A120
       clear A120; have H' := Aside0.mk H
       clear H; have p525 : 0 ≤ (x13_1 : Int) := of_decide_eq_true (by first | (with_reducible assumption) | assumption)
       have q525 : x13_1 < (x3_1.length : Int) := of_decide_eq_true (by first | (with_reducible assumption) | assumption)
       obtain ⟨ad525, e525, hx525_0⟩ := Kd.at_bool (Kd.R_reads' HO_3.out).2.2 x13_1 p525 q525
       (try rw [← Nbq10.out] at hx525_0)
       cases e525
       replace p525 := eq_true p525
       replace q525 := eq_true q525
       have hcz13_0 : wr.cell? ⟨gb521, 0, none⟩ = some (.int .i64 a0_0) := (blk_cell BK521.out 0).trans rfl
       have hcz13_1 : wr.cell? ⟨gb521, 1, none⟩ = some (.int .i64 a0_1) := (blk_cell BK521.out 1).trans rfl
       have hcz13_2 : wr.cell? ⟨gb521, 2, none⟩ = some (.slice A0_2 l0_2.length c0_2) := (blk_cell BK521.out 2).trans rfl
       have hfz13_0 := blk_frozen BK521.out 0
       have hfz13_1 := blk_frozen BK521.out 1
       have hfz13_2 := blk_frozen BK521.out 2
       go_wp2_with (first | ((with_reducible refine gate_callee (f := 94) rfl ?_); refine goesL_ (some 24) rfl rfl Try.func94 (by kernel_rfl) rfl #[.agg #[.int .i64 a0_0, .int .i64 a0_1, .slice A0_2 l0_2.length c0_2], .int .i64 x13_1] rfl (by (try simp only [List.map_toArray, List.map_cons, List.map_nil]); first | done | rfl | (simp only [List.length_drop, List.length_take]; rfl)) ?_; (with_reducible refine (impl_field_far.calls k1 a0_0 a0_1 _ _ l0_2 x13_1 t526 _ ?side1 ?side2 A12.out).mono ?_); (case side1 => repeat (first | exact (Kd.C_below HR0_2.out HB.out) | (with_reducible refine Kd.C_alloc ?_ _) | (with_reducible refine Kd.C_drewN ?_ _) | (with_reducible refine Kd.C_drew ?_))); (case side2 => exact HC0_2.out); rintro e w14 ⟨v527, rfl, ho0, hb⟩; refine ⟨_, rfl, ?_⟩; have n0_ := Aside0.mk (Kd.R_below (upR_ HO_3.out) hb); have n1_ := Aside0.mk (Kd.R_lower ho0 (below_size (upB_ HB.out))); have n2_ := Aside0.mk (blk_below (g := gb521) (o := .cells #[.int .i64 a0_0, .int .i64 a0_1, .slice A0_2 l0_2.length c0_2] 70 (0, 0)) (upK_ BK521.out) hb); have n3_ := Aside0.mk (below_step (upB_ HB.out) hb); clear HO_3; clear BK521; clear HB; have HO_3 := n0_; have HO528 := n1_; have BK521 := n2_; have HB := n3_; clear n0_ n1_ n2_ n3_; (try clear hb); (try clear hb2); (try clear hk); (try clear hi); (try clear ho0); obtain ⟨Ao15, co15, eo15⟩ := Kd.R_slice HO528.out; subst eo15))
       (first | generalize ad525.add (x13_1 : Int).toNat = adT_ at hx525_0 ⊢ | generalize ad525.add (x13_1 : Int).toNat = adT_)
       go_loopg [26] k1 (fun kq v26 w' => ∃ (x3_2 : List Bool) (x26_2 : Int), v26 = .int .i64 x26_2 ∧ Aside0 (impl_field_parts.l1 kq x3_2 (wrap64 (x4_1 + 1)) (t522.length : Int) x13_1 t526 (t526.length : Int) x26_2 a0_0 a0_1 l0_2 = some r) ∧ Aside0 (kq ≤ k1) ∧ Aside0 (Kd.R Kd.bool 4 w' w.heap.size (fun _ => True) (.slice (some ad525) x3_1.length co6) x3_2) ∧ Aside0 (Kd.R (Kd.int .i64) 3 w' w.heap.size (fun _ => True) (.slice Ao15 t526.length co15) t526) ∧ Aside0 (w'.heap[gb521]? = some (.cells #[.int .i64 a0_0, .int .i64 a0_1, (.slice A0_2 l0_2.length c0_2)] 70 (0, 0))) ∧ Aside0 (Below w.heap.size w w'))
       case atStart => exact ⟨(x3_1), (0), (by first | rfl | (simp; done) | (simp [*]; done)), H', ⟨Nat.le_refl _⟩, ⟨by (try simp only [hl3_1]); (with_reducible repeat (first | apply Kd.R_alloc | apply Kd.R_drewN | apply Kd.R_drew)); exact HO_3.out⟩, ⟨by (try simp only [hl3_1]); (with_reducible repeat (first | apply Kd.R_alloc | apply Kd.R_drewN | apply Kd.R_drew)); exact HO528.out⟩, ⟨by (try simp only [hl3_1]); (with_reducible repeat (first | refine blk_drewN ?_ _ | refine blk_drew ?_ | refine blk_alloc ?_ _)); exact BK521.out⟩, ⟨upB_ HB.out⟩⟩
       case round =>
        clear H'; try clear c1
        try clear q1
        try clear p2
        try clear p5
        try clear q5
        try clear hx5
        try clear c6
        try clear p6
        try clear c7
        try clear c7b0
        try clear c8
        try clear c8b0
        try clear c9
        try clear c9b0
        try clear q10
        try clear c11
        try clear hcz13_0
        try clear hcz13_1
        try clear hcz13_2
        try clear hcz4_0
        try clear hcz4_1
        try clear hcz4_2
        try clear hfz13_0
        try clear hfz13_1
        try clear hfz13_2
        try clear hfz4_0
        try clear hfz4_1
        try clear hfz4_2
        try clear hx525_0
        try clear p2
        try clear p525
        try clear q525
        obtain ⟨x3_2, x26_2, rfl, HA, HK2, HO_3, HO_24, BK521, HB⟩ := hrel
        have hl3_2 := (Kd.R_reads' HO_3.out).1
        rw [hl3_2] at HO_3
        (try simp only [hl3_2])
        (try simp only [hl3_2] at BK521)
        (try simp only [hl3_2] at HO_24)
        cases gk with
        | zero => exact absurd HA.out (by simp [impl_field_parts.l1])
        | succ k2 =>
         have H := HA.out
         clear HA; simp only [impl_field_parts.l1] at H
         by_cases c16 : x26_2 < (t526.length : Int)
         ·rw [if_pos c16] at H
          have c16b0 : decide (x26_2 < (t526.length : Int)) = true := decide_eq_true c16
          (try (have c16b0qhl3_1 := c16b0; rw [hl3_1] at c16b0qhl3_1))
          (try (have c16b0qhl3_2 := c16b0; rw [hl3_2] at c16b0qhl3_2))
          clear c16; by_cases c17 : 0 ≤ x26_2
          ·rw [if_pos c17] at H
           have c17b0 : decide (0 ≤ x26_2) = true := decide_eq_true c17
           clear c17; by_cases c18 : x26_2 < (t526.length : Int)
           ·rw [if_pos c18] at H
            have c18b0 : decide (x26_2 < (t526.length : Int)) = true := decide_eq_true c18
            (try (have c18b0qhl3_1 := c18b0; rw [hl3_1] at c18b0qhl3_1))
            (try (have c18b0qhl3_2 := c18b0; rw [hl3_2] at c18b0qhl3_2))
            clear c18; by_cases c19 : x26_2 < (x3_2.length : Int)
            ·rw [if_pos c19] at H
             have c19b0 : decide (x26_2 < (x3_2.length : Int)) = true := decide_eq_true c19
             (try (have c19b0qhl3_1 := c19b0; rw [hl3_1] at c19b0qhl3_1))
             (try (have c19b0qhl3_2 := c19b0; rw [hl3_2] at c19b0qhl3_2))
             clear c19; obtain ⟨bq20, hbq20⟩ : ∃ b_ : Bool, b_ = (rdOf false x3_2 x26_2) := ⟨_, rfl⟩
             replace H : (if bq20 = true then (impl_field_parts.l1 k2 (x3_2.set (x26_2 : Int).toNat true) (wrap64 (x4_1 + 1)) (t522.length : Int) x13_1 t526 (t526.length : Int) (wrap64 (x26_2 + 1)) a0_0 a0_1 l0_2) else (impl_field_parts.l1 k2 (x3_2.set (x26_2 : Int).toNat (decide ((rd t526 x26_2) ≥ 0))) (wrap64 (x4_1 + 1)) (t522.length : Int) x13_1 t526 (t526.length : Int) (wrap64 (x26_2 + 1)) a0_0 a0_1 l0_2)) = some r := by rw [← hbq20] at H; exact H
             have Nbq20 := Aside0.mk hbq20
             clear hbq20; by_cases c21 : bq20 = true
             ·subst c21
              have H1 : (impl_field_parts.l1 k2 (x3_2.set (x26_2 : Int).toNat true) (wrap64 (x4_1 + 1)) (t522.length : Int) x13_1 t526 (t526.length : Int) (wrap64 (x26_2 + 1)) a0_0 a0_1 l0_2) = some r := by rw [if_pos rfl] at H; exact H
              clear H; have H := H1
              clear H1; obtain ⟨y531, hy531⟩ : ∃ y_ : List Bool, y_ = (x3_2.set (x26_2 : Int).toNat true) := ⟨_, rfl⟩
              replace H : (impl_field_parts.l1 k2 y531 (wrap64 (x4_1 + 1)) (t522.length : Int) x13_1 t526 (t526.length : Int) (wrap64 (x26_2 + 1)) a0_0 a0_1 l0_2) = some r := by first | (rw [hy531]; with_reducible exact H) | (have H2_ := (Option.bind_some _ _).symm.trans H; rw [hy531]; with_reducible exact H2_) | (have H2_ := (Option.bind_some _ _).symm.trans H; with_reducible exact H2_) | with_reducible exact H | (rw [hy531]; exact H) | exact H
              have Ny531 := Aside0.mk hy531
              clear hy531; have H' := Aside0.mk H
              clear H; have p529 : 0 ≤ (x26_2 : Int) := of_decide_eq_true (by first | (with_reducible assumption) | assumption)
              have q529 : x26_2 < (t526.length : Int) := of_decide_eq_true (by first | (with_reducible assumption) | assumption)
              obtain ⟨ad529, e529, hx529_0⟩ := Kd.at_int (Kd.R_reads' HO_24.out).2.2 x26_2 p529 q529
              cases e529
              replace p529 := eq_true p529
              replace q529 := eq_true q529
              have p530 : 0 ≤ (x26_2 : Int) := of_decide_eq_true (by first | (with_reducible assumption) | assumption)
              have q530 : x26_2 < (x3_2.length : Int) := of_decide_eq_true (by first | (with_reducible assumption) | assumption)
              obtain ⟨ad530, e530, hx530_0⟩ := Kd.at_bool (Kd.R_reads' HO_3.out).2.2 x26_2 p530 q530
              (try rw [← Nbq10.out] at hx530_0)
              (try rw [← Nbq20.out] at hx530_0)
              obtain rfl : ad525 = ad530 := (by injection e530)
              replace p530 := eq_true p530
              replace q530 := eq_true q530
              have p22 : 0 ≤ (x26_2 : Int) := of_decide_eq_true (by first | (with_reducible assumption) | assumption)
              have q22 : (x26_2 : Int) < ((x3_2.length : Int) : Int) := of_decide_eq_true (by first | (with_reducible assumption) | assumption)
              obtain ⟨go22, co22, eo22, gb22, gl22, cl22, HG22⟩ := Kd.R_form HO_3.out (by omega)
              (first | cases eo22 | (injection eo22 with ea_ en_ ec_; (first | subst ea_ | (injection ea_ with ea_; subst ea_)); subst ec_; clear en_))
              have GB22 := Aside0.mk gb22
              have GG22 := Aside0.mk HG22
              clear gb22 gl22 HG22; (first | simp only [add_plain] at hx525_0 | skip)
              (first | simp only [add_plain] at hx530_0 | skip)
              obtain ⟨hx22_0, hf22_0⟩ := Kd.R_celln false HO_3.out (x26_2 : Int) p22 q22
              replace p22 := eq_true p22
              replace q22 := eq_true q22
              have HP23 := Kd.R_putg HO_3.out (x26_2 : Int) true
              go_wp2_with (first | ((with_reducible refine gate_store (t := 4) (p := 41) rfl ?_); refine store_event (t := 4) (p := 41) (v := ?vo_w24) (w1 := (wr.setCell ⟨go22, (x26_2 : Int).toNat, none⟩ (.bool true))) ?hg ?ho ?hn ?hr ?_; (case ho => rfl); (case hg => rfl); (case hn => rfl); (case hr => first | (go_simp; done) | (go_simp; rfl)); intro w24 hw; have hg : wr.grownBy w24 (some go22) := (by rw [hw]; exact HP23.2); have hp_ : Kd.R Kd.bool 4 w24 w.heap.size (fun _ => True) (.slice (some ⟨go22, 0, none⟩) x3_2.length co6) y531 := (by rw [hw, Ny531.out]; exact HP23.1); clear HP23; have n0_ := Aside0.mk (hp_); have n1_ := Aside0.mk (Kd.R_over' (v := (.slice (some ⟨go22, 0, none⟩) x3_2.length co6)) (upR_ HO_24.out) (Kd.R_typed HO_3.out) (by decide) hg); have n2_ := Aside0.mk (blk_grown (g := gb521) (o := .cells #[.int .i64 a0_0, .int .i64 a0_1, .slice A0_2 l0_2.length c0_2] 70 (0, 0)) (upK_ BK521.out) hg (Kd.R_ne HO_3.out BK521.out (by decide))); have n3_ := Aside0.mk ((by rw [hw]; exact below_set (HB.out) GB22.out : Below w.heap.size w w24)); clear HO_3; clear HO_24; clear BK521; clear HB; have HO_3 := n0_; have HO_24 := n1_; have BK521 := n2_; have HB := n3_; clear n0_ n1_ n2_ n3_; clear hg hw hp_))
              (try simp only [← hl3_2])
              go_roundg k2
              case measure => have := HK1.out; have := HK2.out; omega
              case rel => exact ⟨(y531), (wrap64 (x26_2 + 1)), (by first | rfl | (simp; done) | (simp [*]; done)), H', ⟨by have := HK1.out; have := HK2.out; omega⟩, ⟨by (try simp only [hl3_1, hl3_2]); (with_reducible repeat (first | apply Kd.R_alloc | apply Kd.R_drewN | apply Kd.R_drew)); exact HO_3.out⟩, ⟨by (try simp only [hl3_1, hl3_2]); (with_reducible repeat (first | apply Kd.R_alloc | apply Kd.R_drewN | apply Kd.R_drew)); exact HO_24.out⟩, ⟨by (try simp only [hl3_1, hl3_2]); (with_reducible repeat (first | refine blk_drewN ?_ _ | refine blk_drew ?_ | refine blk_alloc ?_ _)); exact BK521.out⟩, ⟨upB_ HB.out⟩⟩
             ·replace c21 := Bool.eq_false_iff.mpr c21
              subst c21
              have H1 : (impl_field_parts.l1 k2 (x3_2.set (x26_2 : Int).toNat (decide ((rd t526 x26_2) ≥ 0))) (wrap64 (x4_1 + 1)) (t522.length : Int) x13_1 t526 (t526.length : Int) (wrap64 (x26_2 + 1)) a0_0 a0_1 l0_2) = some r := by rw [if_neg (show ¬ (false = true) by decide)] at H; exact H
              clear H; have H := H1
              clear H1; obtain ⟨y532, hy532⟩ : ∃ y_ : List Bool, y_ = (x3_2.set (x26_2 : Int).toNat (decide ((rd t526 x26_2) ≥ 0))) := ⟨_, rfl⟩
              replace H : (impl_field_parts.l1 k2 y532 (wrap64 (x4_1 + 1)) (t522.length : Int) x13_1 t526 (t526.length : Int) (wrap64 (x26_2 + 1)) a0_0 a0_1 l0_2) = some r := by first | (rw [hy532]; with_reducible exact H) | (have H2_ := (Option.bind_some _ _).symm.trans H; rw [hy532]; with_reducible exact H2_) | (have H2_ := (Option.bind_some _ _).symm.trans H; with_reducible exact H2_) | with_reducible exact H | (rw [hy532]; exact H) | exact H
              have Ny532 := Aside0.mk hy532
              clear hy532; have H' := Aside0.mk H
              clear H; have p529 : 0 ≤ (x26_2 : Int) := of_decide_eq_true (by first | (with_reducible assumption) | assumption)
              have q529 : x26_2 < (t526.length : Int) := of_decide_eq_true (by first | (with_reducible assumption) | assumption)
              obtain ⟨ad529, e529, hx529_0⟩ := Kd.at_int (Kd.R_reads' HO_24.out).2.2 x26_2 p529 q529
              cases e529
              replace p529 := eq_true p529
              replace q529 := eq_true q529
              have p530 : 0 ≤ (x26_2 : Int) := of_decide_eq_true (by first | (with_reducible assumption) | assumption)
              have q530 : x26_2 < (x3_2.length : Int) := of_decide_eq_true (by first | (with_reducible assumption) | assumption)
              obtain ⟨ad530, e530, hx530_0⟩ := Kd.at_bool (Kd.R_reads' HO_3.out).2.2 x26_2 p530 q530
              (try rw [← Nbq10.out] at hx530_0)
              (try rw [← Nbq20.out] at hx530_0)
              obtain rfl : ad525 = ad530 := (by injection e530)
              replace p530 := eq_true p530
              replace q530 := eq_true q530
              have p25 : 0 ≤ (x26_2 : Int) := of_decide_eq_true (by first | (with_reducible assumption) | assumption)
              have q25 : (x26_2 : Int) < ((x3_2.length : Int) : Int) := of_decide_eq_true (by first | (with_reducible assumption) | assumption)
              obtain ⟨go25, co25, eo25, gb25, gl25, cl25, HG25⟩ := Kd.R_form HO_3.out (by omega)
              (first | cases eo25 | (injection eo25 with ea_ en_ ec_; (first | subst ea_ | (injection ea_ with ea_; subst ea_)); subst ec_; clear en_))
              have GB25 := Aside0.mk gb25
              have GG25 := Aside0.mk HG25
              clear gb25 gl25 HG25; (first | simp only [add_plain] at hx530_0 | skip)
              obtain ⟨hx25_0, hf25_0⟩ := Kd.R_celln false HO_3.out (x26_2 : Int) p25 q25
              replace p25 := eq_true p25
              replace q25 := eq_true q25
              have HP26 := Kd.R_putg HO_3.out (x26_2 : Int) (decide ((rd t526 x26_2) ≥ 0))
              go_wp2_with (first | ((with_reducible refine gate_store (t := 4) (p := 41) rfl ?_); refine store_event (t := 4) (p := 41) (v := ?vo_w27) (w1 := (wr.setCell ⟨go25, (x26_2 : Int).toNat, none⟩ (.bool (decide ((rd t526 x26_2) ≥ 0))))) ?hg ?ho ?hn ?hr ?_; (case ho => rfl); (case hg => rfl); (case hn => rfl); (case hr => first | (go_simp; done) | (go_simp; rfl)); intro w27 hw; have hg : wr.grownBy w27 (some go25) := (by rw [hw]; exact HP26.2); have hp_ : Kd.R Kd.bool 4 w27 w.heap.size (fun _ => True) (.slice (some ⟨go25, 0, none⟩) x3_2.length co6) y532 := (by rw [hw, Ny532.out]; exact HP26.1); clear HP26; have n0_ := Aside0.mk (hp_); have n1_ := Aside0.mk (Kd.R_over' (v := (.slice (some ⟨go25, 0, none⟩) x3_2.length co6)) (upR_ HO_24.out) (Kd.R_typed HO_3.out) (by decide) hg); have n2_ := Aside0.mk (blk_grown (g := gb521) (o := .cells #[.int .i64 a0_0, .int .i64 a0_1, .slice A0_2 l0_2.length c0_2] 70 (0, 0)) (upK_ BK521.out) hg (Kd.R_ne HO_3.out BK521.out (by decide))); have n3_ := Aside0.mk ((by rw [hw]; exact below_set (HB.out) GB25.out : Below w.heap.size w w27)); clear HO_3; clear HO_24; clear BK521; clear HB; have HO_3 := n0_; have HO_24 := n1_; have BK521 := n2_; have HB := n3_; clear n0_ n1_ n2_ n3_; clear hg hw hp_))
              (try simp only [← hl3_2])
              go_roundg k2
              case measure => have := HK1.out; have := HK2.out; omega
              case rel => exact ⟨(y532), (wrap64 (x26_2 + 1)), (by first | rfl | (simp; done) | (simp [*]; done)), H', ⟨by have := HK1.out; have := HK2.out; omega⟩, ⟨by (try simp only [hl3_1, hl3_2]); (with_reducible repeat (first | apply Kd.R_alloc | apply Kd.R_drewN | apply Kd.R_drew)); exact HO_3.out⟩, ⟨by (try simp only [hl3_1, hl3_2]); (with_reducible repeat (first | apply Kd.R_alloc | apply Kd.R_drewN | apply Kd.R_drew)); exact HO_24.out⟩, ⟨by (try simp only [hl3_1, hl3_2]); (with_reducible repeat (first | refine blk_drewN ?_ _ | refine blk_drew ?_ | refine blk_alloc ?_ _)); exact BK521.out⟩, ⟨upB_ HB.out⟩⟩
            ·rw [if_neg c19] at H
             exact absurd H (by simp)
           ·rw [if_neg c18] at H
            exact absurd H (by simp)
          ·rw [if_neg c17] at H
           exact absurd H (by simp)
         ·rw [if_neg c16] at H
          have c16b0 : decide (x26_2 < (t526.length : Int)) = false := decide_eq_false c16
          (try (have c16b0qhl3_1 := c16b0; rw [hl3_1] at c16b0qhl3_1))
          (try (have c16b0qhl3_2 := c16b0; rw [hl3_2] at c16b0qhl3_2))
          clear c16; have H' := Aside0.mk H
          clear H; go_wp2
          (try simp only [← hl3_1, ← hl3_2])
          go_roundg k2
          case measure => have := HK1.out; have := HK2.out; omega
          case rel => exact ⟨(x3_2), ((wrap64 (x4_1 + 1))), (wrap64 (x13_1 + 1)), (by first | rfl | (simp; done) | (simp [*]; done)), (by first | rfl | (simp; done) | (simp [*]; done)), H', ⟨by have := HK1.out; have := HK2.out; omega⟩, ⟨by (try simp only [hl3_1, hl3_2]); (with_reducible repeat (first | apply Kd.R_alloc | apply Kd.R_drewN | apply Kd.R_drew)); exact HO_3.out⟩, ⟨by (try simp only [hl3_1, hl3_2]); (with_reducible repeat (first | refine blk_drewN ?_ _ | refine blk_drew ?_ | refine blk_alloc ?_ _)); exact BK521.out⟩, ⟨upB_ HB.out⟩⟩
     ·rw [if_neg c9] at H
      exact absurd H (by simp)
    ·rw [if_neg c8] at H
     exact absurd H (by simp)
   ·rw [if_neg c7] at H
    have c7b0 : decide (x13_1 < (t522.length : Int)) = false := decide_eq_false c7
    (try (have c7b0qhl3_1 := c7b0; rw [hl3_1] at c7b0qhl3_1))
    (try (have c7b0qhl3_2 := c7b0; rw [hl3_2] at c7b0qhl3_2))
    clear c7; obtain rfl := Option.some.inj H
    go_wp2
    go_ret
    exact ⟨by first | rfl | (simp [errW_none, errW_some] <;> rfl) | (simp [*, errW_none, errW_some] <;> rfl), by repeat (first | (with_reducible first | exact HB.out | apply below_alloc | apply pw_below_drewN | apply below_drew1 | refine below_set ?_ GE521.out) | exact HB.out)⟩

end Go.Proofs.Ytajhahafgnefcaa.R
