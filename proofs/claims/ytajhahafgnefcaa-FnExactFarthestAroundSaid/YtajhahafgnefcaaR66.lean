-- Written by a program of this session (p2.sh: a patched copy of the kit's printer) out of the translation; not by print.sh. Lean checks it.
import Derived.Test.YtajhahafgnefcaaR0
import Derived.Test.YtajhahafgnefcaaR7
import Derived.Test.YtajhahafgnefcaaR37
import Derived.Test.YtajhahafgnefcaaR47
namespace Go.Proofs.Ytajhahafgnefcaa.R
open Go.RowKit Go.Proofs.YtajhahafgnefcaaW.PrintWords Go.Proofs.YtajhahafgnefcaaW.PrintLast Go.Proofs.YtajhahafgnefcaaW.PrintMore
attribute [local go_sem] max2_int min2_int max_two min_two max_three min_three max_four min_four   -- for this text's walks alone
set_option linter.unusedVariables false
set_option linter.unusedSimpArgs false

/-! ### spec_FarthestAround: function 38 -/
def spec_FarthestAround.l0 : Nat → List Int → Int → List Int → Int → Int → Int → Int → Option (ByteArray × Int × Bool)
 | 0, _, _, _, _, _, _, _ => none
 | k + 1, x9, x11, x26, x27, x28, x747000, x747001 => if x28 < x27 then (if 0 ≤ x28 then (if x28 < (x26.length : Int) then (if 0 ≤ x11 then (if x11 < (x9.length : Int) then (if (rd x26 x28) > (rd x9 x11) then (spec_FarthestAround.l0 k x9 x28 x26 x27 (wrap64 (x28 + 1)) x747000 x747001) else (spec_FarthestAround.l0 k x9 x11 x26 x27 (wrap64 (x28 + 1)) x747000 x747001)) else (none)) else (none)) else (none)) else (none)) else ((spec_whOf.f k x747000 x747001 x11).bind fun t756 => (if 0 ≤ x11 then (if x11 < (x9.length : Int) then (some (t756, rd x9 x11, true)) else (none)) else (none)))
def spec_FarthestAround.f (k : Nat) (a0_0 : Int) (a0_1 : Int) (l1 : List ByteArray) (a2 : ByteArray) : Option (ByteArray × Int × Bool) := (spec_deAsked.f k a0_0 a0_1 l1 a2).bind fun t747 => (if t747 = true then ((spec_deFar.f k a0_0 a0_1 l1 a2).bind fun bt748 => (spec_FarthestAround.l0 k bt748.1 0 bt748.1 (bt748.1.length : Int) 0 a0_0 a0_1)) else (some ((⟨#[]⟩ : ByteArray), 0, false)))
theorem spec_FarthestAround.mono_l : ∀ k, (∀ y0 y1 y2 y3 y4 y5 y6, LeO (spec_FarthestAround.l0 k y0 y1 y2 y3 y4 y5 y6) (spec_FarthestAround.l0 (k + 1) y0 y1 y2 y3 y4 y5 y6))
 | 0 => fun _ _ _ _ _ _ _ r h => by simp [spec_FarthestAround.l0] at h
 | k + 1 => by
  have ih0 := spec_FarthestAround.mono_l k
  ·intro y0 y1 y2 y3 y4 y5 y6
   unfold spec_FarthestAround.l0
   repeat' first
   | (with_reducible exact ih0 _ _ _ _ _ _ _)
   | (with_reducible exact spec_deAsked.mono _ _ _ _ _)
   | (with_reducible exact spec_deFar.mono _ _ _ _ _)
   | (with_reducible exact spec_whOf.mono _ _ _ _)
   | (with_reducible exact LeO.refl _)
   | (with_reducible exact LeO.none _)
   | (with_reducible refine LeO.ite ?_ ?_)
   | (with_reducible refine LeO.bind ?_ (fun _ => ?_))
   | exact ih0 _ _ _ _ _ _ _
   | exact spec_deAsked.mono _ _ _ _ _
   | exact spec_deFar.mono _ _ _ _ _
   | exact spec_whOf.mono _ _ _ _
   | exact LeO.none _
   | refine LeO.ite ?_ ?_
   | refine LeO.bind ?_ (fun _ => ?_)
theorem spec_FarthestAround.mono : ∀ a0 a1 a2 a3 k, LeO (spec_FarthestAround.f k a0 a1 a2 a3) (spec_FarthestAround.f (k + 1) a0 a1 a2 a3) := by
 intro a0 a1 a2 a3 k
 have ih0 := spec_FarthestAround.mono_l k
 unfold spec_FarthestAround.f
 repeat' first
   | (with_reducible exact ih0 _ _ _ _ _ _ _)
   | (with_reducible exact spec_deAsked.mono _ _ _ _ _)
   | (with_reducible exact spec_deFar.mono _ _ _ _ _)
   | (with_reducible exact spec_whOf.mono _ _ _ _)
   | (with_reducible exact LeO.refl _)
   | (with_reducible exact LeO.none _)
   | (with_reducible refine LeO.ite ?_ ?_)
   | (with_reducible refine LeO.bind ?_ (fun _ => ?_))
   | exact ih0 _ _ _ _ _ _ _
   | exact spec_deAsked.mono _ _ _ _ _
   | exact spec_deFar.mono _ _ _ _ _
   | exact spec_whOf.mono _ _ _ _
   | exact LeO.none _
   | refine LeO.ite ?_ ?_
   | refine LeO.bind ?_ (fun _ => ?_)
def spec_FarthestAround.T11 : Bool × List (List Nat × List Nat) := (true, [([], []), ([], []), ([0, 1], [0, 1]), ([], []), ([], []), ([3, 4], [3, 4]), ([5], [5]), ([2, 2, 0, 1, 2], [2]), ([6, 7, 0, 1, 2, 3, 4, 5, 6, 7], [6]), ([8, 0, 1, 2, 3, 4, 5, 6, 7, 8], [])])
def spec_FarthestAround.B11 : List Nat := [0, 0, 3, 0, 0, 24, 56, 7, 255, 511]
theorem spec_FarthestAround.tab11 : rtab .any (opsOf Try.f38 11) = spec_FarthestAround.T11 := by kernel_rfl
theorem spec_FarthestAround.bits11 : waitsOk spec_FarthestAround.T11.2 spec_FarthestAround.B11 = true := by kernel_rfl
set_option maxHeartbeats 8000000 in
set_option maxRecDepth 100000 in
theorem spec_FarthestAround.calls (k : Nat) (a0_0 : Int) (a0_1 : Int) (A1 : Option Addr) (c1 : Nat) (l1 : List ByteArray) (a2 : ByteArray) (r1 : ByteArray) (r2 : Int) (r3 : Bool) (w : World) (hr1 : Kd.C Kd.string w A1 l1.length l1) (hc1 : l1.length ≤ c1) (h : spec_FarthestAround.f k a0_0 a0_1 l1 a2 = some (r1, r2, r3)) :
  Calls Try.prog 38 #[.agg #[.int .i64 a0_0, .int .i64 a0_1], .slice A1 l1.length c1, .string a2] w fun e w' => e = .returned (.tuple #[.string r1, .int .i64 r2, .bool r3]) ∧ Below w.heap.size w w' := by
 have hu30 := Try.underlying30
 have HR1 := Aside0.mk hr1
 have HC1 := Aside0.mk hc1
 clear hr1 hc1; have HB := Aside0.mk (Below.refl w.heap.size w)
 have H : ((spec_deAsked.f k a0_0 a0_1 l1 a2).bind fun t747 => (if t747 = true then ((spec_deFar.f k a0_0 a0_1 l1 a2).bind fun bt748 => (spec_FarthestAround.l0 k bt748.1 0 bt748.1 (bt748.1.length : Int) 0 a0_0 a0_1)) else (some ((⟨#[]⟩ : ByteArray), 0, false)))) = some (r1, r2, r3) := h
 clear h; replace H := Option.bind_eq_some_iff.mp H
 obtain ⟨t747, A40, H⟩ := H
 replace H : (if t747 = true then ((spec_deFar.f k a0_0 a0_1 l1 a2).bind fun bt748 => (spec_FarthestAround.l0 k bt748.1 0 bt748.1 (bt748.1.length : Int) 0 a0_0 a0_1)) else (some ((⟨#[]⟩ : ByteArray), 0, false))) = some (r1, r2, r3) := H
 have A4 := Aside0.mk A40
 clear A40; by_cases c5 : t747 = true
 ·subst c5
  have H1 : ((spec_deFar.f k a0_0 a0_1 l1 a2).bind fun bt748 => (spec_FarthestAround.l0 k bt748.1 0 bt748.1 (bt748.1.length : Int) 0 a0_0 a0_1)) = some (r1, r2, r3) := by rw [if_pos rfl] at H; exact H
  clear H; have H := H1
  clear H1; replace H := Option.bind_eq_some_iff.mp H
  obtain ⟨⟨t748, t751⟩, A60, H⟩ := H
  replace H : (spec_FarthestAround.l0 k t748 0 t748 (t748.length : Int) 0 a0_0 a0_1) = some (r1, r2, r3) := H
  have A6 := Aside0.mk A60
  clear A60; have H' := Aside0.mk H
  clear H; go_enter Try.func38, Try.ntmps38
  go_wp2_with (first | ((with_reducible refine gate_dst (N := 3) rfl ?_); refine box_event ?hg (N := 3) ?hd (cs := #[.int .i64 a0_0, .int .i64 a0_1]) (t := 30) ?hr ?_; (case hd => rfl); (case hg => rfl); (case hr => first | (go_simp; done) | (go_simp; rfl)); intro gb746 hg w7 hbox hb; have n0_ := Aside0.mk (below_step (by repeat (first | (with_reducible first | exact HB.out | apply below_alloc | apply pw_below_drewN | apply below_drew1) | exact HB.out)) hb); have n1_ := Aside0.mk (hbox); have n2_ := Aside0.mk ((by rw [hg]; exact (below_size (by repeat (first | (with_reducible first | exact HB.out | apply below_alloc | apply pw_below_drewN | apply below_drew1) | exact HB.out))) : w.heap.size ≤ gb746)); have n3_ := Aside0.mk ((by rw [hg]; exact (below_size (by repeat (first | (with_reducible first | exact HB.out | apply below_alloc | apply pw_below_drewN | apply below_drew1) | exact HB.out))) : w.heap.size ≤ gb746)); clear HB; have HB := n0_; have BK746 := n1_; have GW746 := n2_; have GE746 := n3_; clear n0_ n1_ n2_ n3_; clear hb hbox hg; have hcz8_0 : w7.cell? ⟨gb746, 0, none⟩ = some (.int .i64 a0_0) := (blk_cell BK746.out 0).trans rfl; have hcz8_1 : w7.cell? ⟨gb746, 1, none⟩ = some (.int .i64 a0_1) := (blk_cell BK746.out 1).trans rfl; have hfz8_0 := blk_frozen BK746.out 0; have hfz8_1 := blk_frozen BK746.out 1) | ((with_reducible refine gate_callee (f := 49) rfl ?_); refine goesL_ (some 17) rfl rfl Try.func49 (by kernel_rfl) rfl #[.agg #[.int .i64 a0_0, .int .i64 a0_1], .slice A1 l1.length c1, .string a2] rfl (by (try simp only [List.map_toArray, List.map_cons, List.map_nil]); first | done | rfl | (simp only [List.length_drop, List.length_take]; rfl)) ?_; (with_reducible refine (spec_deAsked.calls k a0_0 a0_1 _ _ l1 a2 true _ ?side1 ?side2 A4.out).mono ?_); (case side1 => repeat (first | exact (Kd.C_below HR1.out HB.out) | (with_reducible refine Kd.C_alloc ?_ _) | (with_reducible refine Kd.C_drewN ?_ _) | (with_reducible refine Kd.C_drew ?_))); (case side2 => exact HC1.out); rintro e w9 ⟨rfl, hb⟩; refine ⟨_, rfl, ?_⟩; have n0_ := Aside0.mk (blk_below (g := gb746) (o := .cells #[.int .i64 a0_0, .int .i64 a0_1] 30 (0, 0)) (by (with_reducible repeat (first | refine blk_drewN ?_ _ | refine blk_drew ?_ | refine blk_alloc ?_ _)); exact BK746.out) hb); have n1_ := Aside0.mk (below_step (by repeat (first | (with_reducible first | exact HB.out | apply below_alloc | apply pw_below_drewN | apply below_drew1 | refine below_set ?_ GE746.out) | exact HB.out)) hb); clear BK746; clear HB; have BK746 := n0_; have HB := n1_; clear n0_ n1_; (try clear hb); (try clear hb2); (try clear hk); (try clear hi); have hcz10_0 : w9.cell? ⟨gb746, 0, none⟩ = some (.int .i64 a0_0) := (blk_cell BK746.out 0).trans rfl; have hcz10_1 : w9.cell? ⟨gb746, 1, none⟩ = some (.int .i64 a0_1) := (blk_cell BK746.out 1).trans rfl; have hfz10_0 := blk_frozen BK746.out 0; have hfz10_1 := blk_frozen BK746.out 1) | ((with_reducible refine gate_callee (f := 70) rfl ?_); refine goesL_ (some 23) rfl rfl Try.func70 (by kernel_rfl) rfl #[.agg #[.int .i64 a0_0, .int .i64 a0_1], .slice A1 l1.length c1, .string a2] rfl (by (try simp only [List.map_toArray, List.map_cons, List.map_nil]); first | done | rfl | (simp only [List.length_drop, List.length_take]; rfl)) ?_; (with_reducible refine (spec_deFar.calls k a0_0 a0_1 _ _ l1 a2 t748 t751 _ ?side1 ?side2 A6.out).mono ?_); (case side1 => repeat (first | exact (Kd.C_below HR1.out HB.out) | (with_reducible refine Kd.C_alloc ?_ _) | (with_reducible refine Kd.C_drewN ?_ _) | (with_reducible refine Kd.C_drew ?_))); (case side2 => exact HC1.out); rintro e w11 ⟨v749, v752, rfl, ho0, ho1, hb⟩; refine ⟨_, rfl, ?_⟩; have n0_ := Aside0.mk (Kd.R_lower ho0 (below_size (by repeat (first | (with_reducible first | exact HB.out | apply below_alloc | apply pw_below_drewN | apply below_drew1 | refine below_set ?_ GE746.out) | exact HB.out)))); have n1_ := Aside0.mk (Kd.R_lower ho1 (below_size (by repeat (first | (with_reducible first | exact HB.out | apply below_alloc | apply pw_below_drewN | apply below_drew1 | refine below_set ?_ GE746.out) | exact HB.out)))); have n2_ := Aside0.mk (blk_below (g := gb746) (o := .cells #[.int .i64 a0_0, .int .i64 a0_1] 30 (0, 0)) (by (with_reducible repeat (first | refine blk_drewN ?_ _ | refine blk_drew ?_ | refine blk_alloc ?_ _)); exact BK746.out) hb); have n3_ := Aside0.mk (below_step (by repeat (first | (with_reducible first | exact HB.out | apply below_alloc | apply pw_below_drewN | apply below_drew1 | refine below_set ?_ GE746.out) | exact HB.out)) hb); clear BK746; clear HB; have HO750 := n0_; have HO753 := n1_; have BK746 := n2_; have HB := n3_; clear n0_ n1_ n2_ n3_; (try clear hb); (try clear hb2); (try clear hk); (try clear hi); (try clear ho0); (try clear ho1); obtain ⟨Ao12, co12, eo12⟩ := Kd.R_slice HO750.out; subst eo12))
  go_loopg [11, 28] k (fun kq v11 v28 w' => ∃ (x11_1 : Int) (x28_1 : Int), v11 = .int .i64 x11_1 ∧ v28 = .int .i64 x28_1 ∧ Aside0 (spec_FarthestAround.l0 kq t748 x11_1 t748 (t748.length : Int) x28_1 a0_0 a0_1 = some (r1, r2, r3)) ∧ Aside0 (kq ≤ k) ∧ Aside0 (Kd.R (Kd.int .i64) 3 w' w.heap.size (fun _ => True) (.slice Ao12 t748.length co12) t748) ∧ Aside0 (Kd.R (Kd.int .i64) 3 w' w.heap.size (fun _ => True) (.slice Ao12 t748.length co12) t748) ∧ Aside0 (w'.heap[gb746]? = some (.cells #[.int .i64 a0_0, .int .i64 a0_1] 30 (0, 0))) ∧ Aside0 (Below w.heap.size w w'))
  case atStart => exact ⟨(0), (0), (by first | rfl | (simp; done) | (simp [*]; done)), (by first | rfl | (simp; done) | (simp [*]; done)), H', ⟨Nat.le_refl _⟩, ⟨by (with_reducible repeat (first | apply Kd.R_alloc | apply Kd.R_drewN | apply Kd.R_drew)); exact Kd.R_mono HO750.out (fun _ hk => trivial)⟩, ⟨by (with_reducible repeat (first | apply Kd.R_alloc | apply Kd.R_drewN | apply Kd.R_drew)); exact Kd.R_mono HO750.out (fun _ hk => trivial)⟩, ⟨by (with_reducible repeat (first | refine blk_drewN ?_ _ | refine blk_drew ?_ | refine blk_alloc ?_ _)); exact BK746.out⟩, ⟨by repeat (first | (with_reducible first | exact HB.out | apply below_alloc | apply pw_below_drewN | apply below_drew1 | refine below_set ?_ GE746.out) | exact HB.out)⟩⟩
  case round =>
   clear H'; try clear c1
   try clear p2
   try clear c3
   try clear c4
   try clear c5
   try clear c7
   try clear hcz10_0
   try clear hcz10_1
   try clear hcz8_0
   try clear hcz8_1
   try clear hfz10_0
   try clear hfz10_1
   try clear hfz8_0
   try clear hfz8_1
   obtain ⟨x11_1, x28_1, rfl, rfl, HA, HK1, HO_9, HO_26, BK746, HB⟩ := hrel
   cases gk with
   | zero => exact absurd HA.out (by simp [spec_FarthestAround.l0])
   | succ k1 =>
    have H := HA.out
    clear HA; simp only [spec_FarthestAround.l0] at H
    by_cases c13 : x28_1 < (t748.length : Int)
    ·rw [if_pos c13] at H
     have c13b0 : decide (x28_1 < (t748.length : Int)) = true := decide_eq_true c13
     clear c13; by_cases c14 : 0 ≤ x28_1
     ·rw [if_pos c14] at H
      have c14b0 : decide (0 ≤ x28_1) = true := decide_eq_true c14
      clear c14; by_cases c15 : x28_1 < (t748.length : Int)
      ·rw [if_pos c15] at H
       have c15b0 : decide (x28_1 < (t748.length : Int)) = true := decide_eq_true c15
       clear c15; by_cases c16 : 0 ≤ x11_1
       ·rw [if_pos c16] at H
        have c16b0 : decide (0 ≤ x11_1) = true := decide_eq_true c16
        clear c16; by_cases c17 : x11_1 < (t748.length : Int)
        ·rw [if_pos c17] at H
         have c17b0 : decide (x11_1 < (t748.length : Int)) = true := decide_eq_true c17
         clear c17; by_cases c18 : (rd t748 x28_1) > (rd t748 x11_1)
         ·rw [if_pos c18] at H
          have c18b0 : decide ((rd t748 x11_1) < (rd t748 x28_1)) = true := decide_eq_true c18
          clear c18; have H' := Aside0.mk H
          clear H; have p754 : 0 ≤ (x28_1 : Int) := of_decide_eq_true (by first | (with_reducible assumption) | assumption)
          have q754 : x28_1 < (t748.length : Int) := of_decide_eq_true (by first | (with_reducible assumption) | assumption)
          obtain ⟨ad754, e754, hx754_0⟩ := Kd.at_int (Kd.R_reads' HO_26.out).2.2 x28_1 p754 q754
          cases e754
          replace p754 := eq_true p754
          replace q754 := eq_true q754
          have p755 : 0 ≤ (x11_1 : Int) := of_decide_eq_true (by first | (with_reducible assumption) | assumption)
          have q755 : x11_1 < (t748.length : Int) := of_decide_eq_true (by first | (with_reducible assumption) | assumption)
          obtain ⟨ad755, e755, hx755_0⟩ := Kd.at_int (Kd.R_reads' HO_9.out).2.2 x11_1 p755 q755
          obtain rfl : ad754 = ad755 := (by injection e755)
          replace p755 := eq_true p755
          replace q755 := eq_true q755
          go_wp2
          go_roundg k1
          case measure => have := HK1.out; omega
          case rel => exact ⟨(x28_1), (wrap64 (x28_1 + 1)), (by first | rfl | (simp; done) | (simp [*]; done)), (by first | rfl | (simp; done) | (simp [*]; done)), H', ⟨by have := HK1.out; omega⟩, ⟨by (with_reducible repeat (first | apply Kd.R_alloc | apply Kd.R_drewN | apply Kd.R_drew)); exact HO_9.out⟩, ⟨by (with_reducible repeat (first | apply Kd.R_alloc | apply Kd.R_drewN | apply Kd.R_drew)); exact HO_26.out⟩, ⟨by (with_reducible repeat (first | refine blk_drewN ?_ _ | refine blk_drew ?_ | refine blk_alloc ?_ _)); exact BK746.out⟩, ⟨by repeat (first | (with_reducible first | exact HB.out | apply below_alloc | apply pw_below_drewN | apply below_drew1 | refine below_set ?_ GE746.out) | exact HB.out)⟩⟩
         ·rw [if_neg c18] at H
          have c18b0 : decide ((rd t748 x11_1) < (rd t748 x28_1)) = false := decide_eq_false c18
          clear c18; have H' := Aside0.mk H
          clear H; have p754 : 0 ≤ (x28_1 : Int) := of_decide_eq_true (by first | (with_reducible assumption) | assumption)
          have q754 : x28_1 < (t748.length : Int) := of_decide_eq_true (by first | (with_reducible assumption) | assumption)
          obtain ⟨ad754, e754, hx754_0⟩ := Kd.at_int (Kd.R_reads' HO_26.out).2.2 x28_1 p754 q754
          cases e754
          replace p754 := eq_true p754
          replace q754 := eq_true q754
          have p755 : 0 ≤ (x11_1 : Int) := of_decide_eq_true (by first | (with_reducible assumption) | assumption)
          have q755 : x11_1 < (t748.length : Int) := of_decide_eq_true (by first | (with_reducible assumption) | assumption)
          obtain ⟨ad755, e755, hx755_0⟩ := Kd.at_int (Kd.R_reads' HO_9.out).2.2 x11_1 p755 q755
          obtain rfl : ad754 = ad755 := (by injection e755)
          replace p755 := eq_true p755
          replace q755 := eq_true q755
          go_wp2
          go_roundg k1
          case measure => have := HK1.out; omega
          case rel => exact ⟨(x11_1), (wrap64 (x28_1 + 1)), (by first | rfl | (simp; done) | (simp [*]; done)), (by first | rfl | (simp; done) | (simp [*]; done)), H', ⟨by have := HK1.out; omega⟩, ⟨by (with_reducible repeat (first | apply Kd.R_alloc | apply Kd.R_drewN | apply Kd.R_drew)); exact HO_9.out⟩, ⟨by (with_reducible repeat (first | apply Kd.R_alloc | apply Kd.R_drewN | apply Kd.R_drew)); exact HO_26.out⟩, ⟨by (with_reducible repeat (first | refine blk_drewN ?_ _ | refine blk_drew ?_ | refine blk_alloc ?_ _)); exact BK746.out⟩, ⟨by repeat (first | (with_reducible first | exact HB.out | apply below_alloc | apply pw_below_drewN | apply below_drew1 | refine below_set ?_ GE746.out) | exact HB.out)⟩⟩
        ·rw [if_neg c17] at H
         exact absurd H (by simp)
       ·rw [if_neg c16] at H
        exact absurd H (by simp)
      ·rw [if_neg c15] at H
       exact absurd H (by simp)
     ·rw [if_neg c14] at H
      exact absurd H (by simp)
    ·rw [if_neg c13] at H
     have c13b0 : decide (x28_1 < (t748.length : Int)) = false := decide_eq_false c13
     clear c13; replace H := Option.bind_eq_some_iff.mp H
     obtain ⟨t756, A190, H⟩ := H
     replace H : (if 0 ≤ x11_1 then (if x11_1 < (t748.length : Int) then (some (t756, rd t748 x11_1, true)) else (none)) else (none)) = some (r1, r2, r3) := H
     have A19 := Aside0.mk A190
     clear A190; by_cases c20 : 0 ≤ x11_1
     ·rw [if_pos c20] at H
      have c20b0 : decide (0 ≤ x11_1) = true := decide_eq_true c20
      clear c20; by_cases c21 : x11_1 < (t748.length : Int)
      ·rw [if_pos c21] at H
       have c21b0 : decide (x11_1 < (t748.length : Int)) = true := decide_eq_true c21
       clear c21; simp only [Option.some.injEq, Prod.mk.injEq] at H
       obtain ⟨rfl, rfl, rfl⟩ := H
       try go_wp2
       have n0_ := Aside0.mk (Kd.R_drew HO_9.out)
       have n1_ := Aside0.mk (Kd.R_drew HO_26.out)
       have n2_ := Aside0.mk (blk_drew BK746.out)
       have n3_ := Aside0.mk (below_drew1 HB.out)
       clear HO_9; clear HO_26; clear BK746; clear HB; have HO_9 := n0_; have HO_26 := n1_; have BK746 := n2_; have HB := n3_; clear n0_ n1_ n2_ n3_; have p757 : 0 ≤ (x11_1 : Int) := of_decide_eq_true (by first | (with_reducible assumption) | assumption)
       have q757 : x11_1 < (t748.length : Int) := of_decide_eq_true (by first | (with_reducible assumption) | assumption)
       obtain ⟨ad757, e757, hx757_0⟩ := Kd.at_int (Kd.R_reads' HO_9.out).2.2 x11_1 p757 q757
       cases e757
       replace p757 := eq_true p757
       replace q757 := eq_true q757
       refine start_ (n := 10) (S := fun w' => w'.cell? ⟨gb746, 0, none⟩ = some (.int .i64 a0_0) ∧ w'.cell? ⟨gb746, 1, none⟩ = some (.int .i64 a0_1) ∧ w'.cell? (ad757.add (x11_1).toNat) = some (.int .i64 (rd t748 x11_1))) (ds := []) #[false, false, false, false, false, false, false, false, false, false] (by kernel_rfl) rfl rfl ⟨(blk_cell BK746.out 0).trans rfl, (blk_cell BK746.out 1).trans rfl, hx757_0⟩ (fun hHeld => ?_); refine with_tabW spec_FarthestAround.tab11 spec_FarthestAround.bits11 (fun HT_ HW_ => ?_)
       generalize wr.drew = w22 at HO_9 HO_26 BK746 HB hx757_0 hHeld ⊢
       refine pure_ (i := 1) (N := some 42) (v := ?_) (a' := ?_) #[false, true, false, false, false, false, false, false, false, false] rfl rfl (any_of HT_.out (by kernel_rfl)) (fun _ _ _ h => h) (Or.inl ⟨by rfl, ?_⟩) ?_ ?_
       rotate_left; intro w'; go_simp; with_reducible rfl
       rotate_left; simp only [Act.put, List.setIfInBounds_toArray, List.set_cons_zero, List.set_cons_succ, i64_w, i32_w]; rfl
       refine pure_ (i := 3) (N := some 44) (v := ?_) (a' := ?_) #[false, true, false, true, false, false, false, false, false, false] rfl rfl (any_of HT_.out (by kernel_rfl)) (fun _ _ _ h => h) (Or.inl ⟨by rfl, ?_⟩) ?_ ?_
       rotate_left; intro w'; go_simp; with_reducible rfl
       rotate_left; simp only [Act.put, List.setIfInBounds_toArray, List.set_cons_zero, List.set_cons_succ, i64_w, i32_w]; rfl
       refine pure_ (i := 4) (N := some 45) (v := ?_) (a' := ?_) #[false, true, false, true, true, false, false, false, false, false] rfl rfl (any_of HT_.out (by kernel_rfl)) (fun _ _ _ h => h) (Or.inl ⟨by rfl, ?_⟩) ?_ ?_
       rotate_left; intro w'; go_simp; with_reducible rfl
       rotate_left; simp only [Act.put, List.setIfInBounds_toArray, List.set_cons_zero, List.set_cons_succ, i64_w, i32_w]; rfl
       refine pure_ (i := 5) (N := some 46) (v := ?_) (a' := ?_) #[false, true, false, true, true, true, false, false, false, false] rfl rfl (any_of HT_.out (by kernel_rfl)) (fun _ _ _ h => h) (Or.inl ⟨by rfl, ?_⟩) ?_ ?_
       rotate_left; intro w'; go_simp; with_reducible rfl
       rotate_left; simp only [Act.put, List.setIfInBounds_toArray, List.set_cons_zero, List.set_cons_succ, i64_w, i32_w]; rfl
       refine take_ (i := 0) (N := some 41) (v := ?_) (a' := ?_) #[true, true, false, true, true, true, false, false, false, false] rfl rfl (take_ofW HT_.out HW_.out (by kernel_rfl)) (fun _ _ _ h => h) (Or.inl ⟨by rfl, ?_⟩) hHeld ?_ ?_
       rotate_left; rintro w' ⟨s0, s1, s2⟩; go_simp; with_reducible rfl
       rotate_left; simp only [Act.put, List.setIfInBounds_toArray, List.set_cons_zero, List.set_cons_succ, i64_w, i32_w]; rfl
       refine take_ (i := 6) (N := some 47) (v := ?_) (a' := ?_) #[true, true, false, true, true, true, true, false, false, false] rfl rfl (take_ofW HT_.out HW_.out (by kernel_rfl)) (fun _ _ _ h => h) (Or.inl ⟨by rfl, ?_⟩) hHeld ?_ ?_
       rotate_left; rintro w' ⟨s0, s1, s2⟩; go_simp; with_reducible rfl
       rotate_left; simp only [Act.put, List.setIfInBounds_toArray, List.set_cons_zero, List.set_cons_succ, i64_w, i32_w]; rfl
       refine one_ (i := 2) (N := some 43) #[true, true, true, true, true, true, true, false, false, false] rfl rfl (one_of HT_.out (by kernel_rfl)) (by decide) (fun K hK => ?_)
       refine goes_ Try.func75 (by kernel_rfl) rfl #[.agg #[.int .i64 a0_0, .int .i64 a0_1], .int .i64 x11_1] (by rfl) rfl rfl (by (try simp only [List.map_toArray, List.map_cons, List.map_nil]); first | done | rfl | (simp only [List.length_drop, List.length_take]; rfl)) ?_
       with_reducible refine (spec_whOf.calls k1 a0_0 a0_1 x11_1 t756 _ A19.out).mono ?_
       rintro e w23 ⟨rfl, hb⟩
       have HS2_ := (hb.cell (World.block_lt_of_cell? _ _ (hHeld.2.2))).trans (hHeld.2.2)
       refine ⟨_, rfl, ?_⟩
       have n0_ := Aside0.mk (Kd.R_below (by (with_reducible repeat (first | apply Kd.R_alloc | apply Kd.R_drewN | apply Kd.R_drew)); exact HO_9.out) hb)
       have n1_ := Aside0.mk (Kd.R_below (by (with_reducible repeat (first | apply Kd.R_alloc | apply Kd.R_drewN | apply Kd.R_drew)); exact HO_26.out) hb)
       have n2_ := Aside0.mk (blk_below (g := gb746) (o := .cells #[.int .i64 a0_0, .int .i64 a0_1] 30 (0, 0)) (by (with_reducible repeat (first | refine blk_drewN ?_ _ | refine blk_drew ?_ | refine blk_alloc ?_ _)); exact BK746.out) hb)
       have n3_ := Aside0.mk (below_step (by repeat (first | (with_reducible first | exact HB.out | apply below_alloc | apply pw_below_drewN | apply below_drew1 | refine below_set ?_ GE746.out) | exact HB.out)) hb)
       clear HO_9; clear HO_26; clear BK746; clear HB; have HO_9 := n0_; have HO_26 := n1_; have BK746 := n2_; have HB := n3_; clear n0_ n1_ n2_ n3_; (try clear hb); (try clear hb2); (try clear hk); (try clear hi); refine hK.out _ _ ⟨(blk_cell BK746.out 0).trans rfl, (blk_cell BK746.out 1).trans rfl, HS2_⟩ (fun hHeld => ?_)
       clear hK K; refine norm_ (a' := ?_) ?_ ?_
       rotate_left
       ·show Act.put _ (some 43) _ = _
        simp only [Act.put, List.setIfInBounds_toArray, List.set_cons_zero, List.set_cons_succ, i64_w, i32_w]
        rfl
       refine pure_ (i := 7) (N := some 6) (v := ?_) (a' := ?_) #[true, true, true, true, true, true, true, true, false, false] rfl rfl (any_of HT_.out (by kernel_rfl)) (fun _ _ _ h => h) (Or.inl ⟨by rfl, ?_⟩) ?_ ?_
       rotate_left; intro w'; go_simp; with_reducible rfl
       rotate_left; simp only [Act.put, List.setIfInBounds_toArray, List.set_cons_zero, List.set_cons_succ, i64_w, i32_w]; rfl
       refine pure_ (i := 8) (N := some 7) (v := ?_) (a' := ?_) #[true, true, true, true, true, true, true, true, true, false] rfl rfl (any_of HT_.out (by kernel_rfl)) (fun _ _ _ h => h) (Or.inl ⟨by rfl, ?_⟩) ?_ ?_
       rotate_left; intro w'; go_simp; with_reducible rfl
       rotate_left; simp only [Act.put, List.setIfInBounds_toArray, List.set_cons_zero, List.set_cons_succ, i64_w, i32_w]; rfl
       refine pure_ (i := 9) (N := some 8) (v := ?_) (a' := ?_) #[true, true, true, true, true, true, true, true, true, true] rfl rfl (any_of HT_.out (by kernel_rfl)) (fun _ _ _ h => h) (Or.inl ⟨by rfl, ?_⟩) ?_ ?_
       rotate_left; intro w'; go_simp; with_reducible rfl
       rotate_left; simp only [Act.put, List.setIfInBounds_toArray, List.set_cons_zero, List.set_cons_succ, i64_w, i32_w]; rfl
       refine done_ (done_of HT_.out (by kernel_rfl)) ?_
       try go_wp2
       go_ret3
       exact ⟨by first | rfl | (simp [errW_none, errW_some] <;> rfl) | (simp [*, errW_none, errW_some] <;> rfl), by repeat (first | (with_reducible first | exact HB.out | apply below_alloc | apply pw_below_drewN | apply below_drew1 | refine below_set ?_ GE746.out) | exact HB.out)⟩
      ·rw [if_neg c21] at H
       exact absurd H (by simp)
     ·rw [if_neg c20] at H
      exact absurd H (by simp)
 ·replace c5 := Bool.eq_false_iff.mpr c5
  subst c5
  have H1 : (some ((⟨#[]⟩ : ByteArray), 0, false)) = some (r1, r2, r3) := by rw [if_neg (show ¬ (false = true) by decide)] at H; exact H
  clear H; have H := H1
  clear H1; simp only [Option.some.injEq, Prod.mk.injEq] at H
  obtain ⟨rfl, rfl, rfl⟩ := H
  go_enter Try.func38, Try.ntmps38
  go_wp2_with (first | ((with_reducible refine gate_dst (N := 3) rfl ?_); refine box_event ?hg (N := 3) ?hd (cs := #[.int .i64 a0_0, .int .i64 a0_1]) (t := 30) ?hr ?_; (case hd => rfl); (case hg => rfl); (case hr => first | (go_simp; done) | (go_simp; rfl)); intro gb746 hg w24 hbox hb; have n0_ := Aside0.mk (below_step (by repeat (first | (with_reducible first | exact HB.out | apply below_alloc | apply pw_below_drewN | apply below_drew1) | exact HB.out)) hb); have n1_ := Aside0.mk (hbox); have n2_ := Aside0.mk ((by rw [hg]; exact (below_size (by repeat (first | (with_reducible first | exact HB.out | apply below_alloc | apply pw_below_drewN | apply below_drew1) | exact HB.out))) : w.heap.size ≤ gb746)); have n3_ := Aside0.mk ((by rw [hg]; exact (below_size (by repeat (first | (with_reducible first | exact HB.out | apply below_alloc | apply pw_below_drewN | apply below_drew1) | exact HB.out))) : w.heap.size ≤ gb746)); clear HB; have HB := n0_; have BK746 := n1_; have GW746 := n2_; have GE746 := n3_; clear n0_ n1_ n2_ n3_; clear hb hbox hg; have hcz25_0 : w24.cell? ⟨gb746, 0, none⟩ = some (.int .i64 a0_0) := (blk_cell BK746.out 0).trans rfl; have hcz25_1 : w24.cell? ⟨gb746, 1, none⟩ = some (.int .i64 a0_1) := (blk_cell BK746.out 1).trans rfl; have hfz25_0 := blk_frozen BK746.out 0; have hfz25_1 := blk_frozen BK746.out 1) | ((with_reducible refine gate_callee (f := 49) rfl ?_); refine goesL_ (some 17) rfl rfl Try.func49 (by kernel_rfl) rfl #[.agg #[.int .i64 a0_0, .int .i64 a0_1], .slice A1 l1.length c1, .string a2] rfl (by (try simp only [List.map_toArray, List.map_cons, List.map_nil]); first | done | rfl | (simp only [List.length_drop, List.length_take]; rfl)) ?_; (with_reducible refine (spec_deAsked.calls k a0_0 a0_1 _ _ l1 a2 false _ ?side1 ?side2 A4.out).mono ?_); (case side1 => repeat (first | exact (Kd.C_below HR1.out HB.out) | (with_reducible refine Kd.C_alloc ?_ _) | (with_reducible refine Kd.C_drewN ?_ _) | (with_reducible refine Kd.C_drew ?_))); (case side2 => exact HC1.out); rintro e w26 ⟨rfl, hb⟩; refine ⟨_, rfl, ?_⟩; have n0_ := Aside0.mk (blk_below (g := gb746) (o := .cells #[.int .i64 a0_0, .int .i64 a0_1] 30 (0, 0)) (by (with_reducible repeat (first | refine blk_drewN ?_ _ | refine blk_drew ?_ | refine blk_alloc ?_ _)); exact BK746.out) hb); have n1_ := Aside0.mk (below_step (by repeat (first | (with_reducible first | exact HB.out | apply below_alloc | apply pw_below_drewN | apply below_drew1 | refine below_set ?_ GE746.out) | exact HB.out)) hb); clear BK746; clear HB; have BK746 := n0_; have HB := n1_; clear n0_ n1_; (try clear hb); (try clear hb2); (try clear hk); (try clear hi)))
  go_ret3
  exact ⟨by first | rfl | (simp [errW_none, errW_some] <;> rfl) | (simp [*, errW_none, errW_some] <;> rfl), by repeat (first | (with_reducible first | exact HB.out | apply below_alloc | apply pw_below_drewN | apply below_drew1 | refine below_set ?_ GE746.out) | exact HB.out)⟩

end Go.Proofs.Ytajhahafgnefcaa.R
