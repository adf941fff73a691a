import Derived.Test.YtajhahafgnefcaaUp
import Derived.Test.YtajhahafgnefcaaR0
import Derived.Test.YtajhahafgnefcaaR25
namespace Go.Proofs.Ytajhahafgnefcaa.R
open Go.RowKit Go.Proofs.YtajhahafgnefcaaW.PrintWords Go.Proofs.YtajhahafgnefcaaW.PrintLast Go.Proofs.YtajhahafgnefcaaW.PrintMore
set_option linter.unusedVariables false
set_option linter.unusedSimpArgs false

/-! ### Fk: function 61 -/
def Fk.l0 : Nat → Int → List Int → Int → Int → Int → Int → Option (Int)
 | 0, _, _, _, _, _, _ => none
 | k + 1, x5, x9, x10, x11, x387000, x387001 => if x11 < x10 then (if 0 ≤ x11 then (if x11 < (x9.length : Int) then (Fk.l0 k (wrap64 ((wrap64 (x5 * x387001)) + (rd x9 x11))) x9 x10 (wrap64 (x11 + 1)) x387000 x387001) else (none)) else (none)) else (some x5)
def Fk.f (k : Nat) (a0_0 : Int) (a0_1 : Int) (a1 : ByteArray) : Option (Int) := (FG.f k a1).bind fun t387 => (Fk.l0 k 0 t387 (t387.length : Int) 0 a0_0 a0_1)
theorem Fk.mono_l : ∀ k, (∀ y0 y1 y2 y3 y4 y5, LeO (Fk.l0 k y0 y1 y2 y3 y4 y5) (Fk.l0 (k + 1) y0 y1 y2 y3 y4 y5))
 | 0 => fun _ _ _ _ _ _ r h => by simp [Fk.l0] at h
 | k + 1 => by
  have ih0 := Fk.mono_l k
  ·intro y0 y1 y2 y3 y4 y5
   unfold Fk.l0
   repeat' (with_reducible first | exact ih0 _ _ _ _ _ _ | exact FG.mono _ _ | exact LeO.refl _ | exact LeO.none _ | refine LeO.ite ?_ ?_ | refine LeO.bind ?_ (fun _ => ?_))
theorem Fk.mono : ∀ a0 a1 a2 k, LeO (Fk.f k a0 a1 a2) (Fk.f (k + 1) a0 a1 a2) := by
 intro a0 a1 a2 k
 have ih0 := Fk.mono_l k
 unfold Fk.f
 repeat' (with_reducible first | exact ih0 _ _ _ _ _ _ | exact FG.mono _ _ | exact LeO.refl _ | exact LeO.none _ | refine LeO.ite ?_ ?_ | refine LeO.bind ?_ (fun _ => ?_))
set_option maxHeartbeats 8000000 in
set_option maxRecDepth 100000 in
theorem Fk.calls (k : Nat) (a0_0 : Int) (a0_1 : Int) (a1 : ByteArray) (r : Int) (w : World) (h : Fk.f k a0_0 a0_1 a1 = some r) :
  Calls Try.prog 61 #[.agg #[.int .i64 a0_0, .int .i64 a0_1], .string a1] w fun e w' => e = .returned (.int .i64 r) ∧ Below w.heap.size w w' := by
 have hu30 := Try.underlying30
 have HB := Aside0.mk (Below.refl w.heap.size w)
 have H : ((FG.f k a1).bind fun t387 => (Fk.l0 k 0 t387 (t387.length : Int) 0 a0_0 a0_1)) = some r := h
 clear h; replace H := Option.bind_eq_some_iff.mp H
 obtain ⟨t387, A30, H⟩ := H
 replace H : (Fk.l0 k 0 t387 (t387.length : Int) 0 a0_0 a0_1) = some r := H
 have A3 := Aside0.mk A30
 clear A30; have H' := Aside0.mk H
 clear H; go_enter Try.func61, Try.ntmps61
 go_wp2_with (first | ((with_reducible refine gate_dst (N := 2) rfl ?_); refine box_event ?hg (N := 2) ?hd (cs := #[.int .i64 a0_0, .int .i64 a0_1]) (t := 30) ?hr ?_; (case hd => rfl); (case hg => rfl); (case hr => first | (go_simp; done) | (go_simp; rfl)); intro gb386 hg w4 hbox hb; have n0_ := Aside0.mk (below_step (upB_ HB.out) hb); have n1_ := Aside0.mk (hbox); have n2_ := Aside0.mk ((by rw [hg]; exact (below_size (upB_ HB.out)) : w.heap.size ≤ gb386)); have n3_ := Aside0.mk ((by rw [hg]; exact (below_size (upB_ HB.out)) : w.heap.size ≤ gb386)); clear HB; have HB := n0_; have BK386 := n1_; have GW386 := n2_; have GE386 := n3_; clear n0_ n1_ n2_ n3_; clear hb hbox hg) | ((with_reducible refine gate_callee (f := 95) rfl ?_); refine goesL_ (some 9) rfl rfl Try.func95 (by kernel_rfl) rfl #[.string a1] rfl (by (try simp only [List.map_toArray, List.map_cons, List.map_nil]); first | done | rfl | (simp only [List.length_drop, List.length_take]; rfl)) ?_; (with_reducible refine (FG.calls k a1 t387 _ A3.out).mono ?_); rintro e w5 ⟨v388, rfl, ho0, hb⟩; refine ⟨_, rfl, ?_⟩; have n0_ := Aside0.mk (Kd.R_lower ho0 (below_size (upB_ HB.out))); have n1_ := Aside0.mk (blk_below (g := gb386) (o := .cells #[.int .i64 a0_0, .int .i64 a0_1] 30 (0, 0)) (upK_ BK386.out) hb); have n2_ := Aside0.mk (below_step (upB_ HB.out) hb); clear BK386; clear HB; have HO389 := n0_; have BK386 := n1_; have HB := n2_; clear n0_ n1_ n2_; (try clear hb); (try clear hb2); (try clear hk); (try clear hi); (try clear ho0); obtain ⟨Ao6, co6, eo6⟩ := Kd.R_slice HO389.out; subst eo6))
 go_loopg [5, 11] k (fun kq v5 v11 w' => ∃ (x5_1 : Int) (x11_1 : Int), v5 = .int .i64 x5_1 ∧ v11 = .int .i64 x11_1 ∧ Aside0 (Fk.l0 kq x5_1 t387 (t387.length : Int) x11_1 a0_0 a0_1 = some r) ∧ Aside0 (kq ≤ k) ∧ Aside0 (Kd.R (Kd.int .i64) 3 w' w.heap.size (fun _ => True) (.slice Ao6 t387.length co6) t387) ∧ Aside0 (w'.heap[gb386]? = some (.cells #[.int .i64 a0_0, .int .i64 a0_1] 30 (0, 0))) ∧ Aside0 (Below w.heap.size w w'))
 case atStart => exact ⟨(0), (0), (by first | rfl | (simp; done) | (simp [*]; done)), (by first | rfl | (simp; done) | (simp [*]; done)), H', ⟨Nat.le_refl _⟩, ⟨upR_ HO389.out⟩, ⟨upK_ BK386.out⟩, ⟨upB_ HB.out⟩⟩
 case round =>
  clear H'; try clear p2
  try clear c6
  obtain ⟨x5_1, x11_1, rfl, rfl, HA, HK1, HO_9, BK386, HB⟩ := hrel
  cases gk with
  | zero => exact absurd HA.out (by simp [Fk.l0])
  | succ k1 =>
   have H := HA.out
   clear HA; simp only [Fk.l0] at H
   by_cases c7 : x11_1 < (t387.length : Int)
   ·rw [if_pos c7] at H
    have c7b0 : decide (x11_1 < (t387.length : Int)) = true := decide_eq_true c7
    clear c7; by_cases c8 : 0 ≤ x11_1
    ·rw [if_pos c8] at H
     have c8b0 : decide (0 ≤ x11_1) = true := decide_eq_true c8
     clear c8; by_cases c9 : x11_1 < (t387.length : Int)
     ·rw [if_pos c9] at H
      have c9b0 : decide (x11_1 < (t387.length : Int)) = true := decide_eq_true c9
      clear c9; have H' := Aside0.mk H
      clear H; have p390 : 0 ≤ (x11_1 : Int) := of_decide_eq_true (by first | (with_reducible assumption) | assumption)
      have q390 : x11_1 < (t387.length : Int) := of_decide_eq_true (by first | (with_reducible assumption) | assumption)
      obtain ⟨ad390, e390, hx390_0⟩ := Kd.at_int (Kd.R_reads' HO_9.out).2.2 x11_1 p390 q390
      cases e390
      replace p390 := eq_true p390
      replace q390 := eq_true q390
      have hcz10_0 : wr.cell? ⟨gb386, 0, none⟩ = some (.int .i64 a0_0) := (blk_cell BK386.out 0).trans rfl
      have hcz10_1 : wr.cell? ⟨gb386, 1, none⟩ = some (.int .i64 a0_1) := (blk_cell BK386.out 1).trans rfl
      have hfz10_0 := blk_frozen BK386.out 0
      have hfz10_1 := blk_frozen BK386.out 1
      go_wp2
      go_roundg k1
      case measure => have := HK1.out; omega
      case rel => exact ⟨(wrap64 ((wrap64 (x5_1 * a0_1)) + (rd t387 x11_1))), (wrap64 (x11_1 + 1)), (by first | rfl | (simp; done) | (simp [*]; done)), (by first | rfl | (simp; done) | (simp [*]; done)), H', ⟨by have := HK1.out; omega⟩, ⟨upR_ HO_9.out⟩, ⟨upK_ BK386.out⟩, ⟨upB_ HB.out⟩⟩
     ·rw [if_neg c9] at H
      exact absurd H (by simp)
    ·rw [if_neg c8] at H
     exact absurd H (by simp)
   ·rw [if_neg c7] at H
    have c7b0 : decide (x11_1 < (t387.length : Int)) = false := decide_eq_false c7
    clear c7; obtain rfl := Option.some.inj H
    go_wp2
    go_ret
    exact ⟨by first | rfl | (simp [errW_none, errW_some] <;> rfl) | (simp [*, errW_none, errW_some] <;> rfl), by repeat (first | (with_reducible first | exact HB.out | apply below_alloc | apply pw_below_drewN | apply below_drew1 | refine below_set ?_ GE386.out) | exact HB.out)⟩

end Go.Proofs.Ytajhahafgnefcaa.R
