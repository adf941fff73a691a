-- Written by a program of this session (p2.sh: a patched copy of the kit's printer) out of the translation; not by print.sh. Lean checks it.
import Derived.Test.YtajhahafgnefcaaR0
import Derived.Test.YtajhahafgnefcaaR25
import Derived.Test.YtajhahafgnefcaaR38
import Derived.Test.YtajhahafgnefcaaR72
namespace Go.Proofs.Ytajhahafgnefcaa.R
open Go.RowKit Go.Proofs.YtajhahafgnefcaaW.PrintWords Go.Proofs.YtajhahafgnefcaaW.PrintLast Go.Proofs.YtajhahafgnefcaaW.PrintMore
attribute [local go_sem] max2_int min2_int max_two min_two max_three min_three max_four min_four   -- for this text's walks alone
set_option linter.unusedVariables false
set_option linter.unusedSimpArgs false

/-! ### spec_DetourOf: function 40 -/
def spec_DetourOf.f (k : Nat) (a0_0 : Int) (a0_1 : Int) (l1 : List ByteArray) (a2 : ByteArray) (a3 : ByteArray) : Option (Int × Bool) := (spec_FewestAround.f k a0_0 a0_1 l1 a2 a3).bind fun bt815 => (if bt815.2 = true then ((spec_whDistance.f k a0_0 a0_1 a2 a3).bind fun t817 => (some (wrap64 (bt815.1 - t817), true))) else (some (0, false)))
theorem spec_DetourOf.mono : ∀ a0 a1 a2 a3 a4 k, LeO (spec_DetourOf.f k a0 a1 a2 a3 a4) (spec_DetourOf.f (k + 1) a0 a1 a2 a3 a4) := by
 intro a0 a1 a2 a3 a4 k
 unfold spec_DetourOf.f
 repeat' first
   | (with_reducible exact spec_FewestAround.mono _ _ _ _ _ _)
   | (with_reducible exact spec_whDistance.mono _ _ _ _ _)
   | (with_reducible exact LeO.refl _)
   | (with_reducible exact LeO.none _)
   | (with_reducible refine LeO.ite ?_ ?_)
   | (with_reducible refine LeO.bind ?_ (fun _ => ?_))
   | exact spec_FewestAround.mono _ _ _ _ _ _
   | exact spec_whDistance.mono _ _ _ _ _
   | exact LeO.none _
   | refine LeO.ite ?_ ?_
   | refine LeO.bind ?_ (fun _ => ?_)
set_option maxHeartbeats 8000000 in
set_option maxRecDepth 100000 in
theorem spec_DetourOf.calls (k : Nat) (a0_0 : Int) (a0_1 : Int) (A1 : Option Addr) (c1 : Nat) (l1 : List ByteArray) (a2 : ByteArray) (a3 : ByteArray) (r1 : Int) (r2 : Bool) (w : World) (hr1 : Kd.C Kd.string w A1 l1.length l1) (hc1 : l1.length ≤ c1) (h : spec_DetourOf.f k a0_0 a0_1 l1 a2 a3 = some (r1, r2)) :
  Calls Try.prog 40 #[.agg #[.int .i64 a0_0, .int .i64 a0_1], .slice A1 l1.length c1, .string a2, .string a3] w fun e w' => e = .returned (.tuple #[.int .i64 r1, .bool r2]) ∧ Below w.heap.size w w' := by
 have hu30 := Try.underlying30
 have HR1 := Aside0.mk hr1
 have HC1 := Aside0.mk hc1
 clear hr1 hc1; have HB := Aside0.mk (Below.refl w.heap.size w)
 have H : ((spec_FewestAround.f k a0_0 a0_1 l1 a2 a3).bind fun bt815 => (if bt815.2 = true then ((spec_whDistance.f k a0_0 a0_1 a2 a3).bind fun t817 => (some (wrap64 (bt815.1 - t817), true))) else (some (0, false)))) = some (r1, r2) := h
 clear h; replace H := Option.bind_eq_some_iff.mp H
 obtain ⟨⟨t815, t816⟩, A50, H⟩ := H
 replace H : (if t816 = true then ((spec_whDistance.f k a0_0 a0_1 a2 a3).bind fun t817 => (some (wrap64 (t815 - t817), true))) else (some (0, false))) = some (r1, r2) := H
 have A5 := Aside0.mk A50
 clear A50; by_cases c6 : t816 = true
 ·subst c6
  have H1 : ((spec_whDistance.f k a0_0 a0_1 a2 a3).bind fun t817 => (some (wrap64 (t815 - t817), true))) = some (r1, r2) := by rw [if_pos rfl] at H; exact H
  clear H; have H := H1
  clear H1; replace H := Option.bind_eq_some_iff.mp H
  obtain ⟨t817, A70, H⟩ := H
  replace H : (some (wrap64 (t815 - t817), true)) = some (r1, r2) := H
  have A7 := Aside0.mk A70
  clear A70; simp only [Option.some.injEq, Prod.mk.injEq] at H
  obtain ⟨rfl, rfl⟩ := H
  go_enter Try.func40, Try.ntmps40
  go_wp2_with (first | ((with_reducible refine gate_dst (N := 4) rfl ?_); refine box_event ?hg (N := 4) ?hd (cs := #[.int .i64 a0_0, .int .i64 a0_1]) (t := 30) ?hr ?_; (case hd => rfl); (case hg => rfl); (case hr => first | (go_simp; done) | (go_simp; rfl)); intro gb814 hg w8 hbox hb; have n0_ := Aside0.mk (below_step HB.out hb); have n1_ := Aside0.mk (hbox); have n2_ := Aside0.mk ((by rw [hg]; exact (below_size HB.out) : w.heap.size ≤ gb814)); have n3_ := Aside0.mk ((by rw [hg]; exact (below_size HB.out) : w.heap.size ≤ gb814)); clear HB; have HB := n0_; have BK814 := n1_; have GW814 := n2_; have GE814 := n3_; clear n0_ n1_ n2_ n3_; clear hb hbox hg; have hcz9_0 : w8.cell? ⟨gb814, 0, none⟩ = some (.int .i64 a0_0) := (blk_cell BK814.out 0).trans rfl; have hcz9_1 : w8.cell? ⟨gb814, 1, none⟩ = some (.int .i64 a0_1) := (blk_cell BK814.out 1).trans rfl; have hfz9_0 := blk_frozen BK814.out 0; have hfz9_1 := blk_frozen BK814.out 1) | ((with_reducible refine gate_callee (f := 26) rfl ?_); refine goesL_ (some 17) rfl rfl Try.func26 (by kernel_rfl) rfl #[.agg #[.int .i64 a0_0, .int .i64 a0_1], .slice A1 l1.length c1, .string a2, .string a3] rfl (by (try simp only [List.map_toArray, List.map_cons, List.map_nil]); first | done | rfl | (simp only [List.length_drop, List.length_take]; rfl)) ?_; (with_reducible refine (spec_FewestAround.calls k a0_0 a0_1 _ _ l1 a2 a3 t815 true _ ?side1 ?side2 A5.out).mono ?_); (case side1 => repeat (first | exact (Kd.C_below HR1.out HB.out) | (with_reducible refine Kd.C_alloc ?_ _) | (with_reducible refine Kd.C_drewN ?_ _) | (with_reducible refine Kd.C_drew ?_))); (case side2 => exact HC1.out); rintro e w10 ⟨rfl, hb⟩; refine ⟨_, rfl, ?_⟩; have n0_ := Aside0.mk (blk_below (g := gb814) (o := .cells #[.int .i64 a0_0, .int .i64 a0_1] 30 (0, 0)) BK814.out hb); have n1_ := Aside0.mk (below_step HB.out hb); clear BK814; clear HB; have BK814 := n0_; have HB := n1_; clear n0_ n1_; (try clear hb); (try clear hb2); (try clear hk); (try clear hi); have hcz11_0 : w10.cell? ⟨gb814, 0, none⟩ = some (.int .i64 a0_0) := (blk_cell BK814.out 0).trans rfl; have hcz11_1 : w10.cell? ⟨gb814, 1, none⟩ = some (.int .i64 a0_1) := (blk_cell BK814.out 1).trans rfl; have hfz11_0 := blk_frozen BK814.out 0; have hfz11_1 := blk_frozen BK814.out 1) | ((with_reducible refine gate_callee (f := 80) rfl ?_); refine goesL_ (some 26) rfl rfl Try.func80 (by kernel_rfl) rfl #[.agg #[.int .i64 a0_0, .int .i64 a0_1], .string a2, .string a3] rfl (by (try simp only [List.map_toArray, List.map_cons, List.map_nil]); first | done | rfl | (simp only [List.length_drop, List.length_take]; rfl)) ?_; (with_reducible refine (spec_whDistance.calls k a0_0 a0_1 a2 a3 t817 _ A7.out).mono ?_); rintro e w12 ⟨rfl, hb⟩; refine ⟨_, rfl, ?_⟩; have n0_ := Aside0.mk (blk_below (g := gb814) (o := .cells #[.int .i64 a0_0, .int .i64 a0_1] 30 (0, 0)) BK814.out hb); have n1_ := Aside0.mk (below_step HB.out hb); clear BK814; clear HB; have BK814 := n0_; have HB := n1_; clear n0_ n1_; (try clear hb); (try clear hb2); (try clear hk); (try clear hi)))
  go_ret2
  exact ⟨by first | rfl | (simp [errW_none, errW_some] <;> rfl) | (simp [*, errW_none, errW_some] <;> rfl), by repeat (first | (with_reducible first | exact HB.out | apply below_alloc | apply pw_below_drewN | apply below_drew1 | refine below_set ?_ GE814.out) | exact HB.out)⟩
 ·replace c6 := Bool.eq_false_iff.mpr c6
  subst c6
  have H1 : (some (0, false)) = some (r1, r2) := by rw [if_neg (show ¬ (false = true) by decide)] at H; exact H
  clear H; have H := H1
  clear H1; simp only [Option.some.injEq, Prod.mk.injEq] at H
  obtain ⟨rfl, rfl⟩ := H
  go_enter Try.func40, Try.ntmps40
  go_wp2_with (first | ((with_reducible refine gate_dst (N := 4) rfl ?_); refine box_event ?hg (N := 4) ?hd (cs := #[.int .i64 a0_0, .int .i64 a0_1]) (t := 30) ?hr ?_; (case hd => rfl); (case hg => rfl); (case hr => first | (go_simp; done) | (go_simp; rfl)); intro gb814 hg w13 hbox hb; have n0_ := Aside0.mk (below_step HB.out hb); have n1_ := Aside0.mk (hbox); have n2_ := Aside0.mk ((by rw [hg]; exact (below_size HB.out) : w.heap.size ≤ gb814)); have n3_ := Aside0.mk ((by rw [hg]; exact (below_size HB.out) : w.heap.size ≤ gb814)); clear HB; have HB := n0_; have BK814 := n1_; have GW814 := n2_; have GE814 := n3_; clear n0_ n1_ n2_ n3_; clear hb hbox hg; have hcz14_0 : w13.cell? ⟨gb814, 0, none⟩ = some (.int .i64 a0_0) := (blk_cell BK814.out 0).trans rfl; have hcz14_1 : w13.cell? ⟨gb814, 1, none⟩ = some (.int .i64 a0_1) := (blk_cell BK814.out 1).trans rfl; have hfz14_0 := blk_frozen BK814.out 0; have hfz14_1 := blk_frozen BK814.out 1) | ((with_reducible refine gate_callee (f := 26) rfl ?_); refine goesL_ (some 17) rfl rfl Try.func26 (by kernel_rfl) rfl #[.agg #[.int .i64 a0_0, .int .i64 a0_1], .slice A1 l1.length c1, .string a2, .string a3] rfl (by (try simp only [List.map_toArray, List.map_cons, List.map_nil]); first | done | rfl | (simp only [List.length_drop, List.length_take]; rfl)) ?_; (with_reducible refine (spec_FewestAround.calls k a0_0 a0_1 _ _ l1 a2 a3 t815 false _ ?side1 ?side2 A5.out).mono ?_); (case side1 => repeat (first | exact (Kd.C_below HR1.out HB.out) | (with_reducible refine Kd.C_alloc ?_ _) | (with_reducible refine Kd.C_drewN ?_ _) | (with_reducible refine Kd.C_drew ?_))); (case side2 => exact HC1.out); rintro e w15 ⟨rfl, hb⟩; refine ⟨_, rfl, ?_⟩; have n0_ := Aside0.mk (blk_below (g := gb814) (o := .cells #[.int .i64 a0_0, .int .i64 a0_1] 30 (0, 0)) BK814.out hb); have n1_ := Aside0.mk (below_step HB.out hb); clear BK814; clear HB; have BK814 := n0_; have HB := n1_; clear n0_ n1_; (try clear hb); (try clear hb2); (try clear hk); (try clear hi)))
  go_ret2
  exact ⟨by first | rfl | (simp [errW_none, errW_some] <;> rfl) | (simp [*, errW_none, errW_some] <;> rfl), by repeat (first | (with_reducible first | exact HB.out | apply below_alloc | apply pw_below_drewN | apply below_drew1 | refine below_set ?_ GE814.out) | exact HB.out)⟩

/-! ### impl_Lock_gap: function 116 -/
def impl_Lock_gap.f (a0_0 : Int) (a0_1 : Int) (a1 : Int) (a2 : Int) : Option (Int) := (impl_around.f (wrap64 (a2 - a1)) a0_1).bind fun t819 => (some t819)
set_option maxHeartbeats 8000000 in
set_option maxRecDepth 100000 in
theorem impl_Lock_gap.calls (a0_0 : Int) (a0_1 : Int) (a1 : Int) (a2 : Int) (r : Int) (w : World) (h : impl_Lock_gap.f a0_0 a0_1 a1 a2 = some r) :
  Calls Try.prog 116 #[.agg #[.int .i64 a0_0, .int .i64 a0_1], .int .i64 a1, .int .i64 a2] w fun e w' => e = .returned (.int .i64 r) ∧ Below w.heap.size w w' := by
 have hu30 := Try.underlying30
 have HB := Aside0.mk (Below.refl w.heap.size w)
 have H : ((impl_around.f (wrap64 (a2 - a1)) a0_1).bind fun t819 => (some t819)) = some r := h
 clear h; replace H := Option.bind_eq_some_iff.mp H
 obtain ⟨t819, A40, H⟩ := H
 replace H : (some t819) = some r := H
 have A4 := Aside0.mk A40
 clear A40; obtain rfl := Option.some.inj H
 go_enter Try.func116, Try.ntmps116
 go_wp2_with (first | ((with_reducible refine gate_dst (N := 3) rfl ?_); refine box_event ?hg (N := 3) ?hd (cs := #[.int .i64 a0_0, .int .i64 a0_1]) (t := 30) ?hr ?_; (case hd => rfl); (case hg => rfl); (case hr => first | (go_simp; done) | (go_simp; rfl)); intro gb818 hg w5 hbox hb; have n0_ := Aside0.mk (below_step HB.out hb); have n1_ := Aside0.mk (hbox); have n2_ := Aside0.mk ((by rw [hg]; exact (below_size HB.out) : w.heap.size ≤ gb818)); have n3_ := Aside0.mk ((by rw [hg]; exact (below_size HB.out) : w.heap.size ≤ gb818)); clear HB; have HB := n0_; have BK818 := n1_; have GW818 := n2_; have GE818 := n3_; clear n0_ n1_ n2_ n3_; clear hb hbox hg; have hcz6_0 : w5.cell? ⟨gb818, 0, none⟩ = some (.int .i64 a0_0) := (blk_cell BK818.out 0).trans rfl; have hcz6_1 : w5.cell? ⟨gb818, 1, none⟩ = some (.int .i64 a0_1) := (blk_cell BK818.out 1).trans rfl; have hfz6_0 := blk_frozen BK818.out 0; have hfz6_1 := blk_frozen BK818.out 1) | ((with_reducible refine gate_callee (f := 101) rfl ?_); refine goesL_ (some 12) rfl rfl Try.func101 (by kernel_rfl) rfl #[.int .i64 (wrap64 (a2 - a1)), .int .i64 a0_1] rfl (by (try simp only [List.map_toArray, List.map_cons, List.map_nil]); first | done | rfl | (simp only [List.length_drop, List.length_take]; rfl)) ?_; (with_reducible refine (impl_around.calls (wrap64 (a2 - a1)) a0_1 t819 _ A4.out).mono ?_); rintro e w' ⟨rfl, ⟨nd, rfl⟩⟩; refine ⟨_, rfl, ?_⟩))
 go_ret
 exact ⟨by first | rfl | (simp [errW_none, errW_some] <;> rfl) | (simp [*, errW_none, errW_some] <;> rfl), by repeat (first | (with_reducible first | exact HB.out | apply below_alloc | apply pw_below_drewN | apply below_drew1 | refine below_set ?_ GE818.out) | exact HB.out)⟩

/-! ### impl_Lock_near: function 106 -/
def impl_Lock_near.f (a0_0 : Int) (a0_1 : Int) (a1 : Int) (a2 : Int) : Option (Int) := (impl_Lock_gap.f a0_0 a0_1 a1 a2).bind fun t821 => (some (mn t821 (wrap64 (a0_1 - t821))))
set_option maxHeartbeats 8000000 in
set_option maxRecDepth 100000 in
theorem impl_Lock_near.calls (a0_0 : Int) (a0_1 : Int) (a1 : Int) (a2 : Int) (r : Int) (w : World) (h : impl_Lock_near.f a0_0 a0_1 a1 a2 = some r) :
  Calls Try.prog 106 #[.agg #[.int .i64 a0_0, .int .i64 a0_1], .int .i64 a1, .int .i64 a2] w fun e w' => e = .returned (.int .i64 r) ∧ Below w.heap.size w w' := by
 have hu30 := Try.underlying30
 have HB := Aside0.mk (Below.refl w.heap.size w)
 have H : ((impl_Lock_gap.f a0_0 a0_1 a1 a2).bind fun t821 => (some (mn t821 (wrap64 (a0_1 - t821))))) = some r := h
 clear h; replace H := Option.bind_eq_some_iff.mp H
 obtain ⟨t821, A40, H⟩ := H
 replace H : (some (mn t821 (wrap64 (a0_1 - t821)))) = some r := H
 have A4 := Aside0.mk A40
 clear A40; obtain ⟨ji5, hji5⟩ : ∃ j_ : Int, (mn t821 (wrap64 (a0_1 - t821))) = j_ := ⟨_, rfl⟩
 replace H : (some ji5) = some r := by first | (rw [hji5] at H; exact H) | (simp only [hji5] at H ⊢; exact H)
 (try rw [hji5] at A4)
 have hji5_ : (if (wrap64 (a0_1 - t821)) < t821 then (wrap64 (a0_1 - t821)) else t821) = ji5 := hji5
 obtain rfl := Option.some.inj H
 go_enter Try.func106, Try.ntmps106
 go_wp2_with (first | ((with_reducible refine gate_dst (N := 3) rfl ?_); refine box_event ?hg (N := 3) ?hd (cs := #[.int .i64 a0_0, .int .i64 a0_1]) (t := 30) ?hr ?_; (case hd => rfl); (case hg => rfl); (case hr => first | (go_simp; done) | (go_simp; rfl)); intro gb820 hg w6 hbox hb; have n0_ := Aside0.mk (below_step HB.out hb); have n1_ := Aside0.mk (hbox); have n2_ := Aside0.mk ((by rw [hg]; exact (below_size HB.out) : w.heap.size ≤ gb820)); have n3_ := Aside0.mk ((by rw [hg]; exact (below_size HB.out) : w.heap.size ≤ gb820)); clear HB; have HB := n0_; have BK820 := n1_; have GW820 := n2_; have GE820 := n3_; clear n0_ n1_ n2_ n3_; clear hb hbox hg; have hcz7_0 : w6.cell? ⟨gb820, 0, none⟩ = some (.int .i64 a0_0) := (blk_cell BK820.out 0).trans rfl; have hcz7_1 : w6.cell? ⟨gb820, 1, none⟩ = some (.int .i64 a0_1) := (blk_cell BK820.out 1).trans rfl; have hfz7_0 := blk_frozen BK820.out 0; have hfz7_1 := blk_frozen BK820.out 1) | ((with_reducible refine gate_callee (f := 116) rfl ?_); refine goesL_ (some 11) rfl rfl Try.func116 (by kernel_rfl) rfl #[.agg #[.int .i64 a0_0, .int .i64 a0_1], .int .i64 a1, .int .i64 a2] rfl (by (try simp only [List.map_toArray, List.map_cons, List.map_nil]); first | done | rfl | (simp only [List.length_drop, List.length_take]; rfl)) ?_; (with_reducible refine (impl_Lock_gap.calls a0_0 a0_1 a1 a2 t821 _ A4.out).mono ?_); rintro e w8 ⟨rfl, hb⟩; refine ⟨_, rfl, ?_⟩; have n0_ := Aside0.mk (blk_below (g := gb820) (o := .cells #[.int .i64 a0_0, .int .i64 a0_1] 30 (0, 0)) BK820.out hb); have n1_ := Aside0.mk (below_step HB.out hb); clear BK820; clear HB; have BK820 := n0_; have HB := n1_; clear n0_ n1_; (try clear hb); (try clear hb2); (try clear hk); (try clear hi); have hcz9_0 : w8.cell? ⟨gb820, 0, none⟩ = some (.int .i64 a0_0) := (blk_cell BK820.out 0).trans rfl; have hcz9_1 : w8.cell? ⟨gb820, 1, none⟩ = some (.int .i64 a0_1) := (blk_cell BK820.out 1).trans rfl; have hfz9_0 := blk_frozen BK820.out 0; have hfz9_1 := blk_frozen BK820.out 1))
 go_ret
 exact ⟨by first | rfl | (simp [errW_none, errW_some] <;> rfl) | (simp only [← hji5]; first | rfl | (simp [errW_none, errW_some] <;> rfl)) | (simp [*, errW_none, errW_some] <;> rfl), by repeat (first | (with_reducible first | exact HB.out | apply below_alloc | apply pw_below_drewN | apply below_drew1 | refine below_set ?_ GE820.out) | exact HB.out)⟩

end Go.Proofs.Ytajhahafgnefcaa.R
