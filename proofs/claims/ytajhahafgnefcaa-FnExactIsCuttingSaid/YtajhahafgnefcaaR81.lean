-- Written by a program of this session (p2.sh: a patched copy of the kit's printer) out of the translation; not by print.sh. Lean checks it.
import Derived.Test.YtajhahafgnefcaaUp
import Derived.Test.YtajhahafgnefcaaR0
import Derived.Test.YtajhahafgnefcaaR1
import Derived.Test.YtajhahafgnefcaaR14
import Derived.Test.YtajhahafgnefcaaR15
import Derived.Test.YtajhahafgnefcaaR30
import Derived.Test.YtajhahafgnefcaaR79
import Derived.Test.YtajhahafgnefcaaR80
namespace Go.Proofs.Ytajhahafgnefcaa.R
open Go.RowKit Go.Proofs.YtajhahafgnefcaaW.PrintWords Go.Proofs.YtajhahafgnefcaaW.PrintLast Go.Proofs.YtajhahafgnefcaaW.PrintMore
attribute [local go_sem] max2_int min2_int max_two min_two max_three min_three max_four min_four   -- for this text's walks alone
set_option linter.unusedVariables false
set_option linter.unusedSimpArgs false

/-! ### laws_FnExactIsCutting: function 13 -/
def laws_FnExactIsCutting.j0 : Nat → List ByteArray → List ByteArray → Bool → Option (Bool)
 | 0, _, _, _ => none
 | k + 1, x1, x10, x47 => if x47 = true then (some false) else ((laws_toStringS.f k x1).bind fun t921 => ((laws_eqStringS.f k x10 t921).bind fun t924 => (if t924 = true then (some true) else (some false))))
def laws_FnExactIsCutting.f (k : Nat) (a0_0 : Int) (a0_1 : Int) (l1 : List ByteArray) (a2 : ByteArray) : Option (Bool) := if (a2.size : Int) > 1048576 then (some true) else ((laws_szStringS.f k l1 1048576).bind fun t906 => (if t906 < 0 then (some true) else ((laws_toLock.f a0_0 a0_1).bind fun bt907 => ((laws_toStringS.f k l1).bind fun t909 => ((spec_IsCutting.f k bt907.1 bt907.2 t909 a2).bind fun bt912 => ((laws_toStringS.f k l1).bind fun t914 => ((laws_toLock.f a0_0 a0_1).bind fun bt917 => ((impl_IsCutting.f k bt917.1 bt917.2 t914 a2).bind fun bt919 => (if (bt919.1 != bt912.1) = true then (laws_FnExactIsCutting.j0 k l1 t914 true) else (laws_FnExactIsCutting.j0 k l1 t914 (bt919.2 != bt912.2)))))))))))
theorem laws_FnExactIsCutting.mono_l : ∀ k, (∀ y0 y1 y2, LeO (laws_FnExactIsCutting.j0 k y0 y1 y2) (laws_FnExactIsCutting.j0 (k + 1) y0 y1 y2))
 | 0 => fun _ _ _ r h => by simp [laws_FnExactIsCutting.j0] at h
 | k + 1 => by
  have ih0 := laws_FnExactIsCutting.mono_l k
  ·intro y0 y1 y2
   unfold laws_FnExactIsCutting.j0
   repeat' first
   | (with_reducible exact ih0 _ _ _)
   | (with_reducible exact impl_IsCutting.mono _ _ _ _ _)
   | (with_reducible exact laws_eqStringS.mono _ _ _)
   | (with_reducible exact laws_szStringS.mono _ _ _)
   | (with_reducible exact laws_toStringS.mono _ _)
   | (with_reducible exact spec_IsCutting.mono _ _ _ _ _)
   | (with_reducible exact LeO.refl _)
   | (with_reducible exact LeO.none _)
   | (with_reducible refine LeO.ite ?_ ?_)
   | (with_reducible refine LeO.bind ?_ (fun _ => ?_))
   | exact ih0 _ _ _
   | exact impl_IsCutting.mono _ _ _ _ _
   | exact laws_eqStringS.mono _ _ _
   | exact laws_szStringS.mono _ _ _
   | exact laws_toStringS.mono _ _
   | exact spec_IsCutting.mono _ _ _ _ _
   | exact LeO.none _
   | refine LeO.ite ?_ ?_
   | refine LeO.bind ?_ (fun _ => ?_)
theorem laws_FnExactIsCutting.mono : ∀ a0 a1 a2 a3 k, LeO (laws_FnExactIsCutting.f k a0 a1 a2 a3) (laws_FnExactIsCutting.f (k + 1) a0 a1 a2 a3) := by
 intro a0 a1 a2 a3 k
 have ih0 := laws_FnExactIsCutting.mono_l k
 unfold laws_FnExactIsCutting.f
 repeat' first
   | (with_reducible exact ih0 _ _ _)
   | (with_reducible exact impl_IsCutting.mono _ _ _ _ _)
   | (with_reducible exact laws_eqStringS.mono _ _ _)
   | (with_reducible exact laws_szStringS.mono _ _ _)
   | (with_reducible exact laws_toStringS.mono _ _)
   | (with_reducible exact spec_IsCutting.mono _ _ _ _ _)
   | (with_reducible exact LeO.refl _)
   | (with_reducible exact LeO.none _)
   | (with_reducible refine LeO.ite ?_ ?_)
   | (with_reducible refine LeO.bind ?_ (fun _ => ?_))
   | exact ih0 _ _ _
   | exact impl_IsCutting.mono _ _ _ _ _
   | exact laws_eqStringS.mono _ _ _
   | exact laws_szStringS.mono _ _ _
   | exact laws_toStringS.mono _ _
   | exact spec_IsCutting.mono _ _ _ _ _
   | exact LeO.none _
   | refine LeO.ite ?_ ?_
   | refine LeO.bind ?_ (fun _ => ?_)
set_option maxHeartbeats 8000000 in
set_option maxRecDepth 100000 in
theorem laws_FnExactIsCutting.calls (k : Nat) (a0_0 : Int) (a0_1 : Int) (A1 : Option Addr) (c1 : Nat) (l1 : List ByteArray) (a2 : ByteArray) (r : Bool) (w : World) (hr1 : Kd.C Kd.string w A1 l1.length l1) (hc1 : l1.length ≤ c1) (h : laws_FnExactIsCutting.f k a0_0 a0_1 l1 a2 = some r) :
  Calls Try.prog 13 #[.agg #[.int .i64 a0_0, .int .i64 a0_1], .slice A1 l1.length c1, .string a2] w fun e w' => e = .returned (.bool r) ∧ Below w.heap.size w w' := by
 have hu23 := Try.underlying23
 have HR1 := Aside0.mk hr1
 have HC1 := Aside0.mk hc1
 clear hr1 hc1; have HB := Aside0.mk (Below.refl w.heap.size w)
 have H : (if (a2.size : Int) > 1048576 then (some true) else ((laws_szStringS.f k l1 1048576).bind fun t906 => (if t906 < 0 then (some true) else ((laws_toLock.f a0_0 a0_1).bind fun bt907 => ((laws_toStringS.f k l1).bind fun t909 => ((spec_IsCutting.f k bt907.1 bt907.2 t909 a2).bind fun bt912 => ((laws_toStringS.f k l1).bind fun t914 => ((laws_toLock.f a0_0 a0_1).bind fun bt917 => ((impl_IsCutting.f k bt917.1 bt917.2 t914 a2).bind fun bt919 => (if (bt919.1 != bt912.1) = true then (laws_FnExactIsCutting.j0 k l1 t914 true) else (laws_FnExactIsCutting.j0 k l1 t914 (bt919.2 != bt912.2)))))))))))) = some r := h
 clear h; by_cases c4 : (a2.size : Int) > 1048576
 ·rw [if_pos c4] at H
  have c4b0 : decide (1048576 < (a2.size : Int)) = true := decide_eq_true c4
  have c4b1 : decide (1048576 < a2.size) = true := decide_eq_true (by omega)
  clear c4; obtain rfl := Option.some.inj H
  go_enter Try.func13, Try.ntmps13
  go_wp2_with (first | ((with_reducible refine gate_dst (N := 3) rfl ?_); refine box_event ?hg (N := 3) ?hd (cs := #[.int .i64 a0_0, .int .i64 a0_1]) (t := 23) ?hr ?_; (case hd => rfl); (case hg => rfl); (case hr => first | (go_simp; done) | (go_simp; rfl)); intro gb905 hg w5 hbox hb; have n0_ := Aside0.mk (below_step (upB_ HB.out) hb); have n1_ := Aside0.mk (hbox); have n2_ := Aside0.mk ((by rw [hg]; exact (below_size (upB_ HB.out)) : w.heap.size ≤ gb905)); have n3_ := Aside0.mk ((by rw [hg]; exact (below_size (upB_ HB.out)) : w.heap.size ≤ gb905)); clear HB; have HB := n0_; have BK905 := n1_; have GW905 := n2_; have GE905 := n3_; clear n0_ n1_ n2_ n3_; clear hb hbox hg))
  go_ret
  exact ⟨by first | rfl | (simp [errW_none, errW_some] <;> rfl) | (simp [*, errW_none, errW_some] <;> rfl), by repeat (first | (with_reducible first | exact HB.out | apply below_alloc | apply pw_below_drewN | apply below_drew1 | refine below_set ?_ GE905.out) | exact HB.out)⟩
 ·rw [if_neg c4] at H
  have c4b0 : decide (1048576 < (a2.size : Int)) = false := decide_eq_false c4
  have c4b1 : decide (1048576 < a2.size) = false := decide_eq_false (by omega)
  clear c4; replace H := Option.bind_eq_some_iff.mp H
  obtain ⟨t906, A60, H⟩ := H
  replace H : (if t906 < 0 then (some true) else ((laws_toLock.f a0_0 a0_1).bind fun bt907 => ((laws_toStringS.f k l1).bind fun t909 => ((spec_IsCutting.f k bt907.1 bt907.2 t909 a2).bind fun bt912 => ((laws_toStringS.f k l1).bind fun t914 => ((laws_toLock.f a0_0 a0_1).bind fun bt917 => ((impl_IsCutting.f k bt917.1 bt917.2 t914 a2).bind fun bt919 => (if (bt919.1 != bt912.1) = true then (laws_FnExactIsCutting.j0 k l1 t914 true) else (laws_FnExactIsCutting.j0 k l1 t914 (bt919.2 != bt912.2)))))))))) = some r := H
  have A6 := Aside0.mk A60
  clear A60; by_cases c7 : t906 < 0
  ·rw [if_pos c7] at H
   have c7b0 : decide (t906 < 0) = true := decide_eq_true c7
   clear c7; obtain rfl := Option.some.inj H
   go_enter Try.func13, Try.ntmps13
   go_wp2_with (first | ((with_reducible refine gate_dst (N := 3) rfl ?_); refine box_event ?hg (N := 3) ?hd (cs := #[.int .i64 a0_0, .int .i64 a0_1]) (t := 23) ?hr ?_; (case hd => rfl); (case hg => rfl); (case hr => first | (go_simp; done) | (go_simp; rfl)); intro gb905 hg w8 hbox hb; have n0_ := Aside0.mk (below_step (upB_ HB.out) hb); have n1_ := Aside0.mk (hbox); have n2_ := Aside0.mk ((by rw [hg]; exact (below_size (upB_ HB.out)) : w.heap.size ≤ gb905)); have n3_ := Aside0.mk ((by rw [hg]; exact (below_size (upB_ HB.out)) : w.heap.size ≤ gb905)); clear HB; have HB := n0_; have BK905 := n1_; have GW905 := n2_; have GE905 := n3_; clear n0_ n1_ n2_ n3_; clear hb hbox hg) | ((with_reducible refine gate_callee (f := 15) rfl ?_); refine goesL_ (some 18) rfl rfl Try.func15 (by kernel_rfl) rfl #[.slice A1 l1.length c1, .int .i64 1048576] rfl (by (try simp only [List.map_toArray, List.map_cons, List.map_nil]); first | done | rfl | (simp only [List.length_drop, List.length_take]; rfl)) ?_; (with_reducible refine (laws_szStringS.calls k _ _ l1 1048576 t906 _ ?side1 ?side2 A6.out).mono ?_); (case side1 => repeat (first | exact (Kd.C_below HR1.out HB.out) | (with_reducible refine Kd.C_alloc ?_ _) | (with_reducible refine Kd.C_drewN ?_ _) | (with_reducible refine Kd.C_drew ?_))); (case side2 => exact HC1.out); rintro e w' ⟨rfl, ⟨nd, rfl⟩⟩; refine ⟨_, rfl, ?_⟩))
   go_ret
   exact ⟨by first | rfl | (simp [errW_none, errW_some] <;> rfl) | (simp [*, errW_none, errW_some] <;> rfl), by repeat (first | (with_reducible first | exact HB.out | apply below_alloc | apply pw_below_drewN | apply below_drew1 | refine below_set ?_ GE905.out) | exact HB.out)⟩
  ·rw [if_neg c7] at H
   have c7b0 : decide (t906 < 0) = false := decide_eq_false c7
   clear c7; replace H := Option.bind_eq_some_iff.mp H
   obtain ⟨⟨t907, t908⟩, A90, H⟩ := H
   replace H : ((laws_toStringS.f k l1).bind fun t909 => ((spec_IsCutting.f k t907 t908 t909 a2).bind fun bt912 => ((laws_toStringS.f k l1).bind fun t914 => ((laws_toLock.f a0_0 a0_1).bind fun bt917 => ((impl_IsCutting.f k bt917.1 bt917.2 t914 a2).bind fun bt919 => (if (bt919.1 != bt912.1) = true then (laws_FnExactIsCutting.j0 k l1 t914 true) else (laws_FnExactIsCutting.j0 k l1 t914 (bt919.2 != bt912.2)))))))) = some r := H
   have A9 := Aside0.mk A90
   clear A90; replace H := Option.bind_eq_some_iff.mp H
   obtain ⟨t909, A100, H⟩ := H
   replace H : ((spec_IsCutting.f k t907 t908 t909 a2).bind fun bt912 => ((laws_toStringS.f k l1).bind fun t914 => ((laws_toLock.f a0_0 a0_1).bind fun bt917 => ((impl_IsCutting.f k bt917.1 bt917.2 t914 a2).bind fun bt919 => (if (bt919.1 != bt912.1) = true then (laws_FnExactIsCutting.j0 k l1 t914 true) else (laws_FnExactIsCutting.j0 k l1 t914 (bt919.2 != bt912.2))))))) = some r := H
   have A10 := Aside0.mk A100
   clear A100; replace H := Option.bind_eq_some_iff.mp H
   obtain ⟨⟨t912, t913⟩, A110, H⟩ := H
   replace H : ((laws_toStringS.f k l1).bind fun t914 => ((laws_toLock.f a0_0 a0_1).bind fun bt917 => ((impl_IsCutting.f k bt917.1 bt917.2 t914 a2).bind fun bt919 => (if (bt919.1 != t912) = true then (laws_FnExactIsCutting.j0 k l1 t914 true) else (laws_FnExactIsCutting.j0 k l1 t914 (bt919.2 != t913)))))) = some r := H
   have A11 := Aside0.mk A110
   clear A110; replace H := Option.bind_eq_some_iff.mp H
   obtain ⟨t914, A120, H⟩ := H
   replace H : ((laws_toLock.f a0_0 a0_1).bind fun bt917 => ((impl_IsCutting.f k bt917.1 bt917.2 t914 a2).bind fun bt919 => (if (bt919.1 != t912) = true then (laws_FnExactIsCutting.j0 k l1 t914 true) else (laws_FnExactIsCutting.j0 k l1 t914 (bt919.2 != t913))))) = some r := H
   have A12 := Aside0.mk A120
   clear A120; replace H := Option.bind_eq_some_iff.mp H
   obtain ⟨⟨t917, t918⟩, A130, H⟩ := H
   replace H : ((impl_IsCutting.f k t917 t918 t914 a2).bind fun bt919 => (if (bt919.1 != t912) = true then (laws_FnExactIsCutting.j0 k l1 t914 true) else (laws_FnExactIsCutting.j0 k l1 t914 (bt919.2 != t913)))) = some r := H
   have A13 := Aside0.mk A130
   clear A130; replace H := Option.bind_eq_some_iff.mp H
   obtain ⟨⟨t919, t920⟩, A140, H⟩ := H
   replace H : (if (t919 != t912) = true then (laws_FnExactIsCutting.j0 k l1 t914 true) else (laws_FnExactIsCutting.j0 k l1 t914 (t920 != t913))) = some r := H
   have A14 := Aside0.mk A140
   clear A140; have HC15 := Aside0.mk H
   clear H; go_enter Try.func13, Try.ntmps13
   go_upto_region 10 with (first | ((with_reducible refine gate_dst (N := 3) rfl ?_); refine box_event ?hg (N := 3) ?hd (cs := #[.int .i64 a0_0, .int .i64 a0_1]) (t := 23) ?hr ?_; (case hd => rfl); (case hg => rfl); (case hr => first | (go_simp; done) | (go_simp; rfl)); intro gb905 hg w16 hbox hb; have n0_ := Aside0.mk (below_step (upB_ HB.out) hb); have n1_ := Aside0.mk (hbox); have n2_ := Aside0.mk ((by rw [hg]; exact (below_size (upB_ HB.out)) : w.heap.size ≤ gb905)); have n3_ := Aside0.mk ((by rw [hg]; exact (below_size (upB_ HB.out)) : w.heap.size ≤ gb905)); clear HB; have HB := n0_; have BK905 := n1_; have GW905 := n2_; have GE905 := n3_; clear n0_ n1_ n2_ n3_; clear hb hbox hg) | ((with_reducible refine gate_callee (f := 15) rfl ?_); refine goesL_ (some 18) rfl rfl Try.func15 (by kernel_rfl) rfl #[.slice A1 l1.length c1, .int .i64 1048576] rfl (by (try simp only [List.map_toArray, List.map_cons, List.map_nil]); first | done | rfl | (simp only [List.length_drop, List.length_take]; rfl)) ?_; (with_reducible refine (laws_szStringS.calls k _ _ l1 1048576 t906 _ ?side1 ?side2 A6.out).mono ?_); (case side1 => repeat (first | exact (Kd.C_below HR1.out HB.out) | (with_reducible refine Kd.C_alloc ?_ _) | (with_reducible refine Kd.C_drewN ?_ _) | (with_reducible refine Kd.C_drew ?_))); (case side2 => exact HC1.out); rintro e w' ⟨rfl, ⟨nd, rfl⟩⟩; refine ⟨_, rfl, ?_⟩; have hcz17_0 : w16.cell? ⟨gb905, 0, none⟩ = some (.int .i64 a0_0) := (blk_cell BK905.out 0).trans rfl; have hcz17_1 : w16.cell? ⟨gb905, 1, none⟩ = some (.int .i64 a0_1) := (blk_cell BK905.out 1).trans rfl; have hfz17_0 := blk_frozen BK905.out 0; have hfz17_1 := blk_frozen BK905.out 1) | ((with_reducible refine gate_callee (f := 18) rfl ?_); refine goesL_ (some 23) rfl rfl Try.func18 (by kernel_rfl) rfl #[.agg #[.int .i64 a0_0, .int .i64 a0_1]] rfl (by (try simp only [List.map_toArray, List.map_cons, List.map_nil]); first | done | rfl | (simp only [List.length_drop, List.length_take]; rfl)) ?_; (with_reducible refine (laws_toLock.calls a0_0 a0_1 t907 t908 _ A9.out).mono ?_); rintro e w18 ⟨rfl, hb⟩; refine ⟨_, rfl, ?_⟩; have n0_ := Aside0.mk (blk_below (g := gb905) (o := .cells #[.int .i64 a0_0, .int .i64 a0_1] 23 (0, 0)) (upK_ BK905.out) hb); have n1_ := Aside0.mk (below_step (upB_ HB.out) hb); clear BK905; clear HB; have BK905 := n0_; have HB := n1_; clear n0_ n1_; (try clear hb); (try clear hb2); (try clear hk); (try clear hi)) | ((with_reducible refine gate_callee (f := 19) rfl ?_); refine goesL_ (some 25) rfl rfl Try.func19 (by kernel_rfl) rfl #[.slice A1 l1.length c1] rfl (by (try simp only [List.map_toArray, List.map_cons, List.map_nil]); first | done | rfl | (simp only [List.length_drop, List.length_take]; rfl)) ?_; (with_reducible refine (laws_toStringS.calls k _ _ l1 t909 _ ?side1 ?side2 A10.out).mono ?_); (case side1 => repeat (first | exact (Kd.C_below HR1.out HB.out) | (with_reducible refine Kd.C_alloc ?_ _) | (with_reducible refine Kd.C_drewN ?_ _) | (with_reducible refine Kd.C_drew ?_))); (case side2 => exact HC1.out); rintro e w19 ⟨v910, rfl, ho0, hb⟩; refine ⟨_, rfl, ?_⟩; have n0_ := Aside0.mk (Kd.R_lower ho0 (below_size (upB_ HB.out))); have n1_ := Aside0.mk (blk_below (g := gb905) (o := .cells #[.int .i64 a0_0, .int .i64 a0_1] 23 (0, 0)) (upK_ BK905.out) hb); have n2_ := Aside0.mk (below_step (upB_ HB.out) hb); clear BK905; clear HB; have HO911 := n0_; have BK905 := n1_; have HB := n2_; clear n0_ n1_ n2_; (try clear hb); (try clear hb2); (try clear hk); (try clear hi); (try clear ho0); obtain ⟨Ao20, co20, eo20⟩ := Kd.R_slice HO911.out; subst eo20) | ((with_reducible refine gate_callee (f := 42) rfl ?_); refine goesL_ (some 27) rfl rfl Try.func42 (by kernel_rfl) rfl #[.agg #[.int .i64 t907, .int .i64 t908], .slice Ao20 t909.length co20, .string a2] rfl (by (try simp only [List.map_toArray, List.map_cons, List.map_nil]); first | done | rfl | (simp only [List.length_drop, List.length_take]; rfl)) ?_; (with_reducible refine (spec_IsCutting.calls k t907 t908 _ _ t909 a2 t912 t913 _ ?side1 ?side2 A11.out).mono ?_); (case side1 => repeat (first | exact (Kd.R_reads' HO911.out).2.2 | (with_reducible refine Kd.C_alloc ?_ _) | (with_reducible refine Kd.C_drewN ?_ _) | (with_reducible refine Kd.C_drew ?_))); (case side2 => exact (Kd.R_reads' HO911.out).2.1); rintro e w21 ⟨rfl, hb⟩; refine ⟨_, rfl, ?_⟩; have n0_ := Aside0.mk (Kd.R_below (upR_ HO911.out) hb); have n1_ := Aside0.mk (blk_below (g := gb905) (o := .cells #[.int .i64 a0_0, .int .i64 a0_1] 23 (0, 0)) (upK_ BK905.out) hb); have n2_ := Aside0.mk (below_step (upB_ HB.out) hb); clear HO911; clear BK905; clear HB; have HO911 := n0_; have BK905 := n1_; have HB := n2_; clear n0_ n1_ n2_; (try clear hb); (try clear hb2); (try clear hk); (try clear hi)) | ((with_reducible refine gate_callee (f := 19) rfl ?_); refine goesL_ (some 31) rfl rfl Try.func19 (by kernel_rfl) rfl #[.slice A1 l1.length c1] rfl (by (try simp only [List.map_toArray, List.map_cons, List.map_nil]); first | done | rfl | (simp only [List.length_drop, List.length_take]; rfl)) ?_; (with_reducible refine (laws_toStringS.calls k _ _ l1 t914 _ ?side1 ?side2 A12.out).mono ?_); (case side1 => repeat (first | exact (Kd.C_below HR1.out HB.out) | (with_reducible refine Kd.C_alloc ?_ _) | (with_reducible refine Kd.C_drewN ?_ _) | (with_reducible refine Kd.C_drew ?_))); (case side2 => exact HC1.out); rintro e w22 ⟨v915, rfl, ho0, hb⟩; refine ⟨_, rfl, ?_⟩; have n0_ := Aside0.mk (Kd.R_elder' (upR_ HO911.out) (Kd.R_base ho0) hb); have n1_ := Aside0.mk (Kd.R_lower (Kd.R_new' ho0 (Kd.R_lt (upR_ HO911.out))) (below_size (upB_ HB.out))); have n2_ := Aside0.mk (blk_below (g := gb905) (o := .cells #[.int .i64 a0_0, .int .i64 a0_1] 23 (0, 0)) (upK_ BK905.out) hb); have n3_ := Aside0.mk (below_step (upB_ HB.out) hb); clear HO911; clear BK905; clear HB; have HO911 := n0_; have HO916 := n1_; have BK905 := n2_; have HB := n3_; clear n0_ n1_ n2_ n3_; (try clear hb); (try clear hb2); (try clear hk); (try clear hi); (try clear ho0); have hcz23_0 : w22.cell? ⟨gb905, 0, none⟩ = some (.int .i64 a0_0) := (blk_cell BK905.out 0).trans rfl; have hcz23_1 : w22.cell? ⟨gb905, 1, none⟩ = some (.int .i64 a0_1) := (blk_cell BK905.out 1).trans rfl; have hfz23_0 := blk_frozen BK905.out 0; have hfz23_1 := blk_frozen BK905.out 1) | ((with_reducible refine gate_callee (f := 18) rfl ?_); refine goesL_ (some 34) rfl rfl Try.func18 (by kernel_rfl) rfl #[.agg #[.int .i64 a0_0, .int .i64 a0_1]] rfl (by (try simp only [List.map_toArray, List.map_cons, List.map_nil]); first | done | rfl | (simp only [List.length_drop, List.length_take]; rfl)) ?_; (with_reducible refine (laws_toLock.calls a0_0 a0_1 t917 t918 _ A13.out).mono ?_); rintro e w24 ⟨rfl, hb⟩; refine ⟨_, rfl, ?_⟩; have n0_ := Aside0.mk (Kd.R_below (upR_ HO911.out) hb); have n1_ := Aside0.mk (Kd.R_below (upR_ HO916.out) hb); have n2_ := Aside0.mk (blk_below (g := gb905) (o := .cells #[.int .i64 a0_0, .int .i64 a0_1] 23 (0, 0)) (upK_ BK905.out) hb); have n3_ := Aside0.mk (below_step (upB_ HB.out) hb); clear HO911; clear HO916; clear BK905; clear HB; have HO911 := n0_; have HO916 := n1_; have BK905 := n2_; have HB := n3_; clear n0_ n1_ n2_ n3_; (try clear hb); (try clear hb2); (try clear hk); (try clear hi); obtain ⟨Ao25, co25, eo25⟩ := Kd.R_slice HO916.out; subst eo25) | ((with_reducible refine gate_callee (f := 43) rfl ?_); refine goesL_ (some 37) rfl rfl Try.func43 (by kernel_rfl) rfl #[.agg #[.int .i64 t917, .int .i64 t918], .slice Ao25 t914.length co25, .string a2] rfl (by (try simp only [List.map_toArray, List.map_cons, List.map_nil]); first | done | rfl | (simp only [List.length_drop, List.length_take]; rfl)) ?_; (with_reducible refine (impl_IsCutting.calls k t917 t918 _ _ t914 a2 t919 t920 _ ?side1 ?side2 A14.out).mono ?_); (case side1 => repeat (first | exact (Kd.R_reads' HO916.out).2.2 | (with_reducible refine Kd.C_alloc ?_ _) | (with_reducible refine Kd.C_drewN ?_ _) | (with_reducible refine Kd.C_drew ?_))); (case side2 => exact (Kd.R_reads' HO916.out).2.1); rintro e w26 ⟨rfl, hb⟩; refine ⟨_, rfl, ?_⟩; have n0_ := Aside0.mk (Kd.R_below (upR_ HO911.out) hb); have n1_ := Aside0.mk (Kd.R_below (upR_ HO916.out) hb); have n2_ := Aside0.mk (blk_below (g := gb905) (o := .cells #[.int .i64 a0_0, .int .i64 a0_1] 23 (0, 0)) (upK_ BK905.out) hb); have n3_ := Aside0.mk (below_step (upB_ HB.out) hb); clear HO911; clear HO916; clear BK905; clear HB; have HO911 := n0_; have HO916 := n1_; have BK905 := n2_; have HB := n3_; clear n0_ n1_ n2_ n3_; (try clear hb); (try clear hb2); (try clear hk); (try clear hi)))
   (try simp only [Act.put, List.setIfInBounds_toArray, List.set_cons_zero, List.set_cons_succ])
   go_cut [47] (fun v47 wc => ∃ (kq : Nat) (x47_14 : Bool), v47 = .bool x47_14 ∧ Aside0 (laws_FnExactIsCutting.j0 kq l1 t914 x47_14 = some r) ∧ Aside0 (kq ≤ k) ∧ Aside0 (Kd.R Kd.string 9 wc w.heap.size (fun _ => True) (.slice Ao25 t914.length co25) t914) ∧ Aside0 (wc.heap[gb905]? = some (.cells #[.int .i64 a0_0, .int .i64 a0_1] 23 (0, 0))) ∧ Aside0 (Below w.heap.size w wc))
   case first =>
    have H := HC15.out
    clear HC15; by_cases c27 : (t919 != t912) = true
    ·rw [if_pos c27] at H
     have c27b0 : (t919 != t912) = true := c27
     (try (have c27b1 : decide (t919 = t912) = false := by simpa using c27))
     (try (have c27b2 : (t919 == t912) = false := by simpa using c27))
     (try (have c27b3 : ¬ (t919 = t912) := by simpa using c27))
     clear c27; (first | rw [c27b0] | (simp only [i64_w, i32_w]; rw [c27b0]) | skip)
     have H' := Aside0.mk H
     clear H; go_wp2
     go_meet
     case rel => exact ⟨_, (true), (by first | rfl | (simp; done) | (simp [*]; done)), H', ⟨by first | omega | exact Nat.le_refl _⟩, ⟨by (with_reducible repeat (first | apply Kd.R_alloc | apply Kd.R_drewN | apply Kd.R_drew)); exact Kd.R_mono HO916.out (fun _ hk => trivial)⟩, ⟨upK_ BK905.out⟩, ⟨upB_ HB.out⟩⟩
    ·rw [if_neg c27] at H
     have c27b0 : (t919 != t912) = false := by simpa using c27
     (try (have c27b1 : decide (t919 = t912) = true := by simpa using c27))
     (try (have c27b2 : (t919 == t912) = true := by simpa using c27))
     clear c27; (first | rw [c27b0] | (simp only [i64_w, i32_w]; rw [c27b0]) | skip)
     have H' := Aside0.mk H
     clear H; go_wp2
     go_meet
     case rel => exact ⟨_, ((t920 != t913)), (by first | rfl | (simp; done) | (simp [*]; done)), H', ⟨by first | omega | exact Nat.le_refl _⟩, ⟨by (with_reducible repeat (first | apply Kd.R_alloc | apply Kd.R_drewN | apply Kd.R_drew)); exact Kd.R_mono HO916.out (fun _ hk => trivial)⟩, ⟨upK_ BK905.out⟩, ⟨upB_ HB.out⟩⟩
   case rest =>
    clear HC15; try clear c1
    try clear c2
    try clear p2
    try clear c4
    try clear c4b0
    try clear c4b1
    try clear c7
    try clear c7b0
    try clear c13
    try clear c15
    try clear c18
    try clear c19
    try clear c27
    try clear c27b0
    try clear c27b1
    try clear c27b2
    try clear hcz17_0
    try clear hcz17_1
    try clear hcz23_0
    try clear hcz23_1
    try clear hfz17_0
    try clear hfz17_1
    try clear hfz23_0
    try clear hfz23_1
    obtain ⟨kq, x47_14, rfl, HA, HJ14, HO_10, BK905, HB⟩ := hcut
    cases kq with
    | zero => exact absurd HA.out (by simp [laws_FnExactIsCutting.j0])
    | succ kj14 =>
     have H := HA.out
     clear HA; simp only [laws_FnExactIsCutting.j0] at H
     by_cases c28 : x47_14 = true
     ·subst c28
      have H1 : (some false) = some r := by rw [if_pos rfl] at H; exact H
      clear H; have H := H1
      clear H1; obtain rfl := Option.some.inj H
      go_wp2
      go_ret
      exact ⟨by first | rfl | (simp [errW_none, errW_some] <;> rfl) | (simp [*, errW_none, errW_some] <;> rfl), by repeat (first | (with_reducible first | exact HB.out | apply below_alloc | apply pw_below_drewN | apply below_drew1 | refine below_set ?_ GE905.out) | exact HB.out)⟩
     ·replace c28 := Bool.eq_false_iff.mpr c28
      subst c28
      have H1 : ((laws_toStringS.f kj14 l1).bind fun t921 => ((laws_eqStringS.f kj14 t914 t921).bind fun t924 => (if t924 = true then (some true) else (some false)))) = some r := by rw [if_neg (show ¬ (false = true) by decide)] at H; exact H
      clear H; have H := H1
      clear H1; replace H := Option.bind_eq_some_iff.mp H
      obtain ⟨t921, A290, H⟩ := H
      replace H : ((laws_eqStringS.f kj14 t914 t921).bind fun t924 => (if t924 = true then (some true) else (some false))) = some r := H
      have A29 := Aside0.mk A290
      clear A290; replace H := Option.bind_eq_some_iff.mp H
      obtain ⟨t924, A300, H⟩ := H
      replace H : (if t924 = true then (some true) else (some false)) = some r := H
      have A30 := Aside0.mk A300
      clear A300; by_cases c31 : t924 = true
      ·subst c31
       have H1 : (some true) = some r := by rw [if_pos rfl] at H; exact H
       clear H; have H := H1
       clear H1; obtain rfl := Option.some.inj H
       go_wp2_with (first | ((with_reducible refine gate_callee (f := 19) rfl ?_); refine goesL_ (some 50) rfl rfl Try.func19 (by kernel_rfl) rfl #[.slice A1 l1.length c1] rfl (by (try simp only [List.map_toArray, List.map_cons, List.map_nil]); first | done | rfl | (simp only [List.length_drop, List.length_take]; rfl)) ?_; (with_reducible refine (laws_toStringS.calls kj14 _ _ l1 t921 _ ?side1 ?side2 A29.out).mono ?_); (case side1 => repeat (first | exact (Kd.C_below HR1.out HB.out) | (with_reducible refine Kd.C_alloc ?_ _) | (with_reducible refine Kd.C_drewN ?_ _) | (with_reducible refine Kd.C_drew ?_))); (case side2 => exact HC1.out); rintro e w32 ⟨v922, rfl, ho0, hb⟩; refine ⟨_, rfl, ?_⟩; have n0_ := Aside0.mk (Kd.R_elder' (upR_ HO_10.out) (Kd.R_base ho0) hb); have n1_ := Aside0.mk (Kd.R_lower (Kd.R_new' ho0 (Kd.R_lt (upR_ HO_10.out))) (below_size (upB_ HB.out))); have n2_ := Aside0.mk (blk_below (g := gb905) (o := .cells #[.int .i64 a0_0, .int .i64 a0_1] 23 (0, 0)) (upK_ BK905.out) hb); have n3_ := Aside0.mk (below_step (upB_ HB.out) hb); clear HO_10; clear BK905; clear HB; have HO_10 := n0_; have HO923 := n1_; have BK905 := n2_; have HB := n3_; clear n0_ n1_ n2_ n3_; (try clear hb); (try clear hb2); (try clear hk); (try clear hi); (try clear ho0); obtain ⟨Ao33, co33, eo33⟩ := Kd.R_slice HO923.out; subst eo33) | ((with_reducible refine gate_callee (f := 22) rfl ?_); refine goesL_ (some 51) rfl rfl Try.func22 (by kernel_rfl) rfl #[.slice Ao25 t914.length co25, .slice Ao33 t921.length co33] rfl (by (try simp only [List.map_toArray, List.map_cons, List.map_nil]); first | done | rfl | (simp only [List.length_drop, List.length_take]; rfl)) ?_; (with_reducible refine (laws_eqStringS.calls kj14 _ _ t914 _ _ t921 true _ ?side1 ?side2 ?side3 ?side4 A30.out).mono ?_); (case side1 => repeat (first | exact (Kd.R_reads' HO_10.out).2.2 | (with_reducible refine Kd.C_alloc ?_ _) | (with_reducible refine Kd.C_drewN ?_ _) | (with_reducible refine Kd.C_drew ?_))); (case side2 => exact (Kd.R_reads' HO_10.out).2.1); (case side3 => repeat (first | exact (Kd.R_reads' HO923.out).2.2 | (with_reducible refine Kd.C_alloc ?_ _) | (with_reducible refine Kd.C_drewN ?_ _) | (with_reducible refine Kd.C_drew ?_))); (case side4 => exact (Kd.R_reads' HO923.out).2.1); rintro e w' ⟨rfl, ⟨nd, rfl⟩⟩; refine ⟨_, rfl, ?_⟩))
       go_ret
       exact ⟨by first | rfl | (simp [errW_none, errW_some] <;> rfl) | (simp [*, errW_none, errW_some] <;> rfl), by repeat (first | (with_reducible first | exact HB.out | apply below_alloc | apply pw_below_drewN | apply below_drew1 | refine below_set ?_ GE905.out) | exact HB.out)⟩
      ·replace c31 := Bool.eq_false_iff.mpr c31
       subst c31
       have H1 : (some false) = some r := by rw [if_neg (show ¬ (false = true) by decide)] at H; exact H
       clear H; have H := H1
       clear H1; obtain rfl := Option.some.inj H
       go_wp2_with (first | ((with_reducible refine gate_callee (f := 19) rfl ?_); refine goesL_ (some 50) rfl rfl Try.func19 (by kernel_rfl) rfl #[.slice A1 l1.length c1] rfl (by (try simp only [List.map_toArray, List.map_cons, List.map_nil]); first | done | rfl | (simp only [List.length_drop, List.length_take]; rfl)) ?_; (with_reducible refine (laws_toStringS.calls kj14 _ _ l1 t921 _ ?side1 ?side2 A29.out).mono ?_); (case side1 => repeat (first | exact (Kd.C_below HR1.out HB.out) | (with_reducible refine Kd.C_alloc ?_ _) | (with_reducible refine Kd.C_drewN ?_ _) | (with_reducible refine Kd.C_drew ?_))); (case side2 => exact HC1.out); rintro e w34 ⟨v922, rfl, ho0, hb⟩; refine ⟨_, rfl, ?_⟩; have n0_ := Aside0.mk (Kd.R_elder' (upR_ HO_10.out) (Kd.R_base ho0) hb); have n1_ := Aside0.mk (Kd.R_lower (Kd.R_new' ho0 (Kd.R_lt (upR_ HO_10.out))) (below_size (upB_ HB.out))); have n2_ := Aside0.mk (blk_below (g := gb905) (o := .cells #[.int .i64 a0_0, .int .i64 a0_1] 23 (0, 0)) (upK_ BK905.out) hb); have n3_ := Aside0.mk (below_step (upB_ HB.out) hb); clear HO_10; clear BK905; clear HB; have HO_10 := n0_; have HO923 := n1_; have BK905 := n2_; have HB := n3_; clear n0_ n1_ n2_ n3_; (try clear hb); (try clear hb2); (try clear hk); (try clear hi); (try clear ho0); obtain ⟨Ao35, co35, eo35⟩ := Kd.R_slice HO923.out; subst eo35) | ((with_reducible refine gate_callee (f := 22) rfl ?_); refine goesL_ (some 51) rfl rfl Try.func22 (by kernel_rfl) rfl #[.slice Ao25 t914.length co25, .slice Ao35 t921.length co35] rfl (by (try simp only [List.map_toArray, List.map_cons, List.map_nil]); first | done | rfl | (simp only [List.length_drop, List.length_take]; rfl)) ?_; (with_reducible refine (laws_eqStringS.calls kj14 _ _ t914 _ _ t921 false _ ?side1 ?side2 ?side3 ?side4 A30.out).mono ?_); (case side1 => repeat (first | exact (Kd.R_reads' HO_10.out).2.2 | (with_reducible refine Kd.C_alloc ?_ _) | (with_reducible refine Kd.C_drewN ?_ _) | (with_reducible refine Kd.C_drew ?_))); (case side2 => exact (Kd.R_reads' HO_10.out).2.1); (case side3 => repeat (first | exact (Kd.R_reads' HO923.out).2.2 | (with_reducible refine Kd.C_alloc ?_ _) | (with_reducible refine Kd.C_drewN ?_ _) | (with_reducible refine Kd.C_drew ?_))); (case side4 => exact (Kd.R_reads' HO923.out).2.1); rintro e w' ⟨rfl, ⟨nd, rfl⟩⟩; refine ⟨_, rfl, ?_⟩))
       go_ret
       exact ⟨by first | rfl | (simp [errW_none, errW_some] <;> rfl) | (simp [*, errW_none, errW_some] <;> rfl), by repeat (first | (with_reducible first | exact HB.out | apply below_alloc | apply pw_below_drewN | apply below_drew1 | refine below_set ?_ GE905.out) | exact HB.out)⟩

end Go.Proofs.Ytajhahafgnefcaa.R
