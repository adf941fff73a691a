import Derived.Test.YtajhahafgnefcaaUp
import Derived.Test.YtajhahafgnefcaaR0
import Derived.Test.YtajhahafgnefcaaR1
import Derived.Test.YtajhahafgnefcaaR14
import Derived.Test.YtajhahafgnefcaaR15
import Derived.Test.YtajhahafgnefcaaR30
import Derived.Test.YtajhahafgnefcaaR31
import Derived.Test.YtajhahafgnefcaaR82
import Derived.Test.YtajhahafgnefcaaR84
import Derived.Test.YtajhahafgnefcaaR86
import Derived.Test.YtajhahafgnefcaaR87
import Derived.Test.YtajhahafgnefcaaR88
namespace Go.Proofs.Ytajhahafgnefcaa.R
open Go.RowKit Go.Proofs.YtajhahafgnefcaaW.PrintWords Go.Proofs.YtajhahafgnefcaaW.PrintLast Go.Proofs.YtajhahafgnefcaaW.PrintMore
set_option linter.unusedVariables false
set_option linter.unusedSimpArgs false

/-! ### Fa: function 14 -/
mutual
def Fa.j0 : Nat → List ByteArray → ByteArray → ByteArray → List (S59) → Bool → List ByteArray → List (S59) → Bool → Bool → Int → Int → Option (Bool)
 | 0, _, _, _, _, _, _, _, _, _, _, _ => none
 | k + 1, x1, x2, x3, x10, x11, x12, x13, x14, x60, x1001000, x1001001 => if x60 = true then (some false) else ((Fj.f k x1).bind fun t1021 => ((Fv.f k x12 t1021).bind fun t1024 => (if t1024 = true then ((Fm.f k x12 1).bind fun bt1025 => (if bt1025.1 < 0 then (Fa.j1 k x1 x2 x3 x10 x11 x13 true x1001000 x1001001) else ((Fh.f k x13 x10).bind fun t1027 => (if t1027 = true then (Fa.j1 k x1 x2 x3 x10 x11 x13 (x14 != x11) x1001000 x1001001) else (Fa.j1 k x1 x2 x3 x10 x11 x13 true x1001000 x1001001))))) else (some false))))
def Fa.j1 : Nat → List ByteArray → ByteArray → ByteArray → List (S59) → Bool → List (S59) → Bool → Int → Int → Option (Bool)
 | 0, _, _, _, _, _, _, _, _, _ => none
 | k + 1, x1, x2, x3, x10, x11, x13, x81, x1001000, x1001001 => if x81 = true then (some false) else ((Fs.f k x13 1).bind fun bt1028 => ((Fo.f k bt1028.2 1).bind fun t1030 => (if t1030 < 0 then (some false) else (if t1030 = bt1028.1 then ((FW.f x1001000 x1001001).bind fun bt1031 => ((Fj.f k x1).bind fun t1033 => ((Fd.f k bt1031.1 bt1031.2 t1033 x2 x3).bind fun bt1036 => ((Fh.f k bt1036.1 x10).bind fun t1040 => (if t1040 = true then (Fa.j2 k bt1028.2 bt1028.1 (bt1036.2 != x11)) else (Fa.j2 k bt1028.2 bt1028.1 true)))))) else (some false)))))
def Fa.j2 : Nat → List (S59) → Int → Bool → Option (Bool)
 | 0, _, _, _ => none
 | k + 1, x13, x16, x111 => if x111 = true then (some false) else ((Fo.f k x13 1).bind fun t1041 => (if t1041 < 0 then (some false) else (if t1041 = x16 then (some true) else (some false))))
end
def Fa.f (k : Nat) (a0_0 : Int) (a0_1 : Int) (l1 : List ByteArray) (a2 : ByteArray) (a3 : ByteArray) : Option (Bool) := if (a2.size : Int) > 1048576 then (some true) else (if (a3.size : Int) > 1048576 then (some true) else ((Fr.f k l1 1048576).bind fun t1001 => (if t1001 < 0 then (some true) else ((FW.f a0_0 a0_1).bind fun bt1002 => ((Fj.f k l1).bind fun t1004 => ((Fb.f k bt1002.1 bt1002.2 t1004 a2 a3).bind fun bt1007 => ((Fj.f k l1).bind fun t1011 => ((FW.f a0_0 a0_1).bind fun bt1014 => ((Fd.f k bt1014.1 bt1014.2 t1011 a2 a3).bind fun bt1016 => ((Fh.f k bt1016.1 bt1007.1).bind fun t1020 => (if t1020 = true then (Fa.j0 k l1 a2 a3 bt1007.1 bt1007.2 t1011 bt1016.1 bt1016.2 (bt1016.2 != bt1007.2) a0_0 a0_1) else (Fa.j0 k l1 a2 a3 bt1007.1 bt1007.2 t1011 bt1016.1 bt1016.2 true a0_0 a0_1))))))))))))
theorem Fa.mono_l : ∀ k, (∀ y0 y1 y2 y3 y4 y5 y6 y7 y8 y9 y10, LeO (Fa.j0 k y0 y1 y2 y3 y4 y5 y6 y7 y8 y9 y10) (Fa.j0 (k + 1) y0 y1 y2 y3 y4 y5 y6 y7 y8 y9 y10)) ∧ (∀ y0 y1 y2 y3 y4 y5 y6 y7 y8, LeO (Fa.j1 k y0 y1 y2 y3 y4 y5 y6 y7 y8) (Fa.j1 (k + 1) y0 y1 y2 y3 y4 y5 y6 y7 y8)) ∧ (∀ y0 y1 y2, LeO (Fa.j2 k y0 y1 y2) (Fa.j2 (k + 1) y0 y1 y2))
 | 0 => ⟨fun _ _ _ _ _ _ _ _ _ _ _ r h => by simp [Fa.j0] at h, fun _ _ _ _ _ _ _ _ _ r h => by simp [Fa.j1] at h, fun _ _ _ r h => by simp [Fa.j2] at h⟩
 | k + 1 => by
  obtain ⟨ih0, ih1, ih2⟩ := Fa.mono_l k
  refine ⟨?_, ?_, ?_⟩
  ·intro y0 y1 y2 y3 y4 y5 y6 y7 y8 y9 y10
   unfold Fa.j0
   repeat' (with_reducible first | exact ih0 _ _ _ _ _ _ _ _ _ _ _ | exact ih1 _ _ _ _ _ _ _ _ _ | exact ih2 _ _ _ | exact Fd.mono _ _ _ _ _ _ | exact Fv.mono _ _ _ | exact Fh.mono _ _ _ | exact Fo.mono _ _ _ | exact Fm.mono _ _ _ | exact Fs.mono _ _ _ | exact Fr.mono _ _ _ | exact Fj.mono _ _ | exact Fb.mono _ _ _ _ _ _ | exact LeO.refl _ | exact LeO.none _ | refine LeO.ite ?_ ?_ | refine LeO.bind ?_ (fun _ => ?_))
  ·intro y0 y1 y2 y3 y4 y5 y6 y7 y8
   unfold Fa.j1
   repeat' (with_reducible first | exact ih0 _ _ _ _ _ _ _ _ _ _ _ | exact ih1 _ _ _ _ _ _ _ _ _ | exact ih2 _ _ _ | exact Fd.mono _ _ _ _ _ _ | exact Fv.mono _ _ _ | exact Fh.mono _ _ _ | exact Fo.mono _ _ _ | exact Fm.mono _ _ _ | exact Fs.mono _ _ _ | exact Fr.mono _ _ _ | exact Fj.mono _ _ | exact Fb.mono _ _ _ _ _ _ | exact LeO.refl _ | exact LeO.none _ | refine LeO.ite ?_ ?_ | refine LeO.bind ?_ (fun _ => ?_))
  ·intro y0 y1 y2
   unfold Fa.j2
   repeat' (with_reducible first | exact ih0 _ _ _ _ _ _ _ _ _ _ _ | exact ih1 _ _ _ _ _ _ _ _ _ | exact ih2 _ _ _ | exact Fd.mono _ _ _ _ _ _ | exact Fv.mono _ _ _ | exact Fh.mono _ _ _ | exact Fo.mono _ _ _ | exact Fm.mono _ _ _ | exact Fs.mono _ _ _ | exact Fr.mono _ _ _ | exact Fj.mono _ _ | exact Fb.mono _ _ _ _ _ _ | exact LeO.refl _ | exact LeO.none _ | refine LeO.ite ?_ ?_ | refine LeO.bind ?_ (fun _ => ?_))
theorem Fa.mono : ∀ a0 a1 a2 a3 a4 k, LeO (Fa.f k a0 a1 a2 a3 a4) (Fa.f (k + 1) a0 a1 a2 a3 a4) := by
 intro a0 a1 a2 a3 a4 k
 obtain ⟨ih0, ih1, ih2⟩ := Fa.mono_l k
 unfold Fa.f
 repeat' (with_reducible first | exact ih0 _ _ _ _ _ _ _ _ _ _ _ | exact ih1 _ _ _ _ _ _ _ _ _ | exact ih2 _ _ _ | exact Fd.mono _ _ _ _ _ _ | exact Fv.mono _ _ _ | exact Fh.mono _ _ _ | exact Fo.mono _ _ _ | exact Fm.mono _ _ _ | exact Fs.mono _ _ _ | exact Fr.mono _ _ _ | exact Fj.mono _ _ | exact Fb.mono _ _ _ _ _ _ | exact LeO.refl _ | exact LeO.none _ | refine LeO.ite ?_ ?_ | refine LeO.bind ?_ (fun _ => ?_))
set_option maxHeartbeats 8000000 in
set_option maxRecDepth 100000 in
theorem Fa.calls (k : Nat) (a0_0 : Int) (a0_1 : Int) (A1 : Option Addr) (c1 : Nat) (l1 : List ByteArray) (a2 : ByteArray) (a3 : ByteArray) (r : Bool) (w : World) (hr1 : Kd.C Kd.string w A1 l1.length l1) (hc1 : l1.length ≤ c1) (h : Fa.f k a0_0 a0_1 l1 a2 a3 = some r) :
  Calls Try.prog 14 #[.agg #[.int .i64 a0_0, .int .i64 a0_1], .slice A1 l1.length c1, .string a2, .string a3] w fun e w' => e = .returned (.bool r) ∧ Below w.heap.size w w' := by
 have hu23 := Try.underlying23
 have HR1 := Aside0.mk hr1
 have HC1 := Aside0.mk hc1
 clear hr1 hc1; have HB := Aside0.mk (Below.refl w.heap.size w)
 have H : (if (a2.size : Int) > 1048576 then (some true) else (if (a3.size : Int) > 1048576 then (some true) else ((Fr.f k l1 1048576).bind fun t1001 => (if t1001 < 0 then (some true) else ((FW.f a0_0 a0_1).bind fun bt1002 => ((Fj.f k l1).bind fun t1004 => ((Fb.f k bt1002.1 bt1002.2 t1004 a2 a3).bind fun bt1007 => ((Fj.f k l1).bind fun t1011 => ((FW.f a0_0 a0_1).bind fun bt1014 => ((Fd.f k bt1014.1 bt1014.2 t1011 a2 a3).bind fun bt1016 => ((Fh.f k bt1016.1 bt1007.1).bind fun t1020 => (if t1020 = true then (Fa.j0 k l1 a2 a3 bt1007.1 bt1007.2 t1011 bt1016.1 bt1016.2 (bt1016.2 != bt1007.2) a0_0 a0_1) else (Fa.j0 k l1 a2 a3 bt1007.1 bt1007.2 t1011 bt1016.1 bt1016.2 true a0_0 a0_1))))))))))))) = some r := h
 clear h; by_cases c5 : (a2.size : Int) > 1048576
 ·rw [if_pos c5] at H
  have c5b0 : decide (1048576 < (a2.size : Int)) = true := decide_eq_true c5
  have c5b1 : decide (1048576 < a2.size) = true := decide_eq_true (by omega)
  clear c5; obtain rfl := Option.some.inj H
  go_enter Try.func14, Try.ntmps14
  go_wp2_with (first | ((with_reducible refine gate_dst (N := 4) rfl ?_); refine box_event ?hg (N := 4) ?hd (cs := #[.int .i64 a0_0, .int .i64 a0_1]) (t := 23) ?hr ?_; (case hd => rfl); (case hg => rfl); (case hr => first | (go_simp; done) | (go_simp; rfl)); intro gb1000 hg w6 hbox hb; have n0_ := Aside0.mk (below_step (upB_ HB.out) hb); have n1_ := Aside0.mk (hbox); have n2_ := Aside0.mk ((by rw [hg]; exact (below_size (upB_ HB.out)) : w.heap.size ≤ gb1000)); have n3_ := Aside0.mk ((by rw [hg]; exact (below_size (upB_ HB.out)) : w.heap.size ≤ gb1000)); clear HB; have HB := n0_; have BK1000 := n1_; have GW1000 := n2_; have GE1000 := n3_; clear n0_ n1_ n2_ n3_; clear hb hbox hg))
  go_ret
  exact ⟨by first | rfl | (simp [errW_none, errW_some] <;> rfl) | (simp [*, errW_none, errW_some] <;> rfl), by repeat (first | (with_reducible first | exact HB.out | apply below_alloc | apply pw_below_drewN | apply below_drew1 | refine below_set ?_ GE1000.out) | exact HB.out)⟩
 ·rw [if_neg c5] at H
  have c5b0 : decide (1048576 < (a2.size : Int)) = false := decide_eq_false c5
  have c5b1 : decide (1048576 < a2.size) = false := decide_eq_false (by omega)
  clear c5; by_cases c7 : (a3.size : Int) > 1048576
  ·rw [if_pos c7] at H
   have c7b0 : decide (1048576 < (a3.size : Int)) = true := decide_eq_true c7
   have c7b1 : decide (1048576 < a3.size) = true := decide_eq_true (by omega)
   clear c7; obtain rfl := Option.some.inj H
   go_enter Try.func14, Try.ntmps14
   go_wp2_with (first | ((with_reducible refine gate_dst (N := 4) rfl ?_); refine box_event ?hg (N := 4) ?hd (cs := #[.int .i64 a0_0, .int .i64 a0_1]) (t := 23) ?hr ?_; (case hd => rfl); (case hg => rfl); (case hr => first | (go_simp; done) | (go_simp; rfl)); intro gb1000 hg w8 hbox hb; have n0_ := Aside0.mk (below_step (upB_ HB.out) hb); have n1_ := Aside0.mk (hbox); have n2_ := Aside0.mk ((by rw [hg]; exact (below_size (upB_ HB.out)) : w.heap.size ≤ gb1000)); have n3_ := Aside0.mk ((by rw [hg]; exact (below_size (upB_ HB.out)) : w.heap.size ≤ gb1000)); clear HB; have HB := n0_; have BK1000 := n1_; have GW1000 := n2_; have GE1000 := n3_; clear n0_ n1_ n2_ n3_; clear hb hbox hg))
   go_ret
   exact ⟨by first | rfl | (simp [errW_none, errW_some] <;> rfl) | (simp [*, errW_none, errW_some] <;> rfl), by repeat (first | (with_reducible first | exact HB.out | apply below_alloc | apply pw_below_drewN | apply below_drew1 | refine below_set ?_ GE1000.out) | exact HB.out)⟩
  ·rw [if_neg c7] at H
   have c7b0 : decide (1048576 < (a3.size : Int)) = false := decide_eq_false c7
   have c7b1 : decide (1048576 < a3.size) = false := decide_eq_false (by omega)
   clear c7; replace H := Option.bind_eq_some_iff.mp H
   obtain ⟨t1001, A90, H⟩ := H
   replace H : (if t1001 < 0 then (some true) else ((FW.f a0_0 a0_1).bind fun bt1002 => ((Fj.f k l1).bind fun t1004 => ((Fb.f k bt1002.1 bt1002.2 t1004 a2 a3).bind fun bt1007 => ((Fj.f k l1).bind fun t1011 => ((FW.f a0_0 a0_1).bind fun bt1014 => ((Fd.f k bt1014.1 bt1014.2 t1011 a2 a3).bind fun bt1016 => ((Fh.f k bt1016.1 bt1007.1).bind fun t1020 => (if t1020 = true then (Fa.j0 k l1 a2 a3 bt1007.1 bt1007.2 t1011 bt1016.1 bt1016.2 (bt1016.2 != bt1007.2) a0_0 a0_1) else (Fa.j0 k l1 a2 a3 bt1007.1 bt1007.2 t1011 bt1016.1 bt1016.2 true a0_0 a0_1)))))))))) = some r := H
   have A9 := Aside0.mk A90
   clear A90; by_cases c10 : t1001 < 0
   ·rw [if_pos c10] at H
    have c10b0 : decide (t1001 < 0) = true := decide_eq_true c10
    clear c10; obtain rfl := Option.some.inj H
    go_enter Try.func14, Try.ntmps14
    go_wp2_with (first | ((with_reducible refine gate_dst (N := 4) rfl ?_); refine box_event ?hg (N := 4) ?hd (cs := #[.int .i64 a0_0, .int .i64 a0_1]) (t := 23) ?hr ?_; (case hd => rfl); (case hg => rfl); (case hr => first | (go_simp; done) | (go_simp; rfl)); intro gb1000 hg w11 hbox hb; have n0_ := Aside0.mk (below_step (upB_ HB.out) hb); have n1_ := Aside0.mk (hbox); have n2_ := Aside0.mk ((by rw [hg]; exact (below_size (upB_ HB.out)) : w.heap.size ≤ gb1000)); have n3_ := Aside0.mk ((by rw [hg]; exact (below_size (upB_ HB.out)) : w.heap.size ≤ gb1000)); clear HB; have HB := n0_; have BK1000 := n1_; have GW1000 := n2_; have GE1000 := n3_; clear n0_ n1_ n2_ n3_; clear hb hbox hg) | ((with_reducible refine gate_callee (f := 15) rfl ?_); refine goesL_ (some 28) rfl rfl Try.func15 (by kernel_rfl) rfl #[.slice A1 l1.length c1, .int .i64 1048576] rfl (by (try simp only [List.map_toArray, List.map_cons, List.map_nil]); first | done | rfl | (simp only [List.length_drop, List.length_take]; rfl)) ?_; (with_reducible refine (Fr.calls k _ _ l1 1048576 t1001 _ ?side1 ?side2 A9.out).mono ?_); (case side1 => repeat (first | exact (Kd.C_below HR1.out HB.out) | (with_reducible refine Kd.C_alloc ?_ _) | (with_reducible refine Kd.C_drewN ?_ _) | (with_reducible refine Kd.C_drew ?_))); (case side2 => exact HC1.out); rintro e w' ⟨rfl, ⟨nd, rfl⟩⟩; refine ⟨_, rfl, ?_⟩))
    go_ret
    exact ⟨by first | rfl | (simp [errW_none, errW_some] <;> rfl) | (simp [*, errW_none, errW_some] <;> rfl), by repeat (first | (with_reducible first | exact HB.out | apply below_alloc | apply pw_below_drewN | apply below_drew1 | refine below_set ?_ GE1000.out) | exact HB.out)⟩
   ·rw [if_neg c10] at H
    have c10b0 : decide (t1001 < 0) = false := decide_eq_false c10
    clear c10; replace H := Option.bind_eq_some_iff.mp H
    obtain ⟨⟨t1002, t1003⟩, A120, H⟩ := H
    replace H : ((Fj.f k l1).bind fun t1004 => ((Fb.f k t1002 t1003 t1004 a2 a3).bind fun bt1007 => ((Fj.f k l1).bind fun t1011 => ((FW.f a0_0 a0_1).bind fun bt1014 => ((Fd.f k bt1014.1 bt1014.2 t1011 a2 a3).bind fun bt1016 => ((Fh.f k bt1016.1 bt1007.1).bind fun t1020 => (if t1020 = true then (Fa.j0 k l1 a2 a3 bt1007.1 bt1007.2 t1011 bt1016.1 bt1016.2 (bt1016.2 != bt1007.2) a0_0 a0_1) else (Fa.j0 k l1 a2 a3 bt1007.1 bt1007.2 t1011 bt1016.1 bt1016.2 true a0_0 a0_1)))))))) = some r := H
    have A12 := Aside0.mk A120
    clear A120; replace H := Option.bind_eq_some_iff.mp H
    obtain ⟨t1004, A130, H⟩ := H
    replace H : ((Fb.f k t1002 t1003 t1004 a2 a3).bind fun bt1007 => ((Fj.f k l1).bind fun t1011 => ((FW.f a0_0 a0_1).bind fun bt1014 => ((Fd.f k bt1014.1 bt1014.2 t1011 a2 a3).bind fun bt1016 => ((Fh.f k bt1016.1 bt1007.1).bind fun t1020 => (if t1020 = true then (Fa.j0 k l1 a2 a3 bt1007.1 bt1007.2 t1011 bt1016.1 bt1016.2 (bt1016.2 != bt1007.2) a0_0 a0_1) else (Fa.j0 k l1 a2 a3 bt1007.1 bt1007.2 t1011 bt1016.1 bt1016.2 true a0_0 a0_1))))))) = some r := H
    have A13 := Aside0.mk A130
    clear A130; replace H := Option.bind_eq_some_iff.mp H
    obtain ⟨⟨t1007, t1010⟩, A140, H⟩ := H
    replace H : ((Fj.f k l1).bind fun t1011 => ((FW.f a0_0 a0_1).bind fun bt1014 => ((Fd.f k bt1014.1 bt1014.2 t1011 a2 a3).bind fun bt1016 => ((Fh.f k bt1016.1 t1007).bind fun t1020 => (if t1020 = true then (Fa.j0 k l1 a2 a3 t1007 t1010 t1011 bt1016.1 bt1016.2 (bt1016.2 != t1010) a0_0 a0_1) else (Fa.j0 k l1 a2 a3 t1007 t1010 t1011 bt1016.1 bt1016.2 true a0_0 a0_1)))))) = some r := H
    have A14 := Aside0.mk A140
    clear A140; replace H := Option.bind_eq_some_iff.mp H
    obtain ⟨t1011, A150, H⟩ := H
    replace H : ((FW.f a0_0 a0_1).bind fun bt1014 => ((Fd.f k bt1014.1 bt1014.2 t1011 a2 a3).bind fun bt1016 => ((Fh.f k bt1016.1 t1007).bind fun t1020 => (if t1020 = true then (Fa.j0 k l1 a2 a3 t1007 t1010 t1011 bt1016.1 bt1016.2 (bt1016.2 != t1010) a0_0 a0_1) else (Fa.j0 k l1 a2 a3 t1007 t1010 t1011 bt1016.1 bt1016.2 true a0_0 a0_1))))) = some r := H
    have A15 := Aside0.mk A150
    clear A150; replace H := Option.bind_eq_some_iff.mp H
    obtain ⟨⟨t1014, t1015⟩, A160, H⟩ := H
    replace H : ((Fd.f k t1014 t1015 t1011 a2 a3).bind fun bt1016 => ((Fh.f k bt1016.1 t1007).bind fun t1020 => (if t1020 = true then (Fa.j0 k l1 a2 a3 t1007 t1010 t1011 bt1016.1 bt1016.2 (bt1016.2 != t1010) a0_0 a0_1) else (Fa.j0 k l1 a2 a3 t1007 t1010 t1011 bt1016.1 bt1016.2 true a0_0 a0_1)))) = some r := H
    have A16 := Aside0.mk A160
    clear A160; replace H := Option.bind_eq_some_iff.mp H
    obtain ⟨⟨t1016, t1019⟩, A170, H⟩ := H
    replace H : ((Fh.f k t1016 t1007).bind fun t1020 => (if t1020 = true then (Fa.j0 k l1 a2 a3 t1007 t1010 t1011 t1016 t1019 (t1019 != t1010) a0_0 a0_1) else (Fa.j0 k l1 a2 a3 t1007 t1010 t1011 t1016 t1019 true a0_0 a0_1))) = some r := H
    have A17 := Aside0.mk A170
    clear A170; have HC18 := Aside0.mk H
    clear H; go_enter Try.func14, Try.ntmps14
    go_upto_region 12 with (first | ((with_reducible refine gate_dst (N := 4) rfl ?_); refine box_event ?hg (N := 4) ?hd (cs := #[.int .i64 a0_0, .int .i64 a0_1]) (t := 23) ?hr ?_; (case hd => rfl); (case hg => rfl); (case hr => first | (go_simp; done) | (go_simp; rfl)); intro gb1000 hg w19 hbox hb; have n0_ := Aside0.mk (below_step (upB_ HB.out) hb); have n1_ := Aside0.mk (hbox); have n2_ := Aside0.mk ((by rw [hg]; exact (below_size (upB_ HB.out)) : w.heap.size ≤ gb1000)); have n3_ := Aside0.mk ((by rw [hg]; exact (below_size (upB_ HB.out)) : w.heap.size ≤ gb1000)); clear HB; have HB := n0_; have BK1000 := n1_; have GW1000 := n2_; have GE1000 := n3_; clear n0_ n1_ n2_ n3_; clear hb hbox hg) | ((with_reducible refine gate_callee (f := 15) rfl ?_); refine goesL_ (some 28) rfl rfl Try.func15 (by kernel_rfl) rfl #[.slice A1 l1.length c1, .int .i64 1048576] rfl (by (try simp only [List.map_toArray, List.map_cons, List.map_nil]); first | done | rfl | (simp only [List.length_drop, List.length_take]; rfl)) ?_; (with_reducible refine (Fr.calls k _ _ l1 1048576 t1001 _ ?side1 ?side2 A9.out).mono ?_); (case side1 => repeat (first | exact (Kd.C_below HR1.out HB.out) | (with_reducible refine Kd.C_alloc ?_ _) | (with_reducible refine Kd.C_drewN ?_ _) | (with_reducible refine Kd.C_drew ?_))); (case side2 => exact HC1.out); rintro e w' ⟨rfl, ⟨nd, rfl⟩⟩; refine ⟨_, rfl, ?_⟩; have hcz20_0 : w19.cell? ⟨gb1000, 0, none⟩ = some (.int .i64 a0_0) := (blk_cell BK1000.out 0).trans rfl; have hcz20_1 : w19.cell? ⟨gb1000, 1, none⟩ = some (.int .i64 a0_1) := (blk_cell BK1000.out 1).trans rfl; have hfz20_0 := blk_frozen BK1000.out 0; have hfz20_1 := blk_frozen BK1000.out 1) | ((with_reducible refine gate_callee (f := 18) rfl ?_); refine goesL_ (some 33) rfl rfl Try.func18 (by kernel_rfl) rfl #[.agg #[.int .i64 a0_0, .int .i64 a0_1]] rfl (by (try simp only [List.map_toArray, List.map_cons, List.map_nil]); first | done | rfl | (simp only [List.length_drop, List.length_take]; rfl)) ?_; (with_reducible refine (FW.calls a0_0 a0_1 t1002 t1003 _ A12.out).mono ?_); rintro e w21 ⟨rfl, hb⟩; refine ⟨_, rfl, ?_⟩; have n0_ := Aside0.mk (blk_below (g := gb1000) (o := .cells #[.int .i64 a0_0, .int .i64 a0_1] 23 (0, 0)) (upK_ BK1000.out) hb); have n1_ := Aside0.mk (below_step (upB_ HB.out) hb); clear BK1000; clear HB; have BK1000 := n0_; have HB := n1_; clear n0_ n1_; (try clear hb); (try clear hb2); (try clear hk); (try clear hi)) | ((with_reducible refine gate_callee (f := 19) rfl ?_); refine goesL_ (some 35) rfl rfl Try.func19 (by kernel_rfl) rfl #[.slice A1 l1.length c1] rfl (by (try simp only [List.map_toArray, List.map_cons, List.map_nil]); first | done | rfl | (simp only [List.length_drop, List.length_take]; rfl)) ?_; (with_reducible refine (Fj.calls k _ _ l1 t1004 _ ?side1 ?side2 A13.out).mono ?_); (case side1 => repeat (first | exact (Kd.C_below HR1.out HB.out) | (with_reducible refine Kd.C_alloc ?_ _) | (with_reducible refine Kd.C_drewN ?_ _) | (with_reducible refine Kd.C_drew ?_))); (case side2 => exact HC1.out); rintro e w22 ⟨v1005, rfl, ho0, hb⟩; refine ⟨_, rfl, ?_⟩; have n0_ := Aside0.mk (Kd.R_lower ho0 (below_size (upB_ HB.out))); have n1_ := Aside0.mk (blk_below (g := gb1000) (o := .cells #[.int .i64 a0_0, .int .i64 a0_1] 23 (0, 0)) (upK_ BK1000.out) hb); have n2_ := Aside0.mk (below_step (upB_ HB.out) hb); clear BK1000; clear HB; have HO1006 := n0_; have BK1000 := n1_; have HB := n2_; clear n0_ n1_ n2_; (try clear hb); (try clear hb2); (try clear hk); (try clear hi); (try clear ho0); obtain ⟨Ao23, co23, eo23⟩ := Kd.R_slice HO1006.out; subst eo23) | ((with_reducible refine gate_callee (f := 44) rfl ?_); refine goesL_ (some 38) rfl rfl Try.func44 (by kernel_rfl) rfl #[.agg #[.int .i64 t1002, .int .i64 t1003], .slice Ao23 t1004.length co23, .string a2, .string a3] rfl (by (try simp only [List.map_toArray, List.map_cons, List.map_nil]); first | done | rfl | (simp only [List.length_drop, List.length_take]; rfl)) ?_; (with_reducible refine (Fb.calls k t1002 t1003 _ _ t1004 a2 a3 t1007 t1010 _ ?side1 ?side2 A14.out).mono ?_); (case side1 => repeat (first | exact (Kd.R_reads' HO1006.out).2.2 | (with_reducible refine Kd.C_alloc ?_ _) | (with_reducible refine Kd.C_drewN ?_ _) | (with_reducible refine Kd.C_drew ?_))); (case side2 => exact (Kd.R_reads' HO1006.out).2.1); rintro e w24 ⟨v1008, rfl, ho0, hb⟩; refine ⟨_, rfl, ?_⟩; have n0_ := Aside0.mk (Kd.R_below (upR_ HO1006.out) hb); have n1_ := Aside0.mk (Kd.R_lower ho0 (below_size (upB_ HB.out))); have n2_ := Aside0.mk (blk_below (g := gb1000) (o := .cells #[.int .i64 a0_0, .int .i64 a0_1] 23 (0, 0)) (upK_ BK1000.out) hb); have n3_ := Aside0.mk (below_step (upB_ HB.out) hb); clear HO1006; clear BK1000; clear HB; have HO1006 := n0_; have HO1009 := n1_; have BK1000 := n2_; have HB := n3_; clear n0_ n1_ n2_ n3_; (try clear hb); (try clear hb2); (try clear hk); (try clear hi); (try clear ho0)) | ((with_reducible refine gate_callee (f := 19) rfl ?_); refine goesL_ (some 42) rfl rfl Try.func19 (by kernel_rfl) rfl #[.slice A1 l1.length c1] rfl (by (try simp only [List.map_toArray, List.map_cons, List.map_nil]); first | done | rfl | (simp only [List.length_drop, List.length_take]; rfl)) ?_; (with_reducible refine (Fj.calls k _ _ l1 t1011 _ ?side1 ?side2 A15.out).mono ?_); (case side1 => repeat (first | exact (Kd.C_below HR1.out HB.out) | (with_reducible refine Kd.C_alloc ?_ _) | (with_reducible refine Kd.C_drewN ?_ _) | (with_reducible refine Kd.C_drew ?_))); (case side2 => exact HC1.out); rintro e w25 ⟨v1012, rfl, ho0, hb⟩; refine ⟨_, rfl, ?_⟩; have n0_ := Aside0.mk (Kd.R_elder' (upR_ HO1006.out) (Kd.R_base ho0) hb); have n1_ := Aside0.mk (Kd.R_below (upR_ HO1009.out) hb); have n2_ := Aside0.mk (Kd.R_lower (Kd.R_new' ho0 (Kd.R_lt (upR_ HO1006.out))) (below_size (upB_ HB.out))); have n3_ := Aside0.mk (blk_below (g := gb1000) (o := .cells #[.int .i64 a0_0, .int .i64 a0_1] 23 (0, 0)) (upK_ BK1000.out) hb); have n4_ := Aside0.mk (below_step (upB_ HB.out) hb); clear HO1006; clear HO1009; clear BK1000; clear HB; have HO1006 := n0_; have HO1009 := n1_; have HO1013 := n2_; have BK1000 := n3_; have HB := n4_; clear n0_ n1_ n2_ n3_ n4_; (try clear hb); (try clear hb2); (try clear hk); (try clear hi); (try clear ho0); have hcz26_0 : w25.cell? ⟨gb1000, 0, none⟩ = some (.int .i64 a0_0) := (blk_cell BK1000.out 0).trans rfl; have hcz26_1 : w25.cell? ⟨gb1000, 1, none⟩ = some (.int .i64 a0_1) := (blk_cell BK1000.out 1).trans rfl; have hfz26_0 := blk_frozen BK1000.out 0; have hfz26_1 := blk_frozen BK1000.out 1) | ((with_reducible refine gate_callee (f := 18) rfl ?_); refine goesL_ (some 45) rfl rfl Try.func18 (by kernel_rfl) rfl #[.agg #[.int .i64 a0_0, .int .i64 a0_1]] rfl (by (try simp only [List.map_toArray, List.map_cons, List.map_nil]); first | done | rfl | (simp only [List.length_drop, List.length_take]; rfl)) ?_; (with_reducible refine (FW.calls a0_0 a0_1 t1014 t1015 _ A16.out).mono ?_); rintro e w27 ⟨rfl, hb⟩; refine ⟨_, rfl, ?_⟩; have n0_ := Aside0.mk (Kd.R_below (upR_ HO1006.out) hb); have n1_ := Aside0.mk (Kd.R_below (upR_ HO1009.out) hb); have n2_ := Aside0.mk (Kd.R_below (upR_ HO1013.out) hb); have n3_ := Aside0.mk (blk_below (g := gb1000) (o := .cells #[.int .i64 a0_0, .int .i64 a0_1] 23 (0, 0)) (upK_ BK1000.out) hb); have n4_ := Aside0.mk (below_step (upB_ HB.out) hb); clear HO1006; clear HO1009; clear HO1013; clear BK1000; clear HB; have HO1006 := n0_; have HO1009 := n1_; have HO1013 := n2_; have BK1000 := n3_; have HB := n4_; clear n0_ n1_ n2_ n3_ n4_; (try clear hb); (try clear hb2); (try clear hk); (try clear hi); obtain ⟨Ao28, co28, eo28⟩ := Kd.R_slice HO1013.out; subst eo28) | ((with_reducible refine gate_callee (f := 45) rfl ?_); refine goesL_ (some 49) rfl rfl Try.func45 (by kernel_rfl) rfl #[.agg #[.int .i64 t1014, .int .i64 t1015], .slice Ao28 t1011.length co28, .string a2, .string a3] rfl (by (try simp only [List.map_toArray, List.map_cons, List.map_nil]); first | done | rfl | (simp only [List.length_drop, List.length_take]; rfl)) ?_; (with_reducible refine (Fd.calls k t1014 t1015 _ _ t1011 a2 a3 t1016 t1019 _ ?side1 ?side2 A17.out).mono ?_); (case side1 => repeat (first | exact (Kd.R_reads' HO1013.out).2.2 | (with_reducible refine Kd.C_alloc ?_ _) | (with_reducible refine Kd.C_drewN ?_ _) | (with_reducible refine Kd.C_drew ?_))); (case side2 => exact (Kd.R_reads' HO1013.out).2.1); rintro e w29 ⟨v1017, rfl, ho0, hb⟩; refine ⟨_, rfl, ?_⟩; have n0_ := Aside0.mk (Kd.R_below (upR_ HO1006.out) hb); have n1_ := Aside0.mk (Kd.R_elder' (upR_ HO1009.out) (Kd.R_base ho0) hb); have n2_ := Aside0.mk (Kd.R_below (upR_ HO1013.out) hb); have n3_ := Aside0.mk (Kd.R_lower (Kd.R_new' ho0 (Kd.R_lt (upR_ HO1009.out))) (below_size (upB_ HB.out))); have n4_ := Aside0.mk (blk_below (g := gb1000) (o := .cells #[.int .i64 a0_0, .int .i64 a0_1] 23 (0, 0)) (upK_ BK1000.out) hb); have n5_ := Aside0.mk (below_step (upB_ HB.out) hb); clear HO1006; clear HO1009; clear HO1013; clear BK1000; clear HB; have HO1006 := n0_; have HO1009 := n1_; have HO1013 := n2_; have HO1018 := n3_; have BK1000 := n4_; have HB := n5_; clear n0_ n1_ n2_ n3_ n4_ n5_; (try clear hb); (try clear hb2); (try clear hk); (try clear hi); (try clear ho0)))
    (try simp only [Act.put, List.setIfInBounds_toArray, List.set_cons_zero, List.set_cons_succ])
    go_cut [60] (fun v60 wc => ∃ (kq : Nat) (x60_17 : Bool), v60 = .bool x60_17 ∧ Aside0 (Fa.j0 kq l1 a2 a3 t1007 t1010 t1011 t1016 t1019 x60_17 a0_0 a0_1 = some r) ∧ Aside0 (kq ≤ k) ∧ Aside0 (Kd.R k59 59 wc w.heap.size (fun k_ => some k_ ≠ (v1017 : Value).ownBlock) v1008 t1007) ∧ Aside0 (Kd.R Kd.string 9 wc w.heap.size (fun _ => True) (.slice Ao28 t1011.length co28) t1011) ∧ Aside0 (Kd.R k59 59 wc w.heap.size (fun k_ => some k_ ≠ (v1008 : Value).ownBlock) v1017 t1016) ∧ Aside0 (wc.heap[gb1000]? = some (.cells #[.int .i64 a0_0, .int .i64 a0_1] 23 (0, 0))) ∧ Aside0 (Below w.heap.size w wc))
    case first =>
     have H := HC18.out
     clear HC18; replace H := Option.bind_eq_some_iff.mp H
     obtain ⟨t1020, A300, H⟩ := H
     replace H : (if t1020 = true then (Fa.j0 k l1 a2 a3 t1007 t1010 t1011 t1016 t1019 (t1019 != t1010) a0_0 a0_1) else (Fa.j0 k l1 a2 a3 t1007 t1010 t1011 t1016 t1019 true a0_0 a0_1)) = some r := H
     have A30 := Aside0.mk A300
     clear A300; by_cases c31 : t1020 = true
     ·subst c31
      have H1 : (Fa.j0 k l1 a2 a3 t1007 t1010 t1011 t1016 t1019 (t1019 != t1010) a0_0 a0_1) = some r := by rw [if_pos rfl] at H; exact H
      clear H; have H := H1
      clear H1; have H' := Aside0.mk H
      clear H; obtain ⟨Ao32, co32, eo32⟩ := Kd.R_slice HO1018.out
      subst eo32
      obtain ⟨Ao33, co33, eo33⟩ := Kd.R_slice HO1009.out
      subst eo33
      go_wp2_with (first | ((with_reducible refine gate_callee (f := 23) rfl ?_); refine goesL_ (some 54) rfl rfl Try.func23 (by kernel_rfl) rfl #[.slice Ao32 t1016.length co32, .slice Ao33 t1007.length co33] rfl (by (try simp only [List.map_toArray, List.map_cons, List.map_nil]); first | done | rfl | (simp only [List.length_drop, List.length_take]; rfl)) ?_; (with_reducible refine (Fh.calls k _ _ t1016 _ _ t1007 true _ ?side1 ?side2 ?side3 ?side4 A30.out).mono ?_); (case side1 => repeat (first | exact (Kd.R_reads' HO1018.out).2.2 | (with_reducible refine Kd.C_alloc ?_ _) | (with_reducible refine Kd.C_drewN ?_ _) | (with_reducible refine Kd.C_drew ?_))); (case side2 => exact (Kd.R_reads' HO1018.out).2.1); (case side3 => repeat (first | exact (Kd.R_reads' HO1009.out).2.2 | (with_reducible refine Kd.C_alloc ?_ _) | (with_reducible refine Kd.C_drewN ?_ _) | (with_reducible refine Kd.C_drew ?_))); (case side4 => exact (Kd.R_reads' HO1009.out).2.1); rintro e w34 ⟨rfl, hb⟩; refine ⟨_, rfl, ?_⟩; have n0_ := Aside0.mk (Kd.R_below (upR_ HO1006.out) hb); have n1_ := Aside0.mk (Kd.R_below (upR_ HO1009.out) hb); have n2_ := Aside0.mk (Kd.R_below (upR_ HO1013.out) hb); have n3_ := Aside0.mk (Kd.R_below (upR_ HO1018.out) hb); have n4_ := Aside0.mk (blk_below (g := gb1000) (o := .cells #[.int .i64 a0_0, .int .i64 a0_1] 23 (0, 0)) (upK_ BK1000.out) hb); have n5_ := Aside0.mk (below_step (upB_ HB.out) hb); clear HO1006; clear HO1009; clear HO1013; clear HO1018; clear BK1000; clear HB; have HO1006 := n0_; have HO1009 := n1_; have HO1013 := n2_; have HO1018 := n3_; have BK1000 := n4_; have HB := n5_; clear n0_ n1_ n2_ n3_ n4_ n5_; (try clear hb); (try clear hb2); (try clear hk); (try clear hi)))
      go_meet
      case rel => exact ⟨_, ((t1019 != t1010)), (by first | rfl | (simp; done) | (simp [*]; done)), H', ⟨by first | omega | exact Nat.le_refl _⟩, ⟨by (with_reducible repeat (first | apply Kd.R_alloc | apply Kd.R_drewN | apply Kd.R_drew)); exact Kd.R_mono HO1009.out (fun _ hk => hk.2)⟩, ⟨by (with_reducible repeat (first | apply Kd.R_alloc | apply Kd.R_drewN | apply Kd.R_drew)); exact Kd.R_mono HO1013.out (fun _ hk => trivial)⟩, ⟨by (with_reducible repeat (first | apply Kd.R_alloc | apply Kd.R_drewN | apply Kd.R_drew)); exact Kd.R_mono HO1018.out (fun _ hk => hk.2)⟩, ⟨upK_ BK1000.out⟩, ⟨upB_ HB.out⟩⟩
     ·replace c31 := Bool.eq_false_iff.mpr c31
      subst c31
      have H1 : (Fa.j0 k l1 a2 a3 t1007 t1010 t1011 t1016 t1019 true a0_0 a0_1) = some r := by rw [if_neg (show ¬ (false = true) by decide)] at H; exact H
      clear H; have H := H1
      clear H1; have H' := Aside0.mk H
      clear H; obtain ⟨Ao35, co35, eo35⟩ := Kd.R_slice HO1018.out
      subst eo35
      obtain ⟨Ao36, co36, eo36⟩ := Kd.R_slice HO1009.out
      subst eo36
      go_wp2_with (first | ((with_reducible refine gate_callee (f := 23) rfl ?_); refine goesL_ (some 54) rfl rfl Try.func23 (by kernel_rfl) rfl #[.slice Ao35 t1016.length co35, .slice Ao36 t1007.length co36] rfl (by (try simp only [List.map_toArray, List.map_cons, List.map_nil]); first | done | rfl | (simp only [List.length_drop, List.length_take]; rfl)) ?_; (with_reducible refine (Fh.calls k _ _ t1016 _ _ t1007 false _ ?side1 ?side2 ?side3 ?side4 A30.out).mono ?_); (case side1 => repeat (first | exact (Kd.R_reads' HO1018.out).2.2 | (with_reducible refine Kd.C_alloc ?_ _) | (with_reducible refine Kd.C_drewN ?_ _) | (with_reducible refine Kd.C_drew ?_))); (case side2 => exact (Kd.R_reads' HO1018.out).2.1); (case side3 => repeat (first | exact (Kd.R_reads' HO1009.out).2.2 | (with_reducible refine Kd.C_alloc ?_ _) | (with_reducible refine Kd.C_drewN ?_ _) | (with_reducible refine Kd.C_drew ?_))); (case side4 => exact (Kd.R_reads' HO1009.out).2.1); rintro e w37 ⟨rfl, hb⟩; refine ⟨_, rfl, ?_⟩; have n0_ := Aside0.mk (Kd.R_below (upR_ HO1006.out) hb); have n1_ := Aside0.mk (Kd.R_below (upR_ HO1009.out) hb); have n2_ := Aside0.mk (Kd.R_below (upR_ HO1013.out) hb); have n3_ := Aside0.mk (Kd.R_below (upR_ HO1018.out) hb); have n4_ := Aside0.mk (blk_below (g := gb1000) (o := .cells #[.int .i64 a0_0, .int .i64 a0_1] 23 (0, 0)) (upK_ BK1000.out) hb); have n5_ := Aside0.mk (below_step (upB_ HB.out) hb); clear HO1006; clear HO1009; clear HO1013; clear HO1018; clear BK1000; clear HB; have HO1006 := n0_; have HO1009 := n1_; have HO1013 := n2_; have HO1018 := n3_; have BK1000 := n4_; have HB := n5_; clear n0_ n1_ n2_ n3_ n4_ n5_; (try clear hb); (try clear hb2); (try clear hk); (try clear hi)))
      go_meet
      case rel => exact ⟨_, (true), (by first | rfl | (simp; done) | (simp [*]; done)), H', ⟨by first | omega | exact Nat.le_refl _⟩, ⟨by (with_reducible repeat (first | apply Kd.R_alloc | apply Kd.R_drewN | apply Kd.R_drew)); exact Kd.R_mono HO1009.out (fun _ hk => hk.2)⟩, ⟨by (with_reducible repeat (first | apply Kd.R_alloc | apply Kd.R_drewN | apply Kd.R_drew)); exact Kd.R_mono HO1013.out (fun _ hk => trivial)⟩, ⟨by (with_reducible repeat (first | apply Kd.R_alloc | apply Kd.R_drewN | apply Kd.R_drew)); exact Kd.R_mono HO1018.out (fun _ hk => hk.2)⟩, ⟨upK_ BK1000.out⟩, ⟨upB_ HB.out⟩⟩
    case rest =>
     clear HC18; try clear c1
     try clear c2
     try clear p2
     try clear c3
     try clear c4
     try clear c5
     try clear c5b0
     try clear c5b1
     try clear c7
     try clear c7b0
     try clear c7b1
     try clear c10
     try clear c10b0
     try clear c14
     try clear c15
     try clear c18
     try clear c19
     try clear c23
     try clear c31
     try clear hcz20_0
     try clear hcz20_1
     try clear hcz26_0
     try clear hcz26_1
     try clear hfz20_0
     try clear hfz20_1
     try clear hfz26_0
     try clear hfz26_1
     obtain ⟨kq, x60_17, rfl, HA, HJ17, HO_10, HO_12, HO_13, BK1000, HB⟩ := hcut
     cases kq with
     | zero => exact absurd HA.out (by simp [Fa.j0])
     | succ kj17 =>
      have H := HA.out
      clear HA; simp only [Fa.j0] at H
      by_cases c38 : x60_17 = true
      ·subst c38
       have H1 : (some false) = some r := by rw [if_pos rfl] at H; exact H
       clear H; have H := H1
       clear H1; obtain rfl := Option.some.inj H
       go_wp2
       go_ret
       exact ⟨by first | rfl | (simp [errW_none, errW_some] <;> rfl) | (simp [*, errW_none, errW_some] <;> rfl), by repeat (first | (with_reducible first | exact HB.out | apply below_alloc | apply pw_below_drewN | apply below_drew1 | refine below_set ?_ GE1000.out) | exact HB.out)⟩
      ·replace c38 := Bool.eq_false_iff.mpr c38
       subst c38
       have H1 : ((Fj.f kj17 l1).bind fun t1021 => ((Fv.f kj17 t1011 t1021).bind fun t1024 => (if t1024 = true then ((Fm.f kj17 t1011 1).bind fun bt1025 => (if bt1025.1 < 0 then (Fa.j1 kj17 l1 a2 a3 t1007 t1010 t1016 true a0_0 a0_1) else ((Fh.f kj17 t1016 t1007).bind fun t1027 => (if t1027 = true then (Fa.j1 kj17 l1 a2 a3 t1007 t1010 t1016 (t1019 != t1010) a0_0 a0_1) else (Fa.j1 kj17 l1 a2 a3 t1007 t1010 t1016 true a0_0 a0_1))))) else (some false)))) = some r := by rw [if_neg (show ¬ (false = true) by decide)] at H; exact H
       clear H; have H := H1
       clear H1; replace H := Option.bind_eq_some_iff.mp H
       obtain ⟨t1021, A390, H⟩ := H
       replace H : ((Fv.f kj17 t1011 t1021).bind fun t1024 => (if t1024 = true then ((Fm.f kj17 t1011 1).bind fun bt1025 => (if bt1025.1 < 0 then (Fa.j1 kj17 l1 a2 a3 t1007 t1010 t1016 true a0_0 a0_1) else ((Fh.f kj17 t1016 t1007).bind fun t1027 => (if t1027 = true then (Fa.j1 kj17 l1 a2 a3 t1007 t1010 t1016 (t1019 != t1010) a0_0 a0_1) else (Fa.j1 kj17 l1 a2 a3 t1007 t1010 t1016 true a0_0 a0_1))))) else (some false))) = some r := H
       have A39 := Aside0.mk A390
       clear A390; replace H := Option.bind_eq_some_iff.mp H
       obtain ⟨t1024, A400, H⟩ := H
       replace H : (if t1024 = true then ((Fm.f kj17 t1011 1).bind fun bt1025 => (if bt1025.1 < 0 then (Fa.j1 kj17 l1 a2 a3 t1007 t1010 t1016 true a0_0 a0_1) else ((Fh.f kj17 t1016 t1007).bind fun t1027 => (if t1027 = true then (Fa.j1 kj17 l1 a2 a3 t1007 t1010 t1016 (t1019 != t1010) a0_0 a0_1) else (Fa.j1 kj17 l1 a2 a3 t1007 t1010 t1016 true a0_0 a0_1))))) else (some false)) = some r := H
       have A40 := Aside0.mk A400
       clear A400; by_cases c41 : t1024 = true
       ·subst c41
        have H1 : ((Fm.f kj17 t1011 1).bind fun bt1025 => (if bt1025.1 < 0 then (Fa.j1 kj17 l1 a2 a3 t1007 t1010 t1016 true a0_0 a0_1) else ((Fh.f kj17 t1016 t1007).bind fun t1027 => (if t1027 = true then (Fa.j1 kj17 l1 a2 a3 t1007 t1010 t1016 (t1019 != t1010) a0_0 a0_1) else (Fa.j1 kj17 l1 a2 a3 t1007 t1010 t1016 true a0_0 a0_1))))) = some r := by rw [if_pos rfl] at H; exact H
        clear H; have H := H1
        clear H1; replace H := Option.bind_eq_some_iff.mp H
        obtain ⟨⟨t1025, t1026⟩, A420, H⟩ := H
        replace H : (if t1025 < 0 then (Fa.j1 kj17 l1 a2 a3 t1007 t1010 t1016 true a0_0 a0_1) else ((Fh.f kj17 t1016 t1007).bind fun t1027 => (if t1027 = true then (Fa.j1 kj17 l1 a2 a3 t1007 t1010 t1016 (t1019 != t1010) a0_0 a0_1) else (Fa.j1 kj17 l1 a2 a3 t1007 t1010 t1016 true a0_0 a0_1)))) = some r := H
        have A42 := Aside0.mk A420
        clear A420; have HC43 := Aside0.mk H
        clear H; go_upto_region 18 with (first | ((with_reducible refine gate_callee (f := 19) rfl ?_); refine goesL_ (some 63) rfl rfl Try.func19 (by kernel_rfl) rfl #[.slice A1 l1.length c1] rfl (by (try simp only [List.map_toArray, List.map_cons, List.map_nil]); first | done | rfl | (simp only [List.length_drop, List.length_take]; rfl)) ?_; (with_reducible refine (Fj.calls kj17 _ _ l1 t1021 _ ?side1 ?side2 A39.out).mono ?_); (case side1 => repeat (first | exact (Kd.C_below HR1.out HB.out) | (with_reducible refine Kd.C_alloc ?_ _) | (with_reducible refine Kd.C_drewN ?_ _) | (with_reducible refine Kd.C_drew ?_))); (case side2 => exact HC1.out); rintro e w44 ⟨v1022, rfl, ho0, hb⟩; refine ⟨_, rfl, ?_⟩; have n0_ := Aside0.mk (Kd.R_below (upR_ HO_10.out) hb); have n1_ := Aside0.mk (Kd.R_elder' (upR_ HO_12.out) (Kd.R_base ho0) hb); have n2_ := Aside0.mk (Kd.R_below (upR_ HO_13.out) hb); have n3_ := Aside0.mk (Kd.R_lower (Kd.R_new' ho0 (Kd.R_lt (upR_ HO_12.out))) (below_size (upB_ HB.out))); have n4_ := Aside0.mk (blk_below (g := gb1000) (o := .cells #[.int .i64 a0_0, .int .i64 a0_1] 23 (0, 0)) (upK_ BK1000.out) hb); have n5_ := Aside0.mk (below_step (upB_ HB.out) hb); clear HO_10; clear HO_12; clear HO_13; clear BK1000; clear HB; have HO_10 := n0_; have HO_12 := n1_; have HO_13 := n2_; have HO1023 := n3_; have BK1000 := n4_; have HB := n5_; clear n0_ n1_ n2_ n3_ n4_ n5_; (try clear hb); (try clear hb2); (try clear hk); (try clear hi); (try clear ho0); obtain ⟨Ao45, co45, eo45⟩ := Kd.R_slice HO1023.out; subst eo45) | ((with_reducible refine gate_callee (f := 22) rfl ?_); refine goesL_ (some 64) rfl rfl Try.func22 (by kernel_rfl) rfl #[.slice Ao28 t1011.length co28, .slice Ao45 t1021.length co45] rfl (by (try simp only [List.map_toArray, List.map_cons, List.map_nil]); first | done | rfl | (simp only [List.length_drop, List.length_take]; rfl)) ?_; (with_reducible refine (Fv.calls kj17 _ _ t1011 _ _ t1021 true _ ?side1 ?side2 ?side3 ?side4 A40.out).mono ?_); (case side1 => repeat (first | exact (Kd.R_reads' HO_12.out).2.2 | (with_reducible refine Kd.C_alloc ?_ _) | (with_reducible refine Kd.C_drewN ?_ _) | (with_reducible refine Kd.C_drew ?_))); (case side2 => exact (Kd.R_reads' HO_12.out).2.1); (case side3 => repeat (first | exact (Kd.R_reads' HO1023.out).2.2 | (with_reducible refine Kd.C_alloc ?_ _) | (with_reducible refine Kd.C_drewN ?_ _) | (with_reducible refine Kd.C_drew ?_))); (case side4 => exact (Kd.R_reads' HO1023.out).2.1); rintro e w' ⟨rfl, ⟨nd, rfl⟩⟩; refine ⟨_, rfl, ?_⟩) | ((with_reducible refine gate_callee (f := 46) rfl ?_); refine goesL_ (some 68) rfl rfl Try.func46 (by kernel_rfl) rfl #[.slice Ao28 t1011.length co28, .int .i64 1] rfl (by (try simp only [List.map_toArray, List.map_cons, List.map_nil]); first | done | rfl | (simp only [List.length_drop, List.length_take]; rfl)) ?_; (with_reducible refine (Fm.calls kj17 (fun k_ => some k_ = (.slice Ao28 t1011.length co28 : Value).ownBlock) (.slice Ao28 t1011.length co28) t1011 1 t1025 t1026 w _ ?side1 ?side2 A42.out).mono ?_); (case side1 => repeat (first | (with_reducible first | exact HB.out | apply below_alloc | apply pw_below_drewN | apply below_drew1 | refine below_set ?_ GE1000.out) | exact HB.out)); (case side2 => exact Kd.R_tight rfl HO_12.out); rintro e w46 ⟨rfl, hy0, hb, hkp⟩; refine ⟨_, rfl, ?_⟩; have n0_ := Aside0.mk (Kd.R_mono (ok' := fun k_ => some k_ ≠ (v1017 : Value).ownBlock) (Kd.R_keptB ((Kd.R_apart' HO_10.out (Kd.R_typed HO_12.out) (by decide))) hkp (fun k_ hk_ hs_ => (hk_.2) hs_)) (fun k_ hk_ => hk_.1.1)); have n1_ := Aside0.mk (Kd.R_reok rfl hy0 (fun k_ e_ => HO_12.out.1 k_ e_)); have n2_ := Aside0.mk (Kd.R_mono (ok' := fun k_ => some k_ ≠ (v1008 : Value).ownBlock) (Kd.R_keptB ((Kd.R_apart' HO_13.out (Kd.R_typed HO_12.out) (by decide))) hkp (fun k_ hk_ hs_ => (hk_.2) hs_)) (fun k_ hk_ => hk_.1.1)); have n3_ := Aside0.mk (blk_kept (upK_ BK1000.out) hkp (fun hs_ => (fun e_ => (Kd.R_ne HO_12.out BK1000.out (by decide)) e_) hs_)); have n4_ := Aside0.mk (Kd.R_mono (ok' := fun k_ => some k_ ≠ (.slice Ao28 t1011.length co28 : Value).ownBlock) (Kd.R_keptB (HO1023.out) hkp (fun k_ hk_ hs_ => (hk_.2) hs_)) (fun k_ hk_ => hk_.1.2)); have n5_ := Aside0.mk (hb); clear HO_10; clear HO_12; clear HO_13; clear BK1000; clear HO1023; clear HB; have HO_10 := n0_; have HO_12 := n1_; have HO_13 := n2_; have BK1000 := n3_; have HO1023 := n4_; have HB := n5_; clear n0_ n1_ n2_ n3_ n4_ n5_; (try clear hb); (try clear hkp); (try clear hy0)))
        (try simp only [Act.put, List.setIfInBounds_toArray, List.set_cons_zero, List.set_cons_succ])
        go_cut [81] (fun v81 wc => ∃ (kq : Nat) (x81_42 : Bool), v81 = .bool x81_42 ∧ Aside0 (Fa.j1 kq l1 a2 a3 t1007 t1010 t1016 x81_42 a0_0 a0_1 = some r) ∧ Aside0 (kq ≤ kj17) ∧ Aside0 (Kd.R k59 59 wc w.heap.size (fun k_ => some k_ ≠ (v1017 : Value).ownBlock) v1008 t1007) ∧ Aside0 (Kd.R k59 59 wc w.heap.size (fun k_ => some k_ ≠ (v1008 : Value).ownBlock) v1017 t1016) ∧ Aside0 (wc.heap[gb1000]? = some (.cells #[.int .i64 a0_0, .int .i64 a0_1] 23 (0, 0))) ∧ Aside0 (Below w.heap.size w wc))
        case first =>
         have H := HC43.out
         clear HC43; by_cases c47 : t1025 < 0
         ·rw [if_pos c47] at H
          have c47b0 : decide (t1025 < 0) = true := decide_eq_true c47
          clear c47; (first | rw [c47b0] | (simp only [i64_w, i32_w]; rw [c47b0]) | skip)
          have H' := Aside0.mk H
          clear H; go_wp2
          go_meet
          case rel => exact ⟨_, (true), (by first | rfl | (simp; done) | (simp [*]; done)), H', ⟨by have := HJ17.out; first | omega | exact Nat.le_refl _⟩, ⟨upR_ HO_10.out⟩, ⟨upR_ HO_13.out⟩, ⟨upK_ BK1000.out⟩, ⟨upB_ HB.out⟩⟩
         ·rw [if_neg c47] at H
          have c47b0 : decide (t1025 < 0) = false := decide_eq_false c47
          clear c47; (first | rw [c47b0] | (simp only [i64_w, i32_w]; rw [c47b0]) | skip)
          replace H := Option.bind_eq_some_iff.mp H
          obtain ⟨t1027, A480, H⟩ := H
          replace H : (if t1027 = true then (Fa.j1 kj17 l1 a2 a3 t1007 t1010 t1016 (t1019 != t1010) a0_0 a0_1) else (Fa.j1 kj17 l1 a2 a3 t1007 t1010 t1016 true a0_0 a0_1)) = some r := H
          have A48 := Aside0.mk A480
          clear A480; by_cases c49 : t1027 = true
          ·subst c49
           have H1 : (Fa.j1 kj17 l1 a2 a3 t1007 t1010 t1016 (t1019 != t1010) a0_0 a0_1) = some r := by rw [if_pos rfl] at H; exact H
           clear H; have H := H1
           clear H1; have H' := Aside0.mk H
           clear H; obtain ⟨Ao50, co50, eo50⟩ := Kd.R_slice HO_13.out
           subst eo50
           obtain ⟨Ao51, co51, eo51⟩ := Kd.R_slice HO_10.out
           subst eo51
           go_wp2_with (first | (go_at_call 23; (with_reducible refine (Fh.calls kj17 _ _ t1016 _ _ t1007 true _ ?side1 ?side2 ?side3 ?side4 A48.out).mono ?_); (case side1 => repeat (first | exact (Kd.R_reads' HO_13.out).2.2 | (with_reducible refine Kd.C_alloc ?_ _) | (with_reducible refine Kd.C_drewN ?_ _) | (with_reducible refine Kd.C_drew ?_))); (case side2 => exact (Kd.R_reads' HO_13.out).2.1); (case side3 => repeat (first | exact (Kd.R_reads' HO_10.out).2.2 | (with_reducible refine Kd.C_alloc ?_ _) | (with_reducible refine Kd.C_drewN ?_ _) | (with_reducible refine Kd.C_drew ?_))); (case side4 => exact (Kd.R_reads' HO_10.out).2.1); rintro e w52 ⟨rfl, hb⟩; have n0_ := Aside0.mk (Kd.R_below (upR_ HO_10.out) hb); have n1_ := Aside0.mk (Kd.R_below (upR_ HO_12.out) hb); have n2_ := Aside0.mk (Kd.R_below (upR_ HO_13.out) hb); have n3_ := Aside0.mk (Kd.R_below (upR_ HO1023.out) hb); have n4_ := Aside0.mk (blk_below (g := gb1000) (o := .cells #[.int .i64 a0_0, .int .i64 a0_1] 23 (0, 0)) (upK_ BK1000.out) hb); have n5_ := Aside0.mk (below_step (upB_ HB.out) hb); clear HO_10; clear HO_12; clear HO_13; clear HO1023; clear BK1000; clear HB; have HO_10 := n0_; have HO_12 := n1_; have HO_13 := n2_; have HO1023 := n3_; have BK1000 := n4_; have HB := n5_; clear n0_ n1_ n2_ n3_ n4_ n5_; (try clear hb); (try clear hb2); (try clear hk); (try clear hi)))
           go_meet
           case rel => exact ⟨_, ((t1019 != t1010)), (by first | rfl | (simp; done) | (simp [*]; done)), H', ⟨by have := HJ17.out; first | omega | exact Nat.le_refl _⟩, ⟨upR_ HO_10.out⟩, ⟨upR_ HO_13.out⟩, ⟨upK_ BK1000.out⟩, ⟨upB_ HB.out⟩⟩
          ·replace c49 := Bool.eq_false_iff.mpr c49
           subst c49
           have H1 : (Fa.j1 kj17 l1 a2 a3 t1007 t1010 t1016 true a0_0 a0_1) = some r := by rw [if_neg (show ¬ (false = true) by decide)] at H; exact H
           clear H; have H := H1
           clear H1; have H' := Aside0.mk H
           clear H; obtain ⟨Ao53, co53, eo53⟩ := Kd.R_slice HO_13.out
           subst eo53
           obtain ⟨Ao54, co54, eo54⟩ := Kd.R_slice HO_10.out
           subst eo54
           go_wp2_with (first | (go_at_call 23; (with_reducible refine (Fh.calls kj17 _ _ t1016 _ _ t1007 false _ ?side1 ?side2 ?side3 ?side4 A48.out).mono ?_); (case side1 => repeat (first | exact (Kd.R_reads' HO_13.out).2.2 | (with_reducible refine Kd.C_alloc ?_ _) | (with_reducible refine Kd.C_drewN ?_ _) | (with_reducible refine Kd.C_drew ?_))); (case side2 => exact (Kd.R_reads' HO_13.out).2.1); (case side3 => repeat (first | exact (Kd.R_reads' HO_10.out).2.2 | (with_reducible refine Kd.C_alloc ?_ _) | (with_reducible refine Kd.C_drewN ?_ _) | (with_reducible refine Kd.C_drew ?_))); (case side4 => exact (Kd.R_reads' HO_10.out).2.1); rintro e w55 ⟨rfl, hb⟩; have n0_ := Aside0.mk (Kd.R_below (upR_ HO_10.out) hb); have n1_ := Aside0.mk (Kd.R_below (upR_ HO_12.out) hb); have n2_ := Aside0.mk (Kd.R_below (upR_ HO_13.out) hb); have n3_ := Aside0.mk (Kd.R_below (upR_ HO1023.out) hb); have n4_ := Aside0.mk (blk_below (g := gb1000) (o := .cells #[.int .i64 a0_0, .int .i64 a0_1] 23 (0, 0)) (upK_ BK1000.out) hb); have n5_ := Aside0.mk (below_step (upB_ HB.out) hb); clear HO_10; clear HO_12; clear HO_13; clear HO1023; clear BK1000; clear HB; have HO_10 := n0_; have HO_12 := n1_; have HO_13 := n2_; have HO1023 := n3_; have BK1000 := n4_; have HB := n5_; clear n0_ n1_ n2_ n3_ n4_ n5_; (try clear hb); (try clear hb2); (try clear hk); (try clear hi)))
           go_meet
           case rel => exact ⟨_, (true), (by first | rfl | (simp; done) | (simp [*]; done)), H', ⟨by have := HJ17.out; first | omega | exact Nat.le_refl _⟩, ⟨upR_ HO_10.out⟩, ⟨upR_ HO_13.out⟩, ⟨upK_ BK1000.out⟩, ⟨upB_ HB.out⟩⟩
        case rest =>
         clear HC43; try clear c1
         try clear c2
         try clear p2
         try clear c3
         try clear c4
         try clear c5
         try clear c5b0
         try clear c5b1
         try clear c7
         try clear c7b0
         try clear c7b1
         try clear c10
         try clear c10b0
         try clear c14
         try clear c15
         try clear c18
         try clear c19
         try clear c22
         try clear c23
         try clear c31
         try clear c38
         try clear c41
         try clear c44
         try clear c45
         try clear c46
         try clear c47
         try clear c47b0
         try clear c49
         try clear hcz20_0
         try clear hcz20_1
         try clear hcz26_0
         try clear hcz26_1
         try clear hfz20_0
         try clear hfz20_1
         try clear hfz26_0
         try clear hfz26_1
         try clear p2
         obtain ⟨kq, x81_42, rfl, HA, HJ42, HO_10, HO_13, BK1000, HB⟩ := hcut
         cases kq with
         | zero => exact absurd HA.out (by simp [Fa.j1])
         | succ kj42 =>
          have H := HA.out
          clear HA; simp only [Fa.j1] at H
          by_cases c56 : x81_42 = true
          ·subst c56
           have H1 : (some false) = some r := by rw [if_pos rfl] at H; exact H
           clear H; have H := H1
           clear H1; obtain rfl := Option.some.inj H
           go_wp2
           go_ret
           exact ⟨by first | rfl | (simp [errW_none, errW_some] <;> rfl) | (simp [*, errW_none, errW_some] <;> rfl), by repeat (first | (with_reducible first | exact HB.out | apply below_alloc | apply pw_below_drewN | apply below_drew1 | refine below_set ?_ GE1000.out) | exact HB.out)⟩
          ·replace c56 := Bool.eq_false_iff.mpr c56
           subst c56
           have H1 : ((Fs.f kj42 t1016 1).bind fun bt1028 => ((Fo.f kj42 bt1028.2 1).bind fun t1030 => (if t1030 < 0 then (some false) else (if t1030 = bt1028.1 then ((FW.f a0_0 a0_1).bind fun bt1031 => ((Fj.f kj42 l1).bind fun t1033 => ((Fd.f kj42 bt1031.1 bt1031.2 t1033 a2 a3).bind fun bt1036 => ((Fh.f kj42 bt1036.1 t1007).bind fun t1040 => (if t1040 = true then (Fa.j2 kj42 bt1028.2 bt1028.1 (bt1036.2 != t1010)) else (Fa.j2 kj42 bt1028.2 bt1028.1 true)))))) else (some false))))) = some r := by rw [if_neg (show ¬ (false = true) by decide)] at H; exact H
           clear H; have H := H1
           clear H1; replace H := Option.bind_eq_some_iff.mp H
           obtain ⟨⟨t1028, t1029⟩, A570, H⟩ := H
           replace H : ((Fo.f kj42 t1029 1).bind fun t1030 => (if t1030 < 0 then (some false) else (if t1030 = t1028 then ((FW.f a0_0 a0_1).bind fun bt1031 => ((Fj.f kj42 l1).bind fun t1033 => ((Fd.f kj42 bt1031.1 bt1031.2 t1033 a2 a3).bind fun bt1036 => ((Fh.f kj42 bt1036.1 t1007).bind fun t1040 => (if t1040 = true then (Fa.j2 kj42 t1029 t1028 (bt1036.2 != t1010)) else (Fa.j2 kj42 t1029 t1028 true)))))) else (some false)))) = some r := H
           have A57 := Aside0.mk A570
           clear A570; replace H := Option.bind_eq_some_iff.mp H
           obtain ⟨t1030, A580, H⟩ := H
           replace H : (if t1030 < 0 then (some false) else (if t1030 = t1028 then ((FW.f a0_0 a0_1).bind fun bt1031 => ((Fj.f kj42 l1).bind fun t1033 => ((Fd.f kj42 bt1031.1 bt1031.2 t1033 a2 a3).bind fun bt1036 => ((Fh.f kj42 bt1036.1 t1007).bind fun t1040 => (if t1040 = true then (Fa.j2 kj42 t1029 t1028 (bt1036.2 != t1010)) else (Fa.j2 kj42 t1029 t1028 true)))))) else (some false))) = some r := H
           have A58 := Aside0.mk A580
           clear A580; by_cases c59 : t1030 < 0
           ·rw [if_pos c59] at H
            have c59b0 : decide (t1030 < 0) = true := decide_eq_true c59
            clear c59; obtain rfl := Option.some.inj H
            obtain ⟨Ao60, co60, eo60⟩ := Kd.R_slice HO_13.out
            subst eo60
            go_wp2_with (first | ((with_reducible refine gate_callee (f := 47) rfl ?_); refine goesL_ (some 84) rfl rfl Try.func47 (by kernel_rfl) rfl #[.slice Ao60 t1016.length co60, .int .i64 1] rfl (by (try simp only [List.map_toArray, List.map_cons, List.map_nil]); first | done | rfl | (simp only [List.length_drop, List.length_take]; rfl)) ?_; (with_reducible refine (Fs.calls kj42 (fun k_ => some k_ = (.slice Ao60 t1016.length co60 : Value).ownBlock) (.slice Ao60 t1016.length co60) t1016 1 t1028 t1029 w _ ?side1 ?side2 A57.out).mono ?_); (case side1 => repeat (first | (with_reducible first | exact HB.out | apply below_alloc | apply pw_below_drewN | apply below_drew1 | refine below_set ?_ GE1000.out) | exact HB.out)); (case side2 => exact Kd.R_tight rfl HO_13.out); rintro e w61 ⟨rfl, hy0, hb, hkp⟩; refine ⟨_, rfl, ?_⟩; have n0_ := Aside0.mk (Kd.R_mono (ok' := fun k_ => some k_ ≠ (.slice Ao60 t1016.length co60 : Value).ownBlock) (Kd.R_keptB (HO_10.out) hkp (fun k_ hk_ hs_ => (hk_) hs_)) (fun k_ hk_ => hk_.1)); have n1_ := Aside0.mk (Kd.R_reok rfl hy0 (fun k_ e_ => HO_13.out.1 k_ e_)); have n2_ := Aside0.mk (blk_kept (upK_ BK1000.out) hkp (fun hs_ => (fun e_ => (Kd.R_ne HO_13.out BK1000.out (by decide)) e_) hs_)); have n3_ := Aside0.mk (hb); clear HO_10; clear HO_13; clear BK1000; clear HB; have HO_10 := n0_; have HO_13 := n1_; have BK1000 := n2_; have HB := n3_; clear n0_ n1_ n2_ n3_; (try clear hb); (try clear hkp); (try clear hy0)) | ((with_reducible refine gate_callee (f := 48) rfl ?_); refine goesL_ (some 87) rfl rfl Try.func48 (by kernel_rfl) rfl #[.slice Ao60 t1029.length co60, .int .i64 1] rfl (by (try simp only [List.map_toArray, List.map_cons, List.map_nil]); first | done | (rw [show t1029.length = t1016.length from (Kd.R_reads' HO_13.out).1.symm] <;> rfl) | rfl | (simp only [List.length_drop, List.length_take]; rfl)) ?_; (with_reducible refine (Fo.calls kj42 _ _ t1029 1 t1030 _ ?side1 ?side2 A58.out).mono ?_); (case side1 => repeat (first | exact (Kd.R_reads' HO_13.out).2.2 | (with_reducible refine Kd.C_alloc ?_ _) | (with_reducible refine Kd.C_drewN ?_ _) | (with_reducible refine Kd.C_drew ?_))); (case side2 => rw [show t1029.length = t1016.length from (Kd.R_reads' HO_13.out).1.symm]; exact (Kd.R_reads' HO_13.out).2.1); rintro e w' ⟨rfl, ⟨nd, rfl⟩⟩; refine ⟨_, rfl, ?_⟩))
            go_ret
            exact ⟨by first | rfl | (simp [errW_none, errW_some] <;> rfl) | (simp [*, errW_none, errW_some] <;> rfl), by repeat (first | (with_reducible first | exact HB.out | apply below_alloc | apply pw_below_drewN | apply below_drew1 | refine below_set ?_ GE1000.out) | exact HB.out)⟩
           ·rw [if_neg c59] at H
            have c59b0 : decide (t1030 < 0) = false := decide_eq_false c59
            clear c59; by_cases c62 : t1030 = t1028
            ·rw [if_pos c62] at H
             have c62b0 : (t1030 == t1028) = true := beq_iff_eq.mpr c62
             have c62b1 : (t1030 != t1028) = false := bne_eq_false_iff_eq.mpr c62
             clear c62; replace H := Option.bind_eq_some_iff.mp H
             obtain ⟨⟨t1031, t1032⟩, A630, H⟩ := H
             replace H : ((Fj.f kj42 l1).bind fun t1033 => ((Fd.f kj42 t1031 t1032 t1033 a2 a3).bind fun bt1036 => ((Fh.f kj42 bt1036.1 t1007).bind fun t1040 => (if t1040 = true then (Fa.j2 kj42 t1029 t1028 (bt1036.2 != t1010)) else (Fa.j2 kj42 t1029 t1028 true))))) = some r := H
             have A63 := Aside0.mk A630
             clear A630; replace H := Option.bind_eq_some_iff.mp H
             obtain ⟨t1033, A640, H⟩ := H
             replace H : ((Fd.f kj42 t1031 t1032 t1033 a2 a3).bind fun bt1036 => ((Fh.f kj42 bt1036.1 t1007).bind fun t1040 => (if t1040 = true then (Fa.j2 kj42 t1029 t1028 (bt1036.2 != t1010)) else (Fa.j2 kj42 t1029 t1028 true)))) = some r := H
             have A64 := Aside0.mk A640
             clear A640; replace H := Option.bind_eq_some_iff.mp H
             obtain ⟨⟨t1036, t1039⟩, A650, H⟩ := H
             replace H : ((Fh.f kj42 t1036 t1007).bind fun t1040 => (if t1040 = true then (Fa.j2 kj42 t1029 t1028 (t1039 != t1010)) else (Fa.j2 kj42 t1029 t1028 true))) = some r := H
             have A65 := Aside0.mk A650
             clear A650; have HC66 := Aside0.mk H
             clear H; obtain ⟨Ao67, co67, eo67⟩ := Kd.R_slice HO_13.out
             subst eo67
             go_upto_region 29 with (first | ((with_reducible refine gate_callee (f := 47) rfl ?_); refine goesL_ (some 84) rfl rfl Try.func47 (by kernel_rfl) rfl #[.slice Ao67 t1016.length co67, .int .i64 1] rfl (by (try simp only [List.map_toArray, List.map_cons, List.map_nil]); first | done | rfl | (simp only [List.length_drop, List.length_take]; rfl)) ?_; (with_reducible refine (Fs.calls kj42 (fun k_ => some k_ = (.slice Ao67 t1016.length co67 : Value).ownBlock) (.slice Ao67 t1016.length co67) t1016 1 t1028 t1029 w _ ?side1 ?side2 A57.out).mono ?_); (case side1 => repeat (first | (with_reducible first | exact HB.out | apply below_alloc | apply pw_below_drewN | apply below_drew1 | refine below_set ?_ GE1000.out) | exact HB.out)); (case side2 => exact Kd.R_tight rfl HO_13.out); rintro e w68 ⟨rfl, hy0, hb, hkp⟩; refine ⟨_, rfl, ?_⟩; have n0_ := Aside0.mk (Kd.R_mono (ok' := fun k_ => some k_ ≠ (.slice Ao67 t1016.length co67 : Value).ownBlock) (Kd.R_keptB (HO_10.out) hkp (fun k_ hk_ hs_ => (hk_) hs_)) (fun k_ hk_ => hk_.1)); have n1_ := Aside0.mk (Kd.R_reok rfl hy0 (fun k_ e_ => HO_13.out.1 k_ e_)); have n2_ := Aside0.mk (blk_kept (upK_ BK1000.out) hkp (fun hs_ => (fun e_ => (Kd.R_ne HO_13.out BK1000.out (by decide)) e_) hs_)); have n3_ := Aside0.mk (hb); clear HO_10; clear HO_13; clear BK1000; clear HB; have HO_10 := n0_; have HO_13 := n1_; have BK1000 := n2_; have HB := n3_; clear n0_ n1_ n2_ n3_; (try clear hb); (try clear hkp); (try clear hy0)) | ((with_reducible refine gate_callee (f := 48) rfl ?_); refine goesL_ (some 87) rfl rfl Try.func48 (by kernel_rfl) rfl #[.slice Ao67 t1029.length co67, .int .i64 1] rfl (by (try simp only [List.map_toArray, List.map_cons, List.map_nil]); first | done | (rw [show t1029.length = t1016.length from (Kd.R_reads' HO_13.out).1.symm] <;> rfl) | rfl | (simp only [List.length_drop, List.length_take]; rfl)) ?_; (with_reducible refine (Fo.calls kj42 _ _ t1029 1 t1030 _ ?side1 ?side2 A58.out).mono ?_); (case side1 => repeat (first | exact (Kd.R_reads' HO_13.out).2.2 | (with_reducible refine Kd.C_alloc ?_ _) | (with_reducible refine Kd.C_drewN ?_ _) | (with_reducible refine Kd.C_drew ?_))); (case side2 => rw [show t1029.length = t1016.length from (Kd.R_reads' HO_13.out).1.symm]; exact (Kd.R_reads' HO_13.out).2.1); rintro e w' ⟨rfl, ⟨nd, rfl⟩⟩; refine ⟨_, rfl, ?_⟩; have hcz69_0 : w68.cell? ⟨gb1000, 0, none⟩ = some (.int .i64 a0_0) := (blk_cell BK1000.out 0).trans rfl; have hcz69_1 : w68.cell? ⟨gb1000, 1, none⟩ = some (.int .i64 a0_1) := (blk_cell BK1000.out 1).trans rfl; have hfz69_0 := blk_frozen BK1000.out 0; have hfz69_1 := blk_frozen BK1000.out 1) | ((with_reducible refine gate_callee (f := 18) rfl ?_); refine goesL_ (some 95) rfl rfl Try.func18 (by kernel_rfl) rfl #[.agg #[.int .i64 a0_0, .int .i64 a0_1]] rfl (by (try simp only [List.map_toArray, List.map_cons, List.map_nil]); first | done | rfl | (simp only [List.length_drop, List.length_take]; rfl)) ?_; (with_reducible refine (FW.calls a0_0 a0_1 t1031 t1032 _ A63.out).mono ?_); rintro e w70 ⟨rfl, hb⟩; refine ⟨_, rfl, ?_⟩; have n0_ := Aside0.mk (Kd.R_below (upR_ HO_10.out) hb); have n1_ := Aside0.mk (Kd.R_below (upR_ HO_13.out) hb); have n2_ := Aside0.mk (blk_below (g := gb1000) (o := .cells #[.int .i64 a0_0, .int .i64 a0_1] 23 (0, 0)) (upK_ BK1000.out) hb); have n3_ := Aside0.mk (below_step (upB_ HB.out) hb); clear HO_10; clear HO_13; clear BK1000; clear HB; have HO_10 := n0_; have HO_13 := n1_; have BK1000 := n2_; have HB := n3_; clear n0_ n1_ n2_ n3_; (try clear hb); (try clear hb2); (try clear hk); (try clear hi)) | ((with_reducible refine gate_callee (f := 19) rfl ?_); refine goesL_ (some 97) rfl rfl Try.func19 (by kernel_rfl) rfl #[.slice A1 l1.length c1] rfl (by (try simp only [List.map_toArray, List.map_cons, List.map_nil]); first | done | rfl | (simp only [List.length_drop, List.length_take]; rfl)) ?_; (with_reducible refine (Fj.calls kj42 _ _ l1 t1033 _ ?side1 ?side2 A64.out).mono ?_); (case side1 => repeat (first | exact (Kd.C_below HR1.out HB.out) | (with_reducible refine Kd.C_alloc ?_ _) | (with_reducible refine Kd.C_drewN ?_ _) | (with_reducible refine Kd.C_drew ?_))); (case side2 => exact HC1.out); rintro e w71 ⟨v1034, rfl, ho0, hb⟩; refine ⟨_, rfl, ?_⟩; have n0_ := Aside0.mk (Kd.R_below (upR_ HO_10.out) hb); have n1_ := Aside0.mk (Kd.R_below (upR_ HO_13.out) hb); have n2_ := Aside0.mk (Kd.R_lower ho0 (below_size (upB_ HB.out))); have n3_ := Aside0.mk (blk_below (g := gb1000) (o := .cells #[.int .i64 a0_0, .int .i64 a0_1] 23 (0, 0)) (upK_ BK1000.out) hb); have n4_ := Aside0.mk (below_step (upB_ HB.out) hb); clear HO_10; clear HO_13; clear BK1000; clear HB; have HO_10 := n0_; have HO_13 := n1_; have HO1035 := n2_; have BK1000 := n3_; have HB := n4_; clear n0_ n1_ n2_ n3_ n4_; (try clear hb); (try clear hb2); (try clear hk); (try clear hi); (try clear ho0); obtain ⟨Ao72, co72, eo72⟩ := Kd.R_slice HO1035.out; subst eo72) | ((with_reducible refine gate_callee (f := 45) rfl ?_); refine goesL_ (some 100) rfl rfl Try.func45 (by kernel_rfl) rfl #[.agg #[.int .i64 t1031, .int .i64 t1032], .slice Ao72 t1033.length co72, .string a2, .string a3] rfl (by (try simp only [List.map_toArray, List.map_cons, List.map_nil]); first | done | rfl | (simp only [List.length_drop, List.length_take]; rfl)) ?_; (with_reducible refine (Fd.calls kj42 t1031 t1032 _ _ t1033 a2 a3 t1036 t1039 _ ?side1 ?side2 A65.out).mono ?_); (case side1 => repeat (first | exact (Kd.R_reads' HO1035.out).2.2 | (with_reducible refine Kd.C_alloc ?_ _) | (with_reducible refine Kd.C_drewN ?_ _) | (with_reducible refine Kd.C_drew ?_))); (case side2 => exact (Kd.R_reads' HO1035.out).2.1); rintro e w73 ⟨v1037, rfl, ho0, hb⟩; refine ⟨_, rfl, ?_⟩; have n0_ := Aside0.mk (Kd.R_elder' (upR_ HO_10.out) (Kd.R_base ho0) hb); have n1_ := Aside0.mk (Kd.R_elder' (upR_ HO_13.out) (Kd.R_base ho0) hb); have n2_ := Aside0.mk (Kd.R_below (upR_ HO1035.out) hb); have n3_ := Aside0.mk (Kd.R_lower (Kd.R_new' (Kd.R_new' ho0 (Kd.R_lt (upR_ HO_10.out))) (Kd.R_lt (upR_ HO_13.out))) (below_size (upB_ HB.out))); have n4_ := Aside0.mk (blk_below (g := gb1000) (o := .cells #[.int .i64 a0_0, .int .i64 a0_1] 23 (0, 0)) (upK_ BK1000.out) hb); have n5_ := Aside0.mk (below_step (upB_ HB.out) hb); clear HO_10; clear HO_13; clear HO1035; clear BK1000; clear HB; have HO_10 := n0_; have HO_13 := n1_; have HO1035 := n2_; have HO1038 := n3_; have BK1000 := n4_; have HB := n5_; clear n0_ n1_ n2_ n3_ n4_ n5_; (try clear hb); (try clear hb2); (try clear hk); (try clear hi); (try clear ho0)))
             (try simp only [Act.put, List.setIfInBounds_toArray, List.set_cons_zero, List.set_cons_succ])
             go_cut [111] (fun v111 wc => ∃ (kq : Nat) (x111_65 : Bool), v111 = .bool x111_65 ∧ Aside0 (Fa.j2 kq t1029 t1028 x111_65 = some r) ∧ Aside0 (kq ≤ kj42) ∧ Aside0 (Kd.R k59 59 wc w.heap.size (fun _ => True) (.slice Ao67 t1016.length co67) t1029) ∧ Aside0 (wc.heap[gb1000]? = some (.cells #[.int .i64 a0_0, .int .i64 a0_1] 23 (0, 0))) ∧ Aside0 (Below w.heap.size w wc))
             case first =>
              have H := HC66.out
              clear HC66; replace H := Option.bind_eq_some_iff.mp H
              obtain ⟨t1040, A740, H⟩ := H
              replace H : (if t1040 = true then (Fa.j2 kj42 t1029 t1028 (t1039 != t1010)) else (Fa.j2 kj42 t1029 t1028 true)) = some r := H
              have A74 := Aside0.mk A740
              clear A740; by_cases c75 : t1040 = true
              ·subst c75
               have H1 : (Fa.j2 kj42 t1029 t1028 (t1039 != t1010)) = some r := by rw [if_pos rfl] at H; exact H
               clear H; have H := H1
               clear H1; have H' := Aside0.mk H
               clear H; obtain ⟨Ao76, co76, eo76⟩ := Kd.R_slice HO1038.out
               subst eo76
               obtain ⟨Ao77, co77, eo77⟩ := Kd.R_slice HO_10.out
               subst eo77
               go_wp2_with (first | ((with_reducible refine gate_callee (f := 23) rfl ?_); refine goesL_ (some 105) rfl rfl Try.func23 (by kernel_rfl) rfl #[.slice Ao76 t1036.length co76, .slice Ao77 t1007.length co77] rfl (by (try simp only [List.map_toArray, List.map_cons, List.map_nil]); first | done | rfl | (simp only [List.length_drop, List.length_take]; rfl)) ?_; (with_reducible refine (Fh.calls kj42 _ _ t1036 _ _ t1007 true _ ?side1 ?side2 ?side3 ?side4 A74.out).mono ?_); (case side1 => repeat (first | exact (Kd.R_reads' HO1038.out).2.2 | (with_reducible refine Kd.C_alloc ?_ _) | (with_reducible refine Kd.C_drewN ?_ _) | (with_reducible refine Kd.C_drew ?_))); (case side2 => exact (Kd.R_reads' HO1038.out).2.1); (case side3 => repeat (first | exact (Kd.R_reads' HO_10.out).2.2 | (with_reducible refine Kd.C_alloc ?_ _) | (with_reducible refine Kd.C_drewN ?_ _) | (with_reducible refine Kd.C_drew ?_))); (case side4 => exact (Kd.R_reads' HO_10.out).2.1); rintro e w78 ⟨rfl, hb⟩; refine ⟨_, rfl, ?_⟩; have n0_ := Aside0.mk (Kd.R_below (upR_ HO_10.out) hb); have n1_ := Aside0.mk (Kd.R_below (upR_ HO_13.out) hb); have n2_ := Aside0.mk (Kd.R_below (upR_ HO1035.out) hb); have n3_ := Aside0.mk (Kd.R_below (upR_ HO1038.out) hb); have n4_ := Aside0.mk (blk_below (g := gb1000) (o := .cells #[.int .i64 a0_0, .int .i64 a0_1] 23 (0, 0)) (upK_ BK1000.out) hb); have n5_ := Aside0.mk (below_step (upB_ HB.out) hb); clear HO_10; clear HO_13; clear HO1035; clear HO1038; clear BK1000; clear HB; have HO_10 := n0_; have HO_13 := n1_; have HO1035 := n2_; have HO1038 := n3_; have BK1000 := n4_; have HB := n5_; clear n0_ n1_ n2_ n3_ n4_ n5_; (try clear hb); (try clear hb2); (try clear hk); (try clear hi)))
               go_meet
               case rel => exact ⟨_, ((t1039 != t1010)), (by first | rfl | (simp; done) | (simp [*]; done)), H', ⟨by have := HJ17.out; have := HJ42.out; first | omega | exact Nat.le_refl _⟩, ⟨by (with_reducible repeat (first | apply Kd.R_alloc | apply Kd.R_drewN | apply Kd.R_drew)); exact Kd.R_mono HO_13.out (fun _ hk => trivial)⟩, ⟨upK_ BK1000.out⟩, ⟨upB_ HB.out⟩⟩
              ·replace c75 := Bool.eq_false_iff.mpr c75
               subst c75
               have H1 : (Fa.j2 kj42 t1029 t1028 true) = some r := by rw [if_neg (show ¬ (false = true) by decide)] at H; exact H
               clear H; have H := H1
               clear H1; have H' := Aside0.mk H
               clear H; obtain ⟨Ao79, co79, eo79⟩ := Kd.R_slice HO1038.out
               subst eo79
               obtain ⟨Ao80, co80, eo80⟩ := Kd.R_slice HO_10.out
               subst eo80
               go_wp2_with (first | ((with_reducible refine gate_callee (f := 23) rfl ?_); refine goesL_ (some 105) rfl rfl Try.func23 (by kernel_rfl) rfl #[.slice Ao79 t1036.length co79, .slice Ao80 t1007.length co80] rfl (by (try simp only [List.map_toArray, List.map_cons, List.map_nil]); first | done | rfl | (simp only [List.length_drop, List.length_take]; rfl)) ?_; (with_reducible refine (Fh.calls kj42 _ _ t1036 _ _ t1007 false _ ?side1 ?side2 ?side3 ?side4 A74.out).mono ?_); (case side1 => repeat (first | exact (Kd.R_reads' HO1038.out).2.2 | (with_reducible refine Kd.C_alloc ?_ _) | (with_reducible refine Kd.C_drewN ?_ _) | (with_reducible refine Kd.C_drew ?_))); (case side2 => exact (Kd.R_reads' HO1038.out).2.1); (case side3 => repeat (first | exact (Kd.R_reads' HO_10.out).2.2 | (with_reducible refine Kd.C_alloc ?_ _) | (with_reducible refine Kd.C_drewN ?_ _) | (with_reducible refine Kd.C_drew ?_))); (case side4 => exact (Kd.R_reads' HO_10.out).2.1); rintro e w81 ⟨rfl, hb⟩; refine ⟨_, rfl, ?_⟩; have n0_ := Aside0.mk (Kd.R_below (upR_ HO_10.out) hb); have n1_ := Aside0.mk (Kd.R_below (upR_ HO_13.out) hb); have n2_ := Aside0.mk (Kd.R_below (upR_ HO1035.out) hb); have n3_ := Aside0.mk (Kd.R_below (upR_ HO1038.out) hb); have n4_ := Aside0.mk (blk_below (g := gb1000) (o := .cells #[.int .i64 a0_0, .int .i64 a0_1] 23 (0, 0)) (upK_ BK1000.out) hb); have n5_ := Aside0.mk (below_step (upB_ HB.out) hb); clear HO_10; clear HO_13; clear HO1035; clear HO1038; clear BK1000; clear HB; have HO_10 := n0_; have HO_13 := n1_; have HO1035 := n2_; have HO1038 := n3_; have BK1000 := n4_; have HB := n5_; clear n0_ n1_ n2_ n3_ n4_ n5_; (try clear hb); (try clear hb2); (try clear hk); (try clear hi)))
               go_meet
               case rel => exact ⟨_, (true), (by first | rfl | (simp; done) | (simp [*]; done)), H', ⟨by have := HJ17.out; have := HJ42.out; first | omega | exact Nat.le_refl _⟩, ⟨by (with_reducible repeat (first | apply Kd.R_alloc | apply Kd.R_drewN | apply Kd.R_drew)); exact Kd.R_mono HO_13.out (fun _ hk => trivial)⟩, ⟨upK_ BK1000.out⟩, ⟨upB_ HB.out⟩⟩
             case rest =>
              clear HC66; try clear c1
              try clear c2
              try clear p2
              try clear c3
              try clear c4
              try clear c5
              try clear c5b0
              try clear c5b1
              try clear c6
              try clear c7
              try clear c7b0
              try clear c7b1
              try clear c10
              try clear c10b0
              try clear c14
              try clear c15
              try clear c18
              try clear c19
              try clear c22
              try clear c23
              try clear c31
              try clear c38
              try clear c41
              try clear c44
              try clear c45
              try clear c46
              try clear c47
              try clear c47b0
              try clear c48
              try clear c49
              try clear c56
              try clear c59
              try clear c59b0
              try clear c62
              try clear c62b0
              try clear c62b1
              try clear c75
              try clear hcz20_0
              try clear hcz20_1
              try clear hcz26_0
              try clear hcz26_1
              try clear hcz69_0
              try clear hcz69_1
              try clear hfz20_0
              try clear hfz20_1
              try clear hfz26_0
              try clear hfz26_1
              try clear hfz69_0
              try clear hfz69_1
              try clear p2
              obtain ⟨kq, x111_65, rfl, HA, HJ65, HO_13, BK1000, HB⟩ := hcut
              have hl13_65 := (Kd.R_reads' HO_13.out).1
              rw [hl13_65] at HO_13
              (try simp only [hl13_65])
              (try simp only [hl13_65] at BK1000)
              cases kq with
              | zero => exact absurd HA.out (by simp [Fa.j2])
              | succ kj65 =>
               have H := HA.out
               clear HA; simp only [Fa.j2] at H
               by_cases c82 : x111_65 = true
               ·subst c82
                have H1 : (some false) = some r := by rw [if_pos rfl] at H; exact H
                clear H; have H := H1
                clear H1; obtain rfl := Option.some.inj H
                go_wp2
                go_ret
                exact ⟨by first | rfl | (simp [errW_none, errW_some] <;> rfl) | (simp [*, errW_none, errW_some] <;> rfl), by repeat (first | (with_reducible first | exact HB.out | apply below_alloc | apply pw_below_drewN | apply below_drew1 | refine below_set ?_ GE1000.out) | exact HB.out)⟩
               ·replace c82 := Bool.eq_false_iff.mpr c82
                subst c82
                have H1 : ((Fo.f kj65 t1029 1).bind fun t1041 => (if t1041 < 0 then (some false) else (if t1041 = t1028 then (some true) else (some false)))) = some r := by rw [if_neg (show ¬ (false = true) by decide)] at H; exact H
                clear H; have H := H1
                clear H1; replace H := Option.bind_eq_some_iff.mp H
                obtain ⟨t1041, A830, H⟩ := H
                replace H : (if t1041 < 0 then (some false) else (if t1041 = t1028 then (some true) else (some false))) = some r := H
                have A83 := Aside0.mk A830
                clear A830; by_cases c84 : t1041 < 0
                ·rw [if_pos c84] at H
                 have c84b0 : decide (t1041 < 0) = true := decide_eq_true c84
                 clear c84; obtain rfl := Option.some.inj H
                 go_wp2_with (first | ((with_reducible refine gate_callee (f := 48) rfl ?_); refine goesL_ (some 114) rfl rfl Try.func48 (by kernel_rfl) rfl #[.slice Ao67 t1029.length co67, .int .i64 1] rfl (by (try simp only [List.map_toArray, List.map_cons, List.map_nil]); first | done | rfl | (simp only [List.length_drop, List.length_take]; rfl)) ?_; (with_reducible refine (Fo.calls kj65 _ _ t1029 1 t1041 _ ?side1 ?side2 A83.out).mono ?_); (case side1 => repeat (first | exact (Kd.R_reads' HO_13.out).2.2 | (with_reducible refine Kd.C_alloc ?_ _) | (with_reducible refine Kd.C_drewN ?_ _) | (with_reducible refine Kd.C_drew ?_))); (case side2 => exact (Kd.R_reads' HO_13.out).2.1); rintro e w' ⟨rfl, ⟨nd, rfl⟩⟩; refine ⟨_, rfl, ?_⟩))
                 go_ret
                 exact ⟨by first | rfl | (simp [errW_none, errW_some] <;> rfl) | (simp [*, errW_none, errW_some] <;> rfl), by repeat (first | (with_reducible first | exact HB.out | apply below_alloc | apply pw_below_drewN | apply below_drew1 | refine below_set ?_ GE1000.out) | exact HB.out)⟩
                ·rw [if_neg c84] at H
                 have c84b0 : decide (t1041 < 0) = false := decide_eq_false c84
                 clear c84; by_cases c85 : t1041 = t1028
                 ·rw [if_pos c85] at H
                  have c85b0 : (t1041 == t1028) = true := beq_iff_eq.mpr c85
                  have c85b1 : (t1041 != t1028) = false := bne_eq_false_iff_eq.mpr c85
                  clear c85; obtain rfl := Option.some.inj H
                  go_wp2_with (first | ((with_reducible refine gate_callee (f := 48) rfl ?_); refine goesL_ (some 114) rfl rfl Try.func48 (by kernel_rfl) rfl #[.slice Ao67 t1029.length co67, .int .i64 1] rfl (by (try simp only [List.map_toArray, List.map_cons, List.map_nil]); first | done | rfl | (simp only [List.length_drop, List.length_take]; rfl)) ?_; (with_reducible refine (Fo.calls kj65 _ _ t1029 1 t1041 _ ?side1 ?side2 A83.out).mono ?_); (case side1 => repeat (first | exact (Kd.R_reads' HO_13.out).2.2 | (with_reducible refine Kd.C_alloc ?_ _) | (with_reducible refine Kd.C_drewN ?_ _) | (with_reducible refine Kd.C_drew ?_))); (case side2 => exact (Kd.R_reads' HO_13.out).2.1); rintro e w' ⟨rfl, ⟨nd, rfl⟩⟩; refine ⟨_, rfl, ?_⟩))
                  go_ret
                  exact ⟨by first | rfl | (simp [errW_none, errW_some] <;> rfl) | (simp [*, errW_none, errW_some] <;> rfl), by repeat (first | (with_reducible first | exact HB.out | apply below_alloc | apply pw_below_drewN | apply below_drew1 | refine below_set ?_ GE1000.out) | exact HB.out)⟩
                 ·rw [if_neg c85] at H
                  have c85b0 : (t1041 == t1028) = false := beq_eq_false_iff_ne.mpr c85
                  have c85b1 : (t1041 != t1028) = true := bne_iff_ne.mpr c85
                  obtain rfl := Option.some.inj H
                  go_wp2_with (first | ((with_reducible refine gate_callee (f := 48) rfl ?_); refine goesL_ (some 114) rfl rfl Try.func48 (by kernel_rfl) rfl #[.slice Ao67 t1029.length co67, .int .i64 1] rfl (by (try simp only [List.map_toArray, List.map_cons, List.map_nil]); first | done | rfl | (simp only [List.length_drop, List.length_take]; rfl)) ?_; (with_reducible refine (Fo.calls kj65 _ _ t1029 1 t1041 _ ?side1 ?side2 A83.out).mono ?_); (case side1 => repeat (first | exact (Kd.R_reads' HO_13.out).2.2 | (with_reducible refine Kd.C_alloc ?_ _) | (with_reducible refine Kd.C_drewN ?_ _) | (with_reducible refine Kd.C_drew ?_))); (case side2 => exact (Kd.R_reads' HO_13.out).2.1); rintro e w' ⟨rfl, ⟨nd, rfl⟩⟩; refine ⟨_, rfl, ?_⟩))
                  go_ret
                  exact ⟨by first | rfl | (simp [errW_none, errW_some] <;> rfl) | (simp [*, errW_none, errW_some] <;> rfl), by repeat (first | (with_reducible first | exact HB.out | apply below_alloc | apply pw_below_drewN | apply below_drew1 | refine below_set ?_ GE1000.out) | exact HB.out)⟩
            ·rw [if_neg c62] at H
             have c62b0 : (t1030 == t1028) = false := beq_eq_false_iff_ne.mpr c62
             have c62b1 : (t1030 != t1028) = true := bne_iff_ne.mpr c62
             obtain rfl := Option.some.inj H
             obtain ⟨Ao86, co86, eo86⟩ := Kd.R_slice HO_13.out
             subst eo86
             go_wp2_with (first | ((with_reducible refine gate_callee (f := 47) rfl ?_); refine goesL_ (some 84) rfl rfl Try.func47 (by kernel_rfl) rfl #[.slice Ao86 t1016.length co86, .int .i64 1] rfl (by (try simp only [List.map_toArray, List.map_cons, List.map_nil]); first | done | rfl | (simp only [List.length_drop, List.length_take]; rfl)) ?_; (with_reducible refine (Fs.calls kj42 (fun k_ => some k_ = (.slice Ao86 t1016.length co86 : Value).ownBlock) (.slice Ao86 t1016.length co86) t1016 1 t1028 t1029 w _ ?side1 ?side2 A57.out).mono ?_); (case side1 => repeat (first | (with_reducible first | exact HB.out | apply below_alloc | apply pw_below_drewN | apply below_drew1 | refine below_set ?_ GE1000.out) | exact HB.out)); (case side2 => exact Kd.R_tight rfl HO_13.out); rintro e w87 ⟨rfl, hy0, hb, hkp⟩; refine ⟨_, rfl, ?_⟩; have n0_ := Aside0.mk (Kd.R_mono (ok' := fun k_ => some k_ ≠ (.slice Ao86 t1016.length co86 : Value).ownBlock) (Kd.R_keptB (HO_10.out) hkp (fun k_ hk_ hs_ => (hk_) hs_)) (fun k_ hk_ => hk_.1)); have n1_ := Aside0.mk (Kd.R_reok rfl hy0 (fun k_ e_ => HO_13.out.1 k_ e_)); have n2_ := Aside0.mk (blk_kept (upK_ BK1000.out) hkp (fun hs_ => (fun e_ => (Kd.R_ne HO_13.out BK1000.out (by decide)) e_) hs_)); have n3_ := Aside0.mk (hb); clear HO_10; clear HO_13; clear BK1000; clear HB; have HO_10 := n0_; have HO_13 := n1_; have BK1000 := n2_; have HB := n3_; clear n0_ n1_ n2_ n3_; (try clear hb); (try clear hkp); (try clear hy0)) | ((with_reducible refine gate_callee (f := 48) rfl ?_); refine goesL_ (some 87) rfl rfl Try.func48 (by kernel_rfl) rfl #[.slice Ao86 t1029.length co86, .int .i64 1] rfl (by (try simp only [List.map_toArray, List.map_cons, List.map_nil]); first | done | (rw [show t1029.length = t1016.length from (Kd.R_reads' HO_13.out).1.symm] <;> rfl) | rfl | (simp only [List.length_drop, List.length_take]; rfl)) ?_; (with_reducible refine (Fo.calls kj42 _ _ t1029 1 t1030 _ ?side1 ?side2 A58.out).mono ?_); (case side1 => repeat (first | exact (Kd.R_reads' HO_13.out).2.2 | (with_reducible refine Kd.C_alloc ?_ _) | (with_reducible refine Kd.C_drewN ?_ _) | (with_reducible refine Kd.C_drew ?_))); (case side2 => rw [show t1029.length = t1016.length from (Kd.R_reads' HO_13.out).1.symm]; exact (Kd.R_reads' HO_13.out).2.1); rintro e w' ⟨rfl, ⟨nd, rfl⟩⟩; refine ⟨_, rfl, ?_⟩))
             go_ret
             exact ⟨by first | rfl | (simp [errW_none, errW_some] <;> rfl) | (simp [*, errW_none, errW_some] <;> rfl), by repeat (first | (with_reducible first | exact HB.out | apply below_alloc | apply pw_below_drewN | apply below_drew1 | refine below_set ?_ GE1000.out) | exact HB.out)⟩
       ·replace c41 := Bool.eq_false_iff.mpr c41
        subst c41
        have H1 : (some false) = some r := by rw [if_neg (show ¬ (false = true) by decide)] at H; exact H
        clear H; have H := H1
        clear H1; obtain rfl := Option.some.inj H
        go_wp2_with (first | ((with_reducible refine gate_callee (f := 19) rfl ?_); refine goesL_ (some 63) rfl rfl Try.func19 (by kernel_rfl) rfl #[.slice A1 l1.length c1] rfl (by (try simp only [List.map_toArray, List.map_cons, List.map_nil]); first | done | rfl | (simp only [List.length_drop, List.length_take]; rfl)) ?_; (with_reducible refine (Fj.calls kj17 _ _ l1 t1021 _ ?side1 ?side2 A39.out).mono ?_); (case side1 => repeat (first | exact (Kd.C_below HR1.out HB.out) | (with_reducible refine Kd.C_alloc ?_ _) | (with_reducible refine Kd.C_drewN ?_ _) | (with_reducible refine Kd.C_drew ?_))); (case side2 => exact HC1.out); rintro e w88 ⟨v1022, rfl, ho0, hb⟩; refine ⟨_, rfl, ?_⟩; have n0_ := Aside0.mk (Kd.R_below (upR_ HO_10.out) hb); have n1_ := Aside0.mk (Kd.R_elder' (upR_ HO_12.out) (Kd.R_base ho0) hb); have n2_ := Aside0.mk (Kd.R_below (upR_ HO_13.out) hb); have n3_ := Aside0.mk (Kd.R_lower (Kd.R_new' ho0 (Kd.R_lt (upR_ HO_12.out))) (below_size (upB_ HB.out))); have n4_ := Aside0.mk (blk_below (g := gb1000) (o := .cells #[.int .i64 a0_0, .int .i64 a0_1] 23 (0, 0)) (upK_ BK1000.out) hb); have n5_ := Aside0.mk (below_step (upB_ HB.out) hb); clear HO_10; clear HO_12; clear HO_13; clear BK1000; clear HB; have HO_10 := n0_; have HO_12 := n1_; have HO_13 := n2_; have HO1023 := n3_; have BK1000 := n4_; have HB := n5_; clear n0_ n1_ n2_ n3_ n4_ n5_; (try clear hb); (try clear hb2); (try clear hk); (try clear hi); (try clear ho0); obtain ⟨Ao89, co89, eo89⟩ := Kd.R_slice HO1023.out; subst eo89) | ((with_reducible refine gate_callee (f := 22) rfl ?_); refine goesL_ (some 64) rfl rfl Try.func22 (by kernel_rfl) rfl #[.slice Ao28 t1011.length co28, .slice Ao89 t1021.length co89] rfl (by (try simp only [List.map_toArray, List.map_cons, List.map_nil]); first | done | rfl | (simp only [List.length_drop, List.length_take]; rfl)) ?_; (with_reducible refine (Fv.calls kj17 _ _ t1011 _ _ t1021 false _ ?side1 ?side2 ?side3 ?side4 A40.out).mono ?_); (case side1 => repeat (first | exact (Kd.R_reads' HO_12.out).2.2 | (with_reducible refine Kd.C_alloc ?_ _) | (with_reducible refine Kd.C_drewN ?_ _) | (with_reducible refine Kd.C_drew ?_))); (case side2 => exact (Kd.R_reads' HO_12.out).2.1); (case side3 => repeat (first | exact (Kd.R_reads' HO1023.out).2.2 | (with_reducible refine Kd.C_alloc ?_ _) | (with_reducible refine Kd.C_drewN ?_ _) | (with_reducible refine Kd.C_drew ?_))); (case side4 => exact (Kd.R_reads' HO1023.out).2.1); rintro e w' ⟨rfl, ⟨nd, rfl⟩⟩; refine ⟨_, rfl, ?_⟩))
        go_ret
        exact ⟨by first | rfl | (simp [errW_none, errW_some] <;> rfl) | (simp [*, errW_none, errW_some] <;> rfl), by repeat (first | (with_reducible first | exact HB.out | apply below_alloc | apply pw_below_drewN | apply below_drew1 | refine below_set ?_ GE1000.out) | exact HB.out)⟩

end Go.Proofs.Ytajhahafgnefcaa.R
