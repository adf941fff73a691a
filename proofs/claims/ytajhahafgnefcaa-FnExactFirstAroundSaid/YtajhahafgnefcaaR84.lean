import Derived.Test.YtajhahafgnefcaaUp
import Derived.Test.YtajhahafgnefcaaR0
import Derived.Test.YtajhahafgnefcaaR22
import Derived.Test.YtajhahafgnefcaaR39
import Derived.Test.YtajhahafgnefcaaR41
import Derived.Test.YtajhahafgnefcaaR44
import Derived.Test.YtajhahafgnefcaaR83
namespace Go.Proofs.Ytajhahafgnefcaa.R
open Go.RowKit Go.Proofs.YtajhahafgnefcaaW.PrintWords Go.Proofs.YtajhahafgnefcaaW.PrintLast Go.Proofs.YtajhahafgnefcaaW.PrintMore
set_option linter.unusedVariables false
set_option linter.unusedSimpArgs false

theorem k59_flat_ {e : Nat} {w : World} {base : Nat} {ok ok' : Nat → Prop} {v : Value} {xs : List S59} (h : Kd.R k59 e w base ok v xs) (hok : ∀ k, v.ownBlock = some k → ok' k) : Kd.R k59 e w base ok' v xs :=
  ⟨hok, h.2.imp_ (fun _ _ hp => by rw [k59_openM hp]; exact k59_mkM _ _ _ _)⟩
/-! ### Fd: function 45 -/
mutual
def Fd.l0 : Nat → List Int → Int → List (S59) → List (S59) → Int → Int → List Bool → Option ((List (S59)) × Bool)
 | 0, _, _, _, _, _, _, _ => none
 | k + 1, x11, x12, x13, x14, x971000, x971001, x971002 => if 0 ≤ x12 then (if x12 < (x11.length : Int) then (if (rd x11 x12) > 0 then ((Fe.f k x971000 x971001 x971002 x12).bind fun t980 => (Fd.l1 k x11 x12 x13 x14 t980 (t980.length : Int) 0 x971000 x971001 x971002)) else (some (x13, true))) else (none)) else (none)
def Fd.l1 : Nat → List Int → Int → List (S59) → List (S59) → List Int → Int → Int → Int → Int → List Bool → Option ((List (S59)) × Bool)
 | 0, _, _, _, _, _, _, _, _, _, _ => none
 | k + 1, x11, x12, x13, x14, x50, x51, x52, x971000, x971001, x971002 => if x52 < x51 then (if 0 ≤ x52 then (if x52 < (x50.length : Int) then (if 0 ≤ (rd x50 x52) then (if (rd x50 x52) < (x11.length : Int) then (if (rd x11 (rd x50 x52)) ≥ 0 then (if 0 ≤ x12 then (if x12 < (x11.length : Int) then (if (rd x11 (rd x50 x52)) < (rd x11 x12) then (if x52 < (x14.length : Int) then (if x13.length < 8796093022208 then (Fd.l0 k x11 (rd x50 x52) (x13 ++ [(⟨(rd_T59 x14 x52).f0, (rd_T59 x14 x52).f1⟩ : S59)]) x14 x971000 x971001 x971002) else (none)) else (none)) else (Fd.l1 k x11 x12 x13 x14 x50 x51 (wrap64 (x52 + 1)) x971000 x971001 x971002)) else (none)) else (none)) else (Fd.l1 k x11 x12 x13 x14 x50 x51 (wrap64 (x52 + 1)) x971000 x971001 x971002)) else (none)) else (none)) else (none)) else (none)) else (Fd.l0 k x11 x12 x13 x14 x971000 x971001 x971002)
end
def Fd.f (k : Nat) (a0_0 : Int) (a0_1 : Int) (l1 : List ByteArray) (a2 : ByteArray) (a3 : ByteArray) : Option ((List (S59)) × Bool) := (Ft.f k a0_0 a0_1 l1 (([a2, a3] : List ByteArray))).bind fun t961 => (if t961 = true then ((FR.f k a0_0 a0_1 l1 a3).bind fun bt962 => ((Fk.f k a0_0 a0_1 a2).bind fun t971 => ((FD.f k a0_0).bind fun t975 => (if 0 ≤ t971 then (if t971 < (bt962.2.2.2.length : Int) then (if (rd bt962.2.2.2 t971) < 0 then (some (([] : List (S59)), false)) else (Fd.l0 k bt962.2.2.2 t971 (([] : List (S59))) t975 bt962.1 bt962.2.1 bt962.2.2.1)) else (none)) else (none))))) else (some (([] : List (S59)), false)))
theorem Fd.mono_l : ∀ k, (∀ y0 y1 y2 y3 y4 y5 y6, LeO (Fd.l0 k y0 y1 y2 y3 y4 y5 y6) (Fd.l0 (k + 1) y0 y1 y2 y3 y4 y5 y6)) ∧ (∀ y0 y1 y2 y3 y4 y5 y6 y7 y8 y9, LeO (Fd.l1 k y0 y1 y2 y3 y4 y5 y6 y7 y8 y9) (Fd.l1 (k + 1) y0 y1 y2 y3 y4 y5 y6 y7 y8 y9))
 | 0 => ⟨fun _ _ _ _ _ _ _ r h => by simp [Fd.l0] at h, fun _ _ _ _ _ _ _ _ _ _ r h => by simp [Fd.l1] at h⟩
 | k + 1 => by
  obtain ⟨ih0, ih1⟩ := Fd.mono_l k
  refine ⟨?_, ?_⟩
  ·intro y0 y1 y2 y3 y4 y5 y6
   unfold Fd.l0
   repeat' (with_reducible first | exact ih0 _ _ _ _ _ _ _ | exact ih1 _ _ _ _ _ _ _ _ _ _ | exact Fk.mono _ _ _ _ | exact Ft.mono _ _ _ _ _ | exact FR.mono _ _ _ _ _ | exact Fe.mono _ _ _ _ _ | exact FD.mono _ _ | exact LeO.refl _ | exact LeO.none _ | refine LeO.ite ?_ ?_ | refine LeO.bind ?_ (fun _ => ?_))
  ·intro y0 y1 y2 y3 y4 y5 y6 y7 y8 y9
   unfold Fd.l1
   repeat' (with_reducible first | exact ih0 _ _ _ _ _ _ _ | exact ih1 _ _ _ _ _ _ _ _ _ _ | exact Fk.mono _ _ _ _ | exact Ft.mono _ _ _ _ _ | exact FR.mono _ _ _ _ _ | exact Fe.mono _ _ _ _ _ | exact FD.mono _ _ | exact LeO.refl _ | exact LeO.none _ | refine LeO.ite ?_ ?_ | refine LeO.bind ?_ (fun _ => ?_))
theorem Fd.mono : ∀ a0 a1 a2 a3 a4 k, LeO (Fd.f k a0 a1 a2 a3 a4) (Fd.f (k + 1) a0 a1 a2 a3 a4) := by
 intro a0 a1 a2 a3 a4 k
 obtain ⟨ih0, ih1⟩ := Fd.mono_l k
 unfold Fd.f
 repeat' (with_reducible first | exact ih0 _ _ _ _ _ _ _ | exact ih1 _ _ _ _ _ _ _ _ _ _ | exact Fk.mono _ _ _ _ | exact Ft.mono _ _ _ _ _ | exact FR.mono _ _ _ _ _ | exact Fe.mono _ _ _ _ _ | exact FD.mono _ _ | exact LeO.refl _ | exact LeO.none _ | refine LeO.ite ?_ ?_ | refine LeO.bind ?_ (fun _ => ?_))
def Fd.T4 : Bool × List (List Nat × List Nat) := (true, [([], []), ([], []), ([0, 1], [0, 1]), ([], []), ([], []), ([4], [4]), ([5, 2], [5]), ([2, 6, 0, 1, 2], [2]), ([3, 7, 0, 1, 2, 3, 7], [3]), ([6, 8, 0, 1, 2, 3, 4, 5, 6, 7, 8], [6])])
def Fd.B4 : List Nat := [0, 0, 3, 0, 0, 16, 55, 119, 255, 511]
theorem Fd.tab4 : rtab .any (opsOf Try.f45 4) = Fd.T4 := by kernel_rfl
theorem Fd.bits4 : waitsOk Fd.T4.2 Fd.B4 = true := by kernel_rfl
def Fd.T11 : Bool × List (List Nat × List Nat) := (true, [([], []), ([], []), ([0, 1], [0, 1]), ([2], [2]), ([3], [3]), ([4], [4]), ([5], [5]), ([5], [5]), ([6, 7, 5], [5, 6, 7]), ([8, 5], [5, 8]), ([5], [5]), ([5], [5]), ([10, 11, 5], [5, 10, 11]), ([12, 5], [5, 12]), ([9, 13, 5], [5, 9, 13]), ([5, 14], [5, 14])])
def Fd.B11 : List Nat := [0, 0, 3, 7, 15, 31, 63, 63, 255, 511, 63, 63, 3135, 7231, 16383, 32767]
theorem Fd.tab11 : rtab .any (opsOf Try.f45 11) = Fd.T11 := by kernel_rfl
theorem Fd.bits11 : waitsOk Fd.T11.2 Fd.B11 = true := by kernel_rfl
set_option maxHeartbeats 8000000 in
set_option maxRecDepth 100000 in
theorem Fd.calls (k : Nat) (a0_0 : Int) (a0_1 : Int) (A1 : Option Addr) (c1 : Nat) (l1 : List ByteArray) (a2 : ByteArray) (a3 : ByteArray) (r1 : List (S59)) (r2 : Bool) (w : World) (hr1 : Kd.C Kd.string w A1 l1.length l1) (hc1 : l1.length ≤ c1) (h : Fd.f k a0_0 a0_1 l1 a2 a3 = some (r1, r2)) :
  Calls Try.prog 45 #[.agg #[.int .i64 a0_0, .int .i64 a0_1], .slice A1 l1.length c1, .string a2, .string a3] w fun e w' => ∃ v0_ : Value, e = .returned (.tuple #[v0_, .bool r2]) ∧ Kd.R k59 59 w' w.heap.size (fun _ => True) v0_ r1 ∧ Below w.heap.size w w' := by
 have hu30 := Try.underlying30
 have hu70 := Try.underlying70
 have hu59 := Try.underlying59
 have HR1 := Aside0.mk hr1
 have HC1 := Aside0.mk hc1
 clear hr1 hc1; have HB := Aside0.mk (Below.refl w.heap.size w)
 have H : ((Ft.f k a0_0 a0_1 l1 (([a2, a3] : List ByteArray))).bind fun t961 => (if t961 = true then ((FR.f k a0_0 a0_1 l1 a3).bind fun bt962 => ((Fk.f k a0_0 a0_1 a2).bind fun t971 => ((FD.f k a0_0).bind fun t975 => (if 0 ≤ t971 then (if t971 < (bt962.2.2.2.length : Int) then (if (rd bt962.2.2.2 t971) < 0 then (some (([] : List (S59)), false)) else (Fd.l0 k bt962.2.2.2 t971 (([] : List (S59))) t975 bt962.1 bt962.2.1 bt962.2.2.1)) else (none)) else (none))))) else (some (([] : List (S59)), false)))) = some (r1, r2) := h
 clear h; obtain ⟨y958, hy958⟩ : ∃ y_ : List ByteArray, y_ = (([a2, a3] : List ByteArray)) := ⟨_, rfl⟩
 replace H : ((Ft.f k a0_0 a0_1 l1 y958).bind fun t961 => (if t961 = true then ((FR.f k a0_0 a0_1 l1 a3).bind fun bt962 => ((Fk.f k a0_0 a0_1 a2).bind fun t971 => ((FD.f k a0_0).bind fun t975 => (if 0 ≤ t971 then (if t971 < (bt962.2.2.2.length : Int) then (if (rd bt962.2.2.2 t971) < 0 then (some (([] : List (S59)), false)) else (Fd.l0 k bt962.2.2.2 t971 (([] : List (S59))) t975 bt962.1 bt962.2.1 bt962.2.2.1)) else (none)) else (none))))) else (some (([] : List (S59)), false)))) = some (r1, r2) := by first | (rw [hy958]; with_reducible exact H) | (have H2_ := (Option.bind_some _ _).symm.trans H; rw [hy958]; with_reducible exact H2_) | (have H2_ := (Option.bind_some _ _).symm.trans H; with_reducible exact H2_) | with_reducible exact H | (rw [hy958]; exact H) | exact H
 have Ny958 := Aside0.mk hy958
 clear hy958; replace H := Option.bind_eq_some_iff.mp H
 obtain ⟨t961, A50, H⟩ := H
 replace H : (if t961 = true then ((FR.f k a0_0 a0_1 l1 a3).bind fun bt962 => ((Fk.f k a0_0 a0_1 a2).bind fun t971 => ((FD.f k a0_0).bind fun t975 => (if 0 ≤ t971 then (if t971 < (bt962.2.2.2.length : Int) then (if (rd bt962.2.2.2 t971) < 0 then (some (([] : List (S59)), false)) else (Fd.l0 k bt962.2.2.2 t971 (([] : List (S59))) t975 bt962.1 bt962.2.1 bt962.2.2.1)) else (none)) else (none))))) else (some (([] : List (S59)), false))) = some (r1, r2) := H
 have A5 := Aside0.mk A50
 clear A50; by_cases c6 : t961 = true
 ·subst c6
  have H1 : ((FR.f k a0_0 a0_1 l1 a3).bind fun bt962 => ((Fk.f k a0_0 a0_1 a2).bind fun t971 => ((FD.f k a0_0).bind fun t975 => (if 0 ≤ t971 then (if t971 < (bt962.2.2.2.length : Int) then (if (rd bt962.2.2.2 t971) < 0 then (some (([] : List (S59)), false)) else (Fd.l0 k bt962.2.2.2 t971 (([] : List (S59))) t975 bt962.1 bt962.2.1 bt962.2.2.1)) else (none)) else (none))))) = some (r1, r2) := by rw [if_pos rfl] at H; exact H
  clear H; have H := H1
  clear H1; replace H := Option.bind_eq_some_iff.mp H
  obtain ⟨⟨t962, t963, t964, t967⟩, A70, H⟩ := H
  replace H : ((Fk.f k a0_0 a0_1 a2).bind fun t971 => ((FD.f k a0_0).bind fun t975 => (if 0 ≤ t971 then (if t971 < (t967.length : Int) then (if (rd t967 t971) < 0 then (some (([] : List (S59)), false)) else (Fd.l0 k t967 t971 (([] : List (S59))) t975 t962 t963 t964)) else (none)) else (none)))) = some (r1, r2) := H
  have A7 := Aside0.mk A70
  clear A70; replace H := Option.bind_eq_some_iff.mp H
  obtain ⟨t971, A80, H⟩ := H
  replace H : ((FD.f k a0_0).bind fun t975 => (if 0 ≤ t971 then (if t971 < (t967.length : Int) then (if (rd t967 t971) < 0 then (some (([] : List (S59)), false)) else (Fd.l0 k t967 t971 (([] : List (S59))) t975 t962 t963 t964)) else (none)) else (none))) = some (r1, r2) := H
  have A8 := Aside0.mk A80
  clear A80; obtain ⟨y972, hy972⟩ : ∃ y_ : List (S59), y_ = (([] : List (S59))) := ⟨_, rfl⟩
  replace H : ((FD.f k a0_0).bind fun t975 => (if 0 ≤ t971 then (if t971 < (t967.length : Int) then (if (rd t967 t971) < 0 then (some (([] : List (S59)), false)) else (Fd.l0 k t967 t971 y972 t975 t962 t963 t964)) else (none)) else (none))) = some (r1, r2) := by first | (rw [hy972]; with_reducible exact H) | (have H2_ := (Option.bind_some _ _).symm.trans H; rw [hy972]; with_reducible exact H2_) | (have H2_ := (Option.bind_some _ _).symm.trans H; with_reducible exact H2_) | with_reducible exact H | (rw [hy972]; exact H) | exact H
  have Ny972 := Aside0.mk hy972
  clear hy972; replace H := Option.bind_eq_some_iff.mp H
  obtain ⟨t975, A90, H⟩ := H
  replace H : (if 0 ≤ t971 then (if t971 < (t967.length : Int) then (if (rd t967 t971) < 0 then (some (([] : List (S59)), false)) else (Fd.l0 k t967 t971 y972 t975 t962 t963 t964)) else (none)) else (none)) = some (r1, r2) := H
  have A9 := Aside0.mk A90
  clear A90; by_cases c10 : 0 ≤ t971
  ·rw [if_pos c10] at H
   have c10b0 : decide (0 ≤ t971) = true := decide_eq_true c10
   clear c10; by_cases c11 : t971 < (t967.length : Int)
   ·rw [if_pos c11] at H
    have c11b0 : decide (t971 < (t967.length : Int)) = true := decide_eq_true c11
    clear c11; have H' := Aside0.mk H
    clear H; go_enter Try.func45, Try.ntmps45
    try go_wp2_with (first | ((with_reducible refine gate_dst (N := 4) rfl ?_); refine box_event ?hg (N := 4) ?hd (cs := #[.int .i64 a0_0, .int .i64 a0_1]) (t := 30) ?hr ?_; (case hd => rfl); (case hg => rfl); (case hr => first | (go_simp; done) | (go_simp; rfl)); intro gb957 hg w33 hbox hb; have n0_ := Aside0.mk (below_step (upB_ HB.out) hb); have n1_ := Aside0.mk (hbox); have n2_ := Aside0.mk ((by rw [hg]; exact (below_size (upB_ HB.out)) : w.heap.size ≤ gb957)); have n3_ := Aside0.mk ((by rw [hg]; exact (below_size (upB_ HB.out)) : w.heap.size ≤ gb957)); clear HB; have HB := n0_; have BK957 := n1_; have GW957 := n2_; have GE957 := n3_; clear n0_ n1_ n2_ n3_; clear hb hbox hg; have hcz34_0 : w33.cell? ⟨gb957, 0, none⟩ = some (.int .i64 a0_0) := (blk_cell BK957.out 0).trans rfl; have hcz34_1 : w33.cell? ⟨gb957, 1, none⟩ = some (.int .i64 a0_1) := (blk_cell BK957.out 1).trans rfl; have hfz34_0 := blk_frozen BK957.out 0; have hfz34_1 := blk_frozen BK957.out 1) | ((with_reducible refine gate_dst (N := 21) rfl ?_); refine Kd.R_lit Kd.string _ 9 ?hg (N := 21) ?hd (xs := ([a2, a3] : List ByteArray)) (inner := [.string a2, .string a3]) (ok := fun _ => True) (okp := fun _ => True) ?hr ?hp (fun _ hk => hk) trivial (Below.refl _ _) (Nat.le_refl _) (by simp) ?_; (case hd => rfl); (case hg => rfl); (case hr => first | (go_simp; done) | (go_simp; rfl)); (case hp => exact (Reps.one (show Kd.M Kd.string _ _ _ a2 [.string a2] from rfl) (Reps.one (show Kd.M Kd.string _ _ _ a3 [.string a3] from rfl) (Reps.none _ _)))); intro v959 w35 ho36 hb hg_ hnew_; clear hg_ hnew_; (first | rw [← Ny958.out] at ho36 | (simp only [Int.reduceToNat] at ho36; rw [← Ny958.out] at ho36)); have n0_ := Aside0.mk (Kd.R_lower ho36 (below_size (upB_ HB.out))); have n1_ := Aside0.mk (blk_below (g := gb957) (o := .cells #[.int .i64 a0_0, .int .i64 a0_1] 30 (0, 0)) (upK_ BK957.out) hb); have n2_ := Aside0.mk (below_step (upB_ HB.out) hb); clear BK957; clear HB; have HO960 := n0_; have BK957 := n1_; have HB := n2_; clear n0_ n1_ n2_; clear hb ho36; obtain ⟨Ao37, co37, eo37⟩ := Kd.R_slice HO960.out; subst eo37) | ((with_reducible refine gate_callee (f := 53) rfl ?_); refine goesL_ (some 22) rfl rfl Try.func53 (by kernel_rfl) rfl #[.agg #[.int .i64 a0_0, .int .i64 a0_1], .slice A1 l1.length c1, .slice Ao37 y958.length co37] rfl (by (try simp only [List.map_toArray, List.map_cons, List.map_nil]); first | done | rfl | (simp only [List.length_drop, List.length_take]; rfl)) ?_; (with_reducible refine (Ft.calls k a0_0 a0_1 _ _ l1 _ _ y958 true _ ?side1 ?side2 ?side3 ?side4 A5.out).mono ?_); (case side1 => repeat (first | exact (Kd.C_below HR1.out HB.out) | (with_reducible refine Kd.C_alloc ?_ _) | (with_reducible refine Kd.C_drewN ?_ _) | (with_reducible refine Kd.C_drew ?_))); (case side2 => exact HC1.out); (case side3 => repeat (first | exact (Kd.R_reads' HO960.out).2.2 | (with_reducible refine Kd.C_alloc ?_ _) | (with_reducible refine Kd.C_drewN ?_ _) | (with_reducible refine Kd.C_drew ?_))); (case side4 => exact (Kd.R_reads' HO960.out).2.1); rintro e w38 ⟨rfl, hb⟩; refine ⟨_, rfl, ?_⟩; have n0_ := Aside0.mk (Kd.R_below (upR_ HO960.out) hb); have n1_ := Aside0.mk (blk_below (g := gb957) (o := .cells #[.int .i64 a0_0, .int .i64 a0_1] 30 (0, 0)) (upK_ BK957.out) hb); have n2_ := Aside0.mk (below_step (upB_ HB.out) hb); clear HO960; clear BK957; clear HB; have HO960 := n0_; have BK957 := n1_; have HB := n2_; clear n0_ n1_ n2_; (try clear hb); (try clear hb2); (try clear hk); (try clear hi); have hcz39_0 : w38.cell? ⟨gb957, 0, none⟩ = some (.int .i64 a0_0) := (blk_cell BK957.out 0).trans rfl; have hcz39_1 : w38.cell? ⟨gb957, 1, none⟩ = some (.int .i64 a0_1) := (blk_cell BK957.out 1).trans rfl; have hfz39_0 := blk_frozen BK957.out 0; have hfz39_1 := blk_frozen BK957.out 1) | ((with_reducible refine gate_callee (f := 60) rfl ?_); refine goesL_ (some 28) rfl rfl Try.func60 (by kernel_rfl) rfl #[.agg #[.int .i64 a0_0, .int .i64 a0_1], .slice A1 l1.length c1, .string a3] rfl (by (try simp only [List.map_toArray, List.map_cons, List.map_nil]); first | done | rfl | (simp only [List.length_drop, List.length_take]; rfl)) ?_; (with_reducible refine (FR.calls k a0_0 a0_1 _ _ l1 a3 t962 t963 t964 t967 _ ?side1 ?side2 A7.out).mono ?_); (case side1 => repeat (first | exact (Kd.C_below HR1.out HB.out) | (with_reducible refine Kd.C_alloc ?_ _) | (with_reducible refine Kd.C_drewN ?_ _) | (with_reducible refine Kd.C_drew ?_))); (case side2 => exact HC1.out); rintro e w40 ⟨v965, v968, rfl, ho0, ho1, hb⟩; refine ⟨_, rfl, ?_⟩; have n0_ := Aside0.mk (Kd.R_below (upR_ HO960.out) hb); have n1_ := Aside0.mk (Kd.R_lower ho0 (below_size (upB_ HB.out))); have n2_ := Aside0.mk (Kd.R_lower ho1 (below_size (upB_ HB.out))); have n3_ := Aside0.mk (blk_below (g := gb957) (o := .cells #[.int .i64 a0_0, .int .i64 a0_1] 30 (0, 0)) (upK_ BK957.out) hb); have n4_ := Aside0.mk (below_step (upB_ HB.out) hb); clear HO960; clear BK957; clear HB; have HO960 := n0_; have HO966 := n1_; have HO969 := n2_; have BK957 := n3_; have HB := n4_; clear n0_ n1_ n2_ n3_ n4_; (try clear hb); (try clear hb2); (try clear hk); (try clear hi); (try clear ho0); (try clear ho1)) | ((with_reducible refine gate_dst (N := 10) rfl ?_); refine box_event ?hg (N := 10) ?hd (cs := #[.int .i64 0, .int .i64 0, .slice none 0 0]) (t := 70) ?hr ?_; (case hd => rfl); (case hg => rfl); (case hr => first | (go_simp; done) | (go_simp; rfl)); intro gb970 hg w41 hbox hb; have n0_ := Aside0.mk (Kd.R_below (upR_ HO960.out) hb); have n1_ := Aside0.mk (Kd.R_below (upR_ HO966.out) hb); have n2_ := Aside0.mk (Kd.R_below (upR_ HO969.out) hb); have n3_ := Aside0.mk (blk_below (g := gb957) (o := .cells #[.int .i64 a0_0, .int .i64 a0_1] 30 (0, 0)) (upK_ BK957.out) hb); have n4_ := Aside0.mk (below_step (upB_ HB.out) hb); have n5_ := Aside0.mk (hbox); have n6_ := Aside0.mk ((by rw [hg]; exact (below_size (upB_ HB.out)) : w.heap.size ≤ gb970)); have n7_ := Aside0.mk ((by rw [hg]; exact (below_size (upB_ HB.out)) : w.heap.size ≤ gb970)); have n8_ := Aside0.mk ((by rw [hg]; exact Nat.ne_of_lt (blk_lt (g := gb957) (o := .cells #[.int .i64 a0_0, .int .i64 a0_1] 30 (0, 0)) (upK_ BK957.out)) : gb957 ≠ gb970)); have n9_ := Aside0.mk ((by rw [hg]; exact Nat.ne_of_gt (blk_lt (g := gb957) (o := .cells #[.int .i64 a0_0, .int .i64 a0_1] 30 (0, 0)) (upK_ BK957.out)) : gb970 ≠ gb957)); clear HO960; clear HO966; clear HO969; clear BK957; clear HB; have HO960 := n0_; have HO966 := n1_; have HO969 := n2_; have BK957 := n3_; have HB := n4_; have BK970 := n5_; have GW970 := n6_; have GE970 := n7_; have NB957_970 := n8_; have NB970_957 := n9_; clear n0_ n1_ n2_ n3_ n4_ n5_ n6_ n7_ n8_ n9_; clear hb hbox hg; have hnb42 := NB970_957.out; have hnc42 := NB957_970.out; have hcz43_0 : w41.cell? ⟨gb970, 0, none⟩ = some (.int .i64 0) := (blk_cell BK970.out 0).trans rfl; have hcz43_1 : w41.cell? ⟨gb970, 1, none⟩ = some (.int .i64 0) := (blk_cell BK970.out 1).trans rfl; have hcz43_2 : w41.cell? ⟨gb970, 2, none⟩ = some (.slice none 0 0) := (blk_cell BK970.out 2).trans rfl; have hfz43_0 := blk_frozen BK970.out 0; have hfz43_1 := blk_frozen BK970.out 1; have hfz43_2 := blk_frozen BK970.out 2; obtain ⟨Ao44, co44, eo44⟩ := Kd.R_slice HO966.out; subst eo44))
    have n0_ : Aside0 (Kd.R Kd.string 9 (((w41.setCell ⟨gb970, 0, none⟩ (.int .i64 t962)).setCell ⟨gb970, 1, none⟩ (.int .i64 t963)).setCell ⟨gb970, 2, none⟩ (.slice Ao44 t964.length co44)) w.heap.size (fun _ => True) (.slice Ao37 y958.length co37) y958) := ⟨by (with_reducible repeat (first | apply Kd.R_alloc | apply Kd.R_drewN | apply Kd.R_drew)); exact Kd.R_mono (Kd.R_far (p := ⟨gb970, 2, none⟩) (Kd.R_far (p := ⟨gb970, 1, none⟩) (Kd.R_far (p := ⟨gb970, 0, none⟩) (Kd.R_types HO960.out BK970.out (by decide)) (fun _ hk => hk.2) (.int .i64 t962)) (fun _ hk => hk.2) (.int .i64 t963)) (fun _ hk => hk.2) (.slice Ao44 t964.length co44)) (fun _ hk => trivial)⟩
    have n1_ : Aside0 (Kd.R Kd.bool 4 (((w41.setCell ⟨gb970, 0, none⟩ (.int .i64 t962)).setCell ⟨gb970, 1, none⟩ (.int .i64 t963)).setCell ⟨gb970, 2, none⟩ (.slice Ao44 t964.length co44)) w.heap.size (fun _ => True) (.slice Ao44 t964.length co44) t964) := ⟨by (with_reducible repeat (first | apply Kd.R_alloc | apply Kd.R_drewN | apply Kd.R_drew)); exact Kd.R_mono (Kd.R_far (p := ⟨gb970, 2, none⟩) (Kd.R_far (p := ⟨gb970, 1, none⟩) (Kd.R_far (p := ⟨gb970, 0, none⟩) (Kd.R_types HO966.out BK970.out (by decide)) (fun _ hk => hk.2) (.int .i64 t962)) (fun _ hk => hk.2) (.int .i64 t963)) (fun _ hk => hk.2) (.slice Ao44 t964.length co44)) (fun _ hk => trivial)⟩
    have n2_ : Aside0 (Kd.R (Kd.int .i64) 3 (((w41.setCell ⟨gb970, 0, none⟩ (.int .i64 t962)).setCell ⟨gb970, 1, none⟩ (.int .i64 t963)).setCell ⟨gb970, 2, none⟩ (.slice Ao44 t964.length co44)) w.heap.size (fun _ => True) v968 t967) := ⟨by (with_reducible repeat (first | apply Kd.R_alloc | apply Kd.R_drewN | apply Kd.R_drew)); exact Kd.R_mono (Kd.R_far (p := ⟨gb970, 2, none⟩) (Kd.R_far (p := ⟨gb970, 1, none⟩) (Kd.R_far (p := ⟨gb970, 0, none⟩) (Kd.R_types HO969.out BK970.out (by decide)) (fun _ hk => hk.2) (.int .i64 t962)) (fun _ hk => hk.2) (.int .i64 t963)) (fun _ hk => hk.2) (.slice Ao44 t964.length co44)) (fun _ hk => trivial)⟩
    have n3_ : Aside0 ((((w41.setCell ⟨gb970, 0, none⟩ (.int .i64 t962)).setCell ⟨gb970, 1, none⟩ (.int .i64 t963)).setCell ⟨gb970, 2, none⟩ (.slice Ao44 t964.length co44)).heap[gb957]? = some (.cells #[.int .i64 a0_0, .int .i64 a0_1] 30 (0, 0))) := ⟨by (with_reducible repeat (first | refine blk_drewN ?_ _ | refine blk_drew ?_ | refine blk_alloc ?_ _)); refine blk_far ?_ NB957_970.out _; (with_reducible repeat (first | refine blk_drewN ?_ _ | refine blk_drew ?_ | refine blk_alloc ?_ _)); refine blk_far ?_ NB957_970.out _; (with_reducible repeat (first | refine blk_drewN ?_ _ | refine blk_drew ?_ | refine blk_alloc ?_ _)); refine blk_far ?_ NB957_970.out _; (with_reducible repeat (first | refine blk_drewN ?_ _ | refine blk_drew ?_ | refine blk_alloc ?_ _)); exact BK957.out⟩
    have n4_ : Aside0 ((((w41.setCell ⟨gb970, 0, none⟩ (.int .i64 t962)).setCell ⟨gb970, 1, none⟩ (.int .i64 t963)).setCell ⟨gb970, 2, none⟩ (.slice Ao44 t964.length co44)).heap[gb970]? = some (.cells #[.int .i64 t962, .int .i64 t963, .slice Ao44 t964.length co44] 70 (0, 0))) := ⟨by (with_reducible repeat (first | refine blk_drewN ?_ _ | refine blk_drew ?_ | refine blk_alloc ?_ _)); refine blk_put (cs := #[.int .i64 t962, .int .i64 t963, .slice none 0 0]) ?_ 2 _ rfl; (with_reducible repeat (first | refine blk_drewN ?_ _ | refine blk_drew ?_ | refine blk_alloc ?_ _)); refine blk_put (cs := #[.int .i64 t962, .int .i64 0, .slice none 0 0]) ?_ 1 _ rfl; (with_reducible repeat (first | refine blk_drewN ?_ _ | refine blk_drew ?_ | refine blk_alloc ?_ _)); refine blk_put (cs := #[.int .i64 0, .int .i64 0, .slice none 0 0]) ?_ 0 _ rfl; (with_reducible repeat (first | refine blk_drewN ?_ _ | refine blk_drew ?_ | refine blk_alloc ?_ _)); exact BK970.out⟩
    have n5_ : Aside0 (Below w.heap.size w (((w41.setCell ⟨gb970, 0, none⟩ (.int .i64 t962)).setCell ⟨gb970, 1, none⟩ (.int .i64 t963)).setCell ⟨gb970, 2, none⟩ (.slice Ao44 t964.length co44))) := ⟨by repeat (first | (with_reducible first | exact HB.out | apply below_alloc | apply pw_below_drewN | apply below_drew1 | refine below_set ?_ GE957.out | refine below_set ?_ GE970.out) | exact HB.out)⟩
    (try clear HO960); (try clear HO966); (try clear HO969); (try clear BK957); (try clear BK970); (try clear HB); generalize (((w41.setCell ⟨gb970, 0, none⟩ (.int .i64 t962)).setCell ⟨gb970, 1, none⟩ (.int .i64 t963)).setCell ⟨gb970, 2, none⟩ (.slice Ao44 t964.length co44)) = w45 at n0_ n1_ n2_ n3_ n4_ n5_ ⊢
    have HO960 := n0_; have HO966 := n1_; have HO969 := n2_; have BK957 := n3_; have BK970 := n4_; have HB := n5_; clear n0_ n1_ n2_ n3_ n4_ n5_; have n0_ := Aside0.mk (Kd.R_drew HO960.out)
    have n1_ := Aside0.mk (Kd.R_drew HO966.out)
    have n2_ := Aside0.mk (Kd.R_drew HO969.out)
    have n3_ := Aside0.mk (blk_drew BK957.out)
    have n4_ := Aside0.mk (blk_drew BK970.out)
    have n5_ := Aside0.mk (below_drew1 HB.out)
    clear HO960; clear HO966; clear HO969; clear BK957; clear BK970; clear HB; have HO960 := n0_; have HO966 := n1_; have HO969 := n2_; have BK957 := n3_; have BK970 := n4_; have HB := n5_; clear n0_ n1_ n2_ n3_ n4_ n5_; refine start_ (n := 10) (S := fun w' => True) (ds := []) #[false, false, false, false, false, false, false, false, false, false] (by kernel_rfl) rfl rfl trivial (fun hHeld => ?_); refine with_tabW Fd.tab4 Fd.bits4 (fun HT_ HW_ => ?_)
    generalize w45.drew = w46 at HO960 HO966 HO969 BK957 BK970 HB hHeld ⊢
    refine pure_ (i := 1) (N := some 32) (v := ?_) (a' := ?_) #[false, true, false, false, false, false, false, false, false, false] rfl rfl (any_of HT_.out (by kernel_rfl)) (fun _ _ _ h => h) (Or.inl ⟨by rfl, ?_⟩) ?_ ?_
    rotate_left; intro w'; go_simp; with_reducible rfl
    rotate_left; simp only [pu_]; rfl
    refine pure_ (i := 4) (N := some 35) (v := ?_) (a' := ?_) #[false, true, false, false, true, false, false, false, false, false] rfl rfl (any_of HT_.out (by kernel_rfl)) (fun _ _ _ h => h) (Or.inl ⟨by rfl, ?_⟩) ?_ ?_
    rotate_left; intro w'; go_simp; with_reducible rfl
    rotate_left; simp only [pu_]; rfl
    refine inv_at [0, 2, 3, 5, 6, 7, 8, 9] (fun a0_ b a w' => ∃ (v973 : Value) (v976 : Value) (m8_ : Value) (m9_ : Value), a = putSel a0_ b [(0, 31, .agg #[.int .i64 a0_0, .int .i64 a0_1]), (2, 33, .int .i64 t971), (3, 34, v973), (5, 36, .int .i64 a0_0), (6, 37, v976), (7, 12, .int .i64 t971), (8, 13, m8_), (9, 14, m9_)] ∧ (Kd.R Kd.string 9 w' w.heap.size (fun _ => True) (.slice Ao37 y958.length co37) y958) ∧ (Kd.R Kd.bool 4 w' w.heap.size (fun _ => True) (.slice Ao44 t964.length co44) t964) ∧ (Kd.R (Kd.int .i64) 3 w' w.heap.size (fun _ => True) v968 t967) ∧ (w'.heap[gb957]? = some (.cells #[.int .i64 a0_0, .int .i64 a0_1] 30 (0, 0))) ∧ (w'.heap[gb970]? = some (.cells #[.int .i64 t962, .int .i64 t963, .slice Ao44 t964.length co44] 70 (0, 0))) ∧ (Below w.heap.size w w') ∧ (b 3 = true → Kd.R k59 59 w' w.heap.size (fun _ => True) v973 y972) ∧ (b 6 = true → Kd.R k59 59 w' w.heap.size (fun _ => True) v976 t975) ∧ (b 3 = true → b 6 = true → ∀ k_, (v973 : Value).ownBlock = some k_ → (v976 : Value).ownBlock ≠ some k_) ∧ (b 8 = true → (m8_ : Value) = v973) ∧ (b 9 = true → (m9_ : Value) = v976)) HT_.out HW_.out (by kernel_rfl) (by kernel_rfl) ?_ ?_ ?_
    ·exact ⟨.bool false, .bool false, .bool false, .bool false, by simp only [putSel, Bool.false_eq_true, if_false], HO960.out, HO966.out, HO969.out, BK957.out, BK970.out, HB.out, fun h_ => absurd h_ (by decide), fun h_ => absurd h_ (by decide), fun h_ => absurd h_ (by decide), fun h_ => absurd h_ (by decide), fun h_ => absurd h_ (by decide)⟩
    ·skip
     clear BK957 BK970 HB HO960 HO966 HO969; refine steps_cons ?_ ?_
     ·rintro b a w' ⟨v973, v976, m8_, m9_, ha, Q_HO960, Q_HO966, Q_HO969, Q_BK957, Q_BK970, Q_HB, Q_HO974, Q_HO977, Q_D, Q_X8_, Q_X9_⟩ hb_ hon hoff
      refine ⟨_, rfl, fun K hK => ?_⟩
      have e4 : a.tmps[4]? = some (.pointer (some ⟨gb957, 0, none⟩)) := by rw [ha]; exact (putSel_off rfl).trans rfl
      replace ha := Aside0.mk ha
      have HO960 := Aside0.mk Q_HO960
      have HO966 := Aside0.mk Q_HO966
      have HO969 := Aside0.mk Q_HO969
      have BK957 := Aside0.mk Q_BK957
      have BK970 := Aside0.mk Q_BK970
      have HB := Aside0.mk Q_HB
      have hc0_ : w'.cell? ⟨gb957, 0, none⟩ = some (.int .i64 a0_0) := (blk_cell BK957.out 0).trans rfl
      have hc1_ : w'.cell? ⟨gb957, 1, none⟩ = some (.int .i64 a0_1) := (blk_cell BK957.out 1).trans rfl
      refine value_ (w1 := w') (v := .agg #[.int .i64 a0_0, .int .i64 a0_1]) (by rfl) rfl ?_ ?_
      ·go_simp
       (try simp only [i64_w])
       try rfl
      refine hK.out _ _ ⟨v973, v976, m8_, m9_, (by rw [ha.out]; exact putSel_upk 0 hb_ rfl rfl rfl), Q_HO960, Q_HO966, Q_HO969, Q_BK957, Q_BK970, Q_HB, Q_HO974, fun h0_ => absurd ((hoff 6 (by kernel_rfl)).symm.trans h0_) (by decide), Q_D, fun h0_ => absurd ((hoff 8 (by kernel_rfl)).symm.trans h0_) (by decide), fun h0_ => absurd ((hoff 9 (by kernel_rfl)).symm.trans h0_) (by decide)⟩
     refine steps_cons ?_ ?_
     ·rintro b a w' ⟨v973, v976, m8_, m9_, ha, Q_HO960, Q_HO966, Q_HO969, Q_BK957, Q_BK970, Q_HB, Q_HO974, Q_HO977, Q_D, Q_X8_, Q_X9_⟩ hb_ hon hoff
      refine ⟨_, rfl, fun K hK => ?_⟩
      have e31 : a.tmps[31]? = some (.agg #[.int .i64 a0_0, .int .i64 a0_1]) := by rw [ha]; exact putSel_on (e := (0, 31, .agg #[.int .i64 a0_0, .int .i64 a0_1])) 0 rfl rfl (hon 0 (by kernel_rfl)) rfl
      have e32 : a.tmps[32]? = some (.string a2) := by rw [ha]; exact (putSel_off rfl).trans rfl
      replace ha := Aside0.mk ha
      have HO960 := Aside0.mk Q_HO960
      have HO966 := Aside0.mk Q_HO966
      have HO969 := Aside0.mk Q_HO969
      have BK957 := Aside0.mk Q_BK957
      have BK970 := Aside0.mk Q_BK970
      have HB := Aside0.mk Q_HB
      refine goes_ Try.func61 (by kernel_rfl) rfl #[.agg #[.int .i64 a0_0, .int .i64 a0_1], .string a2] (by rfl) rfl rfl (by first | (simp only [List.map_toArray, List.map_cons, List.map_nil, Act.eval, Array.getD_eq_getD_getElem?, Option.getD_some, e31, e32]; done) | (simp only [List.map_toArray, List.map_cons, List.map_nil, Act.eval, Array.getD_eq_getD_getElem?, Option.getD_some, e31, e32]; rfl)) ?_
      with_reducible refine (Fk.calls k a0_0 a0_1 a2 t971 _ A8.out).mono ?_
      rintro e w47 ⟨rfl, hb⟩
      refine ⟨_, rfl, ?_⟩
      have n0_ := Aside0.mk (Kd.R_below (upR_ HO960.out) hb)
      have n1_ := Aside0.mk (Kd.R_below (upR_ HO966.out) hb)
      have n2_ := Aside0.mk (Kd.R_below (upR_ HO969.out) hb)
      have n3_ := Aside0.mk (blk_below (g := gb957) (o := .cells #[.int .i64 a0_0, .int .i64 a0_1] 30 (0, 0)) (upK_ BK957.out) hb)
      have n4_ := Aside0.mk (blk_below (g := gb970) (o := .cells #[.int .i64 t962, .int .i64 t963, .slice Ao44 t964.length co44] 70 (0, 0)) (upK_ BK970.out) hb)
      have n5_ := Aside0.mk (below_step (upB_ HB.out) hb)
      have z_HO974 := fun (h0_ : b 3 = true) => (show Kd.R k59 59 w47 w.heap.size (fun _ => True) v973 y972 from by first | exact (Kd.R_below (by (with_reducible repeat (first | apply Kd.R_alloc | apply Kd.R_drewN | apply Kd.R_drew)); exact (Q_HO974 h0_)) hb) | exact Kd.R_mono (Kd.R_below (by (with_reducible repeat (first | apply Kd.R_alloc | apply Kd.R_drewN | apply Kd.R_drew)); exact (Q_HO974 h0_)) hb) (fun _ h_ => by first | trivial | exact h_ | exact h_.1))
      clear HO960; clear HO966; clear HO969; clear BK957; clear BK970; clear HB; have HO960 := n0_; have HO966 := n1_; have HO969 := n2_; have BK957 := n3_; have BK970 := n4_; have HB := n5_; clear n0_ n1_ n2_ n3_ n4_ n5_; (try clear hb); (try clear hb2); (try clear hk); (try clear hi); refine hK.out _ _ ⟨v973, v976, m8_, m9_, (by rw [ha.out]; exact putSel_upk 1 hb_ rfl rfl rfl), (upR_ HO960.out), (upR_ HO966.out), (upR_ HO969.out), (upK_ BK957.out), (upK_ BK970.out), (upB_ HB.out), z_HO974, fun h0_ => absurd ((hoff 6 (by kernel_rfl)).symm.trans h0_) (by decide), Q_D, fun h0_ => absurd ((hoff 8 (by kernel_rfl)).symm.trans h0_) (by decide), fun h0_ => absurd ((hoff 9 (by kernel_rfl)).symm.trans h0_) (by decide)⟩
     refine steps_cons ?_ ?_
     ·rintro b a w' ⟨v973, v976, m8_, m9_, ha, Q_HO960, Q_HO966, Q_HO969, Q_BK957, Q_BK970, Q_HB, Q_HO974, Q_HO977, Q_D, Q_X8_, Q_X9_⟩ hb_ hon hoff
      refine ⟨_, rfl, fun K hK => ?_⟩
      replace ha := Aside0.mk ha
      have HO960 := Aside0.mk Q_HO960
      have HO966 := Aside0.mk Q_HO966
      have HO969 := Aside0.mk Q_HO969
      have BK957 := Aside0.mk Q_BK957
      have BK970 := Aside0.mk Q_BK970
      have HB := Aside0.mk Q_HB
      refine Kd.R_lit_step k59 _ 59 ?hg (N := 34) ?hd (xs := ([] : List (S59))) (inner := []) (ok := fun _ => True) (okp := fun _ => True) ?hr ?hp (fun _ hk => hk) trivial (Below.refl _ _) (Nat.le_refl _) (by simp) ?_; (case hd => rfl); (case hg => rfl); (case hr => first | (go_simp; done) | (go_simp; rfl)); (case hp => exact (Reps.none _ _))
      intro v973 w47 ho48 hb hg_ hnew_
      clear hg_ hnew_; (first | rw [← Ny972.out] at ho48 | (simp only [Int.reduceToNat] at ho48; rw [← Ny972.out] at ho48))
      have n0_ := Aside0.mk (Kd.R_below (upR_ HO960.out) hb)
      have n1_ := Aside0.mk (Kd.R_below (upR_ HO966.out) hb)
      have n2_ := Aside0.mk (Kd.R_below (upR_ HO969.out) hb)
      have n3_ := Aside0.mk (Kd.R_lower ho48 (below_size (upB_ HB.out)))
      have n4_ := Aside0.mk (blk_below (g := gb957) (o := .cells #[.int .i64 a0_0, .int .i64 a0_1] 30 (0, 0)) (upK_ BK957.out) hb)
      have n5_ := Aside0.mk (blk_below (g := gb970) (o := .cells #[.int .i64 t962, .int .i64 t963, .slice Ao44 t964.length co44] 70 (0, 0)) (upK_ BK970.out) hb)
      have n6_ := Aside0.mk (below_step (upB_ HB.out) hb)
      have z_D : b 6 = true → ∀ k_, (v973 : Value).ownBlock = some k_ → (v976 : Value).ownBlock ≠ some k_ := fun h6_ k_ hk_ he_ => absurd (Kd.R_lt (Q_HO977 h6_) k_ he_) (Nat.not_lt.2 (Kd.R_base ho48 k_ hk_))
      have z_HO977 := fun (h0_ : b 6 = true) => (show Kd.R k59 59 w47 w.heap.size (fun _ => True) v976 t975 from by first | exact (Kd.R_elder' (by (with_reducible repeat (first | apply Kd.R_alloc | apply Kd.R_drewN | apply Kd.R_drew)); exact (Q_HO977 h0_)) (Kd.R_base ho48) hb) | exact Kd.R_mono (Kd.R_elder' (by (with_reducible repeat (first | apply Kd.R_alloc | apply Kd.R_drewN | apply Kd.R_drew)); exact (Q_HO977 h0_)) (Kd.R_base ho48) hb) (fun _ h_ => by first | trivial | exact h_ | exact h_.1))
      clear HO960; clear HO966; clear HO969; clear BK957; clear BK970; clear HB; have HO960 := n0_; have HO966 := n1_; have HO969 := n2_; have HO974 := n3_; have BK957 := n4_; have BK970 := n5_; have HB := n6_; clear n0_ n1_ n2_ n3_ n4_ n5_ n6_; clear hb ho48; refine hK.out _ _ ⟨v973, v976, m8_, m9_, (by rw [ha.out]; exact putSel_upk 2 hb_ rfl rfl rfl), (upR_ HO960.out), (upR_ HO966.out), (upR_ HO969.out), (upK_ BK957.out), (upK_ BK970.out), (upB_ HB.out), fun _ => (upR_ HO974.out), z_HO977, fun _ => z_D, fun h0_ => absurd ((hoff 8 (by kernel_rfl)).symm.trans h0_) (by decide), fun h0_ => absurd ((hoff 9 (by kernel_rfl)).symm.trans h0_) (by decide)⟩
     refine steps_cons ?_ ?_
     ·rintro b a w' ⟨v973, v976, m8_, m9_, ha, Q_HO960, Q_HO966, Q_HO969, Q_BK957, Q_BK970, Q_HB, Q_HO974, Q_HO977, Q_D, Q_X8_, Q_X9_⟩ hb_ hon hoff
      refine ⟨_, rfl, fun K hK => ?_⟩
      have e35 : a.tmps[35]? = some (.pointer (some ⟨gb957, 0, none⟩)) := by rw [ha]; exact (putSel_off rfl).trans rfl
      replace ha := Aside0.mk ha
      have HO960 := Aside0.mk Q_HO960
      have HO966 := Aside0.mk Q_HO966
      have HO969 := Aside0.mk Q_HO969
      have BK957 := Aside0.mk Q_BK957
      have BK970 := Aside0.mk Q_BK970
      have HB := Aside0.mk Q_HB
      have hc0_ : w'.cell? ⟨gb957, 0, none⟩ = some (.int .i64 a0_0) := (blk_cell BK957.out 0).trans rfl
      have hc1_ : w'.cell? ⟨gb957, 1, none⟩ = some (.int .i64 a0_1) := (blk_cell BK957.out 1).trans rfl
      refine value_ (w1 := w') (v := .int .i64 a0_0) (by rfl) rfl ?_ ?_
      ·go_simp
       (try simp only [i64_w])
       try rfl
      refine hK.out _ _ ⟨v973, v976, m8_, m9_, (by rw [ha.out]; exact putSel_upk 3 hb_ rfl rfl rfl), Q_HO960, Q_HO966, Q_HO969, Q_BK957, Q_BK970, Q_HB, Q_HO974, fun h0_ => absurd ((hoff 6 (by kernel_rfl)).symm.trans h0_) (by decide), Q_D, fun h0_ => absurd ((hoff 8 (by kernel_rfl)).symm.trans h0_) (by decide), fun h0_ => absurd ((hoff 9 (by kernel_rfl)).symm.trans h0_) (by decide)⟩
     refine steps_cons ?_ ?_
     ·rintro b a w' ⟨v973, v976, m8_, m9_, ha, Q_HO960, Q_HO966, Q_HO969, Q_BK957, Q_BK970, Q_HB, Q_HO974, Q_HO977, Q_D, Q_X8_, Q_X9_⟩ hb_ hon hoff
      refine ⟨_, rfl, fun K hK => ?_⟩
      have e36 : a.tmps[36]? = some (.int .i64 a0_0) := by rw [ha]; exact putSel_on (e := (5, 36, .int .i64 a0_0)) 3 rfl rfl (hon 5 (by kernel_rfl)) rfl
      replace ha := Aside0.mk ha
      have HO960 := Aside0.mk Q_HO960
      have HO966 := Aside0.mk Q_HO966
      have HO969 := Aside0.mk Q_HO969
      have BK957 := Aside0.mk Q_BK957
      have BK970 := Aside0.mk Q_BK970
      have HB := Aside0.mk Q_HB
      refine goes_ Try.func84 (by kernel_rfl) rfl #[.int .i64 a0_0] (by rfl) rfl rfl (by first | (simp only [List.map_toArray, List.map_cons, List.map_nil, Act.eval, Array.getD_eq_getD_getElem?, Option.getD_some, e36]; done) | (simp only [List.map_toArray, List.map_cons, List.map_nil, Act.eval, Array.getD_eq_getD_getElem?, Option.getD_some, e36]; rfl)) ?_
      with_reducible refine (FD.calls k a0_0 t975 _ A9.out).mono ?_
      rintro e w49 ⟨v976, rfl, ho0, hb⟩
      refine ⟨_, rfl, ?_⟩
      have n0_ := Aside0.mk (Kd.R_below (upR_ HO960.out) hb)
      have n1_ := Aside0.mk (Kd.R_below (upR_ HO966.out) hb)
      have n2_ := Aside0.mk (Kd.R_below (upR_ HO969.out) hb)
      have n3_ := Aside0.mk (Kd.R_lower ho0 (below_size (upB_ HB.out)))
      have n4_ := Aside0.mk (blk_below (g := gb957) (o := .cells #[.int .i64 a0_0, .int .i64 a0_1] 30 (0, 0)) (upK_ BK957.out) hb)
      have n5_ := Aside0.mk (blk_below (g := gb970) (o := .cells #[.int .i64 t962, .int .i64 t963, .slice Ao44 t964.length co44] 70 (0, 0)) (upK_ BK970.out) hb)
      have n6_ := Aside0.mk (below_step (upB_ HB.out) hb)
      have z_D : b 3 = true → ∀ k_, (v973 : Value).ownBlock = some k_ → (v976 : Value).ownBlock ≠ some k_ := fun h3_ k_ hk_ he_ => absurd (Kd.R_lt (Q_HO974 h3_) k_ hk_) (Nat.not_lt.2 (Kd.R_base ho0 k_ he_))
      have z_HO974 := fun (h0_ : b 3 = true) => (show Kd.R k59 59 w49 w.heap.size (fun _ => True) v973 y972 from by first | exact (Kd.R_elder' (by (with_reducible repeat (first | apply Kd.R_alloc | apply Kd.R_drewN | apply Kd.R_drew)); exact (Q_HO974 h0_)) (Kd.R_base ho0) hb) | exact Kd.R_mono (Kd.R_elder' (by (with_reducible repeat (first | apply Kd.R_alloc | apply Kd.R_drewN | apply Kd.R_drew)); exact (Q_HO974 h0_)) (Kd.R_base ho0) hb) (fun _ h_ => by first | trivial | exact h_ | exact h_.1))
      clear HO960; clear HO966; clear HO969; clear BK957; clear BK970; clear HB; have HO960 := n0_; have HO966 := n1_; have HO969 := n2_; have HO977 := n3_; have BK957 := n4_; have BK970 := n5_; have HB := n6_; clear n0_ n1_ n2_ n3_ n4_ n5_ n6_; (try clear hb); (try clear hb2); (try clear hk); (try clear hi); (try clear ho0); refine hK.out _ _ ⟨v973, v976, m8_, m9_, (by rw [ha.out]; exact putSel_upk 4 hb_ rfl rfl rfl), (upR_ HO960.out), (upR_ HO966.out), (upR_ HO969.out), (upK_ BK957.out), (upK_ BK970.out), (upB_ HB.out), z_HO974, fun _ => (upR_ HO977.out), fun h3_ _ => z_D h3_, fun h0_ => absurd ((hoff 8 (by kernel_rfl)).symm.trans h0_) (by decide), fun h0_ => absurd ((hoff 9 (by kernel_rfl)).symm.trans h0_) (by decide)⟩
     refine steps_cons ?_ ?_
     ·rintro b a w' ⟨v973, v976, m8_, m9_, ha, Q_HO960, Q_HO966, Q_HO969, Q_BK957, Q_BK970, Q_HB, Q_HO974, Q_HO977, Q_D, Q_X8_, Q_X9_⟩ hb_ hon hoff
      refine ⟨_, rfl, fun K hK => ?_⟩
      have e33 : a.tmps[33]? = some (.int .i64 t971) := by rw [ha]; exact putSel_on (e := (2, 33, .int .i64 t971)) 1 rfl rfl (hon 2 (by kernel_rfl)) rfl
      replace ha := Aside0.mk ha
      have HO960 := Aside0.mk Q_HO960
      have HO966 := Aside0.mk Q_HO966
      have HO969 := Aside0.mk Q_HO969
      have BK957 := Aside0.mk Q_BK957
      have BK970 := Aside0.mk Q_BK970
      have HB := Aside0.mk Q_HB
      have HO977 := Aside0.mk (Q_HO977 (hon 6 (by kernel_rfl)))
      refine value_ (w1 := w') (v := .int .i64 t971) (by rfl) rfl ?_ ?_
      ·go_simp
       (try simp only [i64_w])
       try rfl
      refine hK.out _ _ ⟨v973, v976, m8_, m9_, (by rw [ha.out]; exact putSel_upk 5 hb_ rfl rfl rfl), Q_HO960, Q_HO966, Q_HO969, Q_BK957, Q_BK970, Q_HB, Q_HO974, Q_HO977, Q_D, fun h0_ => absurd ((hoff 8 (by kernel_rfl)).symm.trans h0_) (by decide), fun h0_ => absurd ((hoff 9 (by kernel_rfl)).symm.trans h0_) (by decide)⟩
     refine steps_cons ?_ ?_
     ·rintro b a w' ⟨v973, v976, m8_, m9_, ha, Q_HO960, Q_HO966, Q_HO969, Q_BK957, Q_BK970, Q_HB, Q_HO974, Q_HO977, Q_D, Q_X8_, Q_X9_⟩ hb_ hon hoff
      refine ⟨_, rfl, fun K hK => ?_⟩
      have e34 : a.tmps[34]? = some (v973) := by rw [ha]; exact putSel_on (e := (3, 34, v973)) 2 rfl rfl (hon 3 (by kernel_rfl)) rfl
      replace ha := Aside0.mk ha
      have HO960 := Aside0.mk Q_HO960
      have HO966 := Aside0.mk Q_HO966
      have HO969 := Aside0.mk Q_HO969
      have BK957 := Aside0.mk Q_BK957
      have BK970 := Aside0.mk Q_BK970
      have HB := Aside0.mk Q_HB
      have HO974 := Aside0.mk (Q_HO974 (hon 3 (by kernel_rfl)))
      have HO977 := Aside0.mk (Q_HO977 (hon 6 (by kernel_rfl)))
      refine value_ (w1 := w') (v := v973) (by rfl) rfl ?_ ?_
      ·go_simp
       (try simp only [i64_w])
       try rfl
      refine hK.out _ _ ⟨v973, v976, (v973), m9_, (by rw [ha.out]; exact putSel_upk 6 hb_ rfl rfl rfl), Q_HO960, Q_HO966, Q_HO969, Q_BK957, Q_BK970, Q_HB, Q_HO974, Q_HO977, Q_D, fun _ => rfl, fun h0_ => absurd ((hoff 9 (by kernel_rfl)).symm.trans h0_) (by decide)⟩
     refine steps_cons ?_ ?_
     ·rintro b a w' ⟨v973, v976, m8_, m9_, ha, Q_HO960, Q_HO966, Q_HO969, Q_BK957, Q_BK970, Q_HB, Q_HO974, Q_HO977, Q_D, Q_X8_, Q_X9_⟩ hb_ hon hoff
      refine ⟨_, rfl, fun K hK => ?_⟩
      have e37 : a.tmps[37]? = some (v976) := by rw [ha]; exact putSel_on (e := (6, 37, v976)) 4 rfl rfl (hon 6 (by kernel_rfl)) rfl
      replace ha := Aside0.mk ha
      have HO960 := Aside0.mk Q_HO960
      have HO966 := Aside0.mk Q_HO966
      have HO969 := Aside0.mk Q_HO969
      have BK957 := Aside0.mk Q_BK957
      have BK970 := Aside0.mk Q_BK970
      have HB := Aside0.mk Q_HB
      have HO974 := Aside0.mk (Q_HO974 (hon 3 (by kernel_rfl)))
      have HO977 := Aside0.mk (Q_HO977 (hon 6 (by kernel_rfl)))
      refine value_ (w1 := w') (v := v976) (by rfl) rfl ?_ ?_
      ·go_simp
       (try simp only [i64_w])
       try rfl
      refine hK.out _ _ ⟨v973, v976, m8_, (v976), (by rw [ha.out]; exact putSel_upk 7 hb_ rfl rfl rfl), Q_HO960, Q_HO966, Q_HO969, Q_BK957, Q_BK970, Q_HB, Q_HO974, Q_HO977, Q_D, Q_X8_, fun _ => rfl⟩
     exact steps_nil
    rintro b a w51 hall ⟨v973, v976, m8_, m9_, ha, Q_HO960, Q_HO966, Q_HO969, Q_BK957, Q_BK970, Q_HB, Q_HO974, Q_HO977, Q_D, Q_X8_, Q_X9_⟩
    clear BK957 BK970 HB HO960 HO966 HO969; have hb0_ := hall 0 (by kernel_rfl)
    have hb2_ := hall 2 (by kernel_rfl)
    have hb3_ := hall 3 (by kernel_rfl)
    have hb5_ := hall 5 (by kernel_rfl)
    have hb6_ := hall 6 (by kernel_rfl)
    have hb7_ := hall 7 (by kernel_rfl)
    have hb8_ := hall 8 (by kernel_rfl)
    have hb9_ := hall 9 (by kernel_rfl)
    subst ha
    obtain rfl := (Q_X8_ hb8_).symm
    obtain rfl := (Q_X9_ hb9_).symm
    simp only [putSel, hb0_, hb2_, hb3_, hb5_, hb6_, hb7_, hb8_, hb9_, if_true, Act.put, List.setIfInBounds_toArray, List.set_cons_zero, List.set_cons_succ]
    have HO960 := Aside0.mk Q_HO960
    clear Q_HO960; have HO966 := Aside0.mk Q_HO966
    clear Q_HO966; have HO969 := Aside0.mk Q_HO969
    clear Q_HO969; have BK957 := Aside0.mk Q_BK957
    clear Q_BK957; have BK970 := Aside0.mk Q_BK970
    clear Q_BK970; have HB := Aside0.mk Q_HB
    clear Q_HB; have HO974 := Aside0.mk (k59_flat_ (ok' := fun k_ => some k_ ≠ (v976 : Value).ownBlock) (Q_HO974 hb3_) (fun k_ hk_ he_ => Q_D hb3_ hb6_ k_ hk_ he_.symm))
    have HO977 := Aside0.mk (k59_flat_ (ok' := fun k_ => some k_ ≠ (v973 : Value).ownBlock) (Q_HO977 hb6_) (fun k_ hk_ he_ => Q_D hb3_ hb6_ k_ he_.symm hk_))
    clear Q_HO974; clear Q_D; clear Q_HO977; clear hall hb0_ hb2_ hb3_ hb5_ hb6_ hb7_ hb8_ hb9_; obtain ⟨Ao52, co52, eo52⟩ := Kd.R_slice HO969.out
    subst eo52
    have p978 : 0 ≤ (t971 : Int) := of_decide_eq_true (by first | (with_reducible assumption) | assumption)
    have q978 : t971 < (t967.length : Int) := of_decide_eq_true (by first | (with_reducible assumption) | assumption)
    obtain ⟨ad978, e978, hx978_0⟩ := Kd.at_int (Kd.R_reads' HO969.out).2.2 t971 p978 q978
    cases e978
    replace p978 := eq_true p978
    replace q978 := eq_true q978
    have H := H'.out
    clear H'; by_cases c12 : (rd t967 t971) < 0
    ·rw [if_pos c12] at H
     have c12b0 : decide ((rd t967 t971) < 0) = true := decide_eq_true c12
     clear c12; simp only [Option.some.injEq, Prod.mk.injEq] at H
     obtain ⟨rfl, rfl⟩ := H
     try go_wp2
     go_ret2
     exact ⟨_, by first | rfl | (simp [errW_none, errW_some] <;> rfl) | (simp [*, errW_none, errW_some] <;> rfl), by first | exact Kd.R_nil _ _ _ _ _ | exact Kd.N_nil _ _ _ _ _ | exact Kd.V_nil _ _ _ _ _ | exact Kd.Q_nil _ _ _ _ _ | exact Kd.S_nil _ _ _ _ _, by repeat (first | (with_reducible first | exact HB.out | apply below_alloc | apply pw_below_drewN | apply below_drew1 | refine below_set ?_ GE957.out | refine below_set ?_ GE970.out) | exact HB.out)⟩
    ·rw [if_neg c12] at H
     have c12b0 : decide ((rd t967 t971) < 0) = false := decide_eq_false c12
     clear c12; have H' := Aside0.mk H
     clear H
     try go_wp2
     go_loopg [12, 13] k (fun kq v12 v13 w' => ∃ (x12_1 : Int) (x13_1 : List (S59)), v12 = .int .i64 x12_1 ∧ Aside0 (Fd.l0 kq t967 x12_1 x13_1 t975 t962 t963 t964 = some (r1, r2)) ∧ Aside0 (kq ≤ k) ∧ Aside0 (Kd.R (Kd.int .i64) 3 w' w.heap.size (fun _ => True) (.slice (some ad978) t967.length co52) t967) ∧ Aside0 (Kd.R k59 59 w' w.heap.size (fun k_ => some k_ ≠ (v976 : Value).ownBlock) v13 x13_1) ∧ Aside0 (Kd.R k59 59 w' w.heap.size (fun k_ => some k_ ≠ (v13 : Value).ownBlock) v976 t975) ∧ Aside0 (Kd.R Kd.bool 4 w' w.heap.size (fun _ => True) (.slice Ao44 t964.length co44) t964) ∧ Aside0 (w'.heap[gb957]? = some (.cells #[.int .i64 a0_0, .int .i64 a0_1] 30 (0, 0))) ∧ Aside0 (w'.heap[gb970]? = some (.cells #[.int .i64 t962, .int .i64 t963, (.slice Ao44 t964.length co44)] 70 (0, 0))) ∧ Aside0 (Below w.heap.size w w'))
     case atStart => exact ⟨(t971), (y972), (by first | rfl | (simp; done) | (simp [*]; done)), H', ⟨Nat.le_refl _⟩, ⟨upR_ HO969.out⟩, ⟨upR_ HO974.out⟩, ⟨upR_ HO977.out⟩, ⟨upR_ HO966.out⟩, ⟨upK_ BK957.out⟩, ⟨upK_ BK970.out⟩, ⟨upB_ HB.out⟩⟩
     case round =>
      clear H'; try clear c1
      try clear p2
      try clear c4
      try clear c5
      try clear c6
      try clear c8
      try clear p9
      try clear q9
      try clear hx9
      try clear c12
      try clear c12b0
      try clear c42
      try clear c45
      try clear hcz34_0
      try clear hcz34_1
      try clear hcz39_0
      try clear hcz39_1
      try clear hcz43_0
      try clear hcz43_1
      try clear hcz43_2
      try clear hfz34_0
      try clear hfz34_1
      try clear hfz39_0
      try clear hfz39_1
      try clear hfz43_0
      try clear hfz43_1
      try clear hfz43_2
      try clear hx978_0
      try clear p978
      try clear q978
      obtain ⟨x12_1, x13_1, rfl, HA, HK1, HO_11, HO_13, HO_14, HO_971002, BK957, BK970, HB⟩ := hrel
      cases gk with
      | zero => exact absurd HA.out (by simp [Fd.l0])
      | succ k1 =>
       have H := HA.out
       clear HA; simp only [Fd.l0] at H
       by_cases c53 : 0 ≤ x12_1
       ·rw [if_pos c53] at H
        have c53b0 : decide (0 ≤ x12_1) = true := decide_eq_true c53
        clear c53; by_cases c54 : x12_1 < (t967.length : Int)
        ·rw [if_pos c54] at H
         have c54b0 : decide (x12_1 < (t967.length : Int)) = true := decide_eq_true c54
         clear c54; by_cases c55 : (rd t967 x12_1) > 0
         ·rw [if_pos c55] at H
          have c55b0 : decide (0 < (rd t967 x12_1)) = true := decide_eq_true c55
          clear c55; replace H := Option.bind_eq_some_iff.mp H
          obtain ⟨t980, A560, H⟩ := H
          replace H : (Fd.l1 k1 t967 x12_1 x13_1 t975 t980 (t980.length : Int) 0 t962 t963 t964) = some (r1, r2) := H
          have A56 := Aside0.mk A560
          clear A560; have H' := Aside0.mk H
          clear H; have p979 : 0 ≤ (x12_1 : Int) := of_decide_eq_true (by first | (with_reducible assumption) | assumption)
          have q979 : x12_1 < (t967.length : Int) := of_decide_eq_true (by first | (with_reducible assumption) | assumption)
          obtain ⟨ad979, e979, hx979_0⟩ := Kd.at_int (Kd.R_reads' HO_11.out).2.2 x12_1 p979 q979
          obtain rfl : ad978 = ad979 := (by injection e979)
          replace p979 := eq_true p979
          replace q979 := eq_true q979
          have hnb57 := NB970_957.out
          have hnc57 := NB957_970.out
          have hcz58_0 : wr.cell? ⟨gb970, 0, none⟩ = some (.int .i64 t962) := (blk_cell BK970.out 0).trans rfl
          have hcz58_1 : wr.cell? ⟨gb970, 1, none⟩ = some (.int .i64 t963) := (blk_cell BK970.out 1).trans rfl
          have hcz58_2 : wr.cell? ⟨gb970, 2, none⟩ = some (.slice Ao44 t964.length co44) := (blk_cell BK970.out 2).trans rfl
          have hfz58_0 := blk_frozen BK970.out 0
          have hfz58_1 := blk_frozen BK970.out 1
          have hfz58_2 := blk_frozen BK970.out 2
          go_wp2_with (first | ((with_reducible refine gate_callee (f := 72) rfl ?_); refine goesL_ (some 50) rfl rfl Try.func72 (by kernel_rfl) rfl #[.agg #[.int .i64 t962, .int .i64 t963, .slice Ao44 t964.length co44], .int .i64 x12_1] rfl (by (try simp only [List.map_toArray, List.map_cons, List.map_nil]); first | done | rfl | (simp only [List.length_drop, List.length_take]; rfl)) ?_; (with_reducible refine (Fe.calls k1 t962 t963 _ _ t964 x12_1 t980 _ ?side1 ?side2 A56.out).mono ?_); (case side1 => repeat (first | exact (Kd.R_reads' HO_971002.out).2.2 | (with_reducible refine Kd.C_alloc ?_ _) | (with_reducible refine Kd.C_drewN ?_ _) | (with_reducible refine Kd.C_drew ?_))); (case side2 => exact (Kd.R_reads' HO_971002.out).2.1); rintro e w59 ⟨v981, rfl, ho0, hb⟩; refine ⟨_, rfl, ?_⟩; have n0_ := Aside0.mk (Kd.R_elder' (upR_ HO_11.out) (Kd.R_base ho0) hb); have n1_ := Aside0.mk (Kd.R_below (upR_ HO_13.out) hb); have n2_ := Aside0.mk (Kd.R_below (upR_ HO_14.out) hb); have n3_ := Aside0.mk (Kd.R_below (upR_ HO_971002.out) hb); have n4_ := Aside0.mk (Kd.R_lower (Kd.R_new' ho0 (Kd.R_lt (upR_ HO_11.out))) (below_size (upB_ HB.out))); have n5_ := Aside0.mk (blk_below (g := gb957) (o := .cells #[.int .i64 a0_0, .int .i64 a0_1] 30 (0, 0)) (upK_ BK957.out) hb); have n6_ := Aside0.mk (blk_below (g := gb970) (o := .cells #[.int .i64 t962, .int .i64 t963, .slice Ao44 t964.length co44] 70 (0, 0)) (upK_ BK970.out) hb); have n7_ := Aside0.mk (below_step (upB_ HB.out) hb); clear HO_11; clear HO_13; clear HO_14; clear HO_971002; clear BK957; clear BK970; clear HB; have HO_11 := n0_; have HO_13 := n1_; have HO_14 := n2_; have HO_971002 := n3_; have HO982 := n4_; have BK957 := n5_; have BK970 := n6_; have HB := n7_; clear n0_ n1_ n2_ n3_ n4_ n5_ n6_ n7_; (try clear hb); (try clear hb2); (try clear hk); (try clear hi); (try clear ho0); obtain ⟨Ao60, co60, eo60⟩ := Kd.R_slice HO982.out; subst eo60))
          go_loopg [12, 13, 52] k1 (fun kq v12 v13 v52 w' => ∃ (x12_2 : Int) (x13_2 : List (S59)) (x52_2 : Int), v12 = .int .i64 x12_2 ∧ v52 = .int .i64 x52_2 ∧ Aside0 (Fd.l1 kq t967 x12_2 x13_2 t975 t980 (t980.length : Int) x52_2 t962 t963 t964 = some (r1, r2)) ∧ Aside0 (kq ≤ k1) ∧ Aside0 (Kd.R (Kd.int .i64) 3 w' w.heap.size (fun k_ => some k_ ≠ ((.slice Ao60 t980.length co60) : Value).ownBlock) (.slice (some ad978) t967.length co52) t967) ∧ Aside0 (Kd.R k59 59 w' w.heap.size (fun k_ => some k_ ≠ (v976 : Value).ownBlock) v13 x13_2) ∧ Aside0 (Kd.R k59 59 w' w.heap.size (fun k_ => some k_ ≠ (v13 : Value).ownBlock) v976 t975) ∧ Aside0 (Kd.R (Kd.int .i64) 3 w' w.heap.size (fun k_ => some k_ ≠ ((.slice (some ad978) t967.length co52) : Value).ownBlock) (.slice Ao60 t980.length co60) t980) ∧ Aside0 (Kd.R Kd.bool 4 w' w.heap.size (fun _ => True) (.slice Ao44 t964.length co44) t964) ∧ Aside0 (w'.heap[gb957]? = some (.cells #[.int .i64 a0_0, .int .i64 a0_1] 30 (0, 0))) ∧ Aside0 (w'.heap[gb970]? = some (.cells #[.int .i64 t962, .int .i64 t963, (.slice Ao44 t964.length co44)] 70 (0, 0))) ∧ Aside0 (Below w.heap.size w w'))
          case atStart => exact ⟨(x12_1), (x13_1), (0), (by first | rfl | (simp; done) | (simp [*]; done)), (by first | rfl | (simp; done) | (simp [*]; done)), H', ⟨Nat.le_refl _⟩, ⟨by (with_reducible repeat (first | apply Kd.R_alloc | apply Kd.R_drewN | apply Kd.R_drew)); exact Kd.R_mono HO_11.out (fun _ hk => hk.2)⟩, ⟨upR_ HO_13.out⟩, ⟨upR_ HO_14.out⟩, ⟨by (with_reducible repeat (first | apply Kd.R_alloc | apply Kd.R_drewN | apply Kd.R_drew)); exact Kd.R_mono HO982.out (fun _ hk => hk.2)⟩, ⟨upR_ HO_971002.out⟩, ⟨upK_ BK957.out⟩, ⟨upK_ BK970.out⟩, ⟨upB_ HB.out⟩⟩
          case round =>
           clear H'; try clear c1
           try clear p2
           try clear c4
           try clear c5
           try clear c6
           try clear c7
           try clear c8
           try clear p9
           try clear q9
           try clear hx9
           try clear c12
           try clear c12b0
           try clear c42
           try clear c45
           try clear c53
           try clear c53b0
           try clear c54
           try clear c54b0
           try clear c55
           try clear c55b0
           try clear c57
           try clear c60
           try clear hcz34_0
           try clear hcz34_1
           try clear hcz39_0
           try clear hcz39_1
           try clear hcz43_0
           try clear hcz43_1
           try clear hcz43_2
           try clear hcz58_0
           try clear hcz58_1
           try clear hcz58_2
           try clear hfz34_0
           try clear hfz34_1
           try clear hfz39_0
           try clear hfz39_1
           try clear hfz43_0
           try clear hfz43_1
           try clear hfz43_2
           try clear hfz58_0
           try clear hfz58_1
           try clear hfz58_2
           try clear hx978_0
           try clear hx979_0
           try clear p2
           try clear p9
           try clear p978
           try clear p979
           try clear q9
           try clear q978
           try clear q979
           obtain ⟨x12_2, x13_2, x52_2, rfl, rfl, HA, HK2, HO_11, HO_13, HO_14, HO_50, HO_971002, BK957, BK970, HB⟩ := hrel
           cases gk with
           | zero => exact absurd HA.out (by simp [Fd.l1])
           | succ k2 =>
            have H := HA.out
            clear HA; simp only [Fd.l1] at H
            by_cases c61 : x52_2 < (t980.length : Int)
            ·rw [if_pos c61] at H
             have c61b0 : decide (x52_2 < (t980.length : Int)) = true := decide_eq_true c61
             clear c61; by_cases c62 : 0 ≤ x52_2
             ·rw [if_pos c62] at H
              have c62b0 : decide (0 ≤ x52_2) = true := decide_eq_true c62
              clear c62; by_cases c63 : x52_2 < (t980.length : Int)
              ·rw [if_pos c63] at H
               have c63b0 : decide (x52_2 < (t980.length : Int)) = true := decide_eq_true c63
               clear c63; by_cases c64 : 0 ≤ (rd t980 x52_2)
               ·rw [if_pos c64] at H
                have c64b0 : decide (0 ≤ (rd t980 x52_2)) = true := decide_eq_true c64
                clear c64; by_cases c65 : (rd t980 x52_2) < (t967.length : Int)
                ·rw [if_pos c65] at H
                 have c65b0 : decide ((rd t980 x52_2) < (t967.length : Int)) = true := decide_eq_true c65
                 clear c65; by_cases c66 : (rd t967 (rd t980 x52_2)) ≥ 0
                 ·rw [if_pos c66] at H
                  have c66b0 : decide (0 ≤ (rd t967 (rd t980 x52_2))) = true := decide_eq_true c66
                  clear c66; by_cases c67 : 0 ≤ x12_2
                  ·rw [if_pos c67] at H
                   have c67b0 : decide (0 ≤ x12_2) = true := decide_eq_true c67
                   clear c67; by_cases c68 : x12_2 < (t967.length : Int)
                   ·rw [if_pos c68] at H
                    have c68b0 : decide (x12_2 < (t967.length : Int)) = true := decide_eq_true c68
                    clear c68; by_cases c69 : (rd t967 (rd t980 x52_2)) < (rd t967 x12_2)
                    ·rw [if_pos c69] at H
                     have c69b0 : decide ((rd t967 (rd t980 x52_2)) < (rd t967 x12_2)) = true := decide_eq_true c69
                     clear c69; by_cases c70 : x52_2 < (t975.length : Int)
                     ·rw [if_pos c70] at H
                      have c70b0 : decide (x52_2 < (t975.length : Int)) = true := decide_eq_true c70
                      clear c70; by_cases c71 : x13_2.length < 8796093022208
                      ·rw [if_pos c71] at H
                       have LMc71 := Aside0.mk c71
                       clear c71; obtain ⟨y988, hy988⟩ : ∃ y_ : List (S59), y_ = (x13_2 ++ [(⟨(rd_T59 t975 x52_2).f0, (rd_T59 t975 x52_2).f1⟩ : S59)]) := ⟨_, rfl⟩
                       replace H : (Fd.l0 k2 t967 (rd t980 x52_2) y988 t975 t962 t963 t964) = some (r1, r2) := by first | (rw [hy988]; with_reducible exact H) | (have H2_ := (Option.bind_some _ _).symm.trans H; rw [hy988]; with_reducible exact H2_) | (have H2_ := (Option.bind_some _ _).symm.trans H; with_reducible exact H2_) | with_reducible exact H | (rw [hy988]; exact H) | exact H
                       have Ny988 := Aside0.mk hy988
                       clear hy988; have H' := Aside0.mk H
                       clear H; have p983 : 0 ≤ (x52_2 : Int) := of_decide_eq_true (by first | (with_reducible assumption) | assumption)
                       have q983 : x52_2 < (t980.length : Int) := of_decide_eq_true (by first | (with_reducible assumption) | assumption)
                       obtain ⟨ad983, e983, hx983_0⟩ := Kd.at_int (Kd.R_reads' HO_50.out).2.2 x52_2 p983 q983
                       cases e983
                       replace p983 := eq_true p983
                       replace q983 := eq_true q983
                       try go_wp2
                       have n0_ := Aside0.mk (Kd.R_drew HO_11.out)
                       have n1_ := Aside0.mk (Kd.R_drew HO_13.out)
                       have n2_ := Aside0.mk (Kd.R_drew HO_14.out)
                       have n3_ := Aside0.mk (Kd.R_drew HO_50.out)
                       have n4_ := Aside0.mk (Kd.R_drew HO_971002.out)
                       have n5_ := Aside0.mk (blk_drew BK957.out)
                       have n6_ := Aside0.mk (blk_drew BK970.out)
                       have n7_ := Aside0.mk (below_drew1 HB.out)
                       clear HO_11; clear HO_13; clear HO_14; clear HO_50; clear HO_971002; clear BK957; clear BK970; clear HB; have HO_11 := n0_; have HO_13 := n1_; have HO_14 := n2_; have HO_50 := n3_; have HO_971002 := n4_; have BK957 := n5_; have BK970 := n6_; have HB := n7_; clear n0_ n1_ n2_ n3_ n4_ n5_ n6_ n7_; have p984 : 0 ≤ ((rd t980 x52_2) : Int) := of_decide_eq_true (by first | (with_reducible assumption) | assumption)
                       have q984 : (rd t980 x52_2) < (t967.length : Int) := of_decide_eq_true (by first | (with_reducible assumption) | assumption)
                       obtain ⟨ad984, e984, hx984_0⟩ := Kd.at_int (Kd.R_reads' HO_11.out).2.2 (rd t980 x52_2) p984 q984
                       obtain rfl : ad978 = ad984 := (by injection e984)
                       replace p984 := eq_true p984
                       replace q984 := eq_true q984
                       have p985 : 0 ≤ ((rd t980 x52_2) : Int) := of_decide_eq_true (by first | (with_reducible assumption) | assumption)
                       have q985 : (rd t980 x52_2) < (t967.length : Int) := of_decide_eq_true (by first | (with_reducible assumption) | assumption)
                       obtain ⟨ad985, e985, hx985_0⟩ := Kd.at_int (Kd.R_reads' HO_11.out).2.2 (rd t980 x52_2) p985 q985
                       obtain rfl : ad978 = ad985 := (by injection e985)
                       replace p985 := eq_true p985
                       replace q985 := eq_true q985
                       have p986 : 0 ≤ (x12_2 : Int) := of_decide_eq_true (by first | (with_reducible assumption) | assumption)
                       have q986 : x12_2 < (t967.length : Int) := of_decide_eq_true (by first | (with_reducible assumption) | assumption)
                       obtain ⟨ad986, e986, hx986_0⟩ := Kd.at_int (Kd.R_reads' HO_11.out).2.2 x12_2 p986 q986
                       obtain rfl : ad978 = ad986 := (by injection e986)
                       replace p986 := eq_true p986
                       replace q986 := eq_true q986
                       refine start_ (n := 16) (S := fun w' => w'.cell? (ad978.add ((rd t980 x52_2)).toNat) = some (.int .i64 (rd t967 (rd t980 x52_2))) ∧ w'.cell? (ad978.add ((rd t980 x52_2)).toNat) = some (.int .i64 (rd t967 (rd t980 x52_2))) ∧ w'.cell? (ad978.add (x12_2).toNat) = some (.int .i64 (rd t967 x12_2))) (ds := []) #[false, false, false, false, false, false, false, false, false, false, false, false, false, false, false, false] (by kernel_rfl) rfl rfl ⟨hx984_0, hx985_0, hx986_0⟩ (fun hHeld => ?_); refine with_tabW Fd.tab11 Fd.bits11 (fun HT_ HW_ => ?_)
                       generalize wr.drew = w72 at HO_11 HO_13 HO_14 HO_50 HO_971002 BK957 BK970 HB hx984_0 hx985_0 hx986_0 hHeld ⊢
                       refine pure_ (i := 0) (N := some 57) (v := ?_) (a' := ?_) #[true, false, false, false, false, false, false, false, false, false, false, false, false, false, false, false] rfl rfl (any_of HT_.out (by kernel_rfl)) (fun _ _ _ h => h) (Or.inl ⟨by rfl, ?_⟩) ?_ ?_
                       rotate_left; intro w'; go_simp; with_reducible rfl
                       rotate_left; simp only [pu_]; rfl
                       refine pure_ (i := 1) (N := some 58) (v := ?_) (a' := ?_) #[true, true, false, false, false, false, false, false, false, false, false, false, false, false, false, false] rfl rfl (any_of HT_.out (by kernel_rfl)) (fun _ _ _ h => h) (Or.inl ⟨by rfl, ?_⟩) ?_ ?_
                       rotate_left; intro w'; go_simp; with_reducible rfl
                       rotate_left; simp only [pu_]; rfl
                       refine pure_ (i := 2) (N := some 59) (v := ?_) (a' := ?_) #[true, true, true, false, false, false, false, false, false, false, false, false, false, false, false, false] rfl rfl (any_of HT_.out (by kernel_rfl)) (fun _ _ _ h => h) (Or.inl ⟨by rfl, ?_⟩) ?_ ?_
                       rotate_left; intro w'; go_simp; with_reducible rfl
                       rotate_left; simp only [pu_]; rfl
                       refine take_ (i := 3) (N := some 60) (v := ?_) (a' := ?_) #[true, true, true, true, false, false, false, false, false, false, false, false, false, false, false, false] rfl rfl (take_ofW HT_.out HW_.out (by kernel_rfl)) (fun _ _ _ h => h) (Or.inl ⟨by rfl, ?_⟩) hHeld ?_ ?_
                       rotate_left; rintro w' ⟨s0, s1, s2⟩; go_simp; with_reducible rfl
                       rotate_left; simp only [pu_]; rfl
                       refine pure_ (i := 4) (N := some 61) (v := ?_) (a' := ?_) #[true, true, true, true, true, false, false, false, false, false, false, false, false, false, false, false] rfl rfl (any_of HT_.out (by kernel_rfl)) (fun _ _ _ h => h) (Or.inl ⟨by rfl, ?_⟩) ?_ ?_
                       rotate_left; intro w'; go_simp; with_reducible rfl
                       rotate_left; simp only [pu_]; rfl
                       refine pure_ (i := 5) (N := some 62) (v := ?_) (a' := ?_) #[true, true, true, true, true, true, false, false, false, false, false, false, false, false, false, false] rfl rfl (any_of HT_.out (by kernel_rfl)) (fun _ _ _ h => h) (Or.inl ⟨by rfl, ?_⟩) ?_ ?_
                       rotate_left; intro w'; go_simp; with_reducible rfl
                       rotate_left; simp only [pu_]; rfl
                       refine pure_ (i := 6) (N := some 63) (v := ?_) (a' := ?_) #[true, true, true, true, true, true, true, false, false, false, false, false, false, false, false, false] rfl rfl (any_of HT_.out (by kernel_rfl)) (fun _ _ _ h => h) (Or.inl ⟨by rfl, ?_⟩) ?_ ?_
                       rotate_left; intro w'; go_simp; with_reducible rfl
                       rotate_left; simp only [pu_]; rfl
                       refine pure_ (i := 7) (N := some 64) (v := ?_) (a' := ?_) #[true, true, true, true, true, true, true, true, false, false, false, false, false, false, false, false] rfl rfl (any_of HT_.out (by kernel_rfl)) (fun _ _ _ h => h) (Or.inl ⟨by rfl, ?_⟩) ?_ ?_
                       rotate_left; intro w'; go_simp; with_reducible rfl
                       rotate_left; simp only [pu_]; rfl
                       refine pure_ (i := 8) (N := some 65) (v := ?_) (a' := ?_) #[true, true, true, true, true, true, true, true, true, false, false, false, false, false, false, false] rfl rfl (any_of HT_.out (by kernel_rfl)) (fun _ _ _ h => h) (Or.inl ⟨by rfl, ?_⟩) ?_ ?_
                       rotate_left; intro w'; go_simp; with_reducible rfl
                       rotate_left; simp only [pu_]; rfl
                       refine pure_ (i := 10) (N := some 67) (v := ?_) (a' := ?_) #[true, true, true, true, true, true, true, true, true, false, true, false, false, false, false, false] rfl rfl (any_of HT_.out (by kernel_rfl)) (fun _ _ _ h => h) (Or.inl ⟨by rfl, ?_⟩) ?_ ?_
                       rotate_left; intro w'; go_simp; with_reducible rfl
                       rotate_left; simp only [pu_]; rfl
                       refine pure_ (i := 11) (N := some 68) (v := ?_) (a' := ?_) #[true, true, true, true, true, true, true, true, true, false, true, true, false, false, false, false] rfl rfl (any_of HT_.out (by kernel_rfl)) (fun _ _ _ h => h) (Or.inl ⟨by rfl, ?_⟩) ?_ ?_
                       rotate_left; intro w'; go_simp; with_reducible rfl
                       rotate_left; simp only [pu_]; rfl
                       refine pure_ (i := 12) (N := some 69) (v := ?_) (a' := ?_) #[true, true, true, true, true, true, true, true, true, false, true, true, true, false, false, false] rfl rfl (any_of HT_.out (by kernel_rfl)) (fun _ _ _ h => h) (Or.inl ⟨by rfl, ?_⟩) ?_ ?_
                       rotate_left; intro w'; go_simp; with_reducible rfl
                       rotate_left; simp only [pu_]; rfl
                       refine take_ (i := 9) (N := some 66) (v := ?_) (a' := ?_) #[true, true, true, true, true, true, true, true, true, true, true, true, true, false, false, false] rfl rfl (take_ofW HT_.out HW_.out (by kernel_rfl)) (fun _ _ _ h => h) (Or.inl ⟨by rfl, ?_⟩) hHeld ?_ ?_
                       rotate_left; rintro w' ⟨s0, s1, s2⟩; go_simp; with_reducible rfl
                       rotate_left; simp only [pu_]; rfl
                       refine take_ (i := 13) (N := some 70) (v := ?_) (a' := ?_) #[true, true, true, true, true, true, true, true, true, true, true, true, true, true, false, false] rfl rfl (take_ofW HT_.out HW_.out (by kernel_rfl)) (fun _ _ _ h => h) (Or.inl ⟨by rfl, ?_⟩) hHeld ?_ ?_
                       rotate_left; rintro w' ⟨s0, s1, s2⟩; go_simp; with_reducible rfl
                       rotate_left; simp only [pu_]; rfl
                       refine pure_ (i := 14) (N := some 71) (v := ?_) (a' := ?_) #[true, true, true, true, true, true, true, true, true, true, true, true, true, true, true, false] rfl rfl (any_of HT_.out (by kernel_rfl)) (fun _ _ _ h => h) (Or.inl ⟨by rfl, ?_⟩) ?_ ?_
                       rotate_left; intro w'; go_simp; with_reducible rfl
                       rotate_left; simp only [pu_]; rfl
                       refine pure_ (i := 15) (N := some 72) (v := ?_) (a' := ?_) #[true, true, true, true, true, true, true, true, true, true, true, true, true, true, true, true] rfl rfl (any_of HT_.out (by kernel_rfl)) (fun _ _ _ h => h) (Or.inl ⟨by rfl, ?_⟩) ?_ ?_
                       rotate_left; intro w'; go_simp; with_reducible rfl
                       rotate_left; simp only [pu_]; rfl
                       refine done_ (done_of HT_.out (by kernel_rfl)) ?_
                       obtain ⟨Ao73, co73, eo73⟩ := Kd.R_slice HO_14.out
                       subst eo73
                       have p987 : 0 ≤ (x52_2 : Int) := of_decide_eq_true (by first | (with_reducible assumption) | assumption)
                       have q987 : x52_2 < (t975.length : Int) := of_decide_eq_true (by first | (with_reducible assumption) | assumption)
                       obtain ⟨ad987, e987, hx987_0, hx987_1⟩ := at_T59 (Kd.R_reads' HO_14.out).2.2 x52_2 p987 q987
                       cases e987
                       replace p987 := eq_true p987
                       replace q987 := eq_true q987
                       try go_wp2_with (first | ((with_reducible refine gate_builtin (b := .append) (xs := #[.tmp 73, .tmp 78]) rfl ?_); at_builtin; refine Kd.R_append k59 (w0 := w) w.heap.size rfl (.tmp 73) (.tmp 78) 33 59 (.agg #[(.int .i64 0), (.int .i64 0)]) 16 rfl Try.underlying33 info59 rfl (by decide) (by omega) u13 x13_2 (⟨(rd_T59 t975 x52_2).f0, (rd_T59 t975 x52_2).f1⟩ : S59) [.int .i64 ((rd_T59 t975 x52_2).f0), .int .i64 ((rd_T59 t975 x52_2).f1)] (fun k_ => some k_ ≠ (.slice (some ad987) t975.length co73 : Value).ownBlock) (fun _ => False) rfl rfl ?aP (fun _ hk => hk.elim) ?aF ?aO ?aB ?aS ?aL ?_; (case aP => exact k59_mkM _ _ _ (⟨(rd_T59 t975 x52_2).f0, (rd_T59 t975 x52_2).f1⟩ : S59)); (case aB => exact (upB_ HB.out)); (case aF => exact (fun k_ hk => Kd.fresh' (Kd.R_lt (upR_ HO_14.out)) k_ hk)); (case aO => exact (upR_ HO_13.out)); (case aS => exact (below_size (upB_ HB.out))); (case aL => have := LMc71.out; omega); intro v989 w74 ho hb hg hat; rw [← Ny988.out] at ho; have n0_ := Aside0.mk (Kd.R_over' (upR_ HO_11.out) (Kd.R_typed (upR_ HO_13.out)) (by decide) hg); have n1_ := Aside0.mk (Kd.R_after (ok := (fun _ => True)) (by (with_reducible repeat (first | apply Kd.R_alloc | apply Kd.R_drewN | apply Kd.R_drew)); exact Kd.R_mono HO_14.out (fun _ hk => ⟨trivial, hk⟩)) hg hat); have n2_ := Aside0.mk (Kd.R_over' (upR_ HO_50.out) (Kd.R_typed (upR_ HO_13.out)) (by decide) hg); have n3_ := Aside0.mk (Kd.R_over' (upR_ HO_971002.out) (Kd.R_typed (upR_ HO_13.out)) (by decide) hg); have n4_ := Aside0.mk (blk_grown (g := gb957) (o := .cells #[.int .i64 a0_0, .int .i64 a0_1] 30 (0, 0)) (upK_ BK957.out) hg (Kd.R_ne HO_13.out BK957.out (by decide))); have n5_ := Aside0.mk (blk_grown (g := gb970) (o := .cells #[.int .i64 t962, .int .i64 t963, .slice Ao44 t964.length co44] 70 (0, 0)) (upK_ BK970.out) hg (Kd.R_ne HO_13.out BK970.out (by decide))); have n6_ := Aside0.mk (hb); have n7_ := Aside0.mk (ho); clear HO_11; clear HO_14; clear HO_50; clear HO_971002; clear BK957; clear BK970; clear HB; clear HO_13; have HO_11 := n0_; have HO_14 := n1_; have HO_50 := n2_; have HO_971002 := n3_; have BK957 := n4_; have BK970 := n5_; have HB := n6_; have HO990 := n7_; clear n0_ n1_ n2_ n3_ n4_ n5_ n6_ n7_; clear ho hb hg hat))
                       go_roundg k2
                       case measure => have := HK1.out; have := HK2.out; omega
                       case rel => exact ⟨(rd t980 x52_2), (y988), (by first | rfl | (simp; done) | (simp [*]; done)), H', ⟨by have := HK1.out; have := HK2.out; omega⟩, ⟨by (with_reducible repeat (first | apply Kd.R_alloc | apply Kd.R_drewN | apply Kd.R_drew)); exact Kd.R_mono HO_11.out (fun _ hk => trivial)⟩, ⟨upR_ HO990.out⟩, ⟨by (with_reducible repeat (first | apply Kd.R_alloc | apply Kd.R_drewN | apply Kd.R_drew)); exact Kd.R_mono HO_14.out (fun _ hk => hk.2)⟩, ⟨upR_ HO_971002.out⟩, ⟨upK_ BK957.out⟩, ⟨upK_ BK970.out⟩, ⟨upB_ HB.out⟩⟩
                      ·rw [if_neg c71] at H
                       exact absurd H (by simp)
                     ·rw [if_neg c70] at H
                      exact absurd H (by simp)
                    ·rw [if_neg c69] at H
                     have c69b0 : decide ((rd t967 (rd t980 x52_2)) < (rd t967 x12_2)) = false := decide_eq_false c69
                     clear c69; have H' := Aside0.mk H
                     clear H; have p983 : 0 ≤ (x52_2 : Int) := of_decide_eq_true (by first | (with_reducible assumption) | assumption)
                     have q983 : x52_2 < (t980.length : Int) := of_decide_eq_true (by first | (with_reducible assumption) | assumption)
                     obtain ⟨ad983, e983, hx983_0⟩ := Kd.at_int (Kd.R_reads' HO_50.out).2.2 x52_2 p983 q983
                     cases e983
                     replace p983 := eq_true p983
                     replace q983 := eq_true q983
                     try go_wp2
                     have n0_ := Aside0.mk (Kd.R_drew HO_11.out)
                     have n1_ := Aside0.mk (Kd.R_drew HO_13.out)
                     have n2_ := Aside0.mk (Kd.R_drew HO_14.out)
                     have n3_ := Aside0.mk (Kd.R_drew HO_50.out)
                     have n4_ := Aside0.mk (Kd.R_drew HO_971002.out)
                     have n5_ := Aside0.mk (blk_drew BK957.out)
                     have n6_ := Aside0.mk (blk_drew BK970.out)
                     have n7_ := Aside0.mk (below_drew1 HB.out)
                     clear HO_11; clear HO_13; clear HO_14; clear HO_50; clear HO_971002; clear BK957; clear BK970; clear HB; have HO_11 := n0_; have HO_13 := n1_; have HO_14 := n2_; have HO_50 := n3_; have HO_971002 := n4_; have BK957 := n5_; have BK970 := n6_; have HB := n7_; clear n0_ n1_ n2_ n3_ n4_ n5_ n6_ n7_; have p984 : 0 ≤ ((rd t980 x52_2) : Int) := of_decide_eq_true (by first | (with_reducible assumption) | assumption)
                     have q984 : (rd t980 x52_2) < (t967.length : Int) := of_decide_eq_true (by first | (with_reducible assumption) | assumption)
                     obtain ⟨ad984, e984, hx984_0⟩ := Kd.at_int (Kd.R_reads' HO_11.out).2.2 (rd t980 x52_2) p984 q984
                     obtain rfl : ad978 = ad984 := (by injection e984)
                     replace p984 := eq_true p984
                     replace q984 := eq_true q984
                     have p985 : 0 ≤ ((rd t980 x52_2) : Int) := of_decide_eq_true (by first | (with_reducible assumption) | assumption)
                     have q985 : (rd t980 x52_2) < (t967.length : Int) := of_decide_eq_true (by first | (with_reducible assumption) | assumption)
                     obtain ⟨ad985, e985, hx985_0⟩ := Kd.at_int (Kd.R_reads' HO_11.out).2.2 (rd t980 x52_2) p985 q985
                     obtain rfl : ad978 = ad985 := (by injection e985)
                     replace p985 := eq_true p985
                     replace q985 := eq_true q985
                     have p986 : 0 ≤ (x12_2 : Int) := of_decide_eq_true (by first | (with_reducible assumption) | assumption)
                     have q986 : x12_2 < (t967.length : Int) := of_decide_eq_true (by first | (with_reducible assumption) | assumption)
                     obtain ⟨ad986, e986, hx986_0⟩ := Kd.at_int (Kd.R_reads' HO_11.out).2.2 x12_2 p986 q986
                     obtain rfl : ad978 = ad986 := (by injection e986)
                     replace p986 := eq_true p986
                     replace q986 := eq_true q986
                     refine start_ (n := 16) (S := fun w' => w'.cell? (ad978.add ((rd t980 x52_2)).toNat) = some (.int .i64 (rd t967 (rd t980 x52_2))) ∧ w'.cell? (ad978.add ((rd t980 x52_2)).toNat) = some (.int .i64 (rd t967 (rd t980 x52_2))) ∧ w'.cell? (ad978.add (x12_2).toNat) = some (.int .i64 (rd t967 x12_2))) (ds := []) #[false, false, false, false, false, false, false, false, false, false, false, false, false, false, false, false] (by kernel_rfl) rfl rfl ⟨hx984_0, hx985_0, hx986_0⟩ (fun hHeld => ?_); refine with_tabW Fd.tab11 Fd.bits11 (fun HT_ HW_ => ?_)
                     generalize wr.drew = w75 at HO_11 HO_13 HO_14 HO_50 HO_971002 BK957 BK970 HB hx984_0 hx985_0 hx986_0 hHeld ⊢
                     refine pure_ (i := 0) (N := some 57) (v := ?_) (a' := ?_) #[true, false, false, false, false, false, false, false, false, false, false, false, false, false, false, false] rfl rfl (any_of HT_.out (by kernel_rfl)) (fun _ _ _ h => h) (Or.inl ⟨by rfl, ?_⟩) ?_ ?_
                     rotate_left; intro w'; go_simp; with_reducible rfl
                     rotate_left; simp only [pu_]; rfl
                     refine pure_ (i := 1) (N := some 58) (v := ?_) (a' := ?_) #[true, true, false, false, false, false, false, false, false, false, false, false, false, false, false, false] rfl rfl (any_of HT_.out (by kernel_rfl)) (fun _ _ _ h => h) (Or.inl ⟨by rfl, ?_⟩) ?_ ?_
                     rotate_left; intro w'; go_simp; with_reducible rfl
                     rotate_left; simp only [pu_]; rfl
                     refine pure_ (i := 2) (N := some 59) (v := ?_) (a' := ?_) #[true, true, true, false, false, false, false, false, false, false, false, false, false, false, false, false] rfl rfl (any_of HT_.out (by kernel_rfl)) (fun _ _ _ h => h) (Or.inl ⟨by rfl, ?_⟩) ?_ ?_
                     rotate_left; intro w'; go_simp; with_reducible rfl
                     rotate_left; simp only [pu_]; rfl
                     refine take_ (i := 3) (N := some 60) (v := ?_) (a' := ?_) #[true, true, true, true, false, false, false, false, false, false, false, false, false, false, false, false] rfl rfl (take_ofW HT_.out HW_.out (by kernel_rfl)) (fun _ _ _ h => h) (Or.inl ⟨by rfl, ?_⟩) hHeld ?_ ?_
                     rotate_left; rintro w' ⟨s0, s1, s2⟩; go_simp; with_reducible rfl
                     rotate_left; simp only [pu_]; rfl
                     refine pure_ (i := 4) (N := some 61) (v := ?_) (a' := ?_) #[true, true, true, true, true, false, false, false, false, false, false, false, false, false, false, false] rfl rfl (any_of HT_.out (by kernel_rfl)) (fun _ _ _ h => h) (Or.inl ⟨by rfl, ?_⟩) ?_ ?_
                     rotate_left; intro w'; go_simp; with_reducible rfl
                     rotate_left; simp only [pu_]; rfl
                     refine pure_ (i := 5) (N := some 62) (v := ?_) (a' := ?_) #[true, true, true, true, true, true, false, false, false, false, false, false, false, false, false, false] rfl rfl (any_of HT_.out (by kernel_rfl)) (fun _ _ _ h => h) (Or.inl ⟨by rfl, ?_⟩) ?_ ?_
                     rotate_left; intro w'; go_simp; with_reducible rfl
                     rotate_left; simp only [pu_]; rfl
                     refine pure_ (i := 6) (N := some 63) (v := ?_) (a' := ?_) #[true, true, true, true, true, true, true, false, false, false, false, false, false, false, false, false] rfl rfl (any_of HT_.out (by kernel_rfl)) (fun _ _ _ h => h) (Or.inl ⟨by rfl, ?_⟩) ?_ ?_
                     rotate_left; intro w'; go_simp; with_reducible rfl
                     rotate_left; simp only [pu_]; rfl
                     refine pure_ (i := 7) (N := some 64) (v := ?_) (a' := ?_) #[true, true, true, true, true, true, true, true, false, false, false, false, false, false, false, false] rfl rfl (any_of HT_.out (by kernel_rfl)) (fun _ _ _ h => h) (Or.inl ⟨by rfl, ?_⟩) ?_ ?_
                     rotate_left; intro w'; go_simp; with_reducible rfl
                     rotate_left; simp only [pu_]; rfl
                     refine pure_ (i := 8) (N := some 65) (v := ?_) (a' := ?_) #[true, true, true, true, true, true, true, true, true, false, false, false, false, false, false, false] rfl rfl (any_of HT_.out (by kernel_rfl)) (fun _ _ _ h => h) (Or.inl ⟨by rfl, ?_⟩) ?_ ?_
                     rotate_left; intro w'; go_simp; with_reducible rfl
                     rotate_left; simp only [pu_]; rfl
                     refine pure_ (i := 10) (N := some 67) (v := ?_) (a' := ?_) #[true, true, true, true, true, true, true, true, true, false, true, false, false, false, false, false] rfl rfl (any_of HT_.out (by kernel_rfl)) (fun _ _ _ h => h) (Or.inl ⟨by rfl, ?_⟩) ?_ ?_
                     rotate_left; intro w'; go_simp; with_reducible rfl
                     rotate_left; simp only [pu_]; rfl
                     refine pure_ (i := 11) (N := some 68) (v := ?_) (a' := ?_) #[true, true, true, true, true, true, true, true, true, false, true, true, false, false, false, false] rfl rfl (any_of HT_.out (by kernel_rfl)) (fun _ _ _ h => h) (Or.inl ⟨by rfl, ?_⟩) ?_ ?_
                     rotate_left; intro w'; go_simp; with_reducible rfl
                     rotate_left; simp only [pu_]; rfl
                     refine pure_ (i := 12) (N := some 69) (v := ?_) (a' := ?_) #[true, true, true, true, true, true, true, true, true, false, true, true, true, false, false, false] rfl rfl (any_of HT_.out (by kernel_rfl)) (fun _ _ _ h => h) (Or.inl ⟨by rfl, ?_⟩) ?_ ?_
                     rotate_left; intro w'; go_simp; with_reducible rfl
                     rotate_left; simp only [pu_]; rfl
                     refine take_ (i := 9) (N := some 66) (v := ?_) (a' := ?_) #[true, true, true, true, true, true, true, true, true, true, true, true, true, false, false, false] rfl rfl (take_ofW HT_.out HW_.out (by kernel_rfl)) (fun _ _ _ h => h) (Or.inl ⟨by rfl, ?_⟩) hHeld ?_ ?_
                     rotate_left; rintro w' ⟨s0, s1, s2⟩; go_simp; with_reducible rfl
                     rotate_left; simp only [pu_]; rfl
                     refine take_ (i := 13) (N := some 70) (v := ?_) (a' := ?_) #[true, true, true, true, true, true, true, true, true, true, true, true, true, true, false, false] rfl rfl (take_ofW HT_.out HW_.out (by kernel_rfl)) (fun _ _ _ h => h) (Or.inl ⟨by rfl, ?_⟩) hHeld ?_ ?_
                     rotate_left; rintro w' ⟨s0, s1, s2⟩; go_simp; with_reducible rfl
                     rotate_left; simp only [pu_]; rfl
                     refine pure_ (i := 14) (N := some 71) (v := ?_) (a' := ?_) #[true, true, true, true, true, true, true, true, true, true, true, true, true, true, true, false] rfl rfl (any_of HT_.out (by kernel_rfl)) (fun _ _ _ h => h) (Or.inl ⟨by rfl, ?_⟩) ?_ ?_
                     rotate_left; intro w'; go_simp; with_reducible rfl
                     rotate_left; simp only [pu_]; rfl
                     refine pure_ (i := 15) (N := some 72) (v := ?_) (a' := ?_) #[true, true, true, true, true, true, true, true, true, true, true, true, true, true, true, true] rfl rfl (any_of HT_.out (by kernel_rfl)) (fun _ _ _ h => h) (Or.inl ⟨by rfl, ?_⟩) ?_ ?_
                     rotate_left; intro w'; go_simp; with_reducible rfl
                     rotate_left; simp only [pu_]; rfl
                     refine done_ (done_of HT_.out (by kernel_rfl)) ?_
                     try go_wp2
                     go_roundg k2
                     case measure => have := HK1.out; have := HK2.out; omega
                     case rel => exact ⟨(x12_2), (x13_2), (wrap64 (x52_2 + 1)), (by first | rfl | (simp; done) | (simp [*]; done)), (by first | rfl | (simp; done) | (simp [*]; done)), H', ⟨by have := HK1.out; have := HK2.out; omega⟩, ⟨upR_ HO_11.out⟩, ⟨upR_ HO_13.out⟩, ⟨upR_ HO_14.out⟩, ⟨upR_ HO_50.out⟩, ⟨upR_ HO_971002.out⟩, ⟨upK_ BK957.out⟩, ⟨upK_ BK970.out⟩, ⟨upB_ HB.out⟩⟩
                   ·rw [if_neg c68] at H
                    exact absurd H (by simp)
                  ·rw [if_neg c67] at H
                   exact absurd H (by simp)
                 ·rw [if_neg c66] at H
                  have c66b0 : decide (0 ≤ (rd t967 (rd t980 x52_2))) = false := decide_eq_false c66
                  clear c66; have H' := Aside0.mk H
                  clear H; have p983 : 0 ≤ (x52_2 : Int) := of_decide_eq_true (by first | (with_reducible assumption) | assumption)
                  have q983 : x52_2 < (t980.length : Int) := of_decide_eq_true (by first | (with_reducible assumption) | assumption)
                  obtain ⟨ad983, e983, hx983_0⟩ := Kd.at_int (Kd.R_reads' HO_50.out).2.2 x52_2 p983 q983
                  cases e983
                  replace p983 := eq_true p983
                  replace q983 := eq_true q983
                  try go_wp2
                  have n0_ := Aside0.mk (Kd.R_drew HO_11.out)
                  have n1_ := Aside0.mk (Kd.R_drew HO_13.out)
                  have n2_ := Aside0.mk (Kd.R_drew HO_14.out)
                  have n3_ := Aside0.mk (Kd.R_drew HO_50.out)
                  have n4_ := Aside0.mk (Kd.R_drew HO_971002.out)
                  have n5_ := Aside0.mk (blk_drew BK957.out)
                  have n6_ := Aside0.mk (blk_drew BK970.out)
                  have n7_ := Aside0.mk (below_drew1 HB.out)
                  clear HO_11; clear HO_13; clear HO_14; clear HO_50; clear HO_971002; clear BK957; clear BK970; clear HB; have HO_11 := n0_; have HO_13 := n1_; have HO_14 := n2_; have HO_50 := n3_; have HO_971002 := n4_; have BK957 := n5_; have BK970 := n6_; have HB := n7_; clear n0_ n1_ n2_ n3_ n4_ n5_ n6_ n7_; have p984 : 0 ≤ ((rd t980 x52_2) : Int) := of_decide_eq_true (by first | (with_reducible assumption) | assumption)
                  have q984 : (rd t980 x52_2) < (t967.length : Int) := of_decide_eq_true (by first | (with_reducible assumption) | assumption)
                  obtain ⟨ad984, e984, hx984_0⟩ := Kd.at_int (Kd.R_reads' HO_11.out).2.2 (rd t980 x52_2) p984 q984
                  obtain rfl : ad978 = ad984 := (by injection e984)
                  replace p984 := eq_true p984
                  replace q984 := eq_true q984
                  refine start_ (n := 16) (S := fun w' => w'.cell? (ad978.add ((rd t980 x52_2)).toNat) = some (.int .i64 (rd t967 (rd t980 x52_2)))) (ds := []) #[false, false, false, false, false, false, false, false, false, false, false, false, false, false, false, false] (by kernel_rfl) rfl rfl (hx984_0) (fun hHeld => ?_); refine with_tabW Fd.tab11 Fd.bits11 (fun HT_ HW_ => ?_)
                  generalize wr.drew = w76 at HO_11 HO_13 HO_14 HO_50 HO_971002 BK957 BK970 HB hx984_0 hHeld ⊢
                  refine pure_ (i := 0) (N := some 57) (v := ?_) (a' := ?_) #[true, false, false, false, false, false, false, false, false, false, false, false, false, false, false, false] rfl rfl (any_of HT_.out (by kernel_rfl)) (fun _ _ _ h => h) (Or.inl ⟨by rfl, ?_⟩) ?_ ?_
                  rotate_left; intro w'; go_simp; with_reducible rfl
                  rotate_left; simp only [pu_]; rfl
                  refine pure_ (i := 1) (N := some 58) (v := ?_) (a' := ?_) #[true, true, false, false, false, false, false, false, false, false, false, false, false, false, false, false] rfl rfl (any_of HT_.out (by kernel_rfl)) (fun _ _ _ h => h) (Or.inl ⟨by rfl, ?_⟩) ?_ ?_
                  rotate_left; intro w'; go_simp; with_reducible rfl
                  rotate_left; simp only [pu_]; rfl
                  refine pure_ (i := 2) (N := some 59) (v := ?_) (a' := ?_) #[true, true, true, false, false, false, false, false, false, false, false, false, false, false, false, false] rfl rfl (any_of HT_.out (by kernel_rfl)) (fun _ _ _ h => h) (Or.inl ⟨by rfl, ?_⟩) ?_ ?_
                  rotate_left; intro w'; go_simp; with_reducible rfl
                  rotate_left; simp only [pu_]; rfl
                  refine take_ (i := 3) (N := some 60) (v := ?_) (a' := ?_) #[true, true, true, true, false, false, false, false, false, false, false, false, false, false, false, false] rfl rfl (take_ofW HT_.out HW_.out (by kernel_rfl)) (fun _ _ _ h => h) (Or.inl ⟨by rfl, ?_⟩) hHeld ?_ ?_
                  rotate_left
                  ·intro w' s0
                   go_simp
                   with_reducible rfl
                  rotate_left; simp only [pu_]; rfl
                  refine pure_ (i := 4) (N := some 61) (v := ?_) (a' := ?_) #[true, true, true, true, true, false, false, false, false, false, false, false, false, false, false, false] rfl rfl (any_of HT_.out (by kernel_rfl)) (fun _ _ _ h => h) (Or.inl ⟨by rfl, ?_⟩) ?_ ?_
                  rotate_left; intro w'; go_simp; with_reducible rfl
                  rotate_left; simp only [pu_]; rfl
                  refine pure_ (i := 5) (N := some 62) (v := ?_) (a' := ?_) #[true, true, true, true, true, true, false, false, false, false, false, false, false, false, false, false] rfl rfl (any_of HT_.out (by kernel_rfl)) (fun _ _ _ h => h) (Or.inl ⟨by rfl, ?_⟩) ?_ ?_
                  rotate_left; intro w'; go_simp; with_reducible rfl
                  rotate_left; simp only [pu_]; rfl
                  refine pure_ (i := 6) (N := some 63) (v := undef) (a' := ?_) #[true, true, true, true, true, true, true, false, false, false, false, false, false, false, false, false] rfl rfl (any_of HT_.out (by kernel_rfl)) (fun _ _ _ h => h) (Or.inr ⟨by rfl, rfl⟩) ?_ ?_
                  rotate_left; simp only [pu_]; rfl
                  refine pure_ (i := 7) (N := some 64) (v := undef) (a' := ?_) #[true, true, true, true, true, true, true, true, false, false, false, false, false, false, false, false] rfl rfl (any_of HT_.out (by kernel_rfl)) (fun _ _ _ h => h) (Or.inr ⟨by rfl, rfl⟩) ?_ ?_
                  rotate_left; simp only [pu_]; rfl
                  refine pure_ (i := 8) (N := some 65) (v := undef) (a' := ?_) #[true, true, true, true, true, true, true, true, true, false, false, false, false, false, false, false] rfl rfl (any_of HT_.out (by kernel_rfl)) (fun _ _ _ h => h) (Or.inr ⟨by rfl, rfl⟩) ?_ ?_
                  rotate_left; simp only [pu_]; rfl
                  refine pure_ (i := 9) (N := some 66) (v := undef) (a' := ?_) #[true, true, true, true, true, true, true, true, true, true, false, false, false, false, false, false] rfl rfl (any_of HT_.out (by kernel_rfl)) (fun _ _ _ h => h) (Or.inr ⟨by rfl, rfl⟩) ?_ ?_
                  rotate_left; simp only [pu_]; rfl
                  refine pure_ (i := 10) (N := some 67) (v := undef) (a' := ?_) #[true, true, true, true, true, true, true, true, true, true, true, false, false, false, false, false] rfl rfl (any_of HT_.out (by kernel_rfl)) (fun _ _ _ h => h) (Or.inr ⟨by rfl, rfl⟩) ?_ ?_
                  rotate_left; simp only [pu_]; rfl
                  refine pure_ (i := 11) (N := some 68) (v := undef) (a' := ?_) #[true, true, true, true, true, true, true, true, true, true, true, true, false, false, false, false] rfl rfl (any_of HT_.out (by kernel_rfl)) (fun _ _ _ h => h) (Or.inr ⟨by rfl, rfl⟩) ?_ ?_
                  rotate_left; simp only [pu_]; rfl
                  refine pure_ (i := 12) (N := some 69) (v := undef) (a' := ?_) #[true, true, true, true, true, true, true, true, true, true, true, true, true, false, false, false] rfl rfl (any_of HT_.out (by kernel_rfl)) (fun _ _ _ h => h) (Or.inr ⟨by rfl, rfl⟩) ?_ ?_
                  rotate_left; simp only [pu_]; rfl
                  refine pure_ (i := 13) (N := some 70) (v := undef) (a' := ?_) #[true, true, true, true, true, true, true, true, true, true, true, true, true, true, false, false] rfl rfl (any_of HT_.out (by kernel_rfl)) (fun _ _ _ h => h) (Or.inr ⟨by rfl, rfl⟩) ?_ ?_
                  rotate_left; simp only [pu_]; rfl
                  refine pure_ (i := 14) (N := some 71) (v := undef) (a' := ?_) #[true, true, true, true, true, true, true, true, true, true, true, true, true, true, true, false] rfl rfl (any_of HT_.out (by kernel_rfl)) (fun _ _ _ h => h) (Or.inr ⟨by rfl, rfl⟩) ?_ ?_
                  rotate_left; simp only [pu_]; rfl
                  refine pure_ (i := 15) (N := some 72) (v := ?_) (a' := ?_) #[true, true, true, true, true, true, true, true, true, true, true, true, true, true, true, true] rfl rfl (any_of HT_.out (by kernel_rfl)) (fun _ _ _ h => h) (Or.inl ⟨by rfl, ?_⟩) ?_ ?_
                  rotate_left; intro w'; go_simp; with_reducible rfl
                  rotate_left; simp only [pu_]; rfl
                  refine done_ (done_of HT_.out (by kernel_rfl)) ?_
                  try go_wp2
                  go_roundg k2
                  case measure => have := HK1.out; have := HK2.out; omega
                  case rel => exact ⟨(x12_2), (x13_2), (wrap64 (x52_2 + 1)), (by first | rfl | (simp; done) | (simp [*]; done)), (by first | rfl | (simp; done) | (simp [*]; done)), H', ⟨by have := HK1.out; have := HK2.out; omega⟩, ⟨upR_ HO_11.out⟩, ⟨upR_ HO_13.out⟩, ⟨upR_ HO_14.out⟩, ⟨upR_ HO_50.out⟩, ⟨upR_ HO_971002.out⟩, ⟨upK_ BK957.out⟩, ⟨upK_ BK970.out⟩, ⟨upB_ HB.out⟩⟩
                ·rw [if_neg c65] at H
                 exact absurd H (by simp)
               ·rw [if_neg c64] at H
                exact absurd H (by simp)
              ·rw [if_neg c63] at H
               exact absurd H (by simp)
             ·rw [if_neg c62] at H
              exact absurd H (by simp)
            ·rw [if_neg c61] at H
             have c61b0 : decide (x52_2 < (t980.length : Int)) = false := decide_eq_false c61
             clear c61; have H' := Aside0.mk H
             clear H; go_wp2
             go_roundg k2
             case measure => have := HK1.out; have := HK2.out; omega
             case rel => exact ⟨(x12_2), (x13_2), (by first | rfl | (simp; done) | (simp [*]; done)), H', ⟨by have := HK1.out; have := HK2.out; omega⟩, ⟨by (with_reducible repeat (first | apply Kd.R_alloc | apply Kd.R_drewN | apply Kd.R_drew)); exact Kd.R_mono HO_11.out (fun _ hk => trivial)⟩, ⟨upR_ HO_13.out⟩, ⟨upR_ HO_14.out⟩, ⟨upR_ HO_971002.out⟩, ⟨upK_ BK957.out⟩, ⟨upK_ BK970.out⟩, ⟨upB_ HB.out⟩⟩
         ·rw [if_neg c55] at H
          have c55b0 : decide (0 < (rd t967 x12_1)) = false := decide_eq_false c55
          clear c55; simp only [Option.some.injEq, Prod.mk.injEq] at H
          obtain ⟨rfl, rfl⟩ := H
          have p979 : 0 ≤ (x12_1 : Int) := of_decide_eq_true (by first | (with_reducible assumption) | assumption)
          have q979 : x12_1 < (t967.length : Int) := of_decide_eq_true (by first | (with_reducible assumption) | assumption)
          obtain ⟨ad979, e979, hx979_0⟩ := Kd.at_int (Kd.R_reads' HO_11.out).2.2 x12_1 p979 q979
          obtain rfl : ad978 = ad979 := (by injection e979)
          replace p979 := eq_true p979
          replace q979 := eq_true q979
          go_wp2
          go_ret2
          exact ⟨_, by first | rfl | (simp [errW_none, errW_some] <;> rfl) | (simp [*, errW_none, errW_some] <;> rfl), by (with_reducible repeat (first | apply Kd.R_alloc | apply Kd.R_drewN | apply Kd.R_drew)); exact Kd.R_mono HO_13.out (fun _ hk => trivial), by repeat (first | (with_reducible first | exact HB.out | apply below_alloc | apply pw_below_drewN | apply below_drew1 | refine below_set ?_ GE957.out | refine below_set ?_ GE970.out) | exact HB.out)⟩
        ·rw [if_neg c54] at H
         exact absurd H (by simp)
       ·rw [if_neg c53] at H
        exact absurd H (by simp)
   ·rw [if_neg c11] at H
    exact absurd H (by simp)
  ·rw [if_neg c10] at H
   exact absurd H (by simp)
 ·replace c6 := Bool.eq_false_iff.mpr c6
  subst c6
  have H1 : (some (([] : List (S59)), false)) = some (r1, r2) := by rw [if_neg (show ¬ (false = true) by decide)] at H; exact H
  clear H; have H := H1
  clear H1; simp only [Option.some.injEq, Prod.mk.injEq] at H
  obtain ⟨rfl, rfl⟩ := H
  go_enter Try.func45, Try.ntmps45
  go_wp2_with (first | ((with_reducible refine gate_dst (N := 4) rfl ?_); refine box_event ?hg (N := 4) ?hd (cs := #[.int .i64 a0_0, .int .i64 a0_1]) (t := 30) ?hr ?_; (case hd => rfl); (case hg => rfl); (case hr => first | (go_simp; done) | (go_simp; rfl)); intro gb957 hg w77 hbox hb; have n0_ := Aside0.mk (below_step (upB_ HB.out) hb); have n1_ := Aside0.mk (hbox); have n2_ := Aside0.mk ((by rw [hg]; exact (below_size (upB_ HB.out)) : w.heap.size ≤ gb957)); have n3_ := Aside0.mk ((by rw [hg]; exact (below_size (upB_ HB.out)) : w.heap.size ≤ gb957)); clear HB; have HB := n0_; have BK957 := n1_; have GW957 := n2_; have GE957 := n3_; clear n0_ n1_ n2_ n3_; clear hb hbox hg; have hcz78_0 : w77.cell? ⟨gb957, 0, none⟩ = some (.int .i64 a0_0) := (blk_cell BK957.out 0).trans rfl; have hcz78_1 : w77.cell? ⟨gb957, 1, none⟩ = some (.int .i64 a0_1) := (blk_cell BK957.out 1).trans rfl; have hfz78_0 := blk_frozen BK957.out 0; have hfz78_1 := blk_frozen BK957.out 1) | ((with_reducible refine gate_dst (N := 21) rfl ?_); refine Kd.R_lit Kd.string _ 9 ?hg (N := 21) ?hd (xs := ([a2, a3] : List ByteArray)) (inner := [.string a2, .string a3]) (ok := fun _ => True) (okp := fun _ => True) ?hr ?hp (fun _ hk => hk) trivial (Below.refl _ _) (Nat.le_refl _) (by simp) ?_; (case hd => rfl); (case hg => rfl); (case hr => first | (go_simp; done) | (go_simp; rfl)); (case hp => exact (Reps.one (show Kd.M Kd.string _ _ _ a2 [.string a2] from rfl) (Reps.one (show Kd.M Kd.string _ _ _ a3 [.string a3] from rfl) (Reps.none _ _)))); intro v959 w79 ho80 hb hg_ hnew_; clear hg_ hnew_; (first | rw [← Ny958.out] at ho80 | (simp only [Int.reduceToNat] at ho80; rw [← Ny958.out] at ho80)); have n0_ := Aside0.mk (Kd.R_lower ho80 (below_size (upB_ HB.out))); have n1_ := Aside0.mk (blk_below (g := gb957) (o := .cells #[.int .i64 a0_0, .int .i64 a0_1] 30 (0, 0)) (upK_ BK957.out) hb); have n2_ := Aside0.mk (below_step (upB_ HB.out) hb); clear BK957; clear HB; have HO960 := n0_; have BK957 := n1_; have HB := n2_; clear n0_ n1_ n2_; clear hb ho80; obtain ⟨Ao81, co81, eo81⟩ := Kd.R_slice HO960.out; subst eo81) | ((with_reducible refine gate_callee (f := 53) rfl ?_); refine goesL_ (some 22) rfl rfl Try.func53 (by kernel_rfl) rfl #[.agg #[.int .i64 a0_0, .int .i64 a0_1], .slice A1 l1.length c1, .slice Ao81 y958.length co81] rfl (by (try simp only [List.map_toArray, List.map_cons, List.map_nil]); first | done | rfl | (simp only [List.length_drop, List.length_take]; rfl)) ?_; (with_reducible refine (Ft.calls k a0_0 a0_1 _ _ l1 _ _ y958 false _ ?side1 ?side2 ?side3 ?side4 A5.out).mono ?_); (case side1 => repeat (first | exact (Kd.C_below HR1.out HB.out) | (with_reducible refine Kd.C_alloc ?_ _) | (with_reducible refine Kd.C_drewN ?_ _) | (with_reducible refine Kd.C_drew ?_))); (case side2 => exact HC1.out); (case side3 => repeat (first | exact (Kd.R_reads' HO960.out).2.2 | (with_reducible refine Kd.C_alloc ?_ _) | (with_reducible refine Kd.C_drewN ?_ _) | (with_reducible refine Kd.C_drew ?_))); (case side4 => exact (Kd.R_reads' HO960.out).2.1); rintro e w82 ⟨rfl, hb⟩; refine ⟨_, rfl, ?_⟩; have n0_ := Aside0.mk (Kd.R_below (upR_ HO960.out) hb); have n1_ := Aside0.mk (blk_below (g := gb957) (o := .cells #[.int .i64 a0_0, .int .i64 a0_1] 30 (0, 0)) (upK_ BK957.out) hb); have n2_ := Aside0.mk (below_step (upB_ HB.out) hb); clear HO960; clear BK957; clear HB; have HO960 := n0_; have BK957 := n1_; have HB := n2_; clear n0_ n1_ n2_; (try clear hb); (try clear hb2); (try clear hk); (try clear hi)))
  go_ret2
  exact ⟨_, by first | rfl | (simp [errW_none, errW_some] <;> rfl) | (simp [*, errW_none, errW_some] <;> rfl), by first | exact Kd.R_nil _ _ _ _ _ | exact Kd.N_nil _ _ _ _ _ | exact Kd.V_nil _ _ _ _ _ | exact Kd.Q_nil _ _ _ _ _ | exact Kd.S_nil _ _ _ _ _, by repeat (first | (with_reducible first | exact HB.out | apply below_alloc | apply pw_below_drewN | apply below_drew1 | refine below_set ?_ GE957.out) | exact HB.out)⟩

end Go.Proofs.Ytajhahafgnefcaa.R
