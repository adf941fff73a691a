-- Written by a program of this session (p2.sh: a patched copy of the kit's printer) out of the translation; not by print.sh. Lean checks it.
import Derived.Test.YtoaekmghlmeflaaU0
import Derived.Test.YtoaekmghlmeflaaU1
import Derived.Test.YtoaekmghlmeflaaU5
import Derived.Test.YtoaekmghlmeflaaU8
namespace Go.Proofs.Ytoaekmghlmeflaa.U
open Go.RowKit Go.Proofs.YtoaekmghlmeflaaW.PrintWords Go.Proofs.YtoaekmghlmeflaaW.PrintLast Go.Proofs.YtoaekmghlmeflaaW.PrintMore
attribute [local go_sem] max2_int min2_int max_two min_two max_three min_three max_four min_four   -- for this text's walks alone
set_option linter.unusedVariables false
set_option linter.unusedSimpArgs false

/-! ### spec_DrawFewestTurns: function 81 -/
def spec_DrawFewestTurns.f (k : Nat) (l0 : List Int) : Option (Int × Int × ByteArray × ByteArray) := (spec_l1Cur_lock.f l0 0 0).bind fun p => (spec_l1Cur_code1.f k l0 p.2.2.1 p.2.2.2 p.1 p.2.1).bind fun q => (spec_l1Cur_code1.f k l0 q.2.1 q.2.2 p.1 p.2.1).bind fun r => some (p.1, p.2.1, q.1, r.1)
def SDf (gl : Nat) (a b : Int) (w' : World) : Prop := w'.cell? ⟨gl, 0, none⟩ = some (.int .i64 a) ∧ w'.cell? ⟨gl, 1, none⟩ = some (.int .i64 b)
set_option linter.unusedSimpArgs false in
set_option maxHeartbeats 8000000 in
set_option maxRecDepth 100000 in
theorem spec_DrawFewestTurns.calls (k : Nat) (A0 : Option Addr) (c0 : Nat) (l0 : List Int) (r1 r2 : Int) (r3 : ByteArray) (r4 : ByteArray) (w : World) (hr0 : Kd.C (Kd.int .u8) w A0 l0.length l0) (hc0 : l0.length ≤ c0) (h : spec_DrawFewestTurns.f k l0 = some (r1, r2, r3, r4)) :
  Calls Try.prog 81 #[.slice A0 l0.length c0] w fun e w' => e = .returned (.tuple #[.agg #[.int .i64 r1, .int .i64 r2], .string r3, .string r4]) ∧ Below w.heap.size w w' := by
 have hu25 := Try.underlying25
 have hu82 := Try.underlying82
 have HB := Below.refl w.heap.size w
 unfold spec_DrawFewestTurns.f at h
 obtain ⟨⟨p1, p2, p3, p4⟩, h1, h⟩ := Option.bind_eq_some_iff.mp h
 obtain ⟨⟨q1, q2, q3⟩, h2, h⟩ := Option.bind_eq_some_iff.mp h
 obtain ⟨⟨t1, t2, t3⟩, h3, h⟩ := Option.bind_eq_some_iff.mp h
 simp only [Option.some.injEq, Prod.mk.injEq] at h
 obtain ⟨rfl, rfl, rfl, rfl⟩ := h
 dsimp only at h1 h2 h3
 have hb1 : Try.prog.built 82 [(0, .slice A0 l0.length c0)] = some #[.slice A0 l0.length c0, .int .i64 0, .int .u64 0] := by rfl
 go_enter Try.func81, Try.ntmps81
 go_upto_region 3 with (first | ((with_reducible refine gate_dst (N := 2) rfl ?_); (try (refine gate_guard (by rfl) ?_; dsimp only)); refine box_event ?hg (N := 2) ?hd (cs := #[.int .i64 0, .int .i64 0]) (t := 25) ?hr ?_; (case hd => rfl); (case hg => rfl); (case hr => first | (go_simp; done) | (go_simp; rfl)); intro gr hg w1 hbr hb; have hgr : w.heap.size ≤ gr := (by rw [hg]; exact HB.size); replace HB := below_step HB hb; clear hb hg) | ((with_reducible refine gate_dst (N := 10) rfl ?_); (try (refine gate_guard (by rfl) ?_; dsimp only)); refine box_event ?hg (N := 10) ?hd (cs := #[.slice A0 l0.length c0, .int .i64 0, .int .u64 0]) (t := 82) ?hr ?_; (case hd => rfl); (case hg => rfl); (case hr => first | (go_simp; done) | (go_simp; rfl)); intro g hg w2 hbs hb; have hgs : w.heap.size ≤ g := (by rw [hg]; exact HB.size); have hrg : gr ≠ g := (by rw [hg]; exact Nat.ne_of_lt (blk_lt hbr)); replace hbr := blk_below hbr hb; have hI : IsS82 w w2 g l0 0 0 := ⟨A0, c0, hbs, hgs, hr0⟩; replace HB := below_step HB hb; clear hb hg hbs) | ((with_reducible refine gate_callee (f := 64) rfl ?_); refine goesL_ (some 12) rfl rfl Try.func64 (by kernel_rfl) rfl #[.pointer (some ⟨g, 0, none⟩)] rfl (by (try simp only [List.map_toArray, List.map_cons, List.map_nil]); first | done | rfl) ?_; (with_reducible refine (spec_l1Cur_lock.calls g l0 0 0 p1 p2 p3 p4 w _ hI HB h1).mono ?_); clear hI HB; rintro e w3 ⟨rfl, hI, HB, hk⟩; refine ⟨_, rfl, ?_⟩; replace hbr := KeepBut.blk hk hbr hrg (by simp); clear hk) | ((with_reducible refine gate_dst (N := 6) rfl ?_); (try (refine gate_guard (by rfl) ?_; dsimp only)); refine box_event ?hg (N := 6) ?hd (cs := #[.int .i64 0, .int .i64 0]) (t := 25) ?hr ?_; (case hd => rfl); (case hg => rfl); (case hr => first | (go_simp; done) | (go_simp; rfl)); intro gl hg w4 hbl hb; have hgl : w.heap.size ≤ gl := (by rw [hg]; exact HB.size); have hsl : g ≠ gl := (by rw [hg]; exact Nat.ne_of_lt hI.lt); have hrl : gr ≠ gl := (by rw [hg]; exact Nat.ne_of_lt (blk_lt hbr)); replace hbr := blk_below hbr hb; replace hI := hI.below hb; replace HB := below_step HB hb; have y0 : w4.cell? ⟨gl, 0, none⟩ = some (.int .i64 0) := (blk_cell hbl 0).trans rfl; have y1 : w4.cell? ⟨gl, 1, none⟩ = some (.int .i64 0) := (blk_cell hbl 1).trans rfl; have y2 := blk_frozen hbl 0; have y3 := blk_frozen hbl 1; clear hb hg))
 have hbl2 := blk_put (cs := #[.int .i64 p1, .int .i64 0]) (blk_put (cs := #[.int .i64 0, .int .i64 0]) hbl 0 (.int .i64 p1) rfl) 1 (.int .i64 p2) rfl
 have hI2 := IsS82.far (p := ⟨gl, 1, none⟩) (IsS82.far (p := ⟨gl, 0, none⟩) hI hsl (.int .i64 p1)) hsl (.int .i64 p2)
 have hbr2 := blk_far (p := ⟨gl, 1, none⟩) (blk_far (p := ⟨gl, 0, none⟩) hbr hrl (.int .i64 p1)) hrl (.int .i64 p2)
 have HB2 := below_set (j := 1) (v := .int .i64 p2) (below_set (j := 0) (v := .int .i64 p1) HB hgl) hgl
 clear y0 y1 y2 y3 hbl hI hbr HB
 generalize (w4.setCell ⟨gl, 0, none⟩ (.int .i64 p1)).setCell ⟨gl, 1, none⟩ (.int .i64 p2) = w5 at hbl2 hI2 hbr2 HB2 ⊢
 have y0 : w5.cell? ⟨gl, 0, none⟩ = some (.int .i64 p1) := (blk_cell hbl2 0).trans rfl
 have y1 : w5.cell? ⟨gl, 1, none⟩ = some (.int .i64 p2) := (blk_cell hbl2 1).trans rfl
 have y2 := blk_frozen hbl2 0
 have y3 := blk_frozen hbl2 1
 go_upto_region 4 with (((with_reducible refine gate_callee (f := 65) rfl ?_); refine goesL_ (some 15) rfl rfl Try.func65 (by kernel_rfl) rfl #[.pointer (some ⟨g, 0, none⟩), .agg #[.int .i64 p1, .int .i64 p2]] rfl (by (try simp only [List.map_toArray, List.map_cons, List.map_nil]); first | done | rfl) ?_; (with_reducible refine (spec_l1Cur_code1.calls k g l0 p3 p4 p1 p2 q1 q2 q3 w _ hI2 HB2 h2).mono ?_); clear y0 y1 y2 y3; rintro e w6 ⟨rfl, hI, HB, hk⟩; refine ⟨_, rfl, ?_⟩; have hbr := KeepBut.blk hk hbr2 hrg (by simp); have hbl := KeepBut.blk hk hbl2 (Ne.symm hsl) (by simp)))
 refine start_ (n := 8) (S := SDf gl p1 p2) (ds := [5]) #[false, false, false, false, false, false, false, false] (by kernel_rfl) rfl rfl ⟨(blk_cell (blk_drew hbl) 0).trans rfl, (blk_cell (blk_drew hbl) 1).trans rfl⟩ (fun hHeld => ?_)
 replace hbl := blk_drew hbl
 replace hbr := blk_drew hbr
 replace hI := IsS82.drew hI
 replace HB := below_drew1 HB
 generalize w6.drew = w7 at hbl hbr hI HB hHeld ⊢
 refine take_ (i := 0) (N := some 16) (v := ?_) (a' := ?_) #[true, false, false, false, false, false, false, false] rfl rfl (by kernel_rfl) (fun _ _ _ h => h) (Or.inl ⟨by rfl, ?_⟩) hHeld ?_ ?_
 rotate_left; rintro w' ⟨s0, s1⟩; go_simp; with_reducible rfl
 rotate_left; simp only [Act.put, List.setIfInBounds_toArray, List.set_cons_zero, List.set_cons_succ, i64_w, i32_w]; rfl
 refine pure_ (i := 1) (N := some 17) (v := ?_) (a' := ?_) #[true, true, false, false, false, false, false, false] rfl rfl (by kernel_rfl) (fun _ _ _ h => h) (Or.inl ⟨by rfl, ?_⟩) ?_ ?_
 rotate_left; intro w'; go_simp; with_reducible rfl
 rotate_left; simp only [Act.put, List.setIfInBounds_toArray, List.set_cons_zero, List.set_cons_succ, i64_w, i32_w]; rfl
 refine pure_ (i := 2) (N := some 18) (v := ?_) (a' := ?_) #[true, true, true, false, false, false, false, false] rfl rfl (by kernel_rfl) (fun _ _ _ h => h) (Or.inl ⟨by rfl, ?_⟩) ?_ ?_
 rotate_left; intro w'; go_simp; with_reducible rfl
 rotate_left; simp only [Act.put, List.setIfInBounds_toArray, List.set_cons_zero, List.set_cons_succ, i64_w, i32_w]; rfl
 refine take_ (i := 3) (N := some 19) (v := ?_) (a' := ?_) #[true, true, true, true, false, false, false, false] rfl rfl (by kernel_rfl) (fun _ _ _ h => h) (Or.inl ⟨by rfl, ?_⟩) hHeld ?_ ?_
 rotate_left; rintro w' ⟨s0, s1⟩; go_simp; with_reducible rfl
 rotate_left; simp only [Act.put, List.setIfInBounds_toArray, List.set_cons_zero, List.set_cons_succ, i64_w, i32_w]; rfl
 refine one_ (i := 4) (N := some 20) #[true, true, true, true, true, false, false, false] rfl rfl (by kernel_rfl) (by decide) (fun K_ hK_ => ?_)
 refine goes_ Try.func65 (by kernel_rfl) rfl #[.pointer (some ⟨g, 0, none⟩), .agg #[.int .i64 p1, .int .i64 p2]] (by rfl) rfl rfl (by (try simp only [List.map_toArray, List.map_cons, List.map_nil]); first | done | rfl) ?_
 with_reducible refine (spec_l1Cur_code1.calls k g l0 q2 q3 p1 p2 t1 t2 t3 w _ hI HB h3).mono ?_
 have hs7 : w.heap.size ≤ w7.heap.size := HB.size
 clear hI HB
 rintro e w8 ⟨rfl, hI, HB, hk⟩
 refine ⟨_, rfl, ?_⟩
 replace hbl := KeepBut.blk hk hbl (Ne.symm hsl) (by simp)
 replace hbr := KeepBut.blk hk hbr hrg (by simp)
 refine hK_.out _ _ ⟨(blk_cell hbl 0).trans rfl, (blk_cell hbl 1).trans rfl⟩ (fun hHeld => ?_)
 clear hK_ K_; refine norm_ (a' := ?_) ?_ ?_
 rotate_left
 ·show Act.put _ (some 20) _ = _
  simp only [Act.put, List.setIfInBounds_toArray, List.set_cons_zero, List.set_cons_succ, i64_w, i32_w]; rfl
 have z0 : w8.cell? ⟨gr, 0, none⟩ = some (.int .i64 0) := (blk_cell hbr 0).trans rfl
 have z1 : w8.cell? ⟨gr, 1, none⟩ = some (.int .i64 0) := (blk_cell hbr 1).trans rfl
 have z2 := blk_frozen hbr 0
 have z3 := blk_frozen hbr 1
 refine last_ (i := 5) (N := none) #[true, true, true, true, true, true, false, false] rfl rfl (by kernel_rfl) (by decide) (fun K_ hK_ => ?_)
 refine skip_ (w1 := ?_) (by rfl) rfl ?_ ?_
 rotate_left
 ·go_simp
  rfl
 refine hK_.out _ _ ?_
 clear hK_ K_
 refine pure_ (i := 6) (N := some 3) (v := ?_) (a' := ?_) #[true, true, true, true, true, true, true, false] rfl rfl (by kernel_rfl) (fun _ _ _ h => h) (Or.inl ⟨by rfl, ?_⟩) ?_ ?_
 rotate_left; intro w'; go_simp; with_reducible rfl
 rotate_left; simp only [Act.put, List.setIfInBounds_toArray, List.set_cons_zero, List.set_cons_succ, i64_w, i32_w]; rfl
 refine pure_ (i := 7) (N := some 4) (v := ?_) (a' := ?_) #[true, true, true, true, true, true, true, true] rfl rfl (by kernel_rfl) (fun _ _ _ h => h) (Or.inl ⟨by rfl, ?_⟩) ?_ ?_
 rotate_left; intro w'; go_simp; with_reducible rfl
 rotate_left; simp only [Act.put, List.setIfInBounds_toArray, List.set_cons_zero, List.set_cons_succ, i64_w, i32_w]; rfl
 refine done_ (by kernel_rfl) ?_
 try go_wp2
 have hbp := blk_put (cs := #[.int .i64 0, .int .i64 0]) hbr 0 (.int .i64 p1) rfl
 refine bodyPost_ret (results_ctt rfl _ _ gr 25 #[.int .i64 p1, .int .i64 p2] (0, 0) _ rfl (blk_put (cs := #[.int .i64 p1, .int .i64 0]) hbp 1 _ rfl) Try.underlying25 rfl (by kernel_rfl)) rfl ?_
 exact ⟨rfl, below_set (below_set HB hgr) hgr⟩

/-! ### spec_DrawAddCodes: function 28 -/
def spec_DrawAddCodes.f (k : Nat) (l0 : List Int) : Option (Int × Int × ByteArray × ByteArray) := (spec_DrawFewestTurns.f k l0).bind fun bt324 => (some (bt324.1, bt324.2.1, bt324.2.2.1, bt324.2.2.2))
set_option maxHeartbeats 8000000 in
set_option maxRecDepth 100000 in
theorem spec_DrawAddCodes.calls (k : Nat) (A0 : Option Addr) (c0 : Nat) (l0 : List Int) (r1 : Int) (r2 : Int) (r3 : ByteArray) (r4 : ByteArray) (w : World) (hr0 : Kd.C (Kd.int .u8) w A0 l0.length l0) (hc0 : l0.length ≤ c0) (h : spec_DrawAddCodes.f k l0 = some (r1, r2, r3, r4)) :
  Calls Try.prog 28 #[.slice A0 l0.length c0] w fun e w' => e = .returned (.tuple #[.agg #[.int .i64 r1, .int .i64 r2], .string r3, .string r4]) ∧ Below w.heap.size w w' := by
 have hu25 := Try.underlying25
 have HR0 := Aside0.mk hr0
 have HC0 := Aside0.mk hc0
 clear hr0 hc0
 have HB := Aside0.mk (Below.refl w.heap.size w)
 have H : ((spec_DrawFewestTurns.f k l0).bind fun bt324 => (some (bt324.1, bt324.2.1, bt324.2.2.1, bt324.2.2.2))) = some (r1, r2, r3, r4) := h
 clear h
 replace H := Option.bind_eq_some_iff.mp H
 obtain ⟨⟨t324, t325, t326, t327⟩, A20, H⟩ := H
 replace H : (some (t324, t325, t326, t327)) = some (r1, r2, r3, r4) := H
 have A2 := Aside0.mk A20
 clear A20
 simp only [Option.some.injEq, Prod.mk.injEq] at H
 obtain ⟨rfl, rfl, rfl, rfl⟩ := H
 go_enter Try.func28, Try.ntmps28
 go_wp2_with (first | ((with_reducible refine gate_dst (N := 2) rfl ?_); refine box_event ?hg (N := 2) ?hd (cs := #[.int .i64 0, .int .i64 0]) (t := 25) ?hr ?_; (case hd => rfl); (case hg => rfl); (case hr => first | (go_simp; done) | (go_simp; rfl)); intro gb323 hg w3 hbox hb; have n0_ := Aside0.mk (below_step (by repeat (first | (with_reducible first | exact HB.out | apply below_alloc | apply pw_below_drewN | apply below_drew1) | exact HB.out)) hb); have n1_ := Aside0.mk (hbox); have n2_ := Aside0.mk ((by rw [hg]; exact (below_size (by repeat (first | (with_reducible first | exact HB.out | apply below_alloc | apply pw_below_drewN | apply below_drew1) | exact HB.out))) : w.heap.size ≤ gb323)); have n3_ := Aside0.mk ((by rw [hg]; exact (below_size (by repeat (first | (with_reducible first | exact HB.out | apply below_alloc | apply pw_below_drewN | apply below_drew1) | exact HB.out))) : w.heap.size ≤ gb323)); clear HB; have HB := n0_; have BK323 := n1_; have GW323 := n2_; have GE323 := n3_; clear n0_ n1_ n2_ n3_; clear hb hbox hg) | ((with_reducible refine gate_callee (f := 81) rfl ?_); refine goesL_ (some 6) rfl rfl Try.func81 (by kernel_rfl) rfl #[.slice A0 l0.length c0] rfl (by (try simp only [List.map_toArray, List.map_cons, List.map_nil]); first | done | rfl | (simp only [List.length_drop, List.length_take]; rfl)) ?_; (with_reducible refine (spec_DrawFewestTurns.calls k _ _ l0 t324 t325 t326 t327 _ ?side1 ?side2 A2.out).mono ?_); (case side1 => repeat (first | exact (Kd.C_below HR0.out HB.out) | (with_reducible refine Kd.C_alloc ?_ _) | (with_reducible refine Kd.C_drewN ?_ _) | (with_reducible refine Kd.C_drew ?_))); (case side2 => exact HC0.out); rintro e w4 ⟨rfl, hb⟩; refine ⟨_, rfl, ?_⟩; have n0_ := Aside0.mk (blk_below (g := gb323) (o := .cells #[.int .i64 0, .int .i64 0] 25 (0, 0)) (by (with_reducible repeat (first | refine blk_drewN ?_ _ | refine blk_drew ?_ | refine blk_alloc ?_ _)); exact BK323.out) hb); have n1_ := Aside0.mk (below_step (by repeat (first | (with_reducible first | exact HB.out | apply below_alloc | apply pw_below_drewN | apply below_drew1 | refine below_set ?_ GE323.out) | exact HB.out)) hb); clear BK323; clear HB; have BK323 := n0_; have HB := n1_; clear n0_ n1_; (try clear hb); (try clear hb2); (try clear hk); (try clear hi); have hcz5_0 : w4.cell? ⟨gb323, 0, none⟩ = some (.int .i64 0) := (blk_cell BK323.out 0).trans rfl; have hcz5_1 : w4.cell? ⟨gb323, 1, none⟩ = some (.int .i64 0) := (blk_cell BK323.out 1).trans rfl; have hfz5_0 := blk_frozen BK323.out 0; have hfz5_1 := blk_frozen BK323.out 1))
 refine bodyPost_ret (results_ctt rfl _ _ gb323 25 #[.int .i64 t324, .int .i64 t325] (0, 0) _ rfl (by (with_reducible repeat (first | refine blk_drewN ?_ _ | refine blk_drew ?_ | refine blk_alloc ?_ _)); refine blk_put (cs := #[.int .i64 t324, .int .i64 0]) ?_ 1 _ rfl; (with_reducible repeat (first | refine blk_drewN ?_ _ | refine blk_drew ?_ | refine blk_alloc ?_ _)); refine blk_put (cs := #[.int .i64 0, .int .i64 0]) ?_ 0 _ rfl; (with_reducible repeat (first | refine blk_drewN ?_ _ | refine blk_drew ?_ | refine blk_alloc ?_ _)); exact BK323.out) Try.underlying25 rfl (by kernel_rfl)) rfl ?_
 exact ⟨by first | rfl | (simp [errW_none, errW_some] <;> rfl) | (simp [*, errW_none, errW_some] <;> rfl), by repeat (first | (with_reducible first | exact HB.out | apply below_alloc | apply pw_below_drewN | apply below_drew1 | refine below_set ?_ GE323.out) | exact HB.out)⟩

end Go.Proofs.Ytoaekmghlmeflaa.U
