/- The law FnWheelsTurnOfAll holds at every input: the row, out of the walk and the plain theorem. Written by this session's own program rowgen.py; no conditions beyond the statement's own. -/
import Derived.Test.YtoaekmghlmeflaaRows
import Derived.Test.YtoaekmghlmeflaaO49
import Derived.Test.YtoaekmghlmeflaaPureFnWheelsTurnOfAll
import Derived.Test.YtoaekmghlmeflaaOpen
import Derived.WalkKit
import Derived.ProofKit
import Derived.OpenShut
import Derived.ShutString
import Derived.ChangeOld
import Derived.Below
import Derived.SizedLaws
namespace Go.Proofs.Ytoaekmghlmeflaa.fnWheelsTurnOfAll
open Go.ChangeShapes Go.WideShapes Go.ChangeAt Go.RowKit
open Go.ChangeMaps (open_string shut_string)
open Go.Proofs.YtoaekmghlmeflaaW.PrintWords Go.Proofs.Ytoaekmghlmeflaa.O
set_option linter.unusedVariables false
theorem own : ownKnob Try.prog.godebug = none := by kernel_rfl
theorem laidOut : laidOutB Try.prog = true := by kernel_rfl
instance : Inhabited S40 := ⟨z40⟩
theorem op40 : O.Op Try.prog 40 k40 (fun x : S40 => ((Lit.int .i64 x.f0).wf = true) ∧ ((Lit.int .i64 x.f1).wf = true)) := O.op_iso (d := Kd.pair (Kd.int .i64) (Kd.int .i64)) (f := fun x : S40 => (x.f0, x.f1)) (fun y => ⟨y.1, y.2⟩) (fun _ => rfl) (O.op_struct2 Try.underlying40 (O.op_int Try.underlying3) (O.op_int Try.underlying3) rfl rfl (by kernel_rfl) (by kernel_rfl) (by kernel_rfl))
set_option maxRecDepth 100000 in
theorem lifted (os : Os) (started : os.Started) (H : Type) (enc : TypeId × Value → H) :
    ReturnsInHanded {} Try.checked os 4 .any (Rows.fnWheelsTurnOfAllSpec.pre6 enc Try.prog Try.f4 Rows.fnWheelsTurnOfAllRow.domain false) (Rows.fnWheelsTurnOfAllSpec.post enc Try.prog Try.f4 false true false false) := by
  refine returnsInHanded_of_change_sized (C := Try.checked) own started (by kernel_rfl) Try.func4
    (ChangeSpec.witness6 (enc := enc) (C := Try.checked) false ⟨#[], #[.agg #[.int .i64 0, .int .i64 0], .string ByteArray.empty, .slice none 0 0, .agg #[.int .i64 0, .int .i64 0], .string ByteArray.empty, .agg #[.int .i64 0, .int .i64 0], .agg #[.int .i64 0, .int .i64 0], .string ByteArray.empty, .string ByteArray.empty, .agg #[.int .i64 0, .int .i64 0], .int .i64 0], []⟩ 8 (by kernel_rfl) (by kernel_rfl) (by kernel_rfl) (by kernel_rfl)) ?_
  intro W base args ds gs before hval0 hW hcnd hsz0 _
  have hsz : (DataW.weightsEach Try.prog (Try.f4.params.toList ++ Rows.fnWheelsTurnOfAllSpec.plain.varTypes Try.prog) (ds ++ gs)).all (· ≤ reachBytes) = true := hsz0
  have hval : ∀ (j : Nat) t v, Try.f4.params[j]? = some t → args[j]? = some v → Value.okWide Try.prog W .any base t v := hval0
  have hW' := hW
  obtain ⟨p, q, hA0, hV, rfl, hfz, hnd⟩ := hW
  have hA : DataW.TrodAll enc Try.prog W 0 (fun _ => true) true Try.f4.params.toList args.toList ds p := hA0
  rw [Try.params4] at hA hval hsz
  obtain ⟨v0, vs0, d0, ds0, p0, q0, hargs, rfl, rfl, h0, r0⟩ := trodAll_cons hA
  obtain ⟨v1, vs1, d1, ds1, p1, q1, rfl, rfl, rfl, h1, r1⟩ := trodAll_cons r0
  obtain ⟨v2, vs2, d2, ds2, p2, q2, rfl, rfl, rfl, h2, r2⟩ := trodAll_cons r1
  obtain ⟨v3, vs3, d3, ds3, p3, q3, rfl, rfl, rfl, h3, r3⟩ := trodAll_cons r2
  obtain ⟨v4, vs4, d4, ds4, p4, q4, rfl, rfl, rfl, h4, r4⟩ := trodAll_cons r3
  obtain ⟨v5, vs5, d5, ds5, p5, q5, rfl, rfl, rfl, h5, r5⟩ := trodAll_cons r4
  obtain ⟨v6, vs6, d6, ds6, p6, q6, rfl, rfl, rfl, h6, r6⟩ := trodAll_cons r5
  obtain ⟨v7, vs7, d7, ds7, p7, q7, rfl, rfl, rfl, h7, r7⟩ := trodAll_cons r6
  obtain ⟨v8, vs8, d8, ds8, p8, q8, rfl, rfl, rfl, h8, r8⟩ := trodAll_cons r7
  obtain ⟨v9, vs9, d9, ds9, p9, q9, rfl, rfl, rfl, h9, r9⟩ := trodAll_cons r8
  obtain ⟨v10, vs10, d10, ds10, p10, q10, rfl, rfl, rfl, h10, r10⟩ := trodAll_cons r9
  obtain ⟨rfl, rfl, rfl⟩ := trodAll_nil r10
  obtain rfl : args = #[v0, v1, v2, v3, v4, v5, v6, v7, v8, v9, v10] := by cases args; simp_all
  obtain ⟨rfl, rfl⟩ := trodVars_none hV
  have k0 := h0
  have lt0 : ∀ x ∈ p0, x.block < W.heap.size := by obtain ⟨m, hm⟩ := k0; exact DataW.trod_lt m _ _ _ hm
  obtain ⟨cs0, y0, rfl, hk0, hq0⟩ := O.arg_struct Try.underlying25 (O.op_struct2 Try.underlying25 (O.op_int Try.underlying3) (O.op_int Try.underlying3) rfl rfl (by kernel_rfl) (by kernel_rfl) (by kernel_rfl)) (hval 0 25 v0 rfl rfl) h0
  obtain ⟨_, _, e0, rfl, rfl⟩ := hk0
  obtain rfl : cs0 = #[.int .i64 y0.1, .int .i64 y0.2] := by cases cs0; simpa using e0
  have k1 := h1
  have lt1 : ∀ x ∈ p1, x.block < W.heap.size := by obtain ⟨m, hm⟩ := k1; exact DataW.trod_lt m _ _ _ hm
  obtain ⟨a1, rfl, rfl, rfl, y1⟩ := open_string Try.underlying9 (hval 1 9 v1 rfl rfl) h1
  have w1 : a1.size ≤ 140737488351232 := by
    have z := sized_string hsz (j := 1) (t := 9) rfl rfl
    rw [Array.length_toList] at z
    exact z
  have k2 := h2
  have lt2 : ∀ x ∈ p2, x.block < W.heap.size := by obtain ⟨m, hm⟩ := k2; exact DataW.trod_lt m _ _ _ hm
  obtain ⟨A2, l2, c2, rfl, hc2, hr2, hq2⟩ := O.arg_slice (k := k40) Try.underlying26 (O.op_slice Try.underlying26 op40 (by kernel_rfl)) (hval 2 26 v2 rfl rfl) h2
  have k3 := h3
  have lt3 : ∀ x ∈ p3, x.block < W.heap.size := by obtain ⟨m, hm⟩ := k3; exact DataW.trod_lt m _ _ _ hm
  obtain ⟨cs3, y3, rfl, hk3, hq3⟩ := O.arg_struct Try.underlying25 (O.op_struct2 Try.underlying25 (O.op_int Try.underlying3) (O.op_int Try.underlying3) rfl rfl (by kernel_rfl) (by kernel_rfl) (by kernel_rfl)) (hval 3 25 v3 rfl rfl) h3
  obtain ⟨_, _, e3, rfl, rfl⟩ := hk3
  obtain rfl : cs3 = #[.int .i64 y3.1, .int .i64 y3.2] := by cases cs3; simpa using e3
  have k4 := h4
  have lt4 : ∀ x ∈ p4, x.block < W.heap.size := by obtain ⟨m, hm⟩ := k4; exact DataW.trod_lt m _ _ _ hm
  obtain ⟨a4, rfl, rfl, rfl, y4⟩ := open_string Try.underlying9 (hval 4 9 v4 rfl rfl) h4
  have w4 : a4.size ≤ 140737488351232 := by
    have z := sized_string hsz (j := 4) (t := 9) rfl rfl
    rw [Array.length_toList] at z
    exact z
  have k5 := h5
  have lt5 : ∀ x ∈ p5, x.block < W.heap.size := by obtain ⟨m, hm⟩ := k5; exact DataW.trod_lt m _ _ _ hm
  obtain ⟨cs5, y5, rfl, hk5, hq5⟩ := O.arg_struct Try.underlying40 (O.op_struct2 Try.underlying40 (O.op_int Try.underlying3) (O.op_int Try.underlying3) rfl rfl (by kernel_rfl) (by kernel_rfl) (by kernel_rfl)) (hval 5 40 v5 rfl rfl) h5
  obtain ⟨_, _, e5, rfl, rfl⟩ := hk5
  obtain rfl : cs5 = #[.int .i64 y5.1, .int .i64 y5.2] := by cases cs5; simpa using e5
  have k6 := h6
  have lt6 : ∀ x ∈ p6, x.block < W.heap.size := by obtain ⟨m, hm⟩ := k6; exact DataW.trod_lt m _ _ _ hm
  obtain ⟨cs6, y6, rfl, hk6, hq6⟩ := O.arg_struct Try.underlying25 (O.op_struct2 Try.underlying25 (O.op_int Try.underlying3) (O.op_int Try.underlying3) rfl rfl (by kernel_rfl) (by kernel_rfl) (by kernel_rfl)) (hval 6 25 v6 rfl rfl) h6
  obtain ⟨_, _, e6, rfl, rfl⟩ := hk6
  obtain rfl : cs6 = #[.int .i64 y6.1, .int .i64 y6.2] := by cases cs6; simpa using e6
  have k7 := h7
  have lt7 : ∀ x ∈ p7, x.block < W.heap.size := by obtain ⟨m, hm⟩ := k7; exact DataW.trod_lt m _ _ _ hm
  obtain ⟨a7, rfl, rfl, rfl, y7⟩ := open_string Try.underlying9 (hval 7 9 v7 rfl rfl) h7
  have w7 : a7.size ≤ 140737488351232 := by
    have z := sized_string hsz (j := 7) (t := 9) rfl rfl
    rw [Array.length_toList] at z
    exact z
  have k8 := h8
  have lt8 : ∀ x ∈ p8, x.block < W.heap.size := by obtain ⟨m, hm⟩ := k8; exact DataW.trod_lt m _ _ _ hm
  obtain ⟨a8, rfl, rfl, rfl, y8⟩ := open_string Try.underlying9 (hval 8 9 v8 rfl rfl) h8
  have w8 : a8.size ≤ 140737488351232 := by
    have z := sized_string hsz (j := 8) (t := 9) rfl rfl
    rw [Array.length_toList] at z
    exact z
  have k9 := h9
  have lt9 : ∀ x ∈ p9, x.block < W.heap.size := by obtain ⟨m, hm⟩ := k9; exact DataW.trod_lt m _ _ _ hm
  obtain ⟨cs9, y9, rfl, hk9, hq9⟩ := O.arg_struct Try.underlying25 (O.op_struct2 Try.underlying25 (O.op_int Try.underlying3) (O.op_int Try.underlying3) rfl rfl (by kernel_rfl) (by kernel_rfl) (by kernel_rfl)) (hval 9 25 v9 rfl rfl) h9
  obtain ⟨_, _, e9, rfl, rfl⟩ := hk9
  obtain rfl : cs9 = #[.int .i64 y9.1, .int .i64 y9.2] := by cases cs9; simpa using e9
  have k10 := h10
  have lt10 : ∀ x ∈ p10, x.block < W.heap.size := by obtain ⟨m, hm⟩ := k10; exact DataW.trod_lt m _ _ _ hm
  obtain ⟨a10, rfl, rfl, rfl, w10⟩ := open_int Try.underlying3 (hval 10 3 v10 rfl rfl) h10
  clear hA0 hval0 hsz0 hsz
  obtain ⟨k, hk⟩ := Pure.FnWheelsTurnOfAll y0.1 y0.2 a1 w1 l2 hq2 y3.1 y3.2 a4 w4 y5.1 y5.2 y6.1 y6.2 a7 w7 a8 w8 y9.1 y9.2 a10
  refine (laws_FnWheelsTurnOfAll.calls (k := k) (a0_0 := y0.1) (a0_1 := y0.2) (a1 := a1) (A2 := A2) (l2 := l2) (c2 := c2) (hr2 := hr2) (hc2 := hc2) (a3_0 := y3.1) (a3_1 := y3.2) (a4 := a4) (a5_0 := y5.1) (a5_1 := y5.2) (a6_0 := y6.1) (a6_1 := y6.2) (a7 := a7) (a8 := a8) (a9_0 := y9.1) (a9_1 := y9.2) (a10 := a10) (r := true) (w := W) (h := hk)).mono fun e W' ⟨he, bel0⟩ => ?_
  have bel : Below W.heap.size W W' := bel0
  subst he
  exact ⟨_, rfl, _, _, _, [], _, [], hW', trodAll_mk1 (shut_bool Try.underlying4 _), (trodAll_cons_mk (Below.trod laidOut (by kernel_rfl) (of_decide_eq_true (by kernel_rfl)) k0 bel lt0) (trodAll_cons_mk (Below.trod laidOut (by kernel_rfl) (of_decide_eq_true (by kernel_rfl)) k1 bel lt1) (trodAll_cons_mk (Below.trod laidOut (by kernel_rfl) (of_decide_eq_true (by kernel_rfl)) k2 bel lt2) (trodAll_cons_mk (Below.trod laidOut (by kernel_rfl) (of_decide_eq_true (by kernel_rfl)) k3 bel lt3) (trodAll_cons_mk (Below.trod laidOut (by kernel_rfl) (of_decide_eq_true (by kernel_rfl)) k4 bel lt4) (trodAll_cons_mk (Below.trod laidOut (by kernel_rfl) (of_decide_eq_true (by kernel_rfl)) k5 bel lt5) (trodAll_cons_mk (Below.trod laidOut (by kernel_rfl) (of_decide_eq_true (by kernel_rfl)) k6 bel lt6) (trodAll_cons_mk (Below.trod laidOut (by kernel_rfl) (of_decide_eq_true (by kernel_rfl)) k7 bel lt7) (trodAll_cons_mk (Below.trod laidOut (by kernel_rfl) (of_decide_eq_true (by kernel_rfl)) k8 bel lt8) (trodAll_cons_mk (Below.trod laidOut (by kernel_rfl) (of_decide_eq_true (by kernel_rfl)) k9 bel lt9) (trodAll_cons_mk (Below.trod laidOut (by kernel_rfl) (of_decide_eq_true (by kernel_rfl)) k10 bel lt10) trodAll_mk0))))))))))), rfl, bel.frame _, fun h => by cases h⟩
theorem over : Rows.fnWheelsTurnOfAllRow.holds Try.pinned (OpenSpec.ofChange Rows.fnWheelsTurnOfAllSpec) :=
  OpenClaim.holds_of_wide 4 Try.f4 rfl rfl rfl rfl rfl rfl rfl ⟨rfl, rfl, rfl, rfl, rfl⟩ rfl rfl rfl rfl rfl (by kernel_rfl) Try.func4 (by kernel_rfl)
    (of_decide_eq_true (by kernel_rfl)) (by unfold Func.isWrapper; first | (rw [if_pos (by decide +kernel)]; kernel_rfl) | (rw [if_neg (by decide +kernel)]; exact ⟨rfl, rfl⟩))
    (fun os started H enc _ => lifted os started H enc)
theorem proved : Rows.FnWheelsTurnOfAllSaid := over
#print axioms proved
end Go.Proofs.Ytoaekmghlmeflaa.fnWheelsTurnOfAll
namespace Go.Proofs.Ytoaekmghlmeflaa
/-- The row, under a short name, for the claim. -/
theorem fnWheelsTurnOfAll_holds : Rows.FnWheelsTurnOfAllSaid := fnWheelsTurnOfAll.proved
end Go.Proofs.Ytoaekmghlmeflaa
