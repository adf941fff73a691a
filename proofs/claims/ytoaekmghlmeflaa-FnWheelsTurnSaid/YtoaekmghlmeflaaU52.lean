/- FnWheelsTurn: what it computes, and the walk of its statements. -/
import Derived.Test.YtoaekmghlmeflaaU10
import Derived.Test.YtoaekmghlmeflaaU17
import Derived.Test.YtoaekmghlmeflaaU1
import Derived.Test.YtoaekmghlmeflaaU24
import Derived.Test.YtoaekmghlmeflaaU27
import Derived.Test.YtoaekmghlmeflaaU28
import Derived.Test.YtoaekmghlmeflaaU29
import Derived.Test.YtoaekmghlmeflaaU32
import Derived.Test.YtoaekmghlmeflaaU34
import Derived.Test.YtoaekmghlmeflaaU35
import Derived.Test.YtoaekmghlmeflaaU36
import Derived.Test.YtoaekmghlmeflaaU39
import Derived.Test.YtoaekmghlmeflaaU41
import Derived.Test.YtoaekmghlmeflaaU43
import Derived.Test.YtoaekmghlmeflaaU46
import Derived.Test.YtoaekmghlmeflaaU48
import Derived.Test.YtoaekmghlmeflaaU50
import Derived.Test.YtoaekmghlmeflaaU51
namespace Go.Proofs.Ytoaekmghlmeflaa.U
open Go.RowKit Go.Proofs.YtoaekmghlmeflaaW.PrintWords Go.Proofs.YtoaekmghlmeflaaW.PrintLast Go.Proofs.YtoaekmghlmeflaaW.PrintMore
def laws_rng.l0 : Nat → ByteArray → ByteArray → Int → Int → Option Bool
  | 0, _, _, _, _ => none
  | k + 1, a, b, w, i => if i < (a.size : Int) then (if (bt a i) < 128 then (if i < (b.size : Int) then (if ((bt a i != bt b i) != (i == w)) = true then some false else laws_rng.l0 k a b w (i + 1)) else none) else none) else some true
def laws_rng.f (k : Nat) (a b : ByteArray) (w : Int) : Option Bool := laws_rng.l0 k a b w 0
def loopF (k : Nat) (a0 a1 : Int) : List S40 → ByteArray → Option (Option ByteArray)
  | [], nw => some (some nw)
  | t :: ts, nw => (impl_TurnWheel.f k a0 a1 nw t.f0 t.f1).bind fun p => (impl_FewestTurns.f k a0 a1 nw p.1).bind fun d => if (!p.2 || (!d.2 || ((d.1 != 1) || ((p.1.size : Int) != a0)))) = true then some none else (laws_rng.f k p.1 nw t.f0).bind fun c => if c = true then loopF k a0 a1 ts p.1 else some none
def H9_7 (F : Bool → Option Bool) (t342 t348 t353 t354 : Bool) : Option Bool := if t354 = true then (if t353 = true then F (t342 != t348) else F (t342 != false)) else F (t342 != false)
def H9_6 (F : Bool → Option Bool) (a0 a1 : Int) (t342 t348 t353 t354 : Bool) : Option Bool := (impl_IsLock.f a0 a1).bind fun t359 => (spec_IsLock.f a0 a1).bind fun t360 => if (t359 != t360) = true then F true else H9_7 F t342 t348 t353 t354
def H9_5 (F : Bool → Option Bool) (a0 a1 : Int) (t342 t348 t353 t354 : Bool) : Option Bool := (impl_IsLock.f a0 a1).bind fun t358 => if (t354 != t358) = true then F true else H9_6 F a0 a1 t342 t348 t353 t354
def H9_4 (F : Bool → Option Bool) (a0 a1 : Int) (t342 t348 t353 t354 t355 : Bool) : Option Bool := if (t353 != t355) = true then F true else H9_5 F a0 a1 t342 t348 t353 t354
def H9_3 (F : Bool → Option Bool) (a0 a1 : Int) (t342 t348 t353 t354 t355 t356 : Bool) : Option Bool := if (t354 != t356) = true then F true else H9_4 F a0 a1 t342 t348 t353 t354 t355
def H9_2 (F : Bool → Option Bool) (kj : Nat) (t345 t349 : List S40) (a0 a1 : Int) (t342 t348 t353 t354 t355 t356 : Bool) : Option Bool := (laws_aTurns.f kj t345 t349).bind fun t357 => if t357 = true then H9_3 F a0 a1 t342 t348 t353 t354 t355 t356 else F true
def H9_1 (F : Bool → Option Bool) (kj : Nat) (t345 t349 : List S40) (a0 a1 : Int) (t342 t348 t352 t353 t354 t355 t356 : Bool) : Option Bool := if (t348 != t352) = true then F true else H9_2 F kj t345 t349 a0 a1 t342 t348 t353 t354 t355 t356
/-- The last question: the number of the code that has the number rk is rk. -/
def wF5 (k : Nat) (n0 n1 rk : Int) (v63 : ByteArray) (v64 : Bool) (v71 : Int) (v72 : Bool) : Option Bool :=
  if v64 = true then (impl_NumberOfCode.f k n0 n1 v63).bind fun h => some (h.2 && ((h.1 == rk) && (v72 && decide (rk < v71)))) else some true
def wF4 (k : Nat) (m0 m1 n0 n1 rk : Int) (s7 s8 : ByteArray) (v51 : ByteArray) (v52 : Bool) (v63 : ByteArray) (v64 : Bool) (v67 : ByteArray) (v71 : Int) (v72 : Bool) : Option Bool :=
  if v52 = true then (impl_AddCodes.f k m0 m1 s8 s7).bind fun o => (impl_FewestTurns.f k m0 m1 s7 v51).bind fun p => (impl_FewestTurns.f k m0 m1 v67 s8).bind fun q =>
    if (!o.2 || ((o.1.toList != v51.toList) || (!p.2 || (!q.2 || (p.1 != q.1))))) = true then some false else wF5 k n0 n1 rk v63 v64 v71 v72
  else wF5 k n0 n1 rk v63 v64 v71 v72
def wF3 (k : Nat) (m0 m1 n0 n1 rk : Int) (s7 s8 : ByteArray) (v51 : ByteArray) (v52 : Bool) (v55 : Int) (v56 : Bool) (v59 : ByteArray) (v63 : ByteArray) (v64 : Bool) (v67 : ByteArray) (v68 : Bool) (v71 : Int) (v72 : Bool) : Option Bool :=
  if v56 = true then (impl_CodeOfNumber.f k m0 m1 v55).bind fun o => (impl_AddCodes.f k m0 m1 s7 v59).bind fun p =>
    if (!o.2 || ((o.1.toList != s7.toList) || (!p.2 || (!v68 || (p.1.toList != v67.toList))))) = true then some false else wF4 k m0 m1 n0 n1 rk s7 s8 v51 v52 v63 v64 v67 v71 v72
  else wF4 k m0 m1 n0 n1 rk s7 s8 v51 v52 v63 v64 v67 v71 v72
def wF2 (k : Nat) (mr : List Int) : Option Bool :=
  (spec_DrawTurnWheel.f k mr).bind fun d1 => (impl_TurnWheel.f k d1.1 d1.2.1 d1.2.2.1 d1.2.2.2.1 d1.2.2.2.2).bind fun p1 => (spec_TurnWheel.f k d1.1 d1.2.1 d1.2.2.1 d1.2.2.2.1 d1.2.2.2.2).bind fun p2 =>
  (spec_DrawAddCodes.f k mr).bind fun d2 => (impl_AddCodes.f k d2.1 d2.2.1 d2.2.2.1 d2.2.2.2).bind fun p3 => (spec_AddCodes.f k d2.1 d2.2.1 d2.2.2.1 d2.2.2.2).bind fun p4 =>
  (impl_NumberOfCode.f k d2.1 d2.2.1 d2.2.2.1).bind fun p5 => (spec_NumberOfCode.f k d2.1 d2.2.1 d2.2.2.1).bind fun p6 => (impl_OppositeCode.f k d2.1 d2.2.1 d2.2.2.1).bind fun p7 => (spec_OppositeCode.f k d2.1 d2.2.1 d2.2.2.1).bind fun p8 =>
  (spec_DrawCodeOfNumber.f mr).bind fun d3 => (impl_CodeOfNumber.f k d3.1 d3.2.1 d3.2.2).bind fun p9 => (spec_CodeOfNumber.f k d3.1 d3.2.1 d3.2.2).bind fun p10 => (impl_ZeroCode.f k d2.1 d2.2.1).bind fun p11 => (spec_ZeroCode.f k d2.1 d2.2.1).bind fun p12 =>
  (impl_CountCodes.f k d3.1 d3.2.1).bind fun p13 => (spec_CountCodes.f k d3.1 d3.2.1).bind fun p14 =>
  if ((p1.2 != p2.2) || ((p1.1.toList != p2.1.toList) || ((p3.2 != p4.2) || ((p3.1.toList != p4.1.toList) || ((p5.2 != p6.2) || ((p5.1 != p6.1) || ((p7.2 != p8.2) || ((p7.1.toList != p8.1.toList) || ((p9.2 != p10.2) || ((p9.1.toList != p10.1.toList) || ((p11.2 != p12.2) || ((p11.1.toList != p12.1.toList) || ((p13.2 != p14.2) || ((p13.1 != p14.1) || ((p7.2 != p5.2) || (p3.2 && !p5.2)))))))))))))))) = true then some false
  else wF3 k d2.1 d2.2.1 d3.1 d3.2.1 d3.2.2 d2.2.2.1 d2.2.2.2 p3.1 p3.2 p5.1 p5.2 p7.1 p9.1 p9.2 p11.1 p11.2 p13.1 p13.2
def wF1 (k : Nat) (a0 a1 : Int) (mr : List Int) (s1 : ByteArray) (l2 : List S40) (v23 : ByteArray) (v24 : Bool) (v27 : List S40) : Option Bool :=
  if v24 = true then (impl_TurnWheels.f k a0 a1 v23 v27).bind fun o => (impl_FewestTurns.f k a0 a1 s1 v23).bind fun p =>
    if (!o.2 || ((o.1.toList != s1.toList) || (!p.2 || decide ((l2.length : Int) < p.1)))) = true then some false
    else (loopF k a0 a1 l2 s1).bind fun q => q.elim (some false) fun nw => if (nw.toList != v23.toList) = true then some false else wF2 k mr
  else wF2 k mr
def laws_FnWheelsTurn.f (k : Nat) (cd mr : List Int) : Option Bool :=
  (laws_big.f cd mr).bind fun b => if b = true then some true else
  (spec_DrawTurnWheels.f k cd).bind fun d => (impl_TurnWheels.f k d.1 d.2.1 d.2.2.1 d.2.2.2).bind fun p1 => (spec_TurnWheels.f k d.1 d.2.1 d.2.2.1 d.2.2.2).bind fun p2 => (impl_BackTurns.f k d.1 d.2.1 d.2.2.2).bind fun p3 => (spec_BackTurns.f k d.1 d.2.1 d.2.2.2).bind fun p4 =>
  (impl_IsCode.f k d.1 d.2.1 d.2.2.1).bind fun p5 => (spec_IsCode.f k d.1 d.2.1 d.2.2.1).bind fun p6 =>
  if (p1.2 != p2.2) = true then some false else if (p1.1.toList != p2.1.toList) = true then some false else
    H9_1 (fun b => if b = true then some false else wF1 k d.1 d.2.1 mr d.2.2.1 d.2.2.2 p1.1 p1.2 p3.1) k p3.1 p4.1 d.1 d.2.1 p1.2 p3.2 p4.2 p5.1 p5.2 p6.1 p6.2
end Go.Proofs.Ytoaekmghlmeflaa.U
namespace Go.Proofs.Ytoaekmghlmeflaa.U
open Go.RowKit Go.Proofs.YtoaekmghlmeflaaW.PrintWords Go.Proofs.YtoaekmghlmeflaaW.PrintLast Go.Proofs.YtoaekmghlmeflaaW.PrintMore
set_option maxRecDepth 100000
set_option maxHeartbeats 4000000
set_option linter.unusedVariables false
variable {R : Ending → World → Prop} {J : World → Prop} {w : World} {l : List Value} {L : List (Nat × Value)} {k : Nat} {r : Bool} {m0 m1 n0 n1 rk v64 v46 v48 v66 : Int} {v56 v40 v41 v42 v60 v50 v35 v37 v44 v52 v58 v62 : ByteArray} {v57 v65 v43 v47 v61 v36 v38 v45 v49 v51 v53 v59 v63 v67 : Bool}
theorem p32 (hF : Fr J l L) (hJ : J w) (hR : ∀ x, J x → R (.returned (.bool true)) x) : (nth 32 (fb Try.f3)).wp Try.prog (bodyPost Try.prog Try.f3 R) ⟨l.toArray, []⟩ w :=
  retst hF.nil hJ rfl rfl rfl (fun _ _ h => h) (hR _ hJ)
theorem p31 (sJ : Stb J) (hF : Fr J l [(25054, .agg #[.int .i64 n0, .int .i64 n1]), (55, .int .i64 rk), (56, .string v56), (57, .bool v57), (64, .int .i64 v64), (65, .bool v65)]) (hJ : J w) (h : wF5 k n0 n1 rk v56 v57 v64 v65 = some r) (hR : ∀ x, J x → R (.returned (.bool r)) x) : (nth 31 (fb Try.f3)).wp Try.prog (bodyPost Try.prog Try.f3 R) ⟨l.toArray, []⟩ w := by
  unfold wF5 at h
  refine ifst (A := bb (rr (ll (nth 31 (fb Try.f3))))) 1 hF hJ rfl rfl rfl rfl (fun hb l hF => ?_) (fun hb l hF => ?_)
  · rw [if_pos hb] at h
    obtain ⟨⟨v78, v79⟩, h1, h⟩ := Option.bind_eq_some_iff.mp h
    refine cst 2 5 hF hJ sJ Try.func31 rfl rfl rfl rfl rfl rfl rfl (by kernel_rfl) rfl rfl (fun hJ => impl_NumberOfCode.calls k _ _ _ _ _ _ h1) rfl fun l w hF hJ => ?_
    replace h := Option.some.inj h
    dsimp only at h
    refine retop hJ hR rfl (fun _ _ h => h) fun S kr => ?_
    refine rsp 2 537 hF hJ rfl rfl (fun hv l hF => ?_) fun hv l hF => ?_
    rotate_left; · rw [hv] at h; refine runE 13 hF hJ rfl fun l hF => ?_; exact kr l _ false hF rfl h
    rw [hv] at h
    refine rsp 5 542 hF hJ rfl rfl (fun hv l hF => ?_) fun hv l hF => ?_
    rotate_left; · rw [hv] at h; refine runE 8 hF hJ rfl fun l hF => ?_; exact kr l _ false hF rfl h
    rw [hv] at h
    refine rsp 3 545 hF hJ rfl rfl (fun hv l hF => ?_) fun hv l hF => ?_
    rotate_left; · rw [hv] at h; refine runE 5 hF hJ rfl fun l hF => ?_; exact kr l _ false hF rfl h
    rw [hv] at h
    refine runE 5 hF hJ rfl fun l hF => ?_; exact kr l _ (decide (rk < v64)) hF rfl h
  · rw [if_neg (by rw [hb]; decide)] at h
    exact p32 hF hJ (by rw [Option.some.inj h]; exact hR)
theorem p30 (sJ : Stb J) (hF : Fr J l [(25054, .agg #[.int .i64 n0, .int .i64 n1]), (55, .int .i64 rk), (56, .string v56), (57, .bool v57), (64, .int .i64 v64), (65, .bool v65), (25039, .agg #[.int .i64 m0, .int .i64 m1]), (40, .string v40), (41, .string v41), (42, .string v42), (43, .bool v43), (60, .string v60)]) (hJ : J w) (h : wF4 k m0 m1 n0 n1 rk v40 v41 v42 v43 v56 v57 v60 v64 v65 = some r) (hR : ∀ x, J x → R (.returned (.bool r)) x) : (nth 30 (fb Try.f3)).wp Try.prog (bodyPost Try.prog Try.f3 R) ⟨l.toArray, []⟩ w := by
  unfold wF4 at h
  refine ifst (A := bb (rr (ll (nth 30 (fb Try.f3))))) 1 hF hJ rfl rfl rfl rfl (fun hb l hF => ?_) (fun hb l hF => ?_)
  · rw [if_pos hb] at h
    obtain ⟨⟨v72, v73⟩, h1, h⟩ := Option.bind_eq_some_iff.mp h
    obtain ⟨⟨v74, v75⟩, h2, h⟩ := Option.bind_eq_some_iff.mp h
    obtain ⟨⟨v76, v77⟩, h3, h⟩ := Option.bind_eq_some_iff.mp h
    dsimp only at h
    refine cst 3 5 hF hJ sJ Try.func29 rfl rfl rfl rfl rfl rfl rfl (by kernel_rfl) rfl rfl (fun hJ => impl_AddCodes.calls k _ _ _ _ _ _ _ h1) rfl fun l w hF hJ => ?_
    refine cst 3 5 hF hJ sJ Try.func24 rfl rfl rfl rfl rfl rfl rfl (by kernel_rfl) rfl rfl (fun hJ => impl_FewestTurns.calls k _ _ _ _ _ _ _ h2) rfl fun l w hF hJ => ?_
    refine cst 3 5 hF hJ sJ Try.func24 rfl rfl rfl rfl rfl rfl rfl (by kernel_rfl) rfl rfl (fun hJ => impl_FewestTurns.calls k _ _ _ _ _ _ _ h3) rfl fun l w hF hJ => ?_
    refine iforf hJ hR rfl rfl (fun _ _ h => h) fun S kt kf => ?_
    refine rsp 3 511 hF hJ rfl rfl (fun hv l hF => ?_) fun hv l hF => ?_
    · rw [hv] at h; refine runE 17 hF hJ rfl fun l hF => ?_; exact kt l _ hF rfl h
    rw [hv] at h
    refine rsp 5 516 hF hJ rfl rfl (fun hv l hF => ?_) fun hv l hF => ?_
    · rw [hv] at h; refine runE 12 hF hJ rfl fun l hF => ?_; exact kt l _ hF rfl h
    rw [hv] at h
    refine rsp 4 520 hF hJ rfl rfl (fun hv l hF => ?_) fun hv l hF => ?_
    · rw [hv] at h; refine runE 8 hF hJ rfl fun l hF => ?_; exact kt l _ hF rfl h
    rw [hv] at h
    refine rsp 4 524 hF hJ rfl rfl (fun hv l hF => ?_) fun hv l hF => ?_
    · rw [hv] at h; refine runE 4 hF hJ rfl fun l hF => ?_; exact kt l _ hF rfl h
    rw [hv] at h
    refine rsp 4 528 hF hJ rfl rfl (fun hv l hF => ?_) fun hv l hF => ?_
    · rw [hv] at h; exact kt l _ hF rfl h
    rw [hv] at h
    exact kf l _ hF rfl (p31 sJ (hF.sel rfl) hJ h hR)
  · rw [if_neg (by rw [hb]; decide)] at h; exact p31 sJ (hF.sel rfl) hJ h hR
theorem p29 (sJ : Stb J) (hF : Fr J l [(25054, .agg #[.int .i64 n0, .int .i64 n1]), (55, .int .i64 rk), (56, .string v56), (57, .bool v57), (64, .int .i64 v64), (65, .bool v65), (25039, .agg #[.int .i64 m0, .int .i64 m1]), (40, .string v40), (41, .string v41), (42, .string v42), (43, .bool v43), (60, .string v60), (46, .int .i64 v46), (47, .bool v47), (50, .string v50), (61, .bool v61)]) (hJ : J w) (h : wF3 k m0 m1 n0 n1 rk v40 v41 v42 v43 v46 v47 v50 v56 v57 v60 v61 v64 v65 = some r) (hR : ∀ x, J x → R (.returned (.bool r)) x) : (nth 29 (fb Try.f3)).wp Try.prog (bodyPost Try.prog Try.f3 R) ⟨l.toArray, []⟩ w := by
  unfold wF3 at h
  refine ifst (A := bb (rr (ll (nth 29 (fb Try.f3))))) 1 hF hJ rfl rfl rfl rfl (fun hb l hF => ?_) (fun hb l hF => ?_)
  · rw [if_pos hb] at h
    obtain ⟨⟨v68, v69⟩, h1, h⟩ := Option.bind_eq_some_iff.mp h
    obtain ⟨⟨v70, v71⟩, h2, h⟩ := Option.bind_eq_some_iff.mp h
    dsimp only at h
    refine cst 2 5 hF hJ sJ Try.func36 rfl rfl rfl rfl rfl rfl rfl (by kernel_rfl) rfl rfl (fun hJ => impl_CodeOfNumber.calls k _ _ _ _ _ _ h1) rfl fun l w hF hJ => ?_
    refine cst 3 5 hF hJ sJ Try.func29 rfl rfl rfl rfl rfl rfl rfl (by kernel_rfl) rfl rfl (fun hJ => impl_AddCodes.calls k _ _ _ _ _ _ _ h2) rfl fun l w hF hJ => ?_
    refine iforf hJ hR rfl rfl (fun _ _ h => h) fun S kt kf => ?_
    refine rsp 3 469 hF hJ rfl rfl (fun hv l hF => ?_) fun hv l hF => ?_
    · rw [hv] at h; refine runE 17 hF hJ rfl fun l hF => ?_; exact kt l _ hF rfl h
    rw [hv] at h
    refine rsp 5 474 hF hJ rfl rfl (fun hv l hF => ?_) fun hv l hF => ?_
    · rw [hv] at h; refine runE 12 hF hJ rfl fun l hF => ?_; exact kt l _ hF rfl h
    rw [hv] at h
    refine rsp 4 478 hF hJ rfl rfl (fun hv l hF => ?_) fun hv l hF => ?_
    · rw [hv] at h; refine runE 8 hF hJ rfl fun l hF => ?_; exact kt l _ hF rfl h
    rw [hv] at h
    refine rsp 4 482 hF hJ rfl rfl (fun hv l hF => ?_) fun hv l hF => ?_
    · rw [hv] at h; refine runE 4 hF hJ rfl fun l hF => ?_; exact kt l _ hF rfl h
    rw [hv] at h
    refine rsp 4 486 hF hJ rfl rfl (fun hv l hF => ?_) fun hv l hF => ?_
    · rw [hv] at h; exact kt l _ hF rfl h
    rw [hv] at h
    exact kf l _ hF rfl (p30 sJ (hF.sel rfl) hJ h hR)
  · rw [if_neg (by rw [hb]; decide)] at h; exact p30 sJ (hF.sel rfl) hJ h hR
theorem p28 (sJ : Stb J) (hF : Fr J l [(25054, .agg #[.int .i64 n0, .int .i64 n1]), (55, .int .i64 rk), (56, .string v56), (57, .bool v57), (64, .int .i64 v64), (65, .bool v65), (25039, .agg #[.int .i64 m0, .int .i64 m1]), (40, .string v40), (41, .string v41), (42, .string v42), (43, .bool v43), (60, .string v60), (46, .int .i64 v46), (47, .bool v47), (50, .string v50), (61, .bool v61), (35, .string v35), (36, .bool v36), (37, .string v37), (38, .bool v38), (44, .string v44), (45, .bool v45), (48, .int .i64 v48), (49, .bool v49), (51, .bool v51), (52, .string v52), (53, .bool v53), (58, .string v58), (59, .bool v59), (62, .string v62), (63, .bool v63), (66, .int .i64 v66), (67, .bool v67)]) (hJ : J w) (h : (if ((v36 != v38) || ((v35.toList != v37.toList) || ((v43 != v45) || ((v42.toList != v44.toList) || ((v47 != v49) || ((v46 != v48) || ((v51 != v53) || ((v50.toList != v52.toList) || ((v57 != v59) || ((v56.toList != v58.toList) || ((v61 != v63) || ((v60.toList != v62.toList) || ((v65 != v67) || ((v64 != v66) || ((v51 != v47) || (v43 && !v47)))))))))))))))) = true then some false else wF3 k m0 m1 n0 n1 rk v40 v41 v42 v43 v46 v47 v50 v56 v57 v60 v61 v64 v65) = some r) (hR : ∀ x, J x → R (.returned (.bool r)) x) : (nth 28 (fb Try.f3)).wp Try.prog (bodyPost Try.prog Try.f3 R) ⟨l.toArray, []⟩ w := by
  refine sq2 rfl ?_
  refine iforf hJ hR rfl rfl (fun _ _ h => h) fun S kt kf => ?_
  refine rsp 4 376 hF hJ rfl rfl (fun hv l hF => ?_) fun hv l hF => ?_
  · rw [hv] at h; refine runE 76 hF hJ rfl fun l hF => ?_; exact kt l _ hF rfl h
  rw [hv] at h
  refine rsp 5 381 hF hJ rfl rfl (fun hv l hF => ?_) fun hv l hF => ?_
  · rw [hv] at h; refine runE 71 hF hJ rfl fun l hF => ?_; exact kt l _ hF rfl h
  rw [hv] at h
  refine rsp 5 386 hF hJ rfl rfl (fun hv l hF => ?_) fun hv l hF => ?_
  · rw [hv] at h; refine runE 66 hF hJ rfl fun l hF => ?_; exact kt l _ hF rfl h
  rw [hv] at h
  refine rsp 5 391 hF hJ rfl rfl (fun hv l hF => ?_) fun hv l hF => ?_
  · rw [hv] at h; refine runE 61 hF hJ rfl fun l hF => ?_; exact kt l _ hF rfl h
  rw [hv] at h
  refine rsp 5 396 hF hJ rfl rfl (fun hv l hF => ?_) fun hv l hF => ?_
  · rw [hv] at h; refine runE 56 hF hJ rfl fun l hF => ?_; exact kt l _ hF rfl h
  rw [hv] at h
  refine rsp 5 401 hF hJ rfl rfl (fun hv l hF => ?_) fun hv l hF => ?_
  · rw [hv] at h; refine runE 51 hF hJ rfl fun l hF => ?_; exact kt l _ hF rfl h
  rw [hv] at h
  refine rsp 5 406 hF hJ rfl rfl (fun hv l hF => ?_) fun hv l hF => ?_
  · rw [hv] at h; refine runE 46 hF hJ rfl fun l hF => ?_; exact kt l _ hF rfl h
  rw [hv] at h
  refine rsp 5 411 hF hJ rfl rfl (fun hv l hF => ?_) fun hv l hF => ?_
  · rw [hv] at h; refine runE 41 hF hJ rfl fun l hF => ?_; exact kt l _ hF rfl h
  rw [hv] at h
  refine rsp 5 416 hF hJ rfl rfl (fun hv l hF => ?_) fun hv l hF => ?_
  · rw [hv] at h; refine runE 36 hF hJ rfl fun l hF => ?_; exact kt l _ hF rfl h
  rw [hv] at h
  refine rsp 5 421 hF hJ rfl rfl (fun hv l hF => ?_) fun hv l hF => ?_
  · rw [hv] at h; refine runE 31 hF hJ rfl fun l hF => ?_; exact kt l _ hF rfl h
  rw [hv] at h
  refine rsp 5 426 hF hJ rfl rfl (fun hv l hF => ?_) fun hv l hF => ?_
  · rw [hv] at h; refine runE 26 hF hJ rfl fun l hF => ?_; exact kt l _ hF rfl h
  rw [hv] at h
  refine rsp 5 431 hF hJ rfl rfl (fun hv l hF => ?_) fun hv l hF => ?_
  · rw [hv] at h; refine runE 21 hF hJ rfl fun l hF => ?_; exact kt l _ hF rfl h
  rw [hv] at h
  refine rsp 5 436 hF hJ rfl rfl (fun hv l hF => ?_) fun hv l hF => ?_
  · rw [hv] at h; refine runE 16 hF hJ rfl fun l hF => ?_; exact kt l _ hF rfl h
  rw [hv] at h
  refine rsp 5 441 hF hJ rfl rfl (fun hv l hF => ?_) fun hv l hF => ?_
  · rw [hv] at h; refine runE 11 hF hJ rfl fun l hF => ?_; exact kt l _ hF rfl h
  rw [hv] at h
  refine rsp 5 446 hF hJ rfl rfl (fun hv l hF => ?_) fun hv l hF => ?_
  · rw [hv] at h; refine runE 6 hF hJ rfl fun l hF => ?_; exact kt l _ hF rfl h
  rw [hv] at h
  refine rsp 2 448 hF hJ rfl rfl (fun hw l hF => ?_) fun hw l hF => ?_
  · rw [hw] at h
    refine rsp 4 452 hF hJ rfl rfl (fun hv l hF => ?_) fun hv l hF => ?_
    · first | (rw [hv] at h; exact kt l _ hF rfl h) | exact absurd hv (by decide)
    first | rw [hv] at h | skip
    exact kf l _ hF rfl (p29 sJ (hF.sel rfl) hJ (by rw [hw]; exact h) hR)
  · rw [hw] at h
    refine rsp 4 452 hF hJ rfl rfl (fun hv l hF => ?_) fun hv l hF => ?_
    · first | (rw [hv] at h; exact kt l _ hF rfl h) | exact absurd hv (by decide)
    first | rw [hv] at h | skip
    exact kf l _ hF rfl (p29 sJ (hF.sel rfl) hJ (by rw [hw]; exact h) hR)
end Go.Proofs.Ytoaekmghlmeflaa.U
namespace Go.Proofs.Ytoaekmghlmeflaa.U
open Go.RowKit Go.Proofs.YtoaekmghlmeflaaW.PrintWords Go.Proofs.YtoaekmghlmeflaaW.PrintLast Go.Proofs.YtoaekmghlmeflaaW.PrintMore
set_option maxRecDepth 100000
set_option maxHeartbeats 4000000
set_option linter.unusedVariables false
variable {R : Ending → World → Prop} {J : World → Prop} {w : World} {l : List Value} {k : Nat} {r : Bool}
theorem p11 {A1 : Option Addr} {c1 : Nat} {mr : List Int} (sJ : Stb J) (hm : ∀ x, J x → Kd.C (Kd.int .u8) x A1 mr.length mr) (hc1 : mr.length ≤ c1) (hF : Fr J l [(1, .slice A1 mr.length c1)]) (hJ : J w) (h : wF2 k mr = some r) (hR : ∀ x, J x → R (.returned (.bool r)) x) : (nth 11 (fb Try.f3)).wp Try.prog (bodyPost Try.prog Try.f3 R) ⟨l.toArray, []⟩ w := by
  unfold wF2 at h
  obtain ⟨⟨b0, b1, v33, d0, d1⟩, g1, h⟩ := Option.bind_eq_some_iff.mp h; dsimp only at h
  obtain ⟨⟨v35, v36⟩, h1, h⟩ := Option.bind_eq_some_iff.mp h; dsimp only at h
  obtain ⟨⟨v37, v38⟩, h2, h⟩ := Option.bind_eq_some_iff.mp h; dsimp only at h
  obtain ⟨⟨m0, m1, v40, v41⟩, g2, h⟩ := Option.bind_eq_some_iff.mp h; dsimp only at h
  obtain ⟨⟨v42, v43⟩, h3, h⟩ := Option.bind_eq_some_iff.mp h; dsimp only at h
  obtain ⟨⟨v44, v45⟩, h4, h⟩ := Option.bind_eq_some_iff.mp h; dsimp only at h
  obtain ⟨⟨v46, v47⟩, h5, h⟩ := Option.bind_eq_some_iff.mp h; dsimp only at h
  obtain ⟨⟨v48, v49⟩, h6, h⟩ := Option.bind_eq_some_iff.mp h; dsimp only at h
  obtain ⟨⟨v50, v51⟩, h7, h⟩ := Option.bind_eq_some_iff.mp h; dsimp only at h
  obtain ⟨⟨v52, v53⟩, h8, h⟩ := Option.bind_eq_some_iff.mp h; dsimp only at h
  obtain ⟨⟨n0, n1, rk⟩, g3, h⟩ := Option.bind_eq_some_iff.mp h; dsimp only at h
  obtain ⟨⟨v56, v57⟩, h9, h⟩ := Option.bind_eq_some_iff.mp h; dsimp only at h
  obtain ⟨⟨v58, v59⟩, h10, h⟩ := Option.bind_eq_some_iff.mp h; dsimp only at h
  obtain ⟨⟨v60, v61⟩, h11, h⟩ := Option.bind_eq_some_iff.mp h; dsimp only at h
  obtain ⟨⟨v62, v63⟩, h12, h⟩ := Option.bind_eq_some_iff.mp h; dsimp only at h
  obtain ⟨⟨v64, v65⟩, h13, h⟩ := Option.bind_eq_some_iff.mp h; dsimp only at h
  obtain ⟨⟨v66, v67⟩, h14, h⟩ := Option.bind_eq_some_iff.mp h; dsimp only at h
  refine dst rfl rfl ?_
  refine run_ 1 rfl hF hJ fun l hF => callB Try.func26 (spec_DrawTurnWheel.calls k A1 c1 mr _ _ _ _ _ _ (hm _ hJ) hc1 g1) hF hJ sJ rfl rfl rfl rfl (by kernel_rfl) rfl rfl fun l w hF hJ => ?_
  refine run_ 4 rfl hF hJ fun l hF => allocL (.inl rfl) hF rfl fun l w1 x1 hF e1 B1 q1 s1 => allocL (.inr rfl) hF rfl fun l w2 x2 hF e2 B2 q2 s2 => ?_
  have i1 := blk_below e1 B2
  refine storeL (.inl rfl) hF rfl rfl i1 fun w3 f1 B3 o3 => ?_
  have C3 : Below w.heap.size w w3 := B3 w (below_step B1 B2) (by omega)
  have f2 := o3 x2 40 0 0 (by omega) e2
  refine run_ 1 rfl hF (sJ _ _ hJ C3) fun l hF => storeL (.inr rfl) hF rfl rfl f2 fun w4 f3 B4 o4 => ?_
  have C4 : Below w.heap.size w w4 := B4 w C3 (by omega)
  have f4 := o4 x1 25 _ _ (by omega) f1
  replace hJ : (J w4 ∧ bx w4 x1 25 b0 b1) ∧ bx w4 x2 40 d0 d1 := ⟨⟨sJ _ _ hJ C4, f4⟩, f3⟩
  have sK := (sJ.and (.bx x1 25 b0 b1)).and (.bx x2 40 d0 d1)
  have hF := ((hF.weak (J' := fun w => (J w ∧ bx w x1 25 b0 b1) ∧ bx w x2 40 d0 d1) fun w h => h.1.1).box 25 32 rfl (fun w h => h.1.2) (.inl rfl) (by decide)).box 40 34 rfl (fun w h => h.2) (.inr rfl) (by decide)
  refine wpList_nil (?_ : (rr _).wp _ _ _ _)
  clear e1 B1 q1 s1 e2 B2 q2 s2 i1 f1 B3 o3 C3 f2 f3 B4 o4 C4 f4
  refine cst 3 5 hF hJ sK Try.func25 rfl rfl rfl rfl rfl rfl rfl (by kernel_rfl) rfl rfl (fun hJ => impl_TurnWheel.calls k _ _ _ _ _ _ _ _ h1) rfl fun l w hF hJ => ?_
  refine cst 3 5 hF hJ sK Try.func27 rfl rfl rfl rfl rfl rfl rfl (by kernel_rfl) rfl rfl (fun hJ => spec_TurnWheel.calls k _ _ _ _ _ _ _ _ h2) rfl fun l w hF hJ => ?_
  refine dst rfl rfl ?_
  refine run_ 1 rfl hF hJ fun l hF => callB Try.func28 (spec_DrawAddCodes.calls k A1 c1 mr _ _ _ _ _ (hm _ hJ.1.1) hc1 g2) hF hJ sK rfl rfl rfl rfl (by kernel_rfl) rfl rfl fun l w hF hJ => ?_
  refine run_ 4 rfl hF hJ fun l hF => box1 (.inl rfl) hF hJ sK rfl (by decide) (fun _ => rfl) fun l w x3 hF hJ => runE 2 hF hJ rfl fun l hF => (?_ : (rr _).wp _ _ _ _)
  have s3 := sK.and (.bx x3 25 m0 m1)
  refine cst 3 5 hF hJ s3 Try.func29 rfl rfl rfl rfl rfl rfl rfl (by kernel_rfl) rfl rfl (fun hJ => impl_AddCodes.calls k _ _ _ _ _ _ _ h3) rfl fun l w hF hJ => ?_
  refine cst 3 5 hF hJ s3 Try.func30 rfl rfl rfl rfl rfl rfl rfl (by kernel_rfl) rfl rfl (fun hJ => spec_AddCodes.calls k _ _ _ _ _ _ _ h4) rfl fun l w hF hJ => ?_
  refine cst 2 5 hF hJ s3 Try.func31 rfl rfl rfl rfl rfl rfl rfl (by kernel_rfl) rfl rfl (fun hJ => impl_NumberOfCode.calls k _ _ _ _ _ _ h5) rfl fun l w hF hJ => ?_
  refine cst 2 5 hF hJ s3 Try.func32 rfl rfl rfl rfl rfl rfl rfl (by kernel_rfl) rfl rfl (fun hJ => spec_NumberOfCode.calls k _ _ _ _ _ _ h6) rfl fun l w hF hJ => ?_
  refine cst 2 5 hF hJ s3 Try.func33 rfl rfl rfl rfl rfl rfl rfl (by kernel_rfl) rfl rfl (fun hJ => impl_OppositeCode.calls k _ _ _ _ _ _ h7) rfl fun l w hF hJ => ?_
  refine cst 2 5 hF hJ s3 Try.func34 rfl rfl rfl rfl rfl rfl rfl (by kernel_rfl) rfl rfl (fun hJ => spec_OppositeCode.calls k _ _ _ _ _ _ h8) rfl fun l w hF hJ => ?_
  refine dst rfl rfl ?_
  refine run_ 1 rfl hF hJ fun l hF => callB Try.func35 (spec_DrawCodeOfNumber.calls A1 c1 mr _ _ _ _ (hm _ hJ.1.1.1) hc1 g3) hF hJ s3 rfl rfl rfl rfl (by kernel_rfl) rfl rfl fun l w hF hJ => ?_
  refine run_ 3 rfl hF hJ fun l hF => box1 (.inl rfl) hF hJ s3 rfl (by decide) (fun _ => rfl) fun l w x4 hF hJ => runE 1 hF hJ rfl fun l hF => (?_ : (rr _).wp _ _ _ _)
  have s4 := s3.and (.bx x4 25 n0 n1)
  refine cst 2 5 hF hJ s4 Try.func36 rfl rfl rfl rfl rfl rfl rfl (by kernel_rfl) rfl rfl (fun hJ => impl_CodeOfNumber.calls k _ _ _ _ _ _ h9) rfl fun l w hF hJ => ?_
  refine cst 2 5 hF hJ s4 Try.func37 rfl rfl rfl rfl rfl rfl rfl (by kernel_rfl) rfl rfl (fun hJ => spec_CodeOfNumber.calls k _ _ _ _ _ _ h10) rfl fun l w hF hJ => ?_
  refine cst 1 5 hF hJ s4 Try.func38 rfl rfl rfl rfl rfl rfl rfl (by kernel_rfl) rfl rfl (fun hJ => impl_ZeroCode.calls k _ _ _ _ _ h11) rfl fun l w hF hJ => ?_
  refine cst 1 5 hF hJ s4 Try.func39 rfl rfl rfl rfl rfl rfl rfl (by kernel_rfl) rfl rfl (fun hJ => spec_ZeroCode.calls k _ _ _ _ _ h12) rfl fun l w hF hJ => ?_
  refine cst 1 5 hF hJ s4 Try.func40 rfl rfl rfl rfl rfl rfl rfl (by kernel_rfl) rfl rfl (fun hJ => impl_CountCodes.calls k _ _ _ _ _ h13) rfl fun l w hF hJ => ?_
  refine cst 1 5 hF hJ s4 Try.func41 rfl rfl rfl rfl rfl rfl rfl (by kernel_rfl) rfl rfl (fun hJ => spec_CountCodes.calls k _ _ _ _ _ h14) rfl fun l w hF hJ => ?_
  exact p28 s4 (hF.sel rfl) hJ h fun x hx => hR x hx.1.1.1.1
end Go.Proofs.Ytoaekmghlmeflaa.U
namespace Go.Proofs.Ytoaekmghlmeflaa.U
open Go.RowKit Go.Proofs.YtoaekmghlmeflaaW.PrintWords Go.Proofs.YtoaekmghlmeflaaW.PrintLast Go.Proofs.YtoaekmghlmeflaaW.PrintMore
set_option maxRecDepth 100000
set_option maxHeartbeats 4000000
set_option linter.unusedVariables false
def lpo (f : Func) : Code := bb (bb (rr (ll (nth 4 (bb (rr (ll (nth 10 (fb f)))))))))
def lb1 (f : Func) : Code := bb (ll (nth 2 (lpo f)))
def lpi (f : Func) : Code := bb (bb (rr (ll (nth 4 (lb1 f)))))
def KR (A1 : Option Addr) (c1 n1 g1 : Nat) (v8 : ByteArray) (A7 : Option Addr) (n7 c7 : Nat) (i : Int) : List (Nat × Value) := [(1, .slice A1 n1 c1), (5, .pointer (some ⟨g1, 0, none⟩)), (8, .string v8), (213, .slice A7 n7 c7), (214, .int .i64 (n7 : Int)), (215, .int .i64 i)]
def KO (A1 : Option Addr) (c1 n1 g1 : Nat) (a0 a1 : Int) (v8 : ByteArray) (A7 : Option Addr) (n7 c7 : Nat) (i : Int) : List (Nat × Value) := (25005, .agg #[.int .i64 a0, .int .i64 a1]) :: KR A1 c1 n1 g1 v8 A7 n7 c7 i
variable {R : Ending → World → Prop} {J : World → Prop} {Q : Exit → Act → World → Prop} {K : Act → World → Prop} {w : World} {l : List Value} {k : Nat} {r : Bool} {A1 A7 : Option Addr} {c1 n1 g1 c7 : Nat} {a0 a1 : Int} {v8 : ByteArray}
theorem lpr {n7 : Nat} {i0 : Int} {nw nx : ByteArray} {gb : Nat} {f0 f1 : Int} {b : Bool} (sJ : Stb J) (hJ : J w) (jb : ∀ x, J x → bx x gb 40 f0 f1) (hQ : ∀ a w, bodyPost Try.prog Try.f3 R .ret a w → Q .ret a w) (hQp : ∀ (c : List PanicEntry) (a : Act) (N : Option Tmp) (v : Value) (w : World), Q (.panic c) (a.put N v) w → Q (.panic c) a w) (hR : ∀ x, J x → R (.returned (.bool r)) x) (hb : b = false → r = false)
    (hK : b = true → ∀ l x, Fr J l ((27, .string nx) :: KO A1 c1 n1 g1 a0 a1 v8 A7 n7 c7 i0) → J x → K ⟨l.toArray, []⟩ x) :
    ∀ (k i : Nat) (l : List Value) (x : World), Fr J l ((251, .pointer (some ⟨w.heap.size, 0, none⟩)) :: (24, .string nw) :: (26, .pointer (some ⟨gb, 0, none⟩)) :: (27, .string nx) :: KO A1 c1 n1 g1 a0 a1 v8 A7 n7 c7 i0) → laws_rng.l0 k nx nw f0 (i : Int) = some b → x.heap[w.heap.size]? = some (.stringIter nx i) → Below w.heap.size w x → Code.rounds Try.prog (lpi Try.f3) (Exit.inBlock 2 (Exit.then K Q)) k ⟨l.toArray, []⟩ x := by
  intro k
  induction k with
  | zero => intro i l x hF h; simp [laws_rng.l0] at h
  | succ k ih =>
    intro i l x hF h hx hB
    unfold laws_rng.l0 at h
    have hJx := sJ _ _ hJ hB
    show (lpi Try.f3).wp Try.prog (Exit.then (Code.rounds Try.prog (lpi Try.f3) (Exit.inBlock 2 (Exit.then K Q)) k) (Exit.inBlock 2 (Exit.then K Q))) _ _
    by_cases c : (i : Int) < (nx.size : Int)
    · rw [if_pos c] at h
      by_cases c1 : bt nx i < 128
      · rw [if_pos c1] at h
        by_cases c2 : (i : Int) < (nw.size : Int)
        · rw [if_pos c2] at h
          have hi : i < nx.size := by omega
          have hbt : bt nx (i : Int) = ((nx[i]'hi).toNat : Int) := (bt_at nx (i : Int) hi).symm
          have hn := Lib.run_next_ascii_at (P := Try.prog) x w.heap.size nx i 0 hx hi (by rw [hbt] at c1; omega)
          rw [← hbt] at hn
          clear hbt
          have hB1 : Below w.heap.size w (x.iterAt w.heap.size nx (i + 1)) := Lib.below_iterAt hB (Nat.le_refl _) nx (i + 1)
          have hx1 : (x.iterAt w.heap.size nx (i + 1)).heap[w.heap.size]? = some (.stringIter nx (i + 1)) := Lib.iterAt_heap x w.heap.size nx i (i + 1) hx
          generalize x.iterAt w.heap.size nx (i + 1) = y at hn hB1 hx1
          refine dst rfl rfl (one1 252 rfl rfl rfl hF (v := .tuple #[.bool true, .int .i64 (i : Int), .int .i32 (bt nx (i : Int))]) (w1 := y) (by simp only [execOp, hF.eval (x := .tmp 251) rfl]; simp [hn]) fun l hF => ?_)
          have hJ' : (J y ∧ y.heap[w.heap.size]? = some (.stringIter nx (i + 1))) ∧ Below w.heap.size w y := ⟨⟨sJ _ _ hJ hB1, hx1⟩, hB1⟩
          have sJ' : Stb fun y => (J y ∧ y.heap[w.heap.size]? = some (.stringIter nx (i + 1))) ∧ Below w.heap.size w y := fun a b ha hb => ⟨⟨sJ a b ha.1.1 hb, blk_below ha.1.2 hb⟩, below_step ha.2 hb⟩
          refine runE 1 hF hJ'.1.1 rfl fun l hF => (?_ : (rr (lpi _)).wp _ _ _ _)
          refine condT hF rfl rfl (blk1 rfl (dst rfl rfl (runE 2 hF hJ'.1.1 rfl fun l hF => (?_ : (rr _).wp _ _ _ _))))
          refine ifopn (J := J) (N := 12) (r := r) hJ' sJ' (fun x hx => hR x hx.1.1) rfl rfl (fun a w h => hQ a w h) (by kernel_rfl) rfl rfl fun S kt kf x2 hJ' => ?_
          refine anys (fun _ h => h.1.1) 2 0 rfl (B := []) (by kernel_rfl) (fun c a N v w h => hQp c a N v w h) hF hJ' (by kernel_rfl) rfl fun l hF => ?_
          refine anyV 2 257 (bn 12 3) (fun c a N v w h => hQp c a N v w h) hF hJ' rfl rfl rfl rfl (fun w _ => opIdx rfl hF rfl rfl (Int.natCast_nonneg i) c w) (by kernel_rfl) fun l hF => ?_
          refine anys (fun _ h => h.1.1) 2 3 rfl (B := []) (by kernel_rfl) (fun c a N v w h => hQp c a N v w h) hF hJ' (by kernel_rfl) rfl fun l hF => ?_
          refine anyV 5 260 (bn 12 6) (fun c a N v w h => hQp c a N v w h) hF hJ' rfl rfl rfl rfl (fun w _ => opIdx rfl hF rfl rfl (Int.natCast_nonneg i) c2 w) (by kernel_rfl) fun l hF => ?_
          refine anys (fun _ h => h.1.1) 2 6 rfl (B := []) (by kernel_rfl) (fun c a N v w h => hQp c a N v w h) hF hJ' (by kernel_rfl) rfl fun l hF => ?_
          refine anyV 8 263 (bn 12 9) (fun c a N v w h => hQp c a N v w h) hF hJ' rfl rfl rfl rfl (fun w _ => opFld (.inr rfl) rfl hF rfl w) (by kernel_rfl) fun l hF => ?_
          refine anyV 9 264 (bn 12 10) (fun c a N v w h => hQp c a N v w h) hF hJ' rfl rfl rfl rfl (fun w hw => opLd3 rfl hF rfl (jb w hw.1.1)) (by kernel_rfl) fun l hF => ?_
          refine ansp (fun _ h => h.1.1) 2 10 266 rfl (B := []) (by kernel_rfl) (fun c a N v w h => hQp c a N v w h) hF hJ' (by kernel_rfl) rfl rfl (fun hv l hF => ?_) fun hv l hF => ?_
          · rw [if_pos hv] at h
            exact done_ (by kernel_rfl) (kt l _ _ hJ' hF rfl (by rw [hb (Option.some.inj h).symm]))
          · rw [if_neg (by rw [hv]; decide)] at h
            refine done_ (by kernel_rfl) (kf l _ _ hJ' hF rfl ?_)
            exact ih (i + 1) l _ (hF.sel rfl) (by exact_mod_cast h) hJ'.1.2 hJ'.2
        · rw [if_neg c2] at h; exact absurd h (by simp)
      · rw [if_neg c1] at h; exact absurd h (by simp)
    · rw [if_neg c] at h
      have hn := Lib.run_next_end_at (P := Try.prog) x w.heap.size nx i 0 hx (by omega)
      refine dst rfl rfl (one1 252 rfl rfl rfl hF (v := .tuple #[.bool false]) (w1 := x) (by simp only [execOp, hF.eval (x := .tmp 251) rfl]; simp [hn]) fun l hF => runE 1 hF hJx rfl fun l hF => (?_ : (rr (lpi _)).wp _ _ _ _))
      refine condF hF rfl rfl ?_
      show Exit.inBlock 2 (Exit.then K Q) (.exit 2) _ _
      exact inBlock_exit (hK (Option.some.inj h).symm l x (hF.sel rfl) hJx)
theorem lpt {v7 : List S40} {res : Option ByteArray} (sJ : Stb J) (j1 : ∀ x, J x → bx x g1 25 a0 a1) (j7 : ∀ x, J x → Kd.C k40 x A7 v7.length v7) (hmax : v7.length ≤ 9223372036854775807) (hQ : ∀ a w, bodyPost Try.prog Try.f3 R .ret a w → Q .ret a w) (hQp : ∀ (c : List PanicEntry) (a : Act) (N : Option Tmp) (v : Value) (w : World), Q (.panic c) (a.put N v) w → Q (.panic c) a w) (hR : ∀ x, J x → R (.returned (.bool r)) x) (hr : res = none → r = false)
    (hK : ∀ nw, res = some nw → ∀ l x, Fr J l [(1, .slice A1 n1 c1), (8, .string v8), (24, .string nw)] → J x → K ⟨l.toArray, []⟩ x) :
    ∀ (ts : List S40) (i : Nat) (nw : ByteArray) (l : List Value) (x : World), v7.drop i = ts → loopF k a0 a1 ts nw = some res → J x → Fr J l ((24, .string nw) :: KO A1 c1 n1 g1 a0 a1 v8 A7 v7.length c7 (i : Int)) → Code.rounds Try.prog (lpo Try.f3) (Exit.inBlock 0 (Exit.then K Q)) (ts.length + 1) ⟨l.toArray, []⟩ x := by
  intro ts
  induction ts with
  | nil =>
    intro i nw l x hd h hJ hF
    have hi : v7.length ≤ i := by have := congrArg List.length hd; simp at this; omega
    refine loph 1 hF hJ rfl rfl rfl rfl rfl (fun _ l hF => hK nw (Option.some.inj h).symm l x (hF.sel rfl) hJ) (fun hb => absurd (of_decide_eq_true hb) (by omega))
  | cons t ts ih =>
    intro i nw l x hd h hJ hF
    have hi : i < v7.length := by have := congrArg List.length hd; simp at this; omega
    have ht : rd_T40 v7 (i : Int) = t := by
      have h1 : v7[i]? = some t := by rw [← List.head?_drop, hd]; rfl
      simp [rd_T40, List.getD_eq_getElem?_getD, h1]
    have hd2 : v7.drop (i + 1) = ts := by rw [← List.tail_drop, hd]; rfl
    unfold loopF at h
    obtain ⟨⟨v27, v28⟩, h1, h⟩ := Option.bind_eq_some_iff.mp h; dsimp only at h
    obtain ⟨⟨v29, v30⟩, h2, h⟩ := Option.bind_eq_some_iff.mp h; dsimp only at h
    refine loph 1 hF hJ rfl rfl rfl rfl rfl (fun hb => absurd hb (by rw [decide_eq_true (by omega)]; decide)) fun _ l hF => ?_
    refine sq2 rfl (blk1 rfl (dst rfl rfl ?_))
    obtain ⟨ad, hx1, hx2⟩ := run_at (c := c7) (j7 x hJ) (Int.natCast_nonneg i) (by omega)
    rw [ht] at hx2
    refine one1 217 rfl rfl rfl hF (v := .pointer (some ad)) (w1 := x) (by simp only [execOp, hF.eval (x := .tmp 213) rfl, hF.eval (x := .tmp 215) rfl]; simp [hx1]) fun l hF => ?_
    refine one1 218 rfl rfl rfl hF (v := .agg #[.int .i64 t.f0, .int .i64 t.f1]) (w1 := x) (by simp only [execOp, hF.eval (x := .tmp 217) rfl]; simp [hx2]) fun l hF => ?_
    refine box1 (.inr rfl) hF hJ sJ rfl (by decide) (fun _ => rfl) fun l w2 gb hF hJ2 => runE 0 hF hJ2 rfl fun l hF => (?_ : (rr _).wp _ _ _ _)
    have s2 : Stb fun x => J x ∧ bx x gb 40 t.f0 t.f1 := sJ.and (.bx gb 40 _ _)
    refine cst 3 5 hF hJ2 s2 Try.func25 rfl rfl rfl rfl rfl rfl rfl (by kernel_rfl) rfl rfl (fun _ => impl_TurnWheel.calls k _ _ _ _ _ _ _ _ h1) rfl fun l w3 hF hJ3 => ?_
    refine cst 3 5 hF hJ3 s2 Try.func24 rfl rfl rfl rfl rfl rfl rfl (by kernel_rfl) rfl rfl (fun _ => impl_FewestTurns.calls k _ _ _ _ _ _ _ h2) rfl fun l w4 hF hJ4 => ?_
    refine sq2 rfl ?_
    refine iforf (J := fun x => J x ∧ bx x gb 40 t.f0 t.f1) (r := r) hJ4 (fun x hx => hR x hx.1) rfl rfl (fun a w h => hQ a w h) fun S kt kf => ?_
    have bad : ∀ {p : Prop}, some none = some res → some false = some r := fun h => by rw [hr (Option.some.inj h).symm]
    refine rsp 3 235 hF hJ4 rfl rfl (fun hv l hF => ?_) fun hv l hF => ?_
    · rw [hv] at h; refine runE 14 hF hJ4 rfl fun l hF => ?_; exact kt l _ hF rfl (bad (p := True) h)
    rw [hv] at h
    refine rsp 4 239 hF hJ4 rfl rfl (fun hv l hF => ?_) fun hv l hF => ?_
    · rw [hv] at h; refine runE 10 hF hJ4 rfl fun l hF => ?_; exact kt l _ hF rfl (bad (p := True) h)
    rw [hv] at h
    refine rsp 4 243 hF hJ4 rfl rfl (fun hv l hF => ?_) fun hv l hF => ?_
    · rw [hv] at h; refine runE 6 hF hJ4 rfl fun l hF => ?_; exact kt l _ hF rfl (bad (p := True) h)
    rw [hv] at h
    refine run_ 2 rfl hF hJ4 fun l hF => one1 246 rfl rfl rfl hF (opFld (.inl rfl) rfl hF rfl _) fun l hF => one1 247 rfl rfl rfl hF (opLd3 rfl hF rfl (j1 _ hJ4.1)) fun l hF => ?_
    refine rsp 2 249 hF hJ4 rfl rfl (fun hv l hF => ?_) fun hv l hF => ?_
    · rw [hv] at h; exact kt l _ hF rfl (bad (p := True) h)
    rw [hv] at h
    replace h : ((laws_rng.f k v27 nw t.f0).bind fun c => if c = true then loopF k a0 a1 ts v27 else some none) = some res := h
    obtain ⟨c, h3, h⟩ := Option.bind_eq_some_iff.mp h
    refine kf l _ hF rfl (?_ : (rr _).wp _ _ _ _)
    refine sq2 rfl (dst rfl rfl (run_ 1 rfl hF hJ4 fun l hF => ?_))
    refine one1 251 rfl rfl rfl hF (v := .pointer (some ⟨w4.heap.size, 0, none⟩)) (w1 := w4.iter v27 0) (by have hu9 := Try.underlying9; simp only [execOp, hF.eval (x := .tmp 250) rfl]; go_simp) fun l hF => wpList_nil (?_ : (rr _).wp _ _ _ _)
    refine blkl (lp := lpi Try.f3) rfl (lpr (r := r) (n7 := v7.length) (i0 := (i : Int)) s2 hJ4 (fun x hx => hx.2) ?_ ?_ (fun x hx => hR x hx.1) ?_ ?_ k 0 l _ (hF.sel rfl) h3 (World.iter_heap w4 v27 0) (below_alloc (Below.refl _ _) _))
    · exact fun a w h => hQ a w h
    · exact fun c a N v w h => hQp c a N v w h
    · intro hc
      rw [if_neg (by rw [hc]; decide)] at h
      exact hr (Option.some.inj h).symm
    · intro hc l x5 hF hJ5
      rw [if_pos hc] at h
      refine reg_ rfl (runE 2 hF hJ5 rfl fun l hF => (?_ : (rr _).wp _ _ _ _))
      refine reg_ rfl (runE 2 hF hJ5 rfl fun l hF => ?_)
      have e : wrap64 ((i : Int) + 1) = ((i + 1 : Nat) : Int) := by unfold wrap64; omega
      have hF2 : Fr J l _ := (hF.sel (M := (24, .string v27) :: KR A1 c1 n1 g1 v8 A7 v7.length c7 (wrap64 ((i : Int) + 1))) rfl).real rfl
      rw [e] at hF2
      exact ih (i + 1) v27 l _ hd2 h hJ5.1 ((hF2.box 25 5 rfl j1 (.inl rfl) (by decide)).sel rfl)
end Go.Proofs.Ytoaekmghlmeflaa.U
namespace Go.Proofs.Ytoaekmghlmeflaa.U
open Go.RowKit Go.Proofs.YtoaekmghlmeflaaW.PrintWords Go.Proofs.YtoaekmghlmeflaaW.PrintLast Go.Proofs.YtoaekmghlmeflaaW.PrintMore
set_option maxRecDepth 100000
set_option maxHeartbeats 4000000
set_option linter.unusedVariables false
variable {R : Ending → World → Prop} {J : World → Prop} {w : World} {l : List Value} {k : Nat} {r : Bool} {A0 A1 A7 A12 A14 : Option Addr} {c0 c1 c7 c12 c14 g1 : Nat} {cd mr : List Int} {v7 v12 v14 : List S40} {a0 a1 : Int} {v6 v8 v10 : ByteArray} {v9 v11 v13 v15 v16 v17 v18 v19 : Bool}
theorem p10 (sJ : Stb J) (hm : ∀ x, J x → Kd.C (Kd.int .u8) x A1 mr.length mr) (hc1 : mr.length ≤ c1) (j1 : ∀ x, J x → bx x g1 25 a0 a1) (j7 : ∀ x, J x → Kd.C k40 x A7 v7.length v7) (j12 : ∀ x, J x → Kd.C k40 x A12 v12.length v12) (q12 : v12.length ≤ c12) (hF : Fr J l [(1, .slice A1 mr.length c1), (5, .pointer (some ⟨g1, 0, none⟩)), (25005, .agg #[.int .i64 a0, .int .i64 a1]), (6, .string v6), (7, .slice A7 v7.length c7), (8, .string v8), (9, .bool v9), (12, .slice A12 v12.length c12)]) (hJ : J w) (h : wF1 k a0 a1 mr v6 v7 v8 v9 v12 = some r) (hR : ∀ x, J x → R (.returned (.bool r)) x) : (nth 10 (fb Try.f3)).wp Try.prog (bodyPost Try.prog Try.f3 R) ⟨l.toArray, []⟩ w := by
  unfold wF1 at h
  refine ifst (A := bb (rr (ll (nth 10 (fb Try.f3))))) 1 hF hJ rfl rfl rfl rfl (fun hb l hF => ?_) (fun hb l hF => ?_)
  · rw [if_pos hb] at h
    obtain ⟨⟨v20, v21⟩, h1, h⟩ := Option.bind_eq_some_iff.mp h
    obtain ⟨⟨v22, v23⟩, h2, h⟩ := Option.bind_eq_some_iff.mp h
    dsimp only at h
    refine cst 3 5 hF hJ sJ Try.func15 rfl rfl rfl rfl rfl rfl rfl (by kernel_rfl) rfl rfl (fun hJ => impl_TurnWheels.calls k _ _ _ A12 c12 v12 _ _ _ (j12 _ hJ) q12 h1) rfl fun l w hF hJ => ?_
    refine cst 3 5 hF hJ sJ Try.func24 rfl rfl rfl rfl rfl rfl rfl (by kernel_rfl) rfl rfl (fun hJ => impl_FewestTurns.calls k _ _ _ _ _ _ _ h2) rfl fun l w hF hJ => ?_
    refine sq2 rfl ?_
    refine iforf hJ hR rfl rfl (fun _ _ h => h) fun S kt kf => ?_
    refine rsp 3 197 hF hJ rfl rfl (fun hv l hF => ?_) fun hv l hF => ?_
    · rw [hv] at h; refine runE 14 hF hJ rfl fun l hF => ?_; exact kt l _ hF rfl h
    rw [hv] at h
    refine rsp 5 202 hF hJ rfl rfl (fun hv l hF => ?_) fun hv l hF => ?_
    · rw [hv] at h; refine runE 9 hF hJ rfl fun l hF => ?_; exact kt l _ hF rfl h
    rw [hv] at h
    refine rsp 4 206 hF hJ rfl rfl (fun hv l hF => ?_) fun hv l hF => ?_
    · rw [hv] at h; refine runE 5 hF hJ rfl fun l hF => ?_; exact kt l _ hF rfl h
    rw [hv] at h
    refine rsp 5 211 hF hJ rfl rfl (fun hv l hF => ?_) fun hv l hF => ?_
    · rw [hv] at h; exact kt l _ hF rfl h
    rw [hv] at h
    refine kf l _ hF rfl (?_ : (rr _).wp _ _ _ _)
    replace h : ((loopF k a0 a1 v7 v6).bind fun q => q.elim (some false) fun nw => if (nw.toList != v8.toList) = true then some false else wF2 k mr) = some r := h
    obtain ⟨q, h3, h⟩ := Option.bind_eq_some_iff.mp h
    refine dst rfl rfl (runE 2 hF hJ rfl fun l hF => (?_ : (rr _).wp _ _ _ _))
    refine sq2 rfl (dst rfl rfl (runE 3 hF hJ rfl fun l hF => (?_ : (rr _).wp _ _ _ _)))
    have hmax := Kd.C_max (j7 _ hJ)
    refine blkl (lp := lpo Try.f3) rfl (lpt (r := r) (res := q) sJ j1 j7 hmax ?_ ?_ hR ?_ ?_ v7 0 v6 l w rfl h3 hJ (hF.sel rfl))
    · exact fun a w h => h
    · exact fun c a N v w h => by cases N <;> exact h
    · intro e; subst e; exact (Option.some.inj h).symm
    · intro nw e l w hF hJ
      subst e
      replace h : (if (nw.toList != v8.toList) = true then some false else wF2 k mr) = some r := h
      refine iforf hJ hR rfl rfl (fun _ _ h => h) fun S kt kf => ?_
      refine rsp 3 271 hF hJ rfl rfl (fun hv l hF => ?_) fun hv l hF => ?_
      · rw [hv] at h; exact kt l _ hF rfl h
      rw [hv] at h
      exact kf l _ hF rfl (p11 sJ hm hc1 (hF.sel rfl) hJ h hR)
  · rw [if_neg (by rw [hb]; decide)] at h; exact p11 sJ hm hc1 (hF.sel rfl) hJ h hR
def w9.T9 : Bool × List (List Nat × List Nat) := (true, [([], []), ([], []), ([0, 1], [0, 1]), ([2], [2]), ([3], [3]), ([3], [3]), ([4, 5, 3], [3, 4, 5]), ([3, 6], [3, 6]), ([7, 3], [7]), ([8], [8]), ([8], [8]), ([9, 10, 8], [8, 9, 10]), ([8, 11], [8, 11]), ([12, 8], [12]), ([13], [13]), ([13], [13]), ([14, 15, 13, 13], [13, 14, 15]), ([16, 13], [13, 16]), ([13, 17], [13, 17]), ([18, 16], [18]), ([19], [19]), ([19], [19]), ([20, 21, 19], [19, 20, 21]), ([19, 22], [19, 22]), ([23, 19], [23]), ([24], [24]), ([24], [24]), ([25, 26, 24], [24, 25, 26]), ([24, 27], [24, 27]), ([28, 24], [28]), ([29], [29]), ([29], [29]), ([31, 29, 29], [29, 31]), ([30, 32, 29], [29, 30, 32]), ([29, 33], [29, 33]), ([34, 32], [34]), ([35], [35]), ([36, 35, 35], [35, 36]), ([35], [35]), ([38, 37, 35], [35, 38]), ([37, 39, 35], [35, 37, 39]), ([35, 40], [35, 40]), ([41, 39], [41]), ([42], [42]), ([42], [42]), ([44, 42, 42], [42, 44]), ([45], [45]), ([45, 46, 42], [42, 45, 46]), ([47, 45, 42], [42, 47]), ([48], [48]), ([48, 49, 42], [42, 48, 49]), ([43, 50, 42], [42, 43, 50]), ([42, 51], [42, 51])])
def w9.B9 : List Nat := [0, 0, 3, 7, 15, 15, 63, 127, 255, 511, 511, 2047, 4095, 8191, 16383, 16383, 65535, 131071, 262143, 524287, 1048575, 1048575, 4194303, 8388607, 16777215, 33554431, 33554431, 134217727, 268435455, 536870911, 1073741823, 1073741823, 3221225471, 8589934591, 17179869183, 34359738367, 68719476735, 137438953471, 68719476735, 549755813887, 1099511627775, 2199023255551, 4398046511103, 8796093022207, 8796093022207, 26388279066623, 61572651155455, 131941395333119, 272678883688447, 554153860399103, 1117103813820415, 2251799813685247, 4503599627370495]
theorem p9 (sJ : Stb J) (hm : ∀ x, J x → Kd.C (Kd.int .u8) x A1 mr.length mr) (hc1 : mr.length ≤ c1) (j1 : ∀ x, J x → bx x g1 25 a0 a1) (j7 : ∀ x, J x → Kd.C k40 x A7 v7.length v7) (j12 : ∀ x, J x → Kd.C k40 x A12 v12.length v12) (q12 : v12.length ≤ c12) (j14 : ∀ x, J x → Kd.C k40 x A14 v14.length v14) (q14 : v14.length ≤ c14) (hF : Fr J l [(1, .slice A1 mr.length c1), (5, .pointer (some ⟨g1, 0, none⟩)), (25005, .agg #[.int .i64 a0, .int .i64 a1]), (6, .string v6), (7, .slice A7 v7.length c7), (8, .string v8), (9, .bool v9), (12, .slice A12 v12.length c12), (10, .string v10), (11, .bool v11), (13, .bool v13), (14, .slice A14 v14.length c14), (15, .bool v15), (16, .bool v16), (17, .bool v17), (18, .bool v18), (19, .bool v19)]) (hJ : J w) (h : (if (v9 != v11) = true then some false else if (v8.toList != v10.toList) = true then some false else H9_1 (fun b => if b = true then some false else wF1 k a0 a1 mr v6 v7 v8 v9 v12) k v12 v14 a0 a1 v9 v13 v15 v16 v17 v18 v19) = some r) (hR : ∀ x, J x → R (.returned (.bool r)) x) : (nth 9 (fb Try.f3)).wp Try.prog (bodyPost Try.prog Try.f3 R) ⟨l.toArray, []⟩ w := by
  refine sq2 rfl ?_
  refine ifopn (J := J) (N := 53) hJ sJ hR rfl rfl (fun _ _ h => h) (by kernel_rfl) rfl rfl fun S kt kf w hJ => ?_
  refine with_tabW (T := w9.T9) (B := w9.B9) (by kernel_rfl) (by kernel_rfl) fun HT_ HW_ => ?_
  refine ansp (fun _ h => h) 4 0 130 HT_.out HW_.out (fun c a N v w h => by cases N <;> exact h) hF hJ (by kernel_rfl) rfl rfl (fun hv l hF => ?_) fun hv l hF => ?_
  · rw [hv] at h
    refine anys (fun _ h => h) 49 4 HT_.out HW_.out (fun c a N v w h => by cases N <;> exact h) hF hJ (by kernel_rfl) rfl fun l hF => ?_; exact done_ (done_of HT_.out (by kernel_rfl)) (kt l _ _ hJ hF rfl h)
  rw [hv] at h
  refine ansp (fun _ h => h) 5 4 135 HT_.out HW_.out (fun c a N v w h => by cases N <;> exact h) hF hJ (by kernel_rfl) rfl rfl (fun hv l hF => ?_) fun hv l hF => ?_
  · rw [hv] at h
    refine anys (fun _ h => h) 44 9 HT_.out HW_.out (fun c a N v w h => by cases N <;> exact h) hF hJ (by kernel_rfl) rfl fun l hF => ?_; exact done_ (done_of HT_.out (by kernel_rfl)) (kt l _ _ hJ hF rfl h)
  rw [hv] at h
  replace h : H9_1 (fun b => if b = true then some false else wF1 k a0 a1 mr v6 v7 v8 v9 v12) k v12 v14 a0 a1 v9 v13 v15 v16 v17 v18 v19 = some r := h
  unfold H9_1 at h
  refine ansp (fun _ h => h) 5 9 140 HT_.out HW_.out (fun c a N v w h => by cases N <;> exact h) hF hJ (by kernel_rfl) rfl rfl (fun hv l hF => ?_) fun hv l hF => ?_
  · rw [hv] at h
    refine anys (fun _ h => h) 39 14 HT_.out HW_.out (fun c a N v w h => by cases N <;> exact h) hF hJ (by kernel_rfl) rfl fun l hF => ?_; exact done_ (done_of HT_.out (by kernel_rfl)) (kt l _ _ hJ hF rfl h)
  rw [hv, if_neg (by decide)] at h
  unfold H9_2 at h
  obtain ⟨t, hA, h⟩ := Option.bind_eq_some_iff.mp h
  refine anys (fun _ h => h) 2 14 HT_.out HW_.out (fun c a N v w h => by cases N <;> exact h) hF hJ (by kernel_rfl) rfl fun l hF => ?_
  refine callA 16 (bn 53 17) HT_.out hF hJ sJ Try.func21 rfl (by kernel_rfl) rfl rfl rfl rfl (by kernel_rfl) rfl rfl ((laws_aTurns.calls k A12 c12 v12 A14 c14 v14 t _ (j12 _ hJ) q12 (j14 _ hJ) q14 hA).mono fun _ _ h => ⟨h.1, h.2.below⟩) fun l w hF hJ => ?_
  refine ansp (fun _ h => h) 3 17 146 HT_.out HW_.out (fun c a N v w h => by cases N <;> exact h) hF hJ (by kernel_rfl) rfl rfl (fun hv l hF => ?_) fun hv l hF => ?_
  · rw [show t = false by simpa using hv] at h
    refine anys (fun _ h => h) 33 20 HT_.out HW_.out (fun c a N v w h => by cases N <;> exact h) hF hJ (by kernel_rfl) rfl fun l hF => ?_; exact done_ (done_of HT_.out (by kernel_rfl)) (kt l _ _ hJ hF rfl h)
  rw [if_pos (show t = true by simpa using hv)] at h
  unfold H9_3 at h
  refine ansp (fun _ h => h) 5 20 151 HT_.out HW_.out (fun c a N v w h => by cases N <;> exact h) hF hJ (by kernel_rfl) rfl rfl (fun hv l hF => ?_) fun hv l hF => ?_
  · rw [hv] at h
    refine anys (fun _ h => h) 28 25 HT_.out HW_.out (fun c a N v w h => by cases N <;> exact h) hF hJ (by kernel_rfl) rfl fun l hF => ?_; exact done_ (done_of HT_.out (by kernel_rfl)) (kt l _ _ hJ hF rfl h)
  rw [hv, if_neg (by decide)] at h
  unfold H9_4 at h
  refine ansp (fun _ h => h) 5 25 156 HT_.out HW_.out (fun c a N v w h => by cases N <;> exact h) hF hJ (by kernel_rfl) rfl rfl (fun hv l hF => ?_) fun hv l hF => ?_
  · rw [hv] at h
    refine anys (fun _ h => h) 23 30 HT_.out HW_.out (fun c a N v w h => by cases N <;> exact h) hF hJ (by kernel_rfl) rfl fun l hF => ?_; exact done_ (done_of HT_.out (by kernel_rfl)) (kt l _ _ hJ hF rfl h)
  rw [hv, if_neg (by decide)] at h
  unfold H9_5 at h
  obtain ⟨t2, hA, h⟩ := Option.bind_eq_some_iff.mp h
  refine anys (fun _ h => h) 2 30 HT_.out HW_.out (fun c a N v w h => by cases N <;> exact h) hF hJ (by kernel_rfl) rfl fun l hF => ?_
  refine callA 32 (bn 53 33) HT_.out hF hJ sJ Try.func22 rfl (by kernel_rfl) rfl rfl rfl rfl (by kernel_rfl) rfl rfl (impl_IsLock.calls _ _ _ _ hA) fun l w hF hJ => ?_
  refine ansp (fun _ h => h) 3 33 162 HT_.out HW_.out (fun c a N v w h => by cases N <;> exact h) hF hJ (by kernel_rfl) rfl rfl (fun hv l hF => ?_) fun hv l hF => ?_
  · rw [hv] at h
    refine anys (fun _ h => h) 17 36 HT_.out HW_.out (fun c a N v w h => by cases N <;> exact h) hF hJ (by kernel_rfl) rfl fun l hF => ?_; exact done_ (done_of HT_.out (by kernel_rfl)) (kt l _ _ hJ hF rfl h)
  rw [hv, if_neg (by decide)] at h
  unfold H9_6 at h
  obtain ⟨t3, hA, h⟩ := Option.bind_eq_some_iff.mp h
  obtain ⟨t4, hB, h⟩ := Option.bind_eq_some_iff.mp h
  refine anys (fun _ h => h) 1 36 HT_.out HW_.out (fun c a N v w h => by cases N <;> exact h) hF hJ (by kernel_rfl) rfl fun l hF => ?_
  refine any1 38 (fun _ h => h) (List.replicate 37 true ++ false :: true :: List.replicate 14 false).toArray (fun c a N v w h => by cases N <;> exact h) hF hJ rfl rfl (take_ofW HT_.out HW_.out (by kernel_rfl)) fun l hF => ?_
  refine callA 37 (bn 53 39) HT_.out hF hJ sJ Try.func22 rfl (by kernel_rfl) rfl rfl rfl rfl (by kernel_rfl) rfl rfl (impl_IsLock.calls _ _ _ _ hA) fun l w hF hJ => ?_
  refine callA 39 (bn 53 40) HT_.out hF hJ sJ Try.func23 rfl (by kernel_rfl) rfl rfl rfl rfl (by kernel_rfl) rfl rfl (spec_IsLock.calls _ _ _ _ hB) fun l w hF hJ => ?_
  refine ansp (fun _ h => h) 3 40 169 HT_.out HW_.out (fun c a N v w h => by cases N <;> exact h) hF hJ (by kernel_rfl) rfl rfl (fun hv l hF => ?_) fun hv l hF => ?_
  · rw [hv] at h
    refine anys (fun _ h => h) 10 43 HT_.out HW_.out (fun c a N v w h => by cases N <;> exact h) hF hJ (by kernel_rfl) rfl fun l hF => ?_; exact done_ (done_of HT_.out (by kernel_rfl)) (kt l _ _ hJ hF rfl h)
  rw [hv, if_neg (by decide)] at h
  unfold H9_7 at h
  refine ansp (fun _ h => h) 3 43 172 HT_.out HW_.out (fun c a N v w h => by cases N <;> exact h) hF hJ (by kernel_rfl) rfl rfl (fun hv l hF => ?_) fun hv l hF => ?_
  · rw [if_pos hv] at h
    refine ansp (fun _ h => h) 3 46 175 HT_.out HW_.out (fun c a N v w h => by cases N <;> exact h) hF hJ (by kernel_rfl) rfl rfl (fun hv l hF => ?_) fun hv l hF => ?_
    · rw [if_pos hv] at h
      refine ansp (fun _ h => h) 4 49 179 HT_.out HW_.out (fun c a N v w h => by cases N <;> exact h) hF hJ (by kernel_rfl) rfl rfl (fun hv l hF => ?_) fun hv l hF => ?_
      · rw [hv] at h; exact done_ (done_of HT_.out (by kernel_rfl)) (kt l _ _ hJ hF rfl h)
      rw [hv] at h
      exact done_ (done_of HT_.out (by kernel_rfl)) (kf l _ _ hJ hF rfl (p10 sJ hm hc1 j1 j7 j12 q12 (hF.sel rfl) hJ h hR))
    · rw [if_neg (by rw [hv]; decide)] at h
      refine ansp (fun _ h => h) 4 49 179 HT_.out HW_.out (fun c a N v w h => by cases N <;> exact h) hF hJ (by kernel_rfl) rfl rfl (fun hv l hF => ?_) fun hv l hF => ?_
      · rw [hv] at h; exact done_ (done_of HT_.out (by kernel_rfl)) (kt l _ _ hJ hF rfl h)
      rw [hv] at h
      exact done_ (done_of HT_.out (by kernel_rfl)) (kf l _ _ hJ hF rfl (p10 sJ hm hc1 j1 j7 j12 q12 (hF.sel rfl) hJ h hR))
  · rw [if_neg (by rw [hv]; decide)] at h
    refine ansp (fun _ h => h) 7 46 179 HT_.out HW_.out (fun c a N v w h => by cases N <;> exact h) hF hJ (by kernel_rfl) rfl rfl (fun hv l hF => ?_) fun hv l hF => ?_
    · rw [hv] at h; exact done_ (done_of HT_.out (by kernel_rfl)) (kt l _ _ hJ hF rfl h)
    rw [hv] at h
    exact done_ (done_of HT_.out (by kernel_rfl)) (kf l _ _ hJ hF rfl (p10 sJ hm hc1 j1 j7 j12 q12 (hF.sel rfl) hJ h hR))
theorem p2 (sJ : Stb J) (hm : ∀ x, J x → Kd.C (Kd.int .u8) x A1 mr.length mr) (hc1 : mr.length ≤ c1) (h0 : ∀ x, J x → Kd.C (Kd.int .u8) x A0 cd.length cd) (hc0 : cd.length ≤ c0) (hF : Fr J l [(0, .slice A0 cd.length c0), (1, .slice A1 mr.length c1)]) (hJ : J w) (h : ((spec_DrawTurnWheels.f k cd).bind fun d => (impl_TurnWheels.f k d.1 d.2.1 d.2.2.1 d.2.2.2).bind fun p1 => (spec_TurnWheels.f k d.1 d.2.1 d.2.2.1 d.2.2.2).bind fun p2 => (impl_BackTurns.f k d.1 d.2.1 d.2.2.2).bind fun p3 => (spec_BackTurns.f k d.1 d.2.1 d.2.2.2).bind fun p4 =>
  (impl_IsCode.f k d.1 d.2.1 d.2.2.1).bind fun p5 => (spec_IsCode.f k d.1 d.2.1 d.2.2.1).bind fun p6 =>
  if (p1.2 != p2.2) = true then some false else if (p1.1.toList != p2.1.toList) = true then some false else
    H9_1 (fun b => if b = true then some false else wF1 k d.1 d.2.1 mr d.2.2.1 d.2.2.2 p1.1 p1.2 p3.1) k p3.1 p4.1 d.1 d.2.1 p1.2 p3.2 p4.2 p5.1 p5.2 p6.1 p6.2) = some r) (hR : ∀ x, J x → R (.returned (.bool r)) x) : (nth 2 (fb Try.f3)).wp Try.prog (bodyPost Try.prog Try.f3 R) ⟨l.toArray, []⟩ w := by
  obtain ⟨⟨a0, a1, v6, v7⟩, g, h⟩ := Option.bind_eq_some_iff.mp h; dsimp only at h
  obtain ⟨⟨v8, v9⟩, h1, h⟩ := Option.bind_eq_some_iff.mp h; dsimp only at h
  obtain ⟨⟨v10, v11⟩, h2, h⟩ := Option.bind_eq_some_iff.mp h; dsimp only at h
  obtain ⟨⟨v12, v13⟩, h3, h⟩ := Option.bind_eq_some_iff.mp h; dsimp only at h
  obtain ⟨⟨v14, v15⟩, h4, h⟩ := Option.bind_eq_some_iff.mp h; dsimp only at h
  obtain ⟨⟨v16, v17⟩, h5, h⟩ := Option.bind_eq_some_iff.mp h; dsimp only at h
  obtain ⟨⟨v18, v19⟩, h6, h⟩ := Option.bind_eq_some_iff.mp h; dsimp only at h
  refine dst rfl rfl (run_ 1 rfl hF hJ fun l hF => ?_)
  refine callR Try.func14 rfl rfl rfl rfl (by kernel_rfl) rfl hF rfl (spec_DrawTurnWheels.calls k A0 c0 cd _ _ _ _ _ (h0 _ hJ) hc0 g) fun e w2 hh => ?_
  obtain ⟨v0, rfl, ho, hb⟩ := hh
  obtain ⟨A7, c7, rfl⟩ := Kd.R_slice ho
  have hC7 := (Kd.R_reads' ho).2.2
  have q7 := (Kd.R_reads' ho).2.1
  refine ⟨_, rfl, fun l hF => ?_⟩
  have s2 := sJ.and (.turns A7 v7.length v7)
  replace hJ : J w2 ∧ Kd.C k40 w2 A7 v7.length v7 := ⟨sJ _ _ hJ hb, hC7⟩
  replace hF := hF.weak (J' := fun x => J x ∧ Kd.C k40 x A7 v7.length v7) fun _ h => h.1
  refine run_ 4 rfl hF hJ fun l hF => box1 (.inl rfl) hF hJ s2 rfl (by decide) (fun _ => rfl) fun l w g1 hF hJ => runE 2 hF hJ rfl fun l hF => (?_ : (rr _).wp _ _ _ _)
  have s3 := s2.and (.bx g1 25 a0 a1)
  refine cst 3 5 hF hJ s3 Try.func15 rfl rfl rfl rfl rfl rfl rfl (by kernel_rfl) rfl rfl (fun hJ => impl_TurnWheels.calls k _ _ _ A7 c7 v7 _ _ _ hJ.1.2 q7 h1) rfl fun l w hF hJ => ?_
  refine cst 3 5 hF hJ s3 Try.func16 rfl rfl rfl rfl rfl rfl rfl (by kernel_rfl) rfl rfl (fun hJ => spec_TurnWheels.calls k _ _ _ A7 c7 v7 _ _ _ hJ.1.2 q7 h2) rfl fun l w hF hJ => ?_
  refine cstS 2 5 hF hJ s3 Try.func17 rfl rfl rfl rfl rfl rfl rfl (by kernel_rfl) rfl rfl (fun hJ => impl_BackTurns.calls k _ _ A7 c7 v7 _ _ _ hJ.1.2 q7 h3) (fun _ _ => rfl) fun A12 c12 l w q12 hF hJ hC => ?_
  replace hF := hF.weak (J' := fun x => ((J x ∧ Kd.C k40 x A7 v7.length v7) ∧ bx x g1 25 a0 a1) ∧ Kd.C k40 x A12 v12.length v12) fun _ h => h.1
  replace hJ := And.intro hJ hC
  have s4 := s3.and (.turns A12 v12.length v12)
  refine cstS 2 5 hF hJ s4 Try.func18 rfl rfl rfl rfl rfl rfl rfl (by kernel_rfl) rfl rfl (fun hJ => spec_BackTurns.calls k _ _ A7 c7 v7 _ _ _ hJ.1.1.2 q7 h4) (fun _ _ => rfl) fun A14 c14 l w q14 hF hJ hC => ?_
  replace hF := hF.weak (J' := fun x => (((J x ∧ Kd.C k40 x A7 v7.length v7) ∧ bx x g1 25 a0 a1) ∧ Kd.C k40 x A12 v12.length v12) ∧ Kd.C k40 x A14 v14.length v14) fun _ h => h.1
  replace hJ := And.intro hJ hC
  have s5 := s4.and (.turns A14 v14.length v14)
  refine cst 2 5 hF hJ s5 Try.func19 rfl rfl rfl rfl rfl rfl rfl (by kernel_rfl) rfl rfl (fun hJ => impl_IsCode.calls k _ _ _ _ _ _ h5) rfl fun l w hF hJ => ?_
  refine cst 2 5 hF hJ s5 Try.func20 rfl rfl rfl rfl rfl rfl rfl (by kernel_rfl) rfl rfl (fun hJ => spec_IsCode.calls k _ _ _ _ _ _ h6) rfl fun l w hF hJ => ?_
  exact p9 s5 (fun x h => hm x h.1.1.1.1) hc1 (fun x h => h.1.1.2) (fun x h => h.1.1.1.2) (fun x h => h.1.2) q12 (fun x h => h.2) q14 (hF.sel rfl) hJ h fun x hx => hR x hx.1.1.1.1
theorem p1 (sJ : Stb J) (hm : ∀ x, J x → Kd.C (Kd.int .u8) x A1 mr.length mr) (hc1 : mr.length ≤ c1) (h0 : ∀ x, J x → Kd.C (Kd.int .u8) x A0 cd.length cd) (hc0 : cd.length ≤ c0) (hF : Fr J l [(0, .slice A0 cd.length c0), (1, .slice A1 mr.length c1)]) (hJ : J w) (h : laws_FnWheelsTurn.f k cd mr = some r) (hR : ∀ x, J x → R (.returned (.bool r)) x) : (nth 1 (fb Try.f3)).wp Try.prog (bodyPost Try.prog Try.f3 R) ⟨l.toArray, []⟩ w := by
  unfold laws_FnWheelsTurn.f at h
  obtain ⟨b, hb, h⟩ := Option.bind_eq_some_iff.mp h
  refine sq2 rfl ?_
  refine cst 2 0 hF hJ sJ Try.func13 rfl rfl rfl rfl rfl rfl rfl (by kernel_rfl) rfl rfl (fun hJ => (laws_big.calls A0 c0 cd A1 c1 mr b _ (h0 _ hJ) hc0 (hm _ hJ) hc1 hb).mono fun _ _ h => ⟨h.1, h.2.below⟩) rfl fun l w hF hJ => ?_
  refine (wp_cond_split (hF.eval (x := .tmp 82) rfl) (fun hc => ?_) fun hc => wp_skip ?_ : (Code.cond (.tmp 82) (bb (rr (ll (nth 1 (fb Try.f3))))) .skip).wp _ _ _ _)
  · rw [if_pos hc] at h
    exact retst hF.nil hJ rfl rfl rfl (fun _ _ h => h) (by rw [Option.some.inj h]; exact hR _ hJ)
  · rw [if_neg (by rw [hc]; decide)] at h
    exact p2 sJ hm hc1 h0 hc0 (hF.sel rfl) hJ h hR
theorem laws_FnWheelsTurn.calls (k : Nat) (A0 : Option Addr) (c0 : Nat) (l0 : List Int) (A1 : Option Addr) (c1 : Nat) (l1 : List Int) (r : Bool) (w : World) (hr0 : Kd.C (Kd.int .u8) w A0 l0.length l0) (hc0 : l0.length ≤ c0) (hr1 : Kd.C (Kd.int .u8) w A1 l1.length l1) (hc1 : l1.length ≤ c1) (h : laws_FnWheelsTurn.f k l0 l1 = some r) :
    Calls Try.prog 3 #[.slice A0 l0.length c0, .slice A1 l1.length c1] w fun e w' => e = .returned (.bool r) ∧ Below w.heap.size w w' := by
  go_enter Try.func3, Try.ntmps3
  have s1 := ((Stb.since w).and (.bytes A1 l1.length l1)).and (.bytes A0 l0.length l0)
  have hJ : (Below w.heap.size w w ∧ Kd.C (Kd.int .u8) w A1 l1.length l1) ∧ Kd.C (Kd.int .u8) w A0 l0.length l0 := ⟨⟨Below.refl _ _, hr1⟩, hr0⟩
  have key : ∀ l : List Value, l.length = 550 → l[0]? = some (.slice A0 l0.length c0) → l[1]? = some (.slice A1 l1.length c1) → (nth 0 (fb Try.f3)).wp Try.prog (bodyPost Try.prog Try.f3 fun e w' => e = .returned (.bool r) ∧ Below w.heap.size w w') ⟨l.toArray, []⟩ w := fun l e0 e1 e2 =>
    sq2 rfl (reg_ rfl (runE 1 (J := fun x => (Below w.heap.size w x ∧ Kd.C (Kd.int .u8) x A1 l1.length l1) ∧ Kd.C (Kd.int .u8) x A0 l0.length l0) (Fr.start e0 e1 e2) hJ rfl fun l hF => p1 s1 (fun x h => h.1.2) hc1 (fun x h => h.2) hc0 (hF.sel rfl) hJ h fun x hx => ⟨rfl, hx.1.1⟩))
  exact key _ rfl rfl rfl
end Go.Proofs.Ytoaekmghlmeflaa.U
