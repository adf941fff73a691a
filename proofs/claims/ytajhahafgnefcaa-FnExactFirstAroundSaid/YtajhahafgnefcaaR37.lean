import Derived.Test.YtajhahafgnefcaaUp
import Derived.Test.YtajhahafgnefcaaR0
import Derived.Test.YtajhahafgnefcaaR2
import Derived.Test.YtajhahafgnefcaaR6
import Derived.Test.YtajhahafgnefcaaR12
import Derived.Test.YtajhahafgnefcaaR36
namespace Go.Proofs.Ytajhahafgnefcaa.R
open Go.RowKit Go.Proofs.YtajhahafgnefcaaW.PrintWords Go.Proofs.YtajhahafgnefcaaW.PrintLast Go.Proofs.YtajhahafgnefcaaW.PrintMore
set_option linter.unusedVariables false
set_option linter.unusedSimpArgs false

theorem R_types2_ {α β : Type} {d : Kd α} {d' : Kd β} {e e' : Nat} {w : World} {base base' : Nat} {ok ok' : Nat → Prop} {v v' : Value} {xs : List α} {ys : List β} (h : Kd.R d e w base ok v xs) (h2 : Kd.R d' e' w base' ok' v' ys) {g : Nat} (hg : v'.ownBlock = some g) (ht : ∀ q, q ∈ e :: d.E → q ≠ e') : Kd.R d e w base (fun k => ok k ∧ k ≠ g) v xs := by
 obtain ⟨inner, ho⟩ := Kd.R_own h2
 obtain ⟨cells, hc⟩ := own_typed ho g hg
 exact Kd.R_types h hc ht
/-! ### Fc: function 70 -/
mutual
def Fc.l0 : Nat → List ByteArray → ByteArray → List Int → List Int → Int → Int → Int → Int → Option (List Int × List Int)
 | 0, _, _, _, _, _, _, _, _ => none
 | k + 1, x1, x2, x8, x9, x27, x28, x331000, x331001 => if x28 < x27 then (if 0 ≤ x28 then (if x28 < (x8.length : Int) then (Fc.l0 k x1 x2 (x8.set (x28 : Int).toNat (-1)) x9 x27 (wrap64 (x28 + 1)) x331000 x331001) else (none)) else (none)) else ((Fg.f k x331000 x331001 x2).bind fun t340 => (if 0 ≤ t340 then (if t340 < (x8.length : Int) then (if t340 < (x9.length : Int) then (Fc.l1 k x1 (x8.set (t340 : Int).toNat 0) (x9.set (t340 : Int).toNat 1) (([x2] : List ByteArray)) 0 x331000 x331001) else (none)) else (none)) else (none)))
def Fc.l1 : Nat → List ByteArray → List Int → List Int → List ByteArray → Int → Int → Int → Option (List Int × List Int)
 | 0, _, _, _, _, _, _, _ => none
 | k + 1, x1, x8, x9, x12, x13, x331000, x331001 => if x13 < (x12.length : Int) then (if 0 ≤ x13 then ((Fg.f k x331000 x331001 (rdOf ByteArray.empty x12 x13)).bind fun t347 => (Fc.l2 k x1 x8 x9 x12 x13 t347 0 x331000 x331001)) else (none)) else (some (x8, x9))
def Fc.l2 : Nat → List ByteArray → List Int → List Int → List ByteArray → Int → Int → Int → Int → Int → Option (List Int × List Int)
 | 0, _, _, _, _, _, _, _, _, _ => none
 | k + 1, x1, x8, x9, x12, x13, x14, x15, x331000, x331001 => if x15 < x331000 then ((some (([1, (-1)] : List Int) : List Int)).bind fun y348 => (Fc.l3 k x1 x8 x9 x12 x13 x14 x15 y348 (y348.length : Int) 0 x331000 x331001)) else (Fc.l1 k x1 x8 x9 x12 (wrap64 (x13 + 1)) x331000 x331001)
def Fc.l3 : Nat → List ByteArray → List Int → List Int → List ByteArray → Int → Int → Int → List Int → Int → Int → Int → Int → Option (List Int × List Int)
 | 0, _, _, _, _, _, _, _, _, _, _, _, _ => none
 | k + 1, x1, x8, x9, x12, x13, x14, x15, x64, x65, x66, x331000, x331001 => if x66 < x65 then (if 0 ≤ x66 then (if x66 < (x64.length : Int) then (if 0 ≤ x13 then (if x13 < (x12.length : Int) then ((FA.f k x331000 x331001 (rdOf ByteArray.empty x12 x13) x15 (rd x64 x66)).bind fun t353 => ((Fg.f k x331000 x331001 t353).bind fun t354 => ((Fn.f k x1 t353).bind fun t355 => (if t355 = true then (Fc.l3 k x1 x8 x9 x12 x13 x14 x15 x64 x65 (wrap64 (x66 + 1)) x331000 x331001) else (if 0 ≤ t354 then (if t354 < (x8.length : Int) then (if (rd x8 t354) < 0 then (if 0 ≤ x14 then (if x14 < (x8.length : Int) then ((some (x8.set (t354 : Int).toNat (wrap64 ((rd x8 x14) + 1)) : List Int)).bind fun y358 => (if x12.length < 8796093022208 then ((some (x12 ++ [t353] : List ByteArray)).bind fun y359 => (if (rd y358 t354) = (wrap64 ((rd y358 x14) + 1)) then (if t354 < (x9.length : Int) then (if x14 < (x9.length : Int) then ((FV.f (wrap64 ((rd x9 t354) + (rd x9 x14))) 1000000000000001).bind fun t366 => (Fc.l3 k x1 y358 (x9.set (t354 : Int).toNat t366) y359 x13 x14 x15 x64 x65 (wrap64 (x66 + 1)) x331000 x331001)) else (none)) else (none)) else (Fc.l3 k x1 y358 x9 y359 x13 x14 x15 x64 x65 (wrap64 (x66 + 1)) x331000 x331001))) else (none))) else (none)) else (none)) else (if 0 ≤ x14 then (if x14 < (x8.length : Int) then (if (rd x8 t354) = (wrap64 ((rd x8 x14) + 1)) then (if t354 < (x9.length : Int) then (if x14 < (x9.length : Int) then ((FV.f (wrap64 ((rd x9 t354) + (rd x9 x14))) 1000000000000001).bind fun t372 => (Fc.l3 k x1 x8 (x9.set (t354 : Int).toNat t372) x12 x13 x14 x15 x64 x65 (wrap64 (x66 + 1)) x331000 x331001)) else (none)) else (none)) else (Fc.l3 k x1 x8 x9 x12 x13 x14 x15 x64 x65 (wrap64 (x66 + 1)) x331000 x331001)) else (none)) else (none))) else (none)) else (none)))))) else (none)) else (none)) else (none)) else (none)) else (Fc.l2 k x1 x8 x9 x12 x13 x14 (wrap64 (x15 + 1)) x331000 x331001)
end
def Fc.f (k : Nat) (a0_0 : Int) (a0_1 : Int) (l1 : List ByteArray) (a2 : ByteArray) : Option (List Int × List Int) := (Fp.f k a0_0 a0_1).bind fun t331 => (if 0 ≤ t331 then (if (t331 : Int).toNat ≤ 35184372088832 then ((some (List.replicate (t331 : Int).toNat 0 : List Int)).bind fun y332 => ((Fp.f k a0_0 a0_1).bind fun t335 => (if 0 ≤ t335 then (if (t335 : Int).toNat ≤ 35184372088832 then (Fc.l0 k l1 a2 y332 (List.replicate (t335 : Int).toNat 0) (y332.length : Int) 0 a0_0 a0_1) else (none)) else (none)))) else (none)) else (none))
theorem Fc.mono_l : ∀ k, (∀ y0 y1 y2 y3 y4 y5 y6 y7, LeO (Fc.l0 k y0 y1 y2 y3 y4 y5 y6 y7) (Fc.l0 (k + 1) y0 y1 y2 y3 y4 y5 y6 y7)) ∧ (∀ y0 y1 y2 y3 y4 y5 y6, LeO (Fc.l1 k y0 y1 y2 y3 y4 y5 y6) (Fc.l1 (k + 1) y0 y1 y2 y3 y4 y5 y6)) ∧ (∀ y0 y1 y2 y3 y4 y5 y6 y7 y8, LeO (Fc.l2 k y0 y1 y2 y3 y4 y5 y6 y7 y8) (Fc.l2 (k + 1) y0 y1 y2 y3 y4 y5 y6 y7 y8)) ∧ (∀ y0 y1 y2 y3 y4 y5 y6 y7 y8 y9 y10 y11, LeO (Fc.l3 k y0 y1 y2 y3 y4 y5 y6 y7 y8 y9 y10 y11) (Fc.l3 (k + 1) y0 y1 y2 y3 y4 y5 y6 y7 y8 y9 y10 y11))
 | 0 => ⟨fun _ _ _ _ _ _ _ _ r h => by simp [Fc.l0] at h, fun _ _ _ _ _ _ _ r h => by simp [Fc.l1] at h, fun _ _ _ _ _ _ _ _ _ r h => by simp [Fc.l2] at h, fun _ _ _ _ _ _ _ _ _ _ _ _ r h => by simp [Fc.l3] at h⟩
 | k + 1 => by
  obtain ⟨ih0, ih1, ih2, ih3⟩ := Fc.mono_l k
  refine ⟨?_, ?_, ?_, ?_⟩
  ·intro y0 y1 y2 y3 y4 y5 y6 y7
   unfold Fc.l0
   repeat' (with_reducible first | exact ih0 _ _ _ _ _ _ _ _ | exact ih1 _ _ _ _ _ _ _ | exact ih2 _ _ _ _ _ _ _ _ _ | exact ih3 _ _ _ _ _ _ _ _ _ _ _ _ | exact Fn.mono _ _ _ | exact Fp.mono _ _ _ | exact FA.mono _ _ _ _ _ _ | exact Fg.mono _ _ _ _ | exact LeO.refl _ | exact LeO.none _ | refine LeO.ite ?_ ?_ | refine LeO.bind ?_ (fun _ => ?_))
  ·intro y0 y1 y2 y3 y4 y5 y6
   unfold Fc.l1
   repeat' (with_reducible first | exact ih0 _ _ _ _ _ _ _ _ | exact ih1 _ _ _ _ _ _ _ | exact ih2 _ _ _ _ _ _ _ _ _ | exact ih3 _ _ _ _ _ _ _ _ _ _ _ _ | exact Fn.mono _ _ _ | exact Fp.mono _ _ _ | exact FA.mono _ _ _ _ _ _ | exact Fg.mono _ _ _ _ | exact LeO.refl _ | exact LeO.none _ | refine LeO.ite ?_ ?_ | refine LeO.bind ?_ (fun _ => ?_))
  ·intro y0 y1 y2 y3 y4 y5 y6 y7 y8
   unfold Fc.l2
   repeat' (with_reducible first | exact ih0 _ _ _ _ _ _ _ _ | exact ih1 _ _ _ _ _ _ _ | exact ih2 _ _ _ _ _ _ _ _ _ | exact ih3 _ _ _ _ _ _ _ _ _ _ _ _ | exact Fn.mono _ _ _ | exact Fp.mono _ _ _ | exact FA.mono _ _ _ _ _ _ | exact Fg.mono _ _ _ _ | exact LeO.refl _ | exact LeO.none _ | refine LeO.ite ?_ ?_ | refine LeO.bind ?_ (fun _ => ?_))
  ·intro y0 y1 y2 y3 y4 y5 y6 y7 y8 y9 y10 y11
   unfold Fc.l3
   repeat' (with_reducible first | exact ih0 _ _ _ _ _ _ _ _ | exact ih1 _ _ _ _ _ _ _ | exact ih2 _ _ _ _ _ _ _ _ _ | exact ih3 _ _ _ _ _ _ _ _ _ _ _ _ | exact Fn.mono _ _ _ | exact Fp.mono _ _ _ | exact FA.mono _ _ _ _ _ _ | exact Fg.mono _ _ _ _ | exact LeO.refl _ | exact LeO.none _ | refine LeO.ite ?_ ?_ | refine LeO.bind ?_ (fun _ => ?_))
theorem Fc.mono : ∀ a0 a1 a2 a3 k, LeO (Fc.f k a0 a1 a2 a3) (Fc.f (k + 1) a0 a1 a2 a3) := by
 intro a0 a1 a2 a3 k
 obtain ⟨ih0, ih1, ih2, ih3⟩ := Fc.mono_l k
 unfold Fc.f
 repeat' (with_reducible first | exact ih0 _ _ _ _ _ _ _ _ | exact ih1 _ _ _ _ _ _ _ | exact ih2 _ _ _ _ _ _ _ _ _ | exact ih3 _ _ _ _ _ _ _ _ _ _ _ _ | exact Fn.mono _ _ _ | exact Fp.mono _ _ _ | exact FA.mono _ _ _ _ _ _ | exact Fg.mono _ _ _ _ | exact LeO.refl _ | exact LeO.none _ | refine LeO.ite ?_ ?_ | refine LeO.bind ?_ (fun _ => ?_))
def Fc.T1 : Bool × List (List Nat × List Nat) := (true, [([], []), ([0], [0]), ([1, 1], [1]), ([], []), ([3, 1], [3]), ([4, 4], [4]), ([2, 4, 0, 1, 2], [2]), ([5, 6, 0, 1, 2, 3, 4, 5, 6], [5])])
def Fc.B1 : List Nat := [0, 1, 3, 0, 11, 27, 31, 127]
theorem Fc.tab1 : rtab .any (opsOf Try.f70 1) = Fc.T1 := by kernel_rfl
theorem Fc.bits1 : waitsOk Fc.T1.2 Fc.B1 = true := by kernel_rfl
def Fc.T21 : Bool × List (List Nat × List Nat) := (true, [([], []), ([], []), ([], []), ([1, 2], [1, 2]), ([3], [3]), ([], []), ([], []), ([5, 6], [5, 6]), ([0, 4, 7], [0, 4, 7]), ([8, 8, 0, 1, 2, 3, 4, 5, 6, 7, 8], [8])])
def Fc.B21 : List Nat := [0, 0, 0, 6, 14, 0, 0, 96, 255, 511]
theorem Fc.tab21 : rtab .any (opsOf Try.f70 21) = Fc.T21 := by kernel_rfl
theorem Fc.bits21 : waitsOk Fc.T21.2 Fc.B21 = true := by kernel_rfl
def Fc.T27 : Bool × List (List Nat × List Nat) := (true, [([], []), ([], []), ([0, 1], [0, 1]), ([2], [2]), ([], []), ([], []), ([4, 5], [4, 5]), ([6], [6]), ([7], [7]), ([3, 8], [3, 8])])
def Fc.B27 : List Nat := [0, 0, 3, 7, 0, 0, 48, 112, 240, 511]
theorem Fc.tab27 : rtab .any (opsOf Try.f70 27) = Fc.T27 := by kernel_rfl
theorem Fc.bits27 : waitsOk Fc.T27.2 Fc.B27 = true := by kernel_rfl
def Fc.T28 : Bool × List (List Nat × List Nat) := (true, [([], []), ([], []), ([], []), ([], []), ([2, 3], [2, 3]), ([4], [4]), ([], []), ([], []), ([6, 7], [6, 7]), ([8], [8]), ([5, 9], [5, 9]), ([10], [10]), ([0, 1, 0, 1, 2, 3, 4, 5, 6, 7, 8, 9, 10, 11], [0, 1]), ([12, 11, 11, 0, 1, 2, 3, 4, 5, 6, 7, 8, 9, 10, 11], [11, 12])])
def Fc.B28 : List Nat := [0, 0, 0, 0, 12, 28, 0, 0, 192, 448, 1020, 2044, 4095, 8191]
theorem Fc.tab28 : rtab .any (opsOf Try.f70 28) = Fc.T28 := by kernel_rfl
theorem Fc.bits28 : waitsOk Fc.T28.2 Fc.B28 = true := by kernel_rfl
set_option maxHeartbeats 8000000 in
set_option maxRecDepth 100000 in
theorem Fc.calls (k : Nat) (a0_0 : Int) (a0_1 : Int) (A1 : Option Addr) (c1 : Nat) (l1 : List ByteArray) (a2 : ByteArray) (r1 : List Int) (r2 : List Int) (w : World) (hr1 : Kd.C Kd.string w A1 l1.length l1) (hc1 : l1.length ≤ c1) (h : Fc.f k a0_0 a0_1 l1 a2 = some (r1, r2)) :
  Calls Try.prog 70 #[.agg #[.int .i64 a0_0, .int .i64 a0_1], .slice A1 l1.length c1, .string a2] w fun e w' => ∃ v0_ v1_ : Value, e = .returned (.tuple #[v0_, v1_]) ∧ Kd.R (Kd.int .i64) 3 w' w.heap.size (fun k_ => some k_ ≠ (v1_ : Value).ownBlock) v0_ r1 ∧ Kd.R (Kd.int .i64) 3 w' w.heap.size (fun k_ => some k_ ≠ (v0_ : Value).ownBlock) v1_ r2 ∧ Below w.heap.size w w' := by
 have hu30 := Try.underlying30
 have hu59 := Try.underlying59
 have HR1 := Aside0.mk hr1
 have HC1 := Aside0.mk hc1
 clear hr1 hc1; have HB := Aside0.mk (Below.refl w.heap.size w)
 have H : ((Fp.f k a0_0 a0_1).bind fun t331 => (if 0 ≤ t331 then (if (t331 : Int).toNat ≤ 35184372088832 then ((some (List.replicate (t331 : Int).toNat 0 : List Int)).bind fun y332 => ((Fp.f k a0_0 a0_1).bind fun t335 => (if 0 ≤ t335 then (if (t335 : Int).toNat ≤ 35184372088832 then (Fc.l0 k l1 a2 y332 (List.replicate (t335 : Int).toNat 0) (y332.length : Int) 0 a0_0 a0_1) else (none)) else (none)))) else (none)) else (none))) = some (r1, r2) := h
 clear h; replace H := Option.bind_eq_some_iff.mp H
 obtain ⟨t331, A40, H⟩ := H
 replace H : (if 0 ≤ t331 then (if (t331 : Int).toNat ≤ 35184372088832 then ((some (List.replicate (t331 : Int).toNat 0 : List Int)).bind fun y332 => ((Fp.f k a0_0 a0_1).bind fun t335 => (if 0 ≤ t335 then (if (t335 : Int).toNat ≤ 35184372088832 then (Fc.l0 k l1 a2 y332 (List.replicate (t335 : Int).toNat 0) (y332.length : Int) 0 a0_0 a0_1) else (none)) else (none)))) else (none)) else (none)) = some (r1, r2) := H
 have A4 := Aside0.mk A40
 clear A40; by_cases c5 : 0 ≤ t331
 ·rw [if_pos c5] at H
  have c5b0 := eq_true c5
  have c5b1 : decide (0 ≤ t331) = true := decide_eq_true c5
  clear c5; by_cases c6 : (t331 : Int).toNat ≤ 35184372088832
  ·rw [if_pos c6] at H
   have c6b0 := eq_true c6
   have c6b1 : decide ((t331 : Int).toNat ≤ 35184372088832) = true := decide_eq_true c6
   clear c6; obtain ⟨y332, hy332⟩ : ∃ y_ : List Int, y_ = (List.replicate (t331 : Int).toNat 0) := ⟨_, rfl⟩
   replace H : ((Fp.f k a0_0 a0_1).bind fun t335 => (if 0 ≤ t335 then (if (t335 : Int).toNat ≤ 35184372088832 then (Fc.l0 k l1 a2 y332 (List.replicate (t335 : Int).toNat 0) (y332.length : Int) 0 a0_0 a0_1) else (none)) else (none))) = some (r1, r2) := by first | (rw [hy332]; with_reducible exact H) | (have H2_ := (Option.bind_some _ _).symm.trans H; rw [hy332]; with_reducible exact H2_) | (have H2_ := (Option.bind_some _ _).symm.trans H; with_reducible exact H2_) | with_reducible exact H | (rw [hy332]; exact H) | exact H
   have Ny332 := Aside0.mk hy332
   clear hy332; replace H := Option.bind_eq_some_iff.mp H
   obtain ⟨t335, A70, H⟩ := H
   replace H : (if 0 ≤ t335 then (if (t335 : Int).toNat ≤ 35184372088832 then (Fc.l0 k l1 a2 y332 (List.replicate (t335 : Int).toNat 0) (y332.length : Int) 0 a0_0 a0_1) else (none)) else (none)) = some (r1, r2) := H
   have A7 := Aside0.mk A70
   clear A70; by_cases c8 : 0 ≤ t335
   ·rw [if_pos c8] at H
    have c8b0 := eq_true c8
    have c8b1 : decide (0 ≤ t335) = true := decide_eq_true c8
    clear c8; by_cases c9 : (t335 : Int).toNat ≤ 35184372088832
    ·rw [if_pos c9] at H
     have c9b0 := eq_true c9
     have c9b1 : decide ((t335 : Int).toNat ≤ 35184372088832) = true := decide_eq_true c9
     clear c9; obtain ⟨y336, hy336⟩ : ∃ y_ : List Int, y_ = (List.replicate (t335 : Int).toNat 0) := ⟨_, rfl⟩
     replace H : (Fc.l0 k l1 a2 y332 y336 (y332.length : Int) 0 a0_0 a0_1) = some (r1, r2) := by first | (rw [hy336]; with_reducible exact H) | (have H2_ := (Option.bind_some _ _).symm.trans H; rw [hy336]; with_reducible exact H2_) | (have H2_ := (Option.bind_some _ _).symm.trans H; with_reducible exact H2_) | with_reducible exact H | (rw [hy336]; exact H) | exact H
     have Ny336 := Aside0.mk hy336
     clear hy336; have H' := Aside0.mk H
     clear H; go_enter Try.func70, Try.ntmps70
     try go_wp2_with (first | ((with_reducible refine gate_dst (N := 3) rfl ?_); refine box_event ?hg (N := 3) ?hd (cs := #[.int .i64 a0_0, .int .i64 a0_1]) (t := 30) ?hr ?_; (case hd => rfl); (case hg => rfl); (case hr => first | (go_simp; done) | (go_simp; rfl)); intro gb330 hg w10 hbox hb; have n0_ := Aside0.mk (below_step (upB_ HB.out) hb); have n1_ := Aside0.mk (hbox); have n2_ := Aside0.mk ((by rw [hg]; exact (below_size (upB_ HB.out)) : w.heap.size ≤ gb330)); have n3_ := Aside0.mk ((by rw [hg]; exact (below_size (upB_ HB.out)) : w.heap.size ≤ gb330)); clear HB; have HB := n0_; have BK330 := n1_; have GW330 := n2_; have GE330 := n3_; clear n0_ n1_ n2_ n3_; clear hb hbox hg))
     have n0_ := Aside0.mk (blk_drew BK330.out)
     have n1_ := Aside0.mk (below_drew1 HB.out)
     clear BK330; clear HB; have BK330 := n0_; have HB := n1_; clear n0_ n1_; refine start_ (n := 8) (S := fun w' => w'.cell? ⟨gb330, 0, none⟩ = some (.int .i64 a0_0) ∧ w'.cell? ⟨gb330, 1, none⟩ = some (.int .i64 a0_1)) (ds := []) #[false, false, false, false, false, false, false, false] (by kernel_rfl) rfl rfl ⟨(blk_cell BK330.out 0).trans rfl, (blk_cell BK330.out 1).trans rfl⟩ (fun hHeld => ?_); refine with_tabW Fc.tab1 Fc.bits1 (fun HT_ HW_ => ?_)
     generalize w10.drew = w11 at BK330 HB hHeld ⊢
     refine take_ (i := 0) (N := some 20) (v := ?_) (a' := ?_) #[true, false, false, false, false, false, false, false] rfl rfl (take_ofW HT_.out HW_.out (by kernel_rfl)) (fun _ _ _ h => h) (Or.inl ⟨by rfl, ?_⟩) hHeld ?_ ?_
     rotate_left; rintro w' ⟨s0, s1⟩; go_simp; with_reducible rfl
     rotate_left; simp only [pu_]; rfl
     refine take_ (i := 3) (N := some 23) (v := ?_) (a' := ?_) #[true, false, false, true, false, false, false, false] rfl rfl (take_ofW HT_.out HW_.out (by kernel_rfl)) (fun _ _ _ h => h) (Or.inl ⟨by rfl, ?_⟩) hHeld ?_ ?_
     rotate_left; rintro w' ⟨s0, s1⟩; go_simp; with_reducible rfl
     rotate_left; simp only [pu_]; rfl
     refine one_ (i := 1) (N := some 21) #[true, true, false, true, false, false, false, false] rfl rfl (one_of HT_.out (by kernel_rfl)) (by decide) (fun K hK => ?_)
     refine goes_ Try.func73 (by kernel_rfl) rfl #[.agg #[.int .i64 a0_0, .int .i64 a0_1]] (by rfl) rfl rfl (by (try simp only [List.map_toArray, List.map_cons, List.map_nil]); first | done | rfl | (simp only [List.length_drop, List.length_take]; rfl)) ?_
     with_reducible refine (Fp.calls k a0_0 a0_1 t331 _ A4.out).mono ?_
     rintro e w12 ⟨rfl, hb⟩
     refine ⟨_, rfl, ?_⟩
     have n0_ := Aside0.mk (blk_below (g := gb330) (o := .cells #[.int .i64 a0_0, .int .i64 a0_1] 30 (0, 0)) (upK_ BK330.out) hb)
     have n1_ := Aside0.mk (below_step (upB_ HB.out) hb)
     clear BK330; clear HB; have BK330 := n0_; have HB := n1_; clear n0_ n1_; (try clear hb); (try clear hb2); (try clear hk); (try clear hi); refine hK.out _ _ ⟨(blk_cell BK330.out 0).trans rfl, (blk_cell BK330.out 1).trans rfl⟩ (fun hHeld => ?_)
     clear hK K; refine norm_ (a' := ?_) ?_ ?_
     rotate_left
     ·show Act.put _ (some 21) _ = _
      simp only [pu_]
      rfl
     refine join_ (σ := Value × Value) 1 #[true, true, true, true, true, true, true, false] (fun s_ => [(22, s_.1), (24, .int .i64 t335), (25, s_.2), (8, s_.1)]) (fun s_ w' => (w'.cell? ⟨gb330, 0, none⟩ = some (.int .i64 a0_0) ∧ w'.cell? ⟨gb330, 1, none⟩ = some (.int .i64 a0_1)) ∧ (Kd.R (Kd.int .i64) 3 w' w.heap.size (fun k_ => some k_ ≠ (s_.2 : Value).ownBlock) s_.1 y332) ∧ (Kd.R (Kd.int .i64) 3 w' w.heap.size (fun k_ => some k_ ≠ (s_.1 : Value).ownBlock) s_.2 y336) ∧ (w'.heap[gb330]? = some (.cells #[.int .i64 a0_0, .int .i64 a0_1] 30 (0, 0))) ∧ (Below w.heap.size w w')) ?_ ?_
     rotate_left
     ·intro hCont
      refine two_ (i := 2) (j := 4) (Ni := some 22) (Nj := some 24) #[true, true, true, true, false, false, false, false] #[true, true, false, true, true, false, false, false] rfl rfl rfl rfl (two_of HT_.out (by kernel_rfl)) (by decide) (by decide) (fun K hK => ?_) (fun K hK => ?_)
      ·skip
       refine Kd.R_make_step (Kd.int .i64) _ 3 (by rfl) (N := 22) rfl 71 _ _ rfl t331 rfl rfl Try.underlying71 (.int .i64 0) 8 info3 rfl (by decide) (by omega) 0 (ok := fun _ => True) (okp := fun _ => True) rfl (fun _ hk => hk) trivial (of_decide_eq_true (by first | (with_reducible assumption) | assumption)) (Nat.le_trans (Nat.mul_le_mul_right _ (of_decide_eq_true (by first | (with_reducible assumption) | assumption) : t331.toNat ≤ 35184372088832)) (by omega)) (Below.refl _ _) (Nat.le_refl _) ?_
       intro v333 w13 ho14 hb hg_ hnew_
       clear hg_ hnew_; (first | rw [← Ny332.out] at ho14 | (simp only [Int.reduceToNat] at ho14; rw [← Ny332.out] at ho14))
       have n0_ := Aside0.mk (Kd.R_lower ho14 (below_size (upB_ HB.out)))
       have n1_ := Aside0.mk (blk_below (g := gb330) (o := .cells #[.int .i64 a0_0, .int .i64 a0_1] 30 (0, 0)) (upK_ BK330.out) hb)
       have n2_ := Aside0.mk (below_step (upB_ HB.out) hb)
       clear BK330; clear HB; have HO334 := n0_; have BK330 := n1_; have HB := n2_; clear n0_ n1_ n2_; clear hb ho14; refine hK.out _ _ ⟨(blk_cell BK330.out 0).trans rfl, (blk_cell BK330.out 1).trans rfl⟩ (fun hHeld => ?_)
       clear hK K; refine norm_ (a' := ?_) ?_ ?_
       rotate_left
       ·show Act.put _ (some 22) _ = _
        simp only [pu_]
        rfl
       refine one_ (i := 4) (N := some 24) #[true, true, true, true, true, false, false, false] rfl rfl (one_of HT_.out (by kernel_rfl)) (by decide) (fun K hK => ?_)
       refine goes_ Try.func73 (by kernel_rfl) rfl #[.agg #[.int .i64 a0_0, .int .i64 a0_1]] (by rfl) rfl rfl (by (try simp only [List.map_toArray, List.map_cons, List.map_nil]); first | done | rfl | (simp only [List.length_drop, List.length_take]; rfl)) ?_
       with_reducible refine (Fp.calls k a0_0 a0_1 t335 _ A7.out).mono ?_
       rintro e w15 ⟨rfl, hb⟩
       refine ⟨_, rfl, ?_⟩
       have n0_ := Aside0.mk (Kd.R_below (upR_ HO334.out) hb)
       have n1_ := Aside0.mk (blk_below (g := gb330) (o := .cells #[.int .i64 a0_0, .int .i64 a0_1] 30 (0, 0)) (upK_ BK330.out) hb)
       have n2_ := Aside0.mk (below_step (upB_ HB.out) hb)
       clear HO334; clear BK330; clear HB; have HO334 := n0_; have BK330 := n1_; have HB := n2_; clear n0_ n1_ n2_; (try clear hb); (try clear hb2); (try clear hk); (try clear hi); refine hK.out _ _ ⟨(blk_cell BK330.out 0).trans rfl, (blk_cell BK330.out 1).trans rfl⟩ (fun hHeld => ?_)
       clear hK K; refine norm_ (a' := ?_) ?_ ?_
       rotate_left
       ·show Act.put _ (some 24) _ = _
        simp only [pu_]
        rfl
       refine pure_ (i := 6) (N := some 8) (v := ?_) (a' := ?_) #[true, true, true, true, true, false, true, false] rfl rfl (any_of HT_.out (by kernel_rfl)) (fun _ _ _ h => h) (Or.inl ⟨by rfl, ?_⟩) ?_ ?_
       rotate_left; intro w'; go_simp; with_reducible rfl
       rotate_left; simp only [pu_]; rfl
       refine one_ (i := 5) (N := some 25) #[true, true, true, true, true, true, true, false] rfl rfl (one_of HT_.out (by kernel_rfl)) (by decide) (fun K hK => ?_)
       refine Kd.R_make_step (Kd.int .i64) _ 3 (by rfl) (N := 25) rfl 71 _ _ rfl t335 rfl rfl Try.underlying71 (.int .i64 0) 8 info3 rfl (by decide) (by omega) 0 (ok := fun _ => True) (okp := fun _ => True) rfl (fun _ hk => hk) trivial (of_decide_eq_true (by first | (with_reducible assumption) | assumption)) (Nat.le_trans (Nat.mul_le_mul_right _ (of_decide_eq_true (by first | (with_reducible assumption) | assumption) : t335.toNat ≤ 35184372088832)) (by omega)) (Below.refl _ _) (Nat.le_refl _) ?_
       intro v337 w16 ho17 hb hg_ hnew_
       clear hg_ hnew_; (first | rw [← Ny336.out] at ho17 | (simp only [Int.reduceToNat] at ho17; rw [← Ny336.out] at ho17))
       have n0_ := Aside0.mk (Kd.R_elder' (upR_ HO334.out) (Kd.R_base ho17) hb)
       have n1_ := Aside0.mk (Kd.R_lower (Kd.R_new' ho17 (Kd.R_lt (upR_ HO334.out))) (below_size (upB_ HB.out)))
       have n2_ := Aside0.mk (blk_below (g := gb330) (o := .cells #[.int .i64 a0_0, .int .i64 a0_1] 30 (0, 0)) (upK_ BK330.out) hb)
       have n3_ := Aside0.mk (below_step (upB_ HB.out) hb)
       clear HO334; clear BK330; clear HB; have HO334 := n0_; have HO338 := n1_; have BK330 := n2_; have HB := n3_; clear n0_ n1_ n2_ n3_; clear hb ho17; refine hK.out _ _ ⟨(blk_cell BK330.out 0).trans rfl, (blk_cell BK330.out 1).trans rfl⟩ (fun hHeld => ?_)
       clear hK K; refine norm_ (a' := ?_) ?_ ?_
       rotate_left
       ·show Act.put _ (some 25) _ = _
        simp only [pu_]
        rfl
       exact norm_ (by simp only [putAll, Act.put, List.setIfInBounds_toArray, List.set_cons_zero, List.set_cons_succ]) (hCont (v333, v337) _ ⟨hHeld, (by (with_reducible repeat (first | apply Kd.R_alloc | apply Kd.R_drewN | apply Kd.R_drew)); exact Kd.R_mono HO334.out (fun _ hk => hk.2)), (by (with_reducible repeat (first | apply Kd.R_alloc | apply Kd.R_drewN | apply Kd.R_drew)); exact Kd.R_mono HO338.out (fun _ hk => hk.2)), (upK_ BK330.out), (upB_ HB.out)⟩)
      ·skip
       refine goes_ Try.func73 (by kernel_rfl) rfl #[.agg #[.int .i64 a0_0, .int .i64 a0_1]] (by rfl) rfl rfl (by (try simp only [List.map_toArray, List.map_cons, List.map_nil]); first | done | rfl | (simp only [List.length_drop, List.length_take]; rfl)) ?_
       with_reducible refine (Fp.calls k a0_0 a0_1 t335 _ A7.out).mono ?_
       rintro e w13 ⟨rfl, hb⟩
       refine ⟨_, rfl, ?_⟩
       have n0_ := Aside0.mk (blk_below (g := gb330) (o := .cells #[.int .i64 a0_0, .int .i64 a0_1] 30 (0, 0)) (upK_ BK330.out) hb)
       have n1_ := Aside0.mk (below_step (upB_ HB.out) hb)
       clear BK330; clear HB; have BK330 := n0_; have HB := n1_; clear n0_ n1_; (try clear hb); (try clear hb2); (try clear hk); (try clear hi); refine hK.out _ _ ⟨(blk_cell BK330.out 0).trans rfl, (blk_cell BK330.out 1).trans rfl⟩ (fun hHeld => ?_)
       clear hK K; refine norm_ (a' := ?_) ?_ ?_
       rotate_left
       ·show Act.put _ (some 24) _ = _
        simp only [pu_]
        rfl
       refine two_ (i := 2) (j := 5) (Ni := some 22) (Nj := some 25) #[true, true, true, true, true, false, false, false] #[true, true, false, true, true, true, false, false] rfl rfl rfl rfl (two_of HT_.out (by kernel_rfl)) (by decide) (by decide) (fun K hK => ?_) (fun K hK => ?_)
       ·skip
        refine Kd.R_make_step (Kd.int .i64) _ 3 (by rfl) (N := 22) rfl 71 _ _ rfl t331 rfl rfl Try.underlying71 (.int .i64 0) 8 info3 rfl (by decide) (by omega) 0 (ok := fun _ => True) (okp := fun _ => True) rfl (fun _ hk => hk) trivial (of_decide_eq_true (by first | (with_reducible assumption) | assumption)) (Nat.le_trans (Nat.mul_le_mul_right _ (of_decide_eq_true (by first | (with_reducible assumption) | assumption) : t331.toNat ≤ 35184372088832)) (by omega)) (Below.refl _ _) (Nat.le_refl _) ?_
        intro v333 w14 ho15 hb hg_ hnew_
        clear hg_ hnew_; (first | rw [← Ny332.out] at ho15 | (simp only [Int.reduceToNat] at ho15; rw [← Ny332.out] at ho15))
        have n0_ := Aside0.mk (Kd.R_lower ho15 (below_size (upB_ HB.out)))
        have n1_ := Aside0.mk (blk_below (g := gb330) (o := .cells #[.int .i64 a0_0, .int .i64 a0_1] 30 (0, 0)) (upK_ BK330.out) hb)
        have n2_ := Aside0.mk (below_step (upB_ HB.out) hb)
        clear BK330; clear HB; have HO334 := n0_; have BK330 := n1_; have HB := n2_; clear n0_ n1_ n2_; clear hb ho15; refine hK.out _ _ ⟨(blk_cell BK330.out 0).trans rfl, (blk_cell BK330.out 1).trans rfl⟩ (fun hHeld => ?_)
        clear hK K; refine norm_ (a' := ?_) ?_ ?_
        rotate_left
        ·show Act.put _ (some 22) _ = _
         simp only [pu_]
         rfl
        refine pure_ (i := 6) (N := some 8) (v := ?_) (a' := ?_) #[true, true, true, true, true, false, true, false] rfl rfl (any_of HT_.out (by kernel_rfl)) (fun _ _ _ h => h) (Or.inl ⟨by rfl, ?_⟩) ?_ ?_
        rotate_left; intro w'; go_simp; with_reducible rfl
        rotate_left; simp only [pu_]; rfl
        refine one_ (i := 5) (N := some 25) #[true, true, true, true, true, true, true, false] rfl rfl (one_of HT_.out (by kernel_rfl)) (by decide) (fun K hK => ?_)
        refine Kd.R_make_step (Kd.int .i64) _ 3 (by rfl) (N := 25) rfl 71 _ _ rfl t335 rfl rfl Try.underlying71 (.int .i64 0) 8 info3 rfl (by decide) (by omega) 0 (ok := fun _ => True) (okp := fun _ => True) rfl (fun _ hk => hk) trivial (of_decide_eq_true (by first | (with_reducible assumption) | assumption)) (Nat.le_trans (Nat.mul_le_mul_right _ (of_decide_eq_true (by first | (with_reducible assumption) | assumption) : t335.toNat ≤ 35184372088832)) (by omega)) (Below.refl _ _) (Nat.le_refl _) ?_
        intro v337 w16 ho17 hb hg_ hnew_
        clear hg_ hnew_; (first | rw [← Ny336.out] at ho17 | (simp only [Int.reduceToNat] at ho17; rw [← Ny336.out] at ho17))
        have n0_ := Aside0.mk (Kd.R_elder' (upR_ HO334.out) (Kd.R_base ho17) hb)
        have n1_ := Aside0.mk (Kd.R_lower (Kd.R_new' ho17 (Kd.R_lt (upR_ HO334.out))) (below_size (upB_ HB.out)))
        have n2_ := Aside0.mk (blk_below (g := gb330) (o := .cells #[.int .i64 a0_0, .int .i64 a0_1] 30 (0, 0)) (upK_ BK330.out) hb)
        have n3_ := Aside0.mk (below_step (upB_ HB.out) hb)
        clear HO334; clear BK330; clear HB; have HO334 := n0_; have HO338 := n1_; have BK330 := n2_; have HB := n3_; clear n0_ n1_ n2_ n3_; clear hb ho17; refine hK.out _ _ ⟨(blk_cell BK330.out 0).trans rfl, (blk_cell BK330.out 1).trans rfl⟩ (fun hHeld => ?_)
        clear hK K; refine norm_ (a' := ?_) ?_ ?_
        rotate_left
        ·show Act.put _ (some 25) _ = _
         simp only [pu_]
         rfl
        exact norm_ (by simp only [putAll, Act.put, List.setIfInBounds_toArray, List.set_cons_zero, List.set_cons_succ]) (hCont (v333, v337) _ ⟨hHeld, (by (with_reducible repeat (first | apply Kd.R_alloc | apply Kd.R_drewN | apply Kd.R_drew)); exact Kd.R_mono HO334.out (fun _ hk => hk.2)), (by (with_reducible repeat (first | apply Kd.R_alloc | apply Kd.R_drewN | apply Kd.R_drew)); exact Kd.R_mono HO338.out (fun _ hk => hk.2)), (upK_ BK330.out), (upB_ HB.out)⟩)
       ·skip
        refine Kd.R_make_step (Kd.int .i64) _ 3 (by rfl) (N := 25) rfl 71 _ _ rfl t335 rfl rfl Try.underlying71 (.int .i64 0) 8 info3 rfl (by decide) (by omega) 0 (ok := fun _ => True) (okp := fun _ => True) rfl (fun _ hk => hk) trivial (of_decide_eq_true (by first | (with_reducible assumption) | assumption)) (Nat.le_trans (Nat.mul_le_mul_right _ (of_decide_eq_true (by first | (with_reducible assumption) | assumption) : t335.toNat ≤ 35184372088832)) (by omega)) (Below.refl _ _) (Nat.le_refl _) ?_
        intro v337 w14 ho15 hb hg_ hnew_
        clear hg_ hnew_; (first | rw [← Ny336.out] at ho15 | (simp only [Int.reduceToNat] at ho15; rw [← Ny336.out] at ho15))
        have n0_ := Aside0.mk (Kd.R_lower ho15 (below_size (upB_ HB.out)))
        have n1_ := Aside0.mk (blk_below (g := gb330) (o := .cells #[.int .i64 a0_0, .int .i64 a0_1] 30 (0, 0)) (upK_ BK330.out) hb)
        have n2_ := Aside0.mk (below_step (upB_ HB.out) hb)
        clear BK330; clear HB; have HO338 := n0_; have BK330 := n1_; have HB := n2_; clear n0_ n1_ n2_; clear hb ho15; refine hK.out _ _ ⟨(blk_cell BK330.out 0).trans rfl, (blk_cell BK330.out 1).trans rfl⟩ (fun hHeld => ?_)
        clear hK K; refine norm_ (a' := ?_) ?_ ?_
        rotate_left
        ·show Act.put _ (some 25) _ = _
         simp only [pu_]
         rfl
        refine one_ (i := 2) (N := some 22) #[true, true, true, true, true, true, false, false] rfl rfl (one_of HT_.out (by kernel_rfl)) (by decide) (fun K hK => ?_)
        refine Kd.R_make_step (Kd.int .i64) _ 3 (by rfl) (N := 22) rfl 71 _ _ rfl t331 rfl rfl Try.underlying71 (.int .i64 0) 8 info3 rfl (by decide) (by omega) 0 (ok := fun _ => True) (okp := fun _ => True) rfl (fun _ hk => hk) trivial (of_decide_eq_true (by first | (with_reducible assumption) | assumption)) (Nat.le_trans (Nat.mul_le_mul_right _ (of_decide_eq_true (by first | (with_reducible assumption) | assumption) : t331.toNat ≤ 35184372088832)) (by omega)) (Below.refl _ _) (Nat.le_refl _) ?_
        intro v333 w16 ho17 hb hg_ hnew_
        clear hg_ hnew_; (first | rw [← Ny332.out] at ho17 | (simp only [Int.reduceToNat] at ho17; rw [← Ny332.out] at ho17))
        have n0_ := Aside0.mk (Kd.R_elder' (upR_ HO338.out) (Kd.R_base ho17) hb)
        have n1_ := Aside0.mk (Kd.R_lower (Kd.R_new' ho17 (Kd.R_lt (upR_ HO338.out))) (below_size (upB_ HB.out)))
        have n2_ := Aside0.mk (blk_below (g := gb330) (o := .cells #[.int .i64 a0_0, .int .i64 a0_1] 30 (0, 0)) (upK_ BK330.out) hb)
        have n3_ := Aside0.mk (below_step (upB_ HB.out) hb)
        clear HO338; clear BK330; clear HB; have HO338 := n0_; have HO334 := n1_; have BK330 := n2_; have HB := n3_; clear n0_ n1_ n2_ n3_; clear hb ho17; refine hK.out _ _ ⟨(blk_cell BK330.out 0).trans rfl, (blk_cell BK330.out 1).trans rfl⟩ (fun hHeld => ?_)
        clear hK K; refine norm_ (a' := ?_) ?_ ?_
        rotate_left
        ·show Act.put _ (some 22) _ = _
         simp only [pu_]
         rfl
        refine pure_ (i := 6) (N := some 8) (v := ?_) (a' := ?_) #[true, true, true, true, true, true, true, false] rfl rfl (any_of HT_.out (by kernel_rfl)) (fun _ _ _ h => h) (Or.inl ⟨by rfl, ?_⟩) ?_ ?_
        rotate_left; intro w'; go_simp; with_reducible rfl
        rotate_left; simp only [pu_]; rfl
        exact norm_ (by simp only [putAll, Act.put, List.setIfInBounds_toArray, List.set_cons_zero, List.set_cons_succ]) (hCont (v333, v337) _ ⟨hHeld, (by (with_reducible repeat (first | apply Kd.R_alloc | apply Kd.R_drewN | apply Kd.R_drew)); exact Kd.R_mono HO334.out (fun _ hk => hk.2)), (by (with_reducible repeat (first | apply Kd.R_alloc | apply Kd.R_drewN | apply Kd.R_drew)); exact Kd.R_mono HO338.out (fun _ hk => hk.2)), (upK_ BK330.out), (upB_ HB.out)⟩)
     rintro ⟨v333, v337⟩ w18 ⟨hS_, h0_, h1_, h2_, h3_⟩
     have n0_ : Aside0 (Kd.R (Kd.int .i64) 3 w18 w.heap.size (fun k_ => some k_ ≠ (v337 : Value).ownBlock) v333 y332) := ⟨h0_⟩
     have n1_ : Aside0 (Kd.R (Kd.int .i64) 3 w18 w.heap.size (fun k_ => some k_ ≠ (v333 : Value).ownBlock) v337 y336) := ⟨h1_⟩
     have n2_ : Aside0 (w18.heap[gb330]? = some (.cells #[.int .i64 a0_0, .int .i64 a0_1] 30 (0, 0))) := ⟨h2_⟩
     have n3_ : Aside0 (Below w.heap.size w w18) := ⟨h3_⟩
     clear BK330; clear HB; clear h0_ h1_ h2_ h3_; have HO334 := n0_; have HO338 := n1_; have BK330 := n2_; have HB := n3_; clear n0_ n1_ n2_ n3_; have hHeld : w18.cell? ⟨gb330, 0, none⟩ = some (.int .i64 a0_0) ∧ w18.cell? ⟨gb330, 1, none⟩ = some (.int .i64 a0_1) := hS_
     refine norm_ (a' := ?_) ?_ ?_
     rotate_left; simp only [putAll, Act.put, List.setIfInBounds_toArray, List.set_cons_zero, List.set_cons_succ]; rfl
     refine pure_ (i := 7) (N := some 9) (v := ?_) (a' := ?_) #[true, true, true, true, true, true, true, true] rfl rfl (any_of HT_.out (by kernel_rfl)) (fun _ _ _ h => h) (Or.inl ⟨by rfl, ?_⟩) ?_ ?_
     rotate_left; intro w'; go_simp; with_reducible rfl
     rotate_left; simp only [pu_]; rfl
     refine done_ (done_of HT_.out (by kernel_rfl)) ?_
     obtain ⟨Ao19, co19, eo19⟩ := Kd.R_slice HO334.out
     subst eo19
     try go_wp2
     go_loopg [28] k (fun kq v28 w' => ∃ (x8_1 : List Int) (x28_1 : Int), v28 = .int .i64 x28_1 ∧ Aside0 (Fc.l0 kq l1 a2 x8_1 y336 (y332.length : Int) x28_1 a0_0 a0_1 = some (r1, r2)) ∧ Aside0 (kq ≤ k) ∧ Aside0 (Kd.R (Kd.int .i64) 3 w' w.heap.size (fun k_ => some k_ ≠ (v337 : Value).ownBlock) (.slice Ao19 y332.length co19) x8_1) ∧ Aside0 (Kd.R (Kd.int .i64) 3 w' w.heap.size (fun k_ => some k_ ≠ ((.slice Ao19 y332.length co19) : Value).ownBlock) v337 y336) ∧ Aside0 (w'.heap[gb330]? = some (.cells #[.int .i64 a0_0, .int .i64 a0_1] 30 (0, 0))) ∧ Aside0 (Below w.heap.size w w'))
     case atStart => exact ⟨(y332), (0), (by first | rfl | (simp; done) | (simp [*]; done)), H', ⟨Nat.le_refl _⟩, ⟨upR_ HO334.out⟩, ⟨upR_ HO338.out⟩, ⟨upK_ BK330.out⟩, ⟨upB_ HB.out⟩⟩
     case round =>
      clear H'; try clear c1
      try clear p2
      try clear c5
      try clear c5b0
      try clear c5b1
      try clear c6
      try clear c6b0
      try clear c6b1
      try clear c7
      try clear c8
      try clear c8b0
      try clear c8b1
      try clear c9
      try clear c9b0
      try clear c9b1
      obtain ⟨x8_1, x28_1, rfl, HA, HK1, HO_8, HO_9, BK330, HB⟩ := hrel
      have hl8_1 := (Kd.R_reads' HO_8.out).1
      rw [hl8_1] at HO_8
      (try simp only [hl8_1])
      (try simp only [hl8_1] at BK330)
      (try simp only [hl8_1] at HO_9)
      cases gk with
      | zero => exact absurd HA.out (by simp [Fc.l0])
      | succ k1 =>
       have H := HA.out
       clear HA; simp only [Fc.l0] at H
       by_cases c20 : x28_1 < (y332.length : Int)
       ·rw [if_pos c20] at H
        have c20b0 : decide (x28_1 < (y332.length : Int)) = true := decide_eq_true c20
        (try (have c20b0qhl8_1 := c20b0; rw [hl8_1] at c20b0qhl8_1))
        clear c20; by_cases c21 : 0 ≤ x28_1
        ·rw [if_pos c21] at H
         have c21b0 : decide (0 ≤ x28_1) = true := decide_eq_true c21
         clear c21; by_cases c22 : x28_1 < (x8_1.length : Int)
         ·rw [if_pos c22] at H
          have c22b0 : decide (x28_1 < (x8_1.length : Int)) = true := decide_eq_true c22
          (try (have c22b0qhl8_1 := c22b0; rw [hl8_1] at c22b0qhl8_1))
          clear c22; obtain ⟨y339, hy339⟩ : ∃ y_ : List Int, y_ = (x8_1.set (x28_1 : Int).toNat (-1)) := ⟨_, rfl⟩
          replace H : (Fc.l0 k1 l1 a2 y339 y336 (y332.length : Int) (wrap64 (x28_1 + 1)) a0_0 a0_1) = some (r1, r2) := by first | (rw [hy339]; with_reducible exact H) | (have H2_ := (Option.bind_some _ _).symm.trans H; rw [hy339]; with_reducible exact H2_) | (have H2_ := (Option.bind_some _ _).symm.trans H; with_reducible exact H2_) | with_reducible exact H | (rw [hy339]; exact H) | exact H
          have Ny339 := Aside0.mk hy339
          clear hy339; have H' := Aside0.mk H
          clear H; have p23 : 0 ≤ (x28_1 : Int) := of_decide_eq_true (by first | (with_reducible assumption) | assumption)
          have q23 : (x28_1 : Int) < ((x8_1.length : Int) : Int) := of_decide_eq_true (by first | (with_reducible assumption) | assumption)
          obtain ⟨go23, co23, eo23, gb23, gl23, cl23, HG23⟩ := Kd.R_form HO_8.out (by omega)
          (first | cases eo23 | (injection eo23 with ea_ en_ ec_; (first | subst ea_ | (injection ea_ with ea_; subst ea_)); subst ec_; clear en_))
          have GB23 := Aside0.mk gb23
          have GG23 := Aside0.mk HG23
          clear gb23 gl23 HG23; obtain ⟨hx23_0, hf23_0⟩ := Kd.R_celln 0 HO_8.out (x28_1 : Int) p23 q23
          replace p23 := eq_true p23
          replace q23 := eq_true q23
          have HP24 := Kd.R_putg HO_8.out (x28_1 : Int) (-1)
          go_wp2_with (first | ((with_reducible refine gate_store (t := 3) (p := 33) rfl ?_); refine store_event (t := 3) (p := 33) (v := ?vo_w25) (w1 := (wr.setCell ⟨go23, (x28_1 : Int).toNat, none⟩ (.int .i64 (-1)))) ?hg ?ho ?hn ?hr ?_; (case ho => rfl); (case hg => rfl); (case hn => rfl); (case hr => first | (go_simp; done) | (go_simp; rfl)); intro w25 hw; have hg : wr.grownBy w25 (some go23) := (by rw [hw]; exact HP24.2); have hp_ : Kd.R (Kd.int .i64) 3 w25 w.heap.size (fun k_ => some k_ ≠ (v337 : Value).ownBlock) (.slice (some ⟨go23, 0, none⟩) x8_1.length co19) y339 := (by rw [hw, Ny339.out]; exact HP24.1); clear HP24; have n0_ := Aside0.mk (hp_); have n1_ := Aside0.mk (Kd.R_after (v := (.slice (some ⟨go23, 0, none⟩) x8_1.length co19)) (v1 := (.slice (some ⟨go23, 0, none⟩) x8_1.length co19)) (ok := (fun _ => True)) (by (with_reducible repeat (first | apply Kd.R_alloc | apply Kd.R_drewN | apply Kd.R_drew)); exact Kd.R_mono HO_9.out (fun _ hk => ⟨trivial, hk⟩)) hg (.inl rfl)); have n2_ := Aside0.mk (blk_grown (g := gb330) (o := .cells #[.int .i64 a0_0, .int .i64 a0_1] 30 (0, 0)) (upK_ BK330.out) hg (Kd.R_ne HO_8.out BK330.out (by decide))); have n3_ := Aside0.mk ((by rw [hw]; exact below_set (HB.out) GB23.out : Below w.heap.size w w25)); clear HO_8; clear HO_9; clear BK330; clear HB; have HO_8 := n0_; have HO_9 := n1_; have BK330 := n2_; have HB := n3_; clear n0_ n1_ n2_ n3_; clear hg hw hp_))
          (try simp only [← hl8_1])
          go_roundg k1
          case measure => have := HK1.out; omega
          case rel => exact ⟨(y339), (wrap64 (x28_1 + 1)), (by first | rfl | (simp; done) | (simp [*]; done)), H', ⟨by have := HK1.out; omega⟩, ⟨by (try simp only [hl8_1]); (with_reducible repeat (first | apply Kd.R_alloc | apply Kd.R_drewN | apply Kd.R_drew)); exact HO_8.out⟩, ⟨by (try simp only [hl8_1]); (with_reducible repeat (first | apply Kd.R_alloc | apply Kd.R_drewN | apply Kd.R_drew)); exact Kd.R_mono HO_9.out (fun _ hk => hk.2)⟩, ⟨by (try simp only [hl8_1]); (with_reducible repeat (first | refine blk_drewN ?_ _ | refine blk_drew ?_ | refine blk_alloc ?_ _)); exact BK330.out⟩, ⟨upB_ HB.out⟩⟩
         ·rw [if_neg c22] at H
          exact absurd H (by simp)
        ·rw [if_neg c21] at H
         exact absurd H (by simp)
       ·rw [if_neg c20] at H
        have c20b0 : decide (x28_1 < (y332.length : Int)) = false := decide_eq_false c20
        (try (have c20b0qhl8_1 := c20b0; rw [hl8_1] at c20b0qhl8_1))
        clear c20; replace H := Option.bind_eq_some_iff.mp H
        obtain ⟨t340, A260, H⟩ := H
        replace H : (if 0 ≤ t340 then (if t340 < (x8_1.length : Int) then (if t340 < (y336.length : Int) then (Fc.l1 k1 l1 (x8_1.set (t340 : Int).toNat 0) (y336.set (t340 : Int).toNat 1) (([a2] : List ByteArray)) 0 a0_0 a0_1) else (none)) else (none)) else (none)) = some (r1, r2) := H
        have A26 := Aside0.mk A260
        clear A260; by_cases c27 : 0 ≤ t340
        ·rw [if_pos c27] at H
         have c27b0 : decide (0 ≤ t340) = true := decide_eq_true c27
         clear c27; by_cases c28 : t340 < (x8_1.length : Int)
         ·rw [if_pos c28] at H
          have c28b0 : decide (t340 < (x8_1.length : Int)) = true := decide_eq_true c28
          (try (have c28b0qhl8_1 := c28b0; rw [hl8_1] at c28b0qhl8_1))
          clear c28; obtain ⟨y341, hy341⟩ : ∃ y_ : List Int, y_ = (x8_1.set (t340 : Int).toNat 0) := ⟨_, rfl⟩
          replace H : (if t340 < (y336.length : Int) then (Fc.l1 k1 l1 y341 (y336.set (t340 : Int).toNat 1) (([a2] : List ByteArray)) 0 a0_0 a0_1) else (none)) = some (r1, r2) := by first | (rw [hy341]; with_reducible exact H) | (have H2_ := (Option.bind_some _ _).symm.trans H; rw [hy341]; with_reducible exact H2_) | (have H2_ := (Option.bind_some _ _).symm.trans H; with_reducible exact H2_) | with_reducible exact H | (rw [hy341]; exact H) | exact H
          have Ny341 := Aside0.mk hy341
          clear hy341; by_cases c30 : t340 < (y336.length : Int)
          ·rw [if_pos c30] at H
           have c30b0 : decide (t340 < (y336.length : Int)) = true := decide_eq_true c30
           (try (have c30b0qhl8_1 := c30b0; rw [hl8_1] at c30b0qhl8_1))
           clear c30; obtain ⟨y342, hy342⟩ : ∃ y_ : List Int, y_ = (y336.set (t340 : Int).toNat 1) := ⟨_, rfl⟩
           replace H : (Fc.l1 k1 l1 y341 y342 (([a2] : List ByteArray)) 0 a0_0 a0_1) = some (r1, r2) := by first | (rw [hy342]; with_reducible exact H) | (have H2_ := (Option.bind_some _ _).symm.trans H; rw [hy342]; with_reducible exact H2_) | (have H2_ := (Option.bind_some _ _).symm.trans H; with_reducible exact H2_) | with_reducible exact H | (rw [hy342]; exact H) | exact H
           have Ny342 := Aside0.mk hy342
           clear hy342; obtain ⟨y343, hy343⟩ : ∃ y_ : List ByteArray, y_ = (([a2] : List ByteArray)) := ⟨_, rfl⟩
           replace H : (Fc.l1 k1 l1 y341 y342 y343 0 a0_0 a0_1) = some (r1, r2) := by first | (rw [hy343]; with_reducible exact H) | (have H2_ := (Option.bind_some _ _).symm.trans H; rw [hy343]; with_reducible exact H2_) | (have H2_ := (Option.bind_some _ _).symm.trans H; with_reducible exact H2_) | with_reducible exact H | (rw [hy343]; exact H) | exact H
           have Ny343 := Aside0.mk hy343
           clear hy343; have H' := Aside0.mk H
           clear H; have hcz32_0 : wr.cell? ⟨gb330, 0, none⟩ = some (.int .i64 a0_0) := (blk_cell BK330.out 0).trans rfl
           have hcz32_1 : wr.cell? ⟨gb330, 1, none⟩ = some (.int .i64 a0_1) := (blk_cell BK330.out 1).trans rfl
           have hfz32_0 := blk_frozen BK330.out 0
           have hfz32_1 := blk_frozen BK330.out 1
           go_wp2_with (first | ((with_reducible refine gate_callee (f := 71) rfl ?_); refine goesL_ (some 37) rfl rfl Try.func71 (by kernel_rfl) rfl #[.agg #[.int .i64 a0_0, .int .i64 a0_1], .string a2] rfl (by (try simp only [List.map_toArray, List.map_cons, List.map_nil]); first | done | rfl | (simp only [List.length_drop, List.length_take]; rfl)) ?_; (with_reducible refine (Fg.calls k1 a0_0 a0_1 a2 t340 _ A26.out).mono ?_); rintro e w33 ⟨rfl, hb⟩; refine ⟨_, rfl, ?_⟩; have n0_ := Aside0.mk (Kd.R_below (upR_ HO_8.out) hb); have n1_ := Aside0.mk (Kd.R_below (upR_ HO_9.out) hb); have n2_ := Aside0.mk (blk_below (g := gb330) (o := .cells #[.int .i64 a0_0, .int .i64 a0_1] 30 (0, 0)) (upK_ BK330.out) hb); have n3_ := Aside0.mk (below_step (upB_ HB.out) hb); clear HO_8; clear HO_9; clear BK330; clear HB; have HO_8 := n0_; have HO_9 := n1_; have BK330 := n2_; have HB := n3_; clear n0_ n1_ n2_ n3_; (try clear hb); (try clear hb2); (try clear hk); (try clear hi); have p29 : 0 ≤ (t340 : Int) := of_decide_eq_true (by first | (with_reducible assumption) | assumption); have q29 : (t340 : Int) < ((x8_1.length : Int) : Int) := of_decide_eq_true (by first | (with_reducible assumption) | assumption); obtain ⟨go29, co29, eo29, gb29, gl29, cl29, HG29⟩ := Kd.R_form HO_8.out (by omega); (first | cases eo29 | (injection eo29 with ea_ en_ ec_; (first | subst ea_ | (injection ea_ with ea_; subst ea_)); subst ec_; clear en_)); have GB29 := Aside0.mk gb29; have GG29 := Aside0.mk HG29; clear gb29 gl29 HG29; obtain ⟨hx29_0, hf29_0⟩ := Kd.R_celln 0 HO_8.out (t340 : Int) p29 q29; replace p29 := eq_true p29; replace q29 := eq_true q29; obtain ⟨hy34_, hz34_⟩ := Kd.R_celln 0 HO_8.out (t340 : Int) (of_decide_eq_true (by first | (with_reducible assumption) | assumption)) (of_decide_eq_true (by first | (with_reducible assumption) | assumption)); have HP34 := Kd.R_putg HO_8.out (t340 : Int) 0) | ((with_reducible refine gate_store (t := 3) (p := 40) rfl ?_); refine store_event (t := 3) (p := 40) (v := ?vo_w35) (w1 := (w33.setCell ⟨go29, (t340 : Int).toNat, none⟩ (.int .i64 0))) ?hg ?ho ?hn ?hr ?_; (case ho => rfl); (case hg => rfl); (case hn => rfl); (case hr => first | (go_simp; done) | (go_simp; rfl)); intro w35 hw; have hg : w33.grownBy w35 (some go29) := (by rw [hw]; exact HP34.2); have hp_ : Kd.R (Kd.int .i64) 3 w35 w.heap.size (fun k_ => some k_ ≠ (v337 : Value).ownBlock) (.slice (some ⟨go29, 0, none⟩) x8_1.length co19) y341 := (by rw [hw, Ny341.out]; exact HP34.1); clear HP34; have n0_ := Aside0.mk (hp_); have n1_ := Aside0.mk (Kd.R_after (v := (.slice (some ⟨go29, 0, none⟩) x8_1.length co19)) (v1 := (.slice (some ⟨go29, 0, none⟩) x8_1.length co19)) (ok := (fun _ => True)) (by (with_reducible repeat (first | apply Kd.R_alloc | apply Kd.R_drewN | apply Kd.R_drew)); exact Kd.R_mono HO_9.out (fun _ hk => ⟨trivial, hk⟩)) hg (.inl rfl)); have n2_ := Aside0.mk (blk_grown (g := gb330) (o := .cells #[.int .i64 a0_0, .int .i64 a0_1] 30 (0, 0)) (upK_ BK330.out) hg (Kd.R_ne HO_8.out BK330.out (by decide))); have n3_ := Aside0.mk ((by rw [hw]; exact below_set (HB.out) GB29.out : Below w.heap.size w w35)); clear HO_8; clear HO_9; clear BK330; clear HB; have HO_8 := n0_; have HO_9 := n1_; have BK330 := n2_; have HB := n3_; clear n0_ n1_ n2_ n3_; clear hg hw hp_; have p31 : 0 ≤ (t340 : Int) := of_decide_eq_true (by first | (with_reducible assumption) | assumption); have q31 : (t340 : Int) < ((y336.length : Int) : Int) := of_decide_eq_true (by first | (with_reducible assumption) | assumption); obtain ⟨go31, co31, eo31, gb31, gl31, cl31, HG31⟩ := Kd.R_form HO_9.out (by omega); (first | cases eo31 | (injection eo31 with ea_ en_ ec_; (first | subst ea_ | (injection ea_ with ea_; subst ea_)); subst ec_; clear en_)); have GB31 := Aside0.mk gb31; have GG31 := Aside0.mk HG31; clear gb31 gl31 HG31; obtain ⟨hx31_0, hf31_0⟩ := Kd.R_celln 0 HO_9.out (t340 : Int) p31 q31; replace p31 := eq_true p31; replace q31 := eq_true q31; have n_ := Aside0.mk (Kd.R_mono (ok' := (fun k_ => some k_ ≠ (.slice (some ⟨go29, 0, none⟩) x8_1.length co19 : Value).ownBlock)) HO_9.out (fun k_ hk => hk.2)); clear HO_9; have HO_9 := n_; clear n_; obtain ⟨hy36_, hz36_⟩ := Kd.R_celln 0 HO_9.out (t340 : Int) (of_decide_eq_true (by first | (with_reducible assumption) | assumption)) (of_decide_eq_true (by first | (with_reducible assumption) | assumption)); have HP36 := Kd.R_putg HO_9.out (t340 : Int) 1) | ((with_reducible refine gate_store (t := 3) (p := 43) rfl ?_); refine store_event (t := 3) (p := 43) (v := ?vo_w37) (w1 := (w35.setCell ⟨go31, (t340 : Int).toNat, none⟩ (.int .i64 1))) ?hg ?ho ?hn ?hr ?_; (case ho => rfl); (case hg => rfl); (case hn => rfl); (case hr => first | (go_simp; done) | (go_simp; rfl)); intro w37 hw; have hg : w35.grownBy w37 (some go31) := (by rw [hw]; exact HP36.2); have hp_ : Kd.R (Kd.int .i64) 3 w37 w.heap.size (fun k_ => some k_ ≠ (.slice (some ⟨go29, 0, none⟩) x8_1.length co19 : Value).ownBlock) (.slice (some ⟨go31, 0, none⟩) y336.length co31) y342 := (by rw [hw, Ny342.out]; exact HP36.1); clear HP36; have n0_ := Aside0.mk (Kd.R_after (v := (.slice (some ⟨go31, 0, none⟩) y336.length co31)) (v1 := (.slice (some ⟨go31, 0, none⟩) y336.length co31)) (ok := (fun _ => True)) (by (with_reducible repeat (first | apply Kd.R_alloc | apply Kd.R_drewN | apply Kd.R_drew)); exact Kd.R_mono HO_8.out (fun _ hk => ⟨trivial, hk⟩)) hg (.inl rfl)); have n1_ := Aside0.mk (hp_); have n2_ := Aside0.mk (blk_grown (g := gb330) (o := .cells #[.int .i64 a0_0, .int .i64 a0_1] 30 (0, 0)) (upK_ BK330.out) hg (Kd.R_ne HO_9.out BK330.out (by decide))); have n3_ := Aside0.mk ((by rw [hw]; exact below_set (HB.out) GB31.out : Below w.heap.size w w37)); clear HO_8; clear HO_9; clear BK330; clear HB; have HO_8 := n0_; have HO_9 := n1_; have BK330 := n2_; have HB := n3_; clear n0_ n1_ n2_ n3_; clear hg hw hp_) | ((with_reducible refine gate_dst (N := 45) rfl ?_); refine Kd.R_lit Kd.string _ 9 ?hg (N := 45) ?hd (xs := ([a2] : List ByteArray)) (inner := [.string a2]) (ok := fun _ => True) (okp := fun _ => True) ?hr ?hp (fun _ hk => hk) trivial (Below.refl _ _) (Nat.le_refl _) (by simp) ?_; (case hd => rfl); (case hg => rfl); (case hr => first | (go_simp; done) | (go_simp; rfl)); (case hp => exact (Reps.one (show Kd.M Kd.string _ _ _ a2 [.string a2] from rfl) (Reps.none _ _))); intro v344 w38 ho39 hb hg_ hnew_; clear hg_ hnew_; (first | rw [← Ny343.out] at ho39 | (simp only [Int.reduceToNat] at ho39; rw [← Ny343.out] at ho39)); have n0_ := Aside0.mk (Kd.R_below (upR_ HO_8.out) hb); have n1_ := Aside0.mk (Kd.R_below (upR_ HO_9.out) hb); have n2_ := Aside0.mk (Kd.R_lower ho39 (below_size (upB_ HB.out))); have n3_ := Aside0.mk (blk_below (g := gb330) (o := .cells #[.int .i64 a0_0, .int .i64 a0_1] 30 (0, 0)) (upK_ BK330.out) hb); have n4_ := Aside0.mk (below_step (upB_ HB.out) hb); clear HO_8; clear HO_9; clear BK330; clear HB; have HO_8 := n0_; have HO_9 := n1_; have HO345 := n2_; have BK330 := n3_; have HB := n4_; clear n0_ n1_ n2_ n3_ n4_; clear hb ho39))
           go_loopg [12, 13] k1 (fun kq v12 v13 w' => ∃ (x8_2 : List Int) (x9_2 : List Int) (x12_2 : List ByteArray) (x13_2 : Int), v13 = .int .i64 x13_2 ∧ Aside0 (Fc.l1 kq l1 x8_2 x9_2 x12_2 x13_2 a0_0 a0_1 = some (r1, r2)) ∧ Aside0 (kq ≤ k1) ∧ Aside0 (Kd.R (Kd.int .i64) 3 w' w.heap.size (fun k_ => some k_ ≠ ((.slice (some ⟨go31, 0, none⟩) y336.length co31) : Value).ownBlock) (.slice (some ⟨go29, 0, none⟩) x8_1.length co19) x8_2) ∧ Aside0 (Kd.R (Kd.int .i64) 3 w' w.heap.size (fun k_ => some k_ ≠ ((.slice (some ⟨go29, 0, none⟩) x8_1.length co19) : Value).ownBlock) (.slice (some ⟨go31, 0, none⟩) y336.length co31) x9_2) ∧ Aside0 (Kd.R Kd.string 9 w' w.heap.size (fun _ => True) v12 x12_2) ∧ Aside0 (w'.heap[gb330]? = some (.cells #[.int .i64 a0_0, .int .i64 a0_1] 30 (0, 0))) ∧ Aside0 (Below w.heap.size w w'))
           case atStart => exact ⟨(y341), (y342), (y343), (0), (by first | rfl | (simp; done) | (simp [*]; done)), H', ⟨Nat.le_refl _⟩, ⟨by (try simp only [hl8_1]); (with_reducible repeat (first | apply Kd.R_alloc | apply Kd.R_drewN | apply Kd.R_drew)); exact Kd.R_mono HO_8.out (fun _ hk => hk.2)⟩, ⟨by (try simp only [hl8_1]); (with_reducible repeat (first | apply Kd.R_alloc | apply Kd.R_drewN | apply Kd.R_drew)); exact HO_9.out⟩, ⟨by (try simp only [hl8_1]); (with_reducible repeat (first | apply Kd.R_alloc | apply Kd.R_drewN | apply Kd.R_drew)); exact HO345.out⟩, ⟨by (try simp only [hl8_1]); (with_reducible repeat (first | refine blk_drewN ?_ _ | refine blk_drew ?_ | refine blk_alloc ?_ _)); exact BK330.out⟩, ⟨upB_ HB.out⟩⟩
           case round =>
            clear H'; try clear c1
            try clear c2
            try clear p2
            try clear q2
            try clear hx2
            try clear c3
            try clear p3
            try clear q3
            try clear hx3
            try clear hf3
            try clear c5
            try clear c5b0
            try clear c5b1
            try clear c6
            try clear c6b0
            try clear c6b1
            try clear p6
            try clear c7
            try clear c8
            try clear c8b0
            try clear c8b1
            try clear c9
            try clear c9b0
            try clear c9b1
            try clear c20
            try clear c20b0
            try clear c21
            try clear c21b0
            try clear c22
            try clear c22b0
            try clear p23
            try clear q23
            try clear hx23
            try clear hf23
            try clear c27
            try clear c27b0
            try clear c28
            try clear c28b0
            try clear p29
            try clear q29
            try clear hx29
            try clear hf29
            try clear c30
            try clear c30b0
            try clear p31
            try clear q31
            try clear hx31
            try clear hf31
            try clear hcz32_0
            try clear hcz32_1
            try clear hfz32_0
            try clear hfz32_1
            try clear hx23_0
            try clear hx29_0
            try clear hx31_0
            try clear p2
            try clear p23
            try clear p29
            try clear p31
            try clear q23
            try clear q29
            try clear q31
            obtain ⟨x8_2, x9_2, x12_2, x13_2, rfl, HA, HK2, HO_8, HO_9, HO_12, BK330, HB⟩ := hrel
            have hl8_2 := (Kd.R_reads' HO_8.out).1
            rw [hl8_2] at HO_8
            (try simp only [hl8_2])
            (try simp only [hl8_2] at BK330)
            (try simp only [hl8_2] at HO_9)
            (try simp only [hl8_2] at HO_12)
            have hl9_2 := (Kd.R_reads' HO_9.out).1
            rw [hl9_2] at HO_9
            (try simp only [hl9_2])
            (try simp only [hl9_2] at BK330)
            (try simp only [hl9_2] at HO_8)
            (try simp only [hl9_2] at HO_12)
            cases gk with
            | zero => exact absurd HA.out (by simp [Fc.l1])
            | succ k2 =>
             have H := HA.out
             clear HA; simp only [Fc.l1] at H
             by_cases c40 : x13_2 < (x12_2.length : Int)
             ·rw [if_pos c40] at H
              have c40b0 : decide (x13_2 < (x12_2.length : Int)) = true := decide_eq_true c40
              (try (have c40b0qhl8_1 := c40b0; rw [hl8_1] at c40b0qhl8_1))
              (try (have c40b0qhl8_2 := c40b0; rw [hl8_2] at c40b0qhl8_2))
              (try (have c40b0qhl9_2 := c40b0; rw [hl9_2] at c40b0qhl9_2))
              clear c40; by_cases c41 : 0 ≤ x13_2
              ·rw [if_pos c41] at H
               have c41b0 : decide (0 ≤ x13_2) = true := decide_eq_true c41
               clear c41; replace H := Option.bind_eq_some_iff.mp H
               obtain ⟨t347, A420, H⟩ := H
               replace H : (Fc.l2 k2 l1 x8_2 x9_2 x12_2 x13_2 t347 0 a0_0 a0_1) = some (r1, r2) := H
               have A42 := Aside0.mk A420
               clear A420; have H' := Aside0.mk H
               clear H; obtain ⟨Ao43, co43, eo43⟩ := Kd.R_slice HO_12.out
               subst eo43
               try go_wp2
               have n0_ := Aside0.mk (Kd.R_drew HO_8.out)
               have n1_ := Aside0.mk (Kd.R_drew HO_9.out)
               have n2_ := Aside0.mk (Kd.R_drew HO_12.out)
               have n3_ := Aside0.mk (blk_drew BK330.out)
               have n4_ := Aside0.mk (below_drew1 HB.out)
               clear HO_8; clear HO_9; clear HO_12; clear BK330; clear HB; have HO_8 := n0_; have HO_9 := n1_; have HO_12 := n2_; have BK330 := n3_; have HB := n4_; clear n0_ n1_ n2_ n3_ n4_; have p346 : 0 ≤ (x13_2 : Int) := of_decide_eq_true (by first | (with_reducible assumption) | assumption)
               have q346 : x13_2 < (x12_2.length : Int) := of_decide_eq_true (by first | (with_reducible assumption) | assumption)
               obtain ⟨ad346, e346, hx346_0⟩ := Kd.at_string (Kd.R_reads' HO_12.out).2.2 x13_2 p346 q346
               cases e346
               replace p346 := eq_true p346
               replace q346 := eq_true q346
               refine start_ (n := 7) (S := fun w' => w'.cell? ⟨gb330, 0, none⟩ = some (.int .i64 a0_0) ∧ w'.cell? ⟨gb330, 1, none⟩ = some (.int .i64 a0_1) ∧ w'.cell? (ad346.add (x13_2).toNat) = some (.string (rdOf ByteArray.empty x12_2 x13_2))) (ds := []) #[false, false, false, false, false, false, false] (by kernel_rfl) rfl rfl ⟨(blk_cell BK330.out 0).trans rfl, (blk_cell BK330.out 1).trans rfl, hx346_0⟩ (fun hHeld => ?_)
               generalize wr.drew = w44 at HO_8 HO_9 HO_12 BK330 HB hx346_0 hHeld ⊢
               refine pure_ (i := 1) (N := some 53) (v := ?_) (a' := ?_) #[false, true, false, false, false, false, false] rfl rfl (by kernel_rfl) (fun _ _ _ h => h) (Or.inl ⟨by rfl, ?_⟩) ?_ ?_
               rotate_left; intro w'; go_simp; with_reducible rfl
               rotate_left; simp only [pu_]; rfl
               refine pure_ (i := 2) (N := some 54) (v := ?_) (a' := ?_) #[false, true, true, false, false, false, false] rfl rfl (by kernel_rfl) (fun _ _ _ h => h) (Or.inl ⟨by rfl, ?_⟩) ?_ ?_
               rotate_left; intro w'; go_simp; with_reducible rfl
               rotate_left; simp only [pu_]; rfl
               refine pure_ (i := 3) (N := some 55) (v := ?_) (a' := ?_) #[false, true, true, true, false, false, false] rfl rfl (by kernel_rfl) (fun _ _ _ h => h) (Or.inl ⟨by rfl, ?_⟩) ?_ ?_
               rotate_left; intro w'; go_simp; with_reducible rfl
               rotate_left; simp only [pu_]; rfl
               refine take_ (i := 0) (N := some 52) (v := ?_) (a' := ?_) #[true, true, true, true, false, false, false] rfl rfl (by kernel_rfl) (fun _ _ _ h => h) (Or.inl ⟨by rfl, ?_⟩) hHeld ?_ ?_
               rotate_left; rintro w' ⟨s0, s1, s2⟩; go_simp; with_reducible rfl
               rotate_left; simp only [pu_]; rfl
               refine take_ (i := 4) (N := some 56) (v := ?_) (a' := ?_) #[true, true, true, true, true, false, false] rfl rfl (by kernel_rfl) (fun _ _ _ h => h) (Or.inl ⟨by rfl, ?_⟩) hHeld ?_ ?_
               rotate_left; rintro w' ⟨s0, s1, s2⟩; go_simp; with_reducible rfl
               rotate_left; simp only [pu_]; rfl
               refine one_ (i := 5) (N := some 57) #[true, true, true, true, true, true, false] rfl rfl (by kernel_rfl) (by decide) (fun K hK => ?_)
               refine goes_ Try.func71 (by kernel_rfl) rfl #[.agg #[.int .i64 a0_0, .int .i64 a0_1], .string (rdOf ByteArray.empty x12_2 x13_2)] (by rfl) rfl rfl (by (try simp only [List.map_toArray, List.map_cons, List.map_nil]); first | done | rfl | (simp only [List.length_drop, List.length_take]; rfl)) ?_
               with_reducible refine (Fg.calls k2 a0_0 a0_1 (rdOf ByteArray.empty x12_2 x13_2) t347 _ A42.out).mono ?_
               rintro e w45 ⟨rfl, hb⟩
               have HS2_ := (hb.cell (World.block_lt_of_cell? _ _ (hHeld.2.2))).trans (hHeld.2.2)
               refine ⟨_, rfl, ?_⟩
               have n0_ := Aside0.mk (Kd.R_below (upR_ HO_8.out) hb)
               have n1_ := Aside0.mk (Kd.R_below (upR_ HO_9.out) hb)
               have n2_ := Aside0.mk (Kd.R_below (upR_ HO_12.out) hb)
               have n3_ := Aside0.mk (blk_below (g := gb330) (o := .cells #[.int .i64 a0_0, .int .i64 a0_1] 30 (0, 0)) (upK_ BK330.out) hb)
               have n4_ := Aside0.mk (below_step (upB_ HB.out) hb)
               clear HO_8; clear HO_9; clear HO_12; clear BK330; clear HB; have HO_8 := n0_; have HO_9 := n1_; have HO_12 := n2_; have BK330 := n3_; have HB := n4_; clear n0_ n1_ n2_ n3_ n4_; (try clear hb); (try clear hb2); (try clear hk); (try clear hi); refine hK.out _ _ ⟨(blk_cell BK330.out 0).trans rfl, (blk_cell BK330.out 1).trans rfl, HS2_⟩ (fun hHeld => ?_)
               clear hK K; refine norm_ (a' := ?_) ?_ ?_
               rotate_left
               ·show Act.put _ (some 57) _ = _
                simp only [pu_]
                rfl
               refine pure_ (i := 6) (N := some 14) (v := ?_) (a' := ?_) #[true, true, true, true, true, true, true] rfl rfl (by kernel_rfl) (fun _ _ _ h => h) (Or.inl ⟨by rfl, ?_⟩) ?_ ?_
               rotate_left; intro w'; go_simp; with_reducible rfl
               rotate_left; simp only [pu_]; rfl
               refine done_ (by kernel_rfl) ?_
               try go_wp2
               go_loopg [12, 15] k2 (fun kq v12 v15 w' => ∃ (x8_3 : List Int) (x9_3 : List Int) (x12_3 : List ByteArray) (x15_3 : Int), v15 = .int .i64 x15_3 ∧ Aside0 (Fc.l2 kq l1 x8_3 x9_3 x12_3 x13_2 t347 x15_3 a0_0 a0_1 = some (r1, r2)) ∧ Aside0 (kq ≤ k2) ∧ Aside0 (Kd.R (Kd.int .i64) 3 w' w.heap.size (fun k_ => some k_ ≠ ((.slice (some ⟨go31, 0, none⟩) x9_2.length co31) : Value).ownBlock) (.slice (some ⟨go29, 0, none⟩) x8_2.length co19) x8_3) ∧ Aside0 (Kd.R (Kd.int .i64) 3 w' w.heap.size (fun k_ => some k_ ≠ ((.slice (some ⟨go29, 0, none⟩) x8_2.length co19) : Value).ownBlock) (.slice (some ⟨go31, 0, none⟩) x9_2.length co31) x9_3) ∧ Aside0 (Kd.R Kd.string 9 w' w.heap.size (fun _ => True) v12 x12_3) ∧ Aside0 (w'.heap[gb330]? = some (.cells #[.int .i64 a0_0, .int .i64 a0_1] 30 (0, 0))) ∧ Aside0 (Below w.heap.size w w'))
               case atStart => exact ⟨(x8_2), (x9_2), (x12_2), (0), (by first | rfl | (simp; done) | (simp [*]; done)), H', ⟨Nat.le_refl _⟩, ⟨by (try simp only [hl8_1, hl8_2, hl9_2]); (with_reducible repeat (first | apply Kd.R_alloc | apply Kd.R_drewN | apply Kd.R_drew)); exact HO_8.out⟩, ⟨by (try simp only [hl8_1, hl8_2, hl9_2]); (with_reducible repeat (first | apply Kd.R_alloc | apply Kd.R_drewN | apply Kd.R_drew)); exact HO_9.out⟩, ⟨by (try simp only [hl8_1, hl8_2, hl9_2]); (with_reducible repeat (first | apply Kd.R_alloc | apply Kd.R_drewN | apply Kd.R_drew)); exact HO_12.out⟩, ⟨by (try simp only [hl8_1, hl8_2, hl9_2]); (with_reducible repeat (first | refine blk_drewN ?_ _ | refine blk_drew ?_ | refine blk_alloc ?_ _)); exact BK330.out⟩, ⟨upB_ HB.out⟩⟩
               case round =>
                clear H'; try clear c1
                try clear c2
                try clear p2
                try clear q2
                try clear hx2
                try clear c3
                try clear p3
                try clear q3
                try clear hx3
                try clear hf3
                try clear c4
                try clear c5
                try clear c5b0
                try clear c5b1
                try clear c6
                try clear c6b0
                try clear c6b1
                try clear p6
                try clear c7
                try clear c8
                try clear c8b0
                try clear c8b1
                try clear c9
                try clear c9b0
                try clear c9b1
                try clear c20
                try clear c20b0
                try clear c21
                try clear c21b0
                try clear c22
                try clear c22b0
                try clear p23
                try clear q23
                try clear hx23
                try clear hf23
                try clear c27
                try clear c27b0
                try clear c28
                try clear c28b0
                try clear p29
                try clear q29
                try clear hx29
                try clear hf29
                try clear c30
                try clear c30b0
                try clear p31
                try clear q31
                try clear hx31
                try clear hf31
                try clear p34
                try clear q34
                try clear hx34
                try clear c40
                try clear c40b0
                try clear c41
                try clear c41b0
                try clear hcz32_0
                try clear hcz32_1
                try clear hfz32_0
                try clear hfz32_1
                try clear hx23_0
                try clear hx29_0
                try clear hx31_0
                try clear hx346_0
                try clear p2
                try clear p23
                try clear p29
                try clear p3
                try clear p31
                try clear p346
                try clear p6
                try clear q2
                try clear q23
                try clear q29
                try clear q3
                try clear q31
                try clear q346
                obtain ⟨x8_3, x9_3, x12_3, x15_3, rfl, HA, HK3, HO_8, HO_9, HO_12, BK330, HB⟩ := hrel
                have hl8_3 := (Kd.R_reads' HO_8.out).1
                rw [hl8_3] at HO_8
                (try simp only [hl8_3])
                (try simp only [hl8_3] at BK330)
                (try simp only [hl8_3] at HO_9)
                (try simp only [hl8_3] at HO_12)
                have hl9_3 := (Kd.R_reads' HO_9.out).1
                rw [hl9_3] at HO_9
                (try simp only [hl9_3])
                (try simp only [hl9_3] at BK330)
                (try simp only [hl9_3] at HO_8)
                (try simp only [hl9_3] at HO_12)
                cases gk with
                | zero => exact absurd HA.out (by simp [Fc.l2])
                | succ k3 =>
                 have H := HA.out
                 clear HA; simp only [Fc.l2] at H
                 by_cases c46 : x15_3 < a0_0
                 ·rw [if_pos c46] at H
                  have c46b0 : decide (x15_3 < a0_0) = true := decide_eq_true c46
                  clear c46; obtain ⟨y348, hy348⟩ : ∃ y_ : List Int, y_ = (([1, (-1)] : List Int)) := ⟨_, rfl⟩
                  replace H : (Fc.l3 k3 l1 x8_3 x9_3 x12_3 x13_2 t347 x15_3 y348 (y348.length : Int) 0 a0_0 a0_1) = some (r1, r2) := by first | (rw [hy348]; with_reducible exact H) | (have H2_ := (Option.bind_some _ _).symm.trans H; rw [hy348]; with_reducible exact H2_) | (have H2_ := (Option.bind_some _ _).symm.trans H; with_reducible exact H2_) | with_reducible exact H | (rw [hy348]; exact H) | exact H
                  have Ny348 := Aside0.mk hy348
                  clear hy348; have H' := Aside0.mk H
                  clear H; have hcz47_0 : wr.cell? ⟨gb330, 0, none⟩ = some (.int .i64 a0_0) := (blk_cell BK330.out 0).trans rfl
                  have hcz47_1 : wr.cell? ⟨gb330, 1, none⟩ = some (.int .i64 a0_1) := (blk_cell BK330.out 1).trans rfl
                  have hfz47_0 := blk_frozen BK330.out 0
                  have hfz47_1 := blk_frozen BK330.out 1
                  go_wp2_with (first | ((with_reducible refine gate_dst (N := 64) rfl ?_); refine Kd.R_lit (Kd.int .i64) _ 3 ?hg (N := 64) ?hd (xs := ([1, (-1)] : List Int)) (inner := [.int .i64 1, .int .i64 (-1)]) (ok := fun _ => True) (okp := fun _ => True) ?hr ?hp (fun _ hk => hk) trivial (Below.refl _ _) (Nat.le_refl _) (by simp) ?_; (case hd => rfl); (case hg => rfl); (case hr => first | (go_simp; done) | (go_simp; rfl)); (case hp => exact (Reps.one (show Kd.M (Kd.int .i64) _ _ _ 1 [.int .i64 1] from rfl) (Reps.one (show Kd.M (Kd.int .i64) _ _ _ (-1) [.int .i64 (-1)] from rfl) (Reps.none _ _)))); intro v349 w48 ho49 hb hg_ hnew_; clear hg_ hnew_; (first | rw [← Ny348.out] at ho49 | (simp only [Int.reduceToNat] at ho49; rw [← Ny348.out] at ho49)); have n0_ := Aside0.mk (Kd.R_elder' (upR_ HO_8.out) (Kd.R_base ho49) hb); have n1_ := Aside0.mk (Kd.R_elder' (upR_ HO_9.out) (Kd.R_base ho49) hb); have n2_ := Aside0.mk (Kd.R_below (upR_ HO_12.out) hb); have n3_ := Aside0.mk (Kd.R_lower (Kd.R_new' (Kd.R_new' ho49 (Kd.R_lt (upR_ HO_8.out))) (Kd.R_lt (upR_ HO_9.out))) (below_size (upB_ HB.out))); have n4_ := Aside0.mk (blk_below (g := gb330) (o := .cells #[.int .i64 a0_0, .int .i64 a0_1] 30 (0, 0)) (upK_ BK330.out) hb); have n5_ := Aside0.mk (below_step (upB_ HB.out) hb); clear HO_8; clear HO_9; clear HO_12; clear BK330; clear HB; have HO_8 := n0_; have HO_9 := n1_; have HO_12 := n2_; have HO350 := n3_; have BK330 := n4_; have HB := n5_; clear n0_ n1_ n2_ n3_ n4_ n5_; clear hb ho49; obtain ⟨Ao50, co50, eo50⟩ := Kd.R_slice HO350.out; subst eo50))
                  go_loopg [12, 66] k3 (fun kq v12 v66 w' => ∃ (x8_4 : List Int) (x9_4 : List Int) (x12_4 : List ByteArray) (x66_4 : Int), v66 = .int .i64 x66_4 ∧ Aside0 (Fc.l3 kq l1 x8_4 x9_4 x12_4 x13_2 t347 x15_3 y348 (y348.length : Int) x66_4 a0_0 a0_1 = some (r1, r2)) ∧ Aside0 (kq ≤ k3) ∧ Aside0 (Kd.R (Kd.int .i64) 3 w' w.heap.size (fun k_ => some k_ ≠ ((.slice (some ⟨go31, 0, none⟩) x9_3.length co31) : Value).ownBlock ∧ some k_ ≠ ((.slice Ao50 y348.length co50) : Value).ownBlock) (.slice (some ⟨go29, 0, none⟩) x8_3.length co19) x8_4) ∧ Aside0 (Kd.R (Kd.int .i64) 3 w' w.heap.size (fun k_ => some k_ ≠ ((.slice (some ⟨go29, 0, none⟩) x8_3.length co19) : Value).ownBlock ∧ some k_ ≠ ((.slice Ao50 y348.length co50) : Value).ownBlock) (.slice (some ⟨go31, 0, none⟩) x9_3.length co31) x9_4) ∧ Aside0 (Kd.R Kd.string 9 w' w.heap.size (fun _ => True) v12 x12_4) ∧ Aside0 (Kd.R (Kd.int .i64) 3 w' w.heap.size (fun k_ => some k_ ≠ ((.slice (some ⟨go29, 0, none⟩) x8_3.length co19) : Value).ownBlock ∧ some k_ ≠ ((.slice (some ⟨go31, 0, none⟩) x9_3.length co31) : Value).ownBlock) (.slice Ao50 y348.length co50) y348) ∧ Aside0 (w'.heap[gb330]? = some (.cells #[.int .i64 a0_0, .int .i64 a0_1] 30 (0, 0))) ∧ Aside0 (Below w.heap.size w w'))
                  case atStart => exact ⟨(x8_3), (x9_3), (x12_3), (0), (by first | rfl | (simp; done) | (simp [*]; done)), H', ⟨Nat.le_refl _⟩, ⟨by (try simp only [hl8_1, hl8_2, hl9_2, hl8_3, hl9_3]); (with_reducible repeat (first | apply Kd.R_alloc | apply Kd.R_drewN | apply Kd.R_drew)); exact HO_8.out⟩, ⟨by (try simp only [hl8_1, hl8_2, hl9_2, hl8_3, hl9_3]); (with_reducible repeat (first | apply Kd.R_alloc | apply Kd.R_drewN | apply Kd.R_drew)); exact HO_9.out⟩, ⟨by (try simp only [hl8_1, hl8_2, hl9_2, hl8_3, hl9_3]); (with_reducible repeat (first | apply Kd.R_alloc | apply Kd.R_drewN | apply Kd.R_drew)); exact HO_12.out⟩, ⟨by (try simp only [hl8_1, hl8_2, hl9_2, hl8_3, hl9_3]); (with_reducible repeat (first | apply Kd.R_alloc | apply Kd.R_drewN | apply Kd.R_drew)); exact Kd.R_mono HO350.out (fun _ hk => ⟨hk.1.2, hk.2⟩)⟩, ⟨by (try simp only [hl8_1, hl8_2, hl9_2, hl8_3, hl9_3]); (with_reducible repeat (first | refine blk_drewN ?_ _ | refine blk_drew ?_ | refine blk_alloc ?_ _)); exact BK330.out⟩, ⟨upB_ HB.out⟩⟩
                  case round =>
                   clear H'; try clear c1
                   try clear c2
                   try clear p2
                   try clear q2
                   try clear hx2
                   try clear c3
                   try clear p3
                   try clear q3
                   try clear hx3
                   try clear hf3
                   try clear c4
                   try clear c5
                   try clear c5b0
                   try clear c5b1
                   try clear c6
                   try clear c6b0
                   try clear c6b1
                   try clear p6
                   try clear c7
                   try clear c8
                   try clear c8b0
                   try clear c8b1
                   try clear c9
                   try clear c9b0
                   try clear c9b1
                   try clear c20
                   try clear c20b0
                   try clear c21
                   try clear c21b0
                   try clear c22
                   try clear c22b0
                   try clear p23
                   try clear q23
                   try clear hx23
                   try clear hf23
                   try clear c27
                   try clear c27b0
                   try clear c28
                   try clear c28b0
                   try clear p29
                   try clear q29
                   try clear hx29
                   try clear hf29
                   try clear c30
                   try clear c30b0
                   try clear p31
                   try clear q31
                   try clear hx31
                   try clear hf31
                   try clear p34
                   try clear q34
                   try clear hx34
                   try clear c40
                   try clear c40b0
                   try clear c41
                   try clear c41b0
                   try clear c46
                   try clear c46b0
                   try clear hcz32_0
                   try clear hcz32_1
                   try clear hcz47_0
                   try clear hcz47_1
                   try clear hfz32_0
                   try clear hfz32_1
                   try clear hfz47_0
                   try clear hfz47_1
                   try clear hx23_0
                   try clear hx29_0
                   try clear hx31_0
                   try clear hx346_0
                   try clear p2
                   try clear p23
                   try clear p29
                   try clear p3
                   try clear p31
                   try clear p34
                   try clear p346
                   try clear p6
                   try clear q2
                   try clear q23
                   try clear q29
                   try clear q3
                   try clear q31
                   try clear q34
                   try clear q346
                   obtain ⟨x8_4, x9_4, x12_4, x66_4, rfl, HA, HK4, HO_8, HO_9, HO_12, HO_64, BK330, HB⟩ := hrel
                   have hl8_4 := (Kd.R_reads' HO_8.out).1
                   rw [hl8_4] at HO_8
                   (try simp only [hl8_4])
                   (try simp only [hl8_4] at BK330)
                   (try simp only [hl8_4] at HO_9)
                   (try simp only [hl8_4] at HO_12)
                   (try simp only [hl8_4] at HO_64)
                   have hl9_4 := (Kd.R_reads' HO_9.out).1
                   rw [hl9_4] at HO_9
                   (try simp only [hl9_4])
                   (try simp only [hl9_4] at BK330)
                   (try simp only [hl9_4] at HO_8)
                   (try simp only [hl9_4] at HO_12)
                   (try simp only [hl9_4] at HO_64)
                   cases gk with
                   | zero => exact absurd HA.out (by simp [Fc.l3])
                   | succ k4 =>
                    have H := HA.out
                    clear HA; simp only [Fc.l3] at H
                    by_cases c51 : x66_4 < (y348.length : Int)
                    ·rw [if_pos c51] at H
                     have c51b0 : decide (x66_4 < (y348.length : Int)) = true := decide_eq_true c51
                     clear c51; by_cases c52 : 0 ≤ x66_4
                     ·rw [if_pos c52] at H
                      have c52b0 : decide (0 ≤ x66_4) = true := decide_eq_true c52
                      clear c52; by_cases c53 : x66_4 < (y348.length : Int)
                      ·rw [if_pos c53] at H
                       have c53b0 : decide (x66_4 < (y348.length : Int)) = true := decide_eq_true c53
                       clear c53; by_cases c54 : 0 ≤ x13_2
                       ·rw [if_pos c54] at H
                        have c54b0 : decide (0 ≤ x13_2) = true := decide_eq_true c54
                        clear c54; by_cases c55 : x13_2 < (x12_4.length : Int)
                        ·rw [if_pos c55] at H
                         have c55b0 : decide (x13_2 < (x12_4.length : Int)) = true := decide_eq_true c55
                         clear c55; replace H := Option.bind_eq_some_iff.mp H
                         obtain ⟨t353, A560, H⟩ := H
                         replace H : ((Fg.f k4 a0_0 a0_1 t353).bind fun t354 => ((Fn.f k4 l1 t353).bind fun t355 => (if t355 = true then (Fc.l3 k4 l1 x8_4 x9_4 x12_4 x13_2 t347 x15_3 y348 (y348.length : Int) (wrap64 (x66_4 + 1)) a0_0 a0_1) else (if 0 ≤ t354 then (if t354 < (x8_4.length : Int) then (if (rd x8_4 t354) < 0 then (if 0 ≤ t347 then (if t347 < (x8_4.length : Int) then ((some (x8_4.set (t354 : Int).toNat (wrap64 ((rd x8_4 t347) + 1)) : List Int)).bind fun y358 => (if x12_4.length < 8796093022208 then ((some (x12_4 ++ [t353] : List ByteArray)).bind fun y359 => (if (rd y358 t354) = (wrap64 ((rd y358 t347) + 1)) then (if t354 < (x9_4.length : Int) then (if t347 < (x9_4.length : Int) then ((FV.f (wrap64 ((rd x9_4 t354) + (rd x9_4 t347))) 1000000000000001).bind fun t366 => (Fc.l3 k4 l1 y358 (x9_4.set (t354 : Int).toNat t366) y359 x13_2 t347 x15_3 y348 (y348.length : Int) (wrap64 (x66_4 + 1)) a0_0 a0_1)) else (none)) else (none)) else (Fc.l3 k4 l1 y358 x9_4 y359 x13_2 t347 x15_3 y348 (y348.length : Int) (wrap64 (x66_4 + 1)) a0_0 a0_1))) else (none))) else (none)) else (none)) else (if 0 ≤ t347 then (if t347 < (x8_4.length : Int) then (if (rd x8_4 t354) = (wrap64 ((rd x8_4 t347) + 1)) then (if t354 < (x9_4.length : Int) then (if t347 < (x9_4.length : Int) then ((FV.f (wrap64 ((rd x9_4 t354) + (rd x9_4 t347))) 1000000000000001).bind fun t372 => (Fc.l3 k4 l1 x8_4 (x9_4.set (t354 : Int).toNat t372) x12_4 x13_2 t347 x15_3 y348 (y348.length : Int) (wrap64 (x66_4 + 1)) a0_0 a0_1)) else (none)) else (none)) else (Fc.l3 k4 l1 x8_4 x9_4 x12_4 x13_2 t347 x15_3 y348 (y348.length : Int) (wrap64 (x66_4 + 1)) a0_0 a0_1)) else (none)) else (none))) else (none)) else (none))))) = some (r1, r2) := H
                         have A56 := Aside0.mk A560
                         clear A560; replace H := Option.bind_eq_some_iff.mp H
                         obtain ⟨t354, A570, H⟩ := H
                         replace H : ((Fn.f k4 l1 t353).bind fun t355 => (if t355 = true then (Fc.l3 k4 l1 x8_4 x9_4 x12_4 x13_2 t347 x15_3 y348 (y348.length : Int) (wrap64 (x66_4 + 1)) a0_0 a0_1) else (if 0 ≤ t354 then (if t354 < (x8_4.length : Int) then (if (rd x8_4 t354) < 0 then (if 0 ≤ t347 then (if t347 < (x8_4.length : Int) then ((some (x8_4.set (t354 : Int).toNat (wrap64 ((rd x8_4 t347) + 1)) : List Int)).bind fun y358 => (if x12_4.length < 8796093022208 then ((some (x12_4 ++ [t353] : List ByteArray)).bind fun y359 => (if (rd y358 t354) = (wrap64 ((rd y358 t347) + 1)) then (if t354 < (x9_4.length : Int) then (if t347 < (x9_4.length : Int) then ((FV.f (wrap64 ((rd x9_4 t354) + (rd x9_4 t347))) 1000000000000001).bind fun t366 => (Fc.l3 k4 l1 y358 (x9_4.set (t354 : Int).toNat t366) y359 x13_2 t347 x15_3 y348 (y348.length : Int) (wrap64 (x66_4 + 1)) a0_0 a0_1)) else (none)) else (none)) else (Fc.l3 k4 l1 y358 x9_4 y359 x13_2 t347 x15_3 y348 (y348.length : Int) (wrap64 (x66_4 + 1)) a0_0 a0_1))) else (none))) else (none)) else (none)) else (if 0 ≤ t347 then (if t347 < (x8_4.length : Int) then (if (rd x8_4 t354) = (wrap64 ((rd x8_4 t347) + 1)) then (if t354 < (x9_4.length : Int) then (if t347 < (x9_4.length : Int) then ((FV.f (wrap64 ((rd x9_4 t354) + (rd x9_4 t347))) 1000000000000001).bind fun t372 => (Fc.l3 k4 l1 x8_4 (x9_4.set (t354 : Int).toNat t372) x12_4 x13_2 t347 x15_3 y348 (y348.length : Int) (wrap64 (x66_4 + 1)) a0_0 a0_1)) else (none)) else (none)) else (Fc.l3 k4 l1 x8_4 x9_4 x12_4 x13_2 t347 x15_3 y348 (y348.length : Int) (wrap64 (x66_4 + 1)) a0_0 a0_1)) else (none)) else (none))) else (none)) else (none)))) = some (r1, r2) := H
                         have A57 := Aside0.mk A570
                         clear A570; replace H := Option.bind_eq_some_iff.mp H
                         obtain ⟨t355, A580, H⟩ := H
                         replace H : (if t355 = true then (Fc.l3 k4 l1 x8_4 x9_4 x12_4 x13_2 t347 x15_3 y348 (y348.length : Int) (wrap64 (x66_4 + 1)) a0_0 a0_1) else (if 0 ≤ t354 then (if t354 < (x8_4.length : Int) then (if (rd x8_4 t354) < 0 then (if 0 ≤ t347 then (if t347 < (x8_4.length : Int) then ((some (x8_4.set (t354 : Int).toNat (wrap64 ((rd x8_4 t347) + 1)) : List Int)).bind fun y358 => (if x12_4.length < 8796093022208 then ((some (x12_4 ++ [t353] : List ByteArray)).bind fun y359 => (if (rd y358 t354) = (wrap64 ((rd y358 t347) + 1)) then (if t354 < (x9_4.length : Int) then (if t347 < (x9_4.length : Int) then ((FV.f (wrap64 ((rd x9_4 t354) + (rd x9_4 t347))) 1000000000000001).bind fun t366 => (Fc.l3 k4 l1 y358 (x9_4.set (t354 : Int).toNat t366) y359 x13_2 t347 x15_3 y348 (y348.length : Int) (wrap64 (x66_4 + 1)) a0_0 a0_1)) else (none)) else (none)) else (Fc.l3 k4 l1 y358 x9_4 y359 x13_2 t347 x15_3 y348 (y348.length : Int) (wrap64 (x66_4 + 1)) a0_0 a0_1))) else (none))) else (none)) else (none)) else (if 0 ≤ t347 then (if t347 < (x8_4.length : Int) then (if (rd x8_4 t354) = (wrap64 ((rd x8_4 t347) + 1)) then (if t354 < (x9_4.length : Int) then (if t347 < (x9_4.length : Int) then ((FV.f (wrap64 ((rd x9_4 t354) + (rd x9_4 t347))) 1000000000000001).bind fun t372 => (Fc.l3 k4 l1 x8_4 (x9_4.set (t354 : Int).toNat t372) x12_4 x13_2 t347 x15_3 y348 (y348.length : Int) (wrap64 (x66_4 + 1)) a0_0 a0_1)) else (none)) else (none)) else (Fc.l3 k4 l1 x8_4 x9_4 x12_4 x13_2 t347 x15_3 y348 (y348.length : Int) (wrap64 (x66_4 + 1)) a0_0 a0_1)) else (none)) else (none))) else (none)) else (none))) = some (r1, r2) := H
                         have A58 := Aside0.mk A580
                         clear A580; have H' := Aside0.mk H
                         clear H; have p351 : 0 ≤ (x66_4 : Int) := of_decide_eq_true (by first | (with_reducible assumption) | assumption)
                         have q351 : x66_4 < (y348.length : Int) := of_decide_eq_true (by first | (with_reducible assumption) | assumption)
                         obtain ⟨ad351, e351, hx351_0⟩ := Kd.at_int (Kd.R_reads' HO_64.out).2.2 x66_4 p351 q351
                         cases e351
                         replace p351 := eq_true p351
                         replace q351 := eq_true q351
                         try go_wp2
                         have n0_ := Aside0.mk (Kd.R_drew HO_8.out)
                         have n1_ := Aside0.mk (Kd.R_drew HO_9.out)
                         have n2_ := Aside0.mk (Kd.R_drew HO_12.out)
                         have n3_ := Aside0.mk (Kd.R_drew HO_64.out)
                         have n4_ := Aside0.mk (blk_drew BK330.out)
                         have n5_ := Aside0.mk (below_drew1 HB.out)
                         clear HO_8; clear HO_9; clear HO_12; clear HO_64; clear BK330; clear HB; have HO_8 := n0_; have HO_9 := n1_; have HO_12 := n2_; have HO_64 := n3_; have BK330 := n4_; have HB := n5_; clear n0_ n1_ n2_ n3_ n4_ n5_; obtain ⟨Ao61, co61, eo61⟩ := Kd.R_slice HO_12.out
                         (first | subst eo61 | (injection eo61 with f1_ f2_ f3_; have f4_ := f1_.symm; have f5_ := f3_.symm; clear f1_ f2_ f3_; subst f4_; subst f5_))
                         have p352 : 0 ≤ (x13_2 : Int) := of_decide_eq_true (by first | (with_reducible assumption) | assumption)
                         have q352 : x13_2 < (x12_4.length : Int) := of_decide_eq_true (by first | (with_reducible assumption) | assumption)
                         obtain ⟨ad352, e352, hx352_0⟩ := Kd.at_string (Kd.R_reads' HO_12.out).2.2 x13_2 p352 q352
                         cases e352
                         replace p352 := eq_true p352
                         replace q352 := eq_true q352
                         refine start_ (n := 10) (S := fun w' => w'.cell? ⟨gb330, 0, none⟩ = some (.int .i64 a0_0) ∧ w'.cell? ⟨gb330, 1, none⟩ = some (.int .i64 a0_1) ∧ w'.cell? (ad352.add (x13_2).toNat) = some (.string (rdOf ByteArray.empty x12_4 x13_2))) (ds := []) #[false, false, false, false, false, false, false, false, false, false] (by kernel_rfl) rfl rfl ⟨(blk_cell BK330.out 0).trans rfl, (blk_cell BK330.out 1).trans rfl, hx352_0⟩ (fun hHeld => ?_); refine with_tabW Fc.tab21 Fc.bits21 (fun HT_ HW_ => ?_)
                         generalize wr.drew = w60 at HO_8 HO_9 HO_12 HO_64 BK330 HB hx352_0 hHeld ⊢
                         refine pure_ (i := 1) (N := some 71) (v := ?_) (a' := ?_) #[false, true, false, false, false, false, false, false, false, false] rfl rfl (any_of HT_.out (by kernel_rfl)) (fun _ _ _ h => h) (Or.inl ⟨by rfl, ?_⟩) ?_ ?_
                         rotate_left; intro w'; go_simp; with_reducible rfl
                         rotate_left; simp only [pu_]; rfl
                         refine pure_ (i := 2) (N := some 72) (v := ?_) (a' := ?_) #[false, true, true, false, false, false, false, false, false, false] rfl rfl (any_of HT_.out (by kernel_rfl)) (fun _ _ _ h => h) (Or.inl ⟨by rfl, ?_⟩) ?_ ?_
                         rotate_left; intro w'; go_simp; with_reducible rfl
                         rotate_left; simp only [pu_]; rfl
                         refine pure_ (i := 3) (N := some 73) (v := ?_) (a' := ?_) #[false, true, true, true, false, false, false, false, false, false] rfl rfl (any_of HT_.out (by kernel_rfl)) (fun _ _ _ h => h) (Or.inl ⟨by rfl, ?_⟩) ?_ ?_
                         rotate_left; intro w'; go_simp; with_reducible rfl
                         rotate_left; simp only [pu_]; rfl
                         refine pure_ (i := 5) (N := some 75) (v := ?_) (a' := ?_) #[false, true, true, true, false, true, false, false, false, false] rfl rfl (any_of HT_.out (by kernel_rfl)) (fun _ _ _ h => h) (Or.inl ⟨by rfl, ?_⟩) ?_ ?_
                         rotate_left; intro w'; go_simp; with_reducible rfl
                         rotate_left; simp only [pu_]; rfl
                         refine pure_ (i := 6) (N := some 76) (v := ?_) (a' := ?_) #[false, true, true, true, false, true, true, false, false, false] rfl rfl (any_of HT_.out (by kernel_rfl)) (fun _ _ _ h => h) (Or.inl ⟨by rfl, ?_⟩) ?_ ?_
                         rotate_left; intro w'; go_simp; with_reducible rfl
                         rotate_left; simp only [pu_]; rfl
                         refine pure_ (i := 7) (N := some 77) (v := ?_) (a' := ?_) #[false, true, true, true, false, true, true, true, false, false] rfl rfl (any_of HT_.out (by kernel_rfl)) (fun _ _ _ h => h) (Or.inl ⟨by rfl, ?_⟩) ?_ ?_
                         rotate_left; intro w'; go_simp; with_reducible rfl
                         rotate_left; simp only [pu_]; rfl
                         refine take_ (i := 0) (N := some 70) (v := ?_) (a' := ?_) #[true, true, true, true, false, true, true, true, false, false] rfl rfl (take_ofW HT_.out HW_.out (by kernel_rfl)) (fun _ _ _ h => h) (Or.inl ⟨by rfl, ?_⟩) hHeld ?_ ?_
                         rotate_left; rintro w' ⟨s0, s1, s2⟩; go_simp; with_reducible rfl
                         rotate_left; simp only [pu_]; rfl
                         refine take_ (i := 4) (N := some 74) (v := ?_) (a' := ?_) #[true, true, true, true, true, true, true, true, false, false] rfl rfl (take_ofW HT_.out HW_.out (by kernel_rfl)) (fun _ _ _ h => h) (Or.inl ⟨by rfl, ?_⟩) hHeld ?_ ?_
                         rotate_left; rintro w' ⟨s0, s1, s2⟩; go_simp; with_reducible rfl
                         rotate_left; simp only [pu_]; rfl
                         refine one_ (i := 8) (N := some 78) #[true, true, true, true, true, true, true, true, true, false] rfl rfl (one_of HT_.out (by kernel_rfl)) (by decide) (fun K hK => ?_)
                         refine goes_ Try.func83 (by kernel_rfl) rfl #[.agg #[.int .i64 a0_0, .int .i64 a0_1], .string (rdOf ByteArray.empty x12_4 x13_2), .agg #[.int .i64 x15_3, .int .i64 (rd y348 x66_4)]] (by rfl) rfl rfl (by (try simp only [List.map_toArray, List.map_cons, List.map_nil]); first | done | rfl | (simp only [List.length_drop, List.length_take]; rfl)) ?_
                         with_reducible refine (FA.calls k4 a0_0 a0_1 (rdOf ByteArray.empty x12_4 x13_2) x15_3 (rd y348 x66_4) t353 _ A56.out).mono ?_
                         rintro e w62 ⟨rfl, hb⟩
                         have HS2_ := (hb.cell (World.block_lt_of_cell? _ _ (hHeld.2.2))).trans (hHeld.2.2)
                         refine ⟨_, rfl, ?_⟩
                         have n0_ := Aside0.mk (Kd.R_below (upR_ HO_8.out) hb)
                         have n1_ := Aside0.mk (Kd.R_below (upR_ HO_9.out) hb)
                         have n2_ := Aside0.mk (Kd.R_below (upR_ HO_12.out) hb)
                         have n3_ := Aside0.mk (Kd.R_below (upR_ HO_64.out) hb)
                         have n4_ := Aside0.mk (blk_below (g := gb330) (o := .cells #[.int .i64 a0_0, .int .i64 a0_1] 30 (0, 0)) (upK_ BK330.out) hb)
                         have n5_ := Aside0.mk (below_step (upB_ HB.out) hb)
                         clear HO_8; clear HO_9; clear HO_12; clear HO_64; clear BK330; clear HB; have HO_8 := n0_; have HO_9 := n1_; have HO_12 := n2_; have HO_64 := n3_; have BK330 := n4_; have HB := n5_; clear n0_ n1_ n2_ n3_ n4_ n5_; (try clear hb); (try clear hb2); (try clear hk); (try clear hi); refine hK.out _ _ ⟨(blk_cell BK330.out 0).trans rfl, (blk_cell BK330.out 1).trans rfl, HS2_⟩ (fun hHeld => ?_)
                         clear hK K; refine norm_ (a' := ?_) ?_ ?_
                         rotate_left
                         ·show Act.put _ (some 78) _ = _
                          simp only [pu_]
                          rfl
                         refine pure_ (i := 9) (N := some 18) (v := ?_) (a' := ?_) #[true, true, true, true, true, true, true, true, true, true] rfl rfl (any_of HT_.out (by kernel_rfl)) (fun _ _ _ h => h) (Or.inl ⟨by rfl, ?_⟩) ?_ ?_
                         rotate_left; intro w'; go_simp; with_reducible rfl
                         rotate_left; simp only [pu_]; rfl
                         refine done_ (done_of HT_.out (by kernel_rfl)) ?_
                         have hcz63_0 : w62.cell? ⟨gb330, 0, none⟩ = some (.int .i64 a0_0) := (blk_cell BK330.out 0).trans rfl
                         have hcz63_1 : w62.cell? ⟨gb330, 1, none⟩ = some (.int .i64 a0_1) := (blk_cell BK330.out 1).trans rfl
                         have hfz63_0 := blk_frozen BK330.out 0
                         have hfz63_1 := blk_frozen BK330.out 1
                         have H := H'.out
                         clear H'; by_cases c59 : t355 = true
                         ·subst c59
                          have H1 : (Fc.l3 k4 l1 x8_4 x9_4 x12_4 x13_2 t347 x15_3 y348 (y348.length : Int) (wrap64 (x66_4 + 1)) a0_0 a0_1) = some (r1, r2) := by rw [if_pos rfl] at H; exact H
                          clear H; have H := H1
                          clear H1; have H' := Aside0.mk H
                          clear H
                          try go_wp2_with (first | ((with_reducible refine gate_callee (f := 71) rfl ?_); refine goesL_ (some 81) rfl rfl Try.func71 (by kernel_rfl) rfl #[.agg #[.int .i64 a0_0, .int .i64 a0_1], .string t353] rfl (by (try simp only [List.map_toArray, List.map_cons, List.map_nil]); first | done | rfl | (simp only [List.length_drop, List.length_take]; rfl)) ?_; (with_reducible refine (Fg.calls k4 a0_0 a0_1 t353 t354 _ A57.out).mono ?_); rintro e w64 ⟨rfl, hb⟩; refine ⟨_, rfl, ?_⟩; have n0_ := Aside0.mk (Kd.R_below (upR_ HO_8.out) hb); have n1_ := Aside0.mk (Kd.R_below (upR_ HO_9.out) hb); have n2_ := Aside0.mk (Kd.R_below (upR_ HO_12.out) hb); have n3_ := Aside0.mk (Kd.R_below (upR_ HO_64.out) hb); have n4_ := Aside0.mk (blk_below (g := gb330) (o := .cells #[.int .i64 a0_0, .int .i64 a0_1] 30 (0, 0)) (upK_ BK330.out) hb); have n5_ := Aside0.mk (below_step (upB_ HB.out) hb); clear HO_8; clear HO_9; clear HO_12; clear HO_64; clear BK330; clear HB; have HO_8 := n0_; have HO_9 := n1_; have HO_12 := n2_; have HO_64 := n3_; have BK330 := n4_; have HB := n5_; clear n0_ n1_ n2_ n3_ n4_ n5_; (try clear hb); (try clear hb2); (try clear hk); (try clear hi)) | ((with_reducible refine gate_callee (f := 76) rfl ?_); refine goesL_ (some 84) rfl rfl Try.func76 (by kernel_rfl) rfl #[.slice A1 l1.length c1, .string t353] rfl (by (try simp only [List.map_toArray, List.map_cons, List.map_nil]); first | done | rfl | (simp only [List.length_drop, List.length_take]; rfl)) ?_; (with_reducible refine (Fn.calls k4 _ _ l1 t353 true _ ?side1 ?side2 A58.out).mono ?_); (case side1 => repeat (first | exact (Kd.C_below HR1.out HB.out) | (with_reducible refine Kd.C_alloc ?_ _) | (with_reducible refine Kd.C_drewN ?_ _) | (with_reducible refine Kd.C_drew ?_))); (case side2 => exact HC1.out); rintro e w' ⟨rfl, ⟨nd, rfl⟩⟩; refine ⟨_, rfl, ?_⟩))
                          (try simp only [← hl8_4, ← hl9_4])
                          go_roundg k4
                          case measure => have := HK1.out; have := HK2.out; have := HK3.out; have := HK4.out; omega
                          case rel => exact ⟨(x8_4), (x9_4), (x12_4), (wrap64 (x66_4 + 1)), (by first | rfl | (simp; done) | (simp [*]; done)), H', ⟨by have := HK1.out; have := HK2.out; have := HK3.out; have := HK4.out; omega⟩, ⟨by (try simp only [hl8_1, hl8_2, hl9_2, hl8_3, hl9_3, hl8_4, hl9_4]); (with_reducible repeat (first | apply Kd.R_alloc | apply Kd.R_drewN | apply Kd.R_drew)); exact HO_8.out⟩, ⟨by (try simp only [hl8_1, hl8_2, hl9_2, hl8_3, hl9_3, hl8_4, hl9_4]); (with_reducible repeat (first | apply Kd.R_alloc | apply Kd.R_drewN | apply Kd.R_drew)); exact HO_9.out⟩, ⟨by (try simp only [hl8_1, hl8_2, hl9_2, hl8_3, hl9_3, hl8_4, hl9_4]); (with_reducible repeat (first | apply Kd.R_alloc | apply Kd.R_drewN | apply Kd.R_drew)); exact HO_12.out⟩, ⟨by (try simp only [hl8_1, hl8_2, hl9_2, hl8_3, hl9_3, hl8_4, hl9_4]); (with_reducible repeat (first | apply Kd.R_alloc | apply Kd.R_drewN | apply Kd.R_drew)); exact HO_64.out⟩, ⟨by (try simp only [hl8_1, hl8_2, hl9_2, hl8_3, hl9_3, hl8_4, hl9_4]); (with_reducible repeat (first | refine blk_drewN ?_ _ | refine blk_drew ?_ | refine blk_alloc ?_ _)); exact BK330.out⟩, ⟨upB_ HB.out⟩⟩
                         ·replace c59 := Bool.eq_false_iff.mpr c59
                          subst c59
                          have H1 : (if 0 ≤ t354 then (if t354 < (x8_4.length : Int) then (if (rd x8_4 t354) < 0 then (if 0 ≤ t347 then (if t347 < (x8_4.length : Int) then ((some (x8_4.set (t354 : Int).toNat (wrap64 ((rd x8_4 t347) + 1)) : List Int)).bind fun y358 => (if x12_4.length < 8796093022208 then ((some (x12_4 ++ [t353] : List ByteArray)).bind fun y359 => (if (rd y358 t354) = (wrap64 ((rd y358 t347) + 1)) then (if t354 < (x9_4.length : Int) then (if t347 < (x9_4.length : Int) then ((FV.f (wrap64 ((rd x9_4 t354) + (rd x9_4 t347))) 1000000000000001).bind fun t366 => (Fc.l3 k4 l1 y358 (x9_4.set (t354 : Int).toNat t366) y359 x13_2 t347 x15_3 y348 (y348.length : Int) (wrap64 (x66_4 + 1)) a0_0 a0_1)) else (none)) else (none)) else (Fc.l3 k4 l1 y358 x9_4 y359 x13_2 t347 x15_3 y348 (y348.length : Int) (wrap64 (x66_4 + 1)) a0_0 a0_1))) else (none))) else (none)) else (none)) else (if 0 ≤ t347 then (if t347 < (x8_4.length : Int) then (if (rd x8_4 t354) = (wrap64 ((rd x8_4 t347) + 1)) then (if t354 < (x9_4.length : Int) then (if t347 < (x9_4.length : Int) then ((FV.f (wrap64 ((rd x9_4 t354) + (rd x9_4 t347))) 1000000000000001).bind fun t372 => (Fc.l3 k4 l1 x8_4 (x9_4.set (t354 : Int).toNat t372) x12_4 x13_2 t347 x15_3 y348 (y348.length : Int) (wrap64 (x66_4 + 1)) a0_0 a0_1)) else (none)) else (none)) else (Fc.l3 k4 l1 x8_4 x9_4 x12_4 x13_2 t347 x15_3 y348 (y348.length : Int) (wrap64 (x66_4 + 1)) a0_0 a0_1)) else (none)) else (none))) else (none)) else (none)) = some (r1, r2) := by rw [if_neg (show ¬ (false = true) by decide)] at H; exact H
                          clear H; have H := H1
                          clear H1; by_cases c65 : 0 ≤ t354
                          ·rw [if_pos c65] at H
                           have c65b0 : decide (0 ≤ t354) = true := decide_eq_true c65
                           clear c65; by_cases c66 : t354 < (x8_4.length : Int)
                           ·rw [if_pos c66] at H
                            have c66b0 : decide (t354 < (x8_4.length : Int)) = true := decide_eq_true c66
                            clear c66; by_cases c67 : (rd x8_4 t354) < 0
                            ·rw [if_pos c67] at H
                             have c67b0 : decide ((rd x8_4 t354) < 0) = true := decide_eq_true c67
                             clear c67; by_cases c68 : 0 ≤ t347
                             ·rw [if_pos c68] at H
                              have c68b0 : decide (0 ≤ t347) = true := decide_eq_true c68
                              clear c68; by_cases c69 : t347 < (x8_4.length : Int)
                              ·rw [if_pos c69] at H
                               have c69b0 : decide (t347 < (x8_4.length : Int)) = true := decide_eq_true c69
                               clear c69; obtain ⟨y358, hy358⟩ : ∃ y_ : List Int, y_ = (x8_4.set (t354 : Int).toNat (wrap64 ((rd x8_4 t347) + 1))) := ⟨_, rfl⟩
                               replace H : (if x12_4.length < 8796093022208 then ((some (x12_4 ++ [t353] : List ByteArray)).bind fun y359 => (if (rd y358 t354) = (wrap64 ((rd y358 t347) + 1)) then (if t354 < (x9_4.length : Int) then (if t347 < (x9_4.length : Int) then ((FV.f (wrap64 ((rd x9_4 t354) + (rd x9_4 t347))) 1000000000000001).bind fun t366 => (Fc.l3 k4 l1 y358 (x9_4.set (t354 : Int).toNat t366) y359 x13_2 t347 x15_3 y348 (y348.length : Int) (wrap64 (x66_4 + 1)) a0_0 a0_1)) else (none)) else (none)) else (Fc.l3 k4 l1 y358 x9_4 y359 x13_2 t347 x15_3 y348 (y348.length : Int) (wrap64 (x66_4 + 1)) a0_0 a0_1))) else (none)) = some (r1, r2) := by first | (rw [hy358]; with_reducible exact H) | (have H2_ := (Option.bind_some _ _).symm.trans H; rw [hy358]; with_reducible exact H2_) | (have H2_ := (Option.bind_some _ _).symm.trans H; with_reducible exact H2_) | with_reducible exact H | (rw [hy358]; exact H) | exact H
                               have Ny358 := Aside0.mk hy358
                               clear hy358; by_cases c71 : x12_4.length < 8796093022208
                               ·rw [if_pos c71] at H
                                have LMc71 := Aside0.mk c71
                                clear c71; obtain ⟨y359, hy359⟩ : ∃ y_ : List ByteArray, y_ = (x12_4 ++ [t353]) := ⟨_, rfl⟩
                                replace H : (if (rd y358 t354) = (wrap64 ((rd y358 t347) + 1)) then (if t354 < (x9_4.length : Int) then (if t347 < (x9_4.length : Int) then ((FV.f (wrap64 ((rd x9_4 t354) + (rd x9_4 t347))) 1000000000000001).bind fun t366 => (Fc.l3 k4 l1 y358 (x9_4.set (t354 : Int).toNat t366) y359 x13_2 t347 x15_3 y348 (y348.length : Int) (wrap64 (x66_4 + 1)) a0_0 a0_1)) else (none)) else (none)) else (Fc.l3 k4 l1 y358 x9_4 y359 x13_2 t347 x15_3 y348 (y348.length : Int) (wrap64 (x66_4 + 1)) a0_0 a0_1)) = some (r1, r2) := by first | (rw [hy359]; with_reducible exact H) | (have H2_ := (Option.bind_some _ _).symm.trans H; rw [hy359]; with_reducible exact H2_) | (have H2_ := (Option.bind_some _ _).symm.trans H; with_reducible exact H2_) | with_reducible exact H | (rw [hy359]; exact H) | exact H
                                have Ny359 := Aside0.mk hy359
                                clear hy359; by_cases c72 : (rd y358 t354) = (wrap64 ((rd y358 t347) + 1))
                                ·rw [if_pos c72] at H
                                 have c72b0 : ((rd y358 t354) == (wrap64 ((rd y358 t347) + 1))) = true := beq_iff_eq.mpr c72
                                 (try (have c72b0v : ((rd y358 t354) == (IntKind.i64.wrap ((rd y358 t347) + 1))) = true := by first | exact c72b0 | simpa only [i64_w] using c72b0))
                                 have c72b1 : ((rd y358 t354) != (wrap64 ((rd y358 t347) + 1))) = false := bne_eq_false_iff_eq.mpr c72
                                 (try (have c72b1v : ((rd y358 t354) != (IntKind.i64.wrap ((rd y358 t347) + 1))) = false := by first | exact c72b1 | simpa only [i64_w] using c72b1))
                                 clear c72; by_cases c73 : t354 < (x9_4.length : Int)
                                 ·rw [if_pos c73] at H
                                  have c73b0 : decide (t354 < (x9_4.length : Int)) = true := decide_eq_true c73
                                  clear c73; by_cases c74 : t347 < (x9_4.length : Int)
                                  ·rw [if_pos c74] at H
                                   have c74b0 : decide (t347 < (x9_4.length : Int)) = true := decide_eq_true c74
                                   clear c74; replace H := Option.bind_eq_some_iff.mp H
                                   obtain ⟨t366, A750, H⟩ := H
                                   replace H : (Fc.l3 k4 l1 y358 (x9_4.set (t354 : Int).toNat t366) y359 x13_2 t347 x15_3 y348 (y348.length : Int) (wrap64 (x66_4 + 1)) a0_0 a0_1) = some (r1, r2) := H
                                   have A75 := Aside0.mk A750
                                   clear A750; obtain ⟨y367, hy367⟩ : ∃ y_ : List Int, y_ = (x9_4.set (t354 : Int).toNat t366) := ⟨_, rfl⟩
                                   replace H : (Fc.l3 k4 l1 y358 y367 y359 x13_2 t347 x15_3 y348 (y348.length : Int) (wrap64 (x66_4 + 1)) a0_0 a0_1) = some (r1, r2) := by first | (rw [hy367]; with_reducible exact H) | (have H2_ := (Option.bind_some _ _).symm.trans H; rw [hy367]; with_reducible exact H2_) | (have H2_ := (Option.bind_some _ _).symm.trans H; with_reducible exact H2_) | with_reducible exact H | (rw [hy367]; exact H) | exact H
                                   have Ny367 := Aside0.mk hy367
                                   clear hy367; have H' := Aside0.mk H
                                   clear H
                                   try go_wp2_with (first | ((with_reducible refine gate_callee (f := 71) rfl ?_); refine goesL_ (some 81) rfl rfl Try.func71 (by kernel_rfl) rfl #[.agg #[.int .i64 a0_0, .int .i64 a0_1], .string t353] rfl (by (try simp only [List.map_toArray, List.map_cons, List.map_nil]); first | done | rfl | (simp only [List.length_drop, List.length_take]; rfl)) ?_; (with_reducible refine (Fg.calls k4 a0_0 a0_1 t353 t354 _ A57.out).mono ?_); rintro e w81 ⟨rfl, hb⟩; refine ⟨_, rfl, ?_⟩; have n0_ := Aside0.mk (Kd.R_below (upR_ HO_8.out) hb); have n1_ := Aside0.mk (Kd.R_below (upR_ HO_9.out) hb); have n2_ := Aside0.mk (Kd.R_below (upR_ HO_12.out) hb); have n3_ := Aside0.mk (Kd.R_below (upR_ HO_64.out) hb); have n4_ := Aside0.mk (blk_below (g := gb330) (o := .cells #[.int .i64 a0_0, .int .i64 a0_1] 30 (0, 0)) (upK_ BK330.out) hb); have n5_ := Aside0.mk (below_step (upB_ HB.out) hb); clear HO_8; clear HO_9; clear HO_12; clear HO_64; clear BK330; clear HB; have HO_8 := n0_; have HO_9 := n1_; have HO_12 := n2_; have HO_64 := n3_; have BK330 := n4_; have HB := n5_; clear n0_ n1_ n2_ n3_ n4_ n5_; (try clear hb); (try clear hb2); (try clear hk); (try clear hi)) | ((with_reducible refine gate_callee (f := 76) rfl ?_); refine goesL_ (some 84) rfl rfl Try.func76 (by kernel_rfl) rfl #[.slice A1 l1.length c1, .string t353] rfl (by (try simp only [List.map_toArray, List.map_cons, List.map_nil]); first | done | rfl | (simp only [List.length_drop, List.length_take]; rfl)) ?_; (with_reducible refine (Fn.calls k4 _ _ l1 t353 false _ ?side1 ?side2 A58.out).mono ?_); (case side1 => repeat (first | exact (Kd.C_below HR1.out HB.out) | (with_reducible refine Kd.C_alloc ?_ _) | (with_reducible refine Kd.C_drewN ?_ _) | (with_reducible refine Kd.C_drew ?_))); (case side2 => exact HC1.out); rintro e w' ⟨rfl, ⟨nd, rfl⟩⟩; refine ⟨_, rfl, ?_⟩; (try (rw [drewN_self w81]; generalize hq_ : World.drewN w81 _ = w81; have n0_ : Aside0 (Kd.R Kd.string 9 w81 w.heap.size (fun _ => True) (.slice (some ad352) x12_4.length co61) x12_4) := ⟨by rw [← hq_]; exact (upR_ HO_12.out)⟩; have n1_ : Aside0 (Kd.R (Kd.int .i64) 3 w81 w.heap.size (fun k_ => some k_ ≠ (.slice (some ⟨go29, 0, none⟩) x8_4.length co19 : Value).ownBlock ∧ some k_ ≠ (.slice (some ⟨go31, 0, none⟩) x9_4.length co31 : Value).ownBlock) (.slice (some ad351) y348.length co50) y348) := ⟨by rw [← hq_]; exact (upR_ HO_64.out)⟩; have n2_ : Aside0 (Kd.R (Kd.int .i64) 3 w81 w.heap.size (fun k_ => some k_ ≠ (.slice (some ⟨go31, 0, none⟩) x9_4.length co31 : Value).ownBlock ∧ some k_ ≠ (.slice (some ad351) y348.length co50 : Value).ownBlock) (.slice (some ⟨go29, 0, none⟩) x8_4.length co19) x8_4) := ⟨by rw [← hq_]; exact (upR_ HO_8.out)⟩; have n3_ : Aside0 (Kd.R (Kd.int .i64) 3 w81 w.heap.size (fun k_ => some k_ ≠ (.slice (some ⟨go29, 0, none⟩) x8_4.length co19 : Value).ownBlock ∧ some k_ ≠ (.slice (some ad351) y348.length co50 : Value).ownBlock) (.slice (some ⟨go31, 0, none⟩) x9_4.length co31) x9_4) := ⟨by rw [← hq_]; exact (upR_ HO_9.out)⟩; have n4_ : Aside0 (w81.heap[gb330]? = some (.cells #[.int .i64 a0_0, .int .i64 a0_1] 30 (0, 0))) := ⟨by rw [← hq_]; exact (upK_ BK330.out)⟩; have n5_ : Aside0 (Below w.heap.size w w81) := ⟨by rw [← hq_]; exact (upB_ HB.out)⟩; clear HO_12 HO_64 HO_8 HO_9 BK330 HB hq_; have HO_12 := n0_; have HO_64 := n1_; have HO_8 := n2_; have HO_9 := n3_; have BK330 := n4_; have HB := n5_; clear n0_ n1_ n2_ n3_ n4_ n5_)); have p356 : 0 ≤ (t354 : Int) := of_decide_eq_true (by first | (with_reducible assumption) | assumption); have q356 : t354 < (x8_4.length : Int) := of_decide_eq_true (by first | (with_reducible assumption) | assumption); obtain ⟨ad356, e356, hx356_0⟩ := Kd.at_int (Kd.R_reads' HO_8.out).2.2 t354 p356 q356; obtain rfl : (⟨go29, 0, none⟩ : Addr) = ad356 := (by injection e356); (first | simp only [add_plain] at hx356_0 | simp only [add_at] at hx356_0 | simp only [Addr.add, Nat.zero_add] at hx356_0 | skip); replace p356 := eq_true p356; replace q356 := eq_true q356; have p357 : 0 ≤ (t347 : Int) := of_decide_eq_true (by first | (with_reducible assumption) | assumption); have q357 : t347 < (x8_4.length : Int) := of_decide_eq_true (by first | (with_reducible assumption) | assumption); obtain ⟨ad357, e357, hx357_0⟩ := Kd.at_int (Kd.R_reads' HO_8.out).2.2 t347 p357 q357; obtain rfl : (⟨go29, 0, none⟩ : Addr) = ad357 := (by injection e357); (first | simp only [add_plain] at hx357_0 | simp only [add_at] at hx357_0 | simp only [Addr.add, Nat.zero_add] at hx357_0 | skip); replace p357 := eq_true p357; replace q357 := eq_true q357; have p70 : 0 ≤ (t354 : Int) := of_decide_eq_true (by first | (with_reducible assumption) | assumption); have q70 : (t354 : Int) < ((x8_4.length : Int) : Int) := of_decide_eq_true (by first | (with_reducible assumption) | assumption); obtain ⟨hx70_0, hf70_0⟩ := Kd.R_celln 0 HO_8.out (t354 : Int) p70 q70; replace p70 := eq_true p70; replace q70 := eq_true q70; obtain ⟨hy82_, hz82_⟩ := Kd.R_celln 0 HO_8.out (t354 : Int) (of_decide_eq_true (by first | (with_reducible assumption) | assumption)) (of_decide_eq_true (by first | (with_reducible assumption) | assumption)); have HP82 := Kd.R_putg HO_8.out (t354 : Int) (wrap64 ((rd x8_4 t347) + 1))) | ((with_reducible refine gate_store (t := 3) (p := 97) rfl ?_); refine store_event (t := 3) (p := 97) (v := ?vo_w83) (w1 := (w81.setCell ⟨go29, (t354 : Int).toNat, none⟩ (.int .i64 (wrap64 ((rd x8_4 t347) + 1))))) ?hg ?ho ?hn ?hr ?_; (case ho => rfl); (case hg => rfl); (case hn => rfl); (case hr => first | (go_simp; done) | (go_simp; rfl)); intro w83 hw; have hg : w81.grownBy w83 (some go29) := (by rw [hw]; exact HP82.2); have hp_ : Kd.R (Kd.int .i64) 3 w83 w.heap.size (fun k_ => some k_ ≠ (.slice (some ⟨go31, 0, none⟩) x9_4.length co31 : Value).ownBlock ∧ some k_ ≠ (.slice (some ad351) y348.length co50 : Value).ownBlock) (.slice (some ⟨go29, 0, none⟩) x8_4.length co19) y358 := (by rw [hw, Ny358.out]; exact HP82.1); clear HP82; have n0_ := Aside0.mk (hp_); have n1_ := Aside0.mk (Kd.R_after (v := (.slice (some ⟨go29, 0, none⟩) x8_4.length co19)) (v1 := (.slice (some ⟨go29, 0, none⟩) x8_4.length co19)) (ok := (fun k_ => some k_ ≠ (.slice (some ad351) y348.length co50 : Value).ownBlock)) (by (with_reducible repeat (first | apply Kd.R_alloc | apply Kd.R_drewN | apply Kd.R_drew)); exact Kd.R_mono HO_9.out (fun _ hk => ⟨hk.2, hk.1⟩)) hg (.inl rfl)); have n2_ := Aside0.mk (Kd.R_over' (v := (.slice (some ⟨go29, 0, none⟩) x8_4.length co19)) (upR_ HO_12.out) (Kd.R_typed HO_8.out) (by decide) hg); have n3_ := Aside0.mk (Kd.R_after (v := (.slice (some ⟨go29, 0, none⟩) x8_4.length co19)) (v1 := (.slice (some ⟨go29, 0, none⟩) x8_4.length co19)) (ok := (fun k_ => some k_ ≠ (.slice (some ⟨go31, 0, none⟩) x9_4.length co31 : Value).ownBlock)) (by (with_reducible repeat (first | apply Kd.R_alloc | apply Kd.R_drewN | apply Kd.R_drew)); exact Kd.R_mono HO_64.out (fun _ hk => ⟨hk.2, hk.1⟩)) hg (.inl rfl)); have n4_ := Aside0.mk (blk_grown (g := gb330) (o := .cells #[.int .i64 a0_0, .int .i64 a0_1] 30 (0, 0)) (upK_ BK330.out) hg (Kd.R_ne HO_8.out BK330.out (by decide))); have n5_ := Aside0.mk ((by rw [hw]; exact below_set (HB.out) GB29.out : Below w.heap.size w w83)); clear HO_8; clear HO_9; clear HO_12; clear HO_64; clear BK330; clear HB; have HO_8 := n0_; have HO_9 := n1_; have HO_12 := n2_; have HO_64 := n3_; have BK330 := n4_; have HB := n5_; clear n0_ n1_ n2_ n3_ n4_ n5_; clear hg hw hp_) | ((with_reducible refine gate_builtin (b := .append) (xs := #[.tmp 98, .tmp 100]) rfl ?_); at_builtin; refine Kd.R_append Kd.string (w0 := w) w.heap.size rfl (.tmp 98) (.tmp 100) 24 9 (.string ⟨#[]⟩) 16 rfl Try.underlying24 info9 rfl (by decide) (by omega) (.slice (some ad352) x12_4.length co61) x12_4 t353 [.string t353] (fun _ => True) (fun _ => False) rfl rfl ?aP (fun _ hk => hk.elim) ?aF ?aO ?aB ?aS ?aL ?_; (case aP => exact rfl); (case aB => exact (upB_ HB.out)); (case aF => exact (fun _ _ => trivial)); (case aO => exact (upR_ HO_12.out)); (case aS => exact (below_size (upB_ HB.out))); (case aL => have := LMc71.out; omega); intro v360 w84 ho hb hg hat; rw [← Ny359.out] at ho; have n0_ := Aside0.mk (Kd.R_over' (upR_ HO_8.out) (Kd.R_typed (upR_ HO_12.out)) (by decide) hg); have n1_ := Aside0.mk (Kd.R_over' (upR_ HO_9.out) (Kd.R_typed (upR_ HO_12.out)) (by decide) hg); have n2_ := Aside0.mk (Kd.R_over' (upR_ HO_64.out) (Kd.R_typed (upR_ HO_12.out)) (by decide) hg); have n3_ := Aside0.mk (blk_grown (g := gb330) (o := .cells #[.int .i64 a0_0, .int .i64 a0_1] 30 (0, 0)) (upK_ BK330.out) hg (Kd.R_ne HO_12.out BK330.out (by decide))); have n4_ := Aside0.mk (hb); have n5_ := Aside0.mk (ho); clear HO_8; clear HO_9; clear HO_64; clear BK330; clear HB; clear HO_12; have HO_8 := n0_; have HO_9 := n1_; have HO_64 := n2_; have BK330 := n3_; have HB := n4_; have HO361 := n5_; clear n0_ n1_ n2_ n3_ n4_ n5_; clear ho hb hg hat))
                                   have n0_ := Aside0.mk (Kd.R_drew HO_8.out)
                                   have n1_ := Aside0.mk (Kd.R_drew HO_9.out)
                                   have n2_ := Aside0.mk (Kd.R_drew HO_64.out)
                                   have n3_ := Aside0.mk (Kd.R_drew HO361.out)
                                   have n4_ := Aside0.mk (blk_drew BK330.out)
                                   have n5_ := Aside0.mk (below_drew1 HB.out)
                                   clear HO_8; clear HO_9; clear HO_64; clear HO361; clear BK330; clear HB; have HO_8 := n0_; have HO_9 := n1_; have HO_64 := n2_; have HO361 := n3_; have BK330 := n4_; have HB := n5_; clear n0_ n1_ n2_ n3_ n4_ n5_; have p362 : 0 ≤ (t354 : Int) := of_decide_eq_true (by first | (with_reducible assumption) | assumption)
                                   have q362 : t354 < (y358.length : Int) := (by have h_ : (t354 : Int) < ((x8_4.length : Int) : Int) := of_decide_eq_true (by first | (with_reducible assumption) | assumption); first | (have e_ := (Kd.R_reads' HO_8.out).1; omega) | simpa only [Ny358.out, List.length_set] using h_)
                                   have ql362 : ((t354 : Int) < ((x8_4.length : Int) : Int)) = True := eq_true (of_decide_eq_true (by first | (with_reducible assumption) | assumption))
                                   obtain ⟨ad362, e362, hx362_0⟩ := Kd.at_int (Kd.R_reads' HO_8.out).2.2 t354 p362 q362
                                   obtain rfl : (⟨go29, 0, none⟩ : Addr) = ad362 := (by injection e362)
                                   (first | simp only [add_plain] at hx362_0 | simp only [add_at] at hx362_0 | simp only [Addr.add, Nat.zero_add] at hx362_0 | skip)
                                   replace p362 := eq_true p362
                                   replace q362 := eq_true q362
                                   have p363 : 0 ≤ (t347 : Int) := of_decide_eq_true (by first | (with_reducible assumption) | assumption)
                                   have q363 : t347 < (y358.length : Int) := (by have h_ : (t347 : Int) < ((x8_4.length : Int) : Int) := of_decide_eq_true (by first | (with_reducible assumption) | assumption); first | (have e_ := (Kd.R_reads' HO_8.out).1; omega) | simpa only [Ny358.out, List.length_set] using h_)
                                   have ql363 : ((t347 : Int) < ((x8_4.length : Int) : Int)) = True := eq_true (of_decide_eq_true (by first | (with_reducible assumption) | assumption))
                                   obtain ⟨ad363, e363, hx363_0⟩ := Kd.at_int (Kd.R_reads' HO_8.out).2.2 t347 p363 q363
                                   obtain rfl : (⟨go29, 0, none⟩ : Addr) = ad363 := (by injection e363)
                                   (first | simp only [add_plain] at hx363_0 | simp only [add_at] at hx363_0 | simp only [Addr.add, Nat.zero_add] at hx363_0 | skip)
                                   replace p363 := eq_true p363
                                   replace q363 := eq_true q363
                                   refine start_ (n := 10) (S := fun w' => w'.cell? ⟨go29, (t354).toNat, none⟩ = some (.int .i64 (rd y358 t354)) ∧ w'.cell? ⟨go29, (t347).toNat, none⟩ = some (.int .i64 (rd y358 t347))) (ds := []) #[false, false, false, false, false, false, false, false, false, false] (by kernel_rfl) rfl rfl ⟨hx362_0, hx363_0⟩ (fun hHeld => ?_); refine with_tabW Fc.tab27 Fc.bits27 (fun HT_ HW_ => ?_)
                                   generalize w84.drew = w85 at HO_8 HO_9 HO_64 HO361 BK330 HB hx362_0 hx363_0 hHeld ⊢
                                   refine pure_ (i := 0) (N := some 102) (v := ?_) (a' := ?_) #[true, false, false, false, false, false, false, false, false, false] rfl rfl (any_of HT_.out (by kernel_rfl)) (fun _ _ _ h => h) (Or.inl ⟨by rfl, ?_⟩) ?_ ?_
                                   rotate_left; intro w'; go_simp; with_reducible rfl
                                   rotate_left; simp only [pu_]; rfl
                                   refine pure_ (i := 1) (N := some 103) (v := ?_) (a' := ?_) #[true, true, false, false, false, false, false, false, false, false] rfl rfl (any_of HT_.out (by kernel_rfl)) (fun _ _ _ h => h) (Or.inl ⟨by rfl, ?_⟩) ?_ ?_
                                   rotate_left; intro w'; go_simp; with_reducible rfl
                                   rotate_left; simp only [pu_]; rfl
                                   refine pure_ (i := 2) (N := some 104) (v := ?_) (a' := ?_) #[true, true, true, false, false, false, false, false, false, false] rfl rfl (any_of HT_.out (by kernel_rfl)) (fun _ _ _ h => h) (Or.inl ⟨by rfl, ?_⟩) ?_ ?_
                                   rotate_left; intro w'; go_simp; with_reducible rfl
                                   rotate_left; simp only [pu_]; rfl
                                   refine pure_ (i := 4) (N := some 106) (v := ?_) (a' := ?_) #[true, true, true, false, true, false, false, false, false, false] rfl rfl (any_of HT_.out (by kernel_rfl)) (fun _ _ _ h => h) (Or.inl ⟨by rfl, ?_⟩) ?_ ?_
                                   rotate_left; intro w'; go_simp; with_reducible rfl
                                   rotate_left; simp only [pu_]; rfl
                                   refine pure_ (i := 5) (N := some 107) (v := ?_) (a' := ?_) #[true, true, true, false, true, true, false, false, false, false] rfl rfl (any_of HT_.out (by kernel_rfl)) (fun _ _ _ h => h) (Or.inl ⟨by rfl, ?_⟩) ?_ ?_
                                   rotate_left; intro w'; go_simp; with_reducible rfl
                                   rotate_left; simp only [pu_]; rfl
                                   refine pure_ (i := 6) (N := some 108) (v := ?_) (a' := ?_) #[true, true, true, false, true, true, true, false, false, false] rfl rfl (any_of HT_.out (by kernel_rfl)) (fun _ _ _ h => h) (Or.inl ⟨by rfl, ?_⟩) ?_ ?_
                                   rotate_left; intro w'; go_simp; with_reducible rfl
                                   rotate_left; simp only [pu_]; rfl
                                   refine take_ (i := 3) (N := some 105) (v := ?_) (a' := ?_) #[true, true, true, true, true, true, true, false, false, false] rfl rfl (take_ofW HT_.out HW_.out (by kernel_rfl)) (fun _ _ _ h => h) (Or.inl ⟨by rfl, ?_⟩) hHeld ?_ ?_
                                   rotate_left; rintro w' ⟨s0, s1⟩; go_simp; with_reducible rfl
                                   rotate_left; simp only [pu_]; rfl
                                   refine take_ (i := 7) (N := some 109) (v := ?_) (a' := ?_) #[true, true, true, true, true, true, true, true, false, false] rfl rfl (take_ofW HT_.out HW_.out (by kernel_rfl)) (fun _ _ _ h => h) (Or.inl ⟨by rfl, ?_⟩) hHeld ?_ ?_
                                   rotate_left; rintro w' ⟨s0, s1⟩; go_simp; with_reducible rfl
                                   rotate_left; simp only [pu_]; rfl
                                   refine pure_ (i := 8) (N := some 110) (v := ?_) (a' := ?_) #[true, true, true, true, true, true, true, true, true, false] rfl rfl (any_of HT_.out (by kernel_rfl)) (fun _ _ _ h => h) (Or.inl ⟨by rfl, ?_⟩) ?_ ?_
                                   rotate_left; intro w'; go_simp; with_reducible rfl
                                   rotate_left; simp only [pu_]; rfl
                                   refine pure_ (i := 9) (N := some 111) (v := ?_) (a' := ?_) #[true, true, true, true, true, true, true, true, true, true] rfl rfl (any_of HT_.out (by kernel_rfl)) (fun _ _ _ h => h) (Or.inl ⟨by rfl, ?_⟩) ?_ ?_
                                   rotate_left; intro w'; go_simp; with_reducible rfl
                                   rotate_left; simp only [pu_]; rfl
                                   refine done_ (done_of HT_.out (by kernel_rfl)) ?_
                                   try go_wp2
                                   have n0_ := Aside0.mk (Kd.R_drew HO_8.out)
                                   have n1_ := Aside0.mk (Kd.R_drew HO_9.out)
                                   have n2_ := Aside0.mk (Kd.R_drew HO_64.out)
                                   have n3_ := Aside0.mk (Kd.R_drew HO361.out)
                                   have n4_ := Aside0.mk (blk_drew BK330.out)
                                   have n5_ := Aside0.mk (below_drew1 HB.out)
                                   clear HO_8; clear HO_9; clear HO_64; clear HO361; clear BK330; clear HB; have HO_8 := n0_; have HO_9 := n1_; have HO_64 := n2_; have HO361 := n3_; have BK330 := n4_; have HB := n5_; clear n0_ n1_ n2_ n3_ n4_ n5_; have p364 : 0 ≤ (t354 : Int) := of_decide_eq_true (by first | (with_reducible assumption) | assumption)
                                   have q364 : t354 < (x9_4.length : Int) := of_decide_eq_true (by first | (with_reducible assumption) | assumption)
                                   obtain ⟨ad364, e364, hx364_0⟩ := Kd.at_int (Kd.R_reads' HO_9.out).2.2 t354 p364 q364
                                   obtain rfl : (⟨go31, 0, none⟩ : Addr) = ad364 := (by injection e364)
                                   (first | simp only [add_plain] at hx364_0 | simp only [add_at] at hx364_0 | simp only [Addr.add, Nat.zero_add] at hx364_0 | skip)
                                   replace p364 := eq_true p364
                                   replace q364 := eq_true q364
                                   have p365 : 0 ≤ (t347 : Int) := of_decide_eq_true (by first | (with_reducible assumption) | assumption)
                                   have q365 : t347 < (x9_4.length : Int) := of_decide_eq_true (by first | (with_reducible assumption) | assumption)
                                   obtain ⟨ad365, e365, hx365_0⟩ := Kd.at_int (Kd.R_reads' HO_9.out).2.2 t347 p365 q365
                                   obtain rfl : (⟨go31, 0, none⟩ : Addr) = ad365 := (by injection e365)
                                   (first | simp only [add_plain] at hx365_0 | simp only [add_at] at hx365_0 | simp only [Addr.add, Nat.zero_add] at hx365_0 | skip)
                                   replace p365 := eq_true p365
                                   replace q365 := eq_true q365
                                   refine start_ (n := 14) (S := fun w' => w'.cell? ⟨go31, (t354).toNat, none⟩ = some (.int .i64 (rd x9_4 t354)) ∧ w'.cell? ⟨go31, (t347).toNat, none⟩ = some (.int .i64 (rd x9_4 t347))) (ds := [13]) #[false, false, false, false, false, false, false, false, false, false, false, false, false, false] (by kernel_rfl) rfl rfl ⟨hx364_0, hx365_0⟩ (fun hHeld => ?_); refine with_tabW Fc.tab28 Fc.bits28 (fun HT_ HW_ => ?_)
                                   generalize w85.drew = w86 at HO_8 HO_9 HO_64 HO361 BK330 HB hx364_0 hx365_0 hHeld ⊢
                                   refine pure_ (i := 0) (N := some 112) (v := ?_) (a' := ?_) #[true, false, false, false, false, false, false, false, false, false, false, false, false, false] rfl rfl (any_of HT_.out (by kernel_rfl)) (fun _ _ _ h => h) (Or.inl ⟨by rfl, ?_⟩) ?_ ?_
                                   rotate_left; intro w'; go_simp; with_reducible rfl
                                   rotate_left; simp only [pu_]; rfl
                                   refine pure_ (i := 1) (N := some 113) (v := ?_) (a' := ?_) #[true, true, false, false, false, false, false, false, false, false, false, false, false, false] rfl rfl (any_of HT_.out (by kernel_rfl)) (fun _ _ _ h => h) (Or.inl ⟨by rfl, ?_⟩) ?_ ?_
                                   rotate_left; intro w'; go_simp; with_reducible rfl
                                   rotate_left; simp only [pu_]; rfl
                                   refine pure_ (i := 2) (N := some 114) (v := ?_) (a' := ?_) #[true, true, true, false, false, false, false, false, false, false, false, false, false, false] rfl rfl (any_of HT_.out (by kernel_rfl)) (fun _ _ _ h => h) (Or.inl ⟨by rfl, ?_⟩) ?_ ?_
                                   rotate_left; intro w'; go_simp; with_reducible rfl
                                   rotate_left; simp only [pu_]; rfl
                                   refine pure_ (i := 3) (N := some 115) (v := ?_) (a' := ?_) #[true, true, true, true, false, false, false, false, false, false, false, false, false, false] rfl rfl (any_of HT_.out (by kernel_rfl)) (fun _ _ _ h => h) (Or.inl ⟨by rfl, ?_⟩) ?_ ?_
                                   rotate_left; intro w'; go_simp; with_reducible rfl
                                   rotate_left; simp only [pu_]; rfl
                                   refine pure_ (i := 4) (N := some 116) (v := ?_) (a' := ?_) #[true, true, true, true, true, false, false, false, false, false, false, false, false, false] rfl rfl (any_of HT_.out (by kernel_rfl)) (fun _ _ _ h => h) (Or.inl ⟨by rfl, ?_⟩) ?_ ?_
                                   rotate_left; intro w'; go_simp; with_reducible rfl
                                   rotate_left; simp only [pu_]; rfl
                                   refine pure_ (i := 6) (N := some 118) (v := ?_) (a' := ?_) #[true, true, true, true, true, false, true, false, false, false, false, false, false, false] rfl rfl (any_of HT_.out (by kernel_rfl)) (fun _ _ _ h => h) (Or.inl ⟨by rfl, ?_⟩) ?_ ?_
                                   rotate_left; intro w'; go_simp; with_reducible rfl
                                   rotate_left; simp only [pu_]; rfl
                                   refine pure_ (i := 7) (N := some 119) (v := ?_) (a' := ?_) #[true, true, true, true, true, false, true, true, false, false, false, false, false, false] rfl rfl (any_of HT_.out (by kernel_rfl)) (fun _ _ _ h => h) (Or.inl ⟨by rfl, ?_⟩) ?_ ?_
                                   rotate_left; intro w'; go_simp; with_reducible rfl
                                   rotate_left; simp only [pu_]; rfl
                                   refine pure_ (i := 8) (N := some 120) (v := ?_) (a' := ?_) #[true, true, true, true, true, false, true, true, true, false, false, false, false, false] rfl rfl (any_of HT_.out (by kernel_rfl)) (fun _ _ _ h => h) (Or.inl ⟨by rfl, ?_⟩) ?_ ?_
                                   rotate_left; intro w'; go_simp; with_reducible rfl
                                   rotate_left; simp only [pu_]; rfl
                                   refine take_ (i := 5) (N := some 117) (v := ?_) (a' := ?_) #[true, true, true, true, true, true, true, true, true, false, false, false, false, false] rfl rfl (take_ofW HT_.out HW_.out (by kernel_rfl)) (fun _ _ _ h => h) (Or.inl ⟨by rfl, ?_⟩) hHeld ?_ ?_
                                   rotate_left; rintro w' ⟨s0, s1⟩; go_simp; with_reducible rfl
                                   rotate_left; simp only [pu_]; rfl
                                   refine take_ (i := 9) (N := some 121) (v := ?_) (a' := ?_) #[true, true, true, true, true, true, true, true, true, true, false, false, false, false] rfl rfl (take_ofW HT_.out HW_.out (by kernel_rfl)) (fun _ _ _ h => h) (Or.inl ⟨by rfl, ?_⟩) hHeld ?_ ?_
                                   rotate_left; rintro w' ⟨s0, s1⟩; go_simp; with_reducible rfl
                                   rotate_left; simp only [pu_]; rfl
                                   refine pure_ (i := 10) (N := some 122) (v := ?_) (a' := ?_) #[true, true, true, true, true, true, true, true, true, true, true, false, false, false] rfl rfl (any_of HT_.out (by kernel_rfl)) (fun _ _ _ h => h) (Or.inl ⟨by rfl, ?_⟩) ?_ ?_
                                   rotate_left; intro w'; go_simp; with_reducible rfl
                                   rotate_left; simp only [pu_]; rfl
                                   refine one_ (i := 11) (N := some 123) #[true, true, true, true, true, true, true, true, true, true, true, true, false, false] rfl rfl (one_of HT_.out (by kernel_rfl)) (by decide) (fun K hK => ?_)
                                   refine goes_ Try.func99 (by kernel_rfl) rfl #[.int .i64 (wrap64 ((rd x9_4 t354) + (rd x9_4 t347))), .int .i64 1000000000000001] (by rfl) rfl rfl (by (try simp only [List.map_toArray, List.map_cons, List.map_nil]); first | done | rfl | (simp only [List.length_drop, List.length_take]; rfl)) ?_
                                   with_reducible refine (FV.calls (wrap64 ((rd x9_4 t354) + (rd x9_4 t347))) 1000000000000001 t366 _ A75.out).mono ?_
                                   rintro e w' ⟨rfl, ⟨nd, rfl⟩⟩
                                   refine ⟨_, rfl, ?_⟩
                                   have p76 : 0 ≤ (t354 : Int) := of_decide_eq_true (by first | (with_reducible assumption) | assumption)
                                   have q76 : (t354 : Int) < ((x9_4.length : Int) : Int) := of_decide_eq_true (by first | (with_reducible assumption) | assumption)
                                   obtain ⟨hx76_0, hf76_0⟩ := Kd.R_celln 0 HO_9.out (t354 : Int) p76 q76
                                   replace p76 := eq_true p76
                                   replace q76 := eq_true q76
                                   have HP87 := Kd.R_putn HO_9.out (t354 : Int) t366
                                   rw [← Ny367.out] at HP87
                                   have HQ87 := Aside0.mk HP87
                                   clear HP87; refine hK.out _ _ ⟨hHeld.1, hHeld.2⟩ (fun hHeld => ?_)
                                   clear hK K; refine norm_ (a' := ?_) ?_ ?_
                                   rotate_left
                                   ·show Act.put _ (some 123) _ = _
                                    simp only [pu_]
                                    rfl
                                   refine pure_ (i := 12) (N := some 124) (v := ?_) (a' := ?_) #[true, true, true, true, true, true, true, true, true, true, true, true, true, false] rfl rfl (any_of HT_.out (by kernel_rfl)) (fun _ _ _ h => h) (Or.inl ⟨by rfl, ?_⟩) ?_ ?_
                                   rotate_left; intro w'; go_simp; with_reducible rfl
                                   rotate_left; simp only [pu_]; rfl
                                   refine last_ (i := 13) (N := none) #[true, true, true, true, true, true, true, true, true, true, true, true, true, true] rfl rfl (one_of HT_.out (by kernel_rfl)) (by decide) (fun K hK => ?_)
                                   refine skip_ (w1 := ?_) (by rfl) rfl ?_ ?_
                                   rotate_left
                                   ·go_simp
                                    rfl
                                   refine hK.out _ _ ?_
                                   clear hK K; refine done_ (done_of HT_.out (by kernel_rfl)) ?_
                                   try go_wp2
                                   (try simp only [← hl8_4, ← hl9_4])
                                   go_roundg k4
                                   case measure => have := HK1.out; have := HK2.out; have := HK3.out; have := HK4.out; omega
                                   case rel => exact ⟨(y358), (y367), (y359), (wrap64 (x66_4 + 1)), (by first | rfl | (simp; done) | (simp [*]; done)), H', ⟨by have := HK1.out; have := HK2.out; have := HK3.out; have := HK4.out; omega⟩, ⟨by (try simp only [hl8_1]); (try simp only [hl8_2]); (try simp only [hl9_2]); (try simp only [hl8_3]); (try simp only [hl9_3]); (try simp only [hl8_4]); (try simp only [hl9_4]); (with_reducible repeat (first | apply Kd.R_alloc | apply Kd.R_drewN | apply Kd.R_drew)); exact Kd.R_mono (Kd.R_far (p := ⟨go31, (t354 : Int).toNat, none⟩) (Kd.R_mono HO_8.out (fun k_ hk => (⟨hk, fun e_ => hk.1 (by rw [e_]; rfl)⟩ : _ ∧ k_ ≠ go31))) (fun _ hk => hk.2) (.int .i64 t366)) (fun _ hk => ⟨hk.1.1, hk.1.2⟩)⟩, ⟨by (try simp only [hl8_1]); (try simp only [hl8_2]); (try simp only [hl9_2]); (try simp only [hl8_3]); (try simp only [hl9_3]); (try simp only [hl8_4]); (try simp only [hl9_4]); (with_reducible repeat (first | apply Kd.R_alloc | apply Kd.R_drewN | apply Kd.R_drew)); exact Kd.R_mono HQ87.out (fun _ hk => ⟨hk.2, hk.1⟩)⟩, ⟨by (try simp only [hl8_1]); (try simp only [hl8_2]); (try simp only [hl9_2]); (try simp only [hl8_3]); (try simp only [hl9_3]); (try simp only [hl8_4]); (try simp only [hl9_4]); (with_reducible repeat (first | apply Kd.R_alloc | apply Kd.R_drewN | apply Kd.R_drew)); exact Kd.R_mono (Kd.R_far (p := ⟨go31, (t354 : Int).toNat, none⟩) (R_types2_ HO361.out HO_9.out rfl (by decide)) (fun _ hk => hk.2) (.int .i64 t366)) (fun _ hk => trivial)⟩, ⟨by (try simp only [hl8_1]); (try simp only [hl8_2]); (try simp only [hl9_2]); (try simp only [hl8_3]); (try simp only [hl9_3]); (try simp only [hl8_4]); (try simp only [hl9_4]); (with_reducible repeat (first | apply Kd.R_alloc | apply Kd.R_drewN | apply Kd.R_drew)); exact Kd.R_mono (Kd.R_far (p := ⟨go31, (t354 : Int).toNat, none⟩) (Kd.R_mono HO_64.out (fun k_ hk => (⟨hk, fun e_ => hk.1 (by rw [e_]; rfl)⟩ : _ ∧ k_ ≠ go31))) (fun _ hk => hk.2) (.int .i64 t366)) (fun _ hk => ⟨hk.1.2, hk.1.1⟩)⟩, ⟨by (try simp only [hl8_1]); (try simp only [hl8_2]); (try simp only [hl9_2]); (try simp only [hl8_3]); (try simp only [hl9_3]); (try simp only [hl8_4]); (try simp only [hl9_4]); (with_reducible repeat (first | refine blk_drewN ?_ _ | refine blk_drew ?_ | refine blk_alloc ?_ _)); refine blk_far ?_ (by have h_ := Kd.R_ne HO_9.out BK330.out (by decide); intro e_; exact h_ (by rw [e_]; rfl)) _; (with_reducible repeat (first | refine blk_drewN ?_ _ | refine blk_drew ?_ | refine blk_alloc ?_ _)); exact BK330.out⟩, ⟨by repeat (first | (with_reducible first | exact HB.out | apply below_alloc | apply pw_below_drewN | apply below_drew1 | refine below_set ?_ GB31.out | refine below_set ?_ GE330.out) | exact HB.out)⟩⟩
                                  ·rw [if_neg c74] at H
                                   exact absurd H (by simp)
                                 ·rw [if_neg c73] at H
                                  exact absurd H (by simp)
                                ·rw [if_neg c72] at H
                                 have c72b0 : ((rd y358 t354) == (wrap64 ((rd y358 t347) + 1))) = false := beq_eq_false_iff_ne.mpr c72
                                 (try (have c72b0v : ((rd y358 t354) == (IntKind.i64.wrap ((rd y358 t347) + 1))) = false := by first | exact c72b0 | simpa only [i64_w] using c72b0))
                                 have c72b1 : ((rd y358 t354) != (wrap64 ((rd y358 t347) + 1))) = true := bne_iff_ne.mpr c72
                                 (try (have c72b1v : ((rd y358 t354) != (IntKind.i64.wrap ((rd y358 t347) + 1))) = true := by first | exact c72b1 | simpa only [i64_w] using c72b1))
                                 have H' := Aside0.mk H
                                 clear H
                                 try go_wp2_with (first | ((with_reducible refine gate_callee (f := 71) rfl ?_); refine goesL_ (some 81) rfl rfl Try.func71 (by kernel_rfl) rfl #[.agg #[.int .i64 a0_0, .int .i64 a0_1], .string t353] rfl (by (try simp only [List.map_toArray, List.map_cons, List.map_nil]); first | done | rfl | (simp only [List.length_drop, List.length_take]; rfl)) ?_; (with_reducible refine (Fg.calls k4 a0_0 a0_1 t353 t354 _ A57.out).mono ?_); rintro e w92 ⟨rfl, hb⟩; refine ⟨_, rfl, ?_⟩; have n0_ := Aside0.mk (Kd.R_below (upR_ HO_8.out) hb); have n1_ := Aside0.mk (Kd.R_below (upR_ HO_9.out) hb); have n2_ := Aside0.mk (Kd.R_below (upR_ HO_12.out) hb); have n3_ := Aside0.mk (Kd.R_below (upR_ HO_64.out) hb); have n4_ := Aside0.mk (blk_below (g := gb330) (o := .cells #[.int .i64 a0_0, .int .i64 a0_1] 30 (0, 0)) (upK_ BK330.out) hb); have n5_ := Aside0.mk (below_step (upB_ HB.out) hb); clear HO_8; clear HO_9; clear HO_12; clear HO_64; clear BK330; clear HB; have HO_8 := n0_; have HO_9 := n1_; have HO_12 := n2_; have HO_64 := n3_; have BK330 := n4_; have HB := n5_; clear n0_ n1_ n2_ n3_ n4_ n5_; (try clear hb); (try clear hb2); (try clear hk); (try clear hi)) | ((with_reducible refine gate_callee (f := 76) rfl ?_); refine goesL_ (some 84) rfl rfl Try.func76 (by kernel_rfl) rfl #[.slice A1 l1.length c1, .string t353] rfl (by (try simp only [List.map_toArray, List.map_cons, List.map_nil]); first | done | rfl | (simp only [List.length_drop, List.length_take]; rfl)) ?_; (with_reducible refine (Fn.calls k4 _ _ l1 t353 false _ ?side1 ?side2 A58.out).mono ?_); (case side1 => repeat (first | exact (Kd.C_below HR1.out HB.out) | (with_reducible refine Kd.C_alloc ?_ _) | (with_reducible refine Kd.C_drewN ?_ _) | (with_reducible refine Kd.C_drew ?_))); (case side2 => exact HC1.out); rintro e w' ⟨rfl, ⟨nd, rfl⟩⟩; refine ⟨_, rfl, ?_⟩; (try (rw [drewN_self w92]; generalize hq_ : World.drewN w92 _ = w92; have n0_ : Aside0 (Kd.R Kd.string 9 w92 w.heap.size (fun _ => True) (.slice (some ad352) x12_4.length co61) x12_4) := ⟨by rw [← hq_]; exact (upR_ HO_12.out)⟩; have n1_ : Aside0 (Kd.R (Kd.int .i64) 3 w92 w.heap.size (fun k_ => some k_ ≠ (.slice (some ⟨go29, 0, none⟩) x8_4.length co19 : Value).ownBlock ∧ some k_ ≠ (.slice (some ⟨go31, 0, none⟩) x9_4.length co31 : Value).ownBlock) (.slice (some ad351) y348.length co50) y348) := ⟨by rw [← hq_]; exact (upR_ HO_64.out)⟩; have n2_ : Aside0 (Kd.R (Kd.int .i64) 3 w92 w.heap.size (fun k_ => some k_ ≠ (.slice (some ⟨go31, 0, none⟩) x9_4.length co31 : Value).ownBlock ∧ some k_ ≠ (.slice (some ad351) y348.length co50 : Value).ownBlock) (.slice (some ⟨go29, 0, none⟩) x8_4.length co19) x8_4) := ⟨by rw [← hq_]; exact (upR_ HO_8.out)⟩; have n3_ : Aside0 (Kd.R (Kd.int .i64) 3 w92 w.heap.size (fun k_ => some k_ ≠ (.slice (some ⟨go29, 0, none⟩) x8_4.length co19 : Value).ownBlock ∧ some k_ ≠ (.slice (some ad351) y348.length co50 : Value).ownBlock) (.slice (some ⟨go31, 0, none⟩) x9_4.length co31) x9_4) := ⟨by rw [← hq_]; exact (upR_ HO_9.out)⟩; have n4_ : Aside0 (w92.heap[gb330]? = some (.cells #[.int .i64 a0_0, .int .i64 a0_1] 30 (0, 0))) := ⟨by rw [← hq_]; exact (upK_ BK330.out)⟩; have n5_ : Aside0 (Below w.heap.size w w92) := ⟨by rw [← hq_]; exact (upB_ HB.out)⟩; clear HO_12 HO_64 HO_8 HO_9 BK330 HB hq_; have HO_12 := n0_; have HO_64 := n1_; have HO_8 := n2_; have HO_9 := n3_; have BK330 := n4_; have HB := n5_; clear n0_ n1_ n2_ n3_ n4_ n5_)); have p356 : 0 ≤ (t354 : Int) := of_decide_eq_true (by first | (with_reducible assumption) | assumption); have q356 : t354 < (x8_4.length : Int) := of_decide_eq_true (by first | (with_reducible assumption) | assumption); obtain ⟨ad356, e356, hx356_0⟩ := Kd.at_int (Kd.R_reads' HO_8.out).2.2 t354 p356 q356; obtain rfl : (⟨go29, 0, none⟩ : Addr) = ad356 := (by injection e356); (first | simp only [add_plain] at hx356_0 | simp only [add_at] at hx356_0 | simp only [Addr.add, Nat.zero_add] at hx356_0 | skip); replace p356 := eq_true p356; replace q356 := eq_true q356; have p357 : 0 ≤ (t347 : Int) := of_decide_eq_true (by first | (with_reducible assumption) | assumption); have q357 : t347 < (x8_4.length : Int) := of_decide_eq_true (by first | (with_reducible assumption) | assumption); obtain ⟨ad357, e357, hx357_0⟩ := Kd.at_int (Kd.R_reads' HO_8.out).2.2 t347 p357 q357; obtain rfl : (⟨go29, 0, none⟩ : Addr) = ad357 := (by injection e357); (first | simp only [add_plain] at hx357_0 | simp only [add_at] at hx357_0 | simp only [Addr.add, Nat.zero_add] at hx357_0 | skip); replace p357 := eq_true p357; replace q357 := eq_true q357; have p70 : 0 ≤ (t354 : Int) := of_decide_eq_true (by first | (with_reducible assumption) | assumption); have q70 : (t354 : Int) < ((x8_4.length : Int) : Int) := of_decide_eq_true (by first | (with_reducible assumption) | assumption); obtain ⟨hx70_0, hf70_0⟩ := Kd.R_celln 0 HO_8.out (t354 : Int) p70 q70; replace p70 := eq_true p70; replace q70 := eq_true q70; obtain ⟨hy93_, hz93_⟩ := Kd.R_celln 0 HO_8.out (t354 : Int) (of_decide_eq_true (by first | (with_reducible assumption) | assumption)) (of_decide_eq_true (by first | (with_reducible assumption) | assumption)); have HP93 := Kd.R_putg HO_8.out (t354 : Int) (wrap64 ((rd x8_4 t347) + 1))) | ((with_reducible refine gate_store (t := 3) (p := 97) rfl ?_); refine store_event (t := 3) (p := 97) (v := ?vo_w94) (w1 := (w92.setCell ⟨go29, (t354 : Int).toNat, none⟩ (.int .i64 (wrap64 ((rd x8_4 t347) + 1))))) ?hg ?ho ?hn ?hr ?_; (case ho => rfl); (case hg => rfl); (case hn => rfl); (case hr => first | (go_simp; done) | (go_simp; rfl)); intro w94 hw; have hg : w92.grownBy w94 (some go29) := (by rw [hw]; exact HP93.2); have hp_ : Kd.R (Kd.int .i64) 3 w94 w.heap.size (fun k_ => some k_ ≠ (.slice (some ⟨go31, 0, none⟩) x9_4.length co31 : Value).ownBlock ∧ some k_ ≠ (.slice (some ad351) y348.length co50 : Value).ownBlock) (.slice (some ⟨go29, 0, none⟩) x8_4.length co19) y358 := (by rw [hw, Ny358.out]; exact HP93.1); clear HP93; have n0_ := Aside0.mk (hp_); have n1_ := Aside0.mk (Kd.R_after (v := (.slice (some ⟨go29, 0, none⟩) x8_4.length co19)) (v1 := (.slice (some ⟨go29, 0, none⟩) x8_4.length co19)) (ok := (fun k_ => some k_ ≠ (.slice (some ad351) y348.length co50 : Value).ownBlock)) (by (with_reducible repeat (first | apply Kd.R_alloc | apply Kd.R_drewN | apply Kd.R_drew)); exact Kd.R_mono HO_9.out (fun _ hk => ⟨hk.2, hk.1⟩)) hg (.inl rfl)); have n2_ := Aside0.mk (Kd.R_over' (v := (.slice (some ⟨go29, 0, none⟩) x8_4.length co19)) (upR_ HO_12.out) (Kd.R_typed HO_8.out) (by decide) hg); have n3_ := Aside0.mk (Kd.R_after (v := (.slice (some ⟨go29, 0, none⟩) x8_4.length co19)) (v1 := (.slice (some ⟨go29, 0, none⟩) x8_4.length co19)) (ok := (fun k_ => some k_ ≠ (.slice (some ⟨go31, 0, none⟩) x9_4.length co31 : Value).ownBlock)) (by (with_reducible repeat (first | apply Kd.R_alloc | apply Kd.R_drewN | apply Kd.R_drew)); exact Kd.R_mono HO_64.out (fun _ hk => ⟨hk.2, hk.1⟩)) hg (.inl rfl)); have n4_ := Aside0.mk (blk_grown (g := gb330) (o := .cells #[.int .i64 a0_0, .int .i64 a0_1] 30 (0, 0)) (upK_ BK330.out) hg (Kd.R_ne HO_8.out BK330.out (by decide))); have n5_ := Aside0.mk ((by rw [hw]; exact below_set (HB.out) GB29.out : Below w.heap.size w w94)); clear HO_8; clear HO_9; clear HO_12; clear HO_64; clear BK330; clear HB; have HO_8 := n0_; have HO_9 := n1_; have HO_12 := n2_; have HO_64 := n3_; have BK330 := n4_; have HB := n5_; clear n0_ n1_ n2_ n3_ n4_ n5_; clear hg hw hp_) | ((with_reducible refine gate_builtin (b := .append) (xs := #[.tmp 98, .tmp 100]) rfl ?_); at_builtin; refine Kd.R_append Kd.string (w0 := w) w.heap.size rfl (.tmp 98) (.tmp 100) 24 9 (.string ⟨#[]⟩) 16 rfl Try.underlying24 info9 rfl (by decide) (by omega) (.slice (some ad352) x12_4.length co61) x12_4 t353 [.string t353] (fun _ => True) (fun _ => False) rfl rfl ?aP (fun _ hk => hk.elim) ?aF ?aO ?aB ?aS ?aL ?_; (case aP => exact rfl); (case aB => exact (upB_ HB.out)); (case aF => exact (fun _ _ => trivial)); (case aO => exact (upR_ HO_12.out)); (case aS => exact (below_size (upB_ HB.out))); (case aL => have := LMc71.out; omega); intro v360 w95 ho hb hg hat; rw [← Ny359.out] at ho; have n0_ := Aside0.mk (Kd.R_over' (upR_ HO_8.out) (Kd.R_typed (upR_ HO_12.out)) (by decide) hg); have n1_ := Aside0.mk (Kd.R_over' (upR_ HO_9.out) (Kd.R_typed (upR_ HO_12.out)) (by decide) hg); have n2_ := Aside0.mk (Kd.R_over' (upR_ HO_64.out) (Kd.R_typed (upR_ HO_12.out)) (by decide) hg); have n3_ := Aside0.mk (blk_grown (g := gb330) (o := .cells #[.int .i64 a0_0, .int .i64 a0_1] 30 (0, 0)) (upK_ BK330.out) hg (Kd.R_ne HO_12.out BK330.out (by decide))); have n4_ := Aside0.mk (hb); have n5_ := Aside0.mk (ho); clear HO_8; clear HO_9; clear HO_64; clear BK330; clear HB; clear HO_12; have HO_8 := n0_; have HO_9 := n1_; have HO_64 := n2_; have BK330 := n3_; have HB := n4_; have HO361 := n5_; clear n0_ n1_ n2_ n3_ n4_ n5_; clear ho hb hg hat))
                                 have n0_ := Aside0.mk (Kd.R_drew HO_8.out)
                                 have n1_ := Aside0.mk (Kd.R_drew HO_9.out)
                                 have n2_ := Aside0.mk (Kd.R_drew HO_64.out)
                                 have n3_ := Aside0.mk (Kd.R_drew HO361.out)
                                 have n4_ := Aside0.mk (blk_drew BK330.out)
                                 have n5_ := Aside0.mk (below_drew1 HB.out)
                                 clear HO_8; clear HO_9; clear HO_64; clear HO361; clear BK330; clear HB; have HO_8 := n0_; have HO_9 := n1_; have HO_64 := n2_; have HO361 := n3_; have BK330 := n4_; have HB := n5_; clear n0_ n1_ n2_ n3_ n4_ n5_; have p362 : 0 ≤ (t354 : Int) := of_decide_eq_true (by first | (with_reducible assumption) | assumption)
                                 have q362 : t354 < (y358.length : Int) := (by have h_ : (t354 : Int) < ((x8_4.length : Int) : Int) := of_decide_eq_true (by first | (with_reducible assumption) | assumption); first | (have e_ := (Kd.R_reads' HO_8.out).1; omega) | simpa only [Ny358.out, List.length_set] using h_)
                                 have ql362 : ((t354 : Int) < ((x8_4.length : Int) : Int)) = True := eq_true (of_decide_eq_true (by first | (with_reducible assumption) | assumption))
                                 obtain ⟨ad362, e362, hx362_0⟩ := Kd.at_int (Kd.R_reads' HO_8.out).2.2 t354 p362 q362
                                 obtain rfl : (⟨go29, 0, none⟩ : Addr) = ad362 := (by injection e362)
                                 (first | simp only [add_plain] at hx362_0 | simp only [add_at] at hx362_0 | simp only [Addr.add, Nat.zero_add] at hx362_0 | skip)
                                 replace p362 := eq_true p362
                                 replace q362 := eq_true q362
                                 have p363 : 0 ≤ (t347 : Int) := of_decide_eq_true (by first | (with_reducible assumption) | assumption)
                                 have q363 : t347 < (y358.length : Int) := (by have h_ : (t347 : Int) < ((x8_4.length : Int) : Int) := of_decide_eq_true (by first | (with_reducible assumption) | assumption); first | (have e_ := (Kd.R_reads' HO_8.out).1; omega) | simpa only [Ny358.out, List.length_set] using h_)
                                 have ql363 : ((t347 : Int) < ((x8_4.length : Int) : Int)) = True := eq_true (of_decide_eq_true (by first | (with_reducible assumption) | assumption))
                                 obtain ⟨ad363, e363, hx363_0⟩ := Kd.at_int (Kd.R_reads' HO_8.out).2.2 t347 p363 q363
                                 obtain rfl : (⟨go29, 0, none⟩ : Addr) = ad363 := (by injection e363)
                                 (first | simp only [add_plain] at hx363_0 | simp only [add_at] at hx363_0 | simp only [Addr.add, Nat.zero_add] at hx363_0 | skip)
                                 replace p363 := eq_true p363
                                 replace q363 := eq_true q363
                                 refine start_ (n := 10) (S := fun w' => w'.cell? ⟨go29, (t354).toNat, none⟩ = some (.int .i64 (rd y358 t354)) ∧ w'.cell? ⟨go29, (t347).toNat, none⟩ = some (.int .i64 (rd y358 t347))) (ds := []) #[false, false, false, false, false, false, false, false, false, false] (by kernel_rfl) rfl rfl ⟨hx362_0, hx363_0⟩ (fun hHeld => ?_); refine with_tabW Fc.tab27 Fc.bits27 (fun HT_ HW_ => ?_)
                                 generalize w95.drew = w96 at HO_8 HO_9 HO_64 HO361 BK330 HB hx362_0 hx363_0 hHeld ⊢
                                 refine pure_ (i := 0) (N := some 102) (v := ?_) (a' := ?_) #[true, false, false, false, false, false, false, false, false, false] rfl rfl (any_of HT_.out (by kernel_rfl)) (fun _ _ _ h => h) (Or.inl ⟨by rfl, ?_⟩) ?_ ?_
                                 rotate_left; intro w'; go_simp; with_reducible rfl
                                 rotate_left; simp only [pu_]; rfl
                                 refine pure_ (i := 1) (N := some 103) (v := ?_) (a' := ?_) #[true, true, false, false, false, false, false, false, false, false] rfl rfl (any_of HT_.out (by kernel_rfl)) (fun _ _ _ h => h) (Or.inl ⟨by rfl, ?_⟩) ?_ ?_
                                 rotate_left; intro w'; go_simp; with_reducible rfl
                                 rotate_left; simp only [pu_]; rfl
                                 refine pure_ (i := 2) (N := some 104) (v := ?_) (a' := ?_) #[true, true, true, false, false, false, false, false, false, false] rfl rfl (any_of HT_.out (by kernel_rfl)) (fun _ _ _ h => h) (Or.inl ⟨by rfl, ?_⟩) ?_ ?_
                                 rotate_left; intro w'; go_simp; with_reducible rfl
                                 rotate_left; simp only [pu_]; rfl
                                 refine pure_ (i := 4) (N := some 106) (v := ?_) (a' := ?_) #[true, true, true, false, true, false, false, false, false, false] rfl rfl (any_of HT_.out (by kernel_rfl)) (fun _ _ _ h => h) (Or.inl ⟨by rfl, ?_⟩) ?_ ?_
                                 rotate_left; intro w'; go_simp; with_reducible rfl
                                 rotate_left; simp only [pu_]; rfl
                                 refine pure_ (i := 5) (N := some 107) (v := ?_) (a' := ?_) #[true, true, true, false, true, true, false, false, false, false] rfl rfl (any_of HT_.out (by kernel_rfl)) (fun _ _ _ h => h) (Or.inl ⟨by rfl, ?_⟩) ?_ ?_
                                 rotate_left; intro w'; go_simp; with_reducible rfl
                                 rotate_left; simp only [pu_]; rfl
                                 refine pure_ (i := 6) (N := some 108) (v := ?_) (a' := ?_) #[true, true, true, false, true, true, true, false, false, false] rfl rfl (any_of HT_.out (by kernel_rfl)) (fun _ _ _ h => h) (Or.inl ⟨by rfl, ?_⟩) ?_ ?_
                                 rotate_left; intro w'; go_simp; with_reducible rfl
                                 rotate_left; simp only [pu_]; rfl
                                 refine take_ (i := 3) (N := some 105) (v := ?_) (a' := ?_) #[true, true, true, true, true, true, true, false, false, false] rfl rfl (take_ofW HT_.out HW_.out (by kernel_rfl)) (fun _ _ _ h => h) (Or.inl ⟨by rfl, ?_⟩) hHeld ?_ ?_
                                 rotate_left; rintro w' ⟨s0, s1⟩; go_simp; with_reducible rfl
                                 rotate_left; simp only [pu_]; rfl
                                 refine take_ (i := 7) (N := some 109) (v := ?_) (a' := ?_) #[true, true, true, true, true, true, true, true, false, false] rfl rfl (take_ofW HT_.out HW_.out (by kernel_rfl)) (fun _ _ _ h => h) (Or.inl ⟨by rfl, ?_⟩) hHeld ?_ ?_
                                 rotate_left; rintro w' ⟨s0, s1⟩; go_simp; with_reducible rfl
                                 rotate_left; simp only [pu_]; rfl
                                 refine pure_ (i := 8) (N := some 110) (v := ?_) (a' := ?_) #[true, true, true, true, true, true, true, true, true, false] rfl rfl (any_of HT_.out (by kernel_rfl)) (fun _ _ _ h => h) (Or.inl ⟨by rfl, ?_⟩) ?_ ?_
                                 rotate_left; intro w'; go_simp; with_reducible rfl
                                 rotate_left; simp only [pu_]; rfl
                                 refine pure_ (i := 9) (N := some 111) (v := ?_) (a' := ?_) #[true, true, true, true, true, true, true, true, true, true] rfl rfl (any_of HT_.out (by kernel_rfl)) (fun _ _ _ h => h) (Or.inl ⟨by rfl, ?_⟩) ?_ ?_
                                 rotate_left; intro w'; go_simp; with_reducible rfl
                                 rotate_left; simp only [pu_]; rfl
                                 refine done_ (done_of HT_.out (by kernel_rfl)) ?_
                                 try go_wp2
                                 (try simp only [← hl8_4, ← hl9_4])
                                 go_roundg k4
                                 case measure => have := HK1.out; have := HK2.out; have := HK3.out; have := HK4.out; omega
                                 case rel => exact ⟨(y358), (x9_4), (y359), (wrap64 (x66_4 + 1)), (by first | rfl | (simp; done) | (simp [*]; done)), H', ⟨by have := HK1.out; have := HK2.out; have := HK3.out; have := HK4.out; omega⟩, ⟨by (try simp only [hl8_1, hl8_2, hl9_2, hl8_3, hl9_3, hl8_4, hl9_4]); (with_reducible repeat (first | apply Kd.R_alloc | apply Kd.R_drewN | apply Kd.R_drew)); exact HO_8.out⟩, ⟨by (try simp only [hl8_1, hl8_2, hl9_2, hl8_3, hl9_3, hl8_4, hl9_4]); (with_reducible repeat (first | apply Kd.R_alloc | apply Kd.R_drewN | apply Kd.R_drew)); exact Kd.R_mono HO_9.out (fun _ hk => ⟨hk.2, hk.1⟩)⟩, ⟨by (try simp only [hl8_1, hl8_2, hl9_2, hl8_3, hl9_3, hl8_4, hl9_4]); (with_reducible repeat (first | apply Kd.R_alloc | apply Kd.R_drewN | apply Kd.R_drew)); exact HO361.out⟩, ⟨by (try simp only [hl8_1, hl8_2, hl9_2, hl8_3, hl9_3, hl8_4, hl9_4]); (with_reducible repeat (first | apply Kd.R_alloc | apply Kd.R_drewN | apply Kd.R_drew)); exact Kd.R_mono HO_64.out (fun _ hk => ⟨hk.2, hk.1⟩)⟩, ⟨by (try simp only [hl8_1, hl8_2, hl9_2, hl8_3, hl9_3, hl8_4, hl9_4]); (with_reducible repeat (first | refine blk_drewN ?_ _ | refine blk_drew ?_ | refine blk_alloc ?_ _)); exact BK330.out⟩, ⟨upB_ HB.out⟩⟩
                               ·rw [if_neg c71] at H
                                exact absurd H (by simp)
                              ·rw [if_neg c69] at H
                               exact absurd H (by simp)
                             ·rw [if_neg c68] at H
                              exact absurd H (by simp)
                            ·rw [if_neg c67] at H
                             have c67b0 : decide ((rd x8_4 t354) < 0) = false := decide_eq_false c67
                             clear c67; by_cases c97 : 0 ≤ t347
                             ·rw [if_pos c97] at H
                              have c97b0 : decide (0 ≤ t347) = true := decide_eq_true c97
                              clear c97; by_cases c98 : t347 < (x8_4.length : Int)
                              ·rw [if_pos c98] at H
                               have c98b0 : decide (t347 < (x8_4.length : Int)) = true := decide_eq_true c98
                               clear c98; by_cases c99 : (rd x8_4 t354) = (wrap64 ((rd x8_4 t347) + 1))
                               ·rw [if_pos c99] at H
                                have c99b0 : ((rd x8_4 t354) == (wrap64 ((rd x8_4 t347) + 1))) = true := beq_iff_eq.mpr c99
                                (try (have c99b0v : ((rd x8_4 t354) == (IntKind.i64.wrap ((rd x8_4 t347) + 1))) = true := by first | exact c99b0 | simpa only [i64_w] using c99b0))
                                have c99b1 : ((rd x8_4 t354) != (wrap64 ((rd x8_4 t347) + 1))) = false := bne_eq_false_iff_eq.mpr c99
                                (try (have c99b1v : ((rd x8_4 t354) != (IntKind.i64.wrap ((rd x8_4 t347) + 1))) = false := by first | exact c99b1 | simpa only [i64_w] using c99b1))
                                clear c99; by_cases c100 : t354 < (x9_4.length : Int)
                                ·rw [if_pos c100] at H
                                 have c100b0 : decide (t354 < (x9_4.length : Int)) = true := decide_eq_true c100
                                 clear c100; by_cases c101 : t347 < (x9_4.length : Int)
                                 ·rw [if_pos c101] at H
                                  have c101b0 : decide (t347 < (x9_4.length : Int)) = true := decide_eq_true c101
                                  clear c101; replace H := Option.bind_eq_some_iff.mp H
                                  obtain ⟨t372, A1020, H⟩ := H
                                  replace H : (Fc.l3 k4 l1 x8_4 (x9_4.set (t354 : Int).toNat t372) x12_4 x13_2 t347 x15_3 y348 (y348.length : Int) (wrap64 (x66_4 + 1)) a0_0 a0_1) = some (r1, r2) := H
                                  have A102 := Aside0.mk A1020
                                  clear A1020; obtain ⟨y373, hy373⟩ : ∃ y_ : List Int, y_ = (x9_4.set (t354 : Int).toNat t372) := ⟨_, rfl⟩
                                  replace H : (Fc.l3 k4 l1 x8_4 y373 x12_4 x13_2 t347 x15_3 y348 (y348.length : Int) (wrap64 (x66_4 + 1)) a0_0 a0_1) = some (r1, r2) := by first | (rw [hy373]; with_reducible exact H) | (have H2_ := (Option.bind_some _ _).symm.trans H; rw [hy373]; with_reducible exact H2_) | (have H2_ := (Option.bind_some _ _).symm.trans H; with_reducible exact H2_) | with_reducible exact H | (rw [hy373]; exact H) | exact H
                                  have Ny373 := Aside0.mk hy373
                                  clear hy373; have H' := Aside0.mk H
                                  clear H
                                  try go_wp2_with (first | ((with_reducible refine gate_callee (f := 71) rfl ?_); refine goesL_ (some 81) rfl rfl Try.func71 (by kernel_rfl) rfl #[.agg #[.int .i64 a0_0, .int .i64 a0_1], .string t353] rfl (by (try simp only [List.map_toArray, List.map_cons, List.map_nil]); first | done | rfl | (simp only [List.length_drop, List.length_take]; rfl)) ?_; (with_reducible refine (Fg.calls k4 a0_0 a0_1 t353 t354 _ A57.out).mono ?_); rintro e w108 ⟨rfl, hb⟩; refine ⟨_, rfl, ?_⟩; have n0_ := Aside0.mk (Kd.R_below (upR_ HO_8.out) hb); have n1_ := Aside0.mk (Kd.R_below (upR_ HO_9.out) hb); have n2_ := Aside0.mk (Kd.R_below (upR_ HO_12.out) hb); have n3_ := Aside0.mk (Kd.R_below (upR_ HO_64.out) hb); have n4_ := Aside0.mk (blk_below (g := gb330) (o := .cells #[.int .i64 a0_0, .int .i64 a0_1] 30 (0, 0)) (upK_ BK330.out) hb); have n5_ := Aside0.mk (below_step (upB_ HB.out) hb); clear HO_8; clear HO_9; clear HO_12; clear HO_64; clear BK330; clear HB; have HO_8 := n0_; have HO_9 := n1_; have HO_12 := n2_; have HO_64 := n3_; have BK330 := n4_; have HB := n5_; clear n0_ n1_ n2_ n3_ n4_ n5_; (try clear hb); (try clear hb2); (try clear hk); (try clear hi)) | ((with_reducible refine gate_callee (f := 76) rfl ?_); refine goesL_ (some 84) rfl rfl Try.func76 (by kernel_rfl) rfl #[.slice A1 l1.length c1, .string t353] rfl (by (try simp only [List.map_toArray, List.map_cons, List.map_nil]); first | done | rfl | (simp only [List.length_drop, List.length_take]; rfl)) ?_; (with_reducible refine (Fn.calls k4 _ _ l1 t353 false _ ?side1 ?side2 A58.out).mono ?_); (case side1 => repeat (first | exact (Kd.C_below HR1.out HB.out) | (with_reducible refine Kd.C_alloc ?_ _) | (with_reducible refine Kd.C_drewN ?_ _) | (with_reducible refine Kd.C_drew ?_))); (case side2 => exact HC1.out); rintro e w' ⟨rfl, ⟨nd, rfl⟩⟩; refine ⟨_, rfl, ?_⟩; (try (rw [drewN_self w108]; generalize hq_ : World.drewN w108 _ = w108; have n0_ : Aside0 (Kd.R Kd.string 9 w108 w.heap.size (fun _ => True) (.slice (some ad352) x12_4.length co61) x12_4) := ⟨by rw [← hq_]; exact (upR_ HO_12.out)⟩; have n1_ : Aside0 (Kd.R (Kd.int .i64) 3 w108 w.heap.size (fun k_ => some k_ ≠ (.slice (some ⟨go29, 0, none⟩) x8_4.length co19 : Value).ownBlock ∧ some k_ ≠ (.slice (some ⟨go31, 0, none⟩) x9_4.length co31 : Value).ownBlock) (.slice (some ad351) y348.length co50) y348) := ⟨by rw [← hq_]; exact (upR_ HO_64.out)⟩; have n2_ : Aside0 (Kd.R (Kd.int .i64) 3 w108 w.heap.size (fun k_ => some k_ ≠ (.slice (some ⟨go31, 0, none⟩) x9_4.length co31 : Value).ownBlock ∧ some k_ ≠ (.slice (some ad351) y348.length co50 : Value).ownBlock) (.slice (some ⟨go29, 0, none⟩) x8_4.length co19) x8_4) := ⟨by rw [← hq_]; exact (upR_ HO_8.out)⟩; have n3_ : Aside0 (Kd.R (Kd.int .i64) 3 w108 w.heap.size (fun k_ => some k_ ≠ (.slice (some ⟨go29, 0, none⟩) x8_4.length co19 : Value).ownBlock ∧ some k_ ≠ (.slice (some ad351) y348.length co50 : Value).ownBlock) (.slice (some ⟨go31, 0, none⟩) x9_4.length co31) x9_4) := ⟨by rw [← hq_]; exact (upR_ HO_9.out)⟩; have n4_ : Aside0 (w108.heap[gb330]? = some (.cells #[.int .i64 a0_0, .int .i64 a0_1] 30 (0, 0))) := ⟨by rw [← hq_]; exact (upK_ BK330.out)⟩; have n5_ : Aside0 (Below w.heap.size w w108) := ⟨by rw [← hq_]; exact (upB_ HB.out)⟩; clear HO_12 HO_64 HO_8 HO_9 BK330 HB hq_; have HO_12 := n0_; have HO_64 := n1_; have HO_8 := n2_; have HO_9 := n3_; have BK330 := n4_; have HB := n5_; clear n0_ n1_ n2_ n3_ n4_ n5_)); have p356 : 0 ≤ (t354 : Int) := of_decide_eq_true (by first | (with_reducible assumption) | assumption); have q356 : t354 < (x8_4.length : Int) := of_decide_eq_true (by first | (with_reducible assumption) | assumption); obtain ⟨ad356, e356, hx356_0⟩ := Kd.at_int (Kd.R_reads' HO_8.out).2.2 t354 p356 q356; obtain rfl : (⟨go29, 0, none⟩ : Addr) = ad356 := (by injection e356); (first | simp only [add_plain] at hx356_0 | simp only [add_at] at hx356_0 | simp only [Addr.add, Nat.zero_add] at hx356_0 | skip); replace p356 := eq_true p356; replace q356 := eq_true q356))
                                  have n0_ := Aside0.mk (Kd.R_drew HO_8.out)
                                  have n1_ := Aside0.mk (Kd.R_drew HO_9.out)
                                  have n2_ := Aside0.mk (Kd.R_drew HO_12.out)
                                  have n3_ := Aside0.mk (Kd.R_drew HO_64.out)
                                  have n4_ := Aside0.mk (blk_drew BK330.out)
                                  have n5_ := Aside0.mk (below_drew1 HB.out)
                                  clear HO_8; clear HO_9; clear HO_12; clear HO_64; clear BK330; clear HB; have HO_8 := n0_; have HO_9 := n1_; have HO_12 := n2_; have HO_64 := n3_; have BK330 := n4_; have HB := n5_; clear n0_ n1_ n2_ n3_ n4_ n5_; have p368 : 0 ≤ (t354 : Int) := of_decide_eq_true (by first | (with_reducible assumption) | assumption)
                                  have q368 : t354 < (x8_4.length : Int) := of_decide_eq_true (by first | (with_reducible assumption) | assumption)
                                  obtain ⟨ad368, e368, hx368_0⟩ := Kd.at_int (Kd.R_reads' HO_8.out).2.2 t354 p368 q368
                                  obtain rfl : (⟨go29, 0, none⟩ : Addr) = ad368 := (by injection e368)
                                  (first | simp only [add_plain] at hx368_0 | simp only [add_at] at hx368_0 | simp only [Addr.add, Nat.zero_add] at hx368_0 | skip)
                                  replace p368 := eq_true p368
                                  replace q368 := eq_true q368
                                  have p369 : 0 ≤ (t347 : Int) := of_decide_eq_true (by first | (with_reducible assumption) | assumption)
                                  have q369 : t347 < (x8_4.length : Int) := of_decide_eq_true (by first | (with_reducible assumption) | assumption)
                                  obtain ⟨ad369, e369, hx369_0⟩ := Kd.at_int (Kd.R_reads' HO_8.out).2.2 t347 p369 q369
                                  obtain rfl : (⟨go29, 0, none⟩ : Addr) = ad369 := (by injection e369)
                                  (first | simp only [add_plain] at hx369_0 | simp only [add_at] at hx369_0 | simp only [Addr.add, Nat.zero_add] at hx369_0 | skip)
                                  replace p369 := eq_true p369
                                  replace q369 := eq_true q369
                                  refine start_ (n := 10) (S := fun w' => w'.cell? ⟨go29, (t354).toNat, none⟩ = some (.int .i64 (rd x8_4 t354)) ∧ w'.cell? ⟨go29, (t347).toNat, none⟩ = some (.int .i64 (rd x8_4 t347))) (ds := []) #[false, false, false, false, false, false, false, false, false, false] (by kernel_rfl) rfl rfl ⟨hx368_0, hx369_0⟩ (fun hHeld => ?_); refine with_tabW Fc.tab27 Fc.bits27 (fun HT_ HW_ => ?_)
                                  generalize w108.drew = w109 at HO_8 HO_9 HO_12 HO_64 BK330 HB hx368_0 hx369_0 hHeld ⊢
                                  refine pure_ (i := 0) (N := some 102) (v := ?_) (a' := ?_) #[true, false, false, false, false, false, false, false, false, false] rfl rfl (any_of HT_.out (by kernel_rfl)) (fun _ _ _ h => h) (Or.inl ⟨by rfl, ?_⟩) ?_ ?_
                                  rotate_left; intro w'; go_simp; with_reducible rfl
                                  rotate_left; simp only [pu_]; rfl
                                  refine pure_ (i := 1) (N := some 103) (v := ?_) (a' := ?_) #[true, true, false, false, false, false, false, false, false, false] rfl rfl (any_of HT_.out (by kernel_rfl)) (fun _ _ _ h => h) (Or.inl ⟨by rfl, ?_⟩) ?_ ?_
                                  rotate_left; intro w'; go_simp; with_reducible rfl
                                  rotate_left; simp only [pu_]; rfl
                                  refine pure_ (i := 2) (N := some 104) (v := ?_) (a' := ?_) #[true, true, true, false, false, false, false, false, false, false] rfl rfl (any_of HT_.out (by kernel_rfl)) (fun _ _ _ h => h) (Or.inl ⟨by rfl, ?_⟩) ?_ ?_
                                  rotate_left; intro w'; go_simp; with_reducible rfl
                                  rotate_left; simp only [pu_]; rfl
                                  refine pure_ (i := 4) (N := some 106) (v := ?_) (a' := ?_) #[true, true, true, false, true, false, false, false, false, false] rfl rfl (any_of HT_.out (by kernel_rfl)) (fun _ _ _ h => h) (Or.inl ⟨by rfl, ?_⟩) ?_ ?_
                                  rotate_left; intro w'; go_simp; with_reducible rfl
                                  rotate_left; simp only [pu_]; rfl
                                  refine pure_ (i := 5) (N := some 107) (v := ?_) (a' := ?_) #[true, true, true, false, true, true, false, false, false, false] rfl rfl (any_of HT_.out (by kernel_rfl)) (fun _ _ _ h => h) (Or.inl ⟨by rfl, ?_⟩) ?_ ?_
                                  rotate_left; intro w'; go_simp; with_reducible rfl
                                  rotate_left; simp only [pu_]; rfl
                                  refine pure_ (i := 6) (N := some 108) (v := ?_) (a' := ?_) #[true, true, true, false, true, true, true, false, false, false] rfl rfl (any_of HT_.out (by kernel_rfl)) (fun _ _ _ h => h) (Or.inl ⟨by rfl, ?_⟩) ?_ ?_
                                  rotate_left; intro w'; go_simp; with_reducible rfl
                                  rotate_left; simp only [pu_]; rfl
                                  refine take_ (i := 3) (N := some 105) (v := ?_) (a' := ?_) #[true, true, true, true, true, true, true, false, false, false] rfl rfl (take_ofW HT_.out HW_.out (by kernel_rfl)) (fun _ _ _ h => h) (Or.inl ⟨by rfl, ?_⟩) hHeld ?_ ?_
                                  rotate_left; rintro w' ⟨s0, s1⟩; go_simp; with_reducible rfl
                                  rotate_left; simp only [pu_]; rfl
                                  refine take_ (i := 7) (N := some 109) (v := ?_) (a' := ?_) #[true, true, true, true, true, true, true, true, false, false] rfl rfl (take_ofW HT_.out HW_.out (by kernel_rfl)) (fun _ _ _ h => h) (Or.inl ⟨by rfl, ?_⟩) hHeld ?_ ?_
                                  rotate_left; rintro w' ⟨s0, s1⟩; go_simp; with_reducible rfl
                                  rotate_left; simp only [pu_]; rfl
                                  refine pure_ (i := 8) (N := some 110) (v := ?_) (a' := ?_) #[true, true, true, true, true, true, true, true, true, false] rfl rfl (any_of HT_.out (by kernel_rfl)) (fun _ _ _ h => h) (Or.inl ⟨by rfl, ?_⟩) ?_ ?_
                                  rotate_left; intro w'; go_simp; with_reducible rfl
                                  rotate_left; simp only [pu_]; rfl
                                  refine pure_ (i := 9) (N := some 111) (v := ?_) (a' := ?_) #[true, true, true, true, true, true, true, true, true, true] rfl rfl (any_of HT_.out (by kernel_rfl)) (fun _ _ _ h => h) (Or.inl ⟨by rfl, ?_⟩) ?_ ?_
                                  rotate_left; intro w'; go_simp; with_reducible rfl
                                  rotate_left; simp only [pu_]; rfl
                                  refine done_ (done_of HT_.out (by kernel_rfl)) ?_
                                  try go_wp2
                                  have n0_ := Aside0.mk (Kd.R_drew HO_8.out)
                                  have n1_ := Aside0.mk (Kd.R_drew HO_9.out)
                                  have n2_ := Aside0.mk (Kd.R_drew HO_12.out)
                                  have n3_ := Aside0.mk (Kd.R_drew HO_64.out)
                                  have n4_ := Aside0.mk (blk_drew BK330.out)
                                  have n5_ := Aside0.mk (below_drew1 HB.out)
                                  clear HO_8; clear HO_9; clear HO_12; clear HO_64; clear BK330; clear HB; have HO_8 := n0_; have HO_9 := n1_; have HO_12 := n2_; have HO_64 := n3_; have BK330 := n4_; have HB := n5_; clear n0_ n1_ n2_ n3_ n4_ n5_; have p370 : 0 ≤ (t354 : Int) := of_decide_eq_true (by first | (with_reducible assumption) | assumption)
                                  have q370 : t354 < (x9_4.length : Int) := of_decide_eq_true (by first | (with_reducible assumption) | assumption)
                                  obtain ⟨ad370, e370, hx370_0⟩ := Kd.at_int (Kd.R_reads' HO_9.out).2.2 t354 p370 q370
                                  obtain rfl : (⟨go31, 0, none⟩ : Addr) = ad370 := (by injection e370)
                                  (first | simp only [add_plain] at hx370_0 | simp only [add_at] at hx370_0 | simp only [Addr.add, Nat.zero_add] at hx370_0 | skip)
                                  replace p370 := eq_true p370
                                  replace q370 := eq_true q370
                                  have p371 : 0 ≤ (t347 : Int) := of_decide_eq_true (by first | (with_reducible assumption) | assumption)
                                  have q371 : t347 < (x9_4.length : Int) := of_decide_eq_true (by first | (with_reducible assumption) | assumption)
                                  obtain ⟨ad371, e371, hx371_0⟩ := Kd.at_int (Kd.R_reads' HO_9.out).2.2 t347 p371 q371
                                  obtain rfl : (⟨go31, 0, none⟩ : Addr) = ad371 := (by injection e371)
                                  (first | simp only [add_plain] at hx371_0 | simp only [add_at] at hx371_0 | simp only [Addr.add, Nat.zero_add] at hx371_0 | skip)
                                  replace p371 := eq_true p371
                                  replace q371 := eq_true q371
                                  refine start_ (n := 14) (S := fun w' => w'.cell? ⟨go31, (t354).toNat, none⟩ = some (.int .i64 (rd x9_4 t354)) ∧ w'.cell? ⟨go31, (t347).toNat, none⟩ = some (.int .i64 (rd x9_4 t347))) (ds := [13]) #[false, false, false, false, false, false, false, false, false, false, false, false, false, false] (by kernel_rfl) rfl rfl ⟨hx370_0, hx371_0⟩ (fun hHeld => ?_); refine with_tabW Fc.tab28 Fc.bits28 (fun HT_ HW_ => ?_)
                                  generalize w109.drew = w110 at HO_8 HO_9 HO_12 HO_64 BK330 HB hx370_0 hx371_0 hHeld ⊢
                                  refine pure_ (i := 0) (N := some 112) (v := ?_) (a' := ?_) #[true, false, false, false, false, false, false, false, false, false, false, false, false, false] rfl rfl (any_of HT_.out (by kernel_rfl)) (fun _ _ _ h => h) (Or.inl ⟨by rfl, ?_⟩) ?_ ?_
                                  rotate_left; intro w'; go_simp; with_reducible rfl
                                  rotate_left; simp only [pu_]; rfl
                                  refine pure_ (i := 1) (N := some 113) (v := ?_) (a' := ?_) #[true, true, false, false, false, false, false, false, false, false, false, false, false, false] rfl rfl (any_of HT_.out (by kernel_rfl)) (fun _ _ _ h => h) (Or.inl ⟨by rfl, ?_⟩) ?_ ?_
                                  rotate_left; intro w'; go_simp; with_reducible rfl
                                  rotate_left; simp only [pu_]; rfl
                                  refine pure_ (i := 2) (N := some 114) (v := ?_) (a' := ?_) #[true, true, true, false, false, false, false, false, false, false, false, false, false, false] rfl rfl (any_of HT_.out (by kernel_rfl)) (fun _ _ _ h => h) (Or.inl ⟨by rfl, ?_⟩) ?_ ?_
                                  rotate_left; intro w'; go_simp; with_reducible rfl
                                  rotate_left; simp only [pu_]; rfl
                                  refine pure_ (i := 3) (N := some 115) (v := ?_) (a' := ?_) #[true, true, true, true, false, false, false, false, false, false, false, false, false, false] rfl rfl (any_of HT_.out (by kernel_rfl)) (fun _ _ _ h => h) (Or.inl ⟨by rfl, ?_⟩) ?_ ?_
                                  rotate_left; intro w'; go_simp; with_reducible rfl
                                  rotate_left; simp only [pu_]; rfl
                                  refine pure_ (i := 4) (N := some 116) (v := ?_) (a' := ?_) #[true, true, true, true, true, false, false, false, false, false, false, false, false, false] rfl rfl (any_of HT_.out (by kernel_rfl)) (fun _ _ _ h => h) (Or.inl ⟨by rfl, ?_⟩) ?_ ?_
                                  rotate_left; intro w'; go_simp; with_reducible rfl
                                  rotate_left; simp only [pu_]; rfl
                                  refine pure_ (i := 6) (N := some 118) (v := ?_) (a' := ?_) #[true, true, true, true, true, false, true, false, false, false, false, false, false, false] rfl rfl (any_of HT_.out (by kernel_rfl)) (fun _ _ _ h => h) (Or.inl ⟨by rfl, ?_⟩) ?_ ?_
                                  rotate_left; intro w'; go_simp; with_reducible rfl
                                  rotate_left; simp only [pu_]; rfl
                                  refine pure_ (i := 7) (N := some 119) (v := ?_) (a' := ?_) #[true, true, true, true, true, false, true, true, false, false, false, false, false, false] rfl rfl (any_of HT_.out (by kernel_rfl)) (fun _ _ _ h => h) (Or.inl ⟨by rfl, ?_⟩) ?_ ?_
                                  rotate_left; intro w'; go_simp; with_reducible rfl
                                  rotate_left; simp only [pu_]; rfl
                                  refine pure_ (i := 8) (N := some 120) (v := ?_) (a' := ?_) #[true, true, true, true, true, false, true, true, true, false, false, false, false, false] rfl rfl (any_of HT_.out (by kernel_rfl)) (fun _ _ _ h => h) (Or.inl ⟨by rfl, ?_⟩) ?_ ?_
                                  rotate_left; intro w'; go_simp; with_reducible rfl
                                  rotate_left; simp only [pu_]; rfl
                                  refine take_ (i := 5) (N := some 117) (v := ?_) (a' := ?_) #[true, true, true, true, true, true, true, true, true, false, false, false, false, false] rfl rfl (take_ofW HT_.out HW_.out (by kernel_rfl)) (fun _ _ _ h => h) (Or.inl ⟨by rfl, ?_⟩) hHeld ?_ ?_
                                  rotate_left; rintro w' ⟨s0, s1⟩; go_simp; with_reducible rfl
                                  rotate_left; simp only [pu_]; rfl
                                  refine take_ (i := 9) (N := some 121) (v := ?_) (a' := ?_) #[true, true, true, true, true, true, true, true, true, true, false, false, false, false] rfl rfl (take_ofW HT_.out HW_.out (by kernel_rfl)) (fun _ _ _ h => h) (Or.inl ⟨by rfl, ?_⟩) hHeld ?_ ?_
                                  rotate_left; rintro w' ⟨s0, s1⟩; go_simp; with_reducible rfl
                                  rotate_left; simp only [pu_]; rfl
                                  refine pure_ (i := 10) (N := some 122) (v := ?_) (a' := ?_) #[true, true, true, true, true, true, true, true, true, true, true, false, false, false] rfl rfl (any_of HT_.out (by kernel_rfl)) (fun _ _ _ h => h) (Or.inl ⟨by rfl, ?_⟩) ?_ ?_
                                  rotate_left; intro w'; go_simp; with_reducible rfl
                                  rotate_left; simp only [pu_]; rfl
                                  refine one_ (i := 11) (N := some 123) #[true, true, true, true, true, true, true, true, true, true, true, true, false, false] rfl rfl (one_of HT_.out (by kernel_rfl)) (by decide) (fun K hK => ?_)
                                  refine goes_ Try.func99 (by kernel_rfl) rfl #[.int .i64 (wrap64 ((rd x9_4 t354) + (rd x9_4 t347))), .int .i64 1000000000000001] (by rfl) rfl rfl (by (try simp only [List.map_toArray, List.map_cons, List.map_nil]); first | done | rfl | (simp only [List.length_drop, List.length_take]; rfl)) ?_
                                  with_reducible refine (FV.calls (wrap64 ((rd x9_4 t354) + (rd x9_4 t347))) 1000000000000001 t372 _ A102.out).mono ?_
                                  rintro e w' ⟨rfl, ⟨nd, rfl⟩⟩
                                  refine ⟨_, rfl, ?_⟩
                                  have p103 : 0 ≤ (t354 : Int) := of_decide_eq_true (by first | (with_reducible assumption) | assumption)
                                  have q103 : (t354 : Int) < ((x9_4.length : Int) : Int) := of_decide_eq_true (by first | (with_reducible assumption) | assumption)
                                  obtain ⟨hx103_0, hf103_0⟩ := Kd.R_celln 0 HO_9.out (t354 : Int) p103 q103
                                  replace p103 := eq_true p103
                                  replace q103 := eq_true q103
                                  have HP111 := Kd.R_putn HO_9.out (t354 : Int) t372
                                  rw [← Ny373.out] at HP111
                                  have HQ111 := Aside0.mk HP111
                                  clear HP111; refine hK.out _ _ ⟨hHeld.1, hHeld.2⟩ (fun hHeld => ?_)
                                  clear hK K; refine norm_ (a' := ?_) ?_ ?_
                                  rotate_left
                                  ·show Act.put _ (some 123) _ = _
                                   simp only [pu_]
                                   rfl
                                  refine pure_ (i := 12) (N := some 124) (v := ?_) (a' := ?_) #[true, true, true, true, true, true, true, true, true, true, true, true, true, false] rfl rfl (any_of HT_.out (by kernel_rfl)) (fun _ _ _ h => h) (Or.inl ⟨by rfl, ?_⟩) ?_ ?_
                                  rotate_left; intro w'; go_simp; with_reducible rfl
                                  rotate_left; simp only [pu_]; rfl
                                  refine last_ (i := 13) (N := none) #[true, true, true, true, true, true, true, true, true, true, true, true, true, true] rfl rfl (one_of HT_.out (by kernel_rfl)) (by decide) (fun K hK => ?_)
                                  refine skip_ (w1 := ?_) (by rfl) rfl ?_ ?_
                                  rotate_left
                                  ·go_simp
                                   rfl
                                  refine hK.out _ _ ?_
                                  clear hK K; refine done_ (done_of HT_.out (by kernel_rfl)) ?_
                                  try go_wp2
                                  (try simp only [← hl8_4, ← hl9_4])
                                  go_roundg k4
                                  case measure => have := HK1.out; have := HK2.out; have := HK3.out; have := HK4.out; omega
                                  case rel => exact ⟨(x8_4), (y373), (x12_4), (wrap64 (x66_4 + 1)), (by first | rfl | (simp; done) | (simp [*]; done)), H', ⟨by have := HK1.out; have := HK2.out; have := HK3.out; have := HK4.out; omega⟩, ⟨by (try simp only [hl8_1]); (try simp only [hl8_2]); (try simp only [hl9_2]); (try simp only [hl8_3]); (try simp only [hl9_3]); (try simp only [hl8_4]); (try simp only [hl9_4]); (with_reducible repeat (first | apply Kd.R_alloc | apply Kd.R_drewN | apply Kd.R_drew)); exact Kd.R_mono (Kd.R_far (p := ⟨go31, (t354 : Int).toNat, none⟩) (Kd.R_mono HO_8.out (fun k_ hk => (⟨hk, fun e_ => hk.1 (by rw [e_]; rfl)⟩ : _ ∧ k_ ≠ go31))) (fun _ hk => hk.2) (.int .i64 t372)) (fun _ hk => ⟨hk.1.1, hk.1.2⟩)⟩, ⟨by (try simp only [hl8_1]); (try simp only [hl8_2]); (try simp only [hl9_2]); (try simp only [hl8_3]); (try simp only [hl9_3]); (try simp only [hl8_4]); (try simp only [hl9_4]); (with_reducible repeat (first | apply Kd.R_alloc | apply Kd.R_drewN | apply Kd.R_drew)); exact HQ111.out⟩, ⟨by (try simp only [hl8_1]); (try simp only [hl8_2]); (try simp only [hl9_2]); (try simp only [hl8_3]); (try simp only [hl9_3]); (try simp only [hl8_4]); (try simp only [hl9_4]); (with_reducible repeat (first | apply Kd.R_alloc | apply Kd.R_drewN | apply Kd.R_drew)); exact Kd.R_mono (Kd.R_far (p := ⟨go31, (t354 : Int).toNat, none⟩) (R_types2_ HO_12.out HO_9.out rfl (by decide)) (fun _ hk => hk.2) (.int .i64 t372)) (fun _ hk => trivial)⟩, ⟨by (try simp only [hl8_1]); (try simp only [hl8_2]); (try simp only [hl9_2]); (try simp only [hl8_3]); (try simp only [hl9_3]); (try simp only [hl8_4]); (try simp only [hl9_4]); (with_reducible repeat (first | apply Kd.R_alloc | apply Kd.R_drewN | apply Kd.R_drew)); exact Kd.R_mono (Kd.R_far (p := ⟨go31, (t354 : Int).toNat, none⟩) (Kd.R_mono HO_64.out (fun k_ hk => (⟨hk, fun e_ => hk.2 (by rw [e_]; rfl)⟩ : _ ∧ k_ ≠ go31))) (fun _ hk => hk.2) (.int .i64 t372)) (fun _ hk => ⟨hk.1.1, hk.1.2⟩)⟩, ⟨by (try simp only [hl8_1]); (try simp only [hl8_2]); (try simp only [hl9_2]); (try simp only [hl8_3]); (try simp only [hl9_3]); (try simp only [hl8_4]); (try simp only [hl9_4]); (with_reducible repeat (first | refine blk_drewN ?_ _ | refine blk_drew ?_ | refine blk_alloc ?_ _)); refine blk_far ?_ (by have h_ := Kd.R_ne HO_9.out BK330.out (by decide); intro e_; exact h_ (by rw [e_]; rfl)) _; (with_reducible repeat (first | refine blk_drewN ?_ _ | refine blk_drew ?_ | refine blk_alloc ?_ _)); exact BK330.out⟩, ⟨by repeat (first | (with_reducible first | exact HB.out | apply below_alloc | apply pw_below_drewN | apply below_drew1 | refine below_set ?_ GB31.out | refine below_set ?_ GE330.out) | exact HB.out)⟩⟩
                                 ·rw [if_neg c101] at H
                                  exact absurd H (by simp)
                                ·rw [if_neg c100] at H
                                 exact absurd H (by simp)
                               ·rw [if_neg c99] at H
                                have c99b0 : ((rd x8_4 t354) == (wrap64 ((rd x8_4 t347) + 1))) = false := beq_eq_false_iff_ne.mpr c99
                                (try (have c99b0v : ((rd x8_4 t354) == (IntKind.i64.wrap ((rd x8_4 t347) + 1))) = false := by first | exact c99b0 | simpa only [i64_w] using c99b0))
                                have c99b1 : ((rd x8_4 t354) != (wrap64 ((rd x8_4 t347) + 1))) = true := bne_iff_ne.mpr c99
                                (try (have c99b1v : ((rd x8_4 t354) != (IntKind.i64.wrap ((rd x8_4 t347) + 1))) = true := by first | exact c99b1 | simpa only [i64_w] using c99b1))
                                have H' := Aside0.mk H
                                clear H
                                try go_wp2_with (first | ((with_reducible refine gate_callee (f := 71) rfl ?_); refine goesL_ (some 81) rfl rfl Try.func71 (by kernel_rfl) rfl #[.agg #[.int .i64 a0_0, .int .i64 a0_1], .string t353] rfl (by (try simp only [List.map_toArray, List.map_cons, List.map_nil]); first | done | rfl | (simp only [List.length_drop, List.length_take]; rfl)) ?_; (with_reducible refine (Fg.calls k4 a0_0 a0_1 t353 t354 _ A57.out).mono ?_); rintro e w116 ⟨rfl, hb⟩; refine ⟨_, rfl, ?_⟩; have n0_ := Aside0.mk (Kd.R_below (upR_ HO_8.out) hb); have n1_ := Aside0.mk (Kd.R_below (upR_ HO_9.out) hb); have n2_ := Aside0.mk (Kd.R_below (upR_ HO_12.out) hb); have n3_ := Aside0.mk (Kd.R_below (upR_ HO_64.out) hb); have n4_ := Aside0.mk (blk_below (g := gb330) (o := .cells #[.int .i64 a0_0, .int .i64 a0_1] 30 (0, 0)) (upK_ BK330.out) hb); have n5_ := Aside0.mk (below_step (upB_ HB.out) hb); clear HO_8; clear HO_9; clear HO_12; clear HO_64; clear BK330; clear HB; have HO_8 := n0_; have HO_9 := n1_; have HO_12 := n2_; have HO_64 := n3_; have BK330 := n4_; have HB := n5_; clear n0_ n1_ n2_ n3_ n4_ n5_; (try clear hb); (try clear hb2); (try clear hk); (try clear hi)) | ((with_reducible refine gate_callee (f := 76) rfl ?_); refine goesL_ (some 84) rfl rfl Try.func76 (by kernel_rfl) rfl #[.slice A1 l1.length c1, .string t353] rfl (by (try simp only [List.map_toArray, List.map_cons, List.map_nil]); first | done | rfl | (simp only [List.length_drop, List.length_take]; rfl)) ?_; (with_reducible refine (Fn.calls k4 _ _ l1 t353 false _ ?side1 ?side2 A58.out).mono ?_); (case side1 => repeat (first | exact (Kd.C_below HR1.out HB.out) | (with_reducible refine Kd.C_alloc ?_ _) | (with_reducible refine Kd.C_drewN ?_ _) | (with_reducible refine Kd.C_drew ?_))); (case side2 => exact HC1.out); rintro e w' ⟨rfl, ⟨nd, rfl⟩⟩; refine ⟨_, rfl, ?_⟩; have p356 : 0 ≤ (t354 : Int) := of_decide_eq_true (by first | (with_reducible assumption) | assumption); have q356 : t354 < (x8_4.length : Int) := of_decide_eq_true (by first | (with_reducible assumption) | assumption); obtain ⟨ad356, e356, hx356_0⟩ := Kd.at_int (Kd.R_reads' HO_8.out).2.2 t354 p356 q356; obtain rfl : (⟨go29, 0, none⟩ : Addr) = ad356 := (by injection e356); (first | simp only [add_plain] at hx356_0 | simp only [add_at] at hx356_0 | simp only [Addr.add, Nat.zero_add] at hx356_0 | skip); replace p356 := eq_true p356; replace q356 := eq_true q356))
                                (try (rw [drewN_self w116]; generalize hq_ : World.drewN w116 _ = w116; have n0_ : Aside0 (Kd.R Kd.string 9 w116 w.heap.size (fun _ => True) (.slice (some ad352) x12_4.length co61) x12_4) := ⟨by rw [← hq_]; exact (upR_ HO_12.out)⟩; have n1_ : Aside0 (Kd.R (Kd.int .i64) 3 w116 w.heap.size (fun k_ => some k_ ≠ (.slice (some ⟨go29, 0, none⟩) x8_4.length co19 : Value).ownBlock ∧ some k_ ≠ (.slice (some ⟨go31, 0, none⟩) x9_4.length co31 : Value).ownBlock) (.slice (some ad351) y348.length co50) y348) := ⟨by rw [← hq_]; exact (upR_ HO_64.out)⟩; have n2_ : Aside0 (Kd.R (Kd.int .i64) 3 w116 w.heap.size (fun k_ => some k_ ≠ (.slice (some ⟨go31, 0, none⟩) x9_4.length co31 : Value).ownBlock ∧ some k_ ≠ (.slice (some ad351) y348.length co50 : Value).ownBlock) (.slice (some ⟨go29, 0, none⟩) x8_4.length co19) x8_4) := ⟨by rw [← hq_]; exact (upR_ HO_8.out)⟩; have n3_ : Aside0 (Kd.R (Kd.int .i64) 3 w116 w.heap.size (fun k_ => some k_ ≠ (.slice (some ⟨go29, 0, none⟩) x8_4.length co19 : Value).ownBlock ∧ some k_ ≠ (.slice (some ad351) y348.length co50 : Value).ownBlock) (.slice (some ⟨go31, 0, none⟩) x9_4.length co31) x9_4) := ⟨by rw [← hq_]; exact (upR_ HO_9.out)⟩; have n4_ : Aside0 (w116.heap[gb330]? = some (.cells #[.int .i64 a0_0, .int .i64 a0_1] 30 (0, 0))) := ⟨by rw [← hq_]; exact (upK_ BK330.out)⟩; have n5_ : Aside0 (Below w.heap.size w w116) := ⟨by rw [← hq_]; exact (upB_ HB.out)⟩; clear HO_12 HO_64 HO_8 HO_9 BK330 HB hq_; have HO_12 := n0_; have HO_64 := n1_; have HO_8 := n2_; have HO_9 := n3_; have BK330 := n4_; have HB := n5_; clear n0_ n1_ n2_ n3_ n4_ n5_))
                                have n0_ := Aside0.mk (Kd.R_drew HO_8.out)
                                have n1_ := Aside0.mk (Kd.R_drew HO_9.out)
                                have n2_ := Aside0.mk (Kd.R_drew HO_12.out)
                                have n3_ := Aside0.mk (Kd.R_drew HO_64.out)
                                have n4_ := Aside0.mk (blk_drew BK330.out)
                                have n5_ := Aside0.mk (below_drew1 HB.out)
                                clear HO_8; clear HO_9; clear HO_12; clear HO_64; clear BK330; clear HB; have HO_8 := n0_; have HO_9 := n1_; have HO_12 := n2_; have HO_64 := n3_; have BK330 := n4_; have HB := n5_; clear n0_ n1_ n2_ n3_ n4_ n5_; have p368 : 0 ≤ (t354 : Int) := of_decide_eq_true (by first | (with_reducible assumption) | assumption)
                                have q368 : t354 < (x8_4.length : Int) := of_decide_eq_true (by first | (with_reducible assumption) | assumption)
                                obtain ⟨ad368, e368, hx368_0⟩ := Kd.at_int (Kd.R_reads' HO_8.out).2.2 t354 p368 q368
                                obtain rfl : (⟨go29, 0, none⟩ : Addr) = ad368 := (by injection e368)
                                (first | simp only [add_plain] at hx368_0 | simp only [add_at] at hx368_0 | simp only [Addr.add, Nat.zero_add] at hx368_0 | skip)
                                replace p368 := eq_true p368
                                replace q368 := eq_true q368
                                have p369 : 0 ≤ (t347 : Int) := of_decide_eq_true (by first | (with_reducible assumption) | assumption)
                                have q369 : t347 < (x8_4.length : Int) := of_decide_eq_true (by first | (with_reducible assumption) | assumption)
                                obtain ⟨ad369, e369, hx369_0⟩ := Kd.at_int (Kd.R_reads' HO_8.out).2.2 t347 p369 q369
                                obtain rfl : (⟨go29, 0, none⟩ : Addr) = ad369 := (by injection e369)
                                (first | simp only [add_plain] at hx369_0 | simp only [add_at] at hx369_0 | simp only [Addr.add, Nat.zero_add] at hx369_0 | skip)
                                replace p369 := eq_true p369
                                replace q369 := eq_true q369
                                refine start_ (n := 10) (S := fun w' => w'.cell? ⟨go29, (t354).toNat, none⟩ = some (.int .i64 (rd x8_4 t354)) ∧ w'.cell? ⟨go29, (t347).toNat, none⟩ = some (.int .i64 (rd x8_4 t347))) (ds := []) #[false, false, false, false, false, false, false, false, false, false] (by kernel_rfl) rfl rfl ⟨hx368_0, hx369_0⟩ (fun hHeld => ?_); refine with_tabW Fc.tab27 Fc.bits27 (fun HT_ HW_ => ?_)
                                generalize w116.drew = w117 at HO_8 HO_9 HO_12 HO_64 BK330 HB hx368_0 hx369_0 hHeld ⊢
                                refine pure_ (i := 0) (N := some 102) (v := ?_) (a' := ?_) #[true, false, false, false, false, false, false, false, false, false] rfl rfl (any_of HT_.out (by kernel_rfl)) (fun _ _ _ h => h) (Or.inl ⟨by rfl, ?_⟩) ?_ ?_
                                rotate_left; intro w'; go_simp; with_reducible rfl
                                rotate_left; simp only [pu_]; rfl
                                refine pure_ (i := 1) (N := some 103) (v := ?_) (a' := ?_) #[true, true, false, false, false, false, false, false, false, false] rfl rfl (any_of HT_.out (by kernel_rfl)) (fun _ _ _ h => h) (Or.inl ⟨by rfl, ?_⟩) ?_ ?_
                                rotate_left; intro w'; go_simp; with_reducible rfl
                                rotate_left; simp only [pu_]; rfl
                                refine pure_ (i := 2) (N := some 104) (v := ?_) (a' := ?_) #[true, true, true, false, false, false, false, false, false, false] rfl rfl (any_of HT_.out (by kernel_rfl)) (fun _ _ _ h => h) (Or.inl ⟨by rfl, ?_⟩) ?_ ?_
                                rotate_left; intro w'; go_simp; with_reducible rfl
                                rotate_left; simp only [pu_]; rfl
                                refine pure_ (i := 4) (N := some 106) (v := ?_) (a' := ?_) #[true, true, true, false, true, false, false, false, false, false] rfl rfl (any_of HT_.out (by kernel_rfl)) (fun _ _ _ h => h) (Or.inl ⟨by rfl, ?_⟩) ?_ ?_
                                rotate_left; intro w'; go_simp; with_reducible rfl
                                rotate_left; simp only [pu_]; rfl
                                refine pure_ (i := 5) (N := some 107) (v := ?_) (a' := ?_) #[true, true, true, false, true, true, false, false, false, false] rfl rfl (any_of HT_.out (by kernel_rfl)) (fun _ _ _ h => h) (Or.inl ⟨by rfl, ?_⟩) ?_ ?_
                                rotate_left; intro w'; go_simp; with_reducible rfl
                                rotate_left; simp only [pu_]; rfl
                                refine pure_ (i := 6) (N := some 108) (v := ?_) (a' := ?_) #[true, true, true, false, true, true, true, false, false, false] rfl rfl (any_of HT_.out (by kernel_rfl)) (fun _ _ _ h => h) (Or.inl ⟨by rfl, ?_⟩) ?_ ?_
                                rotate_left; intro w'; go_simp; with_reducible rfl
                                rotate_left; simp only [pu_]; rfl
                                refine take_ (i := 3) (N := some 105) (v := ?_) (a' := ?_) #[true, true, true, true, true, true, true, false, false, false] rfl rfl (take_ofW HT_.out HW_.out (by kernel_rfl)) (fun _ _ _ h => h) (Or.inl ⟨by rfl, ?_⟩) hHeld ?_ ?_
                                rotate_left; rintro w' ⟨s0, s1⟩; go_simp; with_reducible rfl
                                rotate_left; simp only [pu_]; rfl
                                refine take_ (i := 7) (N := some 109) (v := ?_) (a' := ?_) #[true, true, true, true, true, true, true, true, false, false] rfl rfl (take_ofW HT_.out HW_.out (by kernel_rfl)) (fun _ _ _ h => h) (Or.inl ⟨by rfl, ?_⟩) hHeld ?_ ?_
                                rotate_left; rintro w' ⟨s0, s1⟩; go_simp; with_reducible rfl
                                rotate_left; simp only [pu_]; rfl
                                refine pure_ (i := 8) (N := some 110) (v := ?_) (a' := ?_) #[true, true, true, true, true, true, true, true, true, false] rfl rfl (any_of HT_.out (by kernel_rfl)) (fun _ _ _ h => h) (Or.inl ⟨by rfl, ?_⟩) ?_ ?_
                                rotate_left; intro w'; go_simp; with_reducible rfl
                                rotate_left; simp only [pu_]; rfl
                                refine pure_ (i := 9) (N := some 111) (v := ?_) (a' := ?_) #[true, true, true, true, true, true, true, true, true, true] rfl rfl (any_of HT_.out (by kernel_rfl)) (fun _ _ _ h => h) (Or.inl ⟨by rfl, ?_⟩) ?_ ?_
                                rotate_left; intro w'; go_simp; with_reducible rfl
                                rotate_left; simp only [pu_]; rfl
                                refine done_ (done_of HT_.out (by kernel_rfl)) ?_
                                try go_wp2
                                (try simp only [← hl8_4, ← hl9_4])
                                go_roundg k4
                                case measure => have := HK1.out; have := HK2.out; have := HK3.out; have := HK4.out; omega
                                case rel => exact ⟨(x8_4), (x9_4), (x12_4), (wrap64 (x66_4 + 1)), (by first | rfl | (simp; done) | (simp [*]; done)), H', ⟨by have := HK1.out; have := HK2.out; have := HK3.out; have := HK4.out; omega⟩, ⟨by (try simp only [hl8_1, hl8_2, hl9_2, hl8_3, hl9_3, hl8_4, hl9_4]); (with_reducible repeat (first | apply Kd.R_alloc | apply Kd.R_drewN | apply Kd.R_drew)); exact HO_8.out⟩, ⟨by (try simp only [hl8_1, hl8_2, hl9_2, hl8_3, hl9_3, hl8_4, hl9_4]); (with_reducible repeat (first | apply Kd.R_alloc | apply Kd.R_drewN | apply Kd.R_drew)); exact HO_9.out⟩, ⟨by (try simp only [hl8_1, hl8_2, hl9_2, hl8_3, hl9_3, hl8_4, hl9_4]); (with_reducible repeat (first | apply Kd.R_alloc | apply Kd.R_drewN | apply Kd.R_drew)); exact HO_12.out⟩, ⟨by (try simp only [hl8_1, hl8_2, hl9_2, hl8_3, hl9_3, hl8_4, hl9_4]); (with_reducible repeat (first | apply Kd.R_alloc | apply Kd.R_drewN | apply Kd.R_drew)); exact HO_64.out⟩, ⟨by (try simp only [hl8_1, hl8_2, hl9_2, hl8_3, hl9_3, hl8_4, hl9_4]); (with_reducible repeat (first | refine blk_drewN ?_ _ | refine blk_drew ?_ | refine blk_alloc ?_ _)); exact BK330.out⟩, ⟨upB_ HB.out⟩⟩
                              ·rw [if_neg c98] at H
                               exact absurd H (by simp)
                             ·rw [if_neg c97] at H
                              exact absurd H (by simp)
                           ·rw [if_neg c66] at H
                            exact absurd H (by simp)
                          ·rw [if_neg c65] at H
                           exact absurd H (by simp)
                        ·rw [if_neg c55] at H
                         exact absurd H (by simp)
                       ·rw [if_neg c54] at H
                        exact absurd H (by simp)
                      ·rw [if_neg c53] at H
                       exact absurd H (by simp)
                     ·rw [if_neg c52] at H
                      exact absurd H (by simp)
                    ·rw [if_neg c51] at H
                     have c51b0 : decide (x66_4 < (y348.length : Int)) = false := decide_eq_false c51
                     clear c51; have H' := Aside0.mk H
                     clear H; go_wp2
                     (try simp only [← hl8_3, ← hl9_3, ← hl8_4, ← hl9_4])
                     go_roundg k4
                     case measure => have := HK1.out; have := HK2.out; have := HK3.out; have := HK4.out; omega
                     case rel => exact ⟨(x8_4), (x9_4), (x12_4), (wrap64 (x15_3 + 1)), (by first | rfl | (simp; done) | (simp [*]; done)), H', ⟨by have := HK1.out; have := HK2.out; have := HK3.out; have := HK4.out; omega⟩, ⟨by (try simp only [hl8_1, hl8_2, hl9_2, hl8_3, hl9_3, hl8_4, hl9_4]); (with_reducible repeat (first | apply Kd.R_alloc | apply Kd.R_drewN | apply Kd.R_drew)); exact Kd.R_mono HO_8.out (fun _ hk => hk.1)⟩, ⟨by (try simp only [hl8_1, hl8_2, hl9_2, hl8_3, hl9_3, hl8_4, hl9_4]); (with_reducible repeat (first | apply Kd.R_alloc | apply Kd.R_drewN | apply Kd.R_drew)); exact Kd.R_mono HO_9.out (fun _ hk => hk.1)⟩, ⟨by (try simp only [hl8_1, hl8_2, hl9_2, hl8_3, hl9_3, hl8_4, hl9_4]); (with_reducible repeat (first | apply Kd.R_alloc | apply Kd.R_drewN | apply Kd.R_drew)); exact HO_12.out⟩, ⟨by (try simp only [hl8_1, hl8_2, hl9_2, hl8_3, hl9_3, hl8_4, hl9_4]); (with_reducible repeat (first | refine blk_drewN ?_ _ | refine blk_drew ?_ | refine blk_alloc ?_ _)); exact BK330.out⟩, ⟨upB_ HB.out⟩⟩
                 ·rw [if_neg c46] at H
                  have c46b0 : decide (x15_3 < a0_0) = false := decide_eq_false c46
                  clear c46; have H' := Aside0.mk H
                  clear H; have hcz118_0 : wr.cell? ⟨gb330, 0, none⟩ = some (.int .i64 a0_0) := (blk_cell BK330.out 0).trans rfl
                  have hcz118_1 : wr.cell? ⟨gb330, 1, none⟩ = some (.int .i64 a0_1) := (blk_cell BK330.out 1).trans rfl
                  have hfz118_0 := blk_frozen BK330.out 0
                  have hfz118_1 := blk_frozen BK330.out 1
                  go_wp2
                  (try simp only [← hl8_2, ← hl9_2, ← hl8_3, ← hl9_3])
                  go_roundg k3
                  case measure => have := HK1.out; have := HK2.out; have := HK3.out; omega
                  case rel => exact ⟨(x8_3), (x9_3), (x12_3), (wrap64 (x13_2 + 1)), (by first | rfl | (simp; done) | (simp [*]; done)), H', ⟨by have := HK1.out; have := HK2.out; have := HK3.out; omega⟩, ⟨by (try simp only [hl8_1, hl8_2, hl9_2, hl8_3, hl9_3]); (with_reducible repeat (first | apply Kd.R_alloc | apply Kd.R_drewN | apply Kd.R_drew)); exact HO_8.out⟩, ⟨by (try simp only [hl8_1, hl8_2, hl9_2, hl8_3, hl9_3]); (with_reducible repeat (first | apply Kd.R_alloc | apply Kd.R_drewN | apply Kd.R_drew)); exact HO_9.out⟩, ⟨by (try simp only [hl8_1, hl8_2, hl9_2, hl8_3, hl9_3]); (with_reducible repeat (first | apply Kd.R_alloc | apply Kd.R_drewN | apply Kd.R_drew)); exact HO_12.out⟩, ⟨by (try simp only [hl8_1, hl8_2, hl9_2, hl8_3, hl9_3]); (with_reducible repeat (first | refine blk_drewN ?_ _ | refine blk_drew ?_ | refine blk_alloc ?_ _)); exact BK330.out⟩, ⟨upB_ HB.out⟩⟩
              ·rw [if_neg c41] at H
               exact absurd H (by simp)
             ·rw [if_neg c40] at H
              have c40b0 : decide (x13_2 < (x12_2.length : Int)) = false := decide_eq_false c40
              clear c40; simp only [Option.some.injEq, Prod.mk.injEq] at H
              obtain ⟨rfl, rfl⟩ := H
              obtain ⟨Ao119, co119, eo119⟩ := Kd.R_slice HO_12.out
              subst eo119
              go_wp2
              go_ret2
              exact ⟨_, _, by first | rfl | (simp [errW_none, errW_some] <;> rfl) | (simp [*, errW_none, errW_some] <;> rfl), by (with_reducible repeat (first | apply Kd.R_alloc | apply Kd.R_drewN | apply Kd.R_drew)); exact HO_8.out, by (with_reducible repeat (first | apply Kd.R_alloc | apply Kd.R_drewN | apply Kd.R_drew)); exact HO_9.out, by repeat (first | (with_reducible first | exact HB.out | apply below_alloc | apply pw_below_drewN | apply below_drew1 | refine below_set ?_ GE330.out) | exact HB.out)⟩
          ·rw [if_neg c30] at H
           exact absurd H (by simp)
         ·rw [if_neg c28] at H
          exact absurd H (by simp)
        ·rw [if_neg c27] at H
         exact absurd H (by simp)
    ·rw [if_neg c9] at H
     exact absurd H (by simp)
   ·rw [if_neg c8] at H
    exact absurd H (by simp)
  ·rw [if_neg c6] at H
   exact absurd H (by simp)
 ·rw [if_neg c5] at H
  exact absurd H (by simp)

end Go.Proofs.Ytajhahafgnefcaa.R
