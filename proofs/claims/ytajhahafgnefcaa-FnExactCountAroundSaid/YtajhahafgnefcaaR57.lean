-- Written by a program of this session (p2.sh: a patched copy of the kit's printer) out of the translation; not by print.sh. Lean checks it.
import Derived.Test.YtajhahafgnefcaaR0
import Derived.Test.YtajhahafgnefcaaR22
import Derived.Test.YtajhahafgnefcaaR39
import Derived.Test.YtajhahafgnefcaaR41
import Derived.Test.YtajhahafgnefcaaR44
namespace Go.Proofs.Ytajhahafgnefcaa.R
open Go.RowKit Go.Proofs.YtajhahafgnefcaaW.PrintWords Go.Proofs.YtajhahafgnefcaaW.PrintLast Go.Proofs.YtajhahafgnefcaaW.PrintMore
attribute [local go_sem] max2_int min2_int max_two min_two max_three min_three max_four min_four   -- for this text's walks alone
set_option linter.unusedVariables false
set_option linter.unusedSimpArgs false

theorem R_types2b_ {α β : Type} {d : Kd α} {d' : Kd β} {e e' : Nat} {w : World} {base base' : Nat} {ok ok' : Nat → Prop} {v v' : Value} {xs : List α} {ys : List β} (h : Kd.R d e w base ok v xs) (h2 : Kd.R d' e' w base' ok' v' ys) {g : Nat} (hg : v'.ownBlock = some g) (ht : ∀ q, q ∈ e :: d.E → q ≠ e') : Kd.R d e w base (fun k => ok k ∧ k ≠ g) v xs := by
 obtain ⟨inner, ho⟩ := Kd.R_own h2
 obtain ⟨cells, hc⟩ := own_typed ho g hg
 exact Kd.R_types h hc ht
/-! ### impl_CountAround: function 33 -/
mutual
def impl_CountAround.l0 : Nat → ByteArray → List Int → List Int → Int → Int → Int → Int → Int → Int → List Bool → Option (Int × Bool)
 | 0, _, _, _, _, _, _, _, _, _, _ => none
 | k + 1, x3, x11, x13, x49, x50, x619000, x619001, x632000, x632001, x632002 => if x50 < x49 then (impl_CountAround.l1 k x3 x11 x13 x50 x49 x50 x11 (x11.length : Int) 0 x619000 x619001 x632000 x632001 x632002) else ((impl_Lock_number.f k x619000 x619001 x3).bind fun t639 => (if 0 ≤ t639 then (if t639 < (x13.length : Int) then (if (rd x13 t639) ≤ 1000000000000000 then (some (rd x13 t639, true)) else (some (0, false))) else (none)) else (none)))
def impl_CountAround.l1 : Nat → ByteArray → List Int → List Int → Int → Int → Int → List Int → Int → Int → Int → Int → Int → Int → List Bool → Option (Int × Bool)
 | 0, _, _, _, _, _, _, _, _, _, _, _, _, _, _ => none
 | k + 1, x3, x11, x13, x14, x49, x50, x53, x54, x55, x619000, x619001, x632000, x632001, x632002 => if x55 < x54 then (if 0 ≤ x55 then (if x55 < (x53.length : Int) then (if (rd x53 x55) = x14 then ((impl_field_steps.f k x632000 x632001 x632002 x55).bind fun t642 => (impl_CountAround.l2 k x3 x11 x13 x14 x55 x49 x50 x53 x54 x55 t642 (t642.length : Int) 0 x619000 x619001 x632000 x632001 x632002)) else (impl_CountAround.l1 k x3 x11 x13 x14 x49 x50 x53 x54 (wrap64 (x55 + 1)) x619000 x619001 x632000 x632001 x632002)) else (none)) else (none)) else (impl_CountAround.l0 k x3 x11 x13 x49 (wrap64 (x50 + 1)) x619000 x619001 x632000 x632001 x632002)
def impl_CountAround.l2 : Nat → ByteArray → List Int → List Int → Int → Int → Int → Int → List Int → Int → Int → List Int → Int → Int → Int → Int → Int → Int → List Bool → Option (Int × Bool)
 | 0, _, _, _, _, _, _, _, _, _, _, _, _, _, _, _, _, _, _ => none
 | k + 1, x3, x11, x13, x14, x15, x49, x50, x53, x54, x55, x65, x66, x67, x619000, x619001, x632000, x632001, x632002 => if x67 < x66 then (if 0 ≤ x67 then (if x67 < (x65.length : Int) then (if 0 ≤ (rd x65 x67) then (if (rd x65 x67) < (x11.length : Int) then (if (rd x11 (rd x65 x67)) = (wrap64 (x14 + 1)) then (if (rd x65 x67) < (x13.length : Int) then (if 0 ≤ x15 then (if x15 < (x13.length : Int) then (impl_CountAround.l2 k x3 x11 (x13.set ((rd x65 x67) : Int).toNat (mn (wrap64 ((rd x13 (rd x65 x67)) + (rd x13 x15))) 1000000000000001)) x14 x15 x49 x50 x53 x54 x55 x65 x66 (wrap64 (x67 + 1)) x619000 x619001 x632000 x632001 x632002) else (none)) else (none)) else (none)) else (impl_CountAround.l2 k x3 x11 x13 x14 x15 x49 x50 x53 x54 x55 x65 x66 (wrap64 (x67 + 1)) x619000 x619001 x632000 x632001 x632002)) else (none)) else (none)) else (none)) else (none)) else (impl_CountAround.l1 k x3 x11 x13 x14 x49 x50 x53 x54 (wrap64 (x55 + 1)) x619000 x619001 x632000 x632001 x632002)
end
def impl_CountAround.f (k : Nat) (a0_0 : Int) (a0_1 : Int) (l1 : List ByteArray) (a2 : ByteArray) (a3 : ByteArray) : Option (Int × Bool) := (impl_areLive.f k a0_0 a0_1 l1 (([a2, a3] : List ByteArray))).bind fun t622 => (if t622 = true then ((impl_farOf.f k a0_0 a0_1 l1 a2).bind fun bt623 => ((impl_Lock_number.f k a0_0 a0_1 a3).bind fun t632 => (if 0 ≤ t632 then (if t632 < (bt623.2.2.2.length : Int) then (if 0 ≤ (bt623.2.2.2.length : Int) then (if ((bt623.2.2.2.length : Int) : Int).toNat ≤ 35184372088832 then ((some (List.replicate ((bt623.2.2.2.length : Int) : Int).toNat 0 : List Int)).bind fun y634 => ((impl_Lock_number.f k a0_0 a0_1 a2).bind fun t637 => (if 0 ≤ t637 then (if t637 < (y634.length : Int) then (impl_CountAround.l0 k a3 bt623.2.2.2 (y634.set (t637 : Int).toNat 1) (mx (rd bt623.2.2.2 t632) 0) 0 a0_0 a0_1 bt623.1 bt623.2.1 bt623.2.2.1) else (none)) else (none)))) else (none)) else (none)) else (none)) else (none)))) else (some (0, false)))
theorem impl_CountAround.mono_l : ∀ k, (∀ y0 y1 y2 y3 y4 y5 y6 y7 y8 y9, LeO (impl_CountAround.l0 k y0 y1 y2 y3 y4 y5 y6 y7 y8 y9) (impl_CountAround.l0 (k + 1) y0 y1 y2 y3 y4 y5 y6 y7 y8 y9)) ∧ (∀ y0 y1 y2 y3 y4 y5 y6 y7 y8 y9 y10 y11 y12 y13, LeO (impl_CountAround.l1 k y0 y1 y2 y3 y4 y5 y6 y7 y8 y9 y10 y11 y12 y13) (impl_CountAround.l1 (k + 1) y0 y1 y2 y3 y4 y5 y6 y7 y8 y9 y10 y11 y12 y13)) ∧ (∀ y0 y1 y2 y3 y4 y5 y6 y7 y8 y9 y10 y11 y12 y13 y14 y15 y16 y17, LeO (impl_CountAround.l2 k y0 y1 y2 y3 y4 y5 y6 y7 y8 y9 y10 y11 y12 y13 y14 y15 y16 y17) (impl_CountAround.l2 (k + 1) y0 y1 y2 y3 y4 y5 y6 y7 y8 y9 y10 y11 y12 y13 y14 y15 y16 y17))
 | 0 => ⟨fun _ _ _ _ _ _ _ _ _ _ r h => by simp [impl_CountAround.l0] at h, fun _ _ _ _ _ _ _ _ _ _ _ _ _ _ r h => by simp [impl_CountAround.l1] at h, fun _ _ _ _ _ _ _ _ _ _ _ _ _ _ _ _ _ _ r h => by simp [impl_CountAround.l2] at h⟩
 | k + 1 => by
  obtain ⟨ih0, ih1, ih2⟩ := impl_CountAround.mono_l k
  refine ⟨?_, ?_, ?_⟩
  ·intro y0 y1 y2 y3 y4 y5 y6 y7 y8 y9
   unfold impl_CountAround.l0
   repeat' first
   | (with_reducible exact ih0 _ _ _ _ _ _ _ _ _ _)
   | (with_reducible exact ih1 _ _ _ _ _ _ _ _ _ _ _ _ _ _)
   | (with_reducible exact ih2 _ _ _ _ _ _ _ _ _ _ _ _ _ _ _ _ _ _)
   | (with_reducible exact impl_Lock_number.mono _ _ _ _)
   | (with_reducible exact impl_areLive.mono _ _ _ _ _)
   | (with_reducible exact impl_farOf.mono _ _ _ _ _)
   | (with_reducible exact impl_field_steps.mono _ _ _ _ _)
   | (with_reducible exact LeO.refl _)
   | (with_reducible exact LeO.none _)
   | (with_reducible refine LeO.ite ?_ ?_)
   | (with_reducible refine LeO.bind ?_ (fun _ => ?_))
   | exact ih0 _ _ _ _ _ _ _ _ _ _
   | exact ih1 _ _ _ _ _ _ _ _ _ _ _ _ _ _
   | exact ih2 _ _ _ _ _ _ _ _ _ _ _ _ _ _ _ _ _ _
   | exact impl_Lock_number.mono _ _ _ _
   | exact impl_areLive.mono _ _ _ _ _
   | exact impl_farOf.mono _ _ _ _ _
   | exact impl_field_steps.mono _ _ _ _ _
   | exact LeO.none _
   | refine LeO.ite ?_ ?_
   | refine LeO.bind ?_ (fun _ => ?_)
  ·intro y0 y1 y2 y3 y4 y5 y6 y7 y8 y9 y10 y11 y12 y13
   unfold impl_CountAround.l1
   repeat' first
   | (with_reducible exact ih0 _ _ _ _ _ _ _ _ _ _)
   | (with_reducible exact ih1 _ _ _ _ _ _ _ _ _ _ _ _ _ _)
   | (with_reducible exact ih2 _ _ _ _ _ _ _ _ _ _ _ _ _ _ _ _ _ _)
   | (with_reducible exact impl_Lock_number.mono _ _ _ _)
   | (with_reducible exact impl_areLive.mono _ _ _ _ _)
   | (with_reducible exact impl_farOf.mono _ _ _ _ _)
   | (with_reducible exact impl_field_steps.mono _ _ _ _ _)
   | (with_reducible exact LeO.refl _)
   | (with_reducible exact LeO.none _)
   | (with_reducible refine LeO.ite ?_ ?_)
   | (with_reducible refine LeO.bind ?_ (fun _ => ?_))
   | exact ih0 _ _ _ _ _ _ _ _ _ _
   | exact ih1 _ _ _ _ _ _ _ _ _ _ _ _ _ _
   | exact ih2 _ _ _ _ _ _ _ _ _ _ _ _ _ _ _ _ _ _
   | exact impl_Lock_number.mono _ _ _ _
   | exact impl_areLive.mono _ _ _ _ _
   | exact impl_farOf.mono _ _ _ _ _
   | exact impl_field_steps.mono _ _ _ _ _
   | exact LeO.none _
   | refine LeO.ite ?_ ?_
   | refine LeO.bind ?_ (fun _ => ?_)
  ·intro y0 y1 y2 y3 y4 y5 y6 y7 y8 y9 y10 y11 y12 y13 y14 y15 y16 y17
   unfold impl_CountAround.l2
   repeat' first
   | (with_reducible exact ih0 _ _ _ _ _ _ _ _ _ _)
   | (with_reducible exact ih1 _ _ _ _ _ _ _ _ _ _ _ _ _ _)
   | (with_reducible exact ih2 _ _ _ _ _ _ _ _ _ _ _ _ _ _ _ _ _ _)
   | (with_reducible exact impl_Lock_number.mono _ _ _ _)
   | (with_reducible exact impl_areLive.mono _ _ _ _ _)
   | (with_reducible exact impl_farOf.mono _ _ _ _ _)
   | (with_reducible exact impl_field_steps.mono _ _ _ _ _)
   | (with_reducible exact LeO.refl _)
   | (with_reducible exact LeO.none _)
   | (with_reducible refine LeO.ite ?_ ?_)
   | (with_reducible refine LeO.bind ?_ (fun _ => ?_))
   | exact ih0 _ _ _ _ _ _ _ _ _ _
   | exact ih1 _ _ _ _ _ _ _ _ _ _ _ _ _ _
   | exact ih2 _ _ _ _ _ _ _ _ _ _ _ _ _ _ _ _ _ _
   | exact impl_Lock_number.mono _ _ _ _
   | exact impl_areLive.mono _ _ _ _ _
   | exact impl_farOf.mono _ _ _ _ _
   | exact impl_field_steps.mono _ _ _ _ _
   | exact LeO.none _
   | refine LeO.ite ?_ ?_
   | refine LeO.bind ?_ (fun _ => ?_)
theorem impl_CountAround.mono : ∀ a0 a1 a2 a3 a4 k, LeO (impl_CountAround.f k a0 a1 a2 a3 a4) (impl_CountAround.f (k + 1) a0 a1 a2 a3 a4) := by
 intro a0 a1 a2 a3 a4 k
 obtain ⟨ih0, ih1, ih2⟩ := impl_CountAround.mono_l k
 unfold impl_CountAround.f
 repeat' first
   | (with_reducible exact ih0 _ _ _ _ _ _ _ _ _ _)
   | (with_reducible exact ih1 _ _ _ _ _ _ _ _ _ _ _ _ _ _)
   | (with_reducible exact ih2 _ _ _ _ _ _ _ _ _ _ _ _ _ _ _ _ _ _)
   | (with_reducible exact impl_Lock_number.mono _ _ _ _)
   | (with_reducible exact impl_areLive.mono _ _ _ _ _)
   | (with_reducible exact impl_farOf.mono _ _ _ _ _)
   | (with_reducible exact impl_field_steps.mono _ _ _ _ _)
   | (with_reducible exact LeO.refl _)
   | (with_reducible exact LeO.none _)
   | (with_reducible refine LeO.ite ?_ ?_)
   | (with_reducible refine LeO.bind ?_ (fun _ => ?_))
   | exact ih0 _ _ _ _ _ _ _ _ _ _
   | exact ih1 _ _ _ _ _ _ _ _ _ _ _ _ _ _
   | exact ih2 _ _ _ _ _ _ _ _ _ _ _ _ _ _ _ _ _ _
   | exact impl_Lock_number.mono _ _ _ _
   | exact impl_areLive.mono _ _ _ _ _
   | exact impl_farOf.mono _ _ _ _ _
   | exact impl_field_steps.mono _ _ _ _ _
   | exact LeO.none _
   | refine LeO.ite ?_ ?_
   | refine LeO.bind ?_ (fun _ => ?_)
def impl_CountAround.T18 : Bool × List (List Nat × List Nat) := (true, [([], []), ([], []), ([], []), ([], []), ([2, 3], [2, 3]), ([4], [4]), ([], []), ([], []), ([6, 7], [6, 7]), ([8], [8]), ([5, 9], [5, 9]), ([10], [10]), ([0, 1, 0, 1, 2, 3, 4, 5, 6, 7, 8, 9, 10, 11], [0, 1]), ([12, 11, 0, 1, 2, 3, 4, 5, 6, 7, 8, 9, 10, 11], [11, 12])])
def impl_CountAround.B18 : List Nat := [0, 0, 0, 0, 12, 28, 0, 0, 192, 448, 1020, 2044, 4095, 8191]
theorem impl_CountAround.tab18 : rtab .any (opsOf Try.f33 18) = impl_CountAround.T18 := by kernel_rfl
theorem impl_CountAround.bits18 : waitsOk impl_CountAround.T18.2 impl_CountAround.B18 = true := by kernel_rfl
set_option maxHeartbeats 8000000 in
set_option maxRecDepth 100000 in
theorem impl_CountAround.calls (k : Nat) (a0_0 : Int) (a0_1 : Int) (A1 : Option Addr) (c1 : Nat) (l1 : List ByteArray) (a2 : ByteArray) (a3 : ByteArray) (r1 : Int) (r2 : Bool) (w : World) (hr1 : Kd.C Kd.string w A1 l1.length l1) (hc1 : l1.length ≤ c1) (h : impl_CountAround.f k a0_0 a0_1 l1 a2 a3 = some (r1, r2)) :
  Calls Try.prog 33 #[.agg #[.int .i64 a0_0, .int .i64 a0_1], .slice A1 l1.length c1, .string a2, .string a3] w fun e w' => e = .returned (.tuple #[.int .i64 r1, .bool r2]) ∧ Below w.heap.size w w' := by
 have hu30 := Try.underlying30
 have hu70 := Try.underlying70
 have HR1 := Aside0.mk hr1
 have HC1 := Aside0.mk hc1
 clear hr1 hc1; have HB := Aside0.mk (Below.refl w.heap.size w)
 have H : ((impl_areLive.f k a0_0 a0_1 l1 (([a2, a3] : List ByteArray))).bind fun t622 => (if t622 = true then ((impl_farOf.f k a0_0 a0_1 l1 a2).bind fun bt623 => ((impl_Lock_number.f k a0_0 a0_1 a3).bind fun t632 => (if 0 ≤ t632 then (if t632 < (bt623.2.2.2.length : Int) then (if 0 ≤ (bt623.2.2.2.length : Int) then (if ((bt623.2.2.2.length : Int) : Int).toNat ≤ 35184372088832 then ((some (List.replicate ((bt623.2.2.2.length : Int) : Int).toNat 0 : List Int)).bind fun y634 => ((impl_Lock_number.f k a0_0 a0_1 a2).bind fun t637 => (if 0 ≤ t637 then (if t637 < (y634.length : Int) then (impl_CountAround.l0 k a3 bt623.2.2.2 (y634.set (t637 : Int).toNat 1) (mx (rd bt623.2.2.2 t632) 0) 0 a0_0 a0_1 bt623.1 bt623.2.1 bt623.2.2.1) else (none)) else (none)))) else (none)) else (none)) else (none)) else (none)))) else (some (0, false)))) = some (r1, r2) := h
 clear h; obtain ⟨y619, hy619⟩ : ∃ y_ : List ByteArray, y_ = (([a2, a3] : List ByteArray)) := ⟨_, rfl⟩
 replace H : ((impl_areLive.f k a0_0 a0_1 l1 y619).bind fun t622 => (if t622 = true then ((impl_farOf.f k a0_0 a0_1 l1 a2).bind fun bt623 => ((impl_Lock_number.f k a0_0 a0_1 a3).bind fun t632 => (if 0 ≤ t632 then (if t632 < (bt623.2.2.2.length : Int) then (if 0 ≤ (bt623.2.2.2.length : Int) then (if ((bt623.2.2.2.length : Int) : Int).toNat ≤ 35184372088832 then ((some (List.replicate ((bt623.2.2.2.length : Int) : Int).toNat 0 : List Int)).bind fun y634 => ((impl_Lock_number.f k a0_0 a0_1 a2).bind fun t637 => (if 0 ≤ t637 then (if t637 < (y634.length : Int) then (impl_CountAround.l0 k a3 bt623.2.2.2 (y634.set (t637 : Int).toNat 1) (mx (rd bt623.2.2.2 t632) 0) 0 a0_0 a0_1 bt623.1 bt623.2.1 bt623.2.2.1) else (none)) else (none)))) else (none)) else (none)) else (none)) else (none)))) else (some (0, false)))) = some (r1, r2) := by first | (rw [hy619]; with_reducible exact H) | (have H2_ := (Option.bind_some _ _).symm.trans H; rw [hy619]; with_reducible exact H2_) | (have H2_ := (Option.bind_some _ _).symm.trans H; with_reducible exact H2_) | with_reducible exact H | (rw [hy619]; exact H) | exact H
 have Ny619 := Aside0.mk hy619
 clear hy619; replace H := Option.bind_eq_some_iff.mp H
 obtain ⟨t622, A50, H⟩ := H
 replace H : (if t622 = true then ((impl_farOf.f k a0_0 a0_1 l1 a2).bind fun bt623 => ((impl_Lock_number.f k a0_0 a0_1 a3).bind fun t632 => (if 0 ≤ t632 then (if t632 < (bt623.2.2.2.length : Int) then (if 0 ≤ (bt623.2.2.2.length : Int) then (if ((bt623.2.2.2.length : Int) : Int).toNat ≤ 35184372088832 then ((some (List.replicate ((bt623.2.2.2.length : Int) : Int).toNat 0 : List Int)).bind fun y634 => ((impl_Lock_number.f k a0_0 a0_1 a2).bind fun t637 => (if 0 ≤ t637 then (if t637 < (y634.length : Int) then (impl_CountAround.l0 k a3 bt623.2.2.2 (y634.set (t637 : Int).toNat 1) (mx (rd bt623.2.2.2 t632) 0) 0 a0_0 a0_1 bt623.1 bt623.2.1 bt623.2.2.1) else (none)) else (none)))) else (none)) else (none)) else (none)) else (none)))) else (some (0, false))) = some (r1, r2) := H
 have A5 := Aside0.mk A50
 clear A50; by_cases c6 : t622 = true
 ·subst c6
  have H1 : ((impl_farOf.f k a0_0 a0_1 l1 a2).bind fun bt623 => ((impl_Lock_number.f k a0_0 a0_1 a3).bind fun t632 => (if 0 ≤ t632 then (if t632 < (bt623.2.2.2.length : Int) then (if 0 ≤ (bt623.2.2.2.length : Int) then (if ((bt623.2.2.2.length : Int) : Int).toNat ≤ 35184372088832 then ((some (List.replicate ((bt623.2.2.2.length : Int) : Int).toNat 0 : List Int)).bind fun y634 => ((impl_Lock_number.f k a0_0 a0_1 a2).bind fun t637 => (if 0 ≤ t637 then (if t637 < (y634.length : Int) then (impl_CountAround.l0 k a3 bt623.2.2.2 (y634.set (t637 : Int).toNat 1) (mx (rd bt623.2.2.2 t632) 0) 0 a0_0 a0_1 bt623.1 bt623.2.1 bt623.2.2.1) else (none)) else (none)))) else (none)) else (none)) else (none)) else (none)))) = some (r1, r2) := by rw [if_pos rfl] at H; exact H
  clear H; have H := H1
  clear H1; replace H := Option.bind_eq_some_iff.mp H
  obtain ⟨⟨t623, t624, t625, t628⟩, A70, H⟩ := H
  replace H : ((impl_Lock_number.f k a0_0 a0_1 a3).bind fun t632 => (if 0 ≤ t632 then (if t632 < (t628.length : Int) then (if 0 ≤ (t628.length : Int) then (if ((t628.length : Int) : Int).toNat ≤ 35184372088832 then ((some (List.replicate ((t628.length : Int) : Int).toNat 0 : List Int)).bind fun y634 => ((impl_Lock_number.f k a0_0 a0_1 a2).bind fun t637 => (if 0 ≤ t637 then (if t637 < (y634.length : Int) then (impl_CountAround.l0 k a3 t628 (y634.set (t637 : Int).toNat 1) (mx (rd t628 t632) 0) 0 a0_0 a0_1 t623 t624 t625) else (none)) else (none)))) else (none)) else (none)) else (none)) else (none))) = some (r1, r2) := H
  have A7 := Aside0.mk A70
  clear A70; replace H := Option.bind_eq_some_iff.mp H
  obtain ⟨t632, A80, H⟩ := H
  replace H : (if 0 ≤ t632 then (if t632 < (t628.length : Int) then (if 0 ≤ (t628.length : Int) then (if ((t628.length : Int) : Int).toNat ≤ 35184372088832 then ((some (List.replicate ((t628.length : Int) : Int).toNat 0 : List Int)).bind fun y634 => ((impl_Lock_number.f k a0_0 a0_1 a2).bind fun t637 => (if 0 ≤ t637 then (if t637 < (y634.length : Int) then (impl_CountAround.l0 k a3 t628 (y634.set (t637 : Int).toNat 1) (mx (rd t628 t632) 0) 0 a0_0 a0_1 t623 t624 t625) else (none)) else (none)))) else (none)) else (none)) else (none)) else (none)) = some (r1, r2) := H
  have A8 := Aside0.mk A80
  clear A80; by_cases c9 : 0 ≤ t632
  ·rw [if_pos c9] at H
   have c9b0 : decide (0 ≤ t632) = true := decide_eq_true c9
   clear c9; by_cases c10 : t632 < (t628.length : Int)
   ·rw [if_pos c10] at H
    have c10b0 : decide (t632 < (t628.length : Int)) = true := decide_eq_true c10
    clear c10; by_cases c11 : 0 ≤ (t628.length : Int)
    ·rw [if_pos c11] at H
     have c11b0 := eq_true c11
     have c11b1 : decide (0 ≤ (t628.length : Int)) = true := decide_eq_true c11
     clear c11; by_cases c12 : ((t628.length : Int) : Int).toNat ≤ 35184372088832
     ·rw [if_pos c12] at H
      have c12b0 := eq_true c12
      have c12b1 : decide (((t628.length : Int) : Int).toNat ≤ 35184372088832) = true := decide_eq_true c12
      clear c12; obtain ⟨y634, hy634⟩ : ∃ y_ : List Int, y_ = (List.replicate ((t628.length : Int) : Int).toNat 0) := ⟨_, rfl⟩
      replace H : ((impl_Lock_number.f k a0_0 a0_1 a2).bind fun t637 => (if 0 ≤ t637 then (if t637 < (y634.length : Int) then (impl_CountAround.l0 k a3 t628 (y634.set (t637 : Int).toNat 1) (mx (rd t628 t632) 0) 0 a0_0 a0_1 t623 t624 t625) else (none)) else (none))) = some (r1, r2) := by first | (rw [hy634]; with_reducible exact H) | (have H2_ := (Option.bind_some _ _).symm.trans H; rw [hy634]; with_reducible exact H2_) | (have H2_ := (Option.bind_some _ _).symm.trans H; with_reducible exact H2_) | with_reducible exact H | (rw [hy634]; exact H) | exact H
      have Ny634 := Aside0.mk hy634
      clear hy634; replace H := Option.bind_eq_some_iff.mp H
      obtain ⟨t637, A130, H⟩ := H
      replace H : (if 0 ≤ t637 then (if t637 < (y634.length : Int) then (impl_CountAround.l0 k a3 t628 (y634.set (t637 : Int).toNat 1) (mx (rd t628 t632) 0) 0 a0_0 a0_1 t623 t624 t625) else (none)) else (none)) = some (r1, r2) := H
      have A13 := Aside0.mk A130
      clear A130; by_cases c14 : 0 ≤ t637
      ·rw [if_pos c14] at H
       have c14b0 : decide (0 ≤ t637) = true := decide_eq_true c14
       clear c14; by_cases c15 : t637 < (y634.length : Int)
       ·rw [if_pos c15] at H
        have c15b0 : decide (t637 < (y634.length : Int)) = true := decide_eq_true c15
        clear c15; obtain ⟨y638, hy638⟩ : ∃ y_ : List Int, y_ = (y634.set (t637 : Int).toNat 1) := ⟨_, rfl⟩
        replace H : (impl_CountAround.l0 k a3 t628 y638 (mx (rd t628 t632) 0) 0 a0_0 a0_1 t623 t624 t625) = some (r1, r2) := by first | (rw [hy638]; with_reducible exact H) | (have H2_ := (Option.bind_some _ _).symm.trans H; rw [hy638]; with_reducible exact H2_) | (have H2_ := (Option.bind_some _ _).symm.trans H; with_reducible exact H2_) | with_reducible exact H | (rw [hy638]; exact H) | exact H
        have Ny638 := Aside0.mk hy638
        clear hy638; obtain ⟨ji17, hji17⟩ : ∃ j_ : Int, (mx (rd t628 t632) 0) = j_ := ⟨_, rfl⟩
        replace H : (impl_CountAround.l0 k a3 t628 y638 ji17 0 a0_0 a0_1 t623 t624 t625) = some (r1, r2) := by first | (rw [hji17] at H; exact H) | (simp only [hji17] at H ⊢; exact H)
        (try rw [hji17] at A5)
        (try rw [hji17] at A7)
        (try rw [hji17] at A8)
        (try rw [hji17] at A13)
        (try (have hji17l : 0 ≤ ji17 := by (rw [← hji17]; unfold mx; (repeat' split) <;> omega)))
        (try (have hji17m : 0 ≤ ji17 := by omega))
        have hji17_ : (if (rd t628 t632) < 0 then 0 else (rd t628 t632)) = ji17 := hji17
        have H' := Aside0.mk H
        clear H; go_enter Try.func33, Try.ntmps33
        go_wp2_with (first | ((with_reducible refine gate_dst (N := 4) rfl ?_); refine box_event ?hg (N := 4) ?hd (cs := #[.int .i64 a0_0, .int .i64 a0_1]) (t := 30) ?hr ?_; (case hd => rfl); (case hg => rfl); (case hr => first | (go_simp; done) | (go_simp; rfl)); intro gb618 hg w18 hbox hb; have n0_ := Aside0.mk (below_step (by repeat (first | (with_reducible first | exact HB.out | apply below_alloc | apply pw_below_drewN | apply below_drew1) | exact HB.out)) hb); have n1_ := Aside0.mk (hbox); have n2_ := Aside0.mk ((by rw [hg]; exact (below_size (by repeat (first | (with_reducible first | exact HB.out | apply below_alloc | apply pw_below_drewN | apply below_drew1) | exact HB.out))) : w.heap.size ≤ gb618)); have n3_ := Aside0.mk ((by rw [hg]; exact (below_size (by repeat (first | (with_reducible first | exact HB.out | apply below_alloc | apply pw_below_drewN | apply below_drew1) | exact HB.out))) : w.heap.size ≤ gb618)); clear HB; have HB := n0_; have BK618 := n1_; have GW618 := n2_; have GE618 := n3_; clear n0_ n1_ n2_ n3_; clear hb hbox hg; have hcz19_0 : w18.cell? ⟨gb618, 0, none⟩ = some (.int .i64 a0_0) := (blk_cell BK618.out 0).trans rfl; have hcz19_1 : w18.cell? ⟨gb618, 1, none⟩ = some (.int .i64 a0_1) := (blk_cell BK618.out 1).trans rfl; have hfz19_0 := blk_frozen BK618.out 0; have hfz19_1 := blk_frozen BK618.out 1) | ((with_reducible refine gate_dst (N := 24) rfl ?_); refine Kd.R_lit Kd.string _ 9 ?hg (N := 24) ?hd (xs := ([a2, a3] : List ByteArray)) (inner := [.string a2, .string a3]) (ok := fun _ => True) (okp := fun _ => True) ?hr ?hp (fun _ hk => hk) trivial (Below.refl _ _) (Nat.le_refl _) (by simp) ?_; (case hd => rfl); (case hg => rfl); (case hr => first | (go_simp; done) | (go_simp; rfl)); (case hp => exact (Reps.one (show Kd.M Kd.string _ _ _ a2 [.string a2] from rfl) (Reps.one (show Kd.M Kd.string _ _ _ a3 [.string a3] from rfl) (Reps.none _ _)))); intro v620 w20 ho21 hb hg_ hnew_; clear hg_ hnew_; (first | rw [← Ny619.out] at ho21 | (simp only [Int.reduceToNat] at ho21; rw [← Ny619.out] at ho21)); have n0_ := Aside0.mk (Kd.R_lower ho21 (below_size (by repeat (first | (with_reducible first | exact HB.out | apply below_alloc | apply pw_below_drewN | apply below_drew1 | refine below_set ?_ GE618.out) | exact HB.out)))); have n1_ := Aside0.mk (blk_below (g := gb618) (o := .cells #[.int .i64 a0_0, .int .i64 a0_1] 30 (0, 0)) (by (with_reducible repeat (first | refine blk_drewN ?_ _ | refine blk_drew ?_ | refine blk_alloc ?_ _)); exact BK618.out) hb); have n2_ := Aside0.mk (below_step (by repeat (first | (with_reducible first | exact HB.out | apply below_alloc | apply pw_below_drewN | apply below_drew1 | refine below_set ?_ GE618.out) | exact HB.out)) hb); clear BK618; clear HB; have HO621 := n0_; have BK618 := n1_; have HB := n2_; clear n0_ n1_ n2_; clear hb ho21; obtain ⟨Ao22, co22, eo22⟩ := Kd.R_slice HO621.out; subst eo22) | ((with_reducible refine gate_callee (f := 53) rfl ?_); refine goesL_ (some 25) rfl rfl Try.func53 (by kernel_rfl) rfl #[.agg #[.int .i64 a0_0, .int .i64 a0_1], .slice A1 l1.length c1, .slice Ao22 y619.length co22] rfl (by (try simp only [List.map_toArray, List.map_cons, List.map_nil]); first | done | rfl | (simp only [List.length_drop, List.length_take]; rfl)) ?_; (with_reducible refine (impl_areLive.calls k a0_0 a0_1 _ _ l1 _ _ y619 true _ ?side1 ?side2 ?side3 ?side4 A5.out).mono ?_); (case side1 => repeat (first | exact (Kd.C_below HR1.out HB.out) | (with_reducible refine Kd.C_alloc ?_ _) | (with_reducible refine Kd.C_drewN ?_ _) | (with_reducible refine Kd.C_drew ?_))); (case side2 => exact HC1.out); (case side3 => repeat (first | exact (Kd.R_reads' HO621.out).2.2 | (with_reducible refine Kd.C_alloc ?_ _) | (with_reducible refine Kd.C_drewN ?_ _) | (with_reducible refine Kd.C_drew ?_))); (case side4 => exact (Kd.R_reads' HO621.out).2.1); rintro e w23 ⟨rfl, hb⟩; refine ⟨_, rfl, ?_⟩; have n0_ := Aside0.mk (Kd.R_below (by (with_reducible repeat (first | apply Kd.R_alloc | apply Kd.R_drewN | apply Kd.R_drew)); exact HO621.out) hb); have n1_ := Aside0.mk (blk_below (g := gb618) (o := .cells #[.int .i64 a0_0, .int .i64 a0_1] 30 (0, 0)) (by (with_reducible repeat (first | refine blk_drewN ?_ _ | refine blk_drew ?_ | refine blk_alloc ?_ _)); exact BK618.out) hb); have n2_ := Aside0.mk (below_step (by repeat (first | (with_reducible first | exact HB.out | apply below_alloc | apply pw_below_drewN | apply below_drew1 | refine below_set ?_ GE618.out) | exact HB.out)) hb); clear HO621; clear BK618; clear HB; have HO621 := n0_; have BK618 := n1_; have HB := n2_; clear n0_ n1_ n2_; (try clear hb); (try clear hb2); (try clear hk); (try clear hi); have hcz24_0 : w23.cell? ⟨gb618, 0, none⟩ = some (.int .i64 a0_0) := (blk_cell BK618.out 0).trans rfl; have hcz24_1 : w23.cell? ⟨gb618, 1, none⟩ = some (.int .i64 a0_1) := (blk_cell BK618.out 1).trans rfl; have hfz24_0 := blk_frozen BK618.out 0; have hfz24_1 := blk_frozen BK618.out 1) | ((with_reducible refine gate_callee (f := 60) rfl ?_); refine goesL_ (some 31) rfl rfl Try.func60 (by kernel_rfl) rfl #[.agg #[.int .i64 a0_0, .int .i64 a0_1], .slice A1 l1.length c1, .string a2] rfl (by (try simp only [List.map_toArray, List.map_cons, List.map_nil]); first | done | rfl | (simp only [List.length_drop, List.length_take]; rfl)) ?_; (with_reducible refine (impl_farOf.calls k a0_0 a0_1 _ _ l1 a2 t623 t624 t625 t628 _ ?side1 ?side2 A7.out).mono ?_); (case side1 => repeat (first | exact (Kd.C_below HR1.out HB.out) | (with_reducible refine Kd.C_alloc ?_ _) | (with_reducible refine Kd.C_drewN ?_ _) | (with_reducible refine Kd.C_drew ?_))); (case side2 => exact HC1.out); rintro e w25 ⟨v626, v629, rfl, ho0, ho1, hb⟩; refine ⟨_, rfl, ?_⟩; have n0_ := Aside0.mk (Kd.R_below (by (with_reducible repeat (first | apply Kd.R_alloc | apply Kd.R_drewN | apply Kd.R_drew)); exact HO621.out) hb); have n1_ := Aside0.mk (Kd.R_lower ho0 (below_size (by repeat (first | (with_reducible first | exact HB.out | apply below_alloc | apply pw_below_drewN | apply below_drew1 | refine below_set ?_ GE618.out) | exact HB.out)))); have n2_ := Aside0.mk (Kd.R_lower ho1 (below_size (by repeat (first | (with_reducible first | exact HB.out | apply below_alloc | apply pw_below_drewN | apply below_drew1 | refine below_set ?_ GE618.out) | exact HB.out)))); have n3_ := Aside0.mk (blk_below (g := gb618) (o := .cells #[.int .i64 a0_0, .int .i64 a0_1] 30 (0, 0)) (by (with_reducible repeat (first | refine blk_drewN ?_ _ | refine blk_drew ?_ | refine blk_alloc ?_ _)); exact BK618.out) hb); have n4_ := Aside0.mk (below_step (by repeat (first | (with_reducible first | exact HB.out | apply below_alloc | apply pw_below_drewN | apply below_drew1 | refine below_set ?_ GE618.out) | exact HB.out)) hb); clear HO621; clear BK618; clear HB; have HO621 := n0_; have HO627 := n1_; have HO630 := n2_; have BK618 := n3_; have HB := n4_; clear n0_ n1_ n2_ n3_ n4_; (try clear hb); (try clear hb2); (try clear hk); (try clear hi); (try clear ho0); (try clear ho1)) | ((with_reducible refine gate_dst (N := 10) rfl ?_); refine box_event ?hg (N := 10) ?hd (cs := #[.int .i64 0, .int .i64 0, .slice none 0 0]) (t := 70) ?hr ?_; (case hd => rfl); (case hg => rfl); (case hr => first | (go_simp; done) | (go_simp; rfl)); intro gb631 hg w26 hbox hb; have n0_ := Aside0.mk (Kd.R_below (by (with_reducible repeat (first | apply Kd.R_alloc | apply Kd.R_drewN | apply Kd.R_drew)); exact HO621.out) hb); have n1_ := Aside0.mk (Kd.R_below (by (with_reducible repeat (first | apply Kd.R_alloc | apply Kd.R_drewN | apply Kd.R_drew)); exact HO627.out) hb); have n2_ := Aside0.mk (Kd.R_below (by (with_reducible repeat (first | apply Kd.R_alloc | apply Kd.R_drewN | apply Kd.R_drew)); exact HO630.out) hb); have n3_ := Aside0.mk (blk_below (g := gb618) (o := .cells #[.int .i64 a0_0, .int .i64 a0_1] 30 (0, 0)) (by (with_reducible repeat (first | refine blk_drewN ?_ _ | refine blk_drew ?_ | refine blk_alloc ?_ _)); exact BK618.out) hb); have n4_ := Aside0.mk (below_step (by repeat (first | (with_reducible first | exact HB.out | apply below_alloc | apply pw_below_drewN | apply below_drew1 | refine below_set ?_ GE618.out) | exact HB.out)) hb); have n5_ := Aside0.mk (hbox); have n6_ := Aside0.mk ((by rw [hg]; exact (below_size (by repeat (first | (with_reducible first | exact HB.out | apply below_alloc | apply pw_below_drewN | apply below_drew1 | refine below_set ?_ GE618.out) | exact HB.out))) : w.heap.size ≤ gb631)); have n7_ := Aside0.mk ((by rw [hg]; exact (below_size (by repeat (first | (with_reducible first | exact HB.out | apply below_alloc | apply pw_below_drewN | apply below_drew1 | refine below_set ?_ GE618.out) | exact HB.out))) : w.heap.size ≤ gb631)); have n8_ := Aside0.mk ((by rw [hg]; exact Nat.ne_of_lt (blk_lt (g := gb618) (o := .cells #[.int .i64 a0_0, .int .i64 a0_1] 30 (0, 0)) (by (with_reducible repeat (first | refine blk_drewN ?_ _ | refine blk_drew ?_ | refine blk_alloc ?_ _)); exact BK618.out)) : gb618 ≠ gb631)); have n9_ := Aside0.mk ((by rw [hg]; exact Nat.ne_of_gt (blk_lt (g := gb618) (o := .cells #[.int .i64 a0_0, .int .i64 a0_1] 30 (0, 0)) (by (with_reducible repeat (first | refine blk_drewN ?_ _ | refine blk_drew ?_ | refine blk_alloc ?_ _)); exact BK618.out)) : gb631 ≠ gb618)); clear HO621; clear HO627; clear HO630; clear BK618; clear HB; have HO621 := n0_; have HO627 := n1_; have HO630 := n2_; have BK618 := n3_; have HB := n4_; have BK631 := n5_; have GW631 := n6_; have GE631 := n7_; have NB618_631 := n8_; have NB631_618 := n9_; clear n0_ n1_ n2_ n3_ n4_ n5_ n6_ n7_ n8_ n9_; clear hb hbox hg; have hnb27 := NB631_618.out; have hnc27 := NB618_631.out; have hcz28_0 : w26.cell? ⟨gb631, 0, none⟩ = some (.int .i64 0) := (blk_cell BK631.out 0).trans rfl; have hcz28_1 : w26.cell? ⟨gb631, 1, none⟩ = some (.int .i64 0) := (blk_cell BK631.out 1).trans rfl; have hcz28_2 : w26.cell? ⟨gb631, 2, none⟩ = some (.slice none 0 0) := (blk_cell BK631.out 2).trans rfl; have hfz28_0 := blk_frozen BK631.out 0; have hfz28_1 := blk_frozen BK631.out 1; have hfz28_2 := blk_frozen BK631.out 2; obtain ⟨Ao29, co29, eo29⟩ := Kd.R_slice HO627.out; subst eo29; have hcz30_0 : w26.cell? ⟨gb618, 0, none⟩ = some (.int .i64 a0_0) := (blk_cell BK618.out 0).trans rfl; have hcz30_1 : w26.cell? ⟨gb618, 1, none⟩ = some (.int .i64 a0_1) := (blk_cell BK618.out 1).trans rfl; have hfz30_0 := blk_frozen BK618.out 0; have hfz30_1 := blk_frozen BK618.out 1) | ((with_reducible refine gate_callee (f := 61) rfl ?_); refine goesL_ (some 37) rfl rfl Try.func61 (by kernel_rfl) rfl #[.agg #[.int .i64 a0_0, .int .i64 a0_1], .string a3] rfl (by (try simp only [List.map_toArray, List.map_cons, List.map_nil]); first | done | rfl | (simp only [List.length_drop, List.length_take]; rfl)) ?_; (with_reducible refine (impl_Lock_number.calls k a0_0 a0_1 a3 t632 _ A8.out).mono ?_); rintro e w31 ⟨rfl, hb⟩; refine ⟨_, rfl, ?_⟩; have n0_ := Aside0.mk (Kd.R_below (by (with_reducible repeat (first | apply Kd.R_alloc | apply Kd.R_drewN | apply Kd.R_drew)); exact (Kd.R_mono (Kd.R_far (p := ⟨gb631, 2, none⟩) (Kd.R_far (p := ⟨gb631, 1, none⟩) (Kd.R_far (p := ⟨gb631, 0, none⟩) (Kd.R_types HO621.out BK631.out (by decide)) (fun _ hk => hk.2) (.int .i64 t623)) (fun _ hk => hk.2) (.int .i64 t624)) (fun _ hk => hk.2) (.slice Ao29 t625.length co29)) (fun _ h_ => h_.1))) hb); have n1_ := Aside0.mk (Kd.R_below (by (with_reducible repeat (first | apply Kd.R_alloc | apply Kd.R_drewN | apply Kd.R_drew)); exact (Kd.R_mono (Kd.R_far (p := ⟨gb631, 2, none⟩) (Kd.R_far (p := ⟨gb631, 1, none⟩) (Kd.R_far (p := ⟨gb631, 0, none⟩) (Kd.R_types HO627.out BK631.out (by decide)) (fun _ hk => hk.2) (.int .i64 t623)) (fun _ hk => hk.2) (.int .i64 t624)) (fun _ hk => hk.2) (.slice Ao29 t625.length co29)) (fun _ h_ => h_.1))) hb); have n2_ := Aside0.mk (Kd.R_below (by (with_reducible repeat (first | apply Kd.R_alloc | apply Kd.R_drewN | apply Kd.R_drew)); exact (Kd.R_mono (Kd.R_far (p := ⟨gb631, 2, none⟩) (Kd.R_far (p := ⟨gb631, 1, none⟩) (Kd.R_far (p := ⟨gb631, 0, none⟩) (Kd.R_types HO630.out BK631.out (by decide)) (fun _ hk => hk.2) (.int .i64 t623)) (fun _ hk => hk.2) (.int .i64 t624)) (fun _ hk => hk.2) (.slice Ao29 t625.length co29)) (fun _ h_ => h_.1))) hb); have n3_ := Aside0.mk (blk_below (g := gb618) (o := .cells #[.int .i64 a0_0, .int .i64 a0_1] 30 (0, 0)) (by (with_reducible repeat (first | refine blk_drewN ?_ _ | refine blk_drew ?_ | refine blk_alloc ?_ _)); refine blk_far ?_ NB618_631.out _; (with_reducible repeat (first | refine blk_drewN ?_ _ | refine blk_drew ?_ | refine blk_alloc ?_ _)); refine blk_far ?_ NB618_631.out _; (with_reducible repeat (first | refine blk_drewN ?_ _ | refine blk_drew ?_ | refine blk_alloc ?_ _)); refine blk_far ?_ NB618_631.out _; (with_reducible repeat (first | refine blk_drewN ?_ _ | refine blk_drew ?_ | refine blk_alloc ?_ _)); exact BK618.out) hb); have n4_ := Aside0.mk (blk_below (g := gb631) (o := .cells #[.int .i64 t623, .int .i64 t624, .slice Ao29 t625.length co29] 70 (0, 0)) (by (with_reducible repeat (first | refine blk_drewN ?_ _ | refine blk_drew ?_ | refine blk_alloc ?_ _)); refine blk_put (cs := #[.int .i64 t623, .int .i64 t624, .slice none 0 0]) ?_ 2 _ rfl; (with_reducible repeat (first | refine blk_drewN ?_ _ | refine blk_drew ?_ | refine blk_alloc ?_ _)); refine blk_put (cs := #[.int .i64 t623, .int .i64 0, .slice none 0 0]) ?_ 1 _ rfl; (with_reducible repeat (first | refine blk_drewN ?_ _ | refine blk_drew ?_ | refine blk_alloc ?_ _)); refine blk_put (cs := #[.int .i64 0, .int .i64 0, .slice none 0 0]) ?_ 0 _ rfl; (with_reducible repeat (first | refine blk_drewN ?_ _ | refine blk_drew ?_ | refine blk_alloc ?_ _)); exact BK631.out) hb); have n5_ := Aside0.mk (below_step (by repeat (first | (with_reducible first | exact HB.out | apply below_alloc | apply pw_below_drewN | apply below_drew1 | refine below_set ?_ GE618.out | refine below_set ?_ GE631.out) | exact HB.out)) hb); clear HO621; clear HO627; clear HO630; clear BK618; clear BK631; clear HB; have HO621 := n0_; have HO627 := n1_; have HO630 := n2_; have BK618 := n3_; have BK631 := n4_; have HB := n5_; clear n0_ n1_ n2_ n3_ n4_ n5_; (try clear hb); (try clear hb2); (try clear hk); (try clear hi); obtain ⟨Ao32, co32, eo32⟩ := Kd.R_slice HO630.out; subst eo32; have p633 : 0 ≤ (t632 : Int) := of_decide_eq_true (by first | (with_reducible assumption) | assumption); have q633 : t632 < (t628.length : Int) := of_decide_eq_true (by first | (with_reducible assumption) | assumption); obtain ⟨ad633, e633, hx633_0⟩ := Kd.at_int (Kd.R_reads' HO630.out).2.2 t632 p633 q633; cases e633; replace p633 := eq_true p633; replace q633 := eq_true q633) | ((with_reducible refine gate_dst (N := 42) rfl ?_); refine Kd.R_make (Kd.int .i64) _ 3 rfl (N := 42) rfl 71 _ _ rfl (t628.length : Int) rfl rfl Try.underlying71 (.int .i64 0) 8 info3 rfl (by decide) (by omega) 0 (ok := fun _ => True) (okp := fun _ => True) rfl (fun _ hk => hk) trivial (of_decide_eq_true (by first | (with_reducible assumption) | assumption)) (Nat.le_trans (Nat.mul_le_mul_right _ (of_decide_eq_true (by first | (with_reducible assumption) | assumption) : (t628.length : Int).toNat ≤ 35184372088832)) (by omega)) (Below.refl _ _) (Nat.le_refl _) ?_; intro v635 w33 ho34 hb hg_ hnew_; clear hg_ hnew_; (first | rw [← Ny634.out] at ho34 | (simp only [Int.reduceToNat] at ho34; rw [← Ny634.out] at ho34)); have n0_ := Aside0.mk (Kd.R_below (by (with_reducible repeat (first | apply Kd.R_alloc | apply Kd.R_drewN | apply Kd.R_drew)); exact HO621.out) hb); have n1_ := Aside0.mk (Kd.R_below (by (with_reducible repeat (first | apply Kd.R_alloc | apply Kd.R_drewN | apply Kd.R_drew)); exact HO627.out) hb); have n2_ := Aside0.mk (Kd.R_elder' (by (with_reducible repeat (first | apply Kd.R_alloc | apply Kd.R_drewN | apply Kd.R_drew)); exact HO630.out) (Kd.R_base ho34) hb); have n3_ := Aside0.mk (Kd.R_lower (Kd.R_new' ho34 (Kd.R_lt (by (with_reducible repeat (first | apply Kd.R_alloc | apply Kd.R_drewN | apply Kd.R_drew)); exact HO630.out))) (below_size (by repeat (first | (with_reducible first | exact HB.out | apply below_alloc | apply pw_below_drewN | apply below_drew1 | refine below_set ?_ GE618.out | refine below_set ?_ GE631.out) | exact HB.out)))); have n4_ := Aside0.mk (blk_below (g := gb618) (o := .cells #[.int .i64 a0_0, .int .i64 a0_1] 30 (0, 0)) (by (with_reducible repeat (first | refine blk_drewN ?_ _ | refine blk_drew ?_ | refine blk_alloc ?_ _)); exact BK618.out) hb); have n5_ := Aside0.mk (blk_below (g := gb631) (o := .cells #[.int .i64 t623, .int .i64 t624, .slice Ao29 t625.length co29] 70 (0, 0)) (by (with_reducible repeat (first | refine blk_drewN ?_ _ | refine blk_drew ?_ | refine blk_alloc ?_ _)); exact BK631.out) hb); have n6_ := Aside0.mk (below_step (by repeat (first | (with_reducible first | exact HB.out | apply below_alloc | apply pw_below_drewN | apply below_drew1 | refine below_set ?_ GE618.out | refine below_set ?_ GE631.out) | exact HB.out)) hb); clear HO621; clear HO627; clear HO630; clear BK618; clear BK631; clear HB; have HO621 := n0_; have HO627 := n1_; have HO630 := n2_; have HO636 := n3_; have BK618 := n4_; have BK631 := n5_; have HB := n6_; clear n0_ n1_ n2_ n3_ n4_ n5_ n6_; clear hb ho34; have hcz35_0 : w33.cell? ⟨gb618, 0, none⟩ = some (.int .i64 a0_0) := (blk_cell BK618.out 0).trans rfl; have hcz35_1 : w33.cell? ⟨gb618, 1, none⟩ = some (.int .i64 a0_1) := (blk_cell BK618.out 1).trans rfl; have hfz35_0 := blk_frozen BK618.out 0; have hfz35_1 := blk_frozen BK618.out 1) | ((with_reducible refine gate_callee (f := 61) rfl ?_); refine goesL_ (some 46) rfl rfl Try.func61 (by kernel_rfl) rfl #[.agg #[.int .i64 a0_0, .int .i64 a0_1], .string a2] rfl (by (try simp only [List.map_toArray, List.map_cons, List.map_nil]); first | done | rfl | (simp only [List.length_drop, List.length_take]; rfl)) ?_; (with_reducible refine (impl_Lock_number.calls k a0_0 a0_1 a2 t637 _ A13.out).mono ?_); rintro e w36 ⟨rfl, hb⟩; refine ⟨_, rfl, ?_⟩; have n0_ := Aside0.mk (Kd.R_below (by (with_reducible repeat (first | apply Kd.R_alloc | apply Kd.R_drewN | apply Kd.R_drew)); exact HO621.out) hb); have n1_ := Aside0.mk (Kd.R_below (by (with_reducible repeat (first | apply Kd.R_alloc | apply Kd.R_drewN | apply Kd.R_drew)); exact HO627.out) hb); have n2_ := Aside0.mk (Kd.R_below (by (with_reducible repeat (first | apply Kd.R_alloc | apply Kd.R_drewN | apply Kd.R_drew)); exact HO630.out) hb); have n3_ := Aside0.mk (Kd.R_below (by (with_reducible repeat (first | apply Kd.R_alloc | apply Kd.R_drewN | apply Kd.R_drew)); exact HO636.out) hb); have n4_ := Aside0.mk (blk_below (g := gb618) (o := .cells #[.int .i64 a0_0, .int .i64 a0_1] 30 (0, 0)) (by (with_reducible repeat (first | refine blk_drewN ?_ _ | refine blk_drew ?_ | refine blk_alloc ?_ _)); exact BK618.out) hb); have n5_ := Aside0.mk (blk_below (g := gb631) (o := .cells #[.int .i64 t623, .int .i64 t624, .slice Ao29 t625.length co29] 70 (0, 0)) (by (with_reducible repeat (first | refine blk_drewN ?_ _ | refine blk_drew ?_ | refine blk_alloc ?_ _)); exact BK631.out) hb); have n6_ := Aside0.mk (below_step (by repeat (first | (with_reducible first | exact HB.out | apply below_alloc | apply pw_below_drewN | apply below_drew1 | refine below_set ?_ GE618.out | refine below_set ?_ GE631.out) | exact HB.out)) hb); clear HO621; clear HO627; clear HO630; clear HO636; clear BK618; clear BK631; clear HB; have HO621 := n0_; have HO627 := n1_; have HO630 := n2_; have HO636 := n3_; have BK618 := n4_; have BK631 := n5_; have HB := n6_; clear n0_ n1_ n2_ n3_ n4_ n5_ n6_; (try clear hb); (try clear hb2); (try clear hk); (try clear hi); have p16 : 0 ≤ (t637 : Int) := of_decide_eq_true (by first | (with_reducible assumption) | assumption); have q16 : (t637 : Int) < ((y634.length : Int) : Int) := of_decide_eq_true (by first | (with_reducible assumption) | assumption); obtain ⟨go16, co16, eo16, gb16, gl16, cl16, HG16⟩ := Kd.R_form HO636.out (by omega); (first | cases eo16 | (injection eo16 with ea_ en_ ec_; (first | subst ea_ | (injection ea_ with ea_; subst ea_)); subst ec_; clear en_)); have GB16 := Aside0.mk gb16; have GG16 := Aside0.mk HG16; clear gb16 gl16 HG16; obtain ⟨hx16_0, hf16_0⟩ := Kd.R_celln 0 HO636.out (t637 : Int) p16 q16; replace p16 := eq_true p16; replace q16 := eq_true q16; have n_ := Aside0.mk (Kd.R_mono (ok' := (fun k_ => some k_ ≠ (.slice (some ad633) t628.length co32 : Value).ownBlock)) HO636.out (fun k_ hk => hk.2)); clear HO636; have HO636 := n_; clear n_; obtain ⟨hy37_, hz37_⟩ := Kd.R_celln 0 HO636.out (t637 : Int) (of_decide_eq_true (by first | (with_reducible assumption) | assumption)) (of_decide_eq_true (by first | (with_reducible assumption) | assumption)); have HP37 := Kd.R_putg HO636.out (t637 : Int) 1) | ((with_reducible refine gate_store (t := 3) (p := 47) rfl ?_); refine store_event (t := 3) (p := 47) (v := ?vo_w38) (w1 := (w36.setCell ⟨go16, (t637 : Int).toNat, none⟩ (.int .i64 1))) ?hg ?ho ?hn ?hr ?_; (case ho => rfl); (case hg => rfl); (case hn => rfl); (case hr => first | (go_simp; done) | (go_simp; rfl)); intro w38 hw; have hg : w36.grownBy w38 (some go16) := (by rw [hw]; exact HP37.2); have hp_ : Kd.R (Kd.int .i64) 3 w38 w.heap.size (fun k_ => some k_ ≠ (.slice (some ad633) t628.length co32 : Value).ownBlock) (.slice (some ⟨go16, 0, none⟩) y634.length co16) y638 := (by rw [hw, Ny638.out]; exact HP37.1); clear HP37; have n0_ := Aside0.mk (blk_grown (g := gb618) (o := .cells #[.int .i64 a0_0, .int .i64 a0_1] 30 (0, 0)) (by (with_reducible repeat (first | refine blk_drewN ?_ _ | refine blk_drew ?_ | refine blk_alloc ?_ _)); exact BK618.out) hg (Kd.R_ne HO636.out BK618.out (by decide))); have n1_ := Aside0.mk (Kd.R_over' (v := (.slice (some ⟨go16, 0, none⟩) y634.length co16)) (by (with_reducible repeat (first | apply Kd.R_alloc | apply Kd.R_drewN | apply Kd.R_drew)); exact HO621.out) (Kd.R_typed HO636.out) (by decide) hg); have n2_ := Aside0.mk (Kd.R_over' (v := (.slice (some ⟨go16, 0, none⟩) y634.length co16)) (by (with_reducible repeat (first | apply Kd.R_alloc | apply Kd.R_drewN | apply Kd.R_drew)); exact HO627.out) (Kd.R_typed HO636.out) (by decide) hg); have n3_ := Aside0.mk (Kd.R_after (v := (.slice (some ⟨go16, 0, none⟩) y634.length co16)) (v1 := (.slice (some ⟨go16, 0, none⟩) y634.length co16)) (ok := (fun _ => True)) (by (with_reducible repeat (first | apply Kd.R_alloc | apply Kd.R_drewN | apply Kd.R_drew)); exact HO630.out) hg (.inl rfl)); have n4_ := Aside0.mk (blk_grown (g := gb631) (o := .cells #[.int .i64 t623, .int .i64 t624, .slice Ao29 t625.length co29] 70 (0, 0)) (by (with_reducible repeat (first | refine blk_drewN ?_ _ | refine blk_drew ?_ | refine blk_alloc ?_ _)); exact BK631.out) hg (Kd.R_ne HO636.out BK631.out (by decide))); have n5_ := Aside0.mk (hp_); have n6_ := Aside0.mk ((by rw [hw]; exact below_set (HB.out) GB16.out : Below w.heap.size w w38)); clear BK618; clear HO621; clear HO627; clear HO630; clear BK631; clear HO636; clear HB; have BK618 := n0_; have HO621 := n1_; have HO627 := n2_; have HO630 := n3_; have BK631 := n4_; have HO636 := n5_; have HB := n6_; clear n0_ n1_ n2_ n3_ n4_ n5_ n6_; clear hg hw hp_))
        go_loopg [50] k (fun kq v50 w' => ∃ (x13_1 : List Int) (x50_1 : Int), v50 = .int .i64 x50_1 ∧ Aside0 (impl_CountAround.l0 kq a3 t628 x13_1 ji17 x50_1 a0_0 a0_1 t623 t624 t625 = some (r1, r2)) ∧ Aside0 (kq ≤ k) ∧ Aside0 (Kd.R (Kd.int .i64) 3 w' w.heap.size (fun k_ => some k_ ≠ ((.slice (some ⟨go16, 0, none⟩) y634.length co16) : Value).ownBlock) (.slice (some ad633) t628.length co32) t628) ∧ Aside0 (Kd.R (Kd.int .i64) 3 w' w.heap.size (fun k_ => some k_ ≠ ((.slice (some ad633) t628.length co32) : Value).ownBlock) (.slice (some ⟨go16, 0, none⟩) y634.length co16) x13_1) ∧ Aside0 (Kd.R Kd.bool 4 w' w.heap.size (fun _ => True) (.slice Ao29 t625.length co29) t625) ∧ Aside0 (w'.heap[gb618]? = some (.cells #[.int .i64 a0_0, .int .i64 a0_1] 30 (0, 0))) ∧ Aside0 (w'.heap[gb631]? = some (.cells #[.int .i64 t623, .int .i64 t624, (.slice Ao29 t625.length co29)] 70 (0, 0))) ∧ Aside0 (Below w.heap.size w w'))
        case atStart => exact ⟨(y638), (0), (by first | rfl | (simp; done) | (simp [*]; done)), H', ⟨Nat.le_refl _⟩, ⟨by (with_reducible repeat (first | apply Kd.R_alloc | apply Kd.R_drewN | apply Kd.R_drew)); exact Kd.R_mono HO630.out (fun _ hk => hk.2)⟩, ⟨HO636.out⟩, ⟨HO627.out⟩, ⟨BK618.out⟩, ⟨BK631.out⟩, ⟨HB.out⟩⟩
        case round =>
         clear H'; try clear c1
         try clear p1
         try clear q1
         try clear hx1
         try clear c2
         try clear p2
         try clear c3
         try clear c5
         try clear c6
         try clear p6
         try clear q6
         try clear hx6
         try clear c9
         try clear c9b0
         try clear c10
         try clear c10b0
         try clear c11
         try clear c11b0
         try clear c11b1
         try clear c12
         try clear c12b0
         try clear c12b1
         try clear c14
         try clear c14b0
         try clear c15
         try clear c15b0
         try clear p16
         try clear q16
         try clear hx16
         try clear hf16
         try clear c27
         try clear c33
         try clear hcz19_0
         try clear hcz19_1
         try clear hcz24_0
         try clear hcz24_1
         try clear hcz28_0
         try clear hcz28_1
         try clear hcz28_2
         try clear hcz30_0
         try clear hcz30_1
         try clear hcz35_0
         try clear hcz35_1
         try clear hfz19_0
         try clear hfz19_1
         try clear hfz24_0
         try clear hfz24_1
         try clear hfz28_0
         try clear hfz28_1
         try clear hfz28_2
         try clear hfz30_0
         try clear hfz30_1
         try clear hfz35_0
         try clear hfz35_1
         try clear hx16_0
         try clear hx633_0
         try clear p16
         try clear p633
         try clear q16
         try clear q633
         obtain ⟨x13_1, x50_1, rfl, HA, HK1, HO_11, HO_13, HO_632002, BK618, BK631, HB⟩ := hrel
         have hl13_1 := (Kd.R_reads' HO_13.out).1
         rw [hl13_1] at HO_13
         (try simp only [hl13_1])
         (try simp only [hl13_1] at BK618)
         (try simp only [hl13_1] at BK631)
         (try simp only [hl13_1] at HO_11)
         (try simp only [hl13_1] at HO_632002)
         cases gk with
         | zero => exact absurd HA.out (by simp [impl_CountAround.l0])
         | succ k1 =>
          have H := HA.out
          clear HA; simp only [impl_CountAround.l0] at H
          by_cases c39 : x50_1 < ji17
          ·rw [if_pos c39] at H
           have c39b0 : decide (x50_1 < ji17) = true := decide_eq_true c39
           clear c39; have H' := Aside0.mk H
           clear H; go_wp2
           go_loopg [55] k1 (fun kq v55 w' => ∃ (x13_2 : List Int) (x55_2 : Int), v55 = .int .i64 x55_2 ∧ Aside0 (impl_CountAround.l1 kq a3 t628 x13_2 x50_1 ji17 x50_1 t628 (t628.length : Int) x55_2 a0_0 a0_1 t623 t624 t625 = some (r1, r2)) ∧ Aside0 (kq ≤ k1) ∧ Aside0 (Kd.R (Kd.int .i64) 3 w' w.heap.size (fun k_ => some k_ ≠ ((.slice (some ⟨go16, 0, none⟩) x13_1.length co16) : Value).ownBlock) (.slice (some ad633) t628.length co32) t628) ∧ Aside0 (Kd.R (Kd.int .i64) 3 w' w.heap.size (fun k_ => some k_ ≠ ((.slice (some ad633) t628.length co32) : Value).ownBlock ∧ some k_ ≠ ((.slice (some ad633) t628.length co32) : Value).ownBlock) (.slice (some ⟨go16, 0, none⟩) x13_1.length co16) x13_2) ∧ Aside0 (Kd.R (Kd.int .i64) 3 w' w.heap.size (fun k_ => some k_ ≠ ((.slice (some ⟨go16, 0, none⟩) x13_1.length co16) : Value).ownBlock) (.slice (some ad633) t628.length co32) t628) ∧ Aside0 (Kd.R Kd.bool 4 w' w.heap.size (fun _ => True) (.slice Ao29 t625.length co29) t625) ∧ Aside0 (w'.heap[gb618]? = some (.cells #[.int .i64 a0_0, .int .i64 a0_1] 30 (0, 0))) ∧ Aside0 (w'.heap[gb631]? = some (.cells #[.int .i64 t623, .int .i64 t624, (.slice Ao29 t625.length co29)] 70 (0, 0))) ∧ Aside0 (Below w.heap.size w w'))
           case atStart => exact ⟨(x13_1), (0), (by first | rfl | (simp; done) | (simp [*]; done)), H', ⟨Nat.le_refl _⟩, ⟨by (try simp only [hl13_1]); (with_reducible repeat (first | apply Kd.R_alloc | apply Kd.R_drewN | apply Kd.R_drew)); exact HO_11.out⟩, ⟨by (try simp only [hl13_1]); (with_reducible repeat (first | apply Kd.R_alloc | apply Kd.R_drewN | apply Kd.R_drew)); exact Kd.R_mono HO_13.out (fun _ hk => ⟨hk, hk⟩)⟩, ⟨by (try simp only [hl13_1]); (with_reducible repeat (first | apply Kd.R_alloc | apply Kd.R_drewN | apply Kd.R_drew)); exact HO_11.out⟩, ⟨by (try simp only [hl13_1]); (with_reducible repeat (first | apply Kd.R_alloc | apply Kd.R_drewN | apply Kd.R_drew)); exact HO_632002.out⟩, ⟨by (try simp only [hl13_1]); (with_reducible repeat (first | refine blk_drewN ?_ _ | refine blk_drew ?_ | refine blk_alloc ?_ _)); exact BK618.out⟩, ⟨by (try simp only [hl13_1]); (with_reducible repeat (first | refine blk_drewN ?_ _ | refine blk_drew ?_ | refine blk_alloc ?_ _)); exact BK631.out⟩, ⟨HB.out⟩⟩
           case round =>
            clear H'; try clear c1
            try clear p1
            try clear q1
            try clear hx1
            try clear c2
            try clear p2
            try clear c3
            try clear c5
            try clear c6
            try clear p6
            try clear q6
            try clear hx6
            try clear c9
            try clear c9b0
            try clear c10
            try clear c10b0
            try clear c11
            try clear c11b0
            try clear c11b1
            try clear c12
            try clear c12b0
            try clear c12b1
            try clear c14
            try clear c14b0
            try clear c15
            try clear c15b0
            try clear p16
            try clear q16
            try clear hx16
            try clear hf16
            try clear c27
            try clear c33
            try clear c39
            try clear c39b0
            try clear hcz19_0
            try clear hcz19_1
            try clear hcz24_0
            try clear hcz24_1
            try clear hcz28_0
            try clear hcz28_1
            try clear hcz28_2
            try clear hcz30_0
            try clear hcz30_1
            try clear hcz35_0
            try clear hcz35_1
            try clear hfz19_0
            try clear hfz19_1
            try clear hfz24_0
            try clear hfz24_1
            try clear hfz28_0
            try clear hfz28_1
            try clear hfz28_2
            try clear hfz30_0
            try clear hfz30_1
            try clear hfz35_0
            try clear hfz35_1
            try clear hx16_0
            try clear hx633_0
            try clear p1
            try clear p16
            try clear p2
            try clear p6
            try clear p633
            try clear q1
            try clear q16
            try clear q6
            try clear q633
            obtain ⟨x13_2, x55_2, rfl, HA, HK2, HO_11, HO_13, HO_53, HO_632002, BK618, BK631, HB⟩ := hrel
            have hl13_2 := (Kd.R_reads' HO_13.out).1
            rw [hl13_2] at HO_13
            (try simp only [hl13_2])
            (try simp only [hl13_2] at BK618)
            (try simp only [hl13_2] at BK631)
            (try simp only [hl13_2] at HO_11)
            (try simp only [hl13_2] at HO_53)
            (try simp only [hl13_2] at HO_632002)
            cases gk with
            | zero => exact absurd HA.out (by simp [impl_CountAround.l1])
            | succ k2 =>
             have H := HA.out
             clear HA; simp only [impl_CountAround.l1] at H
             by_cases c40 : x55_2 < (t628.length : Int)
             ·rw [if_pos c40] at H
              have c40b0 : decide (x55_2 < (t628.length : Int)) = true := decide_eq_true c40
              clear c40; by_cases c41 : 0 ≤ x55_2
              ·rw [if_pos c41] at H
               have c41b0 : decide (0 ≤ x55_2) = true := decide_eq_true c41
               clear c41; by_cases c42 : x55_2 < (t628.length : Int)
               ·rw [if_pos c42] at H
                have c42b0 : decide (x55_2 < (t628.length : Int)) = true := decide_eq_true c42
                clear c42; by_cases c43 : (rd t628 x55_2) = x50_1
                ·rw [if_pos c43] at H
                 have c43b0 : ((rd t628 x55_2) == x50_1) = true := beq_iff_eq.mpr c43
                 have c43b1 : ((rd t628 x55_2) != x50_1) = false := bne_eq_false_iff_eq.mpr c43
                 clear c43; replace H := Option.bind_eq_some_iff.mp H
                 obtain ⟨t642, A440, H⟩ := H
                 replace H : (impl_CountAround.l2 k2 a3 t628 x13_2 x50_1 x55_2 ji17 x50_1 t628 (t628.length : Int) x55_2 t642 (t642.length : Int) 0 a0_0 a0_1 t623 t624 t625) = some (r1, r2) := H
                 have A44 := Aside0.mk A440
                 clear A440; have H' := Aside0.mk H
                 clear H; have p641 : 0 ≤ (x55_2 : Int) := of_decide_eq_true (by first | (with_reducible assumption) | assumption)
                 have q641 : x55_2 < (t628.length : Int) := of_decide_eq_true (by first | (with_reducible assumption) | assumption)
                 obtain ⟨ad641, e641, hx641_0⟩ := Kd.at_int (Kd.R_reads' HO_53.out).2.2 x55_2 p641 q641
                 obtain rfl : ad633 = ad641 := (by injection e641)
                 replace p641 := eq_true p641
                 replace q641 := eq_true q641
                 have hnb45 := NB631_618.out
                 have hnc45 := NB618_631.out
                 have hcz46_0 : wr.cell? ⟨gb631, 0, none⟩ = some (.int .i64 t623) := (blk_cell BK631.out 0).trans rfl
                 have hcz46_1 : wr.cell? ⟨gb631, 1, none⟩ = some (.int .i64 t624) := (blk_cell BK631.out 1).trans rfl
                 have hcz46_2 : wr.cell? ⟨gb631, 2, none⟩ = some (.slice Ao29 t625.length co29) := (blk_cell BK631.out 2).trans rfl
                 have hfz46_0 := blk_frozen BK631.out 0
                 have hfz46_1 := blk_frozen BK631.out 1
                 have hfz46_2 := blk_frozen BK631.out 2
                 go_wp2_with (first | ((with_reducible refine gate_callee (f := 72) rfl ?_); refine goesL_ (some 65) rfl rfl Try.func72 (by kernel_rfl) rfl #[.agg #[.int .i64 t623, .int .i64 t624, .slice Ao29 t625.length co29], .int .i64 x55_2] rfl (by (try simp only [List.map_toArray, List.map_cons, List.map_nil]); first | done | rfl | (simp only [List.length_drop, List.length_take]; rfl)) ?_; (with_reducible refine (impl_field_steps.calls k2 t623 t624 _ _ t625 x55_2 t642 _ ?side1 ?side2 A44.out).mono ?_); (case side1 => repeat (first | exact (Kd.R_reads' HO_632002.out).2.2 | (with_reducible refine Kd.C_alloc ?_ _) | (with_reducible refine Kd.C_drewN ?_ _) | (with_reducible refine Kd.C_drew ?_))); (case side2 => exact (Kd.R_reads' HO_632002.out).2.1); rintro e w47 ⟨v643, rfl, ho0, hb⟩; refine ⟨_, rfl, ?_⟩; have n0_ := Aside0.mk (Kd.R_elder' HO_11.out (Kd.R_base ho0) hb); have n1_ := Aside0.mk (Kd.R_elder' HO_13.out (Kd.R_base ho0) hb); have n2_ := Aside0.mk (Kd.R_elder' HO_53.out (Kd.R_base ho0) hb); have n3_ := Aside0.mk (Kd.R_below HO_632002.out hb); have n4_ := Aside0.mk (Kd.R_lower (Kd.R_new' (Kd.R_new' (Kd.R_new' ho0 (Kd.R_lt HO_11.out)) (Kd.R_lt HO_13.out)) (Kd.R_lt HO_53.out)) (below_size HB.out)); have n5_ := Aside0.mk (blk_below (g := gb618) (o := .cells #[.int .i64 a0_0, .int .i64 a0_1] 30 (0, 0)) BK618.out hb); have n6_ := Aside0.mk (blk_below (g := gb631) (o := .cells #[.int .i64 t623, .int .i64 t624, .slice Ao29 t625.length co29] 70 (0, 0)) BK631.out hb); have n7_ := Aside0.mk (below_step HB.out hb); clear HO_11; clear HO_13; clear HO_53; clear HO_632002; clear BK618; clear BK631; clear HB; have HO_11 := n0_; have HO_13 := n1_; have HO_53 := n2_; have HO_632002 := n3_; have HO644 := n4_; have BK618 := n5_; have BK631 := n6_; have HB := n7_; clear n0_ n1_ n2_ n3_ n4_ n5_ n6_ n7_; (try clear hb); (try clear hb2); (try clear hk); (try clear hi); (try clear ho0); obtain ⟨Ao48, co48, eo48⟩ := Kd.R_slice HO644.out; subst eo48))
                 go_loopg [67] k2 (fun kq v67 w' => ∃ (x13_3 : List Int) (x67_3 : Int), v67 = .int .i64 x67_3 ∧ Aside0 (impl_CountAround.l2 kq a3 t628 x13_3 x50_1 x55_2 ji17 x50_1 t628 (t628.length : Int) x55_2 t642 (t642.length : Int) x67_3 a0_0 a0_1 t623 t624 t625 = some (r1, r2)) ∧ Aside0 (kq ≤ k2) ∧ Aside0 (Kd.R (Kd.int .i64) 3 w' w.heap.size (fun k_ => some k_ ≠ ((.slice (some ⟨go16, 0, none⟩) x13_2.length co16) : Value).ownBlock ∧ some k_ ≠ ((.slice Ao48 t642.length co48) : Value).ownBlock) (.slice (some ad633) t628.length co32) t628) ∧ Aside0 (Kd.R (Kd.int .i64) 3 w' w.heap.size (fun k_ => some k_ ≠ ((.slice (some ad633) t628.length co32) : Value).ownBlock ∧ some k_ ≠ ((.slice (some ad633) t628.length co32) : Value).ownBlock ∧ some k_ ≠ ((.slice Ao48 t642.length co48) : Value).ownBlock) (.slice (some ⟨go16, 0, none⟩) x13_2.length co16) x13_3) ∧ Aside0 (Kd.R (Kd.int .i64) 3 w' w.heap.size (fun k_ => some k_ ≠ ((.slice (some ⟨go16, 0, none⟩) x13_2.length co16) : Value).ownBlock ∧ some k_ ≠ ((.slice Ao48 t642.length co48) : Value).ownBlock) (.slice (some ad633) t628.length co32) t628) ∧ Aside0 (Kd.R (Kd.int .i64) 3 w' w.heap.size (fun k_ => some k_ ≠ ((.slice (some ad633) t628.length co32) : Value).ownBlock ∧ some k_ ≠ ((.slice (some ⟨go16, 0, none⟩) x13_2.length co16) : Value).ownBlock ∧ some k_ ≠ ((.slice (some ad633) t628.length co32) : Value).ownBlock) (.slice Ao48 t642.length co48) t642) ∧ Aside0 (Kd.R Kd.bool 4 w' w.heap.size (fun _ => True) (.slice Ao29 t625.length co29) t625) ∧ Aside0 (w'.heap[gb618]? = some (.cells #[.int .i64 a0_0, .int .i64 a0_1] 30 (0, 0))) ∧ Aside0 (w'.heap[gb631]? = some (.cells #[.int .i64 t623, .int .i64 t624, (.slice Ao29 t625.length co29)] 70 (0, 0))) ∧ Aside0 (Below w.heap.size w w'))
                 case atStart => exact ⟨(x13_2), (0), (by first | rfl | (simp; done) | (simp [*]; done)), H', ⟨Nat.le_refl _⟩, ⟨by (try simp only [hl13_1, hl13_2]); (with_reducible repeat (first | apply Kd.R_alloc | apply Kd.R_drewN | apply Kd.R_drew)); exact HO_11.out⟩, ⟨by (try simp only [hl13_1, hl13_2]); (with_reducible repeat (first | apply Kd.R_alloc | apply Kd.R_drewN | apply Kd.R_drew)); exact Kd.R_mono HO_13.out (fun _ hk => ⟨hk.1.1, ⟨hk.1.2, hk.2⟩⟩)⟩, ⟨by (try simp only [hl13_1, hl13_2]); (with_reducible repeat (first | apply Kd.R_alloc | apply Kd.R_drewN | apply Kd.R_drew)); exact HO_53.out⟩, ⟨by (try simp only [hl13_1, hl13_2]); (with_reducible repeat (first | apply Kd.R_alloc | apply Kd.R_drewN | apply Kd.R_drew)); exact Kd.R_mono HO644.out (fun _ hk => ⟨hk.1.1.2, ⟨hk.1.2, hk.2⟩⟩)⟩, ⟨by (try simp only [hl13_1, hl13_2]); (with_reducible repeat (first | apply Kd.R_alloc | apply Kd.R_drewN | apply Kd.R_drew)); exact HO_632002.out⟩, ⟨by (try simp only [hl13_1, hl13_2]); (with_reducible repeat (first | refine blk_drewN ?_ _ | refine blk_drew ?_ | refine blk_alloc ?_ _)); exact BK618.out⟩, ⟨by (try simp only [hl13_1, hl13_2]); (with_reducible repeat (first | refine blk_drewN ?_ _ | refine blk_drew ?_ | refine blk_alloc ?_ _)); exact BK631.out⟩, ⟨HB.out⟩⟩
                 case round =>
                  clear H'; try clear c1
                  try clear p1
                  try clear q1
                  try clear hx1
                  try clear c2
                  try clear p2
                  try clear c3
                  try clear c4
                  try clear c5
                  try clear c6
                  try clear p6
                  try clear q6
                  try clear hx6
                  try clear c7
                  try clear c9
                  try clear c9b0
                  try clear c10
                  try clear c10b0
                  try clear c11
                  try clear c11b0
                  try clear c11b1
                  try clear c12
                  try clear c12b0
                  try clear c12b1
                  try clear c14
                  try clear c14b0
                  try clear c15
                  try clear c15b0
                  try clear p16
                  try clear q16
                  try clear hx16
                  try clear hf16
                  try clear c27
                  try clear c33
                  try clear c39
                  try clear c39b0
                  try clear c40
                  try clear c40b0
                  try clear c41
                  try clear c41b0
                  try clear c42
                  try clear c42b0
                  try clear c43
                  try clear c43b0
                  try clear c43b1
                  try clear c45
                  try clear hcz19_0
                  try clear hcz19_1
                  try clear hcz24_0
                  try clear hcz24_1
                  try clear hcz28_0
                  try clear hcz28_1
                  try clear hcz28_2
                  try clear hcz30_0
                  try clear hcz30_1
                  try clear hcz35_0
                  try clear hcz35_1
                  try clear hcz46_0
                  try clear hcz46_1
                  try clear hcz46_2
                  try clear hfz19_0
                  try clear hfz19_1
                  try clear hfz24_0
                  try clear hfz24_1
                  try clear hfz28_0
                  try clear hfz28_1
                  try clear hfz28_2
                  try clear hfz30_0
                  try clear hfz30_1
                  try clear hfz35_0
                  try clear hfz35_1
                  try clear hfz46_0
                  try clear hfz46_1
                  try clear hfz46_2
                  try clear hx16_0
                  try clear hx633_0
                  try clear hx641_0
                  try clear p1
                  try clear p16
                  try clear p2
                  try clear p6
                  try clear p633
                  try clear p641
                  try clear q1
                  try clear q16
                  try clear q6
                  try clear q633
                  try clear q641
                  obtain ⟨x13_3, x67_3, rfl, HA, HK3, HO_11, HO_13, HO_53, HO_65, HO_632002, BK618, BK631, HB⟩ := hrel
                  have hl13_3 := (Kd.R_reads' HO_13.out).1
                  rw [hl13_3] at HO_13
                  (try simp only [hl13_3])
                  (try simp only [hl13_3] at BK618)
                  (try simp only [hl13_3] at BK631)
                  (try simp only [hl13_3] at HO_11)
                  (try simp only [hl13_3] at HO_53)
                  (try simp only [hl13_3] at HO_65)
                  (try simp only [hl13_3] at HO_632002)
                  cases gk with
                  | zero => exact absurd HA.out (by simp [impl_CountAround.l2])
                  | succ k3 =>
                   have H := HA.out
                   clear HA; simp only [impl_CountAround.l2] at H
                   by_cases c49 : x67_3 < (t642.length : Int)
                   ·rw [if_pos c49] at H
                    have c49b0 : decide (x67_3 < (t642.length : Int)) = true := decide_eq_true c49
                    clear c49; by_cases c50 : 0 ≤ x67_3
                    ·rw [if_pos c50] at H
                     have c50b0 : decide (0 ≤ x67_3) = true := decide_eq_true c50
                     clear c50; by_cases c51 : x67_3 < (t642.length : Int)
                     ·rw [if_pos c51] at H
                      have c51b0 : decide (x67_3 < (t642.length : Int)) = true := decide_eq_true c51
                      clear c51; by_cases c52 : 0 ≤ (rd t642 x67_3)
                      ·rw [if_pos c52] at H
                       have c52b0 : decide (0 ≤ (rd t642 x67_3)) = true := decide_eq_true c52
                       clear c52; by_cases c53 : (rd t642 x67_3) < (t628.length : Int)
                       ·rw [if_pos c53] at H
                        have c53b0 : decide ((rd t642 x67_3) < (t628.length : Int)) = true := decide_eq_true c53
                        clear c53; by_cases c54 : (rd t628 (rd t642 x67_3)) = (wrap64 (x50_1 + 1))
                        ·rw [if_pos c54] at H
                         have c54b0 : ((rd t628 (rd t642 x67_3)) == (wrap64 (x50_1 + 1))) = true := beq_iff_eq.mpr c54
                         (try (have c54b0v : ((rd t628 (rd t642 x67_3)) == (IntKind.i64.wrap (x50_1 + 1))) = true := by first | exact c54b0 | simpa only [i64_w] using c54b0))
                         have c54b1 : ((rd t628 (rd t642 x67_3)) != (wrap64 (x50_1 + 1))) = false := bne_eq_false_iff_eq.mpr c54
                         (try (have c54b1v : ((rd t628 (rd t642 x67_3)) != (IntKind.i64.wrap (x50_1 + 1))) = false := by first | exact c54b1 | simpa only [i64_w] using c54b1))
                         clear c54; by_cases c55 : (rd t642 x67_3) < (x13_3.length : Int)
                         ·rw [if_pos c55] at H
                          have c55b0 : decide ((rd t642 x67_3) < (x13_3.length : Int)) = true := decide_eq_true c55
                          clear c55; by_cases c56 : 0 ≤ x55_2
                          ·rw [if_pos c56] at H
                           have c56b0 : decide (0 ≤ x55_2) = true := decide_eq_true c56
                           clear c56; by_cases c57 : x55_2 < (x13_3.length : Int)
                           ·rw [if_pos c57] at H
                            have c57b0 : decide (x55_2 < (x13_3.length : Int)) = true := decide_eq_true c57
                            clear c57; obtain ⟨ji58, hji58⟩ : ∃ j_ : Int, (mn (wrap64 ((rd x13_3 (rd t642 x67_3)) + (rd x13_3 x55_2))) 1000000000000001) = j_ := ⟨_, rfl⟩
                            replace H : (impl_CountAround.l2 k3 a3 t628 (x13_3.set ((rd t642 x67_3) : Int).toNat (ji58)) x50_1 x55_2 ji17 x50_1 t628 (t628.length : Int) x55_2 t642 (t642.length : Int) (wrap64 (x67_3 + 1)) a0_0 a0_1 t623 t624 t625) = some (r1, r2) := by first | (rw [hji58] at H; exact H) | (simp only [hji58] at H ⊢; exact H)
                            have hji58_ : (if 1000000000000001 < (wrap64 ((rd x13_3 (rd t642 x67_3)) + (rd x13_3 x55_2))) then 1000000000000001 else (wrap64 ((rd x13_3 (rd t642 x67_3)) + (rd x13_3 x55_2)))) = ji58 := hji58
                            obtain ⟨y649, hy649⟩ : ∃ y_ : List Int, y_ = (x13_3.set ((rd t642 x67_3) : Int).toNat (ji58)) := ⟨_, rfl⟩
                            replace H : (impl_CountAround.l2 k3 a3 t628 y649 x50_1 x55_2 ji17 x50_1 t628 (t628.length : Int) x55_2 t642 (t642.length : Int) (wrap64 (x67_3 + 1)) a0_0 a0_1 t623 t624 t625) = some (r1, r2) := by first | (rw [hy649]; with_reducible exact H) | (have H2_ := (Option.bind_some _ _).symm.trans H; rw [hy649]; with_reducible exact H2_) | (have H2_ := (Option.bind_some _ _).symm.trans H; with_reducible exact H2_) | with_reducible exact H | (rw [hy649]; exact H) | exact H
                            have Ny649 := Aside0.mk hy649
                            clear hy649; have H' := Aside0.mk H
                            clear H; have p645 : 0 ≤ (x67_3 : Int) := of_decide_eq_true (by first | (with_reducible assumption) | assumption)
                            have q645 : x67_3 < (t642.length : Int) := of_decide_eq_true (by first | (with_reducible assumption) | assumption)
                            obtain ⟨ad645, e645, hx645_0⟩ := Kd.at_int (Kd.R_reads' HO_65.out).2.2 x67_3 p645 q645
                            cases e645
                            replace p645 := eq_true p645
                            replace q645 := eq_true q645
                            have p646 : 0 ≤ ((rd t642 x67_3) : Int) := of_decide_eq_true (by first | (with_reducible assumption) | assumption)
                            have q646 : (rd t642 x67_3) < (t628.length : Int) := of_decide_eq_true (by first | (with_reducible assumption) | assumption)
                            obtain ⟨ad646, e646, hx646_0⟩ := Kd.at_int (Kd.R_reads' HO_11.out).2.2 (rd t642 x67_3) p646 q646
                            obtain rfl : ad633 = ad646 := (by injection e646)
                            replace p646 := eq_true p646
                            replace q646 := eq_true q646
                            try go_wp2
                            have n0_ := Aside0.mk (Kd.R_drew HO_11.out)
                            have n1_ := Aside0.mk (Kd.R_drew HO_13.out)
                            have n2_ := Aside0.mk (Kd.R_drew HO_53.out)
                            have n3_ := Aside0.mk (Kd.R_drew HO_65.out)
                            have n4_ := Aside0.mk (Kd.R_drew HO_632002.out)
                            have n5_ := Aside0.mk (blk_drew BK618.out)
                            have n6_ := Aside0.mk (blk_drew BK631.out)
                            have n7_ := Aside0.mk (below_drew1 HB.out)
                            clear HO_11; clear HO_13; clear HO_53; clear HO_65; clear HO_632002; clear BK618; clear BK631; clear HB; have HO_11 := n0_; have HO_13 := n1_; have HO_53 := n2_; have HO_65 := n3_; have HO_632002 := n4_; have BK618 := n5_; have BK631 := n6_; have HB := n7_; clear n0_ n1_ n2_ n3_ n4_ n5_ n6_ n7_; have p647 : 0 ≤ ((rd t642 x67_3) : Int) := of_decide_eq_true (by first | (with_reducible assumption) | assumption)
                            have q647 : (rd t642 x67_3) < (x13_3.length : Int) := of_decide_eq_true (by first | (with_reducible assumption) | assumption)
                            obtain ⟨ad647, e647, hx647_0⟩ := Kd.at_int (Kd.R_reads' HO_13.out).2.2 (rd t642 x67_3) p647 q647
                            obtain rfl : (⟨go16, 0, none⟩ : Addr) = ad647 := (by injection e647)
                            (first | simp only [add_plain] at hx647_0 | simp only [add_at] at hx647_0 | simp only [Addr.add, Nat.zero_add] at hx647_0 | skip)
                            replace p647 := eq_true p647
                            replace q647 := eq_true q647
                            have p648 : 0 ≤ (x55_2 : Int) := of_decide_eq_true (by first | (with_reducible assumption) | assumption)
                            have q648 : x55_2 < (x13_3.length : Int) := of_decide_eq_true (by first | (with_reducible assumption) | assumption)
                            obtain ⟨ad648, e648, hx648_0⟩ := Kd.at_int (Kd.R_reads' HO_13.out).2.2 x55_2 p648 q648
                            obtain rfl : (⟨go16, 0, none⟩ : Addr) = ad648 := (by injection e648)
                            (first | simp only [add_plain] at hx648_0 | simp only [add_at] at hx648_0 | simp only [Addr.add, Nat.zero_add] at hx648_0 | skip)
                            replace p648 := eq_true p648
                            replace q648 := eq_true q648
                            have p59 : 0 ≤ ((rd t642 x67_3) : Int) := of_decide_eq_true (by first | (with_reducible assumption) | assumption)
                            have q59 : ((rd t642 x67_3) : Int) < ((x13_3.length : Int) : Int) := of_decide_eq_true (by first | (with_reducible assumption) | assumption)
                            obtain ⟨hx59_0, hf59_0⟩ := Kd.R_celln 0 HO_13.out ((rd t642 x67_3) : Int) p59 q59
                            replace p59 := eq_true p59
                            replace q59 := eq_true q59
                            have HP61 := Kd.R_putn HO_13.out ((rd t642 x67_3) : Int) ji58
                            rw [← Ny649.out] at HP61
                            have HQ61 := Aside0.mk HP61
                            clear HP61; refine start_ (n := 14) (S := fun w' => w'.cell? ⟨go16, ((rd t642 x67_3)).toNat, none⟩ = some (.int .i64 (rd x13_3 (rd t642 x67_3))) ∧ w'.cell? ⟨go16, (x55_2).toNat, none⟩ = some (.int .i64 (rd x13_3 x55_2))) (ds := [13]) #[false, false, false, false, false, false, false, false, false, false, false, false, false, false] (by kernel_rfl) rfl rfl ⟨hx647_0, hx648_0⟩ (fun hHeld => ?_); refine with_tabW impl_CountAround.tab18 impl_CountAround.bits18 (fun HT_ HW_ => ?_)
                            generalize wr.drew = w60 at HO_11 HO_13 HO_53 HO_65 HO_632002 BK618 BK631 HB HQ61 hf59_0 hx59_0 hx647_0 hx648_0 hHeld ⊢
                            refine pure_ (i := 0) (N := some 78) (v := ?_) (a' := ?_) #[true, false, false, false, false, false, false, false, false, false, false, false, false, false] rfl rfl (any_of HT_.out (by kernel_rfl)) (fun _ _ _ h => h) (Or.inl ⟨by rfl, ?_⟩) ?_ ?_
                            rotate_left; intro w'; go_simp; with_reducible rfl
                            rotate_left; simp only [Act.put, List.setIfInBounds_toArray, List.set_cons_zero, List.set_cons_succ, i64_w, i32_w]; rfl
                            refine pure_ (i := 1) (N := some 79) (v := ?_) (a' := ?_) #[true, true, false, false, false, false, false, false, false, false, false, false, false, false] rfl rfl (any_of HT_.out (by kernel_rfl)) (fun _ _ _ h => h) (Or.inl ⟨by rfl, ?_⟩) ?_ ?_
                            rotate_left; intro w'; go_simp; with_reducible rfl
                            rotate_left; simp only [Act.put, List.setIfInBounds_toArray, List.set_cons_zero, List.set_cons_succ, i64_w, i32_w]; rfl
                            refine pure_ (i := 2) (N := some 80) (v := ?_) (a' := ?_) #[true, true, true, false, false, false, false, false, false, false, false, false, false, false] rfl rfl (any_of HT_.out (by kernel_rfl)) (fun _ _ _ h => h) (Or.inl ⟨by rfl, ?_⟩) ?_ ?_
                            rotate_left; intro w'; go_simp; with_reducible rfl
                            rotate_left; simp only [Act.put, List.setIfInBounds_toArray, List.set_cons_zero, List.set_cons_succ, i64_w, i32_w]; rfl
                            refine pure_ (i := 3) (N := some 81) (v := ?_) (a' := ?_) #[true, true, true, true, false, false, false, false, false, false, false, false, false, false] rfl rfl (any_of HT_.out (by kernel_rfl)) (fun _ _ _ h => h) (Or.inl ⟨by rfl, ?_⟩) ?_ ?_
                            rotate_left; intro w'; go_simp; with_reducible rfl
                            rotate_left; simp only [Act.put, List.setIfInBounds_toArray, List.set_cons_zero, List.set_cons_succ, i64_w, i32_w]; rfl
                            refine pure_ (i := 4) (N := some 82) (v := ?_) (a' := ?_) #[true, true, true, true, true, false, false, false, false, false, false, false, false, false] rfl rfl (any_of HT_.out (by kernel_rfl)) (fun _ _ _ h => h) (Or.inl ⟨by rfl, ?_⟩) ?_ ?_
                            rotate_left; intro w'; go_simp; with_reducible rfl
                            rotate_left; simp only [Act.put, List.setIfInBounds_toArray, List.set_cons_zero, List.set_cons_succ, i64_w, i32_w]; rfl
                            refine pure_ (i := 6) (N := some 84) (v := ?_) (a' := ?_) #[true, true, true, true, true, false, true, false, false, false, false, false, false, false] rfl rfl (any_of HT_.out (by kernel_rfl)) (fun _ _ _ h => h) (Or.inl ⟨by rfl, ?_⟩) ?_ ?_
                            rotate_left; intro w'; go_simp; with_reducible rfl
                            rotate_left; simp only [Act.put, List.setIfInBounds_toArray, List.set_cons_zero, List.set_cons_succ, i64_w, i32_w]; rfl
                            refine pure_ (i := 7) (N := some 85) (v := ?_) (a' := ?_) #[true, true, true, true, true, false, true, true, false, false, false, false, false, false] rfl rfl (any_of HT_.out (by kernel_rfl)) (fun _ _ _ h => h) (Or.inl ⟨by rfl, ?_⟩) ?_ ?_
                            rotate_left; intro w'; go_simp; with_reducible rfl
                            rotate_left; simp only [Act.put, List.setIfInBounds_toArray, List.set_cons_zero, List.set_cons_succ, i64_w, i32_w]; rfl
                            refine pure_ (i := 8) (N := some 86) (v := ?_) (a' := ?_) #[true, true, true, true, true, false, true, true, true, false, false, false, false, false] rfl rfl (any_of HT_.out (by kernel_rfl)) (fun _ _ _ h => h) (Or.inl ⟨by rfl, ?_⟩) ?_ ?_
                            rotate_left; intro w'; go_simp; with_reducible rfl
                            rotate_left; simp only [Act.put, List.setIfInBounds_toArray, List.set_cons_zero, List.set_cons_succ, i64_w, i32_w]; rfl
                            refine take_ (i := 5) (N := some 83) (v := ?_) (a' := ?_) #[true, true, true, true, true, true, true, true, true, false, false, false, false, false] rfl rfl (take_ofW HT_.out HW_.out (by kernel_rfl)) (fun _ _ _ h => h) (Or.inl ⟨by rfl, ?_⟩) hHeld ?_ ?_
                            rotate_left; rintro w' ⟨s0, s1⟩; go_simp; with_reducible rfl
                            rotate_left; simp only [Act.put, List.setIfInBounds_toArray, List.set_cons_zero, List.set_cons_succ, i64_w, i32_w]; rfl
                            refine take_ (i := 9) (N := some 87) (v := ?_) (a' := ?_) #[true, true, true, true, true, true, true, true, true, true, false, false, false, false] rfl rfl (take_ofW HT_.out HW_.out (by kernel_rfl)) (fun _ _ _ h => h) (Or.inl ⟨by rfl, ?_⟩) hHeld ?_ ?_
                            rotate_left; rintro w' ⟨s0, s1⟩; go_simp; with_reducible rfl
                            rotate_left; simp only [Act.put, List.setIfInBounds_toArray, List.set_cons_zero, List.set_cons_succ, i64_w, i32_w]; rfl
                            refine pure_ (i := 10) (N := some 88) (v := ?_) (a' := ?_) #[true, true, true, true, true, true, true, true, true, true, true, false, false, false] rfl rfl (any_of HT_.out (by kernel_rfl)) (fun _ _ _ h => h) (Or.inl ⟨by rfl, ?_⟩) ?_ ?_
                            rotate_left; intro w'; go_simp; with_reducible rfl
                            rotate_left; simp only [Act.put, List.setIfInBounds_toArray, List.set_cons_zero, List.set_cons_succ, i64_w, i32_w]; rfl
                            refine pure_ (i := 11) (N := some 89) (v := ?_) (a' := ?_) #[true, true, true, true, true, true, true, true, true, true, true, true, false, false] rfl rfl (any_of HT_.out (by kernel_rfl)) (fun _ _ _ h => h) (Or.inl ⟨by rfl, ?_⟩) ?_ ?_
                            rotate_left; intro w'; go_simp; with_reducible rfl
                            rotate_left; simp only [Act.put, List.setIfInBounds_toArray, List.set_cons_zero, List.set_cons_succ, i64_w, i32_w]; rfl
                            refine pure_ (i := 12) (N := some 90) (v := ?_) (a' := ?_) #[true, true, true, true, true, true, true, true, true, true, true, true, true, false] rfl rfl (any_of HT_.out (by kernel_rfl)) (fun _ _ _ h => h) (Or.inl ⟨by rfl, ?_⟩) ?_ ?_
                            rotate_left; intro w'; go_simp; with_reducible rfl
                            rotate_left; simp only [Act.put, List.setIfInBounds_toArray, List.set_cons_zero, List.set_cons_succ, i64_w, i32_w]; rfl
                            refine last_ (i := 13) (N := none) #[true, true, true, true, true, true, true, true, true, true, true, true, true, true] rfl rfl (one_of HT_.out (by kernel_rfl)) (by decide) (fun K hK => ?_)
                            refine skip_ (w1 := ?_) (by rfl) rfl ?_ ?_
                            rotate_left
                            ·go_simp
                             rfl
                            refine hK.out _ _ ?_
                            clear hK K; refine done_ (done_of HT_.out (by kernel_rfl)) ?_
                            try go_wp2
                            (try simp only [← hl13_3])
                            go_roundg k3
                            case measure => have := HK1.out; have := HK2.out; have := HK3.out; omega
                            case rel => exact ⟨(y649), (wrap64 (x67_3 + 1)), (by first | rfl | (simp; done) | (simp [*]; done)), H', ⟨by have := HK1.out; have := HK2.out; have := HK3.out; omega⟩, ⟨by (try simp only [hl13_1]); (try simp only [hl13_2]); (try simp only [hl13_3]); (with_reducible repeat (first | apply Kd.R_alloc | apply Kd.R_drewN | apply Kd.R_drew)); exact Kd.R_mono (Kd.R_far (p := ⟨go16, ((rd t642 x67_3) : Int).toNat, none⟩) (Kd.R_mono HO_11.out (fun k_ hk => (⟨hk, fun e_ => hk.1 (by rw [e_]; rfl)⟩ : _ ∧ k_ ≠ go16))) (fun _ hk => hk.2) (.int .i64 ji58)) (fun _ hk => ⟨hk.1.1, hk.1.2⟩)⟩, ⟨by (try simp only [hl13_1]); (try simp only [hl13_2]); (try simp only [hl13_3]); (with_reducible repeat (first | apply Kd.R_alloc | apply Kd.R_drewN | apply Kd.R_drew)); exact HQ61.out⟩, ⟨by (try simp only [hl13_1]); (try simp only [hl13_2]); (try simp only [hl13_3]); (with_reducible repeat (first | apply Kd.R_alloc | apply Kd.R_drewN | apply Kd.R_drew)); exact Kd.R_mono (Kd.R_far (p := ⟨go16, ((rd t642 x67_3) : Int).toNat, none⟩) (Kd.R_mono HO_53.out (fun k_ hk => (⟨hk, fun e_ => hk.1 (by rw [e_]; rfl)⟩ : _ ∧ k_ ≠ go16))) (fun _ hk => hk.2) (.int .i64 ji58)) (fun _ hk => ⟨hk.1.1, hk.1.2⟩)⟩, ⟨by (try simp only [hl13_1]); (try simp only [hl13_2]); (try simp only [hl13_3]); (with_reducible repeat (first | apply Kd.R_alloc | apply Kd.R_drewN | apply Kd.R_drew)); exact Kd.R_mono (Kd.R_far (p := ⟨go16, ((rd t642 x67_3) : Int).toNat, none⟩) (Kd.R_mono HO_65.out (fun k_ hk => (⟨hk, fun e_ => hk.2.1 (by rw [e_]; rfl)⟩ : _ ∧ k_ ≠ go16))) (fun _ hk => hk.2) (.int .i64 ji58)) (fun _ hk => ⟨hk.1.1, ⟨hk.1.2.1, hk.1.2.2⟩⟩)⟩, ⟨by (try simp only [hl13_1]); (try simp only [hl13_2]); (try simp only [hl13_3]); (with_reducible repeat (first | apply Kd.R_alloc | apply Kd.R_drewN | apply Kd.R_drew)); exact Kd.R_mono (Kd.R_far (p := ⟨go16, ((rd t642 x67_3) : Int).toNat, none⟩) (R_types2b_ HO_632002.out HO_13.out rfl (by decide)) (fun _ hk => hk.2) (.int .i64 ji58)) (fun _ hk => trivial)⟩, ⟨by (try simp only [hl13_1]); (try simp only [hl13_2]); (try simp only [hl13_3]); (with_reducible repeat (first | refine blk_drewN ?_ _ | refine blk_drew ?_ | refine blk_alloc ?_ _)); refine blk_far ?_ (by have h_ := Kd.R_ne HO_13.out BK618.out (by decide); intro e_; exact h_ (by rw [e_]; rfl)) _; (with_reducible repeat (first | refine blk_drewN ?_ _ | refine blk_drew ?_ | refine blk_alloc ?_ _)); exact BK618.out⟩, ⟨by (try simp only [hl13_1]); (try simp only [hl13_2]); (try simp only [hl13_3]); (with_reducible repeat (first | refine blk_drewN ?_ _ | refine blk_drew ?_ | refine blk_alloc ?_ _)); refine blk_far ?_ (by have h_ := Kd.R_ne HO_13.out BK631.out (by decide); intro e_; exact h_ (by rw [e_]; rfl)) _; (with_reducible repeat (first | refine blk_drewN ?_ _ | refine blk_drew ?_ | refine blk_alloc ?_ _)); exact BK631.out⟩, ⟨by repeat (first | (with_reducible first | exact HB.out | apply below_alloc | apply pw_below_drewN | apply below_drew1 | refine below_set ?_ GB16.out | refine below_set ?_ GE618.out | refine below_set ?_ GE631.out) | exact HB.out)⟩⟩
                           ·rw [if_neg c57] at H
                            exact absurd H (by simp)
                          ·rw [if_neg c56] at H
                           exact absurd H (by simp)
                         ·rw [if_neg c55] at H
                          exact absurd H (by simp)
                        ·rw [if_neg c54] at H
                         have c54b0 : ((rd t628 (rd t642 x67_3)) == (wrap64 (x50_1 + 1))) = false := beq_eq_false_iff_ne.mpr c54
                         (try (have c54b0v : ((rd t628 (rd t642 x67_3)) == (IntKind.i64.wrap (x50_1 + 1))) = false := by first | exact c54b0 | simpa only [i64_w] using c54b0))
                         have c54b1 : ((rd t628 (rd t642 x67_3)) != (wrap64 (x50_1 + 1))) = true := bne_iff_ne.mpr c54
                         (try (have c54b1v : ((rd t628 (rd t642 x67_3)) != (IntKind.i64.wrap (x50_1 + 1))) = true := by first | exact c54b1 | simpa only [i64_w] using c54b1))
                         have H' := Aside0.mk H
                         clear H; have p645 : 0 ≤ (x67_3 : Int) := of_decide_eq_true (by first | (with_reducible assumption) | assumption)
                         have q645 : x67_3 < (t642.length : Int) := of_decide_eq_true (by first | (with_reducible assumption) | assumption)
                         obtain ⟨ad645, e645, hx645_0⟩ := Kd.at_int (Kd.R_reads' HO_65.out).2.2 x67_3 p645 q645
                         cases e645
                         replace p645 := eq_true p645
                         replace q645 := eq_true q645
                         have p646 : 0 ≤ ((rd t642 x67_3) : Int) := of_decide_eq_true (by first | (with_reducible assumption) | assumption)
                         have q646 : (rd t642 x67_3) < (t628.length : Int) := of_decide_eq_true (by first | (with_reducible assumption) | assumption)
                         obtain ⟨ad646, e646, hx646_0⟩ := Kd.at_int (Kd.R_reads' HO_11.out).2.2 (rd t642 x67_3) p646 q646
                         obtain rfl : ad633 = ad646 := (by injection e646)
                         replace p646 := eq_true p646
                         replace q646 := eq_true q646
                         go_wp2
                         (try simp only [← hl13_3])
                         go_roundg k3
                         case measure => have := HK1.out; have := HK2.out; have := HK3.out; omega
                         case rel => exact ⟨(x13_3), (wrap64 (x67_3 + 1)), (by first | rfl | (simp; done) | (simp [*]; done)), H', ⟨by have := HK1.out; have := HK2.out; have := HK3.out; omega⟩, ⟨by (try simp only [hl13_1, hl13_2, hl13_3]); (with_reducible repeat (first | apply Kd.R_alloc | apply Kd.R_drewN | apply Kd.R_drew)); exact HO_11.out⟩, ⟨by (try simp only [hl13_1, hl13_2, hl13_3]); (with_reducible repeat (first | apply Kd.R_alloc | apply Kd.R_drewN | apply Kd.R_drew)); exact HO_13.out⟩, ⟨by (try simp only [hl13_1, hl13_2, hl13_3]); (with_reducible repeat (first | apply Kd.R_alloc | apply Kd.R_drewN | apply Kd.R_drew)); exact HO_53.out⟩, ⟨by (try simp only [hl13_1, hl13_2, hl13_3]); (with_reducible repeat (first | apply Kd.R_alloc | apply Kd.R_drewN | apply Kd.R_drew)); exact HO_65.out⟩, ⟨by (try simp only [hl13_1, hl13_2, hl13_3]); (with_reducible repeat (first | apply Kd.R_alloc | apply Kd.R_drewN | apply Kd.R_drew)); exact HO_632002.out⟩, ⟨by (try simp only [hl13_1, hl13_2, hl13_3]); (with_reducible repeat (first | refine blk_drewN ?_ _ | refine blk_drew ?_ | refine blk_alloc ?_ _)); exact BK618.out⟩, ⟨by (try simp only [hl13_1, hl13_2, hl13_3]); (with_reducible repeat (first | refine blk_drewN ?_ _ | refine blk_drew ?_ | refine blk_alloc ?_ _)); exact BK631.out⟩, ⟨HB.out⟩⟩
                       ·rw [if_neg c53] at H
                        exact absurd H (by simp)
                      ·rw [if_neg c52] at H
                       exact absurd H (by simp)
                     ·rw [if_neg c51] at H
                      exact absurd H (by simp)
                    ·rw [if_neg c50] at H
                     exact absurd H (by simp)
                   ·rw [if_neg c49] at H
                    have c49b0 : decide (x67_3 < (t642.length : Int)) = false := decide_eq_false c49
                    clear c49; have H' := Aside0.mk H
                    clear H; go_wp2
                    (try simp only [← hl13_2, ← hl13_3])
                    go_roundg k3
                    case measure => have := HK1.out; have := HK2.out; have := HK3.out; omega
                    case rel => exact ⟨(x13_3), (wrap64 (x55_2 + 1)), (by first | rfl | (simp; done) | (simp [*]; done)), H', ⟨by have := HK1.out; have := HK2.out; have := HK3.out; omega⟩, ⟨by (try simp only [hl13_1, hl13_2, hl13_3]); (with_reducible repeat (first | apply Kd.R_alloc | apply Kd.R_drewN | apply Kd.R_drew)); exact Kd.R_mono HO_11.out (fun _ hk => hk.1)⟩, ⟨by (try simp only [hl13_1, hl13_2, hl13_3]); (with_reducible repeat (first | apply Kd.R_alloc | apply Kd.R_drewN | apply Kd.R_drew)); exact Kd.R_mono HO_13.out (fun _ hk => ⟨hk.1, hk.2.1⟩)⟩, ⟨by (try simp only [hl13_1, hl13_2, hl13_3]); (with_reducible repeat (first | apply Kd.R_alloc | apply Kd.R_drewN | apply Kd.R_drew)); exact Kd.R_mono HO_53.out (fun _ hk => hk.1)⟩, ⟨by (try simp only [hl13_1, hl13_2, hl13_3]); (with_reducible repeat (first | apply Kd.R_alloc | apply Kd.R_drewN | apply Kd.R_drew)); exact HO_632002.out⟩, ⟨by (try simp only [hl13_1, hl13_2, hl13_3]); (with_reducible repeat (first | refine blk_drewN ?_ _ | refine blk_drew ?_ | refine blk_alloc ?_ _)); exact BK618.out⟩, ⟨by (try simp only [hl13_1, hl13_2, hl13_3]); (with_reducible repeat (first | refine blk_drewN ?_ _ | refine blk_drew ?_ | refine blk_alloc ?_ _)); exact BK631.out⟩, ⟨HB.out⟩⟩
                ·rw [if_neg c43] at H
                 have c43b0 : ((rd t628 x55_2) == x50_1) = false := beq_eq_false_iff_ne.mpr c43
                 have c43b1 : ((rd t628 x55_2) != x50_1) = true := bne_iff_ne.mpr c43
                 have H' := Aside0.mk H
                 clear H; have p641 : 0 ≤ (x55_2 : Int) := of_decide_eq_true (by first | (with_reducible assumption) | assumption)
                 have q641 : x55_2 < (t628.length : Int) := of_decide_eq_true (by first | (with_reducible assumption) | assumption)
                 obtain ⟨ad641, e641, hx641_0⟩ := Kd.at_int (Kd.R_reads' HO_53.out).2.2 x55_2 p641 q641
                 obtain rfl : ad633 = ad641 := (by injection e641)
                 replace p641 := eq_true p641
                 replace q641 := eq_true q641
                 go_wp2
                 (try simp only [← hl13_2])
                 go_roundg k2
                 case measure => have := HK1.out; have := HK2.out; omega
                 case rel => exact ⟨(x13_2), (wrap64 (x55_2 + 1)), (by first | rfl | (simp; done) | (simp [*]; done)), H', ⟨by have := HK1.out; have := HK2.out; omega⟩, ⟨by (try simp only [hl13_1, hl13_2]); (with_reducible repeat (first | apply Kd.R_alloc | apply Kd.R_drewN | apply Kd.R_drew)); exact HO_11.out⟩, ⟨by (try simp only [hl13_1, hl13_2]); (with_reducible repeat (first | apply Kd.R_alloc | apply Kd.R_drewN | apply Kd.R_drew)); exact HO_13.out⟩, ⟨by (try simp only [hl13_1, hl13_2]); (with_reducible repeat (first | apply Kd.R_alloc | apply Kd.R_drewN | apply Kd.R_drew)); exact HO_53.out⟩, ⟨by (try simp only [hl13_1, hl13_2]); (with_reducible repeat (first | apply Kd.R_alloc | apply Kd.R_drewN | apply Kd.R_drew)); exact HO_632002.out⟩, ⟨by (try simp only [hl13_1, hl13_2]); (with_reducible repeat (first | refine blk_drewN ?_ _ | refine blk_drew ?_ | refine blk_alloc ?_ _)); exact BK618.out⟩, ⟨by (try simp only [hl13_1, hl13_2]); (with_reducible repeat (first | refine blk_drewN ?_ _ | refine blk_drew ?_ | refine blk_alloc ?_ _)); exact BK631.out⟩, ⟨HB.out⟩⟩
               ·rw [if_neg c42] at H
                exact absurd H (by simp)
              ·rw [if_neg c41] at H
               exact absurd H (by simp)
             ·rw [if_neg c40] at H
              have c40b0 : decide (x55_2 < (t628.length : Int)) = false := decide_eq_false c40
              clear c40; have H' := Aside0.mk H
              clear H; go_wp2
              (try simp only [← hl13_1, ← hl13_2])
              go_roundg k2
              case measure => have := HK1.out; have := HK2.out; omega
              case rel => exact ⟨(x13_2), (wrap64 (x50_1 + 1)), (by first | rfl | (simp; done) | (simp [*]; done)), H', ⟨by have := HK1.out; have := HK2.out; omega⟩, ⟨by (try simp only [hl13_1, hl13_2]); (with_reducible repeat (first | apply Kd.R_alloc | apply Kd.R_drewN | apply Kd.R_drew)); exact HO_11.out⟩, ⟨by (try simp only [hl13_1, hl13_2]); (with_reducible repeat (first | apply Kd.R_alloc | apply Kd.R_drewN | apply Kd.R_drew)); exact Kd.R_mono HO_13.out (fun _ hk => hk.1)⟩, ⟨by (try simp only [hl13_1, hl13_2]); (with_reducible repeat (first | apply Kd.R_alloc | apply Kd.R_drewN | apply Kd.R_drew)); exact HO_632002.out⟩, ⟨by (try simp only [hl13_1, hl13_2]); (with_reducible repeat (first | refine blk_drewN ?_ _ | refine blk_drew ?_ | refine blk_alloc ?_ _)); exact BK618.out⟩, ⟨by (try simp only [hl13_1, hl13_2]); (with_reducible repeat (first | refine blk_drewN ?_ _ | refine blk_drew ?_ | refine blk_alloc ?_ _)); exact BK631.out⟩, ⟨HB.out⟩⟩
          ·rw [if_neg c39] at H
           have c39b0 : decide (x50_1 < ji17) = false := decide_eq_false c39
           clear c39; replace H := Option.bind_eq_some_iff.mp H
           obtain ⟨t639, A620, H⟩ := H
           replace H : (if 0 ≤ t639 then (if t639 < (x13_1.length : Int) then (if (rd x13_1 t639) ≤ 1000000000000000 then (some (rd x13_1 t639, true)) else (some (0, false))) else (none)) else (none)) = some (r1, r2) := H
           have A62 := Aside0.mk A620
           clear A620; by_cases c63 : 0 ≤ t639
           ·rw [if_pos c63] at H
            have c63b0 : decide (0 ≤ t639) = true := decide_eq_true c63
            clear c63; by_cases c64 : t639 < (x13_1.length : Int)
            ·rw [if_pos c64] at H
             have c64b0 : decide (t639 < (x13_1.length : Int)) = true := decide_eq_true c64
             clear c64; by_cases c65 : (rd x13_1 t639) ≤ 1000000000000000
             ·rw [if_pos c65] at H
              have c65b0 : decide ((rd x13_1 t639) ≤ 1000000000000000) = true := decide_eq_true c65
              clear c65; simp only [Option.some.injEq, Prod.mk.injEq] at H
              obtain ⟨rfl, rfl⟩ := H
              have hnb66 := NB618_631.out
              have hnc66 := NB631_618.out
              have hcz67_0 : wr.cell? ⟨gb618, 0, none⟩ = some (.int .i64 a0_0) := (blk_cell BK618.out 0).trans rfl
              have hcz67_1 : wr.cell? ⟨gb618, 1, none⟩ = some (.int .i64 a0_1) := (blk_cell BK618.out 1).trans rfl
              have hfz67_0 := blk_frozen BK618.out 0
              have hfz67_1 := blk_frozen BK618.out 1
              go_wp2_with (first | ((with_reducible refine gate_callee (f := 61) rfl ?_); refine goesL_ (some 97) rfl rfl Try.func61 (by kernel_rfl) rfl #[.agg #[.int .i64 a0_0, .int .i64 a0_1], .string a3] rfl (by (try simp only [List.map_toArray, List.map_cons, List.map_nil]); first | done | rfl | (simp only [List.length_drop, List.length_take]; rfl)) ?_; (with_reducible refine (impl_Lock_number.calls k1 a0_0 a0_1 a3 t639 _ A62.out).mono ?_); rintro e w68 ⟨rfl, hb⟩; refine ⟨_, rfl, ?_⟩; have n0_ := Aside0.mk (Kd.R_below HO_11.out hb); have n1_ := Aside0.mk (Kd.R_below HO_13.out hb); have n2_ := Aside0.mk (Kd.R_below HO_632002.out hb); have n3_ := Aside0.mk (blk_below (g := gb618) (o := .cells #[.int .i64 a0_0, .int .i64 a0_1] 30 (0, 0)) BK618.out hb); have n4_ := Aside0.mk (blk_below (g := gb631) (o := .cells #[.int .i64 t623, .int .i64 t624, .slice Ao29 t625.length co29] 70 (0, 0)) BK631.out hb); have n5_ := Aside0.mk (below_step HB.out hb); clear HO_11; clear HO_13; clear HO_632002; clear BK618; clear BK631; clear HB; have HO_11 := n0_; have HO_13 := n1_; have HO_632002 := n2_; have BK618 := n3_; have BK631 := n4_; have HB := n5_; clear n0_ n1_ n2_ n3_ n4_ n5_; (try clear hb); (try clear hb2); (try clear hk); (try clear hi); have p640 : 0 ≤ (t639 : Int) := of_decide_eq_true (by first | (with_reducible assumption) | assumption); have q640 : t639 < (x13_1.length : Int) := of_decide_eq_true (by first | (with_reducible assumption) | assumption); obtain ⟨ad640, e640, hx640_0⟩ := Kd.at_int (Kd.R_reads' HO_13.out).2.2 t639 p640 q640; obtain rfl : (⟨go16, 0, none⟩ : Addr) = ad640 := (by injection e640); (first | simp only [add_plain] at hx640_0 | simp only [add_at] at hx640_0 | simp only [Addr.add, Nat.zero_add] at hx640_0 | skip); replace p640 := eq_true p640; replace q640 := eq_true q640))
              go_ret2
              exact ⟨by first | rfl | (simp [errW_none, errW_some] <;> rfl) | (simp only [← hji17]; first | rfl | (simp [errW_none, errW_some] <;> rfl)) | (simp [*, errW_none, errW_some] <;> rfl), by repeat (first | (with_reducible first | exact HB.out | apply below_alloc | apply pw_below_drewN | apply below_drew1 | refine below_set ?_ GE618.out | refine below_set ?_ GE631.out) | exact HB.out)⟩
             ·rw [if_neg c65] at H
              have c65b0 : decide ((rd x13_1 t639) ≤ 1000000000000000) = false := decide_eq_false c65
              clear c65; simp only [Option.some.injEq, Prod.mk.injEq] at H
              obtain ⟨rfl, rfl⟩ := H
              have hnb69 := NB618_631.out
              have hnc69 := NB631_618.out
              have hcz70_0 : wr.cell? ⟨gb618, 0, none⟩ = some (.int .i64 a0_0) := (blk_cell BK618.out 0).trans rfl
              have hcz70_1 : wr.cell? ⟨gb618, 1, none⟩ = some (.int .i64 a0_1) := (blk_cell BK618.out 1).trans rfl
              have hfz70_0 := blk_frozen BK618.out 0
              have hfz70_1 := blk_frozen BK618.out 1
              go_wp2_with (first | ((with_reducible refine gate_callee (f := 61) rfl ?_); refine goesL_ (some 97) rfl rfl Try.func61 (by kernel_rfl) rfl #[.agg #[.int .i64 a0_0, .int .i64 a0_1], .string a3] rfl (by (try simp only [List.map_toArray, List.map_cons, List.map_nil]); first | done | rfl | (simp only [List.length_drop, List.length_take]; rfl)) ?_; (with_reducible refine (impl_Lock_number.calls k1 a0_0 a0_1 a3 t639 _ A62.out).mono ?_); rintro e w71 ⟨rfl, hb⟩; refine ⟨_, rfl, ?_⟩; have n0_ := Aside0.mk (Kd.R_below HO_11.out hb); have n1_ := Aside0.mk (Kd.R_below HO_13.out hb); have n2_ := Aside0.mk (Kd.R_below HO_632002.out hb); have n3_ := Aside0.mk (blk_below (g := gb618) (o := .cells #[.int .i64 a0_0, .int .i64 a0_1] 30 (0, 0)) BK618.out hb); have n4_ := Aside0.mk (blk_below (g := gb631) (o := .cells #[.int .i64 t623, .int .i64 t624, .slice Ao29 t625.length co29] 70 (0, 0)) BK631.out hb); have n5_ := Aside0.mk (below_step HB.out hb); clear HO_11; clear HO_13; clear HO_632002; clear BK618; clear BK631; clear HB; have HO_11 := n0_; have HO_13 := n1_; have HO_632002 := n2_; have BK618 := n3_; have BK631 := n4_; have HB := n5_; clear n0_ n1_ n2_ n3_ n4_ n5_; (try clear hb); (try clear hb2); (try clear hk); (try clear hi); have p640 : 0 ≤ (t639 : Int) := of_decide_eq_true (by first | (with_reducible assumption) | assumption); have q640 : t639 < (x13_1.length : Int) := of_decide_eq_true (by first | (with_reducible assumption) | assumption); obtain ⟨ad640, e640, hx640_0⟩ := Kd.at_int (Kd.R_reads' HO_13.out).2.2 t639 p640 q640; obtain rfl : (⟨go16, 0, none⟩ : Addr) = ad640 := (by injection e640); (first | simp only [add_plain] at hx640_0 | simp only [add_at] at hx640_0 | simp only [Addr.add, Nat.zero_add] at hx640_0 | skip); replace p640 := eq_true p640; replace q640 := eq_true q640))
              go_ret2
              exact ⟨by first | rfl | (simp [errW_none, errW_some] <;> rfl) | (simp only [← hji17]; first | rfl | (simp [errW_none, errW_some] <;> rfl)) | (simp [*, errW_none, errW_some] <;> rfl), by repeat (first | (with_reducible first | exact HB.out | apply below_alloc | apply pw_below_drewN | apply below_drew1 | refine below_set ?_ GE618.out | refine below_set ?_ GE631.out) | exact HB.out)⟩
            ·rw [if_neg c64] at H
             exact absurd H (by simp)
           ·rw [if_neg c63] at H
            exact absurd H (by simp)
       ·rw [if_neg c15] at H
        exact absurd H (by simp)
      ·rw [if_neg c14] at H
       exact absurd H (by simp)
     ·rw [if_neg c12] at H
      exact absurd H (by simp)
    ·rw [if_neg c11] at H
     exact absurd H (by simp)
   ·rw [if_neg c10] at H
    exact absurd H (by simp)
  ·rw [if_neg c9] at H
   exact absurd H (by simp)
 ·replace c6 := Bool.eq_false_iff.mpr c6
  subst c6
  have H1 : (some (0, false)) = some (r1, r2) := by rw [if_neg (show ¬ (false = true) by decide)] at H; exact H
  clear H; have H := H1
  clear H1; simp only [Option.some.injEq, Prod.mk.injEq] at H
  obtain ⟨rfl, rfl⟩ := H
  go_enter Try.func33, Try.ntmps33
  go_wp2_with (first | ((with_reducible refine gate_dst (N := 4) rfl ?_); refine box_event ?hg (N := 4) ?hd (cs := #[.int .i64 a0_0, .int .i64 a0_1]) (t := 30) ?hr ?_; (case hd => rfl); (case hg => rfl); (case hr => first | (go_simp; done) | (go_simp; rfl)); intro gb618 hg w72 hbox hb; have n0_ := Aside0.mk (below_step HB.out hb); have n1_ := Aside0.mk (hbox); have n2_ := Aside0.mk ((by rw [hg]; exact (below_size HB.out) : w.heap.size ≤ gb618)); have n3_ := Aside0.mk ((by rw [hg]; exact (below_size HB.out) : w.heap.size ≤ gb618)); clear HB; have HB := n0_; have BK618 := n1_; have GW618 := n2_; have GE618 := n3_; clear n0_ n1_ n2_ n3_; clear hb hbox hg; have hcz73_0 : w72.cell? ⟨gb618, 0, none⟩ = some (.int .i64 a0_0) := (blk_cell BK618.out 0).trans rfl; have hcz73_1 : w72.cell? ⟨gb618, 1, none⟩ = some (.int .i64 a0_1) := (blk_cell BK618.out 1).trans rfl; have hfz73_0 := blk_frozen BK618.out 0; have hfz73_1 := blk_frozen BK618.out 1) | ((with_reducible refine gate_dst (N := 24) rfl ?_); refine Kd.R_lit Kd.string _ 9 ?hg (N := 24) ?hd (xs := ([a2, a3] : List ByteArray)) (inner := [.string a2, .string a3]) (ok := fun _ => True) (okp := fun _ => True) ?hr ?hp (fun _ hk => hk) trivial (Below.refl _ _) (Nat.le_refl _) (by simp) ?_; (case hd => rfl); (case hg => rfl); (case hr => first | (go_simp; done) | (go_simp; rfl)); (case hp => exact (Reps.one (show Kd.M Kd.string _ _ _ a2 [.string a2] from rfl) (Reps.one (show Kd.M Kd.string _ _ _ a3 [.string a3] from rfl) (Reps.none _ _)))); intro v620 w74 ho75 hb hg_ hnew_; clear hg_ hnew_; (first | rw [← Ny619.out] at ho75 | (simp only [Int.reduceToNat] at ho75; rw [← Ny619.out] at ho75)); have n0_ := Aside0.mk (Kd.R_lower ho75 (below_size HB.out)); have n1_ := Aside0.mk (blk_below (g := gb618) (o := .cells #[.int .i64 a0_0, .int .i64 a0_1] 30 (0, 0)) BK618.out hb); have n2_ := Aside0.mk (below_step HB.out hb); clear BK618; clear HB; have HO621 := n0_; have BK618 := n1_; have HB := n2_; clear n0_ n1_ n2_; clear hb ho75; obtain ⟨Ao76, co76, eo76⟩ := Kd.R_slice HO621.out; subst eo76) | ((with_reducible refine gate_callee (f := 53) rfl ?_); refine goesL_ (some 25) rfl rfl Try.func53 (by kernel_rfl) rfl #[.agg #[.int .i64 a0_0, .int .i64 a0_1], .slice A1 l1.length c1, .slice Ao76 y619.length co76] rfl (by (try simp only [List.map_toArray, List.map_cons, List.map_nil]); first | done | rfl | (simp only [List.length_drop, List.length_take]; rfl)) ?_; (with_reducible refine (impl_areLive.calls k a0_0 a0_1 _ _ l1 _ _ y619 false _ ?side1 ?side2 ?side3 ?side4 A5.out).mono ?_); (case side1 => repeat (first | exact (Kd.C_below HR1.out HB.out) | (with_reducible refine Kd.C_alloc ?_ _) | (with_reducible refine Kd.C_drewN ?_ _) | (with_reducible refine Kd.C_drew ?_))); (case side2 => exact HC1.out); (case side3 => repeat (first | exact (Kd.R_reads' HO621.out).2.2 | (with_reducible refine Kd.C_alloc ?_ _) | (with_reducible refine Kd.C_drewN ?_ _) | (with_reducible refine Kd.C_drew ?_))); (case side4 => exact (Kd.R_reads' HO621.out).2.1); rintro e w77 ⟨rfl, hb⟩; refine ⟨_, rfl, ?_⟩; have n0_ := Aside0.mk (Kd.R_below HO621.out hb); have n1_ := Aside0.mk (blk_below (g := gb618) (o := .cells #[.int .i64 a0_0, .int .i64 a0_1] 30 (0, 0)) BK618.out hb); have n2_ := Aside0.mk (below_step HB.out hb); clear HO621; clear BK618; clear HB; have HO621 := n0_; have BK618 := n1_; have HB := n2_; clear n0_ n1_ n2_; (try clear hb); (try clear hb2); (try clear hk); (try clear hi)))
  go_ret2
  exact ⟨by first | rfl | (simp [errW_none, errW_some] <;> rfl) | (simp [*, errW_none, errW_some] <;> rfl), by repeat (first | (with_reducible first | exact HB.out | apply below_alloc | apply pw_below_drewN | apply below_drew1 | refine below_set ?_ GE618.out) | exact HB.out)⟩

end Go.Proofs.Ytajhahafgnefcaa.R
