import Derived.Test.YtajhahafgnefcaaUp
import Derived.Test.YtajhahafgnefcaaR0
import Derived.Test.YtajhahafgnefcaaR41
import Derived.Test.YtajhahafgnefcaaR42
namespace Go.Proofs.Ytajhahafgnefcaa.R
open Go.RowKit Go.Proofs.YtajhahafgnefcaaW.PrintWords Go.Proofs.YtajhahafgnefcaaW.PrintLast Go.Proofs.YtajhahafgnefcaaW.PrintMore
set_option linter.unusedVariables false
set_option linter.unusedSimpArgs false

/-! ### Ff: function 94 -/
mutual
def Ff.l0 : Nat → List Int → List Int → Int → Int → List Bool → Option (List Int)
 | 0, _, _, _, _, _ => none
 | k + 1, x5, x6, x417000, x417001, x417002 => if (x6.length : Int) > 0 then (if 0 < (x6.length : Int) then ((Fe.f k x417000 x417001 x417002 (rd x6 0)).bind fun t428 => (Ff.l1 k x5 x6 t428 (t428.length : Int) 0 x417000 x417001 x417002)) else (none)) else (some x5)
def Ff.l1 : Nat → List Int → List Int → List Int → Int → Int → Int → Int → List Bool → Option (List Int)
 | 0, _, _, _, _, _, _, _, _ => none
 | k + 1, x5, x6, x28, x29, x30, x417000, x417001, x417002 => if x30 < x29 then (if 0 ≤ x30 then (if x30 < (x28.length : Int) then (if 0 ≤ (rd x28 x30) then (if (rd x28 x30) < (x5.length : Int) then (if (rd x5 (rd x28 x30)) < 0 then (if (rd x28 x30) < (x417002.length : Int) then (if (rdOf false x417002 (rd x28 x30) = true) then (Ff.l1 k x5 x6 x28 x29 (wrap64 (x30 + 1)) x417000 x417001 x417002) else (if 0 < (x6.length : Int) then (if 0 ≤ (rd x6 0) then (if (rd x6 0) < (x5.length : Int) then (if x6.length < 17592186044416 then (Ff.l1 k (x5.set ((rd x28 x30) : Int).toNat (wrap64 ((rd x5 (rd x6 0)) + 1))) (x6 ++ [rd x28 x30]) x28 x29 (wrap64 (x30 + 1)) x417000 x417001 x417002) else (none)) else (none)) else (none)) else (none))) else (none)) else (Ff.l1 k x5 x6 x28 x29 (wrap64 (x30 + 1)) x417000 x417001 x417002)) else (none)) else (none)) else (none)) else (none)) else (if 1 ≤ (x6.length : Int) then (Ff.l0 k x5 (x6.drop (1 : Int).toNat) x417000 x417001 x417002) else (none))
end
def Ff.f (k : Nat) (a0_0 : Int) (a0_1 : Int) (l0_2 : List Bool) (a1 : Int) : Option (List Int) := (Fq.f (([(-1)] : List Int)) (l0_2.length : Int)).bind fun t420 => (if 0 ≤ a1 then (if a1 < (t420.length : Int) then (Ff.l0 k (t420.set (a1 : Int).toNat 0) (([a1] : List Int)) a0_0 a0_1 l0_2) else (none)) else (none))
theorem Ff.mono_l : ∀ k, (∀ y0 y1 y2 y3 y4, LeO (Ff.l0 k y0 y1 y2 y3 y4) (Ff.l0 (k + 1) y0 y1 y2 y3 y4)) ∧ (∀ y0 y1 y2 y3 y4 y5 y6 y7, LeO (Ff.l1 k y0 y1 y2 y3 y4 y5 y6 y7) (Ff.l1 (k + 1) y0 y1 y2 y3 y4 y5 y6 y7))
 | 0 => ⟨fun _ _ _ _ _ r h => by simp [Ff.l0] at h, fun _ _ _ _ _ _ _ _ r h => by simp [Ff.l1] at h⟩
 | k + 1 => by
  obtain ⟨ih0, ih1⟩ := Ff.mono_l k
  refine ⟨?_, ?_⟩
  ·intro y0 y1 y2 y3 y4
   unfold Ff.l0
   repeat' (with_reducible first | exact ih0 _ _ _ _ _ | exact ih1 _ _ _ _ _ _ _ _ | exact Fe.mono _ _ _ _ _ | exact LeO.refl _ | exact LeO.none _ | refine LeO.ite ?_ ?_ | refine LeO.bind ?_ (fun _ => ?_))
  ·intro y0 y1 y2 y3 y4 y5 y6 y7
   unfold Ff.l1
   repeat' (with_reducible first | exact ih0 _ _ _ _ _ | exact ih1 _ _ _ _ _ _ _ _ | exact Fe.mono _ _ _ _ _ | exact LeO.refl _ | exact LeO.none _ | refine LeO.ite ?_ ?_ | refine LeO.bind ?_ (fun _ => ?_))
theorem Ff.mono : ∀ a0 a1 a2 a3 k, LeO (Ff.f k a0 a1 a2 a3) (Ff.f (k + 1) a0 a1 a2 a3) := by
 intro a0 a1 a2 a3 k
 obtain ⟨ih0, ih1⟩ := Ff.mono_l k
 unfold Ff.f
 repeat' (with_reducible first | exact ih0 _ _ _ _ _ | exact ih1 _ _ _ _ _ _ _ _ | exact Fe.mono _ _ _ _ _ | exact LeO.refl _ | exact LeO.none _ | refine LeO.ite ?_ ?_ | refine LeO.bind ?_ (fun _ => ?_))
set_option maxHeartbeats 8000000 in
set_option maxRecDepth 100000 in
theorem Ff.calls (k : Nat) (a0_0 : Int) (a0_1 : Int) (A0_2 : Option Addr) (c0_2 : Nat) (l0_2 : List Bool) (a1 : Int) (r : List Int) (w : World) (hr0_2 : Kd.C Kd.bool w A0_2 l0_2.length l0_2) (hc0_2 : l0_2.length ≤ c0_2) (h : Ff.f k a0_0 a0_1 l0_2 a1 = some r) :
  Calls Try.prog 94 #[.agg #[.int .i64 a0_0, .int .i64 a0_1, .slice A0_2 l0_2.length c0_2], .int .i64 a1] w fun e w' => ∃ v0_ : Value, e = .returned (v0_) ∧ Kd.R (Kd.int .i64) 3 w' w.heap.size (fun _ => True) v0_ r ∧ Below w.heap.size w w' := by
 have hu70 := Try.underlying70
 have HR0_2 := Aside0.mk hr0_2
 have HC0_2 := Aside0.mk hc0_2
 clear hr0_2 hc0_2; have HB := Aside0.mk (Below.refl w.heap.size w)
 have H : ((Fq.f (([(-1)] : List Int)) (l0_2.length : Int)).bind fun t420 => (if 0 ≤ a1 then (if a1 < (t420.length : Int) then (Ff.l0 k (t420.set (a1 : Int).toNat 0) (([a1] : List Int)) a0_0 a0_1 l0_2) else (none)) else (none))) = some r := h
 clear h; obtain ⟨y417, hy417⟩ : ∃ y_ : List Int, y_ = (([(-1)] : List Int)) := ⟨_, rfl⟩
 replace H : ((Fq.f y417 (l0_2.length : Int)).bind fun t420 => (if 0 ≤ a1 then (if a1 < (t420.length : Int) then (Ff.l0 k (t420.set (a1 : Int).toNat 0) (([a1] : List Int)) a0_0 a0_1 l0_2) else (none)) else (none))) = some r := by first | (rw [hy417]; with_reducible exact H) | (have H2_ := (Option.bind_some _ _).symm.trans H; rw [hy417]; with_reducible exact H2_) | (have H2_ := (Option.bind_some _ _).symm.trans H; with_reducible exact H2_) | with_reducible exact H | (rw [hy417]; exact H) | exact H
 have Ny417 := Aside0.mk hy417
 clear hy417; replace H := Option.bind_eq_some_iff.mp H
 obtain ⟨t420, A30, H⟩ := H
 replace H : (if 0 ≤ a1 then (if a1 < (t420.length : Int) then (Ff.l0 k (t420.set (a1 : Int).toNat 0) (([a1] : List Int)) a0_0 a0_1 l0_2) else (none)) else (none)) = some r := H
 have A3 := Aside0.mk A30
 clear A30; by_cases c4 : 0 ≤ a1
 ·rw [if_pos c4] at H
  have c4b0 : decide (0 ≤ a1) = true := decide_eq_true c4
  clear c4; by_cases c5 : a1 < (t420.length : Int)
  ·rw [if_pos c5] at H
   have c5b0 : decide (a1 < (t420.length : Int)) = true := decide_eq_true c5
   clear c5; obtain ⟨y423, hy423⟩ : ∃ y_ : List Int, y_ = (t420.set (a1 : Int).toNat 0) := ⟨_, rfl⟩
   replace H : (Ff.l0 k y423 (([a1] : List Int)) a0_0 a0_1 l0_2) = some r := by first | (rw [hy423]; with_reducible exact H) | (have H2_ := (Option.bind_some _ _).symm.trans H; rw [hy423]; with_reducible exact H2_) | (have H2_ := (Option.bind_some _ _).symm.trans H; with_reducible exact H2_) | with_reducible exact H | (rw [hy423]; exact H) | exact H
   have Ny423 := Aside0.mk hy423
   clear hy423; obtain ⟨y424, hy424⟩ : ∃ y_ : List Int, y_ = (([a1] : List Int)) := ⟨_, rfl⟩
   replace H : (Ff.l0 k y423 y424 a0_0 a0_1 l0_2) = some r := by first | (rw [hy424]; with_reducible exact H) | (have H2_ := (Option.bind_some _ _).symm.trans H; rw [hy424]; with_reducible exact H2_) | (have H2_ := (Option.bind_some _ _).symm.trans H; with_reducible exact H2_) | with_reducible exact H | (rw [hy424]; exact H) | exact H
   have Ny424 := Aside0.mk hy424
   clear hy424; have H' := Aside0.mk H
   clear H; go_enter Try.func94, Try.ntmps94
   go_wp2_with (first | ((with_reducible refine gate_dst (N := 2) rfl ?_); refine box_event ?hg (N := 2) ?hd (cs := #[.int .i64 a0_0, .int .i64 a0_1, .slice A0_2 l0_2.length c0_2]) (t := 70) ?hr ?_; (case hd => rfl); (case hg => rfl); (case hr => first | (go_simp; done) | (go_simp; rfl)); intro gb416 hg w7 hbox hb; have n0_ := Aside0.mk (below_step HB.out hb); have n1_ := Aside0.mk (hbox); have n2_ := Aside0.mk ((by rw [hg]; exact (below_size HB.out) : w.heap.size ≤ gb416)); have n3_ := Aside0.mk ((by rw [hg]; exact (below_size HB.out) : w.heap.size ≤ gb416)); clear HB; have HB := n0_; have BK416 := n1_; have GW416 := n2_; have GE416 := n3_; clear n0_ n1_ n2_ n3_; clear hb hbox hg) | ((with_reducible refine gate_dst (N := 9) rfl ?_); refine Kd.R_lit (Kd.int .i64) _ 3 ?hg (N := 9) ?hd (xs := ([(-1)] : List Int)) (inner := [.int .i64 (-1)]) (ok := fun _ => True) (okp := fun _ => True) ?hr ?hp (fun _ hk => hk) trivial (Below.refl _ _) (Nat.le_refl _) (by simp) ?_; (case hd => rfl); (case hg => rfl); (case hr => first | (go_simp; done) | (go_simp; rfl)); (case hp => exact (Reps.one (show Kd.M (Kd.int .i64) _ _ _ (-1) [.int .i64 (-1)] from rfl) (Reps.none _ _))); intro v418 w8 ho9 hb hg_ hnew_; clear hg_ hnew_; (first | rw [← Ny417.out] at ho9 | (simp only [Int.reduceToNat] at ho9; rw [← Ny417.out] at ho9)); have n0_ := Aside0.mk (Kd.R_lower ho9 (below_size HB.out)); have n1_ := Aside0.mk (blk_below (g := gb416) (o := .cells #[.int .i64 a0_0, .int .i64 a0_1, .slice A0_2 l0_2.length c0_2] 70 (0, 0)) BK416.out hb); have n2_ := Aside0.mk (below_step HB.out hb); clear BK416; clear HB; have HO419 := n0_; have BK416 := n1_; have HB := n2_; clear n0_ n1_ n2_; clear hb ho9; have hcz10_0 : w8.cell? ⟨gb416, 0, none⟩ = some (.int .i64 a0_0) := (blk_cell BK416.out 0).trans rfl; have hcz10_1 : w8.cell? ⟨gb416, 1, none⟩ = some (.int .i64 a0_1) := (blk_cell BK416.out 1).trans rfl; have hcz10_2 : w8.cell? ⟨gb416, 2, none⟩ = some (.slice A0_2 l0_2.length c0_2) := (blk_cell BK416.out 2).trans rfl; have hfz10_0 := blk_frozen BK416.out 0; have hfz10_1 := blk_frozen BK416.out 1; have hfz10_2 := blk_frozen BK416.out 2; obtain ⟨Ao11, co11, eo11⟩ := Kd.R_slice HO419.out; subst eo11) | ((with_reducible refine gate_callee (f := 114) rfl ?_); refine goesL_ (some 13) rfl rfl Try.func114 (by kernel_rfl) rfl #[.slice Ao11 y417.length co11, .int .i64 (l0_2.length : Int)] rfl (by (try simp only [List.map_toArray, List.map_cons, List.map_nil]); first | done | rfl | (simp only [List.length_drop, List.length_take]; rfl)) ?_; (with_reducible refine (Fq.calls _ _ y417 (l0_2.length : Int) t420 _ ?side1 ?side2 A3.out).mono ?_); (case side1 => repeat (first | exact (Kd.R_reads' HO419.out).2.2 | (with_reducible refine Kd.C_alloc ?_ _) | (with_reducible refine Kd.C_drewN ?_ _) | (with_reducible refine Kd.C_drew ?_))); (case side2 => exact (Kd.R_reads' HO419.out).2.1); rintro e w12 ⟨v421, rfl, ho0, hb⟩; refine ⟨_, rfl, ?_⟩; have n0_ := Aside0.mk (Kd.R_elder' HO419.out (Kd.R_base ho0) hb); have n1_ := Aside0.mk (Kd.R_lower (Kd.R_new' ho0 (Kd.R_lt HO419.out)) (below_size HB.out)); have n2_ := Aside0.mk (blk_below (g := gb416) (o := .cells #[.int .i64 a0_0, .int .i64 a0_1, .slice A0_2 l0_2.length c0_2] 70 (0, 0)) BK416.out hb); have n3_ := Aside0.mk (below_step HB.out hb); clear HO419; clear BK416; clear HB; have HO419 := n0_; have HO422 := n1_; have BK416 := n2_; have HB := n3_; clear n0_ n1_ n2_ n3_; (try clear hb); (try clear hb2); (try clear hk); (try clear hi); (try clear ho0); have p6 : 0 ≤ (a1 : Int) := of_decide_eq_true (by first | (with_reducible assumption) | assumption); have q6 : (a1 : Int) < ((t420.length : Int) : Int) := of_decide_eq_true (by first | (with_reducible assumption) | assumption); obtain ⟨go6, co6, eo6, gb6, gl6, cl6, HG6⟩ := Kd.R_form HO422.out (by omega); (first | cases eo6 | (injection eo6 with ea_ en_ ec_; (first | subst ea_ | (injection ea_ with ea_; subst ea_)); subst ec_; clear en_)); have GB6 := Aside0.mk gb6; have GG6 := Aside0.mk HG6; clear gb6 gl6 HG6; obtain ⟨hx6_0, hf6_0⟩ := Kd.R_celln 0 HO422.out (a1 : Int) p6 q6; replace p6 := eq_true p6; replace q6 := eq_true q6; have n_ := Aside0.mk (Kd.R_mono (ok' := (fun k_ => some k_ ≠ (.slice Ao11 y417.length co11 : Value).ownBlock)) HO422.out (fun k_ hk => hk.2)); clear HO422; have HO422 := n_; clear n_; obtain ⟨hy13_, hz13_⟩ := Kd.R_celln 0 HO422.out (a1 : Int) (of_decide_eq_true (by first | (with_reducible assumption) | assumption)) (of_decide_eq_true (by first | (with_reducible assumption) | assumption)); have HP13 := Kd.R_putg HO422.out (a1 : Int) 0) | ((with_reducible refine gate_store (t := 3) (p := 16) rfl ?_); refine store_event (t := 3) (p := 16) (v := ?vo_w14) (w1 := (w12.setCell ⟨go6, (a1 : Int).toNat, none⟩ (.int .i64 0))) ?hg ?ho ?hn ?hr ?_; (case ho => rfl); (case hg => rfl); (case hn => rfl); (case hr => first | (go_simp; done) | (go_simp; rfl)); intro w14 hw; have hg : w12.grownBy w14 (some go6) := (by rw [hw]; exact HP13.2); have hp_ : Kd.R (Kd.int .i64) 3 w14 w.heap.size (fun k_ => some k_ ≠ (.slice Ao11 y417.length co11 : Value).ownBlock) (.slice (some ⟨go6, 0, none⟩) t420.length co6) y423 := (by rw [hw, Ny423.out]; exact HP13.1); clear HP13; have n0_ := Aside0.mk (blk_grown (g := gb416) (o := .cells #[.int .i64 a0_0, .int .i64 a0_1, .slice A0_2 l0_2.length c0_2] 70 (0, 0)) BK416.out hg (Kd.R_ne HO422.out BK416.out (by decide))); have n1_ := Aside0.mk (Kd.R_after (v := (.slice (some ⟨go6, 0, none⟩) t420.length co6)) (v1 := (.slice (some ⟨go6, 0, none⟩) t420.length co6)) (ok := (fun _ => True)) HO419.out hg (.inl rfl)); have n2_ := Aside0.mk (hp_); have n3_ := Aside0.mk ((by rw [hw]; exact below_set (HB.out) GB6.out : Below w.heap.size w w14)); clear BK416; clear HO419; clear HO422; clear HB; have BK416 := n0_; have HO419 := n1_; have HO422 := n2_; have HB := n3_; clear n0_ n1_ n2_ n3_; clear hg hw hp_) | ((with_reducible refine gate_dst (N := 18) rfl ?_); refine Kd.R_lit (Kd.int .i64) _ 3 ?hg (N := 18) ?hd (xs := ([a1] : List Int)) (inner := [.int .i64 a1]) (ok := fun _ => True) (okp := fun _ => True) ?hr ?hp (fun _ hk => hk) trivial (Below.refl _ _) (Nat.le_refl _) (by simp) ?_; (case hd => rfl); (case hg => rfl); (case hr => first | (go_simp; done) | (go_simp; rfl)); (case hp => exact (Reps.one (show Kd.M (Kd.int .i64) _ _ _ a1 [.int .i64 a1] from rfl) (Reps.none _ _))); intro v425 w15 ho16 hb hg_ hnew_; clear hg_ hnew_; (first | rw [← Ny424.out] at ho16 | (simp only [Int.reduceToNat] at ho16; rw [← Ny424.out] at ho16)); have n0_ := Aside0.mk (Kd.R_elder' HO419.out (Kd.R_base ho16) hb); have n1_ := Aside0.mk (Kd.R_elder' HO422.out (Kd.R_base ho16) hb); have n2_ := Aside0.mk (Kd.R_lower (Kd.R_new' (Kd.R_new' ho16 (Kd.R_lt HO419.out)) (Kd.R_lt HO422.out)) (below_size HB.out)); have n3_ := Aside0.mk (blk_below (g := gb416) (o := .cells #[.int .i64 a0_0, .int .i64 a0_1, .slice A0_2 l0_2.length c0_2] 70 (0, 0)) BK416.out hb); have n4_ := Aside0.mk (below_step HB.out hb); clear HO419; clear HO422; clear BK416; clear HB; have HO419 := n0_; have HO422 := n1_; have HO426 := n2_; have BK416 := n3_; have HB := n4_; clear n0_ n1_ n2_ n3_ n4_; clear hb ho16))
   go_loopg [6] k (fun kq v6 w' => ∃ (x5_1 : List Int) (x6_1 : List Int), Aside0 (Ff.l0 kq x5_1 x6_1 a0_0 a0_1 l0_2 = some r) ∧ Aside0 (kq ≤ k) ∧ Aside0 (Kd.R (Kd.int .i64) 3 w' w.heap.size (fun k_ => some k_ ≠ (v6 : Value).ownBlock) (.slice (some ⟨go6, 0, none⟩) t420.length co6) x5_1) ∧ Aside0 (Kd.Q (Kd.int .i64) 3 w' w.heap.size (fun k_ => some k_ ≠ ((.slice (some ⟨go6, 0, none⟩) t420.length co6) : Value).ownBlock) v6 x6_1) ∧ Aside0 (w'.heap[gb416]? = some (.cells #[.int .i64 a0_0, .int .i64 a0_1, (.slice A0_2 l0_2.length c0_2)] 70 (0, 0))) ∧ Aside0 (Below w.heap.size w w'))
   case atStart => exact ⟨(y423), (y424), H', ⟨Nat.le_refl _⟩, ⟨by (with_reducible repeat (first | apply Kd.R_alloc | apply Kd.R_drewN | apply Kd.R_drew)); exact Kd.R_mono HO422.out (fun _ hk => hk.2)⟩, ⟨Kd.Q_of_R (by (with_reducible repeat (first | apply Kd.R_alloc | apply Kd.R_drewN | apply Kd.R_drew)); exact Kd.R_mono HO426.out (fun _ hk => hk.2))⟩, ⟨BK416.out⟩, ⟨HB.out⟩⟩
   case round =>
    clear H'; try clear c1
    try clear p2
    try clear c4
    try clear c4b0
    try clear c5
    try clear c5b0
    try clear p6
    try clear q6
    try clear hx6
    try clear hf6
    try clear c9
    try clear c11
    try clear hcz10_0
    try clear hcz10_1
    try clear hcz10_2
    try clear hfz10_0
    try clear hfz10_1
    try clear hfz10_2
    try clear hx6_0
    try clear p6
    try clear q6
    obtain ⟨x5_1, x6_1, HA, HK1, HO_5, HO_6, BK416, HB⟩ := hrel
    have hl5_1 := (Kd.R_reads' HO_5.out).1
    rw [hl5_1] at HO_5
    (try simp only [hl5_1])
    (try simp only [hl5_1] at BK416)
    (try simp only [hl5_1] at HO_6)
    cases gk with
    | zero => exact absurd HA.out (by simp [Ff.l0])
    | succ k1 =>
     have H := HA.out
     clear HA; simp only [Ff.l0] at H
     by_cases c17 : (x6_1.length : Int) > 0
     ·rw [if_pos c17] at H
      have c17b0 : decide (0 < (x6_1.length : Int)) = true := decide_eq_true c17
      have c17b1 : decide (0 < x6_1.length) = true := decide_eq_true (by omega)
      clear c17; by_cases c18 : 0 < (x6_1.length : Int)
      ·rw [if_pos c18] at H
       have c18b0 : decide (0 < (x6_1.length : Int)) = true := decide_eq_true c18
       have c18b1 : decide (0 < x6_1.length) = true := decide_eq_true (by omega)
       clear c18; replace H := Option.bind_eq_some_iff.mp H
       obtain ⟨t428, A190, H⟩ := H
       replace H : (Ff.l1 k1 x5_1 x6_1 t428 (t428.length : Int) 0 a0_0 a0_1 l0_2) = some r := H
       have A19 := Aside0.mk A190
       clear A190; have H' := Aside0.mk H
       clear H; obtain ⟨Ao20, co20, eo20, _⟩ := Kd.Q_slice HO_6.out
       subst eo20
       try go_wp2
       have n0_ := Aside0.mk (Kd.R_drew HO_5.out)
       have n1_ := Aside0.mk (Kd.Q_drew HO_6.out)
       have n2_ := Aside0.mk (blk_drew BK416.out)
       have n3_ := Aside0.mk (below_drew1 HB.out)
       clear HO_5; clear HO_6; clear BK416; clear HB; have HO_5 := n0_; have HO_6 := n1_; have BK416 := n2_; have HB := n3_; clear n0_ n1_ n2_ n3_; have p427 : 0 ≤ (0 : Int) := (by omega)
       have q427 : 0 < (x6_1.length : Int) := of_decide_eq_true (by first | (with_reducible assumption) | assumption)
       obtain ⟨ad427, e427, hx427_0⟩ := Kd.at_int (Kd.Q_reads' HO_6.out).2.2 0 p427 q427
       cases e427
       have qi427 : (0 < x6_1.length) = True := eq_true (by omega)
       (try rw [show ((0 : Int)).toNat = 0 from rfl] at hx427_0)
       (try rw [Addr.add_zero'] at hx427_0)
       replace p427 := eq_true p427
       replace q427 := eq_true q427
       refine start_ (n := 7) (S := fun w' => w'.cell? ⟨gb416, 0, none⟩ = some (.int .i64 a0_0) ∧ w'.cell? ⟨gb416, 1, none⟩ = some (.int .i64 a0_1) ∧ w'.cell? ⟨gb416, 2, none⟩ = some (.slice A0_2 l0_2.length c0_2) ∧ w'.cell? ad427 = some (.int .i64 (rd x6_1 0))) (ds := []) #[false, false, false, false, false, false, false] (by kernel_rfl) rfl rfl ⟨(blk_cell BK416.out 0).trans rfl, (blk_cell BK416.out 1).trans rfl, (blk_cell BK416.out 2).trans rfl, hx427_0⟩ (fun hHeld => ?_)
       generalize wr.drew = w21 at HO_5 HO_6 BK416 HB hx427_0 hHeld ⊢
       refine pure_ (i := 1) (N := some 25) (v := ?_) (a' := ?_) #[false, true, false, false, false, false, false] rfl rfl (by kernel_rfl) (fun _ _ _ h => h) (Or.inl ⟨by rfl, ?_⟩) ?_ ?_
       rotate_left; intro w'; go_simp; with_reducible rfl
       rotate_left; simp only [pu_]; rfl
       refine pure_ (i := 2) (N := some 26) (v := ?_) (a' := ?_) #[false, true, true, false, false, false, false] rfl rfl (by kernel_rfl) (fun _ _ _ h => h) (Or.inl ⟨by rfl, ?_⟩) ?_ ?_
       rotate_left; intro w'; go_simp; with_reducible rfl
       rotate_left; simp only [pu_]; rfl
       refine pure_ (i := 6) (N := some 30) (v := ?_) (a' := ?_) #[false, true, true, false, false, false, true] rfl rfl (by kernel_rfl) (fun _ _ _ h => h) (Or.inl ⟨by rfl, ?_⟩) ?_ ?_
       rotate_left; intro w'; go_simp; with_reducible rfl
       rotate_left; simp only [pu_]; rfl
       refine take_ (i := 0) (N := some 24) (v := ?_) (a' := ?_) #[true, true, true, false, false, false, true] rfl rfl (by kernel_rfl) (fun _ _ _ h => h) (Or.inl ⟨by rfl, ?_⟩) hHeld ?_ ?_
       rotate_left; rintro w' ⟨s0, s1, s2, s3⟩; go_simp; with_reducible rfl
       rotate_left; simp only [pu_]; rfl
       refine take_ (i := 3) (N := some 27) (v := ?_) (a' := ?_) #[true, true, true, true, false, false, true] rfl rfl (by kernel_rfl) (fun _ _ _ h => h) (Or.inl ⟨by rfl, ?_⟩) hHeld ?_ ?_
       rotate_left; rintro w' ⟨s0, s1, s2, s3⟩; go_simp; with_reducible rfl
       rotate_left; simp only [pu_]; rfl
       refine one_ (i := 4) (N := some 28) #[true, true, true, true, true, false, true] rfl rfl (by kernel_rfl) (by decide) (fun K hK => ?_)
       refine goes_ Try.func72 (by kernel_rfl) rfl #[.agg #[.int .i64 a0_0, .int .i64 a0_1, .slice A0_2 l0_2.length c0_2], .int .i64 (rd x6_1 0)] (by rfl) rfl rfl (by (try simp only [List.map_toArray, List.map_cons, List.map_nil]); first | done | rfl | (simp only [List.length_drop, List.length_take]; rfl)) ?_
       with_reducible refine (Fe.calls k1 a0_0 a0_1 _ _ l0_2 (rd x6_1 0) t428 _ ?side1 ?side2 A19.out).mono ?_
       (case side1 => repeat (first | exact (Kd.C_below HR0_2.out HB.out) | (with_reducible refine Kd.C_alloc ?_ _) | (with_reducible refine Kd.C_drewN ?_ _) | (with_reducible refine Kd.C_drew ?_)))
       (case side2 => exact HC0_2.out)
       rintro e w22 ⟨v429, rfl, ho0, hb⟩
       have HS3_ := (hb.cell (World.block_lt_of_cell? _ _ (hHeld.2.2.2))).trans (hHeld.2.2.2)
       refine ⟨_, rfl, ?_⟩
       have n0_ := Aside0.mk (Kd.R_elder' HO_5.out (Kd.R_base ho0) hb)
       have n1_ := Aside0.mk (Kd.Q_elder' (by (with_reducible repeat (first | apply Kd.Q_alloc | apply Kd.Q_drewN | apply Kd.Q_drew)); exact HO_6.out) (Kd.R_base ho0) hb)
       have n2_ := Aside0.mk (Kd.R_lower (Kd.R_new' (Kd.R_new' ho0 (Kd.R_lt HO_5.out)) (Kd.Q_lt (by (with_reducible repeat (first | apply Kd.Q_alloc | apply Kd.Q_drewN | apply Kd.Q_drew)); exact HO_6.out))) (below_size HB.out))
       have n3_ := Aside0.mk (blk_below (g := gb416) (o := .cells #[.int .i64 a0_0, .int .i64 a0_1, .slice A0_2 l0_2.length c0_2] 70 (0, 0)) BK416.out hb)
       have n4_ := Aside0.mk (below_step HB.out hb)
       clear HO_5; clear HO_6; clear BK416; clear HB; have HO_5 := n0_; have HO_6 := n1_; have HO430 := n2_; have BK416 := n3_; have HB := n4_; clear n0_ n1_ n2_ n3_ n4_; (try clear hb); (try clear hb2); (try clear hk); (try clear hi); (try clear ho0); obtain ⟨Ao23, co23, eo23⟩ := Kd.R_slice HO430.out
       (first | subst eo23 | (injection eo23 with f1_ f2_ f3_; have f4_ := f1_.symm; have f5_ := f3_.symm; clear f1_ f2_ f3_; subst f4_; subst f5_))
       refine hK.out _ _ ⟨(blk_cell BK416.out 0).trans rfl, (blk_cell BK416.out 1).trans rfl, (blk_cell BK416.out 2).trans rfl, HS3_⟩ (fun hHeld => ?_)
       clear hK K; refine norm_ (a' := ?_) ?_ ?_
       rotate_left
       ·show Act.put _ (some 28) _ = _
        simp only [pu_]
        rfl
       refine pure_ (i := 5) (N := some 29) (v := ?_) (a' := ?_) #[true, true, true, true, true, true, true] rfl rfl (by kernel_rfl) (fun _ _ _ h => h) (Or.inl ⟨by rfl, ?_⟩) ?_ ?_
       rotate_left; intro w'; go_simp; with_reducible rfl
       rotate_left; simp only [pu_]; rfl
       refine done_ (by kernel_rfl) ?_
       try go_wp2
       go_loopg [6, 30] k1 (fun kq v6 v30 w' => ∃ (x5_2 : List Int) (x6_2 : List Int) (x30_2 : Int), v30 = .int .i64 x30_2 ∧ Aside0 (Ff.l1 kq x5_2 x6_2 t428 (t428.length : Int) x30_2 a0_0 a0_1 l0_2 = some r) ∧ Aside0 (kq ≤ k1) ∧ Aside0 (Kd.R (Kd.int .i64) 3 w' w.heap.size (fun k_ => some k_ ≠ (v6 : Value).ownBlock ∧ some k_ ≠ ((.slice Ao23 t428.length co23) : Value).ownBlock) (.slice (some ⟨go6, 0, none⟩) x5_1.length co6) x5_2) ∧ Aside0 (Kd.Q (Kd.int .i64) 3 w' w.heap.size (fun k_ => some k_ ≠ ((.slice (some ⟨go6, 0, none⟩) x5_1.length co6) : Value).ownBlock ∧ some k_ ≠ ((.slice Ao23 t428.length co23) : Value).ownBlock) v6 x6_2) ∧ Aside0 (Kd.R (Kd.int .i64) 3 w' w.heap.size (fun k_ => some k_ ≠ ((.slice (some ⟨go6, 0, none⟩) x5_1.length co6) : Value).ownBlock ∧ some k_ ≠ (v6 : Value).ownBlock) (.slice Ao23 t428.length co23) t428) ∧ Aside0 (w'.heap[gb416]? = some (.cells #[.int .i64 a0_0, .int .i64 a0_1, (.slice A0_2 l0_2.length c0_2)] 70 (0, 0))) ∧ Aside0 (Below w.heap.size w w'))
       case atStart => exact ⟨(x5_1), (x6_1), (0), (by first | rfl | (simp; done) | (simp [*]; done)), H', ⟨Nat.le_refl _⟩, ⟨by (try simp only [hl5_1]); (with_reducible repeat (first | apply Kd.R_alloc | apply Kd.R_drewN | apply Kd.R_drew)); exact HO_5.out⟩, ⟨by (try simp only [hl5_1]); (with_reducible repeat (first | apply Kd.Q_alloc | apply Kd.Q_drewN | apply Kd.Q_drew)); exact HO_6.out⟩, ⟨by (try simp only [hl5_1]); (with_reducible repeat (first | apply Kd.R_alloc | apply Kd.R_drewN | apply Kd.R_drew)); exact Kd.R_mono HO430.out (fun _ hk => ⟨hk.1.2, hk.2⟩)⟩, ⟨by (try simp only [hl5_1]); (with_reducible repeat (first | refine blk_drewN ?_ _ | refine blk_drew ?_ | refine blk_alloc ?_ _)); exact BK416.out⟩, ⟨HB.out⟩⟩
       case round =>
        clear H'; try clear c1
        try clear p2
        try clear c4
        try clear c4b0
        try clear p4
        try clear q4
        try clear hx4
        try clear qi4
        try clear c5
        try clear c5b0
        try clear p6
        try clear q6
        try clear hx6
        try clear hf6
        try clear c7
        try clear c9
        try clear c11
        try clear c17
        try clear c17b0
        try clear c17b1
        try clear c18
        try clear c18b0
        try clear c18b1
        try clear hcz10_0
        try clear hcz10_1
        try clear hcz10_2
        try clear hfz10_0
        try clear hfz10_1
        try clear hfz10_2
        try clear hx427_0
        try clear hx6_0
        try clear p2
        try clear p427
        try clear p6
        try clear q427
        try clear q6
        obtain ⟨x5_2, x6_2, x30_2, rfl, HA, HK2, HO_5, HO_6, HO_28, BK416, HB⟩ := hrel
        have hl5_2 := (Kd.R_reads' HO_5.out).1
        rw [hl5_2] at HO_5
        (try simp only [hl5_2])
        (try simp only [hl5_2] at BK416)
        (try simp only [hl5_2] at HO_6)
        (try simp only [hl5_2] at HO_28)
        cases gk with
        | zero => exact absurd HA.out (by simp [Ff.l1])
        | succ k2 =>
         have H := HA.out
         clear HA; simp only [Ff.l1] at H
         by_cases c24 : x30_2 < (t428.length : Int)
         ·rw [if_pos c24] at H
          have c24b0 : decide (x30_2 < (t428.length : Int)) = true := decide_eq_true c24
          clear c24; by_cases c25 : 0 ≤ x30_2
          ·rw [if_pos c25] at H
           have c25b0 : decide (0 ≤ x30_2) = true := decide_eq_true c25
           clear c25; by_cases c26 : x30_2 < (t428.length : Int)
           ·rw [if_pos c26] at H
            have c26b0 : decide (x30_2 < (t428.length : Int)) = true := decide_eq_true c26
            clear c26; by_cases c27 : 0 ≤ (rd t428 x30_2)
            ·rw [if_pos c27] at H
             have c27b0 : decide (0 ≤ (rd t428 x30_2)) = true := decide_eq_true c27
             clear c27; by_cases c28 : (rd t428 x30_2) < (x5_2.length : Int)
             ·rw [if_pos c28] at H
              have c28b0 : decide ((rd t428 x30_2) < (x5_2.length : Int)) = true := decide_eq_true c28
              clear c28; by_cases c29 : (rd x5_2 (rd t428 x30_2)) < 0
              ·rw [if_pos c29] at H
               have c29b0 : decide ((rd x5_2 (rd t428 x30_2)) < 0) = true := decide_eq_true c29
               clear c29; by_cases c30 : (rd t428 x30_2) < (l0_2.length : Int)
               ·rw [if_pos c30] at H
                have c30b0 : decide ((rd t428 x30_2) < (l0_2.length : Int)) = true := decide_eq_true c30
                clear c30; obtain ⟨bq31, hbq31⟩ : ∃ b_ : Bool, b_ = (rdOf false l0_2 (rd t428 x30_2)) := ⟨_, rfl⟩
                replace H : (if (bq31 = true) then (Ff.l1 k2 x5_2 x6_2 t428 (t428.length : Int) (wrap64 (x30_2 + 1)) a0_0 a0_1 l0_2) else (if 0 < (x6_2.length : Int) then (if 0 ≤ (rd x6_2 0) then (if (rd x6_2 0) < (x5_2.length : Int) then (if x6_2.length < 17592186044416 then (Ff.l1 k2 (x5_2.set ((rd t428 x30_2) : Int).toNat (wrap64 ((rd x5_2 (rd x6_2 0)) + 1))) (x6_2 ++ [rd t428 x30_2]) t428 (t428.length : Int) (wrap64 (x30_2 + 1)) a0_0 a0_1 l0_2) else (none)) else (none)) else (none)) else (none))) = some r := by rw [← hbq31] at H; exact H
                have Nbq31 := Aside0.mk hbq31
                clear hbq31; by_cases c32 : (bq31 = true)
                ·subst c32
                 have H1 : (Ff.l1 k2 x5_2 x6_2 t428 (t428.length : Int) (wrap64 (x30_2 + 1)) a0_0 a0_1 l0_2) = some r := by rw [if_pos rfl] at H; exact H
                 clear H; have H := H1
                 clear H1; have H' := Aside0.mk H
                 clear H; have p431 : 0 ≤ (x30_2 : Int) := of_decide_eq_true (by first | (with_reducible assumption) | assumption)
                 have q431 : x30_2 < (t428.length : Int) := of_decide_eq_true (by first | (with_reducible assumption) | assumption)
                 obtain ⟨ad431, e431, hx431_0⟩ := Kd.at_int (Kd.R_reads' HO_28.out).2.2 x30_2 p431 q431
                 cases e431
                 replace p431 := eq_true p431
                 replace q431 := eq_true q431
                 have p432 : 0 ≤ ((rd t428 x30_2) : Int) := of_decide_eq_true (by first | (with_reducible assumption) | assumption)
                 have q432 : (rd t428 x30_2) < (x5_2.length : Int) := of_decide_eq_true (by first | (with_reducible assumption) | assumption)
                 obtain ⟨ad432, e432, hx432_0⟩ := Kd.at_int (Kd.R_reads' HO_5.out).2.2 (rd t428 x30_2) p432 q432
                 obtain rfl : (⟨go6, 0, none⟩ : Addr) = ad432 := (by injection e432)
                 (first | simp only [add_plain] at hx432_0 | simp only [add_at] at hx432_0 | simp only [Addr.add, Nat.zero_add] at hx432_0 | skip)
                 replace p432 := eq_true p432
                 replace q432 := eq_true q432
                 have hcz33_0 : wr.cell? ⟨gb416, 0, none⟩ = some (.int .i64 a0_0) := (blk_cell BK416.out 0).trans rfl
                 have hcz33_1 : wr.cell? ⟨gb416, 1, none⟩ = some (.int .i64 a0_1) := (blk_cell BK416.out 1).trans rfl
                 have hcz33_2 : wr.cell? ⟨gb416, 2, none⟩ = some (.slice A0_2 l0_2.length c0_2) := (blk_cell BK416.out 2).trans rfl
                 have hfz33_0 := blk_frozen BK416.out 0
                 have hfz33_1 := blk_frozen BK416.out 1
                 have hfz33_2 := blk_frozen BK416.out 2
                 have p433 : 0 ≤ ((rd t428 x30_2) : Int) := of_decide_eq_true (by first | (with_reducible assumption) | assumption)
                 have q433 : (rd t428 x30_2) < (l0_2.length : Int) := of_decide_eq_true (by first | (with_reducible assumption) | assumption)
                 obtain ⟨ad433, e433, hx433_0⟩ := Kd.at_bool HR0_2.out (rd t428 x30_2) p433 q433
                 (try rw [← Nbq31.out] at hx433_0)
                 cases e433
                 replace hx433_0 := (HB.out.cell (World.block_lt_of_cell? w _ hx433_0)).trans hx433_0
                 replace p433 := eq_true p433
                 replace q433 := eq_true q433
                 go_wp2
                 (try simp only [← hl5_2])
                 go_roundg k2
                 case measure => have := HK1.out; have := HK2.out; omega
                 case rel => exact ⟨(x5_2), (x6_2), (wrap64 (x30_2 + 1)), (by first | rfl | (simp; done) | (simp [*]; done)), H', ⟨by have := HK1.out; have := HK2.out; omega⟩, ⟨by (try simp only [hl5_1, hl5_2]); (with_reducible repeat (first | apply Kd.R_alloc | apply Kd.R_drewN | apply Kd.R_drew)); exact HO_5.out⟩, ⟨by (try simp only [hl5_1, hl5_2]); (with_reducible repeat (first | apply Kd.Q_alloc | apply Kd.Q_drewN | apply Kd.Q_drew)); exact HO_6.out⟩, ⟨by (try simp only [hl5_1, hl5_2]); (with_reducible repeat (first | apply Kd.R_alloc | apply Kd.R_drewN | apply Kd.R_drew)); exact HO_28.out⟩, ⟨by (try simp only [hl5_1, hl5_2]); (with_reducible repeat (first | refine blk_drewN ?_ _ | refine blk_drew ?_ | refine blk_alloc ?_ _)); exact BK416.out⟩, ⟨HB.out⟩⟩
                ·replace c32 := Bool.eq_false_iff.mpr c32
                 subst c32
                 have H1 : (if 0 < (x6_2.length : Int) then (if 0 ≤ (rd x6_2 0) then (if (rd x6_2 0) < (x5_2.length : Int) then (if x6_2.length < 17592186044416 then (Ff.l1 k2 (x5_2.set ((rd t428 x30_2) : Int).toNat (wrap64 ((rd x5_2 (rd x6_2 0)) + 1))) (x6_2 ++ [rd t428 x30_2]) t428 (t428.length : Int) (wrap64 (x30_2 + 1)) a0_0 a0_1 l0_2) else (none)) else (none)) else (none)) else (none)) = some r := by rw [if_neg (show ¬ (false = true) by decide)] at H; exact H
                 clear H; have H := H1
                 clear H1; by_cases c34 : 0 < (x6_2.length : Int)
                 ·rw [if_pos c34] at H
                  have c34b0 : decide (0 < (x6_2.length : Int)) = true := decide_eq_true c34
                  have c34b1 : decide (0 < x6_2.length) = true := decide_eq_true (by omega)
                  clear c34; by_cases c35 : 0 ≤ (rd x6_2 0)
                  ·rw [if_pos c35] at H
                   have c35b0 : decide (0 ≤ (rd x6_2 0)) = true := decide_eq_true c35
                   clear c35; by_cases c36 : (rd x6_2 0) < (x5_2.length : Int)
                   ·rw [if_pos c36] at H
                    have c36b0 : decide ((rd x6_2 0) < (x5_2.length : Int)) = true := decide_eq_true c36
                    clear c36; obtain ⟨y436, hy436⟩ : ∃ y_ : List Int, y_ = (x5_2.set ((rd t428 x30_2) : Int).toNat (wrap64 ((rd x5_2 (rd x6_2 0)) + 1))) := ⟨_, rfl⟩
                    replace H : (if x6_2.length < 17592186044416 then (Ff.l1 k2 y436 (x6_2 ++ [rd t428 x30_2]) t428 (t428.length : Int) (wrap64 (x30_2 + 1)) a0_0 a0_1 l0_2) else (none)) = some r := by first | (rw [hy436]; with_reducible exact H) | (have H2_ := (Option.bind_some _ _).symm.trans H; rw [hy436]; with_reducible exact H2_) | (have H2_ := (Option.bind_some _ _).symm.trans H; with_reducible exact H2_) | with_reducible exact H | (rw [hy436]; exact H) | exact H
                    have Ny436 := Aside0.mk hy436
                    clear hy436; by_cases c38 : x6_2.length < 17592186044416
                    ·rw [if_pos c38] at H
                     have LMc38 := Aside0.mk c38
                     clear c38; obtain ⟨y437, hy437⟩ : ∃ y_ : List Int, y_ = (x6_2 ++ [rd t428 x30_2]) := ⟨_, rfl⟩
                     replace H : (Ff.l1 k2 y436 y437 t428 (t428.length : Int) (wrap64 (x30_2 + 1)) a0_0 a0_1 l0_2) = some r := by first | (rw [hy437]; with_reducible exact H) | (have H2_ := (Option.bind_some _ _).symm.trans H; rw [hy437]; with_reducible exact H2_) | (have H2_ := (Option.bind_some _ _).symm.trans H; with_reducible exact H2_) | with_reducible exact H | (rw [hy437]; exact H) | exact H
                     have Ny437 := Aside0.mk hy437
                     clear hy437; have H' := Aside0.mk H
                     clear H; have p431 : 0 ≤ (x30_2 : Int) := of_decide_eq_true (by first | (with_reducible assumption) | assumption)
                     have q431 : x30_2 < (t428.length : Int) := of_decide_eq_true (by first | (with_reducible assumption) | assumption)
                     obtain ⟨ad431, e431, hx431_0⟩ := Kd.at_int (Kd.R_reads' HO_28.out).2.2 x30_2 p431 q431
                     cases e431
                     replace p431 := eq_true p431
                     replace q431 := eq_true q431
                     have p432 : 0 ≤ ((rd t428 x30_2) : Int) := of_decide_eq_true (by first | (with_reducible assumption) | assumption)
                     have q432 : (rd t428 x30_2) < (x5_2.length : Int) := of_decide_eq_true (by first | (with_reducible assumption) | assumption)
                     obtain ⟨ad432, e432, hx432_0⟩ := Kd.at_int (Kd.R_reads' HO_5.out).2.2 (rd t428 x30_2) p432 q432
                     obtain rfl : (⟨go6, 0, none⟩ : Addr) = ad432 := (by injection e432)
                     (first | simp only [add_plain] at hx432_0 | simp only [add_at] at hx432_0 | simp only [Addr.add, Nat.zero_add] at hx432_0 | skip)
                     replace p432 := eq_true p432
                     replace q432 := eq_true q432
                     have hcz39_0 : wr.cell? ⟨gb416, 0, none⟩ = some (.int .i64 a0_0) := (blk_cell BK416.out 0).trans rfl
                     have hcz39_1 : wr.cell? ⟨gb416, 1, none⟩ = some (.int .i64 a0_1) := (blk_cell BK416.out 1).trans rfl
                     have hcz39_2 : wr.cell? ⟨gb416, 2, none⟩ = some (.slice A0_2 l0_2.length c0_2) := (blk_cell BK416.out 2).trans rfl
                     have hfz39_0 := blk_frozen BK416.out 0
                     have hfz39_1 := blk_frozen BK416.out 1
                     have hfz39_2 := blk_frozen BK416.out 2
                     have p433 : 0 ≤ ((rd t428 x30_2) : Int) := of_decide_eq_true (by first | (with_reducible assumption) | assumption)
                     have q433 : (rd t428 x30_2) < (l0_2.length : Int) := of_decide_eq_true (by first | (with_reducible assumption) | assumption)
                     obtain ⟨ad433, e433, hx433_0⟩ := Kd.at_bool HR0_2.out (rd t428 x30_2) p433 q433
                     (try rw [← Nbq31.out] at hx433_0)
                     cases e433
                     replace hx433_0 := (HB.out.cell (World.block_lt_of_cell? w _ hx433_0)).trans hx433_0
                     replace p433 := eq_true p433
                     replace q433 := eq_true q433
                     obtain ⟨Ao40, co40, eo40, _⟩ := Kd.Q_slice HO_6.out
                     subst eo40
                     have p434 : 0 ≤ (0 : Int) := (by omega)
                     have q434 : 0 < (x6_2.length : Int) := of_decide_eq_true (by first | (with_reducible assumption) | assumption)
                     obtain ⟨ad434, e434, hx434_0⟩ := Kd.at_int (Kd.Q_reads' HO_6.out).2.2 0 p434 q434
                     cases e434
                     have qi434 : (0 < x6_2.length) = True := eq_true (by omega)
                     (try rw [show ((0 : Int)).toNat = 0 from rfl] at hx434_0)
                     (try rw [Addr.add_zero'] at hx434_0)
                     replace p434 := eq_true p434
                     replace q434 := eq_true q434
                     have p435 : 0 ≤ ((rd x6_2 0) : Int) := of_decide_eq_true (by first | (with_reducible assumption) | assumption)
                     have q435 : (rd x6_2 0) < (x5_2.length : Int) := of_decide_eq_true (by first | (with_reducible assumption) | assumption)
                     obtain ⟨ad435, e435, hx435_0⟩ := Kd.at_int (Kd.R_reads' HO_5.out).2.2 (rd x6_2 0) p435 q435
                     obtain rfl : (⟨go6, 0, none⟩ : Addr) = ad435 := (by injection e435)
                     (first | simp only [add_plain] at hx435_0 | simp only [add_at] at hx435_0 | simp only [Addr.add, Nat.zero_add] at hx435_0 | skip)
                     replace p435 := eq_true p435
                     replace q435 := eq_true q435
                     have p37 : 0 ≤ ((rd t428 x30_2) : Int) := of_decide_eq_true (by first | (with_reducible assumption) | assumption)
                     have q37 : ((rd t428 x30_2) : Int) < ((x5_2.length : Int) : Int) := of_decide_eq_true (by first | (with_reducible assumption) | assumption)
                     obtain ⟨hx37_0, hf37_0⟩ := Kd.R_celln 0 HO_5.out ((rd t428 x30_2) : Int) p37 q37
                     replace p37 := eq_true p37
                     replace q37 := eq_true q37
                     have HP41 := Kd.R_putg HO_5.out ((rd t428 x30_2) : Int) (wrap64 ((rd x5_2 (rd x6_2 0)) + 1))
                     go_wp2_with (first | ((with_reducible refine gate_store (t := 3) (p := 56) rfl ?_); refine store_event (t := 3) (p := 56) (v := ?vo_w42) (w1 := (wr.setCell ⟨go6, ((rd t428 x30_2) : Int).toNat, none⟩ (.int .i64 (wrap64 ((rd x5_2 (rd x6_2 0)) + 1))))) ?hg ?ho ?hn ?hr ?_; (case ho => rfl); (case hg => rfl); (case hn => rfl); (case hr => first | (go_simp; done) | (go_simp; rfl)); intro w42 hw; have hg : wr.grownBy w42 (some go6) := (by rw [hw]; exact HP41.2); have hp_ : Kd.R (Kd.int .i64) 3 w42 w.heap.size (fun k_ => some k_ ≠ (.slice (some ad434) x6_2.length co40 : Value).ownBlock ∧ some k_ ≠ (.slice (some ad431) t428.length co23 : Value).ownBlock) (.slice (some ⟨go6, 0, none⟩) x5_2.length co6) y436 := (by rw [hw, Ny436.out]; exact HP41.1); clear HP41; have n0_ := Aside0.mk (hp_); have n1_ := Aside0.mk (Kd.Q_after (v := (.slice (some ⟨go6, 0, none⟩) x5_2.length co6)) (v1 := (.slice (some ⟨go6, 0, none⟩) x5_2.length co6)) (ok := (fun k_ => some k_ ≠ (.slice (some ad431) t428.length co23 : Value).ownBlock)) (by (with_reducible repeat (first | apply Kd.Q_alloc | apply Kd.Q_drewN | apply Kd.Q_drew)); exact Kd.Q_mono HO_6.out (fun _ hk => ⟨hk.2, hk.1⟩)) hg (.inl rfl)); have n2_ := Aside0.mk (Kd.R_after (v := (.slice (some ⟨go6, 0, none⟩) x5_2.length co6)) (v1 := (.slice (some ⟨go6, 0, none⟩) x5_2.length co6)) (ok := (fun k_ => some k_ ≠ (.slice (some ad434) x6_2.length co40 : Value).ownBlock)) (by (with_reducible repeat (first | apply Kd.R_alloc | apply Kd.R_drewN | apply Kd.R_drew)); exact Kd.R_mono HO_28.out (fun _ hk => ⟨hk.2, hk.1⟩)) hg (.inl rfl)); have n3_ := Aside0.mk (blk_grown (g := gb416) (o := .cells #[.int .i64 a0_0, .int .i64 a0_1, .slice (some ad433) l0_2.length c0_2] 70 (0, 0)) BK416.out hg (Kd.R_ne HO_5.out BK416.out (by decide))); have n4_ := Aside0.mk ((by rw [hw]; exact below_set (HB.out) GB6.out : Below w.heap.size w w42)); clear HO_5; clear HO_6; clear HO_28; clear BK416; clear HB; have HO_5 := n0_; have HO_6 := n1_; have HO_28 := n2_; have BK416 := n3_; have HB := n4_; clear n0_ n1_ n2_ n3_ n4_; clear hg hw hp_) | ((with_reducible refine gate_builtin (b := .append) (xs := #[.tmp 57, .tmp 59]) rfl ?_); at_builtin; refine Kd.Q_append (Kd.int .i64) (w0 := w) w.heap.size rfl (.tmp 57) (.tmp 59) 71 3 (.int .i64 0) 8 rfl Try.underlying71 info3 rfl (by decide) (by omega) (.slice (some ad434) x6_2.length co40) x6_2 (rd t428 x30_2) [.int .i64 (rd t428 x30_2)] (fun k_ => some k_ ≠ (.slice (some ⟨go6, 0, none⟩) x5_2.length co6 : Value).ownBlock ∧ some k_ ≠ (.slice (some ad431) t428.length co23 : Value).ownBlock) (fun _ => False) rfl rfl ?aP (fun _ hk => hk.elim) ?aF ?aO ?aB ?aS ?aL ?_; (case aP => exact rfl); (case aB => exact HB.out); (case aF => exact (fun k_ hk => ⟨Kd.fresh' (Kd.R_lt HO_5.out) k_ hk, Kd.fresh' (Kd.R_lt HO_28.out) k_ hk⟩)); (case aO => exact (by (with_reducible repeat (first | apply Kd.Q_alloc | apply Kd.Q_drewN | apply Kd.Q_drew)); exact Kd.Q_mono HO_6.out (fun _ hk => ⟨hk.2, hk.1⟩))); (case aS => exact (below_size HB.out)); (case aL => have := LMc38.out; omega); intro v438 w43 ho hb hg hat; rw [← Ny437.out] at ho; have n0_ := Aside0.mk (Kd.R_after (ok := (fun k_ => some k_ ≠ (.slice (some ad431) t428.length co23 : Value).ownBlock)) (by (with_reducible repeat (first | apply Kd.R_alloc | apply Kd.R_drewN | apply Kd.R_drew)); exact Kd.R_mono HO_5.out (fun _ hk => ⟨hk.2, hk.1⟩)) hg hat); have n1_ := Aside0.mk (Kd.R_after (ok := (fun k_ => some k_ ≠ (.slice (some ⟨go6, 0, none⟩) x5_2.length co6 : Value).ownBlock)) (by (with_reducible repeat (first | apply Kd.R_alloc | apply Kd.R_drewN | apply Kd.R_drew)); exact Kd.R_mono HO_28.out (fun _ hk => ⟨hk.2, hk.1⟩)) hg hat); have n2_ := Aside0.mk (blk_grown (g := gb416) (o := .cells #[.int .i64 a0_0, .int .i64 a0_1, .slice (some ad433) l0_2.length c0_2] 70 (0, 0)) BK416.out hg (Kd.Q_ne HO_6.out BK416.out (by decide))); have n3_ := Aside0.mk (hb); have n4_ := Aside0.mk (ho); clear HO_5; clear HO_28; clear BK416; clear HB; clear HO_6; have HO_5 := n0_; have HO_28 := n1_; have BK416 := n2_; have HB := n3_; have HO439 := n4_; clear n0_ n1_ n2_ n3_ n4_; clear ho hb hg hat))
                     (try simp only [← hl5_2])
                     go_roundg k2
                     case measure => have := HK1.out; have := HK2.out; omega
                     case rel => exact ⟨(y436), (y437), (wrap64 (x30_2 + 1)), (by first | rfl | (simp; done) | (simp [*]; done)), H', ⟨by have := HK1.out; have := HK2.out; omega⟩, ⟨by (try simp only [hl5_1, hl5_2]); (with_reducible repeat (first | apply Kd.R_alloc | apply Kd.R_drewN | apply Kd.R_drew)); exact Kd.R_mono HO_5.out (fun _ hk => ⟨hk.2, hk.1⟩)⟩, ⟨by (try simp only [hl5_1, hl5_2]); (with_reducible repeat (first | apply Kd.Q_alloc | apply Kd.Q_drewN | apply Kd.Q_drew)); exact HO439.out⟩, ⟨by (try simp only [hl5_1, hl5_2]); (with_reducible repeat (first | apply Kd.R_alloc | apply Kd.R_drewN | apply Kd.R_drew)); exact HO_28.out⟩, ⟨by (try simp only [hl5_1, hl5_2]); (with_reducible repeat (first | refine blk_drewN ?_ _ | refine blk_drew ?_ | refine blk_alloc ?_ _)); exact BK416.out⟩, ⟨HB.out⟩⟩
                    ·rw [if_neg c38] at H
                     exact absurd H (by simp)
                   ·rw [if_neg c36] at H
                    exact absurd H (by simp)
                  ·rw [if_neg c35] at H
                   exact absurd H (by simp)
                 ·rw [if_neg c34] at H
                  exact absurd H (by simp)
               ·rw [if_neg c30] at H
                exact absurd H (by simp)
              ·rw [if_neg c29] at H
               have c29b0 : decide ((rd x5_2 (rd t428 x30_2)) < 0) = false := decide_eq_false c29
               clear c29; have H' := Aside0.mk H
               clear H; have p431 : 0 ≤ (x30_2 : Int) := of_decide_eq_true (by first | (with_reducible assumption) | assumption)
               have q431 : x30_2 < (t428.length : Int) := of_decide_eq_true (by first | (with_reducible assumption) | assumption)
               obtain ⟨ad431, e431, hx431_0⟩ := Kd.at_int (Kd.R_reads' HO_28.out).2.2 x30_2 p431 q431
               cases e431
               replace p431 := eq_true p431
               replace q431 := eq_true q431
               have p432 : 0 ≤ ((rd t428 x30_2) : Int) := of_decide_eq_true (by first | (with_reducible assumption) | assumption)
               have q432 : (rd t428 x30_2) < (x5_2.length : Int) := of_decide_eq_true (by first | (with_reducible assumption) | assumption)
               obtain ⟨ad432, e432, hx432_0⟩ := Kd.at_int (Kd.R_reads' HO_5.out).2.2 (rd t428 x30_2) p432 q432
               obtain rfl : (⟨go6, 0, none⟩ : Addr) = ad432 := (by injection e432)
               (first | simp only [add_plain] at hx432_0 | simp only [add_at] at hx432_0 | simp only [Addr.add, Nat.zero_add] at hx432_0 | skip)
               replace p432 := eq_true p432
               replace q432 := eq_true q432
               go_wp2
               (try simp only [← hl5_2])
               go_roundg k2
               case measure => have := HK1.out; have := HK2.out; omega
               case rel => exact ⟨(x5_2), (x6_2), (wrap64 (x30_2 + 1)), (by first | rfl | (simp; done) | (simp [*]; done)), H', ⟨by have := HK1.out; have := HK2.out; omega⟩, ⟨by (try simp only [hl5_1, hl5_2]); (with_reducible repeat (first | apply Kd.R_alloc | apply Kd.R_drewN | apply Kd.R_drew)); exact HO_5.out⟩, ⟨by (try simp only [hl5_1, hl5_2]); (with_reducible repeat (first | apply Kd.Q_alloc | apply Kd.Q_drewN | apply Kd.Q_drew)); exact HO_6.out⟩, ⟨by (try simp only [hl5_1, hl5_2]); (with_reducible repeat (first | apply Kd.R_alloc | apply Kd.R_drewN | apply Kd.R_drew)); exact HO_28.out⟩, ⟨by (try simp only [hl5_1, hl5_2]); (with_reducible repeat (first | refine blk_drewN ?_ _ | refine blk_drew ?_ | refine blk_alloc ?_ _)); exact BK416.out⟩, ⟨HB.out⟩⟩
             ·rw [if_neg c28] at H
              exact absurd H (by simp)
            ·rw [if_neg c27] at H
             exact absurd H (by simp)
           ·rw [if_neg c26] at H
            exact absurd H (by simp)
          ·rw [if_neg c25] at H
           exact absurd H (by simp)
         ·rw [if_neg c24] at H
          have c24b0 : decide (x30_2 < (t428.length : Int)) = false := decide_eq_false c24
          clear c24; by_cases c44 : 1 ≤ (x6_2.length : Int)
          ·rw [if_pos c44] at H
           have c44b0 := eq_true c44
           have c44b1 : decide (1 ≤ (x6_2.length : Int)) = true := decide_eq_true c44
           clear c44; obtain ⟨y440, hy440⟩ : ∃ y_ : List Int, y_ = (x6_2.drop (1 : Int).toNat) := ⟨_, rfl⟩
           replace H : (Ff.l0 k2 x5_2 y440 a0_0 a0_1 l0_2) = some r := by first | (rw [hy440]; with_reducible exact H) | (have H2_ := (Option.bind_some _ _).symm.trans H; rw [hy440]; with_reducible exact H2_) | (have H2_ := (Option.bind_some _ _).symm.trans H; with_reducible exact H2_) | with_reducible exact H | (rw [hy440]; exact H) | exact H
           have Ny440 := Aside0.mk hy440
           clear hy440; have H' := Aside0.mk H
           clear H; obtain ⟨Ao45, co45, eo45, _⟩ := Kd.Q_slice HO_6.out
           subst eo45
           have q46 : (1 : Int) ≤ ((x6_2.length : Int) : Int) := of_decide_eq_true (by first | (with_reducible assumption) | assumption)
           obtain ⟨i046, hi046, _, hsz46, _⟩ := info_parts info3
           have hcut46 := cut_from (P := Try.prog) 71 3 .i64 Try.underlying71 hi046 1 hsz46 Ao45 x6_2.length co45 1 (by omega) q46
           have hr46 := Kd.Q_drop (k := (1 : Int).toNat) HO_6.out (by omega)
           obtain ⟨A46, hA46⟩ : ∃ A1, A1 = (if co45 = (1 : Int).toNat then Ao45 else (Ao45 : Option Addr).map (·.add ((1 : Int).toNat * 1))) := ⟨_, rfl⟩
           obtain ⟨c46, hc46⟩ : ∃ c1, c1 = co45 - (1 : Int).toNat := ⟨_, rfl⟩
           have hy46 : y440.length = x6_2.length - (1 : Int).toNat := (by rw [Ny440.out, List.length_drop])
           rw [← Ny440.out] at hr46
           rw [← hy46, ← hA46, ← hc46] at hcut46
           replace hr46 : Kd.Q (Kd.int .i64) 3 wr w.heap.size (fun k_ => some k_ ≠ (.slice (some ⟨go6, 0, none⟩) x5_2.length co6 : Value).ownBlock ∧ some k_ ≠ (.slice Ao23 t428.length co23 : Value).ownBlock) (.slice A46 y440.length c46) y440 := (by rw [hA46, hc46, hy46]; exact hr46)
           have HE46 : Aside0 ((Value.slice A46 y440.length c46).ownBlock = (.slice Ao45 x6_2.length co45 : Value).ownBlock) := ⟨by rw [hA46]; split <;> (cases (Ao45 : Option Addr) <;> rfl)⟩
           clear hy46 hi046 hsz46 HO_6 hA46 hc46; have HO442 := Aside0.mk hr46
           clear hr46; replace q46 := eq_true q46
           have n_ := Aside0.mk (Kd.R_mono (ok' := fun k_ => (some k_ ≠ (.slice A46 y440.length c46 : Value).ownBlock ∧ some k_ ≠ (.slice Ao23 t428.length co23 : Value).ownBlock)) HO_5.out (fun k_ hk => ⟨(by rw [HE46.out]; exact hk.1), hk.2⟩))
           clear HO_5; have HO_5 := n_
           clear n_; have n_ := Aside0.mk (Kd.R_mono (ok' := fun k_ => (some k_ ≠ (.slice (some ⟨go6, 0, none⟩) x5_2.length co6 : Value).ownBlock ∧ some k_ ≠ (.slice A46 y440.length c46 : Value).ownBlock)) HO_28.out (fun k_ hk => ⟨hk.1, (by rw [HE46.out]; exact hk.2)⟩))
           clear HO_28; have HO_28 := n_
           clear n_; go_wp2
           (try simp only [← hl5_1, ← hl5_2])
           go_roundg k2
           case measure => have := HK1.out; have := HK2.out; omega
           case rel => exact ⟨(x5_2), (y440), H', ⟨by have := HK1.out; have := HK2.out; omega⟩, ⟨by (try simp only [hl5_1, hl5_2]); (with_reducible repeat (first | apply Kd.R_alloc | apply Kd.R_drewN | apply Kd.R_drew)); exact Kd.R_mono HO_5.out (fun _ hk => hk.1)⟩, ⟨by (try simp only [hl5_1, hl5_2]); (with_reducible repeat (first | apply Kd.Q_alloc | apply Kd.Q_drewN | apply Kd.Q_drew)); exact Kd.Q_mono HO442.out (fun _ hk => hk.1)⟩, ⟨by (try simp only [hl5_1, hl5_2]); (with_reducible repeat (first | refine blk_drewN ?_ _ | refine blk_drew ?_ | refine blk_alloc ?_ _)); exact BK416.out⟩, ⟨HB.out⟩⟩
          ·rw [if_neg c44] at H
           exact absurd H (by simp)
      ·rw [if_neg c18] at H
       exact absurd H (by simp)
     ·rw [if_neg c17] at H
      have c17b0 : decide (0 < (x6_1.length : Int)) = false := decide_eq_false c17
      have c17b1 : decide (0 < x6_1.length) = false := decide_eq_false (by omega)
      clear c17; obtain rfl := Option.some.inj H
      obtain ⟨Ao47, co47, eo47, _⟩ := Kd.Q_slice HO_6.out
      subst eo47
      go_wp2
      go_ret
      exact ⟨_, by first | rfl | (simp [errW_none, errW_some] <;> rfl) | (simp [*, errW_none, errW_some] <;> rfl), by (with_reducible repeat (first | apply Kd.R_alloc | apply Kd.R_drewN | apply Kd.R_drew)); exact Kd.R_mono HO_5.out (fun _ hk => trivial), by repeat (first | (with_reducible first | exact HB.out | apply below_alloc | apply pw_below_drewN | apply below_drew1 | refine below_set ?_ GE416.out) | exact HB.out)⟩
  ·rw [if_neg c5] at H
   exact absurd H (by simp)
 ·rw [if_neg c4] at H
  exact absurd H (by simp)

end Go.Proofs.Ytajhahafgnefcaa.R
