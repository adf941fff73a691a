import Derived.Test.YtajhahafgnefcaaUp
import Derived.Test.YtajhahafgnefcaaR0
namespace Go.Proofs.Ytajhahafgnefcaa.R
open Go.RowKit Go.Proofs.YtajhahafgnefcaaW.PrintWords Go.Proofs.YtajhahafgnefcaaW.PrintLast Go.Proofs.YtajhahafgnefcaaW.PrintMore
set_option linter.unusedVariables false
set_option linter.unusedSimpArgs false

/-! ### FD: function 84 -/
def FD.l0 : Nat → List (S59) → Int → Int → Option ((List (S59)))
 | 0, _, _, _ => none
 | k + 1, x3, x6, x7 => if x7 < x6 then ((some (([(⟨x7, 1⟩ : S59), (⟨x7, (-1)⟩ : S59)] : List (S59)) : List (S59))).bind fun y951 => (if x3.length + y951.length < 8796093022208 then (FD.l0 k (x3 ++ y951) x6 (wrap64 (x7 + 1))) else (none))) else (some x3)
def FD.f (k : Nat) (a0 : Int) : Option ((List (S59))) := FD.l0 k (([] : List (S59))) a0 0
theorem FD.mono_l : ∀ k, (∀ y0 y1 y2, LeO (FD.l0 k y0 y1 y2) (FD.l0 (k + 1) y0 y1 y2))
 | 0 => fun _ _ _ r h => by simp [FD.l0] at h
 | k + 1 => by
  have ih0 := FD.mono_l k
  ·intro y0 y1 y2
   unfold FD.l0
   repeat' (with_reducible first | exact ih0 _ _ _ | exact LeO.refl _ | exact LeO.none _ | refine LeO.ite ?_ ?_ | refine LeO.bind ?_ (fun _ => ?_))
theorem FD.mono : ∀ a0 k, LeO (FD.f k a0) (FD.f (k + 1) a0) := by
 intro a0 k
 have ih0 := FD.mono_l k
 unfold FD.f
 repeat' (with_reducible first | exact ih0 _ _ _ | exact LeO.refl _ | exact LeO.none _ | refine LeO.ite ?_ ?_ | refine LeO.bind ?_ (fun _ => ?_))
set_option maxHeartbeats 8000000 in
set_option maxRecDepth 100000 in
theorem FD.calls (k : Nat) (a0 : Int) (r : List (S59)) (w : World) (h : FD.f k a0 = some r) :
  Calls Try.prog 84 #[.int .i64 a0] w fun e w' => ∃ v0_ : Value, e = .returned (v0_) ∧ Kd.R k59 59 w' w.heap.size (fun _ => True) v0_ r ∧ Below w.heap.size w w' := by
 have hu59 := Try.underlying59
 have HB := Aside0.mk (Below.refl w.heap.size w)
 have H : (FD.l0 k (([] : List (S59))) a0 0) = some r := h
 clear h; obtain ⟨y948, hy948⟩ : ∃ y_ : List (S59), y_ = (([] : List (S59))) := ⟨_, rfl⟩
 replace H : (FD.l0 k y948 a0 0) = some r := by first | (rw [hy948]; with_reducible exact H) | (have H2_ := (Option.bind_some _ _).symm.trans H; rw [hy948]; with_reducible exact H2_) | (have H2_ := (Option.bind_some _ _).symm.trans H; with_reducible exact H2_) | with_reducible exact H | (rw [hy948]; exact H) | exact H
 have Ny948 := Aside0.mk hy948
 clear hy948; have H' := Aside0.mk H
 clear H; go_enter Try.func84, Try.ntmps84
 go_wp2_with (first | ((with_reducible refine gate_dst (N := 5) rfl ?_); refine Kd.R_lit k59 _ 59 ?hg (N := 5) ?hd (xs := ([] : List (S59))) (inner := []) (ok := fun _ => True) (okp := fun _ => True) ?hr ?hp (fun _ hk => hk) trivial (Below.refl _ _) (Nat.le_refl _) (by simp) ?_; (case hd => rfl); (case hg => rfl); (case hr => first | (go_simp; done) | (go_simp; rfl)); (case hp => exact (Reps.none _ _)); intro v949 w2 ho3 hb hg_ hnew_; clear hg_ hnew_; (first | rw [← Ny948.out] at ho3 | (simp only [Int.reduceToNat] at ho3; rw [← Ny948.out] at ho3)); have n0_ := Aside0.mk (Kd.R_lower ho3 (below_size (upB_ HB.out))); have n1_ := Aside0.mk (below_step (upB_ HB.out) hb); clear HB; have HO950 := n0_; have HB := n1_; clear n0_ n1_; clear hb ho3))
 go_loopg [3, 7] k (fun kq v3 v7 w' => ∃ (x3_1 : List (S59)) (x7_1 : Int), v7 = .int .i64 x7_1 ∧ Aside0 (FD.l0 kq x3_1 a0 x7_1 = some r) ∧ Aside0 (kq ≤ k) ∧ Aside0 (Kd.R k59 59 w' w.heap.size (fun _ => True) v3 x3_1) ∧ Aside0 (Below w.heap.size w w'))
 case atStart => exact ⟨(y948), (0), (by first | rfl | (simp; done) | (simp [*]; done)), H', ⟨Nat.le_refl _⟩, ⟨upR_ HO950.out⟩, ⟨upB_ HB.out⟩⟩
 case round =>
  clear H'; try clear p2
  obtain ⟨x3_1, x7_1, rfl, HA, HK1, HO_3, HB⟩ := hrel
  cases gk with
  | zero => exact absurd HA.out (by simp [FD.l0])
  | succ k1 =>
   have H := HA.out
   clear HA; simp only [FD.l0] at H
   by_cases c4 : x7_1 < a0
   ·rw [if_pos c4] at H
    have c4b0 : decide (x7_1 < a0) = true := decide_eq_true c4
    clear c4; obtain ⟨y951, hy951⟩ : ∃ y_ : List (S59), y_ = (([(⟨x7_1, 1⟩ : S59), (⟨x7_1, (-1)⟩ : S59)] : List (S59))) := ⟨_, rfl⟩
    replace H : (if x3_1.length + y951.length < 8796093022208 then (FD.l0 k1 (x3_1 ++ y951) a0 (wrap64 (x7_1 + 1))) else (none)) = some r := by first | (rw [hy951]; with_reducible exact H) | (have H2_ := (Option.bind_some _ _).symm.trans H; rw [hy951]; with_reducible exact H2_) | (have H2_ := (Option.bind_some _ _).symm.trans H; with_reducible exact H2_) | with_reducible exact H | (rw [hy951]; exact H) | exact H
    have Ny951 := Aside0.mk hy951
    clear hy951; by_cases c5 : x3_1.length + y951.length < 8796093022208
    ·rw [if_pos c5] at H
     have LMc5 := Aside0.mk c5
     clear c5; obtain ⟨y954, hy954⟩ : ∃ y_ : List (S59), y_ = (x3_1 ++ y951) := ⟨_, rfl⟩
     replace H : (FD.l0 k1 y954 a0 (wrap64 (x7_1 + 1))) = some r := by first | (rw [hy954]; with_reducible exact H) | (have H2_ := (Option.bind_some _ _).symm.trans H; rw [hy954]; with_reducible exact H2_) | (have H2_ := (Option.bind_some _ _).symm.trans H; with_reducible exact H2_) | with_reducible exact H | (rw [hy954]; exact H) | exact H
     have Ny954 := Aside0.mk hy954
     clear hy954; have H' := Aside0.mk H
     clear H; go_wp2_with (first | ((with_reducible refine gate_dst (N := 15) rfl ?_); refine Kd.R_lit k59 _ 59 ?hg (N := 15) ?hd (xs := ([(⟨x7_1, 1⟩ : S59), (⟨x7_1, (-1)⟩ : S59)] : List (S59))) (inner := [.int .i64 x7_1, .int .i64 1, .int .i64 x7_1, .int .i64 (-1)]) (ok := fun _ => True) (okp := fun _ => True) ?hr ?hp (fun _ hk => hk) trivial (Below.refl _ _) (Nat.le_refl _) (by simp) ?_; (case hd => rfl); (case hg => rfl); (case hr => first | (go_simp; done) | (go_simp; rfl)); (case hp => exact (Reps.c2 (show Kd.M k59 _ _ _ (⟨x7_1, 1⟩ : S59) [.int .i64 x7_1, .int .i64 1] from (k59_mkM _ _ _ (⟨x7_1, 1⟩ : S59) )) (Reps.c2 (show Kd.M k59 _ _ _ (⟨x7_1, (-1)⟩ : S59) [.int .i64 x7_1, .int .i64 (-1)] from (k59_mkM _ _ _ (⟨x7_1, (-1)⟩ : S59) )) (Reps.none _ _)))); intro v952 w6 ho7 hb hg_ hnew_; clear hg_ hnew_; (first | rw [← Ny951.out] at ho7 | (simp only [Int.reduceToNat] at ho7; rw [← Ny951.out] at ho7)); have n0_ := Aside0.mk (Kd.R_elder' (upR_ HO_3.out) (Kd.R_base ho7) hb); have n1_ := Aside0.mk (Kd.R_lower (Kd.R_new' ho7 (Kd.R_lt (upR_ HO_3.out))) (below_size (upB_ HB.out))); have n2_ := Aside0.mk (below_step (upB_ HB.out) hb); clear HO_3; clear HB; have HO_3 := n0_; have HO953 := n1_; have HB := n2_; clear n0_ n1_ n2_; clear hb ho7; obtain ⟨Ao9, co9, eo9⟩ := Kd.R_slice HO953.out; subst eo9) | ((with_reducible refine gate_builtin (b := .append) (xs := #[.tmp 10, .tmp 15]) rfl ?_); at_builtin; refine Kd.R_append_rows k59 (w0 := w) w.heap.size rfl (.tmp 10) (.tmp 15) 33 59 (.agg #[(.int .i64 0), (.int .i64 0)]) 16 rfl Try.underlying33 info59 rfl (by decide) (by omega) u3 x3_1 y951 _ _ _ (fun k_ => some k_ ≠ (.slice Ao9 y951.length co9 : Value).ownBlock) (fun _ => False) rfl rfl ?aO ?aR (fun _ _ h => h) (fun _ h => h.elim) ?aF ?aB ?aS ?aL ?_; (case aR => repeat (first | exact (Kd.R_reads' HO953.out).2.2 | (with_reducible refine Kd.C_alloc ?_ _) | (with_reducible refine Kd.C_drewN ?_ _) | (with_reducible refine Kd.C_drew ?_))); (case aB => exact (upB_ HB.out)); (case aF => exact (fun k_ hk => Kd.fresh' (Kd.R_lt (upR_ HO953.out)) k_ hk)); (case aO => exact (by (with_reducible repeat (first | apply Kd.R_alloc | apply Kd.R_drewN | apply Kd.R_drew)); exact Kd.R_mono HO_3.out (fun _ hk => hk.2))); (case aS => exact (below_size (upB_ HB.out))); (case aL => have := LMc5.out; omega); intro v955 w8 ho hb hg hat; rw [← Ny954.out] at ho; have n0_ := Aside0.mk (Kd.R_after (ok := (fun _ => True)) (upR_ HO953.out) hg hat); have n1_ := Aside0.mk (hb); have n2_ := Aside0.mk (ho); clear HO953; clear HB; clear HO_3; have HO953 := n0_; have HB := n1_; have HO956 := n2_; clear n0_ n1_ n2_; clear ho hb hg hat))
     go_roundg k1
     case measure => have := HK1.out; omega
     case rel => exact ⟨(y954), (wrap64 (x7_1 + 1)), (by first | rfl | (simp; done) | (simp [*]; done)), H', ⟨by have := HK1.out; omega⟩, ⟨by (with_reducible repeat (first | apply Kd.R_alloc | apply Kd.R_drewN | apply Kd.R_drew)); exact Kd.R_mono HO956.out (fun _ hk => trivial)⟩, ⟨upB_ HB.out⟩⟩
    ·rw [if_neg c5] at H
     exact absurd H (by simp)
   ·rw [if_neg c4] at H
    have c4b0 : decide (x7_1 < a0) = false := decide_eq_false c4
    clear c4; obtain rfl := Option.some.inj H
    go_wp2
    go_ret
    exact ⟨_, by first | rfl | (simp [errW_none, errW_some] <;> rfl) | (simp [*, errW_none, errW_some] <;> rfl), by (with_reducible repeat (first | apply Kd.R_alloc | apply Kd.R_drewN | apply Kd.R_drew)); exact HO_3.out, by repeat (first | (with_reducible first | exact HB.out | apply below_alloc | apply pw_below_drewN | apply below_drew1) | exact HB.out)⟩

end Go.Proofs.Ytajhahafgnefcaa.R
