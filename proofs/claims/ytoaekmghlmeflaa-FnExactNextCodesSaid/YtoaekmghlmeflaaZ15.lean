-- Written by a program of this session (p2.sh: a patched copy of the kit's printer) out of the translation; not by print.sh. Lean checks it.
import Derived.Sort.OwnSorted
import Derived.Test.YtoaekmghlmeflaaShelf
import Derived.Test.YtoaekmghlmeflaaZ0
namespace Go.Proofs.Ytoaekmghlmeflaa.Z
open Go.RowKit Go.Proofs.YtoaekmghlmeflaaW.PrintWords Go.Proofs.YtoaekmghlmeflaaW.PrintLast Go.Proofs.YtoaekmghlmeflaaW.PrintMore
attribute [local go_sem] max2_int min2_int max_two min_two max_three min_three max_four min_four   -- for this text's walks alone
set_option linter.unusedVariables false
set_option linter.unusedSimpArgs false

/-! ### impl_turns: function 122 -/
def impl_turns.l0 : Nat → List (S40) → Int → Int → Option ((List (S40)))
  | 0, _, _, _ => none
  | k + 1, x3, x6, x7 => if x7 < x6 then ((some (([(⟨x7, 1⟩ : S40), (⟨x7, (-1)⟩ : S40)] : List (S40)) : List (S40))).bind fun y247 => (if x3.length + y247.length < 8796093022208 then (impl_turns.l0 k (x3 ++ y247) x6 (wrap64 (x7 + 1))) else (none))) else (some x3)
def impl_turns.f (k : Nat) (a0 : Int) : Option ((List (S40))) := impl_turns.l0 k (([] : List (S40))) a0 0
theorem impl_turns.mono_l : ∀ k, (∀ y0 y1 y2, LeO (impl_turns.l0 k y0 y1 y2) (impl_turns.l0 (k + 1) y0 y1 y2))
  | 0 => fun _ _ _ r h => by simp [impl_turns.l0] at h
  | k + 1 => by
    have ih0 := impl_turns.mono_l k
    · intro y0 y1 y2
      unfold impl_turns.l0
      repeat' first
      | (with_reducible exact ih0 _ _ _)
      | (with_reducible exact LeO.refl _)
      | (with_reducible exact LeO.none _)
      | (with_reducible refine LeO.ite ?_ ?_)
      | (with_reducible refine LeO.bind ?_ (fun _ => ?_))
      | exact ih0 _ _ _
      | exact LeO.none _
      | refine LeO.ite ?_ ?_
      | refine LeO.bind ?_ (fun _ => ?_)
theorem impl_turns.mono : ∀ a0 k, LeO (impl_turns.f k a0) (impl_turns.f (k + 1) a0) := by
  intro a0 k
  have ih0 := impl_turns.mono_l k
  unfold impl_turns.f
  repeat' first
      | (with_reducible exact ih0 _ _ _)
      | (with_reducible exact LeO.refl _)
      | (with_reducible exact LeO.none _)
      | (with_reducible refine LeO.ite ?_ ?_)
      | (with_reducible refine LeO.bind ?_ (fun _ => ?_))
      | exact ih0 _ _ _
      | exact LeO.none _
      | refine LeO.ite ?_ ?_
      | refine LeO.bind ?_ (fun _ => ?_)
set_option maxHeartbeats 8000000 in
set_option maxRecDepth 100000 in
theorem impl_turns.calls (k : Nat) (a0 : Int) (r : List (S40)) (w : World) (h : impl_turns.f k a0 = some r) :
    Calls Try.prog 122 #[.int .i64 a0] w fun e w' => ∃ v0_ : Value, e = .returned (v0_) ∧ Kd.R k40 40 w' w.heap.size (fun _ => True) v0_ r ∧ Below w.heap.size w w' := by
  have hu40 := Try.underlying40
  have HB := Aside0.mk (Below.refl w.heap.size w)
  have H : (impl_turns.l0 k (([] : List (S40))) a0 0) = some r := h
  clear h
  obtain ⟨y244, hy244⟩ : ∃ y_ : List (S40), y_ = (([] : List (S40))) := ⟨_, rfl⟩
  replace H : (impl_turns.l0 k y244 a0 0) = some r := by first | (rw [hy244]; with_reducible exact H) | (have H2_ := (Option.bind_some _ _).symm.trans H; rw [hy244]; with_reducible exact H2_) | (have H2_ := (Option.bind_some _ _).symm.trans H; with_reducible exact H2_) | with_reducible exact H | (rw [hy244]; exact H) | exact H
  have Ny244 := Aside0.mk hy244
  clear hy244
  have H' := Aside0.mk H
  clear H
  go_enter Try.func122, Try.ntmps122
  go_wp2_with (first | ((with_reducible refine gate_dst (N := 5) rfl ?_); refine Kd.R_lit k40 _ 40 ?hg (N := 5) ?hd (xs := ([] : List (S40))) (inner := []) (ok := fun _ => True) (okp := fun _ => True) ?hr ?hp (fun _ hk => hk) trivial (Below.refl _ _) (Nat.le_refl _) (by simp) ?_; (case hd => rfl); (case hg => rfl); (case hr => first | (go_simp; done) | (go_simp; rfl)); (case hp => exact (Reps.none _ _)); intro v245 w2 ho3 hb hg_ hnew_; clear hg_ hnew_; (first | rw [← Ny244.out] at ho3 | (simp only [Int.reduceToNat] at ho3; rw [← Ny244.out] at ho3)); have n0_ := Aside0.mk (Kd.R_lower ho3 (below_size (by repeat (first | (with_reducible first | exact HB.out | apply below_alloc | apply pw_below_drewN | apply below_drew1) | exact HB.out)))); have n1_ := Aside0.mk (below_step (by repeat (first | (with_reducible first | exact HB.out | apply below_alloc | apply pw_below_drewN | apply below_drew1) | exact HB.out)) hb); clear HB; have HO246 := n0_; have HB := n1_; clear n0_ n1_; clear hb ho3))
  go_loopg [3, 7] k (fun kq v3 v7 w' => ∃ (x3_1 : List (S40)) (x7_1 : Int), v7 = .int .i64 x7_1 ∧ Aside0 (impl_turns.l0 kq x3_1 a0 x7_1 = some r) ∧ Aside0 (kq ≤ k) ∧ Aside0 (Kd.R k40 40 w' w.heap.size (fun _ => True) v3 x3_1) ∧ Aside0 (Below w.heap.size w w'))
  case atStart => exact ⟨(y244), (0), (by first | rfl | (simp; done) | (simp [*]; done)), H', ⟨Nat.le_refl _⟩, ⟨by (with_reducible repeat (first | apply Kd.R_alloc | apply Kd.R_drewN | apply Kd.R_drew)); exact HO246.out⟩, ⟨by repeat (first | (with_reducible first | exact HB.out | apply below_alloc | apply pw_below_drewN | apply below_drew1) | exact HB.out)⟩⟩
  case round =>
    clear H'
    try clear c1
    try clear p2
    obtain ⟨x3_1, x7_1, rfl, HA, HK1, HO_3, HB⟩ := hrel
    cases gk with
    | zero => exact absurd HA.out (by simp [impl_turns.l0])
    | succ k1 =>
      have H := HA.out
      clear HA
      simp only [impl_turns.l0] at H
      by_cases c4 : x7_1 < a0
      · rw [if_pos c4] at H
        have c4b0 : decide (x7_1 < a0) = true := decide_eq_true c4
        clear c4
        obtain ⟨y247, hy247⟩ : ∃ y_ : List (S40), y_ = (([(⟨x7_1, 1⟩ : S40), (⟨x7_1, (-1)⟩ : S40)] : List (S40))) := ⟨_, rfl⟩
        replace H : (if x3_1.length + y247.length < 8796093022208 then (impl_turns.l0 k1 (x3_1 ++ y247) a0 (wrap64 (x7_1 + 1))) else (none)) = some r := by first | (rw [hy247]; with_reducible exact H) | (have H2_ := (Option.bind_some _ _).symm.trans H; rw [hy247]; with_reducible exact H2_) | (have H2_ := (Option.bind_some _ _).symm.trans H; with_reducible exact H2_) | with_reducible exact H | (rw [hy247]; exact H) | exact H
        have Ny247 := Aside0.mk hy247
        clear hy247
        by_cases c5 : x3_1.length + y247.length < 8796093022208
        · rw [if_pos c5] at H
          have LMc5 := Aside0.mk c5
          clear c5
          obtain ⟨y250, hy250⟩ : ∃ y_ : List (S40), y_ = (x3_1 ++ y247) := ⟨_, rfl⟩
          replace H : (impl_turns.l0 k1 y250 a0 (wrap64 (x7_1 + 1))) = some r := by first | (rw [hy250]; with_reducible exact H) | (have H2_ := (Option.bind_some _ _).symm.trans H; rw [hy250]; with_reducible exact H2_) | (have H2_ := (Option.bind_some _ _).symm.trans H; with_reducible exact H2_) | with_reducible exact H | (rw [hy250]; exact H) | exact H
          have Ny250 := Aside0.mk hy250
          clear hy250
          have H' := Aside0.mk H
          clear H
          go_wp2_with (first | ((with_reducible refine gate_dst (N := 15) rfl ?_); refine Kd.R_lit k40 _ 40 ?hg (N := 15) ?hd (xs := ([(⟨x7_1, 1⟩ : S40), (⟨x7_1, (-1)⟩ : S40)] : List (S40))) (inner := [.int .i64 x7_1, .int .i64 1, .int .i64 x7_1, .int .i64 (-1)]) (ok := fun _ => True) (okp := fun _ => True) ?hr ?hp (fun _ hk => hk) trivial (Below.refl _ _) (Nat.le_refl _) (by simp) ?_; (case hd => rfl); (case hg => rfl); (case hr => first | (go_simp; done) | (go_simp; rfl)); (case hp => exact (Reps.c2 (show Kd.M k40 _ _ _ (⟨x7_1, 1⟩ : S40) [.int .i64 x7_1, .int .i64 1] from (k40_mkM _ _ _ (⟨x7_1, 1⟩ : S40) )) (Reps.c2 (show Kd.M k40 _ _ _ (⟨x7_1, (-1)⟩ : S40) [.int .i64 x7_1, .int .i64 (-1)] from (k40_mkM _ _ _ (⟨x7_1, (-1)⟩ : S40) )) (Reps.none _ _)))); intro v248 w6 ho7 hb hg_ hnew_; clear hg_ hnew_; (first | rw [← Ny247.out] at ho7 | (simp only [Int.reduceToNat] at ho7; rw [← Ny247.out] at ho7)); have n0_ := Aside0.mk (Kd.R_elder' (by (with_reducible repeat (first | apply Kd.R_alloc | apply Kd.R_drewN | apply Kd.R_drew)); exact HO_3.out) (Kd.R_base ho7) hb); have n1_ := Aside0.mk (Kd.R_lower (Kd.R_new' ho7 (Kd.R_lt (by (with_reducible repeat (first | apply Kd.R_alloc | apply Kd.R_drewN | apply Kd.R_drew)); exact HO_3.out))) (below_size (by repeat (first | (with_reducible first | exact HB.out | apply below_alloc | apply pw_below_drewN | apply below_drew1) | exact HB.out)))); have n2_ := Aside0.mk (below_step (by repeat (first | (with_reducible first | exact HB.out | apply below_alloc | apply pw_below_drewN | apply below_drew1) | exact HB.out)) hb); clear HO_3; clear HB; have HO_3 := n0_; have HO249 := n1_; have HB := n2_; clear n0_ n1_ n2_; clear hb ho7; obtain ⟨Ao9, co9, eo9⟩ := Kd.R_slice HO249.out; subst eo9) | ((with_reducible refine gate_builtin (b := .append) (xs := #[.tmp 10, .tmp 15]) rfl ?_); at_builtin; refine Kd.R_append_rows k40 (w0 := w) w.heap.size rfl (.tmp 10) (.tmp 15) 26 40 (.agg #[(.int .i64 0), (.int .i64 0)]) 16 rfl Try.underlying26 info40 rfl (by decide) (by omega) u3 x3_1 y247 _ _ _ (fun k_ => some k_ ≠ (.slice Ao9 y247.length co9 : Value).ownBlock) (fun _ => False) rfl rfl ?aO ?aR (fun _ _ h => h) (fun _ h => h.elim) ?aF ?aB ?aS ?aL ?_; (case aR => repeat (first | exact (Kd.R_reads' HO249.out).2.2 | (with_reducible refine Kd.C_alloc ?_ _) | (with_reducible refine Kd.C_drewN ?_ _) | (with_reducible refine Kd.C_drew ?_))); (case aB => exact (by repeat (first | (with_reducible first | exact HB.out | apply below_alloc | apply pw_below_drewN | apply below_drew1) | exact HB.out))); (case aF => exact (fun k_ hk => Kd.fresh' (Kd.R_lt (by (with_reducible repeat (first | apply Kd.R_alloc | apply Kd.R_drewN | apply Kd.R_drew)); exact HO249.out)) k_ hk)); (case aO => exact (by (with_reducible repeat (first | apply Kd.R_alloc | apply Kd.R_drewN | apply Kd.R_drew)); exact Kd.R_mono HO_3.out (fun _ hk => hk.2))); (case aS => exact (below_size (by repeat (first | (with_reducible first | exact HB.out | apply below_alloc | apply pw_below_drewN | apply below_drew1) | exact HB.out)))); (case aL => have := LMc5.out; omega); intro v251 w8 ho hb hg hat; rw [← Ny250.out] at ho; have n0_ := Aside0.mk (Kd.R_after (ok := (fun _ => True)) (by (with_reducible repeat (first | apply Kd.R_alloc | apply Kd.R_drewN | apply Kd.R_drew)); exact HO249.out) hg hat); have n1_ := Aside0.mk (hb); have n2_ := Aside0.mk (ho); clear HO249; clear HB; clear HO_3; have HO249 := n0_; have HB := n1_; have HO252 := n2_; clear n0_ n1_ n2_; clear ho hb hg hat))
          go_roundg k1
          case measure => have := HK1.out; omega
          case rel => exact ⟨(y250), (wrap64 (x7_1 + 1)), (by first | rfl | (simp; done) | (simp [*]; done)), H', ⟨by have := HK1.out; omega⟩, ⟨by (with_reducible repeat (first | apply Kd.R_alloc | apply Kd.R_drewN | apply Kd.R_drew)); exact Kd.R_mono HO252.out (fun _ hk => trivial)⟩, ⟨by repeat (first | (with_reducible first | exact HB.out | apply below_alloc | apply pw_below_drewN | apply below_drew1) | exact HB.out)⟩⟩
        · rw [if_neg c5] at H
          exact absurd H (by simp)
      · rw [if_neg c4] at H
        have c4b0 : decide (x7_1 < a0) = false := decide_eq_false c4
        clear c4
        obtain rfl := Option.some.inj H
        go_wp2
        go_ret
        exact ⟨_, by first | rfl | (simp [errW_none, errW_some] <;> rfl) | (simp [*, errW_none, errW_some] <;> rfl), by (with_reducible repeat (first | apply Kd.R_alloc | apply Kd.R_drewN | apply Kd.R_drew)); exact HO_3.out, by repeat (first | (with_reducible first | exact HB.out | apply below_alloc | apply pw_below_drewN | apply below_drew1) | exact HB.out)⟩

/-! ### impl_sorted: function 123 -/
section
open Go.Sort
/-- What slices.Sort and slices.Compact make of texts. -/
def lts (l : List ByteArray) : List (List UInt8) := l.map fun s => s.data.toList
def sortC (l : List ByteArray) : List (List UInt8) := Lib.compact ((lts l).mergeSort fun x y => decide (x ≤ y))
def impl_sorted.f (l1 : List ByteArray) : Option (List ByteArray) := if 0 < l1.length then (if l1.length < 1000000000000 then some ((sortC l1).map fun b => (⟨b.toArray⟩ : ByteArray)) else none) else none
theorem compact_le (ts : List (List UInt8)) : (Lib.compact ts).length ≤ ts.length := by
  unfold Lib.compact Lib.compactUpTo
  rw [List.length_map]
  exact Nat.le_trans (List.length_filter_le _ _) (by simp)
/-- The call, at a row of the caller's own: the row is what comes back, cut. -/
theorem impl_sorted.own (v : Value) (base : Nat) (l1 : List ByteArray) (r1 : List ByteArray) (w0 w : World) (ho : Kd.R Kd.string 9 w base (fun _ => True) v l1) (hb : Below base w0 w) (hbase : base ≤ w.heap.size) (h : impl_sorted.f l1 = some r1) :
    Calls Try.prog 123 #[v] w fun e w' => ∃ v0_ : Value, e = .returned v0_ ∧ Kd.R Kd.string 9 w' base (fun _ => True) v0_ r1 ∧ Below base w0 w' := by
  unfold impl_sorted.f at h
  by_cases hl : 0 < l1.length
  case neg => rw [if_neg hl] at h; cases h
  rw [if_pos hl] at h
  by_cases hm : l1.length < 1000000000000
  case neg => rw [if_neg hm] at h; cases h
  rw [if_pos hm] at h
  obtain rfl := Option.some.inj h
  clear h
  have hown : w.ownsRow base 9 1 v l1.length (encs Value.string l1) := Kd.own_of_R ho
  have hss : encs Value.string l1 = (lts l1).map encStr := by
    unfold encs lts
    rw [List.map_map]
    exact List.map_congr_left (fun s _ => by simp [encStr])
  have hlen : l1.length = (lts l1).length := by simp [lts]
  rw [hss, hlen] at hown
  rw [hlen] at hl hm
  have hsr : sortC l1 = Lib.compact ((lts l1).mergeSort fun x y => decide (x ≤ y)) := rfl
  generalize lts l1 = ss at hown hl hm hsr
  rw [hsr]
  clear hss hlen ho hsr
  rcases hown.2 with ⟨rfl, h0⟩ | ⟨g, cap, cur, rfl, hg, hh, h1, h2, h3, h4⟩
  · omega
  have hgl : g < w.heap.size := (Array.getElem?_eq_some_iff.1 hh).1
  have hH : Holds encStr w g 0 ss.toArray := holds_of_block hh (by simpa using h4)
  have hsort := Try.slices_Sort_string g 0 cap ss w hH hgl (by omega)
  obtain ⟨ts, hts⟩ : ∃ ts, ts = (ss.mergeSort fun x y => decide (x ≤ y)) := ⟨_, rfl⟩
  have htl : ts.length = ss.length := by rw [hts]; simp
  rw [← hts] at hsort ⊢
  clear hts
  have hcl := compact_le ts
  have hbel : ∀ (w1 w2 : World), Below base w0 w1 → base ≤ w1.heap.size → w1.grownBy w2 (some g) → Below base w0 w2 := fun w1 w2 a b c => Below.grown a c b (fun k hk => by cases hk; exact hg)
  have fin : ∀ w1, Below base w0 w1 → w1.ownsRow base 9 1 (.slice (some ⟨g, 0, none⟩) ss.length cap) ss.length (ts.map encStr) →
      (Calls Try.prog 126 #[.slice (some ⟨g, 0, none⟩) ss.length cap] w1 fun e w' => e = .returned (.slice (some ⟨g, 0, none⟩) (Lib.compact ts).length cap) ∧ ∃ q, w' = putRow encStr (Sort.ahead w1 q) g 0 (Lib.compact ts ++ List.replicate (ts.length - (Lib.compact ts).length) []).toArray) ∧
      ∀ q, (putRow encStr (Sort.ahead w1 q) g 0 (Lib.compact ts ++ List.replicate (ts.length - (Lib.compact ts).length) []).toArray).ownsRow base 9 1 (.slice (some ⟨g, 0, none⟩) (Lib.compact ts).length cap) ((Lib.compact ts).map fun b => (⟨b.toArray⟩ : ByteArray)).length (encs Value.string ((Lib.compact ts).map fun b => (⟨b.toArray⟩ : ByteArray))) ∧
        Below base w0 (putRow encStr (Sort.ahead w1 q) g 0 (Lib.compact ts ++ List.replicate (ts.length - (Lib.compact ts).length) []).toArray) := by
    intro w1 hb1 own1
    rcases own1.2 with ⟨h_, _⟩ | ⟨g', cap', cur1, hv1, hg1, hh1, h11, h21, h31, h41⟩
    · cases h_
    cases hv1
    have hH1 : Holds encStr w1 g 0 ts.toArray := holds_of_block hh1 (by rw [htl]; simpa using h41)
    have hc := Try.slices_Compact_string g 0 cap ts w1 hH1 (by omega) (by omega)
    refine ⟨by rw [← htl]; exact hc, fun q => ?_⟩
    have hzl : (Lib.compact ts ++ List.replicate (ts.length - (Lib.compact ts).length) ([] : List UInt8)).length = ss.length := by rw [List.length_append, List.length_replicate]; omega
    have own2 := ownsRow_sorted (n := q) (os := #[]) (ss := ss) hzl hg hh1 h1 h2 (by simpa using h31)
    have gr2 := grownBy_sorted (w := w1) (g := g) (n := q) (os := #[]) (Lib.compact ts ++ List.replicate (ts.length - (Lib.compact ts).length) ([] : List UInt8)).toArray
    rw [grow_empty] at own2 gr2
    refine ⟨?_, hbel w1 _ hb1 (by have := (Array.getElem?_eq_some_iff.1 hh1).1; omega) gr2⟩
    rcases own2.2 with ⟨h_, _⟩ | ⟨g', cap', cur2, hv2, _, hh2, _, _, h32, h42⟩
    · cases h_
    cases hv2
    refine ⟨by simp [encs], .inr ⟨g, cap, cur2, by simp, hg, hh2, by simp; omega, h2, h32, ?_⟩⟩
    have e1 := congrArg (List.take (Lib.compact ts).length) h42
    rw [List.take_take, List.map_append, List.take_left' (by simp)] at e1
    rw [List.length_map, Nat.mul_one]
    rw [Nat.mul_one, Nat.min_eq_left (by omega)] at e1
    rw [e1]
    unfold encs
    rw [List.map_map]
    rfl
  have HB := Aside0.mk hbel
  have Hb := Aside0.mk hb
  have HS := Aside0.mk hsort
  have HH := Aside0.mk hh
  have HT := Aside0.mk htl
  clear hbel hb hsort hown hH hh htl hcl
  go_enter Try.func123, Try.ntmps123
  go_wp2_with (first
    | (go_at_call 125; refine HS.out.mono ?_; rintro e w1 ⟨rfl, nn, os, rfl⟩; have own1 := ownsRow_sorted (n := nn) (os := os) (ss := ss) (ts := ts) HT.out hg HH.out h1 h2 (by simpa using h3); have hb1 := HB.out w _ Hb.out hbase (grownBy_sorted (n := nn) (os := os) ts.toArray); obtain ⟨w1, hw1⟩ : ∃ w1, w1 = grow (putRow encStr (Sort.ahead w nn) g 0 ts.toArray) os := ⟨_, rfl⟩; rw [← hw1] at own1 hb1 ⊢; have HF := Aside0.mk (fin w1 hb1 own1); clear own1 hb1 hw1)
    | (go_at_call 126; refine HF.out.1.mono ?_; rintro e w2 ⟨rfl, q, rfl⟩; have H3 := Aside0.mk (HF.out.2 q); clear HF))
  go_ret
  exact ⟨.slice (some ⟨g, 0, none⟩) (Lib.compact ts).length cap, rfl, Kd.R_of_own H3.out.1 (fun _ _ => trivial), H3.out.2⟩
end

end Go.Proofs.Ytoaekmghlmeflaa.Z
