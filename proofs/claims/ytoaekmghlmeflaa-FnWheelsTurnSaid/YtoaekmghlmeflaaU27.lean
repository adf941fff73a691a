-- Written by a program of this session (p2.sh: a patched copy of the kit's printer) out of the translation; not by print.sh. Lean checks it.
import Derived.Maps.AppendAt
import Derived.LoopIn
import Derived.LoopNIn
import Derived.TacticsInMore
import Derived.OwnWalkIn
import Derived.Shelf.RegionOpen
import Derived.Shelf.Abstract
import Derived.RangeFuncLeaves
import Derived.RangeFuncCalls
import Derived.RangeFuncBound
import Derived.RangeFuncNested
import Derived.Test.YtoaekmghlmeflaaU0
import Derived.Test.YtoaekmghlmeflaaU10
import Derived.Test.YtoaekmghlmeflaaU12
namespace Go.Proofs.Ytoaekmghlmeflaa.U
open Go.RowKit Go.Proofs.YtoaekmghlmeflaaW.PrintWords Go.Proofs.YtoaekmghlmeflaaW.PrintLast Go.Proofs.YtoaekmghlmeflaaW.PrintMore
attribute [local go_sem] max2_int min2_int max_two min_two max_three min_three max_four min_four   -- for this text's walks alone
set_option linter.unusedVariables false
set_option linter.unusedSimpArgs false

/-! ### impl_BackTurns: function 17 -/
/-- The turn that leads back. -/
def negT (t : S40) : S40 := ⟨t.f0, wrap64 (-t.f1)⟩
def bk (m : Nat) (k : Nat) : List Nat := (List.range k).map fun j => m - 1 - j
def backT (l : List S40) : List S40 := (bk l.length l.length).map fun (i : Nat) => negT (rd_T40 l (i : Int))
def impl_BackTurns.f (k : Nat) (a0_0 a0_1 : Int) (l1 : List S40) : Option (List S40 × Bool) :=
 (impl_IsLock.f a0_0 a0_1).bind fun b1 => if b1 = true then
  ((impl_areTurns.f k l1 a0_0).bind fun b2 => if b2 = true then (if l1.length ≤ 100000 then some (backT l1, true) else none) else some ([], false))
  else some ([], false)
section
open Go.Shelf
attribute [local go_sem] Oper.semAt_some
theorem bk_succ (m k : Nat) : bk m (k + 1) = bk m k ++ [m - 1 - k] := by simp [bk, List.range_succ]
theorem bk_length (m k : Nat) : (bk m k).length = k := by simp [bk]
/-- What a round keeps: what lay before the call, and the box that the iterator reads. -/
def KpB (n₀ Bs : Nat) (W W' : World) : Prop := Below n₀ W W' ∧ (Bs < W.heap.size → W'.heap[Bs]? = W.heap[Bs]?)
theorem kpB_t {n₀ Bs : Nat} {A B C : World} (h : KpB n₀ Bs A B) (k : KpB n₀ Bs B C) : KpB n₀ Bs A C := ⟨h.1.trans k.1, fun hb => (k.2 (Nat.lt_of_lt_of_le hb h.1.size)).trans (h.2 hb)⟩
theorem kpB_b {n₀ Bs : Nat} {w : World} (hn : n₀ ≤ w.heap.size) (hb : Bs < w.heap.size) (W : World) (l : Nat) (o o' : Obj) (hl : w.heap.size ≤ l) (h : W.heap[l]? = some o) (h1 : o.isCells = false) (h2 : o.isWalk = false) : KpB n₀ Bs W (W.putObj l o') :=
 ⟨belowK_b hn W l o o' hl h h1 h2, fun _ => World.putObj_heap_other (by omega)⟩
def encB (l : List S40) (i : Nat) : Array Value := #[.int .i64 (i : Int), .agg #[.int .i64 (rd_T40 l (i : Int)).f0, .int .i64 (rd_T40 l (i : Int)).f1]]
set_option maxRecDepth 100000 in
set_option maxHeartbeats 4000000 in
/-- The closure that slices.Backward hands back: from the last to the first. -/
theorem impl_BackTurns.it (F : Fence) (n : Nat) (hF : F.fn 118) (hro : F.round = none) (hn : 1 ≤ n) (l Bs : Nat) (w0 : World) (A : Option Addr) (c : Nat) (xs : List S40) (hsz : xs.length ≤ 100000) (hr : Kd.C k40 w0 A xs.length xs) (J Jx : List Nat → World → Prop)
  (hY : ∀ pre x W, J pre W → pre.length < xs.length → YieldAt F (n - 1) Try.prog l (encB xs x) W fun e W' =>
   (e = .returned (.bool true) ∧ J (pre ++ [x]) W' ∧ KpB w0.heap.size Bs W W') ∨ (e = .returned (.bool false) ∧ Jx (pre ++ [x]) W'))
  (W : World) (hBs : W.heap[Bs]? = some (.cells #[.slice A xs.length c] 26 (0, 0))) (hW : Below w0.heap.size w0 W) (h0 : J [] W) :
  CallsIn F n Try.prog 118 #[.func (.yield l) #[] #[], .pointer (some ⟨Bs, 0, none⟩)] W fun e W' => (∃ v, e = .returned v) ∧
   ((∃ ys, ys = bk xs.length xs.length ∧ J ys W') ∨ (∃ pre, True ∧ Jx pre W')) := by
 have hcB : W.cell? ⟨Bs, 0, none⟩ = some (.slice A xs.length c) := (blk_cell hBs 0).trans rfl
 have HY := Aside0.mk hY
 have HB := Aside0.mk hBs
 clear hY hBs
 refine callsIn_of_wp Try.func118 rfl hF ?_ hro
 simp only [Try.ntmps118, List.size_toArray, List.length_cons, List.length_nil, Nat.reduceAdd, Nat.reduceSub, Array.replicate_succ, Array.replicate_zero, List.push_toArray, List.append_toArray, List.nil_append, List.cons_append]
 gi_wp2
 gi_loopw [3] (fun i wr => ∃ k m : Nat, k + m = xs.length ∧ i = .int .i64 ((m : Int) - 1) ∧ J (bk xs.length k) wr ∧ Below w0.heap.size w0 wr ∧ wr.heap[Bs]? = some (.cells #[.slice A xs.length c] 26 (0, 0)))
  (fun i _ => (intOf i + 1).toNat)
 case atStart => exact ⟨0, xs.length, Nat.zero_add _, rfl, h0, hW, HB.out⟩
 case round =>
  obtain ⟨k, m, hk, hi, hJs, hnx, hbx⟩ := hrel
  have hcB2 : wr.cell? ⟨Bs, 0, none⟩ = some (.slice A xs.length c) := (blk_cell hbx 0).trans rfl
  have HX := Aside0.mk hbx
  have HN := Aside0.mk hnx
  clear hbx hnx
  cases m with
  | succ m =>
   rw [show ((m + 1 : Nat) : Int) - 1 = (m : Int) by omega] at hi
   subst hi
   obtain ⟨ad, eA, hx0, hx1⟩ := at_T40 (Kd.C_below hr HN.out) (m : Int) (by omega) (by omega)
   subst eA
   rw [Int.toNat_natCast] at hx0 hx1
   obtain ⟨fn, tmps, assign, body, hy, hR⟩ := HY.out _ m wr hJs (by rw [bk_length]; omega)
   have HR := Aside0.mk hR
   have HK := Aside0.mk hk
   have hm : m < xs.length := by omega
   clear hR hk
   dsimp only [encB] at hy
   gi_wp2
   refine HR.out.mono ?_
   rintro e W3 (⟨rfl, hJ3, hk3⟩ | ⟨rfl, hJx3⟩)
   ·gi_wp2
    go_roundw
    case rel => exact ⟨k + 1, m, by have := HK.out; omega, by simp, by rw [bk_succ, show xs.length - 1 - k = m by have := HK.out; omega]; exact hJ3, HN.out.trans hk3.1, (hk3.2 (blk_lt HX.out)).trans HX.out⟩
    case measure => simp [intOf]
   ·gi_wp2
    refine bodyPost_ret (results_none rfl _ _ _) rfl ?_
    exact ⟨⟨_, rfl⟩, .inr ⟨_, trivial, hJx3⟩⟩
  | zero =>
   subst hi
   obtain rfl : k = xs.length := by omega
   gi_wp2
   go_end0
   exact ⟨⟨_, rfl⟩, .inl ⟨_, rfl, hJs⟩⟩
theorem impl_BackTurns.stops (F : Fence) (n : Nat) (hF : F.fn 118) (hro : F.round = none) (hn : 1 ≤ n) (Bs : Nat) (w0 W0 : World) (A : Option Addr) (c : Nat) (xs : List S40) (hsz : xs.length ≤ 100000) (hr : Kd.C k40 w0 A xs.length xs)
  (hB : W0.heap[Bs]? = some (.cells #[.slice A xs.length c] 26 (0, 0))) (hW : Below w0.heap.size w0 W0) :
  SeqStopsK F n Try.prog 118 #[.pointer (some ⟨Bs, 0, none⟩)] (encB xs) (KpB w0.heap.size Bs) (fun ys => ys = bk xs.length xs.length) (fun _ => True) xs.length W0 := fun l J Jx W hW1 _ _ hY h0 =>
 impl_BackTurns.it F n hF hro hn l Bs w0 A c xs hsz hr J Jx hY W ((hW1.block Bs (blk_lt hB)).trans hB) (hW.trans (hW1.mono hW.size)) h0
set_option maxHeartbeats 1000000 in
theorem impl_BackTurns.mk (F : Fence) (n : Nat) (hF : F.fn 73) (hro : F.round = none) (a : Option Addr) (len cap : Nat) (w : World) :
  CallsIn F n Try.prog 73 #[.slice a len cap] w fun e w' => e = .returned (.func (.func 118) #[] #[.pointer (some ⟨w.heap.size, 0, none⟩)]) ∧ w' = w.alloc (.cells #[.slice a len cap] 26) := by
 refine callsIn_of_wp Try.func73 rfl hF ?_ hro
 simp only [Try.ntmps73, List.size_toArray, List.length_cons, List.length_nil, Nat.reduceAdd, Nat.reduceSub, Array.replicate_succ, Array.replicate_zero, List.push_toArray, List.append_toArray, List.nil_append, List.cons_append]
 gi_wp2
 go_ret
 exact ⟨rfl, rfl⟩
theorem cells_new_ (W : World) (e : TypeId) (cs : List Value) : ∀ (j : Nat) (u : Value), cs[j]? = some u → (W.alloc (.cells cs.toArray e)).cell? ((⟨W.heap.size, 0, none⟩ : Addr).add j) = some u := fun j u h => by
 have h1 := blk_cell (World.alloc_heap_new W (.cells cs.toArray e)) j
 rw [add_plain, h1]
 simpa using h
def cellsB (l : List S40) (pre : List Nat) : List Value := pre.flatMap fun (i : Nat) => [.int .i64 (rd_T40 l (i : Int)).f0, .int .i64 (wrap64 (-(rd_T40 l (i : Int)).f1))]
theorem cellsB_length (l : List S40) : ∀ pre : List Nat, (cellsB l pre).length = pre.length * 2
 | [] => rfl
 | i :: pre => by
  have := cellsB_length l pre
  unfold cellsB at this ⊢
  rw [List.flatMap_cons, List.length_append, this, List.length_cons]
  simp; omega
theorem cellsB_reps (l : List S40) : ∀ pre : List Nat, Reps (fun (x : S40) (cs : List Value) => cs = [.int .i64 x.f0, .int .i64 x.f1]) 2 (pre.map fun (i : Nat) => negT (rd_T40 l (i : Int))) (cellsB l pre)
 | [] => ⟨rfl, fun j p hj => by simp at hj⟩
 | i :: pre => by
  have ih := cellsB_reps l pre
  refine ⟨by rw [cellsB_length, List.length_map], fun j p hj => ?_⟩
  cases j with
  | zero =>
   have : negT (rd_T40 l (i : Int)) = p := by simpa using hj
   subst this
   rfl
  | succ j =>
   have h2 := ih.2 j p (by simpa using hj)
   rw [← h2]
   show ((cellsB l (i :: pre)).drop ((j + 1) * 2)).take 2 = _
   rw [Nat.add_mul, Nat.one_mul, Nat.add_comm, ← List.drop_drop]
   rfl
theorem cellsB_snoc (l : List S40) (pre : List Nat) (i : Nat) : cellsB l (pre ++ [i]) = cellsB l pre ++ [.int .i64 (rd_T40 l (i : Int)).f0, .int .i64 (wrap64 (-(rd_T40 l (i : Int)).f1))] := by simp [cellsB]
set_option maxRecDepth 100000 in
set_option maxHeartbeats 8000000 in
theorem impl_BackTurns.calls (k : Nat) (a0_0 : Int) (a0_1 : Int) (A1 : Option Addr) (c1 : Nat) (l1 : List S40) (r1 : List S40) (r2 : Bool) (w : World) (hr1 : Kd.C k40 w A1 l1.length l1) (hc1 : l1.length ≤ c1) (h : impl_BackTurns.f k a0_0 a0_1 l1 = some (r1, r2)) :
  Calls Try.prog 17 #[.agg #[.int .i64 a0_0, .int .i64 a0_1], .slice A1 l1.length c1] w fun e w' => ∃ v0_ : Value, e = .returned (.tuple #[v0_, .bool r2]) ∧ Kd.R k40 40 w' w.heap.size (fun _ => True) v0_ r1 ∧ Below w.heap.size w w' := by
 unfold impl_BackTurns.f at h
 obtain ⟨b1, hb1, h⟩ := Option.bind_eq_some_iff.mp h
 have A1' := Aside0.mk hb1
 clear hb1
 refine (callsIn_wide (n := 6)).1 ?_
 have hR := Aside0.mk hr1
 have hC := Aside0.mk hc1
 clear hr1 hc1
 refine callsIn_of_wp_marks Try.func17 rfl trivial ?_ rfl
 simp only [Try.ntmps17, List.size_toArray, List.length_cons, List.length_nil, Nat.reduceAdd, Nat.reduceSub, Array.replicate_succ, Array.replicate_zero, List.push_toArray, List.append_toArray, List.nil_append, List.cons_append]
 have hf1 : Fence.wide.fn 22 := trivial
 have hf2 : Fence.wide.fn 68 := trivial
 have hf3 : Fence.wide.fn 73 := trivial
 cases b1 with
 | false =>
  rw [if_neg (by decide)] at h
  have h' := Aside0.mk (Option.some.inj h)
  clear h
  gi_wp2_with (gi_at_call 22; refine (callsIn_wide.2 (impl_IsLock.calls a0_0 a0_1 false _ A1'.out)).mono ?_; rintro e w1 ⟨rfl, hb⟩)
  obtain ⟨rfl, rfl⟩ := Prod.mk.inj h'.out
  exact ⟨.tuple #[.slice none 0 0, .bool false], by simp [results, Try.f17, go_sem], _, rfl, Kd.R_nil _ _ _ _ _, ((Below.refl _ w).alloc (Nat.le_refl _) _).trans (hb.mono (by simp))⟩
 | true =>
  rw [if_pos rfl] at h
  obtain ⟨b2, hb2, h⟩ := Option.bind_eq_some_iff.mp h
  have A2' := Aside0.mk hb2
  clear hb2
  cases b2 with
  | false =>
   rw [if_neg (by decide)] at h
   have h' := Aside0.mk (Option.some.inj h)
   clear h
   gi_wp2_with (first
    | (gi_at_call 22; refine (callsIn_wide.2 (impl_IsLock.calls a0_0 a0_1 true _ A1'.out)).mono ?_; rintro e w1 ⟨rfl, hb⟩; have B1 := Aside0.mk hb; have hcc0 := (hb.block w.heap.size (by simp)).trans (World.alloc_heap_new w _); have hcc1 := (blk_cell hcc0 0).trans rfl; clear hb)
    | (gi_at_call 68; refine (callsIn_wide.2 (impl_areTurns.calls k A1 c1 l1 a0_0 false _ (Kd.C_below hR.out (((Below.refl _ w).alloc (Nat.le_refl _) _).trans (B1.out.mono (by simp)))) hC.out A2'.out)).mono ?_; rintro e w2 ⟨rfl, hb⟩; have B2 := Aside0.mk hb; clear hb))
   obtain ⟨rfl, rfl⟩ := Prod.mk.inj h'.out
   have hB1 := (((Below.refl _ w).alloc (Nat.le_refl _) _).trans (B1.out.mono (by simp)))
   exact ⟨.tuple #[.slice none 0 0, .bool false], by simp [results, Try.f17, go_sem], _, rfl, Kd.R_nil _ _ _ _ _, hB1.trans (B2.out.mono hB1.size)⟩
  | true =>
   rw [if_pos rfl] at h
   by_cases hsz : l1.length ≤ 100000
   case neg => rw [if_neg hsz] at h; cases h
   rw [if_pos hsz] at h
   have h' := Aside0.mk (Option.some.inj h)
   clear h
   gi_wp2_with (first
    | (gi_at_call 22; refine (callsIn_wide.2 (impl_IsLock.calls a0_0 a0_1 true _ A1'.out)).mono ?_; rintro e w1 ⟨rfl, hb⟩; have B1 := Aside0.mk hb; have hcc0 := (hb.block w.heap.size (by simp)).trans (World.alloc_heap_new w _); have hcc1 := (blk_cell hcc0 0).trans rfl; clear hb)
    | (gi_at_call 68; refine (callsIn_wide.2 (impl_areTurns.calls k A1 c1 l1 a0_0 true _ (Kd.C_below hR.out (((Below.refl _ w).alloc (Nat.le_refl _) _).trans (B1.out.mono (by simp)))) hC.out A2'.out)).mono ?_; rintro e w2 ⟨rfl, hb⟩; have B2 := Aside0.mk hb; clear hb)
    | (gi_at_call 73; refine (impl_BackTurns.mk Fence.wide _ trivial rfl _ _ _ _).mono ?_; rintro e w3 ⟨rfl, rfl⟩))
   have hB1 := (((Below.refl _ w).alloc (Nat.le_refl _) (.cells #[.int .i64 a0_0, .int .i64 a0_1] 25)).trans (B1.out.mono (by simp)))
   have hB2 := hB1.trans (B2.out.mono hB1.size)
   clear hcc0 hcc1
   have hs2 := hB2.size
   have bO := (Boxed.new (w2.alloc (.cells #[] 40)) 26 (.slice (some ⟨w2.heap.size, 0, none⟩) 0 0)).alloc (.cells #[.slice A1 l1.length c1] 26)
   have bS := Boxed.new ((w2.alloc (.cells #[] 40)).alloc (.cells #[.slice (some ⟨w2.heap.size, 0, none⟩) 0 0] 26)) 26 (.slice A1 l1.length c1)
   have own0 : (((w2.alloc (.cells #[] 40)).alloc (.cells #[.slice (some ⟨w2.heap.size, 0, none⟩) 0 0] 26)).alloc (.cells #[.slice A1 l1.length c1] 26)).ownsRow w.heap.size 40 2 (.slice (some ⟨w2.heap.size, 0, none⟩) 0 0) 0 [] :=
    ⟨rfl, .inr ⟨w2.heap.size, 0, #[], rfl, hs2, ((Below.heap_alloc _ _ _ (by simp; omega)).trans (Below.heap_alloc _ _ _ (by simp))).trans (World.alloc_heap_new w2 _), Nat.le_refl _, by decide, rfl, rfl⟩⟩
   have hB0 : Below w.heap.size w (((w2.alloc (.cells #[] 40)).alloc (.cells #[.slice (some ⟨w2.heap.size, 0, none⟩) 0 0] 26)).alloc (.cells #[.slice A1 l1.length c1] 26)) :=
    ((hB2.alloc hs2 _).alloc (by simp; omega) _).alloc (by simp; omega) _
   simp only [World.size_alloc] at bO bS
   have hsz0 : (((w2.alloc (.cells #[] 40)).alloc (.cells #[.slice (some ⟨w2.heap.size, 0, none⟩) 0 0] 26)).alloc (.cells #[.slice A1 l1.length c1] 26)).heap.size = w2.heap.size + 3 := by simp
   obtain ⟨W0, hW0⟩ : ∃ W0, ((w2.alloc (.cells #[] 40)).alloc (.cells #[.slice (some ⟨w2.heap.size, 0, none⟩) 0 0] 26)).alloc (.cells #[.slice A1 l1.length c1] 26) = W0 := ⟨_, rfl⟩
   rw [hW0] at bO bS own0 hB0 hsz0 ⊢
   clear hW0
   obtain ⟨i0, hi, hz0, hz1, hz2⟩ := info_parts info40
   refine wpIn_rangeFunc_ownH rfl (by omega) (gf := 118) (lb := #[.pointer (some ⟨w2.heap.size + 1 + 1, 0, none⟩)]) rfl trivial (enters_of Try.func118 (by kernel_rfl) rfl)
    (impl_BackTurns.stops Fence.wide _ trivial rfl (by omega) (w2.heap.size + 1 + 1) w W0 A1 c1 l1 hsz hR.out bS hB0) kpB_t (kpB_b (by omega) (by omega)) (Below.refl _ _) (fun _ => rfl)
    (fun pre W => ((∃ v, Boxed W (w2.heap.size + 1) 26 v ∧ W.ownsRow w.heap.size 40 2 v pre.length (cellsB l1 pre) ∧ True) ∧ Boxed W (w2.heap.size + 1 + 1) 26 (.slice A1 l1.length c1)) ∧ Below w.heap.size w W)
    (fun _ _ _ => False)
    (OwnFrom.and (OwnFrom.and (Own.from (holdsRow_own w.heap.size (w2.heap.size + 1) 26 40 2 (fun pre : List Nat => pre.length) (fun pre => cellsB l1 pre) (fun _ _ => True)) _) (Own.from (boxed_own _ _ _) _)) (ownFrom_below (Nat.le_refl _) (by omega)))
    (fun _ _ _ _ _ hs _ _ => hs)
    ⟨⟨⟨_, bO, own0, trivial⟩, bS⟩, hB0⟩
    (fun x a' W => ∃ Bx, w2.heap.size + 1 + 1 < Bx ∧ W.heap[Bx]? = some (.cells #[.int .i64 (rd_T40 l1 ((x : Nat) : Int)).f0, .int .i64 (rd_T40 l1 ((x : Nat) : Int)).f1] 40 (0, 0)) ∧ a' = { tmps := #[.agg #[.int .i64 a0_0, .int .i64 a0_1], .slice A1 l1.length c1, .pointer (some ⟨w.heap.size, 0, none⟩), undef, .slice none 0 0, .bool false, .pointer (some ⟨w2.heap.size + 1, 0, none⟩), undef, .pointer (some ⟨Bx, 0, none⟩), .agg #[.int .i64 a0_0, .int .i64 a0_1], .bool true, .bool false, .bool false, .slice A1 l1.length c1, .pointer (some ⟨w.heap.size, 0, none⟩), .int .i64 a0_0, .bool true, .bool false, .bool false, .slice (some ⟨w2.heap.size, 0, none⟩) 0 0, .slice A1 l1.length c1, .func (.func 118) #[] #[.pointer (some ⟨w2.heap.size + 1 + 1, 0, none⟩)], .int .i64 ((x : Nat) : Int), .agg #[.int .i64 (rd_T40 l1 ((x : Nat) : Int)).f0, .int .i64 (rd_T40 l1 ((x : Nat) : Int)).f1], undef, undef, undef, undef, undef, undef, undef, undef, undef, undef], defers := [] })
    (fun x a' _ X Y row hs hg hr => by
     obtain ⟨Bx, h1, h2, h3⟩ := hs
     refine ⟨Bx, h1, (hg.block Bx (blk_lt h2) (fun e => ?_)).trans h2, h3⟩
     obtain ⟨_, o, ho, hc⟩ := hr Bx e.symm
     rw [h2] at ho
     cases ho
     cases hc)
    ?assign ?body ?done ?stop
   case assign =>
    rintro l pre x W K ⟨⟨⟨v, bv, hrow, _⟩, bs⟩, hB⟩ hK
    unfold encB
    gi_wp2
    exact hK _ _ ((KeepsOthers.alloc _ _).from _) ⟨(Below.refl _ W).alloc hB.size _, fun hb => Below.heap_alloc _ _ _ hb⟩ ⟨⟨⟨_, bv.alloc _, hrow.alloc _, trivial⟩, bs.alloc _⟩, hB.alloc hB.size _⟩ ⟨W.heap.size, bs.lt, World.alloc_heap_new W _, rfl⟩
   case body =>
    rintro l pre x a' W hl ⟨r, hr⟩ ⟨⟨⟨v, bv, hrow, _⟩, bs⟩, hB⟩ ⟨Bx, hBx, bX, rfl⟩ hlt
    have cv := bv.cell
    have cx0 := (blk_cell bX 0).trans rfl
    have cx1 := (blk_cell bX 1).trans rfl
    gi_wp2_with (gi_at_builtin; refine wpListIn_append_own _ rfl _ _ 26 rfl w.heap.size 40 i0 (.agg #[.int .i64 0, .int .i64 0]) 2 16 Try.underlying26 hi hz0 hz1 hz2 rfl (by decide) _ _ _ rfl (hrow.alloc _) ⟨W.heap.size, 0, none⟩ 1 1 [.int .i64 (rd_T40 l1 ((x : Nat) : Int)).f0, .int .i64 (wrap64 (-(rd_T40 l1 ((x : Nat) : Int)).f1))] rfl rfl (cells_new_ _ _ _) (by simp [Value.oneCell']) (by unfold maxLen; omega) (by omega) (by have := hB.size; simp; omega) ?_; intro v' w1' hown' hgrow _; obtain ⟨g', cap', rfl⟩ := ownsRow_succ hown'; obtain ⟨hv1, hv2, hr2, hk2, hb2⟩ := bv.appended (by decide) hrow hB.size (by omega) hown' hgrow; have hbs1 := ((bs.alloc _).kept hgrow (bs.not_row (by decide) hrow)).other (show w2.heap.size + 1 + 1 ≠ w2.heap.size + 1 by omega) (Value.slice (some ⟨g', 0, none⟩) (pre.length + 1) cap'); have hc1 := hv1.cell; have hf1 := hv1.frozen)
    exact ⟨hk2.from _, ⟨hb2, fun _ => hbs1.trans bs.symm⟩, ⟨⟨_, hv2, by rw [List.length_append, cellsB_snoc]; exact hr2, trivial⟩, hbs1⟩, hB.trans hb2⟩
   case done =>
    rintro D ys W hD rfl ⟨⟨⟨v, bv, hrow, _⟩, bs⟩, hB⟩ hK
    have cv := bv.cell
    gi_wp2
    refine ⟨by simp, .inl ⟨_, _, rfl, run_takeDeferred hK, ?_⟩⟩
    obtain ⟨rfl, rfl⟩ := Prod.mk.inj h'.out
    refine ⟨.tuple #[v, .bool true], by simp [results, Try.f17, go_sem], v, rfl, ⟨fun _ _ => trivial, cellsB l1 (bk l1.length l1.length), ?_, ?_⟩, hB.trans (belowK_b (w := w) (Nat.le_refl _) W D _ _ (by omega) hK rfl rfl)⟩
    ·have h2 := ownsRow_putObj hrow (.deferred none) hK rfl
     have h3 : (backT l1).length = (bk l1.length l1.length).length := by simp [backT]
     rw [h3]
     exact h2
    ·exact (cellsB_reps l1 (bk l1.length l1.length)).imp_ (fun x cs hx => by rw [hx]; exact k40_mkM _ _ _ x)
   case stop =>
    rintro D c pre W _ _ h _
    exact h.elim
end

end Go.Proofs.Ytoaekmghlmeflaa.U
