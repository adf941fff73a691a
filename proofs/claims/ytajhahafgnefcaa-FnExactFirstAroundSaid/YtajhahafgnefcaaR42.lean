import Derived.Lib.Mul64
import Derived.Outline
import Derived.Deep.RegionLaw
import Derived.Laws.Bits64b
import Derived.Laws.CopyOwn
import Derived.Test.YtajhahafgnefcaaR0
namespace Go.Proofs.Ytajhahafgnefcaa.R
open Go.RowKit Go.Proofs.YtajhahafgnefcaaW.PrintWords Go.Proofs.YtajhahafgnefcaaW.PrintLast Go.Proofs.YtajhahafgnefcaaW.PrintMore
attribute [local go_sem] max2_int min2_int max_two min_two max_three min_three max_four min_four
set_option linter.unusedVariables false
set_option linter.unusedSimpArgs false

/-! ### Gj: function 119 -/
def Gj.f (a0 : Int) (a1 : Int) : Option (Int × Int) := some (((IntKind.u64.wrap ((IntKind.u64.wrap (a0)) * (IntKind.u64.wrap (a1)))) / 4294967296) % 4294967296, (IntKind.u64.wrap ((IntKind.u64.wrap (a0)) * (IntKind.u64.wrap (a1)))) % 4294967296)
set_option maxHeartbeats 8000000 in
set_option maxRecDepth 100000 in
theorem Gj.calls (a0 : Int) (a1 : Int) (r1 : Int) (r2 : Int) (w : World) (h : Gj.f a0 a1 = some (r1, r2)) :
  Calls Try.prog 119 #[.int .u32 a0, .int .u32 a1] w fun e w' => e = .returned (.tuple #[.int .u32 r1, .int .u32 r2]) ∧ Drawn0 w w' := by
 have H : (some (((IntKind.u64.wrap ((IntKind.u64.wrap (a0)) * (IntKind.u64.wrap (a1)))) / 4294967296) % 4294967296, (IntKind.u64.wrap ((IntKind.u64.wrap (a0)) * (IntKind.u64.wrap (a1)))) % 4294967296)) = some (r1, r2) := h
 clear h; simp only [Option.some.injEq, Prod.mk.injEq] at H
 obtain ⟨rfl, rfl⟩ := H
 go_enter Try.func119, Try.ntmps119
 go_wp2
 go_ret2
 exact ⟨by first | rfl | (simp; done) | (simp [*]; done), by repeat (first | exact Drawn0.refl _ | apply Drawn0.step)⟩

/-! ### Ge: function 120 -/
def Ge.f (a0 : Int) (a1 : Int) : Option (Int × Int) := some (IntKind.u64.wrap ((IntKind.u64.wrap ((IntKind.u64.wrap ((a0 / 4294967296) * (a1 / 4294967296))) + ((IntKind.u64.wrap ((IntKind.u64.wrap ((a0 / 4294967296) * (Go.bits .and .u64 a1 4294967295))) + ((IntKind.u64.wrap ((Go.bits .and .u64 a0 4294967295) * (Go.bits .and .u64 a1 4294967295))) / 4294967296))) / 4294967296))) + ((IntKind.u64.wrap ((Go.bits .and .u64 (IntKind.u64.wrap ((IntKind.u64.wrap ((a0 / 4294967296) * (Go.bits .and .u64 a1 4294967295))) + ((IntKind.u64.wrap ((Go.bits .and .u64 a0 4294967295) * (Go.bits .and .u64 a1 4294967295))) / 4294967296))) 4294967295) + (IntKind.u64.wrap ((Go.bits .and .u64 a0 4294967295) * (a1 / 4294967296))))) / 4294967296)), IntKind.u64.wrap (a0 * a1))
set_option maxHeartbeats 8000000 in
set_option maxRecDepth 100000 in
theorem Ge.calls (a0 : Int) (a1 : Int) (r1 : Int) (r2 : Int) (w : World) (h : Ge.f a0 a1 = some (r1, r2)) :
  Calls Try.prog 120 #[.int .u64 a0, .int .u64 a1] w fun e w' => e = .returned (.tuple #[.int .u64 r1, .int .u64 r2]) ∧ Drawn0 w w' := by
 have H : (some (IntKind.u64.wrap ((IntKind.u64.wrap ((IntKind.u64.wrap ((a0 / 4294967296) * (a1 / 4294967296))) + ((IntKind.u64.wrap ((IntKind.u64.wrap ((a0 / 4294967296) * (Go.bits .and .u64 a1 4294967295))) + ((IntKind.u64.wrap ((Go.bits .and .u64 a0 4294967295) * (Go.bits .and .u64 a1 4294967295))) / 4294967296))) / 4294967296))) + ((IntKind.u64.wrap ((Go.bits .and .u64 (IntKind.u64.wrap ((IntKind.u64.wrap ((a0 / 4294967296) * (Go.bits .and .u64 a1 4294967295))) + ((IntKind.u64.wrap ((Go.bits .and .u64 a0 4294967295) * (Go.bits .and .u64 a1 4294967295))) / 4294967296))) 4294967295) + (IntKind.u64.wrap ((Go.bits .and .u64 a0 4294967295) * (a1 / 4294967296))))) / 4294967296)), IntKind.u64.wrap (a0 * a1))) = some (r1, r2) := h
 clear h; simp only [Option.some.injEq, Prod.mk.injEq] at H
 obtain ⟨rfl, rfl⟩ := H
 go_enter Try.func120, Try.ntmps120
 go_wp2
 go_ret2
 exact ⟨by first | rfl | (simp; done) | (simp [*]; done), by repeat (first | exact Drawn0.refl _ | apply Drawn0.step)⟩

/-! ### Gh: function 118 -/
def Gh.f (a0 : Int) (a1 : Int) : Option (Int × Int) := (Ge.f a0 a1).bind fun bt414 => (some (bt414.1, bt414.2))
set_option maxHeartbeats 8000000 in
set_option maxRecDepth 100000 in
theorem Gh.calls (a0 : Int) (a1 : Int) (r1 : Int) (r2 : Int) (w : World) (h : Gh.f a0 a1 = some (r1, r2)) :
  Calls Try.prog 118 #[.int .u64 a0, .int .u64 a1] w fun e w' => e = .returned (.tuple #[.int .u64 r1, .int .u64 r2]) ∧ Drawn0 w w' := by
 have H : ((Ge.f a0 a1).bind fun bt414 => (some (bt414.1, bt414.2))) = some (r1, r2) := h
 clear h; replace H := Option.bind_eq_some_iff.mp H
 obtain ⟨⟨t414, t415⟩, A30, H⟩ := H
 replace H : (some (t414, t415)) = some (r1, r2) := H
 have A3 := Aside0.mk A30
 clear A30; simp only [Option.some.injEq, Prod.mk.injEq] at H
 obtain ⟨rfl, rfl⟩ := H
 go_enter Try.func118, Try.ntmps118
 go_wp2_with (first | ((with_reducible refine gate_callee (f := 120) rfl ?_); refine goesL_ (some 25) rfl rfl Try.func120 (by kernel_rfl) rfl #[.int .u64 a0, .int .u64 a1] rfl (by (try simp only [List.map_toArray, List.map_cons, List.map_nil]); first | done | rfl | (simp only [List.length_drop, List.length_take]; rfl)) ?_; (with_reducible refine (Ge.calls a0 a1 t414 t415 _ A3.out).mono ?_); rintro e w' ⟨rfl, ⟨nd, rfl⟩⟩; refine ⟨_, rfl, ?_⟩))
 go_ret2
 exact ⟨by first | rfl | (simp; done) | (simp [*]; done), by repeat (first | exact Drawn0.refl _ | apply Drawn0.step)⟩

/-! ### Fq: function 114 -/
def Fq.f (l0 : List Int) (a1 : Int) : Option (List Int) := if l0.length = 1 ∧ 1 ≤ a1 ∧ a1 ≤ 100000 then some (List.replicate a1.toNat (rd l0 0)) else none
theorem Fq.mask (n : Nat) (h : n < 4294967296) : Go.bits .and .u64 (n : Int) 4294967295 = (n : Int) := by
 have h1 := bits_and_u64_nat n 4294967295 (by omega) (by omega)
 have e : n &&& 4294967295 = n := by
  have := Nat.and_two_pow_sub_one_eq_mod n 32
  rw [show (2 : Nat) ^ 32 - 1 = 4294967295 from rfl] at this
  rw [this]; exact Nat.mod_eq_of_lt h
 rw [e] at h1
 exact h1
theorem Fq.mul (n : Nat) (h : n ≤ 100000) : Gh.f 1 (n : Int) = some (0, (n : Int)) := by
 have m0 := Fq.mask 1 (by omega)
 have m1 := Fq.mask n (by omega)
 have m2 := Fq.mask 0 (by omega)
 unfold Gh.f Ge.f
 have w0 : ∀ m : Nat, m ≤ 100000 → IntKind.u64.wrap (m : Int) = (m : Int) := fun m hm => by rw [IntKind.wrap_u64]; omega
 have w1 := w0 n h
 have w2 := w0 0 (by omega)
 rw [show ((1 : Nat) : Int) = 1 from rfl] at m0
 rw [show ((0 : Nat) : Int) = 0 from rfl] at m2 w2
 rw [show (1 : Int) / 4294967296 = 0 from rfl, show (n : Int) / 4294967296 = 0 by omega, m0, m1]
 simp only [Int.zero_mul, Int.mul_zero, Int.one_mul, w1, w2, Int.add_zero, Int.zero_add]
 rw [show (n : Int) / 4294967296 = 0 by omega, w2, m2]
 simp [w2]
theorem Fq.own {w : World} {base n : Nat} {v : Value} {e : Nat} (h : Kd.R (Kd.int .i64) e w base (fun _ => True) v (List.replicate ((n : Int)).toNat 0)) (hn : 1 ≤ n) :
  ∃ g cap, ∃ cur : List Value, v = .slice (some ⟨g, 0, none⟩) n cap ∧ base ≤ g ∧ w.heap[g]? = some (.cells cur.toArray e (0, 0)) ∧ n ≤ cap ∧ cap ≤ maxLen ∧ cur.length = cap := by
 have h := Kd.own_of_R h
 rw [List.length_replicate, Int.toNat_natCast] at h
 obtain ⟨h1, h2 | ⟨g, cap, cur, h2, h3, h4, h5, h6, h7, h8⟩⟩ := h
 ·omega
 ·exact ⟨g, cap, cur.toList, h2, h3, by simpa using h4, h5, h6, by simpa using h7⟩
theorem Fq.cells {w : World} {g e m q : Nat} {a : Int} {cur cs : List Value} (h : w.heap[g]? = some (.cells cur.toArray e (0, 0))) (ht : cur.take m = List.replicate m (.int .i64 a)) (hc : cs = List.replicate q (.int .i64 a)) (hq : q ≤ m) :
  ∀ j v, cs[j]? = some v → w.cell? ((⟨g, 0, none⟩ : Addr).add j) = some v := by
 intro j v hv
 subst hc
 rw [List.getElem?_replicate] at hv
 split at hv
 case isFalse => cases hv
 rename_i hj
 have := congrArg (fun l => l[j]?) ht
 simp only [List.getElem?_replicate, List.getElem?_take, if_pos (show j < m by omega)] at this
 rw [← hv, ← this]
 have e : ((⟨g, 0, none⟩ : Addr).add j) = ⟨g, j, none⟩ := by simp only [Addr.add]; split <;> simp_all
 rw [e]
 simp [World.cell?, h]
theorem Fq.next {m q : Nat} {cur cs : List Value} {x : Value} (ht : cur.take m = List.replicate m x) (hc : cs = List.replicate q x) (hl : m + q ≤ cur.length) :
  (splice cur m cs).take (m + q) = List.replicate (m + q) x := by
 subst hc
 unfold splice
 rw [ht, ← List.append_assoc, List.replicate_append_replicate, List.take_left' (by simp)]
theorem Fq.done {w : World} {g e m base cap : Nat} {a : Int} {cur : List Value} (h : w.heap[g]? = some (.cells cur.toArray e (0, 0))) (ht : cur.take m = List.replicate m (.int .i64 a)) (hl : cur.length = cap) (hb : base ≤ g) (hm : m ≤ cap) (hc : cap ≤ maxLen) :
  Kd.R (Kd.int .i64) e w base (fun _ => True) (.slice (some ⟨g, 0, none⟩) m cap) (List.replicate m a) := by
 refine Kd.R_of_own ?_ (fun _ _ => trivial)
 refine ⟨by simp [encs], .inr ⟨g, cap, cur.toArray, by rw [List.length_replicate], hb, h, by simpa using hm, hc, by simpa using hl, ?_⟩⟩
 simp [encs, ht]
theorem Fq.one {a v : Value} {j : Nat} (h : [a][j]? = some v) : j = 0 ∧ v = a := by
 cases j with
 | zero => exact ⟨rfl, (Option.some.inj h).symm⟩
 | succ j => cases h
set_option maxHeartbeats 8000000 in
set_option maxRecDepth 100000 in
theorem Fq.calls (A0 : Option Addr) (c0 : Nat) (l0 : List Int) (a1 : Int) (r : List Int) (w : World) (hr0 : Kd.C (Kd.int .i64) w A0 l0.length l0) (hc0 : l0.length ≤ c0) (h : Fq.f l0 a1 = some r) :
  Calls Try.prog 114 #[.slice A0 l0.length c0, .int .i64 a1] w fun e w' => ∃ v0_ : Value, e = .returned (v0_) ∧ Kd.R (Kd.int .i64) 3 w' w.heap.size (fun _ => True) v0_ r ∧ Below w.heap.size w w' := by
 unfold Fq.f at h
 split at h
 case isFalse => cases h
 rename_i hh
 obtain ⟨h1, h2, h3⟩ := hh
 obtain ⟨a, rfl⟩ := List.length_eq_one_iff.1 h1
 obtain ⟨n, rfl⟩ := Int.eq_ofNat_of_zero_le (show 0 ≤ a1 by omega)
 injection h with h
 have hrd : rd [a] 0 = a := rfl
 rw [hrd, Int.toNat_natCast] at h
 subst h
 obtain ⟨ad, rfl, hcell⟩ := hr0.2.2 (by simp)
 obtain ⟨c, hc1, hc2, hc3⟩ := hcell 0 a rfl
 have hc2' : c = [.int .i64 a] := hc2
 subst hc2'
 have hx0 := hc3 0 _ rfl
 simp only [Nat.zero_mul, Nat.add_zero, Addr.add_zero'] at hx0
 simp only [List.length_singleton] at hc0 ⊢
 clear hc1 hc2 hc3 hcell hrd h1 hr0; have b1 : decide ((n : Int) < 0) = false := decide_eq_false (by omega)
 have b2 : decide ((9223372036854775807 : Int) < (n : Int)) = false := decide_eq_false (by omega)
 have hmul := Aside0.mk (Fq.mul n (by omega))
 go_enter Try.func114, Try.ntmps114
 have h2n : 1 ≤ n := by omega
 obtain ⟨cs1, hcs1⟩ : ∃ cs1 : List Value, cs1 = [.int .i64 a] := ⟨_, rfl⟩
 have e0 : (IntKind.i64.wrap ((n : Nat) : Int)) = (n : Int) := by rw [IntKind.wrap_i64]; omega
 have e1 : (IntKind.u64.wrap ((n : Nat) : Int)) = (n : Int) := by rw [IntKind.wrap_u64]; omega
 have e2 : (IntKind.u64.wrap 1) = 1 := by rw [IntKind.wrap_u64]; rfl
 have hn1 : cs1.length = Nat.min 1 n := by rw [hcs1]; show 1 = min 1 n; omega
 have ho1 : ∀ v ∈ cs1, v.oneCell' = true := by rw [hcs1]; simp [Value.oneCell']
 go_wp2_with (first
  | (go_at_call 118; refine (Gh.calls 1 (n : Int) 0 (n : Int) _ hmul.out).mono ?_; rintro e w1 ⟨rfl, hd⟩; have HB1 := Aside0.mk hd.below; clear hd)
  | (refine Kd.R_make (Kd.int .i64) _ 3 rfl (N := 30) rfl 71 _ _ rfl (n : Int) rfl rfl Try.underlying71 (.int .i64 0) 8 info3 rfl (by decide) (by omega) 0 (ok := fun _ => True) (okp := fun _ => True) rfl (fun _ hk => hk) trivial (by omega) (by omega) HB1.out HB1.out.size ?_; intro v1 w7 ho hb hg_ hnew_; clear hg_ hnew_; obtain ⟨g, cap, cur, rfl, hbg, hrow, hcap, hcap2, hsz⟩ := Fq.own ho h2n; clear ho; have Hrow := Aside0.mk hrow; clear hrow; have HB := Aside0.mk hb; clear hb)
  | (refine wpList_copy_splice rfl (.tmp 31) (.tmp 32) 71 71 rfl 3 Try.underlying71 rfl (some ⟨g, 0, none⟩) (some ad) n cap 1 c0 rfl rfl g 0 cur 3 Hrow.out cs1 hn1 (fun _ => ⟨rfl, ad, rfl, fun j v hj => by rw [hcs1] at hj; obtain ⟨rfl, rfl⟩ := Fq.one hj; rw [Addr.add_zero']; exact (HB.out.cell (World.block_lt_of_cell? w _ hx0)).trans hx0⟩) (by rw [hcs1]; show 0 + 1 ≤ _; omega) ho1 w.heap.size w HB.out hbg ?_; intro w4 hg4 hb4))
 go_loopg [8] n (fun gk v8 w' => ∃ (m : Nat) (cur' : List Value), v8 = .int .i64 m ∧ Aside0 (1 ≤ m) ∧ Aside0 (m ≤ n) ∧ Aside0 (n - m ≤ gk) ∧ Aside0 (cur'.length = cap) ∧ Aside0 (w'.heap[g]? = some (.cells cur'.toArray 3 (0, 0))) ∧ Aside0 (cur'.take m = List.replicate m (.int .i64 a)) ∧ Aside0 (Below w.heap.size w w'))
 case atStart => 
  exact ⟨1, splice cur 0 cs1, by first | rfl | (rw [hcs1]; rfl) | simp, ⟨by omega⟩, ⟨by omega⟩, ⟨by omega⟩, ⟨by rw [length_splice _ _ _ (by rw [hcs1]; show 0 + 1 ≤ _; omega)]; exact hsz⟩, ⟨hg4⟩, ⟨by rw [hcs1]; rfl⟩, ⟨hb4⟩⟩
 case round =>
  obtain ⟨m, cur', rfl, H1, H2, H3, H4, H5, H6, H7⟩ := hrel
  have G1 := H1.out
  have G2 := H2.out
  by_cases hm : m < n
  ·have d1 : decide ((m : Int) < (n : Int)) = true := decide_eq_true (by omega)
   have G3 := H3.out
   have G4 := H4.out
   obtain ⟨q, hq⟩ : ∃ q, q = min m (n - m) := ⟨_, rfl⟩
   obtain ⟨cs, hcs⟩ : ∃ cs : List Value, cs = List.replicate q (.int .i64 a) := ⟨_, rfl⟩
   have hql : cs.length = q := by rw [hcs, List.length_replicate]
   have hqn : cs.length = Nat.min m (n - m) := by rw [hql, hq]
   have ho2 : ∀ v ∈ cs, v.oneCell' = true := by rw [hcs]; intro v hv; rw [(List.mem_replicate.1 hv).2]; rfl
   obtain ⟨k1, rfl⟩ : ∃ k1, gk = k1 + 1 := ⟨gk - 1, by omega⟩
   have d2 : (0 : Int) ≤ (m : Int) := by omega
   have d3 : (m : Int) ≤ (n : Int) := by omega
   have d4 : m ≤ n := G2
   have d5 : m ≤ cap := by omega
   have d6 : (m : Int) ≤ (cap : Int) := by omega
   have d7 : ¬ m = cap := by omega
   have d9 : ¬ cap = m := by omega
   have dd8 : IntKind.i64.wrap ((m : Int) + ((min m (n - m) : Nat) : Int)) = ((m + q : Nat) : Int) := by rw [← hq, IntKind.wrap_i64]; omega
   have d8 : IntKind.i64.wrap ((m : Int) + (cs.length : Int)) = ((m + q : Nat) : Int) := by rw [hql, IntKind.wrap_i64]; omega
   go_wp2_with fail
   go_region_law (refine step_copy_splice rfl (.tmp 41) (.tmp 44) 71 71 rfl 3 Try.underlying71 rfl (some ⟨g, m, none⟩) (some ⟨g, 0, none⟩) (n - m) (cap - m) m cap (by simp [Act.eval, Act.put]) (by simp [Act.eval, Act.put]) g m cur' 3 H5.out cs hqn (fun _ => ⟨rfl, _, rfl, Fq.cells H5.out H6.out hcs (by omega)⟩) (by omega) ho2 w.heap.size w (by repeat (first | exact H7.out | apply below_drew1)) hbg ?_; intro w5 hg5 hb5)
   go_wp2
   go_roundg k1
   case measure => omega
   case rel => exact ⟨m + q, splice cur' m cs, (by first | (rw [d8]; done) | (rw [dd8]; done) | (rw [← hq, Int.natCast_add]; done)), ⟨by omega⟩, ⟨by omega⟩, ⟨by have := H3.out; omega⟩, ⟨by rw [length_splice _ _ _ (by omega)]; exact G4⟩, ⟨hg5⟩, ⟨Fq.next H6.out hcs (by omega)⟩, ⟨hb5⟩⟩
  ·have d1 : decide ((m : Int) < (n : Int)) = false := decide_eq_false (by omega)
   have G5 : m = n := by omega
   subst G5
   go_wp2
   go_ret
   exact ⟨_, by first | rfl | (simp; done), Fq.done H5.out H6.out H4.out hbg hcap hcap2, by repeat (first | exact H7.out | apply below_drew1)⟩

end Go.Proofs.Ytajhahafgnefcaa.R
