-- Written by a program of this session (p2.sh: a patched copy of the kit's printer) out of the translation; not by print.sh. Lean checks it.
import Derived.Lib.Mul64
import Derived.Outline
import Derived.Deep.RegionLaw
import Derived.Laws.Bits64b
import Derived.Laws.CopyOwn
import Derived.Test.YtoaekmghlmeflaaQ0
import Derived.Test.YtoaekmghlmeflaaQ12
namespace Go.Proofs.Ytoaekmghlmeflaa.Q
open Go.RowKit Go.Proofs.YtoaekmghlmeflaaW.PrintWords Go.Proofs.YtoaekmghlmeflaaW.PrintLast Go.Proofs.YtoaekmghlmeflaaW.PrintMore
attribute [local go_sem] max2_int min2_int max_two min_two max_three min_three max_four min_four   -- for this text's walks alone
set_option linter.unusedVariables false
set_option linter.unusedSimpArgs false

/-! ### impl_Turn: function 109 -/
theorem run_copy_rowK_ (P : Program) (z : Nat) (w : World) (dT sT ty elem : TypeId) (g o dLen dCap : Nat) (a : Addr) (sLen sCap : Nat) (cur : List Value) (t : TypeId) (cs : List Value)
  (hu : P.underlying dT = some (.slice elem)) (hs : (P.info? elem).map (·.size) = some z) (hg : w.heap[g]? = some (.cells cur.toArray t (0, 0))) (hn : cs.length = Nat.min sLen dLen * z)
  (hsrc : ∀ j v, cs[j]? = some v → w.cell? (a.add j) = some v) (hfit : o + cs.length ≤ cur.length) (h1 : ∀ v ∈ cs, v.oneCell' = true) :
  (Builtin.copy_ #[dT, sT] ty #[.slice (some ⟨g, o, none⟩) dLen dCap, .slice (some a) sLen sCap]).run P w = .ok (goInt (Nat.min sLen dLen)) (w.setRow g (splice cur o cs).toArray) := by
 have hl := run_loadCells_list (P := P) w a cs hsrc
 have hst := run_storeCells_at P g o t cs 0 cur.toArray w hg (by simpa using hfit) h1
 cases hq : P.info? elem with
 | none => simp [hq] at hs
 | some i =>
  have hi : i.size = z := by simpa [hq] using hs
  simp [Builtin.copy_, run_underlying hu, Builtin.lenOf, Builtin.firstCells, sizeOf, typeInfo, hq, hi, ← hn, hl, hst, splice]
theorem wpList_copyK_ {P : Program} {w : World} {ops : Array Oper} {rest : List Oper} {o : Oper} {a : Act} {Q : Exit → Act → World → Prop} (z : Nat) (hgd : o.guard = none) (d s : Operand) (dT sT : TypeId)
  (ho : o.op = .call { callee := .builtin .copy, args := #[d, s], argTypes := #[dT, sT] }) (elem : TypeId) (hu : P.underlying dT = some (.slice elem)) (hsz : (P.info? elem).map (·.size) = some z)
  (ad : Addr) (dLen dCap sLen sCap : Nat) (g off : Nat) (hd : a.eval d = .slice (some ⟨g, off, none⟩) dLen dCap) (hs : a.eval s = .slice (some ad) sLen sCap)
  (cur : List Value) (t : TypeId) (hg : w.heap[g]? = some (.cells cur.toArray t (0, 0))) (cs : List Value) (hn : cs.length = Nat.min sLen dLen * z)
  (hsrc : ∀ j v, cs[j]? = some v → w.cell? (ad.add j) = some v)
  (hfit : off + cs.length ≤ cur.length) (h1 : ∀ v ∈ cs, v.oneCell' = true) (B : Nat) (w0 : World) (hb : Below B w0 w) (hBg : B ≤ g)
  (h : ∀ w', Hid (w'.heap[g]? = some (.cells (splice cur off cs).toArray t (0, 0))) → Below B w0 w' → wpList P ops Q rest (a.put o.dst (goInt (Nat.min sLen dLen))) w') :
  wpList P ops Q (o :: rest) a w := by
 refine wpList_plain hgd fun K hK => ?_
 have hrun := run_copy_rowK_ P z w dT sT o.type elem g off dLen dCap ad sLen sCap cur t cs hu hsz hg hn hsrc hfit h1
 unfold Oper.wp
 simp [execOp, ho, resolve, invoke, builtin, hd, hs, hrun, Result.andThen]
 exact hK _ _ (h _ (show _ = _ from setRow_heap w g _ _ t _ hg) (below_setRow hb hBg _))
theorem step_copyK_ {P : Program} {ops : Array Oper} {o : Oper} {a : Act} {w : World} {K : Act → World → Prop} {Q : Exit → Act → World → Prop} {E : Prop} (z : Nat) (hgd : o.guard = none) (d s : Operand) (dT sT : TypeId)
  (ho : o.op = .call { callee := .builtin .copy, args := #[d, s], argTypes := #[dT, sT] }) (elem : TypeId) (hu : P.underlying dT = some (.slice elem)) (hsz : (P.info? elem).map (·.size) = some z)
  (ad : Addr) (dLen dCap sLen sCap : Nat) (g off : Nat) (hd : a.eval d = .slice (some ⟨g, off, none⟩) dLen dCap) (hs : a.eval s = .slice (some ad) sLen sCap)
  (cur : List Value) (t : TypeId) (hg : w.heap[g]? = some (.cells cur.toArray t (0, 0))) (cs : List Value) (hn : cs.length = Nat.min sLen dLen * z)
  (hsrc : ∀ j v, cs[j]? = some v → w.cell? (ad.add j) = some v)
  (hfit : off + cs.length ≤ cur.length) (h1 : ∀ v ∈ cs, v.oneCell' = true) (B : Nat) (w0 : World) (hb : Below B w0 w) (hBg : B ≤ g)
  (h : ∀ w', Hid (w'.heap[g]? = some (.cells (splice cur off cs).toArray t (0, 0))) → Below B w0 w' → K (a.put o.dst (goInt (Nat.min sLen dLen))) w') :
  if Region.wanted o (yielded ops a.tmps) = true then Oper.wp P o a w K Q else E := by
 have hw : Region.wanted o (yielded ops a.tmps) = true := by simp [Region.wanted, hgd]
 rw [if_pos hw]
 have hrun := run_copy_rowK_ P z w dT sT o.type elem g off dLen dCap ad sLen sCap cur t cs hu hsz hg hn hsrc hfit h1
 unfold Oper.wp
 simp [execOp, ho, resolve, invoke, builtin, hd, hs, hrun, Result.andThen]
 exact h _ (show _ = _ from setRow_heap w g _ _ t _ hg) (below_setRow hb hBg _)
def impl_Turn.f (l0 : List S40) (a1 : Int) : Option (List S40) := if l0.length = 1 ∧ 0 ≤ a1 ∧ a1 ≤ 100000 then some (List.replicate a1.toNat (rd_T40 l0 0)) else none
def impl_Turn.dup (x y : Value) : Nat → List Value
 | 0 => []
 | n + 1 => x :: y :: dup x y n
theorem impl_Turn.dup_length (x y : Value) : ∀ n, (impl_Turn.dup x y n).length = n * 2
 | 0 => rfl
 | n + 1 => by simp only [impl_Turn.dup, List.length_cons, impl_Turn.dup_length x y n]; omega
theorem impl_Turn.dup_add (x y : Value) (n : Nat) : ∀ m, impl_Turn.dup x y (m + n) = impl_Turn.dup x y m ++ impl_Turn.dup x y n
 | 0 => by simp [impl_Turn.dup]
 | m + 1 => by rw [Nat.add_right_comm]; simp only [impl_Turn.dup, List.cons_append, impl_Turn.dup_add x y n m]
theorem impl_Turn.dup_mem {x y v : Value} : ∀ n, v ∈ impl_Turn.dup x y n → v = x ∨ v = y
 | 0, h => by cases h
 | n + 1, h => by
  simp only [impl_Turn.dup, List.mem_cons] at h
  rcases h with h | h | h
  ·exact .inl h
  ·exact .inr h
  ·exact impl_Turn.dup_mem n h
theorem impl_Turn.dup_two (x y : Value) : ∀ n j, j < n → ((impl_Turn.dup x y n).drop (j * 2)).take 2 = [x, y]
 | 0, j, h => by omega
 | n + 1, 0, _ => by simp [impl_Turn.dup]
 | n + 1, j + 1, h => by
  rw [show (j + 1) * 2 = j * 2 + 1 + 1 by omega]
  simp only [impl_Turn.dup, List.drop_succ_cons]
  exact impl_Turn.dup_two x y n j (by omega)
theorem impl_Turn.mask (n : Nat) (h : n < 4294967296) : Go.bits .and .u64 (n : Int) 4294967295 = (n : Int) := by
 have h1 := bits_and_u64_nat n 4294967295 (by omega) (by omega)
 have e : n &&& 4294967295 = n := by
  have := Nat.and_two_pow_sub_one_eq_mod n 32
  rw [show (2 : Nat) ^ 32 - 1 = 4294967295 from rfl] at this
  rw [this]; exact Nat.mod_eq_of_lt h
 rw [e] at h1
 exact h1
theorem impl_Turn.mul (n : Nat) (h : n ≤ 100000) : bits_Mul.f 1 (n : Int) = some (0, (n : Int)) := by
 have m0 := impl_Turn.mask 1 (by omega)
 have m1 := impl_Turn.mask n (by omega)
 have m2 := impl_Turn.mask 0 (by omega)
 unfold bits_Mul.f bits_Mul64.f
 have w0 : ∀ m : Nat, m ≤ 100000 → IntKind.u64.wrap (m : Int) = (m : Int) := fun m hm => by rw [IntKind.wrap_u64]; omega
 have w1 := w0 n h
 have w2 := w0 0 (by omega)
 rw [show ((1 : Nat) : Int) = 1 from rfl] at m0
 rw [show ((0 : Nat) : Int) = 0 from rfl] at m2 w2
 rw [show (1 : Int) / 4294967296 = 0 from rfl, show (n : Int) / 4294967296 = 0 by omega, m0, m1]
 simp only [Int.zero_mul, Int.mul_zero, Int.one_mul, w1, w2, Int.add_zero, Int.zero_add]
 rw [show (n : Int) / 4294967296 = 0 by omega, w2, m2]
 simp [w2]
theorem impl_Turn.own {w : World} {base n : Nat} {v : Value} {e B : Nat} {xs : List S40} (h : Kd.R k40 e w base (fun _ => True) v xs) (hx : xs.length = n) (hb : ∃ b, v.ownBlock = some b ∧ B ≤ b) :
  ∃ g cap, ∃ cur : List Value, v = .slice (some ⟨g, 0, none⟩) n cap ∧ base ≤ g ∧ w.heap[g]? = some (.cells cur.toArray e (0, 0)) ∧ n ≤ cap ∧ cap ≤ maxLen ∧ cur.length = cap * 2 := by
 obtain ⟨inner, ho⟩ := Kd.R_own h
 rw [hx] at ho
 obtain ⟨h1, ⟨h2, _⟩ | ⟨g, cap, cur, h2, h3, h4, h5, h6, h7, h8⟩⟩ := ho
 ·obtain ⟨b, hb, _⟩ := hb
  rw [h2] at hb
  cases hb
 ·exact ⟨g, cap, cur.toList, h2, h3, by simpa using h4, h5, h6, by simpa using (show cur.size = cap * 2 from h7)⟩
theorem impl_Turn.cells {w : World} {g e m q : Nat} {x y : Value} {cur cs : List Value} (h : w.heap[g]? = some (.cells cur.toArray e (0, 0))) (ht : cur.take (m * 2) = impl_Turn.dup x y m) (hc : cs = impl_Turn.dup x y q) (hq : q ≤ m) :
  ∀ j v, cs[j]? = some v → w.cell? ((⟨g, 0, none⟩ : Addr).add j) = some v := by
 intro j v hv
 subst hc
 have hj : j < (impl_Turn.dup x y q).length := (List.getElem?_eq_some_iff.1 hv).1
 have hd : impl_Turn.dup x y m = impl_Turn.dup x y q ++ impl_Turn.dup x y (m - q) := by rw [← impl_Turn.dup_add, Nat.add_sub_cancel' hq]
 rw [hd] at ht
 have := congrArg (fun l => l[j]?) ht
 rw [List.getElem?_append_left hj, hv, List.getElem?_take] at this
 split at this
 case isFalse => cases this
 have e : ((⟨g, 0, none⟩ : Addr).add j) = ⟨g, j, none⟩ := by simp only [Addr.add]; split <;> simp_all
 rw [e]
 simp [World.cell?, h, this]
theorem impl_Turn.next {m q : Nat} {cur cs : List Value} {x y : Value} (ht : cur.take (m * 2) = impl_Turn.dup x y m) (hc : cs = impl_Turn.dup x y q) (hl : m * 2 + q * 2 ≤ cur.length) :
  (splice cur (m * 2) cs).take ((m + q) * 2) = impl_Turn.dup x y (m + q) := by
 subst hc
 unfold splice
 rw [ht, ← List.append_assoc, ← impl_Turn.dup_add]
 exact List.take_left' (by rw [impl_Turn.dup_length])
theorem impl_Turn.done {w : World} {g e m base cap : Nat} {a : S40} {cur : List Value} (h : w.heap[g]? = some (.cells cur.toArray e (0, 0))) (ht : cur.take (m * 2) = impl_Turn.dup (.int .i64 a.f0) (.int .i64 a.f1) m) (hl : cur.length = cap * 2) (hb : base ≤ g) (hm : m ≤ cap) (hc : cap ≤ maxLen) :
  Kd.R k40 e w base (fun _ => True) (.slice (some ⟨g, 0, none⟩) m cap) (List.replicate m a) := by
 refine ⟨fun _ _ => trivial, impl_Turn.dup (.int .i64 a.f0) (.int .i64 a.f1) m, ?_, ?_⟩
 ·rw [List.length_replicate]
  exact ⟨impl_Turn.dup_length _ _ m, .inr ⟨g, cap, cur.toArray, rfl, hb, h, hm, hc, (show cur.toArray.size = cap * 2 by simpa using hl), (show cur.toArray.toList.take (m * 2) = _ by simpa using ht)⟩⟩
 ·refine ⟨by rw [List.length_replicate]; exact impl_Turn.dup_length _ _ m, fun j p hp => ?_⟩
  rw [List.getElem?_replicate] at hp
  split at hp
  case isFalse => cases hp
  rename_i hj
  injection hp with hp
  subst hp
  rw [show (k40 : Kd S40).sz = 2 from rfl, impl_Turn.dup_two _ _ m j hj]
  exact k40_mkM _ _ _ _
theorem impl_Turn.one {a b v : Value} {j : Nat} (h : [a, b][j]? = some v) : j = 0 ∧ v = a ∨ j = 1 ∧ v = b := by
 cases j with
 | zero => exact .inl ⟨rfl, (Option.some.inj h).symm⟩
 | succ j => cases j with
  | zero => exact .inr ⟨rfl, (Option.some.inj h).symm⟩
  | succ j => cases h
set_option maxHeartbeats 8000000 in
set_option maxRecDepth 100000 in
theorem impl_Turn.calls (A0 : Option Addr) (c0 : Nat) (l0 : List S40) (a1 : Int) (r : List S40) (w : World) (hr0 : Kd.C k40 w A0 l0.length l0) (hc0 : l0.length ≤ c0) (h : impl_Turn.f l0 a1 = some r) :
  Calls Try.prog 109 #[.slice A0 l0.length c0, .int .i64 a1] w fun e w' => ∃ v0_ : Value, e = .returned (v0_) ∧ Kd.R k40 40 w' w.heap.size (fun _ => True) v0_ r ∧ Below w.heap.size w w' := by
 unfold impl_Turn.f at h
 split at h
 case isFalse => cases h
 rename_i hh
 obtain ⟨h1, h2, h3⟩ := hh
 obtain ⟨a, rfl⟩ := List.length_eq_one_iff.1 h1
 obtain ⟨n, rfl⟩ := Int.eq_ofNat_of_zero_le (show 0 ≤ a1 by omega)
 injection h with h
 have hrd : rd_T40 [a] 0 = a := rfl
 rw [hrd, Int.toNat_natCast] at h
 subst h
 obtain ⟨ad, rfl, hcell⟩ := hr0.2.2 (by simp)
 obtain ⟨c, hc1, hc2, hc3⟩ := hcell 0 a rfl
 have hc2' := k40_open hc2
 subst hc2'
 have hx0 := hc3 0 _ rfl
 have hx1 := hc3 1 _ rfl
 simp only [Nat.zero_mul, Nat.zero_add, Nat.add_zero, Addr.add_zero'] at hx0 hx1
 simp only [List.length_singleton] at hc0 ⊢
 clear hc1 hc2 hc3 hcell hrd h1 hr0; have b1 : decide ((n : Int) < 0) = false := decide_eq_false (by omega)
 have b2 : decide ((9223372036854775807 : Int) < (n : Int)) = false := decide_eq_false (by omega)
 have hmul := Aside0.mk (impl_Turn.mul n (by omega))
 go_enter Try.func109, Try.ntmps109
 obtain ⟨cs1, hcs1⟩ : ∃ cs1 : List Value, cs1 = impl_Turn.dup (.int .i64 a.f0) (.int .i64 a.f1) (min 1 n) := ⟨_, rfl⟩
 have e0 : (IntKind.i64.wrap ((n : Nat) : Int)) = (n : Int) := by rw [IntKind.wrap_i64]; omega
 have e1 : (IntKind.u64.wrap ((n : Nat) : Int)) = (n : Int) := by rw [IntKind.wrap_u64]; omega
 have e2 : (IntKind.u64.wrap 1) = 1 := by rw [IntKind.wrap_u64]; rfl
 have hn1 : cs1.length = Nat.min 1 n * 2 := by rw [hcs1, impl_Turn.dup_length]
 have ho1 : ∀ v ∈ cs1, v.oneCell' = true := by
  rw [hcs1]; intro v hv
  rcases impl_Turn.dup_mem _ hv with rfl | rfl <;> rfl
 have hsrc1 : ∀ j v, cs1[j]? = some v → w.cell? (ad.add j) = some v := by
  intro j v hj
  rw [hcs1] at hj
  rcases Nat.eq_zero_or_pos n with rfl | hn
  ·simp [impl_Turn.dup] at hj
  ·rw [show min 1 n = 1 by omega] at hj
   rcases impl_Turn.one hj with ⟨rfl, rfl⟩ | ⟨rfl, rfl⟩
   ·rw [Addr.add_zero']; exact hx0
   ·exact hx1
 go_wp2_with (first
  | (go_at_call 124; refine (bits_Mul.calls 1 (n : Int) 0 (n : Int) _ hmul.out).mono ?_; rintro e w1 ⟨rfl, hd⟩; have HB1 := Aside0.mk hd.below; clear hd)
  | (refine Kd.R_make k40 _ 40 rfl (N := 30) rfl 26 _ _ rfl (n : Int) rfl rfl Try.underlying26 (.agg #[(.int .i64 0), (.int .i64 0)]) 16 info40 rfl (by decide) (by omega) z40 (ok := fun _ => True) (okp := fun _ => True) (k40_mkM _ _ _ z40) (fun _ hk => hk) trivial (by omega) (by omega) HB1.out HB1.out.size ?_; intro v1 w7 ho hb hg_ hnew_; clear hg_; obtain ⟨g, cap, cur, rfl, hbg, hrow, hcap, hcap2, hsz⟩ := impl_Turn.own (n := n) ho (by simp) hnew_; clear ho hnew_; have Hrow := Aside0.mk hrow; clear hrow; have HB := Aside0.mk hb; clear hb)
  | (refine wpList_copyK_ 2 rfl (.tmp 31) (.tmp 32) 26 26 rfl 40 Try.underlying26 rfl ad n cap 1 c0 g 0 rfl rfl cur 40 Hrow.out cs1 hn1 (fun j v hj => (HB.out.cell (World.block_lt_of_cell? w _ (hsrc1 j v hj))).trans (hsrc1 j v hj)) (by rw [hn1, hsz, Nat.zero_add]; exact Nat.mul_le_mul_right 2 (Nat.le_trans (Nat.min_le_right 1 n) hcap)) ho1 w.heap.size w HB.out hbg ?_; intro w4 hg4 hb4))
 go_loopg [8] n (fun gk v8 w' => ∃ (m : Nat) (cur' : List Value), v8 = .int .i64 m ∧ Aside0 (min 1 n ≤ m) ∧ Aside0 (m ≤ n) ∧ Aside0 (n - m ≤ gk) ∧ Aside0 (cur'.length = cap * 2) ∧ Aside0 (w'.heap[g]? = some (.cells cur'.toArray 40 (0, 0))) ∧ Aside0 (cur'.take (m * 2) = impl_Turn.dup (.int .i64 a.f0) (.int .i64 a.f1) m) ∧ Aside0 (Below w.heap.size w w'))
 case atStart =>
  exact ⟨min 1 n, splice cur 0 cs1, by first | rfl | simp, ⟨Nat.le_refl _⟩, ⟨Nat.min_le_right 1 n⟩, ⟨by omega⟩, ⟨by rw [length_splice _ _ _ (by rw [hn1, hsz, Nat.zero_add]; exact Nat.mul_le_mul_right 2 (Nat.le_trans (Nat.min_le_right 1 n) hcap))]; exact hsz⟩, ⟨hg4⟩, ⟨by
   have := impl_Turn.next (m := 0) (q := min 1 n) (cur := cur) (cs := cs1) (x := .int .i64 a.f0) (y := .int .i64 a.f1) rfl hcs1 (by rw [hsz]; have := Nat.min_le_right 1 n; omega)
   simpa using this⟩, ⟨hb4⟩⟩
 case round =>
  obtain ⟨m, cur', rfl, H1, H2, H3, H4, H5, H6, H7⟩ := hrel
  have G1 := H1.out
  have G2 := H2.out
  by_cases hm : m < n
  ·have hm1 : 1 ≤ m := by omega
   have d1 : decide ((m : Int) < (n : Int)) = true := decide_eq_true (by omega)
   have G3 := H3.out
   have G4 := H4.out
   obtain ⟨q, hq⟩ : ∃ q, q = min m (n - m) := ⟨_, rfl⟩
   obtain ⟨cs, hcs⟩ : ∃ cs : List Value, cs = impl_Turn.dup (.int .i64 a.f0) (.int .i64 a.f1) q := ⟨_, rfl⟩
   have hql : cs.length = q * 2 := by rw [hcs, impl_Turn.dup_length]
   have hqn : cs.length = Nat.min m (n - m) * 2 := by rw [hql, hq]
   have ho2 : ∀ v ∈ cs, v.oneCell' = true := by
    rw [hcs]; intro v hv
    rcases impl_Turn.dup_mem _ hv with rfl | rfl <;> rfl
   have hqm : q ≤ m := by omega
   obtain ⟨k1, rfl⟩ : ∃ k1, gk = k1 + 1 := ⟨gk - 1, by omega⟩
   have d2 : (0 : Int) ≤ (m : Int) := by omega
   have d3 : (m : Int) ≤ (n : Int) := by omega
   have d4 : m ≤ n := G2
   have d5 : m ≤ cap := by omega
   have d6 : (m : Int) ≤ (cap : Int) := by omega
   have d7 : ¬ m = cap := by omega
   have d9 : ¬ cap = m := by omega
   have dd8 : IntKind.i64.wrap ((m : Int) + ((min m (n - m) : Nat) : Int)) = ((m + q : Nat) : Int) := by rw [← hq, IntKind.wrap_i64]; omega
   go_wp2_with fail
   go_region_law (refine step_copyK_ 2 rfl (.tmp 41) (.tmp 44) 26 26 rfl 40 Try.underlying26 rfl ⟨g, 0, none⟩ (n - m) (cap - m) m cap g (m * 2) (by simp [Act.eval, Act.put]) (by simp [Act.eval, Act.put]) cur' 40 H5.out cs hqn (impl_Turn.cells H5.out H6.out hcs hqm) (by omega) ho2 w.heap.size w (by repeat (first | exact H7.out | apply below_drew1)) hbg ?_; intro w5 hg5 hb5)
   go_wp2
   go_roundg k1
   case measure => omega
   case rel => exact ⟨m + q, splice cur' (m * 2) cs, (by first | (rw [dd8]; done) | (rw [← hq, Int.natCast_add]; done)), ⟨by omega⟩, ⟨by omega⟩, ⟨by have := H3.out; omega⟩, ⟨by rw [length_splice _ _ _ (by omega)]; exact G4⟩, ⟨hg5⟩, ⟨impl_Turn.next H6.out hcs (by omega)⟩, ⟨hb5⟩⟩
  ·have d1 : decide ((m : Int) < (n : Int)) = false := decide_eq_false (by omega)
   have G5 : m = n := by omega
   subst G5
   go_wp2
   go_ret
   exact ⟨_, by first | rfl | (simp; done), impl_Turn.done H5.out H6.out H4.out hbg hcap hcap2, by repeat (first | exact H7.out | apply below_drew1)⟩

end Go.Proofs.Ytoaekmghlmeflaa.Q
