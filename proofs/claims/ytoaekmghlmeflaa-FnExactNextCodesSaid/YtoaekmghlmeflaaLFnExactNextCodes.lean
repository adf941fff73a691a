/- What the printed functions that FnExactNextCodes reaches come to: lemmas for its plain law. -/
import Derived.Test.YtoaekmghlmeflaaMath
import Derived.Test.YtoaekmghlmeflaaZ0
import Derived.Test.YtoaekmghlmeflaaZ1
import Derived.Test.YtoaekmghlmeflaaZ2
import Derived.Test.YtoaekmghlmeflaaZ3
import Derived.Test.YtoaekmghlmeflaaZ4
import Derived.Test.YtoaekmghlmeflaaZ5
import Derived.Test.YtoaekmghlmeflaaZ6
import Derived.Test.YtoaekmghlmeflaaZ7
import Derived.Test.YtoaekmghlmeflaaZ8
import Derived.Test.YtoaekmghlmeflaaZ9
import Derived.Test.YtoaekmghlmeflaaZ10
import Derived.Test.YtoaekmghlmeflaaZ11
import Derived.Test.YtoaekmghlmeflaaZ12
import Derived.Test.YtoaekmghlmeflaaZ13
import Derived.Test.YtoaekmghlmeflaaZ14
import Derived.Test.YtoaekmghlmeflaaZ15
import Derived.Test.YtoaekmghlmeflaaZ16
import Derived.Test.YtoaekmghlmeflaaZ17
import Derived.Test.YtoaekmghlmeflaaZ18
import Derived.Test.YtoaekmghlmeflaaZ19
import Derived.Test.YtoaekmghlmeflaaZ20
import Derived.Test.YtoaekmghlmeflaaZ21
namespace Go.Proofs.Ytoaekmghlmeflaa.L
open Go.RowKit Go.Proofs.YtoaekmghlmeflaaW.PrintWords Go.Proofs.YtoaekmghlmeflaaW.PrintMore Go.Proofs.Ytoaekmghlmeflaa.M Go.Proofs.Ytoaekmghlmeflaa.Z
set_option linter.unusedVariables false
set_option linter.unusedSimpArgs false
theorem whGood_f (W D : Int) : spec_whGood.f W D = some (good W D) := by
  unfold spec_whGood.f spec_l1In.f good
  by_cases h1 : 1 ≤ W <;> by_cases h2 : W ≤ 6 <;> by_cases h3 : 2 ≤ D <;> by_cases h4 : D ≤ 10 <;> simp [h1, h2, h3, h4]
theorem IsLock_i (W D : Int) : impl_IsLock.f W D = some (good W D) := by
  unfold impl_IsLock.f impl_within.f good
  by_cases h1 : 1 ≤ W <;> by_cases h2 : W ≤ 6 <;> by_cases h3 : 2 ≤ D <;> by_cases h4 : D ≤ 10 <;> simp [h1, h2, h3, h4]
theorem l1In_f (n lo hi : Int) : spec_l1In.f n lo hi = some (decide (lo ≤ n ∧ n ≤ hi)) := by
  unfold spec_l1In.f
  by_cases h1 : lo ≤ n <;> by_cases h2 : n ≤ hi <;> simp [h1, h2]
theorem within_f (n lo hi : Int) : impl_within.f n lo hi = some (decide (lo ≤ n ∧ n ≤ hi)) := by
  unfold impl_within.f
  by_cases h1 : lo ≤ n <;> by_cases h2 : n ≤ hi <;> simp [h1, h2]

theorem whCode_l0 {W D : Int} (hD : 2 ≤ D ∧ D ≤ 10) {s : ByteArray} (hs : s.size ≤ 1048576) : ∀ (t p : List Int), bys s = p ++ t → Ev (fun k => spec_whCode.l0 k s (p.length : Int) W D) (t.all fun b => decide (48 ≤ b ∧ b < 48 + D))
  | [], p, e => by
    have el : p.length = s.size := by rw [← bys_length, e]; simp
    refine Ev.succ ?_
    simp only [spec_whCode.l0]
    exact Ev.neg (by omega) (Ev.now _)
  | x :: t, p, e => by
    have el : p.length + (t.length + 1) = s.size := by rw [← bys_length, e]; simp
    have hx := bys_range s x (by rw [e]; simp)
    refine Ev.succ ?_
    simp only [spec_whCode.l0]
    refine Ev.pos (by omega) (Ev.pos (by omega) ?_)
    rw [bt_bys, e, rd_mid, wrap_id (x := x) (by omega) (by omega), wrap_id (x := x - 48) (by omega) (by omega), wrap_id (x := D - 1) (by omega) (by omega), l1In_f]
    refine Ev.bind0 rfl ?_
    by_cases hb : 48 ≤ x ∧ x < 48 + D
    · refine Ev.pos (by simp; omega) ?_
      rw [show wrap64 ((p.length : Int) + 1) = ((p ++ [x]).length : Int) from len_next p x (by omega)]
      simp only [List.all_cons, hb, and_self, decide_true, Bool.true_and]
      exact whCode_l0 hD hs t (p ++ [x]) (by rw [e]; simp)
    · refine Ev.neg (by simp; omega) ?_
      rw [List.all_cons, decide_eq_false hb, Bool.false_and]
      exact Ev.now _
theorem whCode_ev {W D : Int} (h : good W D = true) (s : ByteArray) (hs : s.size ≤ 1048576) : Ev (fun k => spec_whCode.f k W D s) (isC W D s) := by
  obtain ⟨a, b, c, d⟩ := good_iff.1 h
  unfold spec_whCode.f isC
  by_cases e : (s.size : Int) = W
  · refine Ev.pos e ?_
    rw [decide_eq_true e, Bool.true_and]
    exact whCode_l0 ⟨c, d⟩ hs (bys s) [] rfl
  · refine Ev.neg e ?_
    rw [decide_eq_false e, Bool.false_and]
    exact Ev.now _
theorem isText_l0 {W D : Int} (hD : 2 ≤ D ∧ D ≤ 10) {s : ByteArray} (hs : s.size ≤ 1048576) : ∀ (t p : List Int), bys s = p ++ t → Ev (fun k => impl_Lock_isText.l0 k s (s.size : Int) (p.length : Int) W D) (t.all fun b => decide (48 ≤ b ∧ b < 48 + D))
  | [], p, e => by
    have el : p.length = s.size := by rw [← bys_length, e]; simp
    refine Ev.succ ?_
    simp only [impl_Lock_isText.l0]
    exact Ev.neg (by omega) (Ev.now _)
  | x :: t, p, e => by
    have el : p.length + (t.length + 1) = s.size := by rw [← bys_length, e]; simp
    have hx := bys_range s x (by rw [e]; simp)
    refine Ev.succ ?_
    simp only [impl_Lock_isText.l0]
    refine Ev.pos (by omega) (Ev.pos (by omega) (Ev.pos (by omega) ?_))
    rw [bt_bys, e, rd_mid, wrap_id (x := x) (by omega) (by omega), wrap_id (x := 48 + D) (by omega) (by omega), wrap_id (x := 48 + D - 1) (by omega) (by omega), within_f]
    refine Ev.bind0 rfl ?_
    by_cases hb : 48 ≤ x ∧ x < 48 + D
    · refine Ev.pos (by simp; omega) ?_
      rw [show wrap64 ((p.length : Int) + 1) = ((p ++ [x]).length : Int) from len_next p x (by omega)]
      simp only [List.all_cons, hb, and_self, decide_true, Bool.true_and]
      exact isText_l0 hD hs t (p ++ [x]) (by rw [e]; simp)
    · refine Ev.neg (by simp; omega) ?_
      rw [List.all_cons, decide_eq_false hb, Bool.false_and]
      exact Ev.now _
theorem isCode_ev {W D : Int} (h : good W D = true) (s : ByteArray) (hs : s.size ≤ 1048576) : Ev (fun k => impl_Lock_isCode.f k W D s) (isC W D s) := by
  obtain ⟨a, b, c, d⟩ := good_iff.1 h
  unfold impl_Lock_isCode.f isC
  by_cases e : (s.size : Int) = W
  · refine Ev.pos e ?_
    rw [decide_eq_true e, Bool.true_and]
    refine Ev.bind (isText_l0 (W := W) ⟨c, d⟩ hs (bys s) [] rfl) (Ev.now _)
  · refine Ev.neg e ?_
    rw [decide_eq_false e, Bool.false_and]
    exact Ev.now _

theorem dgs_app {s : ByteArray} {p t : List Int} (e : bys s = p ++ t) : dgs s = (p.map fun b => (b - 48) % 256) ++ (t.map fun b => (b - 48) % 256) := by
  unfold dgs; rw [e, List.map_append]
theorem whDigits_l0 {s : ByteArray} (hs : s.size ≤ 1048576) : ∀ (t p : List Int), bys s = p ++ t → Ev (fun k => spec_whDigits.l0 k s (p.map fun b => (b - 48) % 256) (p.length : Int)) (dgs s)
  | [], p, e => by
    have el : p.length = s.size := by rw [← bys_length, e]; simp
    refine Ev.succ ?_
    simp only [spec_whDigits.l0]
    refine Ev.neg (by omega) (Ev.val ?_)
    rw [dgs_app e]; simp
  | x :: t, p, e => by
    have el : p.length + (t.length + 1) = s.size := by rw [← bys_length, e]; simp
    refine Ev.succ ?_
    simp only [spec_whDigits.l0]
    refine Ev.pos (by omega) (Ev.pos (by omega) (Ev.pos (by rw [List.length_map]; omega) ?_))
    rw [bt_bys, e, rd_mid, show wrap64 ((p.length : Int) + 1) = ((p ++ [x]).length : Int) from len_next p x (by omega)]
    have := whDigits_l0 hs t (p ++ [x]) (by rw [e]; simp)
    rw [List.map_append] at this
    exact this
theorem whDigits_ev (s : ByteArray) (hs : s.size ≤ 1048576) : Ev (fun k => spec_whDigits.f k s) (dgs s) := by
  unfold spec_whDigits.f
  exact whDigits_l0 hs (bys s) [] rfl
theorem digits_l0 {s : ByteArray} (hs : s.size ≤ 1048576) : ∀ (t p : List Int), bys s = p ++ t → Ev (fun k => impl_digits.l0 k s (p.map fun b => (b - 48) % 256) (s.size : Int) (p.length : Int)) (dgs s)
  | [], p, e => by
    have el : p.length = s.size := by rw [← bys_length, e]; simp
    refine Ev.succ ?_
    simp only [impl_digits.l0]
    refine Ev.neg (by omega) (Ev.val ?_)
    rw [dgs_app e]; simp
  | x :: t, p, e => by
    have el : p.length + (t.length + 1) = s.size := by rw [← bys_length, e]; simp
    refine Ev.succ ?_
    simp only [impl_digits.l0]
    refine Ev.pos (by omega) (Ev.pos (by omega) (Ev.pos (by omega) (Ev.pos (by rw [List.length_map]; omega) ?_)))
    rw [bt_bys, e, rd_mid, show wrap64 ((p.length : Int) + 1) = ((p ++ [x]).length : Int) from len_next p x (by omega)]
    have := digits_l0 hs t (p ++ [x]) (by rw [e]; simp)
    rw [List.map_append] at this
    exact this
theorem digits_ev (s : ByteArray) (hs : s.size ≤ 1048576) : Ev (fun k => impl_digits.f k s) (dgs s) := by
  unfold impl_digits.f
  exact digits_l0 hs (bys s) [] rfl
theorem whDigits_txt {ds : List Int} (h : Ok 10 ds) (hl : ds.length ≤ 1048576) : Ev (fun k => spec_whDigits.f k (txt ds)) ds := by
  have := whDigits_ev (txt ds) (by rw [txt_size]; exact hl)
  rwa [dgs_txt h] at this
theorem digits_txt {ds : List Int} (h : Ok 10 ds) (hl : ds.length ≤ 1048576) : Ev (fun k => impl_digits.f k (txt ds)) ds := by
  have := digits_ev (txt ds) (by rw [txt_size]; exact hl)
  rwa [dgs_txt h] at this

theorem l1Num_ev {d : Int} (h0 : 0 ≤ d) (h1 : d < 10) : Ev (fun k => spec_l1Num.f k d) (txt [d]) := by
  refine Ev.succ ?_
  simp only [spec_l1Num.f]
  refine Ev.pos h1 (Ev.val ?_)
  rw [wrap_id (by omega) (by omega), show (48 + d) % 256 = 48 + d by omega]; rfl
theorem whText_l0 : ∀ (t p : List Int), Ok 10 (p ++ t) → (p ++ t).length ≤ 1048576 → Ev (fun k => spec_whText.l0 k (txt p) (p ++ t) ((p ++ t).length : Int) (p.length : Int)) (txt (p ++ t))
  | [], p, h, hl => by
    refine Ev.succ ?_
    simp only [spec_whText.l0]
    refine Ev.neg (len_end p) (Ev.val (by simp))
  | x :: t, p, h, hl => by
    have hx := (Ok.cons.1 (Ok.append.1 h).2).1
    rw [List.length_append, List.length_cons] at hl
    refine Ev.succ ?_
    simp only [spec_whText.l0]
    refine Ev.pos (len_mid p t x) (Ev.pos (by omega) (Ev.pos (len_mid p t x) ?_))
    rw [rd_mid]
    refine Ev.bind (l1Num_ev hx.1 hx.2) (Ev.pos (by rw [txt_size, txt_size]; simp; omega) ?_)
    rw [len_next p x (by omega), txt_append, app_next p t x]
    refine whText_l0 t (p ++ [x]) (by rw [← app_next p t x]; exact h) (by simp; omega)
theorem whText_ev {ds : List Int} (h : Ok 10 ds) (hl : ds.length ≤ 1048576) : Ev (fun k => spec_whText.f k ds) (txt ds) := by
  unfold spec_whText.f
  exact whText_l0 ds [] h hl
theorem text_l0 : ∀ (t p : List Int), Ok 10 (p ++ t) → (p ++ t).length ≤ 1048576 → Ev (fun k => impl_text.l0 k (p.map (48 + ·)) (p ++ t) ((p ++ t).length : Int) (p.length : Int)) (txt (p ++ t))
  | [], p, h, hl => by
    refine Ev.succ ?_
    simp only [impl_text.l0]
    refine Ev.neg (len_end p) (Ev.val (by unfold txt; simp))
  | x :: t, p, h, hl => by
    have hx := (Ok.cons.1 (Ok.append.1 h).2).1
    rw [List.length_append, List.length_cons] at hl
    refine Ev.succ ?_
    simp only [impl_text.l0]
    refine Ev.pos (len_mid p t x) (Ev.pos (by omega) (Ev.pos (len_mid p t x) (Ev.pos (by rw [List.length_map]; omega) ?_)))
    rw [rd_mid, wrap_id (x := 48 + x) (by omega) (by omega), show (48 + x) % 256 = 48 + x by omega, len_next p x (by omega), app_next p t x]
    have := text_l0 t (p ++ [x]) (by rw [← app_next p t x]; exact h) (by simp; omega)
    rw [List.map_append] at this
    exact this
theorem text_ev {ds : List Int} (h : Ok 10 ds) (hl : ds.length ≤ 1048576) : Ev (fun k => impl_text.f k ds) (txt ds) := by
  unfold impl_text.f
  exact text_l0 ds [] h hl

theorem l1Mod_f (k : Int) {n : Int} (h0 : 0 < n) (h1 : n ≤ 1000) : spec_l1Mod.f k n = some (k % n) := by
  unfold spec_l1Mod.f; rw [if_neg (by omega), tmod_around h0 h1]
theorem around_f (k : Int) {n : Int} (h0 : 0 < n) (h1 : n ≤ 1000) : impl_around.f k n = some (k % n) := by
  unfold impl_around.f; rw [if_neg (by omega), tmod_around h0 h1]
theorem whAsked_ev (W D : Int) (s : ByteArray) (hs : s.size ≤ 1048576) : Ev (fun k => spec_whAsked.f k W D s) (good W D && isC W D s) := by
  unfold spec_whAsked.f
  refine Ev.bind0 (whGood_f W D) ?_
  by_cases h : good W D = true
  · refine Ev.pos h (Ev.bind (whCode_ev h s hs) (Ev.val (by rw [h]; rfl)))
  · refine Ev.neg h (Ev.val (by simp [h]))
theorem has_l0 {W D : Int} (h : good W D = true) : ∀ (t p : List ByteArray), (∀ s ∈ t, s.size ≤ 1048576) → (p ++ t).length ≤ 1048576 → Ev (fun k => impl_has.l0 k (p ++ t) ((p ++ t).length : Int) (p.length : Int) W D) (t.all (isC W D))
  | [], p, hs, hl => by
    refine Ev.succ ?_
    simp only [impl_has.l0]
    refine Ev.neg (len_end p) (Ev.val (by simp))
  | x :: t, p, hs, hl => by
    rw [List.length_append, List.length_cons] at hl
    refine Ev.succ ?_
    simp only [impl_has.l0]
    refine Ev.pos (len_mid p t x) (Ev.pos (by omega) (Ev.pos (len_mid p t x) ?_))
    rw [rdOf_mid, len_next p x (by omega), app_next p t x]
    refine Ev.bind (isCode_ev h x (hs x (by simp))) ?_
    by_cases hx : isC W D x = true
    · refine Ev.pos hx ?_
      rw [List.all_cons, hx, Bool.true_and]
      exact has_l0 h t (p ++ [x]) (fun s hs' => hs s (by simp [hs'])) (by simp; omega)
    · refine Ev.neg hx (Ev.val ?_)
      simp [hx]
theorem has_ev (W D : Int) (l : List ByteArray) (hs : ∀ s ∈ l, s.size ≤ 1048576) (hl : l.length ≤ 1048576) : Ev (fun k => impl_has.f k W D l) (good W D && l.all (isC W D)) := by
  unfold impl_has.f
  refine Ev.bind0 (IsLock_i W D) ?_
  by_cases h : good W D = true
  · refine Ev.pos h ?_
    rw [h, Bool.true_and]
    exact has_l0 h l [] hs hl
  · refine Ev.neg h (Ev.val (by simp [h]))

theorem has1_ev (W D : Int) (s : ByteArray) (hs : s.size ≤ 1048576) : Ev (fun k => impl_has.f k W D [s]) (good W D && isC W D s) := by
  have := has_ev W D [s] (by simpa using hs) (by simp)
  simpa using this

theorem one_of {W D : Int} {s : ByteArray} (h : (good W D && isC W D s) = true) : (1 ≤ W ∧ W ≤ 6 ∧ 2 ≤ D ∧ D ≤ 10) ∧ s = txt (dgs s) ∧ Ok D (dgs s) ∧ ((dgs s).length : Int) = W := by
  obtain ⟨hg, h1⟩ := Bool.and_eq_true_iff.1 h
  have g := good_iff.1 hg
  obtain ⟨a1, a2, a3⟩ := code_of h1 g.2.2.2
  exact ⟨g, a1, a2, a3⟩
theorem rd_nat (l : List Int) {i : Int} (h0 : 0 ≤ i) (h1 : i < l.length) : ∃ p x t, l = p ++ x :: t ∧ (p.length : Int) = i := by
  refine ⟨l.take i.toNat, l[i.toNat], l.drop (i.toNat + 1), ?_, ?_⟩
  · rw [← List.drop_eq_getElem_cons (by omega), List.take_append_drop]
  · rw [List.length_take]; omega
/-- The digits behind a turn. -/
def turnM (D : Int) (ds : List Int) (i b : Int) : List Int := ds.set i.toNat ((rd ds i + b) % D)
theorem turnM_ok {D : Int} (h : 0 < D) {ds : List Int} (hd : Ok D ds) (i b : Int) : Ok D (turnM D ds i b) := by
  intro x hx
  rcases List.mem_or_eq_of_mem_set hx with hx | rfl
  · exact hd x hx
  · exact ⟨Int.emod_nonneg _ (by omega), Int.emod_lt_of_pos _ h⟩
theorem rd_range {D : Int} {ds : List Int} (hd : Ok D ds) {i : Int} (h0 : 0 ≤ i) (h1 : i < ds.length) : 0 ≤ rd ds i ∧ rd ds i < D := by
  obtain ⟨p, x, t, e, hp⟩ := rd_nat ds h0 h1
  subst e; rw [← hp, rd_mid]
  exact hd x (by simp)
theorem turned_ev {W D : Int} (hD : 2 ≤ D ∧ D ≤ 10) {ds : List Int} (hd : Ok D ds) (hl : ds.length ≤ 6) {i b : Int} (h0 : 0 ≤ i) (h1 : i < ds.length) (hb : -1 ≤ b ∧ b ≤ 1) : Ev (fun k => impl_Lock_turned.f k W D (txt ds) i b) (txt (turnM D ds i b)) := by
  have hr := rd_range hd h0 h1
  unfold impl_Lock_turned.f
  refine Ev.bind (digits_txt (hd.le hD.2) (by omega)) (Ev.pos h0 (Ev.pos h1 ?_))
  rw [wrap_id (x := rd ds i + b) (by omega) (by omega)]
  refine Ev.bind0 (around_f _ (by omega) (by omega)) ?_
  exact Ev.bind (text_ev ((turnM_ok (by omega) hd i b).le hD.2) (by rw [List.length_set]; omega)) (Ev.now _)
theorem whMake_ev {W D : Int} (hD : 2 ≤ D ∧ D ≤ 10) {ds : List Int} (hd : Ok D ds) (hl : ds.length ≤ 6) {i b : Int} (h0 : 0 ≤ i) (h1 : i < ds.length) (hb : -1 ≤ b ∧ b ≤ 1) : Ev (fun k => spec_whMake.f k W D (txt ds) i b) (txt (turnM D ds i b)) := by
  have hr := rd_range hd h0 h1
  unfold spec_whMake.f
  refine Ev.bind (whDigits_txt (hd.le hD.2) (by omega)) (Ev.pos h0 (Ev.pos h1 ?_))
  rw [wrap_id (x := rd ds i + b) (by omega) (by omega)]
  refine Ev.bind0 (l1Mod_f _ (by omega) (by omega)) ?_
  exact Ev.bind (whText_ev ((turnM_ok (by omega) hd i b).le hD.2) (by rw [List.length_set]; omega)) (Ev.now _)

theorem rdT_mid (p t : List S40) (x : S40) : rd_T40 (p ++ x :: t) (p.length : Int) = x := by
  unfold rd_T40; rw [Int.toNat_natCast, List.getD_eq_getElem?_getD, List.getElem?_append_right (Nat.le_refl _), Nat.sub_self]; rfl
theorem eqStringS_l0 : ∀ (t p : List ByteArray), (p ++ t).length ≤ 9223372036854775806 → Ev (fun k => laws_eqStringS.l0 k (p ++ t) (p ++ t) (p.length : Int)) true
  | [], p, hl => by
    refine Ev.succ ?_
    simp only [laws_eqStringS.l0]
    exact Ev.neg (len_end p) (Ev.now _)
  | x :: t, p, hl => by
    rw [List.length_append, List.length_cons] at hl
    refine Ev.succ ?_
    simp only [laws_eqStringS.l0]
    refine Ev.pos (len_mid p t x) (Ev.pos (by omega) (Ev.pos (len_mid p t x) ?_))
    refine Ev.pos trivial ?_
    rw [len_next p x (by omega), app_next p t x]
    exact eqStringS_l0 t (p ++ [x]) (by simp; omega)
theorem eqStringS_ev (l : List ByteArray) (hl : l.length ≤ 9223372036854775806) : Ev (fun k => laws_eqStringS.f k l l) true := by
  unfold laws_eqStringS.f
  exact Ev.pos rfl (eqStringS_l0 l [] hl)

theorem markText_l0 : ∀ (n : Nat) (x : Int) (s : ByteArray), x.toNat ≤ n → s.size + x.toNat ≤ 4611686018427387904 → ∃ t, Ev (fun k => laws_markText.l0 k x s) t
  | n, x, s, hn, hs => by
    by_cases h : x > 0
    · match n, hn with
      | 0, hn => omega
      | n + 1, hn =>
        have e : Int.tdiv x 10 = x / 10 := Int.tdiv_eq_ediv_of_nonneg (by omega)
        have hsz : (strOfNums [(wrap64 (48 + (Int.tmod x 10))) % 256]).size = 1 := by rw [str_size]; rfl
        obtain ⟨t, ht⟩ := markText_l0 n (x / 10) (strOfNums [(wrap64 (48 + (Int.tmod x 10))) % 256] ++ s) (by omega) (by
          rw [ByteArray.size_append, hsz]; omega)
        refine ⟨t, Ev.succ ?_⟩
        simp only [laws_markText.l0]
        refine Ev.pos h (Ev.bind0 rfl (Ev.pos (by rw [hsz]; omega) ?_))
        rw [e, wrap_id (x := x / 10) (by omega) (by omega)]
        exact ht
    · refine ⟨(⟨#[109]⟩ : ByteArray) ++ s, Ev.succ ?_⟩
      · simp only [laws_markText.l0]
        exact Ev.neg h (Ev.pos (by omega) (Ev.now _))
theorem markText_ev (n : Int) (hn : n ≤ 4611686018427387904) : ∃ t, Ev (fun k => laws_markText.f k n) t := by
  unfold laws_markText.f
  by_cases h : n ≤ 0
  · exact ⟨_, Ev.pos h (Ev.now _)⟩
  · obtain ⟨t, ht⟩ := markText_l0 n.toNat n ⟨#[]⟩ (Nat.le_refl _) (by show 0 + n.toNat ≤ _; omega)
    exact ⟨t, Ev.neg h ht⟩
/-- The list is marked from a on. -/
def MarkedS : Int → List ByteArray → Prop
  | _, [] => True
  | a, s :: l => Ev (fun k => laws_markText.f k a) s ∧ MarkedS (a + 1) l
theorem markStringS_l0 : ∀ (t p : List ByteArray) (a : Int), 0 ≤ a → a + t.length ≤ 1000000000 → (p ++ t).length ≤ 1000000000 →
    ∃ t', Ev (fun k => laws_markStringS.l0 k (p ++ t) a (p.length : Int)) (a + t.length, p ++ t') ∧ MarkedS a t' ∧ t'.length = t.length
  | [], p, a, h0, ha, hl => by
    refine ⟨[], Ev.succ ?_, trivial, rfl⟩
    simp only [laws_markStringS.l0]
    exact Ev.neg (len_end p) (Ev.val (by simp))
  | x :: t, p, a, h0, ha, hl => by
    rw [List.length_append, List.length_cons] at hl
    rw [List.length_cons] at ha
    obtain ⟨s, hs⟩ := markText_ev a (by omega)
    obtain ⟨t', h1, h2, h3⟩ := markStringS_l0 t (p ++ [s]) (a + 1) (by omega) (by omega) (by simp; omega)
    refine ⟨s :: t', Ev.succ ?_, ⟨hs, h2⟩, by simp [h3]⟩
    simp only [laws_markStringS.l0]
    refine Ev.pos (len_mid p t x) (Ev.bind hs (Ev.pos (by omega) ?_))
    rw [set_mid, wrap_id (x := a + 1) (by omega) (by omega), len_next p s (by omega), app_next p t s]
    rw [show (a + ((x :: t).length : Int), p ++ s :: t') = (a + 1 + (t.length : Int), p ++ [s] ++ t') by simp; omega]
    exact h1
theorem heldStringS_l0 : ∀ (t p : List ByteArray) (a : Int), 0 ≤ a → a + t.length ≤ 1000000000 → (p ++ t).length ≤ 1000000000 → MarkedS a t →
    Ev (fun k => laws_heldStringS.l0 k (p ++ t) a (p.length : Int)) (a + t.length)
  | [], p, a, h0, ha, hl, hm => by
    refine Ev.succ ?_
    simp only [laws_heldStringS.l0]
    exact Ev.neg (len_end p) (Ev.val (by simp))
  | x :: t, p, a, h0, ha, hl, hm => by
    rw [List.length_append, List.length_cons] at hl
    rw [List.length_cons] at ha
    refine Ev.succ ?_
    simp only [laws_heldStringS.l0]
    refine Ev.pos (len_mid p t x) (Ev.pos (by omega) (Ev.bind hm.1 ?_))
    rw [rdOf_mid]
    refine Ev.pos rfl ?_
    rw [wrap_id (x := a + 1) (by omega) (by omega), len_next p x (by omega), app_next p t x, show a + ((x :: t).length : Int) = a + 1 + (t.length : Int) by simp; omega]
    exact heldStringS_l0 t (p ++ [x]) (a + 1) (by omega) (by omega) (by simp; omega) hm.2
theorem markStringS_ev (l : List ByteArray) (hl : l.length ≤ 100000000) : ∃ l', Ev (fun k => laws_markStringS.f k l 1) (1 + l.length, l') ∧ Ev (fun k => laws_heldStringS.f k l' 1) (1 + l.length) := by
  obtain ⟨l', h1, h2, h3⟩ := markStringS_l0 l [] 1 (by omega) (by omega) (by simp; omega)
  refine ⟨l', by unfold laws_markStringS.f; exact h1, ?_⟩
  have := heldStringS_l0 l' [] 1 (by omega) (by omega) (by simp; omega) h2
  rw [h3] at this
  unfold laws_heldStringS.f
  exact this
def allT : Nat → Nat → List S40
  | _, 0 => []
  | i, n + 1 => ⟨i, 1⟩ :: ⟨i, -1⟩ :: allT (i + 1) n
theorem trnA_l0 {W : Int} : ∀ (n i : Nat) (acc : List S40), (i : Int) + n = W → W ≤ 100 → acc.length ≤ 2 * i → Ev (fun k => impl_turns.l0 k acc W (i : Int)) (acc ++ allT i n)
  | 0, i, acc, h, _, _ => by
    refine Ev.succ ?_
    simp only [impl_turns.l0]
    exact Ev.neg (by omega) (Ev.val (by simp [allT]))
  | n + 1, i, acc, h, hW, ha => by
    have ih := trnA_l0 n (i + 1) (acc ++ [⟨i, 1⟩, ⟨i, -1⟩]) (by omega) hW (by simp; omega)
    refine Ev.succ ?_
    simp only [impl_turns.l0]
    refine Ev.pos (by omega) (Ev.bind0 rfl (Ev.pos (by simp; omega) ?_))
    rw [wrap_id (x := (i : Int) + 1) (by omega) (by omega)]
    have e : acc ++ [(⟨i, 1⟩ : S40), ⟨i, -1⟩] ++ allT (i + 1) n = acc ++ allT i (n + 1) := by simp [allT]
    rw [e] at ih
    exact ih
theorem trnA_ev {W : Int} (h0 : 0 ≤ W) (h1 : W ≤ 100) : Ev (fun k => impl_turns.f k W) (allT 0 W.toNat) := by
  unfold impl_turns.f
  exact trnA_l0 W.toNat 0 [] (by omega) h1 (by simp)
theorem bl_lt : ∀ (x y : List UInt8), Op.bytesLess x y = decide (x < y)
  | [], [] => by simp [Op.bytesLess]
  | _ :: _, [] => by simp [Op.bytesLess]
  | [], _ :: _ => by simp [Op.bytesLess]
  | a :: x, b :: y => by
    rw [Op.bytesLess, bl_lt x y]
    simp only [List.cons_lt_cons_iff]
    by_cases h1 : a < b <;> by_cases h2 : a = b <;> by_cases h3 : x < y <;> simp [h1, h2, h3]
def insU (x : List UInt8) : List (List UInt8) → List (List UInt8)
  | [] => [x]
  | y :: r => if y < x then y :: insU x r else if y = x then y :: r else x :: y :: r
theorem insU_mem (x z : List UInt8) : ∀ l, z ∈ insU x l ↔ z = x ∨ z ∈ l
  | [] => by simp [insU]
  | y :: r => by
    have ih := insU_mem x z r
    unfold insU
    by_cases h1 : y < x
    · rw [if_pos h1, List.mem_cons, ih, List.mem_cons]
      constructor
      · rintro (h | h | h) <;> simp [h]
      · rintro (h | h | h) <;> simp [h]
    · rw [if_neg h1]
      by_cases h2 : y = x
      · rw [if_pos h2, List.mem_cons]
        constructor
        · exact fun h => .inr h
        · rintro (h | h)
          · exact .inl (h.trans h2.symm)
          · exact h
      · rw [if_neg h2, List.mem_cons]
def SS (l : List (List UInt8)) : Prop := l.Pairwise (fun a b => a < b)
theorem insU_ss (x : List UInt8) : ∀ l, SS l → SS (insU x l)
  | [], _ => by simp [insU, SS]
  | y :: r, h => by
    obtain ⟨h1, h2⟩ := List.pairwise_cons.1 h
    unfold insU
    by_cases c1 : y < x
    · rw [if_pos c1]
      refine List.pairwise_cons.2 ⟨fun z hz => ?_, insU_ss x r h2⟩
      rcases (insU_mem x z r).1 hz with rfl | hz
      · exact c1
      · exact h1 z hz
    · rw [if_neg c1]
      by_cases c2 : y = x
      · rw [if_pos c2]; exact h
      · rw [if_neg c2]
        have c3 : x < y := by
          by_cases c : x < y
          · exact c
          · exact absurd (List.le_antisymm c c1) c2
        refine List.pairwise_cons.2 ⟨fun z hz => ?_, h⟩
        rcases List.mem_cons.1 hz with rfl | hz
        · exact c3
        · exact List.lt_trans c3 (h1 z hz)
theorem ss_ext {a b : List (List UInt8)} (ha : SS a) (hb : SS b) (h : ∀ x, x ∈ a ↔ x ∈ b) : a = b := by
  have na : a.Nodup := List.Pairwise.imp (S := fun x y => x ≠ y) (fun {x y} (hxy : x < y) (e : x = y) => List.lt_irrefl y (by rw [e] at hxy; exact hxy)) ha
  have nb : b.Nodup := List.Pairwise.imp (S := fun x y => x ≠ y) (fun {x y} (hxy : x < y) (e : x = y) => List.lt_irrefl y (by rw [e] at hxy; exact hxy)) hb
  exact List.Perm.eq_of_pairwise (le := fun a b => a < b) (fun x y _ _ h1 h2 => absurd (List.lt_trans h1 h2) (List.lt_irrefl x)) ha hb ((List.perm_ext_iff_of_nodup na nb).2 h)
theorem cut_to_inv (ts : List (List UInt8)) (hs : ts.Pairwise (fun a b => ¬ b < a)) : ∀ m, m ≤ ts.length → SS (Lib.compactUpTo ts.toArray m) ∧ ∀ z, z ∈ Lib.compactUpTo ts.toArray m ↔ ∃ j, j < m ∧ ts[j]? = some z
  | 0, _ => by simp [Lib.compactUpTo, SS]
  | m + 1, hm => by
    obtain ⟨i1, i2⟩ := cut_to_inv ts hs m (by omega)
    have hg : ∀ j (hj : j < ts.length), ts.toArray[j]! = ts[j] := fun j hj => by simp [getElem!_pos, hj]
    rw [Lib.compactUpTo_succ]
    have em := hg m (by omega)
    have hmem : ∀ z, (∃ j, j < m + 1 ∧ ts[j]? = some z) ↔ (∃ j, j < m ∧ ts[j]? = some z) ∨ z = ts[m] := fun z => by
      constructor
      · rintro ⟨j, hj, e⟩
        rcases Nat.lt_or_ge j m with h | h
        · exact .inl ⟨j, h, e⟩
        · obtain rfl : j = m := by omega
          rw [List.getElem?_eq_getElem (by omega)] at e
          exact .inr (Option.some.inj e).symm
      · rintro (⟨j, hj, e⟩ | rfl)
        · exact ⟨j, by omega, e⟩
        · exact ⟨m, by omega, List.getElem?_eq_getElem (by omega)⟩
    by_cases hk : Lib.keeps ts.toArray m = true
    · rw [if_pos hk, em]
      refine ⟨List.pairwise_append.2 ⟨i1, by simp, fun a ha b hb => ?_⟩, fun z => ?_⟩
      · rw [List.mem_singleton] at hb
        subst hb
        obtain ⟨j, hj, e⟩ := (i2 a).1 ha
        obtain ⟨m', rfl⟩ : ∃ m', m = m' + 1 := ⟨m - 1, by omega⟩
        have hne : ts[m' + 1] ≠ ts[m'] := by
          have := of_decide_eq_true hk
          rcases this with h | h
          · omega
          · rw [em, show m' + 1 - 1 = m' by omega, hg m' (by omega)] at h; exact h
        have hle : ∀ i j (hi : i < ts.length) (hj : j < ts.length), i ≤ j → ¬ ts[j] < ts[i] := fun i j hi hj hij => by
          rcases Nat.lt_or_ge i j with h | h
          · exact List.pairwise_iff_getElem.1 hs i j hi hj h
          · obtain rfl : i = j := by omega
            exact List.lt_irrefl _
        have h1 := hle m' (m' + 1) (by omega) (by omega) (by omega)
        have h2 : ts[m'] < ts[m' + 1] := by
          by_cases c : ts[m'] < ts[m' + 1]
          · exact c
          · exact absurd (List.le_antisymm c h1) hne
        rw [List.getElem?_eq_getElem (by omega)] at e
        have ea := Option.some.inj e
        subst ea
        exact List.lt_of_le_of_lt (hle j m' (by omega) (by omega) (by omega)) h2
      · rw [List.mem_append, i2, hmem, List.mem_singleton]
    · rw [if_neg hk, List.append_nil]
      refine ⟨i1, fun z => ?_⟩
      rw [i2, hmem]
      have hd : ¬ (m = 0 ∨ ts.toArray[m]! ≠ ts.toArray[m - 1]!) := fun h => hk (decide_eq_true h)
      have h0 : m ≠ 0 := fun h => hd (.inl h)
      have h1 : ts.toArray[m]! = ts.toArray[m - 1]! := by
        by_cases h : ts.toArray[m]! = ts.toArray[m - 1]!
        · exact h
        · exact absurd (.inr h) hd
      rw [em, hg (m - 1) (by omega)] at h1
      constructor
      · exact .inl
      · rintro (h | rfl)
        · exact h
        · exact ⟨m - 1, by omega, by rw [List.getElem?_eq_getElem (by omega), h1]⟩
theorem cut_sorted (l : List (List UInt8)) : SS (Lib.compact (l.mergeSort fun x y => decide (x ≤ y))) ∧ ∀ z, z ∈ Lib.compact (l.mergeSort fun x y => decide (x ≤ y)) ↔ z ∈ l := by
  have tr : ∀ a b c : List UInt8, decide (a ≤ b) = true → decide (b ≤ c) = true → decide (a ≤ c) = true := fun a b c h1 h2 => by simp only [decide_eq_true_eq] at *; exact List.le_trans h1 h2
  have tt_ : ∀ a b : List UInt8, (decide (a ≤ b) || decide (b ≤ a)) = true := fun a b => by simp only [Bool.or_eq_true, decide_eq_true_eq]; exact List.le_total a b
  have hp := List.pairwise_mergeSort tr tt_ l
  have hm := fun z => (List.mergeSort_perm l fun x y => decide (x ≤ y)).mem_iff (a := z)
  generalize (l.mergeSort fun x y => decide (x ≤ y)) = ts at hp hm
  have hs : ts.Pairwise (fun a b => ¬ b < a) := hp.imp (fun h => of_decide_eq_true h)
  obtain ⟨h1, h2⟩ := cut_to_inv ts hs ts.length (Nat.le_refl _)
  refine ⟨h1, fun z => ?_⟩
  rw [← hm z]
  unfold Lib.compact
  rw [h2 z, List.mem_iff_getElem?]
  constructor
  · rintro ⟨j, _, e⟩; exact ⟨j, e⟩
  · rintro ⟨j, e⟩; exact ⟨j, (List.getElem?_eq_some_iff.1 e).1, e⟩
theorem fold_ins (l : List (List UInt8)) : ∀ o, SS o → SS (l.foldl (fun o c => insU c o) o) ∧ ∀ z, z ∈ l.foldl (fun o c => insU c o) o ↔ z ∈ o ∨ z ∈ l := by
  induction l with
  | nil => intro o h; exact ⟨h, fun z => by simp⟩
  | cons c l ih =>
    intro o h
    obtain ⟨h1, h2⟩ := ih (insU c o) (insU_ss c o h)
    refine ⟨h1, fun z => ?_⟩
    rw [List.foldl_cons, h2, insU_mem, List.mem_cons]
    constructor
    · rintro ((h | h) | h) <;> simp [h]
    · rintro (h | h | h) <;> simp [h]
theorem ins_is_sort (l : List (List UInt8)) : l.foldl (fun o c => insU c o) [] = Lib.compact (l.mergeSort fun x y => decide (x ≤ y)) := by
  obtain ⟨h1, h2⟩ := fold_ins l [] (by simp [SS])
  obtain ⟨h3, h4⟩ := cut_sorted l
  exact ss_ext h1 h3 (fun z => by rw [h2, h4]; simp)
def codT (D : Int) (ds : List Int) (t : S40) : ByteArray := txt (turnM D ds t.f0 t.f1)
def insB (x : ByteArray) : List ByteArray → List ByteArray
  | [] => [x]
  | y :: r => if Op.bytesLess y.toList x.toList = true then y :: insB x r else if y.toList = x.toList then y :: r else x :: y :: r
def kb (s : ByteArray) : List UInt8 := s.data.toList
theorem kb_toList (s : ByteArray) : s.toList = kb s := Go.ByteArray.toList_eq s
theorem kb_back (s : ByteArray) : (⟨(kb s).toArray⟩ : ByteArray) = s := by simp [kb]
theorem kb_insB (x : ByteArray) : ∀ l, (insB x l).map kb = insU (kb x) (l.map kb)
  | [] => rfl
  | y :: r => by
    have ih := kb_insB x r
    rw [List.map_cons]
    unfold insB insU
    rw [kb_toList, kb_toList, bl_lt]
    by_cases h1 : kb y < kb x
    · rw [if_pos (decide_eq_true h1), if_pos h1, List.map_cons, ih]
    · rw [if_neg (by simp [h1]), if_neg h1]
      by_cases h2 : kb y = kb x
      · rw [if_pos h2, if_pos h2, List.map_cons]
      · rw [if_neg h2, if_neg h2, List.map_cons, List.map_cons]
theorem insB_len (x : ByteArray) : ∀ l, (insB x l).length ≤ l.length + 1
  | [] => by simp [insB]
  | y :: r => by
    have ih := insB_len x r
    unfold insB
    split
    · simp only [List.length_cons]; omega
    · split <;> simp
theorem nc_sl2 {W D x7 x23 x24 : Int} {x1 x : ByteArray} {x22 : List Int} {r : List ByteArray × Bool} : ∀ (t p : List ByteArray), (p ++ t).length ≤ 100000 →
    Ev (fun k => spec_NextCodes.l1 k x1 (p ++ insB x t) x7 x22 x23 (wrap64 (x24 + 1)) W D) r → Ev (fun k => spec_NextCodes.l2 k x1 (p ++ t) x7 x (p.length : Int) x22 x23 x24 W D) r
  | [], p, hl, h => by
    have e : (([] : List ByteArray) ++ (p ++ []).take (p.length : Int).toNat) ++ [x] ++ (p ++ []).drop (p.length : Int).toNat = p ++ insB x [] := by simp [insB]
    rw [← e] at h
    simp only [List.append_nil] at hl
    refine Ev.succ ?_
    simp only [spec_NextCodes.l2]
    exact Ev.neg (len_end p) (Ev.pos (by simp) (Ev.bind0 rfl (Ev.pos (by omega) (Ev.pos (by simp) (Ev.bind0 rfl (Ev.pos (by simp; omega) (Ev.bind0 rfl (Ev.bind0 rfl (Ev.pos (by simp; omega) (Ev.bind0 rfl (Ev.bind0 rfl (Ev.pos (by simp; omega) h))))))))))))
  | y :: t, p, hl, h => by
    rw [List.length_append, List.length_cons] at hl
    refine Ev.succ ?_
    simp only [spec_NextCodes.l2]
    refine Ev.pos (len_mid p t y) (Ev.pos (by omega) ?_)
    rw [rdOf_mid]
    by_cases h1 : Op.bytesLess y.toList x.toList = true
    · refine Ev.pos h1 ?_
      rw [len_next p y (by omega), app_next p t y]
      refine nc_sl2 t (p ++ [y]) (by simp; omega) ?_
      have e : p ++ insB x (y :: t) = (p ++ [y]) ++ insB x t := by rw [insB, if_pos h1]; simp
      rw [← e]
      exact h
    · refine Ev.neg h1 (Ev.neg (by simp; omega) ?_)
      by_cases h2 : y.toList = x.toList
      · refine Ev.pos h2 ?_
        rw [insB, if_neg h1, if_pos h2] at h
        exact h
      · have e : (([] : List ByteArray) ++ (p ++ y :: t).take (p.length : Int).toNat) ++ [x] ++ (p ++ y :: t).drop (p.length : Int).toNat = p ++ insB x (y :: t) := by rw [insB, if_neg h1, if_neg h2]; simp
        rw [← e] at h
        exact Ev.neg h2 (Ev.bind0 rfl (Ev.pos (by simp; omega) (Ev.bind0 rfl (Ev.pos (by simp; omega) (Ev.bind0 rfl (Ev.bind0 rfl (Ev.pos (by simp; omega) (Ev.bind0 rfl (Ev.bind0 rfl (Ev.pos (by simp; omega) h))))))))))
theorem nc_sl1 {W D : Int} (hD : 2 ≤ D ∧ D ≤ 10) {ds out : List _} (hd : Ok D ds) (hl : ds.length ≤ 6) {i : Nat} (hi : i < ds.length) (ho : out.length ≤ 1000) {r : List ByteArray × Bool}
    (h : Ev (fun k => spec_NextCodes.l0 k (txt ds) (insB (codT D ds ⟨i, -1⟩) (insB (codT D ds ⟨i, 1⟩) out)) (wrap64 ((i : Int) + 1)) W D) r) :
    Ev (fun k => spec_NextCodes.l1 k (txt ds) out (i : Int) [1, -1] (([1, -1] : List Int).length : Int) 0 W D) r := by
  have h1 := insB_len (codT D ds ⟨i, 1⟩) out
  have h2 := insB_len (codT D ds ⟨i, -1⟩) (insB (codT D ds ⟨i, 1⟩) out)
  refine Ev.succ ?_
  simp only [spec_NextCodes.l1]
  refine Ev.pos (by simp) (Ev.pos (by omega) (Ev.pos (by simp) (Ev.bind (whMake_ev hD hd hl (by omega) (by omega) (by simp [rd])) ?_)))
  refine nc_sl2 out [] (by simpa using by omega) ?_
  rw [show wrap64 ((0 : Int) + 1) = 1 by rw [wrap_id] <;> omega]
  refine Ev.succ ?_
  simp only [spec_NextCodes.l1]
  refine Ev.pos (by simp) (Ev.pos (by omega) (Ev.pos (by simp) (Ev.bind (whMake_ev hD hd hl (by omega) (by omega) (by simp [rd])) ?_)))
  refine nc_sl2 (insB (codT D ds ⟨i, 1⟩) out) [] (by simpa using by omega) ?_
  rw [show wrap64 ((1 : Int) + 1) = 2 by rw [wrap_id] <;> omega]
  refine Ev.succ ?_
  simp only [spec_NextCodes.l1]
  exact Ev.neg (by simp) h
theorem nc_sl0 {W D : Int} (hD : 2 ≤ D ∧ D ≤ 10) {ds : List Int} (hd : Ok D ds) (hl : ds.length ≤ 6) (hW : (ds.length : Int) = W) : ∀ (n i : Nat) (out : List ByteArray), (i : Int) + n = W → out.length ≤ 2 * i →
    Ev (fun k => spec_NextCodes.l0 k (txt ds) out (i : Int) W D) ((allT i n).foldl (fun o t => insB (codT D ds t) o) out, true)
  | 0, i, out, e, ho => by
    refine Ev.succ ?_
    simp only [spec_NextCodes.l0]
    exact Ev.neg (by omega) (Ev.val rfl)
  | n + 1, i, out, e, ho => by
    have h1 := insB_len (codT D ds ⟨i, 1⟩) out
    have h2 := insB_len (codT D ds ⟨i, -1⟩) (insB (codT D ds ⟨i, 1⟩) out)
    have ih := nc_sl0 hD hd hl hW n (i + 1) (insB (codT D ds ⟨i, -1⟩) (insB (codT D ds ⟨i, 1⟩) out)) (by omega) (by omega)
    refine Ev.succ ?_
    simp only [spec_NextCodes.l0]
    refine Ev.pos (by omega) (Ev.bind0 rfl (nc_sl1 hD hd hl (by omega) (by omega) ?_))
    rw [wrap_id (x := (i : Int) + 1) (by omega) (by omega)]
    exact ih
def NextCodesM (W D : Int) (s : ByteArray) : List ByteArray × Bool := if (good W D && isC W D s) = true then ((allT 0 W.toNat).foldl (fun o t => insB (codT D (dgs s) t) o) [], true) else ([], false)
theorem NextCodes_s (W D : Int) (s : ByteArray) (hs : s.size ≤ 1048576) : Ev (fun k => spec_NextCodes.f k W D s) (NextCodesM W D s) := by
  unfold spec_NextCodes.f NextCodesM
  refine Ev.bind (whAsked_ev W D s hs) ?_
  by_cases h : (good W D && isC W D s) = true
  · rw [if_pos h]
    obtain ⟨⟨a, b, c, d⟩, e1, o1, l1⟩ := one_of h
    refine Ev.pos h ?_
    have := nc_sl0 (W := W) ⟨c, d⟩ o1 (by omega) l1 W.toNat 0 [] (by omega) (by simp)
    rw [← e1] at this
    exact this
  · rw [if_neg h]; exact Ev.neg h (Ev.now _)
theorem allT_ok {W : Int} : ∀ (n i : Nat), (i : Int) + n ≤ W → ∀ t ∈ allT i n, (0 ≤ t.f0 ∧ t.f0 < W) ∧ (-1 ≤ t.f1 ∧ t.f1 ≤ 1)
  | 0, i, h, t, ht => by simp [allT] at ht
  | n + 1, i, h, t, ht => by
    rw [allT, List.mem_cons, List.mem_cons] at ht
    rcases ht with rfl | rfl | ht
    · exact ⟨⟨by show (0 : Int) ≤ (i : Int); omega, by show (i : Int) < W; omega⟩, by show (-1 : Int) ≤ (1 : Int); decide, by show (1 : Int) ≤ (1 : Int); decide⟩
    · exact ⟨⟨by show (0 : Int) ≤ (i : Int); omega, by show (i : Int) < W; omega⟩, by show (-1 : Int) ≤ (-1 : Int); decide, by show (-1 : Int) ≤ (1 : Int); decide⟩
    · exact allT_ok n (i + 1) (by omega) t ht
theorem allT_len : ∀ (n i : Nat), (allT i n).length = 2 * n
  | 0, i => rfl
  | n + 1, i => by rw [allT, List.length_cons, List.length_cons, allT_len n (i + 1)]; omega
theorem nx_il0 {W D : Int} (hD : 2 ≤ D ∧ D ≤ 10) {ds : List Int} (hd : Ok D ds) (hl : ds.length ≤ 6) (hW : (ds.length : Int) = W) {r : List ByteArray} : ∀ (ts p : List S40) (acc : List ByteArray), (∀ t ∈ ts, (0 ≤ t.f0 ∧ t.f0 < W) ∧ (-1 ≤ t.f1 ∧ t.f1 ≤ 1)) → (p ++ ts).length ≤ 1000 → acc.length ≤ p.length →
    impl_sorted.f (acc ++ ts.map (codT D ds)) = some r → Ev (fun k => impl_Lock_next.l0 k (txt ds) acc (p ++ ts) ((p ++ ts).length : Int) (p.length : Int) W D) r
  | [], p, acc, ht, h1, h2, h => by
    refine Ev.succ ?_
    simp only [impl_Lock_next.l0]
    rw [List.map_nil, List.append_nil] at h
    exact Ev.neg (len_end p) (Ev.bind0 h (Ev.now _))
  | t :: ts, p, acc, ht, h1, h2, h => by
    rw [List.length_append, List.length_cons] at h1
    have ht0 := ht t (by simp)
    refine Ev.succ ?_
    simp only [impl_Lock_next.l0]
    refine Ev.pos (len_mid p ts t) (Ev.pos (by omega) (Ev.pos (len_mid p ts t) ?_))
    rw [rdT_mid]
    refine Ev.bind (turned_ev hD hd hl ht0.1.1 (by omega) ht0.2) (Ev.pos (by omega) ?_)
    rw [len_next p t (by omega), app_next p ts t]
    refine nx_il0 hD hd hl hW ts (p ++ [t]) (acc ++ [codT D ds t]) (fun x hx => ht x (by simp [hx])) (by simp; omega) (by simp; omega) ?_
    rw [List.append_assoc, List.singleton_append, ← List.map_cons]
    exact h
theorem kb_fold (D : Int) (ds : List Int) : ∀ (l : List S40) (o : List ByteArray), (l.foldl (fun o t => insB (codT D ds t) o) o).map kb = (l.map fun t => kb (codT D ds t)).foldl (fun o c => insU c o) (o.map kb)
  | [], o => rfl
  | t :: l, o => by rw [List.foldl_cons, kb_fold D ds l, kb_insB]; rfl
theorem sorted_is (D : Int) (ds : List Int) (l : List S40) (h0 : 0 < l.length) (h1 : l.length < 1000) : impl_sorted.f (l.map (codT D ds)) = some (l.foldl (fun o t => insB (codT D ds t) o) []) := by
  unfold impl_sorted.f
  rw [if_pos (by simpa using h0), if_pos (by simp; omega)]
  congr 1
  have e : sortC (l.map (codT D ds)) = (l.foldl (fun o t => insB (codT D ds t) o) []).map kb := by
    rw [kb_fold, List.map_nil, ins_is_sort]
    unfold sortC lts
    rw [List.map_map]
    rfl
  rw [e, List.map_map]
  have : ((fun b => (⟨b.toArray⟩ : ByteArray)) ∘ kb) = id := funext fun s => kb_back s
  rw [this, List.map_id]
theorem NextCodes_i (W D : Int) (s : ByteArray) (hs : s.size ≤ 1048576) : Ev (fun k => impl_NextCodes.f k W D s) (NextCodesM W D s) := by
  unfold impl_NextCodes.f NextCodesM
  refine Ev.bind (has1_ev W D s hs) ?_
  by_cases h : (good W D && isC W D s) = true
  · rw [if_pos h]
    obtain ⟨⟨a, b, c, d⟩, e1, o1, l1⟩ := one_of h
    refine Ev.pos h (Ev.bind (a := (allT 0 W.toNat).foldl (fun o t => insB (codT D (dgs s) t) o) []) ?_ (Ev.now _))
    unfold impl_Lock_next.f
    refine Ev.bind (trnA_ev (by omega) (by omega)) ?_
    have hlen := allT_len W.toNat 0
    have := nx_il0 (W := W) ⟨c, d⟩ o1 (by omega) l1 (allT 0 W.toNat) [] [] (allT_ok W.toNat 0 (by omega)) (by simp; omega) (by simp) (by rw [List.nil_append]; exact sorted_is D (dgs s) _ (by omega) (by omega))
    rw [← e1] at this
    exact this
  · rw [if_neg h]; exact Ev.neg h (Ev.now _)
theorem NextCodesM_len (W D : Int) (s : ByteArray) : (NextCodesM W D s).1.length ≤ 100 := by
  unfold NextCodesM
  by_cases h : (good W D && isC W D s) = true
  · rw [if_pos h]
    obtain ⟨⟨a, b, c, d⟩, e1, o1, l1⟩ := one_of h
    have hf : ∀ (l : List S40) (o : List ByteArray), (l.foldl (fun o t => insB (codT D (dgs s) t) o) o).length ≤ o.length + l.length := by
      intro l
      induction l with
      | nil => intro o; simp
      | cons t l ih =>
        intro o
        have h1 := ih (insB (codT D (dgs s) t) o)
        have h2 := insB_len (codT D (dgs s) t) o
        rw [List.foldl_cons, List.length_cons]
        omega
    have h1 := hf (allT 0 W.toNat) []
    have h2 := allT_len W.toNat 0
    rw [List.length_nil] at h1
    show ((allT 0 W.toNat).foldl (fun o t => insB (codT D (dgs s) t) o) []).length ≤ 100
    omega
  · rw [if_neg h]; simp
end Go.Proofs.Ytoaekmghlmeflaa.L
