/- What the printed functions that FnExactTurnWheels reaches come to: lemmas for its plain law. -/
import Derived.Test.YtoaekmghlmeflaaMath
import Derived.Test.YtoaekmghlmeflaaQ0
import Derived.Test.YtoaekmghlmeflaaQ1
import Derived.Test.YtoaekmghlmeflaaQ2
import Derived.Test.YtoaekmghlmeflaaQ3
import Derived.Test.YtoaekmghlmeflaaQ4
import Derived.Test.YtoaekmghlmeflaaQ6
import Derived.Test.YtoaekmghlmeflaaQ7
import Derived.Test.YtoaekmghlmeflaaQ8
import Derived.Test.YtoaekmghlmeflaaQ12
import Derived.Test.YtoaekmghlmeflaaQ13
import Derived.Test.YtoaekmghlmeflaaQ14
import Derived.Test.YtoaekmghlmeflaaQ15
import Derived.Test.YtoaekmghlmeflaaQ16
import Derived.Test.YtoaekmghlmeflaaQ18
import Derived.Test.YtoaekmghlmeflaaQ19
import Derived.Test.YtoaekmghlmeflaaQ20
import Derived.Test.YtoaekmghlmeflaaQ21
import Derived.Test.YtoaekmghlmeflaaQ23
import Derived.Test.YtoaekmghlmeflaaQ24
import Derived.Test.YtoaekmghlmeflaaQ25
import Derived.Test.YtoaekmghlmeflaaQ26
import Derived.Test.YtoaekmghlmeflaaQ27
namespace Go.Proofs.Ytoaekmghlmeflaa.L
open Go.RowKit Go.Proofs.YtoaekmghlmeflaaW.PrintWords Go.Proofs.YtoaekmghlmeflaaW.PrintMore Go.Proofs.Ytoaekmghlmeflaa.M Go.Proofs.Ytoaekmghlmeflaa.Q
set_option linter.unusedVariables false
set_option linter.unusedSimpArgs false
theorem whGood_f (W D : Int) : spec_whGood.f W D = some (good W D) := by
  unfold spec_whGood.f spec_l1In.f good
  by_cases h1 : 1 ≤ W <;> by_cases h2 : W ≤ 6 <;> by_cases h3 : 2 ≤ D <;> by_cases h4 : D ≤ 10 <;> simp [h1, h2, h3, h4]
theorem IsLock_i (W D : Int) : impl_IsLock.f W D = some (good W D) := by
  unfold impl_IsLock.f impl_within.f good
  by_cases h1 : 1 ≤ W <;> by_cases h2 : W ≤ 6 <;> by_cases h3 : 2 ≤ D <;> by_cases h4 : D ≤ 10 <;> simp [h1, h2, h3, h4]
theorem l1In_f (n lo hi : Int) : spec_l1In.f n lo hi = some (decide (lo ≤ n ∧ n ≤ hi)) := by
  unfold spec_l1In.f
  by_cases h1 : lo ≤ n <;> by_cases h2 : n ≤ hi <;> simp [h1, h2]
theorem within_f (n lo hi : Int) : impl_within.f n lo hi = some (decide (lo ≤ n ∧ n ≤ hi)) := by
  unfold impl_within.f
  by_cases h1 : lo ≤ n <;> by_cases h2 : n ≤ hi <;> simp [h1, h2]

theorem whCode_l0 {W D : Int} (hD : 2 ≤ D ∧ D ≤ 10) {s : ByteArray} (hs : s.size ≤ 1048576) : ∀ (t p : List Int), bys s = p ++ t → Ev (fun k => spec_whCode.l0 k s (p.length : Int) W D) (t.all fun b => decide (48 ≤ b ∧ b < 48 + D))
  | [], p, e => by
    have el : p.length = s.size := by rw [← bys_length, e]; simp
    refine Ev.succ ?_
    simp only [spec_whCode.l0]
    exact Ev.neg (by omega) (Ev.now _)
  | x :: t, p, e => by
    have el : p.length + (t.length + 1) = s.size := by rw [← bys_length, e]; simp
    have hx := bys_range s x (by rw [e]; simp)
    refine Ev.succ ?_
    simp only [spec_whCode.l0]
    refine Ev.pos (by omega) (Ev.pos (by omega) ?_)
    rw [bt_bys, e, rd_mid, wrap_id (x := x) (by omega) (by omega), wrap_id (x := x - 48) (by omega) (by omega), wrap_id (x := D - 1) (by omega) (by omega), l1In_f]
    refine Ev.bind0 rfl ?_
    by_cases hb : 48 ≤ x ∧ x < 48 + D
    · refine Ev.pos (by simp; omega) ?_
      rw [show wrap64 ((p.length : Int) + 1) = ((p ++ [x]).length : Int) from len_next p x (by omega)]
      simp only [List.all_cons, hb, and_self, decide_true, Bool.true_and]
      exact whCode_l0 hD hs t (p ++ [x]) (by rw [e]; simp)
    · refine Ev.neg (by simp; omega) ?_
      rw [List.all_cons, decide_eq_false hb, Bool.false_and]
      exact Ev.now _
theorem whCode_ev {W D : Int} (h : good W D = true) (s : ByteArray) (hs : s.size ≤ 1048576) : Ev (fun k => spec_whCode.f k W D s) (isC W D s) := by
  obtain ⟨a, b, c, d⟩ := good_iff.1 h
  unfold spec_whCode.f isC
  by_cases e : (s.size : Int) = W
  · refine Ev.pos e ?_
    rw [decide_eq_true e, Bool.true_and]
    exact whCode_l0 ⟨c, d⟩ hs (bys s) [] rfl
  · refine Ev.neg e ?_
    rw [decide_eq_false e, Bool.false_and]
    exact Ev.now _
theorem isText_l0 {W D : Int} (hD : 2 ≤ D ∧ D ≤ 10) {s : ByteArray} (hs : s.size ≤ 1048576) : ∀ (t p : List Int), bys s = p ++ t → Ev (fun k => impl_Lock_isText.l0 k s (s.size : Int) (p.length : Int) W D) (t.all fun b => decide (48 ≤ b ∧ b < 48 + D))
  | [], p, e => by
    have el : p.length = s.size := by rw [← bys_length, e]; simp
    refine Ev.succ ?_
    simp only [impl_Lock_isText.l0]
    exact Ev.neg (by omega) (Ev.now _)
  | x :: t, p, e => by
    have el : p.length + (t.length + 1) = s.size := by rw [← bys_length, e]; simp
    have hx := bys_range s x (by rw [e]; simp)
    refine Ev.succ ?_
    simp only [impl_Lock_isText.l0]
    refine Ev.pos (by omega) (Ev.pos (by omega) (Ev.pos (by omega) ?_))
    rw [bt_bys, e, rd_mid, wrap_id (x := x) (by omega) (by omega), wrap_id (x := 48 + D) (by omega) (by omega), wrap_id (x := 48 + D - 1) (by omega) (by omega), within_f]
    refine Ev.bind0 rfl ?_
    by_cases hb : 48 ≤ x ∧ x < 48 + D
    · refine Ev.pos (by simp; omega) ?_
      rw [show wrap64 ((p.length : Int) + 1) = ((p ++ [x]).length : Int) from len_next p x (by omega)]
      simp only [List.all_cons, hb, and_self, decide_true, Bool.true_and]
      exact isText_l0 hD hs t (p ++ [x]) (by rw [e]; simp)
    · refine Ev.neg (by simp; omega) ?_
      rw [List.all_cons, decide_eq_false hb, Bool.false_and]
      exact Ev.now _
theorem isCode_ev {W D : Int} (h : good W D = true) (s : ByteArray) (hs : s.size ≤ 1048576) : Ev (fun k => impl_Lock_isCode.f k W D s) (isC W D s) := by
  obtain ⟨a, b, c, d⟩ := good_iff.1 h
  unfold impl_Lock_isCode.f isC
  by_cases e : (s.size : Int) = W
  · refine Ev.pos e ?_
    rw [decide_eq_true e, Bool.true_and]
    refine Ev.bind (isText_l0 (W := W) ⟨c, d⟩ hs (bys s) [] rfl) (Ev.now _)
  · refine Ev.neg e ?_
    rw [decide_eq_false e, Bool.false_and]
    exact Ev.now _

theorem dgs_app {s : ByteArray} {p t : List Int} (e : bys s = p ++ t) : dgs s = (p.map fun b => (b - 48) % 256) ++ (t.map fun b => (b - 48) % 256) := by
  unfold dgs; rw [e, List.map_append]
theorem whDigits_l0 {s : ByteArray} (hs : s.size ≤ 1048576) : ∀ (t p : List Int), bys s = p ++ t → Ev (fun k => spec_whDigits.l0 k s (p.map fun b => (b - 48) % 256) (p.length : Int)) (dgs s)
  | [], p, e => by
    have el : p.length = s.size := by rw [← bys_length, e]; simp
    refine Ev.succ ?_
    simp only [spec_whDigits.l0]
    refine Ev.neg (by omega) (Ev.val ?_)
    rw [dgs_app e]; simp
  | x :: t, p, e => by
    have el : p.length + (t.length + 1) = s.size := by rw [← bys_length, e]; simp
    refine Ev.succ ?_
    simp only [spec_whDigits.l0]
    refine Ev.pos (by omega) (Ev.pos (by omega) (Ev.pos (by rw [List.length_map]; omega) ?_))
    rw [bt_bys, e, rd_mid, show wrap64 ((p.length : Int) + 1) = ((p ++ [x]).length : Int) from len_next p x (by omega)]
    have := whDigits_l0 hs t (p ++ [x]) (by rw [e]; simp)
    rw [List.map_append] at this
    exact this
theorem whDigits_ev (s : ByteArray) (hs : s.size ≤ 1048576) : Ev (fun k => spec_whDigits.f k s) (dgs s) := by
  unfold spec_whDigits.f
  exact whDigits_l0 hs (bys s) [] rfl
theorem digits_l0 {s : ByteArray} (hs : s.size ≤ 1048576) : ∀ (t p : List Int), bys s = p ++ t → Ev (fun k => impl_digits.l0 k s (p.map fun b => (b - 48) % 256) (s.size : Int) (p.length : Int)) (dgs s)
  | [], p, e => by
    have el : p.length = s.size := by rw [← bys_length, e]; simp
    refine Ev.succ ?_
    simp only [impl_digits.l0]
    refine Ev.neg (by omega) (Ev.val ?_)
    rw [dgs_app e]; simp
  | x :: t, p, e => by
    have el : p.length + (t.length + 1) = s.size := by rw [← bys_length, e]; simp
    refine Ev.succ ?_
    simp only [impl_digits.l0]
    refine Ev.pos (by omega) (Ev.pos (by omega) (Ev.pos (by omega) (Ev.pos (by rw [List.length_map]; omega) ?_)))
    rw [bt_bys, e, rd_mid, show wrap64 ((p.length : Int) + 1) = ((p ++ [x]).length : Int) from len_next p x (by omega)]
    have := digits_l0 hs t (p ++ [x]) (by rw [e]; simp)
    rw [List.map_append] at this
    exact this
theorem digits_ev (s : ByteArray) (hs : s.size ≤ 1048576) : Ev (fun k => impl_digits.f k s) (dgs s) := by
  unfold impl_digits.f
  exact digits_l0 hs (bys s) [] rfl
theorem whDigits_txt {ds : List Int} (h : Ok 10 ds) (hl : ds.length ≤ 1048576) : Ev (fun k => spec_whDigits.f k (txt ds)) ds := by
  have := whDigits_ev (txt ds) (by rw [txt_size]; exact hl)
  rwa [dgs_txt h] at this
theorem digits_txt {ds : List Int} (h : Ok 10 ds) (hl : ds.length ≤ 1048576) : Ev (fun k => impl_digits.f k (txt ds)) ds := by
  have := digits_ev (txt ds) (by rw [txt_size]; exact hl)
  rwa [dgs_txt h] at this

theorem l1Num_ev {d : Int} (h0 : 0 ≤ d) (h1 : d < 10) : Ev (fun k => spec_l1Num.f k d) (txt [d]) := by
  refine Ev.succ ?_
  simp only [spec_l1Num.f]
  refine Ev.pos h1 (Ev.val ?_)
  rw [wrap_id (by omega) (by omega), show (48 + d) % 256 = 48 + d by omega]; rfl
theorem whText_l0 : ∀ (t p : List Int), Ok 10 (p ++ t) → (p ++ t).length ≤ 1048576 → Ev (fun k => spec_whText.l0 k (txt p) (p ++ t) ((p ++ t).length : Int) (p.length : Int)) (txt (p ++ t))
  | [], p, h, hl => by
    refine Ev.succ ?_
    simp only [spec_whText.l0]
    refine Ev.neg (len_end p) (Ev.val (by simp))
  | x :: t, p, h, hl => by
    have hx := (Ok.cons.1 (Ok.append.1 h).2).1
    rw [List.length_append, List.length_cons] at hl
    refine Ev.succ ?_
    simp only [spec_whText.l0]
    refine Ev.pos (len_mid p t x) (Ev.pos (by omega) (Ev.pos (len_mid p t x) ?_))
    rw [rd_mid]
    refine Ev.bind (l1Num_ev hx.1 hx.2) (Ev.pos (by rw [txt_size, txt_size]; simp; omega) ?_)
    rw [len_next p x (by omega), txt_append, app_next p t x]
    refine whText_l0 t (p ++ [x]) (by rw [← app_next p t x]; exact h) (by simp; omega)
theorem whText_ev {ds : List Int} (h : Ok 10 ds) (hl : ds.length ≤ 1048576) : Ev (fun k => spec_whText.f k ds) (txt ds) := by
  unfold spec_whText.f
  exact whText_l0 ds [] h hl
theorem text_l0 : ∀ (t p : List Int), Ok 10 (p ++ t) → (p ++ t).length ≤ 1048576 → Ev (fun k => impl_text.l0 k (p.map (48 + ·)) (p ++ t) ((p ++ t).length : Int) (p.length : Int)) (txt (p ++ t))
  | [], p, h, hl => by
    refine Ev.succ ?_
    simp only [impl_text.l0]
    refine Ev.neg (len_end p) (Ev.val (by unfold txt; simp))
  | x :: t, p, h, hl => by
    have hx := (Ok.cons.1 (Ok.append.1 h).2).1
    rw [List.length_append, List.length_cons] at hl
    refine Ev.succ ?_
    simp only [impl_text.l0]
    refine Ev.pos (len_mid p t x) (Ev.pos (by omega) (Ev.pos (len_mid p t x) (Ev.pos (by rw [List.length_map]; omega) ?_)))
    rw [rd_mid, wrap_id (x := 48 + x) (by omega) (by omega), show (48 + x) % 256 = 48 + x by omega, len_next p x (by omega), app_next p t x]
    have := text_l0 t (p ++ [x]) (by rw [← app_next p t x]; exact h) (by simp; omega)
    rw [List.map_append] at this
    exact this
theorem text_ev {ds : List Int} (h : Ok 10 ds) (hl : ds.length ≤ 1048576) : Ev (fun k => impl_text.f k ds) (txt ds) := by
  unfold impl_text.f
  exact text_l0 ds [] h hl

theorem l1Mod_f (k : Int) {n : Int} (h0 : 0 < n) (h1 : n ≤ 1000) : spec_l1Mod.f k n = some (k % n) := by
  unfold spec_l1Mod.f; rw [if_neg (by omega), tmod_around h0 h1]
theorem around_f (k : Int) {n : Int} (h0 : 0 < n) (h1 : n ≤ 1000) : impl_around.f k n = some (k % n) := by
  unfold impl_around.f; rw [if_neg (by omega), tmod_around h0 h1]
theorem whAsked_ev (W D : Int) (s : ByteArray) (hs : s.size ≤ 1048576) : Ev (fun k => spec_whAsked.f k W D s) (good W D && isC W D s) := by
  unfold spec_whAsked.f
  refine Ev.bind0 (whGood_f W D) ?_
  by_cases h : good W D = true
  · refine Ev.pos h (Ev.bind (whCode_ev h s hs) (Ev.val (by rw [h]; rfl)))
  · refine Ev.neg h (Ev.val (by simp [h]))
theorem has_l0 {W D : Int} (h : good W D = true) : ∀ (t p : List ByteArray), (∀ s ∈ t, s.size ≤ 1048576) → (p ++ t).length ≤ 1048576 → Ev (fun k => impl_has.l0 k (p ++ t) ((p ++ t).length : Int) (p.length : Int) W D) (t.all (isC W D))
  | [], p, hs, hl => by
    refine Ev.succ ?_
    simp only [impl_has.l0]
    refine Ev.neg (len_end p) (Ev.val (by simp))
  | x :: t, p, hs, hl => by
    rw [List.length_append, List.length_cons] at hl
    refine Ev.succ ?_
    simp only [impl_has.l0]
    refine Ev.pos (len_mid p t x) (Ev.pos (by omega) (Ev.pos (len_mid p t x) ?_))
    rw [rdOf_mid, len_next p x (by omega), app_next p t x]
    refine Ev.bind (isCode_ev h x (hs x (by simp))) ?_
    by_cases hx : isC W D x = true
    · refine Ev.pos hx ?_
      rw [List.all_cons, hx, Bool.true_and]
      exact has_l0 h t (p ++ [x]) (fun s hs' => hs s (by simp [hs'])) (by simp; omega)
    · refine Ev.neg hx (Ev.val ?_)
      simp [hx]
theorem has_ev (W D : Int) (l : List ByteArray) (hs : ∀ s ∈ l, s.size ≤ 1048576) (hl : l.length ≤ 1048576) : Ev (fun k => impl_has.f k W D l) (good W D && l.all (isC W D)) := by
  unfold impl_has.f
  refine Ev.bind0 (IsLock_i W D) ?_
  by_cases h : good W D = true
  · refine Ev.pos h ?_
    rw [h, Bool.true_and]
    exact has_l0 h l [] hs hl
  · refine Ev.neg h (Ev.val (by simp [h]))

theorem has1_ev (W D : Int) (s : ByteArray) (hs : s.size ≤ 1048576) : Ev (fun k => impl_has.f k W D [s]) (good W D && isC W D s) := by
  have := has_ev W D [s] (by simpa using hs) (by simp)
  simpa using this

theorem one_of {W D : Int} {s : ByteArray} (h : (good W D && isC W D s) = true) : (1 ≤ W ∧ W ≤ 6 ∧ 2 ≤ D ∧ D ≤ 10) ∧ s = txt (dgs s) ∧ Ok D (dgs s) ∧ ((dgs s).length : Int) = W := by
  obtain ⟨hg, h1⟩ := Bool.and_eq_true_iff.1 h
  have g := good_iff.1 hg
  obtain ⟨a1, a2, a3⟩ := code_of h1 g.2.2.2
  exact ⟨g, a1, a2, a3⟩
theorem rd_nat (l : List Int) {i : Int} (h0 : 0 ≤ i) (h1 : i < l.length) : ∃ p x t, l = p ++ x :: t ∧ (p.length : Int) = i := by
  refine ⟨l.take i.toNat, l[i.toNat], l.drop (i.toNat + 1), ?_, ?_⟩
  · rw [← List.drop_eq_getElem_cons (by omega), List.take_append_drop]
  · rw [List.length_take]; omega
/-- The digits behind a turn. -/
def turnM (D : Int) (ds : List Int) (i b : Int) : List Int := ds.set i.toNat ((rd ds i + b) % D)
theorem turnM_length (D : Int) (ds : List Int) (i b : Int) : (turnM D ds i b).length = ds.length := by simp [turnM]
theorem turnM_ok {D : Int} (h : 0 < D) {ds : List Int} (hd : Ok D ds) (i b : Int) : Ok D (turnM D ds i b) := by
  intro x hx
  rcases List.mem_or_eq_of_mem_set hx with hx | rfl
  · exact hd x hx
  · exact ⟨Int.emod_nonneg _ (by omega), Int.emod_lt_of_pos _ h⟩
theorem rd_range {D : Int} {ds : List Int} (hd : Ok D ds) {i : Int} (h0 : 0 ≤ i) (h1 : i < ds.length) : 0 ≤ rd ds i ∧ rd ds i < D := by
  obtain ⟨p, x, t, e, hp⟩ := rd_nat ds h0 h1
  subst e; rw [← hp, rd_mid]
  exact hd x (by simp)
theorem turned_ev {W D : Int} (hD : 2 ≤ D ∧ D ≤ 10) {ds : List Int} (hd : Ok D ds) (hl : ds.length ≤ 6) {i b : Int} (h0 : 0 ≤ i) (h1 : i < ds.length) (hb : -1 ≤ b ∧ b ≤ 1) : Ev (fun k => impl_Lock_turned.f k W D (txt ds) i b) (txt (turnM D ds i b)) := by
  have hr := rd_range hd h0 h1
  unfold impl_Lock_turned.f
  refine Ev.bind (digits_txt (hd.le hD.2) (by omega)) (Ev.pos h0 (Ev.pos h1 ?_))
  rw [wrap_id (x := rd ds i + b) (by omega) (by omega)]
  refine Ev.bind0 (around_f _ (by omega) (by omega)) ?_
  exact Ev.bind (text_ev ((turnM_ok (by omega) hd i b).le hD.2) (by rw [List.length_set]; omega)) (Ev.now _)
theorem whMake_ev {W D : Int} (hD : 2 ≤ D ∧ D ≤ 10) {ds : List Int} (hd : Ok D ds) (hl : ds.length ≤ 6) {i b : Int} (h0 : 0 ≤ i) (h1 : i < ds.length) (hb : -1 ≤ b ∧ b ≤ 1) : Ev (fun k => spec_whMake.f k W D (txt ds) i b) (txt (turnM D ds i b)) := by
  have hr := rd_range hd h0 h1
  unfold spec_whMake.f
  refine Ev.bind (whDigits_txt (hd.le hD.2) (by omega)) (Ev.pos h0 (Ev.pos h1 ?_))
  rw [wrap_id (x := rd ds i + b) (by omega) (by omega)]
  refine Ev.bind0 (l1Mod_f _ (by omega) (by omega)) ?_
  exact Ev.bind (whText_ev ((turnM_ok (by omega) hd i b).le hD.2) (by rw [List.length_set]; omega)) (Ev.now _)

theorem rdT_mid (p t : List S40) (x : S40) : rd_T40 (p ++ x :: t) (p.length : Int) = x := by
  unfold rd_T40; rw [Int.toNat_natCast, List.getD_eq_getElem?_getD, List.getElem?_append_right (Nat.le_refl _), Nat.sub_self]; rfl
def okT (W : Int) (t : S40) : Bool := decide (0 ≤ t.f0 ∧ t.f0 ≤ W - 1) && decide (t.f1 = 1 ∨ t.f1 = -1)
theorem okT_iff {W : Int} {t : S40} : okT W t = true ↔ (0 ≤ t.f0 ∧ t.f0 ≤ W - 1) ∧ (t.f1 = 1 ∨ t.f1 = -1) := by simp [okT]
def areT (W : Int) (l : List S40) : Bool := l.all (okT W) && decide (l.length ≤ 200)
theorem whTurn_f {W : Int} (hW : 0 ≤ W ∧ W ≤ 100) (D i b : Int) : spec_whTurn.f W D i b = some (okT W ⟨i, b⟩) := by
  unfold spec_whTurn.f okT
  rw [wrap_id (x := W - 1) (by omega) (by omega), l1In_f, Option.bind_some]
  by_cases h : 0 ≤ i ∧ i ≤ W - 1
  · rw [decide_eq_true h, if_pos rfl]
    by_cases h1 : b = 1
    · rw [if_pos h1]; simp [h1]
    · rw [if_neg h1]; simp [h1]
      by_cases h2 : b = -1 <;> simp [h2]
  · rw [decide_eq_false h]; simp
theorem areTurns_l0 {W : Int} (hW : 0 ≤ W ∧ W ≤ 100) (l0 : List S40) : ∀ (t p : List S40), (p ++ t).length ≤ 1048576 →
    Ev (fun k => impl_areTurns.l0 k l0 W (p ++ t) ((p ++ t).length : Int) (p.length : Int)) (t.all (okT W) && decide (l0.length ≤ 200))
  | [], p, hl => by
    refine Ev.succ ?_
    simp only [impl_areTurns.l0]
    refine Ev.neg (len_end p) (Ev.val ?_)
    simp only [List.all_nil, Bool.true_and]
    congr 1; apply propext; omega
  | x :: t, p, hl => by
    rw [List.length_append, List.length_cons] at hl
    refine Ev.succ ?_
    simp only [impl_areTurns.l0]
    refine Ev.pos (len_mid p t x) (Ev.pos (by omega) (Ev.pos (len_mid p t x) ?_))
    rw [rdT_mid, wrap_id (x := W - 1) (by omega) (by omega), within_f, len_next p x (by omega), app_next p t x]
    refine Ev.bind0 rfl ?_
    have ih := areTurns_l0 hW l0 t (p ++ [x]) (by simp; omega)
    by_cases h : 0 ≤ x.f0 ∧ x.f0 ≤ W - 1
    · rw [decide_eq_true h]
      refine Ev.pos rfl ?_
      by_cases h1 : x.f1 = 1
      · refine Ev.pos h1 ?_
        rw [List.all_cons, okT_iff.2 ⟨h, .inl h1⟩, Bool.true_and]; exact ih
      · refine Ev.neg h1 ?_
        by_cases h2 : x.f1 = -1
        · refine Ev.pos h2 ?_
          rw [List.all_cons, okT_iff.2 ⟨h, .inr h2⟩, Bool.true_and]; exact ih
        · refine Ev.neg h2 (Ev.val ?_)
          simp [okT, h1, h2]
    · rw [decide_eq_false h]
      refine Ev.neg (by simp) (Ev.val ?_)
      simp [okT]
      intro h3 h4
      exact absurd ⟨h3, by omega⟩ h
theorem areTurns_ev {W : Int} (hW : 0 ≤ W ∧ W ≤ 100) (l : List S40) (hl : l.length ≤ 1048576) : Ev (fun k => impl_areTurns.f k l W) (areT W l) := by
  unfold impl_areTurns.f
  exact areTurns_l0 hW l l [] hl
theorem whTurns_l0 {W D : Int} (hW : 0 ≤ W ∧ W ≤ 100) : ∀ (t p : List S40), (p ++ t).length ≤ 1048576 →
    Ev (fun k => spec_whTurns.l0 k (p ++ t) ((p ++ t).length : Int) (p.length : Int) W D) (t.all (okT W))
  | [], p, hl => by
    refine Ev.succ ?_
    simp only [spec_whTurns.l0]
    exact Ev.neg (len_end p) (Ev.now _)
  | x :: t, p, hl => by
    rw [List.length_append, List.length_cons] at hl
    refine Ev.succ ?_
    simp only [spec_whTurns.l0]
    refine Ev.pos (len_mid p t x) (Ev.pos (by omega) (Ev.pos (len_mid p t x) ?_))
    rw [rdT_mid, len_next p x (by omega), app_next p t x]
    refine Ev.bind0 (whTurn_f hW D _ _) ?_
    have ih := whTurns_l0 (D := D) hW t (p ++ [x]) (by simp; omega)
    by_cases h : okT W x = true
    · refine Ev.pos h ?_
      rw [List.all_cons, h, Bool.true_and]; exact ih
    · refine Ev.neg h (Ev.val ?_)
      simp [h]
theorem whTurns_ev {W : Int} (hW : 0 ≤ W ∧ W ≤ 100) (D : Int) (l : List S40) (hl : l.length ≤ 1048576) : Ev (fun k => spec_whTurns.f k W D l) (areT W l) := by
  unfold spec_whTurns.f areT
  by_cases h : (l.length : Int) > 200
  · refine Ev.pos h (Ev.val ?_)
    rw [decide_eq_false (by omega)]; simp
  · refine Ev.neg h ?_
    rw [decide_eq_true (by omega), Bool.and_true]
    exact whTurns_l0 hW l [] hl

def turnsM (D : Int) (ds : List Int) (l : List S40) : List Int := l.foldl (fun ds t => turnM D ds t.f0 t.f1) ds
def TurnWheelsM (W D : Int) (s : ByteArray) (l : List S40) : ByteArray × Bool := if (good W D && isC W D s && areT W l) = true then (txt (turnsM D (dgs s) l), true) else (⟨#[]⟩, false)
theorem TurnWheels_il {W D : Int} (hD : 2 ≤ D ∧ D ≤ 10) : ∀ (t p : List S40) (ds : List Int), (p ++ t).length ≤ 1048576 → t.all (okT W) = true → Ok D ds → (ds.length : Int) = W → W ≤ 6 →
    Ev (fun k => impl_TurnWheels.l0 k (txt ds) (p ++ t) ((p ++ t).length : Int) (p.length : Int) W D) (txt (turnsM D ds t), true)
  | [], p, ds, hl, ha, hd, hw, h6 => by
    refine Ev.succ ?_
    simp only [impl_TurnWheels.l0]
    exact Ev.neg (len_end p) (Ev.now _)
  | x :: t, p, ds, hl, ha, hd, hw, h6 => by
    rw [List.length_append, List.length_cons] at hl
    rw [List.all_cons, Bool.and_eq_true_iff] at ha
    obtain ⟨h1, h2⟩ := okT_iff.1 ha.1
    refine Ev.succ ?_
    simp only [impl_TurnWheels.l0]
    refine Ev.pos (len_mid p t x) (Ev.pos (by omega) (Ev.pos (len_mid p t x) ?_))
    rw [rdT_mid, len_next p x (by omega), app_next p t x]
    refine Ev.bind (turned_ev (W := W) hD hd (by omega) h1.1 (by omega) (by omega)) ?_
    exact TurnWheels_il hD t (p ++ [x]) (turnM D ds x.f0 x.f1) (by simp; omega) ha.2 (turnM_ok (by omega) hd _ _) (by rw [turnM_length]; exact hw) h6
theorem TurnWheels_i (W D : Int) (s : ByteArray) (l : List S40) (hs : s.size ≤ 1048576) (hl : l.length ≤ 1048576) : Ev (fun k => impl_TurnWheels.f k W D s l) (TurnWheelsM W D s l) := by
  unfold impl_TurnWheels.f TurnWheelsM
  refine Ev.bind (has1_ev W D s hs) ?_
  by_cases h : (good W D && isC W D s) = true
  · obtain ⟨⟨a, b, c, d⟩, e1, o1, l1⟩ := one_of h
    rw [h, Bool.true_and]
    refine Ev.pos rfl (Ev.bind (areTurns_ev (by omega) l hl) (Ev.succ ?_))
    simp only [impl_TurnWheels.j0]
    by_cases ht : areT W l = true
    · rw [if_pos ht]
      refine Ev.neg (by simp [ht]) ?_
      have := TurnWheels_il (W := W) ⟨c, d⟩ l [] (dgs s) hl (Bool.and_eq_true_iff.1 ht).1 o1 l1 b
      rwa [← e1] at this
    · rw [if_neg ht]
      exact Ev.pos (by simp [ht]) (Ev.now _)
  · refine Ev.neg h (Ev.succ ?_)
    simp only [impl_TurnWheels.j0]
    refine Ev.pos trivial (Ev.val ?_)
    rw [if_neg (by simp at h ⊢; intro h1 h2; exact absurd h2 (by simp [h h1]))]
theorem TurnWheels_sl {W D : Int} (hD : 2 ≤ D ∧ D ≤ 10) : ∀ (t p : List S40) (ds : List Int), (p ++ t).length ≤ 1048576 → t.all (okT W) = true → Ok D ds → (ds.length : Int) = W → W ≤ 6 →
    Ev (fun k => spec_TurnWheels.l0 k (txt ds) (p ++ t) ((p ++ t).length : Int) (p.length : Int) W D) (txt (turnsM D ds t), true)
  | [], p, ds, hl, ha, hd, hw, h6 => by
    refine Ev.succ ?_
    simp only [spec_TurnWheels.l0]
    exact Ev.neg (len_end p) (Ev.now _)
  | x :: t, p, ds, hl, ha, hd, hw, h6 => by
    rw [List.length_append, List.length_cons] at hl
    rw [List.all_cons, Bool.and_eq_true_iff] at ha
    obtain ⟨h1, h2⟩ := okT_iff.1 ha.1
    refine Ev.succ ?_
    simp only [spec_TurnWheels.l0]
    refine Ev.pos (len_mid p t x) (Ev.pos (by omega) (Ev.pos (len_mid p t x) ?_))
    rw [rdT_mid, len_next p x (by omega), app_next p t x]
    refine Ev.bind (whMake_ev (W := W) hD hd (by omega) h1.1 (by omega) (by omega)) ?_
    exact TurnWheels_sl hD t (p ++ [x]) (turnM D ds x.f0 x.f1) (by simp; omega) ha.2 (turnM_ok (by omega) hd _ _) (by rw [turnM_length]; exact hw) h6
theorem TurnWheels_s (W D : Int) (s : ByteArray) (l : List S40) (hs : s.size ≤ 1048576) (hl : l.length ≤ 1048576) : Ev (fun k => spec_TurnWheels.f k W D s l) (TurnWheelsM W D s l) := by
  unfold spec_TurnWheels.f TurnWheelsM
  refine Ev.bind (whAsked_ev W D s hs) ?_
  by_cases h : (good W D && isC W D s) = true
  · obtain ⟨⟨a, b, c, d⟩, e1, o1, l1⟩ := one_of h
    rw [h, Bool.true_and]
    refine Ev.pos rfl (Ev.bind (whTurns_ev (by omega) D l hl) (Ev.succ ?_))
    simp only [spec_TurnWheels.j0]
    by_cases ht : areT W l = true
    · rw [if_pos ht]
      refine Ev.neg (by simp [ht]) ?_
      have := TurnWheels_sl (W := W) ⟨c, d⟩ l [] (dgs s) hl (Bool.and_eq_true_iff.1 ht).1 o1 l1 b
      rwa [← e1] at this
    · rw [if_neg ht]
      exact Ev.pos (by simp [ht]) (Ev.now _)
  · refine Ev.neg h (Ev.succ ?_)
    simp only [spec_TurnWheels.j0]
    refine Ev.pos trivial (Ev.val ?_)
    rw [if_neg (by simp at h ⊢; intro h1 h2; exact absurd h2 (by simp [h h1]))]
theorem rdI_mid (p t : List S40) (x : S40) : rd_T40 (p ++ x :: t) (p.length : Int) = x := by
  unfold rd_T40; rw [Int.toNat_natCast, List.getD_eq_getElem?_getD, List.getElem?_append_right (Nat.le_refl _), Nat.sub_self]; rfl
theorem rdL_mid (p t : List S69) (x : S69) : rd_T69 (p ++ x :: t) (p.length : Int) = x := by
  unfold rd_T69; rw [Int.toNat_natCast, List.getD_eq_getElem?_getD, List.getElem?_append_right (Nat.le_refl _), Nat.sub_self]; rfl
theorem szTurnS_f (l : List S69) (hl : l.length ≤ 9223372036854775807) : ∃ r, laws_szTurnS.f l 1048576 = some r ∧ (r < 0 ∨ l.length ≤ 1048576) := by
  unfold laws_szTurnS.f
  rw [wrap_id (x := (1048576 : Int) - (l.length : Int)) (by omega) (by omega)]
  by_cases h : (1048576 : Int) - (l.length : Int) < 0
  · exact ⟨-1, if_pos h, .inl (by omega)⟩
  · exact ⟨_, if_neg h, .inr (by omega)⟩
def toT (t : S69) : S40 := ⟨t.f0, t.f1⟩
theorem toTurnS_l0 : ∀ (t p : List S69) (u : List S40), t.length = u.length → (p ++ t).length ≤ 1048576 → Ev (fun k => laws_toTurnS.l0 k (p ++ t) (p.map toT ++ u) (p.length : Int)) ((p ++ t).map toT)
  | [], p, u, e, hl => by
    have : u = [] := List.length_eq_zero_iff.1 e.symm
    subst this
    refine Ev.succ ?_
    simp only [laws_toTurnS.l0]
    exact Ev.neg (len_end p) (Ev.val (by simp))
  | x :: t, p, [], e, hl => by simp at e
  | x :: t, p, y :: u, e, hl => by
    rw [List.length_append, List.length_cons] at hl
    refine Ev.succ ?_
    simp only [laws_toTurnS.l0]
    have e2 : (p.length : Int) = ((p.map toT).length : Int) := by simp
    refine Ev.pos (len_mid p t x) (Ev.pos (by omega) (Ev.bind0 rfl (Ev.pos (by rw [e2]; exact len_mid (p.map toT) u y) ?_)))
    rw [rdL_mid, show ((p.map toT ++ y :: u).set (p.length : Int).toNat (⟨x.f0, x.f1⟩ : S40)) = (p ++ [x]).map toT ++ u by rw [e2, set_mid]; simp [toT], len_next p x (by omega), app_next p t x]
    exact toTurnS_l0 t (p ++ [x]) u (by simpa using e) (by simp; omega)
theorem toTurnS_ev (l : List S69) (hl : l.length ≤ 1048576) : Ev (fun k => laws_toTurnS.f k l) (l.map toT) := by
  unfold laws_toTurnS.f
  refine Ev.pos (by omega) (Ev.pos (by omega) ?_)
  exact toTurnS_l0 l [] _ (by simp) hl
theorem eqTurnS_l0 : ∀ (t p : List S40), (p ++ t).length ≤ 9223372036854775806 → Ev (fun k => laws_eqTurnS.l0 k (p ++ t) (p ++ t) (p.length : Int)) true
  | [], p, hl => by
    refine Ev.succ ?_
    simp only [laws_eqTurnS.l0]
    exact Ev.neg (len_end p) (Ev.now _)
  | x :: t, p, hl => by
    rw [List.length_append, List.length_cons] at hl
    refine Ev.succ ?_
    simp only [laws_eqTurnS.l0]
    refine Ev.pos (len_mid p t x) (Ev.pos (by omega) (Ev.pos (len_mid p t x) ?_))
    rw [rdI_mid]
    refine Ev.bind0 (a := true) (by unfold laws_eqTurn.f; rw [if_pos rfl, if_pos rfl]) (Ev.pos rfl ?_)
    rw [len_next p x (by omega), app_next p t x]
    exact eqTurnS_l0 t (p ++ [x]) (by simp; omega)
theorem eqTurnS_ev (l : List S40) (hl : l.length ≤ 9223372036854775806) : Ev (fun k => laws_eqTurnS.f k l l) true := by
  unfold laws_eqTurnS.f
  exact Ev.pos rfl (eqTurnS_l0 l [] hl)
end Go.Proofs.Ytoaekmghlmeflaa.L
