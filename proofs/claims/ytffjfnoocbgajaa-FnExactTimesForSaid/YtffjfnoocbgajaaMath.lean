/- Plain facts on lists, texts of digits and rounds: no program in sight. -/
import Derived.Test.YtffjfnoocbgajaaV0
namespace Go.Proofs.Ytffjfnoocbgajaa.M
open Go.RowKit Go.Proofs.YtffjfnoocbgajaaW.PrintWords

/-! ### rounds -/
theorem Ev.succ {α : Type} {g : Nat → Option α} {r : α} (h : Ev (fun k => g (k + 1)) r) : Ev g r := Ev.step (fun _ => rfl) h
theorem Ev.pos {α : Type} {c : Prop} [Decidable c] {A B : Nat → Option α} {r : α} (hc : c) (h : Ev A r) : Ev (fun k => if c then A k else B k) r := by
  simpa only [hc, if_true] using h
theorem Ev.neg {α : Type} {c : Prop} [Decidable c] {A B : Nat → Option α} {r : α} (hc : ¬ c) (h : Ev B r) : Ev (fun k => if c then A k else B k) r := by
  simpa only [hc, if_false] using h
/-- A call that has no rounds of its own. -/
theorem Ev.bind0 {α β : Type} {o : Option α} {f : Nat → α → Option β} {a : α} {r : β} (h : o = some a) (k : Ev (fun n => f n a) r) : Ev (fun n => o.bind (f n)) r := by
  subst h; exact k
theorem Ev.val {α : Type} {r r' : α} (h : r = r') : Ev (fun _ => some r) r' := by subst h; exact Ev.now _

/-! ### whole numbers -/
theorem wrap_id {x : Int} (h0 : -9223372036854775808 ≤ x) (h1 : x ≤ 9223372036854775807) : wrap64 x = x := by unfold wrap64; omega
theorem bne_self' {α : Type} [BEq α] [LawfulBEq α] (a : α) : (a != a) = false := by simp
/-- Go's way to bring a number between 0 and n - 1. -/
theorem tmod_around {k n : Int} (hn : 0 < n) (hb : n ≤ 1000) : Int.tmod (wrap64 (Int.tmod k n + n)) n = k % n := by
  have h1 : -n < Int.tmod k n := by have := Int.lt_tmod_of_pos k hn; omega
  have h2 : Int.tmod k n < n := Int.tmod_lt_of_pos k hn
  rw [wrap_id (by omega) (by omega)]
  have e : Int.tmod k n = k % n ∨ Int.tmod k n = k % n - n := by
    by_cases hk : 0 ≤ k
    · left; exact Int.tmod_eq_emod_of_nonneg hk
    · have := Int.tmod_eq_emod (a := k) (b := n)
      rw [this]
      split
      · left; omega
      · right
        have : (n.natAbs : Int) = n := by omega
        omega
  have h3 := Int.emod_nonneg k (show n ≠ 0 by omega)
  have h4 := Int.emod_lt_of_pos k hn
  rcases e with e | e
  · rw [e, Int.tmod_eq_emod_of_nonneg (by omega), Int.add_emod_right, Int.emod_emod_of_dvd _ (Int.dvd_refl n)]
  · rw [e, show k % n - n + n = k % n by omega, Int.tmod_eq_emod_of_nonneg h3, Int.emod_emod_of_dvd _ (Int.dvd_refl n)]

/-! ### lists by index -/
theorem snoc_ind {α : Type} {P : List α → Prop} (h0 : P []) (h1 : ∀ l a, P l → P (l ++ [a])) (l : List α) : P l := by
  have key : ∀ m : List α, P m.reverse := by
    intro m
    induction m with
    | nil => exact h0
    | cons a m ih => rw [List.reverse_cons]; exact h1 _ _ ih
  have := key l.reverse
  rwa [List.reverse_reverse] at this
theorem rd_mid (p t : List Int) (x : Int) : rd (p ++ x :: t) (p.length : Int) = x := by
  unfold rd; rw [Int.toNat_natCast, List.getD_eq_getElem?_getD, List.getElem?_append_right (Nat.le_refl _), Nat.sub_self]; rfl
theorem set_mid {α : Type} (p t : List α) (x v : α) : (p ++ x :: t).set (p.length : Int).toNat v = p ++ v :: t := by
  simp [List.set_append_right]
theorem rdOf_mid {α : Type} (d : α) (p t : List α) (x : α) : rdOf d (p ++ x :: t) (p.length : Int) = x := by
  unfold rdOf; rw [Int.toNat_natCast, List.getD_eq_getElem?_getD, List.getElem?_append_right (Nat.le_refl _), Nat.sub_self]; rfl
theorem len_mid {α : Type} (p t : List α) (x : α) : (p.length : Int) < ((p ++ x :: t).length : Int) := by simp; omega
theorem len_end {α : Type} (p : List α) : ¬ ((p.length : Int) < ((p ++ ([] : List α)).length : Int)) := by rw [List.append_nil]; omega
theorem len_next {α : Type} (p : List α) (v : α) (h : p.length ≤ 9223372036854775806) : wrap64 ((p.length : Int) + 1) = ((p ++ [v]).length : Int) := by
  rw [wrap_id (by omega) (by omega)]; simp
theorem app_next {α : Type} (p t : List α) (v : α) : p ++ v :: t = (p ++ [v]) ++ t := by simp

/-! ### texts -/
/-- A text's bytes as numbers. -/
def bys (s : ByteArray) : List Int := s.data.toList.map fun b => (b.toNat : Int)
theorem bys_length (s : ByteArray) : (bys s).length = s.size := by unfold bys; rw [List.length_map, Array.length_toList]; rfl
theorem bt_bys (s : ByteArray) (i : Int) : bt s i = rd (bys s) i := by
  unfold bt rd bys
  rw [List.getD_eq_getElem?_getD, List.getElem?_map]
  split
  · rename_i h
    have h' : i.toNat < s.data.toList.length := by rw [Array.length_toList]; exact h
    rw [List.getElem?_eq_getElem h']
    rfl
  · rename_i h
    have h' : s.data.toList.length ≤ i.toNat := by rw [Array.length_toList]; exact Nat.le_of_not_lt h
    rw [List.getElem?_eq_none h']
    rfl
theorem bys_range (s : ByteArray) : ∀ x ∈ bys s, 0 ≤ x ∧ x < 256 := by
  intro x hx
  obtain ⟨b, _, rfl⟩ := List.mem_map.1 hx
  have := b.toNat_lt
  omega
theorem bys_inj {s t : ByteArray} (h : bys s = bys t) : s = t := by
  have h2 : s.data.toList = t.data.toList := by
    have inj : ∀ l m : List UInt8, (l.map fun b => (b.toNat : Int)) = (m.map fun b => (b.toNat : Int)) → l = m := by
      intro l
      induction l with
      | nil => intro m hm; cases m with
        | nil => rfl
        | cons => simp at hm
      | cons a l ih => intro m hm; cases m with
        | nil => simp at hm
        | cons b m =>
          simp only [List.map_cons, List.cons.injEq] at hm
          rw [ih m hm.2, UInt8.toNat_inj.1 (by omega : a.toNat = b.toNat)]
    exact inj _ _ h
  cases s; cases t; simp_all
theorem bys_str (l : List Int) (h : ∀ x ∈ l, 0 ≤ x ∧ x < 256) : bys (strOfNums l) = l := by
  unfold bys strOfNums
  simp only [List.map_map]
  rw [List.map_congr_left (g := id)]
  · simp
  · intro x hx
    have := h x hx
    simp only [Function.comp, id]
    rw [UInt8.toNat_ofNat']
    omega
theorem str_bys (s : ByteArray) : strOfNums (bys s) = s := bys_inj (bys_str _ (bys_range s))
theorem bys_append (s t : ByteArray) : bys (s ++ t) = bys s ++ bys t := by simp [bys]
theorem str_append (a b : List Int) : strOfNums a ++ strOfNums b = strOfNums (a ++ b) := by
  apply ByteArray.ext
  simp [strOfNums]
theorem str_nil : (⟨#[]⟩ : ByteArray) = strOfNums [] := rfl
theorem str_size (l : List Int) : (strOfNums l).size = l.length := by simp [strOfNums, ByteArray.size]
theorem toList_inj {s t : ByteArray} : s.toList = t.toList ↔ s = t := by
  constructor
  · intro h
    rw [Go.ByteArray.toList_eq, Go.ByteArray.toList_eq] at h
    exact Go.WideShapes.bytes_inj h
  · rintro rfl; rfl

/-! ### digits -/
def Ok (D : Int) (ds : List Int) : Prop := ∀ d ∈ ds, 0 ≤ d ∧ d < D
theorem Ok.nil (D : Int) : Ok D [] := fun _ h => by cases h
theorem Ok.cons {D d : Int} {ds : List Int} : Ok D (d :: ds) ↔ (0 ≤ d ∧ d < D) ∧ Ok D ds := by simp [Ok]
theorem Ok.append {D : Int} {a b : List Int} : Ok D (a ++ b) ↔ Ok D a ∧ Ok D b := by
  unfold Ok; constructor
  · intro h; exact ⟨fun d hd => h d (by simp [hd]), fun d hd => h d (by simp [hd])⟩
  · rintro ⟨h1, h2⟩ d hd; rcases List.mem_append.1 hd with h | h; exact h1 d h; exact h2 d h
theorem Ok.le {D E : Int} {ds : List Int} (h : Ok D ds) (hE : D ≤ E) : Ok E ds := fun d hd => by have := h d hd; omega
theorem Ok.rep {D : Int} (hD : 0 < D) (n : Nat) : Ok D (List.replicate n 0) := by
  intro d hd; rw [List.eq_of_mem_replicate hd]; omega
/-- The text of digits. -/
def txt (ds : List Int) : ByteArray := strOfNums (ds.map (48 + ·))
/-- The digits of a text. -/
def dgs (s : ByteArray) : List Int := (bys s).map fun b => (b - 48) % 256
theorem dgs_length (s : ByteArray) : (dgs s).length = s.size := by simp [dgs, bys_length]
theorem txt_size (ds : List Int) : (txt ds).size = ds.length := by simp [txt, str_size]
theorem bys_txt {ds : List Int} (h : Ok 10 ds) : bys (txt ds) = ds.map (48 + ·) := by
  apply bys_str
  intro x hx
  obtain ⟨d, hd, rfl⟩ := List.mem_map.1 hx
  have := h d hd
  omega
theorem dgs_txt {ds : List Int} (h : Ok 10 ds) : dgs (txt ds) = ds := by
  unfold dgs
  rw [bys_txt h, List.map_map, List.map_congr_left (g := id)]
  · simp
  · intro x hx
    have := h x hx
    simp only [Function.comp, id]
    omega
theorem txt_inj {a b : List Int} (ha : Ok 10 a) (hb : Ok 10 b) (h : txt a = txt b) : a = b := by rw [← dgs_txt ha, ← dgs_txt hb, h]
theorem txt_append (a b : List Int) : txt a ++ txt b = txt (a ++ b) := by unfold txt; rw [str_append, List.map_append]
/-- Is a text a code? -/
def isC (W D : Int) (s : ByteArray) : Bool := decide ((s.size : Int) = W) && (bys s).all fun b => decide (48 ≤ b ∧ b < 48 + D)
theorem isC_iff {W D : Int} {s : ByteArray} : isC W D s = true ↔ (s.size : Int) = W ∧ ∀ b ∈ bys s, 48 ≤ b ∧ b < 48 + D := by
  simp [isC]
/-- A code is the text of its digits. -/
theorem code_of {W D : Int} {s : ByteArray} (h : isC W D s = true) (hD : D ≤ 10) : s = txt (dgs s) ∧ Ok D (dgs s) ∧ ((dgs s).length : Int) = W := by
  obtain ⟨h1, h2⟩ := isC_iff.1 h
  refine ⟨?_, ?_, by rw [dgs_length]; exact h1⟩
  · have e : (dgs s).map (48 + ·) = bys s := by
      unfold dgs
      rw [List.map_map, List.map_congr_left (g := id)]
      · simp
      · intro b hb
        have := h2 b hb
        have := bys_range s b hb
        simp only [Function.comp, id]
        omega
    unfold txt
    rw [e, str_bys]
  · intro d hd
    obtain ⟨b, hb, rfl⟩ := List.mem_map.1 hd
    have := h2 b hb
    have := bys_range s b hb
    omega
theorem isC_txt {W D : Int} {ds : List Int} (h : Ok D ds) (hD : D ≤ 10) (hl : (ds.length : Int) = W) : isC W D (txt ds) = true := by
  rw [isC_iff]
  refine ⟨by rw [txt_size]; exact hl, fun b hb => ?_⟩
  rw [bys_txt (h.le hD)] at hb
  obtain ⟨d, hd, rfl⟩ := List.mem_map.1 hb
  have := h d hd
  omega
/-- A code, as its digits. -/
theorem code_elim {W D : Int} {s : ByteArray} (h : isC W D s = true) (hD : D ≤ 10) : ∃ ds, s = txt ds ∧ Ok D ds ∧ (ds.length : Int) = W :=
  ⟨dgs s, code_of h hD⟩

/-! ### locks -/
def good (W D : Int) : Bool := decide (1 ≤ W ∧ W ≤ 6 ∧ 2 ≤ D ∧ D ≤ 10)
theorem good_iff {W D : Int} : good W D = true ↔ 1 ≤ W ∧ W ≤ 6 ∧ 2 ≤ D ∧ D ≤ 10 := by simp [good]
def pw (D : Int) : Nat → Int
  | 0 => 1
  | n + 1 => pw D n * D
theorem pw_pos {D : Int} (h : 0 < D) (n : Nat) : 0 < pw D n := by
  induction n with
  | zero => simp [pw]
  | succ n ih => exact Int.mul_pos ih h
theorem pw_le {D : Int} (h : 0 < D) (hD : D ≤ 10) (n : Nat) : pw D n ≤ 10 ^ n := by
  induction n with
  | zero => simp [pw]
  | succ n ih =>
    rw [pw, Int.pow_succ]
    exact Int.mul_le_mul ih hD (by omega) (Int.pow_nonneg (by omega))
theorem pw_mono {D : Int} (h : 0 < D) {m n : Nat} (hm : m ≤ n) : pw D m ≤ pw D n := by
  induction n with
  | zero => have : m = 0 := by omega
            subst this; exact Int.le_refl _
  | succ n ih =>
    rcases Nat.lt_or_ge m (n + 1) with hlt | hge
    · have := ih (by omega)
      have h1 := pw_pos h n
      rw [pw]
      have : pw D n * 1 ≤ pw D n * D := Int.mul_le_mul_of_nonneg_left (by omega) (by omega)
      omega
    · have : m = n + 1 := by omega
      subst this; exact Int.le_refl _
theorem pw_le6 {D : Int} (h : 0 < D) (hD : D ≤ 10) {n : Nat} (hn : n ≤ 6) : pw D n ≤ 1000000 := by
  have h1 := pw_mono (D := D) h hn
  have h2 := pw_le h hD 6
  have : (10 : Int) ^ 6 = 1000000 := by decide
  omega
/-- The number of digits. -/
def num (D : Int) (ds : List Int) : Int := ds.foldl (fun n d => n * D + d) 0
theorem num_snoc (D : Int) (ds : List Int) (d : Int) : num D (ds ++ [d]) = num D ds * D + d := by simp [num]
theorem num_bound {D : Int} (h : 0 < D) {ds : List Int} (hd : Ok D ds) : 0 ≤ num D ds ∧ num D ds < pw D ds.length := by
  induction ds using snoc_ind with
  | h0 => simp [num, pw]
  | h1 ds d ih =>
    obtain ⟨h1, h2⟩ := Ok.append.1 hd
    obtain ⟨i1, i2⟩ := ih h1
    have hd' := h2 d (by simp)
    rw [num_snoc, List.length_append, List.length_singleton, pw]
    have a1 : 0 ≤ num D ds * D := Int.mul_nonneg i1 (by omega)
    have a2 : (num D ds + 1) * D ≤ pw D ds.length * D := Int.mul_le_mul_of_nonneg_right (by omega) (by omega)
    have a3 : (num D ds + 1) * D = num D ds * D + D := by rw [Int.add_mul, Int.one_mul]
    omega
/-- The digits of a number. -/
def cod (D : Int) : Nat → Int → List Int
  | 0, _ => []
  | w + 1, n => cod D w (n / D) ++ [n % D]
theorem cod_length (D : Int) (w : Nat) (n : Int) : (cod D w n).length = w := by
  induction w generalizing n with
  | zero => rfl
  | succ w ih => simp [cod, ih]
theorem cod_ok {D : Int} (h : 0 < D) (w : Nat) (n : Int) : Ok D (cod D w n) := by
  induction w generalizing n with
  | zero => exact Ok.nil D
  | succ w ih =>
    rw [cod, Ok.append]
    refine ⟨ih _, fun d hd => ?_⟩
    rw [List.mem_singleton] at hd
    subst hd
    exact ⟨Int.emod_nonneg _ (by omega), Int.emod_lt_of_pos _ h⟩
theorem num_cod {D : Int} (h : 0 < D) (w : Nat) {n : Int} (h0 : 0 ≤ n) (h1 : n < pw D w) : num D (cod D w n) = n := by
  induction w generalizing n with
  | zero => simp [pw] at h1; simp [cod, num]; omega
  | succ w ih =>
    rw [cod, num_snoc, ih (Int.ediv_nonneg h0 (by omega)) (by
      rw [pw] at h1
      exact Int.ediv_lt_of_lt_mul h h1)]
    have := Int.mul_ediv_add_emod n D
    rw [Int.mul_comm]; exact this
theorem cod_num {D : Int} (h : 0 < D) {ds : List Int} (hd : Ok D ds) : cod D ds.length (num D ds) = ds := by
  induction ds using snoc_ind with
  | h0 => rfl
  | h1 ds d ih =>
    obtain ⟨h1, h2⟩ := Ok.append.1 hd
    have hd' := h2 d (by simp)
    rw [List.length_append, List.length_singleton, cod, num_snoc]
    have e1 : (num D ds * D + d) / D = num D ds := by
      rw [Int.mul_comm, Int.add_comm, Int.add_mul_ediv_left _ _ (by omega), Int.ediv_eq_zero_of_lt hd'.1 hd'.2]; omega
    have e2 : (num D ds * D + d) % D = d := by
      rw [Int.mul_comm, Int.add_comm, Int.add_mul_emod_self_left, Int.emod_eq_of_lt hd'.1 hd'.2]
    rw [e1, e2, ih h1]
theorem num_inj {D : Int} (h : 0 < D) {a b : List Int} (ha : Ok D a) (hb : Ok D b) (hl : a.length = b.length) (e : num D a = num D b) : a = b := by
  rw [← cod_num h ha, ← cod_num h hb, hl, e]
end Go.Proofs.Ytffjfnoocbgajaa.M
