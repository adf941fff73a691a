/- Frames that are known by some of their slots, and the operations that only reckon, run by a function. -/
import Derived.Test.YtffjfnoocbgajaaM0
import Derived.Lib.OthersKept
namespace Go.Proofs.Ytffjfnoocbgajaa.M
set_option linter.unusedVariables false
set_option linter.unusedSectionVars false
open Go.RowKit Go.Proofs.YtffjfnoocbgajaaW.PrintWords Go.Proofs.YtffjfnoocbgajaaW.PrintLast Go.Proofs.YtffjfnoocbgajaaW.PrintMore
def ll : Code → Code
  | .seq x _ => x
  | c => c
def rr : Code → Code
  | .seq _ y => y
  | c => c
def bb : Code → Code
  | .cond _ x _ => x
  | .block _ x => x
  | .loop x => x
  | c => c
def nth : Nat → Code → Code
  | 0, c => c
  | n + 1, c => rr (nth n c)
def fb (f : Func) : Code := f.body.getD .skip
def look : List (Nat × Value) → Nat → Option Value
  | [], _ => none
  | (m, v) :: L, n => bif Nat.beq m n then some v else look L n
/-- How many slots the function has. -/
class Sz where
  n : Nat
  h : n ≤ 1000
variable [Sz]
/-- Types that are read through pointers (strings, the two kinds of gears, functions). -/
def tysL : List Nat := [9, 26, 31, 82]
theorem tysL_pos {t : Nat} (h : t ∈ tysL) : 9 ≤ t := by
  simp [tysL] at h; omega
/-- What is known of a frame: slots below 1000; t * 1000 + p: what is read (type t) through the pointer of slot p. -/
structure Fr (J : World → Prop) (l : List Value) (L : List (Nat × Value)) : Prop where
  n : l.length = Sz.n
  h : ∀ n v, n < Sz.n → look L n = some v → l[n]? = some v
  m : ∀ t p v, t ∈ tysL → p < Sz.n → look L (t * 1000 + p) = some v → ∃ a, l[p]? = some (.pointer (some a)) ∧ ∀ w, J w → (Instr.loadAt t (.pointer (some a))).run Try.prog w = .ok v w
variable {J : World → Prop}
theorem Fr.weak {J' : World → Prop} {l : List Value} {L : List (Nat × Value)} (h : Fr J l L) (a : ∀ w, J' w → J w) : Fr J' l L := ⟨h.n, h.h, fun t p v ht hp e => let ⟨x, h1, h2⟩ := h.m t p v ht hp e; ⟨x, h1, fun w hw => h2 w (a w hw)⟩⟩
def sel (L : List (Nat × Value)) : List Nat → Option (List (Nat × Value))
  | [] => some []
  | k :: ks => match look L k, sel L ks with
    | some v, some M => some ((k, v) :: M)
    | _, _ => none
theorem sel_look {L : List (Nat × Value)} : ∀ {ks : List Nat} {M : List (Nat × Value)}, sel L ks = some M → ∀ n v, look M n = some v → look L n = some v
  | [], M, e, n, v, h => by rw [← Option.some.inj e] at h; simp [look] at h
  | k :: ks, M, e, n, v, h => by
    unfold sel at e
    split at e
    · rename_i x M2 hx hM
      rw [← Option.some.inj e] at h
      replace h : (bif Nat.beq k n then some x else look M2 n) = some v := h
      cases c : Nat.beq k n with
      | true => rw [c] at h; rw [← Nat.eq_of_beq_eq_true c, hx]; exact h
      | false => rw [c] at h; exact sel_look hM n v h
    · simp at e
theorem Fr.sel {l : List Value} {L M : List (Nat × Value)} (h : Fr J l L) (e : _root_.Go.Proofs.Ytffjfnoocbgajaa.M.sel L (M.map Prod.fst) = some M) : Fr J l M := ⟨h.n, fun n v hn a => h.h n v hn (sel_look e n v a), fun t p v ht hp a => h.m t p v ht hp (sel_look e _ v a)⟩
theorem Fr.nil {J' : World → Prop} {l : List Value} {L : List (Nat × Value)} (h : Fr J l L) : Fr J' l [] := ⟨h.n, fun _ _ _ a => by simp [look] at a, fun _ _ _ _ _ a => by simp [look] at a⟩
/-- What is known of slots alone holds under whatever is known of the world. -/
theorem Fr.real {J' : World → Prop} {l : List Value} {L : List (Nat × Value)} (h : Fr J l L) (e : (L.all fun p => Nat.blt p.1 Sz.n) = true) : Fr J' l L := by
  refine ⟨h.n, h.h, fun t p v ht hp a => absurd a ?_⟩
  have key : ∀ (M : List (Nat × Value)), (M.all fun p => Nat.blt p.1 Sz.n) = true → ∀ n, Sz.n ≤ n → look M n = none := by
    intro M
    induction M with
    | nil => intro _ _ _; rfl
    | cons q M ih =>
      intro h n hn
      rw [List.all_cons, Bool.and_eq_true] at h
      have h1 : q.1 < Sz.n := by simpa using h.1
      show (bif Nat.beq q.1 n then some q.2 else look M n) = none
      cases c : Nat.beq q.1 n with
      | true => have := Nat.eq_of_beq_eq_true c; omega
      | false => exact ih h.2 n hn
  have := tysL_pos ht
  have := Sz.h
  rw [key L e _ (by omega)]
  simp
def nol (L : List (Nat × Value)) (d : Nat) : Bool := Nat.blt d Sz.n && tysL.all fun t => (look L (t * 1000 + d)).isNone
theorem look_mem {n : Nat} {v : Value} : ∀ {L : List (Nat × Value)}, look L n = some v → (n, v) ∈ L
  | [], h => by simp [look] at h
  | (m, x) :: L, h => by
    replace h : (bif Nat.beq m n then some x else look L n) = some v := h
    cases c : Nat.beq m n with
    | true => rw [c] at h; rw [← Nat.eq_of_beq_eq_true c, ← Option.some.inj h]; exact List.mem_cons_self ..
    | false => rw [c] at h; exact List.mem_cons_of_mem _ (look_mem h)
theorem Fr.of {l : List Value} {L : List (Nat × Value)} (hl : l.length = Sz.n) (h : ∀ p ∈ L, p.1 < Sz.n ∧ l[p.1]? = some p.2) : Fr J l L := by
  refine ⟨hl, fun n v _ e => (h _ (look_mem e)).2, fun t p v ht hp e => ?_⟩
  have h1 := (h _ (look_mem e)).1
  have h2 := tysL_pos ht
  have h3 := Sz.h
  dsimp only at h1
  omega
theorem look_cons {L : List (Nat × Value)} (d : Nat) (v : Value) (n : Nat) : look ((d, v) :: L) n = if d = n then some v else look L n := by
  show (bif Nat.beq d n then some v else look L n) = _
  cases c : (Nat.beq d n) with
  | true => rw [if_pos (Nat.eq_of_beq_eq_true c)]; rfl
  | false => rw [if_neg (Nat.ne_of_beq_eq_false c)]; rfl
theorem Fr.put {l : List Value} {L : List (Nat × Value)} (h : Fr J l L) {d : Nat} (hd : nol L d = true) (v : Value) : Fr J (l.set d v) ((d, v) :: L) := by
  unfold nol at hd
  simp only [Bool.and_eq_true, List.all_eq_true, Option.isNone_iff_eq_none] at hd
  obtain ⟨h0, h1⟩ := hd
  have h0 : d < Sz.n := by simpa using h0
  have hz := Sz.h
  refine ⟨by rw [List.length_set]; exact h.n, fun n x hn e => ?_, fun t p x ht hp e => ?_⟩
  · rw [look_cons] at e
    rw [List.getElem?_set]
    by_cases c : d = n
    · rw [if_pos c] at e ⊢
      rw [if_pos (by rw [h.n]; omega), Option.some.inj e]
    · rw [if_neg c] at e ⊢
      exact h.h n x hn e
  · rw [look_cons, if_neg (by have := tysL_pos ht; omega)] at e
    by_cases c : d = p
    · subst c
      rw [h1 t ht] at e; exact absurd e (by simp)
    · rw [List.getElem?_set_ne c]
      exact h.m t p x ht hp e
theorem Fr.ld {l : List Value} {L : List (Nat × Value)} (h : Fr J l L) {a : Addr} (t p : Nat) {v : Value} (ht : t ∈ tysL) (hp : look L p = some (.pointer (some a))) (hlt : p < Sz.n) (hv : ∀ w, J w → (Instr.loadAt t (.pointer (some a))).run Try.prog w = .ok v w) : Fr J l ((t * 1000 + p, v) :: L) := by
  have hz := Sz.h
  have h9 := tysL_pos ht
  refine ⟨h.n, fun n x hn e => ?_, fun t' p' x ht' hp' e => ?_⟩
  · rw [look_cons, if_neg (by omega)] at e
    exact h.h n x hn e
  · rw [look_cons] at e
    by_cases c : t * 1000 + p = t' * 1000 + p'
    · rw [if_pos c] at e
      obtain rfl : t = t' := by omega
      obtain rfl : p = p' := by omega
      exact ⟨a, h.h p _ hlt hp, by rw [← Option.some.inj e]; exact hv⟩
    · rw [if_neg c] at e
      exact h.m t' p' x ht' hp' e
theorem put_set (l : List Value) (n : Nat) (v : Value) : (⟨l.toArray, []⟩ : Act).put (some n) v = ⟨(l.set n v).toArray, []⟩ := by simp [Act.put]
def gt : List Value → Nat → Option Value
  | [], _ => none
  | v :: _, 0 => some v
  | _ :: vs, n + 1 => gt vs n
theorem gt_eq : ∀ (vs : List Value) (n : Nat), gt vs n = vs[n]?
  | [], _ => rfl
  | _ :: _, 0 => rfl
  | _ :: vs, n + 1 => gt_eq vs n
def evO (L : List (Nat × Value)) : Operand → Option Value
  | .tmp t => bif Nat.blt t Sz.n then look L t else none
  | .const v => some v
  | _ => none
theorem Fr.eval {l : List Value} {L : List (Nat × Value)} (h : Fr J l L) {x : Operand} {v : Value} (e : evO L x = some v) : (⟨l.toArray, []⟩ : Act).eval x = v := by
  cases x with
  | tmp t =>
    replace e : (bif Nat.blt t Sz.n then look L t else none) = some v := e
    cases c : Nat.blt t Sz.n with
    | false => rw [c] at e; simp at e
    | true =>
      rw [c] at e
      have := h.h t v (by simpa using c) e
      simp [Act.eval, this]
  | const c => exact Option.some.inj e
  | _ => exact absurd e (by simp [evO])
def evs (L : List (Nat × Value)) : List Operand → Option (List Value)
  | [] => some []
  | x :: xs => match evO L x, evs L xs with
    | some v, some vs => some (v :: vs)
    | _, _ => none
theorem Fr.evals {l : List Value} {L : List (Nat × Value)} (h : Fr J l L) : ∀ {xs : List Operand} {vs : List Value}, evs L xs = some vs → xs.map (⟨l.toArray, []⟩ : Act).eval = vs
  | [], vs, e => by rw [← Option.some.inj e]; rfl
  | x :: xs, vs, e => by
    unfold evs at e
    cases e1 : evO L x with
    | none => rw [e1] at e; simp at e
    | some v =>
      cases e2 : evs L xs with
      | none => rw [e1, e2] at e; simp at e
      | some vs2 =>
        rw [e1, e2] at e
        rw [← Option.some.inj e, List.map_cons, h.eval e1, h.evals e2]
def ev (L : List (Nat × Value)) : Op → Option Value
  | .move x => evO L x
  | .assign x => evO L x
  | .pick c a b => match evO L c with
    | some (.bool true) => evO L a
    | some (.bool false) => evO L b
    | _ => none
  | .binOp .neq t x y _ => match evO L x, evO L y with
    | some (.bool a), some (.bool b) => bif Nat.beq t 4 then some (.bool (a != b)) else none
    | some (.string a), some (.string b) => some (.bool (a.toList != b.toList))
    | some (.int .i64 a), some (.int .i64 b) => some (.bool (a != b))
    | some (.int .u8 a), some (.int .u8 b) => some (.bool (a != b))
    | _, _ => none
  | .binOp .eql t x y _ => match evO L x, evO L y with
    | some (.int .i64 a), some (.int .i64 b) => some (.bool (a == b))
    | some (.string a), some (.string b) => some (.bool (a.toList == b.toList))
    | _, _ => none
  | .binOp .geq t x y _ => match evO L x, evO L y with
    | some (.int .i64 a), some (.int .i64 b) => some (.bool (decide (b ≤ a)))
    | _, _ => none
  | .binOp .gtr t x y _ => match evO L x, evO L y with
    | some (.int .i64 a), some (.int .i64 b) => some (.bool (decide (b < a)))
    | _, _ => none
  | .binOp .lss t x y _ => match evO L x, evO L y with
    | some (.int .i64 a), some (.int .i64 b) => some (.bool (decide (a < b)))
    | _, _ => none
  | .binOp .add t x y _ => match evO L x, evO L y with
    | some (.int .i64 a), some (.int .i64 b) => some (.int .i64 (wrap64 (a + b)))
    | _, _ => none
  | .unOp .not _ x => match evO L x with
    | some (.bool a) => some (.bool !a)
    | _ => none
  | .extract t i => match evO L t with
    | some (.tuple vs) => gt vs.toList i
    | _ => none
  | .call ⟨.builtin .len, xs, ts⟩ => match xs.toList, ts.toList with
    | [x], [t] => match evO L x with
      | some (.string a) => bif Nat.beq t 9 then some (.int .i64 (a.size : Int)) else none
      | some (.slice _ n _) => bif (Nat.beq t 46 || Nat.beq t 24) then some (.int .i64 (n : Int)) else none
      | _ => none
    | _, _ => none
  | .load t (.tmp p) => bif (Nat.beq t 9 || Nat.beq t 26 || Nat.beq t 31 || Nat.beq t 82) && Nat.blt p Sz.n then look L (t * 1000 + p) else none
  | _ => none
theorem ev_ok {l : List Value} {L : List (Nat × Value)} (h : Fr J l L) {o : Oper} {v : Value} {w : World} (hJ : J w) (e : ev L o.op = some v) : (execOp (⟨l.toArray, []⟩ : Act).eval o).run Try.prog w = .ok (.value v) w := by
  obtain ⟨dst, op, ty, pos, aft, g⟩ := o
  have hu := Try.underlying4
  unfold ev at e
  dsimp only at e
  split at e
  · simp only [execOp, h.eval e]; rfl
  · simp only [execOp, h.eval e]; rfl
  · split at e
    · rename_i hc; simp [execOp, h.eval hc, h.eval e, asBool]
    · rename_i hc; simp [execOp, h.eval hc, h.eval e, asBool]
    · simp at e
  · split at e
    · rename_i t x y b _ _ a1 b1 hx hy
      cases c : Nat.beq t 4 with
      | false => rw [c] at e; simp at e
      | true =>
        rw [c] at e
        obtain rfl := Nat.eq_of_beq_eq_true c
        rw [← Option.some.inj e]
        simp only [execOp, h.eval hx, h.eval hy]
        go_simp
        cases a1 <;> cases b1 <;> rfl
    · rename_i hx hy
      rw [← Option.some.inj e]
      simp only [execOp, h.eval hx, h.eval hy]
      go_simp
      exact (Bool.not_not _).symm
    · rename_i hx hy
      rw [← Option.some.inj e]
      simp only [execOp, h.eval hx, h.eval hy]
      go_simp
    · rename_i hx hy
      rw [← Option.some.inj e]
      simp only [execOp, h.eval hx, h.eval hy]
      go_simp
    · simp at e
  · split at e
    · rename_i hx hy
      rw [← Option.some.inj e]
      simp only [execOp, h.eval hx, h.eval hy]
      go_simp
    · rename_i hx hy
      rw [← Option.some.inj e]
      simp only [execOp, h.eval hx, h.eval hy]
      go_simp
    · simp at e
  · split at e
    · rename_i hx hy
      rw [← Option.some.inj e]
      simp only [execOp, h.eval hx, h.eval hy]
      go_simp
    · simp at e
  · split at e
    · rename_i hx hy
      rw [← Option.some.inj e]
      simp only [execOp, h.eval hx, h.eval hy]
      go_simp
    · simp at e
  · split at e
    · rename_i hx hy
      rw [← Option.some.inj e]
      simp only [execOp, h.eval hx, h.eval hy]
      go_simp
    · simp at e
  · split at e
    · rename_i hx hy
      rw [← Option.some.inj e]
      simp only [execOp, h.eval hx, h.eval hy]
      go_simp
      simp only [i64_w]
    · simp at e
  · split at e
    · rename_i hx
      rw [← Option.some.inj e]
      simp only [execOp, h.eval hx]
      go_simp
    · simp at e
  · split at e
    · rename_i hx
      rw [gt_eq, Array.getElem?_toList] at e
      simp only [execOp, h.eval hx, Instr.extract, e]
      rfl
    · simp at e
  · rename_i xs ts
    split at e
    · rename_i x t hxs hts
      have e1 : xs = #[x] := Array.toList_inj.mp hxs
      have e2 : ts = #[t] := Array.toList_inj.mp hts
      subst e1 e2
      have hu9 := Try.underlying9
      have hu46 := Try.underlying46
      have hu24 := Try.underlying24
      split at e
      · rename_i a hx
        cases c : Nat.beq t 9 with
        | false => rw [c] at e; simp at e
        | true =>
          rw [c] at e
          obtain rfl := Nat.eq_of_beq_eq_true c
          rw [← Option.some.inj e]
          have e3 : (#[x] : Array Operand).map (⟨l.toArray, []⟩ : Act).eval = #[.string a] := by simp [h.eval hx]
          show (builtin .len #[9] ty ((#[x] : Array Operand).map fun | .const _ => true | _ => false) ((#[x] : Array Operand).map (⟨l.toArray, []⟩ : Act).eval)).run Try.prog w = _
          rw [e3]
          go_simp
      · rename_i p n c0 hx
        cases c : (Nat.beq t 46 || Nat.beq t 24) with
        | false => rw [c] at e; simp at e
        | true =>
          rw [c] at e
          simp only [Bool.or_eq_true, Nat.beq_eq] at c
          rw [← Option.some.inj e]
          have e3 : (#[x] : Array Operand).map (⟨l.toArray, []⟩ : Act).eval = #[.slice p n c0] := by simp [h.eval hx]
          rcases c with rfl | rfl
          all_goals
          show (builtin .len #[_] ty ((#[x] : Array Operand).map fun | .const _ => true | _ => false) ((#[x] : Array Operand).map (⟨l.toArray, []⟩ : Act).eval)).run Try.prog w = _
          rw [e3]
          go_simp
      · simp at e
    · simp at e
  · rename_i t p
    cases c : (Nat.beq t 9 || Nat.beq t 26 || Nat.beq t 31 || Nat.beq t 82) && Nat.blt p Sz.n with
    | false => rw [c] at e; simp at e
    | true =>
      rw [c] at e
      simp only [Bool.and_eq_true, Bool.or_eq_true, Nat.beq_eq] at c
      have hp : p < Sz.n := by simpa using c.2
      obtain ⟨a, h1, h2⟩ := h.m t p v (by simp [tysL]; omega) hp e
      have h3 : (⟨l.toArray, []⟩ : Act).eval (.tmp p) = .pointer (some a) := by simp [Act.eval, h1]
      simp only [execOp, h3]
      have := h2 w hJ
      simp [this]
  · simp at e
def want (ops : Array Oper) (L : List (Nat × Value)) (o : Oper) : Option Bool := match o.guard with
  | none => some true
  | some (j, b) => match (ops[j]?).bind (·.dst) with
    | some d => match evO L (.tmp d) with
      | some (.bool x) => some (x == b)
      | some (.tuple _) => some false
      | _ => none
    | none => none
theorem look_of {L : List (Nat × Value)} {d : Nat} {v : Value} (hx : evO L (.tmp d) = some v) : d < Sz.n ∧ look L d = some v := by
  replace hx : (bif Nat.blt d Sz.n then look L d else none) = some v := hx
  cases c2 : Nat.blt d Sz.n with
  | false => rw [c2] at hx; simp at hx
  | true => rw [c2] at hx; exact ⟨by simpa using c2, hx⟩
theorem want_ok {l : List Value} {L : List (Nat × Value)} (h : Fr J l L) {ops : Array Oper} {o : Oper} {b : Bool} (e : want ops L o = some b) : Region.wanted o (yielded ops l.toArray) = b := by
  unfold want at e
  unfold Region.wanted yielded
  split at e
  · rename_i hg; rw [hg]; exact Option.some.inj e
  · rename_i j c hg
    rw [hg]
    split at e
    · rename_i d hd
      split at e
      · rename_i x hx
        have := h.h d _ (look_of hx).1 (look_of hx).2
        simp only [hd, Option.bind_some, List.getElem?_toArray, this]
        rw [← Option.some.inj e]
        cases x <;> cases c <;> rfl
      · rename_i x hx
        have := h.h d _ (look_of hx).1 (look_of hx).2
        simp only [hd, Option.bind_some, List.getElem?_toArray, this]
        rw [← Option.some.inj e]
        rfl
      · simp at e
    · simp at e
def step (ops : Array Oper) (o : Oper) (L : List (Nat × Value)) : Option (Nat × Value) := match o.dst, want ops L o with
  | some d, some true => bif nol L d then (match ev L o.op with
    | some v => some (d, v)
    | none => none) else none
  | some d, some false => bif nol L d then some (d, undef) else none
  | _, _ => none
def run (ops : Array Oper) : Nat → List Oper → List (Nat × Value) → Option (List (Nat × Value) × List Oper)
  | 0, os, L => some (L, os)
  | _ + 1, [], _ => none
  | n + 1, o :: os, L => match step ops o L with
    | some p => run ops n os (p :: L)
    | none => none
section
variable {ops : Array Oper} {Q : Exit → Act → World → Prop} {w : World}
theorem step_ {o : Oper} {rest : List Oper} {l : List Value} {L : List (Nat × Value)} {p : Nat × Value} (h : step ops o L = some p) (hF : Fr J l L) (hJ : J w) (k : ∀ l', Fr J l' (p :: L) → wpList Try.prog ops Q rest ⟨l'.toArray, []⟩ w) : wpList Try.prog ops Q (o :: rest) ⟨l.toArray, []⟩ w := by
  unfold step at h
  split at h
  · rename_i d hd hw
    cases c : nol L d with
    | false => rw [c] at h; simp at h
    | true =>
      rw [c] at h
      simp only [cond_true] at h
      split at h
      · rename_i v hv
        rw [← Option.some.inj h] at k
        unfold wpList
        rw [if_pos (want_ok hF hw)]
        refine .inl ?_
        unfold Oper.wp
        rw [ev_ok hF hJ hv]
        show wpList Try.prog ops Q rest (Act.put _ o.dst v) w
        rw [hd, put_set]
        exact k _ (hF.put c v)
      · simp at h
  · rename_i d hd hw
    cases c : nol L d with
    | false => rw [c] at h; simp at h
    | true =>
      rw [c] at h
      simp only [cond_true] at h
      rw [← Option.some.inj h] at k
      unfold wpList
      rw [if_neg (by rw [want_ok hF hw]; decide), hd, put_set]
      exact k _ (hF.put c undef)
  · simp at h
theorem run_ : ∀ (n : Nat) {os os' : List Oper} {l : List Value} {L L' : List (Nat × Value)} (_ : run ops n os L = some (L', os')) (_ : Fr J l L) (_ : J w) (_ : ∀ l', Fr J l' L' → wpList Try.prog ops Q os' ⟨l'.toArray, []⟩ w), wpList Try.prog ops Q os ⟨l.toArray, []⟩ w
  | 0, os, os', l, L, L', h, hF, hJ, k => by
    unfold run at h
    obtain ⟨rfl, rfl⟩ := Prod.mk.inj (Option.some.inj h)
    exact k l hF
  | n + 1, [], os', l, L, L', h, hF, hJ, k => by
    unfold run at h
    simp at h
  | n + 1, o :: os, os', l, L, L', h, hF, hJ, k => by
    unfold run at h
    split at h
    · rename_i p hp
      exact step_ hp hF hJ fun l' h' => run_ n h h' hJ k
    · simp at h
/-- One operation that yields a value, however that was shown. -/
theorem one1 {o : Oper} {rest : List Oper} {l : List Value} {L : List (Nat × Value)} (d : Nat) {v : Value} {w1 : World} (hd : o.dst = some d) (hw : want ops L o = some true) (hlt : nol L d = true) (hF : Fr J l L) (hv : (execOp (⟨l.toArray, []⟩ : Act).eval o).run Try.prog w = .ok (.value v) w1) (k : ∀ l', Fr J l' ((d, v) :: L) → wpList Try.prog ops Q rest ⟨l'.toArray, []⟩ w1) : wpList Try.prog ops Q (o :: rest) ⟨l.toArray, []⟩ w := by
  unfold wpList
  rw [if_pos (want_ok hF hw)]
  refine .inl ?_
  unfold Oper.wp
  rw [hv]
  show wpList Try.prog ops Q rest (Act.put _ o.dst v) w1
  rw [hd, put_set]
  exact k _ (hF.put hlt v)
/-- A call, by its contract. -/
theorem callR {o : Oper} {rest : List Oper} {l : List Value} {L : List (Nat × Value)} {f d : Nat} {fn : Func} {xs : Array Operand} {ats : Array TypeId} {vs : List Value} {R : Ending → World → Prop} (hf : Try.prog.funcs[f]? = some fn) (hop : o.op = .call { callee := .value (.func f), args := xs, argTypes := ats }) (hd : o.dst = some d) (hg : o.guard = none) (hlt : nol L d = true) (hname : (fn.name == "runtime.NumGoroutine") = false) (hb : fn.body.isSome = true) (hF : Fr J l L) (hv : evs L xs.toList = some vs) (hc : Calls Try.prog f vs.toArray w R) (k : ∀ e w', R e w' → ∃ v, e = .returned v ∧ ∀ l', Fr J l' ((d, v) :: L) → wpList Try.prog ops Q rest ⟨l'.toArray, []⟩ w') : wpList Try.prog ops Q (o :: rest) ⟨l.toArray, []⟩ w := by
  refine goesL_ (some d) hd hg hf hname hb vs.toArray hop ?_ (hc.mono fun e w' hh => ?_)
  · apply Array.toList_inj.mp
    rw [Array.toList_map, hF.evals hv]
  · obtain ⟨v, e1, h⟩ := k e w' hh
    refine ⟨v, e1, ?_⟩
    rw [put_set]
    exact h _ (hF.put hlt v)
theorem callB {J : World → Prop} {o : Oper} {rest : List Oper} {l : List Value} {L : List (Nat × Value)} {f d : Nat} {fn : Func} {xs : Array Operand} {ats : Array TypeId} {vs : List Value} {v : Value} (hf : Try.prog.funcs[f]? = some fn) (hc : Calls Try.prog f vs.toArray w fun e w' => e = .returned v ∧ Below w.heap.size w w') (hF : Fr J l L) (hJ : J w) (sJ : ∀ x y, J x → Below x.heap.size x y → J y) (hop : o.op = .call { callee := .value (.func f), args := xs, argTypes := ats }) (hd : o.dst = some d) (hg : o.guard = none) (hlt : nol L d = true) (hname : (fn.name == "runtime.NumGoroutine") = false) (hb : fn.body.isSome = true) (hv : evs L xs.toList = some vs) (k : ∀ l' w', Fr J l' ((d, v) :: L) → J w' → wpList Try.prog ops Q rest ⟨l'.toArray, []⟩ w') : wpList Try.prog ops Q (o :: rest) ⟨l.toArray, []⟩ w :=
  callR hf hop hd hg hlt hname hb hF hv hc fun _ _ ⟨h1, h2⟩ => ⟨v, h1, fun l' h => k l' _ h (sJ _ _ hJ h2)⟩
end
/-- A statement that reads, calls and hands on. -/
theorem cst (n m : Nat) {J : World → Prop} {c : Code} {id : Nat} {ops : Array Oper} {Q : Exit → Act → World → Prop} {w : World} {l : List Value} {L L1 L2 : List (Nat × Value)} {o : Oper} {os : List Oper} {f d : Nat} {fn : Func} {xs : Array Operand} {ats : Array TypeId} {vs : List Value} {v : Value}
    (hF : Fr J l L) (hJ : J w) (sJ : ∀ x y, J x → Below x.heap.size x y → J y) (hf : Try.prog.funcs[f]? = some fn) (e : c = .seq (ll c) (rr c)) (er : ll c = .region id ops false) (h1 : run ops n ops.toList L = some (L1, o :: os)) (hop : o.op = .call { callee := .value (.func f), args := xs, argTypes := ats }) (hd : o.dst = some d) (hg : o.guard = none) (hlt : nol L1 d = true) (hname : (fn.name == "runtime.NumGoroutine") = false) (hb : fn.body.isSome = true) (hv : evs L1 xs.toList = some vs)
    (hc : J w → Calls Try.prog f vs.toArray w fun e w' => e = .returned v ∧ Below w.heap.size w w') (h2 : run ops m os ((d, v) :: L1) = some (L2, [])) (k : ∀ l' w', Fr J l' L2 → J w' → (rr c).wp Try.prog Q ⟨l'.toArray, []⟩ w') : c.wp Try.prog Q ⟨l.toArray, []⟩ w := by
  rw [e]
  refine wp_seq ?_
  rw [er]
  refine wp_region_list (run_ n h1 hF hJ fun l1 hF1 => callB hf (hc hJ) hF1 hJ sJ hop hd hg hlt hname hb hv fun l2 w2 hF2 hJ2 => run_ m h2 hF2 hJ2 fun l3 hF3 => wpList_nil (k l3 w2 hF3 hJ2))
theorem reg_ {c : Code} {id : Nat} {ops : Array Oper} {Q : Exit → Act → World → Prop} {a : Act} {w : World} (e : c = .region id ops false) (h : wpList Try.prog ops Q ops.toList a w) : c.wp Try.prog Q a w := by
  rw [e]; exact wp_region_list h
theorem sq_ {c : Code} {Q : Exit → Act → World → Prop} {l : List Value} {w : World} (e : c = .seq (ll c) (rr c)) (h : ∀ K : Act → World → Prop, (∀ (l : List Value) (w : World), (rr c).wp Try.prog Q ⟨l.toArray, []⟩ w → K ⟨l.toArray, []⟩ w) → (ll c).wp Try.prog (Exit.then K Q) ⟨l.toArray, []⟩ w) : c.wp Try.prog Q ⟨l.toArray, []⟩ w := by
  rw [e]; exact wp_seq (h _ fun _ _ h => h)
/-- A Boolean in a slot, written out. -/
theorem Fr.bool {l : List Value} {L : List (Nat × Value)} (h : Fr J l L) {d : Nat} {b c : Bool} (e : look L d = some (.bool b)) (hb : b = c) : Fr J l ((d, .bool c) :: L) := by
  subst hb
  refine ⟨h.n, fun n v hn hv => ?_, fun t p v ht hp hv => ?_⟩
  · rw [look_cons] at hv
    by_cases c : d = n
    · subst c; rw [if_pos rfl] at hv; exact h.h d v hn (e.trans hv)
    · rw [if_neg c] at hv; exact h.h n v hn hv
  · rw [look_cons] at hv
    by_cases c : d = t * 1000 + p
    · rw [c] at e; rw [if_pos c] at hv; exact h.m t p v ht hp (e.trans hv)
    · rw [if_neg c] at hv; exact h.m t p v ht hp hv
theorem Drawn0.below {w w' : World} (h : Drawn0 w w') : Below w.heap.size w w' := by
  obtain ⟨n, rfl⟩ := h.out
  exact pw_below_drewN (Below.refl _ _) n
/-- A Boolean slot is parted on. -/
theorem spl {G : Prop} {J : World → Prop} {l : List Value} {L : List (Nat × Value)} (d : Nat) {b : Bool} (hF : Fr J l L) (hd : look L d = some (.bool b)) (ht : b = true → Fr J l ((d, .bool true) :: L) → G) (hf : b = false → Fr J l ((d, .bool false) :: L) → G) : G := by
  cases e : b with
  | true => exact ht e (hF.bool hd e)
  | false => exact hf e (hF.bool hd e)
/-- 'if': the region that reckons the test is run to its end. -/
theorem ifst (n : Nat) {J : World → Prop} {c A : Code} {id t : Nat} {ops : Array Oper} {Q : Exit → Act → World → Prop} {w : World} {l : List Value} {L L1 : List (Nat × Value)} {b : Bool} (hF : Fr J l L) (hJ : J w) (e : c = .seq (ll c) (rr c)) (e1 : ll c = .seq (.region id ops false) (.cond (.tmp t) A .skip)) (h : run ops n ops.toList L = some (L1, [])) (ht : evO L1 (.tmp t) = some (.bool b)) (k1 : b = true → ∀ l', Fr J l' L1 → A.wp Try.prog (Exit.then ((rr c).wp Try.prog Q) Q) ⟨l'.toArray, []⟩ w) (k2 : b = false → ∀ l', Fr J l' L1 → (rr c).wp Try.prog Q ⟨l'.toArray, []⟩ w) : c.wp Try.prog Q ⟨l.toArray, []⟩ w := by
  rw [e]
  refine wp_seq ?_
  rw [e1]
  refine wp_seq (wp_region_list (run_ n h hF hJ fun l1 hF1 => wpList_nil ?_))
  exact wp_cond_split (hF1.eval ht) (fun hb => k1 hb l1 hF1) (fun hb => wp_skip (k2 hb l1 hF1))
/-- The same, the region shown step by step: what follows is said once. -/
theorem ifop {J : World → Prop} {c A : Code} {id t : Nat} {ops : Array Oper} {Q : Exit → Act → World → Prop} {w : World} {l : List Value} (e : c = .seq (ll c) (rr c)) (e1 : ll c = .seq (.region id ops false) (.cond (.tmp t) A .skip)) (h : ∀ S : Act → World → Prop, (∀ l' L' b, Fr J l' L' → evO L' (.tmp t) = some (.bool b) → (b = true → A.wp Try.prog (Exit.then ((rr c).wp Try.prog Q) Q) ⟨l'.toArray, []⟩ w) → (b = false → (rr c).wp Try.prog Q ⟨l'.toArray, []⟩ w) → S ⟨l'.toArray, []⟩ w) → wpList Try.prog ops (Exit.then S (Exit.then ((rr c).wp Try.prog Q) Q)) ops.toList ⟨l.toArray, []⟩ w) : c.wp Try.prog Q ⟨l.toArray, []⟩ w := by
  rw [e]
  refine wp_seq ?_
  rw [e1]
  refine wp_seq (wp_region_list (h _ fun l' L' b hF ht k1 k2 => ?_))
  exact wp_cond_split (hF.eval ht) k1 (fun hb => wp_skip (k2 hb))
/-- 'return' of a Boolean that the last operation puts into slot @RS@. -/
theorem retst (n : Nat) {J : World → Prop} {A : Code} {id : Nat} {ops : Array Oper} {Q : Exit → Act → World → Prop} {R : Ending → World → Prop} {w : World} {l : List Value} {L L1 : List (Nat × Value)} {v : Value} {fn : Func} {rs : Nat} (hfn : fn.results = #[.tmp rs]) (hF : Fr J l L) (hJ : J w) (e : A = .seq (.region id ops false) .ret) (h : run ops n ops.toList L = some (L1, [])) (hv : evO L1 (.tmp rs) = some v) (hQ : ∀ a w, bodyPost Try.prog fn R .ret a w → Q .ret a w) (hR : R (.returned v) w) : A.wp Try.prog Q ⟨l.toArray, []⟩ w := by
  rw [e]
  refine wp_seq (wp_region_list (run_ n h hF hJ fun l1 hF1 => wpList_nil (wp_ret (hQ _ _ (bodyPost_ret (results_tmp hfn _ _ _) rfl ?_)))))
  have := hF1.eval hv
  unfold Act.eval at this
  dsimp only at this
  rw [this]
  exact hR
/-- A block of cells. -/
def cl (w : World) (g : Nat) (t : TypeId) (cs : Array Value) : Prop := w.heap[g]? = some (.cells cs t (0, 0))
theorem cl.below {w x : World} {g : Nat} {t : TypeId} {cs : Array Value} (h : cl w g t cs) (hb : Below w.heap.size w x) : cl x g t cs := blk_below h hb
theorem cl.load3 {w : World} {g : Nat} {t : TypeId} (ht : t = 26 ∨ t = 31) {a b : Int} {v : Value} (h : cl w g t #[.int .i64 a, .int .i64 b, v]) : (Instr.loadAt t (.pointer (some ⟨g, 0, none⟩))).run Try.prog w = .ok (.agg #[.int .i64 a, .int .i64 b, v]) w := by
  have z0 : w.cell? ⟨g, 0, none⟩ = some (.int .i64 a) := (blk_cell h 0).trans rfl
  have z1 : w.cell? ⟨g, 1, none⟩ = some (.int .i64 b) := (blk_cell h 1).trans rfl
  have z2 : w.cell? ⟨g, 2, none⟩ = some v := (blk_cell h 2).trans rfl
  have y0 := blk_frozen h 0
  have y1 := blk_frozen h 1
  have y2 := blk_frozen h 2
  have hu31 := Try.underlying31
  have hu26 := Try.underlying26
  rcases ht with rfl | rfl
  · go_simp
  · go_simp
theorem cl.load1 {w : World} {g i : Nat} {t t' : TypeId} (ht : t' = 9 ∨ t' = 82 ∨ t' = 46 ∨ t' = 24 ∨ t' = 3) {cs : Array Value} {v : Value} (h : cl w g t cs) (hv : cs[i]? = some v) : (Instr.loadAt t' (.pointer (some ⟨g, i, none⟩))).run Try.prog w = .ok v w := by
  have z0 : w.cell? ⟨g, i, none⟩ = some v := (blk_cell h i).trans hv
  have y0 := blk_frozen h i
  have hu9 := Try.underlying9
  have hu82 := Try.underlying82
  have hu46 := Try.underlying46
  have hu24 := Try.underlying24
  rcases ht with rfl | rfl | rfl | rfl | rfl <;> go_simp
theorem cl.load29 {w : World} {g : Nat} {t : TypeId} {a b : Int} {v : Value} (h : cl w g t #[.int .i64 a, .int .i64 b, v]) : (Instr.loadAt 29 (.pointer (some ⟨g, 0, none⟩))).run Try.prog w = .ok (.agg #[.int .i64 a, .int .i64 b]) w := by
  have z0 : w.cell? ⟨g, 0, none⟩ = some (.int .i64 a) := (blk_cell h 0).trans rfl
  have z1 : w.cell? ⟨g, 1, none⟩ = some (.int .i64 b) := (blk_cell h 1).trans rfl
  have y0 := blk_frozen h 0
  have y1 := blk_frozen h 1
  have hu29 := Try.underlying29
  go_simp
theorem cl.store46 {w : World} {g n c : Nat} {A : Option Addr} {u : Value} (h : cl w g 46 #[u]) : (Instr.storeAt 46 (.pointer (some ⟨g, 0, none⟩)) (.slice A n c)).run Try.prog w = .ok () (w.setCell ⟨g, 0, none⟩ (.slice A n c)) := by
  have z0 : w.cell? ⟨g, 0, none⟩ = some u := (blk_cell h 0).trans rfl
  have y0 := blk_frozen h 0
  have hu46 := Try.underlying46
  go_simp
theorem cl.store82 {w : World} {g : Nat} {fn : Fn} {a b : Array Value} {u : Value} (h : cl w g 82 #[u]) : (Instr.storeAt 82 (.pointer (some ⟨g, 0, none⟩)) (.func fn a b)).run Try.prog w = .ok () (w.setCell ⟨g, 0, none⟩ (.func fn a b)) := by
  have z0 : w.cell? ⟨g, 0, none⟩ = some u := (blk_cell h 0).trans rfl
  have y0 := blk_frozen h 0
  have hu82 := Try.underlying82
  go_simp
  rw [Go.run_store _ _ _ _ _ rfl, z0]
  simp [y0]
theorem cl.store31 {w : World} {g n c : Nat} {x y a b : Int} {u : Value} {A : Option Addr} (h : cl w g 31 #[.int .i64 x, .int .i64 y, u]) : (Instr.storeAt 31 (.pointer (some ⟨g, 0, none⟩)) (.agg #[.int .i64 a, .int .i64 b, .slice A n c])).run Try.prog w = .ok () (((w.setCell ⟨g, 0, none⟩ (.int .i64 a)).setCell ⟨g, 1, none⟩ (.int .i64 b)).setCell ⟨g, 2, none⟩ (.slice A n c)) := by
  have z0 : w.cell? ⟨g, 0, none⟩ = some (.int .i64 x) := (blk_cell h 0).trans rfl
  have z1 : w.cell? ⟨g, 1, none⟩ = some (.int .i64 y) := (blk_cell h 1).trans rfl
  have z2 : w.cell? ⟨g, 2, none⟩ = some u := (blk_cell h 2).trans rfl
  have y0 := blk_frozen h 0
  have y1 := blk_frozen h 1
  have y2 := blk_frozen h 2
  have hu31 := Try.underlying31
  go_simp
theorem run_fld {t i o : Nat} (ht : (t = 31 ∧ i = 0 ∧ o = 0) ∨ (t = 31 ∧ i = 1 ∧ o = 2) ∨ (t = 29 ∧ i = 1 ∧ o = 1)) (g : Nat) (w : World) : (Instr.fieldAt t (.pointer (some ⟨g, 0, none⟩)) i).run Try.prog w = .ok (.pointer (some ⟨g, o, none⟩)) w := by
  have hu29 := Try.underlying29
  have hu31 := Try.underlying31
  rcases ht with ⟨rfl, rfl, rfl⟩ | ⟨rfl, rfl, rfl⟩ | ⟨rfl, rfl, rfl⟩ <;> go_simp
theorem run_alloc46 (w : World) : (Instr.alloc 46 true (.tuple #[])).run Try.prog w = .ok (.pointer (some ⟨w.heap.size, 0, none⟩)) (w.alloc (.cells #[.slice none 0 0] 46 (0, 0))) := by
  have hu46 := Try.underlying46
  go_simp
theorem run_alloc82 (w : World) : (Instr.alloc 82 true (.tuple #[])).run Try.prog w = .ok (.pointer (some ⟨w.heap.size, 0, none⟩)) (w.alloc (.cells #[.nilFunc] 82 (0, 0))) := by
  have hu82 := Try.underlying82
  go_simp
theorem run_alloc31 (w : World) : (Instr.alloc 31 true (.tuple #[])).run Try.prog w = .ok (.pointer (some ⟨w.heap.size, 0, none⟩)) (w.alloc (.cells #[.int .i64 0, .int .i64 0, .slice none 0 0] 31 (0, 0))) := by
  have hu31 := Try.underlying31
  go_simp
theorem run_box3 {t : TypeId} (ht : t = 26 ∨ t = 31) (w : World) (a b : Int) (v : Value) (hv : v.oneCell' = true) : (Instr.box t (.agg #[.int .i64 a, .int .i64 b, v])).run Try.prog w = .ok (.pointer (some ⟨w.heap.size, 0, none⟩)) (w.alloc (.cells #[.int .i64 a, .int .i64 b, v] t (0, 0))) := by
  have hu31 := Try.underlying31
  have hu26 := Try.underlying26
  rcases ht with rfl | rfl
  · go_simp
  · go_simp
theorem run_box9 (w : World) (s : ByteArray) : (Instr.box 9 (.string s)).run Try.prog w = .ok (.pointer (some ⟨w.heap.size, 0, none⟩)) (w.alloc (.cells #[.string s] 9 (0, 0))) := by
  have hu9 := Try.underlying9
  go_simp
def Stb (J : World → Prop) : Prop := ∀ x y, J x → Below x.heap.size x y → J y
theorem Stb.and {J K : World → Prop} (h : Stb J) (k : Stb K) : Stb fun w => J w ∧ K w := fun x y a b => ⟨h x y a.1 b, k x y a.2 b⟩
theorem Stb.since (w : World) : Stb fun x => Below w.heap.size w x := fun _ _ h hb => below_step h hb
section
variable {J : World → Prop} {ops : Array Oper} {Q : Exit → Act → World → Prop} {w : World} {l : List Value} {L L1 : List (Nat × Value)}
/-- Reckon on, then part on a Boolean slot. -/
theorem rsp (n d : Nat) {os os1 : List Oper} {b : Bool} (hF : Fr J l L) (hJ : J w) (h1 : run ops n os L = some (L1, os1)) (hd : look L1 d = some (.bool b)) (kt : b = true → ∀ l', Fr J l' ((d, .bool true) :: L1) → wpList Try.prog ops Q os1 ⟨l'.toArray, []⟩ w) (kf : b = false → ∀ l', Fr J l' ((d, .bool false) :: L1) → wpList Try.prog ops Q os1 ⟨l'.toArray, []⟩ w) : wpList Try.prog ops Q os ⟨l.toArray, []⟩ w :=
  run_ n h1 hF hJ fun l' h => spl d h hd (fun e h => kt e l' h) (fun e h => kf e l' h)
theorem runE (n : Nat) {os : List Oper} (hF : Fr J l L) (hJ : J w) (h : run ops n os L = some (L1, [])) (k : ∀ l', Fr J l' L1 → Q .normal ⟨l'.toArray, []⟩ w) : wpList Try.prog ops Q os ⟨l.toArray, []⟩ w :=
  run_ n h hF hJ fun l' h => wpList_nil (k l' h)
theorem sq2 {c : Code} {a : Act} (e : c = .seq (ll c) (rr c)) (h : (ll c).wp Try.prog (Exit.then ((rr c).wp Try.prog Q) Q) a w) : c.wp Try.prog Q a w := by
  rw [e]; exact wp_seq h
/-- 'if' with 'return false' in it. -/
theorem iforf {R : Ending → World → Prop} {r : Bool} {D : Code} {id id2 t : Nat} {ops2 : Array Oper} {fn : Func} {rs : Nat} {cb : Bool} (hfn : fn.results = #[.tmp rs]) (hJ : J w) (hR : ∀ x, J x → R (.returned (.bool r)) x) (e : D = .seq (.region id ops false) (.cond (.tmp t) (.seq (.region id2 ops2 false) .ret) .skip)) (h2 : run ops2 1 ops2.toList [] = some ([(rs, .bool cb)], [])) (hrs : Nat.blt rs Sz.n = true) (hQ : ∀ a w, bodyPost Try.prog fn R .ret a w → Q .ret a w) (h : ∀ S : Act → World → Prop, (∀ l' L', Fr J l' L' → evO L' (.tmp t) = some (.bool true) → some cb = some r → S ⟨l'.toArray, []⟩ w) → (∀ l' L', Fr J l' L' → evO L' (.tmp t) = some (.bool false) → Q .normal ⟨l'.toArray, []⟩ w → S ⟨l'.toArray, []⟩ w) → wpList Try.prog ops (Exit.then S Q) ops.toList ⟨l.toArray, []⟩ w) : D.wp Try.prog Q ⟨l.toArray, []⟩ w := by
  rw [e]
  refine wp_seq (wp_region_list (h _ (fun l' L' hF ht hr => ?_) (fun l' L' hF ht k => ?_)))
  · exact wp_cond_split (hF.eval ht) (fun _ => retst 1 hfn hF.nil hJ rfl h2 (by show (bif Nat.blt rs Sz.n then look [(rs, Value.bool cb)] rs else none) = _; rw [hrs, look_cons, if_pos rfl]; rfl) hQ (Option.some.inj hr ▸ hR w hJ)) (fun h => absurd h (by decide))
  · exact wp_cond_split (hF.eval ht) (fun h => absurd h (by decide)) (fun _ => wp_skip k)
/-- A statement is one region. -/
theorem dst {c : Code} {id : Nat} {a : Act} (e : c = .seq (ll c) (rr c)) (er : ll c = .region id ops false) (h : wpList Try.prog ops (Exit.then ((rr c).wp Try.prog Q) Q) ops.toList a w) : c.wp Try.prog Q a w := by
  rw [e]
  refine wp_seq ?_
  rw [er]
  exact wp_region_list h
/-! ### regions in open order -/
def bn (N n : Nat) : Array Bool := (List.replicate n true ++ List.replicate (N - n) false).toArray
theorem step_yields {S : World → Prop} {o : Oper} {p : Nat × Value} (hS : ∀ w, S w → J w) (h : step ops o L = some p) (hF : Fr J l L) : o.dst = some p.1 ∧ nol L p.1 = true ∧ YieldsIf Try.prog ops S o p.2 ⟨l.toArray, []⟩ := by
  unfold step at h
  split at h
  · rename_i d hd hw
    cases c : nol L d with
    | false => rw [c] at h; simp at h
    | true =>
      rw [c] at h
      simp only [cond_true] at h
      split at h
      · rename_i v hv
        rw [← Option.some.inj h]
        exact ⟨hd, c, .inl ⟨want_ok hF hw, fun w hJ => ev_ok hF (hS w hJ) hv⟩⟩
      · simp at h
  · rename_i d hd hw
    cases c : nol L d with
    | false => rw [c] at h; simp at h
    | true =>
      rw [c] at h
      simp only [cond_true] at h
      rw [← Option.some.inj h]
      exact ⟨hd, c, .inr ⟨want_ok hF hw, rfl⟩⟩
  · simp at h
theorem any1 (i : Nat) {S : World → Prop} (hS : ∀ w, S w → J w) {o : Oper} {p : Nat × Value} {fuel : Nat} {b : Array Bool} (b' : Array Bool) (hQ : ∀ (c : List PanicEntry) (a : Act) (N : Option Tmp) (v : Value) (w : World), Q (.panic c) (a.put N v) w → Q (.panic c) a w) (hF : Fr J l L) (hJ : S w) (hi : ops[i]? = some o) (h : step ops o L = some p) (hc : takeB .any ops [] b b' i = true) (k : ∀ l', Fr J l' (p :: L) → wpAnyLast Try.prog .any ops Q S [] fuel b' ⟨l'.toArray, []⟩ w) : wpAnyLast Try.prog .any ops Q S [] (fuel + 1) b ⟨l.toArray, []⟩ w := by
  obtain ⟨h1, h2, h3⟩ := step_yields hS h hF
  refine take_ b' hi h1 hc (fun c a w h => hQ c a _ _ w h) h3 hJ (put_set l p.1 p.2) (k _ (hF.put h2 p.2))
def tks (T : Bool × List (List Nat × List Nat)) (B : List Nat) (N : Nat) : Nat → Nat → Bool
  | 0, _ => true
  | n + 1, i => takeW T B [] (bn N i).toList (bn N (i + 1)).toList i && tks T B N n (i + 1)
theorem anys_ {S : World → Prop} (hS : ∀ w, S w → J w) {T : Bool × List (List Nat × List Nat)} {B : List Nat} {N : Nat} (hT : rtab .any ops = T) (hB : waitsOk T.2 B = true) (hQ : ∀ (c : List PanicEntry) (a : Act) (N : Option Tmp) (v : Value) (w : World), Q (.panic c) (a.put N v) w → Q (.panic c) a w) (hJ : S w) {fuel : Nat} : ∀ (n i : Nat) {os os' : List Oper} {l : List Value} {L L' : List (Nat × Value)}, Fr J l L → (∀ j, os[j]? = ops[i + j]?) → tks T B N n i = true → run ops n os L = some (L', os') → (∀ l', Fr J l' L' → wpAnyLast Try.prog .any ops Q S [] fuel (bn N (i + n)) ⟨l'.toArray, []⟩ w) → wpAnyLast Try.prog .any ops Q S [] (fuel + n) (bn N i) ⟨l.toArray, []⟩ w
  | 0, i, os, os', l, L, L', hF, ho, hc, h, k => by
    unfold run at h
    obtain ⟨rfl, rfl⟩ := Prod.mk.inj (Option.some.inj h)
    exact k l hF
  | n + 1, i, [], os', l, L, L', hF, ho, hc, h, k => by
    unfold run at h
    simp at h
  | n + 1, i, o :: os, os', l, L, L', hF, ho, hc, h, k => by
    unfold run at h
    unfold tks at hc
    rw [Bool.and_eq_true] at hc
    split at h
    · rename_i p hp
      refine any1 (fuel := fuel + n) i hS (bn N (i + 1)) hQ hF hJ (by have := ho 0; simpa using this.symm) hp (take_ofW hT hB hc.1) fun l' h' => ?_
      exact anys_ hS hT hB hQ hJ n (i + 1) h' (fun j => by have := ho (j + 1); simpa [Nat.add_assoc, Nat.add_comm 1 j] using this) hc.2 h (fun l2 h2 => by have := k l2 h2; rw [show i + (n + 1) = i + 1 + n by omega] at this; exact this)
    · simp at h
theorem anys {S : World → Prop} (hS : ∀ w, S w → J w) {T : Bool × List (List Nat × List Nat)} {B : List Nat} {N : Nat} {fuel : Nat} (n i : Nat) {os' : List Oper} (hT : rtab .any ops = T) (hB : waitsOk T.2 B = true) (hQ : ∀ (c : List PanicEntry) (a : Act) (N : Option Tmp) (v : Value) (w : World), Q (.panic c) (a.put N v) w → Q (.panic c) a w) (hF : Fr J l L) (hJ : S w) (hc : tks T B N n i = true) (h : run ops n (ops.toList.drop i) L = some (L1, os')) (k : ∀ l', Fr J l' L1 → wpAnyLast Try.prog .any ops Q S [] fuel (bn N (i + n)) ⟨l'.toArray, []⟩ w) : wpAnyLast Try.prog .any ops Q S [] (fuel + n) (bn N i) ⟨l.toArray, []⟩ w :=
  anys_ hS hT hB hQ hJ n i hF (fun j => by simp [List.getElem?_drop]) hc h k
theorem ansp {S : World → Prop} (hS : ∀ w, S w → J w) {T : Bool × List (List Nat × List Nat)} {B : List Nat} {N : Nat} {fuel : Nat} (n i d : Nat) {os' : List Oper} {b : Bool} (hT : rtab .any ops = T) (hB : waitsOk T.2 B = true) (hQ : ∀ (c : List PanicEntry) (a : Act) (N : Option Tmp) (v : Value) (w : World), Q (.panic c) (a.put N v) w → Q (.panic c) a w) (hF : Fr J l L) (hJ : S w) (hc : tks T B N n i = true) (h : run ops n (ops.toList.drop i) L = some (L1, os')) (hd : look L1 d = some (.bool b)) (kt : b = true → ∀ l', Fr J l' ((d, .bool true) :: L1) → wpAnyLast Try.prog .any ops Q S [] fuel (bn N (i + n)) ⟨l'.toArray, []⟩ w) (kf : b = false → ∀ l', Fr J l' ((d, .bool false) :: L1) → wpAnyLast Try.prog .any ops Q S [] fuel (bn N (i + n)) ⟨l'.toArray, []⟩ w) : wpAnyLast Try.prog .any ops Q S [] (fuel + n) (bn N i) ⟨l.toArray, []⟩ w :=
  anys hS n i hT hB hQ hF hJ hc h fun l' h => spl d h hd (fun e h => kt e l' h) (fun e h => kf e l' h)
theorem callA (i : Nat) {S : World → Prop} {T : Bool × List (List Nat × List Nat)} {fuel : Nat} {b : Array Bool} (b' : Array Bool) {o : Oper} {f d : Nat} {fn : Func} {xs : Array Operand} {ats : Array TypeId} {vs : List Value} {v : Value} (hT : rtab .any ops = T) (hF : Fr J l L) (hJ : S w) (sJ : Stb S) (hf : Try.prog.funcs[f]? = some fn) (hi : ops[i]? = some o) (hr : (readyT T.2 b.toList == [i] && b.toList.set i true == b'.toList) = true) (hop : o.op = .call { callee := .value (.func f), args := xs, argTypes := ats }) (hd : o.dst = some d) (hw : want ops L o = some true) (hlt : nol L d = true) (hname : (fn.name == "runtime.NumGoroutine") = false) (hb : fn.body.isSome = true) (hv : evs L xs.toList = some vs) (hc : Calls Try.prog f vs.toArray w fun e w' => e = .returned v ∧ Below w.heap.size w w') (k : ∀ l' w', Fr J l' ((d, v) :: L) → S w' → wpAnyLast Try.prog .any ops Q S [] fuel b' ⟨l'.toArray, []⟩ w') : wpAnyLast Try.prog .any ops Q S [] (fuel + 1) b ⟨l.toArray, []⟩ w := by
  refine one_ b' hi hd (one_of hT hr) (by simp) fun K hK => goes_ hf hname hb vs.toArray (want_ok hF hw) hd hop ?_ (hc.mono fun e w' hh => ?_)
  · apply Array.toList_inj.mp
    rw [Array.toList_map, hF.evals hv]
  · refine ⟨v, hh.1, hK.out _ _ (sJ _ _ hJ hh.2) fun hJ' => ?_⟩
    rw [put_set]
    exact k _ _ (hF.put hlt v) hJ'
/-- 'if' with 'return false' in it, the test in open order. -/
theorem ifopn {V : World → Prop} {R : Ending → World → Prop} {r : Bool} {D : Code} {id id2 t N : Nat} {ops2 : Array Oper} {fn : Func} {rs : Nat} {cb : Bool} (hfn : fn.results = #[.tmp rs]) (hJ : V w) (sJ : Stb V) (hR : ∀ x, V x → R (.returned (.bool r)) x) (e : D = .seq (.region id ops true) (.cond (.tmp t) (.seq (.region id2 ops2 false) .ret) .skip)) (h2 : run ops2 1 ops2.toList [] = some ([(rs, .bool cb)], [])) (hrs : Nat.blt rs Sz.n = true) (hQ : ∀ a w, bodyPost Try.prog fn R .ret a w → Q .ret a w) (hm : Try.prog.follows .mixedOrders = true) (hn : ops.size = N) (hl : Array.replicate N false = bn N 0) (h : ∀ S : Act → World → Prop, (∀ l' L' w', V w' → Fr J l' L' → evO L' (.tmp t) = some (.bool true) → some cb = some r → S ⟨l'.toArray, []⟩ w') → (∀ l' L' w', V w' → Fr J l' L' → evO L' (.tmp t) = some (.bool false) → Q .normal ⟨l'.toArray, []⟩ w' → S ⟨l'.toArray, []⟩ w') → ∀ w', V w' → wpAnyLast Try.prog .any ops (Exit.then S Q) V [] N (bn N 0) ⟨l.toArray, []⟩ w') : D.wp Try.prog Q ⟨l.toArray, []⟩ w := by
  rw [e]
  refine wp_seq (start_ (S := V) (ds := []) (bn N 0) hm hn hl (sJ _ _ hJ (below_drew1 (Below.refl _ _))) fun hJ' => h _ (fun l' L' w' hJ hF ht hr => ?_) (fun l' L' w' hJ hF ht k => ?_) _ hJ')
  · exact wp_cond_split (hF.eval ht) (fun _ => retst 1 hfn hF.nil hJ rfl h2 (by show (bif Nat.blt rs Sz.n then look [(rs, Value.bool cb)] rs else none) = _; rw [hrs, look_cons, if_pos rfl]; rfl) hQ (Option.some.inj hr ▸ hR _ hJ)) (fun h => absurd h (by decide))
  · exact wp_cond_split (hF.eval ht) (fun h => absurd h (by decide)) (fun _ => wp_skip k)
theorem anyV (i d : Nat) {S : World → Prop} {o : Oper} {v : Value} {fuel : Nat} {b : Array Bool} (b' : Array Bool) (hQ : ∀ (c : List PanicEntry) (a : Act) (N : Option Tmp) (v : Value) (w : World), Q (.panic c) (a.put N v) w → Q (.panic c) a w) (hF : Fr J l L) (hJ : S w) (hi : ops[i]? = some o) (hd : o.dst = some d) (hw : want ops L o = some true) (hlt : nol L d = true) (hy : ∀ w, S w → (execOp (⟨l.toArray, []⟩ : Act).eval o).run Try.prog w = .ok (.value v) w) (hc : takeB .any ops [] b b' i = true) (k : ∀ l', Fr J l' ((d, v) :: L) → wpAnyLast Try.prog .any ops Q S [] fuel b' ⟨l'.toArray, []⟩ w) : wpAnyLast Try.prog .any ops Q S [] (fuel + 1) b ⟨l.toArray, []⟩ w :=
  take_ b' hi hd hc (fun c a w h => hQ c a _ _ w h) (.inl ⟨want_ok hF hw, hy⟩) hJ (put_set l d v) (k _ (hF.put hlt v))
theorem stor {x y : Operand} {t ty : Nat} {p : String} {af : Array Edge} {rest : List Oper} {w' : World} {vp v : Value} (hF : Fr J l L) (hx : evO L x = some vp) (hy : evO L y = some v) (hr : (Instr.storeAt t vp v).run Try.prog w = .ok () w') (k : wpList Try.prog ops Q rest ⟨l.toArray, []⟩ w') : wpList Try.prog ops Q (⟨none, .store t x y, ty, p, af, none⟩ :: rest) ⟨l.toArray, []⟩ w := by
  unfold wpList
  rw [if_pos (by rfl)]
  refine .inl ?_
  have e : (execOp (⟨l.toArray, []⟩ : Act).eval (⟨none, .store t x y, ty, p, af, none⟩ : Oper)).run Try.prog w = .ok .skip w' := by
    simp only [execOp, hF.eval hx, hF.eval hy]
    simp [hr]
  unfold Oper.wp
  rw [e]
  exact k
/-- A call of a function value. -/
theorem callV_run {o : Oper} {f : Nat} {fn : Func} {c : Operand} {xs : Array Operand} {ats : Array TypeId} {vs : List Value} {caps : Array Value} (hf : Try.prog.funcs[f]? = some fn) (hname : (fn.name == "runtime.NumGoroutine") = false) (hb : fn.body.isSome = true) (hop : o.op = .call { callee := .value c, args := xs, argTypes := ats }) (hF : Fr J l L) (hcv : evO L c = some (.func (.func f) #[] caps)) (hv : evs L xs.toList = some vs) : (execOp (⟨l.toArray, []⟩ : Act).eval o).run Try.prog w = .ok (.enter f (vs.toArray ++ caps)) w := by
  have he := enters_ hf hname hb (vs.toArray ++ caps) w
  have ha : xs.map (⟨l.toArray, []⟩ : Act).eval = vs.toArray := by
    apply Array.toList_inj.mp
    rw [Array.toList_map, hF.evals hv]
  unfold execOp
  simp [hop, resolve, Deferred.ofValue, invoke, hF.eval hcv, ha, he]
theorem callV {o : Oper} {rest : List Oper} {f d : Nat} {fn : Func} {c : Operand} {xs : Array Operand} {ats : Array TypeId} {vs : List Value} {caps : Array Value} {R : Ending → World → Prop} (hf : Try.prog.funcs[f]? = some fn) (hop : o.op = .call { callee := .value c, args := xs, argTypes := ats }) (hd : o.dst = some d) (hw : want ops L o = some true) (hlt : nol L d = true) (hname : (fn.name == "runtime.NumGoroutine") = false) (hb : fn.body.isSome = true) (hF : Fr J l L) (hcv : evO L c = some (.func (.func f) #[] caps)) (hv : evs L xs.toList = some vs) (hc : Calls Try.prog f (vs.toArray ++ caps) w R) (k : ∀ e w', R e w' → ∃ v, e = .returned v ∧ ∀ l', Fr J l' ((d, v) :: L) → wpList Try.prog ops Q rest ⟨l'.toArray, []⟩ w') : wpList Try.prog ops Q (o :: rest) ⟨l.toArray, []⟩ w := by
  unfold wpList
  rw [if_pos (want_ok hF hw)]
  refine .inl ?_
  unfold Oper.wp
  rw [callV_run hf hname hb hop hF hcv hv, Oper.upon_enter]
  refine hc.mono fun e w'' hh => ?_
  obtain ⟨v, rfl, h⟩ := k e w'' hh
  rw [hd]
  show wpList Try.prog ops Q rest (Act.put _ (some d) v) w''
  rw [put_set]
  exact h _ (hF.put hlt v)
theorem callAV (i : Nat) {S : World → Prop} {T : Bool × List (List Nat × List Nat)} {fuel : Nat} {b : Array Bool} (b' : Array Bool) {o : Oper} {f d : Nat} {fn : Func} {c : Operand} {xs : Array Operand} {ats : Array TypeId} {vs : List Value} {caps : Array Value} {R : Ending → World → Prop} (hT : rtab .any ops = T) (hF : Fr J l L) (hf : Try.prog.funcs[f]? = some fn) (hi : ops[i]? = some o) (hr : (readyT T.2 b.toList == [i] && b.toList.set i true == b'.toList) = true) (hop : o.op = .call { callee := .value c, args := xs, argTypes := ats }) (hd : o.dst = some d) (hw : want ops L o = some true) (hlt : nol L d = true) (hname : (fn.name == "runtime.NumGoroutine") = false) (hb : fn.body.isSome = true) (hcv : evO L c = some (.func (.func f) #[] caps)) (hv : evs L xs.toList = some vs) (hc : Calls Try.prog f (vs.toArray ++ caps) w R) (k : ∀ e w', R e w' → ∃ v, e = .returned v ∧ S w' ∧ ∀ l', Fr J l' ((d, v) :: L) → wpAnyLast Try.prog .any ops Q S [] fuel b' ⟨l'.toArray, []⟩ w') : wpAnyLast Try.prog .any ops Q S [] (fuel + 1) b ⟨l.toArray, []⟩ w := by
  refine one_ b' hi hd (one_of hT hr) (by simp) fun K hK => ?_
  refine call_ f (vs.toArray ++ caps) (want_ok hF hw) hd (callV_run hf hname hb hop hF hcv hv) (hc.mono fun e w' hh => ?_)
  obtain ⟨v, e1, hS, h⟩ := k e w' hh
  refine ⟨v, e1, hK.out _ _ hS fun _ => ?_⟩
  rw [put_set]
  exact h _ (hF.put hlt v)
/-- A call in open order, whatever its contract says. -/
theorem callAR (i : Nat) {S : World → Prop} {T : Bool × List (List Nat × List Nat)} {fuel : Nat} {b : Array Bool} (b' : Array Bool) {o : Oper} {f d : Nat} {fn : Func} {xs : Array Operand} {ats : Array TypeId} {vs : List Value} {R : Ending → World → Prop} (hT : rtab .any ops = T) (hF : Fr J l L) (hf : Try.prog.funcs[f]? = some fn) (hi : ops[i]? = some o) (hr : (readyT T.2 b.toList == [i] && b.toList.set i true == b'.toList) = true) (hop : o.op = .call { callee := .value (.func f), args := xs, argTypes := ats }) (hd : o.dst = some d) (hw : want ops L o = some true) (hlt : nol L d = true) (hname : (fn.name == "runtime.NumGoroutine") = false) (hb : fn.body.isSome = true) (hv : evs L xs.toList = some vs) (hc : Calls Try.prog f vs.toArray w R) (k : ∀ e w', R e w' → ∃ v, e = .returned v ∧ S w' ∧ ∀ l', Fr J l' ((d, v) :: L) → wpAnyLast Try.prog .any ops Q S [] fuel b' ⟨l'.toArray, []⟩ w') : wpAnyLast Try.prog .any ops Q S [] (fuel + 1) b ⟨l.toArray, []⟩ w := by
  refine one_ b' hi hd (one_of hT hr) (by simp) fun K hK => goes_ hf hname hb vs.toArray (want_ok hF hw) hd hop ?_ (hc.mono fun e w' hh => ?_)
  · apply Array.toList_inj.mp
    rw [Array.toList_map, hF.evals hv]
  · obtain ⟨v, e1, hS, h⟩ := k e w' hh
    refine ⟨v, e1, hK.out _ _ hS fun _ => ?_⟩
    rw [put_set]
    exact h _ (hF.put hlt v)
/-! ### loops -/
theorem inBlock_exit {id : Nat} {a : Act} (h : Q .normal a w) : Exit.inBlock id Q (.exit id) a w := by
  simp only [Exit.inBlock, if_true]
  exact h
theorem blkl {c lp : Code} {id n : Nat} {a : Act} (e : c = .block id (.loop lp)) (h : Code.rounds Try.prog lp (Exit.inBlock id Q) n a w) : c.wp Try.prog Q a w := by
  rw [e]
  exact wp_block (wp_loop_rounds n h)
/-- The head of a loop: one region, then 'leave unless'. -/
theorem loph (n : Nat) {c : Code} {id e1 t : Nat} {K : Act → World → Prop} {b : Bool} (hF : Fr J l L) (hJ : J w) (e : c = .seq (ll c) (rr c)) (er : ll c = .region id ops false) (h : run ops n ops.toList L = some (L1, [])) (e2 : rr c = .seq (.cond (.tmp t) .skip (.exit e1)) (rr (rr c))) (ht : evO L1 (.tmp t) = some (.bool b)) (hf : b = false → ∀ l', Fr J l' L1 → Q .normal ⟨l'.toArray, []⟩ w) (hk : b = true → ∀ l', Fr J l' L1 → (rr (rr c)).wp Try.prog (Exit.then K (Exit.inBlock e1 Q)) ⟨l'.toArray, []⟩ w) : c.wp Try.prog (Exit.then K (Exit.inBlock e1 Q)) ⟨l.toArray, []⟩ w := by
  refine dst e er (run_ n h hF hJ fun l1 hF1 => wpList_nil ?_)
  show (rr c).wp _ _ _ _
  rw [e2]
  refine wp_seq (wp_cond_split (hF1.eval ht) (fun hb => wp_skip (hk hb l1 hF1)) (fun hb => wp_exit ?_))
  exact inBlock_exit (hf hb l1 hF1)
theorem condT {c : Code} {t i : Nat} (hF : Fr J l L) (e : c = .seq (.cond (.tmp t) .skip (.exit i)) (rr c)) (ht : evO L (.tmp t) = some (.bool true)) (h : (rr c).wp Try.prog Q ⟨l.toArray, []⟩ w) : c.wp Try.prog Q ⟨l.toArray, []⟩ w := by
  rw [e]; exact wp_seq (wp_cond_true (hF.eval ht) (wp_skip h))
theorem condF {c : Code} {t i : Nat} (hF : Fr J l L) (e : c = .seq (.cond (.tmp t) .skip (.exit i)) (rr c)) (ht : evO L (.tmp t) = some (.bool false)) (h : Q (.exit i) ⟨l.toArray, []⟩ w) : c.wp Try.prog Q ⟨l.toArray, []⟩ w := by
  rw [e]; exact wp_seq (wp_cond_false (hF.eval ht) (wp_exit h))
theorem blk1 {c : Code} {id : Nat} {a : Act} (e : c = .block id (bb c)) (h : (bb c).wp Try.prog (Exit.inBlock id Q) a w) : c.wp Try.prog Q a w := by
  rw [e]; exact wp_block h
end
end Go.Proofs.Ytffjfnoocbgajaa.M
