/- TimesFor: the walk of its functions and of the law about it. -/
import Derived.Test.YtffjfnoocbgajaaM34
import Derived.Test.YtffjfnoocbgajaaM33
import Derived.Test.YtffjfnoocbgajaaM30
import Derived.Test.YtffjfnoocbgajaaM26
import Derived.Test.YtffjfnoocbgajaaM18
import Derived.Test.YtffjfnoocbgajaaM19
import Derived.Test.YtffjfnoocbgajaaM20
import Derived.Test.YtffjfnoocbgajaaM21
import Derived.Test.YtffjfnoocbgajaaM13
import Derived.Test.YtffjfnoocbgajaaM2
import Derived.Test.YtffjfnoocbgajaaM4
import Derived.Test.YtffjfnoocbgajaaM5
import Derived.Test.YtffjfnoocbgajaaM7
import Derived.Test.YtffjfnoocbgajaaM8
namespace Go.Proofs.Ytffjfnoocbgajaa.M
open Go.RowKit Go.Proofs.YtffjfnoocbgajaaW.PrintWords Go.Proofs.YtffjfnoocbgajaaW.PrintLast Go.Proofs.YtffjfnoocbgajaaW.PrintMore
set_option maxRecDepth 100000
set_option maxHeartbeats 4000000
set_option linter.unusedVariables false
instance sz70 : Sz := ⟨40, by decide⟩
def ptr (g : Nat) : Value := .pointer (some ⟨g, 0, none⟩)
def capsOf (go gg gt gf : Nat) : Array Value := #[ptr go, ptr gg, ptr gt, ptr gf]
/-- What the closure's variables hold, but for the list. -/
structure TF (w0 : World) (go gg gt gf : Nat) (W D : Int) (A : Option Addr) (c : Nat) (ks : List (List Int)) (to_ : ByteArray) (x : World) : Prop where
  b : Below w0.heap.size w0 x
  g : cl x gg 31 #[.int .i64 W, .int .i64 D, .slice A ks.length c]
  t : cl x gt 9 #[.string to_]
  f : cl x gf 82 #[.func (.func 70) #[] (capsOf go gg gt gf)]
/-- The boxes are four, and made behind w0. -/
structure Gs (w0 : World) (go gg gt gf : Nat) : Prop where
  o : w0.heap.size ≤ go
  a : gg ≠ go
  b : gt ≠ go
  c : gf ≠ go
def okO (go gg gt gf : Nat) (k : Nat) : Prop := k ≠ go ∧ k ≠ gg ∧ k ≠ gt ∧ k ≠ gf
/-- What the variable out holds. -/
structure OI (w0 : World) (go gg gt gf : Nat) (x : World) (v : Value) (l : List Int) : Prop where
  c : cl x go 46 #[v]
  r : Kd.R (Kd.int .i64) 3 x w0.heap.size (okO go gg gt gf) v l
theorem TF.stb {w0 : World} {go gg gt gf : Nat} {W D : Int} {A : Option Addr} {c : Nat} {ks : List (List Int)} {to_ : ByteArray} : Stb (TF w0 go gg gt gf W D A c ks to_) :=
  fun x y h hb => ⟨below_step h.b hb, h.g.below hb, h.t.below hb, h.f.below hb⟩
theorem OI.below {w0 : World} {go gg gt gf : Nat} {x y : World} {v : Value} {l : List Int} (h : OI w0 go gg gt gf x v l) (hb : Below x.heap.size x y) : OI w0 go gg gt gf y v l := ⟨h.c.below hb, Kd.R_below h.r hb⟩
/-- out is given another value. -/
theorem TF.set {w0 : World} {go gg gt gf : Nat} {W D : Int} {A : Option Addr} {c : Nat} {ks : List (List Int)} {to_ : ByteArray} {x : World} (G : Gs w0 go gg gt gf) (h : TF w0 go gg gt gf W D A c ks to_ x) (v : Value) : TF w0 go gg gt gf W D A c ks to_ (x.setCell ⟨go, 0, none⟩ v) :=
  ⟨below_set h.b G.o, (Below.heap_setCell x ⟨go, 0, none⟩ v gg G.a).trans h.g, (Below.heap_setCell x ⟨go, 0, none⟩ v gt G.b).trans h.t, (Below.heap_setCell x ⟨go, 0, none⟩ v gf G.c).trans h.f⟩
theorem OI.set {w0 : World} {go gg gt gf : Nat} {x : World} {u v : Value} {l : List Int} (hc : cl x go 46 #[u]) (hr : Kd.R (Kd.int .i64) 3 x w0.heap.size (okO go gg gt gf) v l) : OI w0 go gg gt gf (x.setCell ⟨go, 0, none⟩ v) v l :=
  ⟨blk_put (cs := #[u]) hc 0 _ rfl, Kd.R_far hr (fun k hk => hk.1) _⟩
theorem TF.grown {w0 : World} {go gg gt gf : Nat} {W D : Int} {A : Option Addr} {c : Nat} {ks : List (List Int)} {to_ : ByteArray} {x y : World} {v : Value} {l : List Int} (h : TF w0 go gg gt gf W D A c ks to_ x) (ho : OI w0 go gg gt gf x v l) (hb : Below w0.heap.size w0 y) (hg : x.grownBy y v.ownBlock) : TF w0 go gg gt gf W D A c ks to_ y ∧ cl y go 46 #[v] := by
  have key : ∀ k, (k = go ∨ k = gg ∨ k = gt ∨ k = gf) → some k ≠ v.ownBlock := by
    intro k hk e
    have := ho.r.1 k e.symm
    unfold okO at this
    omega
  exact ⟨⟨hb, (hg.block gg (blk_lt h.g) (key _ (by simp))).trans h.g, (hg.block gt (blk_lt h.t) (key _ (by simp))).trans h.t, (hg.block gf (blk_lt h.f) (key _ (by simp))).trans h.f⟩, (hg.block go (blk_lt ho.c) (key _ (by simp))).trans ho.c⟩
theorem ifopq {V : World → Prop} {J : World → Prop} {D A : Code} {id t N : Nat} {ops : Array Oper} {Q : Exit → Act → World → Prop} {w : World} {l : List Value} (e : D = .seq (.region id ops true) (.cond (.tmp t) A .skip)) (hV : V w.drew) (hm : Try.prog.follows .mixedOrders = true) (hn : ops.size = N) (hl : Array.replicate N false = bn N 0) (h : ∀ S : Act → World → Prop, (∀ l' L' w' b, Fr J l' L' → evO L' (.tmp t) = some (.bool b) → (b = true → A.wp Try.prog Q ⟨l'.toArray, []⟩ w') → (b = false → Q .normal ⟨l'.toArray, []⟩ w') → S ⟨l'.toArray, []⟩ w') → wpAnyLast Try.prog .any ops (Exit.then S Q) V [] N (bn N 0) ⟨l.toArray, []⟩ w.drew) : D.wp Try.prog Q ⟨l.toArray, []⟩ w := by
  rw [e]
  refine wp_seq (start_ (S := V) (ds := []) (bn N 0) hm hn hl hV fun _ => h _ fun l' L' w' b hF ht k1 k2 => ?_)
  exact wp_cond_split (hF.eval ht) k1 (fun hb => wp_skip (k2 hb))
theorem run_bs1 (n : Int) (w : World) : (Instr.buildSlice 46 1 #[(0, .int .i64 n)]).run Try.prog w = .ok (.slice (some ⟨w.heap.size, 0, none⟩) 1 1) (w.alloc (.cells #[.int .i64 n] 3 (0, 0))) := by
  have hu46 := Try.underlying46
  go_simp
theorem run_cut {A : Option Addr} {n c j : Nat} (h : j ≤ n) (hc : n ≤ c) (w : World) : (Instr.sliceAt 46 (.slice A n c) none (some (.int .i64 (j : Int))) none).run Try.prog w = .ok (.slice A j c) w := by
  obtain ⟨i3, hi3, _⟩ := Option.map_eq_some_iff.1 info3
  have e5 : Try.prog.underlying 46 = some (.slice (Try.prog.elem 46)) := by
    have e : Try.prog.elem 46 = 3 := by simp [Program.elem, Try.underlying46]
    rw [e]; exact Try.underlying46
  have := cut_to (P := Try.prog) 46 3 .i64 Try.underlying46 hi3 A n c (j : Int) (by omega) (by omega) hc w
  rw [run_sliceAt_slice w 46 _ _ _ _ e5]
  exact this
def lp70 (f : Func) : Code := bb (bb (rr (ll (nth 3 (fb f)))))
variable {w0 : World} {go gg gt gf : Nat} {W D : Int} {A : Option Addr} {c : Nat} {ks : List (List Int)} {to_ : ByteArray}
/-- What find promises. -/
def FindC (w0 : World) (go gg gt gf : Nat) (W D : Int) (A : Option Addr) (c : Nat) (ks : List (List Int)) (to_ : ByteArray) (k : Nat) : Prop :=
  ∀ (code : ByteArray) (pre post : List Int) (res : Bool) (v : Value) (w : World), impl_TimesFor.l0 k W D ks to_ code pre = some (res, post) → TF w0 go gg gt gf W D A c ks to_ w → OI w0 go gg gt gf w v pre →
    Calls Try.prog 70 (#[.string code] ++ capsOf go gg gt gf) w fun e w' => e = .returned (.bool res) ∧ TF w0 go gg gt gf W D A c ks to_ w' ∧ ∃ v', OI w0 go gg gt gf w' v' post
def LB (go gg gt gf : Nat) (W D : Int) (A : Option Addr) (c : Nat) (ks : List (List Int)) (to_ code : ByteArray) (m : Nat) : List (Nat × Value) := [(0, .string code), (1, .pointer (some ⟨go, 0, none⟩)), (2, .pointer (some ⟨gg, 0, none⟩)), (3, .pointer (some ⟨gt, 0, none⟩)), (4, .pointer (some ⟨gf, 0, none⟩)), (31002, .agg #[.int .i64 W, .int .i64 D, .slice A ks.length c]), (9003, .string to_), (82004, .func (.func 70) #[] (capsOf go gg gt gf)), (7, .int .i64 (m : Int))]
theorem find_loop (G : Gs w0 go gg gt gf) (hC0 : Kd.C (Kd.slice 3 (Kd.int .i64)) w0 A ks.length ks) (hc : ks.length ≤ c) {R : Ending → World → Prop} {K : Act → World → Prop} {Q : Exit → Act → World → Prop} {code : ByteArray} {post : List Int} {res : Bool} {m : Nat}
    (hQ : ∀ a w, bodyPost Try.prog Try.f70 R .ret a w → Q .ret a w) (hQp : ∀ (c : List PanicEntry) (a : Act) (N : Option Tmp) (v : Value) (w : World), Q (.panic c) (a.put N v) w → Q (.panic c) a w)
    (hR : ∀ x v', TF w0 go gg gt gf W D A c ks to_ x → OI w0 go gg gt gf x v' post → R (.returned (.bool res)) x)
    (hK : res = false → ∀ l x v', Fr (TF w0 go gg gt gf W D A c ks to_) l [] → TF w0 go gg gt gf W D A c ks to_ x → OI w0 go gg gt gf x v' post → K ⟨l.toArray, []⟩ x) :
    ∀ (k : Nat), (∀ m, m < k → FindC w0 go gg gt gf W D A c ks to_ m) → ∀ (n : Int) (pre : List Int) (l : List Value) (x : World) (v : Value), pre.length = m → Fr (TF w0 go gg gt gf W D A c ks to_) l ((21, .int .i64 D) :: (22, .int .i64 n) :: LB go gg gt gf W D A c ks to_ code m) → impl_TimesFor.l1 k W D ks to_ code pre n = some (res, post) → TF w0 go gg gt gf W D A c ks to_ x → OI w0 go gg gt gf x v pre → Code.rounds Try.prog (lp70 Try.f70) (Exit.inBlock 0 (Exit.then K Q)) k ⟨l.toArray, []⟩ x := by
  intro k
  induction k with
  | zero => intro _ n pre l x v _ hF h; simp [impl_TimesFor.l1] at h
  | succ k ih =>
    intro IH n pre l x v hm hF h hJ hO
    rw [← hm] at hF
    unfold impl_TimesFor.l1 at h
    refine loph 1 hF hJ rfl rfl rfl rfl rfl (fun hb l hF => ?_) (fun hb l hF => ?_)
    · rw [if_neg (of_decide_eq_false hb)] at h
      obtain ⟨e1, e2⟩ := Prod.mk.inj (Option.some.inj h)
      exact hK e1.symm l x v hF.nil hJ (e2 ▸ hO)
    · rw [if_pos (of_decide_eq_true hb)] at h
      by_cases hl : pre.length < 17592186044416
      · rw [if_pos hl] at h
        obtain ⟨c2, h1, h⟩ := Option.bind_eq_some_iff.mp h
        obtain ⟨⟨b, q⟩, h2, h⟩ := Option.bind_eq_some_iff.mp h; dsimp only at h
        obtain ⟨Ao, co, rfl⟩ := Kd.R_slice hO.r
        refine sq2 rfl (blk1 rfl (dst rfl rfl (runE 2 hF hJ rfl fun l hF => (?_ : (rr _).wp _ _ _ _))))
        -- out = append(out, n)
        refine dst rfl rfl ?_
        refine one1 25 rfl rfl rfl hF (v := .slice Ao pre.length co) (w1 := x) (by have := hO.c.load1 (t' := 46) (i := 0) (by simp) rfl; simp only [execOp, hF.eval (x := .tmp 1) rfl]; simp [this]) fun l hF => ?_
        refine run_ 1 rfl hF hJ fun l hF => ?_
        refine one1 27 rfl rfl rfl hF (v := .slice (some ⟨x.heap.size, 0, none⟩) 1 1) (w1 := x.alloc (.cells #[.int .i64 n] 3 (0, 0))) (by have := run_bs1 n x; have e := hF.eval (x := .tmp 26) rfl; unfold execOp; simp [e, this]) fun l hF => ?_
        refine Kd.R_append (Kd.int .i64) (w0 := w0) w0.heap.size rfl (.tmp 25) (.tmp 27) 46 3 (.int .i64 0) 8 rfl Try.underlying46 info3 rfl (by decide) (by omega) (.slice Ao pre.length co) pre n [.int .i64 n] (okO go gg gt gf) (fun _ => False) (hF.eval rfl) (hF.eval rfl) rfl (fun _ hk => hk.elim) (fun k hk => ⟨by have := blk_lt hO.c; omega, by have := blk_lt hJ.g; omega, by have := blk_lt hJ.t; omega, by have := blk_lt hJ.f; omega⟩) hO.r hJ.b (by have := G.o; have := blk_lt hO.c; omega) (by omega) fun v1 x1 hr1 hb1 hg1 _ => ?_
        obtain ⟨J1, c1⟩ := hJ.grown hO hb1 hg1
        obtain ⟨A1, q1, rfl⟩ := Kd.R_slice hr1
        rw [put_set]
        replace hF := hF.put (d := 28) rfl (.slice A1 (pre ++ [n]).length q1)
        generalize l.set 28 (.slice A1 (pre ++ [n]).length q1) = l at hF ⊢
        refine stor hF rfl rfl c1.store46 (wpList_nil (?_ : (rr _).wp _ _ _ _))
        replace hJ := J1.set G (.slice A1 (pre ++ [n]).length q1)
        replace hO := OI.set c1 hr1
        generalize x1.setCell ⟨go, 0, none⟩ (.slice A1 (pre ++ [n]).length q1) = x1 at hJ hO ⊢
        -- if find(..) { return true }
        refine sq2 rfl ?_
        refine ifopq (J := TF w0 go gg gt gf W D A c ks to_) (V := TF w0 go gg gt gf W D A c ks to_) (N := 7) (A := bb (rr (ll (nth 2 (bb (ll (nth 2 (lp70 Try.f70)))))))) rfl (TF.stb _ _ hJ (below_drew1 (Below.refl _ _))) (by kernel_rfl) rfl rfl fun S kS => ?_
        replace hO := hO.below (below_drew1 (Below.refl _ _))
        replace hJ := TF.stb _ _ hJ (below_drew1 (Below.refl _ _))
        refine anys (fun _ h => h) 5 0 rfl (B := []) (by kernel_rfl) (fun c a N v w h => hQp c a N v w h) hF hJ (by kernel_rfl) rfl fun l hF => ?_
        refine callAR 5 (bn 7 6) rfl hF Try.func65 rfl (by kernel_rfl) rfl rfl rfl rfl (by kernel_rfl) rfl rfl (impl_Gears_turned.calls k W D A c ks code _ _ _ _ (Kd.C_below hC0 hJ.b) hc h1) fun e x2 hh => ?_
        obtain ⟨rfl, hb2⟩ := hh
        refine ⟨_, rfl, TF.stb _ _ hJ hb2, fun l hF => ?_⟩
        replace hO := hO.below hb2
        replace hJ := TF.stb _ _ hJ hb2
        refine callAV 6 (bn 7 7) rfl hF Try.func70 rfl (by kernel_rfl) rfl rfl rfl rfl (by kernel_rfl) rfl rfl rfl (IH k (by omega) c2 (pre ++ [n]) q b _ x2 h2 hJ hO) fun e x3 hh => ?_
        obtain ⟨rfl, J3, v3, O3⟩ := hh
        refine ⟨_, rfl, J3, fun l hF => done_ (by kernel_rfl) ?_⟩
        refine kS l _ x3 b hF rfl (fun hb => ?_) (fun hb => (?_ : (rr _).wp _ _ _ _))
        · rw [if_pos hb] at h
          obtain ⟨e1, rfl⟩ := Prod.mk.inj (Option.some.inj h)
          exact retst 1 rfl hF J3 rfl rfl rfl (fun a w h => hQ a w h) (by rw [e1]; exact hR x3 v3 J3 O3)
        · rw [if_neg (by rw [hb]; decide)] at h
          by_cases hle : pre.length ≤ q.length
          · rw [if_pos hle] at h
            obtain ⟨A3, q3, rfl⟩ := Kd.R_slice O3.r
            have hq3 := (Kd.R_reads' O3.r).2.1
            refine reg_ rfl ?_
            refine one1 36 rfl rfl rfl hF (v := .slice A3 q.length q3) (w1 := x3) (by have := O3.c.load1 (t' := 46) (i := 0) (by simp) rfl; simp only [execOp, hF.eval (x := .tmp 1) rfl]; simp [this]) fun l hF => ?_
            refine run_ 1 rfl hF J3 fun l hF => ?_
            refine one1 38 rfl rfl rfl hF (v := .slice A3 pre.length q3) (w1 := x3) (by have := run_cut (A := A3) hle hq3 x3; have e1 := hF.eval (x := .tmp 36) rfl; have e2 := hF.eval (x := .tmp 37) rfl; unfold execOp; simp [e1, e2, this]) fun l hF => ?_
            refine stor hF rfl rfl O3.c.store46 (wpList_nil (?_ : (rr _).wp _ _ _ _))
            have hr4 := Kd.R_take O3.r hle
            have e4 : (q.take pre.length).length = pre.length := by rw [List.length_take]; omega
            replace hJ := J3.set G (.slice A3 pre.length q3)
            replace hO : OI w0 go gg gt gf _ (.slice A3 pre.length q3) (q.take pre.length) := OI.set O3.c hr4
            generalize x3.setCell ⟨go, 0, none⟩ (.slice A3 pre.length q3) = x4 at hJ hO ⊢
            refine reg_ rfl (runE 2 hF hJ rfl fun l hF => ?_)
            exact ih (fun m hm => IH m (by omega)) _ _ l x4 _ (e4.trans hm) (by rw [← hm]; exact hF.sel rfl) h hJ hO
          · rw [if_neg hle] at h; exact absurd h (by simp)
      · rw [if_neg hl] at h; exact absurd h (by simp)
theorem find_calls (G : Gs w0 go gg gt gf) (hC0 : Kd.C (Kd.slice 3 (Kd.int .i64)) w0 A ks.length ks) (hc : ks.length ≤ c) : ∀ k, FindC w0 go gg gt gf W D A c ks to_ k := by
  intro k
  induction k using Nat.strongRecOn with
  | ind k IH =>
  cases k with
  | zero => intro code pre post res v w h; simp [impl_TimesFor.l0] at h
  | succ k =>
  intro code pre post res v w h hJ hO
  unfold impl_TimesFor.l0 at h
  obtain ⟨Ao, co, rfl⟩ := Kd.R_slice hO.r
  unfold capsOf ptr
  show Calls Try.prog 70 #[.string code, .pointer (some ⟨go, 0, none⟩), .pointer (some ⟨gg, 0, none⟩), .pointer (some ⟨gt, 0, none⟩), .pointer (some ⟨gf, 0, none⟩)] w _
  go_enter Try.func70, Try.ntmps70
  have key : ∀ l : List Value, l.length = 40 → l[0]? = some (.string code) → l[1]? = some (.pointer (some ⟨go, 0, none⟩)) → l[2]? = some (.pointer (some ⟨gg, 0, none⟩)) → l[3]? = some (.pointer (some ⟨gt, 0, none⟩)) → l[4]? = some (.pointer (some ⟨gf, 0, none⟩)) → (nth 0 (fb Try.f70)).wp Try.prog (bodyPost Try.prog Try.f70 fun e w' => e = .returned (.bool res) ∧ TF w0 go gg gt gf W D A c ks to_ w' ∧ ∃ v', OI w0 go gg gt gf w' v' post) ⟨l.toArray, []⟩ w := by
    intro l hn h0 h1 h2 h3 h4
    have hF : Fr (TF w0 go gg gt gf W D A c ks to_) l [(0, .string code), (1, .pointer (some ⟨go, 0, none⟩)), (2, .pointer (some ⟨gg, 0, none⟩)), (3, .pointer (some ⟨gt, 0, none⟩)), (4, .pointer (some ⟨gf, 0, none⟩))] :=
      Fr.of hn (by intro p hp; simp at hp; rcases hp with rfl | rfl | rfl | rfl | rfl <;> exact ⟨Nat.le_of_ble_eq_true rfl, by assumption⟩)
    have hF := ((hF.ld 31 2 (by decide) rfl (by decide) fun w h => h.g.load3 (.inr rfl)).ld 9 3 (v := .string to_) (by decide) rfl (by decide) fun w h => h.t.load1 (by simp) rfl).ld 82 4 (v := .func (.func 70) #[] (capsOf go gg gt gf)) (by decide) rfl (by decide) fun w h => h.f.load1 (by simp) rfl
    refine dst rfl rfl (runE 1 hF hJ rfl fun l hF => (?_ : (rr _).wp _ _ _ _))
    refine dst rfl rfl (one1 9 rfl rfl rfl hF (v := .slice Ao pre.length co) (w1 := w) (by have := hO.c.load1 (t' := 46) (i := 0) (by simp) rfl; simp only [execOp, hF.eval (x := .tmp 1) rfl]; simp [this]) fun l hF => runE 2 hF hJ rfl fun l hF => (?_ : (rr _).wp _ _ _ _))
    refine ifop (J := TF w0 go gg gt gf W D A c ks to_) (A := bb (rr (ll (nth 2 (fb Try.f70))))) rfl rfl fun S kS => ?_
    refine run_ 1 rfl hF hJ fun l hF => ?_
    refine one1 12 rfl rfl rfl hF (v := .pointer (some ⟨gg, 2, none⟩)) (w1 := w) (by have := run_fld (t := 31) (i := 1) (o := 2) (by simp) gg w; simp only [execOp, hF.eval (x := .tmp 2) rfl]; simp [this]) fun l hF => ?_
    refine one1 13 rfl rfl rfl hF (v := .slice A ks.length c) (w1 := w) (by have := hJ.g.load1 (t' := 24) (i := 2) (by simp) rfl; simp only [execOp, hF.eval (x := .tmp 12) rfl]; simp [this]) fun l hF => ?_
    refine runE 2 hF hJ rfl fun l hF => ?_
    refine kS l _ ((pre.length : Int) == (ks.length : Int)) hF rfl (fun hb => ?_) (fun hb => ?_)
    · rw [if_pos hb] at h
      obtain ⟨e1, e2⟩ := Prod.mk.inj (Option.some.inj h)
      exact retst (fn := Try.f70) (rs := 6) (R := fun e w' => e = .returned (.bool res) ∧ TF w0 go gg gt gf W D A c ks to_ w' ∧ ∃ v', OI w0 go gg gt gf w' v' post) 4 rfl hF hJ rfl rfl rfl (fun _ _ h => h) (by exact ⟨by rw [e1], hJ, _, e2 ▸ hO⟩)
    · rw [if_neg (by rw [hb]; decide)] at h
      refine sq2 rfl (dst rfl rfl ?_)
      refine one1 19 rfl rfl rfl hF (v := .pointer (some ⟨gg, 0, none⟩)) (w1 := w) (by have := run_fld (t := 31) (i := 0) (o := 0) (by simp) gg w; simp only [execOp, hF.eval (x := .tmp 2) rfl]; simp [this]) fun l hF => ?_
      refine one1 20 rfl rfl rfl hF (v := .pointer (some ⟨gg, 1, none⟩)) (w1 := w) (by have := run_fld (t := 29) (i := 1) (o := 1) (by simp) gg w; simp only [execOp, hF.eval (x := .tmp 19) rfl]; simp [this]) fun l hF => ?_
      refine one1 21 rfl rfl rfl hF (v := .int .i64 D) (w1 := w) (by have := hJ.g.load1 (t' := 3) (i := 1) (by simp) rfl; simp only [execOp, hF.eval (x := .tmp 20) rfl]; simp [this]) fun l hF => ?_
      refine runE 1 hF hJ rfl fun l hF => (?_ : (rr _).wp _ _ _ _)
      refine blkl (lp := lp70 Try.f70) rfl (find_loop (R := fun e w' => e = .returned (.bool res) ∧ TF w0 go gg gt gf W D A c ks to_ w' ∧ ∃ v', OI w0 go gg gt gf w' v' post) G hC0 hc ?_ ?_ ?_ ?_ k (fun m hm => IH m (by omega)) 0 pre l w _ rfl (hF.sel rfl) h hJ hO)
      · exact fun a w h => h
      · exact fun c a N v w h => by cases N <;> exact h
      · exact fun x v' h1 h2 => ⟨rfl, h1, v', h2⟩
      · intro e l x v' hF hJ hO
        exact retst (fn := Try.f70) (rs := 6) (R := fun e w' => e = .returned (.bool res) ∧ TF w0 go gg gt gf W D A c ks to_ w' ∧ ∃ v', OI w0 go gg gt gf w' v' post) 1 rfl hF hJ rfl rfl rfl (fun _ _ h => h) (by exact ⟨by rw [e], hJ, v', hO⟩)
  exact key _ rfl rfl rfl rfl rfl rfl
end Go.Proofs.Ytffjfnoocbgajaa.M
namespace Go.Proofs.Ytffjfnoocbgajaa.M
open Go.RowKit Go.Proofs.YtffjfnoocbgajaaW.PrintWords Go.Proofs.YtffjfnoocbgajaaW.PrintLast Go.Proofs.YtffjfnoocbgajaaW.PrintMore
set_option maxRecDepth 100000
set_option maxHeartbeats 4000000
set_option linter.unusedVariables false
section
variable [Sz] {J : World → Prop} {ops : Array Oper} {Q : Exit → Act → World → Prop} {w : World} {l : List Value} {L L1 : List (Nat × Value)}
/-- A block is made. -/
theorem mkb (d : Nat) {o : Oper} {rest : List Oper} {t : TypeId} {cs : Array Value} (hd : o.dst = some d) (hw : want ops L o = some true) (hlt : nol L d = true) (hF : Fr J l L) (hr : (execOp (⟨l.toArray, []⟩ : Act).eval o).run Try.prog w = .ok (.value (.pointer (some ⟨w.heap.size, 0, none⟩))) (w.alloc (.cells cs t (0, 0)))) (k : ∀ l' w' g, w.heap.size = g → g < w'.heap.size → cl w' g t cs → Below w.heap.size w w' → Fr J l' ((d, .pointer (some ⟨g, 0, none⟩)) :: L) → wpList Try.prog ops Q rest ⟨l'.toArray, []⟩ w') : wpList Try.prog ops Q (o :: rest) ⟨l.toArray, []⟩ w :=
  one1 d hd hw hlt hF hr fun l' h => k l' _ _ rfl (blk_lt (blk_new w _)) (blk_new w _) (below_alloc (Below.refl _ _) _) h
/-- 'return' of two results. -/
theorem retst2 (n : Nat) {A : Code} {id : Nat} {R : Ending → World → Prop} {va vb : Value} {fn : Func} {ra rb : Nat} (hfn : fn.results = #[.tmp ra, .tmp rb]) (hF : Fr J l L) (hJ : J w) (e : A = .seq (.region id ops false) .ret) (h : run ops n ops.toList L = some (L1, [])) (ha : evO L1 (.tmp ra) = some va) (hb : evO L1 (.tmp rb) = some vb) (hQ : ∀ a w, bodyPost Try.prog fn R .ret a w → Q .ret a w) (hR : R (.returned (.tuple #[va, vb])) w) : A.wp Try.prog Q ⟨l.toArray, []⟩ w := by
  rw [e]
  refine wp_seq (wp_region_list (run_ n h hF hJ fun l1 hF1 => wpList_nil (wp_ret (hQ _ _ (bodyPost_ret (results_tmp2 hfn _ _ _) rfl ?_)))))
  have h1 := hF1.eval ha
  have h2 := hF1.eval hb
  unfold Act.eval at h1 h2
  dsimp only at h1 h2
  rw [h1, h2]
  exact hR
/-- The same behind a region that was shown. -/
theorem ret2 {R : Ending → World → Prop} {va vb : Value} {fn : Func} {ra rb : Nat} (hfn : fn.results = #[.tmp ra, .tmp rb]) (hF : Fr J l L) (ha : evO L (.tmp ra) = some va) (hb : evO L (.tmp rb) = some vb) (hR : R (.returned (.tuple #[va, vb])) w) : (Code.ret).wp Try.prog (bodyPost Try.prog fn R) ⟨l.toArray, []⟩ w := by
  refine wp_ret (bodyPost_ret (results_tmp2 hfn _ _ _) rfl ?_)
  have h1 := hF.eval ha
  have h2 := hF.eval hb
  unfold Act.eval at h1 h2
  dsimp only at h1 h2
  rw [h1, h2]
  exact hR
/-- 'if', the region shown step by step (D: the statement alone). -/
theorem ifsd {D A : Code} {id t : Nat} (e : D = .seq (.region id ops false) (.cond (.tmp t) A .skip)) (h : ∀ S : Act → World → Prop, (∀ l' L' w' b, Fr J l' L' → evO L' (.tmp t) = some (.bool b) → (b = true → A.wp Try.prog Q ⟨l'.toArray, []⟩ w') → (b = false → Q .normal ⟨l'.toArray, []⟩ w') → S ⟨l'.toArray, []⟩ w') → wpList Try.prog ops (Exit.then S Q) ops.toList ⟨l.toArray, []⟩ w) : D.wp Try.prog Q ⟨l.toArray, []⟩ w := by
  rw [e]
  refine wp_seq (wp_region_list (h _ fun l' L' w' b hF ht k1 k2 => ?_))
  exact wp_cond_split (hF.eval ht) k1 (fun hb => wp_skip (k2 hb))
end
instance sz33 : Sz := ⟨23, by decide⟩
def TT : World → Prop := fun _ => True
theorem impl_TimesFor.calls (k : Nat) (a0_0 : Int) (a0_1 : Int) (A0_2 : Option Addr) (c0_2 : Nat) (l0_2 : List (List Int)) (a1 : ByteArray) (a2 : ByteArray) (r1 : List Int) (r2 : Bool) (w : World) (hr0_2 : Kd.C (Kd.slice 3 (Kd.int .i64)) w A0_2 l0_2.length l0_2) (hc0_2 : l0_2.length ≤ c0_2) (h : impl_TimesFor.f k a0_0 a0_1 l0_2 a1 a2 = some (r1, r2)) :
    Calls Try.prog 33 #[.agg #[.int .i64 a0_0, .int .i64 a0_1, .slice A0_2 l0_2.length c0_2], .string a1, .string a2] w fun e w' => ∃ v0_ : Value, e = .returned (.tuple #[v0_, .bool r2]) ∧ Kd.R (Kd.int .i64) 3 w' w.heap.size (fun _ => True) v0_ r1 ∧ Below w.heap.size w w' := by
  unfold impl_TimesFor.f at h
  obtain ⟨b, hb, h⟩ := Option.bind_eq_some_iff.mp h
  go_enter Try.func33, Try.ntmps33
  have key : ∀ l : List Value, l.length = 23 → l[0]? = some (.agg #[.int .i64 a0_0, .int .i64 a0_1, .slice A0_2 l0_2.length c0_2]) → l[1]? = some (.string a1) → l[2]? = some (.string a2) → (nth 0 (fb Try.f33)).wp Try.prog (bodyPost Try.prog Try.f33 fun e w' => ∃ v0_ : Value, e = .returned (.tuple #[v0_, .bool r2]) ∧ Kd.R (Kd.int .i64) 3 w' w.heap.size (fun _ => True) v0_ r1 ∧ Below w.heap.size w w') ⟨l.toArray, []⟩ w := by
    intro l hn h0 h1 h2
    have hF : Fr TT l [(0, .agg #[.int .i64 a0_0, .int .i64 a0_1, .slice A0_2 l0_2.length c0_2]), (1, .string a1), (2, .string a2)] :=
      Fr.of hn (by intro p hp; simp at hp; rcases hp with rfl | rfl | rfl <;> exact ⟨Nat.le_of_ble_eq_true rfl, by assumption⟩)
    refine dst rfl rfl ?_
    refine mkb 3 rfl rfl rfl hF (t := 31) (cs := #[.int .i64 a0_0, .int .i64 a0_1, .slice A0_2 l0_2.length c0_2]) (by have := run_box3 (.inr rfl) w a0_0 a0_1 (.slice A0_2 l0_2.length c0_2) rfl; simp only [execOp, hF.eval (x := .tmp 0) rfl]; simp [this]) fun l w1 gg s1 z1 kg B1 hF => ?_
    refine mkb 5 rfl rfl rfl hF (t := 9) (cs := #[.string a2]) (by have := run_box9 w1 a2; simp only [execOp, hF.eval (x := .tmp 2) rfl]; simp [this]) fun l w2 gt s2 z2 kt B2 hF => ?_
    replace kg := kg.below B2
    have B := below_step B1 B2
    refine runE 2 hF trivial rfl fun l hF => (?_ : (rr _).wp _ _ _ _)
    refine sq2 rfl (ifsd (J := TT) (A := bb (rr (ll (nth 1 (fb Try.f33))))) rfl fun S kS => ?_)
    refine one1 10 rfl rfl rfl hF (v := .agg #[.int .i64 a0_0, .int .i64 a0_1, .slice A0_2 l0_2.length c0_2]) (w1 := w2) (by have := kg.load3 (.inr rfl); simp only [execOp, hF.eval (x := .tmp 3) rfl]; simp [this]) fun l hF => run_ 1 rfl hF trivial fun l hF => ?_
    refine one1 12 rfl rfl rfl hF (v := .string a2) (w1 := w2) (by have := kt.load1 (t' := 9) (i := 0) (by simp) rfl; simp only [execOp, hF.eval (x := .tmp 5) rfl]; simp [this]) fun l hF => ?_
    refine Kd.R_lit Kd.string (w0 := w2) w2.heap.size 9 rfl (N := 13) rfl (xs := [a1, a2]) (inner := [.string a1, .string a2]) (ok := fun _ => True) (okp := fun _ => True) (by have hu96 := Try.underlying96; have e1 := hF.eval (x := .tmp 11) rfl; have e2 := hF.eval (x := .tmp 12) rfl; unfold execOp; simp only [List.map_toArray, List.map_cons, List.map_nil, e1, e2]; go_simp) (Reps.one (show Kd.M Kd.string _ _ _ a1 [.string a1] from rfl) (Reps.one (show Kd.M Kd.string _ _ _ a2 [.string a2] from rfl) (Reps.none _ _))) (fun _ hk => hk) trivial (Below.refl _ _) (Nat.le_refl _) (by simp) fun v1 w3 hr1 B3 _ _ => ?_
    obtain ⟨A1, q1, rfl⟩ := Kd.R_slice hr1
    have hc1 := (Kd.R_reads' hr1).2.2
    have hq1 := (Kd.R_reads' hr1).2.1
    rw [put_set]
    replace hF := hF.put (d := 13) rfl (.slice A1 [a1, a2].length q1)
    generalize l.set 13 (.slice A1 [a1, a2].length q1) = l at hF ⊢
    replace kg := kg.below B3
    replace kt := kt.below B3
    replace B := below_step B B3
    refine callR Try.func63 rfl rfl rfl rfl (by kernel_rfl) rfl hF rfl (impl_geared.calls k a0_0 a0_1 A0_2 c0_2 l0_2 A1 q1 [a1, a2] b w3 (Kd.C_below hr0_2 B) hc0_2 hc1 hq1 hb) fun e w4 hh => ?_
    obtain ⟨rfl, B4⟩ := hh
    refine ⟨_, rfl, fun l hF => ?_⟩
    replace kg := kg.below B4
    replace kt := kt.below B4
    replace B := below_step B B4
    refine runE 1 hF trivial rfl fun l hF => ?_
    refine kS l _ w4 (!b) hF rfl (fun hb => ?_) (fun hb => (?_ : (rr _).wp _ _ _ _))
    · rw [if_pos hb] at h
      obtain ⟨rfl, rfl⟩ := Prod.mk.inj (Option.some.inj h)
      exact retst2 (fn := Try.f33) (ra := 6) (rb := 7) (R := fun e w' => ∃ v0_ : Value, e = .returned (.tuple #[v0_, .bool false]) ∧ Kd.R (Kd.int .i64) 3 w' w.heap.size (fun _ => True) v0_ [] ∧ Below w.heap.size w w') 2 rfl hF trivial rfl rfl rfl rfl (fun _ _ h => h) (by exact ⟨_, rfl, Kd.R_nil _ _ _ _ _, B⟩)
    · rw [if_neg (by rw [hb]; decide)] at h
      obtain ⟨⟨res, post⟩, h5, h⟩ := Option.bind_eq_some_iff.mp h; dsimp only at h
      refine dst rfl rfl ?_
      refine Kd.R_lit (Kd.int .i64) (w0 := w4) w4.heap.size 3 rfl (N := 16) rfl (xs := []) (inner := []) (ok := fun k => k ≠ gg ∧ k ≠ gt) (okp := fun _ => False) (by have hu46 := Try.underlying46; unfold execOp; go_simp) (Reps.none _ _) (fun _ hk => hk.elim) (by have := blk_lt kg; have := blk_lt kt; omega) (Below.refl _ _) (Nat.le_refl _) (by simp) fun v2 w5 hr2 B5 _ _ => ?_
      obtain ⟨A2, q2, rfl⟩ := Kd.R_slice hr2
      rw [put_set]
      replace hF := hF.put (d := 16) rfl (.slice A2 ([] : List Int).length q2)
      generalize l.set 16 (.slice A2 ([] : List Int).length q2) = l at hF ⊢
      replace kg := kg.below B5
      replace kt := kt.below B5
      have hs4 := below_size B
      replace B := below_step B B5
      have hr3 := Kd.R_mono (Kd.R_bound hr2) (ok' := fun k => k ≠ gg ∧ k ≠ gt ∧ k < w5.heap.size) (fun k hk => ⟨hk.1.1, hk.1.2, hk.2.2.1⟩)
      replace hr2 := Kd.R_lower hr3 hs4
      refine mkb 8 rfl rfl rfl hF (t := 46) (cs := #[.slice none 0 0]) (by have := run_alloc46 w5; simp only [execOp]; simp [this]) fun l w6 go s6 z6 ko B6 hF => ?_
      have hs5 := below_size B
      have ngo : gg ≠ go ∧ gt ≠ go := ⟨by have := blk_lt kg; omega, by have := blk_lt kt; omega⟩
      replace kg := kg.below B6
      replace kt := kt.below B6
      replace B := below_step B B6
      replace hr2 := Kd.R_below hr2 B6
      have hgo : w.heap.size ≤ go := by omega
      refine stor hF rfl rfl ko.store46 (wpList_nil (?_ : (rr _).wp _ _ _ _))
      replace kg : cl _ gg 31 _ := (Below.heap_setCell w6 ⟨go, 0, none⟩ (.slice A2 ([] : List Int).length q2) gg ngo.1).trans kg
      replace kt : cl _ gt 9 _ := (Below.heap_setCell w6 ⟨go, 0, none⟩ (.slice A2 ([] : List Int).length q2) gt ngo.2).trans kt
      replace hr2 := Kd.R_far hr2 (p := ⟨go, 0, none⟩) (fun k hk => by have := hk.2.2; show k ≠ go; omega) (.slice A2 ([] : List Int).length q2)
      replace ko : cl _ go 46 _ := blk_put (cs := #[.slice none 0 0]) ko 0 (.slice A2 ([] : List Int).length q2) rfl
      replace B := below_set (j := 0) (v := .slice A2 ([] : List Int).length q2) B hgo
      generalize w6.setCell ⟨go, 0, none⟩ (.slice A2 ([] : List Int).length q2) = w7 at kg kt hr2 ko B ⊢
      refine dst rfl rfl (mkb 9 rfl rfl rfl hF (t := 82) (cs := #[.nilFunc]) (by have := run_alloc82 w7; simp only [execOp]; simp [this]) fun l w8 gf s8 z8 kf B8 hF => wpList_nil (?_ : (rr _).wp _ _ _ _))
      have ngf : go ≠ gf ∧ gg ≠ gf ∧ gt ≠ gf ∧ w5.heap.size ≤ gf := ⟨by have := blk_lt ko; omega, by have := blk_lt kg; omega, by have := blk_lt kt; omega, by have := blk_lt ko; omega⟩
      have hgf : w.heap.size ≤ gf := by omega
      replace kg := kg.below B8
      replace kt := kt.below B8
      replace ko := ko.below B8
      replace B := below_step B B8
      replace hr2 := Kd.R_below hr2 B8
      refine dst rfl rfl (one1 17 rfl rfl rfl hF (v := .func (.func 70) #[] (capsOf go gg gt gf)) (w1 := w8) (by have e1 := hF.eval (x := .tmp 8) rfl; have e2 := hF.eval (x := .tmp 3) rfl; have e3 := hF.eval (x := .tmp 5) rfl; have e4 := hF.eval (x := .tmp 9) rfl; unfold execOp; simp [e1, e2, e3, e4, Instr.makeFunc, capsOf, ptr]) fun l hF => stor hF rfl rfl kf.store82 (wpList_nil (?_ : (rr _).wp _ _ _ _)))
      replace kg : cl _ gg 31 _ := (Below.heap_setCell w8 ⟨gf, 0, none⟩ (.func (.func 70) #[] (capsOf go gg gt gf)) gg ngf.2.1).trans kg
      replace kt : cl _ gt 9 _ := (Below.heap_setCell w8 ⟨gf, 0, none⟩ (.func (.func 70) #[] (capsOf go gg gt gf)) gt ngf.2.2.1).trans kt
      replace ko : cl _ go 46 _ := (Below.heap_setCell w8 ⟨gf, 0, none⟩ (.func (.func 70) #[] (capsOf go gg gt gf)) go ngf.1).trans ko
      replace hr2 := Kd.R_far hr2 (p := ⟨gf, 0, none⟩) (fun k hk => by have := hk.2.2; show k ≠ gf; omega) (.func (.func 70) #[] (capsOf go gg gt gf))
      replace kf : cl _ gf 82 _ := blk_put (cs := #[.nilFunc]) kf 0 (.func (.func 70) #[] (capsOf go gg gt gf)) rfl
      replace B := below_set (j := 0) (v := .func (.func 70) #[] (capsOf go gg gt gf)) B hgf
      generalize w8.setCell ⟨gf, 0, none⟩ (.func (.func 70) #[] (capsOf go gg gt gf)) = w9 at kg kt hr2 ko kf B ⊢
      have G : Gs w go gg gt gf := ⟨hgo, ngo.1, ngo.2, fun e => ngf.1 e.symm⟩
      have hT : TF w go gg gt gf a0_0 a0_1 A0_2 c0_2 l0_2 a2 w9 := ⟨B, kg, kt, kf⟩
      have hO : OI w go gg gt gf w9 (.slice A2 ([] : List Int).length q2) [] := ⟨ko, Kd.R_mono hr2 fun k hk => ⟨by have := hk.2.2; omega, hk.1, hk.2.1, by have := hk.2.2; omega⟩⟩
      refine sq2 rfl (ifsd (J := TT) (A := bb (rr (ll (nth 5 (fb Try.f33))))) rfl fun S kS => ?_)
      refine one1 18 rfl rfl rfl hF (v := .func (.func 70) #[] (capsOf go gg gt gf)) (w1 := w9) (by have := kf.load1 (t' := 82) (i := 0) (by simp) rfl; simp only [execOp, hF.eval (x := .tmp 9) rfl]; simp [this]) fun l hF => run_ 1 rfl hF trivial fun l hF => ?_
      refine callV Try.func70 rfl rfl rfl rfl (by kernel_rfl) rfl hF rfl rfl (find_calls G hr0_2 hc0_2 k a1 [] post res _ w9 h5 hT hO) fun e w10 hh => ?_
      obtain ⟨rfl, hT2, v3, hO2⟩ := hh
      obtain ⟨A3, q3, rfl⟩ := Kd.R_slice hO2.r
      refine ⟨_, rfl, fun l hF => runE 1 hF trivial rfl fun l hF => ?_⟩
      refine kS l _ w10 (!res) hF rfl (fun hb => ?_) (fun hb => (?_ : (rr _).wp _ _ _ _))
      · rw [if_pos hb] at h
        obtain ⟨rfl, rfl⟩ := Prod.mk.inj (Option.some.inj h)
        exact retst2 (fn := Try.f33) (ra := 6) (rb := 7) (R := fun e w' => ∃ v0_ : Value, e = .returned (.tuple #[v0_, .bool false]) ∧ Kd.R (Kd.int .i64) 3 w' w.heap.size (fun _ => True) v0_ [] ∧ Below w.heap.size w w') 2 rfl hF trivial rfl rfl rfl rfl (fun _ _ h => h) (by exact ⟨_, rfl, Kd.R_nil _ _ _ _ _, hT2.b⟩)
      · rw [if_neg (by rw [hb]; decide)] at h
        obtain ⟨rfl, rfl⟩ := Prod.mk.inj (Option.some.inj h)
        refine dst rfl rfl (one1 22 rfl rfl rfl hF (v := .slice A3 post.length q3) (w1 := w10) (by have := hO2.c.load1 (t' := 46) (i := 0) (by simp) rfl; simp only [execOp, hF.eval (x := .tmp 8) rfl]; simp [this]) fun l hF => runE 2 hF trivial rfl fun l hF => (?_ : (rr _).wp _ _ _ _))
        exact ret2 (fn := Try.f33) (ra := 6) (rb := 7) rfl hF rfl rfl ⟨_, rfl, Kd.R_mono hO2.r (fun _ _ => True.intro), hT2.b⟩
  exact key _ rfl rfl rfl rfl
end Go.Proofs.Ytffjfnoocbgajaa.M
namespace Go.Proofs.Ytffjfnoocbgajaa.M
open Go.RowKit Go.Proofs.YtffjfnoocbgajaaW.PrintWords Go.Proofs.YtffjfnoocbgajaaW.PrintLast Go.Proofs.YtffjfnoocbgajaaW.PrintMore
set_option maxRecDepth 100000
set_option maxHeartbeats 4000000
set_option linter.unusedVariables false
set_option linter.unusedSectionVars false
set_option linter.unusedSimpArgs false
section
variable [Sz] {J : World → Prop} {ops : Array Oper} {Q : Exit → Act → World → Prop} {w : World} {l : List Value} {L L1 : List (Nat × Value)}
/-- 'return' of two results behind a region in open order. -/
theorem reto2 {V : World → Prop} {A : Code} {id N : Nat} {R : Ending → World → Prop} {fn : Func} {ra rb : Nat} (hfn : fn.results = #[.tmp ra, .tmp rb]) (e : A = .seq (.region id ops true) .ret) (hV : V w.drew) (hm : Try.prog.follows .mixedOrders = true) (hn : ops.size = N) (hl : Array.replicate N false = bn N 0) (hQ : ∀ a w, bodyPost Try.prog fn R .ret a w → Q .ret a w) (h : ∀ S : Act → World → Prop, (∀ l' L' w' va vb, Fr J l' L' → evO L' (.tmp ra) = some va → evO L' (.tmp rb) = some vb → R (.returned (.tuple #[va, vb])) w' → S ⟨l'.toArray, []⟩ w') → wpAnyLast Try.prog .any ops (Exit.then S Q) V [] N (bn N 0) ⟨l.toArray, []⟩ w.drew) : A.wp Try.prog Q ⟨l.toArray, []⟩ w := by
  rw [e]
  refine wp_seq (start_ (S := V) (ds := []) (bn N 0) hm hn hl hV fun _ => h _ fun l' L' w' va vb hF ha hb hR => wp_ret (hQ _ _ (bodyPost_ret (results_tmp2 hfn _ _ _) rfl ?_)))
  have h1 := hF.eval ha
  have h2 := hF.eval hb
  unfold Act.eval at h1 h2
  dsimp only at h1 h2
  rw [h1, h2]
  exact hR
theorem ifopr {V : World → Prop} {J : World → Prop} {D A : Code} {id t N : Nat} {ops : Array Oper} {Q : Exit → Act → World → Prop} {w : World} {l : List Value} (e : D = .seq (.region id ops true) (.cond (.tmp t) A .skip)) (hV : V w.drew) (hm : Try.prog.follows .mixedOrders = true) (hn : ops.size = N) (hl : Array.replicate N false = bn N 0) (h : ∀ S : Act → World → Prop, (∀ l' L' w' b, Fr J l' L' → evO L' (.tmp t) = some (.bool b) → (b = true → A.wp Try.prog Q ⟨l'.toArray, []⟩ w') → (b = false → Q .normal ⟨l'.toArray, []⟩ w') → S ⟨l'.toArray, []⟩ w') → wpAnyLast Try.prog .any ops (Exit.then S Q) V [] N (bn N 0) ⟨l.toArray, []⟩ w.drew) : D.wp Try.prog Q ⟨l.toArray, []⟩ w := by
  rw [e]
  refine wp_seq (start_ (S := V) (ds := []) (bn N 0) hm hn hl hV fun _ => h _ fun l' L' w' b hF ht k1 k2 => ?_)
  exact wp_cond_split (hF.eval ht) k1 (fun hb => wp_skip (k2 hb))
/-- What follows of a region in open order, by a name. -/
theorem with_fin (n : Nat) (b' : Array Bool) {V : World → Prop} {fuel : Nat} {b : Array Bool} {a : Act} (h : ∀ F : List Value → World → Prop, (∀ l x, F l x → wpAnyLast Try.prog .any ops Q V [] n b' ⟨l.toArray, []⟩ x) → (∀ l x, wpAnyLast Try.prog .any ops Q V [] n b' ⟨l.toArray, []⟩ x → F l x) → wpAnyLast Try.prog .any ops Q V [] fuel b a w) : wpAnyLast Try.prog .any ops Q V [] fuel b a w := h _ (fun _ _ h => h) (fun _ _ h => h)
/-- A region in open order as a statement. -/
theorem dsto {V : World → Prop} {c : Code} {id N : Nat} (e : c = .seq (ll c) (rr c)) (er : ll c = .region id ops true) (hV : V w.drew) (hm : Try.prog.follows .mixedOrders = true) (hn : ops.size = N) (hl : Array.replicate N false = bn N 0) (h : wpAnyLast Try.prog .any ops (Exit.then ((rr c).wp Try.prog Q) Q) V [] N (bn N 0) ⟨l.toArray, []⟩ w.drew) : c.wp Try.prog Q ⟨l.toArray, []⟩ w := by
  rw [e]
  refine wp_seq ?_
  rw [er]
  exact start_ (S := V) (ds := []) (bn N 0) hm hn hl hV fun _ => h
/-- An operation in open order that yields a value in this world and may make memory. -/
theorem anyM (i d : Nat) {S : World → Prop} {T : Bool × List (List Nat × List Nat)} {fuel : Nat} {b : Array Bool} (b' : Array Bool) {o : Oper} {v : Value} {w1 : World} (hT : rtab .any ops = T) (hF : Fr J l L) (hi : ops[i]? = some o) (hr : (readyT T.2 b.toList == [i] && b.toList.set i true == b'.toList) = true) (hd : o.dst = some d) (hw : want ops L o = some true) (hlt : nol L d = true) (hv : (execOp (⟨l.toArray, []⟩ : Act).eval o).run Try.prog w = .ok (.value v) w1) (hS : S w1) (k : ∀ l', Fr J l' ((d, v) :: L) → wpAnyLast Try.prog .any ops Q S [] fuel b' ⟨l'.toArray, []⟩ w1) : wpAnyLast Try.prog .any ops Q S [] (fuel + 1) b ⟨l.toArray, []⟩ w := by
  refine one_ b' hi hd (one_of hT hr) (by simp) fun K hK => value_ (want_ok hF hw) hd hv (hK.out _ _ hS fun _ => ?_)
  rw [put_set]
  exact k _ (hF.put hlt v)
theorem anyS (i : Nat) {S : World → Prop} {T : Bool × List (List Nat × List Nat)} {fuel : Nat} {b : Array Bool} (b' : Array Bool) {x y : Operand} {t ty : Nat} {p : String} {af : Array Edge} {vp v : Value} {w1 : World} (hT : rtab .any ops = T) (hF : Fr J l L) (hi : ops[i]? = some ⟨none, .store t x y, ty, p, af, none⟩) (hr : (readyT T.2 b.toList == [i] && b.toList.set i true == b'.toList) = true) (hx : evO L x = some vp) (hy : evO L y = some v) (hv : (Instr.storeAt t vp v).run Try.prog w = .ok () w1) (hS : S w1) (k : wpAnyLast Try.prog .any ops Q S [] fuel b' ⟨l.toArray, []⟩ w1) : wpAnyLast Try.prog .any ops Q S [] (fuel + 1) b ⟨l.toArray, []⟩ w := by
  refine one_ b' hi rfl (one_of hT hr) (by simp) fun K hK => skip_ (by rfl) rfl (w1 := w1) ?_ (hK.out _ _ hS fun _ => k)
  simp only [execOp, hF.eval hx, hF.eval hy]
  simp [hv]
end
theorem run_cutf {A : Option Addr} {n c j : Nat} (h : j ≤ n) (w : World) : (Instr.sliceAt 24 (.slice A n c) (some (.int .i64 (j : Int))) none none).run Try.prog w = .ok (.slice (if c = j then A else A.map (·.add (j * 1))) (n - j) (c - j)) w := by
  obtain ⟨i3, hi3, hx⟩ := Option.map_eq_some_iff.1 info46
  have e5 : Try.prog.underlying 24 = some (.slice (Try.prog.elem 24)) := by
    have e : Try.prog.elem 24 = 46 := by simp [Program.elem, Try.underlying24]
    rw [e]; exact Try.underlying24
  have hz : i3.size = 1 := by simp at hx; exact hx.2.1
  have := cut_from (P := Try.prog) 24 46 .i64 Try.underlying24 hi3 1 hz A n c (j : Int) (by omega) (by omega) w
  rw [run_sliceAt_slice w 24 _ _ _ _ e5]
  exact this
theorem run_build31 (a b : Int) (A : Option Addr) (n c : Nat) (w : World) : (Instr.build 31 #[(0, .agg #[.int .i64 a, .int .i64 b]), (1, .slice A n c)]).run Try.prog w = .ok (.agg #[.int .i64 a, .int .i64 b, .slice A n c]) w := by
  have hu31 := Try.underlying31
  have hu29 := Try.underlying29
  go_simp
theorem run_ix {w : World} {A : Option Addr} {c : Nat} {x : List Int} {i : Int} (hC : Kd.C (Kd.int .i64) w A x.length x) (p : 0 ≤ i) (q : i < (x.length : Int)) : ∃ ad, (Instr.indexAt 46 (.slice A x.length c) (.int .i64 i)).run Try.prog w = .ok (.pointer (some ad)) w ∧ (Instr.loadAt 3 (.pointer (some ad))).run Try.prog w = .ok (.int .i64 (rd x i)) w := by
  have hu46 := Try.underlying46
  obtain ⟨ad, e, hx0⟩ := Kd.at_int hC i p q
  cases e
  replace p := eq_true p
  replace q := eq_true q
  refine ⟨_, by go_simp; rfl, ?_⟩
  go_simp
instance sz69 : Sz := ⟨66, by decide⟩
structure JT (w : World) (g4 g10 : Nat) (W D : Int) (A A' : Option Addr) (n c n' c' : Nat) (x : World) : Prop where
  b : Below w.heap.size w x
  g : cl x g4 31 #[.int .i64 W, .int .i64 D, .slice A n c]
  h : cl x g10 31 #[.int .i64 W, .int .i64 D, .slice A' n' c']
theorem JT.stb {w : World} {g4 g10 : Nat} {W D : Int} {A A' : Option Addr} {n c n' c' : Nat} : Stb (JT w g4 g10 W D A A' n c n' c') := fun x y h hb => ⟨below_step h.b hb, h.g.below hb, h.h.below hb⟩
/-- What joTimes promises. -/
def JoC (w0 : World) (W D : Int) (A : Option Addr) (c : Nat) (ks : List (List Int)) (t : ByteArray) (k : Nat) : Prop :=
  ∀ (s : ByteArray) (beg post : List Int) (ok : Bool) (v : Value) (w : World), spec_joTimes.f k W D ks s t beg = some (post, ok) → Below w0.heap.size w0 w → Kd.R (Kd.int .i64) 3 w w0.heap.size (fun _ => True) v beg →
    Calls Try.prog 69 #[.agg #[.int .i64 W, .int .i64 D, .slice A ks.length c], .string s, .string t, v] w fun e w' => ∃ v' : Value, e = .returned (.tuple #[v', .bool ok]) ∧ Kd.R (Kd.int .i64) 3 w' w0.heap.size (fun _ => True) v' post ∧ Below w.heap.size w w'
def lp69 (f : Func) : Code := bb (bb (rr (ll (nth 3 (fb f)))))
variable {w0 : World} {W D : Int} {A : Option Addr} {c : Nat} {ks : List (List Int)} {t : ByteArray}
def LJ (W D : Int) (A A' : Option Addr) (n c n' c' g4 g10 : Nat) (s t : ByteArray) (Ab : Option Addr) (m cb : Nat) : List (Nat × Value) := [(1, .string s), (2, .string t), (3, .slice Ab m cb), (4, .pointer (some ⟨g4, 0, none⟩)), (10, .pointer (some ⟨g10, 0, none⟩)), (31004, .agg #[.int .i64 W, .int .i64 D, .slice A n c]), (31010, .agg #[.int .i64 W, .int .i64 D, .slice A' n' c'])]
theorem jo_loop {w : World} {g4 g10 : Nat} {A' Ab : Option Addr} {c' cb : Nat} {s : ByteArray} {beg post : List Int} {ok : Bool} (hC0 : Kd.C (Kd.slice 3 (Kd.int .i64)) w0 A ks.length ks) (hc : ks.length ≤ c) (hw : Below w0.heap.size w0 w) (hCd : Kd.C (Kd.slice 3 (Kd.int .i64)) w A' (ks.drop (beg.length + 1)).length (ks.drop (beg.length + 1))) (hcd : (ks.drop (beg.length + 1)).length ≤ c') (hrb : Kd.R (Kd.int .i64) 3 w w0.heap.size (fun _ => True) (.slice Ab beg.length cb) beg) {R : Ending → World → Prop} {K : Act → World → Prop} {Q : Exit → Act → World → Prop}
    (hQ : ∀ a w, bodyPost Try.prog Try.f69 R .ret a w → Q .ret a w) (hQp : ∀ (c : List PanicEntry) (a : Act) (N : Option Tmp) (v : Value) (w : World), Q (.panic c) (a.put N v) w → Q (.panic c) a w)
    (hR : ∀ x v', Below w.heap.size w x → Kd.R (Kd.int .i64) 3 x w0.heap.size (fun _ => True) v' post → R (.returned (.tuple #[v', .bool ok])) x)
    (hK : ok = false → post = [] → ∀ l x, Fr (JT w g4 g10 W D A A' ks.length c (ks.drop (beg.length + 1)).length c') l [] → JT w g4 g10 W D A A' ks.length c (ks.drop (beg.length + 1)).length c' x → K ⟨l.toArray, []⟩ x) :
    ∀ (k : Nat), (∀ m, m < k → JoC w0 W D A c ks t m) → ∀ (n : Int) (l : List Value) (x : World), Fr (JT w g4 g10 W D A A' ks.length c (ks.drop (beg.length + 1)).length c') l ((11, .int .i64 n) :: LJ W D A A' ks.length c (ks.drop (beg.length + 1)).length c' g4 g10 s t Ab beg.length cb) → spec_joTimes.l0 k W D ks s t beg n = some (post, ok) → JT w g4 g10 W D A A' ks.length c (ks.drop (beg.length + 1)).length c' x → Code.rounds Try.prog (lp69 Try.f69) (Exit.inBlock 0 (Exit.then K Q)) k ⟨l.toArray, []⟩ x := by
  intro k
  induction k with
  | zero => intro _ n l x hF h; simp [spec_joTimes.l0] at h
  | succ k ih =>
    intro IH n l x hF h hJ
    unfold spec_joTimes.l0 at h
    have hwx := below_step hw hJ.b
    show (lp69 Try.f69).wp Try.prog (Exit.then (Code.rounds Try.prog (lp69 Try.f69) (Exit.inBlock 0 (Exit.then K Q)) k) (Exit.inBlock 0 (Exit.then K Q))) _ _
    have hd : ∀ S : Act → World → Prop, (∀ l' b, b = decide (n < D) → Fr (JT w g4 g10 W D A A' ks.length c (ks.drop (beg.length + 1)).length c') l' ((36, .bool b) :: (11, .int .i64 n) :: LJ W D A A' ks.length c (ks.drop (beg.length + 1)).length c' g4 g10 s t Ab beg.length cb) → S ⟨l'.toArray, []⟩ x) → ∀ Q' : Exit → Act → World → Prop, (ll (ll (lp69 Try.f69))).wp Try.prog (Exit.then S Q') ⟨l.toArray, []⟩ x := by
      intro S hS Q'
      refine reg_ rfl (run_ 1 rfl hF hJ fun l hF => ?_)
      refine one1 33 rfl rfl rfl hF (v := .pointer (some ⟨g4, 0, none⟩)) (w1 := x) (by have := run_fld (t := 31) (i := 0) (o := 0) (by simp) g4 x; simp only [execOp, hF.eval (x := .tmp 4) rfl]; simp [this]) fun l hF => ?_
      refine one1 34 rfl rfl rfl hF (v := .pointer (some ⟨g4, 1, none⟩)) (w1 := x) (by have := run_fld (t := 29) (i := 1) (o := 1) (by simp) g4 x; simp only [execOp, hF.eval (x := .tmp 33) rfl]; simp [this]) fun l hF => ?_
      refine one1 35 rfl rfl rfl hF (v := .int .i64 D) (w1 := x) (by have := hJ.g.load1 (t' := 3) (i := 1) (by simp) rfl; simp only [execOp, hF.eval (x := .tmp 34) rfl]; simp [this]) fun l hF => ?_
      refine runE 1 hF hJ rfl fun l hF => hS l _ rfl (hF.sel rfl)
    refine sq2 rfl ?_
    refine (wp_seq (hd _ (fun l b hb hF => ?_) _) : (Code.seq (ll (ll (lp69 Try.f69))) (.cond (.tmp 36) .skip (.exit 0))).wp _ _ _ _)
    refine wp_cond_split (hF.eval (x := .tmp 36) rfl) (fun hb2 => wp_skip (?_ : (rr _).wp _ _ _ _)) (fun hb2 => wp_exit (?_ : Exit.inBlock 0 (Exit.then K Q) (.exit 0) _ _))
    rotate_left
    · rw [if_neg (by rw [hb2] at hb; exact of_decide_eq_false hb.symm)] at h
      obtain ⟨e1, e2⟩ := Prod.mk.inj (Option.some.inj h)
      exact inBlock_exit (hK e2.symm e1.symm l x hF.nil hJ)
    rw [if_pos (by rw [hb2] at hb; exact of_decide_eq_true hb.symm)] at h
    obtain ⟨nx, h1, h⟩ := Option.bind_eq_some_iff.mp h
    obtain ⟨far, h2, h⟩ := Option.bind_eq_some_iff.mp h
    obtain ⟨i, h3, h⟩ := Option.bind_eq_some_iff.mp h
    have i0 : 0 ≤ i := by
      by_cases i0 : 0 ≤ i
      · exact i0
      · rw [if_neg i0] at h; exact absurd h (by simp)
    rw [if_pos i0] at h
    have i1 : i < (far.length : Int) := by
      by_cases i1 : i < (far.length : Int)
      · exact i1
      · rw [if_neg i1] at h; exact absurd h (by simp)
    rw [if_pos i1] at h
    refine sq2 rfl (blk1 rfl ?_)
    refine cst 5 1 hF hJ JT.stb Try.func59 rfl rfl rfl rfl rfl rfl rfl (by kernel_rfl) rfl rfl (fun hJ => spec_joTurn.calls k W D A c ks s _ _ _ _ (Kd.C_below hC0 hwx) hc h1) rfl fun l x1 hF hJ => ?_
    refine ifopr (J := JT w g4 g10 W D A A' ks.length c (ks.drop (beg.length + 1)).length c') (V := JT w g4 g10 W D A A' ks.length c (ks.drop (beg.length + 1)).length c') (N := 10) (A := bb (rr (nth 1 (bb (ll (nth 1 (lp69 Try.f69))))))) rfl (JT.stb _ _ hJ (below_drew1 (Below.refl _ _))) (by kernel_rfl) rfl rfl fun S kS => ?_
    replace hJ := JT.stb _ _ hJ (below_drew1 (Below.refl _ _))
    generalize x1.drew = x2 at hJ ⊢
    have PQ : ∀ (c : List PanicEntry) (a : Act) (N : Option Tmp) (v : Value) (w : World), Q (.panic c) (a.put N v) w → Q (.panic c) a w := hQp
    refine anys (fun _ h => h) 2 0 rfl (B := []) (by kernel_rfl) (fun c a N v w h => hQp c a N v w h) hF hJ (by kernel_rfl) rfl fun l hF => ?_
    refine anyV (v := .pointer (some ⟨g4, 0, none⟩)) 3 48 #[true, true, false, true, false, false, false, false, false, false] (fun c a N v w h => hQp c a N v w h) hF hJ rfl rfl rfl rfl (fun w _ => by have := run_fld (t := 31) (i := 0) (o := 0) (by simp) g4 w; have e := hF.eval (x := .tmp 4) rfl; unfold execOp; simp [e, this]) (by kernel_rfl) fun l hF => ?_
    refine anyV (v := .agg #[.int .i64 W, .int .i64 D]) 4 49 #[true, true, false, true, true, false, false, false, false, false] (fun c a N v w h => hQp c a N v w h) hF hJ rfl rfl rfl rfl (fun w hw => by have h29 := hw.g.load29; have e := hF.eval (x := .tmp 48) (v := .pointer (some ⟨g4, 0, none⟩)) rfl; unfold execOp; simp [e, h29]) (by kernel_rfl) fun l hF => ?_
    refine any1 5 (fun _ h => h) #[true, true, false, true, true, true, false, false, false, false] (fun c a N v w h => hQp c a N v w h) hF hJ rfl rfl (by kernel_rfl) fun l hF => ?_
    refine callAR 2 (bn 10 6) rfl hF Try.func72 rfl (by kernel_rfl) rfl rfl rfl rfl (by kernel_rfl) rfl rfl (spec_joFar.calls k W D A' c' _ nx far _ (Kd.C_below hCd hJ.b) hcd h2) fun e x3 hh => ?_
    obtain ⟨v0, rfl, hrf, hb3⟩ := hh
    obtain ⟨Af, cf, rfl⟩ := Kd.R_slice hrf
    have hCf := (Kd.R_reads' hrf).2.2
    replace hJ := JT.stb _ _ hJ hb3
    refine ⟨_, rfl, hJ, fun l hF => ?_⟩
    refine callAR 6 (bn 10 7) rfl hF Try.func76 rfl (by kernel_rfl) rfl rfl rfl rfl (by kernel_rfl) rfl rfl (spec_whNumber.calls k W D t i _ h3) fun e x4 hh => ?_
    obtain ⟨rfl, hb4⟩ := hh
    replace hCf := Kd.C_below hCf hb4
    replace hJ := JT.stb _ _ hJ hb4
    refine ⟨_, rfl, hJ, fun l hF => ?_⟩
    obtain ⟨ad, hx1, hx2⟩ := run_ix (c := cf) hCf i0 i1
    refine anyM 7 52 (bn 10 8) rfl hF rfl (by kernel_rfl) rfl rfl rfl (v := .pointer (some ad)) (w1 := x4) (by have e1 := hF.eval (x := .tmp 47) rfl; have e2 := hF.eval (x := .tmp 51) rfl; unfold execOp; simp [e1, e2, hx1]) hJ fun l hF => ?_
    refine anyM 8 53 (bn 10 9) rfl hF rfl (by kernel_rfl) rfl rfl rfl (v := .int .i64 (rd far i)) (w1 := x4) (by have e1 := hF.eval (x := .tmp 52) rfl; unfold execOp; simp [e1, hx2]) hJ fun l hF => ?_
    refine anys (fun _ h => h) 1 9 rfl (B := []) (by kernel_rfl) (fun c a N v w h => hQp c a N v w h) hF hJ (by kernel_rfl) rfl fun l hF => ?_
    refine done_ (by kernel_rfl) ?_
    refine kS l _ x4 (decide (0 ≤ rd far i)) hF rfl (fun hv => ?_) (fun hv => (?_ : (rr _).wp _ _ _ _))
    · rw [if_pos (of_decide_eq_true hv)] at h
      obtain ⟨q, h4, h⟩ := Option.bind_eq_some_iff.mp h
      have hlq : q.length < 17592186044416 := by
        by_cases hl : q.length < 17592186044416
        · exact hl
        · rw [if_neg hl] at h; exact absurd h (by simp)
      rw [if_pos hlq] at h
      refine reto2 (J := JT w g4 g10 W D A A' ks.length c (ks.drop (beg.length + 1)).length c') (V := JT w g4 g10 W D A A' ks.length c (ks.drop (beg.length + 1)).length c') (N := 13) (fn := Try.f69) (ra := 8) (rb := 9) (R := R) rfl rfl (JT.stb _ _ hJ (below_drew1 (Below.refl _ _))) (by kernel_rfl) rfl rfl (fun a w h => hQ a w h) fun S2 kS2 => ?_
      replace hJ := JT.stb _ _ hJ (below_drew1 (Below.refl _ _))
      generalize x4.drew = x5 at hJ ⊢
      refine anys (fun _ h => h) 4 0 rfl (B := []) (by kernel_rfl) (fun c a N v w h => hQp c a N v w h) hF hJ (by kernel_rfl) rfl fun l hF => ?_
      refine any1 5 (fun _ h => h) #[true, true, true, true, false, true, false, false, false, false, false, false, false] (fun c a N v w h => hQp c a N v w h) hF hJ rfl rfl (by kernel_rfl) fun l hF => ?_
      refine with_fin 6 (bn 13 7) fun F out into => ?_
      have fin : ∀ (l : List Value) (x6 : World) (A9 Ag : Option Addr) (c9 cg : Nat), Fr (JT w g4 g10 W D A A' ks.length c (ks.drop (beg.length + 1)).length c') l [(55, .agg #[.int .i64 W, .int .i64 D, .slice A ks.length c]), (56, .string nx), (57, .string t), (59, .slice A9 q.length c9), (61, .slice Ag 1 cg)] → JT w g4 g10 W D A A' ks.length c (ks.drop (beg.length + 1)).length c' x6 → Kd.R (Kd.int .i64) 3 x6 w.heap.size (fun k => k ≠ g4 ∧ k ≠ g10) (.slice A9 q.length c9) q → Kd.C (Kd.int .i64) x6 Ag 1 [n] → F l x6 := by
        intro l x6 A9 Ag c9 cg hF hJ hr hCg
        refine into l x6 ?_
        refine one_ (i := 7) (N := some 62) (bn 13 8) rfl rfl (one_of rfl (by kernel_rfl)) (by simp) fun K hK => ?_
        refine Kd.R_append_rows_step (Kd.int .i64) (w0 := w) w.heap.size (want_ok hF rfl) (.tmp 59) (.tmp 61) 46 3 (.int .i64 0) 8 rfl Try.underlying46 info3 rfl (by decide) (by omega) (.slice A9 q.length c9) q [n] Ag 1 cg (fun k => k ≠ g4 ∧ k ≠ g10) (fun _ => False) (hF.eval rfl) (hF.eval rfl) hr hCg (fun x cs h => h) (fun _ hk => hk.elim) (fun k hk => by have := blk_lt hJ.g; have := blk_lt hJ.h; omega) hJ.b (below_size hJ.b) (by omega) fun v1 x7 hr1 hb1 hg1 _ => ?_
        have key : ∀ k, (k = g4 ∨ k = g10) → some k ≠ (Value.slice A9 q.length c9).ownBlock := by
          intro k hk e
          have := hr.1 k e.symm
          omega
        have hJ7 : JT w g4 g10 W D A A' ks.length c (ks.drop (beg.length + 1)).length c' x7 := ⟨hb1, (hg1.block g4 (blk_lt hJ.g) (key _ (by simp))).trans hJ.g, (hg1.block g10 (blk_lt hJ.h) (key _ (by simp))).trans hJ.h⟩
        refine hK.out _ _ hJ7 fun _ => ?_
        obtain ⟨A1, q1, rfl⟩ := Kd.R_slice hr1
        change wpAnyLast Try.prog .any _ _ _ _ _ _ (Act.put _ (some 62) _) _
        rw [put_set]
        replace hF := hF.put (d := 62) rfl (.slice A1 (q ++ [n]).length q1)
        generalize l.set 62 (.slice A1 (q ++ [n]).length q1) = l at hF ⊢
        have hr2 := Kd.R_mono (Kd.R_lower hr1 (below_size hw)) (ok' := fun _ => True) (fun _ _ => trivial)
        refine callAR 8 (bn 13 9) rfl hF Try.func69 rfl (by kernel_rfl) rfl rfl rfl rfl (by kernel_rfl) rfl rfl (IH k (by omega) nx (q ++ [n]) post ok _ x7 h (below_step hw hJ7.b) hr2) fun e x8 hh => ?_
        obtain ⟨v', rfl, hr3, hb8⟩ := hh
        have hJ8 := JT.stb _ _ hJ7 hb8
        refine ⟨_, rfl, hJ8, fun l hF => ?_⟩
        refine anys (fun _ h => h) 4 9 rfl (B := []) (by kernel_rfl) (fun c a N v w h => hQp c a N v w h) hF hJ8 (by kernel_rfl) rfl fun l hF => ?_
        exact done_ (by kernel_rfl) (kS2 l _ x8 v' (.bool ok) hF rfl rfl (hR x8 v' hJ8.b hr3))
      have hCb := Kd.C_below (Kd.R_reads' hrb).2.2 hJ.b
      have hqb := (Kd.R_reads' hrb).2.1
      have hrun : ∀ (l : List Value) (L : List (Nat × Value)) (x : World), Fr (JT w g4 g10 W D A A' ks.length c (ks.drop (beg.length + 1)).length c') l L → evO L (.tmp 60) = some (.int .i64 n) → (execOp (⟨l.toArray, []⟩ : Act).eval ⟨some 61, .buildSlice 46 1 #[(0, .tmp 60)], 46, "l2_joined.go:180", #[{ on := 5, ground := .data }], none⟩).run Try.prog x = .ok (.value (.slice (some ⟨x.heap.size, 0, none⟩) [n].length [n].length)) (x.alloc (.cells [Value.int .i64 n].toArray 3 (0, 0))) := by
        intro l L x hF he
        have := run_bs1 n x
        have e := hF.eval he
        unfold execOp
        simp [e, this]
      refine two_ (i := 4) (j := 6) (Ni := some 59) (Nj := some 61) (bn 13 6) #[true, true, true, true, false, true, true, false, false, false, false, false, false] rfl rfl rfl rfl (two_of rfl (by kernel_rfl)) (by simp) (by simp) (fun K hK => ?_) (fun K hK => ?_)
      · refine goes_ Try.func91 (by kernel_rfl) rfl _ (want_ok hF rfl) rfl rfl (by simp only [List.map_toArray, List.map_cons, List.map_nil]; rw [hF.eval (x := .tmp 58) rfl]) ((spec_l1Own.calls Ab cb beg q x5 hCb hqb h4).mono fun e x6 hh => ?_)
        obtain ⟨v0, rfl, hr6, hb6⟩ := hh
        obtain ⟨A9, c9, rfl⟩ := Kd.R_slice hr6
        have hJ6 := JT.stb _ _ hJ hb6
        refine ⟨_, rfl, hK.out _ _ hJ6 fun _ => ?_⟩
        change wpAnyLast Try.prog .any _ _ _ _ _ _ (Act.put _ (some 59) _) _
        rw [put_set]
        replace hF := hF.put (d := 59) rfl (.slice A9 q.length c9)
        generalize l.set 59 (.slice A9 q.length c9) = l at hF ⊢
        have hr9 := Kd.R_mono (Kd.R_bound (Kd.R_lower hr6 (Nat.le_refl _))) (ok' := fun k => k ≠ g4 ∧ k ≠ g10) (fun k hk => by have := blk_lt hJ.g; have := blk_lt hJ.h; have := hk.2.1; omega)
        refine one_ (i := 6) (N := some 61) (bn 13 7) rfl rfl (one_of rfl (by kernel_rfl)) (by simp) fun K2 hK2 => ?_
        refine Kd.R_lit_step (Kd.int .i64) (w0 := x6) x6.heap.size 3 (want_ok hF rfl) (N := 61) rfl (xs := [n]) (inner := [.int .i64 n]) (ok := fun _ => True) (okp := fun _ => False) (hrun l _ x6 hF rfl) (Reps.one (show Kd.M (Kd.int .i64) _ _ _ n [.int .i64 n] from rfl) (Reps.none _ _)) (fun _ hk => hk.elim) trivial (Below.refl _ _) (Nat.le_refl _) (by simp) fun v1 x7 hr7 hb7 _ _ => ?_
        have hJ7 := JT.stb _ _ hJ6 hb7
        refine hK2.out _ _ hJ7 fun _ => ?_
        obtain ⟨Ag, cg, rfl⟩ := Kd.R_slice hr7
        change wpAnyLast Try.prog .any _ _ _ _ _ _ (Act.put _ (some 61) _) _
        rw [put_set]
        replace hF := hF.put (d := 61) rfl (.slice Ag [n].length cg)
        exact out _ _ <| fin _ x7 A9 Ag c9 cg (hF.sel rfl) hJ7 (Kd.R_below (Kd.R_lower hr9 (below_size hJ.b)) hb7) (Kd.R_reads' hr7).2.2
      · refine Kd.R_lit_step (Kd.int .i64) (w0 := x5) x5.heap.size 3 (want_ok hF rfl) (N := 61) rfl (xs := [n]) (inner := [.int .i64 n]) (ok := fun _ => True) (okp := fun _ => False) (hrun l _ x5 hF rfl) (Reps.one (show Kd.M (Kd.int .i64) _ _ _ n [.int .i64 n] from rfl) (Reps.none _ _)) (fun _ hk => hk.elim) trivial (Below.refl _ _) (Nat.le_refl _) (by simp) fun v1 x6 hr6 hb6 _ _ => ?_
        have hJ6 := JT.stb _ _ hJ hb6
        refine hK.out _ _ hJ6 fun _ => ?_
        obtain ⟨Ag, cg, rfl⟩ := Kd.R_slice hr6
        change wpAnyLast Try.prog .any _ _ _ _ _ _ (Act.put _ (some 61) _) _
        rw [put_set]
        replace hF := hF.put (d := 61) rfl (.slice Ag [n].length cg)
        generalize l.set 61 (.slice Ag [n].length cg) = l at hF ⊢
        refine callAR 4 (bn 13 7) rfl hF Try.func91 rfl (by kernel_rfl) rfl rfl rfl rfl (by kernel_rfl) rfl rfl (spec_l1Own.calls Ab cb beg q x6 (Kd.C_below hCb hb6) hqb h4) fun e x7 hh => ?_
        obtain ⟨v0, rfl, hr7, hb7⟩ := hh
        obtain ⟨A9, c9, rfl⟩ := Kd.R_slice hr7
        have hJ7 := JT.stb _ _ hJ6 hb7
        have hr9 := Kd.R_mono (Kd.R_bound hr7) (ok' := fun k => k ≠ g4 ∧ k ≠ g10) (fun k hk => by have := blk_lt hJ6.g; have := blk_lt hJ6.h; have := hk.2.1; omega)
        exact ⟨_, rfl, hJ7, fun l hF => out _ _ <| fin l x7 A9 Ag c9 cg (hF.sel rfl) hJ7 (Kd.R_lower hr9 (below_size hJ6.b)) (Kd.C_below (Kd.R_reads' hr6).2.2 hb7)⟩
    · rw [if_neg (of_decide_eq_false hv)] at h
      refine reg_ rfl (runE 3 hF hJ rfl fun l hF => ?_)
      exact ih (fun m hm => IH m (by omega)) _ l x4 (hF.sel rfl) h hJ
def JG (w : World) (g4 : Nat) (W D : Int) (A : Option Addr) (n c : Nat) (x : World) : Prop := Below w.heap.size w x ∧ cl x g4 31 #[.int .i64 W, .int .i64 D, .slice A n c]
theorem JG.stb {w : World} {g4 : Nat} {W D : Int} {A : Option Addr} {n c : Nat} : Stb (JG w g4 W D A n c) := fun x y h hb => ⟨below_step h.1 hb, h.2.below hb⟩
theorem jo_calls (hC0 : Kd.C (Kd.slice 3 (Kd.int .i64)) w0 A ks.length ks) (hc : ks.length ≤ c) : ∀ k, JoC w0 W D A c ks t k := by
  intro k
  induction k using Nat.strongRecOn with
  | ind k IH =>
  cases k with
  | zero => intro s beg post ok v w h; simp [spec_joTimes.f] at h
  | succ k =>
  intro s beg post ok v w h hw hrb
  unfold spec_joTimes.f at h
  obtain ⟨Ab, cb, rfl⟩ := Kd.R_slice hrb
  go_enter Try.func69, Try.ntmps69
  have key : ∀ l : List Value, l.length = 66 → l[0]? = some (.agg #[.int .i64 W, .int .i64 D, .slice A ks.length c]) → l[1]? = some (.string s) → l[2]? = some (.string t) → l[3]? = some (.slice Ab beg.length cb) → (nth 0 (fb Try.f69)).wp Try.prog (bodyPost Try.prog Try.f69 fun e w' => ∃ v' : Value, e = .returned (.tuple #[v', .bool ok]) ∧ Kd.R (Kd.int .i64) 3 w' w0.heap.size (fun _ => True) v' post ∧ Below w.heap.size w w') ⟨l.toArray, []⟩ w := by
    intro l hn h0 h1 h2 h3
    have hF : Fr TT l [(0, .agg #[.int .i64 W, .int .i64 D, .slice A ks.length c]), (1, .string s), (2, .string t), (3, .slice Ab beg.length cb)] :=
      Fr.of hn (by intro p hp; simp at hp; rcases hp with rfl | rfl | rfl | rfl <;> exact ⟨Nat.le_of_ble_eq_true rfl, by assumption⟩)
    refine dst rfl rfl (mkb 4 rfl rfl rfl hF (t := 31) (cs := #[.int .i64 W, .int .i64 D, .slice A ks.length c]) (by have := run_box3 (.inr rfl) w W D (.slice A ks.length c) rfl; simp only [execOp, hF.eval (x := .tmp 0) rfl]; simp [this]) fun l w1 g4 s1 z1 kg B1 hF => ?_)
    refine runE 2 hF trivial rfl fun l hF => (?_ : (rr _).wp _ _ _ _)
    refine sq2 rfl (ifsd (J := TT) (A := bb (rr (ll (nth 1 (fb Try.f69))))) rfl fun S kS => ?_)
    refine run_ 2 rfl hF trivial fun l hF => ?_
    refine one1 15 rfl rfl rfl hF (v := .pointer (some ⟨g4, 2, none⟩)) (w1 := w1) (by have := run_fld (t := 31) (i := 1) (o := 2) (by simp) g4 w1; simp only [execOp, hF.eval (x := .tmp 4) rfl]; simp [this]) fun l hF => ?_
    refine one1 16 rfl rfl rfl hF (v := .slice A ks.length c) (w1 := w1) (by have := kg.load1 (t' := 24) (i := 2) (by simp) rfl; simp only [execOp, hF.eval (x := .tmp 15) rfl]; simp [this]) fun l hF => ?_
    refine runE 2 hF trivial rfl fun l hF => ?_
    refine kS l _ w1 ((beg.length : Int) == (ks.length : Int)) hF rfl (fun hb => ?_) (fun hb => (?_ : (rr _).wp _ _ _ _))
    · rw [if_pos hb] at h
      obtain ⟨rfl, rfl⟩ := Prod.mk.inj (Option.some.inj h)
      exact retst2 (fn := Try.f69) (ra := 8) (rb := 9) (R := fun e w' => ∃ v' : Value, e = .returned (.tuple #[v', .bool (s.toList == t.toList)]) ∧ Kd.R (Kd.int .i64) 3 w' w0.heap.size (fun _ => True) v' beg ∧ Below w.heap.size w w') 6 rfl hF trivial rfl rfl rfl rfl (fun _ _ h => h) (by exact ⟨_, rfl, Kd.R_below hrb B1, B1⟩)
    · rw [if_neg (by rw [hb]; decide)] at h
      have hle : beg.length + 1 ≤ ks.length := by
        by_cases hle : beg.length + 1 ≤ ks.length
        · exact hle
        · rw [if_neg hle] at h; exact absurd h (by simp)
      rw [if_pos hle] at h
      have hJ : JG w g4 W D A ks.length c w1 := ⟨B1, kg⟩
      replace hF := (hF.sel (M := [(1, .string s), (2, .string t), (3, .slice Ab beg.length cb), (4, .pointer (some ⟨g4, 0, none⟩))]) rfl).real (J' := JG w g4 W D A ks.length c) rfl
      have hF := hF.ld 31 4 (by decide) rfl (by decide) fun w h => h.2.load3 (.inr rfl)
      refine dsto (V := JG w g4 W D A ks.length c) (N := 11) rfl rfl (JG.stb _ _ hJ (below_drew1 (Below.refl _ _))) (by kernel_rfl) rfl rfl ?_
      replace hJ := JG.stb _ _ hJ (below_drew1 (Below.refl _ _))
      generalize w1.drew = w2 at hJ ⊢
      have hwe : wrap64 ((beg.length : Int) + 1) = ((beg.length + 1 : Nat) : Int) := by
        have := Kd.C_max (Kd.C_below hC0 hw)
        unfold wrap64
        omega
      refine anyV (v := .pointer (some ⟨g4, 0, none⟩)) 0 23 (bn 11 1) (fun c a N v w h => by cases N <;> exact h) hF hJ rfl rfl rfl rfl (fun w _ => by have := run_fld (t := 31) (i := 0) (o := 0) (by simp) g4 w; have e := hF.eval (x := .tmp 4) rfl; unfold execOp; simp [e, this]) (by kernel_rfl) fun l hF => ?_
      refine anyV (v := .agg #[.int .i64 W, .int .i64 D]) 1 24 (bn 11 2) (fun c a N v w h => by cases N <;> exact h) hF hJ rfl rfl rfl rfl (fun w hw => by have h29 := hw.2.load29; have e := hF.eval (x := .tmp 23) (v := .pointer (some ⟨g4, 0, none⟩)) rfl; unfold execOp; simp [e, h29]) (by kernel_rfl) fun l hF => ?_
      refine anyV (v := .pointer (some ⟨g4, 2, none⟩)) 2 25 (bn 11 3) (fun c a N v w h => by cases N <;> exact h) hF hJ rfl rfl rfl rfl (fun w _ => by have := run_fld (t := 31) (i := 1) (o := 2) (by simp) g4 w; have e := hF.eval (x := .tmp 4) rfl; unfold execOp; simp [e, this]) (by kernel_rfl) fun l hF => ?_
      refine anyV (v := .slice A ks.length c) 3 26 (bn 11 4) (fun c a N v w h => by cases N <;> exact h) hF hJ rfl rfl rfl rfl (fun w hw => by have h24 := hw.2.load1 (t' := 24) (i := 2) (by simp) rfl; have e := hF.eval (x := .tmp 25) (v := .pointer (some ⟨g4, 2, none⟩)) rfl; unfold execOp; simp [e, h24]) (by kernel_rfl) fun l hF => ?_
      refine anys (fun _ h => h) 3 4 rfl (B := []) (by kernel_rfl) (fun c a N v w h => by cases N <;> exact h) hF hJ (by kernel_rfl) rfl fun l hF => ?_
      refine anyV (v := .slice (if c = beg.length + 1 then A else A.map (·.add ((beg.length + 1) * 1))) (ks.drop (beg.length + 1)).length (c - (beg.length + 1))) 7 30 (bn 11 8) (fun c a N v w h => by cases N <;> exact h) hF hJ rfl rfl rfl rfl (fun w hw => by have hcf := run_cutf (A := A) (c := c) hle w; have e1 := hF.eval (x := .tmp 26) (v := .slice A ks.length c) rfl; have e2 := hF.eval (x := .tmp 29) (v := .int .i64 (wrap64 ((beg.length : Int) + 1))) rfl; unfold execOp; rw [List.length_drop]; rw [hwe] at e2; simp at hcf; simp [e1, e2, hcf]) (by kernel_rfl) fun l hF => ?_
      refine anyV (v := .agg #[.int .i64 W, .int .i64 D, .slice (if c = beg.length + 1 then A else A.map (·.add ((beg.length + 1) * 1))) (ks.drop (beg.length + 1)).length (c - (beg.length + 1))]) 8 31 (bn 11 9) (fun c a N v w h => by cases N <;> exact h) hF hJ rfl rfl rfl rfl (fun w hw => by have hbu := run_build31 W D (if c = beg.length + 1 then A else A.map (·.add ((beg.length + 1) * 1))) (ks.drop (beg.length + 1)).length (c - (beg.length + 1)) w; have e1 := hF.eval (x := .tmp 24) (v := .agg #[.int .i64 W, .int .i64 D]) rfl; have e2 := hF.eval (x := .tmp 30) (v := .slice (if c = beg.length + 1 then A else A.map (·.add ((beg.length + 1) * 1))) (ks.drop (beg.length + 1)).length (c - (beg.length + 1))) rfl; unfold execOp; simp at hbu; simp at e2; simp [e1, e2, hbu]) (by kernel_rfl) fun l hF => ?_
      refine anyM 9 10 (bn 11 10) rfl hF rfl (by kernel_rfl) rfl rfl rfl (v := .pointer (some ⟨w2.heap.size, 0, none⟩)) (w1 := w2.alloc (.cells #[.int .i64 0, .int .i64 0, .slice none 0 0] 31 (0, 0))) (by have := run_alloc31 w2; simp only [execOp]; simp [this]) (JG.stb _ _ hJ (below_alloc (Below.refl _ _) _)) fun l hF => ?_
      have kh : cl (w2.alloc (.cells #[.int .i64 0, .int .i64 0, .slice none 0 0] 31 (0, 0))) w2.heap.size 31 #[.int .i64 0, .int .i64 0, .slice none 0 0] := blk_new w2 _
      have ng : g4 ≠ w2.heap.size := by have := blk_lt hJ.2; omega
      have hsz : w.heap.size ≤ w2.heap.size := below_size hJ.1
      replace hJ := JG.stb _ _ hJ (below_alloc (Below.refl _ _) (.cells #[.int .i64 0, .int .i64 0, .slice none 0 0] 31 (0, 0)))
      generalize w2.alloc (.cells #[.int .i64 0, .int .i64 0, .slice none 0 0] 31 (0, 0)) = w3 at hJ kh hF ⊢
      generalize w2.heap.size = g10 at kh ng hsz hF ⊢
      have hCd := Kd.C_drop (c := c) (Kd.C_below hC0 hw) hle hc
      generalize hA' : (if c = beg.length + 1 then A else A.map (·.add ((beg.length + 1) * 1))) = A' at hF ⊢
      replace hCd : Kd.C (Kd.slice 3 (Kd.int .i64)) w A' (ks.drop (beg.length + 1)).length (ks.drop (beg.length + 1)) := by rw [← hA']; exact hCd
      have kh2 : cl (((w3.setCell ⟨g10, 0, none⟩ (.int .i64 W)).setCell ⟨g10, 1, none⟩ (.int .i64 D)).setCell ⟨g10, 2, none⟩ (.slice A' (ks.drop (beg.length + 1)).length (c - (beg.length + 1)))) g10 31 #[.int .i64 W, .int .i64 D, .slice A' (ks.drop (beg.length + 1)).length (c - (beg.length + 1))] := blk_put (cs := #[.int .i64 W, .int .i64 D, .slice none 0 0]) (blk_put (cs := #[.int .i64 W, .int .i64 0, .slice none 0 0]) (blk_put (cs := #[.int .i64 0, .int .i64 0, .slice none 0 0]) kh 0 _ rfl) 1 _ rfl) 2 _ rfl
      have hJ3 : JG w g4 W D A ks.length c (((w3.setCell ⟨g10, 0, none⟩ (.int .i64 W)).setCell ⟨g10, 1, none⟩ (.int .i64 D)).setCell ⟨g10, 2, none⟩ (.slice A' (ks.drop (beg.length + 1)).length (c - (beg.length + 1)))) := ⟨below_set (below_set (below_set hJ.1 hsz) hsz) hsz, (Below.heap_setCell _ _ _ _ ng).trans ((Below.heap_setCell _ _ _ _ ng).trans ((Below.heap_setCell _ _ _ _ ng).trans hJ.2))⟩
      refine anyS 10 (bn 11 11) rfl hF rfl (by kernel_rfl) rfl rfl (kh.store31 (x := 0) (y := 0) (u := .slice none 0 0)) hJ3 (done_ (by kernel_rfl) (?_ : (rr _).wp _ _ _ _))
      generalize ((w3.setCell ⟨g10, 0, none⟩ (.int .i64 W)).setCell ⟨g10, 1, none⟩ (.int .i64 D)).setCell ⟨g10, 2, none⟩ (.slice A' (ks.drop (beg.length + 1)).length (c - (beg.length + 1))) = w4 at kh2 hJ3 ⊢
      have hJ4 : JT w g4 g10 W D A A' ks.length c (ks.drop (beg.length + 1)).length (c - (beg.length + 1)) w4 := ⟨hJ3.1, hJ3.2, kh2⟩
      have hF := ((hF.sel (M := [(1, .string s), (2, .string t), (3, .slice Ab beg.length cb), (4, .pointer (some ⟨g4, 0, none⟩)), (10, .pointer (some ⟨g10, 0, none⟩))]) rfl).real (J' := JT w g4 g10 W D A A' ks.length c (ks.drop (beg.length + 1)).length (c - (beg.length + 1))) rfl)
      have hF := (hF.ld 31 4 (by decide) rfl (by decide) fun w h => h.g.load3 (.inr rfl)).ld 31 10 (by decide) rfl (by decide) fun w h => h.h.load3 (.inr rfl)
      refine sq2 rfl (dst rfl rfl (runE 1 hF hJ4 rfl fun l hF => (?_ : (rr _).wp _ _ _ _)))
      refine blkl (lp := lp69 Try.f69) rfl (jo_loop (R := fun e w' => ∃ v' : Value, e = .returned (.tuple #[v', .bool ok]) ∧ Kd.R (Kd.int .i64) 3 w' w0.heap.size (fun _ => True) v' post ∧ Below w.heap.size w w') hC0 hc hw hCd (by rw [List.length_drop]; omega) hrb ?_ ?_ ?_ ?_ k (fun m hm => IH m (by omega)) 0 l w4 (hF.sel rfl) h hJ4)
      · exact fun a w h => h
      · exact fun c a N v w h => by cases N <;> exact h
      · exact fun x v' h1 h2 => ⟨v', rfl, h2, h1⟩
      · intro e1 e2 l x hF hJ
        subst e1
        subst e2
        exact retst2 (fn := Try.f69) (ra := 8) (rb := 9) (R := fun e w' => ∃ v' : Value, e = .returned (.tuple #[v', .bool false]) ∧ Kd.R (Kd.int .i64) 3 w' w0.heap.size (fun _ => True) v' [] ∧ Below w.heap.size w w') 2 rfl hF hJ rfl rfl rfl rfl (fun _ _ h => h) (by exact ⟨_, rfl, Kd.R_nil _ _ _ _ _, hJ.b⟩)
  exact key _ rfl rfl rfl rfl rfl
end Go.Proofs.Ytffjfnoocbgajaa.M
namespace Go.Proofs.Ytffjfnoocbgajaa.M
open Go.RowKit Go.Proofs.YtffjfnoocbgajaaW.PrintWords Go.Proofs.YtffjfnoocbgajaaW.PrintLast Go.Proofs.YtffjfnoocbgajaaW.PrintMore
set_option maxRecDepth 100000
set_option maxHeartbeats 4000000
set_option linter.unusedVariables false
set_option linter.unusedSectionVars false
set_option linter.unusedSimpArgs false
instance sz32 : Sz := ⟨25, by decide⟩
theorem spec_TimesFor.calls (k : Nat) (a0_0 : Int) (a0_1 : Int) (A0_2 : Option Addr) (c0_2 : Nat) (l0_2 : List (List Int)) (a1 : ByteArray) (a2 : ByteArray) (r1 : List Int) (r2 : Bool) (w : World) (hr0_2 : Kd.C (Kd.slice 3 (Kd.int .i64)) w A0_2 l0_2.length l0_2) (hc0_2 : l0_2.length ≤ c0_2) (h : spec_TimesFor.f k a0_0 a0_1 l0_2 a1 a2 = some (r1, r2)) :
    Calls Try.prog 32 #[.agg #[.int .i64 a0_0, .int .i64 a0_1, .slice A0_2 l0_2.length c0_2], .string a1, .string a2] w fun e w' => ∃ v0_ : Value, e = .returned (.tuple #[v0_, .bool r2]) ∧ Kd.R (Kd.int .i64) 3 w' w.heap.size (fun _ => True) v0_ r1 ∧ Below w.heap.size w w' := by
  unfold spec_TimesFor.f at h
  obtain ⟨b, hb, h⟩ := Option.bind_eq_some_iff.mp h
  go_enter Try.func32, Try.ntmps32
  have key : ∀ l : List Value, l.length = 25 → l[0]? = some (.agg #[.int .i64 a0_0, .int .i64 a0_1, .slice A0_2 l0_2.length c0_2]) → l[1]? = some (.string a1) → l[2]? = some (.string a2) → (nth 0 (fb Try.f32)).wp Try.prog (bodyPost Try.prog Try.f32 fun e w' => ∃ v0_ : Value, e = .returned (.tuple #[v0_, .bool r2]) ∧ Kd.R (Kd.int .i64) 3 w' w.heap.size (fun _ => True) v0_ r1 ∧ Below w.heap.size w w') ⟨l.toArray, []⟩ w := by
    intro l hn h0 h1 h2
    have hF : Fr TT l [(0, .agg #[.int .i64 a0_0, .int .i64 a0_1, .slice A0_2 l0_2.length c0_2]), (1, .string a1), (2, .string a2)] :=
      Fr.of hn (by intro p hp; simp at hp; rcases hp with rfl | rfl | rfl <;> exact ⟨Nat.le_of_ble_eq_true rfl, by assumption⟩)
    refine dst rfl rfl (mkb 3 rfl rfl rfl hF (t := 31) (cs := #[.int .i64 a0_0, .int .i64 a0_1, .slice A0_2 l0_2.length c0_2]) (by have := run_box3 (.inr rfl) w a0_0 a0_1 (.slice A0_2 l0_2.length c0_2) rfl; simp only [execOp, hF.eval (x := .tmp 0) rfl]; simp [this]) fun l w1 gg s1 z1 kg B1 hF => ?_)
    refine runE 2 hF trivial rfl fun l hF => (?_ : (rr _).wp _ _ _ _)
    refine sq2 rfl (ifsd (J := TT) (A := bb (rr (ll (nth 1 (fb Try.f32))))) rfl fun S kS => ?_)
    refine one1 10 rfl rfl rfl hF (v := .agg #[.int .i64 a0_0, .int .i64 a0_1, .slice A0_2 l0_2.length c0_2]) (w1 := w1) (by have := kg.load3 (.inr rfl); simp only [execOp, hF.eval (x := .tmp 3) rfl]; simp [this]) fun l hF => run_ 2 rfl hF trivial fun l hF => ?_
    refine callR Try.func68 rfl rfl rfl rfl (by kernel_rfl) rfl hF rfl (spec_joTwo.calls k a0_0 a0_1 A0_2 c0_2 l0_2 a1 a2 b w1 (Kd.C_below hr0_2 B1) hc0_2 hb) fun e w2 hh => ?_
    obtain ⟨rfl, B2⟩ := hh
    refine ⟨_, rfl, fun l hF => ?_⟩
    replace kg := kg.below B2
    have B := below_step B1 B2
    refine runE 1 hF trivial rfl fun l hF => ?_
    refine kS l _ w2 (!b) hF rfl (fun hb => ?_) (fun hb => (?_ : (rr _).wp _ _ _ _))
    · rw [if_pos hb] at h
      obtain ⟨rfl, rfl⟩ := Prod.mk.inj (Option.some.inj h)
      exact retst2 (fn := Try.f32) (ra := 6) (rb := 7) (R := fun e w' => ∃ v0_ : Value, e = .returned (.tuple #[v0_, .bool false]) ∧ Kd.R (Kd.int .i64) 3 w' w.heap.size (fun _ => True) v0_ [] ∧ Below w.heap.size w w') 2 rfl hF trivial rfl rfl rfl rfl (fun _ _ h => h) (by exact ⟨_, rfl, Kd.R_nil _ _ _ _ _, B⟩)
    · rw [if_neg (by rw [hb]; decide)] at h
      obtain ⟨⟨post, ok⟩, h5, h⟩ := Option.bind_eq_some_iff.mp h; dsimp only at h
      refine dst rfl rfl ?_
      refine one1 16 rfl rfl rfl hF (v := .agg #[.int .i64 a0_0, .int .i64 a0_1, .slice A0_2 l0_2.length c0_2]) (w1 := w2) (by have := kg.load3 (.inr rfl); simp only [execOp, hF.eval (x := .tmp 3) rfl]; simp [this]) fun l hF => run_ 2 rfl hF trivial fun l hF => ?_
      refine callR Try.func69 rfl rfl rfl rfl (by kernel_rfl) rfl hF rfl (jo_calls hr0_2 hc0_2 k a1 [] post ok (.slice none 0 0) w2 h5 B (Kd.R_nil _ _ _ _ _)) fun e w3 hh => ?_
      obtain ⟨v', rfl, hr3, B3⟩ := hh
      obtain ⟨A3, q3, rfl⟩ := Kd.R_slice hr3
      replace B := below_step B B3
      refine ⟨_, rfl, fun l hF => runE 5 hF trivial rfl fun l hF => (?_ : (rr _).wp _ _ _ _)⟩
      refine sq2 rfl (ifsd (J := TT) (A := bb (rr (ll (nth 3 (fb Try.f32))))) rfl fun S kS => ?_)
      refine runE 2 hF trivial rfl fun l hF => ?_
      refine kS l _ w3 (!ok) hF rfl (fun hb => ?_) (fun hb => (?_ : (rr _).wp _ _ _ _))
      · rw [if_pos hb] at h
        obtain ⟨rfl, rfl⟩ := Prod.mk.inj (Option.some.inj h)
        exact retst2 (fn := Try.f32) (ra := 6) (rb := 7) (R := fun e w' => ∃ v0_ : Value, e = .returned (.tuple #[v0_, .bool false]) ∧ Kd.R (Kd.int .i64) 3 w' w.heap.size (fun _ => True) v0_ [] ∧ Below w.heap.size w w') 2 rfl hF trivial rfl rfl rfl rfl (fun _ _ h => h) (by exact ⟨_, rfl, Kd.R_nil _ _ _ _ _, B⟩)
      · rw [if_neg (by rw [hb]; decide)] at h
        obtain ⟨rfl, rfl⟩ := Prod.mk.inj (Option.some.inj h)
        exact retst2 (fn := Try.f32) (ra := 6) (rb := 7) (R := fun e w' => ∃ v0_ : Value, e = .returned (.tuple #[v0_, .bool true]) ∧ Kd.R (Kd.int .i64) 3 w' w.heap.size (fun _ => True) v0_ post ∧ Below w.heap.size w w') 3 rfl hF trivial rfl rfl rfl rfl (fun _ _ h => h) (by exact ⟨_, rfl, hr3, B⟩)
  exact key _ rfl rfl rfl rfl
end Go.Proofs.Ytffjfnoocbgajaa.M
namespace Go.Proofs.Ytffjfnoocbgajaa.M
open Go.RowKit Go.Proofs.YtffjfnoocbgajaaW.PrintWords Go.Proofs.YtffjfnoocbgajaaW.PrintLast Go.Proofs.YtffjfnoocbgajaaW.PrintMore
set_option maxRecDepth 100000
set_option maxHeartbeats 4000000
set_option linter.unusedVariables false
set_option linter.unusedSectionVars false
set_option linter.unusedSimpArgs false
section
variable [Sz] {J : World → Prop} {ops : Array Oper} {Q : Exit → Act → World → Prop} {w : World} {l : List Value} {L L1 : List (Nat × Value)}
/-- 'if' that is passed by. -/
theorem passN {D A : Code} {id t : Nat} (e : D = .seq (.region id ops false) (.cond (.tmp t) A .skip)) (h : ∀ S : Act → World → Prop, (∀ l' L' w' b, Fr J l' L' → evO L' (.tmp t) = some (.bool b) → b = false → Q .normal ⟨l'.toArray, []⟩ w' → S ⟨l'.toArray, []⟩ w') → wpList Try.prog ops (Exit.then S Q) ops.toList ⟨l.toArray, []⟩ w) : D.wp Try.prog Q ⟨l.toArray, []⟩ w := by
  rw [e]
  refine wp_seq (wp_region_list (h _ fun l' L' w' b hF ht hb k => ?_))
  subst hb
  exact wp_cond_false (hF.eval ht) (wp_skip k)
theorem passO {V : World → Prop} {D A : Code} {id t N : Nat} (e : D = .seq (.region id ops true) (.cond (.tmp t) A .skip)) (hV : V w.drew) (hm : Try.prog.follows .mixedOrders = true) (hn : ops.size = N) (hl : Array.replicate N false = bn N 0) (h : ∀ S : Act → World → Prop, (∀ l' L' w' b, Fr J l' L' → evO L' (.tmp t) = some (.bool b) → b = false → Q .normal ⟨l'.toArray, []⟩ w' → S ⟨l'.toArray, []⟩ w') → wpAnyLast Try.prog .any ops (Exit.then S Q) V [] N (bn N 0) ⟨l.toArray, []⟩ w.drew) : D.wp Try.prog Q ⟨l.toArray, []⟩ w := by
  rw [e]
  refine wp_seq (start_ (S := V) (ds := []) (bn N 0) hm hn hl hV fun _ => h _ fun l' L' w' b hF ht hb k => ?_)
  subst hb
  exact wp_cond_false (hF.eval ht) (wp_skip k)
theorem callW {o : Oper} {rest : List Oper} {f d : Nat} {fn : Func} {xs : Array Operand} {ats : Array TypeId} {vs : List Value} {R : Ending → World → Prop} (hf : Try.prog.funcs[f]? = some fn) (hop : o.op = .call { callee := .value (.func f), args := xs, argTypes := ats }) (hd : o.dst = some d) (hw : want ops L o = some true) (hlt : nol L d = true) (hname : (fn.name == "runtime.NumGoroutine") = false) (hb : fn.body.isSome = true) (hF : Fr J l L) (hv : evs L xs.toList = some vs) (hc : Calls Try.prog f vs.toArray w R) (k : ∀ e w', R e w' → ∃ v, e = .returned v ∧ ∀ l', Fr J l' ((d, v) :: L) → wpList Try.prog ops Q rest ⟨l'.toArray, []⟩ w') : wpList Try.prog ops Q (o :: rest) ⟨l.toArray, []⟩ w := by
  have ha : xs.map (⟨l.toArray, []⟩ : Act).eval = vs.toArray := by
    apply Array.toList_inj.mp
    rw [Array.toList_map, hF.evals hv]
  have he := enters_ hf hname hb vs.toArray w
  have hrun : (execOp (⟨l.toArray, []⟩ : Act).eval o).run Try.prog w = .ok (.enter f vs.toArray) w := by
    unfold execOp
    simp [hop, resolve, Deferred.ofValue, invoke, Act.eval, ha, he]
  unfold wpList
  rw [if_pos (want_ok hF hw)]
  refine .inl ?_
  unfold Oper.wp
  rw [hrun, Oper.upon_enter]
  refine hc.mono fun e w'' hh => ?_
  obtain ⟨v, rfl, h⟩ := k e w'' hh
  rw [hd]
  show wpList Try.prog ops Q rest (Act.put _ (some d) v) w''
  rw [put_set]
  exact h _ (hF.put hlt v)
end
instance sz8 : Sz := ⟨112, by decide⟩
def laws_FnExactTimesFor.f (k : Nat) (W D : Int) (ks : List (List Int)) (s t : ByteArray) : Option Bool :=
  if 1048576 < (s.size : Int) then some true else if 1048576 < (t.size : Int) then some true else
  (laws_szGears.f k W D ks 1048576).bind fun left => if left < 0 then some true else
  (laws_toGears.f k W D ks).bind fun g => (spec_TimesFor.f k g.1 g.2.1 g.2.2 s t).bind fun w0 => (impl_TimesFor.f k g.1 g.2.1 g.2.2 s t).bind fun g0 =>
  (laws_eqIntS.f k g0.1 w0.1).bind fun e => if e = true then (if g0.2 = w0.2 then (laws_eqGears.f k g.1 g.2.1 g.2.2 g.1 g.2.1 g.2.2).bind fun e2 => if e2 = true then
  (laws_markGears.f k g.1 g.2.1 g.2.2 1).bind fun m1 => if m1.1 < 0 then none else (laws_markIntS.f k g0.1 1).bind fun m2 => (laws_heldIntS.f k m2.2 1).bind fun q => if q < 0 then none else if q = m2.1 then some true else none
  else none else none) else none
structure JL (w : World) (g3 : Nat) (W D : Int) (A : Option Addr) (n c : Nat) (x : World) : Prop where
  b : Below w.heap.size w x
  g : cl x g3 26 #[.int .i64 W, .int .i64 D, .slice A n c]
theorem JL.stb {w : World} {g3 : Nat} {W D : Int} {A : Option Addr} {n c : Nat} : Stb (JL w g3 W D A n c) := fun x y h hb => ⟨below_step h.b hb, h.g.below hb⟩
theorem some_of_if {c : Prop} [Decidable c] {A : Option Bool} {r : Bool} (h : (if c then A else none) = some r) : c ∧ A = some r := by
  by_cases hc : c
  · rw [if_pos hc] at h; exact ⟨hc, h⟩
  · rw [if_neg hc] at h; exact absurd h (by simp)
def RB (w : World) (r : Bool) : Ending → World → Prop := fun e w' => e = .returned (.bool r) ∧ Below w.heap.size w w'
theorem laws_FnExactTimesFor.calls (k : Nat) (a0_0 : Int) (a0_1 : Int) (A0_2 : Option Addr) (c0_2 : Nat) (l0_2 : List (List Int)) (a1 : ByteArray) (a2 : ByteArray) (r : Bool) (w : World) (hr0_2 : Kd.C (Kd.slice 3 (Kd.int .i64)) w A0_2 l0_2.length l0_2) (hc0_2 : l0_2.length ≤ c0_2) (h : laws_FnExactTimesFor.f k a0_0 a0_1 l0_2 a1 a2 = some r) :
    Calls Try.prog 8 #[.agg #[.int .i64 a0_0, .int .i64 a0_1, .slice A0_2 l0_2.length c0_2], .string a1, .string a2] w fun e w' => e = .returned (.bool r) ∧ Below w.heap.size w w' := by
  unfold laws_FnExactTimesFor.f at h
  go_enter Try.func8, Try.ntmps8
  have key : ∀ l : List Value, l.length = 112 → l[0]? = some (.agg #[.int .i64 a0_0, .int .i64 a0_1, .slice A0_2 l0_2.length c0_2]) → l[1]? = some (.string a1) → l[2]? = some (.string a2) → (nth 0 (fb Try.f8)).wp Try.prog (bodyPost Try.prog Try.f8 (RB w r)) ⟨l.toArray, []⟩ w := by
    intro l hn h0 h1 h2
    have hF : Fr TT l [(0, .agg #[.int .i64 a0_0, .int .i64 a0_1, .slice A0_2 l0_2.length c0_2]), (1, .string a1), (2, .string a2)] :=
      Fr.of hn (by intro p hp; simp at hp; rcases hp with rfl | rfl | rfl <;> exact ⟨Nat.le_of_ble_eq_true rfl, by assumption⟩)
    refine dst rfl rfl (mkb 3 rfl rfl rfl hF (t := 26) (cs := #[.int .i64 a0_0, .int .i64 a0_1, .slice A0_2 l0_2.length c0_2]) (by have := run_box3 (.inl rfl) w a0_0 a0_1 (.slice A0_2 l0_2.length c0_2) rfl; simp only [execOp, hF.eval (x := .tmp 0) rfl]; simp [this]) fun l w1 g3 s1 z1 kg B1 hF => ?_)
    refine runE 1 hF trivial rfl fun l hF => (?_ : (rr _).wp _ _ _ _)
    have hJ : JL w g3 a0_0 a0_1 A0_2 l0_2.length c0_2 w1 := ⟨B1, kg⟩
    have hR : ∀ x, JL w g3 a0_0 a0_1 A0_2 l0_2.length c0_2 x → RB w r (.returned (.bool r)) x := fun x hx => ⟨rfl, hx.b⟩
    have hF := (hF.sel (M := [(1, .string a1), (2, .string a2), (3, .pointer (some ⟨g3, 0, none⟩))]) rfl).real (J' := JL w g3 a0_0 a0_1 A0_2 l0_2.length c0_2) rfl
    replace hF := hF.ld 26 3 (by decide) rfl (by decide) fun w h => h.g.load3 (.inl rfl)
    refine sq2 rfl (iforf (R := RB w r) (fn := Try.f8) (rs := 6) (r := r) rfl hJ hR rfl rfl rfl (fun _ _ h => h) fun S kt kf => ?_)
    refine rsp 3 20 hF hJ rfl rfl (fun hv l hF => ?_) fun hv l hF => ?_
    · rw [if_pos (of_decide_eq_true hv)] at h; exact kt l _ hF rfl h
    rw [if_neg (of_decide_eq_false hv)] at h
    refine kf l _ hF rfl (?_ : (rr _).wp _ _ _ _)
    refine sq2 rfl (iforf (R := RB w r) (fn := Try.f8) (rs := 6) (r := r) rfl hJ hR rfl rfl rfl (fun _ _ h => h) fun S kt kf => ?_)
    refine rsp 3 23 hF hJ rfl rfl (fun hv l hF => ?_) fun hv l hF => ?_
    · rw [if_pos (of_decide_eq_true hv)] at h; exact kt l _ hF rfl h
    rw [if_neg (of_decide_eq_false hv)] at h
    refine kf l _ hF rfl (?_ : (rr _).wp _ _ _ _)
    have y0 := Option.bind_eq_some_iff.mp h
    clear h
    obtain ⟨left, e1, h⟩ := y0
    refine dst rfl rfl (runE 1 hF hJ rfl fun l hF => (?_ : (rr _).wp _ _ _ _))
    refine cst 2 1 hF hJ JL.stb Try.func14 rfl rfl rfl rfl rfl rfl rfl (by kernel_rfl) rfl rfl (fun hJ => laws_szGears.calls k a0_0 a0_1 A0_2 c0_2 l0_2 1048576 left _ (Kd.C_below hr0_2 hJ.b) hc0_2 e1) rfl fun l w2 hF hJ => ?_
    refine sq2 rfl (iforf (R := RB w r) (fn := Try.f8) (rs := 6) (r := r) rfl hJ hR rfl rfl rfl (fun _ _ h => h) fun S kt kf => ?_)
    refine rsp 2 28 hF hJ rfl rfl (fun hv l hF => ?_) fun hv l hF => ?_
    · rw [if_pos (of_decide_eq_true hv)] at h; exact kt l _ hF rfl h
    rw [if_neg (of_decide_eq_false hv)] at h
    refine kf l _ hF rfl (?_ : (rr _).wp _ _ _ _)
    clear kt kf S
    have y0 := Option.bind_eq_some_iff.mp h
    clear h
    obtain ⟨⟨W, D, ks⟩, e2, h⟩ := y0; dsimp only at h
    have y0 := Option.bind_eq_some_iff.mp h
    clear h
    obtain ⟨⟨wl, wb⟩, e3, h⟩ := y0; dsimp only at h
    have y0 := Option.bind_eq_some_iff.mp h
    clear h
    obtain ⟨⟨gl, gb⟩, e4, h⟩ := y0; dsimp only at h
    have y0 := Option.bind_eq_some_iff.mp h
    clear h
    obtain ⟨b5, e5, h⟩ := y0
    have y5 := some_of_if h
    clear h
    obtain ⟨rfl, h⟩ := y5
    have y6 := some_of_if h
    clear h
    obtain ⟨rfl, h⟩ := y6
    have y0 := Option.bind_eq_some_iff.mp h
    clear h
    obtain ⟨b6, e6, h⟩ := y0
    have y7 := some_of_if h
    clear h
    obtain ⟨rfl, h⟩ := y7
    have y0 := Option.bind_eq_some_iff.mp h
    clear h
    obtain ⟨⟨mk, ks2⟩, e7, h⟩ := y0; dsimp only at h
    have h7 : ¬ mk < 0 := by
      intro hm
      rw [if_pos hm] at h
      exact absurd h (by simp)
    rw [if_neg h7] at h
    have y0 := Option.bind_eq_some_iff.mp h
    clear h
    obtain ⟨⟨m, gl2⟩, e8, h⟩ := y0; dsimp only at h
    have y0 := Option.bind_eq_some_iff.mp h
    clear h
    obtain ⟨q, e9, h⟩ := y0
    have h9 : ¬ q < 0 := by
      intro hm
      rw [if_pos hm] at h
      exact absurd h (by simp)
    rw [if_neg h9] at h
    have y8 := some_of_if h
    clear h
    obtain ⟨rfl, h⟩ := y8
    obtain rfl := Option.some.inj h
    -- w0, w1 := spec.TimesFor(toGears(aG), ..)
    refine dst rfl rfl (run_ 1 rfl hF hJ fun l hF => ?_)
    refine callR Try.func16 rfl rfl rfl rfl (by kernel_rfl) rfl hF rfl (laws_toGears.calls k a0_0 a0_1 A0_2 c0_2 l0_2 W D ks _ (Kd.C_below hr0_2 hJ.b) hc0_2 e2) fun e w3 hh => ?_
    obtain ⟨v3, rfl, hs3, hb3⟩ := hh
    obtain ⟨A3, c3, rfl, hc3, hC3⟩ := Kd.S_reads hs3
    replace hJ := JL.stb _ _ hJ hb3
    refine ⟨_, rfl, fun l hF => run_ 2 rfl hF hJ fun l hF => ?_⟩
    refine callR Try.func32 rfl rfl rfl rfl (by kernel_rfl) rfl hF rfl (spec_TimesFor.calls k W D A3 c3 ks a1 a2 wl gb _ hC3 hc3 e3) fun e w4 hh => ?_
    obtain ⟨v4, rfl, hr4, hb4⟩ := hh
    obtain ⟨A8, c8, rfl⟩ := Kd.R_slice hr4
    have hC8 := (Kd.R_reads' hr4).2.2
    have hq8 := (Kd.R_reads' hr4).2.1
    replace hJ := JL.stb _ _ hJ hb4
    refine ⟨_, rfl, fun l hF => runE 5 hF hJ rfl fun l hF => (?_ : (rr _).wp _ _ _ _)⟩
    -- x0 := toGears(aG)
    refine dst rfl rfl (run_ 1 rfl hF hJ fun l hF => ?_)
    refine callR Try.func16 rfl rfl rfl rfl (by kernel_rfl) rfl hF rfl (laws_toGears.calls k a0_0 a0_1 A0_2 c0_2 l0_2 W D ks _ (Kd.C_below hr0_2 hJ.b) hc0_2 e2) fun e w5 hh => ?_
    obtain ⟨v5, rfl, hs5, hb5⟩ := hh
    obtain ⟨A5, c5, rfl, hc5, hC5⟩ := Kd.S_reads hs5
    have hJ4 := hJ
    replace hJ := JL.stb _ _ hJ hb5
    refine ⟨_, rfl, fun l hF => ?_⟩
    refine mkb 10 rfl rfl rfl hF (t := 31) (cs := #[.int .i64 0, .int .i64 0, .slice none 0 0]) (by have := run_alloc31 w5; simp only [execOp]; simp [this]) fun l w6 gx s6 z6 kx B6 hF => ?_
    have nx : g3 ≠ gx := by have := blk_lt hJ.g; omega
    have hx4 : w4.heap.size ≤ gx := by have := below_size hb5; omega
    have hX : Below w4.heap.size w4 w6 := below_step hb5 B6
    have kx2 : cl (((w6.setCell ⟨gx, 0, none⟩ (.int .i64 W)).setCell ⟨gx, 1, none⟩ (.int .i64 D)).setCell ⟨gx, 2, none⟩ (.slice A5 ks.length c5)) gx 31 #[.int .i64 W, .int .i64 D, .slice A5 ks.length c5] := blk_put (cs := #[.int .i64 W, .int .i64 D, .slice none 0 0]) (blk_put (cs := #[.int .i64 W, .int .i64 0, .slice none 0 0]) (blk_put (cs := #[.int .i64 0, .int .i64 0, .slice none 0 0]) kx 0 _ rfl) 1 _ rfl) 2 _ rfl
    have hs6 := Kd.S_below (Kd.S_mono (Kd.S_bound hs5) (ok' := fun k => w4.heap.size ≤ k ∧ k < w5.heap.size) (fun k hk => ⟨hk.2.1, hk.2.2.1⟩)) B6
    have hs7 : Kd.S (Kd.slice 3 (Kd.int .i64)) 46 (((w6.setCell ⟨gx, 0, none⟩ (.int .i64 W)).setCell ⟨gx, 1, none⟩ (.int .i64 D)).setCell ⟨gx, 2, none⟩ (.slice A5 ks.length c5)) w4.heap.size (fun k => w4.heap.size ≤ k ∧ k < w5.heap.size) (.slice A5 ks.length c5) ks := Kd.S_step hs6 (fun k hk _ => by
      have n : k ≠ gx := by omega
      exact (Below.heap_setCell _ _ _ _ n).trans ((Below.heap_setCell _ _ _ _ n).trans (Below.heap_setCell _ _ _ _ n)))
    replace hX : Below w4.heap.size w4 (((w6.setCell ⟨gx, 0, none⟩ (.int .i64 W)).setCell ⟨gx, 1, none⟩ (.int .i64 D)).setCell ⟨gx, 2, none⟩ (.slice A5 ks.length c5)) := below_set (below_set (below_set hX hx4) hx4) hx4
    refine stor hF rfl rfl (kx.store31 (x := 0) (y := 0) (u := .slice none 0 0)) (wpList_nil (?_ : (rr _).wp _ _ _ _))
    have hgx : gx < (((w6.setCell ⟨gx, 0, none⟩ (.int .i64 W)).setCell ⟨gx, 1, none⟩ (.int .i64 D)).setCell ⟨gx, 2, none⟩ (.slice A5 ks.length c5)).heap.size := blk_lt kx2
    generalize ((w6.setCell ⟨gx, 0, none⟩ (.int .i64 W)).setCell ⟨gx, 1, none⟩ (.int .i64 D)).setCell ⟨gx, 2, none⟩ (.slice A5 ks.length c5) = w7 at kx2 hs7 hX hgx ⊢
    clear kx hs6 B6
    replace hJ := JL.stb _ _ hJ4 hX
    -- g0, g1 := impl.TimesFor(x0, ..)
    refine dst rfl rfl (one1 40 rfl rfl rfl hF (v := .agg #[.int .i64 W, .int .i64 D, .slice A5 ks.length c5]) (w1 := w7) (by have := kx2.load3 (.inr rfl); simp only [execOp, hF.eval (x := .tmp 10) rfl]; simp [this]) fun l hF => run_ 2 rfl hF hJ fun l hF => ?_)
    refine callR Try.func33 rfl rfl rfl rfl (by kernel_rfl) rfl hF rfl (impl_TimesFor.calls k W D A5 c5 ks a1 a2 gl gb _ (Kd.S_reads' hs7).2.2 (Kd.S_reads' hs7).2.1 e4) fun e w8 hh => ?_
    obtain ⟨v8, rfl, hr8, hb8⟩ := hh
    obtain ⟨A11, c11, rfl⟩ := Kd.R_slice hr8
    have hr11 := Kd.R_lower (Kd.R_mono (Kd.R_bound hr8) (ok' := fun k => w7.heap.size ≤ k) (fun k hk => hk.2.1)) (below_size hX)
    replace hX := below_step hX hb8
    replace hJ := JL.stb _ _ hJ4 hX
    replace kx2 := kx2.below hb8
    replace hs7 := Kd.S_below hs7 hb8
    clear hr8 hb8
    refine ⟨_, rfl, fun l hF => runE 5 hF hJ rfl fun l hF => (?_ : (rr _).wp _ _ _ _)⟩
    -- if !eqIntS(g0, w0) ..
    refine sq2 rfl (passN (J := JL w g3 a0_0 a0_1 A0_2 l0_2.length c0_2) rfl fun S kS => run_ 2 rfl hF hJ fun l hF => ?_)
    refine callR Try.func31 rfl rfl rfl rfl (by kernel_rfl) rfl hF rfl (laws_eqIntS.calls k A11 c11 gl A8 c8 wl true _ (Kd.R_reads' hr11).2.2 (Kd.R_reads' hr11).2.1 (Kd.C_below hC8 hX) hq8 e5) fun e w9 hh => ?_
    obtain ⟨rfl, hd⟩ := hh
    replace hX := below_step hX hd.below
    replace hJ := JL.stb _ _ hJ4 hX
    replace kx2 := kx2.below hd.below
    replace hs7 := Kd.S_below hs7 hd.below
    replace hr11 := Kd.R_below hr11 hd.below
    clear hd
    refine ⟨_, rfl, fun l hF => runE 6 hF hJ rfl fun l hF => ?_⟩
    refine kS l _ w9 (gb != gb) hF rfl (by simp) (?_ : (rr _).wp _ _ _ _)
    clear kS S
    -- if !eqGears(x0, toGears(aG))
    refine sq2 rfl (passO (J := JL w g3 a0_0 a0_1 A0_2 l0_2.length c0_2) (V := fun x => JL w g3 a0_0 a0_1 A0_2 l0_2.length c0_2 x ∧ cl x gx 31 #[.int .i64 W, .int .i64 D, .slice A5 ks.length c5]) (N := 5) rfl ⟨JL.stb _ _ hJ (below_drew1 (Below.refl _ _)), kx2.below (below_drew1 (Below.refl _ _))⟩ (by kernel_rfl) rfl rfl fun S kS => ?_)
    have hbd := below_drew1 (Below.refl w9.heap.size w9)
    replace hX := below_step hX hbd
    replace hJ := JL.stb _ _ hJ4 hX
    replace kx2 := kx2.below hbd
    replace hs7 := Kd.S_below hs7 hbd
    replace hr11 := Kd.R_below hr11 hbd
    clear hbd
    generalize w9.drew = w10 at hX hJ kx2 hs7 hr11 ⊢
    refine anyV (v := .agg #[.int .i64 W, .int .i64 D, .slice A5 ks.length c5]) 0 55 (bn 5 1) (fun c a N v w h => by cases N <;> exact h) hF ⟨hJ, kx2⟩ rfl rfl rfl rfl (fun w hw => by have h31 := hw.2.load3 (.inr rfl); have e := hF.eval (x := .tmp 10) (v := .pointer (some ⟨gx, 0, none⟩)) rfl; unfold execOp; simp [e, h31]) (by kernel_rfl) fun l hF => ?_
    refine anys (fun _ h => h.1) 1 1 rfl (B := []) (by kernel_rfl) (fun c a N v w h => by cases N <;> exact h) hF ⟨hJ, kx2⟩ (by kernel_rfl) rfl fun l hF => ?_
    refine callAR 2 (bn 5 3) rfl hF Try.func16 rfl (by kernel_rfl) rfl rfl rfl rfl (by kernel_rfl) rfl rfl (laws_toGears.calls k a0_0 a0_1 A0_2 c0_2 l0_2 W D ks _ (Kd.C_below hr0_2 hJ.b) hc0_2 e2) fun e w11 hh => ?_
    obtain ⟨v11, rfl, hs11, hb11⟩ := hh
    obtain ⟨A9, c9, rfl, hc9, hC9⟩ := Kd.S_reads hs11
    replace hX := below_step hX hb11
    replace hJ := JL.stb _ _ hJ4 hX
    replace kx2 := kx2.below hb11
    replace hs7 := Kd.S_below hs7 hb11
    replace hr11 := Kd.R_below hr11 hb11
    refine ⟨_, rfl, ⟨hJ, kx2⟩, fun l hF => ?_⟩
    refine callAR 3 (bn 5 4) rfl hF Try.func18 rfl (by kernel_rfl) rfl rfl rfl rfl (by kernel_rfl) rfl rfl (laws_eqGears.calls k W D A5 c5 ks W D A9 c9 ks true _ (Kd.S_reads' hs7).2.2 (Kd.S_reads' hs7).2.1 hC9 hc9 e6) fun e w12 hh => ?_
    obtain ⟨rfl, hb12⟩ := hh
    replace hX := below_step hX hb12
    replace hJ := JL.stb _ _ hJ4 hX
    replace kx2 := kx2.below hb12
    replace hs7 := Kd.S_below hs7 hb12
    replace hr11 := Kd.R_below hr11 hb12
    clear hb11 hb12 hs11 hC9
    refine ⟨_, rfl, ⟨hJ, kx2⟩, fun l hF => ?_⟩
    refine anys (fun _ h => h.1) 1 4 rfl (B := []) (by kernel_rfl) (fun c a N v w h => by cases N <;> exact h) hF ⟨hJ, kx2⟩ (by kernel_rfl) rfl fun l hF => done_ (by kernel_rfl) ?_
    refine kS l _ w12 (!true) hF rfl rfl (?_ : (rr _).wp _ _ _ _)
    clear kS S
    -- k = markGears(x0, k)
    refine dst rfl rfl (runE 1 hF hJ rfl fun l hF => (?_ : (rr _).wp _ _ _ _))
    refine dst rfl rfl (one1 60 rfl rfl rfl hF (v := .agg #[.int .i64 W, .int .i64 D, .slice A5 ks.length c5]) (w1 := w12) (by have := kx2.load3 (.inr rfl); simp only [execOp, hF.eval (x := .tmp 10) rfl]; simp [this]) fun l hF => run_ 1 rfl hF hJ fun l hF => ?_)
    refine callR Try.func22 rfl rfl rfl rfl (by kernel_rfl) rfl hF rfl (laws_markGears.calls k W D _ _ ks 1 mk ks2 w4 w12 hX hs7 e7) fun e w13 hh => ?_
    obtain ⟨rfl, _, hX2, hkp⟩ := hh
    have h57 : w5.heap.size < w7.heap.size := by omega
    replace hr11 := Kd.R_step hr11 (fun k hk hlt => hkp.2 k hlt (fun hs => by have := hs.2; omega))
    replace hX := hX2
    replace hJ := JL.stb _ _ hJ4 hX
    clear hkp hX2 hs7 kx2
    refine ⟨_, rfl, fun l hF => runE 1 hF hJ rfl fun l hF => (?_ : (rr _).wp _ _ _ _)⟩
    -- if k < 0 || !eqIntS(g0, w0) ..
    refine sq2 rfl (passN (J := JL w g3 a0_0 a0_1 A0_2 l0_2.length c0_2) rfl fun S kS => run_ 3 rfl hF hJ fun l hF => ?_)
    replace hF := hF.bool (d := 65) (b := decide (mk < 0)) rfl (decide_eq_false h7)
    refine run_ 2 rfl hF hJ fun l hF => ?_
    refine callW Try.func31 rfl rfl rfl rfl (by kernel_rfl) rfl hF rfl (laws_eqIntS.calls k A11 c11 gl A8 c8 wl true _ (Kd.R_reads' hr11).2.2 (Kd.R_reads' hr11).2.1 (Kd.C_below hC8 hX) hq8 e5) fun e w14 hh => ?_
    obtain ⟨rfl, hd⟩ := hh
    replace hX := below_step hX hd.below
    replace hJ := JL.stb _ _ hJ4 hX
    replace hr11 := Kd.R_below hr11 hd.below
    clear hd
    refine ⟨_, rfl, fun l hF => runE 7 hF hJ rfl fun l hF => ?_⟩
    refine kS l _ w14 (gb != gb) hF rfl (by simp) (?_ : (rr _).wp _ _ _ _)
    clear kS S
    -- m = markIntS(g0, m)
    refine dst rfl rfl (runE 1 hF hJ rfl fun l hF => (?_ : (rr _).wp _ _ _ _))
    refine dst rfl rfl (run_ 2 rfl hF hJ fun l hF => ?_)
    refine callR Try.func34 rfl rfl rfl rfl (by kernel_rfl) rfl hF rfl (laws_markIntS.calls k _ _ gl 1 q gl2 w4 w14 hX hr11 e8) fun e w15 hh => ?_
    obtain ⟨rfl, hr15, hX2, _⟩ := hh
    replace hX := hX2
    replace hJ := JL.stb _ _ hJ4 hX
    replace hr11 := hr15
    clear hr15 hX2
    have hlen := (Kd.R_reads' hr11).1
    refine ⟨_, rfl, fun l hF => runE 1 hF hJ rfl fun l hF => (?_ : (rr _).wp _ _ _ _)⟩
    replace hF := hF.sel (M := [(1, .string a1), (2, .string a2), (3, .pointer (some ⟨g3, 0, none⟩)), (26003, .agg #[.int .i64 a0_0, .int .i64 a0_1, .slice A0_2 l0_2.length c0_2]), (8, .slice A8 wl.length c8), (9, .bool gb), (11, .slice A11 gl.length c11), (14, .int .i64 q)]) rfl
    rw [hlen] at hF hr11
    -- q = heldIntS(g0, q)
    refine dst rfl rfl (runE 1 hF hJ rfl fun l hF => (?_ : (rr _).wp _ _ _ _))
    refine dst rfl rfl (run_ 2 rfl hF hJ fun l hF => ?_)
    refine callR Try.func35 rfl rfl rfl rfl (by kernel_rfl) rfl hF rfl (laws_heldIntS.calls k A11 c11 gl2 1 q _ (Kd.R_reads' hr11).2.2 (Kd.R_reads' hr11).2.1 e9) fun e x hh => ?_
    obtain ⟨rfl, hd⟩ := hh
    replace hX := below_step hX hd.below
    replace hr11 := Kd.R_below hr11 hd.below
    replace hJ := JL.stb _ _ hJ4 hX
    clear hd
    refine ⟨_, rfl, fun l hF => runE 1 hF hJ rfl fun l hF => (?_ : (rr _).wp _ _ _ _)⟩
    refine sq2 rfl (passN (J := JL w g3 a0_0 a0_1 A0_2 l0_2.length c0_2) rfl fun S kS => runE 2 hF hJ rfl fun l hF => ?_)
    refine kS l _ _ (decide (q < 0)) hF rfl (decide_eq_false h9) (?_ : (rr _).wp _ _ _ _)
    clear kS S
    refine sq2 rfl (passN (J := JL w g3 a0_0 a0_1 A0_2 l0_2.length c0_2) rfl fun S kS => runE 3 hF hJ rfl fun l hF => ?_)
    refine kS l _ _ (q != q) hF rfl (by simp) (?_ : (rr _).wp _ _ _ _)
    clear kS S
    -- h0, h1 := impl.TimesFor(toGears(aG), ..)
    refine dst rfl rfl (run_ 1 rfl hF hJ fun l hF => ?_)
    refine callR Try.func16 rfl rfl rfl rfl (by kernel_rfl) rfl hF rfl (laws_toGears.calls k a0_0 a0_1 A0_2 c0_2 l0_2 W D ks _ (Kd.C_below hr0_2 hJ.b) hc0_2 e2) fun e w16 hh => ?_
    obtain ⟨v16, rfl, hs16, hb16⟩ := hh
    obtain ⟨A16, c16, rfl, hc16, hC16⟩ := Kd.S_reads hs16
    replace hX := below_step hX hb16
    replace hJ := JL.stb _ _ hJ4 hX
    replace hr11 := Kd.R_below hr11 hb16
    refine ⟨_, rfl, fun l hF => run_ 2 rfl hF hJ fun l hF => ?_⟩
    refine callR Try.func33 rfl rfl rfl rfl (by kernel_rfl) rfl hF rfl (impl_TimesFor.calls k W D A16 c16 ks a1 a2 gl gb _ hC16 hc16 e4) fun e w17 hh => ?_
    obtain ⟨v17, rfl, hr17, hb17⟩ := hh
    obtain ⟨A17, c17, rfl⟩ := Kd.R_slice hr17
    have hC17 := (Kd.R_reads' hr17).2.2
    have hq17 := (Kd.R_reads' hr17).2.1
    replace hX := below_step hX hb17
    replace hJ := JL.stb _ _ hJ4 hX
    replace hr11 := Kd.R_below hr11 hb17
    refine ⟨_, rfl, fun l hF => runE 5 hF hJ rfl fun l hF => (?_ : (rr _).wp _ _ _ _)⟩
    refine sq2 rfl (passN (J := JL w g3 a0_0 a0_1 A0_2 l0_2.length c0_2) rfl fun S kS => run_ 2 rfl hF hJ fun l hF => ?_)
    refine callR Try.func31 rfl rfl rfl rfl (by kernel_rfl) rfl hF rfl (laws_eqIntS.calls k A17 c17 gl A8 c8 wl true _ hC17 hq17 (Kd.C_below hC8 hX) hq8 e5) fun e w18 hh => ?_
    obtain ⟨rfl, hd⟩ := hh
    replace hX := below_step hX hd.below
    replace hJ := JL.stb _ _ hJ4 hX
    replace hr11 := Kd.R_below hr11 hd.below
    clear hd
    refine ⟨_, rfl, fun l hF => runE 6 hF hJ rfl fun l hF => ?_⟩
    refine kS l _ w18 (gb != gb) hF rfl (by simp) (?_ : (rr _).wp _ _ _ _)
    clear kS S
    refine dst rfl rfl (runE 1 hF hJ rfl fun l hF => (?_ : (rr _).wp _ _ _ _))
    refine dst rfl rfl (run_ 2 rfl hF hJ fun l hF => ?_)
    refine callR Try.func35 rfl rfl rfl rfl (by kernel_rfl) rfl hF rfl (laws_heldIntS.calls k A11 c11 gl2 1 q _ (Kd.R_reads' hr11).2.2 (Kd.R_reads' hr11).2.1 e9) fun e x hh => ?_
    obtain ⟨rfl, hd⟩ := hh
    replace hX := below_step hX hd.below
    replace hr11 := Kd.R_below hr11 hd.below
    replace hJ := JL.stb _ _ hJ4 hX
    clear hd
    refine ⟨_, rfl, fun l hF => runE 1 hF hJ rfl fun l hF => (?_ : (rr _).wp _ _ _ _)⟩
    refine sq2 rfl (passN (J := JL w g3 a0_0 a0_1 A0_2 l0_2.length c0_2) rfl fun S kS => runE 2 hF hJ rfl fun l hF => ?_)
    refine kS l _ _ (decide (q < 0)) hF rfl (decide_eq_false h9) (?_ : (rr _).wp _ _ _ _)
    clear kS S
    refine sq2 rfl (passN (J := JL w g3 a0_0 a0_1 A0_2 l0_2.length c0_2) rfl fun S kS => runE 3 hF hJ rfl fun l hF => ?_)
    refine kS l _ _ (q != q) hF rfl (by simp) (?_ : (rr _).wp _ _ _ _)
    clear kS S
    exact retst (fn := Try.f8) (rs := 6) (R := RB w true) 1 rfl hF hJ rfl rfl rfl (fun _ _ h => h) ⟨rfl, hJ.b⟩
  exact key _ rfl rfl rfl rfl
end Go.Proofs.Ytffjfnoocbgajaa.M
