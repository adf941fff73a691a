import Derived.Test.YtajhahafgnefcaaR0
import Derived.Test.YtajhahafgnefcaaR18
import Derived.Test.YtajhahafgnefcaaR20
import Derived.Test.YtajhahafgnefcaaR24
namespace Go.Proofs.Ytajhahafgnefcaa.R
open Go.RowKit Go.Proofs.YtajhahafgnefcaaW.PrintWords Go.Proofs.YtajhahafgnefcaaW.PrintLast Go.Proofs.YtajhahafgnefcaaW.PrintMore
set_option linter.unusedVariables false
set_option linter.unusedSimpArgs false

/-! ### Ft: function 53 -/
def Ft.l0 : Nat → List ByteArray → List ByteArray → Int → Option Bool
 | 0, _, _, _ => none
 | k + 1, l1, l2, x => if x < (l2.length : Int) then (if 0 ≤ x then ((FF.f k l1 (rdOf ByteArray.empty l2 x)).bind fun b => if b = true then some true else Ft.l0 k l1 l2 (wrap64 (x + 1))) else none) else some false
def Ft.f (k : Nat) (a0_0 : Int) (a0_1 : Int) (l1 : List ByteArray) (l2 : List ByteArray) : Option Bool := (Fl.f k a0_0 a0_1 l1).bind fun t => if t = true then ((FJ.f k a0_0 a0_1 l2).bind fun u => if u = true then ((Ft.l0 k l1 l2 0).bind fun b => some (!b)) else some false) else some false
theorem Ft.mono_l : ∀ k, (∀ y0 y1 y2, LeO (Ft.l0 k y0 y1 y2) (Ft.l0 (k + 1) y0 y1 y2))
 | 0 => fun _ _ _ r h => by simp [Ft.l0] at h
 | k + 1 => by
  have ih0 := Ft.mono_l k
  ·intro y0 y1 y2
   unfold Ft.l0
   repeat' (with_reducible first | exact ih0 _ _ _ | exact FF.mono _ _ _ | exact LeO.refl _ | exact LeO.none _ | refine LeO.ite ?_ ?_ | refine LeO.bind ?_ (fun _ => ?_))
theorem Ft.mono : ∀ a0 a1 a2 a3 k, LeO (Ft.f k a0 a1 a2 a3) (Ft.f (k + 1) a0 a1 a2 a3) := by
 intro a0 a1 a2 a3 k
 have ih0 := Ft.mono_l k
 unfold Ft.f
 repeat' (with_reducible first | exact ih0 _ _ _ | exact Fl.mono _ _ _ _ | exact FJ.mono _ _ _ _ | exact LeO.refl _ | exact LeO.none _ | refine LeO.ite ?_ ?_ | refine LeO.bind ?_ (fun _ => ?_))
set_option maxHeartbeats 8000000 in
set_option maxRecDepth 100000 in
theorem Ft.lit (k : Nat) (gb : Nat) (A1 : Option Addr) (c1 : Nat) (l1 : List ByteArray) (s : ByteArray) (b : Bool) (w : World) (hbox : w.heap[gb]? = some (.cells #[.slice A1 l1.length c1] 24 (0, 0))) (hr1 : Kd.C Kd.string w A1 l1.length l1) (hc1 : l1.length ≤ c1) (h : FF.f k l1 s = some b) :
  Calls Try.prog 90 #[.string s, .pointer (some ⟨gb, 0, none⟩)] w fun e w' => e = .returned (.bool b) ∧ Drawn0 w w' := by
 have hx0 := (blk_cell hbox 0).trans rfl
 have hf0 := blk_frozen hbox 0
 clear hbox; have HR1 := Aside0.mk hr1
 have HC1 := Aside0.mk hc1
 clear hr1 hc1; have H := Aside0.mk h
 clear h; go_enter Try.func90, Try.ntmps90
 go_wp2_with (go_at_call 91; refine (FF.calls k A1 c1 l1 s b _ HR1.out HC1.out H.out).mono ?_; rintro e w9 ⟨rfl, ⟨m1, rfl⟩⟩)
 go_ret
 exact ⟨by first | rfl | (simp; done) | (simp [*]; done), by repeat (first | exact Drawn0.refl _ | apply Drawn0.step)⟩
set_option maxHeartbeats 8000000 in
set_option maxRecDepth 100000 in
theorem Ft.idx (k : Nat) (gb : Nat) (A1 : Option Addr) (c1 : Nat) (l1 : List ByteArray) (A2 : Option Addr) (c2 : Nat) (l2 : List ByteArray) (b : Bool) (w : World) (hbox : w.heap[gb]? = some (.cells #[.slice A1 l1.length c1] 24 (0, 0))) (hr1 : Kd.C Kd.string w A1 l1.length l1) (hc1 : l1.length ≤ c1)
  (hr2 : Kd.C Kd.string w A2 l2.length l2) (hc2 : l2.length ≤ c2) (h : Ft.l0 k l1 l2 0 = some b) :
  Calls Try.prog 112 #[.slice A2 l2.length c2, .func (.func 90) #[] #[.pointer (some ⟨gb, 0, none⟩)]] w fun e w' => ∃ i : Int, e = .returned (.int .i64 i) ∧ decide (0 ≤ i) = b ∧ Drawn0 w w' := by
 have HR2 := Aside0.mk hr2
 have HC2 := Aside0.mk hc2
 have HK := Aside0.mk hbox
 have HR1 := Aside0.mk hr1
 have HC1 := Aside0.mk hc1
 clear hbox hr1 hc1; clear hr2 hc2; have H' := Aside0.mk h
 clear h; go_enter Try.func112, Try.ntmps112
 go_wp2
 go_loopg [5, 8] k (fun kq _ v8 w' => ∃ (x8_1 : Int), v8 = .int .i64 x8_1 ∧ Aside0 (Ft.l0 kq l1 l2 x8_1 = some b) ∧ Aside0 (kq ≤ k) ∧ Drawn0 w w')
 case atStart => exact ⟨(0), (by first | rfl | (simp; done) | (simp [*]; done)), H', ⟨Nat.le_refl _⟩, by repeat (first | exact Drawn0.refl _ | apply Drawn0.step)⟩
 case round =>
  clear H'; obtain ⟨x8_1, rfl, HA, HK1, ⟨m1, rfl⟩⟩ := hrel
  cases gk with
  | zero => exact absurd HA.out (by simp [Ft.l0])
  | succ k1 =>
   have H := HA.out
   clear HA; simp only [Ft.l0] at H
   by_cases c3 : x8_1 < (l2.length : Int)
   ·rw [if_pos c3] at H
    have c3b0 : decide (x8_1 < (l2.length : Int)) = true := decide_eq_true c3
    by_cases c4 : 0 ≤ x8_1
    ·rw [if_pos c4] at H
     have c4b0 : decide (0 ≤ x8_1) = true := decide_eq_true c4
     replace H := Option.bind_eq_some_iff.mp H
     obtain ⟨b1, A50, H⟩ := H
     have hx8 : IntKind.i64.wrap x8_1 = x8_1 ∨ True := Or.inr trivial
     have A5 := Aside0.mk A50
     clear A50; have G8 := Aside0.mk c4
     obtain ⟨ad202, e202, hx202_0⟩ := Kd.at_string HR2.out x8_1 c4 c3
     cases e202
     replace c3 := eq_true c3
     replace c4 := eq_true c4
     have hcall := Aside0.mk (Ft.lit k1 gb A1 c1 l1 (rdOf ByteArray.empty l2 x8_1) b1 (w.drewN m1) (by exact HK.out) (Kd.C_drewN HR1.out m1) HC1.out A5.out)
     cases b1 with
     | true =>
      rw [if_pos rfl] at H
      have hb := Aside0.mk (Option.some.inj H)
      clear H; go_wp2_with (go_at_call 90; refine hcall.out.mono ?_; rintro e w9 ⟨rfl, ⟨m2, rfl⟩⟩)
      go_ret
      exact ⟨_, by first | rfl | (simp; done) | (simp [*]; done), by rw [← hb.out]; exact decide_eq_true G8.out, by repeat (first | exact Drawn0.refl _ | apply Drawn0.step)⟩
     | false =>
      rw [if_neg (by decide)] at H
      have H' := Aside0.mk H
      clear H; go_wp2_with (go_at_call 90; refine hcall.out.mono ?_; rintro e w9 ⟨rfl, ⟨m2, rfl⟩⟩)
      go_roundg k1
      case measure => have := HK1.out; omega
      case rel => exact ⟨(wrap64 (x8_1 + 1)), (by first | rfl | (simp; done) | (simp [*]; done)), H', ⟨by have := HK1.out; omega⟩, by repeat (first | exact Drawn0.refl _ | apply Drawn0.step)⟩
    ·rw [if_neg c4] at H
     exact absurd H (by simp)
   ·rw [if_neg c3] at H
    have c3b0 : decide (x8_1 < (l2.length : Int)) = false := decide_eq_false c3
    clear c3; have hb := Aside0.mk (Option.some.inj H)
    clear H; go_wp2
    go_ret
    exact ⟨_, by first | rfl | (simp; done) | (simp [*]; done), by rw [← hb.out]; rfl, by repeat (first | exact Drawn0.refl _ | apply Drawn0.step)⟩
set_option maxHeartbeats 8000000 in
set_option maxRecDepth 100000 in
theorem Ft.con (k : Nat) (gb : Nat) (A1 : Option Addr) (c1 : Nat) (l1 : List ByteArray) (A2 : Option Addr) (c2 : Nat) (l2 : List ByteArray) (b : Bool) (w : World) (hbox : w.heap[gb]? = some (.cells #[.slice A1 l1.length c1] 24 (0, 0))) (hr1 : Kd.C Kd.string w A1 l1.length l1) (hc1 : l1.length ≤ c1)
  (hr2 : Kd.C Kd.string w A2 l2.length l2) (hc2 : l2.length ≤ c2) (h : Ft.l0 k l1 l2 0 = some b) :
  Calls Try.prog 89 #[.slice A2 l2.length c2, .func (.func 90) #[] #[.pointer (some ⟨gb, 0, none⟩)]] w fun e w' => e = .returned (.bool b) ∧ Drawn0 w w' := by
 have hcall := Aside0.mk (Ft.idx k gb A1 c1 l1 A2 c2 l2 b w hbox hr1 hc1 hr2 hc2 h)
 clear hbox hr1 hc1 hr2 hc2 h; go_enter Try.func89, Try.ntmps89
 go_wp2_with (go_at_call 112; refine hcall.out.mono ?_; rintro e w9 ⟨i, rfl, hi0, ⟨m2, rfl⟩⟩; have hi := Aside0.mk hi0; clear hi0)
 go_ret
 exact ⟨by first | (rw [← hi.out]; done) | (rw [← hi.out]; rfl) | (simp [← hi.out]; done), by repeat (first | exact Drawn0.refl _ | apply Drawn0.step)⟩
set_option maxHeartbeats 8000000 in
set_option maxRecDepth 100000 in
theorem Ft.calls (k : Nat) (a0_0 : Int) (a0_1 : Int) (A1 : Option Addr) (c1 : Nat) (l1 : List ByteArray) (A2 : Option Addr) (c2 : Nat) (l2 : List ByteArray) (r : Bool) (w : World) (hr1 : Kd.C Kd.string w A1 l1.length l1) (hc1 : l1.length ≤ c1) (hr2 : Kd.C Kd.string w A2 l2.length l2) (hc2 : l2.length ≤ c2) (h : Ft.f k a0_0 a0_1 l1 l2 = some r) :
  Calls Try.prog 53 #[.agg #[.int .i64 a0_0, .int .i64 a0_1], .slice A1 l1.length c1, .slice A2 l2.length c2] w fun e w' => e = .returned (.bool r) ∧ Below w.heap.size w w' := by
 have hu30 := Try.underlying30
 have HR1 := Aside0.mk hr1
 have HC1 := Aside0.mk hc1
 have HR2 := Aside0.mk hr2
 have HC2 := Aside0.mk hc2
 clear hr1 hc1 hr2 hc2; have H := Aside0.mk h
 clear h; go_enter Try.func53, Try.ntmps53
 go_upto_region 1 with (first
  | ((with_reducible refine gate_dst (N := 3) rfl ?_); refine box_event ?hg (N := 3) ?hd (cs := #[.int .i64 a0_0, .int .i64 a0_1]) (t := 30) ?hr ?_; (case hd => rfl); (case hg => rfl); (case hr => first | (go_simp; done) | (go_simp; rfl)); intro gb3 hg3 w4 hbox3 hb3; have HB4 := Aside0.mk hb3; have BK3 := Aside0.mk hbox3; clear hb3 hbox3 hg3)
  | ((with_reducible refine gate_dst (N := 4) rfl ?_); refine box_event ?hg (N := 4) ?hd (cs := #[.slice A1 l1.length c1]) (t := 24) ?hr ?_; (case hd => rfl); (case hg => rfl); (case hr => first | (go_simp; done) | (go_simp; rfl)); intro gb4 hg4 w5 hbox4 hb4; have HB := Aside0.mk (below_step HB4.out hb4); have BK4 := Aside0.mk hbox4; have n0_ := Aside0.mk (blk_below (g := gb3) (o := .cells #[.int .i64 a0_0, .int .i64 a0_1] 30 (0, 0)) BK3.out hb4); clear BK3; have BK3 := n0_; clear n0_; clear hb4 hbox4 hg4))
 have h := H.out
 clear H; unfold Ft.f at h
 replace h := Option.bind_eq_some_iff.mp h
 obtain ⟨t, hA, h⟩ := h
 have A5 := Aside0.mk hA
 clear hA; have hc3_0 : w5.cell? ⟨gb3, 0, none⟩ = some (.int .i64 a0_0) := (blk_cell BK3.out 0).trans rfl
 have hc3_1 : w5.cell? ⟨gb3, 1, none⟩ = some (.int .i64 a0_1) := (blk_cell BK3.out 1).trans rfl
 have hf3_0 := blk_frozen BK3.out 0
 have hf3_1 := blk_frozen BK3.out 1
 have hc4_0 : w5.cell? ⟨gb4, 0, none⟩ = some (.slice A1 l1.length c1) := (blk_cell BK4.out 0).trans rfl
 have hf4_0 := blk_frozen BK4.out 0
 cases t with
 | false =>
  rw [if_neg (by decide)] at h
  have hr := Aside0.mk (Option.some.inj h)
  clear h; go_wp2_with (first | (go_at_call 65; (with_reducible refine (Fl.calls k a0_0 a0_1 A1 c1 l1 false _ (Kd.C_below HR1.out HB.out) HC1.out A5.out).mono ?_); rintro e w9 ⟨rfl, hb⟩; have n0_ := Aside0.mk (below_step HB.out hb); clear HB; have HB := n0_; clear n0_ hb))
  go_ret
  exact ⟨by first | rfl | (rw [← hr.out]; rfl) | (rw [← hr.out]; simp; done), by repeat (first | exact HB.out | apply below_alloc | apply pw_below_drewN | apply below_drew1)⟩
 | true =>
  rw [if_pos rfl] at h
  replace h := Option.bind_eq_some_iff.mp h
  obtain ⟨u, hA, h⟩ := h
  have A6 := Aside0.mk hA
  clear hA; cases u with
  | false =>
   rw [if_neg (by decide)] at h
   have hr := Aside0.mk (Option.some.inj h)
   clear h; go_wp2_with (first
    | (go_at_call 65; (with_reducible refine (Fl.calls k a0_0 a0_1 A1 c1 l1 true _ (Kd.C_below HR1.out HB.out) HC1.out A5.out).mono ?_); rintro e w9 ⟨rfl, hb⟩; have n0_ := Aside0.mk (below_step HB.out hb); have n1_ := Aside0.mk (blk_below (g := gb3) (o := .cells #[.int .i64 a0_0, .int .i64 a0_1] 30 (0, 0)) BK3.out hb); clear HB BK3; have HB := n0_; have BK3 := n1_; have hd3_0 : w9.cell? ⟨gb3, 0, none⟩ = some (.int .i64 a0_0) := (blk_cell BK3.out 0).trans rfl; have hd3_1 : w9.cell? ⟨gb3, 1, none⟩ = some (.int .i64 a0_1) := (blk_cell BK3.out 1).trans rfl; clear n0_ n1_ hb)
    | (go_at_call 88; (with_reducible refine (FJ.calls k a0_0 a0_1 A2 c2 l2 false _ (Kd.C_below HR2.out HB.out) HC2.out A6.out).mono ?_); rintro e w10 ⟨rfl, hb⟩; have n0_ := Aside0.mk (below_step HB.out hb); clear HB; have HB := n0_; clear n0_ hb))
   go_ret
   exact ⟨by first | rfl | (rw [← hr.out]; rfl) | (rw [← hr.out]; simp; done), by repeat (first | exact HB.out | apply below_alloc | apply pw_below_drewN | apply below_drew1)⟩
  | true =>
   rw [if_pos rfl] at h
   replace h := Option.bind_eq_some_iff.mp h
   obtain ⟨b, hA, h⟩ := h
   have A7 := Aside0.mk hA
   clear hA; have hr := Aside0.mk (Option.some.inj h)
   clear h; go_wp2_with (first
    | (go_at_call 65; (with_reducible refine (Fl.calls k a0_0 a0_1 A1 c1 l1 true _ (Kd.C_below HR1.out HB.out) HC1.out A5.out).mono ?_); rintro e w9 ⟨rfl, hb⟩; have n0_ := Aside0.mk (below_step HB.out hb); have n1_ := Aside0.mk (blk_below (g := gb3) (o := .cells #[.int .i64 a0_0, .int .i64 a0_1] 30 (0, 0)) BK3.out hb); have n2_ := Aside0.mk (blk_below (g := gb4) (o := .cells #[.slice A1 l1.length c1] 24 (0, 0)) BK4.out hb); clear HB BK3 BK4; have HB := n0_; have BK3 := n1_; have BK4 := n2_; have hd3_0 : w9.cell? ⟨gb3, 0, none⟩ = some (.int .i64 a0_0) := (blk_cell BK3.out 0).trans rfl; have hd3_1 : w9.cell? ⟨gb3, 1, none⟩ = some (.int .i64 a0_1) := (blk_cell BK3.out 1).trans rfl; clear n0_ n1_ n2_ hb)
    | (go_at_call 88; (with_reducible refine (FJ.calls k a0_0 a0_1 A2 c2 l2 true _ (Kd.C_below HR2.out HB.out) HC2.out A6.out).mono ?_); rintro e w10 ⟨rfl, hb⟩; have n0_ := Aside0.mk (below_step HB.out hb); have n2_ := Aside0.mk (blk_below (g := gb4) (o := .cells #[.slice A1 l1.length c1] 24 (0, 0)) BK4.out hb); clear HB BK4; have HB := n0_; have BK4 := n2_; clear n0_ n2_ hb)
    | (go_at_call 89; (with_reducible refine (Ft.con k gb4 A1 c1 l1 A2 c2 l2 b _ BK4.out (Kd.C_below HR1.out HB.out) HC1.out (Kd.C_below HR2.out HB.out) HC2.out A7.out).mono ?_); rintro e w11 ⟨rfl, hd⟩; have n0_ := Aside0.mk (below_step HB.out hd.below); clear HB; have HB := n0_; clear n0_ hd))
   go_ret
   exact ⟨by first | rfl | (rw [← hr.out]; rfl) | (rw [← hr.out]; simp; done), by repeat (first | exact HB.out | apply below_alloc | apply pw_below_drewN | apply below_drew1)⟩

end Go.Proofs.Ytajhahafgnefcaa.R
