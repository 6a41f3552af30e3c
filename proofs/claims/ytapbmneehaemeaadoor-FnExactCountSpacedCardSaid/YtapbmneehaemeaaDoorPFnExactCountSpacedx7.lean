/- Proved: each Go function named here, called, comes to the answer of the Lean function beside it. Conditions: those that stand in each theorem. (Printed by this session's own turned copy of a printing program.) -/
import Derived.Test.YtapbmneehaemeaaDoorPFnExactCountSpacedx0
import Derived.Test.YtapbmneehaemeaaDoorPFnExactCountSpacedx5
import Derived.Test.YtapbmneehaemeaaDoorPFnExactCountSpacedx6
namespace Go.Proofs.YtapbmneehaemeaaDoor.PFnExactCountSpaced
open Go.RowKit Go.Proofs.YtapbmneehaemeaaDoorW.PrintWords Go.Proofs.YtapbmneehaemeaaDoorW.PrintLast Go.Proofs.YtapbmneehaemeaaDoorW.PrintMore
attribute [local go_sem] max2_int min2_int max_two min_two max_three min_three max_four min_four   -- for this text's walks alone
set_option linter.unusedVariables false
set_option linter.unusedSimpArgs false

/-! ### impl_set_has: function 71 -/
def impl_set_has.f (a0 : Int) (a1 : Int) : Option (Bool) := if 0 ≤ a1 then (some ((Go.bits .and .u32 (shr .u32 a0 a1) 1) == 1)) else (none)
set_option maxHeartbeats 8000000 in
set_option maxRecDepth 100000 in
theorem impl_set_has.calls (a0 : Int) (a1 : Int) (r : Bool) (w : World) (h : impl_set_has.f a0 a1 = some r) :
    Calls Tryd.prog 71 #[.int .u32 a0, .int .i64 a1] w fun e w' => e = .returned (.bool r) ∧ Drawn0 w w' := by
  have H : (if 0 ≤ a1 then (some ((Go.bits .and .u32 (shr .u32 a0 a1) 1) == 1)) else (none)) = some r := h
  clear h
  by_cases c3 : 0 ≤ a1
  · rw [if_pos c3] at H
    have c3b0 := eq_true c3
    have c3b1 : decide (0 ≤ a1) = true := decide_eq_true c3
    clear c3
    obtain ⟨ji4, hji4⟩ : ∃ j_ : Int, (shr .u32 a0 a1) = j_ := ⟨_, rfl⟩
    replace H : (some ((Go.bits .and .u32 (ji4) 1) == 1)) = some r := by first | (rw [hji4] at H; exact H) | (simp only [hji4] at H ⊢; exact H)
    have hji4_ : (a0 / 2 ^ min a1.toNat 32) = ji4 := hji4
    have hji4z : a1 ≤ 32 → (a0 / 2 ^ a1.toNat) = ji4 := shr_small hji4
    obtain rfl := Option.some.inj H
    go_enter Tryd.func71, Tryd.ntmps71
    go_wp2
    go_ret
    exact ⟨by first | rfl | (simp; done) | (simp only [← hji4] <;> (first | rfl | simp)) | (simp [*]; done), by repeat (first | exact Drawn0.refl _ | apply Drawn0.step)⟩
  · rw [if_neg c3] at H
    exact absurd H (by simp)

/-! ### impl_spacing_can: function 59 -/
def impl_spacing_can.f (k : Nat) (s : Int) (r : Bool) (l : List Int) (d p : Int) : Option Bool := (impl_Row_taken.f k s r l).bind fun T => (impl_bench_nearest.f k s r p T).bind fun q => (impl_set_has.f T p).bind fun t => some (!t && (!q.2.2 || decide (q.2.1 ≥ d)))
theorem impl_spacing_can.mono : ∀ a0 a1 a2 a3 a4 k, LeO (impl_spacing_can.f k a0 a1 a2 a3 a4) (impl_spacing_can.f (k + 1) a0 a1 a2 a3 a4) := by
  intro a0 a1 a2 a3 a4 k
  unfold impl_spacing_can.f
  repeat' first
      | (with_reducible exact impl_Row_taken.mono _ _ _ _)
      | (with_reducible exact impl_bench_nearest.mono _ _ _ _ _)
      | (with_reducible exact LeO.refl _)
      | (with_reducible exact LeO.none _)
      | (with_reducible refine LeO.ite ?_ ?_)
      | (with_reducible refine LeO.bind ?_ (fun _ => ?_))
      | exact impl_Row_taken.mono _ _ _ _
      | exact impl_bench_nearest.mono _ _ _ _ _
      | exact LeO.none _
      | refine LeO.ite ?_ ?_
      | refine LeO.bind ?_ (fun _ => ?_)
set_option maxHeartbeats 8000000 in
set_option maxRecDepth 100000 in
theorem impl_spacing_can.calls (k : Nat) (g : Nat) (s : Int) (r : Bool) (A : Option Addr) (c : Nat) (l : List Int) (d : Int) (Aw : Option Addr) (nw cw mb : Nat) (p : Int) (res : Bool) (w : World) (hT : GT w) (hS : SpW w g s r A l.length c d Aw nw cw mb) (hr : Kd.C (Kd.int .i64) w A l.length l) (hc : l.length ≤ c) (h : impl_spacing_can.f k s r l d p = some res) :
    Calls Tryd.prog 59 #[.pointer (some ⟨g, 0, none⟩), .int .i64 p] w fun e w' => e = .returned (.bool res) ∧ Below w.heap.size w w' := by
  have hu28 := Tryd.underlying28
  unfold impl_spacing_can.f at h
  replace h := Option.bind_eq_some_iff.mp h
  obtain ⟨T, A10, h⟩ := h
  replace h := Option.bind_eq_some_iff.mp h
  obtain ⟨⟨q1, q2, q3⟩, A20, h⟩ := h
  replace h := Option.bind_eq_some_iff.mp h
  obtain ⟨t, A30, h⟩ := h
  have A1 := Aside0.mk A10
  have A2 := Aside0.mk A20
  have A3 := Aside0.mk A30
  clear A10 A20 A30
  have HC := Aside0.mk hc
  have HR := Aside0.mk hr
  have HS := Aside0.mk hS
  have HTT := Aside0.mk hT
  have HB := Aside0.mk (Below.refl w.heap.size w)
  obtain ⟨c0, c1, c2, c3, _, _⟩ := hS.cell
  clear hc hr hS hT
  obtain rfl := Option.some.inj h
  clear h
  go_enter Tryd.func59, Tryd.ntmps59
  go_wp2
  go_region_held3 (fun w' => Aside0 (Below w.heap.size w w') ∧ w'.cell? ⟨g, 0, none⟩ = some (.int .i64 s) ∧ w'.cell? ⟨g, 1, none⟩ = some (.bool r) ∧ w'.cell? ⟨g, 2, none⟩ = some (.slice A l.length c)) ((refine ⟨?_, ?_, ?_, ?_⟩ <;> (first | assumption | exact keep_c c0 (below_drew1 (‹Aside0 (Below w.heap.size w _)›).out) | exact keep_c c1 (below_drew1 (‹Aside0 (Below w.heap.size w _)›).out) | exact keep_c c2 (below_drew1 (‹Aside0 (Below w.heap.size w _)›).out) | exact ⟨below_drew1 (‹Aside0 (Below w.heap.size w _)›).out⟩ | exact keep_c c0 (‹Aside0 (Below w.heap.size w _)›).out | exact keep_c c1 (‹Aside0 (Below w.heap.size w _)›).out | exact keep_c c2 (‹Aside0 (Below w.heap.size w _)›).out))) ((first | (go_at_call 57; refine (impl_Row_bench.calls _ _ _ _ l _ _ _ (Kd.C_below HR.out (‹Aside0 (Below w.heap.size w _) ∧ _›).1.out) HC.out rfl).mono ?_; rintro e w' ⟨rfl, hb⟩; have HBn := Aside0.mk (below_step (‹Aside0 (Below w.heap.size w _) ∧ _›).1.out hb); clear hb) | (go_at_call 70; refine (impl_Row_taken.calls k _ _ _ _ l T _ (Kd.C_below HR.out (‹Aside0 (Below w.heap.size w _) ∧ _›).1.out) HC.out A1.out).mono ?_; rintro e w' ⟨rfl, hb⟩; have HBn := Aside0.mk (below_step (‹Aside0 (Below w.heap.size w _) ∧ _›).1.out hb); clear hb) | (go_at_call 69; refine (impl_bench_nearest.calls k s r p T q1 q2 q3 _ (GT.below HTT.out (‹Aside0 (Below w.heap.size w _) ∧ _›).1.out) A2.out).mono ?_; rintro e w' ⟨rfl, hb⟩; have HBn := Aside0.mk (below_step (‹Aside0 (Below w.heap.size w _) ∧ _›).1.out hb); clear hb)))
  all_goals (
    have HBm := ‹Aside0 (Below w.heap.size w _)›
    have d0 := keep_c c0 HBm.out
    have d1 := keep_c c1 HBm.out
    have d2 := keep_c c2 HBm.out
    have d3 := keep_c c3 HBm.out
    cases t <;> cases q3 <;>
    ((go_wp2_with (first | (go_at_call 70; refine (impl_Row_taken.calls k _ _ _ _ l T _ (Kd.C_below HR.out HBm.out) HC.out A1.out).mono ?_; rintro e w' ⟨rfl, hb⟩; have HBn := Aside0.mk (below_step HBm.out hb); have e3 := keep_c c3 HBn.out; clear hb) | (go_at_call 71; refine (impl_set_has.calls T p _ _ A3.out).mono ?_; rintro e w' ⟨rfl, ⟨nd, rfl⟩⟩)));
     go_ret;
     exact ⟨by first | rfl | (simp; done) | (simp [*]; done), by repeat (first | (with_reducible first | exact (‹Aside0 (Below w.heap.size w _)›).out | apply below_alloc | apply pw_below_drewN | apply below_drew1) | exact (‹Aside0 (Below w.heap.size w _)›).out)⟩))


end Go.Proofs.YtapbmneehaemeaaDoor.PFnExactCountSpaced
