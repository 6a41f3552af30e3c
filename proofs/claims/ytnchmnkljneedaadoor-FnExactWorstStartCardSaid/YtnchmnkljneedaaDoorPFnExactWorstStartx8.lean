/- Proved: each Go function named here, called, comes to the answer of the Lean function beside it. Conditions: those that stand in each theorem. (Printed by this session's own turned copy of a printing program.) -/
import Derived.Test.YtnchmnkljneedaaDoorPFnExactWorstStartx0
import Derived.Test.YtnchmnkljneedaaDoorPFnExactWorstStartx6
import Derived.Test.YtnchmnkljneedaaDoorPFnExactWorstStartx7
namespace Go.Proofs.YtnchmnkljneedaaDoor.PFnExactWorstStart
open Go.RowKit Go.Proofs.YtnchmnkljneedaaDoorW.PrintWords Go.Proofs.YtnchmnkljneedaaDoorW.PrintLast Go.Proofs.YtnchmnkljneedaaDoorW.PrintMore
attribute [local go_sem] max2_int min2_int max_two min_two max_three min_three max_four min_four   -- for this text's walks alone
set_option linter.unusedVariables false
set_option linter.unusedSimpArgs false

/-! ### impl_WorstStart: function 11 -/
def impl_WorstStart.f (k : Nat) (a0 : Int) (a1 : Bool) : Option (Int × Int × Bool) := (impl_bench_start.f k a0 a1).bind fun bt325 => (some (bt325.1, bt325.2.1, bt325.2.2))
theorem impl_WorstStart.mono : ∀ a0 a1 k, LeO (impl_WorstStart.f k a0 a1) (impl_WorstStart.f (k + 1) a0 a1) := by
  intro a0 a1 k
  unfold impl_WorstStart.f
  repeat' first
      | (with_reducible exact impl_bench_start.mono _ _ _)
      | (with_reducible exact LeO.refl _)
      | (with_reducible exact LeO.none _)
      | (with_reducible refine LeO.ite ?_ ?_)
      | (with_reducible refine LeO.bind ?_ (fun _ => ?_))
      | exact impl_bench_start.mono _ _ _
      | exact LeO.none _
      | refine LeO.ite ?_ ?_
      | refine LeO.bind ?_ (fun _ => ?_)
set_option maxHeartbeats 8000000 in
set_option maxRecDepth 100000 in
theorem impl_WorstStart.calls (k : Nat) (a0 : Int) (a1 : Bool) (r1 : Int) (r2 : Int) (r3 : Bool) (w : World) (hrT : GT w) (h : impl_WorstStart.f k a0 a1 = some (r1, r2, r3)) :
    Calls Tryd.prog 11 #[.int .i64 a0, .bool a1] w fun e w' => e = .returned (.tuple #[.int .i64 r1, .int .i64 r2, .bool r3]) ∧ Below w.heap.size w w' := by
  have hu43 := Tryd.underlying43
  have HRT := Aside0.mk hrT
  clear hrT
  have HB := Aside0.mk (Below.refl w.heap.size w)
  have H : ((impl_bench_start.f k a0 a1).bind fun bt325 => (some (bt325.1, bt325.2.1, bt325.2.2))) = some (r1, r2, r3) := h
  clear h
  replace H := Option.bind_eq_some_iff.mp H
  obtain ⟨⟨t325, t326, t327⟩, A30, H⟩ := H
  replace H : (some (t325, t326, t327)) = some (r1, r2, r3) := H
  have A3 := Aside0.mk A30
  clear A30
  simp only [Option.some.injEq, Prod.mk.injEq] at H
  obtain ⟨rfl, rfl, rfl⟩ := H
  go_enter Tryd.func11, Tryd.ntmps11
  go_wp2_with (first | ((with_reducible refine gate_callee (f := 25) rfl ?_); refine goesL_ (some 10) rfl rfl Tryd.func25 (by kernel_rfl) rfl #[.agg #[.int .i64 a0, .bool a1], .func (.func 27) #[] #[]] rfl (by (try simp only [List.map_toArray, List.map_cons, List.map_nil]); first | done | rfl | (simp only [List.length_drop, List.length_take]; rfl)) ?_; (with_reducible refine (impl_bench_start.calls k a0 a1 t325 t326 t327 _ ?side1 A3.out).mono ?_); (case side1 => exact GT.below HRT.out (by repeat (first | (with_reducible first | exact HB.out | apply below_alloc | apply pw_below_drewN | apply below_drew1) | exact HB.out))); rintro e w4 ⟨rfl, hb⟩; refine ⟨_, rfl, ?_⟩; have n0_ := Aside0.mk (below_step (by repeat (first | (with_reducible first | exact HB.out | apply below_alloc | apply pw_below_drewN | apply below_drew1) | exact HB.out)) hb); clear HB; have HB := n0_; clear n0_; (try clear hb); (try clear hb2); (try clear hk); (try clear hi)))
  go_ret3
  exact ⟨by first | rfl | (simp [errW_none, errW_some] <;> rfl) | (simp [*, errW_none, errW_some] <;> rfl), by repeat (first | (with_reducible first | exact HB.out | apply below_alloc | apply pw_below_drewN | apply below_drew1) | exact HB.out)⟩

/-! ### laws_FnExactWorstStart: function 4 -/
def laws_FnExactWorstStart.f (k : Nat) (a0 : Int) (a1 : Bool) : Option (Bool) := (spec_WorstStart.f k a0 a1).bind fun bt328 => ((impl_WorstStart.f k a0 a1).bind fun bt331 => (if bt331.1 = bt328.1 then (if bt331.2.1 = bt328.2.1 then (if (bt331.2.2 != bt328.2.2) = true then (some false) else (some true)) else (some false)) else (some false)))
theorem laws_FnExactWorstStart.mono : ∀ a0 a1 k, LeO (laws_FnExactWorstStart.f k a0 a1) (laws_FnExactWorstStart.f (k + 1) a0 a1) := by
  intro a0 a1 k
  unfold laws_FnExactWorstStart.f
  repeat' first
      | (with_reducible exact impl_WorstStart.mono _ _ _)
      | (with_reducible exact spec_WorstStart.mono _ _ _)
      | (with_reducible exact LeO.refl _)
      | (with_reducible exact LeO.none _)
      | (with_reducible refine LeO.ite ?_ ?_)
      | (with_reducible refine LeO.bind ?_ (fun _ => ?_))
      | exact impl_WorstStart.mono _ _ _
      | exact spec_WorstStart.mono _ _ _
      | exact LeO.none _
      | refine LeO.ite ?_ ?_
      | refine LeO.bind ?_ (fun _ => ?_)
set_option maxHeartbeats 8000000 in
set_option maxRecDepth 100000 in
theorem laws_FnExactWorstStart.calls (k : Nat) (a0 : Int) (a1 : Bool) (r : Bool) (w : World) (hrT : GT w) (hr1_ : r = true) (h : laws_FnExactWorstStart.f k a0 a1 = some r) :
    Calls Tryd.prog 4 #[.int .i64 a0, .bool a1] w fun e w' => e = .returned (.bool r) ∧ Below w.heap.size w w' := by
  have HRV := Aside0.mk hr1_
  clear hr1_
  have HRT := Aside0.mk hrT
  clear hrT
  have HB := Aside0.mk (Below.refl w.heap.size w)
  have H : ((spec_WorstStart.f k a0 a1).bind fun bt328 => ((impl_WorstStart.f k a0 a1).bind fun bt331 => (if bt331.1 = bt328.1 then (if bt331.2.1 = bt328.2.1 then (if (bt331.2.2 != bt328.2.2) = true then (some false) else (some true)) else (some false)) else (some false)))) = some r := h
  clear h
  replace H := Option.bind_eq_some_iff.mp H
  obtain ⟨⟨t328, t329, t330⟩, A30, H⟩ := H
  replace H : ((impl_WorstStart.f k a0 a1).bind fun bt331 => (if bt331.1 = t328 then (if bt331.2.1 = t329 then (if (bt331.2.2 != t330) = true then (some false) else (some true)) else (some false)) else (some false))) = some r := H
  have A3 := Aside0.mk A30
  clear A30
  replace H := Option.bind_eq_some_iff.mp H
  obtain ⟨⟨t331, t332, t333⟩, A40, H⟩ := H
  replace H : (if t331 = t328 then (if t332 = t329 then (if (t333 != t330) = true then (some false) else (some true)) else (some false)) else (some false)) = some r := H
  have A4 := Aside0.mk A40
  clear A40
  by_cases c5 : t331 = t328
  · rw [if_pos c5] at H
    have c5b0 : (t331 == t328) = true := beq_iff_eq.mpr c5
    have c5b1 : (t331 != t328) = false := bne_eq_false_iff_eq.mpr c5
    clear c5
    by_cases c6 : t332 = t329
    · rw [if_pos c6] at H
      have c6b0 : (t332 == t329) = true := beq_iff_eq.mpr c6
      have c6b1 : (t332 != t329) = false := bne_eq_false_iff_eq.mpr c6
      clear c6
      by_cases c7 : (t333 != t330) = true
      · rw [if_pos c7] at H
        have c7b0 : (t333 != t330) = true := c7
        (try (have c7b1 : decide (t333 = t330) = false := by simpa using c7))
        (try (have c7b2 : (t333 == t330) = false := by simpa using c7))
        (try (have c7b3 : ¬ (t333 = t330) := by simpa using c7))
        clear c7
        exact absurd ((Option.some.inj H).trans HRV.out) (by decide)
      · rw [if_neg c7] at H
        have c7b0 : (t333 != t330) = false := by simpa using c7
        (try (have c7b1 : decide (t333 = t330) = true := by simpa using c7))
        (try (have c7b2 : (t333 == t330) = true := by simpa using c7))
        clear c7
        obtain rfl := Option.some.inj H
        go_enter Tryd.func4, Tryd.ntmps4
        go_wp2_with (first | ((with_reducible refine gate_callee (f := 10) rfl ?_); refine goesL_ (some 14) rfl rfl Tryd.func10 (by kernel_rfl) rfl #[.int .i64 a0, .bool a1] rfl (by (try simp only [List.map_toArray, List.map_cons, List.map_nil]); first | done | rfl | (simp only [List.length_drop, List.length_take]; rfl)) ?_; (with_reducible refine (spec_WorstStart.calls k a0 a1 t328 t329 t330 _ A3.out).mono ?_); rintro e w8 ⟨rfl, hb⟩; refine ⟨_, rfl, ?_⟩; have n0_ := Aside0.mk (below_step (by repeat (first | (with_reducible first | exact HB.out | apply below_alloc | apply pw_below_drewN | apply below_drew1) | exact HB.out)) hb); clear HB; have HB := n0_; clear n0_; (try clear hb); (try clear hb2); (try clear hk); (try clear hi)) | ((with_reducible refine gate_callee (f := 11) rfl ?_); refine goesL_ (some 21) rfl rfl Tryd.func11 (by kernel_rfl) rfl #[.int .i64 a0, .bool a1] rfl (by (try simp only [List.map_toArray, List.map_cons, List.map_nil]); first | done | rfl | (simp only [List.length_drop, List.length_take]; rfl)) ?_; (with_reducible refine (impl_WorstStart.calls k a0 a1 t331 t332 t333 _ ?side1 A4.out).mono ?_); (case side1 => exact GT.below HRT.out (by repeat (first | (with_reducible first | exact HB.out | apply below_alloc | apply pw_below_drewN | apply below_drew1) | exact HB.out))); rintro e w9 ⟨rfl, hb⟩; refine ⟨_, rfl, ?_⟩; have n0_ := Aside0.mk (below_step (by repeat (first | (with_reducible first | exact HB.out | apply below_alloc | apply pw_below_drewN | apply below_drew1) | exact HB.out)) hb); clear HB; have HB := n0_; clear n0_; (try clear hb); (try clear hb2); (try clear hk); (try clear hi)))
        go_ret
        exact ⟨by first | rfl | (simp [errW_none, errW_some] <;> rfl) | (simp [*, errW_none, errW_some] <;> rfl), by repeat (first | (with_reducible first | exact HB.out | apply below_alloc | apply pw_below_drewN | apply below_drew1) | exact HB.out)⟩
    · rw [if_neg c6] at H
      have c6b0 : (t332 == t329) = false := beq_eq_false_iff_ne.mpr c6
      have c6b1 : (t332 != t329) = true := bne_iff_ne.mpr c6
      exact absurd ((Option.some.inj H).trans HRV.out) (by decide)
  · rw [if_neg c5] at H
    have c5b0 : (t331 == t328) = false := beq_eq_false_iff_ne.mpr c5
    have c5b1 : (t331 != t328) = true := bne_iff_ne.mpr c5
    exact absurd ((Option.some.inj H).trans HRV.out) (by decide)

/-- THE ONE PURE STATEMENT of laws_FnExactWorstStart: yours. -/
def laws_FnExactWorstStart.Pure : Prop := ∀ (a0 : Int) (a1 : Bool), (Lit.int .i64 a0).wf = true → ∃ k, laws_FnExactWorstStart.f k a0 a1 = some true
theorem laws_FnExactWorstStart.walk (P : laws_FnExactWorstStart.Pure) (a0 : Int) (a1 : Bool) (w : World) (hT : GT w) (w0 : (Lit.int .i64 a0).wf = true) :
    Calls Tryd.prog 4 #[.int .i64 a0, .bool a1] w fun e w' => e = .returned (.bool true) ∧ Below w.heap.size w w' := by
  obtain ⟨k, h⟩ := P a0 a1 w0
  refine (laws_FnExactWorstStart.calls k a0 a1 true w hT rfl h).mono ?_
  rintro e w' ⟨rfl, hd⟩
  exact ⟨rfl, hd⟩

end Go.Proofs.YtnchmnkljneedaaDoor.PFnExactWorstStart
