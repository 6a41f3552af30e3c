/- Proved: each Go function named here, called, comes to the answer of the Lean function beside it. Conditions: those that stand in each theorem. (Printed by this session's own turned copy of a printing program.) -/
import Derived.Test.YthaaakijekkkaaaPFnExactCallGroupsx0
import Derived.Test.YthaaakijekkkaaaPFnExactCallGroupsx1
import Derived.Test.YthaaakijekkkaaaPFnExactCallGroupsx2
import Derived.Test.YthaaakijekkkaaaPFnExactCallGroupsx3
namespace Go.Proofs.Ythaaakijekkkaaa.PFnExactCallGroups
open Go.RowKit Go.Proofs.YthaaakijekkkaaaW.PrintWords Go.Proofs.YthaaakijekkkaaaW.PrintLast Go.Proofs.YthaaakijekkkaaaW.PrintMore
attribute [local go_sem] max2_int min2_int max_two min_two max_three min_three max_four min_four   -- for this text's walks alone
set_option linter.unusedVariables false
set_option linter.unusedSimpArgs false

attribute [local go_sem high] eqArr40
/-! ### laws_FnExactCallGroups: function 3 -/
mutual
def laws_FnExactCallGroups.j0 : Nat → Int → List (List Int) → List Int → Bool → List (List Int) → List Int → Bool → Bool → Option (Bool)
  | 0, _, _, _, _, _, _, _, _ => none
  | k + 1, x0, x1, x6, x7, x8, x9, x10, x44 => if x44 = true then (some false) else ((laws_toIntSS.f k x1).bind fun t173 => ((laws_eqIntSS.f k x8 t173).bind fun t176 => (if t176 = true then ((laws_markIntSS.f k x8 1).bind fun t177 => (if t177 < 0 then (laws_FnExactCallGroups.j1 k x0 x1 x6 x7 x9 true) else ((laws_eqIntS.f k x9 x6).bind fun t178 => (if t178 = true then (laws_FnExactCallGroups.j1 k x0 x1 x6 x7 x9 (x10 != x7)) else (laws_FnExactCallGroups.j1 k x0 x1 x6 x7 x9 true))))) else (some false))))
def laws_FnExactCallGroups.j1 : Nat → Int → List (List Int) → List Int → Bool → List Int → Bool → Option (Bool)
  | 0, _, _, _, _, _, _ => none
  | k + 1, x0, x1, x6, x7, x9, x65 => if x65 = true then (some false) else ((laws_markIntS.f k x9 1).bind fun bt179 => ((laws_heldIntS.f k bt179.2 1).bind fun t181 => (if t181 < 0 then (some false) else (if t181 = bt179.1 then ((laws_toIntSS.f k x1).bind fun t182 => ((impl_CallGroups.f k x0 t182).bind fun bt185 => ((laws_eqIntS.f k bt185.1 x6).bind fun t189 => (if t189 = true then (laws_FnExactCallGroups.j2 k bt179.2 bt179.1 (bt185.2 != x7)) else (laws_FnExactCallGroups.j2 k bt179.2 bt179.1 true))))) else (some false)))))
def laws_FnExactCallGroups.j2 : Nat → List Int → Int → Bool → Option (Bool)
  | 0, _, _, _ => none
  | k + 1, x9, x12, x92 => if x92 = true then (some false) else ((laws_heldIntS.f k x9 1).bind fun t190 => (if t190 < 0 then (some false) else (if t190 = x12 then (some true) else (some false))))
end
def laws_FnExactCallGroups.f (k : Nat) (a0 : Int) (l1 : List (List Int)) : Option (Bool) := (laws_szIntSS.f k l1 1048576).bind fun t157 => (if t157 < 0 then (some true) else ((laws_toIntSS.f k l1).bind fun t158 => ((spec_CallGroups.f k a0 t158).bind fun bt161 => ((laws_toIntSS.f k l1).bind fun t165 => ((impl_CallGroups.f k a0 t165).bind fun bt168 => ((laws_eqIntS.f k bt168.1 bt161.1).bind fun t172 => (if t172 = true then (laws_FnExactCallGroups.j0 k a0 l1 bt161.1 bt161.2 t165 bt168.1 bt168.2 (bt168.2 != bt161.2)) else (laws_FnExactCallGroups.j0 k a0 l1 bt161.1 bt161.2 t165 bt168.1 bt168.2 true))))))))
theorem laws_FnExactCallGroups.mono_l : ∀ k, (∀ y0 y1 y2 y3 y4 y5 y6 y7, LeO (laws_FnExactCallGroups.j0 k y0 y1 y2 y3 y4 y5 y6 y7) (laws_FnExactCallGroups.j0 (k + 1) y0 y1 y2 y3 y4 y5 y6 y7)) ∧ (∀ y0 y1 y2 y3 y4 y5, LeO (laws_FnExactCallGroups.j1 k y0 y1 y2 y3 y4 y5) (laws_FnExactCallGroups.j1 (k + 1) y0 y1 y2 y3 y4 y5)) ∧ (∀ y0 y1 y2, LeO (laws_FnExactCallGroups.j2 k y0 y1 y2) (laws_FnExactCallGroups.j2 (k + 1) y0 y1 y2))
  | 0 => ⟨fun _ _ _ _ _ _ _ _ r h => by simp [laws_FnExactCallGroups.j0] at h, fun _ _ _ _ _ _ r h => by simp [laws_FnExactCallGroups.j1] at h, fun _ _ _ r h => by simp [laws_FnExactCallGroups.j2] at h⟩
  | k + 1 => by
    obtain ⟨ih0, ih1, ih2⟩ := laws_FnExactCallGroups.mono_l k
    refine ⟨?_, ?_, ?_⟩
    · intro y0 y1 y2 y3 y4 y5 y6 y7
      unfold laws_FnExactCallGroups.j0
      repeat' first
      | (with_reducible exact ih0 _ _ _ _ _ _ _ _)
      | (with_reducible exact ih1 _ _ _ _ _ _)
      | (with_reducible exact ih2 _ _ _)
      | (with_reducible exact impl_CallGroups.mono _ _ _)
      | (with_reducible exact laws_eqIntS.mono _ _ _)
      | (with_reducible exact laws_eqIntSS.mono _ _ _)
      | (with_reducible exact laws_heldIntS.mono _ _ _)
      | (with_reducible exact laws_markIntS.mono _ _ _)
      | (with_reducible exact laws_markIntSS.mono _ _ _)
      | (with_reducible exact laws_szIntSS.mono _ _ _)
      | (with_reducible exact laws_toIntSS.mono _ _)
      | (with_reducible exact spec_CallGroups.mono _ _ _)
      | (with_reducible exact LeO.refl _)
      | (with_reducible exact LeO.none _)
      | (with_reducible refine LeO.ite ?_ ?_)
      | (with_reducible refine LeO.bind ?_ (fun _ => ?_))
      | exact ih0 _ _ _ _ _ _ _ _
      | exact ih1 _ _ _ _ _ _
      | exact ih2 _ _ _
      | exact impl_CallGroups.mono _ _ _
      | exact laws_eqIntS.mono _ _ _
      | exact laws_eqIntSS.mono _ _ _
      | exact laws_heldIntS.mono _ _ _
      | exact laws_markIntS.mono _ _ _
      | exact laws_markIntSS.mono _ _ _
      | exact laws_szIntSS.mono _ _ _
      | exact laws_toIntSS.mono _ _
      | exact spec_CallGroups.mono _ _ _
      | exact LeO.none _
      | refine LeO.ite ?_ ?_
      | refine LeO.bind ?_ (fun _ => ?_)
    · intro y0 y1 y2 y3 y4 y5
      unfold laws_FnExactCallGroups.j1
      repeat' first
      | (with_reducible exact ih0 _ _ _ _ _ _ _ _)
      | (with_reducible exact ih1 _ _ _ _ _ _)
      | (with_reducible exact ih2 _ _ _)
      | (with_reducible exact impl_CallGroups.mono _ _ _)
      | (with_reducible exact laws_eqIntS.mono _ _ _)
      | (with_reducible exact laws_eqIntSS.mono _ _ _)
      | (with_reducible exact laws_heldIntS.mono _ _ _)
      | (with_reducible exact laws_markIntS.mono _ _ _)
      | (with_reducible exact laws_markIntSS.mono _ _ _)
      | (with_reducible exact laws_szIntSS.mono _ _ _)
      | (with_reducible exact laws_toIntSS.mono _ _)
      | (with_reducible exact spec_CallGroups.mono _ _ _)
      | (with_reducible exact LeO.refl _)
      | (with_reducible exact LeO.none _)
      | (with_reducible refine LeO.ite ?_ ?_)
      | (with_reducible refine LeO.bind ?_ (fun _ => ?_))
      | exact ih0 _ _ _ _ _ _ _ _
      | exact ih1 _ _ _ _ _ _
      | exact ih2 _ _ _
      | exact impl_CallGroups.mono _ _ _
      | exact laws_eqIntS.mono _ _ _
      | exact laws_eqIntSS.mono _ _ _
      | exact laws_heldIntS.mono _ _ _
      | exact laws_markIntS.mono _ _ _
      | exact laws_markIntSS.mono _ _ _
      | exact laws_szIntSS.mono _ _ _
      | exact laws_toIntSS.mono _ _
      | exact spec_CallGroups.mono _ _ _
      | exact LeO.none _
      | refine LeO.ite ?_ ?_
      | refine LeO.bind ?_ (fun _ => ?_)
    · intro y0 y1 y2
      unfold laws_FnExactCallGroups.j2
      repeat' first
      | (with_reducible exact ih0 _ _ _ _ _ _ _ _)
      | (with_reducible exact ih1 _ _ _ _ _ _)
      | (with_reducible exact ih2 _ _ _)
      | (with_reducible exact impl_CallGroups.mono _ _ _)
      | (with_reducible exact laws_eqIntS.mono _ _ _)
      | (with_reducible exact laws_eqIntSS.mono _ _ _)
      | (with_reducible exact laws_heldIntS.mono _ _ _)
      | (with_reducible exact laws_markIntS.mono _ _ _)
      | (with_reducible exact laws_markIntSS.mono _ _ _)
      | (with_reducible exact laws_szIntSS.mono _ _ _)
      | (with_reducible exact laws_toIntSS.mono _ _)
      | (with_reducible exact spec_CallGroups.mono _ _ _)
      | (with_reducible exact LeO.refl _)
      | (with_reducible exact LeO.none _)
      | (with_reducible refine LeO.ite ?_ ?_)
      | (with_reducible refine LeO.bind ?_ (fun _ => ?_))
      | exact ih0 _ _ _ _ _ _ _ _
      | exact ih1 _ _ _ _ _ _
      | exact ih2 _ _ _
      | exact impl_CallGroups.mono _ _ _
      | exact laws_eqIntS.mono _ _ _
      | exact laws_eqIntSS.mono _ _ _
      | exact laws_heldIntS.mono _ _ _
      | exact laws_markIntS.mono _ _ _
      | exact laws_markIntSS.mono _ _ _
      | exact laws_szIntSS.mono _ _ _
      | exact laws_toIntSS.mono _ _
      | exact spec_CallGroups.mono _ _ _
      | exact LeO.none _
      | refine LeO.ite ?_ ?_
      | refine LeO.bind ?_ (fun _ => ?_)
theorem laws_FnExactCallGroups.mono : ∀ a0 a1 k, LeO (laws_FnExactCallGroups.f k a0 a1) (laws_FnExactCallGroups.f (k + 1) a0 a1) := by
  intro a0 a1 k
  obtain ⟨ih0, ih1, ih2⟩ := laws_FnExactCallGroups.mono_l k
  unfold laws_FnExactCallGroups.f
  repeat' first
      | (with_reducible exact ih0 _ _ _ _ _ _ _ _)
      | (with_reducible exact ih1 _ _ _ _ _ _)
      | (with_reducible exact ih2 _ _ _)
      | (with_reducible exact impl_CallGroups.mono _ _ _)
      | (with_reducible exact laws_eqIntS.mono _ _ _)
      | (with_reducible exact laws_eqIntSS.mono _ _ _)
      | (with_reducible exact laws_heldIntS.mono _ _ _)
      | (with_reducible exact laws_markIntS.mono _ _ _)
      | (with_reducible exact laws_markIntSS.mono _ _ _)
      | (with_reducible exact laws_szIntSS.mono _ _ _)
      | (with_reducible exact laws_toIntSS.mono _ _)
      | (with_reducible exact spec_CallGroups.mono _ _ _)
      | (with_reducible exact LeO.refl _)
      | (with_reducible exact LeO.none _)
      | (with_reducible refine LeO.ite ?_ ?_)
      | (with_reducible refine LeO.bind ?_ (fun _ => ?_))
      | exact ih0 _ _ _ _ _ _ _ _
      | exact ih1 _ _ _ _ _ _
      | exact ih2 _ _ _
      | exact impl_CallGroups.mono _ _ _
      | exact laws_eqIntS.mono _ _ _
      | exact laws_eqIntSS.mono _ _ _
      | exact laws_heldIntS.mono _ _ _
      | exact laws_markIntS.mono _ _ _
      | exact laws_markIntSS.mono _ _ _
      | exact laws_szIntSS.mono _ _ _
      | exact laws_toIntSS.mono _ _
      | exact spec_CallGroups.mono _ _ _
      | exact LeO.none _
      | refine LeO.ite ?_ ?_
      | refine LeO.bind ?_ (fun _ => ?_)
theorem laws_FnExactCallGroups.j0_no (k : Nat) (y0 : Int) (y1 : List (List Int)) (y2 : List Int) (y3 : Bool) (y4 : List (List Int)) (y5 : List Int) (y6 : Bool) (r : Bool) (h : laws_FnExactCallGroups.j0 k y0 y1 y2 y3 y4 y5 y6 true = some r) : false = r := by
  cases k with
  | zero => exact absurd h (by simp [laws_FnExactCallGroups.j0])
  | succ k => simp only [laws_FnExactCallGroups.j0] at h; first | (rw [if_pos rfl] at h; exact Option.some.inj h) | (rw [if_pos trivial] at h; exact Option.some.inj h)
theorem laws_FnExactCallGroups.j1_no (k : Nat) (y0 : Int) (y1 : List (List Int)) (y2 : List Int) (y3 : Bool) (y4 : List Int) (r : Bool) (h : laws_FnExactCallGroups.j1 k y0 y1 y2 y3 y4 true = some r) : false = r := by
  cases k with
  | zero => exact absurd h (by simp [laws_FnExactCallGroups.j1])
  | succ k => simp only [laws_FnExactCallGroups.j1] at h; first | (rw [if_pos rfl] at h; exact Option.some.inj h) | (rw [if_pos trivial] at h; exact Option.some.inj h)
theorem laws_FnExactCallGroups.j2_no (k : Nat) (y0 : List Int) (y1 : Int) (r : Bool) (h : laws_FnExactCallGroups.j2 k y0 y1 true = some r) : false = r := by
  cases k with
  | zero => exact absurd h (by simp [laws_FnExactCallGroups.j2])
  | succ k => simp only [laws_FnExactCallGroups.j2] at h; first | (rw [if_pos rfl] at h; exact Option.some.inj h) | (rw [if_pos trivial] at h; exact Option.some.inj h)
set_option maxHeartbeats 8000000 in
set_option maxRecDepth 100000 in
theorem laws_FnExactCallGroups.calls (k : Nat) (a0 : Int) (A1 : Option Addr) (c1 : Nat) (l1 : List (List Int)) (r : Bool) (w : World) (hr1 : Kd.C (Kd.slice 3 (Kd.int .i64)) w A1 l1.length l1) (hc1 : l1.length ≤ c1) (hr1_ : r = true) (h : laws_FnExactCallGroups.f k a0 l1 = some r) :
    Calls Try.prog 3 #[.int .i64 a0, .slice A1 l1.length c1] w fun e w' => e = .returned (.bool r) ∧ Below w.heap.size w w' := by
  have HR1 := Aside0.mk hr1
  have HC1 := Aside0.mk hc1
  clear hr1 hc1
  have HRV := Aside0.mk hr1_
  clear hr1_
  have HB := Aside0.mk (Below.refl w.heap.size w)
  have H : ((laws_szIntSS.f k l1 1048576).bind fun t157 => (if t157 < 0 then (some true) else ((laws_toIntSS.f k l1).bind fun t158 => ((spec_CallGroups.f k a0 t158).bind fun bt161 => ((laws_toIntSS.f k l1).bind fun t165 => ((impl_CallGroups.f k a0 t165).bind fun bt168 => ((laws_eqIntS.f k bt168.1 bt161.1).bind fun t172 => (if t172 = true then (laws_FnExactCallGroups.j0 k a0 l1 bt161.1 bt161.2 t165 bt168.1 bt168.2 (bt168.2 != bt161.2)) else (laws_FnExactCallGroups.j0 k a0 l1 bt161.1 bt161.2 t165 bt168.1 bt168.2 true))))))))) = some r := h
  clear h
  replace H := Option.bind_eq_some_iff.mp H
  obtain ⟨t157, A30, H⟩ := H
  replace H : (if t157 < 0 then (some true) else ((laws_toIntSS.f k l1).bind fun t158 => ((spec_CallGroups.f k a0 t158).bind fun bt161 => ((laws_toIntSS.f k l1).bind fun t165 => ((impl_CallGroups.f k a0 t165).bind fun bt168 => ((laws_eqIntS.f k bt168.1 bt161.1).bind fun t172 => (if t172 = true then (laws_FnExactCallGroups.j0 k a0 l1 bt161.1 bt161.2 t165 bt168.1 bt168.2 (bt168.2 != bt161.2)) else (laws_FnExactCallGroups.j0 k a0 l1 bt161.1 bt161.2 t165 bt168.1 bt168.2 true)))))))) = some r := H
  have A3 := Aside0.mk A30
  clear A30
  by_cases c4 : t157 < 0
  · rw [if_pos c4] at H
    have c4b0 : decide (t157 < 0) = true := decide_eq_true c4
    clear c4
    obtain rfl := Option.some.inj H
    go_enter Try.func3, Try.ntmps3
    go_wp2_with (first | ((with_reducible refine gate_callee (f := 12) rfl ?_); refine goesL_ (some 18) rfl rfl Try.func12 (by kernel_rfl) rfl #[.slice A1 l1.length c1, .int .i64 1048576] rfl (by (try simp only [List.map_toArray, List.map_cons, List.map_nil]); first | done | rfl | (simp only [List.length_drop, List.length_take]; rfl)) ?_; (with_reducible refine (laws_szIntSS.calls k _ _ l1 1048576 t157 _ ?side1 ?side2 A3.out).mono ?_); (case side1 => repeat (first | exact HR1.out | (with_reducible refine Kd.C_alloc ?_ _) | (with_reducible refine Kd.C_drewN ?_ _) | (with_reducible refine Kd.C_drew ?_))); (case side2 => exact HC1.out); rintro e w' ⟨rfl, ⟨nd, rfl⟩⟩; refine ⟨_, rfl, ?_⟩))
    go_ret
    exact ⟨by first | rfl | (simp [errW_none, errW_some] <;> rfl) | (simp [*, errW_none, errW_some] <;> rfl), by repeat (first | (with_reducible first | exact HB.out | apply below_alloc | apply pw_below_drewN | apply below_drew1) | exact HB.out)⟩
  · rw [if_neg c4] at H
    have c4b0 : decide (t157 < 0) = false := decide_eq_false c4
    clear c4
    replace H := Option.bind_eq_some_iff.mp H
    obtain ⟨t158, A50, H⟩ := H
    replace H : ((spec_CallGroups.f k a0 t158).bind fun bt161 => ((laws_toIntSS.f k l1).bind fun t165 => ((impl_CallGroups.f k a0 t165).bind fun bt168 => ((laws_eqIntS.f k bt168.1 bt161.1).bind fun t172 => (if t172 = true then (laws_FnExactCallGroups.j0 k a0 l1 bt161.1 bt161.2 t165 bt168.1 bt168.2 (bt168.2 != bt161.2)) else (laws_FnExactCallGroups.j0 k a0 l1 bt161.1 bt161.2 t165 bt168.1 bt168.2 true)))))) = some r := H
    have A5 := Aside0.mk A50
    clear A50
    replace H := Option.bind_eq_some_iff.mp H
    obtain ⟨⟨t161, t162⟩, A60, H⟩ := H
    replace H : ((laws_toIntSS.f k l1).bind fun t165 => ((impl_CallGroups.f k a0 t165).bind fun bt168 => ((laws_eqIntS.f k bt168.1 t161).bind fun t172 => (if t172 = true then (laws_FnExactCallGroups.j0 k a0 l1 t161 t162 t165 bt168.1 bt168.2 (bt168.2 != t162)) else (laws_FnExactCallGroups.j0 k a0 l1 t161 t162 t165 bt168.1 bt168.2 true))))) = some r := H
    have A6 := Aside0.mk A60
    clear A60
    replace H := Option.bind_eq_some_iff.mp H
    obtain ⟨t165, A70, H⟩ := H
    replace H : ((impl_CallGroups.f k a0 t165).bind fun bt168 => ((laws_eqIntS.f k bt168.1 t161).bind fun t172 => (if t172 = true then (laws_FnExactCallGroups.j0 k a0 l1 t161 t162 t165 bt168.1 bt168.2 (bt168.2 != t162)) else (laws_FnExactCallGroups.j0 k a0 l1 t161 t162 t165 bt168.1 bt168.2 true)))) = some r := H
    have A7 := Aside0.mk A70
    clear A70
    replace H := Option.bind_eq_some_iff.mp H
    obtain ⟨⟨t168, t169⟩, A80, H⟩ := H
    replace H : ((laws_eqIntS.f k t168 t161).bind fun t172 => (if t172 = true then (laws_FnExactCallGroups.j0 k a0 l1 t161 t162 t165 t168 t169 (t169 != t162)) else (laws_FnExactCallGroups.j0 k a0 l1 t161 t162 t165 t168 t169 true))) = some r := H
    have A8 := Aside0.mk A80
    clear A80
    have HC9 := Aside0.mk H
    clear H
    go_enter Try.func3, Try.ntmps3
    go_upto_region 8 with (first | ((with_reducible refine gate_callee (f := 12) rfl ?_); refine goesL_ (some 18) rfl rfl Try.func12 (by kernel_rfl) rfl #[.slice A1 l1.length c1, .int .i64 1048576] rfl (by (try simp only [List.map_toArray, List.map_cons, List.map_nil]); first | done | rfl | (simp only [List.length_drop, List.length_take]; rfl)) ?_; (with_reducible refine (laws_szIntSS.calls k _ _ l1 1048576 t157 _ ?side1 ?side2 A3.out).mono ?_); (case side1 => repeat (first | exact HR1.out | (with_reducible refine Kd.C_alloc ?_ _) | (with_reducible refine Kd.C_drewN ?_ _) | (with_reducible refine Kd.C_drew ?_))); (case side2 => exact HC1.out); rintro e w' ⟨rfl, ⟨nd, rfl⟩⟩; refine ⟨_, rfl, ?_⟩) | ((with_reducible refine gate_callee (f := 14) rfl ?_); refine goesL_ (some 24) rfl rfl Try.func14 (by kernel_rfl) rfl #[.slice A1 l1.length c1] rfl (by (try simp only [List.map_toArray, List.map_cons, List.map_nil]); first | done | rfl | (simp only [List.length_drop, List.length_take]; rfl)) ?_; (with_reducible refine (laws_toIntSS.calls k _ _ l1 t158 _ ?side1 ?side2 A5.out).mono ?_); (case side1 => repeat (first | exact HR1.out | (with_reducible refine Kd.C_alloc ?_ _) | (with_reducible refine Kd.C_drewN ?_ _) | (with_reducible refine Kd.C_drew ?_))); (case side2 => exact HC1.out); rintro e w10 ⟨v159, rfl, ho0, hb⟩; refine ⟨_, rfl, ?_⟩; have n0_ := Aside0.mk (Kd.S_lower ho0 (below_size (by repeat (first | (with_reducible first | exact HB.out | apply below_alloc | apply pw_below_drewN | apply below_drew1) | exact HB.out)))); have n1_ := Aside0.mk (below_step (by repeat (first | (with_reducible first | exact HB.out | apply below_alloc | apply pw_below_drewN | apply below_drew1) | exact HB.out)) hb); clear HB; have HO160 := n0_; have HB := n1_; clear n0_ n1_; (try clear hb); (try clear hb2); (try clear hk); (try clear hi); (try clear ho0); obtain ⟨Ao11, co11, eo11⟩ := Kd.S_slice HO160.out; subst eo11) | ((with_reducible refine gate_callee (f := 13) rfl ?_); refine goesL_ (some 25) rfl rfl Try.func13 (by kernel_rfl) rfl #[.int .i64 a0, .slice Ao11 t158.length co11] rfl (by (try simp only [List.map_toArray, List.map_cons, List.map_nil]); first | done | rfl | (simp only [List.length_drop, List.length_take]; rfl)) ?_; (with_reducible refine (spec_CallGroups.calls k a0 _ _ t158 t161 t162 _ ?side1 ?side2 A6.out).mono ?_); (case side1 => repeat (first | exact (Kd.S_reads' HO160.out).2.2 | (with_reducible refine Kd.C_alloc ?_ _) | (with_reducible refine Kd.C_drewN ?_ _) | (with_reducible refine Kd.C_drew ?_))); (case side2 => exact (Kd.S_reads' HO160.out).2.1); rintro e w12 ⟨v163, rfl, ho0, hb⟩; refine ⟨_, rfl, ?_⟩; have n0_ := Aside0.mk (Kd.S_elder' (by (with_reducible repeat (first | apply Kd.S_alloc | apply Kd.S_drewN | apply Kd.S_drew)); exact HO160.out) (Kd.R_base ho0) hb); have n1_ := Aside0.mk (Kd.R_lower ho0 (below_size (by repeat (first | (with_reducible first | exact HB.out | apply below_alloc | apply pw_below_drewN | apply below_drew1) | exact HB.out)))); have n2_ := Aside0.mk (below_step (by repeat (first | (with_reducible first | exact HB.out | apply below_alloc | apply pw_below_drewN | apply below_drew1) | exact HB.out)) hb); clear HO160; clear HB; have HO160 := n0_; have HO164 := n1_; have HB := n2_; clear n0_ n1_ n2_; (try clear hb); (try clear hb2); (try clear hk); (try clear hi); (try clear ho0)) | ((with_reducible refine gate_callee (f := 14) rfl ?_); refine goesL_ (some 29) rfl rfl Try.func14 (by kernel_rfl) rfl #[.slice A1 l1.length c1] rfl (by (try simp only [List.map_toArray, List.map_cons, List.map_nil]); first | done | rfl | (simp only [List.length_drop, List.length_take]; rfl)) ?_; (with_reducible refine (laws_toIntSS.calls k _ _ l1 t165 _ ?side1 ?side2 A7.out).mono ?_); (case side1 => repeat (first | exact (Kd.C_below HR1.out HB.out) | (with_reducible refine Kd.C_alloc ?_ _) | (with_reducible refine Kd.C_drewN ?_ _) | (with_reducible refine Kd.C_drew ?_))); (case side2 => exact HC1.out); rintro e w13 ⟨v166, rfl, ho0, hb⟩; refine ⟨_, rfl, ?_⟩; have n0_ := Aside0.mk (Kd.S_elder' (by (with_reducible repeat (first | apply Kd.S_alloc | apply Kd.S_drewN | apply Kd.S_drew)); exact HO160.out) (Kd.S_base ho0) hb); have n1_ := Aside0.mk (Kd.R_below (by (with_reducible repeat (first | apply Kd.R_alloc | apply Kd.R_drewN | apply Kd.R_drew)); exact HO164.out) hb); have n2_ := Aside0.mk (Kd.S_lower (Kd.S_new' (Kd.S_new' ho0 (Kd.S_lt (by (with_reducible repeat (first | apply Kd.S_alloc | apply Kd.S_drewN | apply Kd.S_drew)); exact HO160.out))) (Kd.R_lt (by (with_reducible repeat (first | apply Kd.R_alloc | apply Kd.R_drewN | apply Kd.R_drew)); exact HO164.out))) (below_size (by repeat (first | (with_reducible first | exact HB.out | apply below_alloc | apply pw_below_drewN | apply below_drew1) | exact HB.out)))); have n3_ := Aside0.mk (below_step (by repeat (first | (with_reducible first | exact HB.out | apply below_alloc | apply pw_below_drewN | apply below_drew1) | exact HB.out)) hb); clear HO160; clear HO164; clear HB; have HO160 := n0_; have HO164 := n1_; have HO167 := n2_; have HB := n3_; clear n0_ n1_ n2_ n3_; (try clear hb); (try clear hb2); (try clear hk); (try clear hi); (try clear ho0); obtain ⟨Ao14, co14, eo14⟩ := Kd.S_slice HO167.out; subst eo14) | ((with_reducible refine gate_callee (f := 15) rfl ?_); refine goesL_ (some 33) rfl rfl Try.func15 (by kernel_rfl) rfl #[.int .i64 a0, .slice Ao14 t165.length co14] rfl (by (try simp only [List.map_toArray, List.map_cons, List.map_nil]); first | done | rfl | (simp only [List.length_drop, List.length_take]; rfl)) ?_; (with_reducible refine (impl_CallGroups.calls k a0 _ _ t165 t168 t169 _ ?side1 ?side2 A8.out).mono ?_); (case side1 => repeat (first | exact (Kd.S_reads' HO167.out).2.2 | (with_reducible refine Kd.C_alloc ?_ _) | (with_reducible refine Kd.C_drewN ?_ _) | (with_reducible refine Kd.C_drew ?_))); (case side2 => exact (Kd.S_reads' HO167.out).2.1); rintro e w15 ⟨v170, rfl, ho0, hb⟩; refine ⟨_, rfl, ?_⟩; have n0_ := Aside0.mk (Kd.S_elder' (by (with_reducible repeat (first | apply Kd.S_alloc | apply Kd.S_drewN | apply Kd.S_drew)); exact HO160.out) (Kd.R_base ho0) hb); have n1_ := Aside0.mk (Kd.R_elder' (by (with_reducible repeat (first | apply Kd.R_alloc | apply Kd.R_drewN | apply Kd.R_drew)); exact HO164.out) (Kd.R_base ho0) hb); have n2_ := Aside0.mk (Kd.S_elder' (by (with_reducible repeat (first | apply Kd.S_alloc | apply Kd.S_drewN | apply Kd.S_drew)); exact HO167.out) (Kd.R_base ho0) hb); have n3_ := Aside0.mk (Kd.R_lower (Kd.R_new' ho0 (Kd.R_lt (by (with_reducible repeat (first | apply Kd.R_alloc | apply Kd.R_drewN | apply Kd.R_drew)); exact HO164.out))) (below_size (by repeat (first | (with_reducible first | exact HB.out | apply below_alloc | apply pw_below_drewN | apply below_drew1) | exact HB.out)))); have n4_ := Aside0.mk (below_step (by repeat (first | (with_reducible first | exact HB.out | apply below_alloc | apply pw_below_drewN | apply below_drew1) | exact HB.out)) hb); clear HO160; clear HO164; clear HO167; clear HB; have HO160 := n0_; have HO164 := n1_; have HO167 := n2_; have HO171 := n3_; have HB := n4_; clear n0_ n1_ n2_ n3_ n4_; (try clear hb); (try clear hb2); (try clear hk); (try clear hi); (try clear ho0)))
    (try simp only [Act.put, List.setIfInBounds_toArray, List.set_cons_zero, List.set_cons_succ])
    go_cut [44] (fun v44 wc => ∃ (kq : Nat) (x44_8 : Bool), v44 = .bool x44_8 ∧ Aside0 (laws_FnExactCallGroups.j0 kq a0 l1 t161 t162 t165 t168 t169 x44_8 = some r) ∧ Aside0 (kq ≤ k) ∧ Aside0 (Kd.R (Kd.int .i64) 3 wc w.heap.size (fun k_ => some k_ ≠ (v170 : Value).ownBlock) v163 t161) ∧ Aside0 (Kd.S (Kd.slice 3 (Kd.int .i64)) 24 wc w.heap.size (fun k_ => some k_ ≠ (v163 : Value).ownBlock ∧ some k_ ≠ (v170 : Value).ownBlock) (.slice Ao14 t165.length co14) t165) ∧ Aside0 (Kd.R (Kd.int .i64) 3 wc w.heap.size (fun k_ => some k_ ≠ (v163 : Value).ownBlock) v170 t168) ∧ Aside0 (Below w.heap.size w wc))
    case first =>
      have H := HC9.out
      clear HC9
      replace H := Option.bind_eq_some_iff.mp H
      obtain ⟨t172, A160, H⟩ := H
      replace H : (if t172 = true then (laws_FnExactCallGroups.j0 k a0 l1 t161 t162 t165 t168 t169 (t169 != t162)) else (laws_FnExactCallGroups.j0 k a0 l1 t161 t162 t165 t168 t169 true)) = some r := H
      have A16 := Aside0.mk A160
      clear A160
      by_cases c17 : t172 = true
      · subst c17
        have H1 : (laws_FnExactCallGroups.j0 k a0 l1 t161 t162 t165 t168 t169 (t169 != t162)) = some r := by rw [if_pos rfl] at H; exact H
        clear H
        have H := H1
        clear H1
        have H' := Aside0.mk H
        clear H
        obtain ⟨Ao18, co18, eo18⟩ := Kd.R_slice HO171.out
        subst eo18
        obtain ⟨Ao19, co19, eo19⟩ := Kd.R_slice HO164.out
        subst eo19
        go_wp2_with (first | ((with_reducible refine gate_callee (f := 16) rfl ?_); refine goesL_ (some 38) rfl rfl Try.func16 (by kernel_rfl) rfl #[.slice Ao18 t168.length co18, .slice Ao19 t161.length co19] rfl (by (try simp only [List.map_toArray, List.map_cons, List.map_nil]); first | done | rfl | (simp only [List.length_drop, List.length_take]; rfl)) ?_; (with_reducible refine (laws_eqIntS.calls k _ _ t168 _ _ t161 true _ ?side1 ?side2 ?side3 ?side4 A16.out).mono ?_); (case side1 => repeat (first | exact (Kd.R_reads' HO171.out).2.2 | (with_reducible refine Kd.C_alloc ?_ _) | (with_reducible refine Kd.C_drewN ?_ _) | (with_reducible refine Kd.C_drew ?_))); (case side2 => exact (Kd.R_reads' HO171.out).2.1); (case side3 => repeat (first | exact (Kd.R_reads' HO164.out).2.2 | (with_reducible refine Kd.C_alloc ?_ _) | (with_reducible refine Kd.C_drewN ?_ _) | (with_reducible refine Kd.C_drew ?_))); (case side4 => exact (Kd.R_reads' HO164.out).2.1); rintro e w' ⟨rfl, ⟨nd, rfl⟩⟩; refine ⟨_, rfl, ?_⟩))
        go_meet
        case rel => exact ⟨_, ((t169 != t162)), (by first | rfl | (simp; done) | (simp [*]; done)), H', ⟨by first | omega | exact Nat.le_refl _⟩, ⟨by (with_reducible repeat (first | apply Kd.R_alloc | apply Kd.R_drewN | apply Kd.R_drew)); exact Kd.R_mono HO164.out (fun _ hk => hk.2)⟩, ⟨by (with_reducible repeat (first | apply Kd.S_alloc | apply Kd.S_drewN | apply Kd.S_drew)); exact Kd.S_mono HO167.out (fun _ hk => ⟨hk.1.2, hk.2⟩)⟩, ⟨by (with_reducible repeat (first | apply Kd.R_alloc | apply Kd.R_drewN | apply Kd.R_drew)); exact Kd.R_mono HO171.out (fun _ hk => hk.2)⟩, ⟨by repeat (first | (with_reducible first | exact HB.out | apply below_alloc | apply pw_below_drewN | apply below_drew1) | exact HB.out)⟩⟩
      · replace c17 := Bool.eq_false_iff.mpr c17
        subst c17
        have H1 : (laws_FnExactCallGroups.j0 k a0 l1 t161 t162 t165 t168 t169 true) = some r := by rw [if_neg (show ¬ (false = true) by decide)] at H; exact H
        clear H
        have H := H1
        clear H1
        exact absurd ((laws_FnExactCallGroups.j0_no _ _ _ _ _ _ _ _ _ H).trans HRV.out) (by decide)
    case rest =>
      clear HC9
      try clear c1
      try clear p2
      try clear c3
      try clear c4
      try clear c4b0
      try clear c12
      try clear c13
      try clear c14
      try clear c15
      try clear c16
      try clear c17
      obtain ⟨kq, x44_8, rfl, HA, HJ8, HO_6, HO_8, HO_9, HB⟩ := hcut
      cases kq with
      | zero => exact absurd HA.out (by simp [laws_FnExactCallGroups.j0])
      | succ kj8 =>
        have H := HA.out
        clear HA
        simp only [laws_FnExactCallGroups.j0] at H
        by_cases c20 : x44_8 = true
        · subst c20
          have H1 : (some false) = some r := by rw [if_pos rfl] at H; exact H
          clear H
          have H := H1
          clear H1
          exact absurd ((Option.some.inj H).trans HRV.out) (by decide)
        · replace c20 := Bool.eq_false_iff.mpr c20
          subst c20
          have H1 : ((laws_toIntSS.f kj8 l1).bind fun t173 => ((laws_eqIntSS.f kj8 t165 t173).bind fun t176 => (if t176 = true then ((laws_markIntSS.f kj8 t165 1).bind fun t177 => (if t177 < 0 then (laws_FnExactCallGroups.j1 kj8 a0 l1 t161 t162 t168 true) else ((laws_eqIntS.f kj8 t168 t161).bind fun t178 => (if t178 = true then (laws_FnExactCallGroups.j1 kj8 a0 l1 t161 t162 t168 (t169 != t162)) else (laws_FnExactCallGroups.j1 kj8 a0 l1 t161 t162 t168 true))))) else (some false)))) = some r := by rw [if_neg (show ¬ (false = true) by decide)] at H; exact H
          clear H
          have H := H1
          clear H1
          replace H := Option.bind_eq_some_iff.mp H
          obtain ⟨t173, A210, H⟩ := H
          replace H : ((laws_eqIntSS.f kj8 t165 t173).bind fun t176 => (if t176 = true then ((laws_markIntSS.f kj8 t165 1).bind fun t177 => (if t177 < 0 then (laws_FnExactCallGroups.j1 kj8 a0 l1 t161 t162 t168 true) else ((laws_eqIntS.f kj8 t168 t161).bind fun t178 => (if t178 = true then (laws_FnExactCallGroups.j1 kj8 a0 l1 t161 t162 t168 (t169 != t162)) else (laws_FnExactCallGroups.j1 kj8 a0 l1 t161 t162 t168 true))))) else (some false))) = some r := H
          have A21 := Aside0.mk A210
          clear A210
          replace H := Option.bind_eq_some_iff.mp H
          obtain ⟨t176, A220, H⟩ := H
          replace H : (if t176 = true then ((laws_markIntSS.f kj8 t165 1).bind fun t177 => (if t177 < 0 then (laws_FnExactCallGroups.j1 kj8 a0 l1 t161 t162 t168 true) else ((laws_eqIntS.f kj8 t168 t161).bind fun t178 => (if t178 = true then (laws_FnExactCallGroups.j1 kj8 a0 l1 t161 t162 t168 (t169 != t162)) else (laws_FnExactCallGroups.j1 kj8 a0 l1 t161 t162 t168 true))))) else (some false)) = some r := H
          have A22 := Aside0.mk A220
          clear A220
          by_cases c23 : t176 = true
          · subst c23
            have H1 : ((laws_markIntSS.f kj8 t165 1).bind fun t177 => (if t177 < 0 then (laws_FnExactCallGroups.j1 kj8 a0 l1 t161 t162 t168 true) else ((laws_eqIntS.f kj8 t168 t161).bind fun t178 => (if t178 = true then (laws_FnExactCallGroups.j1 kj8 a0 l1 t161 t162 t168 (t169 != t162)) else (laws_FnExactCallGroups.j1 kj8 a0 l1 t161 t162 t168 true))))) = some r := by rw [if_pos rfl] at H; exact H
            clear H
            have H := H1
            clear H1
            replace H := Option.bind_eq_some_iff.mp H
            obtain ⟨t177, A240, H⟩ := H
            replace H : (if t177 < 0 then (laws_FnExactCallGroups.j1 kj8 a0 l1 t161 t162 t168 true) else ((laws_eqIntS.f kj8 t168 t161).bind fun t178 => (if t178 = true then (laws_FnExactCallGroups.j1 kj8 a0 l1 t161 t162 t168 (t169 != t162)) else (laws_FnExactCallGroups.j1 kj8 a0 l1 t161 t162 t168 true)))) = some r := H
            have A24 := Aside0.mk A240
            clear A240
            have HC25 := Aside0.mk H
            clear H
            go_upto_region 14 with (first | ((with_reducible refine gate_callee (f := 14) rfl ?_); refine goesL_ (some 47) rfl rfl Try.func14 (by kernel_rfl) rfl #[.slice A1 l1.length c1] rfl (by (try simp only [List.map_toArray, List.map_cons, List.map_nil]); first | done | rfl | (simp only [List.length_drop, List.length_take]; rfl)) ?_; (with_reducible refine (laws_toIntSS.calls kj8 _ _ l1 t173 _ ?side1 ?side2 A21.out).mono ?_); (case side1 => repeat (first | exact (Kd.C_below HR1.out HB.out) | (with_reducible refine Kd.C_alloc ?_ _) | (with_reducible refine Kd.C_drewN ?_ _) | (with_reducible refine Kd.C_drew ?_))); (case side2 => exact HC1.out); rintro e w26 ⟨v174, rfl, ho0, hb⟩; refine ⟨_, rfl, ?_⟩; have n0_ := Aside0.mk (Kd.R_below (by (with_reducible repeat (first | apply Kd.R_alloc | apply Kd.R_drewN | apply Kd.R_drew)); exact HO_6.out) hb); have n1_ := Aside0.mk (Kd.S_elder' (by (with_reducible repeat (first | apply Kd.S_alloc | apply Kd.S_drewN | apply Kd.S_drew)); exact HO_8.out) (Kd.S_base ho0) hb); have n2_ := Aside0.mk (Kd.R_below (by (with_reducible repeat (first | apply Kd.R_alloc | apply Kd.R_drewN | apply Kd.R_drew)); exact HO_9.out) hb); have n3_ := Aside0.mk (Kd.S_lower (Kd.S_new' (Kd.S_new' (Kd.S_new' ho0 (Kd.R_lt (by (with_reducible repeat (first | apply Kd.R_alloc | apply Kd.R_drewN | apply Kd.R_drew)); exact HO_6.out))) (Kd.S_lt (by (with_reducible repeat (first | apply Kd.S_alloc | apply Kd.S_drewN | apply Kd.S_drew)); exact HO_8.out))) (Kd.R_lt (by (with_reducible repeat (first | apply Kd.R_alloc | apply Kd.R_drewN | apply Kd.R_drew)); exact HO_9.out))) (below_size (by repeat (first | (with_reducible first | exact HB.out | apply below_alloc | apply pw_below_drewN | apply below_drew1) | exact HB.out)))); have n4_ := Aside0.mk (below_step (by repeat (first | (with_reducible first | exact HB.out | apply below_alloc | apply pw_below_drewN | apply below_drew1) | exact HB.out)) hb); clear HO_6; clear HO_8; clear HO_9; clear HB; have HO_6 := n0_; have HO_8 := n1_; have HO_9 := n2_; have HO175 := n3_; have HB := n4_; clear n0_ n1_ n2_ n3_ n4_; (try clear hb); (try clear hb2); (try clear hk); (try clear hi); (try clear ho0); obtain ⟨Ao27, co27, eo27⟩ := Kd.S_slice HO175.out; subst eo27) | ((with_reducible refine gate_callee (f := 17) rfl ?_); refine goesL_ (some 48) rfl rfl Try.func17 (by kernel_rfl) rfl #[.slice Ao14 t165.length co14, .slice Ao27 t173.length co27] rfl (by (try simp only [List.map_toArray, List.map_cons, List.map_nil]); first | done | rfl | (simp only [List.length_drop, List.length_take]; rfl)) ?_; (with_reducible refine (laws_eqIntSS.calls kj8 _ _ t165 _ _ t173 true _ ?side1 ?side2 ?side3 ?side4 A22.out).mono ?_); (case side1 => repeat (first | exact (Kd.S_reads' HO_8.out).2.2 | (with_reducible refine Kd.C_alloc ?_ _) | (with_reducible refine Kd.C_drewN ?_ _) | (with_reducible refine Kd.C_drew ?_))); (case side2 => exact (Kd.S_reads' HO_8.out).2.1); (case side3 => repeat (first | exact (Kd.S_reads' HO175.out).2.2 | (with_reducible refine Kd.C_alloc ?_ _) | (with_reducible refine Kd.C_drewN ?_ _) | (with_reducible refine Kd.C_drew ?_))); (case side4 => exact (Kd.S_reads' HO175.out).2.1); rintro e w' ⟨rfl, ⟨nd, rfl⟩⟩; refine ⟨_, rfl, ?_⟩) | ((with_reducible refine gate_callee (f := 18) rfl ?_); refine goesL_ (some 52) rfl rfl Try.func18 (by kernel_rfl) rfl #[.slice Ao14 t165.length co14, .int .i64 1] rfl (by (try simp only [List.map_toArray, List.map_cons, List.map_nil]); first | done | rfl | (simp only [List.length_drop, List.length_take]; rfl)) ?_; (with_reducible refine (laws_markIntSS.calls kj8 _ _ _ t165 1 t177 w _ ?side1 (Kd.S_drewN HO_8.out _) A24.out).mono ?_); (case side1 => repeat (first | (with_reducible first | exact HB.out | apply below_alloc | apply pw_below_drewN | apply below_drew1) | exact HB.out)); rintro e w28 ⟨rfl, hb, hkp⟩; refine ⟨_, rfl, ?_⟩; have n0_ := Aside0.mk (Kd.R_mono (Kd.R_kept (Kd.R_tight2 rfl (by (with_reducible repeat (first | apply Kd.R_alloc | apply Kd.R_drewN | apply Kd.R_drew)); exact HO_6.out)) hkp (fun k_ hk_ hs_ => hs_.1.1 hk_.1)) (fun _ hk_ => hk_.2)); have n2_ := Aside0.mk (Kd.R_mono (Kd.R_kept (Kd.R_tight2 rfl (by (with_reducible repeat (first | apply Kd.R_alloc | apply Kd.R_drewN | apply Kd.R_drew)); exact HO_9.out)) hkp (fun k_ hk_ hs_ => hs_.1.2 hk_.1)) (fun _ hk_ => hk_.2)); have n4_ := Aside0.mk hb; clear HO_6; clear HO_8; clear HO_9; clear HO175; clear HB; have HO_6 := n0_; have HO_9 := n2_; have HB := n4_; clear n0_ n2_ n4_; (try clear hkp); (try clear hb); (try clear hb2); (try clear hk); (try clear hi)))
            (try simp only [Act.put, List.setIfInBounds_toArray, List.set_cons_zero, List.set_cons_succ])
            go_cut [65] (fun v65 wc => ∃ (kq : Nat) (x65_24 : Bool), v65 = .bool x65_24 ∧ Aside0 (laws_FnExactCallGroups.j1 kq a0 l1 t161 t162 t168 x65_24 = some r) ∧ Aside0 (kq ≤ kj8) ∧ Aside0 (Kd.R (Kd.int .i64) 3 wc w.heap.size (fun k_ => some k_ ≠ (v170 : Value).ownBlock) v163 t161) ∧ Aside0 (Kd.R (Kd.int .i64) 3 wc w.heap.size (fun k_ => some k_ ≠ (v163 : Value).ownBlock) v170 t168) ∧ Aside0 (Below w.heap.size w wc))
            case first =>
              have H := HC25.out
              clear HC25
              by_cases c29 : t177 < 0
              · rw [if_pos c29] at H
                have c29b0 : decide (t177 < 0) = true := decide_eq_true c29
                clear c29
                (first | rw [c29b0] | (simp only [i64_w, i32_w]; rw [c29b0]) | skip)
                exact absurd ((laws_FnExactCallGroups.j1_no _ _ _ _ _ _ _ H).trans HRV.out) (by decide)
              · rw [if_neg c29] at H
                have c29b0 : decide (t177 < 0) = false := decide_eq_false c29
                clear c29
                (first | rw [c29b0] | (simp only [i64_w, i32_w]; rw [c29b0]) | skip)
                replace H := Option.bind_eq_some_iff.mp H
                obtain ⟨t178, A300, H⟩ := H
                replace H : (if t178 = true then (laws_FnExactCallGroups.j1 kj8 a0 l1 t161 t162 t168 (t169 != t162)) else (laws_FnExactCallGroups.j1 kj8 a0 l1 t161 t162 t168 true)) = some r := H
                have A30 := Aside0.mk A300
                clear A300
                by_cases c31 : t178 = true
                · subst c31
                  have H1 : (laws_FnExactCallGroups.j1 kj8 a0 l1 t161 t162 t168 (t169 != t162)) = some r := by rw [if_pos rfl] at H; exact H
                  clear H
                  have H := H1
                  clear H1
                  have H' := Aside0.mk H
                  clear H
                  obtain ⟨Ao32, co32, eo32⟩ := Kd.R_slice HO_9.out
                  subst eo32
                  obtain ⟨Ao33, co33, eo33⟩ := Kd.R_slice HO_6.out
                  subst eo33
                  go_wp2_with (first | (go_at_call 16; (with_reducible refine (laws_eqIntS.calls kj8 _ _ t168 _ _ t161 true _ ?side1 ?side2 ?side3 ?side4 A30.out).mono ?_); (case side1 => repeat (first | exact (Kd.R_reads' HO_9.out).2.2 | (with_reducible refine Kd.C_alloc ?_ _) | (with_reducible refine Kd.C_drewN ?_ _) | (with_reducible refine Kd.C_drew ?_))); (case side2 => exact (Kd.R_reads' HO_9.out).2.1); (case side3 => repeat (first | exact (Kd.R_reads' HO_6.out).2.2 | (with_reducible refine Kd.C_alloc ?_ _) | (with_reducible refine Kd.C_drewN ?_ _) | (with_reducible refine Kd.C_drew ?_))); (case side4 => exact (Kd.R_reads' HO_6.out).2.1); rintro e w' ⟨rfl, ⟨nd, rfl⟩⟩))
                  go_meet
                  case rel => exact ⟨_, ((t169 != t162)), (by first | rfl | (simp; done) | (simp [*]; done)), H', ⟨by have := HJ8.out; first | omega | exact Nat.le_refl _⟩, ⟨by (with_reducible repeat (first | apply Kd.R_alloc | apply Kd.R_drewN | apply Kd.R_drew)); exact HO_6.out⟩, ⟨by (with_reducible repeat (first | apply Kd.R_alloc | apply Kd.R_drewN | apply Kd.R_drew)); exact HO_9.out⟩, ⟨by repeat (first | (with_reducible first | exact HB.out | apply below_alloc | apply pw_below_drewN | apply below_drew1) | exact HB.out)⟩⟩
                · replace c31 := Bool.eq_false_iff.mpr c31
                  subst c31
                  have H1 : (laws_FnExactCallGroups.j1 kj8 a0 l1 t161 t162 t168 true) = some r := by rw [if_neg (show ¬ (false = true) by decide)] at H; exact H
                  clear H
                  have H := H1
                  clear H1
                  exact absurd ((laws_FnExactCallGroups.j1_no _ _ _ _ _ _ _ H).trans HRV.out) (by decide)
            case rest =>
              clear HC25
              try clear c1
              try clear c2
              try clear p2
              try clear c3
              try clear c4
              try clear c4b0
              try clear c12
              try clear c13
              try clear c14
              try clear c15
              try clear c16
              try clear c17
              try clear c18
              try clear c20
              try clear c23
              try clear c29
              try clear c29b0
              try clear c31
              try clear p2
              obtain ⟨kq, x65_24, rfl, HA, HJ24, HO_6, HO_9, HB⟩ := hcut
              cases kq with
              | zero => exact absurd HA.out (by simp [laws_FnExactCallGroups.j1])
              | succ kj24 =>
                have H := HA.out
                clear HA
                simp only [laws_FnExactCallGroups.j1] at H
                by_cases c34 : x65_24 = true
                · subst c34
                  have H1 : (some false) = some r := by rw [if_pos rfl] at H; exact H
                  clear H
                  have H := H1
                  clear H1
                  exact absurd ((Option.some.inj H).trans HRV.out) (by decide)
                · replace c34 := Bool.eq_false_iff.mpr c34
                  subst c34
                  have H1 : ((laws_markIntS.f kj24 t168 1).bind fun bt179 => ((laws_heldIntS.f kj24 bt179.2 1).bind fun t181 => (if t181 < 0 then (some false) else (if t181 = bt179.1 then ((laws_toIntSS.f kj24 l1).bind fun t182 => ((impl_CallGroups.f kj24 a0 t182).bind fun bt185 => ((laws_eqIntS.f kj24 bt185.1 t161).bind fun t189 => (if t189 = true then (laws_FnExactCallGroups.j2 kj24 bt179.2 bt179.1 (bt185.2 != t162)) else (laws_FnExactCallGroups.j2 kj24 bt179.2 bt179.1 true))))) else (some false))))) = some r := by rw [if_neg (show ¬ (false = true) by decide)] at H; exact H
                  clear H
                  have H := H1
                  clear H1
                  replace H := Option.bind_eq_some_iff.mp H
                  obtain ⟨⟨t179, t180⟩, A350, H⟩ := H
                  replace H : ((laws_heldIntS.f kj24 t180 1).bind fun t181 => (if t181 < 0 then (some false) else (if t181 = t179 then ((laws_toIntSS.f kj24 l1).bind fun t182 => ((impl_CallGroups.f kj24 a0 t182).bind fun bt185 => ((laws_eqIntS.f kj24 bt185.1 t161).bind fun t189 => (if t189 = true then (laws_FnExactCallGroups.j2 kj24 t180 t179 (bt185.2 != t162)) else (laws_FnExactCallGroups.j2 kj24 t180 t179 true))))) else (some false)))) = some r := H
                  have A35 := Aside0.mk A350
                  clear A350
                  replace H := Option.bind_eq_some_iff.mp H
                  obtain ⟨t181, A360, H⟩ := H
                  replace H : (if t181 < 0 then (some false) else (if t181 = t179 then ((laws_toIntSS.f kj24 l1).bind fun t182 => ((impl_CallGroups.f kj24 a0 t182).bind fun bt185 => ((laws_eqIntS.f kj24 bt185.1 t161).bind fun t189 => (if t189 = true then (laws_FnExactCallGroups.j2 kj24 t180 t179 (bt185.2 != t162)) else (laws_FnExactCallGroups.j2 kj24 t180 t179 true))))) else (some false))) = some r := H
                  have A36 := Aside0.mk A360
                  clear A360
                  by_cases c37 : t181 < 0
                  · rw [if_pos c37] at H
                    have c37b0 : decide (t181 < 0) = true := decide_eq_true c37
                    clear c37
                    exact absurd ((Option.some.inj H).trans HRV.out) (by decide)
                  · rw [if_neg c37] at H
                    have c37b0 : decide (t181 < 0) = false := decide_eq_false c37
                    clear c37
                    by_cases c38 : t181 = t179
                    · rw [if_pos c38] at H
                      have c38b0 : (t181 == t179) = true := beq_iff_eq.mpr c38
                      have c38b1 : (t181 != t179) = false := bne_eq_false_iff_eq.mpr c38
                      clear c38
                      replace H := Option.bind_eq_some_iff.mp H
                      obtain ⟨t182, A390, H⟩ := H
                      replace H : ((impl_CallGroups.f kj24 a0 t182).bind fun bt185 => ((laws_eqIntS.f kj24 bt185.1 t161).bind fun t189 => (if t189 = true then (laws_FnExactCallGroups.j2 kj24 t180 t179 (bt185.2 != t162)) else (laws_FnExactCallGroups.j2 kj24 t180 t179 true)))) = some r := H
                      have A39 := Aside0.mk A390
                      clear A390
                      replace H := Option.bind_eq_some_iff.mp H
                      obtain ⟨⟨t185, t186⟩, A400, H⟩ := H
                      replace H : ((laws_eqIntS.f kj24 t185 t161).bind fun t189 => (if t189 = true then (laws_FnExactCallGroups.j2 kj24 t180 t179 (t186 != t162)) else (laws_FnExactCallGroups.j2 kj24 t180 t179 true))) = some r := H
                      have A40 := Aside0.mk A400
                      clear A400
                      have HC41 := Aside0.mk H
                      clear H
                      obtain ⟨Ao42, co42, eo42⟩ := Kd.R_slice HO_9.out
                      subst eo42
                      go_upto_region 25 with (first | ((with_reducible refine gate_callee (f := 19) rfl ?_); refine goesL_ (some 68) rfl rfl Try.func19 (by kernel_rfl) rfl #[.slice Ao42 t168.length co42, .int .i64 1] rfl (by (try simp only [List.map_toArray, List.map_cons, List.map_nil]); first | done | rfl | (simp only [List.length_drop, List.length_take]; rfl)) ?_; (with_reducible refine (laws_markIntS.calls kj24 (fun k_ => some k_ = (.slice Ao42 t168.length co42 : Value).ownBlock) (.slice Ao42 t168.length co42) t168 1 t179 t180 w _ ?side1 ?side2 A35.out).mono ?_); (case side1 => repeat (first | (with_reducible first | exact HB.out | apply below_alloc | apply pw_below_drewN | apply below_drew1) | exact HB.out)); (case side2 => exact Kd.R_tight rfl HO_9.out); rintro e w43 ⟨rfl, hy0, hb, hkp⟩; refine ⟨_, rfl, ?_⟩; have n0_ := Aside0.mk (Kd.R_mono (ok' := fun k_ => some k_ ≠ (.slice Ao42 t168.length co42 : Value).ownBlock) (Kd.R_keptB (HO_6.out) hkp (fun k_ hk_ hs_ => (hk_) hs_)) (fun k_ hk_ => hk_.1)); have n1_ := Aside0.mk (Kd.R_reok rfl hy0 (fun k_ e_ => HO_9.out.1 k_ e_)); have n2_ := Aside0.mk (hb); clear HO_6; clear HO_9; clear HB; have HO_6 := n0_; have HO_9 := n1_; have HB := n2_; clear n0_ n1_ n2_; (try clear hb); (try clear hkp); (try clear hy0)) | ((with_reducible refine gate_callee (f := 20) rfl ?_); refine goesL_ (some 71) rfl rfl Try.func20 (by kernel_rfl) rfl #[.slice Ao42 t180.length co42, .int .i64 1] rfl (by (try simp only [List.map_toArray, List.map_cons, List.map_nil]); first | done | (rw [show t180.length = t168.length from (Kd.R_reads' HO_9.out).1.symm] <;> rfl) | rfl | (simp only [List.length_drop, List.length_take]; rfl)) ?_; (with_reducible refine (laws_heldIntS.calls kj24 _ _ t180 1 t181 _ ?side1 ?side2 A36.out).mono ?_); (case side1 => repeat (first | exact (Kd.R_reads' HO_9.out).2.2 | (with_reducible refine Kd.C_alloc ?_ _) | (with_reducible refine Kd.C_drewN ?_ _) | (with_reducible refine Kd.C_drew ?_))); (case side2 => rw [show t180.length = t168.length from (Kd.R_reads' HO_9.out).1.symm]; exact (Kd.R_reads' HO_9.out).2.1); rintro e w' ⟨rfl, ⟨nd, rfl⟩⟩; refine ⟨_, rfl, ?_⟩) | ((with_reducible refine gate_callee (f := 14) rfl ?_); refine goesL_ (some 80) rfl rfl Try.func14 (by kernel_rfl) rfl #[.slice A1 l1.length c1] rfl (by (try simp only [List.map_toArray, List.map_cons, List.map_nil]); first | done | rfl | (simp only [List.length_drop, List.length_take]; rfl)) ?_; (with_reducible refine (laws_toIntSS.calls kj24 _ _ l1 t182 _ ?side1 ?side2 A39.out).mono ?_); (case side1 => repeat (first | exact (Kd.C_below HR1.out (by repeat (first | (with_reducible first | exact HB.out | apply below_alloc | apply pw_below_drewN | apply below_drew1) | exact HB.out))) | (with_reducible refine Kd.C_alloc ?_ _) | (with_reducible refine Kd.C_drewN ?_ _) | (with_reducible refine Kd.C_drew ?_))); (case side2 => exact HC1.out); rintro e w44 ⟨v183, rfl, ho0, hb⟩; refine ⟨_, rfl, ?_⟩; have n0_ := Aside0.mk (Kd.R_below (by (with_reducible repeat (first | apply Kd.R_alloc | apply Kd.R_drewN | apply Kd.R_drew)); exact HO_6.out) hb); have n1_ := Aside0.mk (Kd.R_below (by (with_reducible repeat (first | apply Kd.R_alloc | apply Kd.R_drewN | apply Kd.R_drew)); exact HO_9.out) hb); have n2_ := Aside0.mk (Kd.S_lower (Kd.S_new' (Kd.S_new' ho0 (Kd.R_lt (by (with_reducible repeat (first | apply Kd.R_alloc | apply Kd.R_drewN | apply Kd.R_drew)); exact HO_6.out))) (Kd.R_lt (by (with_reducible repeat (first | apply Kd.R_alloc | apply Kd.R_drewN | apply Kd.R_drew)); exact HO_9.out))) (below_size (by repeat (first | (with_reducible first | exact HB.out | apply below_alloc | apply pw_below_drewN | apply below_drew1) | exact HB.out)))); have n3_ := Aside0.mk (below_step (by repeat (first | (with_reducible first | exact HB.out | apply below_alloc | apply pw_below_drewN | apply below_drew1) | exact HB.out)) hb); clear HO_6; clear HO_9; clear HB; have HO_6 := n0_; have HO_9 := n1_; have HO184 := n2_; have HB := n3_; clear n0_ n1_ n2_ n3_; (try clear hb); (try clear hb2); (try clear hk); (try clear hi); (try clear ho0); obtain ⟨Ao45, co45, eo45⟩ := Kd.S_slice HO184.out; subst eo45) | ((with_reducible refine gate_callee (f := 15) rfl ?_); refine goesL_ (some 81) rfl rfl Try.func15 (by kernel_rfl) rfl #[.int .i64 a0, .slice Ao45 t182.length co45] rfl (by (try simp only [List.map_toArray, List.map_cons, List.map_nil]); first | done | rfl | (simp only [List.length_drop, List.length_take]; rfl)) ?_; (with_reducible refine (impl_CallGroups.calls kj24 a0 _ _ t182 t185 t186 _ ?side1 ?side2 A40.out).mono ?_); (case side1 => repeat (first | exact (Kd.S_reads' HO184.out).2.2 | (with_reducible refine Kd.C_alloc ?_ _) | (with_reducible refine Kd.C_drewN ?_ _) | (with_reducible refine Kd.C_drew ?_))); (case side2 => exact (Kd.S_reads' HO184.out).2.1); rintro e w46 ⟨v187, rfl, ho0, hb⟩; refine ⟨_, rfl, ?_⟩; have n0_ := Aside0.mk (Kd.R_elder' (by (with_reducible repeat (first | apply Kd.R_alloc | apply Kd.R_drewN | apply Kd.R_drew)); exact HO_6.out) (Kd.R_base ho0) hb); have n1_ := Aside0.mk (Kd.R_elder' (by (with_reducible repeat (first | apply Kd.R_alloc | apply Kd.R_drewN | apply Kd.R_drew)); exact HO_9.out) (Kd.R_base ho0) hb); have n2_ := Aside0.mk (Kd.S_elder' (by (with_reducible repeat (first | apply Kd.S_alloc | apply Kd.S_drewN | apply Kd.S_drew)); exact HO184.out) (Kd.R_base ho0) hb); have n3_ := Aside0.mk (Kd.R_lower (Kd.R_new' (Kd.R_new' ho0 (Kd.R_lt (by (with_reducible repeat (first | apply Kd.R_alloc | apply Kd.R_drewN | apply Kd.R_drew)); exact HO_6.out))) (Kd.R_lt (by (with_reducible repeat (first | apply Kd.R_alloc | apply Kd.R_drewN | apply Kd.R_drew)); exact HO_9.out))) (below_size (by repeat (first | (with_reducible first | exact HB.out | apply below_alloc | apply pw_below_drewN | apply below_drew1) | exact HB.out)))); have n4_ := Aside0.mk (below_step (by repeat (first | (with_reducible first | exact HB.out | apply below_alloc | apply pw_below_drewN | apply below_drew1) | exact HB.out)) hb); clear HO_6; clear HO_9; clear HO184; clear HB; have HO_6 := n0_; have HO_9 := n1_; have HO184 := n2_; have HO188 := n3_; have HB := n4_; clear n0_ n1_ n2_ n3_ n4_; (try clear hb); (try clear hb2); (try clear hk); (try clear hi); (try clear ho0)))
                      (try simp only [Act.put, List.setIfInBounds_toArray, List.set_cons_zero, List.set_cons_succ])
                      go_cut [92] (fun v92 wc => ∃ (kq : Nat) (x92_40 : Bool), v92 = .bool x92_40 ∧ Aside0 (laws_FnExactCallGroups.j2 kq t180 t179 x92_40 = some r) ∧ Aside0 (kq ≤ kj24) ∧ Aside0 (Kd.R (Kd.int .i64) 3 wc w.heap.size (fun _ => True) (.slice Ao42 t168.length co42) t180) ∧ Aside0 (Below w.heap.size w wc))
                      case first =>
                        have H := HC41.out
                        clear HC41
                        replace H := Option.bind_eq_some_iff.mp H
                        obtain ⟨t189, A470, H⟩ := H
                        replace H : (if t189 = true then (laws_FnExactCallGroups.j2 kj24 t180 t179 (t186 != t162)) else (laws_FnExactCallGroups.j2 kj24 t180 t179 true)) = some r := H
                        have A47 := Aside0.mk A470
                        clear A470
                        by_cases c48 : t189 = true
                        · subst c48
                          have H1 : (laws_FnExactCallGroups.j2 kj24 t180 t179 (t186 != t162)) = some r := by rw [if_pos rfl] at H; exact H
                          clear H
                          have H := H1
                          clear H1
                          have H' := Aside0.mk H
                          clear H
                          obtain ⟨Ao49, co49, eo49⟩ := Kd.R_slice HO188.out
                          subst eo49
                          obtain ⟨Ao50, co50, eo50⟩ := Kd.R_slice HO_6.out
                          subst eo50
                          go_wp2_with (first | ((with_reducible refine gate_callee (f := 16) rfl ?_); refine goesL_ (some 86) rfl rfl Try.func16 (by kernel_rfl) rfl #[.slice Ao49 t185.length co49, .slice Ao50 t161.length co50] rfl (by (try simp only [List.map_toArray, List.map_cons, List.map_nil]); first | done | rfl | (simp only [List.length_drop, List.length_take]; rfl)) ?_; (with_reducible refine (laws_eqIntS.calls kj24 _ _ t185 _ _ t161 true _ ?side1 ?side2 ?side3 ?side4 A47.out).mono ?_); (case side1 => repeat (first | exact (Kd.R_reads' HO188.out).2.2 | (with_reducible refine Kd.C_alloc ?_ _) | (with_reducible refine Kd.C_drewN ?_ _) | (with_reducible refine Kd.C_drew ?_))); (case side2 => exact (Kd.R_reads' HO188.out).2.1); (case side3 => repeat (first | exact (Kd.R_reads' HO_6.out).2.2 | (with_reducible refine Kd.C_alloc ?_ _) | (with_reducible refine Kd.C_drewN ?_ _) | (with_reducible refine Kd.C_drew ?_))); (case side4 => exact (Kd.R_reads' HO_6.out).2.1); rintro e w' ⟨rfl, ⟨nd, rfl⟩⟩; refine ⟨_, rfl, ?_⟩))
                          go_meet
                          case rel => exact ⟨_, ((t186 != t162)), (by first | rfl | (simp; done) | (simp [*]; done)), H', ⟨by have := HJ8.out; have := HJ24.out; first | omega | exact Nat.le_refl _⟩, ⟨by (with_reducible repeat (first | apply Kd.R_alloc | apply Kd.R_drewN | apply Kd.R_drew)); exact Kd.R_mono HO_9.out (fun _ hk => trivial)⟩, ⟨by repeat (first | (with_reducible first | exact HB.out | apply below_alloc | apply pw_below_drewN | apply below_drew1) | exact HB.out)⟩⟩
                        · replace c48 := Bool.eq_false_iff.mpr c48
                          subst c48
                          have H1 : (laws_FnExactCallGroups.j2 kj24 t180 t179 true) = some r := by rw [if_neg (show ¬ (false = true) by decide)] at H; exact H
                          clear H
                          have H := H1
                          clear H1
                          exact absurd ((laws_FnExactCallGroups.j2_no _ _ _ _ H).trans HRV.out) (by decide)
                      case rest =>
                        clear HC41
                        try clear c1
                        try clear c2
                        try clear p2
                        try clear c3
                        try clear c4
                        try clear c4b0
                        try clear c12
                        try clear c13
                        try clear c14
                        try clear c15
                        try clear c16
                        try clear c17
                        try clear c18
                        try clear c19
                        try clear c20
                        try clear c23
                        try clear c29
                        try clear c29b0
                        try clear c31
                        try clear c34
                        try clear c37
                        try clear c37b0
                        try clear c38
                        try clear c38b0
                        try clear c38b1
                        try clear c48
                        try clear p2
                        obtain ⟨kq, x92_40, rfl, HA, HJ40, HO_9, HB⟩ := hcut
                        have hl9_40 := (Kd.R_reads' HO_9.out).1
                        rw [hl9_40] at HO_9
                        (try simp only [hl9_40])
                        cases kq with
                        | zero => exact absurd HA.out (by simp [laws_FnExactCallGroups.j2])
                        | succ kj40 =>
                          have H := HA.out
                          clear HA
                          simp only [laws_FnExactCallGroups.j2] at H
                          by_cases c51 : x92_40 = true
                          · subst c51
                            have H1 : (some false) = some r := by rw [if_pos rfl] at H; exact H
                            clear H
                            have H := H1
                            clear H1
                            exact absurd ((Option.some.inj H).trans HRV.out) (by decide)
                          · replace c51 := Bool.eq_false_iff.mpr c51
                            subst c51
                            have H1 : ((laws_heldIntS.f kj40 t180 1).bind fun t190 => (if t190 < 0 then (some false) else (if t190 = t179 then (some true) else (some false)))) = some r := by rw [if_neg (show ¬ (false = true) by decide)] at H; exact H
                            clear H
                            have H := H1
                            clear H1
                            replace H := Option.bind_eq_some_iff.mp H
                            obtain ⟨t190, A520, H⟩ := H
                            replace H : (if t190 < 0 then (some false) else (if t190 = t179 then (some true) else (some false))) = some r := H
                            have A52 := Aside0.mk A520
                            clear A520
                            by_cases c53 : t190 < 0
                            · rw [if_pos c53] at H
                              have c53b0 : decide (t190 < 0) = true := decide_eq_true c53
                              clear c53
                              exact absurd ((Option.some.inj H).trans HRV.out) (by decide)
                            · rw [if_neg c53] at H
                              have c53b0 : decide (t190 < 0) = false := decide_eq_false c53
                              clear c53
                              by_cases c54 : t190 = t179
                              · rw [if_pos c54] at H
                                have c54b0 : (t190 == t179) = true := beq_iff_eq.mpr c54
                                have c54b1 : (t190 != t179) = false := bne_eq_false_iff_eq.mpr c54
                                clear c54
                                obtain rfl := Option.some.inj H
                                go_wp2_with (first | ((with_reducible refine gate_callee (f := 20) rfl ?_); refine goesL_ (some 95) rfl rfl Try.func20 (by kernel_rfl) rfl #[.slice Ao42 t180.length co42, .int .i64 1] rfl (by (try simp only [List.map_toArray, List.map_cons, List.map_nil]); first | done | rfl | (simp only [List.length_drop, List.length_take]; rfl)) ?_; (with_reducible refine (laws_heldIntS.calls kj40 _ _ t180 1 t190 _ ?side1 ?side2 A52.out).mono ?_); (case side1 => repeat (first | exact (Kd.R_reads' HO_9.out).2.2 | (with_reducible refine Kd.C_alloc ?_ _) | (with_reducible refine Kd.C_drewN ?_ _) | (with_reducible refine Kd.C_drew ?_))); (case side2 => exact (Kd.R_reads' HO_9.out).2.1); rintro e w' ⟨rfl, ⟨nd, rfl⟩⟩; refine ⟨_, rfl, ?_⟩))
                                go_ret
                                exact ⟨by first | rfl | (simp [errW_none, errW_some] <;> rfl) | (simp [*, errW_none, errW_some] <;> rfl), by repeat (first | (with_reducible first | exact HB.out | apply below_alloc | apply pw_below_drewN | apply below_drew1) | exact HB.out)⟩
                              · rw [if_neg c54] at H
                                have c54b0 : (t190 == t179) = false := beq_eq_false_iff_ne.mpr c54
                                have c54b1 : (t190 != t179) = true := bne_iff_ne.mpr c54
                                exact absurd ((Option.some.inj H).trans HRV.out) (by decide)
                    · rw [if_neg c38] at H
                      have c38b0 : (t181 == t179) = false := beq_eq_false_iff_ne.mpr c38
                      have c38b1 : (t181 != t179) = true := bne_iff_ne.mpr c38
                      exact absurd ((Option.some.inj H).trans HRV.out) (by decide)
          · replace c23 := Bool.eq_false_iff.mpr c23
            subst c23
            have H1 : (some false) = some r := by rw [if_neg (show ¬ (false = true) by decide)] at H; exact H
            clear H
            have H := H1
            clear H1
            exact absurd ((Option.some.inj H).trans HRV.out) (by decide)

def laws_FnExactCallGroups.Pure : Prop := ∀ (a0 : Int) (l1 : List (List Int)), (Lit.int .i64 a0).wf = true → l1.length ≤ maxLen → (∀ r ∈ l1, r.length ≤ maxLen ∧ ∀ x ∈ r, (Lit.int .i64 x).wf = true) → ∃ k, laws_FnExactCallGroups.f k a0 l1 = some true
theorem laws_FnExactCallGroups.walk (P : laws_FnExactCallGroups.Pure) (a0 : Int) (a1 : Option Addr) (cap1 : Nat) (l1 : List (List Int)) (w : World) (w0 : (Lit.int .i64 a0).wf = true) (hm : l1.length ≤ maxLen) (hw : ∀ r ∈ l1, r.length ≤ maxLen ∧ ∀ x ∈ r, (Lit.int .i64 x).wf = true) (hr : Kd.C (Kd.slice 3 (Kd.int .i64)) w a1 l1.length l1) (hc : l1.length ≤ cap1) :
    Calls Try.prog 3 #[.int .i64 a0, .slice a1 l1.length cap1] w fun e w' => e = .returned (.bool true) ∧ Below w.heap.size w w' := by
  obtain ⟨k, h⟩ := P a0 l1 w0 hm hw
  refine (laws_FnExactCallGroups.calls k a0 a1 cap1 l1 true w hr hc rfl h).mono ?_
  rintro e w' ⟨rfl, hd⟩
  exact ⟨rfl, hd⟩
/-- A slice of slices, opened (open_int_rows), reads as a list of lists. -/
theorem laws_FnExactCallGroups.reads {w : World} {a : Addr} {len cap : Nat} {A : Nat → Option Addr} {L C : Nat → Nat} {Z : Nat → List Int} (hl : len ≤ cap) (hm : cap ≤ maxLen)
    (h : ∀ r, r < cap → w.cell? (a.add r) = some (.slice (A r) (L r) (C r)) ∧ L r ≤ C r ∧ C r ≤ maxLen ∧ (Z r).length = C r ∧ (∀ n ∈ Z r, (Lit.int .i64 n).wf = true) ∧ (A r = none → C r = 0) ∧
        ∀ a', A r = some a' → 0 ≤ a'.block ∧ ∀ c, c < C r → w.cell? (a'.add c) = some (.int .i64 ((Z r).getD c 0))) :
    Kd.C (Kd.slice 3 (Kd.int .i64)) w (some a) len ((List.range len).map fun r => (Z r).take (L r)) ∧ ∀ r ∈ ((List.range len).map fun r => (Z r).take (L r)), r.length ≤ maxLen ∧ ∀ x ∈ r, (Lit.int .i64 x).wf = true := by
  have hlen : ∀ r, r < cap → ((Z r).take (L r)).length = L r := fun r hr => by
    obtain ⟨_, h1, _, h2, _⟩ := h r hr
    rw [List.length_take]; omega
  refine ⟨⟨by simp, Nat.le_trans hl (Nat.le_trans hm (by decide)), fun _ => ⟨a, rfl, fun j p hp => ?_⟩⟩, fun r hr => ?_⟩
  · rw [List.getElem?_map] at hp
    obtain ⟨q, hq, rfl⟩ := Option.map_eq_some_iff.1 hp
    obtain ⟨hj, hq⟩ := List.getElem?_eq_some_iff.1 hq
    rw [List.getElem_range] at hq
    subst hq
    rw [List.length_range] at hj
    have hj2 : j < cap := Nat.lt_of_lt_of_le hj hl
    obtain ⟨h0, h1, h2, h3, h4, h5, h6⟩ := h j hj2
    refine ⟨[.slice (A j) (L j) (C j)], rfl, ⟨A j, C j, by rw [hlen j hj2], by rw [hlen j hj2]; exact h1, Kd.C_of_reads (d := (0 : Int)) (h1 := fun _ => rfl) ⟨rfl, by rw [hlen j hj2]; exact Nat.le_trans h1 (Nat.le_trans h2 (by decide)), fun hn => ?_⟩⟩, fun i u hu => ?_⟩
    · rw [hlen j hj2] at hn ⊢
      cases hA : A j with
      | none => have := h5 hA; omega
      | some a' =>
        refine ⟨a', rfl, fun c hc => ?_⟩
        have hcc : c < C j := Nat.lt_of_lt_of_le hc h1
        rw [(h6 a' hA).2 c hcc]
        congr 2
        rw [List.getD_eq_getElem?_getD, List.getD_eq_getElem?_getD, List.getElem?_take_of_lt hc]
    · have hi : i = 0 := by
        have := (List.getElem?_eq_some_iff.1 hu).1
        simpa using this
      subst hi
      simp only [List.getElem?_cons_zero, Option.some.injEq] at hu
      subst hu
      show w.cell? (a.add (j * 1 + 0)) = _
      rw [Nat.mul_one, Nat.add_zero]
      exact h0
  · obtain ⟨j, hj, rfl⟩ := List.mem_map.1 hr
    have hj2 : j < cap := Nat.lt_of_lt_of_le (List.mem_range.1 hj) hl
    obtain ⟨h0, h1, h2, h3, h4, h5, h6⟩ := h j hj2
    exact ⟨by rw [hlen j hj2]; exact Nat.le_trans h1 h2, fun x hx => h4 x (List.mem_of_mem_take hx)⟩

end Go.Proofs.Ythaaakijekkkaaa.PFnExactCallGroups
