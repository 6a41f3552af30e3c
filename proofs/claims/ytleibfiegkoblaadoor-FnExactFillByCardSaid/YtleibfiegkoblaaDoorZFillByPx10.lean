/- Proved: each Go function named here, called, comes to the answer of the Lean function beside it. Conditions: those that stand in each theorem. (Printed by this session's own turned copy of a printing program.) -/
import Derived.Test.YtleibfiegkoblaaDoorZFillByPx0
import Derived.Test.YtleibfiegkoblaaDoorZFillByPx1
import Derived.Test.YtleibfiegkoblaaDoorZFillByPx5
import Derived.Test.YtleibfiegkoblaaDoorZFillByPx6
import Derived.Test.YtleibfiegkoblaaDoorZFillByPx8
import Derived.Test.YtleibfiegkoblaaDoorZFillByPx9
namespace Go.Proofs.YtleibfiegkoblaaDoor.PFnExactFillBy
open Go.RowKit Go.Proofs.YtleibfiegkoblaaDoorW.PrintWords Go.Proofs.YtleibfiegkoblaaDoorW.PrintLast Go.Proofs.YtleibfiegkoblaaDoorW.PrintMore
attribute [local go_sem] max2_int min2_int max_two min_two max_three min_three max_four min_four   -- for this text's walks alone
set_option linter.unusedVariables false
set_option linter.unusedSimpArgs false

/-! ### laws_FnExactFillBy: function 3 -/
mutual
def laws_FnExactFillBy.j0 : Nat → List Int → Bool → List Int → Bool → Bool → Int → Bool → List Int → Int → Bool → List Int → Int → Bool → List Int → Int → Bool → List Int → Option (Bool)
  | 0, _, _, _, _, _, _, _, _, _, _, _, _, _, _, _, _, _ => none
  | k + 1, x1, x7, x9, x11, x51, x338000, x338001, x338002, x354000, x354001, x354002, x360000, x360001, x360002, x370000, x370001, x370002 => if x51 = true then (some false) else ((laws_toRow.f k x338000 x338001 x338002).bind fun bt371 => ((laws_eqRow.f k x360000 x360001 x360002 bt371.1 bt371.2.1 bt371.2.2).bind fun t376 => (if t376 = true then ((laws_toIntS.f k x1).bind fun t377 => ((laws_eqIntS.f k x9 t377).bind fun t380 => (if t380 = true then ((laws_markRow.f k x360000 x360001 x360002 1).bind fun bt381 => ((laws_markIntS.f k x9 bt381.1).bind fun bt383 => (if bt383.1 < 0 then (laws_FnExactFillBy.j1 k x1 x7 true x338000 x338001 x338002 x354000 x354001 x354002 x370000 x370001 x370002) else ((laws_eqRow.f k x370000 x370001 x370002 x354000 x354001 x354002).bind fun t385 => (if t385 = true then (laws_FnExactFillBy.j1 k x1 x7 (x11 != x7) x338000 x338001 x338002 x354000 x354001 x354002 x370000 x370001 x370002) else (laws_FnExactFillBy.j1 k x1 x7 true x338000 x338001 x338002 x354000 x354001 x354002 x370000 x370001 x370002)))))) else (some false)))) else (some false))))
def laws_FnExactFillBy.j1 : Nat → List Int → Bool → Bool → Int → Bool → List Int → Int → Bool → List Int → Int → Bool → List Int → Option (Bool)
  | 0, _, _, _, _, _, _, _, _, _, _, _, _ => none
  | k + 1, x1, x7, x80, x338000, x338001, x338002, x354000, x354001, x354002, x370000, x370001, x370002 => if x80 = true then (some false) else ((laws_markRow.f k x370000 x370001 x370002 1).bind fun bt386 => ((laws_heldRow.f k x370000 x370001 bt386.2 1).bind fun t388 => (if t388 < 0 then (some false) else (if t388 = bt386.1 then ((laws_toRow.f k x338000 x338001 x338002).bind fun bt389 => ((laws_toIntS.f k x1).bind fun t394 => ((impl_FillBy.f k bt389.1 bt389.2.1 bt389.2.2 t394).bind fun bt397 => ((laws_eqRow.f k bt397.1 bt397.2.1 bt397.2.2.1 x354000 x354001 x354002).bind fun t404 => (if t404 = true then (laws_FnExactFillBy.j2 k bt386.1 (bt397.2.2.2 != x7) x370000 x370001 bt386.2) else (laws_FnExactFillBy.j2 k bt386.1 true x370000 x370001 bt386.2)))))) else (some false)))))
def laws_FnExactFillBy.j2 : Nat → Int → Bool → Int → Bool → List Int → Option (Bool)
  | 0, _, _, _, _, _ => none
  | k + 1, x13, x108, x370000, x370001, x370002 => if x108 = true then (some false) else ((laws_heldRow.f k x370000 x370001 x370002 1).bind fun t405 => (if t405 < 0 then (some false) else (if t405 = x13 then (some true) else (some false))))
end
def laws_FnExactFillBy.f (k : Nat) (a0_0 : Int) (a0_1 : Bool) (l0_2 : List Int) (l1 : List Int) : Option (Bool) := if (l1.length : Int) > 1048576 then (some true) else ((laws_szRow.f a0_0 a0_1 l0_2 1048576).bind fun t338 => (if t338 < 0 then (some true) else ((laws_toRow.f k a0_0 a0_1 l0_2).bind fun bt339 => ((laws_toIntS.f k l1).bind fun t344 => ((spec_FillBy.f k bt339.1 bt339.2.1 bt339.2.2 t344).bind fun bt347 => ((laws_toRow.f k a0_0 a0_1 l0_2).bind fun bt354 => ((laws_toIntS.f k l1).bind fun t360 => ((impl_FillBy.f k bt354.1 bt354.2.1 bt354.2.2 t360).bind fun bt363 => ((laws_eqRow.f k bt363.1 bt363.2.1 bt363.2.2.1 bt347.1 bt347.2.1 bt347.2.2.1).bind fun t370 => (if t370 = true then (laws_FnExactFillBy.j0 k l1 bt347.2.2.2 t360 bt363.2.2.2 (bt363.2.2.2 != bt347.2.2.2) a0_0 a0_1 l0_2 bt347.1 bt347.2.1 bt347.2.2.1 bt354.1 bt354.2.1 bt354.2.2 bt363.1 bt363.2.1 bt363.2.2.1) else (laws_FnExactFillBy.j0 k l1 bt347.2.2.2 t360 bt363.2.2.2 true a0_0 a0_1 l0_2 bt347.1 bt347.2.1 bt347.2.2.1 bt354.1 bt354.2.1 bt354.2.2 bt363.1 bt363.2.1 bt363.2.2.1)))))))))))
theorem laws_FnExactFillBy.j0_no (k : Nat) (y0 : List Int) (y1 : Bool) (y2 : List Int) (y3 : Bool) (y5 : Int) (y6 : Bool) (y7 : List Int) (y8 : Int) (y9 : Bool) (y10 : List Int) (y11 : Int) (y12 : Bool) (y13 : List Int) (y14 : Int) (y15 : Bool) (y16 : List Int) (r : Bool) (h : laws_FnExactFillBy.j0 k y0 y1 y2 y3 true y5 y6 y7 y8 y9 y10 y11 y12 y13 y14 y15 y16 = some r) : false = r := by
  cases k with
  | zero => exact absurd h (by simp [laws_FnExactFillBy.j0])
  | succ k => simp only [laws_FnExactFillBy.j0] at h; first | (rw [if_pos rfl] at h; exact Option.some.inj h) | (rw [if_pos trivial] at h; exact Option.some.inj h)
theorem laws_FnExactFillBy.j1_no (k : Nat) (y0 : List Int) (y1 : Bool) (y3 : Int) (y4 : Bool) (y5 : List Int) (y6 : Int) (y7 : Bool) (y8 : List Int) (y9 : Int) (y10 : Bool) (y11 : List Int) (r : Bool) (h : laws_FnExactFillBy.j1 k y0 y1 true y3 y4 y5 y6 y7 y8 y9 y10 y11 = some r) : false = r := by
  cases k with
  | zero => exact absurd h (by simp [laws_FnExactFillBy.j1])
  | succ k => simp only [laws_FnExactFillBy.j1] at h; first | (rw [if_pos rfl] at h; exact Option.some.inj h) | (rw [if_pos trivial] at h; exact Option.some.inj h)
theorem laws_FnExactFillBy.j2_no (k : Nat) (y0 : Int) (y2 : Int) (y3 : Bool) (y4 : List Int) (r : Bool) (h : laws_FnExactFillBy.j2 k y0 true y2 y3 y4 = some r) : false = r := by
  cases k with
  | zero => exact absurd h (by simp [laws_FnExactFillBy.j2])
  | succ k => simp only [laws_FnExactFillBy.j2] at h; first | (rw [if_pos rfl] at h; exact Option.some.inj h) | (rw [if_pos trivial] at h; exact Option.some.inj h)
set_option maxHeartbeats 8000000 in
set_option maxRecDepth 100000 in
theorem laws_FnExactFillBy.calls (k : Nat) (a0_0 : Int) (a0_1 : Bool) (A0_2 : Option Addr) (c0_2 : Nat) (l0_2 : List Int) (A1 : Option Addr) (c1 : Nat) (l1 : List Int) (r : Bool) (w : World) (hr0_2 : Kd.C (Kd.int .i64) w A0_2 l0_2.length l0_2) (hc0_2 : l0_2.length ≤ c0_2) (hr1 : Kd.C (Kd.int .i64) w A1 l1.length l1) (hc1 : l1.length ≤ c1) (hrT : GT w) (hr1_ : r = true) (h : laws_FnExactFillBy.f k a0_0 a0_1 l0_2 l1 = some r) :
    Calls Tryd.prog 3 #[.agg #[.int .i64 a0_0, .bool a0_1, .slice A0_2 l0_2.length c0_2], .slice A1 l1.length c1] w fun e w' => e = .returned (.bool r) ∧ Below w.heap.size w w' := by
  have hu24 := Tryd.underlying24
  have hu26 := Tryd.underlying26
  have HR0_2 := Aside0.mk hr0_2
  have HC0_2 := Aside0.mk hc0_2
  clear hr0_2 hc0_2
  have HR1 := Aside0.mk hr1
  have HC1 := Aside0.mk hc1
  clear hr1 hc1
  have HRV := Aside0.mk hr1_
  clear hr1_
  have HRT := Aside0.mk hrT
  clear hrT
  have HB := Aside0.mk (Below.refl w.heap.size w)
  have H : (if (l1.length : Int) > 1048576 then (some true) else ((laws_szRow.f a0_0 a0_1 l0_2 1048576).bind fun t338 => (if t338 < 0 then (some true) else ((laws_toRow.f k a0_0 a0_1 l0_2).bind fun bt339 => ((laws_toIntS.f k l1).bind fun t344 => ((spec_FillBy.f k bt339.1 bt339.2.1 bt339.2.2 t344).bind fun bt347 => ((laws_toRow.f k a0_0 a0_1 l0_2).bind fun bt354 => ((laws_toIntS.f k l1).bind fun t360 => ((impl_FillBy.f k bt354.1 bt354.2.1 bt354.2.2 t360).bind fun bt363 => ((laws_eqRow.f k bt363.1 bt363.2.1 bt363.2.2.1 bt347.1 bt347.2.1 bt347.2.2.1).bind fun t370 => (if t370 = true then (laws_FnExactFillBy.j0 k l1 bt347.2.2.2 t360 bt363.2.2.2 (bt363.2.2.2 != bt347.2.2.2) a0_0 a0_1 l0_2 bt347.1 bt347.2.1 bt347.2.2.1 bt354.1 bt354.2.1 bt354.2.2 bt363.1 bt363.2.1 bt363.2.2.1) else (laws_FnExactFillBy.j0 k l1 bt347.2.2.2 t360 bt363.2.2.2 true a0_0 a0_1 l0_2 bt347.1 bt347.2.1 bt347.2.2.1 bt354.1 bt354.2.1 bt354.2.2 bt363.1 bt363.2.1 bt363.2.2.1)))))))))))) = some r := h
  clear h
  by_cases c3 : (l1.length : Int) > 1048576
  · rw [if_pos c3] at H
    have c3b0 : decide (1048576 < (l1.length : Int)) = true := decide_eq_true c3
    have c3b1 : decide (1048576 < l1.length) = true := decide_eq_true (by omega)
    clear c3
    obtain rfl := Option.some.inj H
    go_enter Tryd.func3, Tryd.ntmps3
    go_wp2_with (first | ((with_reducible refine gate_dst (N := 2) rfl ?_); refine box_event ?hg (N := 2) ?hd (cs := #[.int .i64 a0_0, .bool a0_1, .slice A0_2 l0_2.length c0_2]) (t := 24) ?hr ?_; (case hd => rfl); (case hg => rfl); (case hr => first | (go_simp; done) | (go_simp; rfl)); intro gb337 hg w4 hbox hb; have n0_ := Aside0.mk (below_step (by repeat (first | (with_reducible first | exact HB.out | apply below_alloc | apply pw_below_drewN | apply below_drew1) | exact HB.out)) hb); have n1_ := Aside0.mk (hbox); have n2_ := Aside0.mk ((by rw [hg]; exact (below_size (by repeat (first | (with_reducible first | exact HB.out | apply below_alloc | apply pw_below_drewN | apply below_drew1) | exact HB.out))) : w.heap.size ≤ gb337)); have n3_ := Aside0.mk ((by rw [hg]; exact (below_size (by repeat (first | (with_reducible first | exact HB.out | apply below_alloc | apply pw_below_drewN | apply below_drew1) | exact HB.out))) : w.heap.size ≤ gb337)); clear HB; have HB := n0_; have BK337 := n1_; have GW337 := n2_; have GE337 := n3_; clear n0_ n1_ n2_ n3_; clear hb hbox hg))
    go_ret
    exact ⟨by first | rfl | (simp [errW_none, errW_some] <;> rfl) | (simp [*, errW_none, errW_some] <;> rfl), by repeat (first | (with_reducible first | exact HB.out | apply below_alloc | apply pw_below_drewN | apply below_drew1 | refine below_set ?_ GE337.out) | exact HB.out)⟩
  · rw [if_neg c3] at H
    have c3b0 : decide (1048576 < (l1.length : Int)) = false := decide_eq_false c3
    have c3b1 : decide (1048576 < l1.length) = false := decide_eq_false (by omega)
    clear c3
    replace H := Option.bind_eq_some_iff.mp H
    obtain ⟨t338, A50, H⟩ := H
    replace H : (if t338 < 0 then (some true) else ((laws_toRow.f k a0_0 a0_1 l0_2).bind fun bt339 => ((laws_toIntS.f k l1).bind fun t344 => ((spec_FillBy.f k bt339.1 bt339.2.1 bt339.2.2 t344).bind fun bt347 => ((laws_toRow.f k a0_0 a0_1 l0_2).bind fun bt354 => ((laws_toIntS.f k l1).bind fun t360 => ((impl_FillBy.f k bt354.1 bt354.2.1 bt354.2.2 t360).bind fun bt363 => ((laws_eqRow.f k bt363.1 bt363.2.1 bt363.2.2.1 bt347.1 bt347.2.1 bt347.2.2.1).bind fun t370 => (if t370 = true then (laws_FnExactFillBy.j0 k l1 bt347.2.2.2 t360 bt363.2.2.2 (bt363.2.2.2 != bt347.2.2.2) a0_0 a0_1 l0_2 bt347.1 bt347.2.1 bt347.2.2.1 bt354.1 bt354.2.1 bt354.2.2 bt363.1 bt363.2.1 bt363.2.2.1) else (laws_FnExactFillBy.j0 k l1 bt347.2.2.2 t360 bt363.2.2.2 true a0_0 a0_1 l0_2 bt347.1 bt347.2.1 bt347.2.2.1 bt354.1 bt354.2.1 bt354.2.2 bt363.1 bt363.2.1 bt363.2.2.1)))))))))) = some r := H
    have A5 := Aside0.mk A50
    clear A50
    by_cases c6 : t338 < 0
    · rw [if_pos c6] at H
      have c6b0 : decide (t338 < 0) = true := decide_eq_true c6
      clear c6
      obtain rfl := Option.some.inj H
      go_enter Tryd.func3, Tryd.ntmps3
      go_wp2_with (first | ((with_reducible refine gate_dst (N := 2) rfl ?_); refine box_event ?hg (N := 2) ?hd (cs := #[.int .i64 a0_0, .bool a0_1, .slice A0_2 l0_2.length c0_2]) (t := 24) ?hr ?_; (case hd => rfl); (case hg => rfl); (case hr => first | (go_simp; done) | (go_simp; rfl)); intro gb337 hg w7 hbox hb; have n0_ := Aside0.mk (below_step (by repeat (first | (with_reducible first | exact HB.out | apply below_alloc | apply pw_below_drewN | apply below_drew1) | exact HB.out)) hb); have n1_ := Aside0.mk (hbox); have n2_ := Aside0.mk ((by rw [hg]; exact (below_size (by repeat (first | (with_reducible first | exact HB.out | apply below_alloc | apply pw_below_drewN | apply below_drew1) | exact HB.out))) : w.heap.size ≤ gb337)); have n3_ := Aside0.mk ((by rw [hg]; exact (below_size (by repeat (first | (with_reducible first | exact HB.out | apply below_alloc | apply pw_below_drewN | apply below_drew1) | exact HB.out))) : w.heap.size ≤ gb337)); clear HB; have HB := n0_; have BK337 := n1_; have GW337 := n2_; have GE337 := n3_; clear n0_ n1_ n2_ n3_; clear hb hbox hg; have hcz8_0 : w7.cell? ⟨gb337, 0, none⟩ = some (.int .i64 a0_0) := (blk_cell BK337.out 0).trans rfl; have hcz8_1 : w7.cell? ⟨gb337, 1, none⟩ = some (.bool a0_1) := (blk_cell BK337.out 1).trans rfl; have hcz8_2 : w7.cell? ⟨gb337, 2, none⟩ = some (.slice A0_2 l0_2.length c0_2) := (blk_cell BK337.out 2).trans rfl; have hfz8_0 := blk_frozen BK337.out 0; have hfz8_1 := blk_frozen BK337.out 1; have hfz8_2 := blk_frozen BK337.out 2) | ((with_reducible refine gate_callee (f := 6) rfl ?_); refine goesL_ (some 22) rfl rfl Tryd.func6 (by kernel_rfl) rfl #[.agg #[.int .i64 a0_0, .bool a0_1, .slice A0_2 l0_2.length c0_2], .int .i64 1048576] rfl (by (try simp only [List.map_toArray, List.map_cons, List.map_nil]); first | done | rfl | (simp only [List.length_drop, List.length_take]; rfl)) ?_; (with_reducible refine (laws_szRow.calls a0_0 a0_1 _ _ l0_2 1048576 t338 _ ?side1 ?side2 A5.out).mono ?_); (case side1 => repeat (first | exact (Kd.C_below HR0_2.out HB.out) | (with_reducible refine Kd.C_alloc ?_ _) | (with_reducible refine Kd.C_drewN ?_ _) | (with_reducible refine Kd.C_drew ?_))); (case side2 => exact HC0_2.out); rintro e w9 ⟨rfl, hb⟩; refine ⟨_, rfl, ?_⟩; have n0_ := Aside0.mk (blk_below (g := gb337) (o := .cells #[.int .i64 a0_0, .bool a0_1, .slice A0_2 l0_2.length c0_2] 24 (0, 0)) (by (with_reducible repeat (first | refine blk_drewN ?_ _ | refine blk_drew ?_ | refine blk_alloc ?_ _)); exact BK337.out) hb); have n1_ := Aside0.mk (below_step (by repeat (first | (with_reducible first | exact HB.out | apply below_alloc | apply pw_below_drewN | apply below_drew1 | refine below_set ?_ GE337.out) | exact HB.out)) hb); clear BK337; clear HB; have BK337 := n0_; have HB := n1_; clear n0_ n1_; (try clear hb); (try clear hb2); (try clear hk); (try clear hi)))
      go_ret
      exact ⟨by first | rfl | (simp [errW_none, errW_some] <;> rfl) | (simp [*, errW_none, errW_some] <;> rfl), by repeat (first | (with_reducible first | exact HB.out | apply below_alloc | apply pw_below_drewN | apply below_drew1 | refine below_set ?_ GE337.out) | exact HB.out)⟩
    · rw [if_neg c6] at H
      have c6b0 : decide (t338 < 0) = false := decide_eq_false c6
      clear c6
      replace H := Option.bind_eq_some_iff.mp H
      obtain ⟨⟨t339, t340, t341⟩, A100, H⟩ := H
      replace H : ((laws_toIntS.f k l1).bind fun t344 => ((spec_FillBy.f k t339 t340 t341 t344).bind fun bt347 => ((laws_toRow.f k a0_0 a0_1 l0_2).bind fun bt354 => ((laws_toIntS.f k l1).bind fun t360 => ((impl_FillBy.f k bt354.1 bt354.2.1 bt354.2.2 t360).bind fun bt363 => ((laws_eqRow.f k bt363.1 bt363.2.1 bt363.2.2.1 bt347.1 bt347.2.1 bt347.2.2.1).bind fun t370 => (if t370 = true then (laws_FnExactFillBy.j0 k l1 bt347.2.2.2 t360 bt363.2.2.2 (bt363.2.2.2 != bt347.2.2.2) a0_0 a0_1 l0_2 bt347.1 bt347.2.1 bt347.2.2.1 bt354.1 bt354.2.1 bt354.2.2 bt363.1 bt363.2.1 bt363.2.2.1) else (laws_FnExactFillBy.j0 k l1 bt347.2.2.2 t360 bt363.2.2.2 true a0_0 a0_1 l0_2 bt347.1 bt347.2.1 bt347.2.2.1 bt354.1 bt354.2.1 bt354.2.2 bt363.1 bt363.2.1 bt363.2.2.1)))))))) = some r := H
      have A10 := Aside0.mk A100
      clear A100
      replace H := Option.bind_eq_some_iff.mp H
      obtain ⟨t344, A110, H⟩ := H
      replace H : ((spec_FillBy.f k t339 t340 t341 t344).bind fun bt347 => ((laws_toRow.f k a0_0 a0_1 l0_2).bind fun bt354 => ((laws_toIntS.f k l1).bind fun t360 => ((impl_FillBy.f k bt354.1 bt354.2.1 bt354.2.2 t360).bind fun bt363 => ((laws_eqRow.f k bt363.1 bt363.2.1 bt363.2.2.1 bt347.1 bt347.2.1 bt347.2.2.1).bind fun t370 => (if t370 = true then (laws_FnExactFillBy.j0 k l1 bt347.2.2.2 t360 bt363.2.2.2 (bt363.2.2.2 != bt347.2.2.2) a0_0 a0_1 l0_2 bt347.1 bt347.2.1 bt347.2.2.1 bt354.1 bt354.2.1 bt354.2.2 bt363.1 bt363.2.1 bt363.2.2.1) else (laws_FnExactFillBy.j0 k l1 bt347.2.2.2 t360 bt363.2.2.2 true a0_0 a0_1 l0_2 bt347.1 bt347.2.1 bt347.2.2.1 bt354.1 bt354.2.1 bt354.2.2 bt363.1 bt363.2.1 bt363.2.2.1))))))) = some r := H
      have A11 := Aside0.mk A110
      clear A110
      replace H := Option.bind_eq_some_iff.mp H
      obtain ⟨⟨t347, t348, t349, t352⟩, A120, H⟩ := H
      replace H : ((laws_toRow.f k a0_0 a0_1 l0_2).bind fun bt354 => ((laws_toIntS.f k l1).bind fun t360 => ((impl_FillBy.f k bt354.1 bt354.2.1 bt354.2.2 t360).bind fun bt363 => ((laws_eqRow.f k bt363.1 bt363.2.1 bt363.2.2.1 t347 t348 t349).bind fun t370 => (if t370 = true then (laws_FnExactFillBy.j0 k l1 t352 t360 bt363.2.2.2 (bt363.2.2.2 != t352) a0_0 a0_1 l0_2 t347 t348 t349 bt354.1 bt354.2.1 bt354.2.2 bt363.1 bt363.2.1 bt363.2.2.1) else (laws_FnExactFillBy.j0 k l1 t352 t360 bt363.2.2.2 true a0_0 a0_1 l0_2 t347 t348 t349 bt354.1 bt354.2.1 bt354.2.2 bt363.1 bt363.2.1 bt363.2.2.1)))))) = some r := H
      have A12 := Aside0.mk A120
      clear A120
      replace H := Option.bind_eq_some_iff.mp H
      obtain ⟨⟨t354, t355, t356⟩, A130, H⟩ := H
      replace H : ((laws_toIntS.f k l1).bind fun t360 => ((impl_FillBy.f k t354 t355 t356 t360).bind fun bt363 => ((laws_eqRow.f k bt363.1 bt363.2.1 bt363.2.2.1 t347 t348 t349).bind fun t370 => (if t370 = true then (laws_FnExactFillBy.j0 k l1 t352 t360 bt363.2.2.2 (bt363.2.2.2 != t352) a0_0 a0_1 l0_2 t347 t348 t349 t354 t355 t356 bt363.1 bt363.2.1 bt363.2.2.1) else (laws_FnExactFillBy.j0 k l1 t352 t360 bt363.2.2.2 true a0_0 a0_1 l0_2 t347 t348 t349 t354 t355 t356 bt363.1 bt363.2.1 bt363.2.2.1))))) = some r := H
      have A13 := Aside0.mk A130
      clear A130
      replace H := Option.bind_eq_some_iff.mp H
      obtain ⟨t360, A140, H⟩ := H
      replace H : ((impl_FillBy.f k t354 t355 t356 t360).bind fun bt363 => ((laws_eqRow.f k bt363.1 bt363.2.1 bt363.2.2.1 t347 t348 t349).bind fun t370 => (if t370 = true then (laws_FnExactFillBy.j0 k l1 t352 t360 bt363.2.2.2 (bt363.2.2.2 != t352) a0_0 a0_1 l0_2 t347 t348 t349 t354 t355 t356 bt363.1 bt363.2.1 bt363.2.2.1) else (laws_FnExactFillBy.j0 k l1 t352 t360 bt363.2.2.2 true a0_0 a0_1 l0_2 t347 t348 t349 t354 t355 t356 bt363.1 bt363.2.1 bt363.2.2.1)))) = some r := H
      have A14 := Aside0.mk A140
      clear A140
      replace H := Option.bind_eq_some_iff.mp H
      obtain ⟨⟨t363, t364, t365, t368⟩, A150, H⟩ := H
      replace H : ((laws_eqRow.f k t363 t364 t365 t347 t348 t349).bind fun t370 => (if t370 = true then (laws_FnExactFillBy.j0 k l1 t352 t360 t368 (t368 != t352) a0_0 a0_1 l0_2 t347 t348 t349 t354 t355 t356 t363 t364 t365) else (laws_FnExactFillBy.j0 k l1 t352 t360 t368 true a0_0 a0_1 l0_2 t347 t348 t349 t354 t355 t356 t363 t364 t365))) = some r := H
      have A15 := Aside0.mk A150
      clear A150
      have HC16 := Aside0.mk H
      clear H
      go_enter Tryd.func3, Tryd.ntmps3
      go_upto_region 11 with (first | ((with_reducible refine gate_dst (N := 2) rfl ?_); refine box_event ?hg (N := 2) ?hd (cs := #[.int .i64 a0_0, .bool a0_1, .slice A0_2 l0_2.length c0_2]) (t := 24) ?hr ?_; (case hd => rfl); (case hg => rfl); (case hr => first | (go_simp; done) | (go_simp; rfl)); intro gb337 hg w17 hbox hb; have n0_ := Aside0.mk (below_step (by repeat (first | (with_reducible first | exact HB.out | apply below_alloc | apply pw_below_drewN | apply below_drew1) | exact HB.out)) hb); have n1_ := Aside0.mk (hbox); have n2_ := Aside0.mk ((by rw [hg]; exact (below_size (by repeat (first | (with_reducible first | exact HB.out | apply below_alloc | apply pw_below_drewN | apply below_drew1) | exact HB.out))) : w.heap.size ≤ gb337)); have n3_ := Aside0.mk ((by rw [hg]; exact (below_size (by repeat (first | (with_reducible first | exact HB.out | apply below_alloc | apply pw_below_drewN | apply below_drew1) | exact HB.out))) : w.heap.size ≤ gb337)); clear HB; have HB := n0_; have BK337 := n1_; have GW337 := n2_; have GE337 := n3_; clear n0_ n1_ n2_ n3_; clear hb hbox hg; have hcz18_0 : w17.cell? ⟨gb337, 0, none⟩ = some (.int .i64 a0_0) := (blk_cell BK337.out 0).trans rfl; have hcz18_1 : w17.cell? ⟨gb337, 1, none⟩ = some (.bool a0_1) := (blk_cell BK337.out 1).trans rfl; have hcz18_2 : w17.cell? ⟨gb337, 2, none⟩ = some (.slice A0_2 l0_2.length c0_2) := (blk_cell BK337.out 2).trans rfl; have hfz18_0 := blk_frozen BK337.out 0; have hfz18_1 := blk_frozen BK337.out 1; have hfz18_2 := blk_frozen BK337.out 2) | ((with_reducible refine gate_callee (f := 6) rfl ?_); refine goesL_ (some 22) rfl rfl Tryd.func6 (by kernel_rfl) rfl #[.agg #[.int .i64 a0_0, .bool a0_1, .slice A0_2 l0_2.length c0_2], .int .i64 1048576] rfl (by (try simp only [List.map_toArray, List.map_cons, List.map_nil]); first | done | rfl | (simp only [List.length_drop, List.length_take]; rfl)) ?_; (with_reducible refine (laws_szRow.calls a0_0 a0_1 _ _ l0_2 1048576 t338 _ ?side1 ?side2 A5.out).mono ?_); (case side1 => repeat (first | exact (Kd.C_below HR0_2.out HB.out) | (with_reducible refine Kd.C_alloc ?_ _) | (with_reducible refine Kd.C_drewN ?_ _) | (with_reducible refine Kd.C_drew ?_))); (case side2 => exact HC0_2.out); rintro e w19 ⟨rfl, hb⟩; refine ⟨_, rfl, ?_⟩; have n0_ := Aside0.mk (blk_below (g := gb337) (o := .cells #[.int .i64 a0_0, .bool a0_1, .slice A0_2 l0_2.length c0_2] 24 (0, 0)) (by (with_reducible repeat (first | refine blk_drewN ?_ _ | refine blk_drew ?_ | refine blk_alloc ?_ _)); exact BK337.out) hb); have n1_ := Aside0.mk (below_step (by repeat (first | (with_reducible first | exact HB.out | apply below_alloc | apply pw_below_drewN | apply below_drew1 | refine below_set ?_ GE337.out) | exact HB.out)) hb); clear BK337; clear HB; have BK337 := n0_; have HB := n1_; clear n0_ n1_; (try clear hb); (try clear hb2); (try clear hk); (try clear hi); have hcz20_0 : w19.cell? ⟨gb337, 0, none⟩ = some (.int .i64 a0_0) := (blk_cell BK337.out 0).trans rfl; have hcz20_1 : w19.cell? ⟨gb337, 1, none⟩ = some (.bool a0_1) := (blk_cell BK337.out 1).trans rfl; have hcz20_2 : w19.cell? ⟨gb337, 2, none⟩ = some (.slice A0_2 l0_2.length c0_2) := (blk_cell BK337.out 2).trans rfl; have hfz20_0 := blk_frozen BK337.out 0; have hfz20_1 := blk_frozen BK337.out 1; have hfz20_2 := blk_frozen BK337.out 2) | ((with_reducible refine gate_callee (f := 8) rfl ?_); refine goesL_ (some 27) rfl rfl Tryd.func8 (by kernel_rfl) rfl #[.agg #[.int .i64 a0_0, .bool a0_1, .slice A0_2 l0_2.length c0_2]] rfl (by (try simp only [List.map_toArray, List.map_cons, List.map_nil]); first | done | rfl | (simp only [List.length_drop, List.length_take]; rfl)) ?_; (with_reducible refine (laws_toRow.calls k a0_0 a0_1 _ _ l0_2 t339 t340 t341 _ ?side1 ?side2 A10.out).mono ?_); (case side1 => repeat (first | exact (Kd.C_below HR0_2.out HB.out) | (with_reducible refine Kd.C_alloc ?_ _) | (with_reducible refine Kd.C_drewN ?_ _) | (with_reducible refine Kd.C_drew ?_))); (case side2 => exact HC0_2.out); rintro e w21 ⟨v342, rfl, ho0, hb⟩; refine ⟨_, rfl, ?_⟩; have n0_ := Aside0.mk (Kd.R_lower ho0 (below_size (by repeat (first | (with_reducible first | exact HB.out | apply below_alloc | apply pw_below_drewN | apply below_drew1 | refine below_set ?_ GE337.out) | exact HB.out)))); have n1_ := Aside0.mk (blk_below (g := gb337) (o := .cells #[.int .i64 a0_0, .bool a0_1, .slice A0_2 l0_2.length c0_2] 24 (0, 0)) (by (with_reducible repeat (first | refine blk_drewN ?_ _ | refine blk_drew ?_ | refine blk_alloc ?_ _)); exact BK337.out) hb); have n2_ := Aside0.mk (below_step (by repeat (first | (with_reducible first | exact HB.out | apply below_alloc | apply pw_below_drewN | apply below_drew1 | refine below_set ?_ GE337.out) | exact HB.out)) hb); clear BK337; clear HB; have HO343 := n0_; have BK337 := n1_; have HB := n2_; clear n0_ n1_ n2_; (try clear hb); (try clear hb2); (try clear hk); (try clear hi); (try clear ho0)) | ((with_reducible refine gate_callee (f := 9) rfl ?_); refine goesL_ (some 29) rfl rfl Tryd.func9 (by kernel_rfl) rfl #[.slice A1 l1.length c1] rfl (by (try simp only [List.map_toArray, List.map_cons, List.map_nil]); first | done | rfl | (simp only [List.length_drop, List.length_take]; rfl)) ?_; (with_reducible refine (laws_toIntS.calls k _ _ l1 t344 _ ?side1 ?side2 A11.out).mono ?_); (case side1 => repeat (first | exact (Kd.C_below HR1.out HB.out) | (with_reducible refine Kd.C_alloc ?_ _) | (with_reducible refine Kd.C_drewN ?_ _) | (with_reducible refine Kd.C_drew ?_))); (case side2 => exact HC1.out); rintro e w22 ⟨v345, rfl, ho0, hb⟩; refine ⟨_, rfl, ?_⟩; have n0_ := Aside0.mk (Kd.R_elder' (by (with_reducible repeat (first | apply Kd.R_alloc | apply Kd.R_drewN | apply Kd.R_drew)); exact HO343.out) (Kd.R_base ho0) hb); have n1_ := Aside0.mk (Kd.R_lower (Kd.R_new' ho0 (Kd.R_lt (by (with_reducible repeat (first | apply Kd.R_alloc | apply Kd.R_drewN | apply Kd.R_drew)); exact HO343.out))) (below_size (by repeat (first | (with_reducible first | exact HB.out | apply below_alloc | apply pw_below_drewN | apply below_drew1 | refine below_set ?_ GE337.out) | exact HB.out)))); have n2_ := Aside0.mk (blk_below (g := gb337) (o := .cells #[.int .i64 a0_0, .bool a0_1, .slice A0_2 l0_2.length c0_2] 24 (0, 0)) (by (with_reducible repeat (first | refine blk_drewN ?_ _ | refine blk_drew ?_ | refine blk_alloc ?_ _)); exact BK337.out) hb); have n3_ := Aside0.mk (below_step (by repeat (first | (with_reducible first | exact HB.out | apply below_alloc | apply pw_below_drewN | apply below_drew1 | refine below_set ?_ GE337.out) | exact HB.out)) hb); clear HO343; clear BK337; clear HB; have HO343 := n0_; have HO346 := n1_; have BK337 := n2_; have HB := n3_; clear n0_ n1_ n2_ n3_; (try clear hb); (try clear hb2); (try clear hk); (try clear hi); (try clear ho0); obtain ⟨Ao23, co23, eo23⟩ := Kd.R_slice HO343.out; subst eo23; obtain ⟨Ao24, co24, eo24⟩ := Kd.R_slice HO346.out; subst eo24) | ((with_reducible refine gate_callee (f := 7) rfl ?_); refine goesL_ (some 30) rfl rfl Tryd.func7 (by kernel_rfl) rfl #[.agg #[.int .i64 t339, .bool t340, .slice Ao23 t341.length co23], .slice Ao24 t344.length co24] rfl (by (try simp only [List.map_toArray, List.map_cons, List.map_nil]); first | done | rfl | (simp only [List.length_drop, List.length_take]; rfl)) ?_; (with_reducible refine (spec_FillBy.calls k t339 t340 _ _ t341 _ _ t344 t347 t348 t349 t352 _ ?side1 ?side2 ?side3 ?side4 A12.out).mono ?_); (case side1 => repeat (first | exact (Kd.R_reads' HO343.out).2.2 | (with_reducible refine Kd.C_alloc ?_ _) | (with_reducible refine Kd.C_drewN ?_ _) | (with_reducible refine Kd.C_drew ?_))); (case side2 => exact (Kd.R_reads' HO343.out).2.1); (case side3 => repeat (first | exact (Kd.R_reads' HO346.out).2.2 | (with_reducible refine Kd.C_alloc ?_ _) | (with_reducible refine Kd.C_drewN ?_ _) | (with_reducible refine Kd.C_drew ?_))); (case side4 => exact (Kd.R_reads' HO346.out).2.1); rintro e w25 ⟨v350, rfl, ho0, hb⟩; refine ⟨_, rfl, ?_⟩; have n0_ := Aside0.mk (Kd.R_below (by (with_reducible repeat (first | apply Kd.R_alloc | apply Kd.R_drewN | apply Kd.R_drew)); exact HO343.out) hb); have n1_ := Aside0.mk (Kd.R_below (by (with_reducible repeat (first | apply Kd.R_alloc | apply Kd.R_drewN | apply Kd.R_drew)); exact HO346.out) hb); have n2_ := Aside0.mk (Kd.V_lower (Kd.V_mono (ok' := fun k_ => some k_ ≠ (.slice Ao23 t341.length co23 : Value).ownBlock ∧ some k_ ≠ (.slice Ao24 t344.length co24 : Value).ownBlock ∧ k_ ≠ gb337) ho0 (fun k_ hk_ => ⟨(Kd.fresh' (Kd.R_lt (by (with_reducible repeat (first | apply Kd.R_alloc | apply Kd.R_drewN | apply Kd.R_drew)); exact HO343.out)) k_ hk_), (Kd.fresh' (Kd.R_lt (by (with_reducible repeat (first | apply Kd.R_alloc | apply Kd.R_drewN | apply Kd.R_drew)); exact HO346.out)) k_ hk_), (Kd.freshB (g := gb337) (o := .cells #[.int .i64 a0_0, .bool a0_1, .slice A0_2 l0_2.length c0_2] 24 (0, 0)) (by (with_reducible repeat (first | refine blk_drewN ?_ _ | refine blk_drew ?_ | refine blk_alloc ?_ _)); exact BK337.out) k_ hk_)⟩)) (below_size (by repeat (first | (with_reducible first | exact HB.out | apply below_alloc | apply pw_below_drewN | apply below_drew1 | refine below_set ?_ GE337.out) | exact HB.out)))); have n3_ := Aside0.mk (blk_below (g := gb337) (o := .cells #[.int .i64 a0_0, .bool a0_1, .slice A0_2 l0_2.length c0_2] 24 (0, 0)) (by (with_reducible repeat (first | refine blk_drewN ?_ _ | refine blk_drew ?_ | refine blk_alloc ?_ _)); exact BK337.out) hb); have n4_ := Aside0.mk (below_step (by repeat (first | (with_reducible first | exact HB.out | apply below_alloc | apply pw_below_drewN | apply below_drew1 | refine below_set ?_ GE337.out) | exact HB.out)) hb); clear HO343; clear HO346; clear BK337; clear HB; have HO343 := n0_; have HO346 := n1_; have HO351 := n2_; have BK337 := n3_; have HB := n4_; clear n0_ n1_ n2_ n3_ n4_; (try clear hb); (try clear hb2); (try clear hk); (try clear hi); (try clear ho0)) | ((with_reducible refine gate_dst (N := 6) rfl ?_); refine box_event ?hg (N := 6) ?hd (cs := #[.int .i64 0, .bool false, .slice none 0 0]) (t := 26) ?hr ?_; (case hd => rfl); (case hg => rfl); (case hr => first | (go_simp; done) | (go_simp; rfl)); intro gb353 hg w26 hbox hb; have n0_ := Aside0.mk (Kd.R_below (by (with_reducible repeat (first | apply Kd.R_alloc | apply Kd.R_drewN | apply Kd.R_drew)); exact HO343.out) hb); have n1_ := Aside0.mk (Kd.R_below (by (with_reducible repeat (first | apply Kd.R_alloc | apply Kd.R_drewN | apply Kd.R_drew)); exact HO346.out) hb); have n2_ := Aside0.mk (Kd.V_below (Kd.V_elderB (by (with_reducible repeat (first | apply Kd.V_alloc | apply Kd.V_drewN | apply Kd.V_drew)); exact HO351.out) gb353 (Nat.le_of_eq hg.symm)) hb); have n3_ := Aside0.mk (blk_below (g := gb337) (o := .cells #[.int .i64 a0_0, .bool a0_1, .slice A0_2 l0_2.length c0_2] 24 (0, 0)) (by (with_reducible repeat (first | refine blk_drewN ?_ _ | refine blk_drew ?_ | refine blk_alloc ?_ _)); exact BK337.out) hb); have n4_ := Aside0.mk (below_step (by repeat (first | (with_reducible first | exact HB.out | apply below_alloc | apply pw_below_drewN | apply below_drew1 | refine below_set ?_ GE337.out) | exact HB.out)) hb); have n5_ := Aside0.mk (hbox); have n6_ := Aside0.mk ((by rw [hg]; exact (below_size (by repeat (first | (with_reducible first | exact HB.out | apply below_alloc | apply pw_below_drewN | apply below_drew1 | refine below_set ?_ GE337.out) | exact HB.out))) : w.heap.size ≤ gb353)); have n7_ := Aside0.mk ((by rw [hg]; exact (below_size (by repeat (first | (with_reducible first | exact HB.out | apply below_alloc | apply pw_below_drewN | apply below_drew1 | refine below_set ?_ GE337.out) | exact HB.out))) : w.heap.size ≤ gb353)); have n8_ := Aside0.mk ((by rw [hg]; exact Nat.ne_of_lt (blk_lt (g := gb337) (o := .cells #[.int .i64 a0_0, .bool a0_1, .slice A0_2 l0_2.length c0_2] 24 (0, 0)) (by (with_reducible repeat (first | refine blk_drewN ?_ _ | refine blk_drew ?_ | refine blk_alloc ?_ _)); exact BK337.out)) : gb337 ≠ gb353)); have n9_ := Aside0.mk ((by rw [hg]; exact Nat.ne_of_gt (blk_lt (g := gb337) (o := .cells #[.int .i64 a0_0, .bool a0_1, .slice A0_2 l0_2.length c0_2] 24 (0, 0)) (by (with_reducible repeat (first | refine blk_drewN ?_ _ | refine blk_drew ?_ | refine blk_alloc ?_ _)); exact BK337.out)) : gb353 ≠ gb337)); clear HO343; clear HO346; clear HO351; clear BK337; clear HB; have HO343 := n0_; have HO346 := n1_; have HO351 := n2_; have BK337 := n3_; have HB := n4_; have BK353 := n5_; have GW353 := n6_; have GE353 := n7_; have NB337_353 := n8_; have NB353_337 := n9_; clear n0_ n1_ n2_ n3_ n4_ n5_ n6_ n7_ n8_ n9_; clear hb hbox hg; have hnb27 := NB353_337.out; have hnc27 := NB337_353.out; have hcz28_0 : w26.cell? ⟨gb353, 0, none⟩ = some (.int .i64 0) := (blk_cell BK353.out 0).trans rfl; have hcz28_1 : w26.cell? ⟨gb353, 1, none⟩ = some (.bool false) := (blk_cell BK353.out 1).trans rfl; have hcz28_2 : w26.cell? ⟨gb353, 2, none⟩ = some (.slice none 0 0) := (blk_cell BK353.out 2).trans rfl; have hfz28_0 := blk_frozen BK353.out 0; have hfz28_1 := blk_frozen BK353.out 1; have hfz28_2 := blk_frozen BK353.out 2; obtain ⟨Ao29, co29, eo29⟩ := Kd.V_slice HO351.out; subst eo29; have hcz30_0 : w26.cell? ⟨gb337, 0, none⟩ = some (.int .i64 a0_0) := (blk_cell BK337.out 0).trans rfl; have hcz30_1 : w26.cell? ⟨gb337, 1, none⟩ = some (.bool a0_1) := (blk_cell BK337.out 1).trans rfl; have hcz30_2 : w26.cell? ⟨gb337, 2, none⟩ = some (.slice A0_2 l0_2.length c0_2) := (blk_cell BK337.out 2).trans rfl; have hfz30_0 := blk_frozen BK337.out 0; have hfz30_1 := blk_frozen BK337.out 1; have hfz30_2 := blk_frozen BK337.out 2) | ((with_reducible refine gate_callee (f := 8) rfl ?_); refine goesL_ (some 34) rfl rfl Tryd.func8 (by kernel_rfl) rfl #[.agg #[.int .i64 a0_0, .bool a0_1, .slice A0_2 l0_2.length c0_2]] rfl (by (try simp only [List.map_toArray, List.map_cons, List.map_nil]); first | done | rfl | (simp only [List.length_drop, List.length_take]; rfl)) ?_; (with_reducible refine (laws_toRow.calls k a0_0 a0_1 _ _ l0_2 t354 t355 t356 _ ?side1 ?side2 A13.out).mono ?_); (case side1 => exact Kd.C_below HR0_2.out (by repeat (first | (with_reducible first | exact HB.out | apply below_alloc | apply pw_below_drewN | apply below_drew1 | refine below_set ?_ GE337.out | refine below_set ?_ GE353.out) | exact HB.out))); (case side2 => exact HC0_2.out); rintro e w31 ⟨v357, rfl, ho0, hb⟩; refine ⟨_, rfl, ?_⟩; have n0_ := Aside0.mk (Kd.R_elder' (by (with_reducible repeat (first | apply Kd.R_alloc | apply Kd.R_drewN | apply Kd.R_drew)); exact (Kd.R_mono (Kd.R_far (p := ⟨gb353, 2, none⟩) (Kd.R_far (p := ⟨gb353, 1, none⟩) (Kd.R_far (p := ⟨gb353, 0, none⟩) (Kd.R_types HO343.out BK353.out (by decide)) (fun _ hk => hk.2) (.int .i64 t347)) (fun _ hk => hk.2) (.bool t348)) (fun _ hk => hk.2) (.slice Ao29 t349.length co29)) (fun _ h_ => h_.1))) (Kd.R_base ho0) hb); have n1_ := Aside0.mk (Kd.R_elder' (by (with_reducible repeat (first | apply Kd.R_alloc | apply Kd.R_drewN | apply Kd.R_drew)); exact (Kd.R_mono (Kd.R_far (p := ⟨gb353, 2, none⟩) (Kd.R_far (p := ⟨gb353, 1, none⟩) (Kd.R_far (p := ⟨gb353, 0, none⟩) (Kd.R_types HO346.out BK353.out (by decide)) (fun _ hk => hk.2) (.int .i64 t347)) (fun _ hk => hk.2) (.bool t348)) (fun _ hk => hk.2) (.slice Ao29 t349.length co29)) (fun _ h_ => h_.1))) (Kd.R_base ho0) hb); have n2_ := Aside0.mk (Kd.V_elder' (by (with_reducible repeat (first | apply Kd.V_alloc | apply Kd.V_drewN | apply Kd.V_drew)); exact (Kd.V_mono (Kd.V_far (p := ⟨gb353, 2, none⟩) (Kd.V_far (p := ⟨gb353, 1, none⟩) (Kd.V_far (p := ⟨gb353, 0, none⟩) (Kd.V_mono HO351.out (fun k_ hk => (⟨hk, hk.2⟩ : _ ∧ k_ ≠ gb353))) (fun _ hk => hk.2) (.int .i64 t347)) (fun _ hk => hk.2) (.bool t348)) (fun _ hk => hk.2) (.slice Ao29 t349.length co29)) (fun _ h_ => h_.1))) (Kd.R_base ho0) hb); have n3_ := Aside0.mk (Kd.R_lower (Kd.R_new' (Kd.R_new' ho0 (Kd.R_lt (by (with_reducible repeat (first | apply Kd.R_alloc | apply Kd.R_drewN | apply Kd.R_drew)); exact (Kd.R_mono (Kd.R_far (p := ⟨gb353, 2, none⟩) (Kd.R_far (p := ⟨gb353, 1, none⟩) (Kd.R_far (p := ⟨gb353, 0, none⟩) (Kd.R_types HO343.out BK353.out (by decide)) (fun _ hk => hk.2) (.int .i64 t347)) (fun _ hk => hk.2) (.bool t348)) (fun _ hk => hk.2) (.slice Ao29 t349.length co29)) (fun _ h_ => h_.1))))) (Kd.R_lt (by (with_reducible repeat (first | apply Kd.R_alloc | apply Kd.R_drewN | apply Kd.R_drew)); exact (Kd.R_mono (Kd.R_far (p := ⟨gb353, 2, none⟩) (Kd.R_far (p := ⟨gb353, 1, none⟩) (Kd.R_far (p := ⟨gb353, 0, none⟩) (Kd.R_types HO346.out BK353.out (by decide)) (fun _ hk => hk.2) (.int .i64 t347)) (fun _ hk => hk.2) (.bool t348)) (fun _ hk => hk.2) (.slice Ao29 t349.length co29)) (fun _ h_ => h_.1))))) (below_size (by repeat (first | (with_reducible first | exact HB.out | apply below_alloc | apply pw_below_drewN | apply below_drew1 | refine below_set ?_ GE337.out | refine below_set ?_ GE353.out) | exact HB.out)))); have n4_ := Aside0.mk (blk_below (g := gb337) (o := .cells #[.int .i64 a0_0, .bool a0_1, .slice A0_2 l0_2.length c0_2] 24 (0, 0)) (by (with_reducible repeat (first | refine blk_drewN ?_ _ | refine blk_drew ?_ | refine blk_alloc ?_ _)); refine blk_far ?_ NB337_353.out _; (with_reducible repeat (first | refine blk_drewN ?_ _ | refine blk_drew ?_ | refine blk_alloc ?_ _)); refine blk_far ?_ NB337_353.out _; (with_reducible repeat (first | refine blk_drewN ?_ _ | refine blk_drew ?_ | refine blk_alloc ?_ _)); refine blk_far ?_ NB337_353.out _; (with_reducible repeat (first | refine blk_drewN ?_ _ | refine blk_drew ?_ | refine blk_alloc ?_ _)); exact BK337.out) hb); have n5_ := Aside0.mk (blk_below (g := gb353) (o := .cells #[.int .i64 t347, .bool t348, .slice Ao29 t349.length co29] 26 (0, 0)) (by (with_reducible repeat (first | refine blk_drewN ?_ _ | refine blk_drew ?_ | refine blk_alloc ?_ _)); refine blk_put (cs := #[.int .i64 t347, .bool t348, .slice none 0 0]) ?_ 2 _ rfl; (with_reducible repeat (first | refine blk_drewN ?_ _ | refine blk_drew ?_ | refine blk_alloc ?_ _)); refine blk_put (cs := #[.int .i64 t347, .bool false, .slice none 0 0]) ?_ 1 _ rfl; (with_reducible repeat (first | refine blk_drewN ?_ _ | refine blk_drew ?_ | refine blk_alloc ?_ _)); refine blk_put (cs := #[.int .i64 0, .bool false, .slice none 0 0]) ?_ 0 _ rfl; (with_reducible repeat (first | refine blk_drewN ?_ _ | refine blk_drew ?_ | refine blk_alloc ?_ _)); exact BK353.out) hb); have n6_ := Aside0.mk (below_step (by repeat (first | (with_reducible first | exact HB.out | apply below_alloc | apply pw_below_drewN | apply below_drew1 | refine below_set ?_ GE337.out | refine below_set ?_ GE353.out) | exact HB.out)) hb); clear HO343; clear HO346; clear HO351; clear BK337; clear BK353; clear HB; have HO343 := n0_; have HO346 := n1_; have HO351 := n2_; have HO358 := n3_; have BK337 := n4_; have BK353 := n5_; have HB := n6_; clear n0_ n1_ n2_ n3_ n4_ n5_ n6_; (try clear hb); (try clear hb2); (try clear hk); (try clear hi); (try clear ho0)) | ((with_reducible refine gate_dst (N := 8) rfl ?_); refine box_event ?hg (N := 8) ?hd (cs := #[.int .i64 0, .bool false, .slice none 0 0]) (t := 26) ?hr ?_; (case hd => rfl); (case hg => rfl); (case hr => first | (go_simp; done) | (go_simp; rfl)); intro gb359 hg w32 hbox hb; have n0_ := Aside0.mk (Kd.R_below (by (with_reducible repeat (first | apply Kd.R_alloc | apply Kd.R_drewN | apply Kd.R_drew)); exact HO343.out) hb); have n1_ := Aside0.mk (Kd.R_below (by (with_reducible repeat (first | apply Kd.R_alloc | apply Kd.R_drewN | apply Kd.R_drew)); exact HO346.out) hb); have n2_ := Aside0.mk (Kd.V_below (Kd.V_elderB (by (with_reducible repeat (first | apply Kd.V_alloc | apply Kd.V_drewN | apply Kd.V_drew)); exact HO351.out) gb359 (Nat.le_of_eq hg.symm)) hb); have n3_ := Aside0.mk (Kd.R_below (by (with_reducible repeat (first | apply Kd.R_alloc | apply Kd.R_drewN | apply Kd.R_drew)); exact HO358.out) hb); have n4_ := Aside0.mk (blk_below (g := gb337) (o := .cells #[.int .i64 a0_0, .bool a0_1, .slice A0_2 l0_2.length c0_2] 24 (0, 0)) (by (with_reducible repeat (first | refine blk_drewN ?_ _ | refine blk_drew ?_ | refine blk_alloc ?_ _)); exact BK337.out) hb); have n5_ := Aside0.mk (blk_below (g := gb353) (o := .cells #[.int .i64 t347, .bool t348, .slice Ao29 t349.length co29] 26 (0, 0)) (by (with_reducible repeat (first | refine blk_drewN ?_ _ | refine blk_drew ?_ | refine blk_alloc ?_ _)); exact BK353.out) hb); have n6_ := Aside0.mk (below_step (by repeat (first | (with_reducible first | exact HB.out | apply below_alloc | apply pw_below_drewN | apply below_drew1 | refine below_set ?_ GE337.out | refine below_set ?_ GE353.out) | exact HB.out)) hb); have n7_ := Aside0.mk (hbox); have n8_ := Aside0.mk ((by rw [hg]; exact (below_size (by repeat (first | (with_reducible first | exact HB.out | apply below_alloc | apply pw_below_drewN | apply below_drew1 | refine below_set ?_ GE337.out | refine below_set ?_ GE353.out) | exact HB.out))) : w.heap.size ≤ gb359)); have n9_ := Aside0.mk ((by rw [hg]; exact (below_size (by repeat (first | (with_reducible first | exact HB.out | apply below_alloc | apply pw_below_drewN | apply below_drew1 | refine below_set ?_ GE337.out | refine below_set ?_ GE353.out) | exact HB.out))) : w.heap.size ≤ gb359)); have n10_ := Aside0.mk ((by rw [hg]; exact Nat.ne_of_lt (blk_lt (g := gb337) (o := .cells #[.int .i64 a0_0, .bool a0_1, .slice A0_2 l0_2.length c0_2] 24 (0, 0)) (by (with_reducible repeat (first | refine blk_drewN ?_ _ | refine blk_drew ?_ | refine blk_alloc ?_ _)); exact BK337.out)) : gb337 ≠ gb359)); have n11_ := Aside0.mk ((by rw [hg]; exact Nat.ne_of_gt (blk_lt (g := gb337) (o := .cells #[.int .i64 a0_0, .bool a0_1, .slice A0_2 l0_2.length c0_2] 24 (0, 0)) (by (with_reducible repeat (first | refine blk_drewN ?_ _ | refine blk_drew ?_ | refine blk_alloc ?_ _)); exact BK337.out)) : gb359 ≠ gb337)); have n12_ := Aside0.mk ((by rw [hg]; exact Nat.ne_of_lt (blk_lt (g := gb353) (o := .cells #[.int .i64 t347, .bool t348, .slice Ao29 t349.length co29] 26 (0, 0)) (by (with_reducible repeat (first | refine blk_drewN ?_ _ | refine blk_drew ?_ | refine blk_alloc ?_ _)); exact BK353.out)) : gb353 ≠ gb359)); have n13_ := Aside0.mk ((by rw [hg]; exact Nat.ne_of_gt (blk_lt (g := gb353) (o := .cells #[.int .i64 t347, .bool t348, .slice Ao29 t349.length co29] 26 (0, 0)) (by (with_reducible repeat (first | refine blk_drewN ?_ _ | refine blk_drew ?_ | refine blk_alloc ?_ _)); exact BK353.out)) : gb359 ≠ gb353)); clear HO343; clear HO346; clear HO351; clear HO358; clear BK337; clear BK353; clear HB; have HO343 := n0_; have HO346 := n1_; have HO351 := n2_; have HO358 := n3_; have BK337 := n4_; have BK353 := n5_; have HB := n6_; have BK359 := n7_; have GW359 := n8_; have GE359 := n9_; have NB337_359 := n10_; have NB359_337 := n11_; have NB353_359 := n12_; have NB359_353 := n13_; clear n0_ n1_ n2_ n3_ n4_ n5_ n6_ n7_ n8_ n9_ n10_ n11_ n12_ n13_; clear hb hbox hg; have hnb33 := NB359_337.out; have hnc33 := NB337_359.out; have hnb34 := NB359_353.out; have hnc34 := NB353_359.out; have hcz35_0 : w32.cell? ⟨gb359, 0, none⟩ = some (.int .i64 0) := (blk_cell BK359.out 0).trans rfl; have hcz35_1 : w32.cell? ⟨gb359, 1, none⟩ = some (.bool false) := (blk_cell BK359.out 1).trans rfl; have hcz35_2 : w32.cell? ⟨gb359, 2, none⟩ = some (.slice none 0 0) := (blk_cell BK359.out 2).trans rfl; have hfz35_0 := blk_frozen BK359.out 0; have hfz35_1 := blk_frozen BK359.out 1; have hfz35_2 := blk_frozen BK359.out 2; obtain ⟨Ao36, co36, eo36⟩ := Kd.R_slice HO358.out; subst eo36) | ((with_reducible refine gate_callee (f := 9) rfl ?_); refine goesL_ (some 36) rfl rfl Tryd.func9 (by kernel_rfl) rfl #[.slice A1 l1.length c1] rfl (by (try simp only [List.map_toArray, List.map_cons, List.map_nil]); first | done | rfl | (simp only [List.length_drop, List.length_take]; rfl)) ?_; (with_reducible refine (laws_toIntS.calls k _ _ l1 t360 _ ?side1 ?side2 A14.out).mono ?_); (case side1 => exact Kd.C_below HR1.out (by repeat (first | (with_reducible first | exact HB.out | apply below_alloc | apply pw_below_drewN | apply below_drew1 | refine below_set ?_ GE337.out | refine below_set ?_ GE353.out | refine below_set ?_ GE359.out) | exact HB.out))); (case side2 => exact HC1.out); rintro e w37 ⟨v361, rfl, ho0, hb⟩; refine ⟨_, rfl, ?_⟩; have n0_ := Aside0.mk (Kd.R_elder' (by (with_reducible repeat (first | apply Kd.R_alloc | apply Kd.R_drewN | apply Kd.R_drew)); exact (Kd.R_mono (Kd.R_far (p := ⟨gb359, 2, none⟩) (Kd.R_far (p := ⟨gb359, 1, none⟩) (Kd.R_far (p := ⟨gb359, 0, none⟩) (Kd.R_types HO343.out BK359.out (by decide)) (fun _ hk => hk.2) (.int .i64 t354)) (fun _ hk => hk.2) (.bool t355)) (fun _ hk => hk.2) (.slice Ao36 t356.length co36)) (fun _ h_ => h_.1))) (Kd.R_base ho0) hb); have n1_ := Aside0.mk (Kd.R_elder' (by (with_reducible repeat (first | apply Kd.R_alloc | apply Kd.R_drewN | apply Kd.R_drew)); exact (Kd.R_mono (Kd.R_far (p := ⟨gb359, 2, none⟩) (Kd.R_far (p := ⟨gb359, 1, none⟩) (Kd.R_far (p := ⟨gb359, 0, none⟩) (Kd.R_types HO346.out BK359.out (by decide)) (fun _ hk => hk.2) (.int .i64 t354)) (fun _ hk => hk.2) (.bool t355)) (fun _ hk => hk.2) (.slice Ao36 t356.length co36)) (fun _ h_ => h_.1))) (Kd.R_base ho0) hb); have n2_ := Aside0.mk (Kd.V_elder' (by (with_reducible repeat (first | apply Kd.V_alloc | apply Kd.V_drewN | apply Kd.V_drew)); exact (Kd.V_mono (Kd.V_far (p := ⟨gb359, 2, none⟩) (Kd.V_far (p := ⟨gb359, 1, none⟩) (Kd.V_far (p := ⟨gb359, 0, none⟩) (Kd.V_mono HO351.out (fun k_ hk => (⟨hk, hk.2⟩ : _ ∧ k_ ≠ gb359))) (fun _ hk => hk.2) (.int .i64 t354)) (fun _ hk => hk.2) (.bool t355)) (fun _ hk => hk.2) (.slice Ao36 t356.length co36)) (fun _ h_ => h_.1))) (Kd.R_base ho0) hb); have n3_ := Aside0.mk (Kd.R_elder' (by (with_reducible repeat (first | apply Kd.R_alloc | apply Kd.R_drewN | apply Kd.R_drew)); exact (Kd.R_mono (Kd.R_far (p := ⟨gb359, 2, none⟩) (Kd.R_far (p := ⟨gb359, 1, none⟩) (Kd.R_far (p := ⟨gb359, 0, none⟩) (Kd.R_types HO358.out BK359.out (by decide)) (fun _ hk => hk.2) (.int .i64 t354)) (fun _ hk => hk.2) (.bool t355)) (fun _ hk => hk.2) (.slice Ao36 t356.length co36)) (fun _ h_ => h_.1))) (Kd.R_base ho0) hb); have n4_ := Aside0.mk (Kd.R_lower (Kd.R_new' (Kd.R_new' (Kd.R_new' ho0 (Kd.R_lt (by (with_reducible repeat (first | apply Kd.R_alloc | apply Kd.R_drewN | apply Kd.R_drew)); exact (Kd.R_mono (Kd.R_far (p := ⟨gb359, 2, none⟩) (Kd.R_far (p := ⟨gb359, 1, none⟩) (Kd.R_far (p := ⟨gb359, 0, none⟩) (Kd.R_types HO343.out BK359.out (by decide)) (fun _ hk => hk.2) (.int .i64 t354)) (fun _ hk => hk.2) (.bool t355)) (fun _ hk => hk.2) (.slice Ao36 t356.length co36)) (fun _ h_ => h_.1))))) (Kd.R_lt (by (with_reducible repeat (first | apply Kd.R_alloc | apply Kd.R_drewN | apply Kd.R_drew)); exact (Kd.R_mono (Kd.R_far (p := ⟨gb359, 2, none⟩) (Kd.R_far (p := ⟨gb359, 1, none⟩) (Kd.R_far (p := ⟨gb359, 0, none⟩) (Kd.R_types HO346.out BK359.out (by decide)) (fun _ hk => hk.2) (.int .i64 t354)) (fun _ hk => hk.2) (.bool t355)) (fun _ hk => hk.2) (.slice Ao36 t356.length co36)) (fun _ h_ => h_.1))))) (Kd.R_lt (by (with_reducible repeat (first | apply Kd.R_alloc | apply Kd.R_drewN | apply Kd.R_drew)); exact (Kd.R_mono (Kd.R_far (p := ⟨gb359, 2, none⟩) (Kd.R_far (p := ⟨gb359, 1, none⟩) (Kd.R_far (p := ⟨gb359, 0, none⟩) (Kd.R_types HO358.out BK359.out (by decide)) (fun _ hk => hk.2) (.int .i64 t354)) (fun _ hk => hk.2) (.bool t355)) (fun _ hk => hk.2) (.slice Ao36 t356.length co36)) (fun _ h_ => h_.1))))) (below_size (by repeat (first | (with_reducible first | exact HB.out | apply below_alloc | apply pw_below_drewN | apply below_drew1 | refine below_set ?_ GE337.out | refine below_set ?_ GE353.out | refine below_set ?_ GE359.out) | exact HB.out)))); have n5_ := Aside0.mk (blk_below (g := gb337) (o := .cells #[.int .i64 a0_0, .bool a0_1, .slice A0_2 l0_2.length c0_2] 24 (0, 0)) (by (with_reducible repeat (first | refine blk_drewN ?_ _ | refine blk_drew ?_ | refine blk_alloc ?_ _)); refine blk_far ?_ NB337_359.out _; (with_reducible repeat (first | refine blk_drewN ?_ _ | refine blk_drew ?_ | refine blk_alloc ?_ _)); refine blk_far ?_ NB337_359.out _; (with_reducible repeat (first | refine blk_drewN ?_ _ | refine blk_drew ?_ | refine blk_alloc ?_ _)); refine blk_far ?_ NB337_359.out _; (with_reducible repeat (first | refine blk_drewN ?_ _ | refine blk_drew ?_ | refine blk_alloc ?_ _)); exact BK337.out) hb); have n6_ := Aside0.mk (blk_below (g := gb353) (o := .cells #[.int .i64 t347, .bool t348, .slice Ao29 t349.length co29] 26 (0, 0)) (by (with_reducible repeat (first | refine blk_drewN ?_ _ | refine blk_drew ?_ | refine blk_alloc ?_ _)); refine blk_far ?_ NB353_359.out _; (with_reducible repeat (first | refine blk_drewN ?_ _ | refine blk_drew ?_ | refine blk_alloc ?_ _)); refine blk_far ?_ NB353_359.out _; (with_reducible repeat (first | refine blk_drewN ?_ _ | refine blk_drew ?_ | refine blk_alloc ?_ _)); refine blk_far ?_ NB353_359.out _; (with_reducible repeat (first | refine blk_drewN ?_ _ | refine blk_drew ?_ | refine blk_alloc ?_ _)); exact BK353.out) hb); have n7_ := Aside0.mk (blk_below (g := gb359) (o := .cells #[.int .i64 t354, .bool t355, .slice Ao36 t356.length co36] 26 (0, 0)) (by (with_reducible repeat (first | refine blk_drewN ?_ _ | refine blk_drew ?_ | refine blk_alloc ?_ _)); refine blk_put (cs := #[.int .i64 t354, .bool t355, .slice none 0 0]) ?_ 2 _ rfl; (with_reducible repeat (first | refine blk_drewN ?_ _ | refine blk_drew ?_ | refine blk_alloc ?_ _)); refine blk_put (cs := #[.int .i64 t354, .bool false, .slice none 0 0]) ?_ 1 _ rfl; (with_reducible repeat (first | refine blk_drewN ?_ _ | refine blk_drew ?_ | refine blk_alloc ?_ _)); refine blk_put (cs := #[.int .i64 0, .bool false, .slice none 0 0]) ?_ 0 _ rfl; (with_reducible repeat (first | refine blk_drewN ?_ _ | refine blk_drew ?_ | refine blk_alloc ?_ _)); exact BK359.out) hb); have n8_ := Aside0.mk (below_step (by repeat (first | (with_reducible first | exact HB.out | apply below_alloc | apply pw_below_drewN | apply below_drew1 | refine below_set ?_ GE337.out | refine below_set ?_ GE353.out | refine below_set ?_ GE359.out) | exact HB.out)) hb); clear HO343; clear HO346; clear HO351; clear HO358; clear BK337; clear BK353; clear BK359; clear HB; have HO343 := n0_; have HO346 := n1_; have HO351 := n2_; have HO358 := n3_; have HO362 := n4_; have BK337 := n5_; have BK353 := n6_; have BK359 := n7_; have HB := n8_; clear n0_ n1_ n2_ n3_ n4_ n5_ n6_ n7_ n8_; (try clear hb); (try clear hb2); (try clear hk); (try clear hi); (try clear ho0); have hcz38_0 : w37.cell? ⟨gb359, 0, none⟩ = some (.int .i64 t354) := (blk_cell BK359.out 0).trans rfl; have hcz38_1 : w37.cell? ⟨gb359, 1, none⟩ = some (.bool t355) := (blk_cell BK359.out 1).trans rfl; have hcz38_2 : w37.cell? ⟨gb359, 2, none⟩ = some (.slice Ao36 t356.length co36) := (blk_cell BK359.out 2).trans rfl; have hfz38_0 := blk_frozen BK359.out 0; have hfz38_1 := blk_frozen BK359.out 1; have hfz38_2 := blk_frozen BK359.out 2; obtain ⟨Ao39, co39, eo39⟩ := Kd.R_slice HO362.out; subst eo39) | ((with_reducible refine gate_callee (f := 10) rfl ?_); refine goesL_ (some 40) rfl rfl Tryd.func10 (by kernel_rfl) rfl #[.agg #[.int .i64 t354, .bool t355, .slice Ao36 t356.length co36], .slice Ao39 t360.length co39] rfl (by (try simp only [List.map_toArray, List.map_cons, List.map_nil]); first | done | rfl | (simp only [List.length_drop, List.length_take]; rfl)) ?_; (with_reducible refine (impl_FillBy.calls k t354 t355 _ _ t356 _ _ t360 t363 t364 t365 t368 _ ?side1 ?side2 ?side3 ?side4 ?side5 A15.out).mono ?_); (case side1 => repeat (first | exact (Kd.R_reads' HO358.out).2.2 | (with_reducible refine Kd.C_alloc ?_ _) | (with_reducible refine Kd.C_drewN ?_ _) | (with_reducible refine Kd.C_drew ?_))); (case side2 => exact (Kd.R_reads' HO358.out).2.1); (case side3 => repeat (first | exact (Kd.R_reads' HO362.out).2.2 | (with_reducible refine Kd.C_alloc ?_ _) | (with_reducible refine Kd.C_drewN ?_ _) | (with_reducible refine Kd.C_drew ?_))); (case side4 => exact (Kd.R_reads' HO362.out).2.1); (case side5 => exact GT.below HRT.out (by repeat (first | (with_reducible first | exact HB.out | apply below_alloc | apply pw_below_drewN | apply below_drew1 | refine below_set ?_ GE337.out | refine below_set ?_ GE353.out | refine below_set ?_ GE359.out) | exact HB.out))); rintro e w40 ⟨v366, rfl, ho0, hb⟩; refine ⟨_, rfl, ?_⟩; have n0_ := Aside0.mk (Kd.R_elder' (by (with_reducible repeat (first | apply Kd.R_alloc | apply Kd.R_drewN | apply Kd.R_drew)); exact HO343.out) (Kd.R_base ho0) hb); have n1_ := Aside0.mk (Kd.R_elder' (by (with_reducible repeat (first | apply Kd.R_alloc | apply Kd.R_drewN | apply Kd.R_drew)); exact HO346.out) (Kd.R_base ho0) hb); have n2_ := Aside0.mk (Kd.V_elder' (by (with_reducible repeat (first | apply Kd.V_alloc | apply Kd.V_drewN | apply Kd.V_drew)); exact HO351.out) (Kd.R_base ho0) hb); have n3_ := Aside0.mk (Kd.R_elder' (by (with_reducible repeat (first | apply Kd.R_alloc | apply Kd.R_drewN | apply Kd.R_drew)); exact HO358.out) (Kd.R_base ho0) hb); have n4_ := Aside0.mk (Kd.R_elder' (by (with_reducible repeat (first | apply Kd.R_alloc | apply Kd.R_drewN | apply Kd.R_drew)); exact HO362.out) (Kd.R_base ho0) hb); have n5_ := Aside0.mk (Kd.R_lower (Kd.R_new' (Kd.R_new' (Kd.R_new' (Kd.R_new' ho0 (Kd.R_lt (by (with_reducible repeat (first | apply Kd.R_alloc | apply Kd.R_drewN | apply Kd.R_drew)); exact HO343.out))) (Kd.R_lt (by (with_reducible repeat (first | apply Kd.R_alloc | apply Kd.R_drewN | apply Kd.R_drew)); exact HO346.out))) (Kd.R_lt (by (with_reducible repeat (first | apply Kd.R_alloc | apply Kd.R_drewN | apply Kd.R_drew)); exact HO358.out))) (Kd.R_lt (by (with_reducible repeat (first | apply Kd.R_alloc | apply Kd.R_drewN | apply Kd.R_drew)); exact HO362.out))) (below_size (by repeat (first | (with_reducible first | exact HB.out | apply below_alloc | apply pw_below_drewN | apply below_drew1 | refine below_set ?_ GE337.out | refine below_set ?_ GE353.out | refine below_set ?_ GE359.out) | exact HB.out)))); have n6_ := Aside0.mk (blk_below (g := gb337) (o := .cells #[.int .i64 a0_0, .bool a0_1, .slice A0_2 l0_2.length c0_2] 24 (0, 0)) (by (with_reducible repeat (first | refine blk_drewN ?_ _ | refine blk_drew ?_ | refine blk_alloc ?_ _)); exact BK337.out) hb); have n7_ := Aside0.mk (blk_below (g := gb353) (o := .cells #[.int .i64 t347, .bool t348, .slice Ao29 t349.length co29] 26 (0, 0)) (by (with_reducible repeat (first | refine blk_drewN ?_ _ | refine blk_drew ?_ | refine blk_alloc ?_ _)); exact BK353.out) hb); have n8_ := Aside0.mk (blk_below (g := gb359) (o := .cells #[.int .i64 t354, .bool t355, .slice Ao36 t356.length co36] 26 (0, 0)) (by (with_reducible repeat (first | refine blk_drewN ?_ _ | refine blk_drew ?_ | refine blk_alloc ?_ _)); exact BK359.out) hb); have n9_ := Aside0.mk (below_step (by repeat (first | (with_reducible first | exact HB.out | apply below_alloc | apply pw_below_drewN | apply below_drew1 | refine below_set ?_ GE337.out | refine below_set ?_ GE353.out | refine below_set ?_ GE359.out) | exact HB.out)) hb); clear HO343; clear HO346; clear HO351; clear HO358; clear HO362; clear BK337; clear BK353; clear BK359; clear HB; have HO343 := n0_; have HO346 := n1_; have HO351 := n2_; have HO358 := n3_; have HO362 := n4_; have HO367 := n5_; have BK337 := n6_; have BK353 := n7_; have BK359 := n8_; have HB := n9_; clear n0_ n1_ n2_ n3_ n4_ n5_ n6_ n7_ n8_ n9_; (try clear hb); (try clear hb2); (try clear hk); (try clear hi); (try clear ho0)) | ((with_reducible refine gate_dst (N := 10) rfl ?_); refine box_event ?hg (N := 10) ?hd (cs := #[.int .i64 0, .bool false, .slice none 0 0]) (t := 26) ?hr ?_; (case hd => rfl); (case hg => rfl); (case hr => first | (go_simp; done) | (go_simp; rfl)); intro gb369 hg w41 hbox hb; have n0_ := Aside0.mk (Kd.R_below (by (with_reducible repeat (first | apply Kd.R_alloc | apply Kd.R_drewN | apply Kd.R_drew)); exact HO343.out) hb); have n1_ := Aside0.mk (Kd.R_below (by (with_reducible repeat (first | apply Kd.R_alloc | apply Kd.R_drewN | apply Kd.R_drew)); exact HO346.out) hb); have n2_ := Aside0.mk (Kd.V_below (Kd.V_elderB (by (with_reducible repeat (first | apply Kd.V_alloc | apply Kd.V_drewN | apply Kd.V_drew)); exact HO351.out) gb369 (Nat.le_of_eq hg.symm)) hb); have n3_ := Aside0.mk (Kd.R_below (by (with_reducible repeat (first | apply Kd.R_alloc | apply Kd.R_drewN | apply Kd.R_drew)); exact HO358.out) hb); have n4_ := Aside0.mk (Kd.R_below (by (with_reducible repeat (first | apply Kd.R_alloc | apply Kd.R_drewN | apply Kd.R_drew)); exact HO362.out) hb); have n5_ := Aside0.mk (Kd.R_below (by (with_reducible repeat (first | apply Kd.R_alloc | apply Kd.R_drewN | apply Kd.R_drew)); exact HO367.out) hb); have n6_ := Aside0.mk (blk_below (g := gb337) (o := .cells #[.int .i64 a0_0, .bool a0_1, .slice A0_2 l0_2.length c0_2] 24 (0, 0)) (by (with_reducible repeat (first | refine blk_drewN ?_ _ | refine blk_drew ?_ | refine blk_alloc ?_ _)); exact BK337.out) hb); have n7_ := Aside0.mk (blk_below (g := gb353) (o := .cells #[.int .i64 t347, .bool t348, .slice Ao29 t349.length co29] 26 (0, 0)) (by (with_reducible repeat (first | refine blk_drewN ?_ _ | refine blk_drew ?_ | refine blk_alloc ?_ _)); exact BK353.out) hb); have n8_ := Aside0.mk (blk_below (g := gb359) (o := .cells #[.int .i64 t354, .bool t355, .slice Ao36 t356.length co36] 26 (0, 0)) (by (with_reducible repeat (first | refine blk_drewN ?_ _ | refine blk_drew ?_ | refine blk_alloc ?_ _)); exact BK359.out) hb); have n9_ := Aside0.mk (below_step (by repeat (first | (with_reducible first | exact HB.out | apply below_alloc | apply pw_below_drewN | apply below_drew1 | refine below_set ?_ GE337.out | refine below_set ?_ GE353.out | refine below_set ?_ GE359.out) | exact HB.out)) hb); have n10_ := Aside0.mk (hbox); have n11_ := Aside0.mk ((by rw [hg]; exact (below_size (by repeat (first | (with_reducible first | exact HB.out | apply below_alloc | apply pw_below_drewN | apply below_drew1 | refine below_set ?_ GE337.out | refine below_set ?_ GE353.out | refine below_set ?_ GE359.out) | exact HB.out))) : w.heap.size ≤ gb369)); have n12_ := Aside0.mk ((by rw [hg]; exact (below_size (by repeat (first | (with_reducible first | exact HB.out | apply below_alloc | apply pw_below_drewN | apply below_drew1 | refine below_set ?_ GE337.out | refine below_set ?_ GE353.out | refine below_set ?_ GE359.out) | exact HB.out))) : w.heap.size ≤ gb369)); have n13_ := Aside0.mk ((by rw [hg]; exact Nat.ne_of_lt (blk_lt (g := gb337) (o := .cells #[.int .i64 a0_0, .bool a0_1, .slice A0_2 l0_2.length c0_2] 24 (0, 0)) (by (with_reducible repeat (first | refine blk_drewN ?_ _ | refine blk_drew ?_ | refine blk_alloc ?_ _)); exact BK337.out)) : gb337 ≠ gb369)); have n14_ := Aside0.mk ((by rw [hg]; exact Nat.ne_of_gt (blk_lt (g := gb337) (o := .cells #[.int .i64 a0_0, .bool a0_1, .slice A0_2 l0_2.length c0_2] 24 (0, 0)) (by (with_reducible repeat (first | refine blk_drewN ?_ _ | refine blk_drew ?_ | refine blk_alloc ?_ _)); exact BK337.out)) : gb369 ≠ gb337)); have n15_ := Aside0.mk ((by rw [hg]; exact Nat.ne_of_lt (blk_lt (g := gb353) (o := .cells #[.int .i64 t347, .bool t348, .slice Ao29 t349.length co29] 26 (0, 0)) (by (with_reducible repeat (first | refine blk_drewN ?_ _ | refine blk_drew ?_ | refine blk_alloc ?_ _)); exact BK353.out)) : gb353 ≠ gb369)); have n16_ := Aside0.mk ((by rw [hg]; exact Nat.ne_of_gt (blk_lt (g := gb353) (o := .cells #[.int .i64 t347, .bool t348, .slice Ao29 t349.length co29] 26 (0, 0)) (by (with_reducible repeat (first | refine blk_drewN ?_ _ | refine blk_drew ?_ | refine blk_alloc ?_ _)); exact BK353.out)) : gb369 ≠ gb353)); have n17_ := Aside0.mk ((by rw [hg]; exact Nat.ne_of_lt (blk_lt (g := gb359) (o := .cells #[.int .i64 t354, .bool t355, .slice Ao36 t356.length co36] 26 (0, 0)) (by (with_reducible repeat (first | refine blk_drewN ?_ _ | refine blk_drew ?_ | refine blk_alloc ?_ _)); exact BK359.out)) : gb359 ≠ gb369)); have n18_ := Aside0.mk ((by rw [hg]; exact Nat.ne_of_gt (blk_lt (g := gb359) (o := .cells #[.int .i64 t354, .bool t355, .slice Ao36 t356.length co36] 26 (0, 0)) (by (with_reducible repeat (first | refine blk_drewN ?_ _ | refine blk_drew ?_ | refine blk_alloc ?_ _)); exact BK359.out)) : gb369 ≠ gb359)); clear HO343; clear HO346; clear HO351; clear HO358; clear HO362; clear HO367; clear BK337; clear BK353; clear BK359; clear HB; have HO343 := n0_; have HO346 := n1_; have HO351 := n2_; have HO358 := n3_; have HO362 := n4_; have HO367 := n5_; have BK337 := n6_; have BK353 := n7_; have BK359 := n8_; have HB := n9_; have BK369 := n10_; have GW369 := n11_; have GE369 := n12_; have NB337_369 := n13_; have NB369_337 := n14_; have NB353_369 := n15_; have NB369_353 := n16_; have NB359_369 := n17_; have NB369_359 := n18_; clear n0_ n1_ n2_ n3_ n4_ n5_ n6_ n7_ n8_ n9_ n10_ n11_ n12_ n13_ n14_ n15_ n16_ n17_ n18_; clear hb hbox hg; have hnb42 := NB369_337.out; have hnc42 := NB337_369.out; have hnb43 := NB369_353.out; have hnc43 := NB353_369.out; have hnb44 := NB369_359.out; have hnc44 := NB359_369.out; have hcz45_0 : w41.cell? ⟨gb369, 0, none⟩ = some (.int .i64 0) := (blk_cell BK369.out 0).trans rfl; have hcz45_1 : w41.cell? ⟨gb369, 1, none⟩ = some (.bool false) := (blk_cell BK369.out 1).trans rfl; have hcz45_2 : w41.cell? ⟨gb369, 2, none⟩ = some (.slice none 0 0) := (blk_cell BK369.out 2).trans rfl; have hfz45_0 := blk_frozen BK369.out 0; have hfz45_1 := blk_frozen BK369.out 1; have hfz45_2 := blk_frozen BK369.out 2; obtain ⟨Ao46, co46, eo46⟩ := Kd.R_slice HO367.out; subst eo46))
      (try simp only [Act.put, List.setIfInBounds_toArray, List.set_cons_zero, List.set_cons_succ])
      go_cut [51] (fun v51 wc => ∃ (kq : Nat) (x51_15 : Bool), v51 = .bool x51_15 ∧ Aside0 (laws_FnExactFillBy.j0 kq l1 t352 t360 t368 x51_15 a0_0 a0_1 l0_2 t347 t348 t349 t354 t355 t356 t363 t364 t365 = some r) ∧ Aside0 (kq ≤ k) ∧ Aside0 (Kd.R (Kd.int .i64) 3 wc w.heap.size (fun k_ => some k_ ≠ ((.slice Ao36 t356.length co36) : Value).ownBlock ∧ some k_ ≠ ((.slice Ao46 t365.length co46) : Value).ownBlock) (.slice Ao39 t360.length co39) t360) ∧ Aside0 (Kd.V (Kd.int .i64) 3 wc w.heap.size (fun k_ => some k_ ≠ ((.slice Ao39 t360.length co39) : Value).ownBlock ∧ some k_ ≠ ((.slice Ao36 t356.length co36) : Value).ownBlock ∧ some k_ ≠ ((.slice Ao46 t365.length co46) : Value).ownBlock ∧ k_ ≠ gb337 ∧ k_ ≠ gb353 ∧ k_ ≠ gb359 ∧ k_ ≠ gb369) (.slice Ao29 t349.length co29) t349) ∧ Aside0 (Kd.R (Kd.int .i64) 3 wc w.heap.size (fun k_ => some k_ ≠ ((.slice Ao39 t360.length co39) : Value).ownBlock ∧ some k_ ≠ ((.slice Ao46 t365.length co46) : Value).ownBlock) (.slice Ao36 t356.length co36) t356) ∧ Aside0 (Kd.R (Kd.int .i64) 3 wc w.heap.size (fun k_ => some k_ ≠ ((.slice Ao39 t360.length co39) : Value).ownBlock ∧ some k_ ≠ ((.slice Ao36 t356.length co36) : Value).ownBlock) (.slice Ao46 t365.length co46) t365) ∧ Aside0 (wc.heap[gb337]? = some (.cells #[.int .i64 a0_0, .bool a0_1, (.slice A0_2 l0_2.length c0_2)] 24 (0, 0))) ∧ Aside0 (wc.heap[gb353]? = some (.cells #[.int .i64 t347, .bool t348, (.slice Ao29 t349.length co29)] 26 (0, 0))) ∧ Aside0 (wc.heap[gb359]? = some (.cells #[.int .i64 t354, .bool t355, (.slice Ao36 t356.length co36)] 26 (0, 0))) ∧ Aside0 (wc.heap[gb369]? = some (.cells #[.int .i64 t363, .bool t364, (.slice Ao46 t365.length co46)] 26 (0, 0))) ∧ Aside0 (Below w.heap.size w wc))
      case first =>
        have H := HC16.out
        clear HC16
        replace H := Option.bind_eq_some_iff.mp H
        obtain ⟨t370, A470, H⟩ := H
        replace H : (if t370 = true then (laws_FnExactFillBy.j0 k l1 t352 t360 t368 (t368 != t352) a0_0 a0_1 l0_2 t347 t348 t349 t354 t355 t356 t363 t364 t365) else (laws_FnExactFillBy.j0 k l1 t352 t360 t368 true a0_0 a0_1 l0_2 t347 t348 t349 t354 t355 t356 t363 t364 t365)) = some r := H
        have A47 := Aside0.mk A470
        clear A470
        by_cases c48 : t370 = true
        · subst c48
          have H1 : (laws_FnExactFillBy.j0 k l1 t352 t360 t368 (t368 != t352) a0_0 a0_1 l0_2 t347 t348 t349 t354 t355 t356 t363 t364 t365) = some r := by rw [if_pos rfl] at H; exact H
          clear H
          have H := H1
          clear H1
          have H' := Aside0.mk H
          clear H
          have hnb49 := NB369_337.out
          have hnc49 := NB337_369.out
          have hnb50 := NB369_353.out
          have hnc50 := NB353_369.out
          have hnb51 := NB369_359.out
          have hnc51 := NB359_369.out
          have hcz52_0 : w41.cell? ⟨gb369, 0, none⟩ = some (.int .i64 0) := (blk_cell BK369.out 0).trans rfl
          have hcz52_1 : w41.cell? ⟨gb369, 1, none⟩ = some (.bool false) := (blk_cell BK369.out 1).trans rfl
          have hcz52_2 : w41.cell? ⟨gb369, 2, none⟩ = some (.slice none 0 0) := (blk_cell BK369.out 2).trans rfl
          have hfz52_0 := blk_frozen BK369.out 0
          have hfz52_1 := blk_frozen BK369.out 1
          have hfz52_2 := blk_frozen BK369.out 2
          have hnb53 := NB353_337.out
          have hnc53 := NB337_353.out
          have hnb54 := NB353_359.out
          have hnc54 := NB359_353.out
          have hcz55_0 : w41.cell? ⟨gb353, 0, none⟩ = some (.int .i64 t347) := (blk_cell BK353.out 0).trans rfl
          have hcz55_1 : w41.cell? ⟨gb353, 1, none⟩ = some (.bool t348) := (blk_cell BK353.out 1).trans rfl
          have hcz55_2 : w41.cell? ⟨gb353, 2, none⟩ = some (.slice Ao29 t349.length co29) := (blk_cell BK353.out 2).trans rfl
          have hfz55_0 := blk_frozen BK353.out 0
          have hfz55_1 := blk_frozen BK353.out 1
          have hfz55_2 := blk_frozen BK353.out 2
          go_wp2_with (first | ((with_reducible refine gate_callee (f := 11) rfl ?_); refine goesL_ (some 45) rfl rfl Tryd.func11 (by kernel_rfl) rfl #[.agg #[.int .i64 t363, .bool t364, .slice Ao46 t365.length co46], .agg #[.int .i64 t347, .bool t348, .slice Ao29 t349.length co29]] rfl (by (try simp only [List.map_toArray, List.map_cons, List.map_nil]); first | done | rfl | (simp only [List.length_drop, List.length_take]; rfl)) ?_; (with_reducible refine (laws_eqRow.calls k t363 t364 _ _ t365 t347 t348 _ _ t349 true _ ?side1 ?side2 ?side3 ?side4 A47.out).mono ?_); (case side1 => refine (Kd.R_reads' (e := 3) (base := w.heap.size) (ok := fun k_ => ((((True ∧ some k_ ≠ (.slice Ao23 t341.length co23 : Value).ownBlock) ∧ some k_ ≠ (.slice Ao24 t344.length co24 : Value).ownBlock) ∧ some k_ ≠ (.slice Ao36 t356.length co36 : Value).ownBlock) ∧ some k_ ≠ (.slice Ao39 t360.length co39 : Value).ownBlock)) (n := t365.length) (c := co46) ?_).2.2; exact (by (with_reducible repeat (first | apply Kd.R_alloc | apply Kd.R_drewN | apply Kd.R_drew)); exact (Kd.R_mono (Kd.R_far (p := ⟨gb369, 2, none⟩) (Kd.R_far (p := ⟨gb369, 1, none⟩) (Kd.R_far (p := ⟨gb369, 0, none⟩) (Kd.R_types HO367.out BK369.out (by decide)) (fun _ hk => hk.2) (.int .i64 t363)) (fun _ hk => hk.2) (.bool t364)) (fun _ hk => hk.2) (.slice Ao46 t365.length co46)) (fun _ h_ => h_.1)))); (case side2 => exact (Kd.R_reads' HO367.out).2.1); (case side3 => refine (Kd.V_reads' (e := 3) (base := w.heap.size) (ok := fun k_ => (((((((some k_ ≠ (.slice Ao23 t341.length co23 : Value).ownBlock ∧ (some k_ ≠ (.slice Ao24 t344.length co24 : Value).ownBlock ∧ k_ ≠ gb337)) ∧ k_ ≠ gb353) ∧ some k_ ≠ (.slice Ao36 t356.length co36 : Value).ownBlock) ∧ k_ ≠ gb359) ∧ some k_ ≠ (.slice Ao39 t360.length co39 : Value).ownBlock) ∧ some k_ ≠ (.slice Ao46 t365.length co46 : Value).ownBlock) ∧ k_ ≠ gb369)) (n := t349.length) (c := co29) ?_).2.2; exact (by (with_reducible repeat (first | apply Kd.V_alloc | apply Kd.V_drewN | apply Kd.V_drew)); exact (Kd.V_mono (Kd.V_far (p := ⟨gb369, 2, none⟩) (Kd.V_far (p := ⟨gb369, 1, none⟩) (Kd.V_far (p := ⟨gb369, 0, none⟩) (Kd.V_mono HO351.out (fun k_ hk => (⟨hk, hk.2⟩ : _ ∧ k_ ≠ gb369))) (fun _ hk => hk.2) (.int .i64 t363)) (fun _ hk => hk.2) (.bool t364)) (fun _ hk => hk.2) (.slice Ao46 t365.length co46)) (fun _ h_ => h_.1)))); (case side4 => exact (Kd.V_reads' HO351.out).2.1); rintro e w56 ⟨rfl, hb⟩; refine ⟨_, rfl, ?_⟩; have n0_ := Aside0.mk (Kd.R_below (by (with_reducible repeat (first | apply Kd.R_alloc | apply Kd.R_drewN | apply Kd.R_drew)); exact (Kd.R_mono (Kd.R_far (p := ⟨gb369, 2, none⟩) (Kd.R_far (p := ⟨gb369, 1, none⟩) (Kd.R_far (p := ⟨gb369, 0, none⟩) (Kd.R_types HO343.out BK369.out (by decide)) (fun _ hk => hk.2) (.int .i64 t363)) (fun _ hk => hk.2) (.bool t364)) (fun _ hk => hk.2) (.slice Ao46 t365.length co46)) (fun _ h_ => h_.1))) hb); have n1_ := Aside0.mk (Kd.R_below (by (with_reducible repeat (first | apply Kd.R_alloc | apply Kd.R_drewN | apply Kd.R_drew)); exact (Kd.R_mono (Kd.R_far (p := ⟨gb369, 2, none⟩) (Kd.R_far (p := ⟨gb369, 1, none⟩) (Kd.R_far (p := ⟨gb369, 0, none⟩) (Kd.R_types HO346.out BK369.out (by decide)) (fun _ hk => hk.2) (.int .i64 t363)) (fun _ hk => hk.2) (.bool t364)) (fun _ hk => hk.2) (.slice Ao46 t365.length co46)) (fun _ h_ => h_.1))) hb); have n2_ := Aside0.mk (Kd.V_below (by (with_reducible repeat (first | apply Kd.V_alloc | apply Kd.V_drewN | apply Kd.V_drew)); exact (Kd.V_mono (Kd.V_far (p := ⟨gb369, 2, none⟩) (Kd.V_far (p := ⟨gb369, 1, none⟩) (Kd.V_far (p := ⟨gb369, 0, none⟩) (Kd.V_mono HO351.out (fun k_ hk => (⟨hk, hk.2⟩ : _ ∧ k_ ≠ gb369))) (fun _ hk => hk.2) (.int .i64 t363)) (fun _ hk => hk.2) (.bool t364)) (fun _ hk => hk.2) (.slice Ao46 t365.length co46)) (fun _ h_ => h_.1))) hb); have n3_ := Aside0.mk (Kd.R_below (by (with_reducible repeat (first | apply Kd.R_alloc | apply Kd.R_drewN | apply Kd.R_drew)); exact (Kd.R_mono (Kd.R_far (p := ⟨gb369, 2, none⟩) (Kd.R_far (p := ⟨gb369, 1, none⟩) (Kd.R_far (p := ⟨gb369, 0, none⟩) (Kd.R_types HO358.out BK369.out (by decide)) (fun _ hk => hk.2) (.int .i64 t363)) (fun _ hk => hk.2) (.bool t364)) (fun _ hk => hk.2) (.slice Ao46 t365.length co46)) (fun _ h_ => h_.1))) hb); have n4_ := Aside0.mk (Kd.R_below (by (with_reducible repeat (first | apply Kd.R_alloc | apply Kd.R_drewN | apply Kd.R_drew)); exact (Kd.R_mono (Kd.R_far (p := ⟨gb369, 2, none⟩) (Kd.R_far (p := ⟨gb369, 1, none⟩) (Kd.R_far (p := ⟨gb369, 0, none⟩) (Kd.R_types HO362.out BK369.out (by decide)) (fun _ hk => hk.2) (.int .i64 t363)) (fun _ hk => hk.2) (.bool t364)) (fun _ hk => hk.2) (.slice Ao46 t365.length co46)) (fun _ h_ => h_.1))) hb); have n5_ := Aside0.mk (Kd.R_below (by (with_reducible repeat (first | apply Kd.R_alloc | apply Kd.R_drewN | apply Kd.R_drew)); exact (Kd.R_mono (Kd.R_far (p := ⟨gb369, 2, none⟩) (Kd.R_far (p := ⟨gb369, 1, none⟩) (Kd.R_far (p := ⟨gb369, 0, none⟩) (Kd.R_types HO367.out BK369.out (by decide)) (fun _ hk => hk.2) (.int .i64 t363)) (fun _ hk => hk.2) (.bool t364)) (fun _ hk => hk.2) (.slice Ao46 t365.length co46)) (fun _ h_ => h_.1))) hb); have n6_ := Aside0.mk (blk_below (g := gb337) (o := .cells #[.int .i64 a0_0, .bool a0_1, .slice A0_2 l0_2.length c0_2] 24 (0, 0)) (by (with_reducible repeat (first | refine blk_drewN ?_ _ | refine blk_drew ?_ | refine blk_alloc ?_ _)); refine blk_far ?_ NB337_369.out _; (with_reducible repeat (first | refine blk_drewN ?_ _ | refine blk_drew ?_ | refine blk_alloc ?_ _)); refine blk_far ?_ NB337_369.out _; (with_reducible repeat (first | refine blk_drewN ?_ _ | refine blk_drew ?_ | refine blk_alloc ?_ _)); refine blk_far ?_ NB337_369.out _; (with_reducible repeat (first | refine blk_drewN ?_ _ | refine blk_drew ?_ | refine blk_alloc ?_ _)); exact BK337.out) hb); have n7_ := Aside0.mk (blk_below (g := gb353) (o := .cells #[.int .i64 t347, .bool t348, .slice Ao29 t349.length co29] 26 (0, 0)) (by (with_reducible repeat (first | refine blk_drewN ?_ _ | refine blk_drew ?_ | refine blk_alloc ?_ _)); refine blk_far ?_ NB353_369.out _; (with_reducible repeat (first | refine blk_drewN ?_ _ | refine blk_drew ?_ | refine blk_alloc ?_ _)); refine blk_far ?_ NB353_369.out _; (with_reducible repeat (first | refine blk_drewN ?_ _ | refine blk_drew ?_ | refine blk_alloc ?_ _)); refine blk_far ?_ NB353_369.out _; (with_reducible repeat (first | refine blk_drewN ?_ _ | refine blk_drew ?_ | refine blk_alloc ?_ _)); exact BK353.out) hb); have n8_ := Aside0.mk (blk_below (g := gb359) (o := .cells #[.int .i64 t354, .bool t355, .slice Ao36 t356.length co36] 26 (0, 0)) (by (with_reducible repeat (first | refine blk_drewN ?_ _ | refine blk_drew ?_ | refine blk_alloc ?_ _)); refine blk_far ?_ NB359_369.out _; (with_reducible repeat (first | refine blk_drewN ?_ _ | refine blk_drew ?_ | refine blk_alloc ?_ _)); refine blk_far ?_ NB359_369.out _; (with_reducible repeat (first | refine blk_drewN ?_ _ | refine blk_drew ?_ | refine blk_alloc ?_ _)); refine blk_far ?_ NB359_369.out _; (with_reducible repeat (first | refine blk_drewN ?_ _ | refine blk_drew ?_ | refine blk_alloc ?_ _)); exact BK359.out) hb); have n9_ := Aside0.mk (blk_below (g := gb369) (o := .cells #[.int .i64 t363, .bool t364, .slice Ao46 t365.length co46] 26 (0, 0)) (by (with_reducible repeat (first | refine blk_drewN ?_ _ | refine blk_drew ?_ | refine blk_alloc ?_ _)); refine blk_put (cs := #[.int .i64 t363, .bool t364, .slice none 0 0]) ?_ 2 _ rfl; (with_reducible repeat (first | refine blk_drewN ?_ _ | refine blk_drew ?_ | refine blk_alloc ?_ _)); refine blk_put (cs := #[.int .i64 t363, .bool false, .slice none 0 0]) ?_ 1 _ rfl; (with_reducible repeat (first | refine blk_drewN ?_ _ | refine blk_drew ?_ | refine blk_alloc ?_ _)); refine blk_put (cs := #[.int .i64 0, .bool false, .slice none 0 0]) ?_ 0 _ rfl; (with_reducible repeat (first | refine blk_drewN ?_ _ | refine blk_drew ?_ | refine blk_alloc ?_ _)); exact BK369.out) hb); have n10_ := Aside0.mk (below_step (by repeat (first | (with_reducible first | exact HB.out | apply below_alloc | apply pw_below_drewN | apply below_drew1 | refine below_set ?_ GE337.out | refine below_set ?_ GE353.out | refine below_set ?_ GE359.out | refine below_set ?_ GE369.out) | exact HB.out)) hb); clear HO343; clear HO346; clear HO351; clear HO358; clear HO362; clear HO367; clear BK337; clear BK353; clear BK359; clear BK369; clear HB; have HO343 := n0_; have HO346 := n1_; have HO351 := n2_; have HO358 := n3_; have HO362 := n4_; have HO367 := n5_; have BK337 := n6_; have BK353 := n7_; have BK359 := n8_; have BK369 := n9_; have HB := n10_; clear n0_ n1_ n2_ n3_ n4_ n5_ n6_ n7_ n8_ n9_ n10_; (try clear hb); (try clear hb2); (try clear hk); (try clear hi)))
          go_meet
          case rel => exact ⟨_, ((t368 != t352)), (by first | rfl | (simp; done) | (simp [*]; done)), H', ⟨by first | omega | exact Nat.le_refl _⟩, ⟨by (with_reducible repeat (first | apply Kd.R_alloc | apply Kd.R_drewN | apply Kd.R_drew)); exact Kd.R_mono HO362.out (fun _ hk => ⟨hk.1.2, hk.2⟩)⟩, ⟨by (with_reducible repeat (first | apply Kd.V_alloc | apply Kd.V_drewN | apply Kd.V_drew)); exact Kd.V_mono HO351.out (fun _ hk => ⟨hk.1.1.2, ⟨hk.1.1.1.1.2, ⟨hk.1.2, ⟨hk.1.1.1.1.1.1.2.2, ⟨hk.1.1.1.1.1.2, ⟨hk.1.1.1.2, hk.2⟩⟩⟩⟩⟩⟩)⟩, ⟨by (with_reducible repeat (first | apply Kd.R_alloc | apply Kd.R_drewN | apply Kd.R_drew)); exact Kd.R_mono HO358.out (fun _ hk => ⟨hk.1.2, hk.2⟩)⟩, ⟨by (with_reducible repeat (first | apply Kd.R_alloc | apply Kd.R_drewN | apply Kd.R_drew)); exact Kd.R_mono HO367.out (fun _ hk => ⟨hk.2, hk.1.2⟩)⟩, ⟨by (with_reducible repeat (first | refine blk_drewN ?_ _ | refine blk_drew ?_ | refine blk_alloc ?_ _)); exact BK337.out⟩, ⟨by (with_reducible repeat (first | refine blk_drewN ?_ _ | refine blk_drew ?_ | refine blk_alloc ?_ _)); exact BK353.out⟩, ⟨by (with_reducible repeat (first | refine blk_drewN ?_ _ | refine blk_drew ?_ | refine blk_alloc ?_ _)); exact BK359.out⟩, ⟨by (with_reducible repeat (first | refine blk_drewN ?_ _ | refine blk_drew ?_ | refine blk_alloc ?_ _)); exact BK369.out⟩, ⟨by repeat (first | (with_reducible first | exact HB.out | apply below_alloc | apply pw_below_drewN | apply below_drew1 | refine below_set ?_ GE337.out | refine below_set ?_ GE353.out | refine below_set ?_ GE359.out | refine below_set ?_ GE369.out) | exact HB.out)⟩⟩
        · replace c48 := Bool.eq_false_iff.mpr c48
          subst c48
          have H1 : (laws_FnExactFillBy.j0 k l1 t352 t360 t368 true a0_0 a0_1 l0_2 t347 t348 t349 t354 t355 t356 t363 t364 t365) = some r := by rw [if_neg (show ¬ (false = true) by decide)] at H; exact H
          clear H
          have H := H1
          clear H1
          exact absurd ((laws_FnExactFillBy.j0_no _ _ _ _ _ _ _ _ _ _ _ _ _ _ _ _ _ _ H).trans HRV.out) (by decide)
      case rest =>
        clear HC16
        try clear c1
        try clear c2
        try clear p2
        try clear c3
        try clear c3b0
        try clear c3b1
        try clear c4
        try clear c5
        try clear c6
        try clear c6b0
        try clear c7
        try clear c8
        try clear c9
        try clear c10
        try clear c11
        try clear c27
        try clear c33
        try clear c34
        try clear c42
        try clear c43
        try clear c44
        try clear c48
        try clear c49
        try clear c50
        try clear c51
        try clear c53
        try clear c54
        try clear hcz18_0
        try clear hcz18_1
        try clear hcz18_2
        try clear hcz20_0
        try clear hcz20_1
        try clear hcz20_2
        try clear hcz28_0
        try clear hcz28_1
        try clear hcz28_2
        try clear hcz30_0
        try clear hcz30_1
        try clear hcz30_2
        try clear hcz35_0
        try clear hcz35_1
        try clear hcz35_2
        try clear hcz38_0
        try clear hcz38_1
        try clear hcz38_2
        try clear hcz45_0
        try clear hcz45_1
        try clear hcz45_2
        try clear hcz52_0
        try clear hcz52_1
        try clear hcz52_2
        try clear hcz55_0
        try clear hcz55_1
        try clear hcz55_2
        try clear hcz8_0
        try clear hcz8_1
        try clear hcz8_2
        try clear hfz18_0
        try clear hfz18_1
        try clear hfz18_2
        try clear hfz20_0
        try clear hfz20_1
        try clear hfz20_2
        try clear hfz28_0
        try clear hfz28_1
        try clear hfz28_2
        try clear hfz30_0
        try clear hfz30_1
        try clear hfz30_2
        try clear hfz35_0
        try clear hfz35_1
        try clear hfz35_2
        try clear hfz38_0
        try clear hfz38_1
        try clear hfz38_2
        try clear hfz45_0
        try clear hfz45_1
        try clear hfz45_2
        try clear hfz52_0
        try clear hfz52_1
        try clear hfz52_2
        try clear hfz55_0
        try clear hfz55_1
        try clear hfz55_2
        try clear hfz8_0
        try clear hfz8_1
        try clear hfz8_2
        obtain ⟨kq, x51_15, rfl, HA, HJ15, HO_9, HO_354002, HO_360002, HO_370002, BK337, BK353, BK359, BK369, HB⟩ := hcut
        cases kq with
        | zero => exact absurd HA.out (by simp [laws_FnExactFillBy.j0])
        | succ kj15 =>
          have H := HA.out
          clear HA
          simp only [laws_FnExactFillBy.j0] at H
          by_cases c57 : x51_15 = true
          · subst c57
            have H1 : (some false) = some r := by rw [if_pos rfl] at H; exact H
            clear H
            have H := H1
            clear H1
            exact absurd ((Option.some.inj H).trans HRV.out) (by decide)
          · replace c57 := Bool.eq_false_iff.mpr c57
            subst c57
            have H1 : ((laws_toRow.f kj15 a0_0 a0_1 l0_2).bind fun bt371 => ((laws_eqRow.f kj15 t354 t355 t356 bt371.1 bt371.2.1 bt371.2.2).bind fun t376 => (if t376 = true then ((laws_toIntS.f kj15 l1).bind fun t377 => ((laws_eqIntS.f kj15 t360 t377).bind fun t380 => (if t380 = true then ((laws_markRow.f kj15 t354 t355 t356 1).bind fun bt381 => ((laws_markIntS.f kj15 t360 bt381.1).bind fun bt383 => (if bt383.1 < 0 then (laws_FnExactFillBy.j1 kj15 l1 t352 true a0_0 a0_1 l0_2 t347 t348 t349 t363 t364 t365) else ((laws_eqRow.f kj15 t363 t364 t365 t347 t348 t349).bind fun t385 => (if t385 = true then (laws_FnExactFillBy.j1 kj15 l1 t352 (t368 != t352) a0_0 a0_1 l0_2 t347 t348 t349 t363 t364 t365) else (laws_FnExactFillBy.j1 kj15 l1 t352 true a0_0 a0_1 l0_2 t347 t348 t349 t363 t364 t365)))))) else (some false)))) else (some false)))) = some r := by rw [if_neg (show ¬ (false = true) by decide)] at H; exact H
            clear H
            have H := H1
            clear H1
            replace H := Option.bind_eq_some_iff.mp H
            obtain ⟨⟨t371, t372, t373⟩, A580, H⟩ := H
            replace H : ((laws_eqRow.f kj15 t354 t355 t356 t371 t372 t373).bind fun t376 => (if t376 = true then ((laws_toIntS.f kj15 l1).bind fun t377 => ((laws_eqIntS.f kj15 t360 t377).bind fun t380 => (if t380 = true then ((laws_markRow.f kj15 t354 t355 t356 1).bind fun bt381 => ((laws_markIntS.f kj15 t360 bt381.1).bind fun bt383 => (if bt383.1 < 0 then (laws_FnExactFillBy.j1 kj15 l1 t352 true a0_0 a0_1 l0_2 t347 t348 t349 t363 t364 t365) else ((laws_eqRow.f kj15 t363 t364 t365 t347 t348 t349).bind fun t385 => (if t385 = true then (laws_FnExactFillBy.j1 kj15 l1 t352 (t368 != t352) a0_0 a0_1 l0_2 t347 t348 t349 t363 t364 t365) else (laws_FnExactFillBy.j1 kj15 l1 t352 true a0_0 a0_1 l0_2 t347 t348 t349 t363 t364 t365)))))) else (some false)))) else (some false))) = some r := H
            have A58 := Aside0.mk A580
            clear A580
            replace H := Option.bind_eq_some_iff.mp H
            obtain ⟨t376, A590, H⟩ := H
            replace H : (if t376 = true then ((laws_toIntS.f kj15 l1).bind fun t377 => ((laws_eqIntS.f kj15 t360 t377).bind fun t380 => (if t380 = true then ((laws_markRow.f kj15 t354 t355 t356 1).bind fun bt381 => ((laws_markIntS.f kj15 t360 bt381.1).bind fun bt383 => (if bt383.1 < 0 then (laws_FnExactFillBy.j1 kj15 l1 t352 true a0_0 a0_1 l0_2 t347 t348 t349 t363 t364 t365) else ((laws_eqRow.f kj15 t363 t364 t365 t347 t348 t349).bind fun t385 => (if t385 = true then (laws_FnExactFillBy.j1 kj15 l1 t352 (t368 != t352) a0_0 a0_1 l0_2 t347 t348 t349 t363 t364 t365) else (laws_FnExactFillBy.j1 kj15 l1 t352 true a0_0 a0_1 l0_2 t347 t348 t349 t363 t364 t365)))))) else (some false)))) else (some false)) = some r := H
            have A59 := Aside0.mk A590
            clear A590
            by_cases c60 : t376 = true
            · subst c60
              have H1 : ((laws_toIntS.f kj15 l1).bind fun t377 => ((laws_eqIntS.f kj15 t360 t377).bind fun t380 => (if t380 = true then ((laws_markRow.f kj15 t354 t355 t356 1).bind fun bt381 => ((laws_markIntS.f kj15 t360 bt381.1).bind fun bt383 => (if bt383.1 < 0 then (laws_FnExactFillBy.j1 kj15 l1 t352 true a0_0 a0_1 l0_2 t347 t348 t349 t363 t364 t365) else ((laws_eqRow.f kj15 t363 t364 t365 t347 t348 t349).bind fun t385 => (if t385 = true then (laws_FnExactFillBy.j1 kj15 l1 t352 (t368 != t352) a0_0 a0_1 l0_2 t347 t348 t349 t363 t364 t365) else (laws_FnExactFillBy.j1 kj15 l1 t352 true a0_0 a0_1 l0_2 t347 t348 t349 t363 t364 t365)))))) else (some false)))) = some r := by rw [if_pos rfl] at H; exact H
              clear H
              have H := H1
              clear H1
              replace H := Option.bind_eq_some_iff.mp H
              obtain ⟨t377, A610, H⟩ := H
              replace H : ((laws_eqIntS.f kj15 t360 t377).bind fun t380 => (if t380 = true then ((laws_markRow.f kj15 t354 t355 t356 1).bind fun bt381 => ((laws_markIntS.f kj15 t360 bt381.1).bind fun bt383 => (if bt383.1 < 0 then (laws_FnExactFillBy.j1 kj15 l1 t352 true a0_0 a0_1 l0_2 t347 t348 t349 t363 t364 t365) else ((laws_eqRow.f kj15 t363 t364 t365 t347 t348 t349).bind fun t385 => (if t385 = true then (laws_FnExactFillBy.j1 kj15 l1 t352 (t368 != t352) a0_0 a0_1 l0_2 t347 t348 t349 t363 t364 t365) else (laws_FnExactFillBy.j1 kj15 l1 t352 true a0_0 a0_1 l0_2 t347 t348 t349 t363 t364 t365)))))) else (some false))) = some r := H
              have A61 := Aside0.mk A610
              clear A610
              replace H := Option.bind_eq_some_iff.mp H
              obtain ⟨t380, A620, H⟩ := H
              replace H : (if t380 = true then ((laws_markRow.f kj15 t354 t355 t356 1).bind fun bt381 => ((laws_markIntS.f kj15 t360 bt381.1).bind fun bt383 => (if bt383.1 < 0 then (laws_FnExactFillBy.j1 kj15 l1 t352 true a0_0 a0_1 l0_2 t347 t348 t349 t363 t364 t365) else ((laws_eqRow.f kj15 t363 t364 t365 t347 t348 t349).bind fun t385 => (if t385 = true then (laws_FnExactFillBy.j1 kj15 l1 t352 (t368 != t352) a0_0 a0_1 l0_2 t347 t348 t349 t363 t364 t365) else (laws_FnExactFillBy.j1 kj15 l1 t352 true a0_0 a0_1 l0_2 t347 t348 t349 t363 t364 t365)))))) else (some false)) = some r := H
              have A62 := Aside0.mk A620
              clear A620
              by_cases c63 : t380 = true
              · subst c63
                have H1 : ((laws_markRow.f kj15 t354 t355 t356 1).bind fun bt381 => ((laws_markIntS.f kj15 t360 bt381.1).bind fun bt383 => (if bt383.1 < 0 then (laws_FnExactFillBy.j1 kj15 l1 t352 true a0_0 a0_1 l0_2 t347 t348 t349 t363 t364 t365) else ((laws_eqRow.f kj15 t363 t364 t365 t347 t348 t349).bind fun t385 => (if t385 = true then (laws_FnExactFillBy.j1 kj15 l1 t352 (t368 != t352) a0_0 a0_1 l0_2 t347 t348 t349 t363 t364 t365) else (laws_FnExactFillBy.j1 kj15 l1 t352 true a0_0 a0_1 l0_2 t347 t348 t349 t363 t364 t365)))))) = some r := by rw [if_pos rfl] at H; exact H
                clear H
                have H := H1
                clear H1
                replace H := Option.bind_eq_some_iff.mp H
                obtain ⟨⟨t381, t382⟩, A640, H⟩ := H
                replace H : ((laws_markIntS.f kj15 t360 t381).bind fun bt383 => (if bt383.1 < 0 then (laws_FnExactFillBy.j1 kj15 l1 t352 true a0_0 a0_1 l0_2 t347 t348 t349 t363 t364 t365) else ((laws_eqRow.f kj15 t363 t364 t365 t347 t348 t349).bind fun t385 => (if t385 = true then (laws_FnExactFillBy.j1 kj15 l1 t352 (t368 != t352) a0_0 a0_1 l0_2 t347 t348 t349 t363 t364 t365) else (laws_FnExactFillBy.j1 kj15 l1 t352 true a0_0 a0_1 l0_2 t347 t348 t349 t363 t364 t365))))) = some r := H
                have A64 := Aside0.mk A640
                clear A640
                replace H := Option.bind_eq_some_iff.mp H
                obtain ⟨⟨t383, t384⟩, A650, H⟩ := H
                replace H : (if t383 < 0 then (laws_FnExactFillBy.j1 kj15 l1 t352 true a0_0 a0_1 l0_2 t347 t348 t349 t363 t364 t365) else ((laws_eqRow.f kj15 t363 t364 t365 t347 t348 t349).bind fun t385 => (if t385 = true then (laws_FnExactFillBy.j1 kj15 l1 t352 (t368 != t352) a0_0 a0_1 l0_2 t347 t348 t349 t363 t364 t365) else (laws_FnExactFillBy.j1 kj15 l1 t352 true a0_0 a0_1 l0_2 t347 t348 t349 t363 t364 t365)))) = some r := H
                have A65 := Aside0.mk A650
                clear A650
                have HC66 := Aside0.mk H
                clear H
                try go_wp2
                have n0_ := Aside0.mk (Kd.R_drew HO_9.out)
                have n1_ := Aside0.mk (Kd.V_drew HO_354002.out)
                have n2_ := Aside0.mk (Kd.R_drew HO_360002.out)
                have n3_ := Aside0.mk (Kd.R_drew HO_370002.out)
                have n4_ := Aside0.mk (blk_drew BK337.out)
                have n5_ := Aside0.mk (blk_drew BK353.out)
                have n6_ := Aside0.mk (blk_drew BK359.out)
                have n7_ := Aside0.mk (blk_drew BK369.out)
                have n8_ := Aside0.mk (below_drew1 HB.out)
                clear HO_9
                clear HO_354002
                clear HO_360002
                clear HO_370002
                clear BK337
                clear BK353
                clear BK359
                clear BK369
                clear HB
                have HO_9 := n0_
                have HO_354002 := n1_
                have HO_360002 := n2_
                have HO_370002 := n3_
                have BK337 := n4_
                have BK353 := n5_
                have BK359 := n6_
                have BK369 := n7_
                have HB := n8_
                clear n0_ n1_ n2_ n3_ n4_ n5_ n6_ n7_ n8_
                refine start_ (n := 5) (S := fun w' => w'.cell? ⟨gb359, 0, none⟩ = some (.int .i64 t354) ∧ w'.cell? ⟨gb359, 1, none⟩ = some (.bool t355) ∧ w'.cell? ⟨gb359, 2, none⟩ = some (.slice Ao36 t356.length co36) ∧ w'.cell? ⟨gb337, 0, none⟩ = some (.int .i64 a0_0) ∧ w'.cell? ⟨gb337, 1, none⟩ = some (.bool a0_1) ∧ w'.cell? ⟨gb337, 2, none⟩ = some (.slice A0_2 l0_2.length c0_2)) (ds := []) #[false, false, false, false, false] (by kernel_rfl) rfl rfl ⟨(blk_cell BK359.out 0).trans rfl, (blk_cell BK359.out 1).trans rfl, (blk_cell BK359.out 2).trans rfl, (blk_cell BK337.out 0).trans rfl, (blk_cell BK337.out 1).trans rfl, (blk_cell BK337.out 2).trans rfl⟩ (fun hHeld => ?_)
                generalize wc.drew = w67 at HO_9 HO_354002 HO_360002 HO_370002 BK337 BK353 BK359 BK369 HB hHeld ⊢
                refine take_ (i := 0) (N := some 52) (v := ?_) (a' := ?_) #[true, false, false, false, false] rfl rfl (by kernel_rfl) (fun _ _ _ h => h) (Or.inl ⟨by rfl, ?_⟩) hHeld ?_ ?_
                rotate_left
                · rintro w' ⟨s0, s1, s2, s3, s4, s5⟩
                  go_simp
                  with_reducible rfl
                rotate_left
                · simp only [Act.put, List.setIfInBounds_toArray, List.set_cons_zero, List.set_cons_succ, i64_w, i32_w]
                  rfl
                refine take_ (i := 1) (N := some 53) (v := ?_) (a' := ?_) #[true, true, false, false, false] rfl rfl (by kernel_rfl) (fun _ _ _ h => h) (Or.inl ⟨by rfl, ?_⟩) hHeld ?_ ?_
                rotate_left
                · rintro w' ⟨s0, s1, s2, s3, s4, s5⟩
                  go_simp
                  with_reducible rfl
                rotate_left
                · simp only [Act.put, List.setIfInBounds_toArray, List.set_cons_zero, List.set_cons_succ, i64_w, i32_w]
                  rfl
                refine one_ (i := 2) (N := some 54) #[true, true, true, false, false] rfl rfl (by kernel_rfl) (by decide) (fun K hK => ?_)
                refine goes_ Tryd.func8 (by kernel_rfl) rfl #[.agg #[.int .i64 a0_0, .bool a0_1, .slice A0_2 l0_2.length c0_2]] (by rfl) rfl rfl (by (try simp only [List.map_toArray, List.map_cons, List.map_nil]); first | done | rfl | (simp only [List.length_drop, List.length_take]; rfl)) ?_
                with_reducible refine (laws_toRow.calls kj15 a0_0 a0_1 _ _ l0_2 t371 t372 t373 _ ?side1 ?side2 A58.out).mono ?_
                (case side1 => repeat (first | exact (Kd.C_below HR0_2.out HB.out) | (with_reducible refine Kd.C_alloc ?_ _) | (with_reducible refine Kd.C_drewN ?_ _) | (with_reducible refine Kd.C_drew ?_)))
                (case side2 => exact HC0_2.out)
                rintro e w68 ⟨v374, rfl, ho0, hb⟩
                refine ⟨_, rfl, ?_⟩
                have n0_ := Aside0.mk (Kd.R_elder' (by (with_reducible repeat (first | apply Kd.R_alloc | apply Kd.R_drewN | apply Kd.R_drew)); exact HO_9.out) (Kd.R_base ho0) hb)
                have n1_ := Aside0.mk (Kd.V_elder' (by (with_reducible repeat (first | apply Kd.V_alloc | apply Kd.V_drewN | apply Kd.V_drew)); exact HO_354002.out) (Kd.R_base ho0) hb)
                have n2_ := Aside0.mk (Kd.R_elder' (by (with_reducible repeat (first | apply Kd.R_alloc | apply Kd.R_drewN | apply Kd.R_drew)); exact HO_360002.out) (Kd.R_base ho0) hb)
                have n3_ := Aside0.mk (Kd.R_elder' (by (with_reducible repeat (first | apply Kd.R_alloc | apply Kd.R_drewN | apply Kd.R_drew)); exact HO_370002.out) (Kd.R_base ho0) hb)
                have n4_ := Aside0.mk (Kd.R_lower (Kd.R_new' (Kd.R_new' (Kd.R_new' ho0 (Kd.R_lt (by (with_reducible repeat (first | apply Kd.R_alloc | apply Kd.R_drewN | apply Kd.R_drew)); exact HO_9.out))) (Kd.R_lt (by (with_reducible repeat (first | apply Kd.R_alloc | apply Kd.R_drewN | apply Kd.R_drew)); exact HO_360002.out))) (Kd.R_lt (by (with_reducible repeat (first | apply Kd.R_alloc | apply Kd.R_drewN | apply Kd.R_drew)); exact HO_370002.out))) (below_size (by repeat (first | (with_reducible first | exact HB.out | apply below_alloc | apply pw_below_drewN | apply below_drew1 | refine below_set ?_ GE337.out | refine below_set ?_ GE353.out | refine below_set ?_ GE359.out | refine below_set ?_ GE369.out) | exact HB.out))))
                have n5_ := Aside0.mk (blk_below (g := gb337) (o := .cells #[.int .i64 a0_0, .bool a0_1, .slice A0_2 l0_2.length c0_2] 24 (0, 0)) (by (with_reducible repeat (first | refine blk_drewN ?_ _ | refine blk_drew ?_ | refine blk_alloc ?_ _)); exact BK337.out) hb)
                have n6_ := Aside0.mk (blk_below (g := gb353) (o := .cells #[.int .i64 t347, .bool t348, .slice Ao29 t349.length co29] 26 (0, 0)) (by (with_reducible repeat (first | refine blk_drewN ?_ _ | refine blk_drew ?_ | refine blk_alloc ?_ _)); exact BK353.out) hb)
                have n7_ := Aside0.mk (blk_below (g := gb359) (o := .cells #[.int .i64 t354, .bool t355, .slice Ao36 t356.length co36] 26 (0, 0)) (by (with_reducible repeat (first | refine blk_drewN ?_ _ | refine blk_drew ?_ | refine blk_alloc ?_ _)); exact BK359.out) hb)
                have n8_ := Aside0.mk (blk_below (g := gb369) (o := .cells #[.int .i64 t363, .bool t364, .slice Ao46 t365.length co46] 26 (0, 0)) (by (with_reducible repeat (first | refine blk_drewN ?_ _ | refine blk_drew ?_ | refine blk_alloc ?_ _)); exact BK369.out) hb)
                have n9_ := Aside0.mk (below_step (by repeat (first | (with_reducible first | exact HB.out | apply below_alloc | apply pw_below_drewN | apply below_drew1 | refine below_set ?_ GE337.out | refine below_set ?_ GE353.out | refine below_set ?_ GE359.out | refine below_set ?_ GE369.out) | exact HB.out)) hb)
                clear HO_9
                clear HO_354002
                clear HO_360002
                clear HO_370002
                clear BK337
                clear BK353
                clear BK359
                clear BK369
                clear HB
                have HO_9 := n0_
                have HO_354002 := n1_
                have HO_360002 := n2_
                have HO_370002 := n3_
                have HO375 := n4_
                have BK337 := n5_
                have BK353 := n6_
                have BK359 := n7_
                have BK369 := n8_
                have HB := n9_
                clear n0_ n1_ n2_ n3_ n4_ n5_ n6_ n7_ n8_ n9_
                (try clear hb)
                (try clear hb2)
                (try clear hk)
                (try clear hi)
                (try clear ho0)
                obtain ⟨Ao69, co69, eo69⟩ := Kd.R_slice HO375.out
                (first | subst eo69 | (injection eo69 with f1_ f2_ f3_; have f4_ := f1_.symm; have f5_ := f3_.symm; clear f1_ f2_ f3_; subst f4_; subst f5_))
                refine hK.out _ _ ⟨(blk_cell BK359.out 0).trans rfl, (blk_cell BK359.out 1).trans rfl, (blk_cell BK359.out 2).trans rfl, (blk_cell BK337.out 0).trans rfl, (blk_cell BK337.out 1).trans rfl, (blk_cell BK337.out 2).trans rfl⟩ (fun hHeld => ?_)
                clear hK K
                refine norm_ (a' := ?_) ?_ ?_
                rotate_left
                · show Act.put _ (some 54) _ = _
                  simp only [Act.put, List.setIfInBounds_toArray, List.set_cons_zero, List.set_cons_succ, i64_w, i32_w]
                  rfl
                refine one_ (i := 3) (N := some 55) #[true, true, true, true, false] rfl rfl (by kernel_rfl) (by decide) (fun K hK => ?_)
                refine goes_ Tryd.func11 (by kernel_rfl) rfl #[.agg #[.int .i64 t354, .bool t355, .slice Ao36 t356.length co36], .agg #[.int .i64 t371, .bool t372, .slice Ao69 t373.length co69]] (by rfl) rfl rfl (by (try simp only [List.map_toArray, List.map_cons, List.map_nil]); first | done | rfl | (simp only [List.length_drop, List.length_take]; rfl)) ?_
                with_reducible refine (laws_eqRow.calls kj15 t354 t355 _ _ t356 t371 t372 _ _ t373 true _ ?side1 ?side2 ?side3 ?side4 A59.out).mono ?_
                (case side1 => repeat (first | exact (Kd.R_reads' HO_360002.out).2.2 | (with_reducible refine Kd.C_alloc ?_ _) | (with_reducible refine Kd.C_drewN ?_ _) | (with_reducible refine Kd.C_drew ?_)))
                (case side2 => exact (Kd.R_reads' HO_360002.out).2.1)
                (case side3 => repeat (first | exact (Kd.R_reads' HO375.out).2.2 | (with_reducible refine Kd.C_alloc ?_ _) | (with_reducible refine Kd.C_drewN ?_ _) | (with_reducible refine Kd.C_drew ?_)))
                (case side4 => exact (Kd.R_reads' HO375.out).2.1)
                rintro e w70 ⟨rfl, hb⟩
                refine ⟨_, rfl, ?_⟩
                have n0_ := Aside0.mk (Kd.R_below (by (with_reducible repeat (first | apply Kd.R_alloc | apply Kd.R_drewN | apply Kd.R_drew)); exact HO_9.out) hb)
                have n1_ := Aside0.mk (Kd.V_below (by (with_reducible repeat (first | apply Kd.V_alloc | apply Kd.V_drewN | apply Kd.V_drew)); exact HO_354002.out) hb)
                have n2_ := Aside0.mk (Kd.R_below (by (with_reducible repeat (first | apply Kd.R_alloc | apply Kd.R_drewN | apply Kd.R_drew)); exact HO_360002.out) hb)
                have n3_ := Aside0.mk (Kd.R_below (by (with_reducible repeat (first | apply Kd.R_alloc | apply Kd.R_drewN | apply Kd.R_drew)); exact HO_370002.out) hb)
                have n4_ := Aside0.mk (Kd.R_below (by (with_reducible repeat (first | apply Kd.R_alloc | apply Kd.R_drewN | apply Kd.R_drew)); exact HO375.out) hb)
                have n5_ := Aside0.mk (blk_below (g := gb337) (o := .cells #[.int .i64 a0_0, .bool a0_1, .slice A0_2 l0_2.length c0_2] 24 (0, 0)) (by (with_reducible repeat (first | refine blk_drewN ?_ _ | refine blk_drew ?_ | refine blk_alloc ?_ _)); exact BK337.out) hb)
                have n6_ := Aside0.mk (blk_below (g := gb353) (o := .cells #[.int .i64 t347, .bool t348, .slice Ao29 t349.length co29] 26 (0, 0)) (by (with_reducible repeat (first | refine blk_drewN ?_ _ | refine blk_drew ?_ | refine blk_alloc ?_ _)); exact BK353.out) hb)
                have n7_ := Aside0.mk (blk_below (g := gb359) (o := .cells #[.int .i64 t354, .bool t355, .slice Ao36 t356.length co36] 26 (0, 0)) (by (with_reducible repeat (first | refine blk_drewN ?_ _ | refine blk_drew ?_ | refine blk_alloc ?_ _)); exact BK359.out) hb)
                have n8_ := Aside0.mk (blk_below (g := gb369) (o := .cells #[.int .i64 t363, .bool t364, .slice Ao46 t365.length co46] 26 (0, 0)) (by (with_reducible repeat (first | refine blk_drewN ?_ _ | refine blk_drew ?_ | refine blk_alloc ?_ _)); exact BK369.out) hb)
                have n9_ := Aside0.mk (below_step (by repeat (first | (with_reducible first | exact HB.out | apply below_alloc | apply pw_below_drewN | apply below_drew1 | refine below_set ?_ GE337.out | refine below_set ?_ GE353.out | refine below_set ?_ GE359.out | refine below_set ?_ GE369.out) | exact HB.out)) hb)
                clear HO_9
                clear HO_354002
                clear HO_360002
                clear HO_370002
                clear HO375
                clear BK337
                clear BK353
                clear BK359
                clear BK369
                clear HB
                have HO_9 := n0_
                have HO_354002 := n1_
                have HO_360002 := n2_
                have HO_370002 := n3_
                have HO375 := n4_
                have BK337 := n5_
                have BK353 := n6_
                have BK359 := n7_
                have BK369 := n8_
                have HB := n9_
                clear n0_ n1_ n2_ n3_ n4_ n5_ n6_ n7_ n8_ n9_
                (try clear hb)
                (try clear hb2)
                (try clear hk)
                (try clear hi)
                refine hK.out _ _ ⟨(blk_cell BK359.out 0).trans rfl, (blk_cell BK359.out 1).trans rfl, (blk_cell BK359.out 2).trans rfl, (blk_cell BK337.out 0).trans rfl, (blk_cell BK337.out 1).trans rfl, (blk_cell BK337.out 2).trans rfl⟩ (fun hHeld => ?_)
                clear hK K
                refine norm_ (a' := ?_) ?_ ?_
                rotate_left
                · show Act.put _ (some 55) _ = _
                  simp only [Act.put, List.setIfInBounds_toArray, List.set_cons_zero, List.set_cons_succ, i64_w, i32_w]
                  rfl
                refine pure_ (i := 4) (N := some 56) (v := ?_) (a' := ?_) #[true, true, true, true, true] rfl rfl (by kernel_rfl) (fun _ _ _ h => h) (Or.inl ⟨by rfl, ?_⟩) ?_ ?_
                rotate_left
                · intro w'
                  go_simp
                  with_reducible rfl
                rotate_left
                · simp only [Act.put, List.setIfInBounds_toArray, List.set_cons_zero, List.set_cons_succ, i64_w, i32_w]
                  rfl
                refine done_ (by kernel_rfl) ?_
                go_upto_region 20 with (first | ((with_reducible refine gate_callee (f := 9) rfl ?_); refine goesL_ (some 59) rfl rfl Tryd.func9 (by kernel_rfl) rfl #[.slice A1 l1.length c1] rfl (by (try simp only [List.map_toArray, List.map_cons, List.map_nil]); first | done | rfl | (simp only [List.length_drop, List.length_take]; rfl)) ?_; (with_reducible refine (laws_toIntS.calls kj15 _ _ l1 t377 _ ?side1 ?side2 A61.out).mono ?_); (case side1 => repeat (first | exact (Kd.C_below HR1.out HB.out) | (with_reducible refine Kd.C_alloc ?_ _) | (with_reducible refine Kd.C_drewN ?_ _) | (with_reducible refine Kd.C_drew ?_))); (case side2 => exact HC1.out); rintro e w71 ⟨v378, rfl, ho0, hb⟩; refine ⟨_, rfl, ?_⟩; have n0_ := Aside0.mk (Kd.R_elder' (by (with_reducible repeat (first | apply Kd.R_alloc | apply Kd.R_drewN | apply Kd.R_drew)); exact HO_9.out) (Kd.R_base ho0) hb); have n1_ := Aside0.mk (Kd.V_elder' (by (with_reducible repeat (first | apply Kd.V_alloc | apply Kd.V_drewN | apply Kd.V_drew)); exact HO_354002.out) (Kd.R_base ho0) hb); have n2_ := Aside0.mk (Kd.R_elder' (by (with_reducible repeat (first | apply Kd.R_alloc | apply Kd.R_drewN | apply Kd.R_drew)); exact HO_360002.out) (Kd.R_base ho0) hb); have n3_ := Aside0.mk (Kd.R_elder' (by (with_reducible repeat (first | apply Kd.R_alloc | apply Kd.R_drewN | apply Kd.R_drew)); exact HO_370002.out) (Kd.R_base ho0) hb); have n4_ := Aside0.mk (Kd.R_elder' (by (with_reducible repeat (first | apply Kd.R_alloc | apply Kd.R_drewN | apply Kd.R_drew)); exact HO375.out) (Kd.R_base ho0) hb); have n5_ := Aside0.mk (Kd.R_lower (Kd.R_new' (Kd.R_new' (Kd.R_new' (Kd.R_new' ho0 (Kd.R_lt (by (with_reducible repeat (first | apply Kd.R_alloc | apply Kd.R_drewN | apply Kd.R_drew)); exact HO_9.out))) (Kd.R_lt (by (with_reducible repeat (first | apply Kd.R_alloc | apply Kd.R_drewN | apply Kd.R_drew)); exact HO_360002.out))) (Kd.R_lt (by (with_reducible repeat (first | apply Kd.R_alloc | apply Kd.R_drewN | apply Kd.R_drew)); exact HO_370002.out))) (Kd.R_lt (by (with_reducible repeat (first | apply Kd.R_alloc | apply Kd.R_drewN | apply Kd.R_drew)); exact HO375.out))) (below_size (by repeat (first | (with_reducible first | exact HB.out | apply below_alloc | apply pw_below_drewN | apply below_drew1 | refine below_set ?_ GE337.out | refine below_set ?_ GE353.out | refine below_set ?_ GE359.out | refine below_set ?_ GE369.out) | exact HB.out)))); have n6_ := Aside0.mk (blk_below (g := gb337) (o := .cells #[.int .i64 a0_0, .bool a0_1, .slice A0_2 l0_2.length c0_2] 24 (0, 0)) (by (with_reducible repeat (first | refine blk_drewN ?_ _ | refine blk_drew ?_ | refine blk_alloc ?_ _)); exact BK337.out) hb); have n7_ := Aside0.mk (blk_below (g := gb353) (o := .cells #[.int .i64 t347, .bool t348, .slice Ao29 t349.length co29] 26 (0, 0)) (by (with_reducible repeat (first | refine blk_drewN ?_ _ | refine blk_drew ?_ | refine blk_alloc ?_ _)); exact BK353.out) hb); have n8_ := Aside0.mk (blk_below (g := gb359) (o := .cells #[.int .i64 t354, .bool t355, .slice Ao36 t356.length co36] 26 (0, 0)) (by (with_reducible repeat (first | refine blk_drewN ?_ _ | refine blk_drew ?_ | refine blk_alloc ?_ _)); exact BK359.out) hb); have n9_ := Aside0.mk (blk_below (g := gb369) (o := .cells #[.int .i64 t363, .bool t364, .slice Ao46 t365.length co46] 26 (0, 0)) (by (with_reducible repeat (first | refine blk_drewN ?_ _ | refine blk_drew ?_ | refine blk_alloc ?_ _)); exact BK369.out) hb); have n10_ := Aside0.mk (below_step (by repeat (first | (with_reducible first | exact HB.out | apply below_alloc | apply pw_below_drewN | apply below_drew1 | refine below_set ?_ GE337.out | refine below_set ?_ GE353.out | refine below_set ?_ GE359.out | refine below_set ?_ GE369.out) | exact HB.out)) hb); clear HO_9; clear HO_354002; clear HO_360002; clear HO_370002; clear HO375; clear BK337; clear BK353; clear BK359; clear BK369; clear HB; have HO_9 := n0_; have HO_354002 := n1_; have HO_360002 := n2_; have HO_370002 := n3_; have HO375 := n4_; have HO379 := n5_; have BK337 := n6_; have BK353 := n7_; have BK359 := n8_; have BK369 := n9_; have HB := n10_; clear n0_ n1_ n2_ n3_ n4_ n5_ n6_ n7_ n8_ n9_ n10_; (try clear hb); (try clear hb2); (try clear hk); (try clear hi); (try clear ho0); obtain ⟨Ao72, co72, eo72⟩ := Kd.R_slice HO379.out; subst eo72) | ((with_reducible refine gate_callee (f := 12) rfl ?_); refine goesL_ (some 60) rfl rfl Tryd.func12 (by kernel_rfl) rfl #[.slice Ao39 t360.length co39, .slice Ao72 t377.length co72] rfl (by (try simp only [List.map_toArray, List.map_cons, List.map_nil]); first | done | rfl | (simp only [List.length_drop, List.length_take]; rfl)) ?_; (with_reducible refine (laws_eqIntS.calls kj15 _ _ t360 _ _ t377 true _ ?side1 ?side2 ?side3 ?side4 A62.out).mono ?_); (case side1 => repeat (first | exact (Kd.R_reads' HO_9.out).2.2 | (with_reducible refine Kd.C_alloc ?_ _) | (with_reducible refine Kd.C_drewN ?_ _) | (with_reducible refine Kd.C_drew ?_))); (case side2 => exact (Kd.R_reads' HO_9.out).2.1); (case side3 => repeat (first | exact (Kd.R_reads' HO379.out).2.2 | (with_reducible refine Kd.C_alloc ?_ _) | (with_reducible refine Kd.C_drewN ?_ _) | (with_reducible refine Kd.C_drew ?_))); (case side4 => exact (Kd.R_reads' HO379.out).2.1); rintro e w' ⟨rfl, ⟨nd, rfl⟩⟩; refine ⟨_, rfl, ?_⟩; have hnb73 := NB359_337.out; have hnc73 := NB337_359.out; have hnb74 := NB359_353.out; have hnc74 := NB353_359.out; have hnb75 := NB359_369.out; have hnc75 := NB369_359.out; have hcz76_0 : w71.cell? ⟨gb359, 0, none⟩ = some (.int .i64 t354) := (blk_cell BK359.out 0).trans rfl; have hcz76_1 : w71.cell? ⟨gb359, 1, none⟩ = some (.bool t355) := (blk_cell BK359.out 1).trans rfl; have hcz76_2 : w71.cell? ⟨gb359, 2, none⟩ = some (.slice Ao36 t356.length co36) := (blk_cell BK359.out 2).trans rfl; have hfz76_0 := blk_frozen BK359.out 0; have hfz76_1 := blk_frozen BK359.out 1; have hfz76_2 := blk_frozen BK359.out 2) | ((with_reducible refine gate_callee (f := 13) rfl ?_); refine goesL_ (some 64) rfl rfl Tryd.func13 (by kernel_rfl) rfl #[.agg #[.int .i64 t354, .bool t355, .slice Ao36 t356.length co36], .int .i64 1] rfl (by (try simp only [List.map_toArray, List.map_cons, List.map_nil]); first | done | rfl | (simp only [List.length_drop, List.length_take]; rfl)) ?_; (with_reducible refine (laws_markRow.calls kj15 t354 t355 (fun k_ => some k_ = (.slice Ao36 t356.length co36 : Value).ownBlock) (.slice Ao36 t356.length co36) t356 1 t381 t382 w _ ?side1 ?side2 A64.out).mono ?_); (case side1 => repeat (first | (with_reducible first | exact HB.out | apply below_alloc | apply pw_below_drewN | apply below_drew1 | refine below_set ?_ GE337.out | refine below_set ?_ GE353.out | refine below_set ?_ GE359.out | refine below_set ?_ GE369.out) | exact HB.out)); (case side2 => exact Kd.R_tight rfl HO_360002.out); rintro e w77 ⟨rfl, hy0, hb, hkp⟩; refine ⟨_, rfl, ?_⟩; have n0_ := Aside0.mk (Kd.R_mono (ok' := fun k_ => some k_ ≠ (.slice Ao36 t356.length co36 : Value).ownBlock ∧ some k_ ≠ (.slice Ao46 t365.length co46 : Value).ownBlock ∧ some k_ ≠ (.slice Ao69 t373.length co69 : Value).ownBlock ∧ some k_ ≠ (.slice Ao72 t377.length co72 : Value).ownBlock) (Kd.R_keptB (HO_9.out) hkp (fun k_ hk_ hs_ => (hk_.1.1.1) hs_)) (fun k_ hk_ => ⟨hk_.1.1.1.1, hk_.1.1.1.2, hk_.1.1.2, hk_.1.2⟩)); have n1_ := Aside0.mk (Kd.V_mono (ok' := fun k_ => some k_ ≠ (.slice Ao39 t360.length co39 : Value).ownBlock ∧ some k_ ≠ (.slice Ao36 t356.length co36 : Value).ownBlock ∧ some k_ ≠ (.slice Ao46 t365.length co46 : Value).ownBlock ∧ some k_ ≠ (.slice Ao69 t373.length co69 : Value).ownBlock ∧ some k_ ≠ (.slice Ao72 t377.length co72 : Value).ownBlock ∧ k_ ≠ gb337 ∧ k_ ≠ gb353 ∧ k_ ≠ gb359 ∧ k_ ≠ gb369) (Kd.V_keptB (HO_354002.out) hkp (fun k_ hk_ hs_ => (hk_.1.1.2.1) hs_)) (fun k_ hk_ => ⟨hk_.1.1.1.1, hk_.1.1.1.2.1, hk_.1.1.1.2.2.1, hk_.1.1.2, hk_.1.2, hk_.1.1.1.2.2.2.1, hk_.1.1.1.2.2.2.2.1, hk_.1.1.1.2.2.2.2.2.1, hk_.1.1.1.2.2.2.2.2.2⟩)); have n2_ := Aside0.mk (Kd.R_reok rfl hy0 (fun k_ e_ => HO_360002.out.1 k_ e_)); have n3_ := Aside0.mk (Kd.R_mono (ok' := fun k_ => some k_ ≠ (.slice Ao39 t360.length co39 : Value).ownBlock ∧ some k_ ≠ (.slice Ao36 t356.length co36 : Value).ownBlock ∧ some k_ ≠ (.slice Ao69 t373.length co69 : Value).ownBlock ∧ some k_ ≠ (.slice Ao72 t377.length co72 : Value).ownBlock) (Kd.R_keptB (HO_370002.out) hkp (fun k_ hk_ hs_ => (hk_.1.1.2) hs_)) (fun k_ hk_ => ⟨hk_.1.1.1.1, hk_.1.1.1.2, hk_.1.1.2, hk_.1.2⟩)); have n4_ := Aside0.mk (blk_kept (by (with_reducible repeat (first | refine blk_drewN ?_ _ | refine blk_drew ?_ | refine blk_alloc ?_ _)); exact BK337.out) hkp (fun hs_ => (fun e_ => (Kd.R_ne HO_360002.out BK337.out (by decide)) e_) hs_)); have n5_ := Aside0.mk (blk_kept (by (with_reducible repeat (first | refine blk_drewN ?_ _ | refine blk_drew ?_ | refine blk_alloc ?_ _)); exact BK353.out) hkp (fun hs_ => (fun e_ => (Kd.R_ne HO_360002.out BK353.out (by decide)) e_) hs_)); have n6_ := Aside0.mk (blk_kept (by (with_reducible repeat (first | refine blk_drewN ?_ _ | refine blk_drew ?_ | refine blk_alloc ?_ _)); exact BK359.out) hkp (fun hs_ => (fun e_ => (Kd.R_ne HO_360002.out BK359.out (by decide)) e_) hs_)); have n7_ := Aside0.mk (blk_kept (by (with_reducible repeat (first | refine blk_drewN ?_ _ | refine blk_drew ?_ | refine blk_alloc ?_ _)); exact BK369.out) hkp (fun hs_ => (fun e_ => (Kd.R_ne HO_360002.out BK369.out (by decide)) e_) hs_)); have n8_ := Aside0.mk (Kd.R_mono (ok' := fun k_ => some k_ ≠ (.slice Ao39 t360.length co39 : Value).ownBlock ∧ some k_ ≠ (.slice Ao36 t356.length co36 : Value).ownBlock ∧ some k_ ≠ (.slice Ao46 t365.length co46 : Value).ownBlock ∧ some k_ ≠ (.slice Ao72 t377.length co72 : Value).ownBlock) (Kd.R_keptB (HO375.out) hkp (fun k_ hk_ hs_ => (hk_.1.1.2) hs_)) (fun k_ hk_ => ⟨hk_.1.1.1.1.2, hk_.1.1.1.2, hk_.1.1.2, hk_.1.2⟩)); have n9_ := Aside0.mk (Kd.R_mono (ok' := fun k_ => some k_ ≠ (.slice Ao39 t360.length co39 : Value).ownBlock ∧ some k_ ≠ (.slice Ao36 t356.length co36 : Value).ownBlock ∧ some k_ ≠ (.slice Ao46 t365.length co46 : Value).ownBlock ∧ some k_ ≠ (.slice Ao69 t373.length co69 : Value).ownBlock) (Kd.R_keptB (HO379.out) hkp (fun k_ hk_ hs_ => (hk_.1.1.2) hs_)) (fun k_ hk_ => ⟨hk_.1.1.1.1.2, hk_.1.1.1.2, hk_.1.1.2, hk_.1.2⟩)); have n10_ := Aside0.mk (hb); clear HO_9; clear HO_354002; clear HO_360002; clear HO_370002; clear BK337; clear BK353; clear BK359; clear BK369; clear HO375; clear HO379; clear HB; have HO_9 := n0_; have HO_354002 := n1_; have HO_360002 := n2_; have HO_370002 := n3_; have BK337 := n4_; have BK353 := n5_; have BK359 := n6_; have BK369 := n7_; have HO375 := n8_; have HO379 := n9_; have HB := n10_; clear n0_ n1_ n2_ n3_ n4_ n5_ n6_ n7_ n8_ n9_ n10_; (try clear hb); (try clear hkp); (try clear hy0)) | ((with_reducible refine gate_callee (f := 14) rfl ?_); refine goesL_ (some 67) rfl rfl Tryd.func14 (by kernel_rfl) rfl #[.slice Ao39 t360.length co39, .int .i64 t381] rfl (by (try simp only [List.map_toArray, List.map_cons, List.map_nil]); first | done | rfl | (simp only [List.length_drop, List.length_take]; rfl)) ?_; (with_reducible refine (laws_markIntS.calls kj15 (fun k_ => some k_ = (.slice Ao39 t360.length co39 : Value).ownBlock) (.slice Ao39 t360.length co39) t360 t381 t383 t384 w _ ?side1 ?side2 A65.out).mono ?_); (case side1 => repeat (first | (with_reducible first | exact HB.out | apply below_alloc | apply pw_below_drewN | apply below_drew1 | refine below_set ?_ GE337.out | refine below_set ?_ GE353.out | refine below_set ?_ GE359.out | refine below_set ?_ GE369.out) | exact HB.out)); (case side2 => exact Kd.R_tight rfl HO_9.out); rintro e w78 ⟨rfl, hy0, hb, hkp⟩; refine ⟨_, rfl, ?_⟩; have n0_ := Aside0.mk (Kd.R_reok rfl hy0 (fun k_ e_ => HO_9.out.1 k_ e_)); have n1_ := Aside0.mk (Kd.V_mono (ok' := fun k_ => some k_ ≠ (.slice Ao39 t360.length co39 : Value).ownBlock ∧ some k_ ≠ (.slice Ao36 t356.length co36 : Value).ownBlock ∧ some k_ ≠ (.slice Ao46 t365.length co46 : Value).ownBlock ∧ some k_ ≠ (.slice Ao69 t373.length co69 : Value).ownBlock ∧ some k_ ≠ (.slice Ao72 t377.length co72 : Value).ownBlock ∧ k_ ≠ gb337 ∧ k_ ≠ gb353 ∧ k_ ≠ gb359 ∧ k_ ≠ gb369) (Kd.V_keptB (HO_354002.out) hkp (fun k_ hk_ hs_ => (hk_.1) hs_)) (fun k_ hk_ => ⟨hk_.1.1, hk_.1.2.1, hk_.1.2.2.1, hk_.1.2.2.2.1, hk_.1.2.2.2.2.1, hk_.1.2.2.2.2.2.1, hk_.1.2.2.2.2.2.2.1, hk_.1.2.2.2.2.2.2.2.1, hk_.1.2.2.2.2.2.2.2.2⟩)); have n2_ := Aside0.mk (Kd.R_mono (ok' := fun k_ => some k_ ≠ (.slice Ao39 t360.length co39 : Value).ownBlock ∧ some k_ ≠ (.slice Ao46 t365.length co46 : Value).ownBlock ∧ some k_ ≠ (.slice Ao69 t373.length co69 : Value).ownBlock ∧ some k_ ≠ (.slice Ao72 t377.length co72 : Value).ownBlock) (Kd.R_keptB (HO_360002.out) hkp (fun k_ hk_ hs_ => (hk_.1.1.1) hs_)) (fun k_ hk_ => ⟨hk_.1.1.1.1, hk_.1.1.1.2, hk_.1.1.2, hk_.1.2⟩)); have n3_ := Aside0.mk (Kd.R_mono (ok' := fun k_ => some k_ ≠ (.slice Ao39 t360.length co39 : Value).ownBlock ∧ some k_ ≠ (.slice Ao36 t356.length co36 : Value).ownBlock ∧ some k_ ≠ (.slice Ao69 t373.length co69 : Value).ownBlock ∧ some k_ ≠ (.slice Ao72 t377.length co72 : Value).ownBlock) (Kd.R_keptB (HO_370002.out) hkp (fun k_ hk_ hs_ => (hk_.1) hs_)) (fun k_ hk_ => ⟨hk_.1.1, hk_.1.2.1, hk_.1.2.2.1, hk_.1.2.2.2⟩)); have n4_ := Aside0.mk (blk_kept (by (with_reducible repeat (first | refine blk_drewN ?_ _ | refine blk_drew ?_ | refine blk_alloc ?_ _)); exact BK337.out) hkp (fun hs_ => (fun e_ => (Kd.R_ne HO_9.out BK337.out (by decide)) e_) hs_)); have n5_ := Aside0.mk (blk_kept (by (with_reducible repeat (first | refine blk_drewN ?_ _ | refine blk_drew ?_ | refine blk_alloc ?_ _)); exact BK353.out) hkp (fun hs_ => (fun e_ => (Kd.R_ne HO_9.out BK353.out (by decide)) e_) hs_)); have n6_ := Aside0.mk (blk_kept (by (with_reducible repeat (first | refine blk_drewN ?_ _ | refine blk_drew ?_ | refine blk_alloc ?_ _)); exact BK359.out) hkp (fun hs_ => (fun e_ => (Kd.R_ne HO_9.out BK359.out (by decide)) e_) hs_)); have n7_ := Aside0.mk (blk_kept (by (with_reducible repeat (first | refine blk_drewN ?_ _ | refine blk_drew ?_ | refine blk_alloc ?_ _)); exact BK369.out) hkp (fun hs_ => (fun e_ => (Kd.R_ne HO_9.out BK369.out (by decide)) e_) hs_)); have n8_ := Aside0.mk (Kd.R_mono (ok' := fun k_ => some k_ ≠ (.slice Ao39 t360.length co39 : Value).ownBlock ∧ some k_ ≠ (.slice Ao36 t356.length co36 : Value).ownBlock ∧ some k_ ≠ (.slice Ao46 t365.length co46 : Value).ownBlock ∧ some k_ ≠ (.slice Ao72 t377.length co72 : Value).ownBlock) (Kd.R_keptB (HO375.out) hkp (fun k_ hk_ hs_ => (hk_.1) hs_)) (fun k_ hk_ => ⟨hk_.1.1, hk_.1.2.1, hk_.1.2.2.1, hk_.1.2.2.2⟩)); have n9_ := Aside0.mk (Kd.R_mono (ok' := fun k_ => some k_ ≠ (.slice Ao39 t360.length co39 : Value).ownBlock ∧ some k_ ≠ (.slice Ao36 t356.length co36 : Value).ownBlock ∧ some k_ ≠ (.slice Ao46 t365.length co46 : Value).ownBlock ∧ some k_ ≠ (.slice Ao69 t373.length co69 : Value).ownBlock) (Kd.R_keptB (HO379.out) hkp (fun k_ hk_ hs_ => (hk_.1) hs_)) (fun k_ hk_ => ⟨hk_.1.1, hk_.1.2.1, hk_.1.2.2.1, hk_.1.2.2.2⟩)); have n10_ := Aside0.mk (hb); clear HO_9; clear HO_354002; clear HO_360002; clear HO_370002; clear BK337; clear BK353; clear BK359; clear BK369; clear HO375; clear HO379; clear HB; have HO_9 := n0_; have HO_354002 := n1_; have HO_360002 := n2_; have HO_370002 := n3_; have BK337 := n4_; have BK353 := n5_; have BK359 := n6_; have BK369 := n7_; have HO375 := n8_; have HO379 := n9_; have HB := n10_; clear n0_ n1_ n2_ n3_ n4_ n5_ n6_ n7_ n8_ n9_ n10_; (try clear hb); (try clear hkp); (try clear hy0)))
                (try simp only [Act.put, List.setIfInBounds_toArray, List.set_cons_zero, List.set_cons_succ])
                go_cut [80] (fun v80 wc => ∃ (kq : Nat) (x80_65 : Bool), v80 = .bool x80_65 ∧ Aside0 (laws_FnExactFillBy.j1 kq l1 t352 x80_65 a0_0 a0_1 l0_2 t347 t348 t349 t363 t364 t365 = some r) ∧ Aside0 (kq ≤ kj15) ∧ Aside0 (Kd.V (Kd.int .i64) 3 wc w.heap.size (fun k_ => some k_ ≠ ((.slice Ao36 t356.length co36) : Value).ownBlock ∧ some k_ ≠ ((.slice Ao46 t365.length co46) : Value).ownBlock ∧ k_ ≠ gb337 ∧ k_ ≠ gb353 ∧ k_ ≠ gb359 ∧ k_ ≠ gb369) (.slice Ao29 t349.length co29) t349) ∧ Aside0 (Kd.R (Kd.int .i64) 3 wc w.heap.size (fun k_ => some k_ ≠ ((.slice Ao46 t365.length co46) : Value).ownBlock) (.slice Ao36 t356.length co36) t382) ∧ Aside0 (Kd.R (Kd.int .i64) 3 wc w.heap.size (fun k_ => some k_ ≠ ((.slice Ao36 t356.length co36) : Value).ownBlock) (.slice Ao46 t365.length co46) t365) ∧ Aside0 (wc.heap[gb337]? = some (.cells #[.int .i64 a0_0, .bool a0_1, (.slice A0_2 l0_2.length c0_2)] 24 (0, 0))) ∧ Aside0 (wc.heap[gb353]? = some (.cells #[.int .i64 t347, .bool t348, (.slice Ao29 t349.length co29)] 26 (0, 0))) ∧ Aside0 (wc.heap[gb359]? = some (.cells #[.int .i64 t354, .bool t355, (.slice Ao36 t356.length co36)] 26 (0, 0))) ∧ Aside0 (wc.heap[gb369]? = some (.cells #[.int .i64 t363, .bool t364, (.slice Ao46 t365.length co46)] 26 (0, 0))) ∧ Aside0 (Below w.heap.size w wc))
                case first =>
                  have H := HC66.out
                  clear HC66
                  by_cases c79 : t383 < 0
                  · rw [if_pos c79] at H
                    have c79b0 : decide (t383 < 0) = true := decide_eq_true c79
                    clear c79
                    (first | rw [c79b0] | (simp only [i64_w, i32_w]; rw [c79b0]) | skip)
                    exact absurd ((laws_FnExactFillBy.j1_no _ _ _ _ _ _ _ _ _ _ _ _ _ H).trans HRV.out) (by decide)
                  · rw [if_neg c79] at H
                    have c79b0 : decide (t383 < 0) = false := decide_eq_false c79
                    clear c79
                    (first | rw [c79b0] | (simp only [i64_w, i32_w]; rw [c79b0]) | skip)
                    replace H := Option.bind_eq_some_iff.mp H
                    obtain ⟨t385, A800, H⟩ := H
                    replace H : (if t385 = true then (laws_FnExactFillBy.j1 kj15 l1 t352 (t368 != t352) a0_0 a0_1 l0_2 t347 t348 t349 t363 t364 t365) else (laws_FnExactFillBy.j1 kj15 l1 t352 true a0_0 a0_1 l0_2 t347 t348 t349 t363 t364 t365)) = some r := H
                    have A80 := Aside0.mk A800
                    clear A800
                    by_cases c81 : t385 = true
                    · subst c81
                      have H1 : (laws_FnExactFillBy.j1 kj15 l1 t352 (t368 != t352) a0_0 a0_1 l0_2 t347 t348 t349 t363 t364 t365) = some r := by rw [if_pos rfl] at H; exact H
                      clear H
                      have H := H1
                      clear H1
                      have H' := Aside0.mk H
                      clear H
                      have hnb82 := NB369_337.out
                      have hnc82 := NB337_369.out
                      have hnb83 := NB369_353.out
                      have hnc83 := NB353_369.out
                      have hnb84 := NB369_359.out
                      have hnc84 := NB359_369.out
                      have hcz85_0 : w78.cell? ⟨gb369, 0, none⟩ = some (.int .i64 t363) := (blk_cell BK369.out 0).trans rfl
                      have hcz85_1 : w78.cell? ⟨gb369, 1, none⟩ = some (.bool t364) := (blk_cell BK369.out 1).trans rfl
                      have hcz85_2 : w78.cell? ⟨gb369, 2, none⟩ = some (.slice Ao46 t365.length co46) := (blk_cell BK369.out 2).trans rfl
                      have hfz85_0 := blk_frozen BK369.out 0
                      have hfz85_1 := blk_frozen BK369.out 1
                      have hfz85_2 := blk_frozen BK369.out 2
                      have hnb86 := NB353_337.out
                      have hnc86 := NB337_353.out
                      have hnb87 := NB353_359.out
                      have hnc87 := NB359_353.out
                      have hcz88_0 : w78.cell? ⟨gb353, 0, none⟩ = some (.int .i64 t347) := (blk_cell BK353.out 0).trans rfl
                      have hcz88_1 : w78.cell? ⟨gb353, 1, none⟩ = some (.bool t348) := (blk_cell BK353.out 1).trans rfl
                      have hcz88_2 : w78.cell? ⟨gb353, 2, none⟩ = some (.slice Ao29 t349.length co29) := (blk_cell BK353.out 2).trans rfl
                      have hfz88_0 := blk_frozen BK353.out 0
                      have hfz88_1 := blk_frozen BK353.out 1
                      have hfz88_2 := blk_frozen BK353.out 2
                      go_wp2_with (first | (go_at_call 11; (with_reducible refine (laws_eqRow.calls kj15 t363 t364 _ _ t365 t347 t348 _ _ t349 true _ ?side1 ?side2 ?side3 ?side4 A80.out).mono ?_); (case side1 => repeat (first | exact (Kd.R_reads' HO_370002.out).2.2 | (with_reducible refine Kd.C_alloc ?_ _) | (with_reducible refine Kd.C_drewN ?_ _) | (with_reducible refine Kd.C_drew ?_))); (case side2 => exact (Kd.R_reads' HO_370002.out).2.1); (case side3 => repeat (first | exact (Kd.V_reads' HO_354002.out).2.2 | (with_reducible refine Kd.C_alloc ?_ _) | (with_reducible refine Kd.C_drewN ?_ _) | (with_reducible refine Kd.C_drew ?_))); (case side4 => exact (Kd.V_reads' HO_354002.out).2.1); rintro e w89 ⟨rfl, hb⟩; have n0_ := Aside0.mk (Kd.R_below (by (with_reducible repeat (first | apply Kd.R_alloc | apply Kd.R_drewN | apply Kd.R_drew)); exact HO_9.out) hb); have n1_ := Aside0.mk (Kd.V_below (by (with_reducible repeat (first | apply Kd.V_alloc | apply Kd.V_drewN | apply Kd.V_drew)); exact HO_354002.out) hb); have n2_ := Aside0.mk (Kd.R_below (by (with_reducible repeat (first | apply Kd.R_alloc | apply Kd.R_drewN | apply Kd.R_drew)); exact HO_360002.out) hb); have n3_ := Aside0.mk (Kd.R_below (by (with_reducible repeat (first | apply Kd.R_alloc | apply Kd.R_drewN | apply Kd.R_drew)); exact HO_370002.out) hb); have n4_ := Aside0.mk (Kd.R_below (by (with_reducible repeat (first | apply Kd.R_alloc | apply Kd.R_drewN | apply Kd.R_drew)); exact HO375.out) hb); have n5_ := Aside0.mk (Kd.R_below (by (with_reducible repeat (first | apply Kd.R_alloc | apply Kd.R_drewN | apply Kd.R_drew)); exact HO379.out) hb); have n6_ := Aside0.mk (blk_below (g := gb337) (o := .cells #[.int .i64 a0_0, .bool a0_1, .slice A0_2 l0_2.length c0_2] 24 (0, 0)) (by (with_reducible repeat (first | refine blk_drewN ?_ _ | refine blk_drew ?_ | refine blk_alloc ?_ _)); exact BK337.out) hb); have n7_ := Aside0.mk (blk_below (g := gb353) (o := .cells #[.int .i64 t347, .bool t348, .slice Ao29 t349.length co29] 26 (0, 0)) (by (with_reducible repeat (first | refine blk_drewN ?_ _ | refine blk_drew ?_ | refine blk_alloc ?_ _)); exact BK353.out) hb); have n8_ := Aside0.mk (blk_below (g := gb359) (o := .cells #[.int .i64 t354, .bool t355, .slice Ao36 t356.length co36] 26 (0, 0)) (by (with_reducible repeat (first | refine blk_drewN ?_ _ | refine blk_drew ?_ | refine blk_alloc ?_ _)); exact BK359.out) hb); have n9_ := Aside0.mk (blk_below (g := gb369) (o := .cells #[.int .i64 t363, .bool t364, .slice Ao46 t365.length co46] 26 (0, 0)) (by (with_reducible repeat (first | refine blk_drewN ?_ _ | refine blk_drew ?_ | refine blk_alloc ?_ _)); exact BK369.out) hb); have n10_ := Aside0.mk (below_step (by repeat (first | (with_reducible first | exact HB.out | apply below_alloc | apply pw_below_drewN | apply below_drew1 | refine below_set ?_ GE337.out | refine below_set ?_ GE353.out | refine below_set ?_ GE359.out | refine below_set ?_ GE369.out) | exact HB.out)) hb); clear HO_9; clear HO_354002; clear HO_360002; clear HO_370002; clear HO375; clear HO379; clear BK337; clear BK353; clear BK359; clear BK369; clear HB; have HO_9 := n0_; have HO_354002 := n1_; have HO_360002 := n2_; have HO_370002 := n3_; have HO375 := n4_; have HO379 := n5_; have BK337 := n6_; have BK353 := n7_; have BK359 := n8_; have BK369 := n9_; have HB := n10_; clear n0_ n1_ n2_ n3_ n4_ n5_ n6_ n7_ n8_ n9_ n10_; (try clear hb); (try clear hb2); (try clear hk); (try clear hi)))
                      go_meet
                      case rel => exact ⟨_, ((t368 != t352)), (by first | rfl | (simp; done) | (simp [*]; done)), H', ⟨by have := HJ15.out; first | omega | exact Nat.le_refl _⟩, ⟨by (with_reducible repeat (first | apply Kd.V_alloc | apply Kd.V_drewN | apply Kd.V_drew)); exact Kd.V_mono HO_354002.out (fun _ hk => ⟨hk.2.1, ⟨hk.2.2.1, ⟨hk.2.2.2.2.2.1, ⟨hk.2.2.2.2.2.2.1, ⟨hk.2.2.2.2.2.2.2.1, hk.2.2.2.2.2.2.2.2⟩⟩⟩⟩⟩)⟩, ⟨by (with_reducible repeat (first | apply Kd.R_alloc | apply Kd.R_drewN | apply Kd.R_drew)); exact Kd.R_mono HO_360002.out (fun _ hk => hk.2.1)⟩, ⟨by (with_reducible repeat (first | apply Kd.R_alloc | apply Kd.R_drewN | apply Kd.R_drew)); exact Kd.R_mono HO_370002.out (fun _ hk => hk.2.1)⟩, ⟨by (with_reducible repeat (first | refine blk_drewN ?_ _ | refine blk_drew ?_ | refine blk_alloc ?_ _)); exact BK337.out⟩, ⟨by (with_reducible repeat (first | refine blk_drewN ?_ _ | refine blk_drew ?_ | refine blk_alloc ?_ _)); exact BK353.out⟩, ⟨by (with_reducible repeat (first | refine blk_drewN ?_ _ | refine blk_drew ?_ | refine blk_alloc ?_ _)); exact BK359.out⟩, ⟨by (with_reducible repeat (first | refine blk_drewN ?_ _ | refine blk_drew ?_ | refine blk_alloc ?_ _)); exact BK369.out⟩, ⟨by repeat (first | (with_reducible first | exact HB.out | apply below_alloc | apply pw_below_drewN | apply below_drew1 | refine below_set ?_ GE337.out | refine below_set ?_ GE353.out | refine below_set ?_ GE359.out | refine below_set ?_ GE369.out) | exact HB.out)⟩⟩
                    · replace c81 := Bool.eq_false_iff.mpr c81
                      subst c81
                      have H1 : (laws_FnExactFillBy.j1 kj15 l1 t352 true a0_0 a0_1 l0_2 t347 t348 t349 t363 t364 t365) = some r := by rw [if_neg (show ¬ (false = true) by decide)] at H; exact H
                      clear H
                      have H := H1
                      clear H1
                      exact absurd ((laws_FnExactFillBy.j1_no _ _ _ _ _ _ _ _ _ _ _ _ _ H).trans HRV.out) (by decide)
                case rest =>
                  clear HC66
                  try clear c1
                  try clear c2
                  try clear p2
                  try clear c3
                  try clear c3b0
                  try clear c3b1
                  try clear c4
                  try clear c5
                  try clear c6
                  try clear c6b0
                  try clear c7
                  try clear c8
                  try clear c9
                  try clear c10
                  try clear c11
                  try clear c12
                  try clear c13
                  try clear c14
                  try clear c27
                  try clear c33
                  try clear c34
                  try clear c42
                  try clear c43
                  try clear c44
                  try clear c48
                  try clear c49
                  try clear c50
                  try clear c51
                  try clear c53
                  try clear c54
                  try clear c57
                  try clear c60
                  try clear c63
                  try clear c73
                  try clear c74
                  try clear c75
                  try clear c79
                  try clear c79b0
                  try clear c81
                  try clear c82
                  try clear c83
                  try clear c84
                  try clear c86
                  try clear c87
                  try clear hcz18_0
                  try clear hcz18_1
                  try clear hcz18_2
                  try clear hcz20_0
                  try clear hcz20_1
                  try clear hcz20_2
                  try clear hcz28_0
                  try clear hcz28_1
                  try clear hcz28_2
                  try clear hcz30_0
                  try clear hcz30_1
                  try clear hcz30_2
                  try clear hcz35_0
                  try clear hcz35_1
                  try clear hcz35_2
                  try clear hcz38_0
                  try clear hcz38_1
                  try clear hcz38_2
                  try clear hcz45_0
                  try clear hcz45_1
                  try clear hcz45_2
                  try clear hcz52_0
                  try clear hcz52_1
                  try clear hcz52_2
                  try clear hcz55_0
                  try clear hcz55_1
                  try clear hcz55_2
                  try clear hcz76_0
                  try clear hcz76_1
                  try clear hcz76_2
                  try clear hcz85_0
                  try clear hcz85_1
                  try clear hcz85_2
                  try clear hcz88_0
                  try clear hcz88_1
                  try clear hcz88_2
                  try clear hcz8_0
                  try clear hcz8_1
                  try clear hcz8_2
                  try clear hfz18_0
                  try clear hfz18_1
                  try clear hfz18_2
                  try clear hfz20_0
                  try clear hfz20_1
                  try clear hfz20_2
                  try clear hfz28_0
                  try clear hfz28_1
                  try clear hfz28_2
                  try clear hfz30_0
                  try clear hfz30_1
                  try clear hfz30_2
                  try clear hfz35_0
                  try clear hfz35_1
                  try clear hfz35_2
                  try clear hfz38_0
                  try clear hfz38_1
                  try clear hfz38_2
                  try clear hfz45_0
                  try clear hfz45_1
                  try clear hfz45_2
                  try clear hfz52_0
                  try clear hfz52_1
                  try clear hfz52_2
                  try clear hfz55_0
                  try clear hfz55_1
                  try clear hfz55_2
                  try clear hfz76_0
                  try clear hfz76_1
                  try clear hfz76_2
                  try clear hfz85_0
                  try clear hfz85_1
                  try clear hfz85_2
                  try clear hfz88_0
                  try clear hfz88_1
                  try clear hfz88_2
                  try clear hfz8_0
                  try clear hfz8_1
                  try clear hfz8_2
                  try clear p2
                  obtain ⟨kq, x80_65, rfl, HA, HJ65, HO_354002, HO_360002, HO_370002, BK337, BK353, BK359, BK369, HB⟩ := hcut
                  have hl360002_65 := (Kd.R_reads' HO_360002.out).1
                  rw [hl360002_65] at HO_360002
                  (try simp only [hl360002_65])
                  (try simp only [hl360002_65] at BK337)
                  (try simp only [hl360002_65] at BK353)
                  (try simp only [hl360002_65] at BK359)
                  (try simp only [hl360002_65] at BK369)
                  (try simp only [hl360002_65] at HO_354002)
                  (try simp only [hl360002_65] at HO_370002)
                  cases kq with
                  | zero => exact absurd HA.out (by simp [laws_FnExactFillBy.j1])
                  | succ kj65 =>
                    have H := HA.out
                    clear HA
                    simp only [laws_FnExactFillBy.j1] at H
                    by_cases c90 : x80_65 = true
                    · subst c90
                      have H1 : (some false) = some r := by rw [if_pos rfl] at H; exact H
                      clear H
                      have H := H1
                      clear H1
                      exact absurd ((Option.some.inj H).trans HRV.out) (by decide)
                    · replace c90 := Bool.eq_false_iff.mpr c90
                      subst c90
                      have H1 : ((laws_markRow.f kj65 t363 t364 t365 1).bind fun bt386 => ((laws_heldRow.f kj65 t363 t364 bt386.2 1).bind fun t388 => (if t388 < 0 then (some false) else (if t388 = bt386.1 then ((laws_toRow.f kj65 a0_0 a0_1 l0_2).bind fun bt389 => ((laws_toIntS.f kj65 l1).bind fun t394 => ((impl_FillBy.f kj65 bt389.1 bt389.2.1 bt389.2.2 t394).bind fun bt397 => ((laws_eqRow.f kj65 bt397.1 bt397.2.1 bt397.2.2.1 t347 t348 t349).bind fun t404 => (if t404 = true then (laws_FnExactFillBy.j2 kj65 bt386.1 (bt397.2.2.2 != t352) t363 t364 bt386.2) else (laws_FnExactFillBy.j2 kj65 bt386.1 true t363 t364 bt386.2)))))) else (some false))))) = some r := by rw [if_neg (show ¬ (false = true) by decide)] at H; exact H
                      clear H
                      have H := H1
                      clear H1
                      replace H := Option.bind_eq_some_iff.mp H
                      obtain ⟨⟨t386, t387⟩, A910, H⟩ := H
                      replace H : ((laws_heldRow.f kj65 t363 t364 t387 1).bind fun t388 => (if t388 < 0 then (some false) else (if t388 = t386 then ((laws_toRow.f kj65 a0_0 a0_1 l0_2).bind fun bt389 => ((laws_toIntS.f kj65 l1).bind fun t394 => ((impl_FillBy.f kj65 bt389.1 bt389.2.1 bt389.2.2 t394).bind fun bt397 => ((laws_eqRow.f kj65 bt397.1 bt397.2.1 bt397.2.2.1 t347 t348 t349).bind fun t404 => (if t404 = true then (laws_FnExactFillBy.j2 kj65 t386 (bt397.2.2.2 != t352) t363 t364 t387) else (laws_FnExactFillBy.j2 kj65 t386 true t363 t364 t387)))))) else (some false)))) = some r := H
                      have A91 := Aside0.mk A910
                      clear A910
                      replace H := Option.bind_eq_some_iff.mp H
                      obtain ⟨t388, A920, H⟩ := H
                      replace H : (if t388 < 0 then (some false) else (if t388 = t386 then ((laws_toRow.f kj65 a0_0 a0_1 l0_2).bind fun bt389 => ((laws_toIntS.f kj65 l1).bind fun t394 => ((impl_FillBy.f kj65 bt389.1 bt389.2.1 bt389.2.2 t394).bind fun bt397 => ((laws_eqRow.f kj65 bt397.1 bt397.2.1 bt397.2.2.1 t347 t348 t349).bind fun t404 => (if t404 = true then (laws_FnExactFillBy.j2 kj65 t386 (bt397.2.2.2 != t352) t363 t364 t387) else (laws_FnExactFillBy.j2 kj65 t386 true t363 t364 t387)))))) else (some false))) = some r := H
                      have A92 := Aside0.mk A920
                      clear A920
                      by_cases c93 : t388 < 0
                      · rw [if_pos c93] at H
                        have c93b0 : decide (t388 < 0) = true := decide_eq_true c93
                        clear c93
                        exact absurd ((Option.some.inj H).trans HRV.out) (by decide)
                      · rw [if_neg c93] at H
                        have c93b0 : decide (t388 < 0) = false := decide_eq_false c93
                        clear c93
                        by_cases c94 : t388 = t386
                        · rw [if_pos c94] at H
                          have c94b0 : (t388 == t386) = true := beq_iff_eq.mpr c94
                          have c94b1 : (t388 != t386) = false := bne_eq_false_iff_eq.mpr c94
                          clear c94
                          replace H := Option.bind_eq_some_iff.mp H
                          obtain ⟨⟨t389, t390, t391⟩, A950, H⟩ := H
                          replace H : ((laws_toIntS.f kj65 l1).bind fun t394 => ((impl_FillBy.f kj65 t389 t390 t391 t394).bind fun bt397 => ((laws_eqRow.f kj65 bt397.1 bt397.2.1 bt397.2.2.1 t347 t348 t349).bind fun t404 => (if t404 = true then (laws_FnExactFillBy.j2 kj65 t386 (bt397.2.2.2 != t352) t363 t364 t387) else (laws_FnExactFillBy.j2 kj65 t386 true t363 t364 t387))))) = some r := H
                          have A95 := Aside0.mk A950
                          clear A950
                          replace H := Option.bind_eq_some_iff.mp H
                          obtain ⟨t394, A960, H⟩ := H
                          replace H : ((impl_FillBy.f kj65 t389 t390 t391 t394).bind fun bt397 => ((laws_eqRow.f kj65 bt397.1 bt397.2.1 bt397.2.2.1 t347 t348 t349).bind fun t404 => (if t404 = true then (laws_FnExactFillBy.j2 kj65 t386 (bt397.2.2.2 != t352) t363 t364 t387) else (laws_FnExactFillBy.j2 kj65 t386 true t363 t364 t387)))) = some r := H
                          have A96 := Aside0.mk A960
                          clear A960
                          replace H := Option.bind_eq_some_iff.mp H
                          obtain ⟨⟨t397, t398, t399, t402⟩, A970, H⟩ := H
                          replace H : ((laws_eqRow.f kj65 t397 t398 t399 t347 t348 t349).bind fun t404 => (if t404 = true then (laws_FnExactFillBy.j2 kj65 t386 (t402 != t352) t363 t364 t387) else (laws_FnExactFillBy.j2 kj65 t386 true t363 t364 t387))) = some r := H
                          have A97 := Aside0.mk A970
                          clear A970
                          have HC98 := Aside0.mk H
                          clear H
                          have hnb99 := NB369_337.out
                          have hnc99 := NB337_369.out
                          have hnb100 := NB369_353.out
                          have hnc100 := NB353_369.out
                          have hnb101 := NB369_359.out
                          have hnc101 := NB359_369.out
                          have hcz102_0 : wc.cell? ⟨gb369, 0, none⟩ = some (.int .i64 t363) := (blk_cell BK369.out 0).trans rfl
                          have hcz102_1 : wc.cell? ⟨gb369, 1, none⟩ = some (.bool t364) := (blk_cell BK369.out 1).trans rfl
                          have hcz102_2 : wc.cell? ⟨gb369, 2, none⟩ = some (.slice Ao46 t365.length co46) := (blk_cell BK369.out 2).trans rfl
                          have hfz102_0 := blk_frozen BK369.out 0
                          have hfz102_1 := blk_frozen BK369.out 1
                          have hfz102_2 := blk_frozen BK369.out 2
                          go_upto_region 31 with (first | ((with_reducible refine gate_callee (f := 13) rfl ?_); refine goesL_ (some 83) rfl rfl Tryd.func13 (by kernel_rfl) rfl #[.agg #[.int .i64 t363, .bool t364, .slice Ao46 t365.length co46], .int .i64 1] rfl (by (try simp only [List.map_toArray, List.map_cons, List.map_nil]); first | done | rfl | (simp only [List.length_drop, List.length_take]; rfl)) ?_; (with_reducible refine (laws_markRow.calls kj65 t363 t364 (fun k_ => some k_ = (.slice Ao46 t365.length co46 : Value).ownBlock) (.slice Ao46 t365.length co46) t365 1 t386 t387 w _ ?side1 ?side2 A91.out).mono ?_); (case side1 => repeat (first | (with_reducible first | exact HB.out | apply below_alloc | apply pw_below_drewN | apply below_drew1 | refine below_set ?_ GE337.out | refine below_set ?_ GE353.out | refine below_set ?_ GE359.out | refine below_set ?_ GE369.out) | exact HB.out)); (case side2 => exact Kd.R_tight rfl HO_370002.out); rintro e w103 ⟨rfl, hy0, hb, hkp⟩; refine ⟨_, rfl, ?_⟩; have n0_ := Aside0.mk (Kd.V_mono (ok' := fun k_ => some k_ ≠ (.slice Ao36 t382.length co36 : Value).ownBlock ∧ some k_ ≠ (.slice Ao46 t365.length co46 : Value).ownBlock ∧ k_ ≠ gb337 ∧ k_ ≠ gb353 ∧ k_ ≠ gb359 ∧ k_ ≠ gb369) (Kd.V_keptB (HO_354002.out) hkp (fun k_ hk_ hs_ => (hk_.2.1) hs_)) (fun k_ hk_ => ⟨hk_.1.1, hk_.1.2.1, hk_.1.2.2.1, hk_.1.2.2.2.1, hk_.1.2.2.2.2.1, hk_.1.2.2.2.2.2⟩)); have n1_ := Aside0.mk (Kd.R_mono (ok' := fun k_ => some k_ ≠ (.slice Ao46 t365.length co46 : Value).ownBlock) (Kd.R_keptB (HO_360002.out) hkp (fun k_ hk_ hs_ => (hk_) hs_)) (fun k_ hk_ => hk_.1)); have n2_ := Aside0.mk (Kd.R_reok rfl hy0 (fun k_ e_ => HO_370002.out.1 k_ e_)); have n3_ := Aside0.mk (blk_kept (by (with_reducible repeat (first | refine blk_drewN ?_ _ | refine blk_drew ?_ | refine blk_alloc ?_ _)); exact BK337.out) hkp (fun hs_ => (fun e_ => (Kd.R_ne HO_370002.out BK337.out (by decide)) e_) hs_)); have n4_ := Aside0.mk (blk_kept (by (with_reducible repeat (first | refine blk_drewN ?_ _ | refine blk_drew ?_ | refine blk_alloc ?_ _)); exact BK353.out) hkp (fun hs_ => (fun e_ => (Kd.R_ne HO_370002.out BK353.out (by decide)) e_) hs_)); have n5_ := Aside0.mk (blk_kept (by (with_reducible repeat (first | refine blk_drewN ?_ _ | refine blk_drew ?_ | refine blk_alloc ?_ _)); exact BK359.out) hkp (fun hs_ => (fun e_ => (Kd.R_ne HO_370002.out BK359.out (by decide)) e_) hs_)); have n6_ := Aside0.mk (blk_kept (by (with_reducible repeat (first | refine blk_drewN ?_ _ | refine blk_drew ?_ | refine blk_alloc ?_ _)); exact BK369.out) hkp (fun hs_ => (fun e_ => (Kd.R_ne HO_370002.out BK369.out (by decide)) e_) hs_)); have n7_ := Aside0.mk (hb); clear HO_354002; clear HO_360002; clear HO_370002; clear BK337; clear BK353; clear BK359; clear BK369; clear HB; have HO_354002 := n0_; have HO_360002 := n1_; have HO_370002 := n2_; have BK337 := n3_; have BK353 := n4_; have BK359 := n5_; have BK369 := n6_; have HB := n7_; clear n0_ n1_ n2_ n3_ n4_ n5_ n6_ n7_; (try clear hb); (try clear hkp); (try clear hy0); have hcz104_0 : w103.cell? ⟨gb369, 0, none⟩ = some (.int .i64 t363) := (blk_cell BK369.out 0).trans rfl; have hcz104_1 : w103.cell? ⟨gb369, 1, none⟩ = some (.bool t364) := (blk_cell BK369.out 1).trans rfl; have hcz104_2 : w103.cell? ⟨gb369, 2, none⟩ = some (.slice Ao46 t365.length co46) := (blk_cell BK369.out 2).trans rfl; have hfz104_0 := blk_frozen BK369.out 0; have hfz104_1 := blk_frozen BK369.out 1; have hfz104_2 := blk_frozen BK369.out 2) | ((with_reducible refine gate_callee (f := 15) rfl ?_); refine goesL_ (some 86) rfl rfl Tryd.func15 (by kernel_rfl) rfl #[.agg #[.int .i64 t363, .bool t364, .slice Ao46 t387.length co46], .int .i64 1] rfl (by (try simp only [List.map_toArray, List.map_cons, List.map_nil]); first | done | (rw [show t387.length = t365.length from (Kd.R_reads' HO_370002.out).1.symm] <;> rfl) | rfl | (simp only [List.length_drop, List.length_take]; rfl)) ?_; (with_reducible refine (laws_heldRow.calls kj65 t363 t364 _ _ t387 1 t388 _ ?side1 ?side2 A92.out).mono ?_); (case side1 => repeat (first | exact (Kd.R_reads' HO_370002.out).2.2 | (with_reducible refine Kd.C_alloc ?_ _) | (with_reducible refine Kd.C_drewN ?_ _) | (with_reducible refine Kd.C_drew ?_))); (case side2 => rw [show t387.length = t365.length from (Kd.R_reads' HO_370002.out).1.symm]; exact (Kd.R_reads' HO_370002.out).2.1); rintro e w105 ⟨rfl, hb⟩; refine ⟨_, rfl, ?_⟩; have n0_ := Aside0.mk (Kd.V_below (by (with_reducible repeat (first | apply Kd.V_alloc | apply Kd.V_drewN | apply Kd.V_drew)); exact HO_354002.out) hb); have n1_ := Aside0.mk (Kd.R_below (by (with_reducible repeat (first | apply Kd.R_alloc | apply Kd.R_drewN | apply Kd.R_drew)); exact HO_360002.out) hb); have n2_ := Aside0.mk (Kd.R_below (by (with_reducible repeat (first | apply Kd.R_alloc | apply Kd.R_drewN | apply Kd.R_drew)); exact HO_370002.out) hb); have n3_ := Aside0.mk (blk_below (g := gb337) (o := .cells #[.int .i64 a0_0, .bool a0_1, .slice A0_2 l0_2.length c0_2] 24 (0, 0)) (by (with_reducible repeat (first | refine blk_drewN ?_ _ | refine blk_drew ?_ | refine blk_alloc ?_ _)); exact BK337.out) hb); have n4_ := Aside0.mk (blk_below (g := gb353) (o := .cells #[.int .i64 t347, .bool t348, .slice Ao29 t349.length co29] 26 (0, 0)) (by (with_reducible repeat (first | refine blk_drewN ?_ _ | refine blk_drew ?_ | refine blk_alloc ?_ _)); exact BK353.out) hb); have n5_ := Aside0.mk (blk_below (g := gb359) (o := .cells #[.int .i64 t354, .bool t355, .slice Ao36 t382.length co36] 26 (0, 0)) (by (with_reducible repeat (first | refine blk_drewN ?_ _ | refine blk_drew ?_ | refine blk_alloc ?_ _)); exact BK359.out) hb); have n6_ := Aside0.mk (blk_below (g := gb369) (o := .cells #[.int .i64 t363, .bool t364, .slice Ao46 t365.length co46] 26 (0, 0)) (by (with_reducible repeat (first | refine blk_drewN ?_ _ | refine blk_drew ?_ | refine blk_alloc ?_ _)); exact BK369.out) hb); have n7_ := Aside0.mk (below_step (by repeat (first | (with_reducible first | exact HB.out | apply below_alloc | apply pw_below_drewN | apply below_drew1 | refine below_set ?_ GE337.out | refine below_set ?_ GE353.out | refine below_set ?_ GE359.out | refine below_set ?_ GE369.out) | exact HB.out)) hb); clear HO_354002; clear HO_360002; clear HO_370002; clear BK337; clear BK353; clear BK359; clear BK369; clear HB; have HO_354002 := n0_; have HO_360002 := n1_; have HO_370002 := n2_; have BK337 := n3_; have BK353 := n4_; have BK359 := n5_; have BK369 := n6_; have HB := n7_; clear n0_ n1_ n2_ n3_ n4_ n5_ n6_ n7_; (try clear hb); (try clear hb2); (try clear hk); (try clear hi); have hnb106 := NB337_353.out; have hnc106 := NB353_337.out; have hnb107 := NB337_359.out; have hnc107 := NB359_337.out; have hcz108_0 : w105.cell? ⟨gb337, 0, none⟩ = some (.int .i64 a0_0) := (blk_cell BK337.out 0).trans rfl; have hcz108_1 : w105.cell? ⟨gb337, 1, none⟩ = some (.bool a0_1) := (blk_cell BK337.out 1).trans rfl; have hcz108_2 : w105.cell? ⟨gb337, 2, none⟩ = some (.slice A0_2 l0_2.length c0_2) := (blk_cell BK337.out 2).trans rfl; have hfz108_0 := blk_frozen BK337.out 0; have hfz108_1 := blk_frozen BK337.out 1; have hfz108_2 := blk_frozen BK337.out 2) | ((with_reducible refine gate_callee (f := 8) rfl ?_); refine goesL_ (some 94) rfl rfl Tryd.func8 (by kernel_rfl) rfl #[.agg #[.int .i64 a0_0, .bool a0_1, .slice A0_2 l0_2.length c0_2]] rfl (by (try simp only [List.map_toArray, List.map_cons, List.map_nil]); first | done | rfl | (simp only [List.length_drop, List.length_take]; rfl)) ?_; (with_reducible refine (laws_toRow.calls kj65 a0_0 a0_1 _ _ l0_2 t389 t390 t391 _ ?side1 ?side2 A95.out).mono ?_); (case side1 => repeat (first | exact (Kd.C_below HR0_2.out HB.out) | (with_reducible refine Kd.C_alloc ?_ _) | (with_reducible refine Kd.C_drewN ?_ _) | (with_reducible refine Kd.C_drew ?_))); (case side2 => exact HC0_2.out); rintro e w109 ⟨v392, rfl, ho0, hb⟩; refine ⟨_, rfl, ?_⟩; have n0_ := Aside0.mk (Kd.V_elder' (by (with_reducible repeat (first | apply Kd.V_alloc | apply Kd.V_drewN | apply Kd.V_drew)); exact HO_354002.out) (Kd.R_base ho0) hb); have n1_ := Aside0.mk (Kd.R_elder' (by (with_reducible repeat (first | apply Kd.R_alloc | apply Kd.R_drewN | apply Kd.R_drew)); exact HO_360002.out) (Kd.R_base ho0) hb); have n2_ := Aside0.mk (Kd.R_elder' (by (with_reducible repeat (first | apply Kd.R_alloc | apply Kd.R_drewN | apply Kd.R_drew)); exact HO_370002.out) (Kd.R_base ho0) hb); have n3_ := Aside0.mk (Kd.R_lower (Kd.R_new' (Kd.R_new' ho0 (Kd.R_lt (by (with_reducible repeat (first | apply Kd.R_alloc | apply Kd.R_drewN | apply Kd.R_drew)); exact HO_360002.out))) (Kd.R_lt (by (with_reducible repeat (first | apply Kd.R_alloc | apply Kd.R_drewN | apply Kd.R_drew)); exact HO_370002.out))) (below_size (by repeat (first | (with_reducible first | exact HB.out | apply below_alloc | apply pw_below_drewN | apply below_drew1 | refine below_set ?_ GE337.out | refine below_set ?_ GE353.out | refine below_set ?_ GE359.out | refine below_set ?_ GE369.out) | exact HB.out)))); have n4_ := Aside0.mk (blk_below (g := gb337) (o := .cells #[.int .i64 a0_0, .bool a0_1, .slice A0_2 l0_2.length c0_2] 24 (0, 0)) (by (with_reducible repeat (first | refine blk_drewN ?_ _ | refine blk_drew ?_ | refine blk_alloc ?_ _)); exact BK337.out) hb); have n5_ := Aside0.mk (blk_below (g := gb353) (o := .cells #[.int .i64 t347, .bool t348, .slice Ao29 t349.length co29] 26 (0, 0)) (by (with_reducible repeat (first | refine blk_drewN ?_ _ | refine blk_drew ?_ | refine blk_alloc ?_ _)); exact BK353.out) hb); have n6_ := Aside0.mk (blk_below (g := gb359) (o := .cells #[.int .i64 t354, .bool t355, .slice Ao36 t382.length co36] 26 (0, 0)) (by (with_reducible repeat (first | refine blk_drewN ?_ _ | refine blk_drew ?_ | refine blk_alloc ?_ _)); exact BK359.out) hb); have n7_ := Aside0.mk (blk_below (g := gb369) (o := .cells #[.int .i64 t363, .bool t364, .slice Ao46 t365.length co46] 26 (0, 0)) (by (with_reducible repeat (first | refine blk_drewN ?_ _ | refine blk_drew ?_ | refine blk_alloc ?_ _)); exact BK369.out) hb); have n8_ := Aside0.mk (below_step (by repeat (first | (with_reducible first | exact HB.out | apply below_alloc | apply pw_below_drewN | apply below_drew1 | refine below_set ?_ GE337.out | refine below_set ?_ GE353.out | refine below_set ?_ GE359.out | refine below_set ?_ GE369.out) | exact HB.out)) hb); clear HO_354002; clear HO_360002; clear HO_370002; clear BK337; clear BK353; clear BK359; clear BK369; clear HB; have HO_354002 := n0_; have HO_360002 := n1_; have HO_370002 := n2_; have HO393 := n3_; have BK337 := n4_; have BK353 := n5_; have BK359 := n6_; have BK369 := n7_; have HB := n8_; clear n0_ n1_ n2_ n3_ n4_ n5_ n6_ n7_ n8_; (try clear hb); (try clear hb2); (try clear hk); (try clear hi); (try clear ho0)) | ((with_reducible refine gate_callee (f := 9) rfl ?_); refine goesL_ (some 96) rfl rfl Tryd.func9 (by kernel_rfl) rfl #[.slice A1 l1.length c1] rfl (by (try simp only [List.map_toArray, List.map_cons, List.map_nil]); first | done | rfl | (simp only [List.length_drop, List.length_take]; rfl)) ?_; (with_reducible refine (laws_toIntS.calls kj65 _ _ l1 t394 _ ?side1 ?side2 A96.out).mono ?_); (case side1 => repeat (first | exact (Kd.C_below HR1.out HB.out) | (with_reducible refine Kd.C_alloc ?_ _) | (with_reducible refine Kd.C_drewN ?_ _) | (with_reducible refine Kd.C_drew ?_))); (case side2 => exact HC1.out); rintro e w110 ⟨v395, rfl, ho0, hb⟩; refine ⟨_, rfl, ?_⟩; have n0_ := Aside0.mk (Kd.V_elder' (by (with_reducible repeat (first | apply Kd.V_alloc | apply Kd.V_drewN | apply Kd.V_drew)); exact HO_354002.out) (Kd.R_base ho0) hb); have n1_ := Aside0.mk (Kd.R_elder' (by (with_reducible repeat (first | apply Kd.R_alloc | apply Kd.R_drewN | apply Kd.R_drew)); exact HO_360002.out) (Kd.R_base ho0) hb); have n2_ := Aside0.mk (Kd.R_elder' (by (with_reducible repeat (first | apply Kd.R_alloc | apply Kd.R_drewN | apply Kd.R_drew)); exact HO_370002.out) (Kd.R_base ho0) hb); have n3_ := Aside0.mk (Kd.R_elder' (by (with_reducible repeat (first | apply Kd.R_alloc | apply Kd.R_drewN | apply Kd.R_drew)); exact HO393.out) (Kd.R_base ho0) hb); have n4_ := Aside0.mk (Kd.R_lower (Kd.R_new' (Kd.R_new' (Kd.R_new' ho0 (Kd.R_lt (by (with_reducible repeat (first | apply Kd.R_alloc | apply Kd.R_drewN | apply Kd.R_drew)); exact HO_360002.out))) (Kd.R_lt (by (with_reducible repeat (first | apply Kd.R_alloc | apply Kd.R_drewN | apply Kd.R_drew)); exact HO_370002.out))) (Kd.R_lt (by (with_reducible repeat (first | apply Kd.R_alloc | apply Kd.R_drewN | apply Kd.R_drew)); exact HO393.out))) (below_size (by repeat (first | (with_reducible first | exact HB.out | apply below_alloc | apply pw_below_drewN | apply below_drew1 | refine below_set ?_ GE337.out | refine below_set ?_ GE353.out | refine below_set ?_ GE359.out | refine below_set ?_ GE369.out) | exact HB.out)))); have n5_ := Aside0.mk (blk_below (g := gb337) (o := .cells #[.int .i64 a0_0, .bool a0_1, .slice A0_2 l0_2.length c0_2] 24 (0, 0)) (by (with_reducible repeat (first | refine blk_drewN ?_ _ | refine blk_drew ?_ | refine blk_alloc ?_ _)); exact BK337.out) hb); have n6_ := Aside0.mk (blk_below (g := gb353) (o := .cells #[.int .i64 t347, .bool t348, .slice Ao29 t349.length co29] 26 (0, 0)) (by (with_reducible repeat (first | refine blk_drewN ?_ _ | refine blk_drew ?_ | refine blk_alloc ?_ _)); exact BK353.out) hb); have n7_ := Aside0.mk (blk_below (g := gb359) (o := .cells #[.int .i64 t354, .bool t355, .slice Ao36 t382.length co36] 26 (0, 0)) (by (with_reducible repeat (first | refine blk_drewN ?_ _ | refine blk_drew ?_ | refine blk_alloc ?_ _)); exact BK359.out) hb); have n8_ := Aside0.mk (blk_below (g := gb369) (o := .cells #[.int .i64 t363, .bool t364, .slice Ao46 t365.length co46] 26 (0, 0)) (by (with_reducible repeat (first | refine blk_drewN ?_ _ | refine blk_drew ?_ | refine blk_alloc ?_ _)); exact BK369.out) hb); have n9_ := Aside0.mk (below_step (by repeat (first | (with_reducible first | exact HB.out | apply below_alloc | apply pw_below_drewN | apply below_drew1 | refine below_set ?_ GE337.out | refine below_set ?_ GE353.out | refine below_set ?_ GE359.out | refine below_set ?_ GE369.out) | exact HB.out)) hb); clear HO_354002; clear HO_360002; clear HO_370002; clear HO393; clear BK337; clear BK353; clear BK359; clear BK369; clear HB; have HO_354002 := n0_; have HO_360002 := n1_; have HO_370002 := n2_; have HO393 := n3_; have HO396 := n4_; have BK337 := n5_; have BK353 := n6_; have BK359 := n7_; have BK369 := n8_; have HB := n9_; clear n0_ n1_ n2_ n3_ n4_ n5_ n6_ n7_ n8_ n9_; (try clear hb); (try clear hb2); (try clear hk); (try clear hi); (try clear ho0); obtain ⟨Ao111, co111, eo111⟩ := Kd.R_slice HO393.out; subst eo111; obtain ⟨Ao112, co112, eo112⟩ := Kd.R_slice HO396.out; subst eo112) | ((with_reducible refine gate_callee (f := 10) rfl ?_); refine goesL_ (some 97) rfl rfl Tryd.func10 (by kernel_rfl) rfl #[.agg #[.int .i64 t389, .bool t390, .slice Ao111 t391.length co111], .slice Ao112 t394.length co112] rfl (by (try simp only [List.map_toArray, List.map_cons, List.map_nil]); first | done | rfl | (simp only [List.length_drop, List.length_take]; rfl)) ?_; (with_reducible refine (impl_FillBy.calls kj65 t389 t390 _ _ t391 _ _ t394 t397 t398 t399 t402 _ ?side1 ?side2 ?side3 ?side4 ?side5 A97.out).mono ?_); (case side1 => repeat (first | exact (Kd.R_reads' HO393.out).2.2 | (with_reducible refine Kd.C_alloc ?_ _) | (with_reducible refine Kd.C_drewN ?_ _) | (with_reducible refine Kd.C_drew ?_))); (case side2 => exact (Kd.R_reads' HO393.out).2.1); (case side3 => repeat (first | exact (Kd.R_reads' HO396.out).2.2 | (with_reducible refine Kd.C_alloc ?_ _) | (with_reducible refine Kd.C_drewN ?_ _) | (with_reducible refine Kd.C_drew ?_))); (case side4 => exact (Kd.R_reads' HO396.out).2.1); (case side5 => exact GT.below HRT.out (by repeat (first | (with_reducible first | exact HB.out | apply below_alloc | apply pw_below_drewN | apply below_drew1 | refine below_set ?_ GE337.out | refine below_set ?_ GE353.out | refine below_set ?_ GE359.out | refine below_set ?_ GE369.out) | exact HB.out))); rintro e w113 ⟨v400, rfl, ho0, hb⟩; refine ⟨_, rfl, ?_⟩; have n0_ := Aside0.mk (Kd.V_elder' (by (with_reducible repeat (first | apply Kd.V_alloc | apply Kd.V_drewN | apply Kd.V_drew)); exact HO_354002.out) (Kd.R_base ho0) hb); have n1_ := Aside0.mk (Kd.R_elder' (by (with_reducible repeat (first | apply Kd.R_alloc | apply Kd.R_drewN | apply Kd.R_drew)); exact HO_360002.out) (Kd.R_base ho0) hb); have n2_ := Aside0.mk (Kd.R_elder' (by (with_reducible repeat (first | apply Kd.R_alloc | apply Kd.R_drewN | apply Kd.R_drew)); exact HO_370002.out) (Kd.R_base ho0) hb); have n3_ := Aside0.mk (Kd.R_elder' (by (with_reducible repeat (first | apply Kd.R_alloc | apply Kd.R_drewN | apply Kd.R_drew)); exact HO393.out) (Kd.R_base ho0) hb); have n4_ := Aside0.mk (Kd.R_elder' (by (with_reducible repeat (first | apply Kd.R_alloc | apply Kd.R_drewN | apply Kd.R_drew)); exact HO396.out) (Kd.R_base ho0) hb); have n5_ := Aside0.mk (Kd.R_lower (Kd.R_new' (Kd.R_new' (Kd.R_new' (Kd.R_new' ho0 (Kd.R_lt (by (with_reducible repeat (first | apply Kd.R_alloc | apply Kd.R_drewN | apply Kd.R_drew)); exact HO_360002.out))) (Kd.R_lt (by (with_reducible repeat (first | apply Kd.R_alloc | apply Kd.R_drewN | apply Kd.R_drew)); exact HO_370002.out))) (Kd.R_lt (by (with_reducible repeat (first | apply Kd.R_alloc | apply Kd.R_drewN | apply Kd.R_drew)); exact HO393.out))) (Kd.R_lt (by (with_reducible repeat (first | apply Kd.R_alloc | apply Kd.R_drewN | apply Kd.R_drew)); exact HO396.out))) (below_size (by repeat (first | (with_reducible first | exact HB.out | apply below_alloc | apply pw_below_drewN | apply below_drew1 | refine below_set ?_ GE337.out | refine below_set ?_ GE353.out | refine below_set ?_ GE359.out | refine below_set ?_ GE369.out) | exact HB.out)))); have n6_ := Aside0.mk (blk_below (g := gb337) (o := .cells #[.int .i64 a0_0, .bool a0_1, .slice A0_2 l0_2.length c0_2] 24 (0, 0)) (by (with_reducible repeat (first | refine blk_drewN ?_ _ | refine blk_drew ?_ | refine blk_alloc ?_ _)); exact BK337.out) hb); have n7_ := Aside0.mk (blk_below (g := gb353) (o := .cells #[.int .i64 t347, .bool t348, .slice Ao29 t349.length co29] 26 (0, 0)) (by (with_reducible repeat (first | refine blk_drewN ?_ _ | refine blk_drew ?_ | refine blk_alloc ?_ _)); exact BK353.out) hb); have n8_ := Aside0.mk (blk_below (g := gb359) (o := .cells #[.int .i64 t354, .bool t355, .slice Ao36 t382.length co36] 26 (0, 0)) (by (with_reducible repeat (first | refine blk_drewN ?_ _ | refine blk_drew ?_ | refine blk_alloc ?_ _)); exact BK359.out) hb); have n9_ := Aside0.mk (blk_below (g := gb369) (o := .cells #[.int .i64 t363, .bool t364, .slice Ao46 t365.length co46] 26 (0, 0)) (by (with_reducible repeat (first | refine blk_drewN ?_ _ | refine blk_drew ?_ | refine blk_alloc ?_ _)); exact BK369.out) hb); have n10_ := Aside0.mk (below_step (by repeat (first | (with_reducible first | exact HB.out | apply below_alloc | apply pw_below_drewN | apply below_drew1 | refine below_set ?_ GE337.out | refine below_set ?_ GE353.out | refine below_set ?_ GE359.out | refine below_set ?_ GE369.out) | exact HB.out)) hb); clear HO_354002; clear HO_360002; clear HO_370002; clear HO393; clear HO396; clear BK337; clear BK353; clear BK359; clear BK369; clear HB; have HO_354002 := n0_; have HO_360002 := n1_; have HO_370002 := n2_; have HO393 := n3_; have HO396 := n4_; have HO401 := n5_; have BK337 := n6_; have BK353 := n7_; have BK359 := n8_; have BK369 := n9_; have HB := n10_; clear n0_ n1_ n2_ n3_ n4_ n5_ n6_ n7_ n8_ n9_ n10_; (try clear hb); (try clear hb2); (try clear hk); (try clear hi); (try clear ho0)) | ((with_reducible refine gate_dst (N := 15) rfl ?_); refine box_event ?hg (N := 15) ?hd (cs := #[.int .i64 0, .bool false, .slice none 0 0]) (t := 26) ?hr ?_; (case hd => rfl); (case hg => rfl); (case hr => first | (go_simp; done) | (go_simp; rfl)); intro gb403 hg w114 hbox hb; have n0_ := Aside0.mk (Kd.V_below (Kd.V_elderB (by (with_reducible repeat (first | apply Kd.V_alloc | apply Kd.V_drewN | apply Kd.V_drew)); exact HO_354002.out) gb403 (Nat.le_of_eq hg.symm)) hb); have n1_ := Aside0.mk (Kd.R_below (by (with_reducible repeat (first | apply Kd.R_alloc | apply Kd.R_drewN | apply Kd.R_drew)); exact HO_360002.out) hb); have n2_ := Aside0.mk (Kd.R_below (by (with_reducible repeat (first | apply Kd.R_alloc | apply Kd.R_drewN | apply Kd.R_drew)); exact HO_370002.out) hb); have n3_ := Aside0.mk (Kd.R_below (by (with_reducible repeat (first | apply Kd.R_alloc | apply Kd.R_drewN | apply Kd.R_drew)); exact HO393.out) hb); have n4_ := Aside0.mk (Kd.R_below (by (with_reducible repeat (first | apply Kd.R_alloc | apply Kd.R_drewN | apply Kd.R_drew)); exact HO396.out) hb); have n5_ := Aside0.mk (Kd.R_below (by (with_reducible repeat (first | apply Kd.R_alloc | apply Kd.R_drewN | apply Kd.R_drew)); exact HO401.out) hb); have n6_ := Aside0.mk (blk_below (g := gb337) (o := .cells #[.int .i64 a0_0, .bool a0_1, .slice A0_2 l0_2.length c0_2] 24 (0, 0)) (by (with_reducible repeat (first | refine blk_drewN ?_ _ | refine blk_drew ?_ | refine blk_alloc ?_ _)); exact BK337.out) hb); have n7_ := Aside0.mk (blk_below (g := gb353) (o := .cells #[.int .i64 t347, .bool t348, .slice Ao29 t349.length co29] 26 (0, 0)) (by (with_reducible repeat (first | refine blk_drewN ?_ _ | refine blk_drew ?_ | refine blk_alloc ?_ _)); exact BK353.out) hb); have n8_ := Aside0.mk (blk_below (g := gb359) (o := .cells #[.int .i64 t354, .bool t355, .slice Ao36 t382.length co36] 26 (0, 0)) (by (with_reducible repeat (first | refine blk_drewN ?_ _ | refine blk_drew ?_ | refine blk_alloc ?_ _)); exact BK359.out) hb); have n9_ := Aside0.mk (blk_below (g := gb369) (o := .cells #[.int .i64 t363, .bool t364, .slice Ao46 t365.length co46] 26 (0, 0)) (by (with_reducible repeat (first | refine blk_drewN ?_ _ | refine blk_drew ?_ | refine blk_alloc ?_ _)); exact BK369.out) hb); have n10_ := Aside0.mk (below_step (by repeat (first | (with_reducible first | exact HB.out | apply below_alloc | apply pw_below_drewN | apply below_drew1 | refine below_set ?_ GE337.out | refine below_set ?_ GE353.out | refine below_set ?_ GE359.out | refine below_set ?_ GE369.out) | exact HB.out)) hb); have n11_ := Aside0.mk (hbox); have n12_ := Aside0.mk ((by rw [hg]; exact (below_size (by repeat (first | (with_reducible first | exact HB.out | apply below_alloc | apply pw_below_drewN | apply below_drew1 | refine below_set ?_ GE337.out | refine below_set ?_ GE353.out | refine below_set ?_ GE359.out | refine below_set ?_ GE369.out) | exact HB.out))) : w.heap.size ≤ gb403)); have n13_ := Aside0.mk ((by rw [hg]; exact (below_size (by repeat (first | (with_reducible first | exact HB.out | apply below_alloc | apply pw_below_drewN | apply below_drew1 | refine below_set ?_ GE337.out | refine below_set ?_ GE353.out | refine below_set ?_ GE359.out | refine below_set ?_ GE369.out) | exact HB.out))) : w.heap.size ≤ gb403)); have n14_ := Aside0.mk ((by rw [hg]; exact Nat.ne_of_lt (blk_lt (g := gb337) (o := .cells #[.int .i64 a0_0, .bool a0_1, .slice A0_2 l0_2.length c0_2] 24 (0, 0)) (by (with_reducible repeat (first | refine blk_drewN ?_ _ | refine blk_drew ?_ | refine blk_alloc ?_ _)); exact BK337.out)) : gb337 ≠ gb403)); have n15_ := Aside0.mk ((by rw [hg]; exact Nat.ne_of_gt (blk_lt (g := gb337) (o := .cells #[.int .i64 a0_0, .bool a0_1, .slice A0_2 l0_2.length c0_2] 24 (0, 0)) (by (with_reducible repeat (first | refine blk_drewN ?_ _ | refine blk_drew ?_ | refine blk_alloc ?_ _)); exact BK337.out)) : gb403 ≠ gb337)); have n16_ := Aside0.mk ((by rw [hg]; exact Nat.ne_of_lt (blk_lt (g := gb353) (o := .cells #[.int .i64 t347, .bool t348, .slice Ao29 t349.length co29] 26 (0, 0)) (by (with_reducible repeat (first | refine blk_drewN ?_ _ | refine blk_drew ?_ | refine blk_alloc ?_ _)); exact BK353.out)) : gb353 ≠ gb403)); have n17_ := Aside0.mk ((by rw [hg]; exact Nat.ne_of_gt (blk_lt (g := gb353) (o := .cells #[.int .i64 t347, .bool t348, .slice Ao29 t349.length co29] 26 (0, 0)) (by (with_reducible repeat (first | refine blk_drewN ?_ _ | refine blk_drew ?_ | refine blk_alloc ?_ _)); exact BK353.out)) : gb403 ≠ gb353)); have n18_ := Aside0.mk ((by rw [hg]; exact Nat.ne_of_lt (blk_lt (g := gb359) (o := .cells #[.int .i64 t354, .bool t355, .slice Ao36 t382.length co36] 26 (0, 0)) (by (with_reducible repeat (first | refine blk_drewN ?_ _ | refine blk_drew ?_ | refine blk_alloc ?_ _)); exact BK359.out)) : gb359 ≠ gb403)); have n19_ := Aside0.mk ((by rw [hg]; exact Nat.ne_of_gt (blk_lt (g := gb359) (o := .cells #[.int .i64 t354, .bool t355, .slice Ao36 t382.length co36] 26 (0, 0)) (by (with_reducible repeat (first | refine blk_drewN ?_ _ | refine blk_drew ?_ | refine blk_alloc ?_ _)); exact BK359.out)) : gb403 ≠ gb359)); have n20_ := Aside0.mk ((by rw [hg]; exact Nat.ne_of_lt (blk_lt (g := gb369) (o := .cells #[.int .i64 t363, .bool t364, .slice Ao46 t365.length co46] 26 (0, 0)) (by (with_reducible repeat (first | refine blk_drewN ?_ _ | refine blk_drew ?_ | refine blk_alloc ?_ _)); exact BK369.out)) : gb369 ≠ gb403)); have n21_ := Aside0.mk ((by rw [hg]; exact Nat.ne_of_gt (blk_lt (g := gb369) (o := .cells #[.int .i64 t363, .bool t364, .slice Ao46 t365.length co46] 26 (0, 0)) (by (with_reducible repeat (first | refine blk_drewN ?_ _ | refine blk_drew ?_ | refine blk_alloc ?_ _)); exact BK369.out)) : gb403 ≠ gb369)); clear HO_354002; clear HO_360002; clear HO_370002; clear HO393; clear HO396; clear HO401; clear BK337; clear BK353; clear BK359; clear BK369; clear HB; have HO_354002 := n0_; have HO_360002 := n1_; have HO_370002 := n2_; have HO393 := n3_; have HO396 := n4_; have HO401 := n5_; have BK337 := n6_; have BK353 := n7_; have BK359 := n8_; have BK369 := n9_; have HB := n10_; have BK403 := n11_; have GW403 := n12_; have GE403 := n13_; have NB337_403 := n14_; have NB403_337 := n15_; have NB353_403 := n16_; have NB403_353 := n17_; have NB359_403 := n18_; have NB403_359 := n19_; have NB369_403 := n20_; have NB403_369 := n21_; clear n0_ n1_ n2_ n3_ n4_ n5_ n6_ n7_ n8_ n9_ n10_ n11_ n12_ n13_ n14_ n15_ n16_ n17_ n18_ n19_ n20_ n21_; clear hb hbox hg; have hnb115 := NB403_337.out; have hnc115 := NB337_403.out; have hnb116 := NB403_353.out; have hnc116 := NB353_403.out; have hnb117 := NB403_359.out; have hnc117 := NB359_403.out; have hnb118 := NB403_369.out; have hnc118 := NB369_403.out; have hcz119_0 : w114.cell? ⟨gb403, 0, none⟩ = some (.int .i64 0) := (blk_cell BK403.out 0).trans rfl; have hcz119_1 : w114.cell? ⟨gb403, 1, none⟩ = some (.bool false) := (blk_cell BK403.out 1).trans rfl; have hcz119_2 : w114.cell? ⟨gb403, 2, none⟩ = some (.slice none 0 0) := (blk_cell BK403.out 2).trans rfl; have hfz119_0 := blk_frozen BK403.out 0; have hfz119_1 := blk_frozen BK403.out 1; have hfz119_2 := blk_frozen BK403.out 2; obtain ⟨Ao120, co120, eo120⟩ := Kd.R_slice HO401.out; subst eo120))
                          (try simp only [Act.put, List.setIfInBounds_toArray, List.set_cons_zero, List.set_cons_succ])
                          go_cut [108] (fun v108 wc => ∃ (kq : Nat) (x108_97 : Bool), v108 = .bool x108_97 ∧ Aside0 (laws_FnExactFillBy.j2 kq t386 x108_97 t363 t364 t387 = some r) ∧ Aside0 (kq ≤ kj65) ∧ Aside0 (Kd.V (Kd.int .i64) 3 wc w.heap.size (fun k_ => some k_ ≠ ((.slice Ao36 t382.length co36) : Value).ownBlock ∧ some k_ ≠ ((.slice Ao46 t365.length co46) : Value).ownBlock ∧ some k_ ≠ ((.slice Ao120 t399.length co120) : Value).ownBlock ∧ k_ ≠ gb337 ∧ k_ ≠ gb353 ∧ k_ ≠ gb359 ∧ k_ ≠ gb369 ∧ k_ ≠ gb403) (.slice Ao29 t349.length co29) t349) ∧ Aside0 (Kd.R (Kd.int .i64) 3 wc w.heap.size (fun k_ => some k_ ≠ ((.slice Ao46 t365.length co46) : Value).ownBlock ∧ some k_ ≠ ((.slice Ao120 t399.length co120) : Value).ownBlock) (.slice Ao36 t382.length co36) t382) ∧ Aside0 (Kd.R (Kd.int .i64) 3 wc w.heap.size (fun k_ => some k_ ≠ ((.slice Ao36 t382.length co36) : Value).ownBlock ∧ some k_ ≠ ((.slice Ao120 t399.length co120) : Value).ownBlock) (.slice Ao46 t365.length co46) t387) ∧ Aside0 (Kd.R (Kd.int .i64) 3 wc w.heap.size (fun k_ => some k_ ≠ ((.slice Ao36 t382.length co36) : Value).ownBlock ∧ some k_ ≠ ((.slice Ao46 t365.length co46) : Value).ownBlock) (.slice Ao120 t399.length co120) t399) ∧ Aside0 (wc.heap[gb337]? = some (.cells #[.int .i64 a0_0, .bool a0_1, (.slice A0_2 l0_2.length c0_2)] 24 (0, 0))) ∧ Aside0 (wc.heap[gb353]? = some (.cells #[.int .i64 t347, .bool t348, (.slice Ao29 t349.length co29)] 26 (0, 0))) ∧ Aside0 (wc.heap[gb359]? = some (.cells #[.int .i64 t354, .bool t355, (.slice Ao36 t382.length co36)] 26 (0, 0))) ∧ Aside0 (wc.heap[gb369]? = some (.cells #[.int .i64 t363, .bool t364, (.slice Ao46 t365.length co46)] 26 (0, 0))) ∧ Aside0 (wc.heap[gb403]? = some (.cells #[.int .i64 t397, .bool t398, (.slice Ao120 t399.length co120)] 26 (0, 0))) ∧ Aside0 (Below w.heap.size w wc))
                          case first =>
                            have H := HC98.out
                            clear HC98
                            replace H := Option.bind_eq_some_iff.mp H
                            obtain ⟨t404, A1210, H⟩ := H
                            replace H : (if t404 = true then (laws_FnExactFillBy.j2 kj65 t386 (t402 != t352) t363 t364 t387) else (laws_FnExactFillBy.j2 kj65 t386 true t363 t364 t387)) = some r := H
                            have A121 := Aside0.mk A1210
                            clear A1210
                            by_cases c122 : t404 = true
                            · subst c122
                              have H1 : (laws_FnExactFillBy.j2 kj65 t386 (t402 != t352) t363 t364 t387) = some r := by rw [if_pos rfl] at H; exact H
                              clear H
                              have H := H1
                              clear H1
                              have H' := Aside0.mk H
                              clear H
                              have hnb123 := NB403_337.out
                              have hnc123 := NB337_403.out
                              have hnb124 := NB403_353.out
                              have hnc124 := NB353_403.out
                              have hnb125 := NB403_359.out
                              have hnc125 := NB359_403.out
                              have hnb126 := NB403_369.out
                              have hnc126 := NB369_403.out
                              have hcz127_0 : w114.cell? ⟨gb403, 0, none⟩ = some (.int .i64 0) := (blk_cell BK403.out 0).trans rfl
                              have hcz127_1 : w114.cell? ⟨gb403, 1, none⟩ = some (.bool false) := (blk_cell BK403.out 1).trans rfl
                              have hcz127_2 : w114.cell? ⟨gb403, 2, none⟩ = some (.slice none 0 0) := (blk_cell BK403.out 2).trans rfl
                              have hfz127_0 := blk_frozen BK403.out 0
                              have hfz127_1 := blk_frozen BK403.out 1
                              have hfz127_2 := blk_frozen BK403.out 2
                              have hnb128 := NB353_337.out
                              have hnc128 := NB337_353.out
                              have hnb129 := NB353_359.out
                              have hnc129 := NB359_353.out
                              have hnb130 := NB353_369.out
                              have hnc130 := NB369_353.out
                              have hcz131_0 : w114.cell? ⟨gb353, 0, none⟩ = some (.int .i64 t347) := (blk_cell BK353.out 0).trans rfl
                              have hcz131_1 : w114.cell? ⟨gb353, 1, none⟩ = some (.bool t348) := (blk_cell BK353.out 1).trans rfl
                              have hcz131_2 : w114.cell? ⟨gb353, 2, none⟩ = some (.slice Ao29 t349.length co29) := (blk_cell BK353.out 2).trans rfl
                              have hfz131_0 := blk_frozen BK353.out 0
                              have hfz131_1 := blk_frozen BK353.out 1
                              have hfz131_2 := blk_frozen BK353.out 2
                              go_wp2_with (first | ((with_reducible refine gate_callee (f := 11) rfl ?_); refine goesL_ (some 102) rfl rfl Tryd.func11 (by kernel_rfl) rfl #[.agg #[.int .i64 t397, .bool t398, .slice Ao120 t399.length co120], .agg #[.int .i64 t347, .bool t348, .slice Ao29 t349.length co29]] rfl (by (try simp only [List.map_toArray, List.map_cons, List.map_nil]); first | done | rfl | (simp only [List.length_drop, List.length_take]; rfl)) ?_; (with_reducible refine (laws_eqRow.calls kj65 t397 t398 _ _ t399 t347 t348 _ _ t349 true _ ?side1 ?side2 ?side3 ?side4 A121.out).mono ?_); (case side1 => refine (Kd.R_reads' (e := 3) (base := w.heap.size) (ok := fun k_ => ((((True ∧ some k_ ≠ (.slice Ao36 t382.length co36 : Value).ownBlock) ∧ some k_ ≠ (.slice Ao46 t365.length co46 : Value).ownBlock) ∧ some k_ ≠ (.slice Ao111 t391.length co111 : Value).ownBlock) ∧ some k_ ≠ (.slice Ao112 t394.length co112 : Value).ownBlock)) (n := t399.length) (c := co120) ?_).2.2; exact (by (with_reducible repeat (first | apply Kd.R_alloc | apply Kd.R_drewN | apply Kd.R_drew)); exact (Kd.R_mono (Kd.R_far (p := ⟨gb403, 2, none⟩) (Kd.R_far (p := ⟨gb403, 1, none⟩) (Kd.R_far (p := ⟨gb403, 0, none⟩) (Kd.R_types HO401.out BK403.out (by decide)) (fun _ hk => hk.2) (.int .i64 t397)) (fun _ hk => hk.2) (.bool t398)) (fun _ hk => hk.2) (.slice Ao120 t399.length co120)) (fun _ h_ => h_.1)))); (case side2 => exact (Kd.R_reads' HO401.out).2.1); (case side3 => refine (Kd.V_reads' (e := 3) (base := w.heap.size) (ok := fun k_ => (((((some k_ ≠ (.slice Ao36 t382.length co36 : Value).ownBlock ∧ (some k_ ≠ (.slice Ao46 t365.length co46 : Value).ownBlock ∧ (k_ ≠ gb337 ∧ (k_ ≠ gb353 ∧ (k_ ≠ gb359 ∧ k_ ≠ gb369))))) ∧ some k_ ≠ (.slice Ao111 t391.length co111 : Value).ownBlock) ∧ some k_ ≠ (.slice Ao112 t394.length co112 : Value).ownBlock) ∧ some k_ ≠ (.slice Ao120 t399.length co120 : Value).ownBlock) ∧ k_ ≠ gb403)) (n := t349.length) (c := co29) ?_).2.2; exact (by (with_reducible repeat (first | apply Kd.V_alloc | apply Kd.V_drewN | apply Kd.V_drew)); exact (Kd.V_mono (Kd.V_far (p := ⟨gb403, 2, none⟩) (Kd.V_far (p := ⟨gb403, 1, none⟩) (Kd.V_far (p := ⟨gb403, 0, none⟩) (Kd.V_mono HO_354002.out (fun k_ hk => (⟨hk, hk.2⟩ : _ ∧ k_ ≠ gb403))) (fun _ hk => hk.2) (.int .i64 t397)) (fun _ hk => hk.2) (.bool t398)) (fun _ hk => hk.2) (.slice Ao120 t399.length co120)) (fun _ h_ => h_.1)))); (case side4 => exact (Kd.V_reads' HO_354002.out).2.1); rintro e w132 ⟨rfl, hb⟩; refine ⟨_, rfl, ?_⟩; have n0_ := Aside0.mk (Kd.V_below (by (with_reducible repeat (first | apply Kd.V_alloc | apply Kd.V_drewN | apply Kd.V_drew)); exact (Kd.V_mono (Kd.V_far (p := ⟨gb403, 2, none⟩) (Kd.V_far (p := ⟨gb403, 1, none⟩) (Kd.V_far (p := ⟨gb403, 0, none⟩) (Kd.V_mono HO_354002.out (fun k_ hk => (⟨hk, hk.2⟩ : _ ∧ k_ ≠ gb403))) (fun _ hk => hk.2) (.int .i64 t397)) (fun _ hk => hk.2) (.bool t398)) (fun _ hk => hk.2) (.slice Ao120 t399.length co120)) (fun _ h_ => h_.1))) hb); have n1_ := Aside0.mk (Kd.R_below (by (with_reducible repeat (first | apply Kd.R_alloc | apply Kd.R_drewN | apply Kd.R_drew)); exact (Kd.R_mono (Kd.R_far (p := ⟨gb403, 2, none⟩) (Kd.R_far (p := ⟨gb403, 1, none⟩) (Kd.R_far (p := ⟨gb403, 0, none⟩) (Kd.R_types HO_360002.out BK403.out (by decide)) (fun _ hk => hk.2) (.int .i64 t397)) (fun _ hk => hk.2) (.bool t398)) (fun _ hk => hk.2) (.slice Ao120 t399.length co120)) (fun _ h_ => h_.1))) hb); have n2_ := Aside0.mk (Kd.R_below (by (with_reducible repeat (first | apply Kd.R_alloc | apply Kd.R_drewN | apply Kd.R_drew)); exact (Kd.R_mono (Kd.R_far (p := ⟨gb403, 2, none⟩) (Kd.R_far (p := ⟨gb403, 1, none⟩) (Kd.R_far (p := ⟨gb403, 0, none⟩) (Kd.R_types HO_370002.out BK403.out (by decide)) (fun _ hk => hk.2) (.int .i64 t397)) (fun _ hk => hk.2) (.bool t398)) (fun _ hk => hk.2) (.slice Ao120 t399.length co120)) (fun _ h_ => h_.1))) hb); have n3_ := Aside0.mk (Kd.R_below (by (with_reducible repeat (first | apply Kd.R_alloc | apply Kd.R_drewN | apply Kd.R_drew)); exact (Kd.R_mono (Kd.R_far (p := ⟨gb403, 2, none⟩) (Kd.R_far (p := ⟨gb403, 1, none⟩) (Kd.R_far (p := ⟨gb403, 0, none⟩) (Kd.R_types HO393.out BK403.out (by decide)) (fun _ hk => hk.2) (.int .i64 t397)) (fun _ hk => hk.2) (.bool t398)) (fun _ hk => hk.2) (.slice Ao120 t399.length co120)) (fun _ h_ => h_.1))) hb); have n4_ := Aside0.mk (Kd.R_below (by (with_reducible repeat (first | apply Kd.R_alloc | apply Kd.R_drewN | apply Kd.R_drew)); exact (Kd.R_mono (Kd.R_far (p := ⟨gb403, 2, none⟩) (Kd.R_far (p := ⟨gb403, 1, none⟩) (Kd.R_far (p := ⟨gb403, 0, none⟩) (Kd.R_types HO396.out BK403.out (by decide)) (fun _ hk => hk.2) (.int .i64 t397)) (fun _ hk => hk.2) (.bool t398)) (fun _ hk => hk.2) (.slice Ao120 t399.length co120)) (fun _ h_ => h_.1))) hb); have n5_ := Aside0.mk (Kd.R_below (by (with_reducible repeat (first | apply Kd.R_alloc | apply Kd.R_drewN | apply Kd.R_drew)); exact (Kd.R_mono (Kd.R_far (p := ⟨gb403, 2, none⟩) (Kd.R_far (p := ⟨gb403, 1, none⟩) (Kd.R_far (p := ⟨gb403, 0, none⟩) (Kd.R_types HO401.out BK403.out (by decide)) (fun _ hk => hk.2) (.int .i64 t397)) (fun _ hk => hk.2) (.bool t398)) (fun _ hk => hk.2) (.slice Ao120 t399.length co120)) (fun _ h_ => h_.1))) hb); have n6_ := Aside0.mk (blk_below (g := gb337) (o := .cells #[.int .i64 a0_0, .bool a0_1, .slice A0_2 l0_2.length c0_2] 24 (0, 0)) (by (with_reducible repeat (first | refine blk_drewN ?_ _ | refine blk_drew ?_ | refine blk_alloc ?_ _)); refine blk_far ?_ NB337_403.out _; (with_reducible repeat (first | refine blk_drewN ?_ _ | refine blk_drew ?_ | refine blk_alloc ?_ _)); refine blk_far ?_ NB337_403.out _; (with_reducible repeat (first | refine blk_drewN ?_ _ | refine blk_drew ?_ | refine blk_alloc ?_ _)); refine blk_far ?_ NB337_403.out _; (with_reducible repeat (first | refine blk_drewN ?_ _ | refine blk_drew ?_ | refine blk_alloc ?_ _)); exact BK337.out) hb); have n7_ := Aside0.mk (blk_below (g := gb353) (o := .cells #[.int .i64 t347, .bool t348, .slice Ao29 t349.length co29] 26 (0, 0)) (by (with_reducible repeat (first | refine blk_drewN ?_ _ | refine blk_drew ?_ | refine blk_alloc ?_ _)); refine blk_far ?_ NB353_403.out _; (with_reducible repeat (first | refine blk_drewN ?_ _ | refine blk_drew ?_ | refine blk_alloc ?_ _)); refine blk_far ?_ NB353_403.out _; (with_reducible repeat (first | refine blk_drewN ?_ _ | refine blk_drew ?_ | refine blk_alloc ?_ _)); refine blk_far ?_ NB353_403.out _; (with_reducible repeat (first | refine blk_drewN ?_ _ | refine blk_drew ?_ | refine blk_alloc ?_ _)); exact BK353.out) hb); have n8_ := Aside0.mk (blk_below (g := gb359) (o := .cells #[.int .i64 t354, .bool t355, .slice Ao36 t382.length co36] 26 (0, 0)) (by (with_reducible repeat (first | refine blk_drewN ?_ _ | refine blk_drew ?_ | refine blk_alloc ?_ _)); refine blk_far ?_ NB359_403.out _; (with_reducible repeat (first | refine blk_drewN ?_ _ | refine blk_drew ?_ | refine blk_alloc ?_ _)); refine blk_far ?_ NB359_403.out _; (with_reducible repeat (first | refine blk_drewN ?_ _ | refine blk_drew ?_ | refine blk_alloc ?_ _)); refine blk_far ?_ NB359_403.out _; (with_reducible repeat (first | refine blk_drewN ?_ _ | refine blk_drew ?_ | refine blk_alloc ?_ _)); exact BK359.out) hb); have n9_ := Aside0.mk (blk_below (g := gb369) (o := .cells #[.int .i64 t363, .bool t364, .slice Ao46 t365.length co46] 26 (0, 0)) (by (with_reducible repeat (first | refine blk_drewN ?_ _ | refine blk_drew ?_ | refine blk_alloc ?_ _)); refine blk_far ?_ NB369_403.out _; (with_reducible repeat (first | refine blk_drewN ?_ _ | refine blk_drew ?_ | refine blk_alloc ?_ _)); refine blk_far ?_ NB369_403.out _; (with_reducible repeat (first | refine blk_drewN ?_ _ | refine blk_drew ?_ | refine blk_alloc ?_ _)); refine blk_far ?_ NB369_403.out _; (with_reducible repeat (first | refine blk_drewN ?_ _ | refine blk_drew ?_ | refine blk_alloc ?_ _)); exact BK369.out) hb); have n10_ := Aside0.mk (blk_below (g := gb403) (o := .cells #[.int .i64 t397, .bool t398, .slice Ao120 t399.length co120] 26 (0, 0)) (by (with_reducible repeat (first | refine blk_drewN ?_ _ | refine blk_drew ?_ | refine blk_alloc ?_ _)); refine blk_put (cs := #[.int .i64 t397, .bool t398, .slice none 0 0]) ?_ 2 _ rfl; (with_reducible repeat (first | refine blk_drewN ?_ _ | refine blk_drew ?_ | refine blk_alloc ?_ _)); refine blk_put (cs := #[.int .i64 t397, .bool false, .slice none 0 0]) ?_ 1 _ rfl; (with_reducible repeat (first | refine blk_drewN ?_ _ | refine blk_drew ?_ | refine blk_alloc ?_ _)); refine blk_put (cs := #[.int .i64 0, .bool false, .slice none 0 0]) ?_ 0 _ rfl; (with_reducible repeat (first | refine blk_drewN ?_ _ | refine blk_drew ?_ | refine blk_alloc ?_ _)); exact BK403.out) hb); have n11_ := Aside0.mk (below_step (by repeat (first | (with_reducible first | exact HB.out | apply below_alloc | apply pw_below_drewN | apply below_drew1 | refine below_set ?_ GE337.out | refine below_set ?_ GE353.out | refine below_set ?_ GE359.out | refine below_set ?_ GE369.out | refine below_set ?_ GE403.out) | exact HB.out)) hb); clear HO_354002; clear HO_360002; clear HO_370002; clear HO393; clear HO396; clear HO401; clear BK337; clear BK353; clear BK359; clear BK369; clear BK403; clear HB; have HO_354002 := n0_; have HO_360002 := n1_; have HO_370002 := n2_; have HO393 := n3_; have HO396 := n4_; have HO401 := n5_; have BK337 := n6_; have BK353 := n7_; have BK359 := n8_; have BK369 := n9_; have BK403 := n10_; have HB := n11_; clear n0_ n1_ n2_ n3_ n4_ n5_ n6_ n7_ n8_ n9_ n10_ n11_; (try clear hb); (try clear hb2); (try clear hk); (try clear hi)))
                              go_meet
                              case rel => exact ⟨_, ((t402 != t352)), (by first | rfl | (simp; done) | (simp [*]; done)), H', ⟨by have := HJ15.out; have := HJ65.out; first | omega | exact Nat.le_refl _⟩, ⟨by (try simp only [hl360002_65]); (with_reducible repeat (first | apply Kd.V_alloc | apply Kd.V_drewN | apply Kd.V_drew)); exact Kd.V_mono HO_354002.out (fun _ hk => ⟨hk.1.1.1.1.1, ⟨hk.1.1.1.1.2.1, ⟨hk.1.2, ⟨hk.1.1.1.1.2.2.1, ⟨hk.1.1.1.1.2.2.2.1, ⟨hk.1.1.1.1.2.2.2.2.1, ⟨hk.1.1.1.1.2.2.2.2.2, hk.2⟩⟩⟩⟩⟩⟩⟩)⟩, ⟨by (try simp only [hl360002_65]); (with_reducible repeat (first | apply Kd.R_alloc | apply Kd.R_drewN | apply Kd.R_drew)); exact Kd.R_mono HO_360002.out (fun _ hk => ⟨hk.1.1.1, hk.2⟩)⟩, ⟨by (try simp only [hl360002_65]); (with_reducible repeat (first | apply Kd.R_alloc | apply Kd.R_drewN | apply Kd.R_drew)); exact Kd.R_mono HO_370002.out (fun _ hk => ⟨hk.1.1.1, hk.2⟩)⟩, ⟨by (try simp only [hl360002_65]); (with_reducible repeat (first | apply Kd.R_alloc | apply Kd.R_drewN | apply Kd.R_drew)); exact Kd.R_mono HO401.out (fun _ hk => ⟨hk.1.1.1.2, hk.1.1.2⟩)⟩, ⟨by (try simp only [hl360002_65]); (with_reducible repeat (first | refine blk_drewN ?_ _ | refine blk_drew ?_ | refine blk_alloc ?_ _)); exact BK337.out⟩, ⟨by (try simp only [hl360002_65]); (with_reducible repeat (first | refine blk_drewN ?_ _ | refine blk_drew ?_ | refine blk_alloc ?_ _)); exact BK353.out⟩, ⟨by (try simp only [hl360002_65]); (with_reducible repeat (first | refine blk_drewN ?_ _ | refine blk_drew ?_ | refine blk_alloc ?_ _)); exact BK359.out⟩, ⟨by (try simp only [hl360002_65]); (with_reducible repeat (first | refine blk_drewN ?_ _ | refine blk_drew ?_ | refine blk_alloc ?_ _)); exact BK369.out⟩, ⟨by (try simp only [hl360002_65]); (with_reducible repeat (first | refine blk_drewN ?_ _ | refine blk_drew ?_ | refine blk_alloc ?_ _)); exact BK403.out⟩, ⟨by repeat (first | (with_reducible first | exact HB.out | apply below_alloc | apply pw_below_drewN | apply below_drew1 | refine below_set ?_ GE337.out | refine below_set ?_ GE353.out | refine below_set ?_ GE359.out | refine below_set ?_ GE369.out | refine below_set ?_ GE403.out) | exact HB.out)⟩⟩
                            · replace c122 := Bool.eq_false_iff.mpr c122
                              subst c122
                              have H1 : (laws_FnExactFillBy.j2 kj65 t386 true t363 t364 t387) = some r := by rw [if_neg (show ¬ (false = true) by decide)] at H; exact H
                              clear H
                              have H := H1
                              clear H1
                              exact absurd ((laws_FnExactFillBy.j2_no _ _ _ _ _ _ H).trans HRV.out) (by decide)
                          case rest =>
                            clear HC98
                            try clear c1
                            try clear c2
                            try clear p2
                            try clear c3
                            try clear c3b0
                            try clear c3b1
                            try clear c4
                            try clear c5
                            try clear c6
                            try clear c6b0
                            try clear c7
                            try clear c8
                            try clear c9
                            try clear c10
                            try clear c11
                            try clear c12
                            try clear c13
                            try clear c14
                            try clear c15
                            try clear c27
                            try clear c33
                            try clear c34
                            try clear c42
                            try clear c43
                            try clear c44
                            try clear c48
                            try clear c49
                            try clear c50
                            try clear c51
                            try clear c53
                            try clear c54
                            try clear c57
                            try clear c60
                            try clear c63
                            try clear c73
                            try clear c74
                            try clear c75
                            try clear c79
                            try clear c79b0
                            try clear c81
                            try clear c82
                            try clear c83
                            try clear c84
                            try clear c86
                            try clear c87
                            try clear c90
                            try clear c93
                            try clear c93b0
                            try clear c94
                            try clear c94b0
                            try clear c94b1
                            try clear c99
                            try clear c100
                            try clear c101
                            try clear c106
                            try clear c107
                            try clear c115
                            try clear c116
                            try clear c117
                            try clear c118
                            try clear c122
                            try clear c123
                            try clear c124
                            try clear c125
                            try clear c126
                            try clear c128
                            try clear c129
                            try clear c130
                            try clear hcz102_0
                            try clear hcz102_1
                            try clear hcz102_2
                            try clear hcz104_0
                            try clear hcz104_1
                            try clear hcz104_2
                            try clear hcz108_0
                            try clear hcz108_1
                            try clear hcz108_2
                            try clear hcz119_0
                            try clear hcz119_1
                            try clear hcz119_2
                            try clear hcz127_0
                            try clear hcz127_1
                            try clear hcz127_2
                            try clear hcz131_0
                            try clear hcz131_1
                            try clear hcz131_2
                            try clear hcz18_0
                            try clear hcz18_1
                            try clear hcz18_2
                            try clear hcz20_0
                            try clear hcz20_1
                            try clear hcz20_2
                            try clear hcz28_0
                            try clear hcz28_1
                            try clear hcz28_2
                            try clear hcz30_0
                            try clear hcz30_1
                            try clear hcz30_2
                            try clear hcz35_0
                            try clear hcz35_1
                            try clear hcz35_2
                            try clear hcz38_0
                            try clear hcz38_1
                            try clear hcz38_2
                            try clear hcz45_0
                            try clear hcz45_1
                            try clear hcz45_2
                            try clear hcz52_0
                            try clear hcz52_1
                            try clear hcz52_2
                            try clear hcz55_0
                            try clear hcz55_1
                            try clear hcz55_2
                            try clear hcz76_0
                            try clear hcz76_1
                            try clear hcz76_2
                            try clear hcz85_0
                            try clear hcz85_1
                            try clear hcz85_2
                            try clear hcz88_0
                            try clear hcz88_1
                            try clear hcz88_2
                            try clear hcz8_0
                            try clear hcz8_1
                            try clear hcz8_2
                            try clear hfz102_0
                            try clear hfz102_1
                            try clear hfz102_2
                            try clear hfz104_0
                            try clear hfz104_1
                            try clear hfz104_2
                            try clear hfz108_0
                            try clear hfz108_1
                            try clear hfz108_2
                            try clear hfz119_0
                            try clear hfz119_1
                            try clear hfz119_2
                            try clear hfz127_0
                            try clear hfz127_1
                            try clear hfz127_2
                            try clear hfz131_0
                            try clear hfz131_1
                            try clear hfz131_2
                            try clear hfz18_0
                            try clear hfz18_1
                            try clear hfz18_2
                            try clear hfz20_0
                            try clear hfz20_1
                            try clear hfz20_2
                            try clear hfz28_0
                            try clear hfz28_1
                            try clear hfz28_2
                            try clear hfz30_0
                            try clear hfz30_1
                            try clear hfz30_2
                            try clear hfz35_0
                            try clear hfz35_1
                            try clear hfz35_2
                            try clear hfz38_0
                            try clear hfz38_1
                            try clear hfz38_2
                            try clear hfz45_0
                            try clear hfz45_1
                            try clear hfz45_2
                            try clear hfz52_0
                            try clear hfz52_1
                            try clear hfz52_2
                            try clear hfz55_0
                            try clear hfz55_1
                            try clear hfz55_2
                            try clear hfz76_0
                            try clear hfz76_1
                            try clear hfz76_2
                            try clear hfz85_0
                            try clear hfz85_1
                            try clear hfz85_2
                            try clear hfz88_0
                            try clear hfz88_1
                            try clear hfz88_2
                            try clear hfz8_0
                            try clear hfz8_1
                            try clear hfz8_2
                            try clear p2
                            obtain ⟨kq, x108_97, rfl, HA, HJ97, HO_354002, HO_360002, HO_370002, HO_404002, BK337, BK353, BK359, BK369, BK403, HB⟩ := hcut
                            have hl370002_97 := (Kd.R_reads' HO_370002.out).1
                            rw [hl370002_97] at HO_370002
                            (try simp only [hl370002_97])
                            (try simp only [hl370002_97] at BK337)
                            (try simp only [hl370002_97] at BK353)
                            (try simp only [hl370002_97] at BK359)
                            (try simp only [hl370002_97] at BK369)
                            (try simp only [hl370002_97] at BK403)
                            (try simp only [hl370002_97] at HO_354002)
                            (try simp only [hl370002_97] at HO_360002)
                            (try simp only [hl370002_97] at HO_404002)
                            cases kq with
                            | zero => exact absurd HA.out (by simp [laws_FnExactFillBy.j2])
                            | succ kj97 =>
                              have H := HA.out
                              clear HA
                              simp only [laws_FnExactFillBy.j2] at H
                              by_cases c133 : x108_97 = true
                              · subst c133
                                have H1 : (some false) = some r := by rw [if_pos rfl] at H; exact H
                                clear H
                                have H := H1
                                clear H1
                                exact absurd ((Option.some.inj H).trans HRV.out) (by decide)
                              · replace c133 := Bool.eq_false_iff.mpr c133
                                subst c133
                                have H1 : ((laws_heldRow.f kj97 t363 t364 t387 1).bind fun t405 => (if t405 < 0 then (some false) else (if t405 = t386 then (some true) else (some false)))) = some r := by rw [if_neg (show ¬ (false = true) by decide)] at H; exact H
                                clear H
                                have H := H1
                                clear H1
                                replace H := Option.bind_eq_some_iff.mp H
                                obtain ⟨t405, A1340, H⟩ := H
                                replace H : (if t405 < 0 then (some false) else (if t405 = t386 then (some true) else (some false))) = some r := H
                                have A134 := Aside0.mk A1340
                                clear A1340
                                by_cases c135 : t405 < 0
                                · rw [if_pos c135] at H
                                  have c135b0 : decide (t405 < 0) = true := decide_eq_true c135
                                  clear c135
                                  exact absurd ((Option.some.inj H).trans HRV.out) (by decide)
                                · rw [if_neg c135] at H
                                  have c135b0 : decide (t405 < 0) = false := decide_eq_false c135
                                  clear c135
                                  by_cases c136 : t405 = t386
                                  · rw [if_pos c136] at H
                                    have c136b0 : (t405 == t386) = true := beq_iff_eq.mpr c136
                                    have c136b1 : (t405 != t386) = false := bne_eq_false_iff_eq.mpr c136
                                    clear c136
                                    obtain rfl := Option.some.inj H
                                    have hnb137 := NB369_337.out
                                    have hnc137 := NB337_369.out
                                    have hnb138 := NB369_353.out
                                    have hnc138 := NB353_369.out
                                    have hnb139 := NB369_359.out
                                    have hnc139 := NB359_369.out
                                    have hnb140 := NB369_403.out
                                    have hnc140 := NB403_369.out
                                    have hcz141_0 : wc.cell? ⟨gb369, 0, none⟩ = some (.int .i64 t363) := (blk_cell BK369.out 0).trans rfl
                                    have hcz141_1 : wc.cell? ⟨gb369, 1, none⟩ = some (.bool t364) := (blk_cell BK369.out 1).trans rfl
                                    have hcz141_2 : wc.cell? ⟨gb369, 2, none⟩ = some (.slice Ao46 t387.length co46) := (blk_cell BK369.out 2).trans rfl
                                    have hfz141_0 := blk_frozen BK369.out 0
                                    have hfz141_1 := blk_frozen BK369.out 1
                                    have hfz141_2 := blk_frozen BK369.out 2
                                    go_wp2_with (first | ((with_reducible refine gate_callee (f := 15) rfl ?_); refine goesL_ (some 111) rfl rfl Tryd.func15 (by kernel_rfl) rfl #[.agg #[.int .i64 t363, .bool t364, .slice Ao46 t387.length co46], .int .i64 1] rfl (by (try simp only [List.map_toArray, List.map_cons, List.map_nil]); first | done | rfl | (simp only [List.length_drop, List.length_take]; rfl)) ?_; (with_reducible refine (laws_heldRow.calls kj97 t363 t364 _ _ t387 1 t405 _ ?side1 ?side2 A134.out).mono ?_); (case side1 => repeat (first | exact (Kd.R_reads' HO_370002.out).2.2 | (with_reducible refine Kd.C_alloc ?_ _) | (with_reducible refine Kd.C_drewN ?_ _) | (with_reducible refine Kd.C_drew ?_))); (case side2 => exact (Kd.R_reads' HO_370002.out).2.1); rintro e w142 ⟨rfl, hb⟩; refine ⟨_, rfl, ?_⟩; have n0_ := Aside0.mk (Kd.V_below (by (with_reducible repeat (first | apply Kd.V_alloc | apply Kd.V_drewN | apply Kd.V_drew)); exact HO_354002.out) hb); have n1_ := Aside0.mk (Kd.R_below (by (with_reducible repeat (first | apply Kd.R_alloc | apply Kd.R_drewN | apply Kd.R_drew)); exact HO_360002.out) hb); have n2_ := Aside0.mk (Kd.R_below (by (with_reducible repeat (first | apply Kd.R_alloc | apply Kd.R_drewN | apply Kd.R_drew)); exact HO_370002.out) hb); have n3_ := Aside0.mk (Kd.R_below (by (with_reducible repeat (first | apply Kd.R_alloc | apply Kd.R_drewN | apply Kd.R_drew)); exact HO_404002.out) hb); have n4_ := Aside0.mk (blk_below (g := gb337) (o := .cells #[.int .i64 a0_0, .bool a0_1, .slice A0_2 l0_2.length c0_2] 24 (0, 0)) (by (with_reducible repeat (first | refine blk_drewN ?_ _ | refine blk_drew ?_ | refine blk_alloc ?_ _)); exact BK337.out) hb); have n5_ := Aside0.mk (blk_below (g := gb353) (o := .cells #[.int .i64 t347, .bool t348, .slice Ao29 t349.length co29] 26 (0, 0)) (by (with_reducible repeat (first | refine blk_drewN ?_ _ | refine blk_drew ?_ | refine blk_alloc ?_ _)); exact BK353.out) hb); have n6_ := Aside0.mk (blk_below (g := gb359) (o := .cells #[.int .i64 t354, .bool t355, .slice Ao36 t382.length co36] 26 (0, 0)) (by (with_reducible repeat (first | refine blk_drewN ?_ _ | refine blk_drew ?_ | refine blk_alloc ?_ _)); exact BK359.out) hb); have n7_ := Aside0.mk (blk_below (g := gb369) (o := .cells #[.int .i64 t363, .bool t364, .slice Ao46 t387.length co46] 26 (0, 0)) (by (with_reducible repeat (first | refine blk_drewN ?_ _ | refine blk_drew ?_ | refine blk_alloc ?_ _)); exact BK369.out) hb); have n8_ := Aside0.mk (blk_below (g := gb403) (o := .cells #[.int .i64 t397, .bool t398, .slice Ao120 t399.length co120] 26 (0, 0)) (by (with_reducible repeat (first | refine blk_drewN ?_ _ | refine blk_drew ?_ | refine blk_alloc ?_ _)); exact BK403.out) hb); have n9_ := Aside0.mk (below_step (by repeat (first | (with_reducible first | exact HB.out | apply below_alloc | apply pw_below_drewN | apply below_drew1 | refine below_set ?_ GE337.out | refine below_set ?_ GE353.out | refine below_set ?_ GE359.out | refine below_set ?_ GE369.out | refine below_set ?_ GE403.out) | exact HB.out)) hb); clear HO_354002; clear HO_360002; clear HO_370002; clear HO_404002; clear BK337; clear BK353; clear BK359; clear BK369; clear BK403; clear HB; have HO_354002 := n0_; have HO_360002 := n1_; have HO_370002 := n2_; have HO_404002 := n3_; have BK337 := n4_; have BK353 := n5_; have BK359 := n6_; have BK369 := n7_; have BK403 := n8_; have HB := n9_; clear n0_ n1_ n2_ n3_ n4_ n5_ n6_ n7_ n8_ n9_; (try clear hb); (try clear hb2); (try clear hk); (try clear hi)))
                                    go_ret
                                    exact ⟨by first | rfl | (simp [errW_none, errW_some] <;> rfl) | (simp [*, errW_none, errW_some] <;> rfl), by repeat (first | (with_reducible first | exact HB.out | apply below_alloc | apply pw_below_drewN | apply below_drew1 | refine below_set ?_ GE337.out | refine below_set ?_ GE353.out | refine below_set ?_ GE359.out | refine below_set ?_ GE369.out | refine below_set ?_ GE403.out) | exact HB.out)⟩
                                  · rw [if_neg c136] at H
                                    have c136b0 : (t405 == t386) = false := beq_eq_false_iff_ne.mpr c136
                                    have c136b1 : (t405 != t386) = true := bne_iff_ne.mpr c136
                                    exact absurd ((Option.some.inj H).trans HRV.out) (by decide)
                        · rw [if_neg c94] at H
                          have c94b0 : (t388 == t386) = false := beq_eq_false_iff_ne.mpr c94
                          have c94b1 : (t388 != t386) = true := bne_iff_ne.mpr c94
                          exact absurd ((Option.some.inj H).trans HRV.out) (by decide)
              · replace c63 := Bool.eq_false_iff.mpr c63
                subst c63
                have H1 : (some false) = some r := by rw [if_neg (show ¬ (false = true) by decide)] at H; exact H
                clear H
                have H := H1
                clear H1
                exact absurd ((Option.some.inj H).trans HRV.out) (by decide)
            · replace c60 := Bool.eq_false_iff.mpr c60
              subst c60
              have H1 : (some false) = some r := by rw [if_neg (show ¬ (false = true) by decide)] at H; exact H
              clear H
              have H := H1
              clear H1
              exact absurd ((Option.some.inj H).trans HRV.out) (by decide)

/-- THE ONE PURE STATEMENT of laws_FnExactFillBy: yours. -/
def laws_FnExactFillBy.Pure : Prop := ∀ (a0_0 : Int) (a0_1 : Bool) (l0_2 : List Int) (l1 : List Int), (Lit.int .i64 a0_0).wf = true → l0_2.length ≤ maxLen → l0_2.length * 8 ≤ 140737488351232 → (∀ x ∈ l0_2, (Lit.int .i64 x).wf = true) → l1.length ≤ maxLen → l1.length * 8 ≤ 140737488351232 → (∀ x ∈ l1, (Lit.int .i64 x).wf = true) → ∃ k, laws_FnExactFillBy.f k a0_0 a0_1 l0_2 l1 = some true
theorem laws_FnExactFillBy.walk (P : laws_FnExactFillBy.Pure) (a0_0 : Int) (a0_1 : Bool) (a0_2 : Option Addr) (len0_2 cap0_2 : Nat) (z0_2 : List Int) (a1 : Option Addr) (len1 cap1 : Nat) (z1 : List Int) (w : World) (hT : GT w) (w0_0 : (Lit.int .i64 a0_0).wf = true) (w0_2 : (a0_2 = none ∧ len0_2 = 0 ∧ cap0_2 = 0 ∧ z0_2 = []) ∨ ∃ x, a0_2 = some x ∧ len0_2 ≤ cap0_2 ∧ cap0_2 ≤ maxLen ∧ z0_2.length = cap0_2 ∧ (∀ i, i < z0_2.length → w.cell? (x.add i) = some (.int .i64 (z0_2.getD i 0))) ∧ ∀ n ∈ z0_2, (Lit.int .i64 n).wf = true) (y0_2 : len0_2 * 8 ≤ 140737488351232) (w1 : (a1 = none ∧ len1 = 0 ∧ cap1 = 0 ∧ z1 = []) ∨ ∃ x, a1 = some x ∧ len1 ≤ cap1 ∧ cap1 ≤ maxLen ∧ z1.length = cap1 ∧ (∀ i, i < z1.length → w.cell? (x.add i) = some (.int .i64 (z1.getD i 0))) ∧ ∀ n ∈ z1, (Lit.int .i64 n).wf = true) (y1 : len1 * 8 ≤ 140737488351232) :
    Calls Tryd.prog 3 #[.agg #[.int .i64 a0_0, .bool a0_1, .slice a0_2 len0_2 cap0_2], .slice a1 len1 cap1] w fun e w' => e = .returned (.bool true) ∧ Below w.heap.size w w' := by
  obtain ⟨l0_2, rfl, hr0_2, hm0_2, hw0_2, hc0_2⟩ := ReadsInt.ofRowC w0_2
  obtain ⟨l1, rfl, hr1, hm1, hw1, hc1⟩ := ReadsInt.ofRowC w1
  obtain ⟨k, h⟩ := P a0_0 a0_1 l0_2 l1 w0_0 hm0_2 y0_2 hw0_2 hm1 y1 hw1
  refine (laws_FnExactFillBy.calls k a0_0 a0_1 _ _ l0_2 _ _ l1 true w (Kd.C_of_reads (d := (0 : Int)) (h1 := fun _ => rfl) hr0_2) hc0_2 (Kd.C_of_reads (d := (0 : Int)) (h1 := fun _ => rfl) hr1) hc1 hT rfl h).mono ?_
  rintro e w' ⟨rfl, hd⟩
  exact ⟨rfl, hd⟩

end Go.Proofs.YtleibfiegkoblaaDoor.PFnExactFillBy
