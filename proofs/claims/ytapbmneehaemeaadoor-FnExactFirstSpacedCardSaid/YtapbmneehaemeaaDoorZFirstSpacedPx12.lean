/- Proved: each Go function named here, called, comes to the answer of the Lean function beside it. Conditions: those that stand in each theorem. (Printed by this session's own turned copy of a printing program.) -/
import Derived.Test.YtapbmneehaemeaaDoorZFirstSpacedPx0
import Derived.Test.YtapbmneehaemeaaDoorZFirstSpacedPx1
import Derived.Test.YtapbmneehaemeaaDoorZFirstSpacedPx7
import Derived.Test.YtapbmneehaemeaaDoorZFirstSpacedPx10
import Derived.Test.YtapbmneehaemeaaDoorZFirstSpacedPx11
namespace Go.Proofs.YtapbmneehaemeaaDoor.PFnExactFirstSpaced
open Go.RowKit Go.Proofs.YtapbmneehaemeaaDoorW.PrintWords Go.Proofs.YtapbmneehaemeaaDoorW.PrintLast Go.Proofs.YtapbmneehaemeaaDoorW.PrintMore
attribute [local go_sem] max2_int min2_int max_two min_two max_three min_three max_four min_four   -- for this text's walks alone
set_option linter.unusedVariables false
set_option linter.unusedSimpArgs false

/-! ### laws_FnExactFirstSpaced: function 7 -/
mutual
def laws_FnExactFirstSpaced.j0 : Nat → Int → Int → List Int → Bool → List Int → Bool → Bool → Int → Bool → List Int → Int → Bool → List Int → Option (Bool)
  | 0, _, _, _, _, _, _, _, _, _, _, _, _, _ => none
  | k + 1, x1, x2, x8, x9, x11, x12, x48, x283000, x283001, x283002, x299000, x299001, x299002 => if x48 = true then (some false) else ((laws_toRow.f k x283000 x283001 x283002).bind fun bt304 => ((laws_eqRow.f k x299000 x299001 x299002 bt304.1 bt304.2.1 bt304.2.2).bind fun t309 => (if t309 = true then ((laws_markRow.f k x299000 x299001 x299002 1).bind fun bt310 => (if bt310.1 < 0 then (laws_FnExactFirstSpaced.j1 k x1 x2 x8 x9 x11 true x283000 x283001 x283002) else ((laws_eqIntS.f k x11 x8).bind fun t312 => (if t312 = true then (laws_FnExactFirstSpaced.j1 k x1 x2 x8 x9 x11 (x12 != x9) x283000 x283001 x283002) else (laws_FnExactFirstSpaced.j1 k x1 x2 x8 x9 x11 true x283000 x283001 x283002))))) else (some false))))
def laws_FnExactFirstSpaced.j1 : Nat → Int → Int → List Int → Bool → List Int → Bool → Int → Bool → List Int → Option (Bool)
  | 0, _, _, _, _, _, _, _, _, _ => none
  | k + 1, x1, x2, x8, x9, x11, x69, x283000, x283001, x283002 => if x69 = true then (some false) else ((laws_markIntS.f k x11 1).bind fun bt313 => ((laws_heldIntS.f k bt313.2 1).bind fun t315 => (if t315 < 0 then (some false) else (if t315 = bt313.1 then ((laws_toRow.f k x283000 x283001 x283002).bind fun bt316 => ((impl_FirstSpaced.f k bt316.1 bt316.2.1 bt316.2.2 x1 x2).bind fun bt321 => ((laws_eqIntS.f k bt321.1 x8).bind fun t325 => (if t325 = true then (laws_FnExactFirstSpaced.j2 k bt313.2 bt313.1 (bt321.2 != x9)) else (laws_FnExactFirstSpaced.j2 k bt313.2 bt313.1 true))))) else (some false)))))
def laws_FnExactFirstSpaced.j2 : Nat → List Int → Int → Bool → Option (Bool)
  | 0, _, _, _ => none
  | k + 1, x11, x14, x97 => if x97 = true then (some false) else ((laws_heldIntS.f k x11 1).bind fun t326 => (if t326 < 0 then (some false) else (if t326 = x14 then (some true) else (some false))))
end
def laws_FnExactFirstSpaced.f (k : Nat) (a0_0 : Int) (a0_1 : Bool) (l0_2 : List Int) (a1 : Int) (a2 : Int) : Option (Bool) := (laws_szRow.f a0_0 a0_1 l0_2 1048576).bind fun t283 => (if t283 < 0 then (some true) else ((laws_toRow.f k a0_0 a0_1 l0_2).bind fun bt284 => ((spec_FirstSpaced.f k bt284.1 bt284.2.1 bt284.2.2 a1 a2).bind fun bt289 => ((laws_toRow.f k a0_0 a0_1 l0_2).bind fun bt293 => ((impl_FirstSpaced.f k bt293.1 bt293.2.1 bt293.2.2 a1 a2).bind fun bt299 => ((laws_eqIntS.f k bt299.1 bt289.1).bind fun t303 => (if t303 = true then (laws_FnExactFirstSpaced.j0 k a1 a2 bt289.1 bt289.2 bt299.1 bt299.2 (bt299.2 != bt289.2) a0_0 a0_1 l0_2 bt293.1 bt293.2.1 bt293.2.2) else (laws_FnExactFirstSpaced.j0 k a1 a2 bt289.1 bt289.2 bt299.1 bt299.2 true a0_0 a0_1 l0_2 bt293.1 bt293.2.1 bt293.2.2))))))))
theorem laws_FnExactFirstSpaced.j0_no (k : Nat) (y0 : Int) (y1 : Int) (y2 : List Int) (y3 : Bool) (y4 : List Int) (y5 : Bool) (y7 : Int) (y8 : Bool) (y9 : List Int) (y10 : Int) (y11 : Bool) (y12 : List Int) (r : Bool) (h : laws_FnExactFirstSpaced.j0 k y0 y1 y2 y3 y4 y5 true y7 y8 y9 y10 y11 y12 = some r) : false = r := by
  cases k with
  | zero => exact absurd h (by simp [laws_FnExactFirstSpaced.j0])
  | succ k => simp only [laws_FnExactFirstSpaced.j0] at h; first | (rw [if_pos rfl] at h; exact Option.some.inj h) | (rw [if_pos trivial] at h; exact Option.some.inj h)
theorem laws_FnExactFirstSpaced.j1_no (k : Nat) (y0 : Int) (y1 : Int) (y2 : List Int) (y3 : Bool) (y4 : List Int) (y6 : Int) (y7 : Bool) (y8 : List Int) (r : Bool) (h : laws_FnExactFirstSpaced.j1 k y0 y1 y2 y3 y4 true y6 y7 y8 = some r) : false = r := by
  cases k with
  | zero => exact absurd h (by simp [laws_FnExactFirstSpaced.j1])
  | succ k => simp only [laws_FnExactFirstSpaced.j1] at h; first | (rw [if_pos rfl] at h; exact Option.some.inj h) | (rw [if_pos trivial] at h; exact Option.some.inj h)
theorem laws_FnExactFirstSpaced.j2_no (k : Nat) (y0 : List Int) (y1 : Int) (r : Bool) (h : laws_FnExactFirstSpaced.j2 k y0 y1 true = some r) : false = r := by
  cases k with
  | zero => exact absurd h (by simp [laws_FnExactFirstSpaced.j2])
  | succ k => simp only [laws_FnExactFirstSpaced.j2] at h; first | (rw [if_pos rfl] at h; exact Option.some.inj h) | (rw [if_pos trivial] at h; exact Option.some.inj h)
set_option maxHeartbeats 8000000 in
set_option maxRecDepth 100000 in
theorem laws_FnExactFirstSpaced.calls (k : Nat) (a0_0 : Int) (a0_1 : Bool) (A0_2 : Option Addr) (c0_2 : Nat) (l0_2 : List Int) (a1 : Int) (a2 : Int) (r : Bool) (w : World) (hr0_2 : Kd.C (Kd.int .i64) w A0_2 l0_2.length l0_2) (hc0_2 : l0_2.length ≤ c0_2) (hrT : GT w) (hr1_ : r = true) (h : laws_FnExactFirstSpaced.f k a0_0 a0_1 l0_2 a1 a2 = some r) :
    Calls Tryd.prog 7 #[.agg #[.int .i64 a0_0, .bool a0_1, .slice A0_2 l0_2.length c0_2], .int .i64 a1, .int .i64 a2] w fun e w' => e = .returned (.bool r) ∧ Below w.heap.size w w' := by
  have hu24 := Tryd.underlying24
  have hu28 := Tryd.underlying28
  have HR0_2 := Aside0.mk hr0_2
  have HC0_2 := Aside0.mk hc0_2
  clear hr0_2 hc0_2
  have HRV := Aside0.mk hr1_
  clear hr1_
  have HRT := Aside0.mk hrT
  clear hrT
  have HB := Aside0.mk (Below.refl w.heap.size w)
  have H : ((laws_szRow.f a0_0 a0_1 l0_2 1048576).bind fun t283 => (if t283 < 0 then (some true) else ((laws_toRow.f k a0_0 a0_1 l0_2).bind fun bt284 => ((spec_FirstSpaced.f k bt284.1 bt284.2.1 bt284.2.2 a1 a2).bind fun bt289 => ((laws_toRow.f k a0_0 a0_1 l0_2).bind fun bt293 => ((impl_FirstSpaced.f k bt293.1 bt293.2.1 bt293.2.2 a1 a2).bind fun bt299 => ((laws_eqIntS.f k bt299.1 bt289.1).bind fun t303 => (if t303 = true then (laws_FnExactFirstSpaced.j0 k a1 a2 bt289.1 bt289.2 bt299.1 bt299.2 (bt299.2 != bt289.2) a0_0 a0_1 l0_2 bt293.1 bt293.2.1 bt293.2.2) else (laws_FnExactFirstSpaced.j0 k a1 a2 bt289.1 bt289.2 bt299.1 bt299.2 true a0_0 a0_1 l0_2 bt293.1 bt293.2.1 bt293.2.2))))))))) = some r := h
  clear h
  replace H := Option.bind_eq_some_iff.mp H
  obtain ⟨t283, A40, H⟩ := H
  replace H : (if t283 < 0 then (some true) else ((laws_toRow.f k a0_0 a0_1 l0_2).bind fun bt284 => ((spec_FirstSpaced.f k bt284.1 bt284.2.1 bt284.2.2 a1 a2).bind fun bt289 => ((laws_toRow.f k a0_0 a0_1 l0_2).bind fun bt293 => ((impl_FirstSpaced.f k bt293.1 bt293.2.1 bt293.2.2 a1 a2).bind fun bt299 => ((laws_eqIntS.f k bt299.1 bt289.1).bind fun t303 => (if t303 = true then (laws_FnExactFirstSpaced.j0 k a1 a2 bt289.1 bt289.2 bt299.1 bt299.2 (bt299.2 != bt289.2) a0_0 a0_1 l0_2 bt293.1 bt293.2.1 bt293.2.2) else (laws_FnExactFirstSpaced.j0 k a1 a2 bt289.1 bt289.2 bt299.1 bt299.2 true a0_0 a0_1 l0_2 bt293.1 bt293.2.1 bt293.2.2)))))))) = some r := H
  have A4 := Aside0.mk A40
  clear A40
  by_cases c5 : t283 < 0
  · rw [if_pos c5] at H
    have c5b0 : decide (t283 < 0) = true := decide_eq_true c5
    clear c5
    obtain rfl := Option.some.inj H
    go_enter Tryd.func7, Tryd.ntmps7
    go_wp2_with (first | ((with_reducible refine gate_dst (N := 3) rfl ?_); refine box_event ?hg (N := 3) ?hd (cs := #[.int .i64 a0_0, .bool a0_1, .slice A0_2 l0_2.length c0_2]) (t := 24) ?hr ?_; (case hd => rfl); (case hg => rfl); (case hr => first | (go_simp; done) | (go_simp; rfl)); intro gb282 hg w6 hbox hb; have n0_ := Aside0.mk (below_step (by repeat (first | (with_reducible first | exact HB.out | apply below_alloc | apply pw_below_drewN | apply below_drew1) | exact HB.out)) hb); have n1_ := Aside0.mk (hbox); have n2_ := Aside0.mk ((by rw [hg]; exact (below_size (by repeat (first | (with_reducible first | exact HB.out | apply below_alloc | apply pw_below_drewN | apply below_drew1) | exact HB.out))) : w.heap.size ≤ gb282)); have n3_ := Aside0.mk ((by rw [hg]; exact (below_size (by repeat (first | (with_reducible first | exact HB.out | apply below_alloc | apply pw_below_drewN | apply below_drew1) | exact HB.out))) : w.heap.size ≤ gb282)); clear HB; have HB := n0_; have BK282 := n1_; have GW282 := n2_; have GE282 := n3_; clear n0_ n1_ n2_ n3_; clear hb hbox hg; have hcz7_0 : w6.cell? ⟨gb282, 0, none⟩ = some (.int .i64 a0_0) := (blk_cell BK282.out 0).trans rfl; have hcz7_1 : w6.cell? ⟨gb282, 1, none⟩ = some (.bool a0_1) := (blk_cell BK282.out 1).trans rfl; have hcz7_2 : w6.cell? ⟨gb282, 2, none⟩ = some (.slice A0_2 l0_2.length c0_2) := (blk_cell BK282.out 2).trans rfl; have hfz7_0 := blk_frozen BK282.out 0; have hfz7_1 := blk_frozen BK282.out 1; have hfz7_2 := blk_frozen BK282.out 2) | ((with_reducible refine gate_callee (f := 9) rfl ?_); refine goesL_ (some 20) rfl rfl Tryd.func9 (by kernel_rfl) rfl #[.agg #[.int .i64 a0_0, .bool a0_1, .slice A0_2 l0_2.length c0_2], .int .i64 1048576] rfl (by (try simp only [List.map_toArray, List.map_cons, List.map_nil]); first | done | rfl | (simp only [List.length_drop, List.length_take]; rfl)) ?_; (with_reducible refine (laws_szRow.calls a0_0 a0_1 _ _ l0_2 1048576 t283 _ ?side1 ?side2 A4.out).mono ?_); (case side1 => repeat (first | exact (Kd.C_below HR0_2.out HB.out) | (with_reducible refine Kd.C_alloc ?_ _) | (with_reducible refine Kd.C_drewN ?_ _) | (with_reducible refine Kd.C_drew ?_))); (case side2 => exact HC0_2.out); rintro e w8 ⟨rfl, hb⟩; refine ⟨_, rfl, ?_⟩; have n0_ := Aside0.mk (blk_below (g := gb282) (o := .cells #[.int .i64 a0_0, .bool a0_1, .slice A0_2 l0_2.length c0_2] 24 (0, 0)) (by first | (with_reducible exact BK282.out) | ((with_reducible repeat (first | refine blk_drewN ?_ _ | refine blk_drew ?_ | refine blk_alloc ?_ _)); exact BK282.out)) hb); have n1_ := Aside0.mk (below_step (by repeat (first | (with_reducible first | exact HB.out | apply below_alloc | apply pw_below_drewN | apply below_drew1 | refine below_set ?_ GE282.out) | exact HB.out)) hb); clear BK282; clear HB; have BK282 := n0_; have HB := n1_; clear n0_ n1_; (try clear hb); (try clear hb2); (try clear hk); (try clear hi)))
    go_ret
    exact ⟨by first | rfl | (simp [errW_none, errW_some] <;> rfl) | (simp [*, errW_none, errW_some] <;> rfl), by repeat (first | (with_reducible first | exact HB.out | apply below_alloc | apply pw_below_drewN | apply below_drew1 | refine below_set ?_ GE282.out) | exact HB.out)⟩
  · rw [if_neg c5] at H
    have c5b0 : decide (t283 < 0) = false := decide_eq_false c5
    clear c5
    replace H := Option.bind_eq_some_iff.mp H
    obtain ⟨⟨t284, t285, t286⟩, A90, H⟩ := H
    replace H : ((spec_FirstSpaced.f k t284 t285 t286 a1 a2).bind fun bt289 => ((laws_toRow.f k a0_0 a0_1 l0_2).bind fun bt293 => ((impl_FirstSpaced.f k bt293.1 bt293.2.1 bt293.2.2 a1 a2).bind fun bt299 => ((laws_eqIntS.f k bt299.1 bt289.1).bind fun t303 => (if t303 = true then (laws_FnExactFirstSpaced.j0 k a1 a2 bt289.1 bt289.2 bt299.1 bt299.2 (bt299.2 != bt289.2) a0_0 a0_1 l0_2 bt293.1 bt293.2.1 bt293.2.2) else (laws_FnExactFirstSpaced.j0 k a1 a2 bt289.1 bt289.2 bt299.1 bt299.2 true a0_0 a0_1 l0_2 bt293.1 bt293.2.1 bt293.2.2)))))) = some r := H
    have A9 := Aside0.mk A90
    clear A90
    replace H := Option.bind_eq_some_iff.mp H
    obtain ⟨⟨t289, t292⟩, A100, H⟩ := H
    replace H : ((laws_toRow.f k a0_0 a0_1 l0_2).bind fun bt293 => ((impl_FirstSpaced.f k bt293.1 bt293.2.1 bt293.2.2 a1 a2).bind fun bt299 => ((laws_eqIntS.f k bt299.1 t289).bind fun t303 => (if t303 = true then (laws_FnExactFirstSpaced.j0 k a1 a2 t289 t292 bt299.1 bt299.2 (bt299.2 != t292) a0_0 a0_1 l0_2 bt293.1 bt293.2.1 bt293.2.2) else (laws_FnExactFirstSpaced.j0 k a1 a2 t289 t292 bt299.1 bt299.2 true a0_0 a0_1 l0_2 bt293.1 bt293.2.1 bt293.2.2))))) = some r := H
    have A10 := Aside0.mk A100
    clear A100
    replace H := Option.bind_eq_some_iff.mp H
    obtain ⟨⟨t293, t294, t295⟩, A110, H⟩ := H
    replace H : ((impl_FirstSpaced.f k t293 t294 t295 a1 a2).bind fun bt299 => ((laws_eqIntS.f k bt299.1 t289).bind fun t303 => (if t303 = true then (laws_FnExactFirstSpaced.j0 k a1 a2 t289 t292 bt299.1 bt299.2 (bt299.2 != t292) a0_0 a0_1 l0_2 t293 t294 t295) else (laws_FnExactFirstSpaced.j0 k a1 a2 t289 t292 bt299.1 bt299.2 true a0_0 a0_1 l0_2 t293 t294 t295)))) = some r := H
    have A11 := Aside0.mk A110
    clear A110
    replace H := Option.bind_eq_some_iff.mp H
    obtain ⟨⟨t299, t302⟩, A120, H⟩ := H
    replace H : ((laws_eqIntS.f k t299 t289).bind fun t303 => (if t303 = true then (laws_FnExactFirstSpaced.j0 k a1 a2 t289 t292 t299 t302 (t302 != t292) a0_0 a0_1 l0_2 t293 t294 t295) else (laws_FnExactFirstSpaced.j0 k a1 a2 t289 t292 t299 t302 true a0_0 a0_1 l0_2 t293 t294 t295))) = some r := H
    have A12 := Aside0.mk A120
    clear A120
    have HC13 := Aside0.mk H
    clear H
    go_enter Tryd.func7, Tryd.ntmps7
    go_upto_region 8 with (first | ((with_reducible refine gate_dst (N := 3) rfl ?_); refine box_event ?hg (N := 3) ?hd (cs := #[.int .i64 a0_0, .bool a0_1, .slice A0_2 l0_2.length c0_2]) (t := 24) ?hr ?_; (case hd => rfl); (case hg => rfl); (case hr => first | (go_simp; done) | (go_simp; rfl)); intro gb282 hg w14 hbox hb; have n0_ := Aside0.mk (below_step (by repeat (first | (with_reducible first | exact HB.out | apply below_alloc | apply pw_below_drewN | apply below_drew1) | exact HB.out)) hb); have n1_ := Aside0.mk (hbox); have n2_ := Aside0.mk ((by rw [hg]; exact (below_size (by repeat (first | (with_reducible first | exact HB.out | apply below_alloc | apply pw_below_drewN | apply below_drew1) | exact HB.out))) : w.heap.size ≤ gb282)); have n3_ := Aside0.mk ((by rw [hg]; exact (below_size (by repeat (first | (with_reducible first | exact HB.out | apply below_alloc | apply pw_below_drewN | apply below_drew1) | exact HB.out))) : w.heap.size ≤ gb282)); clear HB; have HB := n0_; have BK282 := n1_; have GW282 := n2_; have GE282 := n3_; clear n0_ n1_ n2_ n3_; clear hb hbox hg; have hcz15_0 : w14.cell? ⟨gb282, 0, none⟩ = some (.int .i64 a0_0) := (blk_cell BK282.out 0).trans rfl; have hcz15_1 : w14.cell? ⟨gb282, 1, none⟩ = some (.bool a0_1) := (blk_cell BK282.out 1).trans rfl; have hcz15_2 : w14.cell? ⟨gb282, 2, none⟩ = some (.slice A0_2 l0_2.length c0_2) := (blk_cell BK282.out 2).trans rfl; have hfz15_0 := blk_frozen BK282.out 0; have hfz15_1 := blk_frozen BK282.out 1; have hfz15_2 := blk_frozen BK282.out 2) | ((with_reducible refine gate_callee (f := 9) rfl ?_); refine goesL_ (some 20) rfl rfl Tryd.func9 (by kernel_rfl) rfl #[.agg #[.int .i64 a0_0, .bool a0_1, .slice A0_2 l0_2.length c0_2], .int .i64 1048576] rfl (by (try simp only [List.map_toArray, List.map_cons, List.map_nil]); first | done | rfl | (simp only [List.length_drop, List.length_take]; rfl)) ?_; (with_reducible refine (laws_szRow.calls a0_0 a0_1 _ _ l0_2 1048576 t283 _ ?side1 ?side2 A4.out).mono ?_); (case side1 => repeat (first | exact (Kd.C_below HR0_2.out HB.out) | (with_reducible refine Kd.C_alloc ?_ _) | (with_reducible refine Kd.C_drewN ?_ _) | (with_reducible refine Kd.C_drew ?_))); (case side2 => exact HC0_2.out); rintro e w16 ⟨rfl, hb⟩; refine ⟨_, rfl, ?_⟩; have n0_ := Aside0.mk (blk_below (g := gb282) (o := .cells #[.int .i64 a0_0, .bool a0_1, .slice A0_2 l0_2.length c0_2] 24 (0, 0)) (by first | (with_reducible exact BK282.out) | ((with_reducible repeat (first | refine blk_drewN ?_ _ | refine blk_drew ?_ | refine blk_alloc ?_ _)); exact BK282.out)) hb); have n1_ := Aside0.mk (below_step (by repeat (first | (with_reducible first | exact HB.out | apply below_alloc | apply pw_below_drewN | apply below_drew1 | refine below_set ?_ GE282.out) | exact HB.out)) hb); clear BK282; clear HB; have BK282 := n0_; have HB := n1_; clear n0_ n1_; (try clear hb); (try clear hb2); (try clear hk); (try clear hi); have hcz17_0 : w16.cell? ⟨gb282, 0, none⟩ = some (.int .i64 a0_0) := (blk_cell BK282.out 0).trans rfl; have hcz17_1 : w16.cell? ⟨gb282, 1, none⟩ = some (.bool a0_1) := (blk_cell BK282.out 1).trans rfl; have hcz17_2 : w16.cell? ⟨gb282, 2, none⟩ = some (.slice A0_2 l0_2.length c0_2) := (blk_cell BK282.out 2).trans rfl; have hfz17_0 := blk_frozen BK282.out 0; have hfz17_1 := blk_frozen BK282.out 1; have hfz17_2 := blk_frozen BK282.out 2) | ((with_reducible refine gate_callee (f := 11) rfl ?_); refine goesL_ (some 25) rfl rfl Tryd.func11 (by kernel_rfl) rfl #[.agg #[.int .i64 a0_0, .bool a0_1, .slice A0_2 l0_2.length c0_2]] rfl (by (try simp only [List.map_toArray, List.map_cons, List.map_nil]); first | done | rfl | (simp only [List.length_drop, List.length_take]; rfl)) ?_; (with_reducible refine (laws_toRow.calls k a0_0 a0_1 _ _ l0_2 t284 t285 t286 _ ?side1 ?side2 A9.out).mono ?_); (case side1 => repeat (first | exact (Kd.C_below HR0_2.out HB.out) | (with_reducible refine Kd.C_alloc ?_ _) | (with_reducible refine Kd.C_drewN ?_ _) | (with_reducible refine Kd.C_drew ?_))); (case side2 => exact HC0_2.out); rintro e w18 ⟨v287, rfl, ho0, hb⟩; refine ⟨_, rfl, ?_⟩; have n0_ := Aside0.mk (Kd.R_lower ho0 (below_size (by repeat (first | (with_reducible first | exact HB.out | apply below_alloc | apply pw_below_drewN | apply below_drew1 | refine below_set ?_ GE282.out) | exact HB.out)))); have n1_ := Aside0.mk (blk_below (g := gb282) (o := .cells #[.int .i64 a0_0, .bool a0_1, .slice A0_2 l0_2.length c0_2] 24 (0, 0)) (by first | (with_reducible exact BK282.out) | ((with_reducible repeat (first | refine blk_drewN ?_ _ | refine blk_drew ?_ | refine blk_alloc ?_ _)); exact BK282.out)) hb); have n2_ := Aside0.mk (below_step (by repeat (first | (with_reducible first | exact HB.out | apply below_alloc | apply pw_below_drewN | apply below_drew1 | refine below_set ?_ GE282.out) | exact HB.out)) hb); clear BK282; clear HB; have HO288 := n0_; have BK282 := n1_; have HB := n2_; clear n0_ n1_ n2_; (try clear hb); (try clear hb2); (try clear hk); (try clear hi); (try clear ho0); obtain ⟨Ao19, co19, eo19⟩ := Kd.R_slice HO288.out; subst eo19) | ((with_reducible refine gate_callee (f := 22) rfl ?_); refine goesL_ (some 28) rfl rfl Tryd.func22 (by kernel_rfl) rfl #[.agg #[.int .i64 t284, .bool t285, .slice Ao19 t286.length co19], .int .i64 a1, .int .i64 a2] rfl (by (try simp only [List.map_toArray, List.map_cons, List.map_nil]); first | done | rfl | (simp only [List.length_drop, List.length_take]; rfl)) ?_; (with_reducible refine (spec_FirstSpaced.calls k t284 t285 _ _ t286 a1 a2 t289 t292 _ ?side1 ?side2 A10.out).mono ?_); (case side1 => repeat (first | exact (Kd.R_reads' HO288.out).2.2 | (with_reducible refine Kd.C_alloc ?_ _) | (with_reducible refine Kd.C_drewN ?_ _) | (with_reducible refine Kd.C_drew ?_))); (case side2 => exact (Kd.R_reads' HO288.out).2.1); rintro e w20 ⟨v290, rfl, ho0, hb⟩; refine ⟨_, rfl, ?_⟩; have n0_ := Aside0.mk (Kd.R_elder' (by (with_reducible repeat (first | apply Kd.R_alloc | apply Kd.R_drewN | apply Kd.R_drew)); exact HO288.out) (Kd.R_base ho0) hb); have n1_ := Aside0.mk (Kd.R_lower (Kd.R_new' ho0 (Kd.R_lt (by (with_reducible repeat (first | apply Kd.R_alloc | apply Kd.R_drewN | apply Kd.R_drew)); exact HO288.out))) (below_size (by repeat (first | (with_reducible first | exact HB.out | apply below_alloc | apply pw_below_drewN | apply below_drew1 | refine below_set ?_ GE282.out) | exact HB.out)))); have n2_ := Aside0.mk (blk_below (g := gb282) (o := .cells #[.int .i64 a0_0, .bool a0_1, .slice A0_2 l0_2.length c0_2] 24 (0, 0)) (by first | (with_reducible exact BK282.out) | ((with_reducible repeat (first | refine blk_drewN ?_ _ | refine blk_drew ?_ | refine blk_alloc ?_ _)); exact BK282.out)) hb); have n3_ := Aside0.mk (below_step (by repeat (first | (with_reducible first | exact HB.out | apply below_alloc | apply pw_below_drewN | apply below_drew1 | refine below_set ?_ GE282.out) | exact HB.out)) hb); clear HO288; clear BK282; clear HB; have HO288 := n0_; have HO291 := n1_; have BK282 := n2_; have HB := n3_; clear n0_ n1_ n2_ n3_; (try clear hb); (try clear hb2); (try clear hk); (try clear hi); (try clear ho0); have hcz21_0 : w20.cell? ⟨gb282, 0, none⟩ = some (.int .i64 a0_0) := (blk_cell BK282.out 0).trans rfl; have hcz21_1 : w20.cell? ⟨gb282, 1, none⟩ = some (.bool a0_1) := (blk_cell BK282.out 1).trans rfl; have hcz21_2 : w20.cell? ⟨gb282, 2, none⟩ = some (.slice A0_2 l0_2.length c0_2) := (blk_cell BK282.out 2).trans rfl; have hfz21_0 := blk_frozen BK282.out 0; have hfz21_1 := blk_frozen BK282.out 1; have hfz21_2 := blk_frozen BK282.out 2) | ((with_reducible refine gate_callee (f := 11) rfl ?_); refine goesL_ (some 32) rfl rfl Tryd.func11 (by kernel_rfl) rfl #[.agg #[.int .i64 a0_0, .bool a0_1, .slice A0_2 l0_2.length c0_2]] rfl (by (try simp only [List.map_toArray, List.map_cons, List.map_nil]); first | done | rfl | (simp only [List.length_drop, List.length_take]; rfl)) ?_; (with_reducible refine (laws_toRow.calls k a0_0 a0_1 _ _ l0_2 t293 t294 t295 _ ?side1 ?side2 A11.out).mono ?_); (case side1 => repeat (first | exact (Kd.C_below HR0_2.out HB.out) | (with_reducible refine Kd.C_alloc ?_ _) | (with_reducible refine Kd.C_drewN ?_ _) | (with_reducible refine Kd.C_drew ?_))); (case side2 => exact HC0_2.out); rintro e w22 ⟨v296, rfl, ho0, hb⟩; refine ⟨_, rfl, ?_⟩; have n0_ := Aside0.mk (Kd.R_elder' (by (with_reducible repeat (first | apply Kd.R_alloc | apply Kd.R_drewN | apply Kd.R_drew)); exact HO288.out) (Kd.R_base ho0) hb); have n1_ := Aside0.mk (Kd.R_elder' (by (with_reducible repeat (first | apply Kd.R_alloc | apply Kd.R_drewN | apply Kd.R_drew)); exact HO291.out) (Kd.R_base ho0) hb); have n2_ := Aside0.mk (Kd.R_lower (Kd.R_new' (Kd.R_new' ho0 (Kd.R_lt (by (with_reducible repeat (first | apply Kd.R_alloc | apply Kd.R_drewN | apply Kd.R_drew)); exact HO288.out))) (Kd.R_lt (by (with_reducible repeat (first | apply Kd.R_alloc | apply Kd.R_drewN | apply Kd.R_drew)); exact HO291.out))) (below_size (by repeat (first | (with_reducible first | exact HB.out | apply below_alloc | apply pw_below_drewN | apply below_drew1 | refine below_set ?_ GE282.out) | exact HB.out)))); have n3_ := Aside0.mk (blk_below (g := gb282) (o := .cells #[.int .i64 a0_0, .bool a0_1, .slice A0_2 l0_2.length c0_2] 24 (0, 0)) (by first | (with_reducible exact BK282.out) | ((with_reducible repeat (first | refine blk_drewN ?_ _ | refine blk_drew ?_ | refine blk_alloc ?_ _)); exact BK282.out)) hb); have n4_ := Aside0.mk (below_step (by repeat (first | (with_reducible first | exact HB.out | apply below_alloc | apply pw_below_drewN | apply below_drew1 | refine below_set ?_ GE282.out) | exact HB.out)) hb); clear HO288; clear HO291; clear BK282; clear HB; have HO288 := n0_; have HO291 := n1_; have HO297 := n2_; have BK282 := n3_; have HB := n4_; clear n0_ n1_ n2_ n3_ n4_; (try clear hb); (try clear hb2); (try clear hk); (try clear hi); (try clear ho0)) | ((with_reducible refine gate_dst (N := 10) rfl ?_); refine box_event ?hg (N := 10) ?hd (cs := #[.int .i64 0, .bool false, .slice none 0 0]) (t := 28) ?hr ?_; (case hd => rfl); (case hg => rfl); (case hr => first | (go_simp; done) | (go_simp; rfl)); intro gb298 hg w23 hbox hb; have n0_ := Aside0.mk (Kd.R_below (by (with_reducible repeat (first | apply Kd.R_alloc | apply Kd.R_drewN | apply Kd.R_drew)); exact HO288.out) hb); have n1_ := Aside0.mk (Kd.R_below (by (with_reducible repeat (first | apply Kd.R_alloc | apply Kd.R_drewN | apply Kd.R_drew)); exact HO291.out) hb); have n2_ := Aside0.mk (Kd.R_below (by (with_reducible repeat (first | apply Kd.R_alloc | apply Kd.R_drewN | apply Kd.R_drew)); exact HO297.out) hb); have n3_ := Aside0.mk (blk_below (g := gb282) (o := .cells #[.int .i64 a0_0, .bool a0_1, .slice A0_2 l0_2.length c0_2] 24 (0, 0)) (by first | (with_reducible exact BK282.out) | ((with_reducible repeat (first | refine blk_drewN ?_ _ | refine blk_drew ?_ | refine blk_alloc ?_ _)); exact BK282.out)) hb); have n4_ := Aside0.mk (below_step (by repeat (first | (with_reducible first | exact HB.out | apply below_alloc | apply pw_below_drewN | apply below_drew1 | refine below_set ?_ GE282.out) | exact HB.out)) hb); have n5_ := Aside0.mk (hbox); have n6_ := Aside0.mk ((by rw [hg]; exact (below_size (by repeat (first | (with_reducible first | exact HB.out | apply below_alloc | apply pw_below_drewN | apply below_drew1 | refine below_set ?_ GE282.out) | exact HB.out))) : w.heap.size ≤ gb298)); have n7_ := Aside0.mk ((by rw [hg]; exact (below_size (by repeat (first | (with_reducible first | exact HB.out | apply below_alloc | apply pw_below_drewN | apply below_drew1 | refine below_set ?_ GE282.out) | exact HB.out))) : w.heap.size ≤ gb298)); have n8_ := Aside0.mk ((by rw [hg]; exact Nat.ne_of_lt (blk_lt (g := gb282) (o := .cells #[.int .i64 a0_0, .bool a0_1, .slice A0_2 l0_2.length c0_2] 24 (0, 0)) (by first | (with_reducible exact BK282.out) | ((with_reducible repeat (first | refine blk_drewN ?_ _ | refine blk_drew ?_ | refine blk_alloc ?_ _)); exact BK282.out))) : gb282 ≠ gb298)); have n9_ := Aside0.mk ((by rw [hg]; exact Nat.ne_of_gt (blk_lt (g := gb282) (o := .cells #[.int .i64 a0_0, .bool a0_1, .slice A0_2 l0_2.length c0_2] 24 (0, 0)) (by first | (with_reducible exact BK282.out) | ((with_reducible repeat (first | refine blk_drewN ?_ _ | refine blk_drew ?_ | refine blk_alloc ?_ _)); exact BK282.out))) : gb298 ≠ gb282)); clear HO288; clear HO291; clear HO297; clear BK282; clear HB; have HO288 := n0_; have HO291 := n1_; have HO297 := n2_; have BK282 := n3_; have HB := n4_; have BK298 := n5_; have GW298 := n6_; have GE298 := n7_; have NB282_298 := n8_; have NB298_282 := n9_; clear n0_ n1_ n2_ n3_ n4_ n5_ n6_ n7_ n8_ n9_; clear hb hbox hg; have hnb24 := NB298_282.out; have hnc24 := NB282_298.out; have hcz25_0 : w23.cell? ⟨gb298, 0, none⟩ = some (.int .i64 0) := (blk_cell BK298.out 0).trans rfl; have hcz25_1 : w23.cell? ⟨gb298, 1, none⟩ = some (.bool false) := (blk_cell BK298.out 1).trans rfl; have hcz25_2 : w23.cell? ⟨gb298, 2, none⟩ = some (.slice none 0 0) := (blk_cell BK298.out 2).trans rfl; have hfz25_0 := blk_frozen BK298.out 0; have hfz25_1 := blk_frozen BK298.out 1; have hfz25_2 := blk_frozen BK298.out 2; obtain ⟨Ao26, co26, eo26⟩ := Kd.R_slice HO297.out; subst eo26) | ((with_reducible refine gate_callee (f := 23) rfl ?_); refine goesL_ (some 37) rfl rfl Tryd.func23 (by kernel_rfl) rfl #[.agg #[.int .i64 t293, .bool t294, .slice Ao26 t295.length co26], .int .i64 a1, .int .i64 a2] rfl (by (try simp only [List.map_toArray, List.map_cons, List.map_nil]); first | done | rfl | (simp only [List.length_drop, List.length_take]; rfl)) ?_; (with_reducible refine (impl_FirstSpaced.calls k t293 t294 _ _ t295 a1 a2 t299 t302 _ ?side1 ?side2 ?side3 A12.out).mono ?_); (case side1 => refine (Kd.R_reads' (e := 3) (base := w.heap.size) (ok := fun k_ => ((True ∧ some k_ ≠ (.slice Ao19 t286.length co19 : Value).ownBlock) ∧ some k_ ≠ (v290 : Value).ownBlock)) (n := t295.length) (c := co26) ?_).2.2; exact (by (with_reducible repeat (first | apply Kd.R_alloc | apply Kd.R_drewN | apply Kd.R_drew)); exact (Kd.R_mono (Kd.R_far (p := ⟨gb298, 2, none⟩) (Kd.R_far (p := ⟨gb298, 1, none⟩) (Kd.R_far (p := ⟨gb298, 0, none⟩) (Kd.R_types HO297.out BK298.out (by decide)) (fun _ hk => hk.2) (.int .i64 t293)) (fun _ hk => hk.2) (.bool t294)) (fun _ hk => hk.2) (.slice Ao26 t295.length co26)) (fun _ h_ => h_.1)))); (case side2 => exact (Kd.R_reads' HO297.out).2.1); (case side3 => exact GT.below HRT.out (by repeat (first | (with_reducible first | exact HB.out | apply below_alloc | apply pw_below_drewN | apply below_drew1 | refine below_set ?_ GE282.out | refine below_set ?_ GE298.out) | exact HB.out))); rintro e w27 ⟨v300, rfl, ho0, hb⟩; refine ⟨_, rfl, ?_⟩; have n0_ := Aside0.mk (Kd.R_elder' (by (with_reducible repeat (first | apply Kd.R_alloc | apply Kd.R_drewN | apply Kd.R_drew)); exact (Kd.R_mono (Kd.R_far (p := ⟨gb298, 2, none⟩) (Kd.R_far (p := ⟨gb298, 1, none⟩) (Kd.R_far (p := ⟨gb298, 0, none⟩) (Kd.R_types HO288.out BK298.out (by decide)) (fun _ hk => hk.2) (.int .i64 t293)) (fun _ hk => hk.2) (.bool t294)) (fun _ hk => hk.2) (.slice Ao26 t295.length co26)) (fun _ h_ => h_.1))) (Kd.R_base ho0) hb); have n1_ := Aside0.mk (Kd.R_elder' (by (with_reducible repeat (first | apply Kd.R_alloc | apply Kd.R_drewN | apply Kd.R_drew)); exact (Kd.R_mono (Kd.R_far (p := ⟨gb298, 2, none⟩) (Kd.R_far (p := ⟨gb298, 1, none⟩) (Kd.R_far (p := ⟨gb298, 0, none⟩) (Kd.R_types HO291.out BK298.out (by decide)) (fun _ hk => hk.2) (.int .i64 t293)) (fun _ hk => hk.2) (.bool t294)) (fun _ hk => hk.2) (.slice Ao26 t295.length co26)) (fun _ h_ => h_.1))) (Kd.R_base ho0) hb); have n2_ := Aside0.mk (Kd.R_elder' (by (with_reducible repeat (first | apply Kd.R_alloc | apply Kd.R_drewN | apply Kd.R_drew)); exact (Kd.R_mono (Kd.R_far (p := ⟨gb298, 2, none⟩) (Kd.R_far (p := ⟨gb298, 1, none⟩) (Kd.R_far (p := ⟨gb298, 0, none⟩) (Kd.R_types HO297.out BK298.out (by decide)) (fun _ hk => hk.2) (.int .i64 t293)) (fun _ hk => hk.2) (.bool t294)) (fun _ hk => hk.2) (.slice Ao26 t295.length co26)) (fun _ h_ => h_.1))) (Kd.R_base ho0) hb); have n3_ := Aside0.mk (Kd.R_lower (Kd.R_new' (Kd.R_new' (Kd.R_new' ho0 (Kd.R_lt (by (with_reducible repeat (first | apply Kd.R_alloc | apply Kd.R_drewN | apply Kd.R_drew)); exact (Kd.R_mono (Kd.R_far (p := ⟨gb298, 2, none⟩) (Kd.R_far (p := ⟨gb298, 1, none⟩) (Kd.R_far (p := ⟨gb298, 0, none⟩) (Kd.R_types HO288.out BK298.out (by decide)) (fun _ hk => hk.2) (.int .i64 t293)) (fun _ hk => hk.2) (.bool t294)) (fun _ hk => hk.2) (.slice Ao26 t295.length co26)) (fun _ h_ => h_.1))))) (Kd.R_lt (by (with_reducible repeat (first | apply Kd.R_alloc | apply Kd.R_drewN | apply Kd.R_drew)); exact (Kd.R_mono (Kd.R_far (p := ⟨gb298, 2, none⟩) (Kd.R_far (p := ⟨gb298, 1, none⟩) (Kd.R_far (p := ⟨gb298, 0, none⟩) (Kd.R_types HO291.out BK298.out (by decide)) (fun _ hk => hk.2) (.int .i64 t293)) (fun _ hk => hk.2) (.bool t294)) (fun _ hk => hk.2) (.slice Ao26 t295.length co26)) (fun _ h_ => h_.1))))) (Kd.R_lt (by (with_reducible repeat (first | apply Kd.R_alloc | apply Kd.R_drewN | apply Kd.R_drew)); exact (Kd.R_mono (Kd.R_far (p := ⟨gb298, 2, none⟩) (Kd.R_far (p := ⟨gb298, 1, none⟩) (Kd.R_far (p := ⟨gb298, 0, none⟩) (Kd.R_types HO297.out BK298.out (by decide)) (fun _ hk => hk.2) (.int .i64 t293)) (fun _ hk => hk.2) (.bool t294)) (fun _ hk => hk.2) (.slice Ao26 t295.length co26)) (fun _ h_ => h_.1))))) (below_size (by repeat (first | (with_reducible first | exact HB.out | apply below_alloc | apply pw_below_drewN | apply below_drew1 | refine below_set ?_ GE282.out | refine below_set ?_ GE298.out) | exact HB.out)))); have n4_ := Aside0.mk (blk_below (g := gb282) (o := .cells #[.int .i64 a0_0, .bool a0_1, .slice A0_2 l0_2.length c0_2] 24 (0, 0)) (by (with_reducible repeat (first | refine blk_drewN ?_ _ | refine blk_drew ?_ | refine blk_alloc ?_ _)); refine blk_far ?_ NB282_298.out _; (with_reducible repeat (first | refine blk_drewN ?_ _ | refine blk_drew ?_ | refine blk_alloc ?_ _)); refine blk_far ?_ NB282_298.out _; (with_reducible repeat (first | refine blk_drewN ?_ _ | refine blk_drew ?_ | refine blk_alloc ?_ _)); refine blk_far ?_ NB282_298.out _; (with_reducible repeat (first | refine blk_drewN ?_ _ | refine blk_drew ?_ | refine blk_alloc ?_ _)); exact BK282.out) hb); have n5_ := Aside0.mk (blk_below (g := gb298) (o := .cells #[.int .i64 t293, .bool t294, .slice Ao26 t295.length co26] 28 (0, 0)) (by (with_reducible repeat (first | refine blk_drewN ?_ _ | refine blk_drew ?_ | refine blk_alloc ?_ _)); refine blk_put (cs := #[.int .i64 t293, .bool t294, .slice none 0 0]) ?_ 2 _ rfl; (with_reducible repeat (first | refine blk_drewN ?_ _ | refine blk_drew ?_ | refine blk_alloc ?_ _)); refine blk_put (cs := #[.int .i64 t293, .bool false, .slice none 0 0]) ?_ 1 _ rfl; (with_reducible repeat (first | refine blk_drewN ?_ _ | refine blk_drew ?_ | refine blk_alloc ?_ _)); refine blk_put (cs := #[.int .i64 0, .bool false, .slice none 0 0]) ?_ 0 _ rfl; (with_reducible repeat (first | refine blk_drewN ?_ _ | refine blk_drew ?_ | refine blk_alloc ?_ _)); exact BK298.out) hb); have n6_ := Aside0.mk (below_step (by repeat (first | (with_reducible first | exact HB.out | apply below_alloc | apply pw_below_drewN | apply below_drew1 | refine below_set ?_ GE282.out | refine below_set ?_ GE298.out) | exact HB.out)) hb); clear HO288; clear HO291; clear HO297; clear BK282; clear BK298; clear HB; have HO288 := n0_; have HO291 := n1_; have HO297 := n2_; have HO301 := n3_; have BK282 := n4_; have BK298 := n5_; have HB := n6_; clear n0_ n1_ n2_ n3_ n4_ n5_ n6_; (try clear hb); (try clear hb2); (try clear hk); (try clear hi); (try clear ho0)))
    (try simp only [Act.put, List.setIfInBounds_toArray, List.set_cons_zero, List.set_cons_succ])
    go_cut [48] (fun v48 wc => ∃ (kq : Nat) (x48_12 : Bool), v48 = .bool x48_12 ∧ Aside0 (laws_FnExactFirstSpaced.j0 kq a1 a2 t289 t292 t299 t302 x48_12 a0_0 a0_1 l0_2 t293 t294 t295 = some r) ∧ Aside0 (kq ≤ k) ∧ Aside0 (Kd.R (Kd.int .i64) 3 wc w.heap.size (fun k_ => some k_ ≠ (v300 : Value).ownBlock ∧ some k_ ≠ ((.slice Ao26 t295.length co26) : Value).ownBlock) v290 t289) ∧ Aside0 (Kd.R (Kd.int .i64) 3 wc w.heap.size (fun k_ => some k_ ≠ (v290 : Value).ownBlock ∧ some k_ ≠ ((.slice Ao26 t295.length co26) : Value).ownBlock) v300 t299) ∧ Aside0 (Kd.R (Kd.int .i64) 3 wc w.heap.size (fun k_ => some k_ ≠ (v290 : Value).ownBlock ∧ some k_ ≠ (v300 : Value).ownBlock) (.slice Ao26 t295.length co26) t295) ∧ Aside0 (wc.heap[gb282]? = some (.cells #[.int .i64 a0_0, .bool a0_1, (.slice A0_2 l0_2.length c0_2)] 24 (0, 0))) ∧ Aside0 (wc.heap[gb298]? = some (.cells #[.int .i64 t293, .bool t294, (.slice Ao26 t295.length co26)] 28 (0, 0))) ∧ Aside0 (Below w.heap.size w wc))
    case first =>
      have H := HC13.out
      clear HC13
      replace H := Option.bind_eq_some_iff.mp H
      obtain ⟨t303, A280, H⟩ := H
      replace H : (if t303 = true then (laws_FnExactFirstSpaced.j0 k a1 a2 t289 t292 t299 t302 (t302 != t292) a0_0 a0_1 l0_2 t293 t294 t295) else (laws_FnExactFirstSpaced.j0 k a1 a2 t289 t292 t299 t302 true a0_0 a0_1 l0_2 t293 t294 t295)) = some r := H
      have A28 := Aside0.mk A280
      clear A280
      by_cases c29 : t303 = true
      · subst c29
        have H1 : (laws_FnExactFirstSpaced.j0 k a1 a2 t289 t292 t299 t302 (t302 != t292) a0_0 a0_1 l0_2 t293 t294 t295) = some r := by rw [if_pos rfl] at H; exact H
        clear H
        have H := H1
        clear H1
        have H' := Aside0.mk H
        clear H
        obtain ⟨Ao30, co30, eo30⟩ := Kd.R_slice HO301.out
        subst eo30
        obtain ⟨Ao31, co31, eo31⟩ := Kd.R_slice HO291.out
        subst eo31
        go_wp2_with (first | ((with_reducible refine gate_callee (f := 15) rfl ?_); refine goesL_ (some 42) rfl rfl Tryd.func15 (by kernel_rfl) rfl #[.slice Ao30 t299.length co30, .slice Ao31 t289.length co31] rfl (by (try simp only [List.map_toArray, List.map_cons, List.map_nil]); first | done | rfl | (simp only [List.length_drop, List.length_take]; rfl)) ?_; (with_reducible refine (laws_eqIntS.calls k _ _ t299 _ _ t289 true _ ?side1 ?side2 ?side3 ?side4 A28.out).mono ?_); (case side1 => repeat (first | exact (Kd.R_reads' HO301.out).2.2 | (with_reducible refine Kd.C_alloc ?_ _) | (with_reducible refine Kd.C_drewN ?_ _) | (with_reducible refine Kd.C_drew ?_))); (case side2 => exact (Kd.R_reads' HO301.out).2.1); (case side3 => repeat (first | exact (Kd.R_reads' HO291.out).2.2 | (with_reducible refine Kd.C_alloc ?_ _) | (with_reducible refine Kd.C_drewN ?_ _) | (with_reducible refine Kd.C_drew ?_))); (case side4 => exact (Kd.R_reads' HO291.out).2.1); rintro e w' ⟨rfl, ⟨nd, rfl⟩⟩; refine ⟨_, rfl, ?_⟩))
        go_meet
        case rel => exact ⟨_, ((t302 != t292)), (by first | rfl | (simp; done) | (simp [*]; done)), H', ⟨by first | omega | exact Nat.le_refl _⟩, ⟨by (with_reducible repeat (first | apply Kd.R_alloc | apply Kd.R_drewN | apply Kd.R_drew)); exact Kd.R_mono HO291.out (fun _ hk => ⟨hk.2, hk.1.2⟩)⟩, ⟨by (with_reducible repeat (first | apply Kd.R_alloc | apply Kd.R_drewN | apply Kd.R_drew)); exact Kd.R_mono HO301.out (fun _ hk => ⟨hk.1.2, hk.2⟩)⟩, ⟨by (with_reducible repeat (first | apply Kd.R_alloc | apply Kd.R_drewN | apply Kd.R_drew)); exact Kd.R_mono HO297.out (fun _ hk => ⟨hk.1.2, hk.2⟩)⟩, ⟨by first | (with_reducible exact BK282.out) | ((with_reducible repeat (first | refine blk_drewN ?_ _ | refine blk_drew ?_ | refine blk_alloc ?_ _)); exact BK282.out)⟩, ⟨by first | (with_reducible exact BK298.out) | ((with_reducible repeat (first | refine blk_drewN ?_ _ | refine blk_drew ?_ | refine blk_alloc ?_ _)); exact BK298.out)⟩, ⟨by repeat (first | (with_reducible first | exact HB.out | apply below_alloc | apply pw_below_drewN | apply below_drew1 | refine below_set ?_ GE282.out | refine below_set ?_ GE298.out) | exact HB.out)⟩⟩
      · replace c29 := Bool.eq_false_iff.mpr c29
        subst c29
        have H1 : (laws_FnExactFirstSpaced.j0 k a1 a2 t289 t292 t299 t302 true a0_0 a0_1 l0_2 t293 t294 t295) = some r := by rw [if_neg (show ¬ (false = true) by decide)] at H; exact H
        clear H
        have H := H1
        clear H1
        exact absurd ((laws_FnExactFirstSpaced.j0_no _ _ _ _ _ _ _ _ _ _ _ _ _ _ H).trans HRV.out) (by decide)
    case rest =>
      clear HC13
      try clear c1
      try clear c2
      try clear p2
      try clear c5
      try clear c5b0
      try clear c7
      try clear c9
      try clear c11
      try clear c15
      try clear c22
      try clear c23
      try clear c24
      try clear c29
      try clear hcz15_0
      try clear hcz15_1
      try clear hcz15_2
      try clear hcz17_0
      try clear hcz17_1
      try clear hcz17_2
      try clear hcz21_0
      try clear hcz21_1
      try clear hcz21_2
      try clear hcz25_0
      try clear hcz25_1
      try clear hcz25_2
      try clear hcz7_0
      try clear hcz7_1
      try clear hcz7_2
      try clear hfz15_0
      try clear hfz15_1
      try clear hfz15_2
      try clear hfz17_0
      try clear hfz17_1
      try clear hfz17_2
      try clear hfz21_0
      try clear hfz21_1
      try clear hfz21_2
      try clear hfz25_0
      try clear hfz25_1
      try clear hfz25_2
      try clear hfz7_0
      try clear hfz7_1
      try clear hfz7_2
      obtain ⟨kq, x48_12, rfl, HA, HJ12, HO_8, HO_11, HO_299002, BK282, BK298, HB⟩ := hcut
      cases kq with
      | zero => exact absurd HA.out (by simp [laws_FnExactFirstSpaced.j0])
      | succ kj12 =>
        have H := HA.out
        clear HA
        simp only [laws_FnExactFirstSpaced.j0] at H
        by_cases c32 : x48_12 = true
        · subst c32
          have H1 : (some false) = some r := by rw [if_pos rfl] at H; exact H
          clear H
          have H := H1
          clear H1
          exact absurd ((Option.some.inj H).trans HRV.out) (by decide)
        · replace c32 := Bool.eq_false_iff.mpr c32
          subst c32
          have H1 : ((laws_toRow.f kj12 a0_0 a0_1 l0_2).bind fun bt304 => ((laws_eqRow.f kj12 t293 t294 t295 bt304.1 bt304.2.1 bt304.2.2).bind fun t309 => (if t309 = true then ((laws_markRow.f kj12 t293 t294 t295 1).bind fun bt310 => (if bt310.1 < 0 then (laws_FnExactFirstSpaced.j1 kj12 a1 a2 t289 t292 t299 true a0_0 a0_1 l0_2) else ((laws_eqIntS.f kj12 t299 t289).bind fun t312 => (if t312 = true then (laws_FnExactFirstSpaced.j1 kj12 a1 a2 t289 t292 t299 (t302 != t292) a0_0 a0_1 l0_2) else (laws_FnExactFirstSpaced.j1 kj12 a1 a2 t289 t292 t299 true a0_0 a0_1 l0_2))))) else (some false)))) = some r := by rw [if_neg (show ¬ (false = true) by decide)] at H; exact H
          clear H
          have H := H1
          clear H1
          replace H := Option.bind_eq_some_iff.mp H
          obtain ⟨⟨t304, t305, t306⟩, A330, H⟩ := H
          replace H : ((laws_eqRow.f kj12 t293 t294 t295 t304 t305 t306).bind fun t309 => (if t309 = true then ((laws_markRow.f kj12 t293 t294 t295 1).bind fun bt310 => (if bt310.1 < 0 then (laws_FnExactFirstSpaced.j1 kj12 a1 a2 t289 t292 t299 true a0_0 a0_1 l0_2) else ((laws_eqIntS.f kj12 t299 t289).bind fun t312 => (if t312 = true then (laws_FnExactFirstSpaced.j1 kj12 a1 a2 t289 t292 t299 (t302 != t292) a0_0 a0_1 l0_2) else (laws_FnExactFirstSpaced.j1 kj12 a1 a2 t289 t292 t299 true a0_0 a0_1 l0_2))))) else (some false))) = some r := H
          have A33 := Aside0.mk A330
          clear A330
          replace H := Option.bind_eq_some_iff.mp H
          obtain ⟨t309, A340, H⟩ := H
          replace H : (if t309 = true then ((laws_markRow.f kj12 t293 t294 t295 1).bind fun bt310 => (if bt310.1 < 0 then (laws_FnExactFirstSpaced.j1 kj12 a1 a2 t289 t292 t299 true a0_0 a0_1 l0_2) else ((laws_eqIntS.f kj12 t299 t289).bind fun t312 => (if t312 = true then (laws_FnExactFirstSpaced.j1 kj12 a1 a2 t289 t292 t299 (t302 != t292) a0_0 a0_1 l0_2) else (laws_FnExactFirstSpaced.j1 kj12 a1 a2 t289 t292 t299 true a0_0 a0_1 l0_2))))) else (some false)) = some r := H
          have A34 := Aside0.mk A340
          clear A340
          by_cases c35 : t309 = true
          · subst c35
            have H1 : ((laws_markRow.f kj12 t293 t294 t295 1).bind fun bt310 => (if bt310.1 < 0 then (laws_FnExactFirstSpaced.j1 kj12 a1 a2 t289 t292 t299 true a0_0 a0_1 l0_2) else ((laws_eqIntS.f kj12 t299 t289).bind fun t312 => (if t312 = true then (laws_FnExactFirstSpaced.j1 kj12 a1 a2 t289 t292 t299 (t302 != t292) a0_0 a0_1 l0_2) else (laws_FnExactFirstSpaced.j1 kj12 a1 a2 t289 t292 t299 true a0_0 a0_1 l0_2))))) = some r := by rw [if_pos rfl] at H; exact H
            clear H
            have H := H1
            clear H1
            replace H := Option.bind_eq_some_iff.mp H
            obtain ⟨⟨t310, t311⟩, A360, H⟩ := H
            replace H : (if t310 < 0 then (laws_FnExactFirstSpaced.j1 kj12 a1 a2 t289 t292 t299 true a0_0 a0_1 l0_2) else ((laws_eqIntS.f kj12 t299 t289).bind fun t312 => (if t312 = true then (laws_FnExactFirstSpaced.j1 kj12 a1 a2 t289 t292 t299 (t302 != t292) a0_0 a0_1 l0_2) else (laws_FnExactFirstSpaced.j1 kj12 a1 a2 t289 t292 t299 true a0_0 a0_1 l0_2)))) = some r := H
            have A36 := Aside0.mk A360
            clear A360
            have HC37 := Aside0.mk H
            clear H
            try go_wp2
            have n0_ := Aside0.mk (Kd.R_drew HO_8.out)
            have n1_ := Aside0.mk (Kd.R_drew HO_11.out)
            have n2_ := Aside0.mk (Kd.R_drew HO_299002.out)
            have n3_ := Aside0.mk (blk_drew BK282.out)
            have n4_ := Aside0.mk (blk_drew BK298.out)
            have n5_ := Aside0.mk (below_drew1 HB.out)
            clear HO_8
            clear HO_11
            clear HO_299002
            clear BK282
            clear BK298
            clear HB
            have HO_8 := n0_
            have HO_11 := n1_
            have HO_299002 := n2_
            have BK282 := n3_
            have BK298 := n4_
            have HB := n5_
            clear n0_ n1_ n2_ n3_ n4_ n5_
            refine start_ (n := 5) (S := fun w' => w'.cell? ⟨gb298, 0, none⟩ = some (.int .i64 t293) ∧ w'.cell? ⟨gb298, 1, none⟩ = some (.bool t294) ∧ w'.cell? ⟨gb298, 2, none⟩ = some (.slice Ao26 t295.length co26) ∧ w'.cell? ⟨gb282, 0, none⟩ = some (.int .i64 a0_0) ∧ w'.cell? ⟨gb282, 1, none⟩ = some (.bool a0_1) ∧ w'.cell? ⟨gb282, 2, none⟩ = some (.slice A0_2 l0_2.length c0_2)) (ds := []) #[false, false, false, false, false] (by kernel_rfl) rfl rfl ⟨(blk_cell BK298.out 0).trans rfl, (blk_cell BK298.out 1).trans rfl, (blk_cell BK298.out 2).trans rfl, (blk_cell BK282.out 0).trans rfl, (blk_cell BK282.out 1).trans rfl, (blk_cell BK282.out 2).trans rfl⟩ (fun hHeld => ?_)
            generalize wc.drew = w38 at HO_8 HO_11 HO_299002 BK282 BK298 HB hHeld ⊢
            refine take_ (i := 0) (N := some 49) (v := ?_) (a' := ?_) #[true, false, false, false, false] rfl rfl (by kernel_rfl) (fun _ _ _ h => h) (Or.inl ⟨by rfl, ?_⟩) hHeld ?_ ?_
            rotate_left
            · rintro w' ⟨s0, s1, s2, s3, s4, s5⟩
              go_simp
              with_reducible rfl
            rotate_left
            · simp only [Act.put, List.setIfInBounds_toArray, List.set_cons_zero, List.set_cons_succ, i64_w, i32_w]
              rfl
            refine take_ (i := 1) (N := some 50) (v := ?_) (a' := ?_) #[true, true, false, false, false] rfl rfl (by kernel_rfl) (fun _ _ _ h => h) (Or.inl ⟨by rfl, ?_⟩) hHeld ?_ ?_
            rotate_left
            · rintro w' ⟨s0, s1, s2, s3, s4, s5⟩
              go_simp
              with_reducible rfl
            rotate_left
            · simp only [Act.put, List.setIfInBounds_toArray, List.set_cons_zero, List.set_cons_succ, i64_w, i32_w]
              rfl
            refine one_ (i := 2) (N := some 51) #[true, true, true, false, false] rfl rfl (by kernel_rfl) (by decide) (fun K hK => ?_)
            refine goes_ Tryd.func11 (by kernel_rfl) rfl #[.agg #[.int .i64 a0_0, .bool a0_1, .slice A0_2 l0_2.length c0_2]] (by rfl) rfl rfl (by (try simp only [List.map_toArray, List.map_cons, List.map_nil]); first | done | rfl | (simp only [List.length_drop, List.length_take]; rfl)) ?_
            with_reducible refine (laws_toRow.calls kj12 a0_0 a0_1 _ _ l0_2 t304 t305 t306 _ ?side1 ?side2 A33.out).mono ?_
            (case side1 => repeat (first | exact (Kd.C_below HR0_2.out HB.out) | (with_reducible refine Kd.C_alloc ?_ _) | (with_reducible refine Kd.C_drewN ?_ _) | (with_reducible refine Kd.C_drew ?_)))
            (case side2 => exact HC0_2.out)
            rintro e w39 ⟨v307, rfl, ho0, hb⟩
            refine ⟨_, rfl, ?_⟩
            have n0_ := Aside0.mk (Kd.R_elder' (by (with_reducible repeat (first | apply Kd.R_alloc | apply Kd.R_drewN | apply Kd.R_drew)); exact HO_8.out) (Kd.R_base ho0) hb)
            have n1_ := Aside0.mk (Kd.R_elder' (by (with_reducible repeat (first | apply Kd.R_alloc | apply Kd.R_drewN | apply Kd.R_drew)); exact HO_11.out) (Kd.R_base ho0) hb)
            have n2_ := Aside0.mk (Kd.R_elder' (by (with_reducible repeat (first | apply Kd.R_alloc | apply Kd.R_drewN | apply Kd.R_drew)); exact HO_299002.out) (Kd.R_base ho0) hb)
            have n3_ := Aside0.mk (Kd.R_lower (Kd.R_new' (Kd.R_new' (Kd.R_new' ho0 (Kd.R_lt (by (with_reducible repeat (first | apply Kd.R_alloc | apply Kd.R_drewN | apply Kd.R_drew)); exact HO_8.out))) (Kd.R_lt (by (with_reducible repeat (first | apply Kd.R_alloc | apply Kd.R_drewN | apply Kd.R_drew)); exact HO_11.out))) (Kd.R_lt (by (with_reducible repeat (first | apply Kd.R_alloc | apply Kd.R_drewN | apply Kd.R_drew)); exact HO_299002.out))) (below_size (by repeat (first | (with_reducible first | exact HB.out | apply below_alloc | apply pw_below_drewN | apply below_drew1 | refine below_set ?_ GE282.out | refine below_set ?_ GE298.out) | exact HB.out))))
            have n4_ := Aside0.mk (blk_below (g := gb282) (o := .cells #[.int .i64 a0_0, .bool a0_1, .slice A0_2 l0_2.length c0_2] 24 (0, 0)) (by first | (with_reducible exact BK282.out) | ((with_reducible repeat (first | refine blk_drewN ?_ _ | refine blk_drew ?_ | refine blk_alloc ?_ _)); exact BK282.out)) hb)
            have n5_ := Aside0.mk (blk_below (g := gb298) (o := .cells #[.int .i64 t293, .bool t294, .slice Ao26 t295.length co26] 28 (0, 0)) (by first | (with_reducible exact BK298.out) | ((with_reducible repeat (first | refine blk_drewN ?_ _ | refine blk_drew ?_ | refine blk_alloc ?_ _)); exact BK298.out)) hb)
            have n6_ := Aside0.mk (below_step (by repeat (first | (with_reducible first | exact HB.out | apply below_alloc | apply pw_below_drewN | apply below_drew1 | refine below_set ?_ GE282.out | refine below_set ?_ GE298.out) | exact HB.out)) hb)
            clear HO_8
            clear HO_11
            clear HO_299002
            clear BK282
            clear BK298
            clear HB
            have HO_8 := n0_
            have HO_11 := n1_
            have HO_299002 := n2_
            have HO308 := n3_
            have BK282 := n4_
            have BK298 := n5_
            have HB := n6_
            clear n0_ n1_ n2_ n3_ n4_ n5_ n6_
            (try clear hb)
            (try clear hb2)
            (try clear hk)
            (try clear hi)
            (try clear ho0)
            obtain ⟨Ao40, co40, eo40⟩ := Kd.R_slice HO308.out
            (first | subst eo40 | (injection eo40 with f1_ f2_ f3_; have f4_ := f1_.symm; have f5_ := f3_.symm; clear f1_ f2_ f3_; subst f4_; subst f5_))
            refine hK.out _ _ ⟨(blk_cell BK298.out 0).trans rfl, (blk_cell BK298.out 1).trans rfl, (blk_cell BK298.out 2).trans rfl, (blk_cell BK282.out 0).trans rfl, (blk_cell BK282.out 1).trans rfl, (blk_cell BK282.out 2).trans rfl⟩ (fun hHeld => ?_)
            clear hK K
            refine norm_ (a' := ?_) ?_ ?_
            rotate_left
            · show Act.put _ (some 51) _ = _
              simp only [Act.put, List.setIfInBounds_toArray, List.set_cons_zero, List.set_cons_succ, i64_w, i32_w]
              rfl
            refine one_ (i := 3) (N := some 52) #[true, true, true, true, false] rfl rfl (by kernel_rfl) (by decide) (fun K hK => ?_)
            refine goes_ Tryd.func14 (by kernel_rfl) rfl #[.agg #[.int .i64 t293, .bool t294, .slice Ao26 t295.length co26], .agg #[.int .i64 t304, .bool t305, .slice Ao40 t306.length co40]] (by rfl) rfl rfl (by (try simp only [List.map_toArray, List.map_cons, List.map_nil]); first | done | rfl | (simp only [List.length_drop, List.length_take]; rfl)) ?_
            with_reducible refine (laws_eqRow.calls kj12 t293 t294 _ _ t295 t304 t305 _ _ t306 true _ ?side1 ?side2 ?side3 ?side4 A34.out).mono ?_
            (case side1 => repeat (first | exact (Kd.R_reads' HO_299002.out).2.2 | (with_reducible refine Kd.C_alloc ?_ _) | (with_reducible refine Kd.C_drewN ?_ _) | (with_reducible refine Kd.C_drew ?_)))
            (case side2 => exact (Kd.R_reads' HO_299002.out).2.1)
            (case side3 => repeat (first | exact (Kd.R_reads' HO308.out).2.2 | (with_reducible refine Kd.C_alloc ?_ _) | (with_reducible refine Kd.C_drewN ?_ _) | (with_reducible refine Kd.C_drew ?_)))
            (case side4 => exact (Kd.R_reads' HO308.out).2.1)
            rintro e w41 ⟨rfl, hb⟩
            refine ⟨_, rfl, ?_⟩
            have n0_ := Aside0.mk (Kd.R_below (by (with_reducible repeat (first | apply Kd.R_alloc | apply Kd.R_drewN | apply Kd.R_drew)); exact HO_8.out) hb)
            have n1_ := Aside0.mk (Kd.R_below (by (with_reducible repeat (first | apply Kd.R_alloc | apply Kd.R_drewN | apply Kd.R_drew)); exact HO_11.out) hb)
            have n2_ := Aside0.mk (Kd.R_below (by (with_reducible repeat (first | apply Kd.R_alloc | apply Kd.R_drewN | apply Kd.R_drew)); exact HO_299002.out) hb)
            have n3_ := Aside0.mk (Kd.R_below (by (with_reducible repeat (first | apply Kd.R_alloc | apply Kd.R_drewN | apply Kd.R_drew)); exact HO308.out) hb)
            have n4_ := Aside0.mk (blk_below (g := gb282) (o := .cells #[.int .i64 a0_0, .bool a0_1, .slice A0_2 l0_2.length c0_2] 24 (0, 0)) (by first | (with_reducible exact BK282.out) | ((with_reducible repeat (first | refine blk_drewN ?_ _ | refine blk_drew ?_ | refine blk_alloc ?_ _)); exact BK282.out)) hb)
            have n5_ := Aside0.mk (blk_below (g := gb298) (o := .cells #[.int .i64 t293, .bool t294, .slice Ao26 t295.length co26] 28 (0, 0)) (by first | (with_reducible exact BK298.out) | ((with_reducible repeat (first | refine blk_drewN ?_ _ | refine blk_drew ?_ | refine blk_alloc ?_ _)); exact BK298.out)) hb)
            have n6_ := Aside0.mk (below_step (by repeat (first | (with_reducible first | exact HB.out | apply below_alloc | apply pw_below_drewN | apply below_drew1 | refine below_set ?_ GE282.out | refine below_set ?_ GE298.out) | exact HB.out)) hb)
            clear HO_8
            clear HO_11
            clear HO_299002
            clear HO308
            clear BK282
            clear BK298
            clear HB
            have HO_8 := n0_
            have HO_11 := n1_
            have HO_299002 := n2_
            have HO308 := n3_
            have BK282 := n4_
            have BK298 := n5_
            have HB := n6_
            clear n0_ n1_ n2_ n3_ n4_ n5_ n6_
            (try clear hb)
            (try clear hb2)
            (try clear hk)
            (try clear hi)
            refine hK.out _ _ ⟨(blk_cell BK298.out 0).trans rfl, (blk_cell BK298.out 1).trans rfl, (blk_cell BK298.out 2).trans rfl, (blk_cell BK282.out 0).trans rfl, (blk_cell BK282.out 1).trans rfl, (blk_cell BK282.out 2).trans rfl⟩ (fun hHeld => ?_)
            clear hK K
            refine norm_ (a' := ?_) ?_ ?_
            rotate_left
            · show Act.put _ (some 52) _ = _
              simp only [Act.put, List.setIfInBounds_toArray, List.set_cons_zero, List.set_cons_succ, i64_w, i32_w]
              rfl
            refine pure_ (i := 4) (N := some 53) (v := ?_) (a' := ?_) #[true, true, true, true, true] rfl rfl (by kernel_rfl) (fun _ _ _ h => h) (Or.inl ⟨by rfl, ?_⟩) ?_ ?_
            rotate_left
            · intro w'
              go_simp
              with_reducible rfl
            rotate_left
            · simp only [Act.put, List.setIfInBounds_toArray, List.set_cons_zero, List.set_cons_succ, i64_w, i32_w]
              rfl
            refine done_ (by kernel_rfl) ?_
            have hnb42 := NB298_282.out
            have hnc42 := NB282_298.out
            have hcz43_0 : w41.cell? ⟨gb298, 0, none⟩ = some (.int .i64 t293) := (blk_cell BK298.out 0).trans rfl
            have hcz43_1 : w41.cell? ⟨gb298, 1, none⟩ = some (.bool t294) := (blk_cell BK298.out 1).trans rfl
            have hcz43_2 : w41.cell? ⟨gb298, 2, none⟩ = some (.slice Ao26 t295.length co26) := (blk_cell BK298.out 2).trans rfl
            have hfz43_0 := blk_frozen BK298.out 0
            have hfz43_1 := blk_frozen BK298.out 1
            have hfz43_2 := blk_frozen BK298.out 2
            go_upto_region 14 with (first | ((with_reducible refine gate_callee (f := 24) rfl ?_); refine goesL_ (some 56) rfl rfl Tryd.func24 (by kernel_rfl) rfl #[.agg #[.int .i64 t293, .bool t294, .slice Ao26 t295.length co26], .int .i64 1] rfl (by (try simp only [List.map_toArray, List.map_cons, List.map_nil]); first | done | rfl | (simp only [List.length_drop, List.length_take]; rfl)) ?_; (with_reducible refine (laws_markRow.calls kj12 t293 t294 (fun k_ => some k_ = (.slice Ao26 t295.length co26 : Value).ownBlock) (.slice Ao26 t295.length co26) t295 1 t310 t311 w _ ?side1 ?side2 A36.out).mono ?_); (case side1 => repeat (first | (with_reducible first | exact HB.out | apply below_alloc | apply pw_below_drewN | apply below_drew1 | refine below_set ?_ GE282.out | refine below_set ?_ GE298.out) | exact HB.out)); (case side2 => exact Kd.R_tight rfl HO_299002.out); rintro e w44 ⟨rfl, hy0, hb, hkp⟩; refine ⟨_, rfl, ?_⟩; have n0_ := Aside0.mk (Kd.R_mono (ok' := fun k_ => some k_ ≠ (v300 : Value).ownBlock ∧ some k_ ≠ (.slice Ao26 t295.length co26 : Value).ownBlock ∧ some k_ ≠ (.slice Ao40 t306.length co40 : Value).ownBlock) (Kd.R_keptB (HO_8.out) hkp (fun k_ hk_ hs_ => (hk_.1.2) hs_)) (fun k_ hk_ => ⟨hk_.1.1.1, hk_.1.1.2, hk_.1.2⟩)); have n1_ := Aside0.mk (Kd.R_mono (ok' := fun k_ => some k_ ≠ (v290 : Value).ownBlock ∧ some k_ ≠ (.slice Ao26 t295.length co26 : Value).ownBlock ∧ some k_ ≠ (.slice Ao40 t306.length co40 : Value).ownBlock) (Kd.R_keptB (HO_11.out) hkp (fun k_ hk_ hs_ => (hk_.1.2) hs_)) (fun k_ hk_ => ⟨hk_.1.1.1, hk_.1.1.2, hk_.1.2⟩)); have n2_ := Aside0.mk (Kd.R_reok rfl hy0 (fun k_ e_ => HO_299002.out.1 k_ e_)); have n3_ := Aside0.mk (blk_kept (by first | (with_reducible exact BK282.out) | ((with_reducible repeat (first | refine blk_drewN ?_ _ | refine blk_drew ?_ | refine blk_alloc ?_ _)); exact BK282.out)) hkp (fun hs_ => (fun e_ => (Kd.R_ne HO_299002.out BK282.out (by decide)) e_) hs_)); have n4_ := Aside0.mk (blk_kept (by first | (with_reducible exact BK298.out) | ((with_reducible repeat (first | refine blk_drewN ?_ _ | refine blk_drew ?_ | refine blk_alloc ?_ _)); exact BK298.out)) hkp (fun hs_ => (fun e_ => (Kd.R_ne HO_299002.out BK298.out (by decide)) e_) hs_)); have n5_ := Aside0.mk (Kd.R_mono (ok' := fun k_ => some k_ ≠ (v290 : Value).ownBlock ∧ some k_ ≠ (v300 : Value).ownBlock ∧ some k_ ≠ (.slice Ao26 t295.length co26 : Value).ownBlock) (Kd.R_keptB (HO308.out) hkp (fun k_ hk_ hs_ => (hk_.2) hs_)) (fun k_ hk_ => ⟨hk_.1.1.1.2, hk_.1.1.2, hk_.1.2⟩)); have n6_ := Aside0.mk (hb); clear HO_8; clear HO_11; clear HO_299002; clear BK282; clear BK298; clear HO308; clear HB; have HO_8 := n0_; have HO_11 := n1_; have HO_299002 := n2_; have BK282 := n3_; have BK298 := n4_; have HO308 := n5_; have HB := n6_; clear n0_ n1_ n2_ n3_ n4_ n5_ n6_; (try clear hb); (try clear hkp); (try clear hy0)))
            (try simp only [Act.put, List.setIfInBounds_toArray, List.set_cons_zero, List.set_cons_succ])
            go_cut [69] (fun v69 wc => ∃ (kq : Nat) (x69_36 : Bool), v69 = .bool x69_36 ∧ Aside0 (laws_FnExactFirstSpaced.j1 kq a1 a2 t289 t292 t299 x69_36 a0_0 a0_1 l0_2 = some r) ∧ Aside0 (kq ≤ kj12) ∧ Aside0 (Kd.R (Kd.int .i64) 3 wc w.heap.size (fun k_ => some k_ ≠ (v300 : Value).ownBlock ∧ some k_ ≠ ((.slice Ao26 t295.length co26) : Value).ownBlock) v290 t289) ∧ Aside0 (Kd.R (Kd.int .i64) 3 wc w.heap.size (fun k_ => some k_ ≠ (v290 : Value).ownBlock ∧ some k_ ≠ ((.slice Ao26 t295.length co26) : Value).ownBlock) v300 t299) ∧ Aside0 (Kd.R (Kd.int .i64) 3 wc w.heap.size (fun k_ => some k_ ≠ (v290 : Value).ownBlock ∧ some k_ ≠ (v300 : Value).ownBlock) (.slice Ao26 t295.length co26) t311) ∧ Aside0 (wc.heap[gb282]? = some (.cells #[.int .i64 a0_0, .bool a0_1, (.slice A0_2 l0_2.length c0_2)] 24 (0, 0))) ∧ Aside0 (wc.heap[gb298]? = some (.cells #[.int .i64 t293, .bool t294, (.slice Ao26 t295.length co26)] 28 (0, 0))) ∧ Aside0 (Below w.heap.size w wc))
            case first =>
              have H := HC37.out
              clear HC37
              by_cases c45 : t310 < 0
              · rw [if_pos c45] at H
                have c45b0 : decide (t310 < 0) = true := decide_eq_true c45
                clear c45
                (first | rw [c45b0] | (simp only [i64_w, i32_w]; rw [c45b0]) | rw [c45b1] | skip)
                exact absurd ((laws_FnExactFirstSpaced.j1_no _ _ _ _ _ _ _ _ _ _ H).trans HRV.out) (by decide)
              · rw [if_neg c45] at H
                have c45b0 : decide (t310 < 0) = false := decide_eq_false c45
                clear c45
                (first | rw [c45b0] | (simp only [i64_w, i32_w]; rw [c45b0]) | rw [c45b1] | skip)
                replace H := Option.bind_eq_some_iff.mp H
                obtain ⟨t312, A460, H⟩ := H
                replace H : (if t312 = true then (laws_FnExactFirstSpaced.j1 kj12 a1 a2 t289 t292 t299 (t302 != t292) a0_0 a0_1 l0_2) else (laws_FnExactFirstSpaced.j1 kj12 a1 a2 t289 t292 t299 true a0_0 a0_1 l0_2)) = some r := H
                have A46 := Aside0.mk A460
                clear A460
                by_cases c47 : t312 = true
                · subst c47
                  have H1 : (laws_FnExactFirstSpaced.j1 kj12 a1 a2 t289 t292 t299 (t302 != t292) a0_0 a0_1 l0_2) = some r := by rw [if_pos rfl] at H; exact H
                  clear H
                  have H := H1
                  clear H1
                  have H' := Aside0.mk H
                  clear H
                  obtain ⟨Ao48, co48, eo48⟩ := Kd.R_slice HO_11.out
                  subst eo48
                  obtain ⟨Ao49, co49, eo49⟩ := Kd.R_slice HO_8.out
                  subst eo49
                  go_wp2_with (first | (go_at_call 15; (with_reducible refine (laws_eqIntS.calls kj12 _ _ t299 _ _ t289 true _ ?side1 ?side2 ?side3 ?side4 A46.out).mono ?_); (case side1 => repeat (first | exact (Kd.R_reads' HO_11.out).2.2 | (with_reducible refine Kd.C_alloc ?_ _) | (with_reducible refine Kd.C_drewN ?_ _) | (with_reducible refine Kd.C_drew ?_))); (case side2 => exact (Kd.R_reads' HO_11.out).2.1); (case side3 => repeat (first | exact (Kd.R_reads' HO_8.out).2.2 | (with_reducible refine Kd.C_alloc ?_ _) | (with_reducible refine Kd.C_drewN ?_ _) | (with_reducible refine Kd.C_drew ?_))); (case side4 => exact (Kd.R_reads' HO_8.out).2.1); rintro e w' ⟨rfl, ⟨nd, rfl⟩⟩))
                  go_meet
                  case rel => exact ⟨_, ((t302 != t292)), (by first | rfl | (simp; done) | (simp [*]; done)), H', ⟨by have := HJ12.out; first | omega | exact Nat.le_refl _⟩, ⟨by (with_reducible repeat (first | apply Kd.R_alloc | apply Kd.R_drewN | apply Kd.R_drew)); exact Kd.R_mono HO_8.out (fun _ hk => ⟨hk.1, hk.2.1⟩)⟩, ⟨by (with_reducible repeat (first | apply Kd.R_alloc | apply Kd.R_drewN | apply Kd.R_drew)); exact Kd.R_mono HO_11.out (fun _ hk => ⟨hk.1, hk.2.1⟩)⟩, ⟨by (with_reducible repeat (first | apply Kd.R_alloc | apply Kd.R_drewN | apply Kd.R_drew)); exact Kd.R_mono HO_299002.out (fun _ hk => ⟨hk.1.1, hk.1.2⟩)⟩, ⟨by first | (with_reducible exact BK282.out) | ((with_reducible repeat (first | refine blk_drewN ?_ _ | refine blk_drew ?_ | refine blk_alloc ?_ _)); exact BK282.out)⟩, ⟨by first | (with_reducible exact BK298.out) | ((with_reducible repeat (first | refine blk_drewN ?_ _ | refine blk_drew ?_ | refine blk_alloc ?_ _)); exact BK298.out)⟩, ⟨by repeat (first | (with_reducible first | exact HB.out | apply below_alloc | apply pw_below_drewN | apply below_drew1 | refine below_set ?_ GE282.out | refine below_set ?_ GE298.out) | exact HB.out)⟩⟩
                · replace c47 := Bool.eq_false_iff.mpr c47
                  subst c47
                  have H1 : (laws_FnExactFirstSpaced.j1 kj12 a1 a2 t289 t292 t299 true a0_0 a0_1 l0_2) = some r := by rw [if_neg (show ¬ (false = true) by decide)] at H; exact H
                  clear H
                  have H := H1
                  clear H1
                  exact absurd ((laws_FnExactFirstSpaced.j1_no _ _ _ _ _ _ _ _ _ _ H).trans HRV.out) (by decide)
            case rest =>
              clear HC37
              try clear c1
              try clear c2
              try clear p2
              try clear c3
              try clear c4
              try clear c5
              try clear c5b0
              try clear c7
              try clear c9
              try clear c11
              try clear c14
              try clear c15
              try clear c22
              try clear c23
              try clear c24
              try clear c29
              try clear c32
              try clear c35
              try clear c42
              try clear c45
              try clear c45b0
              try clear c45b1
              try clear c47
              try clear hcz15_0
              try clear hcz15_1
              try clear hcz15_2
              try clear hcz17_0
              try clear hcz17_1
              try clear hcz17_2
              try clear hcz21_0
              try clear hcz21_1
              try clear hcz21_2
              try clear hcz25_0
              try clear hcz25_1
              try clear hcz25_2
              try clear hcz43_0
              try clear hcz43_1
              try clear hcz43_2
              try clear hcz7_0
              try clear hcz7_1
              try clear hcz7_2
              try clear hfz15_0
              try clear hfz15_1
              try clear hfz15_2
              try clear hfz17_0
              try clear hfz17_1
              try clear hfz17_2
              try clear hfz21_0
              try clear hfz21_1
              try clear hfz21_2
              try clear hfz25_0
              try clear hfz25_1
              try clear hfz25_2
              try clear hfz43_0
              try clear hfz43_1
              try clear hfz43_2
              try clear hfz7_0
              try clear hfz7_1
              try clear hfz7_2
              try clear p2
              obtain ⟨kq, x69_36, rfl, HA, HJ36, HO_8, HO_11, HO_299002, BK282, BK298, HB⟩ := hcut
              have hl299002_36 := (Kd.R_reads' HO_299002.out).1
              rw [hl299002_36] at HO_299002
              (try simp only [hl299002_36])
              (try simp only [hl299002_36] at BK282)
              (try simp only [hl299002_36] at BK298)
              (try simp only [hl299002_36] at HO_8)
              (try simp only [hl299002_36] at HO_11)
              cases kq with
              | zero => exact absurd HA.out (by simp [laws_FnExactFirstSpaced.j1])
              | succ kj36 =>
                have H := HA.out
                clear HA
                simp only [laws_FnExactFirstSpaced.j1] at H
                by_cases c50 : x69_36 = true
                · subst c50
                  have H1 : (some false) = some r := by rw [if_pos rfl] at H; exact H
                  clear H
                  have H := H1
                  clear H1
                  exact absurd ((Option.some.inj H).trans HRV.out) (by decide)
                · replace c50 := Bool.eq_false_iff.mpr c50
                  subst c50
                  have H1 : ((laws_markIntS.f kj36 t299 1).bind fun bt313 => ((laws_heldIntS.f kj36 bt313.2 1).bind fun t315 => (if t315 < 0 then (some false) else (if t315 = bt313.1 then ((laws_toRow.f kj36 a0_0 a0_1 l0_2).bind fun bt316 => ((impl_FirstSpaced.f kj36 bt316.1 bt316.2.1 bt316.2.2 a1 a2).bind fun bt321 => ((laws_eqIntS.f kj36 bt321.1 t289).bind fun t325 => (if t325 = true then (laws_FnExactFirstSpaced.j2 kj36 bt313.2 bt313.1 (bt321.2 != t292)) else (laws_FnExactFirstSpaced.j2 kj36 bt313.2 bt313.1 true))))) else (some false))))) = some r := by rw [if_neg (show ¬ (false = true) by decide)] at H; exact H
                  clear H
                  have H := H1
                  clear H1
                  replace H := Option.bind_eq_some_iff.mp H
                  obtain ⟨⟨t313, t314⟩, A510, H⟩ := H
                  replace H : ((laws_heldIntS.f kj36 t314 1).bind fun t315 => (if t315 < 0 then (some false) else (if t315 = t313 then ((laws_toRow.f kj36 a0_0 a0_1 l0_2).bind fun bt316 => ((impl_FirstSpaced.f kj36 bt316.1 bt316.2.1 bt316.2.2 a1 a2).bind fun bt321 => ((laws_eqIntS.f kj36 bt321.1 t289).bind fun t325 => (if t325 = true then (laws_FnExactFirstSpaced.j2 kj36 t314 t313 (bt321.2 != t292)) else (laws_FnExactFirstSpaced.j2 kj36 t314 t313 true))))) else (some false)))) = some r := H
                  have A51 := Aside0.mk A510
                  clear A510
                  replace H := Option.bind_eq_some_iff.mp H
                  obtain ⟨t315, A520, H⟩ := H
                  replace H : (if t315 < 0 then (some false) else (if t315 = t313 then ((laws_toRow.f kj36 a0_0 a0_1 l0_2).bind fun bt316 => ((impl_FirstSpaced.f kj36 bt316.1 bt316.2.1 bt316.2.2 a1 a2).bind fun bt321 => ((laws_eqIntS.f kj36 bt321.1 t289).bind fun t325 => (if t325 = true then (laws_FnExactFirstSpaced.j2 kj36 t314 t313 (bt321.2 != t292)) else (laws_FnExactFirstSpaced.j2 kj36 t314 t313 true))))) else (some false))) = some r := H
                  have A52 := Aside0.mk A520
                  clear A520
                  by_cases c53 : t315 < 0
                  · rw [if_pos c53] at H
                    have c53b0 : decide (t315 < 0) = true := decide_eq_true c53
                    clear c53
                    exact absurd ((Option.some.inj H).trans HRV.out) (by decide)
                  · rw [if_neg c53] at H
                    have c53b0 : decide (t315 < 0) = false := decide_eq_false c53
                    clear c53
                    by_cases c54 : t315 = t313
                    · rw [if_pos c54] at H
                      have c54b0 : (t315 == t313) = true := beq_iff_eq.mpr c54
                      have c54b1 : (t315 != t313) = false := bne_eq_false_iff_eq.mpr c54
                      clear c54
                      replace H := Option.bind_eq_some_iff.mp H
                      obtain ⟨⟨t316, t317, t318⟩, A550, H⟩ := H
                      replace H : ((impl_FirstSpaced.f kj36 t316 t317 t318 a1 a2).bind fun bt321 => ((laws_eqIntS.f kj36 bt321.1 t289).bind fun t325 => (if t325 = true then (laws_FnExactFirstSpaced.j2 kj36 t314 t313 (bt321.2 != t292)) else (laws_FnExactFirstSpaced.j2 kj36 t314 t313 true)))) = some r := H
                      have A55 := Aside0.mk A550
                      clear A550
                      replace H := Option.bind_eq_some_iff.mp H
                      obtain ⟨⟨t321, t324⟩, A560, H⟩ := H
                      replace H : ((laws_eqIntS.f kj36 t321 t289).bind fun t325 => (if t325 = true then (laws_FnExactFirstSpaced.j2 kj36 t314 t313 (t324 != t292)) else (laws_FnExactFirstSpaced.j2 kj36 t314 t313 true))) = some r := H
                      have A56 := Aside0.mk A560
                      clear A560
                      have HC57 := Aside0.mk H
                      clear H
                      obtain ⟨Ao58, co58, eo58⟩ := Kd.R_slice HO_11.out
                      subst eo58
                      go_upto_region 25 with (first | ((with_reducible refine gate_callee (f := 25) rfl ?_); refine goesL_ (some 72) rfl rfl Tryd.func25 (by kernel_rfl) rfl #[.slice Ao58 t299.length co58, .int .i64 1] rfl (by (try simp only [List.map_toArray, List.map_cons, List.map_nil]); first | done | rfl | (simp only [List.length_drop, List.length_take]; rfl)) ?_; (with_reducible refine (laws_markIntS.calls kj36 (fun k_ => some k_ = (.slice Ao58 t299.length co58 : Value).ownBlock) (.slice Ao58 t299.length co58) t299 1 t313 t314 w _ ?side1 ?side2 A51.out).mono ?_); (case side1 => repeat (first | (with_reducible first | exact HB.out | apply below_alloc | apply pw_below_drewN | apply below_drew1 | refine below_set ?_ GE282.out | refine below_set ?_ GE298.out) | exact HB.out)); (case side2 => exact Kd.R_tight rfl HO_11.out); rintro e w59 ⟨rfl, hy0, hb, hkp⟩; refine ⟨_, rfl, ?_⟩; have n0_ := Aside0.mk (Kd.R_mono (ok' := fun k_ => some k_ ≠ (.slice Ao58 t299.length co58 : Value).ownBlock ∧ some k_ ≠ (.slice Ao26 t311.length co26 : Value).ownBlock) (Kd.R_keptB (HO_8.out) hkp (fun k_ hk_ hs_ => (hk_.1) hs_)) (fun k_ hk_ => ⟨hk_.1.1, hk_.1.2⟩)); have n1_ := Aside0.mk (Kd.R_reok rfl hy0 (fun k_ e_ => HO_11.out.1 k_ e_)); have n2_ := Aside0.mk (Kd.R_mono (ok' := fun k_ => some k_ ≠ (v290 : Value).ownBlock ∧ some k_ ≠ (.slice Ao58 t299.length co58 : Value).ownBlock) (Kd.R_keptB (HO_299002.out) hkp (fun k_ hk_ hs_ => (hk_.2) hs_)) (fun k_ hk_ => ⟨hk_.1.1, hk_.1.2⟩)); have n3_ := Aside0.mk (blk_kept (by first | (with_reducible exact BK282.out) | ((with_reducible repeat (first | refine blk_drewN ?_ _ | refine blk_drew ?_ | refine blk_alloc ?_ _)); exact BK282.out)) hkp (fun hs_ => (fun e_ => (Kd.R_ne HO_11.out BK282.out (by decide)) e_) hs_)); have n4_ := Aside0.mk (blk_kept (by first | (with_reducible exact BK298.out) | ((with_reducible repeat (first | refine blk_drewN ?_ _ | refine blk_drew ?_ | refine blk_alloc ?_ _)); exact BK298.out)) hkp (fun hs_ => (fun e_ => (Kd.R_ne HO_11.out BK298.out (by decide)) e_) hs_)); have n5_ := Aside0.mk (hb); clear HO_8; clear HO_11; clear HO_299002; clear BK282; clear BK298; clear HB; have HO_8 := n0_; have HO_11 := n1_; have HO_299002 := n2_; have BK282 := n3_; have BK298 := n4_; have HB := n5_; clear n0_ n1_ n2_ n3_ n4_ n5_; (try clear hb); (try clear hkp); (try clear hy0)) | ((with_reducible refine gate_callee (f := 26) rfl ?_); refine goesL_ (some 75) rfl rfl Tryd.func26 (by kernel_rfl) rfl #[.slice Ao58 t314.length co58, .int .i64 1] rfl (by (try simp only [List.map_toArray, List.map_cons, List.map_nil]); first | done | (rw [show t314.length = t299.length from (Kd.R_reads' HO_11.out).1.symm] <;> rfl) | rfl | (simp only [List.length_drop, List.length_take]; rfl)) ?_; (with_reducible refine (laws_heldIntS.calls kj36 _ _ t314 1 t315 _ ?side1 ?side2 A52.out).mono ?_); (case side1 => repeat (first | exact (Kd.R_reads' HO_11.out).2.2 | (with_reducible refine Kd.C_alloc ?_ _) | (with_reducible refine Kd.C_drewN ?_ _) | (with_reducible refine Kd.C_drew ?_))); (case side2 => rw [show t314.length = t299.length from (Kd.R_reads' HO_11.out).1.symm]; exact (Kd.R_reads' HO_11.out).2.1); rintro e w' ⟨rfl, ⟨nd, rfl⟩⟩; refine ⟨_, rfl, ?_⟩; have hnb60 := NB282_298.out; have hnc60 := NB298_282.out; have hcz61_0 : w59.cell? ⟨gb282, 0, none⟩ = some (.int .i64 a0_0) := (blk_cell BK282.out 0).trans rfl; have hcz61_1 : w59.cell? ⟨gb282, 1, none⟩ = some (.bool a0_1) := (blk_cell BK282.out 1).trans rfl; have hcz61_2 : w59.cell? ⟨gb282, 2, none⟩ = some (.slice A0_2 l0_2.length c0_2) := (blk_cell BK282.out 2).trans rfl; have hfz61_0 := blk_frozen BK282.out 0; have hfz61_1 := blk_frozen BK282.out 1; have hfz61_2 := blk_frozen BK282.out 2) | ((with_reducible refine gate_callee (f := 11) rfl ?_); refine goesL_ (some 83) rfl rfl Tryd.func11 (by kernel_rfl) rfl #[.agg #[.int .i64 a0_0, .bool a0_1, .slice A0_2 l0_2.length c0_2]] rfl (by (try simp only [List.map_toArray, List.map_cons, List.map_nil]); first | done | rfl | (simp only [List.length_drop, List.length_take]; rfl)) ?_; (with_reducible refine (laws_toRow.calls kj36 a0_0 a0_1 _ _ l0_2 t316 t317 t318 _ ?side1 ?side2 A55.out).mono ?_); (case side1 => repeat (first | exact (Kd.C_below HR0_2.out (by repeat (first | (with_reducible first | exact HB.out | apply below_alloc | apply pw_below_drewN | apply below_drew1 | refine below_set ?_ GE282.out | refine below_set ?_ GE298.out) | exact HB.out))) | (with_reducible refine Kd.C_alloc ?_ _) | (with_reducible refine Kd.C_drewN ?_ _) | (with_reducible refine Kd.C_drew ?_))); (case side2 => exact HC0_2.out); rintro e w62 ⟨v319, rfl, ho0, hb⟩; refine ⟨_, rfl, ?_⟩; have n0_ := Aside0.mk (Kd.R_elder' (by (with_reducible repeat (first | apply Kd.R_alloc | apply Kd.R_drewN | apply Kd.R_drew)); exact HO_8.out) (Kd.R_base ho0) hb); have n1_ := Aside0.mk (Kd.R_elder' (by (with_reducible repeat (first | apply Kd.R_alloc | apply Kd.R_drewN | apply Kd.R_drew)); exact HO_11.out) (Kd.R_base ho0) hb); have n2_ := Aside0.mk (Kd.R_elder' (by (with_reducible repeat (first | apply Kd.R_alloc | apply Kd.R_drewN | apply Kd.R_drew)); exact HO_299002.out) (Kd.R_base ho0) hb); have n3_ := Aside0.mk (Kd.R_lower (Kd.R_new' (Kd.R_new' (Kd.R_new' ho0 (Kd.R_lt (by (with_reducible repeat (first | apply Kd.R_alloc | apply Kd.R_drewN | apply Kd.R_drew)); exact HO_8.out))) (Kd.R_lt (by (with_reducible repeat (first | apply Kd.R_alloc | apply Kd.R_drewN | apply Kd.R_drew)); exact HO_11.out))) (Kd.R_lt (by (with_reducible repeat (first | apply Kd.R_alloc | apply Kd.R_drewN | apply Kd.R_drew)); exact HO_299002.out))) (below_size (by repeat (first | (with_reducible first | exact HB.out | apply below_alloc | apply pw_below_drewN | apply below_drew1 | refine below_set ?_ GE282.out | refine below_set ?_ GE298.out) | exact HB.out)))); have n4_ := Aside0.mk (blk_below (g := gb282) (o := .cells #[.int .i64 a0_0, .bool a0_1, .slice A0_2 l0_2.length c0_2] 24 (0, 0)) (by first | (with_reducible exact BK282.out) | ((with_reducible repeat (first | refine blk_drewN ?_ _ | refine blk_drew ?_ | refine blk_alloc ?_ _)); exact BK282.out)) hb); have n5_ := Aside0.mk (blk_below (g := gb298) (o := .cells #[.int .i64 t293, .bool t294, .slice Ao26 t311.length co26] 28 (0, 0)) (by first | (with_reducible exact BK298.out) | ((with_reducible repeat (first | refine blk_drewN ?_ _ | refine blk_drew ?_ | refine blk_alloc ?_ _)); exact BK298.out)) hb); have n6_ := Aside0.mk (below_step (by repeat (first | (with_reducible first | exact HB.out | apply below_alloc | apply pw_below_drewN | apply below_drew1 | refine below_set ?_ GE282.out | refine below_set ?_ GE298.out) | exact HB.out)) hb); clear HO_8; clear HO_11; clear HO_299002; clear BK282; clear BK298; clear HB; have HO_8 := n0_; have HO_11 := n1_; have HO_299002 := n2_; have HO320 := n3_; have BK282 := n4_; have BK298 := n5_; have HB := n6_; clear n0_ n1_ n2_ n3_ n4_ n5_ n6_; (try clear hb); (try clear hb2); (try clear hk); (try clear hi); (try clear ho0); obtain ⟨Ao63, co63, eo63⟩ := Kd.R_slice HO320.out; subst eo63) | ((with_reducible refine gate_callee (f := 23) rfl ?_); refine goesL_ (some 86) rfl rfl Tryd.func23 (by kernel_rfl) rfl #[.agg #[.int .i64 t316, .bool t317, .slice Ao63 t318.length co63], .int .i64 a1, .int .i64 a2] rfl (by (try simp only [List.map_toArray, List.map_cons, List.map_nil]); first | done | rfl | (simp only [List.length_drop, List.length_take]; rfl)) ?_; (with_reducible refine (impl_FirstSpaced.calls kj36 t316 t317 _ _ t318 a1 a2 t321 t324 _ ?side1 ?side2 ?side3 A56.out).mono ?_); (case side1 => repeat (first | exact (Kd.R_reads' HO320.out).2.2 | (with_reducible refine Kd.C_alloc ?_ _) | (with_reducible refine Kd.C_drewN ?_ _) | (with_reducible refine Kd.C_drew ?_))); (case side2 => exact (Kd.R_reads' HO320.out).2.1); (case side3 => exact GT.below HRT.out (by repeat (first | (with_reducible first | exact HB.out | apply below_alloc | apply pw_below_drewN | apply below_drew1 | refine below_set ?_ GE282.out | refine below_set ?_ GE298.out) | exact HB.out))); rintro e w64 ⟨v322, rfl, ho0, hb⟩; refine ⟨_, rfl, ?_⟩; have n0_ := Aside0.mk (Kd.R_elder' (by (with_reducible repeat (first | apply Kd.R_alloc | apply Kd.R_drewN | apply Kd.R_drew)); exact HO_8.out) (Kd.R_base ho0) hb); have n1_ := Aside0.mk (Kd.R_elder' (by (with_reducible repeat (first | apply Kd.R_alloc | apply Kd.R_drewN | apply Kd.R_drew)); exact HO_11.out) (Kd.R_base ho0) hb); have n2_ := Aside0.mk (Kd.R_elder' (by (with_reducible repeat (first | apply Kd.R_alloc | apply Kd.R_drewN | apply Kd.R_drew)); exact HO_299002.out) (Kd.R_base ho0) hb); have n3_ := Aside0.mk (Kd.R_elder' (by (with_reducible repeat (first | apply Kd.R_alloc | apply Kd.R_drewN | apply Kd.R_drew)); exact HO320.out) (Kd.R_base ho0) hb); have n4_ := Aside0.mk (Kd.R_lower (Kd.R_new' (Kd.R_new' (Kd.R_new' (Kd.R_new' ho0 (Kd.R_lt (by (with_reducible repeat (first | apply Kd.R_alloc | apply Kd.R_drewN | apply Kd.R_drew)); exact HO_8.out))) (Kd.R_lt (by (with_reducible repeat (first | apply Kd.R_alloc | apply Kd.R_drewN | apply Kd.R_drew)); exact HO_11.out))) (Kd.R_lt (by (with_reducible repeat (first | apply Kd.R_alloc | apply Kd.R_drewN | apply Kd.R_drew)); exact HO_299002.out))) (Kd.R_lt (by (with_reducible repeat (first | apply Kd.R_alloc | apply Kd.R_drewN | apply Kd.R_drew)); exact HO320.out))) (below_size (by repeat (first | (with_reducible first | exact HB.out | apply below_alloc | apply pw_below_drewN | apply below_drew1 | refine below_set ?_ GE282.out | refine below_set ?_ GE298.out) | exact HB.out)))); have n5_ := Aside0.mk (blk_below (g := gb282) (o := .cells #[.int .i64 a0_0, .bool a0_1, .slice A0_2 l0_2.length c0_2] 24 (0, 0)) (by first | (with_reducible exact BK282.out) | ((with_reducible repeat (first | refine blk_drewN ?_ _ | refine blk_drew ?_ | refine blk_alloc ?_ _)); exact BK282.out)) hb); have n6_ := Aside0.mk (blk_below (g := gb298) (o := .cells #[.int .i64 t293, .bool t294, .slice Ao26 t311.length co26] 28 (0, 0)) (by first | (with_reducible exact BK298.out) | ((with_reducible repeat (first | refine blk_drewN ?_ _ | refine blk_drew ?_ | refine blk_alloc ?_ _)); exact BK298.out)) hb); have n7_ := Aside0.mk (below_step (by repeat (first | (with_reducible first | exact HB.out | apply below_alloc | apply pw_below_drewN | apply below_drew1 | refine below_set ?_ GE282.out | refine below_set ?_ GE298.out) | exact HB.out)) hb); clear HO_8; clear HO_11; clear HO_299002; clear HO320; clear BK282; clear BK298; clear HB; have HO_8 := n0_; have HO_11 := n1_; have HO_299002 := n2_; have HO320 := n3_; have HO323 := n4_; have BK282 := n5_; have BK298 := n6_; have HB := n7_; clear n0_ n1_ n2_ n3_ n4_ n5_ n6_ n7_; (try clear hb); (try clear hb2); (try clear hk); (try clear hi); (try clear ho0)))
                      (try simp only [Act.put, List.setIfInBounds_toArray, List.set_cons_zero, List.set_cons_succ])
                      go_cut [97] (fun v97 wc => ∃ (kq : Nat) (x97_56 : Bool), v97 = .bool x97_56 ∧ Aside0 (laws_FnExactFirstSpaced.j2 kq t314 t313 x97_56 = some r) ∧ Aside0 (kq ≤ kj36) ∧ Aside0 (Kd.R (Kd.int .i64) 3 wc w.heap.size (fun k_ => some k_ ≠ ((.slice Ao26 t311.length co26) : Value).ownBlock) (.slice Ao58 t299.length co58) t314) ∧ Aside0 (Kd.R (Kd.int .i64) 3 wc w.heap.size (fun k_ => some k_ ≠ ((.slice Ao58 t299.length co58) : Value).ownBlock) (.slice Ao26 t311.length co26) t311) ∧ Aside0 (wc.heap[gb282]? = some (.cells #[.int .i64 a0_0, .bool a0_1, (.slice A0_2 l0_2.length c0_2)] 24 (0, 0))) ∧ Aside0 (wc.heap[gb298]? = some (.cells #[.int .i64 t293, .bool t294, (.slice Ao26 t311.length co26)] 28 (0, 0))) ∧ Aside0 (Below w.heap.size w wc))
                      case first =>
                        have H := HC57.out
                        clear HC57
                        replace H := Option.bind_eq_some_iff.mp H
                        obtain ⟨t325, A650, H⟩ := H
                        replace H : (if t325 = true then (laws_FnExactFirstSpaced.j2 kj36 t314 t313 (t324 != t292)) else (laws_FnExactFirstSpaced.j2 kj36 t314 t313 true)) = some r := H
                        have A65 := Aside0.mk A650
                        clear A650
                        by_cases c66 : t325 = true
                        · subst c66
                          have H1 : (laws_FnExactFirstSpaced.j2 kj36 t314 t313 (t324 != t292)) = some r := by rw [if_pos rfl] at H; exact H
                          clear H
                          have H := H1
                          clear H1
                          have H' := Aside0.mk H
                          clear H
                          obtain ⟨Ao67, co67, eo67⟩ := Kd.R_slice HO323.out
                          subst eo67
                          obtain ⟨Ao68, co68, eo68⟩ := Kd.R_slice HO_8.out
                          subst eo68
                          go_wp2_with (first | ((with_reducible refine gate_callee (f := 15) rfl ?_); refine goesL_ (some 91) rfl rfl Tryd.func15 (by kernel_rfl) rfl #[.slice Ao67 t321.length co67, .slice Ao68 t289.length co68] rfl (by (try simp only [List.map_toArray, List.map_cons, List.map_nil]); first | done | rfl | (simp only [List.length_drop, List.length_take]; rfl)) ?_; (with_reducible refine (laws_eqIntS.calls kj36 _ _ t321 _ _ t289 true _ ?side1 ?side2 ?side3 ?side4 A65.out).mono ?_); (case side1 => repeat (first | exact (Kd.R_reads' HO323.out).2.2 | (with_reducible refine Kd.C_alloc ?_ _) | (with_reducible refine Kd.C_drewN ?_ _) | (with_reducible refine Kd.C_drew ?_))); (case side2 => exact (Kd.R_reads' HO323.out).2.1); (case side3 => repeat (first | exact (Kd.R_reads' HO_8.out).2.2 | (with_reducible refine Kd.C_alloc ?_ _) | (with_reducible refine Kd.C_drewN ?_ _) | (with_reducible refine Kd.C_drew ?_))); (case side4 => exact (Kd.R_reads' HO_8.out).2.1); rintro e w' ⟨rfl, ⟨nd, rfl⟩⟩; refine ⟨_, rfl, ?_⟩))
                          go_meet
                          case rel => exact ⟨_, ((t324 != t292)), (by first | rfl | (simp; done) | (simp [*]; done)), H', ⟨by have := HJ12.out; have := HJ36.out; first | omega | exact Nat.le_refl _⟩, ⟨by (try simp only [hl299002_36]); (with_reducible repeat (first | apply Kd.R_alloc | apply Kd.R_drewN | apply Kd.R_drew)); exact Kd.R_mono HO_11.out (fun _ hk => hk.1.1.2)⟩, ⟨by (try simp only [hl299002_36]); (with_reducible repeat (first | apply Kd.R_alloc | apply Kd.R_drewN | apply Kd.R_drew)); exact Kd.R_mono HO_299002.out (fun _ hk => hk.1.1.2)⟩, ⟨by (try simp only [hl299002_36]); first | (with_reducible exact BK282.out) | ((with_reducible repeat (first | refine blk_drewN ?_ _ | refine blk_drew ?_ | refine blk_alloc ?_ _)); exact BK282.out)⟩, ⟨by (try simp only [hl299002_36]); first | (with_reducible exact BK298.out) | ((with_reducible repeat (first | refine blk_drewN ?_ _ | refine blk_drew ?_ | refine blk_alloc ?_ _)); exact BK298.out)⟩, ⟨by repeat (first | (with_reducible first | exact HB.out | apply below_alloc | apply pw_below_drewN | apply below_drew1 | refine below_set ?_ GE282.out | refine below_set ?_ GE298.out) | exact HB.out)⟩⟩
                        · replace c66 := Bool.eq_false_iff.mpr c66
                          subst c66
                          have H1 : (laws_FnExactFirstSpaced.j2 kj36 t314 t313 true) = some r := by rw [if_neg (show ¬ (false = true) by decide)] at H; exact H
                          clear H
                          have H := H1
                          clear H1
                          exact absurd ((laws_FnExactFirstSpaced.j2_no _ _ _ _ H).trans HRV.out) (by decide)
                      case rest =>
                        clear HC57
                        try clear c1
                        try clear c2
                        try clear p2
                        try clear c3
                        try clear c4
                        try clear c5
                        try clear c5b0
                        try clear c6
                        try clear c7
                        try clear c9
                        try clear c11
                        try clear c14
                        try clear c15
                        try clear c22
                        try clear c23
                        try clear c24
                        try clear c25
                        try clear c26
                        try clear c29
                        try clear c32
                        try clear c35
                        try clear c42
                        try clear c45
                        try clear c45b0
                        try clear c45b1
                        try clear c47
                        try clear c50
                        try clear c53
                        try clear c53b0
                        try clear c54
                        try clear c54b0
                        try clear c54b1
                        try clear c60
                        try clear c66
                        try clear hcz15_0
                        try clear hcz15_1
                        try clear hcz15_2
                        try clear hcz17_0
                        try clear hcz17_1
                        try clear hcz17_2
                        try clear hcz21_0
                        try clear hcz21_1
                        try clear hcz21_2
                        try clear hcz25_0
                        try clear hcz25_1
                        try clear hcz25_2
                        try clear hcz43_0
                        try clear hcz43_1
                        try clear hcz43_2
                        try clear hcz61_0
                        try clear hcz61_1
                        try clear hcz61_2
                        try clear hcz7_0
                        try clear hcz7_1
                        try clear hcz7_2
                        try clear hfz15_0
                        try clear hfz15_1
                        try clear hfz15_2
                        try clear hfz17_0
                        try clear hfz17_1
                        try clear hfz17_2
                        try clear hfz21_0
                        try clear hfz21_1
                        try clear hfz21_2
                        try clear hfz25_0
                        try clear hfz25_1
                        try clear hfz25_2
                        try clear hfz43_0
                        try clear hfz43_1
                        try clear hfz43_2
                        try clear hfz61_0
                        try clear hfz61_1
                        try clear hfz61_2
                        try clear hfz7_0
                        try clear hfz7_1
                        try clear hfz7_2
                        try clear p2
                        obtain ⟨kq, x97_56, rfl, HA, HJ56, HO_11, HO_299002, BK282, BK298, HB⟩ := hcut
                        have hl11_56 := (Kd.R_reads' HO_11.out).1
                        rw [hl11_56] at HO_11
                        (try simp only [hl11_56])
                        (try simp only [hl11_56] at BK282)
                        (try simp only [hl11_56] at BK298)
                        (try simp only [hl11_56] at HO_299002)
                        cases kq with
                        | zero => exact absurd HA.out (by simp [laws_FnExactFirstSpaced.j2])
                        | succ kj56 =>
                          have H := HA.out
                          clear HA
                          simp only [laws_FnExactFirstSpaced.j2] at H
                          by_cases c69 : x97_56 = true
                          · subst c69
                            have H1 : (some false) = some r := by rw [if_pos rfl] at H; exact H
                            clear H
                            have H := H1
                            clear H1
                            exact absurd ((Option.some.inj H).trans HRV.out) (by decide)
                          · replace c69 := Bool.eq_false_iff.mpr c69
                            subst c69
                            have H1 : ((laws_heldIntS.f kj56 t314 1).bind fun t326 => (if t326 < 0 then (some false) else (if t326 = t313 then (some true) else (some false)))) = some r := by rw [if_neg (show ¬ (false = true) by decide)] at H; exact H
                            clear H
                            have H := H1
                            clear H1
                            replace H := Option.bind_eq_some_iff.mp H
                            obtain ⟨t326, A700, H⟩ := H
                            replace H : (if t326 < 0 then (some false) else (if t326 = t313 then (some true) else (some false))) = some r := H
                            have A70 := Aside0.mk A700
                            clear A700
                            by_cases c71 : t326 < 0
                            · rw [if_pos c71] at H
                              have c71b0 : decide (t326 < 0) = true := decide_eq_true c71
                              clear c71
                              exact absurd ((Option.some.inj H).trans HRV.out) (by decide)
                            · rw [if_neg c71] at H
                              have c71b0 : decide (t326 < 0) = false := decide_eq_false c71
                              clear c71
                              by_cases c72 : t326 = t313
                              · rw [if_pos c72] at H
                                have c72b0 : (t326 == t313) = true := beq_iff_eq.mpr c72
                                have c72b1 : (t326 != t313) = false := bne_eq_false_iff_eq.mpr c72
                                clear c72
                                obtain rfl := Option.some.inj H
                                go_wp2_with (first | ((with_reducible refine gate_callee (f := 26) rfl ?_); refine goesL_ (some 100) rfl rfl Tryd.func26 (by kernel_rfl) rfl #[.slice Ao58 t314.length co58, .int .i64 1] rfl (by (try simp only [List.map_toArray, List.map_cons, List.map_nil]); first | done | rfl | (simp only [List.length_drop, List.length_take]; rfl)) ?_; (with_reducible refine (laws_heldIntS.calls kj56 _ _ t314 1 t326 _ ?side1 ?side2 A70.out).mono ?_); (case side1 => repeat (first | exact (Kd.R_reads' HO_11.out).2.2 | (with_reducible refine Kd.C_alloc ?_ _) | (with_reducible refine Kd.C_drewN ?_ _) | (with_reducible refine Kd.C_drew ?_))); (case side2 => exact (Kd.R_reads' HO_11.out).2.1); rintro e w' ⟨rfl, ⟨nd, rfl⟩⟩; refine ⟨_, rfl, ?_⟩))
                                go_ret
                                exact ⟨by first | rfl | (simp [errW_none, errW_some] <;> rfl) | (simp [*, errW_none, errW_some] <;> rfl), by repeat (first | (with_reducible first | exact HB.out | apply below_alloc | apply pw_below_drewN | apply below_drew1 | refine below_set ?_ GE282.out | refine below_set ?_ GE298.out) | exact HB.out)⟩
                              · rw [if_neg c72] at H
                                have c72b0 : (t326 == t313) = false := beq_eq_false_iff_ne.mpr c72
                                have c72b1 : (t326 != t313) = true := bne_iff_ne.mpr c72
                                exact absurd ((Option.some.inj H).trans HRV.out) (by decide)
                    · rw [if_neg c54] at H
                      have c54b0 : (t315 == t313) = false := beq_eq_false_iff_ne.mpr c54
                      have c54b1 : (t315 != t313) = true := bne_iff_ne.mpr c54
                      exact absurd ((Option.some.inj H).trans HRV.out) (by decide)
          · replace c35 := Bool.eq_false_iff.mpr c35
            subst c35
            have H1 : (some false) = some r := by rw [if_neg (show ¬ (false = true) by decide)] at H; exact H
            clear H
            have H := H1
            clear H1
            exact absurd ((Option.some.inj H).trans HRV.out) (by decide)

/-- THE ONE PURE STATEMENT of laws_FnExactFirstSpaced: yours. -/
def laws_FnExactFirstSpaced.Pure : Prop := ∀ (a0_0 : Int) (a0_1 : Bool) (l0_2 : List Int) (a1 : Int) (a2 : Int), (Lit.int .i64 a0_0).wf = true → l0_2.length ≤ maxLen → l0_2.length * 8 ≤ 140737488351232 → (∀ x ∈ l0_2, (Lit.int .i64 x).wf = true) → (Lit.int .i64 a1).wf = true → (Lit.int .i64 a2).wf = true → ∃ k, laws_FnExactFirstSpaced.f k a0_0 a0_1 l0_2 a1 a2 = some true
theorem laws_FnExactFirstSpaced.walk (P : laws_FnExactFirstSpaced.Pure) (a0_0 : Int) (a0_1 : Bool) (a0_2 : Option Addr) (len0_2 cap0_2 : Nat) (z0_2 : List Int) (a1 : Int) (a2 : Int) (w : World) (hT : GT w) (w0_0 : (Lit.int .i64 a0_0).wf = true) (w0_2 : (a0_2 = none ∧ len0_2 = 0 ∧ cap0_2 = 0 ∧ z0_2 = []) ∨ ∃ x, a0_2 = some x ∧ len0_2 ≤ cap0_2 ∧ cap0_2 ≤ maxLen ∧ z0_2.length = cap0_2 ∧ (∀ i, i < z0_2.length → w.cell? (x.add i) = some (.int .i64 (z0_2.getD i 0))) ∧ ∀ n ∈ z0_2, (Lit.int .i64 n).wf = true) (y0_2 : len0_2 * 8 ≤ 140737488351232) (w1 : (Lit.int .i64 a1).wf = true) (w2 : (Lit.int .i64 a2).wf = true) :
    Calls Tryd.prog 7 #[.agg #[.int .i64 a0_0, .bool a0_1, .slice a0_2 len0_2 cap0_2], .int .i64 a1, .int .i64 a2] w fun e w' => e = .returned (.bool true) ∧ Below w.heap.size w w' := by
  obtain ⟨l0_2, rfl, hr0_2, hm0_2, hw0_2, hc0_2⟩ := ReadsInt.ofRowC w0_2
  obtain ⟨k, h⟩ := P a0_0 a0_1 l0_2 a1 a2 w0_0 hm0_2 y0_2 hw0_2 w1 w2
  refine (laws_FnExactFirstSpaced.calls k a0_0 a0_1 _ _ l0_2 a1 a2 true w (Kd.C_of_reads (d := (0 : Int)) (h1 := fun _ => rfl) hr0_2) hc0_2 hT rfl h).mono ?_
  rintro e w' ⟨rfl, hd⟩
  exact ⟨rfl, hd⟩

end Go.Proofs.YtapbmneehaemeaaDoor.PFnExactFirstSpaced
