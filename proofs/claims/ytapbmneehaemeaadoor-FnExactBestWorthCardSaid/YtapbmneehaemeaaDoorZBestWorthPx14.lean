/- Proved: each Go function named here, called, comes to the answer of the Lean function beside it. Conditions: those that stand in each theorem. (Printed by this session's own turned copy of a printing program.) -/
import Derived.Test.YtapbmneehaemeaaDoorZBestWorthPx0
import Derived.Test.YtapbmneehaemeaaDoorZBestWorthPx1
import Derived.Test.YtapbmneehaemeaaDoorZBestWorthPx8
import Derived.Test.YtapbmneehaemeaaDoorZBestWorthPx13
namespace Go.Proofs.YtapbmneehaemeaaDoor.PFnExactBestWorth
open Go.RowKit Go.Proofs.YtapbmneehaemeaaDoorW.PrintWords Go.Proofs.YtapbmneehaemeaaDoorW.PrintLast Go.Proofs.YtapbmneehaemeaaDoorW.PrintMore
attribute [local go_sem] max2_int min2_int max_two min_two max_three min_three max_four min_four   -- for this text's walks alone
set_option linter.unusedVariables false
set_option linter.unusedSimpArgs false

/-! ### laws_FnExactBestWorth: function 8 -/
mutual
def laws_FnExactBestWorth.j0 : Nat → List Int → Int → Int → List Int → Bool → List Int → Int → List Int → Bool → Bool → Int → Bool → List Int → Int → Bool → List Int → Option (Bool)
  | 0, _, _, _, _, _, _, _, _, _, _, _, _, _, _, _, _ => none
  | k + 1, x1, x2, x8, x9, x10, x12, x13, x14, x15, x65, x281000, x281001, x281002, x301000, x301001, x301002 => if x65 = true then (some false) else ((laws_toRow.f k x281000 x281001 x281002).bind fun bt310 => ((laws_eqRow.f k x301000 x301001 x301002 bt310.1 bt310.2.1 bt310.2.2).bind fun t315 => (if t315 = true then ((laws_toIntS.f k x1).bind fun t316 => ((laws_eqIntS.f k x12 t316).bind fun t319 => (if t319 = true then ((laws_markRow.f k x301000 x301001 x301002 1).bind fun bt320 => ((laws_markIntS.f k x12 bt320.1).bind fun bt322 => (if bt322.1 < 0 then (laws_FnExactBestWorth.j1 k x1 x2 x8 x9 x10 x14 true x281000 x281001 x281002) else (if x13 = x8 then ((laws_eqIntS.f k x14 x9).bind fun t324 => (if t324 = true then (laws_FnExactBestWorth.j1 k x1 x2 x8 x9 x10 x14 (x15 != x10) x281000 x281001 x281002) else (laws_FnExactBestWorth.j1 k x1 x2 x8 x9 x10 x14 true x281000 x281001 x281002))) else (laws_FnExactBestWorth.j1 k x1 x2 x8 x9 x10 x14 true x281000 x281001 x281002))))) else (some false)))) else (some false))))
def laws_FnExactBestWorth.j1 : Nat → List Int → Int → Int → List Int → Bool → List Int → Bool → Int → Bool → List Int → Option (Bool)
  | 0, _, _, _, _, _, _, _, _, _, _ => none
  | k + 1, x1, x2, x8, x9, x10, x14, x99, x281000, x281001, x281002 => if x99 = true then (some false) else ((laws_markIntS.f k x14 1).bind fun bt325 => ((laws_heldIntS.f k bt325.2 1).bind fun t327 => (if t327 < 0 then (some false) else (if t327 = bt325.1 then ((laws_toRow.f k x281000 x281001 x281002).bind fun bt328 => ((laws_toIntS.f k x1).bind fun t333 => ((impl_BestWorth.f k bt328.1 bt328.2.1 bt328.2.2 t333 x2).bind fun bt336 => (if bt336.1 = x8 then ((laws_eqIntS.f k bt336.2.1 x9).bind fun t341 => (if t341 = true then (laws_FnExactBestWorth.j2 k bt325.2 bt325.1 (bt336.2.2 != x10)) else (laws_FnExactBestWorth.j2 k bt325.2 bt325.1 true))) else (laws_FnExactBestWorth.j2 k bt325.2 bt325.1 true))))) else (some false)))))
def laws_FnExactBestWorth.j2 : Nat → List Int → Int → Bool → Option (Bool)
  | 0, _, _, _ => none
  | k + 1, x14, x17, x134 => if x134 = true then (some false) else ((laws_heldIntS.f k x14 1).bind fun t342 => (if t342 < 0 then (some false) else (if t342 = x17 then (some true) else (some false))))
end
def laws_FnExactBestWorth.f (k : Nat) (a0_0 : Int) (a0_1 : Bool) (l0_2 : List Int) (l1 : List Int) (a2 : Int) : Option (Bool) := if (l1.length : Int) > 1048576 then (some true) else ((laws_szRow.f a0_0 a0_1 l0_2 1048576).bind fun t281 => (if t281 < 0 then (some true) else ((laws_toRow.f k a0_0 a0_1 l0_2).bind fun bt282 => ((laws_toIntS.f k l1).bind fun t287 => ((spec_BestWorth.f k bt282.1 bt282.2.1 bt282.2.2 t287 a2).bind fun bt290 => ((laws_toRow.f k a0_0 a0_1 l0_2).bind fun bt295 => ((laws_toIntS.f k l1).bind fun t301 => ((impl_BestWorth.f k bt295.1 bt295.2.1 bt295.2.2 t301 a2).bind fun bt304 => (if bt304.1 = bt290.1 then ((laws_eqIntS.f k bt304.2.1 bt290.2.1).bind fun t309 => (if t309 = true then (laws_FnExactBestWorth.j0 k l1 a2 bt290.1 bt290.2.1 bt290.2.2 t301 bt304.1 bt304.2.1 bt304.2.2 (bt304.2.2 != bt290.2.2) a0_0 a0_1 l0_2 bt295.1 bt295.2.1 bt295.2.2) else (laws_FnExactBestWorth.j0 k l1 a2 bt290.1 bt290.2.1 bt290.2.2 t301 bt304.1 bt304.2.1 bt304.2.2 true a0_0 a0_1 l0_2 bt295.1 bt295.2.1 bt295.2.2))) else (laws_FnExactBestWorth.j0 k l1 a2 bt290.1 bt290.2.1 bt290.2.2 t301 bt304.1 bt304.2.1 bt304.2.2 true a0_0 a0_1 l0_2 bt295.1 bt295.2.1 bt295.2.2))))))))))
theorem laws_FnExactBestWorth.j0_no (k : Nat) (y0 : List Int) (y1 : Int) (y2 : Int) (y3 : List Int) (y4 : Bool) (y5 : List Int) (y6 : Int) (y7 : List Int) (y8 : Bool) (y10 : Int) (y11 : Bool) (y12 : List Int) (y13 : Int) (y14 : Bool) (y15 : List Int) (r : Bool) (h : laws_FnExactBestWorth.j0 k y0 y1 y2 y3 y4 y5 y6 y7 y8 true y10 y11 y12 y13 y14 y15 = some r) : false = r := by
  cases k with
  | zero => exact absurd h (by simp [laws_FnExactBestWorth.j0])
  | succ k => simp only [laws_FnExactBestWorth.j0] at h; first | (rw [if_pos rfl] at h; exact Option.some.inj h) | (rw [if_pos trivial] at h; exact Option.some.inj h)
theorem laws_FnExactBestWorth.j1_no (k : Nat) (y0 : List Int) (y1 : Int) (y2 : Int) (y3 : List Int) (y4 : Bool) (y5 : List Int) (y7 : Int) (y8 : Bool) (y9 : List Int) (r : Bool) (h : laws_FnExactBestWorth.j1 k y0 y1 y2 y3 y4 y5 true y7 y8 y9 = some r) : false = r := by
  cases k with
  | zero => exact absurd h (by simp [laws_FnExactBestWorth.j1])
  | succ k => simp only [laws_FnExactBestWorth.j1] at h; first | (rw [if_pos rfl] at h; exact Option.some.inj h) | (rw [if_pos trivial] at h; exact Option.some.inj h)
theorem laws_FnExactBestWorth.j2_no (k : Nat) (y0 : List Int) (y1 : Int) (r : Bool) (h : laws_FnExactBestWorth.j2 k y0 y1 true = some r) : false = r := by
  cases k with
  | zero => exact absurd h (by simp [laws_FnExactBestWorth.j2])
  | succ k => simp only [laws_FnExactBestWorth.j2] at h; first | (rw [if_pos rfl] at h; exact Option.some.inj h) | (rw [if_pos trivial] at h; exact Option.some.inj h)
set_option maxHeartbeats 8000000 in
set_option maxRecDepth 100000 in
theorem laws_FnExactBestWorth.calls (k : Nat) (a0_0 : Int) (a0_1 : Bool) (A0_2 : Option Addr) (c0_2 : Nat) (l0_2 : List Int) (A1 : Option Addr) (c1 : Nat) (l1 : List Int) (a2 : Int) (r : Bool) (w : World) (hr0_2 : Kd.C (Kd.int .i64) w A0_2 l0_2.length l0_2) (hc0_2 : l0_2.length ≤ c0_2) (hr1 : Kd.C (Kd.int .i64) w A1 l1.length l1) (hc1 : l1.length ≤ c1) (hrT : GT w) (hr1_ : r = true) (h : laws_FnExactBestWorth.f k a0_0 a0_1 l0_2 l1 a2 = some r) :
    Calls Tryd.prog 8 #[.agg #[.int .i64 a0_0, .bool a0_1, .slice A0_2 l0_2.length c0_2], .slice A1 l1.length c1, .int .i64 a2] w fun e w' => e = .returned (.bool r) ∧ Below w.heap.size w w' := by
  have hu24 := Tryd.underlying24
  have hu28 := Tryd.underlying28
  have HR0_2 := Aside0.mk hr0_2
  have HC0_2 := Aside0.mk hc0_2
  clear hr0_2 hc0_2
  have HR1 := Aside0.mk hr1
  have HC1 := Aside0.mk hc1
  clear hr1 hc1
  have HRV := Aside0.mk hr1_
  clear hr1_
  have HRT := Aside0.mk hrT
  clear hrT
  have HB := Aside0.mk (Below.refl w.heap.size w)
  have H : (if (l1.length : Int) > 1048576 then (some true) else ((laws_szRow.f a0_0 a0_1 l0_2 1048576).bind fun t281 => (if t281 < 0 then (some true) else ((laws_toRow.f k a0_0 a0_1 l0_2).bind fun bt282 => ((laws_toIntS.f k l1).bind fun t287 => ((spec_BestWorth.f k bt282.1 bt282.2.1 bt282.2.2 t287 a2).bind fun bt290 => ((laws_toRow.f k a0_0 a0_1 l0_2).bind fun bt295 => ((laws_toIntS.f k l1).bind fun t301 => ((impl_BestWorth.f k bt295.1 bt295.2.1 bt295.2.2 t301 a2).bind fun bt304 => (if bt304.1 = bt290.1 then ((laws_eqIntS.f k bt304.2.1 bt290.2.1).bind fun t309 => (if t309 = true then (laws_FnExactBestWorth.j0 k l1 a2 bt290.1 bt290.2.1 bt290.2.2 t301 bt304.1 bt304.2.1 bt304.2.2 (bt304.2.2 != bt290.2.2) a0_0 a0_1 l0_2 bt295.1 bt295.2.1 bt295.2.2) else (laws_FnExactBestWorth.j0 k l1 a2 bt290.1 bt290.2.1 bt290.2.2 t301 bt304.1 bt304.2.1 bt304.2.2 true a0_0 a0_1 l0_2 bt295.1 bt295.2.1 bt295.2.2))) else (laws_FnExactBestWorth.j0 k l1 a2 bt290.1 bt290.2.1 bt290.2.2 t301 bt304.1 bt304.2.1 bt304.2.2 true a0_0 a0_1 l0_2 bt295.1 bt295.2.1 bt295.2.2))))))))))) = some r := h
  clear h
  by_cases c4 : (l1.length : Int) > 1048576
  · rw [if_pos c4] at H
    have c4b0 : decide (1048576 < (l1.length : Int)) = true := decide_eq_true c4
    have c4b1 : decide (1048576 < l1.length) = true := decide_eq_true (by omega)
    clear c4
    obtain rfl := Option.some.inj H
    go_enter Tryd.func8, Tryd.ntmps8
    go_wp2_with (first | ((with_reducible refine gate_dst (N := 3) rfl ?_); refine box_event ?hg (N := 3) ?hd (cs := #[.int .i64 a0_0, .bool a0_1, .slice A0_2 l0_2.length c0_2]) (t := 24) ?hr ?_; (case hd => rfl); (case hg => rfl); (case hr => first | (go_simp; done) | (go_simp; rfl)); intro gb280 hg w5 hbox hb; have n0_ := Aside0.mk (below_step (by repeat (first | (with_reducible first | exact HB.out | apply below_alloc | apply pw_below_drewN | apply below_drew1) | exact HB.out)) hb); have n1_ := Aside0.mk (hbox); have n2_ := Aside0.mk ((by rw [hg]; exact (below_size (by repeat (first | (with_reducible first | exact HB.out | apply below_alloc | apply pw_below_drewN | apply below_drew1) | exact HB.out))) : w.heap.size ≤ gb280)); have n3_ := Aside0.mk ((by rw [hg]; exact (below_size (by repeat (first | (with_reducible first | exact HB.out | apply below_alloc | apply pw_below_drewN | apply below_drew1) | exact HB.out))) : w.heap.size ≤ gb280)); clear HB; have HB := n0_; have BK280 := n1_; have GW280 := n2_; have GE280 := n3_; clear n0_ n1_ n2_ n3_; clear hb hbox hg))
    go_ret
    exact ⟨by first | rfl | (simp [errW_none, errW_some] <;> rfl) | (simp [*, errW_none, errW_some] <;> rfl), by repeat (first | (with_reducible first | exact HB.out | apply below_alloc | apply pw_below_drewN | apply below_drew1 | refine below_set ?_ GE280.out) | exact HB.out)⟩
  · rw [if_neg c4] at H
    have c4b0 : decide (1048576 < (l1.length : Int)) = false := decide_eq_false c4
    have c4b1 : decide (1048576 < l1.length) = false := decide_eq_false (by omega)
    clear c4
    replace H := Option.bind_eq_some_iff.mp H
    obtain ⟨t281, A60, H⟩ := H
    replace H : (if t281 < 0 then (some true) else ((laws_toRow.f k a0_0 a0_1 l0_2).bind fun bt282 => ((laws_toIntS.f k l1).bind fun t287 => ((spec_BestWorth.f k bt282.1 bt282.2.1 bt282.2.2 t287 a2).bind fun bt290 => ((laws_toRow.f k a0_0 a0_1 l0_2).bind fun bt295 => ((laws_toIntS.f k l1).bind fun t301 => ((impl_BestWorth.f k bt295.1 bt295.2.1 bt295.2.2 t301 a2).bind fun bt304 => (if bt304.1 = bt290.1 then ((laws_eqIntS.f k bt304.2.1 bt290.2.1).bind fun t309 => (if t309 = true then (laws_FnExactBestWorth.j0 k l1 a2 bt290.1 bt290.2.1 bt290.2.2 t301 bt304.1 bt304.2.1 bt304.2.2 (bt304.2.2 != bt290.2.2) a0_0 a0_1 l0_2 bt295.1 bt295.2.1 bt295.2.2) else (laws_FnExactBestWorth.j0 k l1 a2 bt290.1 bt290.2.1 bt290.2.2 t301 bt304.1 bt304.2.1 bt304.2.2 true a0_0 a0_1 l0_2 bt295.1 bt295.2.1 bt295.2.2))) else (laws_FnExactBestWorth.j0 k l1 a2 bt290.1 bt290.2.1 bt290.2.2 t301 bt304.1 bt304.2.1 bt304.2.2 true a0_0 a0_1 l0_2 bt295.1 bt295.2.1 bt295.2.2))))))))) = some r := H
    have A6 := Aside0.mk A60
    clear A60
    by_cases c7 : t281 < 0
    · rw [if_pos c7] at H
      have c7b0 : decide (t281 < 0) = true := decide_eq_true c7
      clear c7
      obtain rfl := Option.some.inj H
      go_enter Tryd.func8, Tryd.ntmps8
      go_wp2_with (first | ((with_reducible refine gate_dst (N := 3) rfl ?_); refine box_event ?hg (N := 3) ?hd (cs := #[.int .i64 a0_0, .bool a0_1, .slice A0_2 l0_2.length c0_2]) (t := 24) ?hr ?_; (case hd => rfl); (case hg => rfl); (case hr => first | (go_simp; done) | (go_simp; rfl)); intro gb280 hg w8 hbox hb; have n0_ := Aside0.mk (below_step (by repeat (first | (with_reducible first | exact HB.out | apply below_alloc | apply pw_below_drewN | apply below_drew1) | exact HB.out)) hb); have n1_ := Aside0.mk (hbox); have n2_ := Aside0.mk ((by rw [hg]; exact (below_size (by repeat (first | (with_reducible first | exact HB.out | apply below_alloc | apply pw_below_drewN | apply below_drew1) | exact HB.out))) : w.heap.size ≤ gb280)); have n3_ := Aside0.mk ((by rw [hg]; exact (below_size (by repeat (first | (with_reducible first | exact HB.out | apply below_alloc | apply pw_below_drewN | apply below_drew1) | exact HB.out))) : w.heap.size ≤ gb280)); clear HB; have HB := n0_; have BK280 := n1_; have GW280 := n2_; have GE280 := n3_; clear n0_ n1_ n2_ n3_; clear hb hbox hg; have hcz9_0 : w8.cell? ⟨gb280, 0, none⟩ = some (.int .i64 a0_0) := (blk_cell BK280.out 0).trans rfl; have hcz9_1 : w8.cell? ⟨gb280, 1, none⟩ = some (.bool a0_1) := (blk_cell BK280.out 1).trans rfl; have hcz9_2 : w8.cell? ⟨gb280, 2, none⟩ = some (.slice A0_2 l0_2.length c0_2) := (blk_cell BK280.out 2).trans rfl; have hfz9_0 := blk_frozen BK280.out 0; have hfz9_1 := blk_frozen BK280.out 1; have hfz9_2 := blk_frozen BK280.out 2) | ((with_reducible refine gate_callee (f := 9) rfl ?_); refine goesL_ (some 27) rfl rfl Tryd.func9 (by kernel_rfl) rfl #[.agg #[.int .i64 a0_0, .bool a0_1, .slice A0_2 l0_2.length c0_2], .int .i64 1048576] rfl (by (try simp only [List.map_toArray, List.map_cons, List.map_nil]); first | done | rfl | (simp only [List.length_drop, List.length_take]; rfl)) ?_; (with_reducible refine (laws_szRow.calls a0_0 a0_1 _ _ l0_2 1048576 t281 _ ?side1 ?side2 A6.out).mono ?_); (case side1 => repeat (first | exact (Kd.C_below HR0_2.out HB.out) | (with_reducible refine Kd.C_alloc ?_ _) | (with_reducible refine Kd.C_drewN ?_ _) | (with_reducible refine Kd.C_drew ?_))); (case side2 => exact HC0_2.out); rintro e w10 ⟨rfl, hb⟩; refine ⟨_, rfl, ?_⟩; have n0_ := Aside0.mk (blk_below (g := gb280) (o := .cells #[.int .i64 a0_0, .bool a0_1, .slice A0_2 l0_2.length c0_2] 24 (0, 0)) (by first | (with_reducible exact BK280.out) | ((with_reducible repeat (first | refine blk_drewN ?_ _ | refine blk_drew ?_ | refine blk_alloc ?_ _)); exact BK280.out)) hb); have n1_ := Aside0.mk (below_step (by repeat (first | (with_reducible first | exact HB.out | apply below_alloc | apply pw_below_drewN | apply below_drew1 | refine below_set ?_ GE280.out) | exact HB.out)) hb); clear BK280; clear HB; have BK280 := n0_; have HB := n1_; clear n0_ n1_; (try clear hb); (try clear hb2); (try clear hk); (try clear hi)))
      go_ret
      exact ⟨by first | rfl | (simp [errW_none, errW_some] <;> rfl) | (simp [*, errW_none, errW_some] <;> rfl), by repeat (first | (with_reducible first | exact HB.out | apply below_alloc | apply pw_below_drewN | apply below_drew1 | refine below_set ?_ GE280.out) | exact HB.out)⟩
    · rw [if_neg c7] at H
      have c7b0 : decide (t281 < 0) = false := decide_eq_false c7
      clear c7
      replace H := Option.bind_eq_some_iff.mp H
      obtain ⟨⟨t282, t283, t284⟩, A110, H⟩ := H
      replace H : ((laws_toIntS.f k l1).bind fun t287 => ((spec_BestWorth.f k t282 t283 t284 t287 a2).bind fun bt290 => ((laws_toRow.f k a0_0 a0_1 l0_2).bind fun bt295 => ((laws_toIntS.f k l1).bind fun t301 => ((impl_BestWorth.f k bt295.1 bt295.2.1 bt295.2.2 t301 a2).bind fun bt304 => (if bt304.1 = bt290.1 then ((laws_eqIntS.f k bt304.2.1 bt290.2.1).bind fun t309 => (if t309 = true then (laws_FnExactBestWorth.j0 k l1 a2 bt290.1 bt290.2.1 bt290.2.2 t301 bt304.1 bt304.2.1 bt304.2.2 (bt304.2.2 != bt290.2.2) a0_0 a0_1 l0_2 bt295.1 bt295.2.1 bt295.2.2) else (laws_FnExactBestWorth.j0 k l1 a2 bt290.1 bt290.2.1 bt290.2.2 t301 bt304.1 bt304.2.1 bt304.2.2 true a0_0 a0_1 l0_2 bt295.1 bt295.2.1 bt295.2.2))) else (laws_FnExactBestWorth.j0 k l1 a2 bt290.1 bt290.2.1 bt290.2.2 t301 bt304.1 bt304.2.1 bt304.2.2 true a0_0 a0_1 l0_2 bt295.1 bt295.2.1 bt295.2.2))))))) = some r := H
      have A11 := Aside0.mk A110
      clear A110
      replace H := Option.bind_eq_some_iff.mp H
      obtain ⟨t287, A120, H⟩ := H
      replace H : ((spec_BestWorth.f k t282 t283 t284 t287 a2).bind fun bt290 => ((laws_toRow.f k a0_0 a0_1 l0_2).bind fun bt295 => ((laws_toIntS.f k l1).bind fun t301 => ((impl_BestWorth.f k bt295.1 bt295.2.1 bt295.2.2 t301 a2).bind fun bt304 => (if bt304.1 = bt290.1 then ((laws_eqIntS.f k bt304.2.1 bt290.2.1).bind fun t309 => (if t309 = true then (laws_FnExactBestWorth.j0 k l1 a2 bt290.1 bt290.2.1 bt290.2.2 t301 bt304.1 bt304.2.1 bt304.2.2 (bt304.2.2 != bt290.2.2) a0_0 a0_1 l0_2 bt295.1 bt295.2.1 bt295.2.2) else (laws_FnExactBestWorth.j0 k l1 a2 bt290.1 bt290.2.1 bt290.2.2 t301 bt304.1 bt304.2.1 bt304.2.2 true a0_0 a0_1 l0_2 bt295.1 bt295.2.1 bt295.2.2))) else (laws_FnExactBestWorth.j0 k l1 a2 bt290.1 bt290.2.1 bt290.2.2 t301 bt304.1 bt304.2.1 bt304.2.2 true a0_0 a0_1 l0_2 bt295.1 bt295.2.1 bt295.2.2)))))) = some r := H
      have A12 := Aside0.mk A120
      clear A120
      replace H := Option.bind_eq_some_iff.mp H
      obtain ⟨⟨t290, t291, t294⟩, A130, H⟩ := H
      replace H : ((laws_toRow.f k a0_0 a0_1 l0_2).bind fun bt295 => ((laws_toIntS.f k l1).bind fun t301 => ((impl_BestWorth.f k bt295.1 bt295.2.1 bt295.2.2 t301 a2).bind fun bt304 => (if bt304.1 = t290 then ((laws_eqIntS.f k bt304.2.1 t291).bind fun t309 => (if t309 = true then (laws_FnExactBestWorth.j0 k l1 a2 t290 t291 t294 t301 bt304.1 bt304.2.1 bt304.2.2 (bt304.2.2 != t294) a0_0 a0_1 l0_2 bt295.1 bt295.2.1 bt295.2.2) else (laws_FnExactBestWorth.j0 k l1 a2 t290 t291 t294 t301 bt304.1 bt304.2.1 bt304.2.2 true a0_0 a0_1 l0_2 bt295.1 bt295.2.1 bt295.2.2))) else (laws_FnExactBestWorth.j0 k l1 a2 t290 t291 t294 t301 bt304.1 bt304.2.1 bt304.2.2 true a0_0 a0_1 l0_2 bt295.1 bt295.2.1 bt295.2.2))))) = some r := H
      have A13 := Aside0.mk A130
      clear A130
      replace H := Option.bind_eq_some_iff.mp H
      obtain ⟨⟨t295, t296, t297⟩, A140, H⟩ := H
      replace H : ((laws_toIntS.f k l1).bind fun t301 => ((impl_BestWorth.f k t295 t296 t297 t301 a2).bind fun bt304 => (if bt304.1 = t290 then ((laws_eqIntS.f k bt304.2.1 t291).bind fun t309 => (if t309 = true then (laws_FnExactBestWorth.j0 k l1 a2 t290 t291 t294 t301 bt304.1 bt304.2.1 bt304.2.2 (bt304.2.2 != t294) a0_0 a0_1 l0_2 t295 t296 t297) else (laws_FnExactBestWorth.j0 k l1 a2 t290 t291 t294 t301 bt304.1 bt304.2.1 bt304.2.2 true a0_0 a0_1 l0_2 t295 t296 t297))) else (laws_FnExactBestWorth.j0 k l1 a2 t290 t291 t294 t301 bt304.1 bt304.2.1 bt304.2.2 true a0_0 a0_1 l0_2 t295 t296 t297)))) = some r := H
      have A14 := Aside0.mk A140
      clear A140
      replace H := Option.bind_eq_some_iff.mp H
      obtain ⟨t301, A150, H⟩ := H
      replace H : ((impl_BestWorth.f k t295 t296 t297 t301 a2).bind fun bt304 => (if bt304.1 = t290 then ((laws_eqIntS.f k bt304.2.1 t291).bind fun t309 => (if t309 = true then (laws_FnExactBestWorth.j0 k l1 a2 t290 t291 t294 t301 bt304.1 bt304.2.1 bt304.2.2 (bt304.2.2 != t294) a0_0 a0_1 l0_2 t295 t296 t297) else (laws_FnExactBestWorth.j0 k l1 a2 t290 t291 t294 t301 bt304.1 bt304.2.1 bt304.2.2 true a0_0 a0_1 l0_2 t295 t296 t297))) else (laws_FnExactBestWorth.j0 k l1 a2 t290 t291 t294 t301 bt304.1 bt304.2.1 bt304.2.2 true a0_0 a0_1 l0_2 t295 t296 t297))) = some r := H
      have A15 := Aside0.mk A150
      clear A150
      replace H := Option.bind_eq_some_iff.mp H
      obtain ⟨⟨t304, t305, t308⟩, A160, H⟩ := H
      replace H : (if t304 = t290 then ((laws_eqIntS.f k t305 t291).bind fun t309 => (if t309 = true then (laws_FnExactBestWorth.j0 k l1 a2 t290 t291 t294 t301 t304 t305 t308 (t308 != t294) a0_0 a0_1 l0_2 t295 t296 t297) else (laws_FnExactBestWorth.j0 k l1 a2 t290 t291 t294 t301 t304 t305 t308 true a0_0 a0_1 l0_2 t295 t296 t297))) else (laws_FnExactBestWorth.j0 k l1 a2 t290 t291 t294 t301 t304 t305 t308 true a0_0 a0_1 l0_2 t295 t296 t297)) = some r := H
      have A16 := Aside0.mk A160
      clear A160
      have HC17 := Aside0.mk H
      clear H
      go_enter Tryd.func8, Tryd.ntmps8
      go_upto_region 11 with (first | ((with_reducible refine gate_dst (N := 3) rfl ?_); refine box_event ?hg (N := 3) ?hd (cs := #[.int .i64 a0_0, .bool a0_1, .slice A0_2 l0_2.length c0_2]) (t := 24) ?hr ?_; (case hd => rfl); (case hg => rfl); (case hr => first | (go_simp; done) | (go_simp; rfl)); intro gb280 hg w18 hbox hb; have n0_ := Aside0.mk (below_step (by repeat (first | (with_reducible first | exact HB.out | apply below_alloc | apply pw_below_drewN | apply below_drew1) | exact HB.out)) hb); have n1_ := Aside0.mk (hbox); have n2_ := Aside0.mk ((by rw [hg]; exact (below_size (by repeat (first | (with_reducible first | exact HB.out | apply below_alloc | apply pw_below_drewN | apply below_drew1) | exact HB.out))) : w.heap.size ≤ gb280)); have n3_ := Aside0.mk ((by rw [hg]; exact (below_size (by repeat (first | (with_reducible first | exact HB.out | apply below_alloc | apply pw_below_drewN | apply below_drew1) | exact HB.out))) : w.heap.size ≤ gb280)); clear HB; have HB := n0_; have BK280 := n1_; have GW280 := n2_; have GE280 := n3_; clear n0_ n1_ n2_ n3_; clear hb hbox hg; have hcz19_0 : w18.cell? ⟨gb280, 0, none⟩ = some (.int .i64 a0_0) := (blk_cell BK280.out 0).trans rfl; have hcz19_1 : w18.cell? ⟨gb280, 1, none⟩ = some (.bool a0_1) := (blk_cell BK280.out 1).trans rfl; have hcz19_2 : w18.cell? ⟨gb280, 2, none⟩ = some (.slice A0_2 l0_2.length c0_2) := (blk_cell BK280.out 2).trans rfl; have hfz19_0 := blk_frozen BK280.out 0; have hfz19_1 := blk_frozen BK280.out 1; have hfz19_2 := blk_frozen BK280.out 2) | ((with_reducible refine gate_callee (f := 9) rfl ?_); refine goesL_ (some 27) rfl rfl Tryd.func9 (by kernel_rfl) rfl #[.agg #[.int .i64 a0_0, .bool a0_1, .slice A0_2 l0_2.length c0_2], .int .i64 1048576] rfl (by (try simp only [List.map_toArray, List.map_cons, List.map_nil]); first | done | rfl | (simp only [List.length_drop, List.length_take]; rfl)) ?_; (with_reducible refine (laws_szRow.calls a0_0 a0_1 _ _ l0_2 1048576 t281 _ ?side1 ?side2 A6.out).mono ?_); (case side1 => repeat (first | exact (Kd.C_below HR0_2.out HB.out) | (with_reducible refine Kd.C_alloc ?_ _) | (with_reducible refine Kd.C_drewN ?_ _) | (with_reducible refine Kd.C_drew ?_))); (case side2 => exact HC0_2.out); rintro e w20 ⟨rfl, hb⟩; refine ⟨_, rfl, ?_⟩; have n0_ := Aside0.mk (blk_below (g := gb280) (o := .cells #[.int .i64 a0_0, .bool a0_1, .slice A0_2 l0_2.length c0_2] 24 (0, 0)) (by first | (with_reducible exact BK280.out) | ((with_reducible repeat (first | refine blk_drewN ?_ _ | refine blk_drew ?_ | refine blk_alloc ?_ _)); exact BK280.out)) hb); have n1_ := Aside0.mk (below_step (by repeat (first | (with_reducible first | exact HB.out | apply below_alloc | apply pw_below_drewN | apply below_drew1 | refine below_set ?_ GE280.out) | exact HB.out)) hb); clear BK280; clear HB; have BK280 := n0_; have HB := n1_; clear n0_ n1_; (try clear hb); (try clear hb2); (try clear hk); (try clear hi); have hcz21_0 : w20.cell? ⟨gb280, 0, none⟩ = some (.int .i64 a0_0) := (blk_cell BK280.out 0).trans rfl; have hcz21_1 : w20.cell? ⟨gb280, 1, none⟩ = some (.bool a0_1) := (blk_cell BK280.out 1).trans rfl; have hcz21_2 : w20.cell? ⟨gb280, 2, none⟩ = some (.slice A0_2 l0_2.length c0_2) := (blk_cell BK280.out 2).trans rfl; have hfz21_0 := blk_frozen BK280.out 0; have hfz21_1 := blk_frozen BK280.out 1; have hfz21_2 := blk_frozen BK280.out 2) | ((with_reducible refine gate_callee (f := 11) rfl ?_); refine goesL_ (some 32) rfl rfl Tryd.func11 (by kernel_rfl) rfl #[.agg #[.int .i64 a0_0, .bool a0_1, .slice A0_2 l0_2.length c0_2]] rfl (by (try simp only [List.map_toArray, List.map_cons, List.map_nil]); first | done | rfl | (simp only [List.length_drop, List.length_take]; rfl)) ?_; (with_reducible refine (laws_toRow.calls k a0_0 a0_1 _ _ l0_2 t282 t283 t284 _ ?side1 ?side2 A11.out).mono ?_); (case side1 => repeat (first | exact (Kd.C_below HR0_2.out HB.out) | (with_reducible refine Kd.C_alloc ?_ _) | (with_reducible refine Kd.C_drewN ?_ _) | (with_reducible refine Kd.C_drew ?_))); (case side2 => exact HC0_2.out); rintro e w22 ⟨v285, rfl, ho0, hb⟩; refine ⟨_, rfl, ?_⟩; have n0_ := Aside0.mk (Kd.R_lower ho0 (below_size (by repeat (first | (with_reducible first | exact HB.out | apply below_alloc | apply pw_below_drewN | apply below_drew1 | refine below_set ?_ GE280.out) | exact HB.out)))); have n1_ := Aside0.mk (blk_below (g := gb280) (o := .cells #[.int .i64 a0_0, .bool a0_1, .slice A0_2 l0_2.length c0_2] 24 (0, 0)) (by first | (with_reducible exact BK280.out) | ((with_reducible repeat (first | refine blk_drewN ?_ _ | refine blk_drew ?_ | refine blk_alloc ?_ _)); exact BK280.out)) hb); have n2_ := Aside0.mk (below_step (by repeat (first | (with_reducible first | exact HB.out | apply below_alloc | apply pw_below_drewN | apply below_drew1 | refine below_set ?_ GE280.out) | exact HB.out)) hb); clear BK280; clear HB; have HO286 := n0_; have BK280 := n1_; have HB := n2_; clear n0_ n1_ n2_; (try clear hb); (try clear hb2); (try clear hk); (try clear hi); (try clear ho0)) | ((with_reducible refine gate_callee (f := 12) rfl ?_); refine goesL_ (some 34) rfl rfl Tryd.func12 (by kernel_rfl) rfl #[.slice A1 l1.length c1] rfl (by (try simp only [List.map_toArray, List.map_cons, List.map_nil]); first | done | rfl | (simp only [List.length_drop, List.length_take]; rfl)) ?_; (with_reducible refine (laws_toIntS.calls k _ _ l1 t287 _ ?side1 ?side2 A12.out).mono ?_); (case side1 => repeat (first | exact (Kd.C_below HR1.out HB.out) | (with_reducible refine Kd.C_alloc ?_ _) | (with_reducible refine Kd.C_drewN ?_ _) | (with_reducible refine Kd.C_drew ?_))); (case side2 => exact HC1.out); rintro e w23 ⟨v288, rfl, ho0, hb⟩; refine ⟨_, rfl, ?_⟩; have n0_ := Aside0.mk (Kd.R_elder' (by (with_reducible repeat (first | apply Kd.R_alloc | apply Kd.R_drewN | apply Kd.R_drew)); exact HO286.out) (Kd.R_base ho0) hb); have n1_ := Aside0.mk (Kd.R_lower (Kd.R_new' ho0 (Kd.R_lt (by (with_reducible repeat (first | apply Kd.R_alloc | apply Kd.R_drewN | apply Kd.R_drew)); exact HO286.out))) (below_size (by repeat (first | (with_reducible first | exact HB.out | apply below_alloc | apply pw_below_drewN | apply below_drew1 | refine below_set ?_ GE280.out) | exact HB.out)))); have n2_ := Aside0.mk (blk_below (g := gb280) (o := .cells #[.int .i64 a0_0, .bool a0_1, .slice A0_2 l0_2.length c0_2] 24 (0, 0)) (by first | (with_reducible exact BK280.out) | ((with_reducible repeat (first | refine blk_drewN ?_ _ | refine blk_drew ?_ | refine blk_alloc ?_ _)); exact BK280.out)) hb); have n3_ := Aside0.mk (below_step (by repeat (first | (with_reducible first | exact HB.out | apply below_alloc | apply pw_below_drewN | apply below_drew1 | refine below_set ?_ GE280.out) | exact HB.out)) hb); clear HO286; clear BK280; clear HB; have HO286 := n0_; have HO289 := n1_; have BK280 := n2_; have HB := n3_; clear n0_ n1_ n2_ n3_; (try clear hb); (try clear hb2); (try clear hk); (try clear hi); (try clear ho0); obtain ⟨Ao24, co24, eo24⟩ := Kd.R_slice HO286.out; subst eo24; obtain ⟨Ao25, co25, eo25⟩ := Kd.R_slice HO289.out; subst eo25) | ((with_reducible refine gate_callee (f := 27) rfl ?_); refine goesL_ (some 36) rfl rfl Tryd.func27 (by kernel_rfl) rfl #[.agg #[.int .i64 t282, .bool t283, .slice Ao24 t284.length co24], .slice Ao25 t287.length co25, .int .i64 a2] rfl (by (try simp only [List.map_toArray, List.map_cons, List.map_nil]); first | done | rfl | (simp only [List.length_drop, List.length_take]; rfl)) ?_; (with_reducible refine (spec_BestWorth.calls k t282 t283 _ _ t284 _ _ t287 a2 t290 t291 t294 _ ?side1 ?side2 ?side3 ?side4 A13.out).mono ?_); (case side1 => repeat (first | exact (Kd.R_reads' HO286.out).2.2 | (with_reducible refine Kd.C_alloc ?_ _) | (with_reducible refine Kd.C_drewN ?_ _) | (with_reducible refine Kd.C_drew ?_))); (case side2 => exact (Kd.R_reads' HO286.out).2.1); (case side3 => repeat (first | exact (Kd.R_reads' HO289.out).2.2 | (with_reducible refine Kd.C_alloc ?_ _) | (with_reducible refine Kd.C_drewN ?_ _) | (with_reducible refine Kd.C_drew ?_))); (case side4 => exact (Kd.R_reads' HO289.out).2.1); rintro e w26 ⟨v292, rfl, ho0, hb⟩; refine ⟨_, rfl, ?_⟩; have n0_ := Aside0.mk (Kd.R_elder' (by (with_reducible repeat (first | apply Kd.R_alloc | apply Kd.R_drewN | apply Kd.R_drew)); exact HO286.out) (Kd.R_base ho0) hb); have n1_ := Aside0.mk (Kd.R_elder' (by (with_reducible repeat (first | apply Kd.R_alloc | apply Kd.R_drewN | apply Kd.R_drew)); exact HO289.out) (Kd.R_base ho0) hb); have n2_ := Aside0.mk (Kd.R_lower (Kd.R_new' (Kd.R_new' ho0 (Kd.R_lt (by (with_reducible repeat (first | apply Kd.R_alloc | apply Kd.R_drewN | apply Kd.R_drew)); exact HO286.out))) (Kd.R_lt (by (with_reducible repeat (first | apply Kd.R_alloc | apply Kd.R_drewN | apply Kd.R_drew)); exact HO289.out))) (below_size (by repeat (first | (with_reducible first | exact HB.out | apply below_alloc | apply pw_below_drewN | apply below_drew1 | refine below_set ?_ GE280.out) | exact HB.out)))); have n3_ := Aside0.mk (blk_below (g := gb280) (o := .cells #[.int .i64 a0_0, .bool a0_1, .slice A0_2 l0_2.length c0_2] 24 (0, 0)) (by first | (with_reducible exact BK280.out) | ((with_reducible repeat (first | refine blk_drewN ?_ _ | refine blk_drew ?_ | refine blk_alloc ?_ _)); exact BK280.out)) hb); have n4_ := Aside0.mk (below_step (by repeat (first | (with_reducible first | exact HB.out | apply below_alloc | apply pw_below_drewN | apply below_drew1 | refine below_set ?_ GE280.out) | exact HB.out)) hb); clear HO286; clear HO289; clear BK280; clear HB; have HO286 := n0_; have HO289 := n1_; have HO293 := n2_; have BK280 := n3_; have HB := n4_; clear n0_ n1_ n2_ n3_ n4_; (try clear hb); (try clear hb2); (try clear hk); (try clear hi); (try clear ho0); have hcz27_0 : w26.cell? ⟨gb280, 0, none⟩ = some (.int .i64 a0_0) := (blk_cell BK280.out 0).trans rfl; have hcz27_1 : w26.cell? ⟨gb280, 1, none⟩ = some (.bool a0_1) := (blk_cell BK280.out 1).trans rfl; have hcz27_2 : w26.cell? ⟨gb280, 2, none⟩ = some (.slice A0_2 l0_2.length c0_2) := (blk_cell BK280.out 2).trans rfl; have hfz27_0 := blk_frozen BK280.out 0; have hfz27_1 := blk_frozen BK280.out 1; have hfz27_2 := blk_frozen BK280.out 2) | ((with_reducible refine gate_callee (f := 11) rfl ?_); refine goesL_ (some 41) rfl rfl Tryd.func11 (by kernel_rfl) rfl #[.agg #[.int .i64 a0_0, .bool a0_1, .slice A0_2 l0_2.length c0_2]] rfl (by (try simp only [List.map_toArray, List.map_cons, List.map_nil]); first | done | rfl | (simp only [List.length_drop, List.length_take]; rfl)) ?_; (with_reducible refine (laws_toRow.calls k a0_0 a0_1 _ _ l0_2 t295 t296 t297 _ ?side1 ?side2 A14.out).mono ?_); (case side1 => repeat (first | exact (Kd.C_below HR0_2.out HB.out) | (with_reducible refine Kd.C_alloc ?_ _) | (with_reducible refine Kd.C_drewN ?_ _) | (with_reducible refine Kd.C_drew ?_))); (case side2 => exact HC0_2.out); rintro e w28 ⟨v298, rfl, ho0, hb⟩; refine ⟨_, rfl, ?_⟩; have n0_ := Aside0.mk (Kd.R_elder' (by (with_reducible repeat (first | apply Kd.R_alloc | apply Kd.R_drewN | apply Kd.R_drew)); exact HO286.out) (Kd.R_base ho0) hb); have n1_ := Aside0.mk (Kd.R_elder' (by (with_reducible repeat (first | apply Kd.R_alloc | apply Kd.R_drewN | apply Kd.R_drew)); exact HO289.out) (Kd.R_base ho0) hb); have n2_ := Aside0.mk (Kd.R_elder' (by (with_reducible repeat (first | apply Kd.R_alloc | apply Kd.R_drewN | apply Kd.R_drew)); exact HO293.out) (Kd.R_base ho0) hb); have n3_ := Aside0.mk (Kd.R_lower (Kd.R_new' (Kd.R_new' (Kd.R_new' ho0 (Kd.R_lt (by (with_reducible repeat (first | apply Kd.R_alloc | apply Kd.R_drewN | apply Kd.R_drew)); exact HO286.out))) (Kd.R_lt (by (with_reducible repeat (first | apply Kd.R_alloc | apply Kd.R_drewN | apply Kd.R_drew)); exact HO289.out))) (Kd.R_lt (by (with_reducible repeat (first | apply Kd.R_alloc | apply Kd.R_drewN | apply Kd.R_drew)); exact HO293.out))) (below_size (by repeat (first | (with_reducible first | exact HB.out | apply below_alloc | apply pw_below_drewN | apply below_drew1 | refine below_set ?_ GE280.out) | exact HB.out)))); have n4_ := Aside0.mk (blk_below (g := gb280) (o := .cells #[.int .i64 a0_0, .bool a0_1, .slice A0_2 l0_2.length c0_2] 24 (0, 0)) (by first | (with_reducible exact BK280.out) | ((with_reducible repeat (first | refine blk_drewN ?_ _ | refine blk_drew ?_ | refine blk_alloc ?_ _)); exact BK280.out)) hb); have n5_ := Aside0.mk (below_step (by repeat (first | (with_reducible first | exact HB.out | apply below_alloc | apply pw_below_drewN | apply below_drew1 | refine below_set ?_ GE280.out) | exact HB.out)) hb); clear HO286; clear HO289; clear HO293; clear BK280; clear HB; have HO286 := n0_; have HO289 := n1_; have HO293 := n2_; have HO299 := n3_; have BK280 := n4_; have HB := n5_; clear n0_ n1_ n2_ n3_ n4_ n5_; (try clear hb); (try clear hb2); (try clear hk); (try clear hi); (try clear ho0)) | ((with_reducible refine gate_dst (N := 11) rfl ?_); refine box_event ?hg (N := 11) ?hd (cs := #[.int .i64 0, .bool false, .slice none 0 0]) (t := 28) ?hr ?_; (case hd => rfl); (case hg => rfl); (case hr => first | (go_simp; done) | (go_simp; rfl)); intro gb300 hg w29 hbox hb; have n0_ := Aside0.mk (Kd.R_below (by (with_reducible repeat (first | apply Kd.R_alloc | apply Kd.R_drewN | apply Kd.R_drew)); exact HO286.out) hb); have n1_ := Aside0.mk (Kd.R_below (by (with_reducible repeat (first | apply Kd.R_alloc | apply Kd.R_drewN | apply Kd.R_drew)); exact HO289.out) hb); have n2_ := Aside0.mk (Kd.R_below (by (with_reducible repeat (first | apply Kd.R_alloc | apply Kd.R_drewN | apply Kd.R_drew)); exact HO293.out) hb); have n3_ := Aside0.mk (Kd.R_below (by (with_reducible repeat (first | apply Kd.R_alloc | apply Kd.R_drewN | apply Kd.R_drew)); exact HO299.out) hb); have n4_ := Aside0.mk (blk_below (g := gb280) (o := .cells #[.int .i64 a0_0, .bool a0_1, .slice A0_2 l0_2.length c0_2] 24 (0, 0)) (by first | (with_reducible exact BK280.out) | ((with_reducible repeat (first | refine blk_drewN ?_ _ | refine blk_drew ?_ | refine blk_alloc ?_ _)); exact BK280.out)) hb); have n5_ := Aside0.mk (below_step (by repeat (first | (with_reducible first | exact HB.out | apply below_alloc | apply pw_below_drewN | apply below_drew1 | refine below_set ?_ GE280.out) | exact HB.out)) hb); have n6_ := Aside0.mk (hbox); have n7_ := Aside0.mk ((by rw [hg]; exact (below_size (by repeat (first | (with_reducible first | exact HB.out | apply below_alloc | apply pw_below_drewN | apply below_drew1 | refine below_set ?_ GE280.out) | exact HB.out))) : w.heap.size ≤ gb300)); have n8_ := Aside0.mk ((by rw [hg]; exact (below_size (by repeat (first | (with_reducible first | exact HB.out | apply below_alloc | apply pw_below_drewN | apply below_drew1 | refine below_set ?_ GE280.out) | exact HB.out))) : w.heap.size ≤ gb300)); have n9_ := Aside0.mk ((by rw [hg]; exact Nat.ne_of_lt (blk_lt (g := gb280) (o := .cells #[.int .i64 a0_0, .bool a0_1, .slice A0_2 l0_2.length c0_2] 24 (0, 0)) (by first | (with_reducible exact BK280.out) | ((with_reducible repeat (first | refine blk_drewN ?_ _ | refine blk_drew ?_ | refine blk_alloc ?_ _)); exact BK280.out))) : gb280 ≠ gb300)); have n10_ := Aside0.mk ((by rw [hg]; exact Nat.ne_of_gt (blk_lt (g := gb280) (o := .cells #[.int .i64 a0_0, .bool a0_1, .slice A0_2 l0_2.length c0_2] 24 (0, 0)) (by first | (with_reducible exact BK280.out) | ((with_reducible repeat (first | refine blk_drewN ?_ _ | refine blk_drew ?_ | refine blk_alloc ?_ _)); exact BK280.out))) : gb300 ≠ gb280)); clear HO286; clear HO289; clear HO293; clear HO299; clear BK280; clear HB; have HO286 := n0_; have HO289 := n1_; have HO293 := n2_; have HO299 := n3_; have BK280 := n4_; have HB := n5_; have BK300 := n6_; have GW300 := n7_; have GE300 := n8_; have NB280_300 := n9_; have NB300_280 := n10_; clear n0_ n1_ n2_ n3_ n4_ n5_ n6_ n7_ n8_ n9_ n10_; clear hb hbox hg; have hnb30 := NB300_280.out; have hnc30 := NB280_300.out; have hcz31_0 : w29.cell? ⟨gb300, 0, none⟩ = some (.int .i64 0) := (blk_cell BK300.out 0).trans rfl; have hcz31_1 : w29.cell? ⟨gb300, 1, none⟩ = some (.bool false) := (blk_cell BK300.out 1).trans rfl; have hcz31_2 : w29.cell? ⟨gb300, 2, none⟩ = some (.slice none 0 0) := (blk_cell BK300.out 2).trans rfl; have hfz31_0 := blk_frozen BK300.out 0; have hfz31_1 := blk_frozen BK300.out 1; have hfz31_2 := blk_frozen BK300.out 2; obtain ⟨Ao32, co32, eo32⟩ := Kd.R_slice HO299.out; subst eo32) | ((with_reducible refine gate_callee (f := 12) rfl ?_); refine goesL_ (some 43) rfl rfl Tryd.func12 (by kernel_rfl) rfl #[.slice A1 l1.length c1] rfl (by (try simp only [List.map_toArray, List.map_cons, List.map_nil]); first | done | rfl | (simp only [List.length_drop, List.length_take]; rfl)) ?_; (with_reducible refine (laws_toIntS.calls k _ _ l1 t301 _ ?side1 ?side2 A15.out).mono ?_); (case side1 => exact Kd.C_below HR1.out (by repeat (first | (with_reducible first | exact HB.out | apply below_alloc | apply pw_below_drewN | apply below_drew1 | refine below_set ?_ GE280.out | refine below_set ?_ GE300.out) | exact HB.out))); (case side2 => exact HC1.out); rintro e w33 ⟨v302, rfl, ho0, hb⟩; refine ⟨_, rfl, ?_⟩; have n0_ := Aside0.mk (Kd.R_elder' (by (with_reducible repeat (first | apply Kd.R_alloc | apply Kd.R_drewN | apply Kd.R_drew)); exact (Kd.R_mono (Kd.R_far (p := ⟨gb300, 2, none⟩) (Kd.R_far (p := ⟨gb300, 1, none⟩) (Kd.R_far (p := ⟨gb300, 0, none⟩) (Kd.R_types HO286.out BK300.out (by decide)) (fun _ hk => hk.2) (.int .i64 t295)) (fun _ hk => hk.2) (.bool t296)) (fun _ hk => hk.2) (.slice Ao32 t297.length co32)) (fun _ h_ => h_.1))) (Kd.R_base ho0) hb); have n1_ := Aside0.mk (Kd.R_elder' (by (with_reducible repeat (first | apply Kd.R_alloc | apply Kd.R_drewN | apply Kd.R_drew)); exact (Kd.R_mono (Kd.R_far (p := ⟨gb300, 2, none⟩) (Kd.R_far (p := ⟨gb300, 1, none⟩) (Kd.R_far (p := ⟨gb300, 0, none⟩) (Kd.R_types HO289.out BK300.out (by decide)) (fun _ hk => hk.2) (.int .i64 t295)) (fun _ hk => hk.2) (.bool t296)) (fun _ hk => hk.2) (.slice Ao32 t297.length co32)) (fun _ h_ => h_.1))) (Kd.R_base ho0) hb); have n2_ := Aside0.mk (Kd.R_elder' (by (with_reducible repeat (first | apply Kd.R_alloc | apply Kd.R_drewN | apply Kd.R_drew)); exact (Kd.R_mono (Kd.R_far (p := ⟨gb300, 2, none⟩) (Kd.R_far (p := ⟨gb300, 1, none⟩) (Kd.R_far (p := ⟨gb300, 0, none⟩) (Kd.R_types HO293.out BK300.out (by decide)) (fun _ hk => hk.2) (.int .i64 t295)) (fun _ hk => hk.2) (.bool t296)) (fun _ hk => hk.2) (.slice Ao32 t297.length co32)) (fun _ h_ => h_.1))) (Kd.R_base ho0) hb); have n3_ := Aside0.mk (Kd.R_elder' (by (with_reducible repeat (first | apply Kd.R_alloc | apply Kd.R_drewN | apply Kd.R_drew)); exact (Kd.R_mono (Kd.R_far (p := ⟨gb300, 2, none⟩) (Kd.R_far (p := ⟨gb300, 1, none⟩) (Kd.R_far (p := ⟨gb300, 0, none⟩) (Kd.R_types HO299.out BK300.out (by decide)) (fun _ hk => hk.2) (.int .i64 t295)) (fun _ hk => hk.2) (.bool t296)) (fun _ hk => hk.2) (.slice Ao32 t297.length co32)) (fun _ h_ => h_.1))) (Kd.R_base ho0) hb); have n4_ := Aside0.mk (Kd.R_lower (Kd.R_new' (Kd.R_new' (Kd.R_new' (Kd.R_new' ho0 (Kd.R_lt (by (with_reducible repeat (first | apply Kd.R_alloc | apply Kd.R_drewN | apply Kd.R_drew)); exact (Kd.R_mono (Kd.R_far (p := ⟨gb300, 2, none⟩) (Kd.R_far (p := ⟨gb300, 1, none⟩) (Kd.R_far (p := ⟨gb300, 0, none⟩) (Kd.R_types HO286.out BK300.out (by decide)) (fun _ hk => hk.2) (.int .i64 t295)) (fun _ hk => hk.2) (.bool t296)) (fun _ hk => hk.2) (.slice Ao32 t297.length co32)) (fun _ h_ => h_.1))))) (Kd.R_lt (by (with_reducible repeat (first | apply Kd.R_alloc | apply Kd.R_drewN | apply Kd.R_drew)); exact (Kd.R_mono (Kd.R_far (p := ⟨gb300, 2, none⟩) (Kd.R_far (p := ⟨gb300, 1, none⟩) (Kd.R_far (p := ⟨gb300, 0, none⟩) (Kd.R_types HO289.out BK300.out (by decide)) (fun _ hk => hk.2) (.int .i64 t295)) (fun _ hk => hk.2) (.bool t296)) (fun _ hk => hk.2) (.slice Ao32 t297.length co32)) (fun _ h_ => h_.1))))) (Kd.R_lt (by (with_reducible repeat (first | apply Kd.R_alloc | apply Kd.R_drewN | apply Kd.R_drew)); exact (Kd.R_mono (Kd.R_far (p := ⟨gb300, 2, none⟩) (Kd.R_far (p := ⟨gb300, 1, none⟩) (Kd.R_far (p := ⟨gb300, 0, none⟩) (Kd.R_types HO293.out BK300.out (by decide)) (fun _ hk => hk.2) (.int .i64 t295)) (fun _ hk => hk.2) (.bool t296)) (fun _ hk => hk.2) (.slice Ao32 t297.length co32)) (fun _ h_ => h_.1))))) (Kd.R_lt (by (with_reducible repeat (first | apply Kd.R_alloc | apply Kd.R_drewN | apply Kd.R_drew)); exact (Kd.R_mono (Kd.R_far (p := ⟨gb300, 2, none⟩) (Kd.R_far (p := ⟨gb300, 1, none⟩) (Kd.R_far (p := ⟨gb300, 0, none⟩) (Kd.R_types HO299.out BK300.out (by decide)) (fun _ hk => hk.2) (.int .i64 t295)) (fun _ hk => hk.2) (.bool t296)) (fun _ hk => hk.2) (.slice Ao32 t297.length co32)) (fun _ h_ => h_.1))))) (below_size (by repeat (first | (with_reducible first | exact HB.out | apply below_alloc | apply pw_below_drewN | apply below_drew1 | refine below_set ?_ GE280.out | refine below_set ?_ GE300.out) | exact HB.out)))); have n5_ := Aside0.mk (blk_below (g := gb280) (o := .cells #[.int .i64 a0_0, .bool a0_1, .slice A0_2 l0_2.length c0_2] 24 (0, 0)) (by (with_reducible repeat (first | refine blk_drewN ?_ _ | refine blk_drew ?_ | refine blk_alloc ?_ _)); refine blk_far ?_ NB280_300.out _; (with_reducible repeat (first | refine blk_drewN ?_ _ | refine blk_drew ?_ | refine blk_alloc ?_ _)); refine blk_far ?_ NB280_300.out _; (with_reducible repeat (first | refine blk_drewN ?_ _ | refine blk_drew ?_ | refine blk_alloc ?_ _)); refine blk_far ?_ NB280_300.out _; (with_reducible repeat (first | refine blk_drewN ?_ _ | refine blk_drew ?_ | refine blk_alloc ?_ _)); exact BK280.out) hb); have n6_ := Aside0.mk (blk_below (g := gb300) (o := .cells #[.int .i64 t295, .bool t296, .slice Ao32 t297.length co32] 28 (0, 0)) (by (with_reducible repeat (first | refine blk_drewN ?_ _ | refine blk_drew ?_ | refine blk_alloc ?_ _)); refine blk_put (cs := #[.int .i64 t295, .bool t296, .slice none 0 0]) ?_ 2 _ rfl; (with_reducible repeat (first | refine blk_drewN ?_ _ | refine blk_drew ?_ | refine blk_alloc ?_ _)); refine blk_put (cs := #[.int .i64 t295, .bool false, .slice none 0 0]) ?_ 1 _ rfl; (with_reducible repeat (first | refine blk_drewN ?_ _ | refine blk_drew ?_ | refine blk_alloc ?_ _)); refine blk_put (cs := #[.int .i64 0, .bool false, .slice none 0 0]) ?_ 0 _ rfl; (with_reducible repeat (first | refine blk_drewN ?_ _ | refine blk_drew ?_ | refine blk_alloc ?_ _)); exact BK300.out) hb); have n7_ := Aside0.mk (below_step (by repeat (first | (with_reducible first | exact HB.out | apply below_alloc | apply pw_below_drewN | apply below_drew1 | refine below_set ?_ GE280.out | refine below_set ?_ GE300.out) | exact HB.out)) hb); clear HO286; clear HO289; clear HO293; clear HO299; clear BK280; clear BK300; clear HB; have HO286 := n0_; have HO289 := n1_; have HO293 := n2_; have HO299 := n3_; have HO303 := n4_; have BK280 := n5_; have BK300 := n6_; have HB := n7_; clear n0_ n1_ n2_ n3_ n4_ n5_ n6_ n7_; (try clear hb); (try clear hb2); (try clear hk); (try clear hi); (try clear ho0); have hcz34_0 : w33.cell? ⟨gb300, 0, none⟩ = some (.int .i64 t295) := (blk_cell BK300.out 0).trans rfl; have hcz34_1 : w33.cell? ⟨gb300, 1, none⟩ = some (.bool t296) := (blk_cell BK300.out 1).trans rfl; have hcz34_2 : w33.cell? ⟨gb300, 2, none⟩ = some (.slice Ao32 t297.length co32) := (blk_cell BK300.out 2).trans rfl; have hfz34_0 := blk_frozen BK300.out 0; have hfz34_1 := blk_frozen BK300.out 1; have hfz34_2 := blk_frozen BK300.out 2; obtain ⟨Ao35, co35, eo35⟩ := Kd.R_slice HO303.out; subst eo35) | ((with_reducible refine gate_callee (f := 28) rfl ?_); refine goesL_ (some 48) rfl rfl Tryd.func28 (by kernel_rfl) rfl #[.agg #[.int .i64 t295, .bool t296, .slice Ao32 t297.length co32], .slice Ao35 t301.length co35, .int .i64 a2] rfl (by (try simp only [List.map_toArray, List.map_cons, List.map_nil]); first | done | rfl | (simp only [List.length_drop, List.length_take]; rfl)) ?_; (with_reducible refine (impl_BestWorth.calls k t295 t296 _ _ t297 _ _ t301 a2 t304 t305 t308 _ ?side1 ?side2 ?side3 ?side4 ?side5 A16.out).mono ?_); (case side1 => repeat (first | exact (Kd.R_reads' HO299.out).2.2 | (with_reducible refine Kd.C_alloc ?_ _) | (with_reducible refine Kd.C_drewN ?_ _) | (with_reducible refine Kd.C_drew ?_))); (case side2 => exact (Kd.R_reads' HO299.out).2.1); (case side3 => repeat (first | exact (Kd.R_reads' HO303.out).2.2 | (with_reducible refine Kd.C_alloc ?_ _) | (with_reducible refine Kd.C_drewN ?_ _) | (with_reducible refine Kd.C_drew ?_))); (case side4 => exact (Kd.R_reads' HO303.out).2.1); (case side5 => exact GT.below HRT.out (by repeat (first | (with_reducible first | exact HB.out | apply below_alloc | apply pw_below_drewN | apply below_drew1 | refine below_set ?_ GE280.out | refine below_set ?_ GE300.out) | exact HB.out))); rintro e w36 ⟨v306, rfl, ho0, hb⟩; refine ⟨_, rfl, ?_⟩; have n0_ := Aside0.mk (Kd.R_elder' (by (with_reducible repeat (first | apply Kd.R_alloc | apply Kd.R_drewN | apply Kd.R_drew)); exact HO286.out) (Kd.R_base ho0) hb); have n1_ := Aside0.mk (Kd.R_elder' (by (with_reducible repeat (first | apply Kd.R_alloc | apply Kd.R_drewN | apply Kd.R_drew)); exact HO289.out) (Kd.R_base ho0) hb); have n2_ := Aside0.mk (Kd.R_elder' (by (with_reducible repeat (first | apply Kd.R_alloc | apply Kd.R_drewN | apply Kd.R_drew)); exact HO293.out) (Kd.R_base ho0) hb); have n3_ := Aside0.mk (Kd.R_elder' (by (with_reducible repeat (first | apply Kd.R_alloc | apply Kd.R_drewN | apply Kd.R_drew)); exact HO299.out) (Kd.R_base ho0) hb); have n4_ := Aside0.mk (Kd.R_elder' (by (with_reducible repeat (first | apply Kd.R_alloc | apply Kd.R_drewN | apply Kd.R_drew)); exact HO303.out) (Kd.R_base ho0) hb); have n5_ := Aside0.mk (Kd.R_lower (Kd.R_new' (Kd.R_new' (Kd.R_new' (Kd.R_new' (Kd.R_new' ho0 (Kd.R_lt (by (with_reducible repeat (first | apply Kd.R_alloc | apply Kd.R_drewN | apply Kd.R_drew)); exact HO286.out))) (Kd.R_lt (by (with_reducible repeat (first | apply Kd.R_alloc | apply Kd.R_drewN | apply Kd.R_drew)); exact HO289.out))) (Kd.R_lt (by (with_reducible repeat (first | apply Kd.R_alloc | apply Kd.R_drewN | apply Kd.R_drew)); exact HO293.out))) (Kd.R_lt (by (with_reducible repeat (first | apply Kd.R_alloc | apply Kd.R_drewN | apply Kd.R_drew)); exact HO299.out))) (Kd.R_lt (by (with_reducible repeat (first | apply Kd.R_alloc | apply Kd.R_drewN | apply Kd.R_drew)); exact HO303.out))) (below_size (by repeat (first | (with_reducible first | exact HB.out | apply below_alloc | apply pw_below_drewN | apply below_drew1 | refine below_set ?_ GE280.out | refine below_set ?_ GE300.out) | exact HB.out)))); have n6_ := Aside0.mk (blk_below (g := gb280) (o := .cells #[.int .i64 a0_0, .bool a0_1, .slice A0_2 l0_2.length c0_2] 24 (0, 0)) (by first | (with_reducible exact BK280.out) | ((with_reducible repeat (first | refine blk_drewN ?_ _ | refine blk_drew ?_ | refine blk_alloc ?_ _)); exact BK280.out)) hb); have n7_ := Aside0.mk (blk_below (g := gb300) (o := .cells #[.int .i64 t295, .bool t296, .slice Ao32 t297.length co32] 28 (0, 0)) (by first | (with_reducible exact BK300.out) | ((with_reducible repeat (first | refine blk_drewN ?_ _ | refine blk_drew ?_ | refine blk_alloc ?_ _)); exact BK300.out)) hb); have n8_ := Aside0.mk (below_step (by repeat (first | (with_reducible first | exact HB.out | apply below_alloc | apply pw_below_drewN | apply below_drew1 | refine below_set ?_ GE280.out | refine below_set ?_ GE300.out) | exact HB.out)) hb); clear HO286; clear HO289; clear HO293; clear HO299; clear HO303; clear BK280; clear BK300; clear HB; have HO286 := n0_; have HO289 := n1_; have HO293 := n2_; have HO299 := n3_; have HO303 := n4_; have HO307 := n5_; have BK280 := n6_; have BK300 := n7_; have HB := n8_; clear n0_ n1_ n2_ n3_ n4_ n5_ n6_ n7_ n8_; (try clear hb); (try clear hb2); (try clear hk); (try clear hi); (try clear ho0)))
      (try simp only [Act.put, List.setIfInBounds_toArray, List.set_cons_zero, List.set_cons_succ])
      go_cut [65] (fun v65 wc => ∃ (kq : Nat) (x65_16 : Bool), v65 = .bool x65_16 ∧ Aside0 (laws_FnExactBestWorth.j0 kq l1 a2 t290 t291 t294 t301 t304 t305 t308 x65_16 a0_0 a0_1 l0_2 t295 t296 t297 = some r) ∧ Aside0 (kq ≤ k) ∧ Aside0 (Kd.R (Kd.int .i64) 3 wc w.heap.size (fun k_ => some k_ ≠ ((.slice Ao35 t301.length co35) : Value).ownBlock ∧ some k_ ≠ (v306 : Value).ownBlock ∧ some k_ ≠ ((.slice Ao32 t297.length co32) : Value).ownBlock) v292 t291) ∧ Aside0 (Kd.R (Kd.int .i64) 3 wc w.heap.size (fun k_ => some k_ ≠ (v292 : Value).ownBlock ∧ some k_ ≠ (v306 : Value).ownBlock ∧ some k_ ≠ ((.slice Ao32 t297.length co32) : Value).ownBlock) (.slice Ao35 t301.length co35) t301) ∧ Aside0 (Kd.R (Kd.int .i64) 3 wc w.heap.size (fun k_ => some k_ ≠ (v292 : Value).ownBlock ∧ some k_ ≠ ((.slice Ao35 t301.length co35) : Value).ownBlock ∧ some k_ ≠ ((.slice Ao32 t297.length co32) : Value).ownBlock) v306 t305) ∧ Aside0 (Kd.R (Kd.int .i64) 3 wc w.heap.size (fun k_ => some k_ ≠ (v292 : Value).ownBlock ∧ some k_ ≠ ((.slice Ao35 t301.length co35) : Value).ownBlock ∧ some k_ ≠ (v306 : Value).ownBlock) (.slice Ao32 t297.length co32) t297) ∧ Aside0 (wc.heap[gb280]? = some (.cells #[.int .i64 a0_0, .bool a0_1, (.slice A0_2 l0_2.length c0_2)] 24 (0, 0))) ∧ Aside0 (wc.heap[gb300]? = some (.cells #[.int .i64 t295, .bool t296, (.slice Ao32 t297.length co32)] 28 (0, 0))) ∧ Aside0 (Below w.heap.size w wc))
      case first =>
        have H := HC17.out
        clear HC17
        by_cases c37 : t304 = t290
        · rw [if_pos c37] at H
          have c37b0 : (t304 == t290) = true := beq_iff_eq.mpr c37
          have c37b1 : (t304 != t290) = false := bne_eq_false_iff_eq.mpr c37
          clear c37
          (first | rw [c37b0] | (simp only [i64_w, i32_w]; rw [c37b0]) | rw [c37b1] | skip)
          replace H := Option.bind_eq_some_iff.mp H
          obtain ⟨t309, A380, H⟩ := H
          replace H : (if t309 = true then (laws_FnExactBestWorth.j0 k l1 a2 t290 t291 t294 t301 t304 t305 t308 (t308 != t294) a0_0 a0_1 l0_2 t295 t296 t297) else (laws_FnExactBestWorth.j0 k l1 a2 t290 t291 t294 t301 t304 t305 t308 true a0_0 a0_1 l0_2 t295 t296 t297)) = some r := H
          have A38 := Aside0.mk A380
          clear A380
          by_cases c39 : t309 = true
          · subst c39
            have H1 : (laws_FnExactBestWorth.j0 k l1 a2 t290 t291 t294 t301 t304 t305 t308 (t308 != t294) a0_0 a0_1 l0_2 t295 t296 t297) = some r := by rw [if_pos rfl] at H; exact H
            clear H
            have H := H1
            clear H1
            have H' := Aside0.mk H
            clear H
            obtain ⟨Ao40, co40, eo40⟩ := Kd.R_slice HO307.out
            subst eo40
            obtain ⟨Ao41, co41, eo41⟩ := Kd.R_slice HO293.out
            subst eo41
            go_wp2_with (first | (go_at_call 15; (with_reducible refine (laws_eqIntS.calls k _ _ t305 _ _ t291 true _ ?side1 ?side2 ?side3 ?side4 A38.out).mono ?_); (case side1 => repeat (first | exact (Kd.R_reads' HO307.out).2.2 | (with_reducible refine Kd.C_alloc ?_ _) | (with_reducible refine Kd.C_drewN ?_ _) | (with_reducible refine Kd.C_drew ?_))); (case side2 => exact (Kd.R_reads' HO307.out).2.1); (case side3 => repeat (first | exact (Kd.R_reads' HO293.out).2.2 | (with_reducible refine Kd.C_alloc ?_ _) | (with_reducible refine Kd.C_drewN ?_ _) | (with_reducible refine Kd.C_drew ?_))); (case side4 => exact (Kd.R_reads' HO293.out).2.1); rintro e w' ⟨rfl, ⟨nd, rfl⟩⟩))
            go_meet
            case rel => exact ⟨_, ((t308 != t294)), (by first | rfl | (simp; done) | (simp [*]; done)), H', ⟨by first | omega | exact Nat.le_refl _⟩, ⟨by (with_reducible repeat (first | apply Kd.R_alloc | apply Kd.R_drewN | apply Kd.R_drew)); exact Kd.R_mono HO293.out (fun _ hk => ⟨hk.1.2, ⟨hk.2, hk.1.1.2⟩⟩)⟩, ⟨by (with_reducible repeat (first | apply Kd.R_alloc | apply Kd.R_drewN | apply Kd.R_drew)); exact Kd.R_mono HO303.out (fun _ hk => ⟨hk.1.1.2, ⟨hk.2, hk.1.2⟩⟩)⟩, ⟨by (with_reducible repeat (first | apply Kd.R_alloc | apply Kd.R_drewN | apply Kd.R_drew)); exact Kd.R_mono HO307.out (fun _ hk => ⟨hk.1.1.2, ⟨hk.2, hk.1.2⟩⟩)⟩, ⟨by (with_reducible repeat (first | apply Kd.R_alloc | apply Kd.R_drewN | apply Kd.R_drew)); exact Kd.R_mono HO299.out (fun _ hk => ⟨hk.1.1.2, ⟨hk.1.2, hk.2⟩⟩)⟩, ⟨by first | (with_reducible exact BK280.out) | ((with_reducible repeat (first | refine blk_drewN ?_ _ | refine blk_drew ?_ | refine blk_alloc ?_ _)); exact BK280.out)⟩, ⟨by first | (with_reducible exact BK300.out) | ((with_reducible repeat (first | refine blk_drewN ?_ _ | refine blk_drew ?_ | refine blk_alloc ?_ _)); exact BK300.out)⟩, ⟨by repeat (first | (with_reducible first | exact HB.out | apply below_alloc | apply pw_below_drewN | apply below_drew1 | refine below_set ?_ GE280.out | refine below_set ?_ GE300.out) | exact HB.out)⟩⟩
          · replace c39 := Bool.eq_false_iff.mpr c39
            subst c39
            have H1 : (laws_FnExactBestWorth.j0 k l1 a2 t290 t291 t294 t301 t304 t305 t308 true a0_0 a0_1 l0_2 t295 t296 t297) = some r := by rw [if_neg (show ¬ (false = true) by decide)] at H; exact H
            clear H
            have H := H1
            clear H1
            exact absurd ((laws_FnExactBestWorth.j0_no _ _ _ _ _ _ _ _ _ _ _ _ _ _ _ _ _ H).trans HRV.out) (by decide)
        · rw [if_neg c37] at H
          have c37b0 : (t304 == t290) = false := beq_eq_false_iff_ne.mpr c37
          have c37b1 : (t304 != t290) = true := bne_iff_ne.mpr c37
          (first | rw [c37b0] | (simp only [i64_w, i32_w]; rw [c37b0]) | rw [c37b1] | skip)
          exact absurd ((laws_FnExactBestWorth.j0_no _ _ _ _ _ _ _ _ _ _ _ _ _ _ _ _ _ H).trans HRV.out) (by decide)
      case rest =>
        clear HC17
        try clear c1
        try clear c2
        try clear p2
        try clear c3
        try clear c4
        try clear c4b0
        try clear c4b1
        try clear c7
        try clear c7b0
        try clear c8
        try clear c9
        try clear c11
        try clear c12
        try clear c27
        try clear c28
        try clear c30
        try clear c37
        try clear c37b0
        try clear c37b1
        try clear c39
        try clear hcz19_0
        try clear hcz19_1
        try clear hcz19_2
        try clear hcz21_0
        try clear hcz21_1
        try clear hcz21_2
        try clear hcz27_0
        try clear hcz27_1
        try clear hcz27_2
        try clear hcz31_0
        try clear hcz31_1
        try clear hcz31_2
        try clear hcz34_0
        try clear hcz34_1
        try clear hcz34_2
        try clear hcz9_0
        try clear hcz9_1
        try clear hcz9_2
        try clear hfz19_0
        try clear hfz19_1
        try clear hfz19_2
        try clear hfz21_0
        try clear hfz21_1
        try clear hfz21_2
        try clear hfz27_0
        try clear hfz27_1
        try clear hfz27_2
        try clear hfz31_0
        try clear hfz31_1
        try clear hfz31_2
        try clear hfz34_0
        try clear hfz34_1
        try clear hfz34_2
        try clear hfz9_0
        try clear hfz9_1
        try clear hfz9_2
        obtain ⟨kq, x65_16, rfl, HA, HJ16, HO_9, HO_12, HO_14, HO_301002, BK280, BK300, HB⟩ := hcut
        cases kq with
        | zero => exact absurd HA.out (by simp [laws_FnExactBestWorth.j0])
        | succ kj16 =>
          have H := HA.out
          clear HA
          simp only [laws_FnExactBestWorth.j0] at H
          by_cases c42 : x65_16 = true
          · subst c42
            have H1 : (some false) = some r := by rw [if_pos rfl] at H; exact H
            clear H
            have H := H1
            clear H1
            exact absurd ((Option.some.inj H).trans HRV.out) (by decide)
          · replace c42 := Bool.eq_false_iff.mpr c42
            subst c42
            have H1 : ((laws_toRow.f kj16 a0_0 a0_1 l0_2).bind fun bt310 => ((laws_eqRow.f kj16 t295 t296 t297 bt310.1 bt310.2.1 bt310.2.2).bind fun t315 => (if t315 = true then ((laws_toIntS.f kj16 l1).bind fun t316 => ((laws_eqIntS.f kj16 t301 t316).bind fun t319 => (if t319 = true then ((laws_markRow.f kj16 t295 t296 t297 1).bind fun bt320 => ((laws_markIntS.f kj16 t301 bt320.1).bind fun bt322 => (if bt322.1 < 0 then (laws_FnExactBestWorth.j1 kj16 l1 a2 t290 t291 t294 t305 true a0_0 a0_1 l0_2) else (if t304 = t290 then ((laws_eqIntS.f kj16 t305 t291).bind fun t324 => (if t324 = true then (laws_FnExactBestWorth.j1 kj16 l1 a2 t290 t291 t294 t305 (t308 != t294) a0_0 a0_1 l0_2) else (laws_FnExactBestWorth.j1 kj16 l1 a2 t290 t291 t294 t305 true a0_0 a0_1 l0_2))) else (laws_FnExactBestWorth.j1 kj16 l1 a2 t290 t291 t294 t305 true a0_0 a0_1 l0_2))))) else (some false)))) else (some false)))) = some r := by rw [if_neg (show ¬ (false = true) by decide)] at H; exact H
            clear H
            have H := H1
            clear H1
            replace H := Option.bind_eq_some_iff.mp H
            obtain ⟨⟨t310, t311, t312⟩, A430, H⟩ := H
            replace H : ((laws_eqRow.f kj16 t295 t296 t297 t310 t311 t312).bind fun t315 => (if t315 = true then ((laws_toIntS.f kj16 l1).bind fun t316 => ((laws_eqIntS.f kj16 t301 t316).bind fun t319 => (if t319 = true then ((laws_markRow.f kj16 t295 t296 t297 1).bind fun bt320 => ((laws_markIntS.f kj16 t301 bt320.1).bind fun bt322 => (if bt322.1 < 0 then (laws_FnExactBestWorth.j1 kj16 l1 a2 t290 t291 t294 t305 true a0_0 a0_1 l0_2) else (if t304 = t290 then ((laws_eqIntS.f kj16 t305 t291).bind fun t324 => (if t324 = true then (laws_FnExactBestWorth.j1 kj16 l1 a2 t290 t291 t294 t305 (t308 != t294) a0_0 a0_1 l0_2) else (laws_FnExactBestWorth.j1 kj16 l1 a2 t290 t291 t294 t305 true a0_0 a0_1 l0_2))) else (laws_FnExactBestWorth.j1 kj16 l1 a2 t290 t291 t294 t305 true a0_0 a0_1 l0_2))))) else (some false)))) else (some false))) = some r := H
            have A43 := Aside0.mk A430
            clear A430
            replace H := Option.bind_eq_some_iff.mp H
            obtain ⟨t315, A440, H⟩ := H
            replace H : (if t315 = true then ((laws_toIntS.f kj16 l1).bind fun t316 => ((laws_eqIntS.f kj16 t301 t316).bind fun t319 => (if t319 = true then ((laws_markRow.f kj16 t295 t296 t297 1).bind fun bt320 => ((laws_markIntS.f kj16 t301 bt320.1).bind fun bt322 => (if bt322.1 < 0 then (laws_FnExactBestWorth.j1 kj16 l1 a2 t290 t291 t294 t305 true a0_0 a0_1 l0_2) else (if t304 = t290 then ((laws_eqIntS.f kj16 t305 t291).bind fun t324 => (if t324 = true then (laws_FnExactBestWorth.j1 kj16 l1 a2 t290 t291 t294 t305 (t308 != t294) a0_0 a0_1 l0_2) else (laws_FnExactBestWorth.j1 kj16 l1 a2 t290 t291 t294 t305 true a0_0 a0_1 l0_2))) else (laws_FnExactBestWorth.j1 kj16 l1 a2 t290 t291 t294 t305 true a0_0 a0_1 l0_2))))) else (some false)))) else (some false)) = some r := H
            have A44 := Aside0.mk A440
            clear A440
            by_cases c45 : t315 = true
            · subst c45
              have H1 : ((laws_toIntS.f kj16 l1).bind fun t316 => ((laws_eqIntS.f kj16 t301 t316).bind fun t319 => (if t319 = true then ((laws_markRow.f kj16 t295 t296 t297 1).bind fun bt320 => ((laws_markIntS.f kj16 t301 bt320.1).bind fun bt322 => (if bt322.1 < 0 then (laws_FnExactBestWorth.j1 kj16 l1 a2 t290 t291 t294 t305 true a0_0 a0_1 l0_2) else (if t304 = t290 then ((laws_eqIntS.f kj16 t305 t291).bind fun t324 => (if t324 = true then (laws_FnExactBestWorth.j1 kj16 l1 a2 t290 t291 t294 t305 (t308 != t294) a0_0 a0_1 l0_2) else (laws_FnExactBestWorth.j1 kj16 l1 a2 t290 t291 t294 t305 true a0_0 a0_1 l0_2))) else (laws_FnExactBestWorth.j1 kj16 l1 a2 t290 t291 t294 t305 true a0_0 a0_1 l0_2))))) else (some false)))) = some r := by rw [if_pos rfl] at H; exact H
              clear H
              have H := H1
              clear H1
              replace H := Option.bind_eq_some_iff.mp H
              obtain ⟨t316, A460, H⟩ := H
              replace H : ((laws_eqIntS.f kj16 t301 t316).bind fun t319 => (if t319 = true then ((laws_markRow.f kj16 t295 t296 t297 1).bind fun bt320 => ((laws_markIntS.f kj16 t301 bt320.1).bind fun bt322 => (if bt322.1 < 0 then (laws_FnExactBestWorth.j1 kj16 l1 a2 t290 t291 t294 t305 true a0_0 a0_1 l0_2) else (if t304 = t290 then ((laws_eqIntS.f kj16 t305 t291).bind fun t324 => (if t324 = true then (laws_FnExactBestWorth.j1 kj16 l1 a2 t290 t291 t294 t305 (t308 != t294) a0_0 a0_1 l0_2) else (laws_FnExactBestWorth.j1 kj16 l1 a2 t290 t291 t294 t305 true a0_0 a0_1 l0_2))) else (laws_FnExactBestWorth.j1 kj16 l1 a2 t290 t291 t294 t305 true a0_0 a0_1 l0_2))))) else (some false))) = some r := H
              have A46 := Aside0.mk A460
              clear A460
              replace H := Option.bind_eq_some_iff.mp H
              obtain ⟨t319, A470, H⟩ := H
              replace H : (if t319 = true then ((laws_markRow.f kj16 t295 t296 t297 1).bind fun bt320 => ((laws_markIntS.f kj16 t301 bt320.1).bind fun bt322 => (if bt322.1 < 0 then (laws_FnExactBestWorth.j1 kj16 l1 a2 t290 t291 t294 t305 true a0_0 a0_1 l0_2) else (if t304 = t290 then ((laws_eqIntS.f kj16 t305 t291).bind fun t324 => (if t324 = true then (laws_FnExactBestWorth.j1 kj16 l1 a2 t290 t291 t294 t305 (t308 != t294) a0_0 a0_1 l0_2) else (laws_FnExactBestWorth.j1 kj16 l1 a2 t290 t291 t294 t305 true a0_0 a0_1 l0_2))) else (laws_FnExactBestWorth.j1 kj16 l1 a2 t290 t291 t294 t305 true a0_0 a0_1 l0_2))))) else (some false)) = some r := H
              have A47 := Aside0.mk A470
              clear A470
              by_cases c48 : t319 = true
              · subst c48
                have H1 : ((laws_markRow.f kj16 t295 t296 t297 1).bind fun bt320 => ((laws_markIntS.f kj16 t301 bt320.1).bind fun bt322 => (if bt322.1 < 0 then (laws_FnExactBestWorth.j1 kj16 l1 a2 t290 t291 t294 t305 true a0_0 a0_1 l0_2) else (if t304 = t290 then ((laws_eqIntS.f kj16 t305 t291).bind fun t324 => (if t324 = true then (laws_FnExactBestWorth.j1 kj16 l1 a2 t290 t291 t294 t305 (t308 != t294) a0_0 a0_1 l0_2) else (laws_FnExactBestWorth.j1 kj16 l1 a2 t290 t291 t294 t305 true a0_0 a0_1 l0_2))) else (laws_FnExactBestWorth.j1 kj16 l1 a2 t290 t291 t294 t305 true a0_0 a0_1 l0_2))))) = some r := by rw [if_pos rfl] at H; exact H
                clear H
                have H := H1
                clear H1
                replace H := Option.bind_eq_some_iff.mp H
                obtain ⟨⟨t320, t321⟩, A490, H⟩ := H
                replace H : ((laws_markIntS.f kj16 t301 t320).bind fun bt322 => (if bt322.1 < 0 then (laws_FnExactBestWorth.j1 kj16 l1 a2 t290 t291 t294 t305 true a0_0 a0_1 l0_2) else (if t304 = t290 then ((laws_eqIntS.f kj16 t305 t291).bind fun t324 => (if t324 = true then (laws_FnExactBestWorth.j1 kj16 l1 a2 t290 t291 t294 t305 (t308 != t294) a0_0 a0_1 l0_2) else (laws_FnExactBestWorth.j1 kj16 l1 a2 t290 t291 t294 t305 true a0_0 a0_1 l0_2))) else (laws_FnExactBestWorth.j1 kj16 l1 a2 t290 t291 t294 t305 true a0_0 a0_1 l0_2)))) = some r := H
                have A49 := Aside0.mk A490
                clear A490
                replace H := Option.bind_eq_some_iff.mp H
                obtain ⟨⟨t322, t323⟩, A500, H⟩ := H
                replace H : (if t322 < 0 then (laws_FnExactBestWorth.j1 kj16 l1 a2 t290 t291 t294 t305 true a0_0 a0_1 l0_2) else (if t304 = t290 then ((laws_eqIntS.f kj16 t305 t291).bind fun t324 => (if t324 = true then (laws_FnExactBestWorth.j1 kj16 l1 a2 t290 t291 t294 t305 (t308 != t294) a0_0 a0_1 l0_2) else (laws_FnExactBestWorth.j1 kj16 l1 a2 t290 t291 t294 t305 true a0_0 a0_1 l0_2))) else (laws_FnExactBestWorth.j1 kj16 l1 a2 t290 t291 t294 t305 true a0_0 a0_1 l0_2))) = some r := H
                have A50 := Aside0.mk A500
                clear A500
                have HC51 := Aside0.mk H
                clear H
                try go_wp2
                have n0_ := Aside0.mk (Kd.R_drew HO_9.out)
                have n1_ := Aside0.mk (Kd.R_drew HO_12.out)
                have n2_ := Aside0.mk (Kd.R_drew HO_14.out)
                have n3_ := Aside0.mk (Kd.R_drew HO_301002.out)
                have n4_ := Aside0.mk (blk_drew BK280.out)
                have n5_ := Aside0.mk (blk_drew BK300.out)
                have n6_ := Aside0.mk (below_drew1 HB.out)
                clear HO_9
                clear HO_12
                clear HO_14
                clear HO_301002
                clear BK280
                clear BK300
                clear HB
                have HO_9 := n0_
                have HO_12 := n1_
                have HO_14 := n2_
                have HO_301002 := n3_
                have BK280 := n4_
                have BK300 := n5_
                have HB := n6_
                clear n0_ n1_ n2_ n3_ n4_ n5_ n6_
                refine start_ (n := 5) (S := fun w' => w'.cell? ⟨gb300, 0, none⟩ = some (.int .i64 t295) ∧ w'.cell? ⟨gb300, 1, none⟩ = some (.bool t296) ∧ w'.cell? ⟨gb300, 2, none⟩ = some (.slice Ao32 t297.length co32) ∧ w'.cell? ⟨gb280, 0, none⟩ = some (.int .i64 a0_0) ∧ w'.cell? ⟨gb280, 1, none⟩ = some (.bool a0_1) ∧ w'.cell? ⟨gb280, 2, none⟩ = some (.slice A0_2 l0_2.length c0_2)) (ds := []) #[false, false, false, false, false] (by kernel_rfl) rfl rfl ⟨(blk_cell BK300.out 0).trans rfl, (blk_cell BK300.out 1).trans rfl, (blk_cell BK300.out 2).trans rfl, (blk_cell BK280.out 0).trans rfl, (blk_cell BK280.out 1).trans rfl, (blk_cell BK280.out 2).trans rfl⟩ (fun hHeld => ?_)
                generalize wc.drew = w52 at HO_9 HO_12 HO_14 HO_301002 BK280 BK300 HB hHeld ⊢
                refine take_ (i := 0) (N := some 66) (v := ?_) (a' := ?_) #[true, false, false, false, false] rfl rfl (by kernel_rfl) (fun _ _ _ h => h) (Or.inl ⟨by rfl, ?_⟩) hHeld ?_ ?_
                rotate_left
                · rintro w' ⟨s0, s1, s2, s3, s4, s5⟩
                  go_simp
                  with_reducible rfl
                rotate_left
                · simp only [Act.put, List.setIfInBounds_toArray, List.set_cons_zero, List.set_cons_succ, i64_w, i32_w]
                  rfl
                refine take_ (i := 1) (N := some 67) (v := ?_) (a' := ?_) #[true, true, false, false, false] rfl rfl (by kernel_rfl) (fun _ _ _ h => h) (Or.inl ⟨by rfl, ?_⟩) hHeld ?_ ?_
                rotate_left
                · rintro w' ⟨s0, s1, s2, s3, s4, s5⟩
                  go_simp
                  with_reducible rfl
                rotate_left
                · simp only [Act.put, List.setIfInBounds_toArray, List.set_cons_zero, List.set_cons_succ, i64_w, i32_w]
                  rfl
                refine one_ (i := 2) (N := some 68) #[true, true, true, false, false] rfl rfl (by kernel_rfl) (by decide) (fun K hK => ?_)
                refine goes_ Tryd.func11 (by kernel_rfl) rfl #[.agg #[.int .i64 a0_0, .bool a0_1, .slice A0_2 l0_2.length c0_2]] (by rfl) rfl rfl (by (try simp only [List.map_toArray, List.map_cons, List.map_nil]); first | done | rfl | (simp only [List.length_drop, List.length_take]; rfl)) ?_
                with_reducible refine (laws_toRow.calls kj16 a0_0 a0_1 _ _ l0_2 t310 t311 t312 _ ?side1 ?side2 A43.out).mono ?_
                (case side1 => repeat (first | exact (Kd.C_below HR0_2.out HB.out) | (with_reducible refine Kd.C_alloc ?_ _) | (with_reducible refine Kd.C_drewN ?_ _) | (with_reducible refine Kd.C_drew ?_)))
                (case side2 => exact HC0_2.out)
                rintro e w53 ⟨v313, rfl, ho0, hb⟩
                refine ⟨_, rfl, ?_⟩
                have n0_ := Aside0.mk (Kd.R_elder' (by (with_reducible repeat (first | apply Kd.R_alloc | apply Kd.R_drewN | apply Kd.R_drew)); exact HO_9.out) (Kd.R_base ho0) hb)
                have n1_ := Aside0.mk (Kd.R_elder' (by (with_reducible repeat (first | apply Kd.R_alloc | apply Kd.R_drewN | apply Kd.R_drew)); exact HO_12.out) (Kd.R_base ho0) hb)
                have n2_ := Aside0.mk (Kd.R_elder' (by (with_reducible repeat (first | apply Kd.R_alloc | apply Kd.R_drewN | apply Kd.R_drew)); exact HO_14.out) (Kd.R_base ho0) hb)
                have n3_ := Aside0.mk (Kd.R_elder' (by (with_reducible repeat (first | apply Kd.R_alloc | apply Kd.R_drewN | apply Kd.R_drew)); exact HO_301002.out) (Kd.R_base ho0) hb)
                have n4_ := Aside0.mk (Kd.R_lower (Kd.R_new' (Kd.R_new' (Kd.R_new' (Kd.R_new' ho0 (Kd.R_lt (by (with_reducible repeat (first | apply Kd.R_alloc | apply Kd.R_drewN | apply Kd.R_drew)); exact HO_9.out))) (Kd.R_lt (by (with_reducible repeat (first | apply Kd.R_alloc | apply Kd.R_drewN | apply Kd.R_drew)); exact HO_12.out))) (Kd.R_lt (by (with_reducible repeat (first | apply Kd.R_alloc | apply Kd.R_drewN | apply Kd.R_drew)); exact HO_14.out))) (Kd.R_lt (by (with_reducible repeat (first | apply Kd.R_alloc | apply Kd.R_drewN | apply Kd.R_drew)); exact HO_301002.out))) (below_size (by repeat (first | (with_reducible first | exact HB.out | apply below_alloc | apply pw_below_drewN | apply below_drew1 | refine below_set ?_ GE280.out | refine below_set ?_ GE300.out) | exact HB.out))))
                have n5_ := Aside0.mk (blk_below (g := gb280) (o := .cells #[.int .i64 a0_0, .bool a0_1, .slice A0_2 l0_2.length c0_2] 24 (0, 0)) (by first | (with_reducible exact BK280.out) | ((with_reducible repeat (first | refine blk_drewN ?_ _ | refine blk_drew ?_ | refine blk_alloc ?_ _)); exact BK280.out)) hb)
                have n6_ := Aside0.mk (blk_below (g := gb300) (o := .cells #[.int .i64 t295, .bool t296, .slice Ao32 t297.length co32] 28 (0, 0)) (by first | (with_reducible exact BK300.out) | ((with_reducible repeat (first | refine blk_drewN ?_ _ | refine blk_drew ?_ | refine blk_alloc ?_ _)); exact BK300.out)) hb)
                have n7_ := Aside0.mk (below_step (by repeat (first | (with_reducible first | exact HB.out | apply below_alloc | apply pw_below_drewN | apply below_drew1 | refine below_set ?_ GE280.out | refine below_set ?_ GE300.out) | exact HB.out)) hb)
                clear HO_9
                clear HO_12
                clear HO_14
                clear HO_301002
                clear BK280
                clear BK300
                clear HB
                have HO_9 := n0_
                have HO_12 := n1_
                have HO_14 := n2_
                have HO_301002 := n3_
                have HO314 := n4_
                have BK280 := n5_
                have BK300 := n6_
                have HB := n7_
                clear n0_ n1_ n2_ n3_ n4_ n5_ n6_ n7_
                (try clear hb)
                (try clear hb2)
                (try clear hk)
                (try clear hi)
                (try clear ho0)
                obtain ⟨Ao54, co54, eo54⟩ := Kd.R_slice HO314.out
                (first | subst eo54 | (injection eo54 with f1_ f2_ f3_; have f4_ := f1_.symm; have f5_ := f3_.symm; clear f1_ f2_ f3_; subst f4_; subst f5_))
                refine hK.out _ _ ⟨(blk_cell BK300.out 0).trans rfl, (blk_cell BK300.out 1).trans rfl, (blk_cell BK300.out 2).trans rfl, (blk_cell BK280.out 0).trans rfl, (blk_cell BK280.out 1).trans rfl, (blk_cell BK280.out 2).trans rfl⟩ (fun hHeld => ?_)
                clear hK K
                refine norm_ (a' := ?_) ?_ ?_
                rotate_left
                · show Act.put _ (some 68) _ = _
                  simp only [Act.put, List.setIfInBounds_toArray, List.set_cons_zero, List.set_cons_succ, i64_w, i32_w]
                  rfl
                refine one_ (i := 3) (N := some 69) #[true, true, true, true, false] rfl rfl (by kernel_rfl) (by decide) (fun K hK => ?_)
                refine goes_ Tryd.func14 (by kernel_rfl) rfl #[.agg #[.int .i64 t295, .bool t296, .slice Ao32 t297.length co32], .agg #[.int .i64 t310, .bool t311, .slice Ao54 t312.length co54]] (by rfl) rfl rfl (by (try simp only [List.map_toArray, List.map_cons, List.map_nil]); first | done | rfl | (simp only [List.length_drop, List.length_take]; rfl)) ?_
                with_reducible refine (laws_eqRow.calls kj16 t295 t296 _ _ t297 t310 t311 _ _ t312 true _ ?side1 ?side2 ?side3 ?side4 A44.out).mono ?_
                (case side1 => repeat (first | exact (Kd.R_reads' HO_301002.out).2.2 | (with_reducible refine Kd.C_alloc ?_ _) | (with_reducible refine Kd.C_drewN ?_ _) | (with_reducible refine Kd.C_drew ?_)))
                (case side2 => exact (Kd.R_reads' HO_301002.out).2.1)
                (case side3 => repeat (first | exact (Kd.R_reads' HO314.out).2.2 | (with_reducible refine Kd.C_alloc ?_ _) | (with_reducible refine Kd.C_drewN ?_ _) | (with_reducible refine Kd.C_drew ?_)))
                (case side4 => exact (Kd.R_reads' HO314.out).2.1)
                rintro e w55 ⟨rfl, hb⟩
                refine ⟨_, rfl, ?_⟩
                have n0_ := Aside0.mk (Kd.R_below (by (with_reducible repeat (first | apply Kd.R_alloc | apply Kd.R_drewN | apply Kd.R_drew)); exact HO_9.out) hb)
                have n1_ := Aside0.mk (Kd.R_below (by (with_reducible repeat (first | apply Kd.R_alloc | apply Kd.R_drewN | apply Kd.R_drew)); exact HO_12.out) hb)
                have n2_ := Aside0.mk (Kd.R_below (by (with_reducible repeat (first | apply Kd.R_alloc | apply Kd.R_drewN | apply Kd.R_drew)); exact HO_14.out) hb)
                have n3_ := Aside0.mk (Kd.R_below (by (with_reducible repeat (first | apply Kd.R_alloc | apply Kd.R_drewN | apply Kd.R_drew)); exact HO_301002.out) hb)
                have n4_ := Aside0.mk (Kd.R_below (by (with_reducible repeat (first | apply Kd.R_alloc | apply Kd.R_drewN | apply Kd.R_drew)); exact HO314.out) hb)
                have n5_ := Aside0.mk (blk_below (g := gb280) (o := .cells #[.int .i64 a0_0, .bool a0_1, .slice A0_2 l0_2.length c0_2] 24 (0, 0)) (by first | (with_reducible exact BK280.out) | ((with_reducible repeat (first | refine blk_drewN ?_ _ | refine blk_drew ?_ | refine blk_alloc ?_ _)); exact BK280.out)) hb)
                have n6_ := Aside0.mk (blk_below (g := gb300) (o := .cells #[.int .i64 t295, .bool t296, .slice Ao32 t297.length co32] 28 (0, 0)) (by first | (with_reducible exact BK300.out) | ((with_reducible repeat (first | refine blk_drewN ?_ _ | refine blk_drew ?_ | refine blk_alloc ?_ _)); exact BK300.out)) hb)
                have n7_ := Aside0.mk (below_step (by repeat (first | (with_reducible first | exact HB.out | apply below_alloc | apply pw_below_drewN | apply below_drew1 | refine below_set ?_ GE280.out | refine below_set ?_ GE300.out) | exact HB.out)) hb)
                clear HO_9
                clear HO_12
                clear HO_14
                clear HO_301002
                clear HO314
                clear BK280
                clear BK300
                clear HB
                have HO_9 := n0_
                have HO_12 := n1_
                have HO_14 := n2_
                have HO_301002 := n3_
                have HO314 := n4_
                have BK280 := n5_
                have BK300 := n6_
                have HB := n7_
                clear n0_ n1_ n2_ n3_ n4_ n5_ n6_ n7_
                (try clear hb)
                (try clear hb2)
                (try clear hk)
                (try clear hi)
                refine hK.out _ _ ⟨(blk_cell BK300.out 0).trans rfl, (blk_cell BK300.out 1).trans rfl, (blk_cell BK300.out 2).trans rfl, (blk_cell BK280.out 0).trans rfl, (blk_cell BK280.out 1).trans rfl, (blk_cell BK280.out 2).trans rfl⟩ (fun hHeld => ?_)
                clear hK K
                refine norm_ (a' := ?_) ?_ ?_
                rotate_left
                · show Act.put _ (some 69) _ = _
                  simp only [Act.put, List.setIfInBounds_toArray, List.set_cons_zero, List.set_cons_succ, i64_w, i32_w]
                  rfl
                refine pure_ (i := 4) (N := some 70) (v := ?_) (a' := ?_) #[true, true, true, true, true] rfl rfl (by kernel_rfl) (fun _ _ _ h => h) (Or.inl ⟨by rfl, ?_⟩) ?_ ?_
                rotate_left
                · intro w'
                  go_simp
                  with_reducible rfl
                rotate_left
                · simp only [Act.put, List.setIfInBounds_toArray, List.set_cons_zero, List.set_cons_succ, i64_w, i32_w]
                  rfl
                refine done_ (by kernel_rfl) ?_
                go_upto_region 20 with (first | ((with_reducible refine gate_callee (f := 12) rfl ?_); refine goesL_ (some 73) rfl rfl Tryd.func12 (by kernel_rfl) rfl #[.slice A1 l1.length c1] rfl (by (try simp only [List.map_toArray, List.map_cons, List.map_nil]); first | done | rfl | (simp only [List.length_drop, List.length_take]; rfl)) ?_; (with_reducible refine (laws_toIntS.calls kj16 _ _ l1 t316 _ ?side1 ?side2 A46.out).mono ?_); (case side1 => repeat (first | exact (Kd.C_below HR1.out HB.out) | (with_reducible refine Kd.C_alloc ?_ _) | (with_reducible refine Kd.C_drewN ?_ _) | (with_reducible refine Kd.C_drew ?_))); (case side2 => exact HC1.out); rintro e w56 ⟨v317, rfl, ho0, hb⟩; refine ⟨_, rfl, ?_⟩; have n0_ := Aside0.mk (Kd.R_elder' (by (with_reducible repeat (first | apply Kd.R_alloc | apply Kd.R_drewN | apply Kd.R_drew)); exact HO_9.out) (Kd.R_base ho0) hb); have n1_ := Aside0.mk (Kd.R_elder' (by (with_reducible repeat (first | apply Kd.R_alloc | apply Kd.R_drewN | apply Kd.R_drew)); exact HO_12.out) (Kd.R_base ho0) hb); have n2_ := Aside0.mk (Kd.R_elder' (by (with_reducible repeat (first | apply Kd.R_alloc | apply Kd.R_drewN | apply Kd.R_drew)); exact HO_14.out) (Kd.R_base ho0) hb); have n3_ := Aside0.mk (Kd.R_elder' (by (with_reducible repeat (first | apply Kd.R_alloc | apply Kd.R_drewN | apply Kd.R_drew)); exact HO_301002.out) (Kd.R_base ho0) hb); have n4_ := Aside0.mk (Kd.R_elder' (by (with_reducible repeat (first | apply Kd.R_alloc | apply Kd.R_drewN | apply Kd.R_drew)); exact HO314.out) (Kd.R_base ho0) hb); have n5_ := Aside0.mk (Kd.R_lower (Kd.R_new' (Kd.R_new' (Kd.R_new' (Kd.R_new' (Kd.R_new' ho0 (Kd.R_lt (by (with_reducible repeat (first | apply Kd.R_alloc | apply Kd.R_drewN | apply Kd.R_drew)); exact HO_9.out))) (Kd.R_lt (by (with_reducible repeat (first | apply Kd.R_alloc | apply Kd.R_drewN | apply Kd.R_drew)); exact HO_12.out))) (Kd.R_lt (by (with_reducible repeat (first | apply Kd.R_alloc | apply Kd.R_drewN | apply Kd.R_drew)); exact HO_14.out))) (Kd.R_lt (by (with_reducible repeat (first | apply Kd.R_alloc | apply Kd.R_drewN | apply Kd.R_drew)); exact HO_301002.out))) (Kd.R_lt (by (with_reducible repeat (first | apply Kd.R_alloc | apply Kd.R_drewN | apply Kd.R_drew)); exact HO314.out))) (below_size (by repeat (first | (with_reducible first | exact HB.out | apply below_alloc | apply pw_below_drewN | apply below_drew1 | refine below_set ?_ GE280.out | refine below_set ?_ GE300.out) | exact HB.out)))); have n6_ := Aside0.mk (blk_below (g := gb280) (o := .cells #[.int .i64 a0_0, .bool a0_1, .slice A0_2 l0_2.length c0_2] 24 (0, 0)) (by first | (with_reducible exact BK280.out) | ((with_reducible repeat (first | refine blk_drewN ?_ _ | refine blk_drew ?_ | refine blk_alloc ?_ _)); exact BK280.out)) hb); have n7_ := Aside0.mk (blk_below (g := gb300) (o := .cells #[.int .i64 t295, .bool t296, .slice Ao32 t297.length co32] 28 (0, 0)) (by first | (with_reducible exact BK300.out) | ((with_reducible repeat (first | refine blk_drewN ?_ _ | refine blk_drew ?_ | refine blk_alloc ?_ _)); exact BK300.out)) hb); have n8_ := Aside0.mk (below_step (by repeat (first | (with_reducible first | exact HB.out | apply below_alloc | apply pw_below_drewN | apply below_drew1 | refine below_set ?_ GE280.out | refine below_set ?_ GE300.out) | exact HB.out)) hb); clear HO_9; clear HO_12; clear HO_14; clear HO_301002; clear HO314; clear BK280; clear BK300; clear HB; have HO_9 := n0_; have HO_12 := n1_; have HO_14 := n2_; have HO_301002 := n3_; have HO314 := n4_; have HO318 := n5_; have BK280 := n6_; have BK300 := n7_; have HB := n8_; clear n0_ n1_ n2_ n3_ n4_ n5_ n6_ n7_ n8_; (try clear hb); (try clear hb2); (try clear hk); (try clear hi); (try clear ho0); obtain ⟨Ao57, co57, eo57⟩ := Kd.R_slice HO318.out; subst eo57) | ((with_reducible refine gate_callee (f := 15) rfl ?_); refine goesL_ (some 74) rfl rfl Tryd.func15 (by kernel_rfl) rfl #[.slice Ao35 t301.length co35, .slice Ao57 t316.length co57] rfl (by (try simp only [List.map_toArray, List.map_cons, List.map_nil]); first | done | rfl | (simp only [List.length_drop, List.length_take]; rfl)) ?_; (with_reducible refine (laws_eqIntS.calls kj16 _ _ t301 _ _ t316 true _ ?side1 ?side2 ?side3 ?side4 A47.out).mono ?_); (case side1 => repeat (first | exact (Kd.R_reads' HO_12.out).2.2 | (with_reducible refine Kd.C_alloc ?_ _) | (with_reducible refine Kd.C_drewN ?_ _) | (with_reducible refine Kd.C_drew ?_))); (case side2 => exact (Kd.R_reads' HO_12.out).2.1); (case side3 => repeat (first | exact (Kd.R_reads' HO318.out).2.2 | (with_reducible refine Kd.C_alloc ?_ _) | (with_reducible refine Kd.C_drewN ?_ _) | (with_reducible refine Kd.C_drew ?_))); (case side4 => exact (Kd.R_reads' HO318.out).2.1); rintro e w' ⟨rfl, ⟨nd, rfl⟩⟩; refine ⟨_, rfl, ?_⟩; have hnb58 := NB300_280.out; have hnc58 := NB280_300.out; have hcz59_0 : w56.cell? ⟨gb300, 0, none⟩ = some (.int .i64 t295) := (blk_cell BK300.out 0).trans rfl; have hcz59_1 : w56.cell? ⟨gb300, 1, none⟩ = some (.bool t296) := (blk_cell BK300.out 1).trans rfl; have hcz59_2 : w56.cell? ⟨gb300, 2, none⟩ = some (.slice Ao32 t297.length co32) := (blk_cell BK300.out 2).trans rfl; have hfz59_0 := blk_frozen BK300.out 0; have hfz59_1 := blk_frozen BK300.out 1; have hfz59_2 := blk_frozen BK300.out 2) | ((with_reducible refine gate_callee (f := 24) rfl ?_); refine goesL_ (some 78) rfl rfl Tryd.func24 (by kernel_rfl) rfl #[.agg #[.int .i64 t295, .bool t296, .slice Ao32 t297.length co32], .int .i64 1] rfl (by (try simp only [List.map_toArray, List.map_cons, List.map_nil]); first | done | rfl | (simp only [List.length_drop, List.length_take]; rfl)) ?_; (with_reducible refine (laws_markRow.calls kj16 t295 t296 (fun k_ => some k_ = (.slice Ao32 t297.length co32 : Value).ownBlock) (.slice Ao32 t297.length co32) t297 1 t320 t321 w _ ?side1 ?side2 A49.out).mono ?_); (case side1 => repeat (first | (with_reducible first | exact HB.out | apply below_alloc | apply pw_below_drewN | apply below_drew1 | refine below_set ?_ GE280.out | refine below_set ?_ GE300.out) | exact HB.out)); (case side2 => exact Kd.R_tight rfl HO_301002.out); rintro e w60 ⟨rfl, hy0, hb, hkp⟩; refine ⟨_, rfl, ?_⟩; have n0_ := Aside0.mk (Kd.R_mono (ok' := fun k_ => some k_ ≠ (.slice Ao35 t301.length co35 : Value).ownBlock ∧ some k_ ≠ (v306 : Value).ownBlock ∧ some k_ ≠ (.slice Ao32 t297.length co32 : Value).ownBlock ∧ some k_ ≠ (.slice Ao54 t312.length co54 : Value).ownBlock ∧ some k_ ≠ (.slice Ao57 t316.length co57 : Value).ownBlock) (Kd.R_keptB (HO_9.out) hkp (fun k_ hk_ hs_ => (hk_.1.1.2.2) hs_)) (fun k_ hk_ => ⟨hk_.1.1.1.1, hk_.1.1.1.2.1, hk_.1.1.1.2.2, hk_.1.1.2, hk_.1.2⟩)); have n1_ := Aside0.mk (Kd.R_mono (ok' := fun k_ => some k_ ≠ (v292 : Value).ownBlock ∧ some k_ ≠ (v306 : Value).ownBlock ∧ some k_ ≠ (.slice Ao32 t297.length co32 : Value).ownBlock ∧ some k_ ≠ (.slice Ao54 t312.length co54 : Value).ownBlock ∧ some k_ ≠ (.slice Ao57 t316.length co57 : Value).ownBlock) (Kd.R_keptB (HO_12.out) hkp (fun k_ hk_ hs_ => (hk_.1.1.2.2) hs_)) (fun k_ hk_ => ⟨hk_.1.1.1.1, hk_.1.1.1.2.1, hk_.1.1.1.2.2, hk_.1.1.2, hk_.1.2⟩)); have n2_ := Aside0.mk (Kd.R_mono (ok' := fun k_ => some k_ ≠ (v292 : Value).ownBlock ∧ some k_ ≠ (.slice Ao35 t301.length co35 : Value).ownBlock ∧ some k_ ≠ (.slice Ao32 t297.length co32 : Value).ownBlock ∧ some k_ ≠ (.slice Ao54 t312.length co54 : Value).ownBlock ∧ some k_ ≠ (.slice Ao57 t316.length co57 : Value).ownBlock) (Kd.R_keptB (HO_14.out) hkp (fun k_ hk_ hs_ => (hk_.1.1.2.2) hs_)) (fun k_ hk_ => ⟨hk_.1.1.1.1, hk_.1.1.1.2.1, hk_.1.1.1.2.2, hk_.1.1.2, hk_.1.2⟩)); have n3_ := Aside0.mk (Kd.R_reok rfl hy0 (fun k_ e_ => HO_301002.out.1 k_ e_)); have n4_ := Aside0.mk (blk_kept (by first | (with_reducible exact BK280.out) | ((with_reducible repeat (first | refine blk_drewN ?_ _ | refine blk_drew ?_ | refine blk_alloc ?_ _)); exact BK280.out)) hkp (fun hs_ => (fun e_ => (Kd.R_ne HO_301002.out BK280.out (by decide)) e_) hs_)); have n5_ := Aside0.mk (blk_kept (by first | (with_reducible exact BK300.out) | ((with_reducible repeat (first | refine blk_drewN ?_ _ | refine blk_drew ?_ | refine blk_alloc ?_ _)); exact BK300.out)) hkp (fun hs_ => (fun e_ => (Kd.R_ne HO_301002.out BK300.out (by decide)) e_) hs_)); have n6_ := Aside0.mk (Kd.R_mono (ok' := fun k_ => some k_ ≠ (v292 : Value).ownBlock ∧ some k_ ≠ (.slice Ao35 t301.length co35 : Value).ownBlock ∧ some k_ ≠ (v306 : Value).ownBlock ∧ some k_ ≠ (.slice Ao32 t297.length co32 : Value).ownBlock ∧ some k_ ≠ (.slice Ao57 t316.length co57 : Value).ownBlock) (Kd.R_keptB (HO314.out) hkp (fun k_ hk_ hs_ => (hk_.1.2) hs_)) (fun k_ hk_ => ⟨hk_.1.1.1.1.1.2, hk_.1.1.1.1.2, hk_.1.1.1.2, hk_.1.1.2, hk_.1.2⟩)); have n7_ := Aside0.mk (Kd.R_mono (ok' := fun k_ => some k_ ≠ (v292 : Value).ownBlock ∧ some k_ ≠ (.slice Ao35 t301.length co35 : Value).ownBlock ∧ some k_ ≠ (v306 : Value).ownBlock ∧ some k_ ≠ (.slice Ao32 t297.length co32 : Value).ownBlock ∧ some k_ ≠ (.slice Ao54 t312.length co54 : Value).ownBlock) (Kd.R_keptB (HO318.out) hkp (fun k_ hk_ hs_ => (hk_.1.2) hs_)) (fun k_ hk_ => ⟨hk_.1.1.1.1.1.2, hk_.1.1.1.1.2, hk_.1.1.1.2, hk_.1.1.2, hk_.1.2⟩)); have n8_ := Aside0.mk (hb); clear HO_9; clear HO_12; clear HO_14; clear HO_301002; clear BK280; clear BK300; clear HO314; clear HO318; clear HB; have HO_9 := n0_; have HO_12 := n1_; have HO_14 := n2_; have HO_301002 := n3_; have BK280 := n4_; have BK300 := n5_; have HO314 := n6_; have HO318 := n7_; have HB := n8_; clear n0_ n1_ n2_ n3_ n4_ n5_ n6_ n7_ n8_; (try clear hb); (try clear hkp); (try clear hy0)) | ((with_reducible refine gate_callee (f := 25) rfl ?_); refine goesL_ (some 81) rfl rfl Tryd.func25 (by kernel_rfl) rfl #[.slice Ao35 t301.length co35, .int .i64 t320] rfl (by (try simp only [List.map_toArray, List.map_cons, List.map_nil]); first | done | rfl | (simp only [List.length_drop, List.length_take]; rfl)) ?_; (with_reducible refine (laws_markIntS.calls kj16 (fun k_ => some k_ = (.slice Ao35 t301.length co35 : Value).ownBlock) (.slice Ao35 t301.length co35) t301 t320 t322 t323 w _ ?side1 ?side2 A50.out).mono ?_); (case side1 => repeat (first | (with_reducible first | exact HB.out | apply below_alloc | apply pw_below_drewN | apply below_drew1 | refine below_set ?_ GE280.out | refine below_set ?_ GE300.out) | exact HB.out)); (case side2 => exact Kd.R_tight rfl HO_12.out); rintro e w61 ⟨rfl, hy0, hb, hkp⟩; refine ⟨_, rfl, ?_⟩; have n0_ := Aside0.mk (Kd.R_mono (ok' := fun k_ => some k_ ≠ (.slice Ao35 t301.length co35 : Value).ownBlock ∧ some k_ ≠ (v306 : Value).ownBlock ∧ some k_ ≠ (.slice Ao32 t297.length co32 : Value).ownBlock ∧ some k_ ≠ (.slice Ao54 t312.length co54 : Value).ownBlock ∧ some k_ ≠ (.slice Ao57 t316.length co57 : Value).ownBlock) (Kd.R_keptB (HO_9.out) hkp (fun k_ hk_ hs_ => (hk_.1) hs_)) (fun k_ hk_ => ⟨hk_.1.1, hk_.1.2.1, hk_.1.2.2.1, hk_.1.2.2.2.1, hk_.1.2.2.2.2⟩)); have n1_ := Aside0.mk (Kd.R_reok rfl hy0 (fun k_ e_ => HO_12.out.1 k_ e_)); have n2_ := Aside0.mk (Kd.R_mono (ok' := fun k_ => some k_ ≠ (v292 : Value).ownBlock ∧ some k_ ≠ (.slice Ao35 t301.length co35 : Value).ownBlock ∧ some k_ ≠ (.slice Ao32 t297.length co32 : Value).ownBlock ∧ some k_ ≠ (.slice Ao54 t312.length co54 : Value).ownBlock ∧ some k_ ≠ (.slice Ao57 t316.length co57 : Value).ownBlock) (Kd.R_keptB (HO_14.out) hkp (fun k_ hk_ hs_ => (hk_.2.1) hs_)) (fun k_ hk_ => ⟨hk_.1.1, hk_.1.2.1, hk_.1.2.2.1, hk_.1.2.2.2.1, hk_.1.2.2.2.2⟩)); have n3_ := Aside0.mk (Kd.R_mono (ok' := fun k_ => some k_ ≠ (v292 : Value).ownBlock ∧ some k_ ≠ (.slice Ao35 t301.length co35 : Value).ownBlock ∧ some k_ ≠ (v306 : Value).ownBlock ∧ some k_ ≠ (.slice Ao54 t312.length co54 : Value).ownBlock ∧ some k_ ≠ (.slice Ao57 t316.length co57 : Value).ownBlock) (Kd.R_keptB (HO_301002.out) hkp (fun k_ hk_ hs_ => (hk_.1.1.2.1) hs_)) (fun k_ hk_ => ⟨hk_.1.1.1.1, hk_.1.1.1.2.1, hk_.1.1.1.2.2, hk_.1.1.2, hk_.1.2⟩)); have n4_ := Aside0.mk (blk_kept (by first | (with_reducible exact BK280.out) | ((with_reducible repeat (first | refine blk_drewN ?_ _ | refine blk_drew ?_ | refine blk_alloc ?_ _)); exact BK280.out)) hkp (fun hs_ => (fun e_ => (Kd.R_ne HO_12.out BK280.out (by decide)) e_) hs_)); have n5_ := Aside0.mk (blk_kept (by first | (with_reducible exact BK300.out) | ((with_reducible repeat (first | refine blk_drewN ?_ _ | refine blk_drew ?_ | refine blk_alloc ?_ _)); exact BK300.out)) hkp (fun hs_ => (fun e_ => (Kd.R_ne HO_12.out BK300.out (by decide)) e_) hs_)); have n6_ := Aside0.mk (Kd.R_mono (ok' := fun k_ => some k_ ≠ (v292 : Value).ownBlock ∧ some k_ ≠ (.slice Ao35 t301.length co35 : Value).ownBlock ∧ some k_ ≠ (v306 : Value).ownBlock ∧ some k_ ≠ (.slice Ao32 t297.length co32 : Value).ownBlock ∧ some k_ ≠ (.slice Ao57 t316.length co57 : Value).ownBlock) (Kd.R_keptB (HO314.out) hkp (fun k_ hk_ hs_ => (hk_.2.1) hs_)) (fun k_ hk_ => ⟨hk_.1.1, hk_.1.2.1, hk_.1.2.2.1, hk_.1.2.2.2.1, hk_.1.2.2.2.2⟩)); have n7_ := Aside0.mk (Kd.R_mono (ok' := fun k_ => some k_ ≠ (v292 : Value).ownBlock ∧ some k_ ≠ (.slice Ao35 t301.length co35 : Value).ownBlock ∧ some k_ ≠ (v306 : Value).ownBlock ∧ some k_ ≠ (.slice Ao32 t297.length co32 : Value).ownBlock ∧ some k_ ≠ (.slice Ao54 t312.length co54 : Value).ownBlock) (Kd.R_keptB (HO318.out) hkp (fun k_ hk_ hs_ => (hk_.2.1) hs_)) (fun k_ hk_ => ⟨hk_.1.1, hk_.1.2.1, hk_.1.2.2.1, hk_.1.2.2.2.1, hk_.1.2.2.2.2⟩)); have n8_ := Aside0.mk (hb); clear HO_9; clear HO_12; clear HO_14; clear HO_301002; clear BK280; clear BK300; clear HO314; clear HO318; clear HB; have HO_9 := n0_; have HO_12 := n1_; have HO_14 := n2_; have HO_301002 := n3_; have BK280 := n4_; have BK300 := n5_; have HO314 := n6_; have HO318 := n7_; have HB := n8_; clear n0_ n1_ n2_ n3_ n4_ n5_ n6_ n7_ n8_; (try clear hb); (try clear hkp); (try clear hy0)))
                (try simp only [Act.put, List.setIfInBounds_toArray, List.set_cons_zero, List.set_cons_succ])
                go_cut [99] (fun v99 wc => ∃ (kq : Nat) (x99_50 : Bool), v99 = .bool x99_50 ∧ Aside0 (laws_FnExactBestWorth.j1 kq l1 a2 t290 t291 t294 t305 x99_50 a0_0 a0_1 l0_2 = some r) ∧ Aside0 (kq ≤ kj16) ∧ Aside0 (Kd.R (Kd.int .i64) 3 wc w.heap.size (fun k_ => some k_ ≠ (v306 : Value).ownBlock ∧ some k_ ≠ ((.slice Ao32 t297.length co32) : Value).ownBlock) v292 t291) ∧ Aside0 (Kd.R (Kd.int .i64) 3 wc w.heap.size (fun k_ => some k_ ≠ (v292 : Value).ownBlock ∧ some k_ ≠ ((.slice Ao32 t297.length co32) : Value).ownBlock) v306 t305) ∧ Aside0 (Kd.R (Kd.int .i64) 3 wc w.heap.size (fun k_ => some k_ ≠ (v292 : Value).ownBlock ∧ some k_ ≠ (v306 : Value).ownBlock) (.slice Ao32 t297.length co32) t321) ∧ Aside0 (wc.heap[gb280]? = some (.cells #[.int .i64 a0_0, .bool a0_1, (.slice A0_2 l0_2.length c0_2)] 24 (0, 0))) ∧ Aside0 (wc.heap[gb300]? = some (.cells #[.int .i64 t295, .bool t296, (.slice Ao32 t297.length co32)] 28 (0, 0))) ∧ Aside0 (Below w.heap.size w wc))
                case first =>
                  have H := HC51.out
                  clear HC51
                  by_cases c62 : t322 < 0
                  · rw [if_pos c62] at H
                    have c62b0 : decide (t322 < 0) = true := decide_eq_true c62
                    clear c62
                    (first | rw [c62b0] | (simp only [i64_w, i32_w]; rw [c62b0]) | rw [c62b1] | skip)
                    exact absurd ((laws_FnExactBestWorth.j1_no _ _ _ _ _ _ _ _ _ _ _ H).trans HRV.out) (by decide)
                  · rw [if_neg c62] at H
                    have c62b0 : decide (t322 < 0) = false := decide_eq_false c62
                    clear c62
                    (first | rw [c62b0] | (simp only [i64_w, i32_w]; rw [c62b0]) | rw [c62b1] | skip)
                    by_cases c63 : t304 = t290
                    · rw [if_pos c63] at H
                      have c63b0 : (t304 == t290) = true := beq_iff_eq.mpr c63
                      have c63b1 : (t304 != t290) = false := bne_eq_false_iff_eq.mpr c63
                      clear c63
                      replace H := Option.bind_eq_some_iff.mp H
                      obtain ⟨t324, A640, H⟩ := H
                      replace H : (if t324 = true then (laws_FnExactBestWorth.j1 kj16 l1 a2 t290 t291 t294 t305 (t308 != t294) a0_0 a0_1 l0_2) else (laws_FnExactBestWorth.j1 kj16 l1 a2 t290 t291 t294 t305 true a0_0 a0_1 l0_2)) = some r := H
                      have A64 := Aside0.mk A640
                      clear A640
                      by_cases c65 : t324 = true
                      · subst c65
                        have H1 : (laws_FnExactBestWorth.j1 kj16 l1 a2 t290 t291 t294 t305 (t308 != t294) a0_0 a0_1 l0_2) = some r := by rw [if_pos rfl] at H; exact H
                        clear H
                        have H := H1
                        clear H1
                        have H' := Aside0.mk H
                        clear H
                        obtain ⟨Ao66, co66, eo66⟩ := Kd.R_slice HO_14.out
                        subst eo66
                        obtain ⟨Ao67, co67, eo67⟩ := Kd.R_slice HO_9.out
                        subst eo67
                        go_wp2_with (first | (go_at_call 15; (with_reducible refine (laws_eqIntS.calls kj16 _ _ t305 _ _ t291 true _ ?side1 ?side2 ?side3 ?side4 A64.out).mono ?_); (case side1 => repeat (first | exact (Kd.R_reads' HO_14.out).2.2 | (with_reducible refine Kd.C_alloc ?_ _) | (with_reducible refine Kd.C_drewN ?_ _) | (with_reducible refine Kd.C_drew ?_))); (case side2 => exact (Kd.R_reads' HO_14.out).2.1); (case side3 => repeat (first | exact (Kd.R_reads' HO_9.out).2.2 | (with_reducible refine Kd.C_alloc ?_ _) | (with_reducible refine Kd.C_drewN ?_ _) | (with_reducible refine Kd.C_drew ?_))); (case side4 => exact (Kd.R_reads' HO_9.out).2.1); rintro e w' ⟨rfl, ⟨nd, rfl⟩⟩))
                        go_meet
                        case rel => exact ⟨_, ((t308 != t294)), (by first | rfl | (simp; done) | (simp [*]; done)), H', ⟨by have := HJ16.out; first | omega | exact Nat.le_refl _⟩, ⟨by (with_reducible repeat (first | apply Kd.R_alloc | apply Kd.R_drewN | apply Kd.R_drew)); exact Kd.R_mono HO_9.out (fun _ hk => ⟨hk.2.1, hk.2.2.1⟩)⟩, ⟨by (with_reducible repeat (first | apply Kd.R_alloc | apply Kd.R_drewN | apply Kd.R_drew)); exact Kd.R_mono HO_14.out (fun _ hk => ⟨hk.1, hk.2.2.1⟩)⟩, ⟨by (with_reducible repeat (first | apply Kd.R_alloc | apply Kd.R_drewN | apply Kd.R_drew)); exact Kd.R_mono HO_301002.out (fun _ hk => ⟨hk.1, hk.2.2.1⟩)⟩, ⟨by first | (with_reducible exact BK280.out) | ((with_reducible repeat (first | refine blk_drewN ?_ _ | refine blk_drew ?_ | refine blk_alloc ?_ _)); exact BK280.out)⟩, ⟨by first | (with_reducible exact BK300.out) | ((with_reducible repeat (first | refine blk_drewN ?_ _ | refine blk_drew ?_ | refine blk_alloc ?_ _)); exact BK300.out)⟩, ⟨by repeat (first | (with_reducible first | exact HB.out | apply below_alloc | apply pw_below_drewN | apply below_drew1 | refine below_set ?_ GE280.out | refine below_set ?_ GE300.out) | exact HB.out)⟩⟩
                      · replace c65 := Bool.eq_false_iff.mpr c65
                        subst c65
                        have H1 : (laws_FnExactBestWorth.j1 kj16 l1 a2 t290 t291 t294 t305 true a0_0 a0_1 l0_2) = some r := by rw [if_neg (show ¬ (false = true) by decide)] at H; exact H
                        clear H
                        have H := H1
                        clear H1
                        exact absurd ((laws_FnExactBestWorth.j1_no _ _ _ _ _ _ _ _ _ _ _ H).trans HRV.out) (by decide)
                    · rw [if_neg c63] at H
                      have c63b0 : (t304 == t290) = false := beq_eq_false_iff_ne.mpr c63
                      have c63b1 : (t304 != t290) = true := bne_iff_ne.mpr c63
                      exact absurd ((laws_FnExactBestWorth.j1_no _ _ _ _ _ _ _ _ _ _ _ H).trans HRV.out) (by decide)
                case rest =>
                  clear HC51
                  try clear c1
                  try clear c2
                  try clear p2
                  try clear c3
                  try clear c4
                  try clear c4b0
                  try clear c4b1
                  try clear c5
                  try clear c6
                  try clear c7
                  try clear c7b0
                  try clear c8
                  try clear c9
                  try clear c11
                  try clear c12
                  try clear c14
                  try clear c15
                  try clear c24
                  try clear c25
                  try clear c27
                  try clear c28
                  try clear c30
                  try clear c37
                  try clear c37b0
                  try clear c37b1
                  try clear c39
                  try clear c42
                  try clear c45
                  try clear c48
                  try clear c58
                  try clear c62
                  try clear c62b0
                  try clear c62b1
                  try clear c63
                  try clear c63b0
                  try clear c63b1
                  try clear c65
                  try clear hcz19_0
                  try clear hcz19_1
                  try clear hcz19_2
                  try clear hcz21_0
                  try clear hcz21_1
                  try clear hcz21_2
                  try clear hcz27_0
                  try clear hcz27_1
                  try clear hcz27_2
                  try clear hcz31_0
                  try clear hcz31_1
                  try clear hcz31_2
                  try clear hcz34_0
                  try clear hcz34_1
                  try clear hcz34_2
                  try clear hcz59_0
                  try clear hcz59_1
                  try clear hcz59_2
                  try clear hcz9_0
                  try clear hcz9_1
                  try clear hcz9_2
                  try clear hfz19_0
                  try clear hfz19_1
                  try clear hfz19_2
                  try clear hfz21_0
                  try clear hfz21_1
                  try clear hfz21_2
                  try clear hfz27_0
                  try clear hfz27_1
                  try clear hfz27_2
                  try clear hfz31_0
                  try clear hfz31_1
                  try clear hfz31_2
                  try clear hfz34_0
                  try clear hfz34_1
                  try clear hfz34_2
                  try clear hfz59_0
                  try clear hfz59_1
                  try clear hfz59_2
                  try clear hfz9_0
                  try clear hfz9_1
                  try clear hfz9_2
                  try clear p2
                  obtain ⟨kq, x99_50, rfl, HA, HJ50, HO_9, HO_14, HO_301002, BK280, BK300, HB⟩ := hcut
                  have hl301002_50 := (Kd.R_reads' HO_301002.out).1
                  rw [hl301002_50] at HO_301002
                  (try simp only [hl301002_50])
                  (try simp only [hl301002_50] at BK280)
                  (try simp only [hl301002_50] at BK300)
                  (try simp only [hl301002_50] at HO_9)
                  (try simp only [hl301002_50] at HO_14)
                  cases kq with
                  | zero => exact absurd HA.out (by simp [laws_FnExactBestWorth.j1])
                  | succ kj50 =>
                    have H := HA.out
                    clear HA
                    simp only [laws_FnExactBestWorth.j1] at H
                    by_cases c68 : x99_50 = true
                    · subst c68
                      have H1 : (some false) = some r := by rw [if_pos rfl] at H; exact H
                      clear H
                      have H := H1
                      clear H1
                      exact absurd ((Option.some.inj H).trans HRV.out) (by decide)
                    · replace c68 := Bool.eq_false_iff.mpr c68
                      subst c68
                      have H1 : ((laws_markIntS.f kj50 t305 1).bind fun bt325 => ((laws_heldIntS.f kj50 bt325.2 1).bind fun t327 => (if t327 < 0 then (some false) else (if t327 = bt325.1 then ((laws_toRow.f kj50 a0_0 a0_1 l0_2).bind fun bt328 => ((laws_toIntS.f kj50 l1).bind fun t333 => ((impl_BestWorth.f kj50 bt328.1 bt328.2.1 bt328.2.2 t333 a2).bind fun bt336 => (if bt336.1 = t290 then ((laws_eqIntS.f kj50 bt336.2.1 t291).bind fun t341 => (if t341 = true then (laws_FnExactBestWorth.j2 kj50 bt325.2 bt325.1 (bt336.2.2 != t294)) else (laws_FnExactBestWorth.j2 kj50 bt325.2 bt325.1 true))) else (laws_FnExactBestWorth.j2 kj50 bt325.2 bt325.1 true))))) else (some false))))) = some r := by rw [if_neg (show ¬ (false = true) by decide)] at H; exact H
                      clear H
                      have H := H1
                      clear H1
                      replace H := Option.bind_eq_some_iff.mp H
                      obtain ⟨⟨t325, t326⟩, A690, H⟩ := H
                      replace H : ((laws_heldIntS.f kj50 t326 1).bind fun t327 => (if t327 < 0 then (some false) else (if t327 = t325 then ((laws_toRow.f kj50 a0_0 a0_1 l0_2).bind fun bt328 => ((laws_toIntS.f kj50 l1).bind fun t333 => ((impl_BestWorth.f kj50 bt328.1 bt328.2.1 bt328.2.2 t333 a2).bind fun bt336 => (if bt336.1 = t290 then ((laws_eqIntS.f kj50 bt336.2.1 t291).bind fun t341 => (if t341 = true then (laws_FnExactBestWorth.j2 kj50 t326 t325 (bt336.2.2 != t294)) else (laws_FnExactBestWorth.j2 kj50 t326 t325 true))) else (laws_FnExactBestWorth.j2 kj50 t326 t325 true))))) else (some false)))) = some r := H
                      have A69 := Aside0.mk A690
                      clear A690
                      replace H := Option.bind_eq_some_iff.mp H
                      obtain ⟨t327, A700, H⟩ := H
                      replace H : (if t327 < 0 then (some false) else (if t327 = t325 then ((laws_toRow.f kj50 a0_0 a0_1 l0_2).bind fun bt328 => ((laws_toIntS.f kj50 l1).bind fun t333 => ((impl_BestWorth.f kj50 bt328.1 bt328.2.1 bt328.2.2 t333 a2).bind fun bt336 => (if bt336.1 = t290 then ((laws_eqIntS.f kj50 bt336.2.1 t291).bind fun t341 => (if t341 = true then (laws_FnExactBestWorth.j2 kj50 t326 t325 (bt336.2.2 != t294)) else (laws_FnExactBestWorth.j2 kj50 t326 t325 true))) else (laws_FnExactBestWorth.j2 kj50 t326 t325 true))))) else (some false))) = some r := H
                      have A70 := Aside0.mk A700
                      clear A700
                      by_cases c71 : t327 < 0
                      · rw [if_pos c71] at H
                        have c71b0 : decide (t327 < 0) = true := decide_eq_true c71
                        clear c71
                        exact absurd ((Option.some.inj H).trans HRV.out) (by decide)
                      · rw [if_neg c71] at H
                        have c71b0 : decide (t327 < 0) = false := decide_eq_false c71
                        clear c71
                        by_cases c72 : t327 = t325
                        · rw [if_pos c72] at H
                          have c72b0 : (t327 == t325) = true := beq_iff_eq.mpr c72
                          have c72b1 : (t327 != t325) = false := bne_eq_false_iff_eq.mpr c72
                          clear c72
                          replace H := Option.bind_eq_some_iff.mp H
                          obtain ⟨⟨t328, t329, t330⟩, A730, H⟩ := H
                          replace H : ((laws_toIntS.f kj50 l1).bind fun t333 => ((impl_BestWorth.f kj50 t328 t329 t330 t333 a2).bind fun bt336 => (if bt336.1 = t290 then ((laws_eqIntS.f kj50 bt336.2.1 t291).bind fun t341 => (if t341 = true then (laws_FnExactBestWorth.j2 kj50 t326 t325 (bt336.2.2 != t294)) else (laws_FnExactBestWorth.j2 kj50 t326 t325 true))) else (laws_FnExactBestWorth.j2 kj50 t326 t325 true)))) = some r := H
                          have A73 := Aside0.mk A730
                          clear A730
                          replace H := Option.bind_eq_some_iff.mp H
                          obtain ⟨t333, A740, H⟩ := H
                          replace H : ((impl_BestWorth.f kj50 t328 t329 t330 t333 a2).bind fun bt336 => (if bt336.1 = t290 then ((laws_eqIntS.f kj50 bt336.2.1 t291).bind fun t341 => (if t341 = true then (laws_FnExactBestWorth.j2 kj50 t326 t325 (bt336.2.2 != t294)) else (laws_FnExactBestWorth.j2 kj50 t326 t325 true))) else (laws_FnExactBestWorth.j2 kj50 t326 t325 true))) = some r := H
                          have A74 := Aside0.mk A740
                          clear A740
                          replace H := Option.bind_eq_some_iff.mp H
                          obtain ⟨⟨t336, t337, t340⟩, A750, H⟩ := H
                          replace H : (if t336 = t290 then ((laws_eqIntS.f kj50 t337 t291).bind fun t341 => (if t341 = true then (laws_FnExactBestWorth.j2 kj50 t326 t325 (t340 != t294)) else (laws_FnExactBestWorth.j2 kj50 t326 t325 true))) else (laws_FnExactBestWorth.j2 kj50 t326 t325 true)) = some r := H
                          have A75 := Aside0.mk A750
                          clear A750
                          have HC76 := Aside0.mk H
                          clear H
                          obtain ⟨Ao77, co77, eo77⟩ := Kd.R_slice HO_14.out
                          subst eo77
                          go_upto_region 31 with (first | ((with_reducible refine gate_callee (f := 25) rfl ?_); refine goesL_ (some 102) rfl rfl Tryd.func25 (by kernel_rfl) rfl #[.slice Ao77 t305.length co77, .int .i64 1] rfl (by (try simp only [List.map_toArray, List.map_cons, List.map_nil]); first | done | rfl | (simp only [List.length_drop, List.length_take]; rfl)) ?_; (with_reducible refine (laws_markIntS.calls kj50 (fun k_ => some k_ = (.slice Ao77 t305.length co77 : Value).ownBlock) (.slice Ao77 t305.length co77) t305 1 t325 t326 w _ ?side1 ?side2 A69.out).mono ?_); (case side1 => repeat (first | (with_reducible first | exact HB.out | apply below_alloc | apply pw_below_drewN | apply below_drew1 | refine below_set ?_ GE280.out | refine below_set ?_ GE300.out) | exact HB.out)); (case side2 => exact Kd.R_tight rfl HO_14.out); rintro e w78 ⟨rfl, hy0, hb, hkp⟩; refine ⟨_, rfl, ?_⟩; have n0_ := Aside0.mk (Kd.R_mono (ok' := fun k_ => some k_ ≠ (.slice Ao77 t305.length co77 : Value).ownBlock ∧ some k_ ≠ (.slice Ao32 t321.length co32 : Value).ownBlock) (Kd.R_keptB (HO_9.out) hkp (fun k_ hk_ hs_ => (hk_.1) hs_)) (fun k_ hk_ => ⟨hk_.1.1, hk_.1.2⟩)); have n1_ := Aside0.mk (Kd.R_reok rfl hy0 (fun k_ e_ => HO_14.out.1 k_ e_)); have n2_ := Aside0.mk (Kd.R_mono (ok' := fun k_ => some k_ ≠ (v292 : Value).ownBlock ∧ some k_ ≠ (.slice Ao77 t305.length co77 : Value).ownBlock) (Kd.R_keptB (HO_301002.out) hkp (fun k_ hk_ hs_ => (hk_.2) hs_)) (fun k_ hk_ => ⟨hk_.1.1, hk_.1.2⟩)); have n3_ := Aside0.mk (blk_kept (by first | (with_reducible exact BK280.out) | ((with_reducible repeat (first | refine blk_drewN ?_ _ | refine blk_drew ?_ | refine blk_alloc ?_ _)); exact BK280.out)) hkp (fun hs_ => (fun e_ => (Kd.R_ne HO_14.out BK280.out (by decide)) e_) hs_)); have n4_ := Aside0.mk (blk_kept (by first | (with_reducible exact BK300.out) | ((with_reducible repeat (first | refine blk_drewN ?_ _ | refine blk_drew ?_ | refine blk_alloc ?_ _)); exact BK300.out)) hkp (fun hs_ => (fun e_ => (Kd.R_ne HO_14.out BK300.out (by decide)) e_) hs_)); have n5_ := Aside0.mk (hb); clear HO_9; clear HO_14; clear HO_301002; clear BK280; clear BK300; clear HB; have HO_9 := n0_; have HO_14 := n1_; have HO_301002 := n2_; have BK280 := n3_; have BK300 := n4_; have HB := n5_; clear n0_ n1_ n2_ n3_ n4_ n5_; (try clear hb); (try clear hkp); (try clear hy0)) | ((with_reducible refine gate_callee (f := 26) rfl ?_); refine goesL_ (some 105) rfl rfl Tryd.func26 (by kernel_rfl) rfl #[.slice Ao77 t326.length co77, .int .i64 1] rfl (by (try simp only [List.map_toArray, List.map_cons, List.map_nil]); first | done | (rw [show t326.length = t305.length from (Kd.R_reads' HO_14.out).1.symm] <;> rfl) | rfl | (simp only [List.length_drop, List.length_take]; rfl)) ?_; (with_reducible refine (laws_heldIntS.calls kj50 _ _ t326 1 t327 _ ?side1 ?side2 A70.out).mono ?_); (case side1 => repeat (first | exact (Kd.R_reads' HO_14.out).2.2 | (with_reducible refine Kd.C_alloc ?_ _) | (with_reducible refine Kd.C_drewN ?_ _) | (with_reducible refine Kd.C_drew ?_))); (case side2 => rw [show t326.length = t305.length from (Kd.R_reads' HO_14.out).1.symm]; exact (Kd.R_reads' HO_14.out).2.1); rintro e w' ⟨rfl, ⟨nd, rfl⟩⟩; refine ⟨_, rfl, ?_⟩; have hnb79 := NB280_300.out; have hnc79 := NB300_280.out; have hcz80_0 : w78.cell? ⟨gb280, 0, none⟩ = some (.int .i64 a0_0) := (blk_cell BK280.out 0).trans rfl; have hcz80_1 : w78.cell? ⟨gb280, 1, none⟩ = some (.bool a0_1) := (blk_cell BK280.out 1).trans rfl; have hcz80_2 : w78.cell? ⟨gb280, 2, none⟩ = some (.slice A0_2 l0_2.length c0_2) := (blk_cell BK280.out 2).trans rfl; have hfz80_0 := blk_frozen BK280.out 0; have hfz80_1 := blk_frozen BK280.out 1; have hfz80_2 := blk_frozen BK280.out 2) | ((with_reducible refine gate_callee (f := 11) rfl ?_); refine goesL_ (some 113) rfl rfl Tryd.func11 (by kernel_rfl) rfl #[.agg #[.int .i64 a0_0, .bool a0_1, .slice A0_2 l0_2.length c0_2]] rfl (by (try simp only [List.map_toArray, List.map_cons, List.map_nil]); first | done | rfl | (simp only [List.length_drop, List.length_take]; rfl)) ?_; (with_reducible refine (laws_toRow.calls kj50 a0_0 a0_1 _ _ l0_2 t328 t329 t330 _ ?side1 ?side2 A73.out).mono ?_); (case side1 => repeat (first | exact (Kd.C_below HR0_2.out (by repeat (first | (with_reducible first | exact HB.out | apply below_alloc | apply pw_below_drewN | apply below_drew1 | refine below_set ?_ GE280.out | refine below_set ?_ GE300.out) | exact HB.out))) | (with_reducible refine Kd.C_alloc ?_ _) | (with_reducible refine Kd.C_drewN ?_ _) | (with_reducible refine Kd.C_drew ?_))); (case side2 => exact HC0_2.out); rintro e w81 ⟨v331, rfl, ho0, hb⟩; refine ⟨_, rfl, ?_⟩; have n0_ := Aside0.mk (Kd.R_elder' (by (with_reducible repeat (first | apply Kd.R_alloc | apply Kd.R_drewN | apply Kd.R_drew)); exact HO_9.out) (Kd.R_base ho0) hb); have n1_ := Aside0.mk (Kd.R_elder' (by (with_reducible repeat (first | apply Kd.R_alloc | apply Kd.R_drewN | apply Kd.R_drew)); exact HO_14.out) (Kd.R_base ho0) hb); have n2_ := Aside0.mk (Kd.R_elder' (by (with_reducible repeat (first | apply Kd.R_alloc | apply Kd.R_drewN | apply Kd.R_drew)); exact HO_301002.out) (Kd.R_base ho0) hb); have n3_ := Aside0.mk (Kd.R_lower (Kd.R_new' (Kd.R_new' (Kd.R_new' ho0 (Kd.R_lt (by (with_reducible repeat (first | apply Kd.R_alloc | apply Kd.R_drewN | apply Kd.R_drew)); exact HO_9.out))) (Kd.R_lt (by (with_reducible repeat (first | apply Kd.R_alloc | apply Kd.R_drewN | apply Kd.R_drew)); exact HO_14.out))) (Kd.R_lt (by (with_reducible repeat (first | apply Kd.R_alloc | apply Kd.R_drewN | apply Kd.R_drew)); exact HO_301002.out))) (below_size (by repeat (first | (with_reducible first | exact HB.out | apply below_alloc | apply pw_below_drewN | apply below_drew1 | refine below_set ?_ GE280.out | refine below_set ?_ GE300.out) | exact HB.out)))); have n4_ := Aside0.mk (blk_below (g := gb280) (o := .cells #[.int .i64 a0_0, .bool a0_1, .slice A0_2 l0_2.length c0_2] 24 (0, 0)) (by first | (with_reducible exact BK280.out) | ((with_reducible repeat (first | refine blk_drewN ?_ _ | refine blk_drew ?_ | refine blk_alloc ?_ _)); exact BK280.out)) hb); have n5_ := Aside0.mk (blk_below (g := gb300) (o := .cells #[.int .i64 t295, .bool t296, .slice Ao32 t321.length co32] 28 (0, 0)) (by first | (with_reducible exact BK300.out) | ((with_reducible repeat (first | refine blk_drewN ?_ _ | refine blk_drew ?_ | refine blk_alloc ?_ _)); exact BK300.out)) hb); have n6_ := Aside0.mk (below_step (by repeat (first | (with_reducible first | exact HB.out | apply below_alloc | apply pw_below_drewN | apply below_drew1 | refine below_set ?_ GE280.out | refine below_set ?_ GE300.out) | exact HB.out)) hb); clear HO_9; clear HO_14; clear HO_301002; clear BK280; clear BK300; clear HB; have HO_9 := n0_; have HO_14 := n1_; have HO_301002 := n2_; have HO332 := n3_; have BK280 := n4_; have BK300 := n5_; have HB := n6_; clear n0_ n1_ n2_ n3_ n4_ n5_ n6_; (try clear hb); (try clear hb2); (try clear hk); (try clear hi); (try clear ho0)) | ((with_reducible refine gate_callee (f := 12) rfl ?_); refine goesL_ (some 115) rfl rfl Tryd.func12 (by kernel_rfl) rfl #[.slice A1 l1.length c1] rfl (by (try simp only [List.map_toArray, List.map_cons, List.map_nil]); first | done | rfl | (simp only [List.length_drop, List.length_take]; rfl)) ?_; (with_reducible refine (laws_toIntS.calls kj50 _ _ l1 t333 _ ?side1 ?side2 A74.out).mono ?_); (case side1 => repeat (first | exact (Kd.C_below HR1.out HB.out) | (with_reducible refine Kd.C_alloc ?_ _) | (with_reducible refine Kd.C_drewN ?_ _) | (with_reducible refine Kd.C_drew ?_))); (case side2 => exact HC1.out); rintro e w82 ⟨v334, rfl, ho0, hb⟩; refine ⟨_, rfl, ?_⟩; have n0_ := Aside0.mk (Kd.R_elder' (by (with_reducible repeat (first | apply Kd.R_alloc | apply Kd.R_drewN | apply Kd.R_drew)); exact HO_9.out) (Kd.R_base ho0) hb); have n1_ := Aside0.mk (Kd.R_elder' (by (with_reducible repeat (first | apply Kd.R_alloc | apply Kd.R_drewN | apply Kd.R_drew)); exact HO_14.out) (Kd.R_base ho0) hb); have n2_ := Aside0.mk (Kd.R_elder' (by (with_reducible repeat (first | apply Kd.R_alloc | apply Kd.R_drewN | apply Kd.R_drew)); exact HO_301002.out) (Kd.R_base ho0) hb); have n3_ := Aside0.mk (Kd.R_elder' (by (with_reducible repeat (first | apply Kd.R_alloc | apply Kd.R_drewN | apply Kd.R_drew)); exact HO332.out) (Kd.R_base ho0) hb); have n4_ := Aside0.mk (Kd.R_lower (Kd.R_new' (Kd.R_new' (Kd.R_new' (Kd.R_new' ho0 (Kd.R_lt (by (with_reducible repeat (first | apply Kd.R_alloc | apply Kd.R_drewN | apply Kd.R_drew)); exact HO_9.out))) (Kd.R_lt (by (with_reducible repeat (first | apply Kd.R_alloc | apply Kd.R_drewN | apply Kd.R_drew)); exact HO_14.out))) (Kd.R_lt (by (with_reducible repeat (first | apply Kd.R_alloc | apply Kd.R_drewN | apply Kd.R_drew)); exact HO_301002.out))) (Kd.R_lt (by (with_reducible repeat (first | apply Kd.R_alloc | apply Kd.R_drewN | apply Kd.R_drew)); exact HO332.out))) (below_size (by repeat (first | (with_reducible first | exact HB.out | apply below_alloc | apply pw_below_drewN | apply below_drew1 | refine below_set ?_ GE280.out | refine below_set ?_ GE300.out) | exact HB.out)))); have n5_ := Aside0.mk (blk_below (g := gb280) (o := .cells #[.int .i64 a0_0, .bool a0_1, .slice A0_2 l0_2.length c0_2] 24 (0, 0)) (by first | (with_reducible exact BK280.out) | ((with_reducible repeat (first | refine blk_drewN ?_ _ | refine blk_drew ?_ | refine blk_alloc ?_ _)); exact BK280.out)) hb); have n6_ := Aside0.mk (blk_below (g := gb300) (o := .cells #[.int .i64 t295, .bool t296, .slice Ao32 t321.length co32] 28 (0, 0)) (by first | (with_reducible exact BK300.out) | ((with_reducible repeat (first | refine blk_drewN ?_ _ | refine blk_drew ?_ | refine blk_alloc ?_ _)); exact BK300.out)) hb); have n7_ := Aside0.mk (below_step (by repeat (first | (with_reducible first | exact HB.out | apply below_alloc | apply pw_below_drewN | apply below_drew1 | refine below_set ?_ GE280.out | refine below_set ?_ GE300.out) | exact HB.out)) hb); clear HO_9; clear HO_14; clear HO_301002; clear HO332; clear BK280; clear BK300; clear HB; have HO_9 := n0_; have HO_14 := n1_; have HO_301002 := n2_; have HO332 := n3_; have HO335 := n4_; have BK280 := n5_; have BK300 := n6_; have HB := n7_; clear n0_ n1_ n2_ n3_ n4_ n5_ n6_ n7_; (try clear hb); (try clear hb2); (try clear hk); (try clear hi); (try clear ho0); obtain ⟨Ao83, co83, eo83⟩ := Kd.R_slice HO332.out; subst eo83; obtain ⟨Ao84, co84, eo84⟩ := Kd.R_slice HO335.out; subst eo84) | ((with_reducible refine gate_callee (f := 28) rfl ?_); refine goesL_ (some 117) rfl rfl Tryd.func28 (by kernel_rfl) rfl #[.agg #[.int .i64 t328, .bool t329, .slice Ao83 t330.length co83], .slice Ao84 t333.length co84, .int .i64 a2] rfl (by (try simp only [List.map_toArray, List.map_cons, List.map_nil]); first | done | rfl | (simp only [List.length_drop, List.length_take]; rfl)) ?_; (with_reducible refine (impl_BestWorth.calls kj50 t328 t329 _ _ t330 _ _ t333 a2 t336 t337 t340 _ ?side1 ?side2 ?side3 ?side4 ?side5 A75.out).mono ?_); (case side1 => repeat (first | exact (Kd.R_reads' HO332.out).2.2 | (with_reducible refine Kd.C_alloc ?_ _) | (with_reducible refine Kd.C_drewN ?_ _) | (with_reducible refine Kd.C_drew ?_))); (case side2 => exact (Kd.R_reads' HO332.out).2.1); (case side3 => repeat (first | exact (Kd.R_reads' HO335.out).2.2 | (with_reducible refine Kd.C_alloc ?_ _) | (with_reducible refine Kd.C_drewN ?_ _) | (with_reducible refine Kd.C_drew ?_))); (case side4 => exact (Kd.R_reads' HO335.out).2.1); (case side5 => exact GT.below HRT.out (by repeat (first | (with_reducible first | exact HB.out | apply below_alloc | apply pw_below_drewN | apply below_drew1 | refine below_set ?_ GE280.out | refine below_set ?_ GE300.out) | exact HB.out))); rintro e w85 ⟨v338, rfl, ho0, hb⟩; refine ⟨_, rfl, ?_⟩; have n0_ := Aside0.mk (Kd.R_elder' (by (with_reducible repeat (first | apply Kd.R_alloc | apply Kd.R_drewN | apply Kd.R_drew)); exact HO_9.out) (Kd.R_base ho0) hb); have n1_ := Aside0.mk (Kd.R_elder' (by (with_reducible repeat (first | apply Kd.R_alloc | apply Kd.R_drewN | apply Kd.R_drew)); exact HO_14.out) (Kd.R_base ho0) hb); have n2_ := Aside0.mk (Kd.R_elder' (by (with_reducible repeat (first | apply Kd.R_alloc | apply Kd.R_drewN | apply Kd.R_drew)); exact HO_301002.out) (Kd.R_base ho0) hb); have n3_ := Aside0.mk (Kd.R_elder' (by (with_reducible repeat (first | apply Kd.R_alloc | apply Kd.R_drewN | apply Kd.R_drew)); exact HO332.out) (Kd.R_base ho0) hb); have n4_ := Aside0.mk (Kd.R_elder' (by (with_reducible repeat (first | apply Kd.R_alloc | apply Kd.R_drewN | apply Kd.R_drew)); exact HO335.out) (Kd.R_base ho0) hb); have n5_ := Aside0.mk (Kd.R_lower (Kd.R_new' (Kd.R_new' (Kd.R_new' (Kd.R_new' (Kd.R_new' ho0 (Kd.R_lt (by (with_reducible repeat (first | apply Kd.R_alloc | apply Kd.R_drewN | apply Kd.R_drew)); exact HO_9.out))) (Kd.R_lt (by (with_reducible repeat (first | apply Kd.R_alloc | apply Kd.R_drewN | apply Kd.R_drew)); exact HO_14.out))) (Kd.R_lt (by (with_reducible repeat (first | apply Kd.R_alloc | apply Kd.R_drewN | apply Kd.R_drew)); exact HO_301002.out))) (Kd.R_lt (by (with_reducible repeat (first | apply Kd.R_alloc | apply Kd.R_drewN | apply Kd.R_drew)); exact HO332.out))) (Kd.R_lt (by (with_reducible repeat (first | apply Kd.R_alloc | apply Kd.R_drewN | apply Kd.R_drew)); exact HO335.out))) (below_size (by repeat (first | (with_reducible first | exact HB.out | apply below_alloc | apply pw_below_drewN | apply below_drew1 | refine below_set ?_ GE280.out | refine below_set ?_ GE300.out) | exact HB.out)))); have n6_ := Aside0.mk (blk_below (g := gb280) (o := .cells #[.int .i64 a0_0, .bool a0_1, .slice A0_2 l0_2.length c0_2] 24 (0, 0)) (by first | (with_reducible exact BK280.out) | ((with_reducible repeat (first | refine blk_drewN ?_ _ | refine blk_drew ?_ | refine blk_alloc ?_ _)); exact BK280.out)) hb); have n7_ := Aside0.mk (blk_below (g := gb300) (o := .cells #[.int .i64 t295, .bool t296, .slice Ao32 t321.length co32] 28 (0, 0)) (by first | (with_reducible exact BK300.out) | ((with_reducible repeat (first | refine blk_drewN ?_ _ | refine blk_drew ?_ | refine blk_alloc ?_ _)); exact BK300.out)) hb); have n8_ := Aside0.mk (below_step (by repeat (first | (with_reducible first | exact HB.out | apply below_alloc | apply pw_below_drewN | apply below_drew1 | refine below_set ?_ GE280.out | refine below_set ?_ GE300.out) | exact HB.out)) hb); clear HO_9; clear HO_14; clear HO_301002; clear HO332; clear HO335; clear BK280; clear BK300; clear HB; have HO_9 := n0_; have HO_14 := n1_; have HO_301002 := n2_; have HO332 := n3_; have HO335 := n4_; have HO339 := n5_; have BK280 := n6_; have BK300 := n7_; have HB := n8_; clear n0_ n1_ n2_ n3_ n4_ n5_ n6_ n7_ n8_; (try clear hb); (try clear hb2); (try clear hk); (try clear hi); (try clear ho0)))
                          (try simp only [Act.put, List.setIfInBounds_toArray, List.set_cons_zero, List.set_cons_succ])
                          go_cut [134] (fun v134 wc => ∃ (kq : Nat) (x134_75 : Bool), v134 = .bool x134_75 ∧ Aside0 (laws_FnExactBestWorth.j2 kq t326 t325 x134_75 = some r) ∧ Aside0 (kq ≤ kj50) ∧ Aside0 (Kd.R (Kd.int .i64) 3 wc w.heap.size (fun k_ => some k_ ≠ ((.slice Ao32 t321.length co32) : Value).ownBlock) (.slice Ao77 t305.length co77) t326) ∧ Aside0 (Kd.R (Kd.int .i64) 3 wc w.heap.size (fun k_ => some k_ ≠ ((.slice Ao77 t305.length co77) : Value).ownBlock) (.slice Ao32 t321.length co32) t321) ∧ Aside0 (wc.heap[gb280]? = some (.cells #[.int .i64 a0_0, .bool a0_1, (.slice A0_2 l0_2.length c0_2)] 24 (0, 0))) ∧ Aside0 (wc.heap[gb300]? = some (.cells #[.int .i64 t295, .bool t296, (.slice Ao32 t321.length co32)] 28 (0, 0))) ∧ Aside0 (Below w.heap.size w wc))
                          case first =>
                            have H := HC76.out
                            clear HC76
                            by_cases c86 : t336 = t290
                            · rw [if_pos c86] at H
                              have c86b0 : (t336 == t290) = true := beq_iff_eq.mpr c86
                              have c86b1 : (t336 != t290) = false := bne_eq_false_iff_eq.mpr c86
                              clear c86
                              (first | rw [c86b0] | (simp only [i64_w, i32_w]; rw [c86b0]) | rw [c86b1] | skip)
                              replace H := Option.bind_eq_some_iff.mp H
                              obtain ⟨t341, A870, H⟩ := H
                              replace H : (if t341 = true then (laws_FnExactBestWorth.j2 kj50 t326 t325 (t340 != t294)) else (laws_FnExactBestWorth.j2 kj50 t326 t325 true)) = some r := H
                              have A87 := Aside0.mk A870
                              clear A870
                              by_cases c88 : t341 = true
                              · subst c88
                                have H1 : (laws_FnExactBestWorth.j2 kj50 t326 t325 (t340 != t294)) = some r := by rw [if_pos rfl] at H; exact H
                                clear H
                                have H := H1
                                clear H1
                                have H' := Aside0.mk H
                                clear H
                                obtain ⟨Ao89, co89, eo89⟩ := Kd.R_slice HO339.out
                                subst eo89
                                obtain ⟨Ao90, co90, eo90⟩ := Kd.R_slice HO_9.out
                                subst eo90
                                go_wp2_with (first | (go_at_call 15; (with_reducible refine (laws_eqIntS.calls kj50 _ _ t337 _ _ t291 true _ ?side1 ?side2 ?side3 ?side4 A87.out).mono ?_); (case side1 => repeat (first | exact (Kd.R_reads' HO339.out).2.2 | (with_reducible refine Kd.C_alloc ?_ _) | (with_reducible refine Kd.C_drewN ?_ _) | (with_reducible refine Kd.C_drew ?_))); (case side2 => exact (Kd.R_reads' HO339.out).2.1); (case side3 => repeat (first | exact (Kd.R_reads' HO_9.out).2.2 | (with_reducible refine Kd.C_alloc ?_ _) | (with_reducible refine Kd.C_drewN ?_ _) | (with_reducible refine Kd.C_drew ?_))); (case side4 => exact (Kd.R_reads' HO_9.out).2.1); rintro e w' ⟨rfl, ⟨nd, rfl⟩⟩))
                                go_meet
                                case rel => exact ⟨_, ((t340 != t294)), (by first | rfl | (simp; done) | (simp [*]; done)), H', ⟨by have := HJ16.out; have := HJ50.out; first | omega | exact Nat.le_refl _⟩, ⟨by (try simp only [hl301002_50]); (with_reducible repeat (first | apply Kd.R_alloc | apply Kd.R_drewN | apply Kd.R_drew)); exact Kd.R_mono HO_14.out (fun _ hk => hk.1.1.1.2)⟩, ⟨by (try simp only [hl301002_50]); (with_reducible repeat (first | apply Kd.R_alloc | apply Kd.R_drewN | apply Kd.R_drew)); exact Kd.R_mono HO_301002.out (fun _ hk => hk.1.1.1.2)⟩, ⟨by (try simp only [hl301002_50]); first | (with_reducible exact BK280.out) | ((with_reducible repeat (first | refine blk_drewN ?_ _ | refine blk_drew ?_ | refine blk_alloc ?_ _)); exact BK280.out)⟩, ⟨by (try simp only [hl301002_50]); first | (with_reducible exact BK300.out) | ((with_reducible repeat (first | refine blk_drewN ?_ _ | refine blk_drew ?_ | refine blk_alloc ?_ _)); exact BK300.out)⟩, ⟨by repeat (first | (with_reducible first | exact HB.out | apply below_alloc | apply pw_below_drewN | apply below_drew1 | refine below_set ?_ GE280.out | refine below_set ?_ GE300.out) | exact HB.out)⟩⟩
                              · replace c88 := Bool.eq_false_iff.mpr c88
                                subst c88
                                have H1 : (laws_FnExactBestWorth.j2 kj50 t326 t325 true) = some r := by rw [if_neg (show ¬ (false = true) by decide)] at H; exact H
                                clear H
                                have H := H1
                                clear H1
                                exact absurd ((laws_FnExactBestWorth.j2_no _ _ _ _ H).trans HRV.out) (by decide)
                            · rw [if_neg c86] at H
                              have c86b0 : (t336 == t290) = false := beq_eq_false_iff_ne.mpr c86
                              have c86b1 : (t336 != t290) = true := bne_iff_ne.mpr c86
                              (first | rw [c86b0] | (simp only [i64_w, i32_w]; rw [c86b0]) | rw [c86b1] | skip)
                              exact absurd ((laws_FnExactBestWorth.j2_no _ _ _ _ H).trans HRV.out) (by decide)
                          case rest =>
                            clear HC76
                            try clear c1
                            try clear c2
                            try clear p2
                            try clear c3
                            try clear c4
                            try clear c4b0
                            try clear c4b1
                            try clear c5
                            try clear c6
                            try clear c7
                            try clear c7b0
                            try clear c8
                            try clear c9
                            try clear c11
                            try clear c12
                            try clear c14
                            try clear c15
                            try clear c24
                            try clear c25
                            try clear c26
                            try clear c27
                            try clear c28
                            try clear c30
                            try clear c37
                            try clear c37b0
                            try clear c37b1
                            try clear c39
                            try clear c42
                            try clear c45
                            try clear c48
                            try clear c58
                            try clear c62
                            try clear c62b0
                            try clear c62b1
                            try clear c63
                            try clear c63b0
                            try clear c63b1
                            try clear c65
                            try clear c68
                            try clear c71
                            try clear c71b0
                            try clear c72
                            try clear c72b0
                            try clear c72b1
                            try clear c79
                            try clear c86
                            try clear c86b0
                            try clear c86b1
                            try clear c88
                            try clear hcz19_0
                            try clear hcz19_1
                            try clear hcz19_2
                            try clear hcz21_0
                            try clear hcz21_1
                            try clear hcz21_2
                            try clear hcz27_0
                            try clear hcz27_1
                            try clear hcz27_2
                            try clear hcz31_0
                            try clear hcz31_1
                            try clear hcz31_2
                            try clear hcz34_0
                            try clear hcz34_1
                            try clear hcz34_2
                            try clear hcz59_0
                            try clear hcz59_1
                            try clear hcz59_2
                            try clear hcz80_0
                            try clear hcz80_1
                            try clear hcz80_2
                            try clear hcz9_0
                            try clear hcz9_1
                            try clear hcz9_2
                            try clear hfz19_0
                            try clear hfz19_1
                            try clear hfz19_2
                            try clear hfz21_0
                            try clear hfz21_1
                            try clear hfz21_2
                            try clear hfz27_0
                            try clear hfz27_1
                            try clear hfz27_2
                            try clear hfz31_0
                            try clear hfz31_1
                            try clear hfz31_2
                            try clear hfz34_0
                            try clear hfz34_1
                            try clear hfz34_2
                            try clear hfz59_0
                            try clear hfz59_1
                            try clear hfz59_2
                            try clear hfz80_0
                            try clear hfz80_1
                            try clear hfz80_2
                            try clear hfz9_0
                            try clear hfz9_1
                            try clear hfz9_2
                            try clear p2
                            obtain ⟨kq, x134_75, rfl, HA, HJ75, HO_14, HO_301002, BK280, BK300, HB⟩ := hcut
                            have hl14_75 := (Kd.R_reads' HO_14.out).1
                            rw [hl14_75] at HO_14
                            (try simp only [hl14_75])
                            (try simp only [hl14_75] at BK280)
                            (try simp only [hl14_75] at BK300)
                            (try simp only [hl14_75] at HO_301002)
                            cases kq with
                            | zero => exact absurd HA.out (by simp [laws_FnExactBestWorth.j2])
                            | succ kj75 =>
                              have H := HA.out
                              clear HA
                              simp only [laws_FnExactBestWorth.j2] at H
                              by_cases c91 : x134_75 = true
                              · subst c91
                                have H1 : (some false) = some r := by rw [if_pos rfl] at H; exact H
                                clear H
                                have H := H1
                                clear H1
                                exact absurd ((Option.some.inj H).trans HRV.out) (by decide)
                              · replace c91 := Bool.eq_false_iff.mpr c91
                                subst c91
                                have H1 : ((laws_heldIntS.f kj75 t326 1).bind fun t342 => (if t342 < 0 then (some false) else (if t342 = t325 then (some true) else (some false)))) = some r := by rw [if_neg (show ¬ (false = true) by decide)] at H; exact H
                                clear H
                                have H := H1
                                clear H1
                                replace H := Option.bind_eq_some_iff.mp H
                                obtain ⟨t342, A920, H⟩ := H
                                replace H : (if t342 < 0 then (some false) else (if t342 = t325 then (some true) else (some false))) = some r := H
                                have A92 := Aside0.mk A920
                                clear A920
                                by_cases c93 : t342 < 0
                                · rw [if_pos c93] at H
                                  have c93b0 : decide (t342 < 0) = true := decide_eq_true c93
                                  clear c93
                                  exact absurd ((Option.some.inj H).trans HRV.out) (by decide)
                                · rw [if_neg c93] at H
                                  have c93b0 : decide (t342 < 0) = false := decide_eq_false c93
                                  clear c93
                                  by_cases c94 : t342 = t325
                                  · rw [if_pos c94] at H
                                    have c94b0 : (t342 == t325) = true := beq_iff_eq.mpr c94
                                    have c94b1 : (t342 != t325) = false := bne_eq_false_iff_eq.mpr c94
                                    clear c94
                                    obtain rfl := Option.some.inj H
                                    go_wp2_with (first | ((with_reducible refine gate_callee (f := 26) rfl ?_); refine goesL_ (some 137) rfl rfl Tryd.func26 (by kernel_rfl) rfl #[.slice Ao77 t326.length co77, .int .i64 1] rfl (by (try simp only [List.map_toArray, List.map_cons, List.map_nil]); first | done | rfl | (simp only [List.length_drop, List.length_take]; rfl)) ?_; (with_reducible refine (laws_heldIntS.calls kj75 _ _ t326 1 t342 _ ?side1 ?side2 A92.out).mono ?_); (case side1 => repeat (first | exact (Kd.R_reads' HO_14.out).2.2 | (with_reducible refine Kd.C_alloc ?_ _) | (with_reducible refine Kd.C_drewN ?_ _) | (with_reducible refine Kd.C_drew ?_))); (case side2 => exact (Kd.R_reads' HO_14.out).2.1); rintro e w' ⟨rfl, ⟨nd, rfl⟩⟩; refine ⟨_, rfl, ?_⟩))
                                    go_ret
                                    exact ⟨by first | rfl | (simp [errW_none, errW_some] <;> rfl) | (simp [*, errW_none, errW_some] <;> rfl), by repeat (first | (with_reducible first | exact HB.out | apply below_alloc | apply pw_below_drewN | apply below_drew1 | refine below_set ?_ GE280.out | refine below_set ?_ GE300.out) | exact HB.out)⟩
                                  · rw [if_neg c94] at H
                                    have c94b0 : (t342 == t325) = false := beq_eq_false_iff_ne.mpr c94
                                    have c94b1 : (t342 != t325) = true := bne_iff_ne.mpr c94
                                    exact absurd ((Option.some.inj H).trans HRV.out) (by decide)
                        · rw [if_neg c72] at H
                          have c72b0 : (t327 == t325) = false := beq_eq_false_iff_ne.mpr c72
                          have c72b1 : (t327 != t325) = true := bne_iff_ne.mpr c72
                          exact absurd ((Option.some.inj H).trans HRV.out) (by decide)
              · replace c48 := Bool.eq_false_iff.mpr c48
                subst c48
                have H1 : (some false) = some r := by rw [if_neg (show ¬ (false = true) by decide)] at H; exact H
                clear H
                have H := H1
                clear H1
                exact absurd ((Option.some.inj H).trans HRV.out) (by decide)
            · replace c45 := Bool.eq_false_iff.mpr c45
              subst c45
              have H1 : (some false) = some r := by rw [if_neg (show ¬ (false = true) by decide)] at H; exact H
              clear H
              have H := H1
              clear H1
              exact absurd ((Option.some.inj H).trans HRV.out) (by decide)

/-- THE ONE PURE STATEMENT of laws_FnExactBestWorth: yours. -/
def laws_FnExactBestWorth.Pure : Prop := ∀ (a0_0 : Int) (a0_1 : Bool) (l0_2 : List Int) (l1 : List Int) (a2 : Int), (Lit.int .i64 a0_0).wf = true → l0_2.length ≤ maxLen → l0_2.length * 8 ≤ 140737488351232 → (∀ x ∈ l0_2, (Lit.int .i64 x).wf = true) → l1.length ≤ maxLen → l1.length * 8 ≤ 140737488351232 → (∀ x ∈ l1, (Lit.int .i64 x).wf = true) → (Lit.int .i64 a2).wf = true → ∃ k, laws_FnExactBestWorth.f k a0_0 a0_1 l0_2 l1 a2 = some true
theorem laws_FnExactBestWorth.walk (P : laws_FnExactBestWorth.Pure) (a0_0 : Int) (a0_1 : Bool) (a0_2 : Option Addr) (len0_2 cap0_2 : Nat) (z0_2 : List Int) (a1 : Option Addr) (len1 cap1 : Nat) (z1 : List Int) (a2 : Int) (w : World) (hT : GT w) (w0_0 : (Lit.int .i64 a0_0).wf = true) (w0_2 : (a0_2 = none ∧ len0_2 = 0 ∧ cap0_2 = 0 ∧ z0_2 = []) ∨ ∃ x, a0_2 = some x ∧ len0_2 ≤ cap0_2 ∧ cap0_2 ≤ maxLen ∧ z0_2.length = cap0_2 ∧ (∀ i, i < z0_2.length → w.cell? (x.add i) = some (.int .i64 (z0_2.getD i 0))) ∧ ∀ n ∈ z0_2, (Lit.int .i64 n).wf = true) (y0_2 : len0_2 * 8 ≤ 140737488351232) (w1 : (a1 = none ∧ len1 = 0 ∧ cap1 = 0 ∧ z1 = []) ∨ ∃ x, a1 = some x ∧ len1 ≤ cap1 ∧ cap1 ≤ maxLen ∧ z1.length = cap1 ∧ (∀ i, i < z1.length → w.cell? (x.add i) = some (.int .i64 (z1.getD i 0))) ∧ ∀ n ∈ z1, (Lit.int .i64 n).wf = true) (y1 : len1 * 8 ≤ 140737488351232) (w2 : (Lit.int .i64 a2).wf = true) :
    Calls Tryd.prog 8 #[.agg #[.int .i64 a0_0, .bool a0_1, .slice a0_2 len0_2 cap0_2], .slice a1 len1 cap1, .int .i64 a2] w fun e w' => e = .returned (.bool true) ∧ Below w.heap.size w w' := by
  obtain ⟨l0_2, rfl, hr0_2, hm0_2, hw0_2, hc0_2⟩ := ReadsInt.ofRowC w0_2
  obtain ⟨l1, rfl, hr1, hm1, hw1, hc1⟩ := ReadsInt.ofRowC w1
  obtain ⟨k, h⟩ := P a0_0 a0_1 l0_2 l1 a2 w0_0 hm0_2 y0_2 hw0_2 hm1 y1 hw1 w2
  refine (laws_FnExactBestWorth.calls k a0_0 a0_1 _ _ l0_2 _ _ l1 a2 true w (Kd.C_of_reads (d := (0 : Int)) (h1 := fun _ => rfl) hr0_2) hc0_2 (Kd.C_of_reads (d := (0 : Int)) (h1 := fun _ => rfl) hr1) hc1 hT rfl h).mono ?_
  rintro e w' ⟨rfl, hd⟩
  exact ⟨rfl, hd⟩

end Go.Proofs.YtapbmneehaemeaaDoor.PFnExactBestWorth
