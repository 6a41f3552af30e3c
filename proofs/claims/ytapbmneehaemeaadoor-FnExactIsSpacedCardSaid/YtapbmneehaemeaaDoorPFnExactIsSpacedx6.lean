/- Proved: each Go function named here, called, comes to the answer of the Lean function beside it. Conditions: those that stand in each theorem. (Printed by this session's own turned copy of a printing program.) -/
import Derived.Test.YtapbmneehaemeaaDoorPFnExactIsSpacedx0
import Derived.Test.YtapbmneehaemeaaDoorPFnExactIsSpacedx4
import Derived.Test.YtapbmneehaemeaaDoorPFnExactIsSpacedx5
namespace Go.Proofs.YtapbmneehaemeaaDoor.PFnExactIsSpaced
open Go.RowKit Go.Proofs.YtapbmneehaemeaaDoorW.PrintWords Go.Proofs.YtapbmneehaemeaaDoorW.PrintLast Go.Proofs.YtapbmneehaemeaaDoorW.PrintMore
attribute [local go_sem] max2_int min2_int max_two min_two max_three min_three max_four min_four   -- for this text's walks alone
set_option linter.unusedVariables false
set_option linter.unusedSimpArgs false

/-! ### impl_spacing_isSpaced: function 35 -/
mutual
def impl_spacing_isSpaced.l0 : Nat → Int → Bool → List Int → Int → List Int → Int → Option Bool
  | 0, _, _, _, _, _, _ => none
  | k + 1, s, r, l, d, x, i => if i < (x.length : Int) then (if 0 ≤ i then ((impl_spacing_can.f k s r l d (rd x i)).bind fun t => if t = true then (if 0 < i then (if rd x (i - 1) ≥ rd x i then some false else impl_spacing_isSpaced.l1 k s r l d x i 0) else impl_spacing_isSpaced.l1 k s r l d x i 0) else some false) else none) else some true
def impl_spacing_isSpaced.l1 : Nat → Int → Bool → List Int → Int → List Int → Int → Int → Option Bool
  | 0, _, _, _, _, _, _, _ => none
  | k + 1, s, r, l, d, x, i, j => if j < i then (if 0 ≤ j then ((impl_bench_gap.f s r (rd x i) (rd x j)).bind fun q => if q < d then some false else impl_spacing_isSpaced.l1 k s r l d x i (wrap64 (j + 1))) else none) else impl_spacing_isSpaced.l0 k s r l d x (wrap64 (i + 1))
end
def impl_spacing_isSpaced.f (k : Nat) (s : Int) (r : Bool) (l : List Int) (d : Int) (x : List Int) : Option Bool := (impl_bench_has.f k s r x).bind fun t => if t = true then impl_spacing_isSpaced.l0 k s r l d x 0 else some false
theorem impl_spacing_isSpaced.mono_l : ∀ k, (∀ y0 y1 y2 y3 y4 y5, LeO (impl_spacing_isSpaced.l0 k y0 y1 y2 y3 y4 y5) (impl_spacing_isSpaced.l0 (k + 1) y0 y1 y2 y3 y4 y5)) ∧ (∀ y0 y1 y2 y3 y4 y5 y6, LeO (impl_spacing_isSpaced.l1 k y0 y1 y2 y3 y4 y5 y6) (impl_spacing_isSpaced.l1 (k + 1) y0 y1 y2 y3 y4 y5 y6))
  | 0 => ⟨fun _ _ _ _ _ _ r h => by simp [impl_spacing_isSpaced.l0] at h, fun _ _ _ _ _ _ _ r h => by simp [impl_spacing_isSpaced.l1] at h⟩
  | k + 1 => by
    obtain ⟨ih0, ih1⟩ := impl_spacing_isSpaced.mono_l k
    refine ⟨?_, ?_⟩
    · intro y0 y1 y2 y3 y4 y5
      unfold impl_spacing_isSpaced.l0
      repeat' first
      | (with_reducible exact ih0 _ _ _ _ _ _)
      | (with_reducible exact ih1 _ _ _ _ _ _ _)
      | (with_reducible exact impl_spacing_can.mono _ _ _ _ _ _)
      | (with_reducible exact impl_bench_has.mono _ _ _ _)
      | (with_reducible exact LeO.refl _)
      | (with_reducible exact LeO.none _)
      | (with_reducible refine LeO.ite ?_ ?_)
      | (with_reducible refine LeO.bind ?_ (fun _ => ?_))
      | exact ih0 _ _ _ _ _ _
      | exact ih1 _ _ _ _ _ _ _
      | exact impl_spacing_can.mono _ _ _ _ _ _
      | exact impl_bench_has.mono _ _ _ _
      | exact LeO.none _
      | refine LeO.ite ?_ ?_
      | refine LeO.bind ?_ (fun _ => ?_)
    · intro y0 y1 y2 y3 y4 y5 y6
      unfold impl_spacing_isSpaced.l1
      repeat' first
      | (with_reducible exact ih0 _ _ _ _ _ _)
      | (with_reducible exact ih1 _ _ _ _ _ _ _)
      | (with_reducible exact impl_spacing_can.mono _ _ _ _ _ _)
      | (with_reducible exact impl_bench_has.mono _ _ _ _)
      | (with_reducible exact LeO.refl _)
      | (with_reducible exact LeO.none _)
      | (with_reducible refine LeO.ite ?_ ?_)
      | (with_reducible refine LeO.bind ?_ (fun _ => ?_))
      | exact ih0 _ _ _ _ _ _
      | exact ih1 _ _ _ _ _ _ _
      | exact impl_spacing_can.mono _ _ _ _ _ _
      | exact impl_bench_has.mono _ _ _ _
      | exact LeO.none _
      | refine LeO.ite ?_ ?_
      | refine LeO.bind ?_ (fun _ => ?_)
theorem impl_spacing_isSpaced.mono : ∀ a0 a1 a2 a3 a4 k, LeO (impl_spacing_isSpaced.f k a0 a1 a2 a3 a4) (impl_spacing_isSpaced.f (k + 1) a0 a1 a2 a3 a4) := by
  intro a0 a1 a2 a3 a4 k
  obtain ⟨ih0, ih1⟩ := impl_spacing_isSpaced.mono_l k
  unfold impl_spacing_isSpaced.f
  repeat' first
      | (with_reducible exact ih0 _ _ _ _ _ _)
      | (with_reducible exact ih1 _ _ _ _ _ _ _)
      | (with_reducible exact impl_spacing_can.mono _ _ _ _ _ _)
      | (with_reducible exact impl_bench_has.mono _ _ _ _)
      | (with_reducible exact LeO.refl _)
      | (with_reducible exact LeO.none _)
      | (with_reducible refine LeO.ite ?_ ?_)
      | (with_reducible refine LeO.bind ?_ (fun _ => ?_))
      | exact ih0 _ _ _ _ _ _
      | exact ih1 _ _ _ _ _ _ _
      | exact impl_spacing_can.mono _ _ _ _ _ _
      | exact impl_bench_has.mono _ _ _ _
      | exact LeO.none _
      | refine LeO.ite ?_ ?_
      | refine LeO.bind ?_ (fun _ => ?_)
set_option maxHeartbeats 8000000 in
set_option maxRecDepth 100000 in
theorem impl_spacing_isSpaced.calls (k : Nat) (g : Nat) (s : Int) (r : Bool) (A : Option Addr) (c : Nat) (l : List Int) (d : Int) (Aw : Option Addr) (nw cw mb : Nat) (A1 : Option Addr) (c1 : Nat) (x : List Int) (res : Bool) (w : World) (hT : GT w) (hS : SpW w g s r A l.length c d Aw nw cw mb) (hr : Kd.C (Kd.int .i64) w A l.length l) (hc : l.length ≤ c) (hr1 : Kd.C (Kd.int .i64) w A1 x.length x) (hc1 : x.length ≤ c1) (h : impl_spacing_isSpaced.f k s r l d x = some res) :
    Calls Tryd.prog 35 #[.pointer (some ⟨g, 0, none⟩), .slice A1 x.length c1] w fun e w' => e = .returned (.bool res) ∧ Below w.heap.size w w' := by
  have hu28 := Tryd.underlying28
  have HC := Aside0.mk hc
  have HR := Aside0.mk hr
  have HC1 := Aside0.mk hc1
  have HR1 := Aside0.mk hr1
  have HM1 := Aside0.mk (Kd.C_max hr1)
  have HS := Aside0.mk hS
  have HTT := Aside0.mk hT
  have HB := Aside0.mk (Below.refl w.heap.size w)
  obtain ⟨c0, c1', c2, c3, _, _⟩ := hS.cell
  clear hc hr hS hT hr1 hc1
  unfold impl_spacing_isSpaced.f at h
  replace h := Option.bind_eq_some_iff.mp h
  obtain ⟨t, A10, h⟩ := h
  have AH := Aside0.mk A10
  clear A10
  cases t with
  | false =>
    rw [if_neg (by decide)] at h
    obtain rfl := Option.some.inj h
    go_enter Tryd.func35, Tryd.ntmps35
    go_wp2_with (first | (go_at_call 57; refine (impl_Row_bench.calls _ _ _ _ l _ _ _ HR.out HC.out rfl).mono ?_; rintro e w' ⟨rfl, hb⟩; have HBn := Aside0.mk (below_step HB.out hb); clear hb) | (go_at_call 58; refine (impl_bench_has.calls k s r _ _ x false _ (Kd.C_below HR1.out (‹Aside0 (Below w.heap.size w _)›).out) HC1.out AH.out).mono ?_; rintro e w' ⟨rfl, hb⟩; have HBn := Aside0.mk (below_step (‹Aside0 (Below w.heap.size w _)›).out hb); clear hb))
    go_ret
    exact ⟨rfl, (‹Aside0 (Below w.heap.size w _)›).out⟩
  | true =>
    rw [if_pos rfl] at h
    have H' := Aside0.mk h
    clear h
    go_enter Tryd.func35, Tryd.ntmps35
    go_wp2_with (first | (go_at_call 57; refine (impl_Row_bench.calls _ _ _ _ l _ _ _ HR.out HC.out rfl).mono ?_; rintro e w' ⟨rfl, hb⟩; have HBn := Aside0.mk (below_step HB.out hb); clear hb) | (go_at_call 58; refine (impl_bench_has.calls k s r _ _ x true _ (Kd.C_below HR1.out (‹Aside0 (Below w.heap.size w _)›).out) HC1.out AH.out).mono ?_; rintro e w' ⟨rfl, hb⟩; have HBn := Aside0.mk (below_step (‹Aside0 (Below w.heap.size w _)›).out hb); clear hb))
    go_loopg [19] k (fun kq v19 w' => ∃ (n : Nat), v19 = .int .i64 (n : Int) ∧ n ≤ x.length ∧ Aside0 (impl_spacing_isSpaced.l0 kq s r l d x (n : Int) = some res) ∧ Aside0 (kq ≤ k) ∧ Aside0 (Below w.heap.size w w'))
    case atStart => exact ⟨0, rfl, Nat.zero_le _, H', ⟨Nat.le_refl _⟩, ‹Aside0 (Below w.heap.size w _)›⟩
    case round =>
      clear H'
      obtain ⟨n, rfl, hn, HA, HK1, HB1⟩ := hrel
      cases gk with
      | zero => exact absurd HA.out (by simp [impl_spacing_isSpaced.l0])
      | succ k1 =>
        have H := HA.out
        clear HA
        simp only [impl_spacing_isSpaced.l0] at H
        have e0 := keep_c c0 HB1.out
        have e1 := keep_c c1' HB1.out
        have e2 := keep_c c2 HB1.out
        have e3 := keep_c c3 HB1.out
        by_cases hlt : n < x.length
        · rw [if_pos (by omega), if_pos (by omega)] at H
          have b1 : decide ((n : Int) < (x.length : Int)) = true := decide_eq_true (by omega)
          have b2 : decide (n < x.length) = true := decide_eq_true hlt
          replace H := Option.bind_eq_some_iff.mp H
          obtain ⟨t, A20, H⟩ := H
          have A2 := Aside0.mk A20
          clear A20
          have p0 : 0 ≤ (n : Int) := by omega
          have q0 : (n : Int) < (x.length : Int) := by omega
          obtain ⟨ad, ead, hx0⟩ := Kd.at_int HR1.out (n : Int) p0 q0
          cases ead
          simp only [Int.toNat_natCast] at hx0
          have hy0 := (HB1.out.cell (World.block_lt_of_cell? w _ hx0)).trans hx0
          have n0 : (n : Int) ≤ (c1 : Int) := by have := HC1.out; omega
          have n1 : (c1 = 0) = False := eq_false (by have := HC1.out; omega)
          cases t with
          | false =>
            rw [if_neg (by decide)] at H
            obtain rfl := Option.some.inj H
            go_wp2_with (go_at_call 59; refine (impl_spacing_can.calls k1 g s r _ c l d _ _ _ _ _ false _ (GT.below HTT.out HB1.out) (HS.out.below HB1.out) (Kd.C_below HR.out HB1.out) HC.out A2.out).mono ?_; rintro e w' ⟨rfl, hb⟩; have HBn := Aside0.mk (below_step HB1.out hb); have f0 := keep_c c0 HBn.out; have f1 := keep_c c1' HBn.out; have f2 := keep_c c2 HBn.out; have f3 := keep_c c3 HBn.out; clear hb)
            go_ret
            exact ⟨rfl, (‹Aside0 (Below w.heap.size w _)›).out⟩
          | true =>
            rw [if_pos rfl] at H
            by_cases hn0 : 0 < n
            · rw [if_pos (by omega)] at H
              have b3 : decide ((n : Int) > 0) = true := decide_eq_true (by omega)
              have b3' : decide (0 < n) = true := decide_eq_true (by omega)
              obtain ⟨ad2, ead2, hx1⟩ := Kd.at_int HR1.out ((n : Int) - 1) (by omega) (by omega)
              cases ead2
              replace hx1 : w.cell? (ad.add (wrap64 ((n : Int) - 1)).toNat) = some (.int .i64 (rd x ((n : Int) - 1))) := by
                have := HM1.out
                rw [show wrap64 ((n : Int) - 1) = (n : Int) - 1 from by unfold wrap64; omega]; exact hx1
              have hy1 := (HB1.out.cell (World.block_lt_of_cell? w _ hx1)).trans hx1
              have i0 : 0 ≤ wrap64 ((n : Int) - 1) := by have := HM1.out; unfold wrap64; omega
              have i1 : wrap64 ((n : Int) - 1) < (x.length : Int) := by have := HM1.out; unfold wrap64; omega
              by_cases hge : rd x ((n : Int) - 1) ≥ rd x (n : Int)
              · rw [if_pos hge] at H
                obtain rfl := Option.some.inj H
                have b4 : decide (rd x (n : Int) ≤ rd x ((n : Int) - 1)) = true := decide_eq_true hge
                go_wp2_with (go_at_call 59; refine (impl_spacing_can.calls k1 g s r _ c l d _ _ _ _ _ true _ (GT.below HTT.out HB1.out) (HS.out.below HB1.out) (Kd.C_below HR.out HB1.out) HC.out A2.out).mono ?_; rintro e w' ⟨rfl, hb⟩; have HBn := Aside0.mk (below_step HB1.out hb); have f0 := keep_c c0 HBn.out; have f1 := keep_c c1' HBn.out; have f2 := keep_c c2 HBn.out; have f3 := keep_c c3 HBn.out; clear hb; have z0 := (HBn.out.cell (World.block_lt_of_cell? w _ hx0)).trans hx0; have z1 := (HBn.out.cell (World.block_lt_of_cell? w _ hx1)).trans hx1)
                go_ret
                exact ⟨rfl, (‹Aside0 (Below w.heap.size w _)›).out⟩
              · rw [if_neg hge] at H
                have b4 : decide (rd x (n : Int) ≤ rd x ((n : Int) - 1)) = false := decide_eq_false hge
                go_wp2_with (go_at_call 59; refine (impl_spacing_can.calls k1 g s r _ c l d _ _ _ _ _ true _ (GT.below HTT.out HB1.out) (HS.out.below HB1.out) (Kd.C_below HR.out HB1.out) HC.out A2.out).mono ?_; rintro e w' ⟨rfl, hb⟩; have HBn := Aside0.mk (below_step HB1.out hb); have f0 := keep_c c0 HBn.out; have f1 := keep_c c1' HBn.out; have f2 := keep_c c2 HBn.out; have f3 := keep_c c3 HBn.out; clear hb; have z0 := (HBn.out.cell (World.block_lt_of_cell? w _ hx0)).trans hx0; have z1 := (HBn.out.cell (World.block_lt_of_cell? w _ hx1)).trans hx1)
                have H' := Aside0.mk H
                clear H
                go_loopg [45] k1 (fun kq v45 w' => ∃ (m : Nat), v45 = .int .i64 (m : Int) ∧ m ≤ n ∧ Aside0 (impl_spacing_isSpaced.l1 kq s r l d x (n : Int) (m : Int) = some res) ∧ Aside0 (kq ≤ k1) ∧ Aside0 (Below w.heap.size w w'))
                case atStart => exact ⟨0, rfl, Nat.zero_le _, H', ⟨Nat.le_refl _⟩, ‹Aside0 (Below w.heap.size w _)›⟩
                case round =>
                  clear H'
                  obtain ⟨m, rfl, hm, HA2, HK2, HB2⟩ := hrel
                  cases gk with
                  | zero => exact absurd HA2.out (by simp [impl_spacing_isSpaced.l1])
                  | succ k2 =>
                    have H2 := HA2.out
                    clear HA2
                    simp only [impl_spacing_isSpaced.l1] at H2
                    have g0 := keep_c c0 HB2.out
                    have g1 := keep_c c1' HB2.out
                    have g2 := keep_c c2 HB2.out
                    have g3 := keep_c c3 HB2.out
                    by_cases hmn : m < n
                    · rw [if_pos (by omega), if_pos (by omega)] at H2
                      have b5 : decide ((m : Int) < (n : Int)) = true := decide_eq_true (by omega)
                      have b6 : decide (m < n) = true := decide_eq_true hmn
                      have m0 : (m : Int) < (n : Int) := by omega
                      have m1 : 0 ≤ (m : Int) := by omega
                      replace H2 := Option.bind_eq_some_iff.mp H2
                      obtain ⟨q, A50, H2⟩ := H2
                      have A5 := Aside0.mk A50
                      clear A50
                      obtain ⟨ad3, ead3, hx2⟩ := Kd.at_int HR1.out (m : Int) (by omega) (by omega)
                      cases ead3
                      simp only [Int.toNat_natCast] at hx2
                      have hy2 := (HB2.out.cell (World.block_lt_of_cell? w _ hx2)).trans hx2
                      by_cases hq : q < d
                      · rw [if_pos hq] at H2
                        obtain rfl := Option.some.inj H2
                        have b7 : decide (q < d) = true := decide_eq_true hq
                        go_wp2
                        go_region_held3 (fun w' => Aside0 (Below w.heap.size w w') ∧ w'.cell? ⟨g, 0, none⟩ = some (.int .i64 s) ∧ w'.cell? ⟨g, 1, none⟩ = some (.bool r) ∧ w'.cell? ⟨g, 2, none⟩ = some (.slice A l.length c) ∧ w'.cell? ⟨g, 3, none⟩ = some (.int .i64 d)) ((refine ⟨?_, ?_, ?_, ?_, ?_⟩ <;> (first | assumption | exact keep_c c0 (below_drew1 (‹Aside0 (Below w.heap.size w _)›).out) | exact keep_c c1' (below_drew1 (‹Aside0 (Below w.heap.size w _)›).out) | exact keep_c c2 (below_drew1 (‹Aside0 (Below w.heap.size w _)›).out) | exact keep_c c3 (below_drew1 (‹Aside0 (Below w.heap.size w _)›).out) | exact ⟨below_drew1 (‹Aside0 (Below w.heap.size w _)›).out⟩ | exact keep_c c0 (‹Aside0 (Below w.heap.size w _)›).out | exact keep_c c1' (‹Aside0 (Below w.heap.size w _)›).out | exact keep_c c2 (‹Aside0 (Below w.heap.size w _)›).out | exact keep_c c3 (‹Aside0 (Below w.heap.size w _)›).out))) ((first | (go_at_call 57; refine (impl_Row_bench.calls _ _ _ _ l _ _ _ (Kd.C_below HR.out (‹Aside0 (Below w.heap.size w _) ∧ _›).1.out) HC.out rfl).mono ?_; rintro e w' ⟨rfl, hb⟩; have HBn := Aside0.mk (below_step (‹Aside0 (Below w.heap.size w _) ∧ _›).1.out hb); clear hb) | (go_at_call 60; refine (impl_bench_gap.calls s r (rd x (n : Int)) (rd x (m : Int)) q _ A5.out).mono ?_; rintro e w' ⟨rfl, hb⟩; have HBn := Aside0.mk (below_step (‹Aside0 (Below w.heap.size w _) ∧ _›).1.out hb); clear hb)))
                        all_goals (go_wp2; go_ret; exact ⟨rfl, (‹Aside0 (Below w.heap.size w _)›).out⟩)
                      · rw [if_neg hq] at H2
                        have b7 : decide (q < d) = false := decide_eq_false hq
                        have H3 := Aside0.mk H2
                        clear H2
                        go_wp2
                        go_region_held3 (fun w' => Aside0 (Below w.heap.size w w') ∧ w'.cell? ⟨g, 0, none⟩ = some (.int .i64 s) ∧ w'.cell? ⟨g, 1, none⟩ = some (.bool r) ∧ w'.cell? ⟨g, 2, none⟩ = some (.slice A l.length c) ∧ w'.cell? ⟨g, 3, none⟩ = some (.int .i64 d)) ((refine ⟨?_, ?_, ?_, ?_, ?_⟩ <;> (first | assumption | exact keep_c c0 (below_drew1 (‹Aside0 (Below w.heap.size w _)›).out) | exact keep_c c1' (below_drew1 (‹Aside0 (Below w.heap.size w _)›).out) | exact keep_c c2 (below_drew1 (‹Aside0 (Below w.heap.size w _)›).out) | exact keep_c c3 (below_drew1 (‹Aside0 (Below w.heap.size w _)›).out) | exact ⟨below_drew1 (‹Aside0 (Below w.heap.size w _)›).out⟩ | exact keep_c c0 (‹Aside0 (Below w.heap.size w _)›).out | exact keep_c c1' (‹Aside0 (Below w.heap.size w _)›).out | exact keep_c c2 (‹Aside0 (Below w.heap.size w _)›).out | exact keep_c c3 (‹Aside0 (Below w.heap.size w _)›).out))) ((first | (go_at_call 57; refine (impl_Row_bench.calls _ _ _ _ l _ _ _ (Kd.C_below HR.out (‹Aside0 (Below w.heap.size w _) ∧ _›).1.out) HC.out rfl).mono ?_; rintro e w' ⟨rfl, hb⟩; have HBn := Aside0.mk (below_step (‹Aside0 (Below w.heap.size w _) ∧ _›).1.out hb); clear hb) | (go_at_call 60; refine (impl_bench_gap.calls s r (rd x (n : Int)) (rd x (m : Int)) q _ A5.out).mono ?_; rintro e w' ⟨rfl, hb⟩; have HBn := Aside0.mk (below_step (‹Aside0 (Below w.heap.size w _) ∧ _›).1.out hb); clear hb)))
                        all_goals
                          have W2 : wrap64 ((m : Int) + 1) = ((m + 1 : Nat) : Int) := by have := HM1.out; unfold wrap64; omega
                          go_wp2
                          go_roundg k2
                          case measure => have := HK2.out; omega
                          case rel => exact ⟨m + 1, (by first | rfl | (rw [W2]; done) | (simp only [W2]; done) | (simp; done)), by omega, ⟨by have h_ := H3.out; rw [W2] at h_; exact h_⟩, ⟨by have := HK2.out; omega⟩, ‹Aside0 (Below w.heap.size w _)›⟩
                    · rw [if_neg (by omega)] at H2
                      have H3 := Aside0.mk H2
                      clear H2
                      have b5 : decide ((m : Int) < (n : Int)) = false := decide_eq_false (by omega)
                      have b6 : decide (m < n) = false := decide_eq_false hmn
                      have W2 : wrap64 ((n : Int) + 1) = ((n + 1 : Nat) : Int) := by have := HM1.out; unfold wrap64; omega
                      go_wp2
                      go_roundg k2
                      case measure => have := HK2.out; omega
                      case rel => exact ⟨n + 1, (by first | rfl | (rw [W2]; done) | (simp only [W2]; done) | (simp; done)), by omega, ⟨by have h_ := H3.out; rw [W2] at h_; exact h_⟩, ⟨by have := HK1.out; have := HK2.out; omega⟩, ‹Aside0 (Below w.heap.size w _)›⟩
            · rw [if_neg (by omega)] at H
              have b3 : decide ((n : Int) > 0) = false := decide_eq_false (by omega)
              have b3' : decide (0 < n) = false := decide_eq_false hn0
              go_wp2_with (go_at_call 59; refine (impl_spacing_can.calls k1 g s r _ c l d _ _ _ _ _ true _ (GT.below HTT.out HB1.out) (HS.out.below HB1.out) (Kd.C_below HR.out HB1.out) HC.out A2.out).mono ?_; rintro e w' ⟨rfl, hb⟩; have HBn := Aside0.mk (below_step HB1.out hb); have f0 := keep_c c0 HBn.out; have f1 := keep_c c1' HBn.out; have f2 := keep_c c2 HBn.out; have f3 := keep_c c3 HBn.out; clear hb; have z0 := (HBn.out.cell (World.block_lt_of_cell? w _ hx0)).trans hx0)
              have H' := Aside0.mk H
              clear H
              go_loopg [45] k1 (fun kq v45 w' => ∃ (m : Nat), v45 = .int .i64 (m : Int) ∧ m ≤ n ∧ Aside0 (impl_spacing_isSpaced.l1 kq s r l d x (n : Int) (m : Int) = some res) ∧ Aside0 (kq ≤ k1) ∧ Aside0 (Below w.heap.size w w'))
              case atStart => exact ⟨0, rfl, Nat.zero_le _, H', ⟨Nat.le_refl _⟩, ‹Aside0 (Below w.heap.size w _)›⟩
              case round =>
                clear H'
                obtain ⟨m, rfl, hm, HA2, HK2, HB2⟩ := hrel
                cases gk with
                | zero => exact absurd HA2.out (by simp [impl_spacing_isSpaced.l1])
                | succ k2 =>
                  have H2 := HA2.out
                  clear HA2
                  simp only [impl_spacing_isSpaced.l1] at H2
                  have g0 := keep_c c0 HB2.out
                  have g1 := keep_c c1' HB2.out
                  have g2 := keep_c c2 HB2.out
                  have g3 := keep_c c3 HB2.out
                  by_cases hmn : m < n
                  · rw [if_pos (by omega), if_pos (by omega)] at H2
                    have b5 : decide ((m : Int) < (n : Int)) = true := decide_eq_true (by omega)
                    have b6 : decide (m < n) = true := decide_eq_true hmn
                    have m0 : (m : Int) < (n : Int) := by omega
                    have m1 : 0 ≤ (m : Int) := by omega
                    replace H2 := Option.bind_eq_some_iff.mp H2
                    obtain ⟨q, A50, H2⟩ := H2
                    have A5 := Aside0.mk A50
                    clear A50
                    obtain ⟨ad3, ead3, hx2⟩ := Kd.at_int HR1.out (m : Int) (by omega) (by omega)
                    cases ead3
                    simp only [Int.toNat_natCast] at hx2
                    have hy2 := (HB2.out.cell (World.block_lt_of_cell? w _ hx2)).trans hx2
                    by_cases hq : q < d
                    · rw [if_pos hq] at H2
                      obtain rfl := Option.some.inj H2
                      have b7 : decide (q < d) = true := decide_eq_true hq
                      go_wp2
                      go_region_held3 (fun w' => Aside0 (Below w.heap.size w w') ∧ w'.cell? ⟨g, 0, none⟩ = some (.int .i64 s) ∧ w'.cell? ⟨g, 1, none⟩ = some (.bool r) ∧ w'.cell? ⟨g, 2, none⟩ = some (.slice A l.length c) ∧ w'.cell? ⟨g, 3, none⟩ = some (.int .i64 d)) ((refine ⟨?_, ?_, ?_, ?_, ?_⟩ <;> (first | assumption | exact keep_c c0 (below_drew1 (‹Aside0 (Below w.heap.size w _)›).out) | exact keep_c c1' (below_drew1 (‹Aside0 (Below w.heap.size w _)›).out) | exact keep_c c2 (below_drew1 (‹Aside0 (Below w.heap.size w _)›).out) | exact keep_c c3 (below_drew1 (‹Aside0 (Below w.heap.size w _)›).out) | exact ⟨below_drew1 (‹Aside0 (Below w.heap.size w _)›).out⟩ | exact keep_c c0 (‹Aside0 (Below w.heap.size w _)›).out | exact keep_c c1' (‹Aside0 (Below w.heap.size w _)›).out | exact keep_c c2 (‹Aside0 (Below w.heap.size w _)›).out | exact keep_c c3 (‹Aside0 (Below w.heap.size w _)›).out))) ((first | (go_at_call 57; refine (impl_Row_bench.calls _ _ _ _ l _ _ _ (Kd.C_below HR.out (‹Aside0 (Below w.heap.size w _) ∧ _›).1.out) HC.out rfl).mono ?_; rintro e w' ⟨rfl, hb⟩; have HBn := Aside0.mk (below_step (‹Aside0 (Below w.heap.size w _) ∧ _›).1.out hb); clear hb) | (go_at_call 60; refine (impl_bench_gap.calls s r (rd x (n : Int)) (rd x (m : Int)) q _ A5.out).mono ?_; rintro e w' ⟨rfl, hb⟩; have HBn := Aside0.mk (below_step (‹Aside0 (Below w.heap.size w _) ∧ _›).1.out hb); clear hb)))
                      all_goals (go_wp2; go_ret; exact ⟨rfl, (‹Aside0 (Below w.heap.size w _)›).out⟩)
                    · rw [if_neg hq] at H2
                      have b7 : decide (q < d) = false := decide_eq_false hq
                      have H3 := Aside0.mk H2
                      clear H2
                      go_wp2
                      go_region_held3 (fun w' => Aside0 (Below w.heap.size w w') ∧ w'.cell? ⟨g, 0, none⟩ = some (.int .i64 s) ∧ w'.cell? ⟨g, 1, none⟩ = some (.bool r) ∧ w'.cell? ⟨g, 2, none⟩ = some (.slice A l.length c) ∧ w'.cell? ⟨g, 3, none⟩ = some (.int .i64 d)) ((refine ⟨?_, ?_, ?_, ?_, ?_⟩ <;> (first | assumption | exact keep_c c0 (below_drew1 (‹Aside0 (Below w.heap.size w _)›).out) | exact keep_c c1' (below_drew1 (‹Aside0 (Below w.heap.size w _)›).out) | exact keep_c c2 (below_drew1 (‹Aside0 (Below w.heap.size w _)›).out) | exact keep_c c3 (below_drew1 (‹Aside0 (Below w.heap.size w _)›).out) | exact ⟨below_drew1 (‹Aside0 (Below w.heap.size w _)›).out⟩ | exact keep_c c0 (‹Aside0 (Below w.heap.size w _)›).out | exact keep_c c1' (‹Aside0 (Below w.heap.size w _)›).out | exact keep_c c2 (‹Aside0 (Below w.heap.size w _)›).out | exact keep_c c3 (‹Aside0 (Below w.heap.size w _)›).out))) ((first | (go_at_call 57; refine (impl_Row_bench.calls _ _ _ _ l _ _ _ (Kd.C_below HR.out (‹Aside0 (Below w.heap.size w _) ∧ _›).1.out) HC.out rfl).mono ?_; rintro e w' ⟨rfl, hb⟩; have HBn := Aside0.mk (below_step (‹Aside0 (Below w.heap.size w _) ∧ _›).1.out hb); clear hb) | (go_at_call 60; refine (impl_bench_gap.calls s r (rd x (n : Int)) (rd x (m : Int)) q _ A5.out).mono ?_; rintro e w' ⟨rfl, hb⟩; have HBn := Aside0.mk (below_step (‹Aside0 (Below w.heap.size w _) ∧ _›).1.out hb); clear hb)))
                      all_goals
                        have W2 : wrap64 ((m : Int) + 1) = ((m + 1 : Nat) : Int) := by have := HM1.out; unfold wrap64; omega
                        go_wp2
                        go_roundg k2
                        case measure => have := HK2.out; omega
                        case rel => exact ⟨m + 1, (by first | rfl | (rw [W2]; done) | (simp only [W2]; done) | (simp; done)), by omega, ⟨by have h_ := H3.out; rw [W2] at h_; exact h_⟩, ⟨by have := HK2.out; omega⟩, ‹Aside0 (Below w.heap.size w _)›⟩
                  · rw [if_neg (by omega)] at H2
                    have H3 := Aside0.mk H2
                    clear H2
                    have b5 : decide ((m : Int) < (n : Int)) = false := decide_eq_false (by omega)
                    have b6 : decide (m < n) = false := decide_eq_false hmn
                    have W2 : wrap64 ((n : Int) + 1) = ((n + 1 : Nat) : Int) := by have := HM1.out; unfold wrap64; omega
                    go_wp2
                    go_roundg k2
                    case measure => have := HK2.out; omega
                    case rel => exact ⟨n + 1, (by first | rfl | (rw [W2]; done) | (simp only [W2]; done) | (simp; done)), by omega, ⟨by have h_ := H3.out; rw [W2] at h_; exact h_⟩, ⟨by have := HK1.out; have := HK2.out; omega⟩, ‹Aside0 (Below w.heap.size w _)›⟩
        · rw [if_neg (by omega)] at H
          obtain rfl := Option.some.inj H
          have b1 : decide ((n : Int) < (x.length : Int)) = false := decide_eq_false (by omega)
          have b2 : decide (n < x.length) = false := decide_eq_false hlt
          go_wp2
          go_ret
          exact ⟨rfl, HB1.out⟩


/-! ### impl_IsSpaced: function 13 -/
def impl_IsSpaced.f (k : Nat) (s : Int) (r : Bool) (l : List Int) (x : List Int) (d : Int) : Option (Bool × Bool) := (impl_isSpacing.f k s r l d).bind fun t => if t = true then ((impl_spacing_isSpaced.f k s r l (mn d 25) x).bind fun b => some (b, true)) else some (false, false)
theorem impl_IsSpaced.mono : ∀ a0 a1 a2 a3 a4 k, LeO (impl_IsSpaced.f k a0 a1 a2 a3 a4) (impl_IsSpaced.f (k + 1) a0 a1 a2 a3 a4) := by
  intro a0 a1 a2 a3 a4 k
  unfold impl_IsSpaced.f
  repeat' first
      | (with_reducible exact impl_isSpacing.mono _ _ _ _ _)
      | (with_reducible exact impl_spacing_isSpaced.mono _ _ _ _ _ _)
      | (with_reducible exact LeO.refl _)
      | (with_reducible exact LeO.none _)
      | (with_reducible refine LeO.ite ?_ ?_)
      | (with_reducible refine LeO.bind ?_ (fun _ => ?_))
      | exact impl_isSpacing.mono _ _ _ _ _
      | exact impl_spacing_isSpaced.mono _ _ _ _ _ _
      | exact LeO.none _
      | refine LeO.ite ?_ ?_
      | refine LeO.bind ?_ (fun _ => ?_)
set_option maxHeartbeats 8000000 in
set_option maxRecDepth 100000 in
theorem impl_IsSpaced.calls (k : Nat) (a0_0 : Int) (a0_1 : Bool) (A0_2 : Option Addr) (c0_2 : Nat) (l0_2 : List Int) (A1 : Option Addr) (c1 : Nat) (l1 : List Int) (a2 : Int) (r1 : Bool) (r2 : Bool) (w : World) (hr0_2 : Kd.C (Kd.int .i64) w A0_2 l0_2.length l0_2) (hc0_2 : l0_2.length ≤ c0_2) (hr1 : Kd.C (Kd.int .i64) w A1 l1.length l1) (hc1 : l1.length ≤ c1) (hrT : GT w) (h : impl_IsSpaced.f k a0_0 a0_1 l0_2 l1 a2 = some (r1, r2)) :
    Calls Tryd.prog 13 #[.agg #[.int .i64 a0_0, .bool a0_1, .slice A0_2 l0_2.length c0_2], .slice A1 l1.length c1, .int .i64 a2] w fun e w' => e = .returned (.tuple #[.bool r1, .bool r2]) ∧ Below w.heap.size w w' := by
  have hu28 := Tryd.underlying28
  have HR := Aside0.mk hr0_2
  have HC := Aside0.mk hc0_2
  have HR1 := Aside0.mk hr1
  have HC1 := Aside0.mk hc1
  have HTT := Aside0.mk hrT
  have HB := Aside0.mk (Below.refl w.heap.size w)
  clear hr0_2 hc0_2 hr1 hc1 hrT
  unfold impl_IsSpaced.f at h
  replace h := Option.bind_eq_some_iff.mp h
  obtain ⟨t, A10, h⟩ := h
  have A1_ := Aside0.mk A10
  clear A10
  cases t with
  | false =>
    rw [if_neg (by decide)] at h
    obtain ⟨rfl, rfl⟩ := Prod.mk.inj (Option.some.inj h)
    clear h
    go_enter Tryd.func13, Tryd.ntmps13
    go_wp2_with (first | ((with_reducible refine gate_dst (N := 3) rfl ?_); refine box_event ?hg (N := 3) ?hd (cs := #[.int .i64 a0_0, .bool a0_1, .slice A0_2 l0_2.length c0_2]) (t := 28) ?hr ?_; (case hd => rfl); (case hg => rfl); (case hr => first | (go_simp; done) | (go_simp; rfl)); intro gb hg w5 hbox hb; have HB1 := Aside0.mk (below_step (by repeat (first | (with_reducible first | exact (‹Aside0 (Below w.heap.size w _)›).out | apply below_alloc | apply pw_below_drewN | apply below_drew1) | exact (‹Aside0 (Below w.heap.size w _)›).out)) hb); clear HB; have BK := Aside0.mk hbox; clear hb hbox hg; have hcza_0 : w5.cell? ⟨gb, 0, none⟩ = some (.int .i64 a0_0) := (blk_cell BK.out 0).trans rfl; have hcza_1 : w5.cell? ⟨gb, 1, none⟩ = some (.bool a0_1) := (blk_cell BK.out 1).trans rfl; have hcza_2 : w5.cell? ⟨gb, 2, none⟩ = some (.slice A0_2 l0_2.length c0_2) := (blk_cell BK.out 2).trans rfl; have hfza_0 := blk_frozen BK.out 0; have hfza_1 := blk_frozen BK.out 1; have hfza_2 := blk_frozen BK.out 2) | (go_at_call 33; refine (impl_isSpacing.calls k a0_0 a0_1 _ _ l0_2 a2 false _ (Kd.C_below HR.out HB1.out) HC.out A1_.out).mono ?_; rintro e w6 ⟨rfl, hb⟩; have HB2 := Aside0.mk (below_step HB1.out hb); have BK2 := Aside0.mk (blk_below (g := gb) (o := .cells #[.int .i64 a0_0, .bool a0_1, .slice A0_2 l0_2.length c0_2] 28 (0, 0)) BK.out hb); clear hb; clear HB1; have hczb_0 : w6.cell? ⟨gb, 0, none⟩ = some (.int .i64 a0_0) := (blk_cell BK2.out 0).trans rfl; have hczb_1 : w6.cell? ⟨gb, 1, none⟩ = some (.bool a0_1) := (blk_cell BK2.out 1).trans rfl; have hczb_2 : w6.cell? ⟨gb, 2, none⟩ = some (.slice A0_2 l0_2.length c0_2) := (blk_cell BK2.out 2).trans rfl; have hfzb_0 := blk_frozen BK2.out 0; have hfzb_1 := blk_frozen BK2.out 1; have hfzb_2 := blk_frozen BK2.out 2))
    go_ret2
    exact ⟨by first | rfl | (simp; done) | (simp [*]; done), by repeat (first | (with_reducible first | exact (‹Aside0 (Below w.heap.size w _)›).out | apply below_alloc | apply pw_below_drewN | apply below_drew1) | exact (‹Aside0 (Below w.heap.size w _)›).out)⟩
  | true =>
    rw [if_pos rfl] at h
    replace h := Option.bind_eq_some_iff.mp h
    obtain ⟨b, A20, h⟩ := h
    have A2_ := Aside0.mk A20
    clear A20
    obtain ⟨rfl, rfl⟩ := Prod.mk.inj (Option.some.inj h)
    clear h
    go_enter Tryd.func13, Tryd.ntmps13
    go_wp2_with (first | ((with_reducible refine gate_dst (N := 3) rfl ?_); refine box_event ?hg (N := 3) ?hd (cs := #[.int .i64 a0_0, .bool a0_1, .slice A0_2 l0_2.length c0_2]) (t := 28) ?hr ?_; (case hd => rfl); (case hg => rfl); (case hr => first | (go_simp; done) | (go_simp; rfl)); intro gb hg w5 hbox hb; have HB1 := Aside0.mk (below_step (by repeat (first | (with_reducible first | exact (‹Aside0 (Below w.heap.size w _)›).out | apply below_alloc | apply pw_below_drewN | apply below_drew1) | exact (‹Aside0 (Below w.heap.size w _)›).out)) hb); clear HB; have BK := Aside0.mk hbox; clear hb hbox hg; have hcza_0 : w5.cell? ⟨gb, 0, none⟩ = some (.int .i64 a0_0) := (blk_cell BK.out 0).trans rfl; have hcza_1 : w5.cell? ⟨gb, 1, none⟩ = some (.bool a0_1) := (blk_cell BK.out 1).trans rfl; have hcza_2 : w5.cell? ⟨gb, 2, none⟩ = some (.slice A0_2 l0_2.length c0_2) := (blk_cell BK.out 2).trans rfl; have hfza_0 := blk_frozen BK.out 0; have hfza_1 := blk_frozen BK.out 1; have hfza_2 := blk_frozen BK.out 2) | (go_at_call 33; refine (impl_isSpacing.calls k a0_0 a0_1 _ _ l0_2 a2 true _ (Kd.C_below HR.out HB1.out) HC.out A1_.out).mono ?_; rintro e w6 ⟨rfl, hb⟩; have HB2 := Aside0.mk (below_step HB1.out hb); have BK2 := Aside0.mk (blk_below (g := gb) (o := .cells #[.int .i64 a0_0, .bool a0_1, .slice A0_2 l0_2.length c0_2] 28 (0, 0)) BK.out hb); clear hb; clear HB1; have hczb_0 : w6.cell? ⟨gb, 0, none⟩ = some (.int .i64 a0_0) := (blk_cell BK2.out 0).trans rfl; have hczb_1 : w6.cell? ⟨gb, 1, none⟩ = some (.bool a0_1) := (blk_cell BK2.out 1).trans rfl; have hczb_2 : w6.cell? ⟨gb, 2, none⟩ = some (.slice A0_2 l0_2.length c0_2) := (blk_cell BK2.out 2).trans rfl; have hfzb_0 := blk_frozen BK2.out 0; have hfzb_1 := blk_frozen BK2.out 1; have hfzb_2 := blk_frozen BK2.out 2) | (go_at_call 34; refine (impl_newSpacing.calls a0_0 a0_1 _ _ _ a2 none 0 0 _).mono ?_; rintro e w7 ⟨g, mb, rfl, hS, hm, _, _, _, _, hb⟩; have HB3 := Aside0.mk (below_step HB2.out hb); have HS := Aside0.mk hS; clear hb hS hm) | (go_at_call 35; refine (impl_spacing_isSpaced.calls k g a0_0 a0_1 A0_2 c0_2 l0_2 (mn a2 25) none 0 0 mb A1 c1 l1 b _ (GT.below HTT.out HB3.out) HS.out (Kd.C_below HR.out HB3.out) HC.out (Kd.C_below HR1.out HB3.out) HC1.out A2_.out).mono ?_; rintro e w8 ⟨rfl, hb⟩; have HB4 := Aside0.mk (below_step HB3.out hb); clear hb))
    go_ret2
    exact ⟨by first | rfl | (simp; done) | (simp [*]; done), by repeat (first | (with_reducible first | exact (‹Aside0 (Below w.heap.size w _)›).out | apply below_alloc | apply pw_below_drewN | apply below_drew1) | exact (‹Aside0 (Below w.heap.size w _)›).out)⟩


/-! ### laws_eqIntS: function 15 -/
def laws_eqIntS.l0 : Nat → List Int → List Int → Int → Option (Bool)
  | 0, _, _, _ => none
  | k + 1, x0, x1, x5 => if x5 < (x0.length : Int) then (if 0 ≤ x5 then (if x5 < (x1.length : Int) then (if (rd x0 x5) = (rd x1 x5) then (laws_eqIntS.l0 k x0 x1 (wrap64 (x5 + 1))) else (some false)) else (none)) else (none)) else (some true)
def laws_eqIntS.f (k : Nat) (l0 : List Int) (l1 : List Int) : Option (Bool) := if (l0.length : Int) = (l1.length : Int) then (laws_eqIntS.l0 k l0 l1 0) else (some false)
theorem laws_eqIntS.mono_l : ∀ k, (∀ y0 y1 y2, LeO (laws_eqIntS.l0 k y0 y1 y2) (laws_eqIntS.l0 (k + 1) y0 y1 y2))
  | 0 => fun _ _ _ r h => by simp [laws_eqIntS.l0] at h
  | k + 1 => by
    have ih0 := laws_eqIntS.mono_l k
    · intro y0 y1 y2
      unfold laws_eqIntS.l0
      repeat' first
      | (with_reducible exact ih0 _ _ _)
      | (with_reducible exact LeO.refl _)
      | (with_reducible exact LeO.none _)
      | (with_reducible refine LeO.ite ?_ ?_)
      | (with_reducible refine LeO.bind ?_ (fun _ => ?_))
      | exact ih0 _ _ _
      | exact LeO.none _
      | refine LeO.ite ?_ ?_
      | refine LeO.bind ?_ (fun _ => ?_)
theorem laws_eqIntS.mono : ∀ a0 a1 k, LeO (laws_eqIntS.f k a0 a1) (laws_eqIntS.f (k + 1) a0 a1) := by
  intro a0 a1 k
  have ih0 := laws_eqIntS.mono_l k
  unfold laws_eqIntS.f
  repeat' first
      | (with_reducible exact ih0 _ _ _)
      | (with_reducible exact LeO.refl _)
      | (with_reducible exact LeO.none _)
      | (with_reducible refine LeO.ite ?_ ?_)
      | (with_reducible refine LeO.bind ?_ (fun _ => ?_))
      | exact ih0 _ _ _
      | exact LeO.none _
      | refine LeO.ite ?_ ?_
      | refine LeO.bind ?_ (fun _ => ?_)
set_option maxHeartbeats 8000000 in
set_option maxRecDepth 100000 in
theorem laws_eqIntS.calls (k : Nat) (A0 : Option Addr) (c0 : Nat) (l0 : List Int) (A1 : Option Addr) (c1 : Nat) (l1 : List Int) (r : Bool) (w : World) (hr0 : Kd.C (Kd.int .i64) w A0 l0.length l0) (hc0 : l0.length ≤ c0) (hr1 : Kd.C (Kd.int .i64) w A1 l1.length l1) (hc1 : l1.length ≤ c1) (h : laws_eqIntS.f k l0 l1 = some r) :
    Calls Tryd.prog 15 #[.slice A0 l0.length c0, .slice A1 l1.length c1] w fun e w' => e = .returned (.bool r) ∧ Drawn0 w w' := by
  have HR0 := Aside0.mk hr0
  have HC0 := Aside0.mk hc0
  clear hr0 hc0
  have HR1 := Aside0.mk hr1
  have HC1 := Aside0.mk hc1
  clear hr1 hc1
  have H : (if (l0.length : Int) = (l1.length : Int) then (laws_eqIntS.l0 k l0 l1 0) else (some false)) = some r := h
  clear h
  by_cases c3 : (l0.length : Int) = (l1.length : Int)
  · rw [if_pos c3] at H
    have c3b0 : ((l0.length : Int) == (l1.length : Int)) = true := beq_iff_eq.mpr c3
    have c3b1 : ((l0.length : Int) != (l1.length : Int)) = false := bne_eq_false_iff_eq.mpr c3
    have c3b2 : (l0.length == l1.length) = true := by first | simpa using c3 | (simp at c3 ⊢; omega)
    clear c3
    have H' := Aside0.mk H
    clear H
    go_enter Tryd.func15, Tryd.ntmps15
    go_wp2
    repeat (go_quiet (fail); try go_wp2)
    go_loopg [5] k (fun kq v5 w' => ∃ (x5_1 : Int), v5 = .int .i64 x5_1 ∧ Aside0 (laws_eqIntS.l0 kq l0 l1 x5_1 = some r) ∧ Aside0 (kq ≤ k) ∧ Drawn0 w w')
    case atStart => exact ⟨(0), (by first | rfl | (simp; done) | (simp [*]; done)), H', ⟨Nat.le_refl _⟩, by repeat (first | exact Drawn0.refl _ | apply Drawn0.step)⟩
    case round =>
      clear H'
      try clear c1
      try clear p2
      try clear c3
      try clear c3b0
      try clear c3b1
      try clear c3b2
      obtain ⟨x5_1, rfl, HA, HK1, ⟨m1, rfl⟩⟩ := hrel
      cases gk with
      | zero => exact absurd HA.out (by simp [laws_eqIntS.l0])
      | succ k1 =>
        have H := HA.out
        clear HA
        simp only [laws_eqIntS.l0] at H
        by_cases c4 : x5_1 < (l0.length : Int)
        · rw [if_pos c4] at H
          have c4b0 : decide (x5_1 < (l0.length : Int)) = true := decide_eq_true c4
          clear c4
          by_cases c5 : 0 ≤ x5_1
          · rw [if_pos c5] at H
            have c5b0 : decide (0 ≤ x5_1) = true := decide_eq_true c5
            clear c5
            by_cases c6 : x5_1 < (l1.length : Int)
            · rw [if_pos c6] at H
              have c6b0 : decide (x5_1 < (l1.length : Int)) = true := decide_eq_true c6
              clear c6
              by_cases c7 : (rd l0 x5_1) = (rd l1 x5_1)
              · rw [if_pos c7] at H
                have c7b0 : ((rd l0 x5_1) == (rd l1 x5_1)) = true := beq_iff_eq.mpr c7
                have c7b1 : ((rd l0 x5_1) != (rd l1 x5_1)) = false := bne_eq_false_iff_eq.mpr c7
                clear c7
                have H' := Aside0.mk H
                clear H
                have p188 : 0 ≤ (x5_1 : Int) := of_decide_eq_true (by first | (with_reducible assumption) | assumption)
                have q188 : x5_1 < (l0.length : Int) := of_decide_eq_true (by first | (with_reducible assumption) | assumption)
                obtain ⟨ad188, e188, hx188_0⟩ := Kd.at_int HR0.out x5_1 p188 q188
                cases e188
                replace p188 := eq_true p188
                replace q188 := eq_true q188
                have p189 : 0 ≤ (x5_1 : Int) := of_decide_eq_true (by first | (with_reducible assumption) | assumption)
                have q189 : x5_1 < (l1.length : Int) := of_decide_eq_true (by first | (with_reducible assumption) | assumption)
                obtain ⟨ad189, e189, hx189_0⟩ := Kd.at_int HR1.out x5_1 p189 q189
                cases e189
                replace p189 := eq_true p189
                replace q189 := eq_true q189
                go_wp2
                repeat (go_quiet (fail); try go_wp2)
                go_roundg k1
                case measure => have := HK1.out; omega
                case rel => exact ⟨(wrap64 (x5_1 + 1)), (by first | rfl | (simp; done) | (simp [*]; done)), H', ⟨by have := HK1.out; omega⟩, by repeat (first | exact Drawn0.refl _ | apply Drawn0.step)⟩
              · rw [if_neg c7] at H
                have c7b0 : ((rd l0 x5_1) == (rd l1 x5_1)) = false := beq_eq_false_iff_ne.mpr c7
                have c7b1 : ((rd l0 x5_1) != (rd l1 x5_1)) = true := bne_iff_ne.mpr c7
                obtain rfl := Option.some.inj H
                have p188 : 0 ≤ (x5_1 : Int) := of_decide_eq_true (by first | (with_reducible assumption) | assumption)
                have q188 : x5_1 < (l0.length : Int) := of_decide_eq_true (by first | (with_reducible assumption) | assumption)
                obtain ⟨ad188, e188, hx188_0⟩ := Kd.at_int HR0.out x5_1 p188 q188
                cases e188
                replace p188 := eq_true p188
                replace q188 := eq_true q188
                have p189 : 0 ≤ (x5_1 : Int) := of_decide_eq_true (by first | (with_reducible assumption) | assumption)
                have q189 : x5_1 < (l1.length : Int) := of_decide_eq_true (by first | (with_reducible assumption) | assumption)
                obtain ⟨ad189, e189, hx189_0⟩ := Kd.at_int HR1.out x5_1 p189 q189
                cases e189
                replace p189 := eq_true p189
                replace q189 := eq_true q189
                go_wp2
                repeat (go_quiet (fail); try go_wp2)
                go_ret
                exact ⟨by first | rfl | (simp; done) | (simp [*]; done), by repeat (first | exact Drawn0.refl _ | apply Drawn0.step)⟩
            · rw [if_neg c6] at H
              exact absurd H (by simp)
          · rw [if_neg c5] at H
            exact absurd H (by simp)
        · rw [if_neg c4] at H
          have c4b0 : decide (x5_1 < (l0.length : Int)) = false := decide_eq_false c4
          clear c4
          obtain rfl := Option.some.inj H
          go_wp2
          repeat (go_quiet (fail); try go_wp2)
          go_ret
          exact ⟨by first | rfl | (simp; done) | (simp [*]; done), by repeat (first | exact Drawn0.refl _ | apply Drawn0.step)⟩
  · rw [if_neg c3] at H
    have c3b0 : ((l0.length : Int) == (l1.length : Int)) = false := beq_eq_false_iff_ne.mpr c3
    have c3b1 : ((l0.length : Int) != (l1.length : Int)) = true := bne_iff_ne.mpr c3
    have c3b2 : (l0.length == l1.length) = false := by first | simpa using c3 | (simp at c3 ⊢; omega)
    obtain rfl := Option.some.inj H
    go_enter Tryd.func15, Tryd.ntmps15
    go_wp2
    repeat (go_quiet (fail); try go_wp2)
    go_ret
    exact ⟨by first | rfl | (simp; done) | (simp [*]; done), by repeat (first | exact Drawn0.refl _ | apply Drawn0.step)⟩

/-! ### laws_eqRow: function 14 -/
def laws_eqRow.f (k : Nat) (a0_0 : Int) (a0_1 : Bool) (l0_2 : List Int) (a1_0 : Int) (a1_1 : Bool) (l1_2 : List Int) : Option (Bool) := if a0_0 = a1_0 then (if (a0_1 != a1_1) = true then (some false) else ((laws_eqIntS.f k l0_2 l1_2).bind fun t192 => (if t192 = true then (some true) else (some false)))) else (some false)
theorem laws_eqRow.mono : ∀ a0 a1 a2 a3 a4 a5 k, LeO (laws_eqRow.f k a0 a1 a2 a3 a4 a5) (laws_eqRow.f (k + 1) a0 a1 a2 a3 a4 a5) := by
  intro a0 a1 a2 a3 a4 a5 k
  unfold laws_eqRow.f
  repeat' first
      | (with_reducible exact laws_eqIntS.mono _ _ _)
      | (with_reducible exact LeO.refl _)
      | (with_reducible exact LeO.none _)
      | (with_reducible refine LeO.ite ?_ ?_)
      | (with_reducible refine LeO.bind ?_ (fun _ => ?_))
      | exact laws_eqIntS.mono _ _ _
      | exact LeO.none _
      | refine LeO.ite ?_ ?_
      | refine LeO.bind ?_ (fun _ => ?_)
set_option maxHeartbeats 8000000 in
set_option maxRecDepth 100000 in
theorem laws_eqRow.calls (k : Nat) (a0_0 : Int) (a0_1 : Bool) (A0_2 : Option Addr) (c0_2 : Nat) (l0_2 : List Int) (a1_0 : Int) (a1_1 : Bool) (A1_2 : Option Addr) (c1_2 : Nat) (l1_2 : List Int) (r : Bool) (w : World) (hr0_2 : Kd.C (Kd.int .i64) w A0_2 l0_2.length l0_2) (hc0_2 : l0_2.length ≤ c0_2) (hr1_2 : Kd.C (Kd.int .i64) w A1_2 l1_2.length l1_2) (hc1_2 : l1_2.length ≤ c1_2) (h : laws_eqRow.f k a0_0 a0_1 l0_2 a1_0 a1_1 l1_2 = some r) :
    Calls Tryd.prog 14 #[.agg #[.int .i64 a0_0, .bool a0_1, .slice A0_2 l0_2.length c0_2], .agg #[.int .i64 a1_0, .bool a1_1, .slice A1_2 l1_2.length c1_2]] w fun e w' => e = .returned (.bool r) ∧ Below w.heap.size w w' := by
  have hu28 := Tryd.underlying28
  have HR0_2 := Aside0.mk hr0_2
  have HC0_2 := Aside0.mk hc0_2
  clear hr0_2 hc0_2
  have HR1_2 := Aside0.mk hr1_2
  have HC1_2 := Aside0.mk hc1_2
  clear hr1_2 hc1_2
  have HB := Aside0.mk (Below.refl w.heap.size w)
  have H : (if a0_0 = a1_0 then (if (a0_1 != a1_1) = true then (some false) else ((laws_eqIntS.f k l0_2 l1_2).bind fun t192 => (if t192 = true then (some true) else (some false)))) else (some false)) = some r := h
  clear h
  by_cases c3 : a0_0 = a1_0
  · rw [if_pos c3] at H
    have c3b0 : (a0_0 == a1_0) = true := beq_iff_eq.mpr c3
    have c3b1 : (a0_0 != a1_0) = false := bne_eq_false_iff_eq.mpr c3
    clear c3
    by_cases c4 : (a0_1 != a1_1) = true
    · rw [if_pos c4] at H
      have c4b0 : (a0_1 != a1_1) = true := c4
      (try (have c4b1 : decide (a0_1 = a1_1) = false := by simpa using c4))
      (try (have c4b2 : (a0_1 == a1_1) = false := by simpa using c4))
      (try (have c4b3 : ¬ (a0_1 = a1_1) := by simpa using c4))
      clear c4
      obtain rfl := Option.some.inj H
      go_enter Tryd.func14, Tryd.ntmps14
      go_wp2_with (first | ((with_reducible refine gate_dst (N := 2) rfl ?_); refine box_event ?hg (N := 2) ?hd (cs := #[.int .i64 a0_0, .bool a0_1, .slice A0_2 l0_2.length c0_2]) (t := 28) ?hr ?_; (case hd => rfl); (case hg => rfl); (case hr => first | (go_simp; done) | (go_simp; rfl)); intro gb190 hg w5 hbox hb; have n0_ := Aside0.mk (below_step (by repeat (first | (with_reducible first | exact HB.out | apply below_alloc | apply pw_below_drewN | apply below_drew1) | exact HB.out)) hb); have n1_ := Aside0.mk (hbox); have n2_ := Aside0.mk ((by rw [hg]; exact (below_size (by repeat (first | (with_reducible first | exact HB.out | apply below_alloc | apply pw_below_drewN | apply below_drew1) | exact HB.out))) : w.heap.size ≤ gb190)); have n3_ := Aside0.mk ((by rw [hg]; exact (below_size (by repeat (first | (with_reducible first | exact HB.out | apply below_alloc | apply pw_below_drewN | apply below_drew1) | exact HB.out))) : w.heap.size ≤ gb190)); clear HB; have HB := n0_; have BK190 := n1_; have GW190 := n2_; have GE190 := n3_; clear n0_ n1_ n2_ n3_; clear hb hbox hg) | ((with_reducible refine gate_dst (N := 3) rfl ?_); refine box_event ?hg (N := 3) ?hd (cs := #[.int .i64 a1_0, .bool a1_1, .slice A1_2 l1_2.length c1_2]) (t := 28) ?hr ?_; (case hd => rfl); (case hg => rfl); (case hr => first | (go_simp; done) | (go_simp; rfl)); intro gb191 hg w6 hbox hb; have n0_ := Aside0.mk (blk_below (g := gb190) (o := .cells #[.int .i64 a0_0, .bool a0_1, .slice A0_2 l0_2.length c0_2] 28 (0, 0)) (by first | (with_reducible exact BK190.out) | ((with_reducible repeat (first | refine blk_drewN ?_ _ | refine blk_drew ?_ | refine blk_alloc ?_ _)); exact BK190.out)) hb); have n1_ := Aside0.mk (below_step (by repeat (first | (with_reducible first | exact HB.out | apply below_alloc | apply pw_below_drewN | apply below_drew1 | refine below_set ?_ GE190.out) | exact HB.out)) hb); have n2_ := Aside0.mk (hbox); have n3_ := Aside0.mk ((by rw [hg]; exact (below_size (by repeat (first | (with_reducible first | exact HB.out | apply below_alloc | apply pw_below_drewN | apply below_drew1 | refine below_set ?_ GE190.out) | exact HB.out))) : w.heap.size ≤ gb191)); have n4_ := Aside0.mk ((by rw [hg]; exact (below_size (by repeat (first | (with_reducible first | exact HB.out | apply below_alloc | apply pw_below_drewN | apply below_drew1 | refine below_set ?_ GE190.out) | exact HB.out))) : w.heap.size ≤ gb191)); have n5_ := Aside0.mk ((by rw [hg]; exact Nat.ne_of_lt (blk_lt (g := gb190) (o := .cells #[.int .i64 a0_0, .bool a0_1, .slice A0_2 l0_2.length c0_2] 28 (0, 0)) (by first | (with_reducible exact BK190.out) | ((with_reducible repeat (first | refine blk_drewN ?_ _ | refine blk_drew ?_ | refine blk_alloc ?_ _)); exact BK190.out))) : gb190 ≠ gb191)); have n6_ := Aside0.mk ((by rw [hg]; exact Nat.ne_of_gt (blk_lt (g := gb190) (o := .cells #[.int .i64 a0_0, .bool a0_1, .slice A0_2 l0_2.length c0_2] 28 (0, 0)) (by first | (with_reducible exact BK190.out) | ((with_reducible repeat (first | refine blk_drewN ?_ _ | refine blk_drew ?_ | refine blk_alloc ?_ _)); exact BK190.out))) : gb191 ≠ gb190)); clear BK190; clear HB; have BK190 := n0_; have HB := n1_; have BK191 := n2_; have GW191 := n3_; have GE191 := n4_; have NB190_191 := n5_; have NB191_190 := n6_; clear n0_ n1_ n2_ n3_ n4_ n5_ n6_; clear hb hbox hg; have hnb7 := NB190_191.out; have hnc7 := NB191_190.out; have hcz8_0 : w6.cell? ⟨gb190, 0, none⟩ = some (.int .i64 a0_0) := (blk_cell BK190.out 0).trans rfl; have hcz8_1 : w6.cell? ⟨gb190, 1, none⟩ = some (.bool a0_1) := (blk_cell BK190.out 1).trans rfl; have hcz8_2 : w6.cell? ⟨gb190, 2, none⟩ = some (.slice A0_2 l0_2.length c0_2) := (blk_cell BK190.out 2).trans rfl; have hfz8_0 := blk_frozen BK190.out 0; have hfz8_1 := blk_frozen BK190.out 1; have hfz8_2 := blk_frozen BK190.out 2; have hcz9_0 : w6.cell? ⟨gb191, 0, none⟩ = some (.int .i64 a1_0) := (blk_cell BK191.out 0).trans rfl; have hcz9_1 : w6.cell? ⟨gb191, 1, none⟩ = some (.bool a1_1) := (blk_cell BK191.out 1).trans rfl; have hcz9_2 : w6.cell? ⟨gb191, 2, none⟩ = some (.slice A1_2 l1_2.length c1_2) := (blk_cell BK191.out 2).trans rfl; have hfz9_0 := blk_frozen BK191.out 0; have hfz9_1 := blk_frozen BK191.out 1; have hfz9_2 := blk_frozen BK191.out 2))
      go_ret
      exact ⟨by first | rfl | (simp [errW_none, errW_some] <;> rfl) | (simp [*, errW_none, errW_some] <;> rfl), by repeat (first | (with_reducible first | exact HB.out | apply below_alloc | apply pw_below_drewN | apply below_drew1 | refine below_set ?_ GE190.out | refine below_set ?_ GE191.out) | exact HB.out)⟩
    · rw [if_neg c4] at H
      have c4b0 : (a0_1 != a1_1) = false := by simpa using c4
      (try (have c4b1 : decide (a0_1 = a1_1) = true := by simpa using c4))
      (try (have c4b2 : (a0_1 == a1_1) = true := by simpa using c4))
      clear c4
      replace H := Option.bind_eq_some_iff.mp H
      obtain ⟨t192, A100, H⟩ := H
      replace H : (if t192 = true then (some true) else (some false)) = some r := H
      have A10 := Aside0.mk A100
      clear A100
      by_cases c11 : t192 = true
      · subst c11
        have H1 : (some true) = some r := by rw [if_pos rfl] at H; exact H
        clear H
        have H := H1
        clear H1
        obtain rfl := Option.some.inj H
        go_enter Tryd.func14, Tryd.ntmps14
        go_wp2_with (first | ((with_reducible refine gate_dst (N := 2) rfl ?_); refine box_event ?hg (N := 2) ?hd (cs := #[.int .i64 a0_0, .bool a0_1, .slice A0_2 l0_2.length c0_2]) (t := 28) ?hr ?_; (case hd => rfl); (case hg => rfl); (case hr => first | (go_simp; done) | (go_simp; rfl)); intro gb190 hg w12 hbox hb; have n0_ := Aside0.mk (below_step (by repeat (first | (with_reducible first | exact HB.out | apply below_alloc | apply pw_below_drewN | apply below_drew1) | exact HB.out)) hb); have n1_ := Aside0.mk (hbox); have n2_ := Aside0.mk ((by rw [hg]; exact (below_size (by repeat (first | (with_reducible first | exact HB.out | apply below_alloc | apply pw_below_drewN | apply below_drew1) | exact HB.out))) : w.heap.size ≤ gb190)); have n3_ := Aside0.mk ((by rw [hg]; exact (below_size (by repeat (first | (with_reducible first | exact HB.out | apply below_alloc | apply pw_below_drewN | apply below_drew1) | exact HB.out))) : w.heap.size ≤ gb190)); clear HB; have HB := n0_; have BK190 := n1_; have GW190 := n2_; have GE190 := n3_; clear n0_ n1_ n2_ n3_; clear hb hbox hg) | ((with_reducible refine gate_dst (N := 3) rfl ?_); refine box_event ?hg (N := 3) ?hd (cs := #[.int .i64 a1_0, .bool a1_1, .slice A1_2 l1_2.length c1_2]) (t := 28) ?hr ?_; (case hd => rfl); (case hg => rfl); (case hr => first | (go_simp; done) | (go_simp; rfl)); intro gb191 hg w13 hbox hb; have n0_ := Aside0.mk (blk_below (g := gb190) (o := .cells #[.int .i64 a0_0, .bool a0_1, .slice A0_2 l0_2.length c0_2] 28 (0, 0)) (by first | (with_reducible exact BK190.out) | ((with_reducible repeat (first | refine blk_drewN ?_ _ | refine blk_drew ?_ | refine blk_alloc ?_ _)); exact BK190.out)) hb); have n1_ := Aside0.mk (below_step (by repeat (first | (with_reducible first | exact HB.out | apply below_alloc | apply pw_below_drewN | apply below_drew1 | refine below_set ?_ GE190.out) | exact HB.out)) hb); have n2_ := Aside0.mk (hbox); have n3_ := Aside0.mk ((by rw [hg]; exact (below_size (by repeat (first | (with_reducible first | exact HB.out | apply below_alloc | apply pw_below_drewN | apply below_drew1 | refine below_set ?_ GE190.out) | exact HB.out))) : w.heap.size ≤ gb191)); have n4_ := Aside0.mk ((by rw [hg]; exact (below_size (by repeat (first | (with_reducible first | exact HB.out | apply below_alloc | apply pw_below_drewN | apply below_drew1 | refine below_set ?_ GE190.out) | exact HB.out))) : w.heap.size ≤ gb191)); have n5_ := Aside0.mk ((by rw [hg]; exact Nat.ne_of_lt (blk_lt (g := gb190) (o := .cells #[.int .i64 a0_0, .bool a0_1, .slice A0_2 l0_2.length c0_2] 28 (0, 0)) (by first | (with_reducible exact BK190.out) | ((with_reducible repeat (first | refine blk_drewN ?_ _ | refine blk_drew ?_ | refine blk_alloc ?_ _)); exact BK190.out))) : gb190 ≠ gb191)); have n6_ := Aside0.mk ((by rw [hg]; exact Nat.ne_of_gt (blk_lt (g := gb190) (o := .cells #[.int .i64 a0_0, .bool a0_1, .slice A0_2 l0_2.length c0_2] 28 (0, 0)) (by first | (with_reducible exact BK190.out) | ((with_reducible repeat (first | refine blk_drewN ?_ _ | refine blk_drew ?_ | refine blk_alloc ?_ _)); exact BK190.out))) : gb191 ≠ gb190)); clear BK190; clear HB; have BK190 := n0_; have HB := n1_; have BK191 := n2_; have GW191 := n3_; have GE191 := n4_; have NB190_191 := n5_; have NB191_190 := n6_; clear n0_ n1_ n2_ n3_ n4_ n5_ n6_; clear hb hbox hg; have hnb14 := NB190_191.out; have hnc14 := NB191_190.out; have hcz15_0 : w13.cell? ⟨gb190, 0, none⟩ = some (.int .i64 a0_0) := (blk_cell BK190.out 0).trans rfl; have hcz15_1 : w13.cell? ⟨gb190, 1, none⟩ = some (.bool a0_1) := (blk_cell BK190.out 1).trans rfl; have hcz15_2 : w13.cell? ⟨gb190, 2, none⟩ = some (.slice A0_2 l0_2.length c0_2) := (blk_cell BK190.out 2).trans rfl; have hfz15_0 := blk_frozen BK190.out 0; have hfz15_1 := blk_frozen BK190.out 1; have hfz15_2 := blk_frozen BK190.out 2; have hcz16_0 : w13.cell? ⟨gb191, 0, none⟩ = some (.int .i64 a1_0) := (blk_cell BK191.out 0).trans rfl; have hcz16_1 : w13.cell? ⟨gb191, 1, none⟩ = some (.bool a1_1) := (blk_cell BK191.out 1).trans rfl; have hcz16_2 : w13.cell? ⟨gb191, 2, none⟩ = some (.slice A1_2 l1_2.length c1_2) := (blk_cell BK191.out 2).trans rfl; have hfz16_0 := blk_frozen BK191.out 0; have hfz16_1 := blk_frozen BK191.out 1; have hfz16_2 := blk_frozen BK191.out 2) | ((with_reducible refine gate_callee (f := 15) rfl ?_); refine goesL_ (some 19) rfl rfl Tryd.func15 (by kernel_rfl) rfl #[.slice A0_2 l0_2.length c0_2, .slice A1_2 l1_2.length c1_2] rfl (by (try simp only [List.map_toArray, List.map_cons, List.map_nil]); first | done | rfl | (simp only [List.length_drop, List.length_take]; rfl)) ?_; (with_reducible refine (laws_eqIntS.calls k _ _ l0_2 _ _ l1_2 true _ ?side1 ?side2 ?side3 ?side4 A10.out).mono ?_); (case side1 => repeat (first | exact (Kd.C_below HR0_2.out HB.out) | (with_reducible refine Kd.C_alloc ?_ _) | (with_reducible refine Kd.C_drewN ?_ _) | (with_reducible refine Kd.C_drew ?_))); (case side2 => exact HC0_2.out); (case side3 => repeat (first | exact (Kd.C_below HR1_2.out HB.out) | (with_reducible refine Kd.C_alloc ?_ _) | (with_reducible refine Kd.C_drewN ?_ _) | (with_reducible refine Kd.C_drew ?_))); (case side4 => exact HC1_2.out); rintro e w' ⟨rfl, ⟨nd, rfl⟩⟩; refine ⟨_, rfl, ?_⟩))
        go_ret
        exact ⟨by first | rfl | (simp [errW_none, errW_some] <;> rfl) | (simp [*, errW_none, errW_some] <;> rfl), by repeat (first | (with_reducible first | exact HB.out | apply below_alloc | apply pw_below_drewN | apply below_drew1 | refine below_set ?_ GE190.out | refine below_set ?_ GE191.out) | exact HB.out)⟩
      · replace c11 := Bool.eq_false_iff.mpr c11
        subst c11
        have H1 : (some false) = some r := by rw [if_neg (show ¬ (false = true) by decide)] at H; exact H
        clear H
        have H := H1
        clear H1
        obtain rfl := Option.some.inj H
        go_enter Tryd.func14, Tryd.ntmps14
        go_wp2_with (first | ((with_reducible refine gate_dst (N := 2) rfl ?_); refine box_event ?hg (N := 2) ?hd (cs := #[.int .i64 a0_0, .bool a0_1, .slice A0_2 l0_2.length c0_2]) (t := 28) ?hr ?_; (case hd => rfl); (case hg => rfl); (case hr => first | (go_simp; done) | (go_simp; rfl)); intro gb190 hg w17 hbox hb; have n0_ := Aside0.mk (below_step (by repeat (first | (with_reducible first | exact HB.out | apply below_alloc | apply pw_below_drewN | apply below_drew1) | exact HB.out)) hb); have n1_ := Aside0.mk (hbox); have n2_ := Aside0.mk ((by rw [hg]; exact (below_size (by repeat (first | (with_reducible first | exact HB.out | apply below_alloc | apply pw_below_drewN | apply below_drew1) | exact HB.out))) : w.heap.size ≤ gb190)); have n3_ := Aside0.mk ((by rw [hg]; exact (below_size (by repeat (first | (with_reducible first | exact HB.out | apply below_alloc | apply pw_below_drewN | apply below_drew1) | exact HB.out))) : w.heap.size ≤ gb190)); clear HB; have HB := n0_; have BK190 := n1_; have GW190 := n2_; have GE190 := n3_; clear n0_ n1_ n2_ n3_; clear hb hbox hg) | ((with_reducible refine gate_dst (N := 3) rfl ?_); refine box_event ?hg (N := 3) ?hd (cs := #[.int .i64 a1_0, .bool a1_1, .slice A1_2 l1_2.length c1_2]) (t := 28) ?hr ?_; (case hd => rfl); (case hg => rfl); (case hr => first | (go_simp; done) | (go_simp; rfl)); intro gb191 hg w18 hbox hb; have n0_ := Aside0.mk (blk_below (g := gb190) (o := .cells #[.int .i64 a0_0, .bool a0_1, .slice A0_2 l0_2.length c0_2] 28 (0, 0)) (by first | (with_reducible exact BK190.out) | ((with_reducible repeat (first | refine blk_drewN ?_ _ | refine blk_drew ?_ | refine blk_alloc ?_ _)); exact BK190.out)) hb); have n1_ := Aside0.mk (below_step (by repeat (first | (with_reducible first | exact HB.out | apply below_alloc | apply pw_below_drewN | apply below_drew1 | refine below_set ?_ GE190.out) | exact HB.out)) hb); have n2_ := Aside0.mk (hbox); have n3_ := Aside0.mk ((by rw [hg]; exact (below_size (by repeat (first | (with_reducible first | exact HB.out | apply below_alloc | apply pw_below_drewN | apply below_drew1 | refine below_set ?_ GE190.out) | exact HB.out))) : w.heap.size ≤ gb191)); have n4_ := Aside0.mk ((by rw [hg]; exact (below_size (by repeat (first | (with_reducible first | exact HB.out | apply below_alloc | apply pw_below_drewN | apply below_drew1 | refine below_set ?_ GE190.out) | exact HB.out))) : w.heap.size ≤ gb191)); have n5_ := Aside0.mk ((by rw [hg]; exact Nat.ne_of_lt (blk_lt (g := gb190) (o := .cells #[.int .i64 a0_0, .bool a0_1, .slice A0_2 l0_2.length c0_2] 28 (0, 0)) (by first | (with_reducible exact BK190.out) | ((with_reducible repeat (first | refine blk_drewN ?_ _ | refine blk_drew ?_ | refine blk_alloc ?_ _)); exact BK190.out))) : gb190 ≠ gb191)); have n6_ := Aside0.mk ((by rw [hg]; exact Nat.ne_of_gt (blk_lt (g := gb190) (o := .cells #[.int .i64 a0_0, .bool a0_1, .slice A0_2 l0_2.length c0_2] 28 (0, 0)) (by first | (with_reducible exact BK190.out) | ((with_reducible repeat (first | refine blk_drewN ?_ _ | refine blk_drew ?_ | refine blk_alloc ?_ _)); exact BK190.out))) : gb191 ≠ gb190)); clear BK190; clear HB; have BK190 := n0_; have HB := n1_; have BK191 := n2_; have GW191 := n3_; have GE191 := n4_; have NB190_191 := n5_; have NB191_190 := n6_; clear n0_ n1_ n2_ n3_ n4_ n5_ n6_; clear hb hbox hg; have hnb19 := NB190_191.out; have hnc19 := NB191_190.out; have hcz20_0 : w18.cell? ⟨gb190, 0, none⟩ = some (.int .i64 a0_0) := (blk_cell BK190.out 0).trans rfl; have hcz20_1 : w18.cell? ⟨gb190, 1, none⟩ = some (.bool a0_1) := (blk_cell BK190.out 1).trans rfl; have hcz20_2 : w18.cell? ⟨gb190, 2, none⟩ = some (.slice A0_2 l0_2.length c0_2) := (blk_cell BK190.out 2).trans rfl; have hfz20_0 := blk_frozen BK190.out 0; have hfz20_1 := blk_frozen BK190.out 1; have hfz20_2 := blk_frozen BK190.out 2; have hcz21_0 : w18.cell? ⟨gb191, 0, none⟩ = some (.int .i64 a1_0) := (blk_cell BK191.out 0).trans rfl; have hcz21_1 : w18.cell? ⟨gb191, 1, none⟩ = some (.bool a1_1) := (blk_cell BK191.out 1).trans rfl; have hcz21_2 : w18.cell? ⟨gb191, 2, none⟩ = some (.slice A1_2 l1_2.length c1_2) := (blk_cell BK191.out 2).trans rfl; have hfz21_0 := blk_frozen BK191.out 0; have hfz21_1 := blk_frozen BK191.out 1; have hfz21_2 := blk_frozen BK191.out 2) | ((with_reducible refine gate_callee (f := 15) rfl ?_); refine goesL_ (some 19) rfl rfl Tryd.func15 (by kernel_rfl) rfl #[.slice A0_2 l0_2.length c0_2, .slice A1_2 l1_2.length c1_2] rfl (by (try simp only [List.map_toArray, List.map_cons, List.map_nil]); first | done | rfl | (simp only [List.length_drop, List.length_take]; rfl)) ?_; (with_reducible refine (laws_eqIntS.calls k _ _ l0_2 _ _ l1_2 false _ ?side1 ?side2 ?side3 ?side4 A10.out).mono ?_); (case side1 => repeat (first | exact (Kd.C_below HR0_2.out HB.out) | (with_reducible refine Kd.C_alloc ?_ _) | (with_reducible refine Kd.C_drewN ?_ _) | (with_reducible refine Kd.C_drew ?_))); (case side2 => exact HC0_2.out); (case side3 => repeat (first | exact (Kd.C_below HR1_2.out HB.out) | (with_reducible refine Kd.C_alloc ?_ _) | (with_reducible refine Kd.C_drewN ?_ _) | (with_reducible refine Kd.C_drew ?_))); (case side4 => exact HC1_2.out); rintro e w' ⟨rfl, ⟨nd, rfl⟩⟩; refine ⟨_, rfl, ?_⟩))
        go_ret
        exact ⟨by first | rfl | (simp [errW_none, errW_some] <;> rfl) | (simp [*, errW_none, errW_some] <;> rfl), by repeat (first | (with_reducible first | exact HB.out | apply below_alloc | apply pw_below_drewN | apply below_drew1 | refine below_set ?_ GE190.out | refine below_set ?_ GE191.out) | exact HB.out)⟩
  · rw [if_neg c3] at H
    have c3b0 : (a0_0 == a1_0) = false := beq_eq_false_iff_ne.mpr c3
    have c3b1 : (a0_0 != a1_0) = true := bne_iff_ne.mpr c3
    obtain rfl := Option.some.inj H
    go_enter Tryd.func14, Tryd.ntmps14
    go_wp2_with (first | ((with_reducible refine gate_dst (N := 2) rfl ?_); refine box_event ?hg (N := 2) ?hd (cs := #[.int .i64 a0_0, .bool a0_1, .slice A0_2 l0_2.length c0_2]) (t := 28) ?hr ?_; (case hd => rfl); (case hg => rfl); (case hr => first | (go_simp; done) | (go_simp; rfl)); intro gb190 hg w22 hbox hb; have n0_ := Aside0.mk (below_step (by repeat (first | (with_reducible first | exact HB.out | apply below_alloc | apply pw_below_drewN | apply below_drew1) | exact HB.out)) hb); have n1_ := Aside0.mk (hbox); have n2_ := Aside0.mk ((by rw [hg]; exact (below_size (by repeat (first | (with_reducible first | exact HB.out | apply below_alloc | apply pw_below_drewN | apply below_drew1) | exact HB.out))) : w.heap.size ≤ gb190)); have n3_ := Aside0.mk ((by rw [hg]; exact (below_size (by repeat (first | (with_reducible first | exact HB.out | apply below_alloc | apply pw_below_drewN | apply below_drew1) | exact HB.out))) : w.heap.size ≤ gb190)); clear HB; have HB := n0_; have BK190 := n1_; have GW190 := n2_; have GE190 := n3_; clear n0_ n1_ n2_ n3_; clear hb hbox hg) | ((with_reducible refine gate_dst (N := 3) rfl ?_); refine box_event ?hg (N := 3) ?hd (cs := #[.int .i64 a1_0, .bool a1_1, .slice A1_2 l1_2.length c1_2]) (t := 28) ?hr ?_; (case hd => rfl); (case hg => rfl); (case hr => first | (go_simp; done) | (go_simp; rfl)); intro gb191 hg w23 hbox hb; have n0_ := Aside0.mk (blk_below (g := gb190) (o := .cells #[.int .i64 a0_0, .bool a0_1, .slice A0_2 l0_2.length c0_2] 28 (0, 0)) (by first | (with_reducible exact BK190.out) | ((with_reducible repeat (first | refine blk_drewN ?_ _ | refine blk_drew ?_ | refine blk_alloc ?_ _)); exact BK190.out)) hb); have n1_ := Aside0.mk (below_step (by repeat (first | (with_reducible first | exact HB.out | apply below_alloc | apply pw_below_drewN | apply below_drew1 | refine below_set ?_ GE190.out) | exact HB.out)) hb); have n2_ := Aside0.mk (hbox); have n3_ := Aside0.mk ((by rw [hg]; exact (below_size (by repeat (first | (with_reducible first | exact HB.out | apply below_alloc | apply pw_below_drewN | apply below_drew1 | refine below_set ?_ GE190.out) | exact HB.out))) : w.heap.size ≤ gb191)); have n4_ := Aside0.mk ((by rw [hg]; exact (below_size (by repeat (first | (with_reducible first | exact HB.out | apply below_alloc | apply pw_below_drewN | apply below_drew1 | refine below_set ?_ GE190.out) | exact HB.out))) : w.heap.size ≤ gb191)); have n5_ := Aside0.mk ((by rw [hg]; exact Nat.ne_of_lt (blk_lt (g := gb190) (o := .cells #[.int .i64 a0_0, .bool a0_1, .slice A0_2 l0_2.length c0_2] 28 (0, 0)) (by first | (with_reducible exact BK190.out) | ((with_reducible repeat (first | refine blk_drewN ?_ _ | refine blk_drew ?_ | refine blk_alloc ?_ _)); exact BK190.out))) : gb190 ≠ gb191)); have n6_ := Aside0.mk ((by rw [hg]; exact Nat.ne_of_gt (blk_lt (g := gb190) (o := .cells #[.int .i64 a0_0, .bool a0_1, .slice A0_2 l0_2.length c0_2] 28 (0, 0)) (by first | (with_reducible exact BK190.out) | ((with_reducible repeat (first | refine blk_drewN ?_ _ | refine blk_drew ?_ | refine blk_alloc ?_ _)); exact BK190.out))) : gb191 ≠ gb190)); clear BK190; clear HB; have BK190 := n0_; have HB := n1_; have BK191 := n2_; have GW191 := n3_; have GE191 := n4_; have NB190_191 := n5_; have NB191_190 := n6_; clear n0_ n1_ n2_ n3_ n4_ n5_ n6_; clear hb hbox hg; have hnb24 := NB190_191.out; have hnc24 := NB191_190.out; have hcz25_0 : w23.cell? ⟨gb190, 0, none⟩ = some (.int .i64 a0_0) := (blk_cell BK190.out 0).trans rfl; have hcz25_1 : w23.cell? ⟨gb190, 1, none⟩ = some (.bool a0_1) := (blk_cell BK190.out 1).trans rfl; have hcz25_2 : w23.cell? ⟨gb190, 2, none⟩ = some (.slice A0_2 l0_2.length c0_2) := (blk_cell BK190.out 2).trans rfl; have hfz25_0 := blk_frozen BK190.out 0; have hfz25_1 := blk_frozen BK190.out 1; have hfz25_2 := blk_frozen BK190.out 2; have hcz26_0 : w23.cell? ⟨gb191, 0, none⟩ = some (.int .i64 a1_0) := (blk_cell BK191.out 0).trans rfl; have hcz26_1 : w23.cell? ⟨gb191, 1, none⟩ = some (.bool a1_1) := (blk_cell BK191.out 1).trans rfl; have hcz26_2 : w23.cell? ⟨gb191, 2, none⟩ = some (.slice A1_2 l1_2.length c1_2) := (blk_cell BK191.out 2).trans rfl; have hfz26_0 := blk_frozen BK191.out 0; have hfz26_1 := blk_frozen BK191.out 1; have hfz26_2 := blk_frozen BK191.out 2))
    go_ret
    exact ⟨by first | rfl | (simp [errW_none, errW_some] <;> rfl) | (simp [*, errW_none, errW_some] <;> rfl), by repeat (first | (with_reducible first | exact HB.out | apply below_alloc | apply pw_below_drewN | apply below_drew1 | refine below_set ?_ GE190.out | refine below_set ?_ GE191.out) | exact HB.out)⟩

end Go.Proofs.YtapbmneehaemeaaDoor.PFnExactIsSpaced
