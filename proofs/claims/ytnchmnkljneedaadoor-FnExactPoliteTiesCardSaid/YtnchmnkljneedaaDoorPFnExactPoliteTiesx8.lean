/- Proved: each Go function named here, called, comes to the answer of the Lean function beside it. Conditions: those that stand in each theorem. (Printed by this session's own turned copy of a printing program.) -/
import Derived.Test.YtnchmnkljneedaaDoorPFnExactPoliteTiesx0
import Derived.Test.YtnchmnkljneedaaDoorPFnExactPoliteTiesx6
import Derived.Test.YtnchmnkljneedaaDoorPFnExactPoliteTiesx7
namespace Go.Proofs.YtnchmnkljneedaaDoor.PFnExactPoliteTies
open Go.RowKit Go.Proofs.YtnchmnkljneedaaDoorW.PrintWords Go.Proofs.YtnchmnkljneedaaDoorW.PrintLast Go.Proofs.YtnchmnkljneedaaDoorW.PrintMore
attribute [local go_sem] max2_int min2_int max_two min_two max_three min_three max_four min_four   -- for this text's walks alone
set_option linter.unusedVariables false
set_option linter.unusedSimpArgs false

/-! ### impl_bench_polite: function 37 -/
mutual
def impl_bench_polite.l0 : Nat → Int → Int → List Int → Int → Int → Option (Int × Int)
  | 0, _, _, _, _, _ => none
  | k + 1, x6, x7, x12, x13, x14 => if x14 < x13 then (if 0 ≤ x14 then (if x14 < (x12.length : Int) then (if (rd x12 x14) = 0 then (impl_bench_polite.j1 k x6 x7 x14 (rd x12 x14) x12 x13 x14 true) else (impl_bench_polite.j1 k x6 x7 x14 (rd x12 x14) x12 x13 x14 (decide ((rd x12 x14) < x7)))) else (none)) else (none)) else (some (x6, x7))
def impl_bench_polite.j1 : Nat → Int → Int → Int → Int → List Int → Int → Int → Bool → Option (Int × Int)
  | 0, _, _, _, _, _, _, _, _ => none
  | k + 1, x6, x7, x8, x9, x12, x13, x14, x25 => if x25 = true then (impl_bench_polite.l0 k x6 x7 x12 x13 (wrap64 (x14 + 1))) else (if x9 > x7 then (if 0 ≤ x8 then (impl_bench_polite.l0 k (Go.bits .or .u32 0 (shl .u32 1 x8)) x9 x12 x13 (wrap64 (x14 + 1))) else (none)) else (if 0 ≤ x8 then (impl_bench_polite.l0 k (Go.bits .or .u32 x6 (shl .u32 1 x8)) x7 x12 x13 (wrap64 (x14 + 1))) else (none)))
end
def impl_bench_polite.f (k : Nat) (a0_0 : Int) (a0_1 : Bool) (a1 : Int) : Option (Int × Int) := (impl_bench_farness.f k a0_0 a0_1 a1).bind fun t303 => (impl_bench_polite.l0 k 0 0 t303 (t303.length : Int) 0)
theorem impl_bench_polite.mono_l : ∀ k, (∀ y0 y1 y2 y3 y4, LeO (impl_bench_polite.l0 k y0 y1 y2 y3 y4) (impl_bench_polite.l0 (k + 1) y0 y1 y2 y3 y4)) ∧ (∀ y0 y1 y2 y3 y4 y5 y6 y7, LeO (impl_bench_polite.j1 k y0 y1 y2 y3 y4 y5 y6 y7) (impl_bench_polite.j1 (k + 1) y0 y1 y2 y3 y4 y5 y6 y7))
  | 0 => ⟨fun _ _ _ _ _ r h => by simp [impl_bench_polite.l0] at h, fun _ _ _ _ _ _ _ _ r h => by simp [impl_bench_polite.j1] at h⟩
  | k + 1 => by
    obtain ⟨ih0, ih1⟩ := impl_bench_polite.mono_l k
    refine ⟨?_, ?_⟩
    · intro y0 y1 y2 y3 y4
      unfold impl_bench_polite.l0
      repeat' first
      | (with_reducible exact ih0 _ _ _ _ _)
      | (with_reducible exact ih1 _ _ _ _ _ _ _ _)
      | (with_reducible exact impl_bench_farness.mono _ _ _ _)
      | (with_reducible exact LeO.refl _)
      | (with_reducible exact LeO.none _)
      | (with_reducible refine LeO.ite ?_ ?_)
      | (with_reducible refine LeO.bind ?_ (fun _ => ?_))
      | exact ih0 _ _ _ _ _
      | exact ih1 _ _ _ _ _ _ _ _
      | exact impl_bench_farness.mono _ _ _ _
      | exact LeO.none _
      | refine LeO.ite ?_ ?_
      | refine LeO.bind ?_ (fun _ => ?_)
    · intro y0 y1 y2 y3 y4 y5 y6 y7
      unfold impl_bench_polite.j1
      repeat' first
      | (with_reducible exact ih0 _ _ _ _ _)
      | (with_reducible exact ih1 _ _ _ _ _ _ _ _)
      | (with_reducible exact impl_bench_farness.mono _ _ _ _)
      | (with_reducible exact LeO.refl _)
      | (with_reducible exact LeO.none _)
      | (with_reducible refine LeO.ite ?_ ?_)
      | (with_reducible refine LeO.bind ?_ (fun _ => ?_))
      | exact ih0 _ _ _ _ _
      | exact ih1 _ _ _ _ _ _ _ _
      | exact impl_bench_farness.mono _ _ _ _
      | exact LeO.none _
      | refine LeO.ite ?_ ?_
      | refine LeO.bind ?_ (fun _ => ?_)
theorem impl_bench_polite.mono : ∀ a0 a1 a2 k, LeO (impl_bench_polite.f k a0 a1 a2) (impl_bench_polite.f (k + 1) a0 a1 a2) := by
  intro a0 a1 a2 k
  obtain ⟨ih0, ih1⟩ := impl_bench_polite.mono_l k
  unfold impl_bench_polite.f
  repeat' first
      | (with_reducible exact ih0 _ _ _ _ _)
      | (with_reducible exact ih1 _ _ _ _ _ _ _ _)
      | (with_reducible exact impl_bench_farness.mono _ _ _ _)
      | (with_reducible exact LeO.refl _)
      | (with_reducible exact LeO.none _)
      | (with_reducible refine LeO.ite ?_ ?_)
      | (with_reducible refine LeO.bind ?_ (fun _ => ?_))
      | exact ih0 _ _ _ _ _
      | exact ih1 _ _ _ _ _ _ _ _
      | exact impl_bench_farness.mono _ _ _ _
      | exact LeO.none _
      | refine LeO.ite ?_ ?_
      | refine LeO.bind ?_ (fun _ => ?_)
set_option maxHeartbeats 8000000 in
set_option maxRecDepth 100000 in
theorem impl_bench_polite.calls (k : Nat) (a0_0 : Int) (a0_1 : Bool) (a1 : Int) (r1 : Int) (r2 : Int) (w : World) (hrT : GT w) (h : impl_bench_polite.f k a0_0 a0_1 a1 = some (r1, r2)) :
    Calls Tryd.prog 37 #[.agg #[.int .i64 a0_0, .bool a0_1], .int .u32 a1] w fun e w' => e = .returned (.tuple #[.int .u32 r1, .int .i64 r2]) ∧ Below w.heap.size w w' := by
  have hu43 := Tryd.underlying43
  have HRT := Aside0.mk hrT
  clear hrT
  have HB := Aside0.mk (Below.refl w.heap.size w)
  have H : ((impl_bench_farness.f k a0_0 a0_1 a1).bind fun t303 => (impl_bench_polite.l0 k 0 0 t303 (t303.length : Int) 0)) = some (r1, r2) := h
  clear h
  replace H := Option.bind_eq_some_iff.mp H
  obtain ⟨t303, A30, H⟩ := H
  replace H : (impl_bench_polite.l0 k 0 0 t303 (t303.length : Int) 0) = some (r1, r2) := H
  have A3 := Aside0.mk A30
  clear A30
  have H' := Aside0.mk H
  clear H
  go_enter Tryd.func37, Tryd.ntmps37
  go_wp2_with (first | ((with_reducible refine gate_dst (N := 2) rfl ?_); refine box_event ?hg (N := 2) ?hd (cs := #[.int .i64 a0_0, .bool a0_1]) (t := 43) ?hr ?_; (case hd => rfl); (case hg => rfl); (case hr => first | (go_simp; done) | (go_simp; rfl)); intro gb302 hg w4 hbox hb; have n0_ := Aside0.mk (below_step (by repeat (first | (with_reducible first | exact HB.out | apply below_alloc | apply pw_below_drewN | apply below_drew1) | exact HB.out)) hb); have n1_ := Aside0.mk (hbox); have n2_ := Aside0.mk ((by rw [hg]; exact (below_size (by repeat (first | (with_reducible first | exact HB.out | apply below_alloc | apply pw_below_drewN | apply below_drew1) | exact HB.out))) : w.heap.size ≤ gb302)); have n3_ := Aside0.mk ((by rw [hg]; exact (below_size (by repeat (first | (with_reducible first | exact HB.out | apply below_alloc | apply pw_below_drewN | apply below_drew1) | exact HB.out))) : w.heap.size ≤ gb302)); clear HB; have HB := n0_; have BK302 := n1_; have GW302 := n2_; have GE302 := n3_; clear n0_ n1_ n2_ n3_; clear hb hbox hg; have hcz5_0 : w4.cell? ⟨gb302, 0, none⟩ = some (.int .i64 a0_0) := (blk_cell BK302.out 0).trans rfl; have hcz5_1 : w4.cell? ⟨gb302, 1, none⟩ = some (.bool a0_1) := (blk_cell BK302.out 1).trans rfl; have hfz5_0 := blk_frozen BK302.out 0; have hfz5_1 := blk_frozen BK302.out 1) | ((with_reducible refine gate_callee (f := 61) rfl ?_); refine goesL_ (some 12) rfl rfl Tryd.func61 (by kernel_rfl) rfl #[.agg #[.int .i64 a0_0, .bool a0_1], .int .u32 a1] rfl (by (try simp only [List.map_toArray, List.map_cons, List.map_nil]); first | done | rfl | (simp only [List.length_drop, List.length_take]; rfl)) ?_; (with_reducible refine (impl_bench_farness.calls k a0_0 a0_1 a1 t303 _ ?side1 A3.out).mono ?_); (case side1 => exact GT.below HRT.out (by repeat (first | (with_reducible first | exact HB.out | apply below_alloc | apply pw_below_drewN | apply below_drew1 | refine below_set ?_ GE302.out) | exact HB.out))); rintro e w6 ⟨v304, rfl, ho0, hb⟩; refine ⟨_, rfl, ?_⟩; have n0_ := Aside0.mk (Kd.R_lower ho0 (below_size (by repeat (first | (with_reducible first | exact HB.out | apply below_alloc | apply pw_below_drewN | apply below_drew1 | refine below_set ?_ GE302.out) | exact HB.out)))); have n1_ := Aside0.mk (blk_below (g := gb302) (o := .cells #[.int .i64 a0_0, .bool a0_1] 43 (0, 0)) (by first | (with_reducible exact BK302.out) | ((with_reducible repeat (first | refine blk_drewN ?_ _ | refine blk_drew ?_ | refine blk_alloc ?_ _)); exact BK302.out)) hb); have n2_ := Aside0.mk (below_step (by repeat (first | (with_reducible first | exact HB.out | apply below_alloc | apply pw_below_drewN | apply below_drew1 | refine below_set ?_ GE302.out) | exact HB.out)) hb); clear BK302; clear HB; have HO305 := n0_; have BK302 := n1_; have HB := n2_; clear n0_ n1_ n2_; (try clear hb); (try clear hb2); (try clear hk); (try clear hi); (try clear ho0); obtain ⟨Ao7, co7, eo7⟩ := Kd.R_slice HO305.out; subst eo7))
  go_loopg [6, 7, 14] k (fun kq v6 v7 v14 w' => ∃ (x6_1 : Int) (x7_1 : Int) (x14_1 : Int), v6 = .int .u32 x6_1 ∧ v7 = .int .i64 x7_1 ∧ v14 = .int .i64 x14_1 ∧ Aside0 (impl_bench_polite.l0 kq x6_1 x7_1 t303 (t303.length : Int) x14_1 = some (r1, r2)) ∧ Aside0 (kq ≤ k) ∧ Aside0 (Kd.R (Kd.int .i64) 3 w' w.heap.size (fun _ => True) (.slice Ao7 t303.length co7) t303) ∧ Aside0 (w'.heap[gb302]? = some (.cells #[.int .i64 a0_0, .bool a0_1] 43 (0, 0))) ∧ Aside0 (Below w.heap.size w w'))
  case atStart => exact ⟨(0), (0), (0), (by first | rfl | (simp; done) | (simp [*]; done)), (by first | rfl | (simp; done) | (simp [*]; done)), (by first | rfl | (simp; done) | (simp [*]; done)), H', ⟨Nat.le_refl _⟩, ⟨by (with_reducible repeat (first | apply Kd.R_alloc | apply Kd.R_drewN | apply Kd.R_drew)); exact HO305.out⟩, ⟨by first | (with_reducible exact BK302.out) | ((with_reducible repeat (first | refine blk_drewN ?_ _ | refine blk_drew ?_ | refine blk_alloc ?_ _)); exact BK302.out)⟩, ⟨by repeat (first | (with_reducible first | exact HB.out | apply below_alloc | apply pw_below_drewN | apply below_drew1 | refine below_set ?_ GE302.out) | exact HB.out)⟩⟩
  case round =>
    clear H'
    try clear p2
    try clear c3
    try clear c6
    try clear hcz5_0
    try clear hcz5_1
    try clear hfz5_0
    try clear hfz5_1
    obtain ⟨x6_1, x7_1, x14_1, rfl, rfl, rfl, HA, HK1, HO_12, BK302, HB⟩ := hrel
    cases gk with
    | zero => exact absurd HA.out (by simp [impl_bench_polite.l0])
    | succ k1 =>
      have H := HA.out
      clear HA
      simp only [impl_bench_polite.l0] at H
      by_cases c8 : x14_1 < (t303.length : Int)
      · rw [if_pos c8] at H
        have c8b0 : decide (x14_1 < (t303.length : Int)) = true := decide_eq_true c8
        clear c8
        by_cases c9 : 0 ≤ x14_1
        · rw [if_pos c9] at H
          have c9b0 : decide (0 ≤ x14_1) = true := decide_eq_true c9
          clear c9
          by_cases c10 : x14_1 < (t303.length : Int)
          · rw [if_pos c10] at H
            have c10b0 : decide (x14_1 < (t303.length : Int)) = true := decide_eq_true c10
            clear c10
            have HC11 := Aside0.mk H
            clear H
            have p306 : 0 ≤ (x14_1 : Int) := of_decide_eq_true (by first | (with_reducible assumption) | assumption)
            have q306 : x14_1 < (t303.length : Int) := of_decide_eq_true (by first | (with_reducible assumption) | assumption)
            obtain ⟨ad306, e306, hx306_0⟩ := Kd.at_int (Kd.R_reads' HO_12.out).2.2 x14_1 p306 q306
            cases e306
            replace p306 := eq_true p306
            replace q306 := eq_true q306
            go_upto_region 5 with (fail)
            go_cut [25] (fun v25 wc => ∃ (kq : Nat) (x25_10 : Bool), v25 = .bool x25_10 ∧ Aside0 (impl_bench_polite.j1 kq x6_1 x7_1 x14_1 (rd t303 x14_1) t303 (t303.length : Int) x14_1 x25_10 = some (r1, r2)) ∧ Aside0 (kq ≤ k1) ∧ Aside0 (Kd.R (Kd.int .i64) 3 wc w.heap.size (fun _ => True) (.slice (some ad306) t303.length co7) t303) ∧ Aside0 (wc.heap[gb302]? = some (.cells #[.int .i64 a0_0, .bool a0_1] 43 (0, 0))) ∧ Aside0 (Below w.heap.size w wc))
            case first =>
              have H := HC11.out
              clear HC11
              by_cases c12 : (rd t303 x14_1) = 0
              · rw [if_pos c12] at H
                have c12b0 : ((rd t303 x14_1) == 0) = true := beq_iff_eq.mpr c12
                have c12b1 : ((rd t303 x14_1) != 0) = false := bne_eq_false_iff_eq.mpr c12
                clear c12
                (first | rw [c12b0] | (simp only [i64_w, i32_w]; rw [c12b0]) | rw [c12b1] | skip)
                have H' := Aside0.mk H
                clear H
                go_wp2
                go_meet
                case rel => exact ⟨_, (true), (by first | rfl | (simp; done) | (simp [*]; done)), H', ⟨by have := HK1.out; first | omega | exact Nat.le_refl _⟩, ⟨by (with_reducible repeat (first | apply Kd.R_alloc | apply Kd.R_drewN | apply Kd.R_drew)); exact HO_12.out⟩, ⟨by first | (with_reducible exact BK302.out) | ((with_reducible repeat (first | refine blk_drewN ?_ _ | refine blk_drew ?_ | refine blk_alloc ?_ _)); exact BK302.out)⟩, ⟨by repeat (first | (with_reducible first | exact HB.out | apply below_alloc | apply pw_below_drewN | apply below_drew1 | refine below_set ?_ GE302.out) | exact HB.out)⟩⟩
              · rw [if_neg c12] at H
                have c12b0 : ((rd t303 x14_1) == 0) = false := beq_eq_false_iff_ne.mpr c12
                have c12b1 : ((rd t303 x14_1) != 0) = true := bne_iff_ne.mpr c12
                (first | rw [c12b0] | (simp only [i64_w, i32_w]; rw [c12b0]) | rw [c12b1] | skip)
                have H' := Aside0.mk H
                clear H
                go_wp2
                go_meet
                case rel => exact ⟨_, (decide ((rd t303 x14_1) < x7_1)), (by first | rfl | (simp; done) | (simp [*]; done)), H', ⟨by have := HK1.out; first | omega | exact Nat.le_refl _⟩, ⟨by (with_reducible repeat (first | apply Kd.R_alloc | apply Kd.R_drewN | apply Kd.R_drew)); exact HO_12.out⟩, ⟨by first | (with_reducible exact BK302.out) | ((with_reducible repeat (first | refine blk_drewN ?_ _ | refine blk_drew ?_ | refine blk_alloc ?_ _)); exact BK302.out)⟩, ⟨by repeat (first | (with_reducible first | exact HB.out | apply below_alloc | apply pw_below_drewN | apply below_drew1 | refine below_set ?_ GE302.out) | exact HB.out)⟩⟩
            case rest =>
              clear HC11
              try clear c1
              try clear p2
              try clear c3
              try clear p3
              try clear q3
              try clear hx3
              try clear c6
              try clear c8
              try clear c8b0
              try clear c9
              try clear c9b0
              try clear c10
              try clear c10b0
              try clear c12
              try clear c12b0
              try clear c12b1
              try clear hcz5_0
              try clear hcz5_1
              try clear hfz5_0
              try clear hfz5_1
              try clear hx306_0
              try clear p2
              try clear p306
              try clear q306
              obtain ⟨kq, x25_10, rfl, HA, HJ10, HO_12, BK302, HB⟩ := hcut
              cases kq with
              | zero => exact absurd HA.out (by simp [impl_bench_polite.j1])
              | succ kj10 =>
                have H := HA.out
                clear HA
                simp only [impl_bench_polite.j1] at H
                by_cases c13 : x25_10 = true
                · subst c13
                  have H1 : (impl_bench_polite.l0 kj10 x6_1 x7_1 t303 (t303.length : Int) (wrap64 (x14_1 + 1))) = some (r1, r2) := by rw [if_pos rfl] at H; exact H
                  clear H
                  have H := H1
                  clear H1
                  have H' := Aside0.mk H
                  clear H
                  go_wp2
                  go_roundg kj10
                  case measure => have := HK1.out; have := HJ10.out; omega
                  case rel => exact ⟨(x6_1), (x7_1), (wrap64 (x14_1 + 1)), (by first | rfl | (simp; done) | (simp [*]; done)), (by first | rfl | (simp; done) | (simp [*]; done)), (by first | rfl | (simp; done) | (simp [*]; done)), H', ⟨by have := HK1.out; have := HJ10.out; omega⟩, ⟨by (with_reducible repeat (first | apply Kd.R_alloc | apply Kd.R_drewN | apply Kd.R_drew)); exact HO_12.out⟩, ⟨by first | (with_reducible exact BK302.out) | ((with_reducible repeat (first | refine blk_drewN ?_ _ | refine blk_drew ?_ | refine blk_alloc ?_ _)); exact BK302.out)⟩, ⟨by repeat (first | (with_reducible first | exact HB.out | apply below_alloc | apply pw_below_drewN | apply below_drew1 | refine below_set ?_ GE302.out) | exact HB.out)⟩⟩
                · replace c13 := Bool.eq_false_iff.mpr c13
                  subst c13
                  have H1 : (if (rd t303 x14_1) > x7_1 then (if 0 ≤ x14_1 then (impl_bench_polite.l0 kj10 (Go.bits .or .u32 0 (shl .u32 1 x14_1)) (rd t303 x14_1) t303 (t303.length : Int) (wrap64 (x14_1 + 1))) else (none)) else (if 0 ≤ x14_1 then (impl_bench_polite.l0 kj10 (Go.bits .or .u32 x6_1 (shl .u32 1 x14_1)) x7_1 t303 (t303.length : Int) (wrap64 (x14_1 + 1))) else (none))) = some (r1, r2) := by rw [if_neg (show ¬ (false = true) by decide)] at H; exact H
                  clear H
                  have H := H1
                  clear H1
                  by_cases c14 : (rd t303 x14_1) > x7_1
                  · rw [if_pos c14] at H
                    have c14b0 : decide (x7_1 < (rd t303 x14_1)) = true := decide_eq_true c14
                    clear c14
                    by_cases c15 : 0 ≤ x14_1
                    · rw [if_pos c15] at H
                      have c15b0 := eq_true c15
                      have c15b1 : decide (0 ≤ x14_1) = true := decide_eq_true c15
                      clear c15
                      obtain ⟨ji16, hji16⟩ : ∃ j_ : Int, (shl .u32 1 x14_1) = j_ := ⟨_, rfl⟩
                      replace H : (impl_bench_polite.l0 kj10 (Go.bits .or .u32 0 (ji16)) (rd t303 x14_1) t303 (t303.length : Int) (wrap64 (x14_1 + 1))) = some (r1, r2) := by first | (rw [hji16] at H; exact H) | (simp only [hji16] at H ⊢; exact H)
                      have hji16_ : (IntKind.u32.wrap (1 * 2 ^ min x14_1.toNat 32)) = ji16 := hji16
                      have hji16z : x14_1 ≤ 32 → (IntKind.u32.wrap (1 * 2 ^ x14_1.toNat)) = ji16 := shl_small hji16
                      have hji16u : (IntKind.u32.wrap (2 ^ min x14_1.toNat 32)) = ji16 := by have h_ := hji16_; rw [Int.one_mul] at h_; exact h_
                      have hji16v : x14_1 ≤ 32 → (IntKind.u32.wrap (2 ^ x14_1.toNat)) = ji16 := fun hle_ => by have h_ := hji16z hle_; rw [Int.one_mul] at h_; exact h_
                      have H' := Aside0.mk H
                      clear H
                      go_wp2
                      go_roundg kj10
                      case measure => have := HK1.out; have := HJ10.out; omega
                      case rel => exact ⟨(Go.bits .or .u32 0 (ji16)), ((rd t303 x14_1)), (wrap64 (x14_1 + 1)), (by first | rfl | (simp; done) | (simp only [← hji16] <;> (first | rfl | simp)) | (simp [*]; done)), (by first | rfl | (simp; done) | (simp [*]; done)), (by first | rfl | (simp; done) | (simp [*]; done)), H', ⟨by have := HK1.out; have := HJ10.out; omega⟩, ⟨by (with_reducible repeat (first | apply Kd.R_alloc | apply Kd.R_drewN | apply Kd.R_drew)); exact HO_12.out⟩, ⟨by first | (with_reducible exact BK302.out) | ((with_reducible repeat (first | refine blk_drewN ?_ _ | refine blk_drew ?_ | refine blk_alloc ?_ _)); exact BK302.out)⟩, ⟨by repeat (first | (with_reducible first | exact HB.out | apply below_alloc | apply pw_below_drewN | apply below_drew1 | refine below_set ?_ GE302.out) | exact HB.out)⟩⟩
                    · rw [if_neg c15] at H
                      exact absurd H (by simp)
                  · rw [if_neg c14] at H
                    have c14b0 : decide (x7_1 < (rd t303 x14_1)) = false := decide_eq_false c14
                    clear c14
                    by_cases c17 : 0 ≤ x14_1
                    · rw [if_pos c17] at H
                      have c17b0 := eq_true c17
                      have c17b1 : decide (0 ≤ x14_1) = true := decide_eq_true c17
                      clear c17
                      obtain ⟨ji18, hji18⟩ : ∃ j_ : Int, (shl .u32 1 x14_1) = j_ := ⟨_, rfl⟩
                      replace H : (impl_bench_polite.l0 kj10 (Go.bits .or .u32 x6_1 (ji18)) x7_1 t303 (t303.length : Int) (wrap64 (x14_1 + 1))) = some (r1, r2) := by first | (rw [hji18] at H; exact H) | (simp only [hji18] at H ⊢; exact H)
                      have hji18_ : (IntKind.u32.wrap (1 * 2 ^ min x14_1.toNat 32)) = ji18 := hji18
                      have hji18z : x14_1 ≤ 32 → (IntKind.u32.wrap (1 * 2 ^ x14_1.toNat)) = ji18 := shl_small hji18
                      have hji18u : (IntKind.u32.wrap (2 ^ min x14_1.toNat 32)) = ji18 := by have h_ := hji18_; rw [Int.one_mul] at h_; exact h_
                      have hji18v : x14_1 ≤ 32 → (IntKind.u32.wrap (2 ^ x14_1.toNat)) = ji18 := fun hle_ => by have h_ := hji18z hle_; rw [Int.one_mul] at h_; exact h_
                      have H' := Aside0.mk H
                      clear H
                      go_wp2
                      go_roundg kj10
                      case measure => have := HK1.out; have := HJ10.out; omega
                      case rel => exact ⟨(Go.bits .or .u32 x6_1 (ji18)), (x7_1), (wrap64 (x14_1 + 1)), (by first | rfl | (simp; done) | (simp only [← hji18] <;> (first | rfl | simp)) | (simp [*]; done)), (by first | rfl | (simp; done) | (simp [*]; done)), (by first | rfl | (simp; done) | (simp [*]; done)), H', ⟨by have := HK1.out; have := HJ10.out; omega⟩, ⟨by (with_reducible repeat (first | apply Kd.R_alloc | apply Kd.R_drewN | apply Kd.R_drew)); exact HO_12.out⟩, ⟨by first | (with_reducible exact BK302.out) | ((with_reducible repeat (first | refine blk_drewN ?_ _ | refine blk_drew ?_ | refine blk_alloc ?_ _)); exact BK302.out)⟩, ⟨by repeat (first | (with_reducible first | exact HB.out | apply below_alloc | apply pw_below_drewN | apply below_drew1 | refine below_set ?_ GE302.out) | exact HB.out)⟩⟩
                    · rw [if_neg c17] at H
                      exact absurd H (by simp)
          · rw [if_neg c10] at H
            exact absurd H (by simp)
        · rw [if_neg c9] at H
          exact absurd H (by simp)
      · rw [if_neg c8] at H
        have c8b0 : decide (x14_1 < (t303.length : Int)) = false := decide_eq_false c8
        clear c8
        simp only [Option.some.injEq, Prod.mk.injEq] at H
        obtain ⟨rfl, rfl⟩ := H
        go_wp2
        go_ret2
        exact ⟨by first | rfl | (simp [errW_none, errW_some] <;> rfl) | (simp [*, errW_none, errW_some] <;> rfl), by repeat (first | (with_reducible first | exact HB.out | apply below_alloc | apply pw_below_drewN | apply below_drew1 | refine below_set ?_ GE302.out) | exact HB.out)⟩

/-! ### impl_PoliteTies_1: function 35 -/
/-! memo maps: a map of the call's own, whose elements are integers; what it holds is right -/
theorem memo_ph : ∀ (m : Nat) (l : List Nat), l.Nodup → (∀ x ∈ l, x < m) → l.length ≤ m := by
  intro m
  induction m with
  | zero => intro l _ h; cases l with
    | nil => exact Nat.le_refl _
    | cons x xs => exact absurd (h x (by simp)) (by omega)
  | succ m ih =>
    intro l hn h
    have h1 := ih (l.erase m) (hn.erase _) (fun x hx => by
      have h2 := (List.Nodup.mem_erase_iff hn).mp hx
      have := h x h2.2
      have := h2.1
      omega)
    have h2 := List.length_erase (a := m) (l := l)
    split at h2 <;> omega
section
variable {P : Program} {kt e t : TypeId} {R : Value → Option (DataW Unit × List MemPlace)} {w w' : World} {b n : Nat} {D : DataW Unit}
theorem own_tight (h : w.ownsMap P kt R b n D) : w.ownsMap P kt R b (Maps.size D) D := by
  obtain ⟨es, clock, hb, F, hs, rfl⟩ := h
  exact ⟨es, clock, hb, F, Nat.le_of_eq (Go.length_read es).symm, rfl⟩
/-- Keys that stand for numbers below N: no more than N of them. -/
theorem memo_size (K : Maps.Keyed P kt) (h : w.ownsMap P kt R b n D) (num : Lit → Nat) (N : Nat) (hN : ∀ l, Maps.has D l = true → num l < N) (hinj : ∀ l l', Maps.has D l = true → Maps.has D l' = true → num l = num l' → l = l') : Maps.size D ≤ N := by
  obtain ⟨es, rfl, hp⟩ := h.tidy K
  have hk : ∀ p ∈ es, Maps.has (.map es : DataW Unit) p.1 = true := fun p hp' => by
    rw [Maps.has_eq, List.any_eq_true]
    refine ⟨p, hp', ?_⟩
    obtain ⟨es2, clock, _, F, _, he⟩ := h
    injection he with he
    have hp2 : p ∈ es2.toList.map (WideElems.rg P kt R) := by
      have := (WideShapes.sorted_perm (es2.toList.map (WideElems.rg P kt R))).mem_iff (a := p)
      rw [he] at hp'
      exact this.mp hp'
    obtain ⟨v, hv⟩ := Maps.fit_keys F p hp2
    have := K.key hv
    revert this
    cases hl : p.1 <;> simp [WideAt.IsKeyLit, Lit.sameKey]
  rw [Maps.size_eq]
  have hnd : (es.map fun p => num p.1).Nodup := by
    rw [List.nodup_iff_pairwise_ne, List.pairwise_map]
    exact List.Pairwise.imp_of_mem (fun {a b} ha hb hab he => hab (hinj _ _ (hk a ha) (hk b hb) he)) hp
  have := memo_ph N _ hnd (fun x hx => by
    rw [List.mem_map] at hx
    obtain ⟨p, hp', rfl⟩ := hx
    exact hN _ (hk p hp'))
  rwa [List.length_map] at this
end
/-- Block b is a map from keys (enc) to int whose entries are right. -/
def Memo {κ : Type} (P : Program) (kt et : TypeId) (enc : κ → Lit) (dom : κ → Prop) (good : κ → Int → Prop) (w : World) (b : Nat) : Prop :=
  ∃ D : DataW Unit, w.ownsMap P kt (plainElem P et) b (Maps.size D) D ∧ (∀ l, Maps.has D l = true → ∃ x, dom x ∧ l = enc x) ∧ ∀ x, Maps.has D (enc x) = true → ∃ c : Int, D.atKey (enc x) (.lit (.int .i64 0)) = .lit (.int .i64 c) ∧ good x c
section
variable {κ : Type} {P : Program} {kt et t : TypeId} {enc : κ → Lit} {dom : κ → Prop} {good : κ → Int → Prop} {w w' : World} {b : Nat}
theorem Memo.move (h : Memo P kt et enc dom good w b) (hm : w'.heap[b]? = w.heap[b]?) : Memo P kt et enc dom good w' b := by
  obtain ⟨D, ⟨es, clock, hb, r⟩, h2⟩ := h
  exact ⟨D, ⟨es, clock, hm.trans hb, r⟩, h2⟩
theorem Memo.lt (h : Memo P kt et enc dom good w b) : b < w.heap.size := by
  obtain ⟨D, h1, _⟩ := h
  exact h1.lt
theorem Memo.new (w : World) : Memo P kt et enc dom good (w.alloc (.map #[] 0)) w.heap.size :=
  ⟨.map [], own_tight (World.ownsMap_made w P kt _), fun l h => by simp [Maps.has_eq] at h, fun x h => by simp [Maps.has_eq] at h⟩
theorem Memo.store {D : DataW Unit} {x : κ} {c : Int} {n : Nat} (K : Maps.Keyed P kt) (hk : WideAt.IsKeyLit (enc x)) (hx : dom x) (hinj : ∀ y, enc y = enc x → y = x) (hD : Maps.IsMap D) (h1 : ∀ l, Maps.has D l = true → ∃ x, dom x ∧ l = enc x) (h2 : ∀ x, Maps.has D (enc x) = true → ∃ c : Int, D.atKey (enc x) (.lit (.int .i64 0)) = .lit (.int .i64 c) ∧ good x c) (hc : good x c)
    (h : w'.ownsMap P kt (plainElem P et) b n (D.put (enc x) (.lit (.int .i64 c)))) : Memo P kt et enc dom good w' b := by
  refine ⟨_, own_tight h, fun l hl => ?_, fun y hy => ?_⟩
  · by_cases e : l = enc x
    · exact ⟨x, hx, e⟩
    · rw [Maps.has_put_other e] at hl; exact h1 l hl
  · by_cases e : enc y = enc x
    · obtain rfl := hinj y e
      exact ⟨c, Maps.atKey_put_same hD hk _ _, hc⟩
    · rw [Maps.has_put_other e] at hy
      obtain ⟨c', h3, h4⟩ := h2 y hy
      exact ⟨c', by rw [Maps.atKey_put_other e]; exact h3, h4⟩
end
def impl_PoliteTies_1.T11 : Bool × List (List Nat × List Nat) := (true, [([], []), ([], []), ([], []), ([], []), ([3], [3]), ([2, 4], [2, 4]), ([1, 5], [1, 5]), ([0, 6], [0, 6]), ([7, 6, 0, 1, 2, 3, 4, 5, 6, 7], [0, 7])])
def impl_PoliteTies_1.B11 : List Nat := [0, 0, 0, 0, 8, 28, 62, 127, 255]
theorem impl_PoliteTies_1.tab11 : rtab .any (opsOf Tryd.f35 11) = impl_PoliteTies_1.T11 := by kernel_rfl
theorem impl_PoliteTies_1.bits11 : waitsOk impl_PoliteTies_1.T11.2 impl_PoliteTies_1.B11 = true := by kernel_rfl
mutual
def impl_PoliteTies_1.l0 : Nat → Int → Int → Bool → List Int → List Int → Int → Int → Option Int
  | 0, _, _, _, _, _, _, _ => none
  | k + 1, x0, s, r, l6, L, i, acc => if i < (L.length : Int) then (if 0 ≤ i then (if 0 ≤ rd L i then ((impl_PoliteTies_1.f k (Go.bits .or .u32 x0 (shl .u32 1 (rd L i))) s r l6).bind fun n => impl_PoliteTies_1.l0 k x0 s r l6 L (wrap64 (i + 1)) (wrap64 (acc + n))) else none) else none) else (some acc)
def impl_PoliteTies_1.f : Nat → Int → Int → Bool → List Int → Option Int
  | 0, _, _, _, _ => none
  | k + 1, x0, s, r, l6 => if 0 ≤ x0 ∧ x0 < 4294967296 then ((impl_Row_bench.f s r l6).bind fun b => (impl_bench_polite.f k b.1 b.2 x0).bind fun q => if q.2 < 2 then some 1 else (impl_set_list.f k q.1).bind fun L => impl_PoliteTies_1.l0 k x0 s r l6 L 0 0) else none
end
theorem impl_PoliteTies_1.mono_l : ∀ k, (∀ y0 y1 y2 y3, LeO (impl_PoliteTies_1.f k y0 y1 y2 y3) (impl_PoliteTies_1.f (k + 1) y0 y1 y2 y3)) ∧ (∀ y0 y1 y2 y3 y4 y5 y6, LeO (impl_PoliteTies_1.l0 k y0 y1 y2 y3 y4 y5 y6) (impl_PoliteTies_1.l0 (k + 1) y0 y1 y2 y3 y4 y5 y6))
  | 0 => ⟨fun _ _ _ _ r h => by simp [impl_PoliteTies_1.f] at h, fun _ _ _ _ _ _ _ r h => by simp [impl_PoliteTies_1.l0] at h⟩
  | k + 1 => by
    obtain ⟨ih0, ih1⟩ := impl_PoliteTies_1.mono_l k
    refine ⟨?_, ?_⟩
    · intro y0 y1 y2 y3
      unfold impl_PoliteTies_1.f
      exact LeO.ite (LeO.bind (LeO.refl _) fun _ => LeO.bind (impl_bench_polite.mono _ _ _ _) fun _ => LeO.ite (LeO.refl _) (LeO.bind (impl_set_list.mono _ _) fun _ => ih1 _ _ _ _ _ _ _)) (LeO.none _)
    · intro y0 y1 y2 y3 y4 y5 y6
      unfold impl_PoliteTies_1.l0
      exact LeO.ite (LeO.ite (LeO.ite (LeO.bind (ih0 _ _ _ _) fun _ => ih1 _ _ _ _ _ _ _) (LeO.none _)) (LeO.none _)) (LeO.refl _)
theorem impl_PoliteTies_1.same {k k' : Nat} {x s : Int} {r : Bool} {l : List Int} {a b : Int} (h : impl_PoliteTies_1.f k x s r l = some a) (h' : impl_PoliteTies_1.f k' x s r l = some b) : a = b := by
  have h1 := at_rounds (g := fun k => impl_PoliteTies_1.f k x s r l) (fun k => (impl_PoliteTies_1.mono_l k).1 x s r l) (Nat.le_max_left k k') h
  have h2 := at_rounds (g := fun k => impl_PoliteTies_1.f k x s r l) (fun k => (impl_PoliteTies_1.mono_l k).1 x s r l) (Nat.le_max_right k k') h'
  rw [h1] at h2
  exact Option.some.inj h2
section
variable {P : Program} {md : Mode} {ops : Array Oper} {Q : Exit → Act → World → Prop}
theorem goesD_ {oi : Oper} {N : Option Tmp} {a : Act} {w : World} {K : Act → World → Prop} {f : FuncId} {ax : Array Operand} {ts : Array TypeId} {s : Operand} {cap : Array Value} (hdyn : ∀ (args : Array Value) (w : World), (callFunc f args).run P w = .ok (.enter f args) w) (args all : Array Value) (hall : args ++ cap = all)
    (hw : Region.wanted oi (yielded ops a.tmps) = true) (hN : oi.dst = N) (hop : oi.op = .call { callee := .value s, args := ax, argTypes := ts }) (hs : a.eval s = .func (.func f) #[] cap) (hargs : ax.map a.eval = args)
    (h : Calls P f all w fun e w' => ∃ v, e = .returned v ∧ K (a.put N v) w') : if Region.wanted oi (yielded ops a.tmps) = true then Oper.wp P oi a w K Q else K (a.put N undef) w := by
  subst hall
  refine call_ f (args ++ cap) hw hN ?_ h
  have he := hdyn (args ++ cap) w
  unfold execOp
  simp [hop, resolve, Deferred.ofValue, invoke, hs, hargs, he]
end
def tiEnc (x : Int) : Lit := .int .u32 x
def tiDom (x : Int) : Prop := 0 ≤ x ∧ x < 4294967296
def tiGood (s : Int) (r : Bool) (l : List Int) (x c : Int) : Prop := ∃ k, impl_PoliteTies_1.f k x s r l = some c
/-- What the literal's variables hold. -/
structure TiEnv (mb e1 e2 e3 : Nat) (a4 : Int) (a3 : Bool) (A6 : Option Addr) (c6 : Nat) (l6 : List Int) (w : World) : Prop where
  b1 : w.heap[e1]? = some (.cells #[.map (some mb)] 54 (0, 0))
  b2 : w.heap[e2]? = some (.cells #[.int .i64 a4, .bool a3, .slice A6 l6.length c6] 31 (0, 0))
  b3 : w.heap[e3]? = some (.cells #[.func (.func 35) #[] #[.pointer (some ⟨e1, 0, none⟩), .pointer (some ⟨e2, 0, none⟩), .pointer (some ⟨e3, 0, none⟩)]] 55 (0, 0))
section
variable {mb e1 e2 e3 : Nat} {a4 : Int} {a3 : Bool} {A6 : Option Addr} {c6 : Nat} {l6 : List Int} {w w' : World}
theorem TiEnv.cells (h : TiEnv mb e1 e2 e3 a4 a3 A6 c6 l6 w) : w.cell? ⟨e1, 0, none⟩ = some (.map (some mb)) ∧ w.cell? ⟨e2, 0, none⟩ = some (.int .i64 a4) ∧ w.cell? ⟨e2, 1, none⟩ = some (.bool a3) ∧ w.cell? ⟨e2, 2, none⟩ = some (.slice A6 l6.length c6) ∧ w.cell? ⟨e3, 0, none⟩ = some (.func (.func 35) #[] #[.pointer (some ⟨e1, 0, none⟩), .pointer (some ⟨e2, 0, none⟩), .pointer (some ⟨e3, 0, none⟩)]) :=
  ⟨(blk_cell h.b1 0).trans rfl, (blk_cell h.b2 0).trans rfl, (blk_cell h.b2 1).trans rfl, (blk_cell h.b2 2).trans rfl, (blk_cell h.b3 0).trans rfl⟩
theorem TiEnv.kept (h : TiEnv mb e1 e2 e3 a4 a3 A6 c6 l6 w) {S : Nat → Prop} (hk : Kept w w' S) (h1 : ¬ S e1) (h2 : ¬ S e2) (h3 : ¬ S e3) : TiEnv mb e1 e2 e3 a4 a3 A6 c6 l6 w' :=
  ⟨(hk.2 _ (blk_lt h.b1) h1).trans h.b1, (hk.2 _ (blk_lt h.b2) h2).trans h.b2, (hk.2 _ (blk_lt h.b3) h3).trans h.b3⟩
variable {u w0 : World} {good : Int → Int → Prop}
theorem tistep (EN : Aside0 (TiEnv mb e1 e2 e3 a4 a3 A6 c6 l6 w)) (MM : Aside0 (Memo Tryd.prog 51 3 tiEnc tiDom good w mb)) (KK : Aside0 (Kept u w (fun k => k = mb))) (HB : Aside0 (Below w0.heap.size w0 w)) (hb : Below w.heap.size w w') :
    Aside0 (TiEnv mb e1 e2 e3 a4 a3 A6 c6 l6 w') ∧ Aside0 (Memo Tryd.prog 51 3 tiEnc tiDom good w' mb) ∧ Aside0 (Kept u w' (fun k => k = mb)) ∧ Aside0 (Below w0.heap.size w0 w') :=
  ⟨⟨EN.out.kept (Kept.of_below hb (fun _ => False)) id id id⟩, ⟨MM.out.move (hb.block _ MM.out.lt)⟩, ⟨KK.out.below hb⟩, ⟨below_step HB.out hb⟩⟩
end
theorem shl_one_ (y : Int) : IntKind.u32.wrap (2 ^ min y.toNat 32) = shl .u32 1 y := by unfold shl; rw [Int.one_mul]; rfl
theorem wrap64_wf (x : Int) : (Lit.int .i64 (wrap64 x)).wf = true := by
  simp [Lit.wf, IntKind.min, IntKind.max, IntKind.bits, IntKind.signed]; unfold wrap64; omega
theorem ti_law : Maps.Keyed Tryd.prog 51 := Maps.int_keyed Tryd.underlying51
theorem ti_zero (w : World) : (zeroValue 3).run Tryd.prog w = .ok (.int .i64 0) w := by kernel_rfl
theorem ti_new (good : Int → Int → Prop) (w w' : World) (h : w'.heap[w.heap.size]? = some (.map #[] 0)) : Memo Tryd.prog 51 3 tiEnc tiDom good w' w.heap.size := (Memo.new w).move (h.trans (blk_new w _).symm)
set_option maxHeartbeats 8000000 in
set_option maxRecDepth 100000 in
theorem impl_PoliteTies_1.calls {w0 : World} (hT0 : GT w0) (mb e1 e2 e3 : Nat) (hm1 : e1 ≠ mb) (hm2 : e2 ≠ mb) (hm3 : e3 ≠ mb) (hmb : w0.heap.size ≤ mb) (a4 : Int) (a3 : Bool) (A6 : Option Addr) (c6 : Nat) (l6 : List Int) (hr6 : Kd.C (Kd.int .i64) w0 A6 l6.length l6) (hc6 : l6.length ≤ c6) (k : Nat) :
    ∀ (a0 r : Int) (w : World), TiEnv mb e1 e2 e3 a4 a3 A6 c6 l6 w → Memo Tryd.prog 51 3 tiEnc tiDom (tiGood a4 a3 l6) w mb → Below w0.heap.size w0 w → impl_PoliteTies_1.f k a0 a4 a3 l6 = some r →
    Calls Tryd.prog 35 #[.int .u32 a0, .pointer (some ⟨e1, 0, none⟩), .pointer (some ⟨e2, 0, none⟩), .pointer (some ⟨e3, 0, none⟩)] w fun e w' => e = .returned (.int .i64 r) ∧ Memo Tryd.prog 51 3 tiEnc tiDom (tiGood a4 a3 l6) w' mb ∧ Kept w w' (fun k => k = mb) ∧ Below w0.heap.size w0 w' := by
  induction k using Nat.strongRecOn with
  | _ k ih =>
  intro a0 r w henv hM hB h
  have AGood := Aside0.mk (show tiGood a4 a3 l6 a0 r from ⟨k, h⟩)
  cases k with
  | zero => exact absurd h (by simp [impl_PoliteTies_1.f])
  | succ k =>
  simp only [impl_PoliteTies_1.f] at h
  by_cases cx : 0 ≤ a0 ∧ a0 < 4294967296
  · rw [if_pos cx] at h
    have DOM := Aside0.mk (show tiDom a0 from cx)
    have hkey : keyOf Tryd.prog 51 (.int .u32 a0) = some (tiEnc a0) := Maps.keyOf_int_mk Tryd.underlying51 (by simp [Lit.wf, IntKind.min, IntKind.max, IntKind.bits, IntKind.signed]; omega)
    have HKEY := Aside0.mk hkey
    clear cx hkey
    have hu31 := Tryd.underlying31
    have EN := Aside0.mk henv
    have HB := Aside0.mk hB
    have MM := Aside0.mk hM
    have KK := Aside0.mk (Kept.refl w (fun k_ => k_ = mb))
    have HH := Aside0.mk h
    clear henv hB hM h
    have hdyn : ∀ (args : Array Value) (w : World), (callFunc 35 args).run Tryd.prog w = .ok (.enter 35 args) w := fun args w => enters_ Tryd.func35 rfl rfl args w
    obtain ⟨D, hown0, hdom0, hgood0⟩ := MM.out
    have HO := Aside0.mk hown0
    have HD := Aside0.mk hdom0
    have HG := Aside0.mk hgood0
    clear hown0 hdom0 hgood0
    obtain ⟨q1, q2, q3, q4, q5⟩ := EN.out.cells
    cases hh : Maps.has D (tiEnc a0) with
    | true =>
      obtain ⟨c0, hc1, hc2⟩ := HG.out a0 hh
      have e0 : c0 = r := by obtain ⟨k1, h1⟩ := hc2; obtain ⟨k2, h2⟩ := AGood.out; exact impl_PoliteTies_1.same h1 h2
      subst e0
      have HC := Aside0.mk hc1
      have HHAS := Aside0.mk hh
      clear hc1 hc2 hh
      go_enter Tryd.func35, Tryd.ntmps35
      go_wp2_with (at_lookup; refine wpList_lookup_own_ok_int _ rfl _ _ 54 rfl 51 3 .i64 ti_law Tryd.underlying54 Tryd.underlying3 (ti_zero _) mb _ D rfl HO.out _ _ rfl HKEY.out ?_; intro c_ hat_ hwc_; obtain rfl : c_ = c0 := (by have h_ := hat_.symm.trans HC.out; injection h_ with h_; injection h_); rw [HHAS.out]; clear hat_ hwc_)
      go_ret
      exact ⟨rfl, MM.out, KK.out, HB.out⟩
    | false =>
      have HHAS := Aside0.mk hh
      clear hh
      have H := HH.out
      clear HH
      replace H := Option.bind_eq_some_iff.mp H
      obtain ⟨⟨b1, b2⟩, A10, H⟩ := H
      replace H := Option.bind_eq_some_iff.mp H
      obtain ⟨⟨seats, far⟩, A20, H⟩ := H
      have AB := Aside0.mk A10
      have AP := Aside0.mk A20
      clear A10 A20
      by_cases cf : far < 2
      · rw [if_pos cf] at H
        have cfb : decide (far < 2) = true := decide_eq_true cf
        obtain rfl := Option.some.inj H
        clear cf H
        go_enter Tryd.func35, Tryd.ntmps35
        go_wp2_with (first | (at_lookup; refine wpList_lookup_own_ok_int _ rfl _ _ 54 rfl 51 3 .i64 ti_law Tryd.underlying54 Tryd.underlying3 (ti_zero _) mb _ D rfl HO.out _ _ rfl HKEY.out ?_; intro c_ hat_ hwc_; rw [HHAS.out]; clear hat_ hwc_) | (go_at_call 36; (with_reducible refine (impl_Row_bench.calls a4 a3 _ _ l6 b1 b2 _ (Kd.C_below hr6 HB.out) hc6 AB.out).mono ?_); rintro e w3 ⟨rfl, hb⟩; clear q1 q2 q3 q4 q5; obtain ⟨EN, MM, KK, HB⟩ := tistep EN MM KK HB hb; clear hb) | (go_at_call 37; (with_reducible refine (impl_bench_polite.calls k b1 b2 a0 seats far _ (hT0.below HB.out) AP.out).mono ?_); rintro e w4 ⟨rfl, hb⟩; obtain ⟨EN, MM, KK, HB⟩ := tistep EN MM KK HB hb; clear hb))
        go_ret
        exact ⟨rfl, MM.out, KK.out, HB.out⟩
      · rw [if_neg cf] at H
        have cfb : decide (far < 2) = false := decide_eq_false cf
        clear cf
        replace H := Option.bind_eq_some_iff.mp H
        obtain ⟨L, A30, H⟩ := H
        have AL := Aside0.mk A30
        have H' := Aside0.mk H
        clear A30 H
        go_enter Tryd.func35, Tryd.ntmps35
        go_wp2_with (first | (at_lookup; refine wpList_lookup_own_ok_int _ rfl _ _ 54 rfl 51 3 .i64 ti_law Tryd.underlying54 Tryd.underlying3 (ti_zero _) mb _ D rfl HO.out _ _ rfl HKEY.out ?_; intro c_ hat_ hwc_; rw [HHAS.out]; clear hat_ hwc_) | (go_at_call 36; (with_reducible refine (impl_Row_bench.calls a4 a3 _ _ l6 b1 b2 _ (Kd.C_below hr6 HB.out) hc6 AB.out).mono ?_); rintro e w3 ⟨rfl, hb⟩; clear q1 q2 q3 q4 q5; obtain ⟨EN, MM, KK, HB⟩ := tistep EN MM KK HB hb; clear hb) | (go_at_call 37; (with_reducible refine (impl_bench_polite.calls k b1 b2 a0 seats far _ (hT0.below HB.out) AP.out).mono ?_); rintro e w4 ⟨rfl, hb⟩; obtain ⟨EN, MM, KK, HB⟩ := tistep EN MM KK HB hb; clear hb) | (go_at_call 38; (with_reducible refine (impl_set_list.calls k seats L _ (hT0.below HB.out) AL.out).mono ?_); rintro e w5 ⟨v5, rfl, hR, hb⟩; obtain ⟨BL, dL, rfl⟩ := Kd.R_slice hR; have RL := Aside0.mk (Kd.R_lower (Kd.R_mono (ok' := fun k_ => k_ ≠ mb) (Kd.R_bound hR) (fun k_ hk_ => by have h1_ := hk_.2.1; have h2_ := MM.out.lt; omega)) HB.out.size); clear hR; obtain ⟨EN, MM, KK, HB⟩ := tistep EN MM KK HB hb; clear hb))
        clear HO HD HG HHAS HKEY AP AB AL cfb
        go_loopg [10, 33] k (fun kq v10 v33 w' => ∃ (acc x : Int), v10 = .int .i64 acc ∧ v33 = .int .i64 x ∧ Aside0 ((Lit.int .i64 acc).wf = true) ∧ Aside0 (impl_PoliteTies_1.l0 kq a0 a4 a3 l6 L x acc = some r) ∧ Aside0 (kq ≤ k) ∧ Aside0 (TiEnv mb e1 e2 e3 a4 a3 A6 c6 l6 w') ∧ Aside0 (Memo Tryd.prog 51 3 tiEnc tiDom (tiGood a4 a3 l6) w' mb) ∧ Aside0 (Kept w w' (fun k_ => k_ = mb)) ∧ Aside0 (Kd.R (Kd.int .i64) 3 w' w0.heap.size (fun k_ => k_ ≠ mb) (.slice BL L.length dL) L) ∧ Aside0 (Below w0.heap.size w0 w'))
        case atStart => exact ⟨0, 0, rfl, rfl, ⟨by decide⟩, H', ⟨Nat.le_refl _⟩, EN, MM, KK, RL, HB⟩
        case round =>
          clear H' EN MM KK RL HB
          obtain ⟨acc, x, rfl, rfl, HWF, HA, HK1, EN, MM, KK, RL, HB⟩ := hrel
          cases gk with
          | zero => exact absurd HA.out (by simp [impl_PoliteTies_1.l0])
          | succ k1 =>
            have H := HA.out
            clear HA
            simp only [impl_PoliteTies_1.l0] at H
            by_cases c9 : x < (L.length : Int)
            · rw [if_pos c9] at H
              have c9b0 : decide (x < (L.length : Int)) = true := decide_eq_true c9
              by_cases c10 : 0 ≤ x
              · rw [if_pos c10] at H
                have c10b0 : decide (0 ≤ x) = true := decide_eq_true c10
                by_cases c11 : 0 ≤ rd L x
                · rw [if_pos c11] at H
                  replace H := Option.bind_eq_some_iff.mp H
                  obtain ⟨n1, A40, H⟩ := H
                  have AF := Aside0.mk (show impl_PoliteTies_1.f k1 (Go.bits .or .u32 a0 (IntKind.u32.wrap (2 ^ min (rd L x).toNat 32))) a4 a3 l6 = some n1 from by rw [shl_one_]; exact A40)
                  have H' := Aside0.mk H
                  clear A40 H
                  obtain ⟨ad, ead, hg_⟩ := Kd.at_int (Kd.R_reads' RL.out).2.2 x c10 c9
                  cases ead
                  go_wp2
                  clear hg_
                  refine start_ (n := 9) (S := fun w' => w'.cell? ⟨e3, 0, none⟩ = some (.func (.func 35) #[] #[.pointer (some ⟨e1, 0, none⟩), .pointer (some ⟨e2, 0, none⟩), .pointer (some ⟨e3, 0, none⟩)])) (ds := []) #[false, false, false, false, false, false, false, false, false] (by kernel_rfl) rfl rfl ((EN.out.kept (Kept.of_below (below_drew1 (Below.refl _ _)) (fun _ => False)) id id id).cells.2.2.2.2) (fun hHeld => ?_)
                  refine with_tabW impl_PoliteTies_1.tab11 impl_PoliteTies_1.bits11 (fun HT_ HW_ => ?_)
                  have RL2 := Aside0.mk (Kd.R_drew RL.out)
                  clear RL
                  have RL := RL2
                  clear RL2
                  obtain ⟨EN, MM, KK, HB⟩ := tistep EN MM KK HB (below_drew1 (Below.refl _ _))
                  generalize World.drew _ = w2 at EN MM KK HB RL hHeld ⊢
                  refine pure_ (i := 0) (N := some 37) (v := ?_) (a' := ?_) #[true, false, false, false, false, false, false, false, false] rfl rfl (any_of HT_.out (by kernel_rfl)) (fun _ _ _ h => h) (Or.inl ⟨by rfl, ?_⟩) ?_ ?_
                  rotate_left
                  · intro w'
                    go_simp
                    with_reducible rfl
                  rotate_left
                  · simp only [Act.put, List.setIfInBounds_toArray, List.set_cons_zero, List.set_cons_succ, i64_w, i32_w]
                    rfl
                  refine pure_ (i := 2) (N := some 39) (v := ?_) (a' := ?_) #[true, false, true, false, false, false, false, false, false] rfl rfl (any_of HT_.out (by kernel_rfl)) (fun _ _ _ h => h) (Or.inl ⟨by rfl, ?_⟩) ?_ ?_
                  rotate_left
                  · intro w'
                    go_simp
                    with_reducible rfl
                  rotate_left
                  · simp only [Act.put, List.setIfInBounds_toArray, List.set_cons_zero, List.set_cons_succ, i64_w, i32_w]
                    rfl
                  refine pure_ (i := 3) (N := some 40) (v := ?_) (a' := ?_) #[true, false, true, true, false, false, false, false, false] rfl rfl (any_of HT_.out (by kernel_rfl)) (fun _ _ _ h => h) (Or.inl ⟨by rfl, ?_⟩) ?_ ?_
                  rotate_left
                  · intro w'
                    go_simp
                    with_reducible rfl
                  rotate_left
                  · simp only [Act.put, List.setIfInBounds_toArray, List.set_cons_zero, List.set_cons_succ, i64_w, i32_w]
                    rfl
                  refine pure_ (i := 4) (N := some 41) (v := ?_) (a' := ?_) #[true, false, true, true, true, false, false, false, false] rfl rfl (any_of HT_.out (by kernel_rfl)) (fun _ _ _ h => h) (Or.inl ⟨by rfl, ?_⟩) ?_ ?_
                  rotate_left
                  · intro w'
                    go_simp
                    with_reducible rfl
                  rotate_left
                  · simp only [Act.put, List.setIfInBounds_toArray, List.set_cons_zero, List.set_cons_succ, i64_w, i32_w]
                    rfl
                  refine pure_ (i := 5) (N := some 42) (v := ?_) (a' := ?_) #[true, false, true, true, true, true, false, false, false] rfl rfl (any_of HT_.out (by kernel_rfl)) (fun _ _ _ h => h) (Or.inl ⟨by rfl, ?_⟩) ?_ ?_
                  rotate_left
                  · intro w'
                    go_simp
                    with_reducible rfl
                  rotate_left
                  · simp only [Act.put, List.setIfInBounds_toArray, List.set_cons_zero, List.set_cons_succ, i64_w, i32_w]
                    rfl
                  refine take_ (i := 1) (N := some 38) (v := ?_) (a' := ?_) #[true, true, true, true, true, true, false, false, false] rfl rfl (take_ofW HT_.out HW_.out (by kernel_rfl)) (fun _ _ _ h => h) (Or.inl ⟨by rfl, ?_⟩) hHeld ?_ ?_
                  rotate_left
                  · intro w' s0
                    go_simp
                    with_reducible rfl
                  rotate_left
                  · simp only [Act.put, List.setIfInBounds_toArray, List.set_cons_zero, List.set_cons_succ, i64_w, i32_w]
                    rfl
                  refine one_ (i := 6) (N := some 43) #[true, true, true, true, true, true, true, false, false] rfl rfl (one_of HT_.out (by kernel_rfl)) (by decide) (fun K hK => ?_)
                  refine goesD_ hdyn (cap := #[.pointer (some ⟨e1, 0, none⟩), .pointer (some ⟨e2, 0, none⟩), .pointer (some ⟨e3, 0, none⟩)]) #[.int .u32 (Go.bits .or .u32 a0 (IntKind.u32.wrap (2 ^ min (rd L x).toNat 32)))] #[.int .u32 (Go.bits .or .u32 a0 (IntKind.u32.wrap (2 ^ min (rd L x).toNat 32))), .pointer (some ⟨e1, 0, none⟩), .pointer (some ⟨e2, 0, none⟩), .pointer (some ⟨e3, 0, none⟩)] rfl (by rfl) rfl rfl (by rfl) (by (try simp only [List.map_toArray, List.map_cons, List.map_nil]); first | done | rfl) ?_
                  with_reducible refine (ih k1 (by have := HK1.out; omega) _ n1 w2 EN.out MM.out HB.out AF.out).mono ?_
                  rintro e w8 ⟨rfl, hM2, hK2, hB2⟩
                  refine ⟨_, rfl, ?_⟩
                  have hE2 := EN.out.kept hK2 hm1 hm2 hm3
                  have hKK2 := KK.out.then_ hK2 (fun _ h_ => .inl h_)
                  have hRL2 := Kd.R_step RL.out (fun k_ hk_ hlt_ => hK2.2 k_ hlt_ hk_)
                  clear EN MM KK HB RL
                  have EN := Aside0.mk hE2
                  have MM := Aside0.mk hM2
                  have KK := Aside0.mk hKK2
                  have HB := Aside0.mk hB2
                  have RL := Aside0.mk hRL2
                  clear hE2 hM2 hKK2 hB2 hRL2 hK2
                  refine hK.out _ _ ((EN.out.cells).2.2.2.2) (fun hHeld => ?_)
                  clear hK K
                  refine norm_ (a' := ?_) ?_ ?_
                  rotate_left
                  · show Act.put _ (some 43) _ = _
                    simp only [Act.put, List.setIfInBounds_toArray, List.set_cons_zero, List.set_cons_succ, i64_w, i32_w]
                    rfl
                  refine pure_ (i := 7) (N := some 44) (v := ?_) (a' := ?_) #[true, true, true, true, true, true, true, true, false] rfl rfl (any_of HT_.out (by kernel_rfl)) (fun _ _ _ h => h) (Or.inl ⟨by rfl, ?_⟩) ?_ ?_
                  rotate_left
                  · intro w'
                    go_simp
                    with_reducible rfl
                  rotate_left
                  · simp only [Act.put, List.setIfInBounds_toArray, List.set_cons_zero, List.set_cons_succ, i64_w, i32_w]
                    rfl
                  refine pure_ (i := 8) (N := some 10) (v := ?_) (a' := ?_) #[true, true, true, true, true, true, true, true, true] rfl rfl (any_of HT_.out (by kernel_rfl)) (fun _ _ _ h => h) (Or.inl ⟨by rfl, ?_⟩) ?_ ?_
                  rotate_left
                  · intro w'
                    go_simp
                    with_reducible rfl
                  rotate_left
                  · simp only [Act.put, List.setIfInBounds_toArray, List.set_cons_zero, List.set_cons_succ, i64_w, i32_w]
                    rfl
                  refine done_ (done_of HT_.out (by kernel_rfl)) ?_
                  
                  try go_wp2
                  go_roundg k1
                  case measure => have := HK1.out; omega
                  case rel => exact ⟨_, (wrap64 (x + 1)), (by first | rfl | (simp [i64_w]; done)), (by first | rfl | (simp; done) | (simp [*]; done)), ⟨wrap64_wf _⟩, H', ⟨by have := HK1.out; omega⟩, EN, MM, KK, RL, HB⟩
                · rw [if_neg c11] at H
                  exact absurd H (by simp)
              · rw [if_neg c10] at H
                exact absurd H (by simp)
            · rw [if_neg c9] at H
              have c9b0 : decide (x < (L.length : Int)) = false := decide_eq_false c9
              clear c9
              obtain rfl := Option.some.inj H
              clear H
              have hkey : keyOf Tryd.prog 51 (.int .u32 a0) = some (tiEnc a0) := Maps.keyOf_int_mk Tryd.underlying51 (by have h_ := DOM.out; unfold tiDom at h_; simp [Lit.wf, IntKind.min, IntKind.max, IntKind.bits, IntKind.signed]; omega)
              have HKEY := Aside0.mk hkey
              clear hkey
              obtain ⟨D2, hown0, hdom0, hgood0⟩ := MM.out
              have HS := Aside0.mk (show Maps.size D2 < maxLen from Nat.lt_of_le_of_lt (memo_size ti_law hown0 (fun l => match l with | .int _ a => a.toNat | _ => 0) 4294967296 (fun l hl => by obtain ⟨y, hy, rfl⟩ := hdom0 l hl; unfold tiDom at hy; show y.toNat < _; omega) (fun l l' hl hl' he => by obtain ⟨y, hy, rfl⟩ := hdom0 l hl; obtain ⟨y', hy', rfl⟩ := hdom0 l' hl'; unfold tiDom at hy hy'; have he2 : y.toNat = y'.toNat := he; rw [show y = y' by omega])) (by unfold maxLen; omega))
              have HO := Aside0.mk hown0
              have HD := Aside0.mk hdom0
              have HG := Aside0.mk hgood0
              clear hown0 hdom0 hgood0
              obtain ⟨q1, _, _, _, _⟩ := EN.out.cells
              go_wp2_with (at_mapUpdate; refine wpList_mapUpdate_own _ rfl _ _ _ 54 rfl 51 3 ti_law Tryd.underlying54 _ mb _ D2 rfl HO.out HS.out _ _ _ rfl rfl HKEY.out _ [] (plainElem_int Tryd.underlying3 HWF.out) ?_; intro w9 hown9 hgrow9)
              go_ret
              refine ⟨rfl, Memo.store ti_law trivial DOM.out (fun y hy => ?_) HO.out.isMap HD.out HG.out AGood.out hown9, KK.out.of_grown hgrow9 (fun k_ hk_ => .inl (Option.some.inj hk_).symm), HB.out.grown hgrow9 HB.out.size (fun k_ hk_ => ?_)⟩
              · unfold tiEnc at hy; injection hy
              · have h_ := Option.some.inj hk_; omega
  · rw [if_neg cx] at h
    exact absurd h (by simp)


/-! ### impl_PoliteTies: function 15 -/
theorem below_of_drawn {w w' : World} (h : Drawn0 w w') : Below w.heap.size w w' := by
  obtain ⟨n, h⟩ := h.out
  rw [h]; exact pw_below_drewN (Below.refl _ _) n
theorem three_allocs (w : World) (a b c : Obj) : (((w.alloc a).alloc b).alloc c).heap[w.heap.size]? = some a ∧ (((w.alloc a).alloc b).alloc c).heap[w.heap.size + 1]? = some b ∧ (((w.alloc a).alloc b).alloc c).heap[w.heap.size + 1 + 1]? = some c ∧ Below w.heap.size w (((w.alloc a).alloc b).alloc c) := by
  have e1 : (w.alloc a).heap.size = w.heap.size + 1 := by simp
  have e2 : ((w.alloc a).alloc b).heap.size = w.heap.size + 1 + 1 := by simp
  have h1 := blk_new w a
  have h2 := blk_new (w.alloc a) b
  have h3 := blk_new ((w.alloc a).alloc b) c
  rw [e1] at h2
  rw [e2] at h3
  exact ⟨blk_alloc (blk_alloc h1 _) _, blk_alloc h2 _, h3, below_alloc (below_alloc (below_alloc (Below.refl _ _) _) _) _⟩
def impl_PoliteTies.f (k : Nat) (s : Int) (r : Bool) (l : List Int) : Option (Int × Bool) := (impl_IsRow.f k s r l).bind fun t => if t = true then ((impl_Row_free.f k s r l).bind fun fr => (impl_set_count.f fr).bind fun ct => if ct > 10 then some (0, false) else (impl_Row_taken.f k s r l).bind fun tk => (impl_PoliteTies_1.f k tk s r l).bind fun n => some (n, true)) else some (0, false)
theorem impl_PoliteTies.mono : ∀ s r l k, LeO (impl_PoliteTies.f k s r l) (impl_PoliteTies.f (k + 1) s r l) := fun _ _ _ k =>
  LeO.bind (impl_IsRow.mono _ _ _ _) fun _ => LeO.ite (LeO.bind (impl_Row_free.mono _ _ _ _) fun _ => LeO.bind (LeO.refl _) fun _ => LeO.ite (LeO.refl _) (LeO.bind (impl_Row_taken.mono _ _ _ _) fun _ => LeO.bind ((impl_PoliteTies_1.mono_l k).1 _ _ _ _) fun _ => LeO.refl _)) (LeO.refl _)
def impl_PoliteTies.T6 : Bool × List (List Nat × List Nat) := (true, [([], []), ([], []), ([1], [1]), ([0, 2, 2], [0, 2]), ([3, 3, 0, 1, 2, 3], [3]), ([4, 0, 1, 2, 3, 4], [])])
def impl_PoliteTies.B6 : List Nat := [0, 0, 2, 7, 15, 31]
theorem impl_PoliteTies.tab6 : rtab .any (opsOf Tryd.f15 6) = impl_PoliteTies.T6 := by kernel_rfl
theorem impl_PoliteTies.bits6 : waitsOk impl_PoliteTies.T6.2 impl_PoliteTies.B6 = true := by kernel_rfl
set_option maxHeartbeats 8000000 in
set_option maxRecDepth 100000 in
theorem impl_PoliteTies.calls (k : Nat) (a0_0 : Int) (a0_1 : Bool) (A0_2 : Option Addr) (c0_2 : Nat) (l0_2 : List Int) (r1 : Int) (r2 : Bool) (w : World) (hr0_2 : Kd.C (Kd.int .i64) w A0_2 l0_2.length l0_2) (hc0_2 : l0_2.length ≤ c0_2) (hrT : GT w) (h : impl_PoliteTies.f k a0_0 a0_1 l0_2 = some (r1, r2)) :
    Calls Tryd.prog 15 #[.agg #[.int .i64 a0_0, .bool a0_1, .slice A0_2 l0_2.length c0_2]] w fun e w' => e = .returned (.tuple #[.int .i64 r1, .bool r2]) ∧ Below w.heap.size w w' := by
  have hu31 := Tryd.underlying31
  have hmm := @run_makeMap Tryd.prog
  have hmf : ∀ (fn : Fn) (first cap : Array Value) (w : World), (Instr.makeFunc fn first cap).run Tryd.prog w = .ok (.func fn first cap) w := fun _ _ _ _ => rfl
  have hdyn : ∀ (args : Array Value) (w : World), (callFunc 35 args).run Tryd.prog w = .ok (.enter 35 args) w := fun args w => enters_ Tryd.func35 rfl rfl args w
  have HT := Aside0.mk hrT
  have HR := Aside0.mk hr0_2
  have HC := Aside0.mk hc0_2
  clear hrT hr0_2 hc0_2
  have HB := Aside0.mk (Below.refl w.heap.size w)
  unfold impl_PoliteTies.f at h
  replace h := Option.bind_eq_some_iff.mp h
  obtain ⟨t, A10, H⟩ := h
  have A1 := Aside0.mk A10
  clear A10
  cases t with
  | false =>
    rw [if_neg (show ¬ (false = true) by decide)] at H
    simp only [Option.some.injEq, Prod.mk.injEq] at H
    obtain ⟨rfl, rfl⟩ := H
    go_enter Tryd.func15, Tryd.ntmps15
    go_wp2_with (first | ((with_reducible refine gate_dst (N := 1) rfl ?_); refine box_event ?hg (N := 1) ?hd (cs := #[.int .i64 a0_0, .bool a0_1, .slice A0_2 l0_2.length c0_2]) (t := 31) ?hr ?_; (case hd => rfl); (case hg => rfl); (case hr => first | (go_simp; done) | (go_simp; rfl)); intro gb hg_ w5 hbox hb; have n0_ := Aside0.mk (below_step HB.out hb); have BK := Aside0.mk hbox; have GB := Aside0.mk (show w.heap.size ≤ gb by rw [hg_]; exact below_size HB.out); clear HB; have HB := n0_; clear n0_; have q0_ : w5.cell? ⟨gb, 0, none⟩ = some (.int .i64 a0_0) := (blk_cell BK.out 0).trans rfl; have q1_ : w5.cell? ⟨gb, 1, none⟩ = some (.bool a0_1) := (blk_cell BK.out 1).trans rfl; have q2_ : w5.cell? ⟨gb, 2, none⟩ = some (.slice A0_2 l0_2.length c0_2) := (blk_cell BK.out 2).trans rfl; clear hbox hb hg_) | (go_at_call 32; (with_reducible refine (impl_IsRow.calls k a0_0 a0_1 _ _ l0_2 false _ (Kd.C_below HR.out HB.out) HC.out A1.out).mono ?_); rintro e w6 ⟨rfl, hb⟩; have n0_ := Aside0.mk (below_step HB.out hb); have n1_ := Aside0.mk (blk_below BK.out hb); clear HB BK q0_ q1_ q2_; have HB := n0_; have BK := n1_; clear n0_ n1_ hb; have q0_ : w6.cell? ⟨gb, 0, none⟩ = some (.int .i64 a0_0) := (blk_cell BK.out 0).trans rfl; have q1_ : w6.cell? ⟨gb, 1, none⟩ = some (.bool a0_1) := (blk_cell BK.out 1).trans rfl; have q2_ : w6.cell? ⟨gb, 2, none⟩ = some (.slice A0_2 l0_2.length c0_2) := (blk_cell BK.out 2).trans rfl))
    go_ret2
    exact ⟨rfl, HB.out⟩
  | true =>
    rw [if_pos rfl] at H
    replace H := Option.bind_eq_some_iff.mp H
    obtain ⟨fr, A20, H⟩ := H
    have A2 := Aside0.mk A20
    replace H := Option.bind_eq_some_iff.mp H
    obtain ⟨ct, A30, H⟩ := H
    have A3 := Aside0.mk A30
    clear A20 A30
    by_cases cc : ct > 10
    · rw [if_pos cc] at H
      have ccb : decide (10 < ct) = true := decide_eq_true cc
      simp only [Option.some.injEq, Prod.mk.injEq] at H
      obtain ⟨rfl, rfl⟩ := H
      clear cc
      go_enter Tryd.func15, Tryd.ntmps15
      go_wp2_with (first | ((with_reducible refine gate_dst (N := 1) rfl ?_); refine box_event ?hg (N := 1) ?hd (cs := #[.int .i64 a0_0, .bool a0_1, .slice A0_2 l0_2.length c0_2]) (t := 31) ?hr ?_; (case hd => rfl); (case hg => rfl); (case hr => first | (go_simp; done) | (go_simp; rfl)); intro gb hg_ w5 hbox hb; have n0_ := Aside0.mk (below_step HB.out hb); have BK := Aside0.mk hbox; have GB := Aside0.mk (show w.heap.size ≤ gb by rw [hg_]; exact below_size HB.out); clear HB; have HB := n0_; clear n0_; have q0_ : w5.cell? ⟨gb, 0, none⟩ = some (.int .i64 a0_0) := (blk_cell BK.out 0).trans rfl; have q1_ : w5.cell? ⟨gb, 1, none⟩ = some (.bool a0_1) := (blk_cell BK.out 1).trans rfl; have q2_ : w5.cell? ⟨gb, 2, none⟩ = some (.slice A0_2 l0_2.length c0_2) := (blk_cell BK.out 2).trans rfl; clear hbox hb hg_) | (go_at_call 32; (with_reducible refine (impl_IsRow.calls k a0_0 a0_1 _ _ l0_2 true _ (Kd.C_below HR.out HB.out) HC.out A1.out).mono ?_); rintro e w6 ⟨rfl, hb⟩; have n0_ := Aside0.mk (below_step HB.out hb); have n1_ := Aside0.mk (blk_below BK.out hb); clear HB BK q0_ q1_ q2_; have HB := n0_; have BK := n1_; clear n0_ n1_ hb; have q0_ : w6.cell? ⟨gb, 0, none⟩ = some (.int .i64 a0_0) := (blk_cell BK.out 0).trans rfl; have q1_ : w6.cell? ⟨gb, 1, none⟩ = some (.bool a0_1) := (blk_cell BK.out 1).trans rfl; have q2_ : w6.cell? ⟨gb, 2, none⟩ = some (.slice A0_2 l0_2.length c0_2) := (blk_cell BK.out 2).trans rfl) | (go_at_call 33; (with_reducible refine (impl_Row_free.calls k a0_0 a0_1 _ _ l0_2 fr _ (Kd.C_below HR.out HB.out) HC.out A2.out).mono ?_); rintro e w7 ⟨rfl, hb⟩; have n0_ := Aside0.mk (below_step HB.out hb); have n1_ := Aside0.mk (blk_below BK.out hb); clear HB BK q0_ q1_ q2_; have HB := n0_; have BK := n1_; clear n0_ n1_ hb; have q0_ : w7.cell? ⟨gb, 0, none⟩ = some (.int .i64 a0_0) := (blk_cell BK.out 0).trans rfl; have q1_ : w7.cell? ⟨gb, 1, none⟩ = some (.bool a0_1) := (blk_cell BK.out 1).trans rfl; have q2_ : w7.cell? ⟨gb, 2, none⟩ = some (.slice A0_2 l0_2.length c0_2) := (blk_cell BK.out 2).trans rfl) | (go_at_call 34; (with_reducible refine (impl_set_count.calls fr ct _ A3.out).mono ?_); rintro e w8 ⟨rfl, hd_⟩; have hb := below_of_drawn hd_; clear hd_; have n0_ := Aside0.mk (below_step HB.out hb); have n1_ := Aside0.mk (blk_below BK.out hb); clear HB BK q0_ q1_ q2_; have HB := n0_; have BK := n1_; clear n0_ n1_ hb; have q0_ : w8.cell? ⟨gb, 0, none⟩ = some (.int .i64 a0_0) := (blk_cell BK.out 0).trans rfl; have q1_ : w8.cell? ⟨gb, 1, none⟩ = some (.bool a0_1) := (blk_cell BK.out 1).trans rfl; have q2_ : w8.cell? ⟨gb, 2, none⟩ = some (.slice A0_2 l0_2.length c0_2) := (blk_cell BK.out 2).trans rfl))
      go_ret2
      exact ⟨rfl, HB.out⟩
    · rw [if_neg cc] at H
      have ccb : decide (10 < ct) = false := decide_eq_false cc
      clear cc
      replace H := Option.bind_eq_some_iff.mp H
      obtain ⟨tk, A40, H⟩ := H
      have A4 := Aside0.mk A40
      replace H := Option.bind_eq_some_iff.mp H
      obtain ⟨n1, A50, H⟩ := H
      have A5 := Aside0.mk A50
      simp only [Option.some.injEq, Prod.mk.injEq] at H
      obtain ⟨rfl, rfl⟩ := H
      clear A40 A50
      go_enter Tryd.func15, Tryd.ntmps15
      go_wp2_with (first | ((with_reducible refine gate_dst (N := 1) rfl ?_); refine box_event ?hg (N := 1) ?hd (cs := #[.int .i64 a0_0, .bool a0_1, .slice A0_2 l0_2.length c0_2]) (t := 31) ?hr ?_; (case hd => rfl); (case hg => rfl); (case hr => first | (go_simp; done) | (go_simp; rfl)); intro gb hg_ w5 hbox hb; have n0_ := Aside0.mk (below_step HB.out hb); have BK := Aside0.mk hbox; have GB := Aside0.mk (show w.heap.size ≤ gb by rw [hg_]; exact below_size HB.out); clear HB; have HB := n0_; clear n0_; have q0_ : w5.cell? ⟨gb, 0, none⟩ = some (.int .i64 a0_0) := (blk_cell BK.out 0).trans rfl; have q1_ : w5.cell? ⟨gb, 1, none⟩ = some (.bool a0_1) := (blk_cell BK.out 1).trans rfl; have q2_ : w5.cell? ⟨gb, 2, none⟩ = some (.slice A0_2 l0_2.length c0_2) := (blk_cell BK.out 2).trans rfl; clear hbox hb hg_) | (go_at_call 32; (with_reducible refine (impl_IsRow.calls k a0_0 a0_1 _ _ l0_2 true _ (Kd.C_below HR.out HB.out) HC.out A1.out).mono ?_); rintro e w6 ⟨rfl, hb⟩; have n0_ := Aside0.mk (below_step HB.out hb); have n1_ := Aside0.mk (blk_below BK.out hb); clear HB BK q0_ q1_ q2_; have HB := n0_; have BK := n1_; clear n0_ n1_ hb; have q0_ : w6.cell? ⟨gb, 0, none⟩ = some (.int .i64 a0_0) := (blk_cell BK.out 0).trans rfl; have q1_ : w6.cell? ⟨gb, 1, none⟩ = some (.bool a0_1) := (blk_cell BK.out 1).trans rfl; have q2_ : w6.cell? ⟨gb, 2, none⟩ = some (.slice A0_2 l0_2.length c0_2) := (blk_cell BK.out 2).trans rfl) | (go_at_call 33; (with_reducible refine (impl_Row_free.calls k a0_0 a0_1 _ _ l0_2 fr _ (Kd.C_below HR.out HB.out) HC.out A2.out).mono ?_); rintro e w7 ⟨rfl, hb⟩; have n0_ := Aside0.mk (below_step HB.out hb); have n1_ := Aside0.mk (blk_below BK.out hb); clear HB BK q0_ q1_ q2_; have HB := n0_; have BK := n1_; clear n0_ n1_ hb; have q0_ : w7.cell? ⟨gb, 0, none⟩ = some (.int .i64 a0_0) := (blk_cell BK.out 0).trans rfl; have q1_ : w7.cell? ⟨gb, 1, none⟩ = some (.bool a0_1) := (blk_cell BK.out 1).trans rfl; have q2_ : w7.cell? ⟨gb, 2, none⟩ = some (.slice A0_2 l0_2.length c0_2) := (blk_cell BK.out 2).trans rfl) | (go_at_call 34; (with_reducible refine (impl_set_count.calls fr ct _ A3.out).mono ?_); rintro e w8 ⟨rfl, hd_⟩; have hb := below_of_drawn hd_; clear hd_; have n0_ := Aside0.mk (below_step HB.out hb); have n1_ := Aside0.mk (blk_below BK.out hb); clear HB BK q0_ q1_ q2_; have HB := n0_; have BK := n1_; clear n0_ n1_ hb; have q0_ : w8.cell? ⟨gb, 0, none⟩ = some (.int .i64 a0_0) := (blk_cell BK.out 0).trans rfl; have q1_ : w8.cell? ⟨gb, 1, none⟩ = some (.bool a0_1) := (blk_cell BK.out 1).trans rfl; have q2_ : w8.cell? ⟨gb, 2, none⟩ = some (.slice A0_2 l0_2.length c0_2) := (blk_cell BK.out 2).trans rfl))
      obtain ⟨h1_, h2_, h3_, h4_⟩ := three_allocs w8 (.map #[] 0) (.cells #[.map (some w8.heap.size)] 54 (0, 0)) (.cells #[.func (.func 35) #[] #[.pointer (some ⟨w8.heap.size + 1, 0, none⟩), .pointer (some ⟨gb, 0, none⟩), .pointer (some ⟨w8.heap.size + 1 + 1, 0, none⟩)]] 55 (0, 0))
      have MM := Aside0.mk (ti_new (tiGood a0_0 a0_1 l0_2) w8 _ h1_)
      have EN := Aside0.mk (show TiEnv w8.heap.size (w8.heap.size + 1) gb (w8.heap.size + 1 + 1) a0_0 a0_1 A0_2 c0_2 l0_2 _ from ⟨h2_, blk_below BK.out h4_, h3_⟩)
      have N1 := Aside0.mk (show w8.heap.size + 1 ≠ w8.heap.size by omega)
      have N2 := Aside0.mk (show gb ≠ w8.heap.size by have h_ := blk_lt BK.out; omega)
      have N3 := Aside0.mk (show w8.heap.size + 1 + 1 ≠ w8.heap.size by omega)
      have GM := Aside0.mk (below_size HB.out)
      have HB1 := Aside0.mk (below_step HB.out h4_)
      clear h1_ h2_ h3_ h4_ BK q0_ q1_ q2_ HB GB
      have HB := HB1
      clear HB1
      generalize w8.heap.size = mb at EN MM HB N1 N2 N3 GM ⊢
      generalize mb + 1 + 1 = e3 at EN MM HB N1 N2 N3 GM ⊢
      generalize mb + 1 = e1 at EN MM HB N1 N2 N3 GM ⊢
      generalize World.alloc _ _ = w1 at EN MM HB ⊢
      have KK := Aside0.mk (Kept.refl w1 (fun k_ => k_ = mb))
      refine start_ (n := 6) (S := fun w' => w'.cell? ⟨e3, 0, none⟩ = some (.func (.func 35) #[] #[.pointer (some ⟨e1, 0, none⟩), .pointer (some ⟨gb, 0, none⟩), .pointer (some ⟨e3, 0, none⟩)]) ∧ w'.cell? ⟨gb, 0, none⟩ = some (.int .i64 a0_0) ∧ w'.cell? ⟨gb, 1, none⟩ = some (.bool a0_1) ∧ w'.cell? ⟨gb, 2, none⟩ = some (.slice A0_2 l0_2.length c0_2)) (ds := [3]) #[false, false, false, false, false, false] (by kernel_rfl) rfl rfl ⟨((EN.out.kept (Kept.of_below (below_drew1 (Below.refl _ _)) (fun _ => False)) id id id).cells).2.2.2.2, ((EN.out.kept (Kept.of_below (below_drew1 (Below.refl _ _)) (fun _ => False)) id id id).cells).2.1, ((EN.out.kept (Kept.of_below (below_drew1 (Below.refl _ _)) (fun _ => False)) id id id).cells).2.2.1, ((EN.out.kept (Kept.of_below (below_drew1 (Below.refl _ _)) (fun _ => False)) id id id).cells).2.2.2.1⟩ (fun hHeld => ?_)
      refine with_tabW impl_PoliteTies.tab6 impl_PoliteTies.bits6 (fun HT_ HW_ => ?_)
      obtain ⟨EN, MM, KK, HB⟩ := tistep EN MM KK HB (below_drew1 (Below.refl _ _))
      generalize World.drew _ = w2 at EN MM KK HB hHeld ⊢
      refine take_ (i := 0) (N := some 17) (v := ?_) (a' := ?_) #[true, false, false, false, false, false] rfl rfl (take_ofW HT_.out HW_.out (by kernel_rfl)) (fun _ _ _ h => h) (Or.inl ⟨by rfl, ?_⟩) hHeld ?_ ?_
      rotate_left
      · rintro w' ⟨s0, s1, s2, s3⟩
        go_simp
        with_reducible rfl
      rotate_left
      · simp only [Act.put, List.setIfInBounds_toArray, List.set_cons_zero, List.set_cons_succ, i64_w, i32_w]
        rfl
      refine take_ (i := 1) (N := some 18) (v := ?_) (a' := ?_) #[true, true, false, false, false, false] rfl rfl (take_ofW HT_.out HW_.out (by kernel_rfl)) (fun _ _ _ h => h) (Or.inl ⟨by rfl, ?_⟩) hHeld ?_ ?_
      rotate_left
      · rintro w' ⟨s0, s1, s2, s3⟩
        go_simp
        with_reducible rfl
      rotate_left
      · simp only [Act.put, List.setIfInBounds_toArray, List.set_cons_zero, List.set_cons_succ, i64_w, i32_w]
        rfl
      refine one_ (i := 2) (N := some 19) #[true, true, true, false, false, false] rfl rfl (one_of HT_.out (by kernel_rfl)) (by decide) (fun K hK => ?_)
      refine goes_ Tryd.func39 (by kernel_rfl) rfl #[.agg #[.int .i64 a0_0, .bool a0_1, .slice A0_2 l0_2.length c0_2]] (by rfl) rfl rfl (by (try simp only [List.map_toArray, List.map_cons, List.map_nil]); first | done | rfl) ?_
      with_reducible refine (impl_Row_taken.calls k a0_0 a0_1 _ _ l0_2 tk _ (Kd.C_below HR.out HB.out) HC.out A4.out).mono ?_
      rintro e w3 ⟨rfl, hb⟩
      refine ⟨_, rfl, ?_⟩
      obtain ⟨EN, MM, KK, HB⟩ := tistep EN MM KK HB hb
      clear hb
      refine hK.out _ _ ⟨(EN.out.cells).2.2.2.2, (EN.out.cells).2.1, (EN.out.cells).2.2.1, (EN.out.cells).2.2.2.1⟩ (fun hHeld => ?_)
      clear hK K
      refine norm_ (a' := ?_) ?_ ?_
      rotate_left
      · show Act.put _ (some 19) _ = _
        simp only [Act.put, List.setIfInBounds_toArray, List.set_cons_zero, List.set_cons_succ, i64_w, i32_w]
        rfl
      refine last_ (i := 3) (N := some 20) #[true, true, true, true, false, false] rfl rfl (one_of HT_.out (by kernel_rfl)) (by decide) (fun K hK => ?_)
      refine goesD_ hdyn (cap := #[.pointer (some ⟨e1, 0, none⟩), .pointer (some ⟨gb, 0, none⟩), .pointer (some ⟨e3, 0, none⟩)]) #[.int .u32 tk] #[.int .u32 tk, .pointer (some ⟨e1, 0, none⟩), .pointer (some ⟨gb, 0, none⟩), .pointer (some ⟨e3, 0, none⟩)] rfl (by rfl) rfl rfl (by rfl) (by (try simp only [List.map_toArray, List.map_cons, List.map_nil]); first | done | rfl) ?_
      with_reducible refine (impl_PoliteTies_1.calls HT.out mb e1 gb e3 N1.out N2.out N3.out GM.out a0_0 a0_1 A0_2 c0_2 l0_2 HR.out HC.out k tk n1 _ EN.out MM.out HB.out A5.out).mono ?_
      rintro e w4 ⟨rfl, _, _, hB2⟩
      refine ⟨_, rfl, ?_⟩
      have HB2 := Aside0.mk hB2
      clear EN MM KK HB hB2
      refine hK.out _ _ ?_
      clear hK K
      refine norm_ (a' := ?_) ?_ ?_
      rotate_left
      · show Act.put _ (some 20) _ = _
        simp only [Act.put, List.setIfInBounds_toArray, List.set_cons_zero, List.set_cons_succ, i64_w, i32_w]
        rfl
      refine pure_ (i := 4) (N := some 2) (v := ?_) (a' := ?_) #[true, true, true, true, true, false] rfl rfl (any_of HT_.out (by kernel_rfl)) (fun _ _ _ h => h) (Or.inl ⟨by rfl, ?_⟩) ?_ ?_
      rotate_left
      · intro w'
        go_simp
        with_reducible rfl
      rotate_left
      · simp only [Act.put, List.setIfInBounds_toArray, List.set_cons_zero, List.set_cons_succ, i64_w, i32_w]
        rfl
      refine pure_ (i := 5) (N := some 3) (v := ?_) (a' := ?_) #[true, true, true, true, true, true] rfl rfl (any_of HT_.out (by kernel_rfl)) (fun _ _ _ h => h) (Or.inl ⟨by rfl, ?_⟩) ?_ ?_
      rotate_left
      · intro w'
        go_simp
        with_reducible rfl
      rotate_left
      · simp only [Act.put, List.setIfInBounds_toArray, List.set_cons_zero, List.set_cons_succ, i64_w, i32_w]
        rfl
      refine done_ (done_of HT_.out (by kernel_rfl)) ?_
      
      try go_wp2
      go_ret2
      exact ⟨rfl, HB2.out⟩


end Go.Proofs.YtnchmnkljneedaaDoor.PFnExactPoliteTies
