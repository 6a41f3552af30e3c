import Derived.Test.YtnoipklaebadeaaDoorZFnPlacingsPFnPlacingsx0
import Derived.Test.YtnoipklaebadeaaDoorZFnPlacingsPFnPlacingsx1
namespace Go.Proofs.YtnoipklaebadeaaDoor.PFnPlacings
open Go.RowKit Go.Proofs.YtnoipklaebadeaaDoorW.PrintWords Go.Proofs.YtnoipklaebadeaaDoorW.PrintLast Go.Proofs.YtnoipklaebadeaaDoorW.PrintMore
attribute [local go_sem] max2_int min2_int max_two min_two max_three min_three max_four min_four   -- for this text's walks alone
set_option linter.unusedVariables false
set_option linter.unusedSimpArgs false

/-! ### spec_l9Fits: function 47 -/
mutual
def spec_l9Fits.j0 : Nat → List Int → Int → List Int → Int → Int → Bool → Int → Bool → List Int → Option (Bool)
 | 0, _, _, _, _, _, _, _, _, _ => none
 | k + 1, x1, x2, x3, x4, x11, x31, x120000, x120001, x120002 => if x31 = true then (some false) else ((spec_l1Least.f x2 x120000).bind fun t122 => (spec_l9Fits.l0 k x1 t122 x3 x4 x11 0 x120000 x120001 x120002))
def spec_l9Fits.l0 : Nat → List Int → Int → List Int → Int → Int → Int → Int → Bool → List Int → Option (Bool)
 | 0, _, _, _, _, _, _, _, _, _ => none
 | k + 1, x1, x2, x3, x4, x11, x12, x120000, x120001, x120002 => if x12 < (x120002.length : Int) then (if 0 ≤ x12 then ((spec_l1In.f (rd x120002 x12) (wrap64 (x4 - x2)) (wrap64 ((wrap64 ((wrap64 (x4 + x11)) - 1)) + x2))).bind fun t124 => (if t124 = true then (some false) else (spec_l9Fits.l0 k x1 x2 x3 x4 x11 (wrap64 (x12 + 1)) x120000 x120001 x120002))) else (none)) else (spec_l9Fits.l1 k x1 x2 x3 x4 x11 0)
def spec_l9Fits.l1 : Nat → List Int → Int → List Int → Int → Int → Int → Option (Bool)
 | 0, _, _, _, _, _, _ => none
 | k + 1, x1, x2, x3, x4, x11, x13 => if x13 < (x3.length : Int) then (if 0 ≤ x13 then (if (rd x3 x13) ≤ (wrap64 ((wrap64 ((wrap64 (x4 + x11)) - 1)) + x2)) then (if x13 < (x1.length : Int) then (if x4 ≤ (wrap64 ((wrap64 ((wrap64 ((rd x3 x13) + (rd x1 x13))) - 1)) + x2)) then (some false) else (spec_l9Fits.l1 k x1 x2 x3 x4 x11 (wrap64 (x13 + 1)))) else (none)) else (spec_l9Fits.l1 k x1 x2 x3 x4 x11 (wrap64 (x13 + 1)))) else (none)) else (some true)
end
def spec_l9Fits.f (k : Nat) (a0_0 : Int) (a0_1 : Bool) (l0_2 : List Int) (l1 : List Int) (a2 : Int) (l3 : List Int) (a4 : Int) : Option (Bool) := if 0 ≤ (l3.length : Int) then (if (l3.length : Int) < (l1.length : Int) then (if (rd l1 (l3.length : Int)) > a0_0 then (spec_l9Fits.j0 k l1 a2 l3 a4 (rd l1 (l3.length : Int)) true a0_0 a0_1 l0_2) else ((spec_l1In.f a4 0 (wrap64 (a0_0 - (rd l1 (l3.length : Int))))).bind fun t121 => (spec_l9Fits.j0 k l1 a2 l3 a4 (rd l1 (l3.length : Int)) (!t121) a0_0 a0_1 l0_2))) else (none)) else (none)
set_option maxHeartbeats 8000000 in
set_option maxRecDepth 100000 in
theorem spec_l9Fits.calls (k : Nat) (a0_0 : Int) (a0_1 : Bool) (A0_2 : Option Addr) (c0_2 : Nat) (l0_2 : List Int) (A1 : Option Addr) (c1 : Nat) (l1 : List Int) (a2 : Int) (A3 : Option Addr) (c3 : Nat) (l3 : List Int) (a4 : Int) (r : Bool) (w : World) (hr0_2 : Kd.C (Kd.int .i64) w A0_2 l0_2.length l0_2) (hc0_2 : l0_2.length ≤ c0_2) (hr1 : Kd.C (Kd.int .i64) w A1 l1.length l1) (hc1 : l1.length ≤ c1) (hr3 : Kd.C (Kd.int .i64) w A3 l3.length l3) (hc3 : l3.length ≤ c3) (h : spec_l9Fits.f k a0_0 a0_1 l0_2 l1 a2 l3 a4 = some r) :
  Calls Tryd.prog 47 #[.agg #[.int .i64 a0_0, .bool a0_1, .slice A0_2 l0_2.length c0_2], .slice A1 l1.length c1, .int .i64 a2, .slice A3 l3.length c3, .int .i64 a4] w fun e w' => e = .returned (.bool r) ∧ Below w.heap.size w w' := by
 have hu26 := Tryd.underlying26
 have HR0_2 := am hr0_2
 have HC0_2 := am hc0_2
 clear hr0_2 hc0_2
 have HR1 := am hr1
 have HC1 := am hc1
 clear hr1 hc1
 have HR3 := am hr3
 have HC3 := am hc3
 clear hr3 hc3
 have HB := am (Below.refl w.heap.size w)
 have H : (if 0 ≤ (l3.length : Int) then (if (l3.length : Int) < (l1.length : Int) then (if (rd l1 (l3.length : Int)) > a0_0 then (spec_l9Fits.j0 k l1 a2 l3 a4 (rd l1 (l3.length : Int)) true a0_0 a0_1 l0_2) else ((spec_l1In.f a4 0 (wrap64 (a0_0 - (rd l1 (l3.length : Int))))).bind fun t121 => (spec_l9Fits.j0 k l1 a2 l3 a4 (rd l1 (l3.length : Int)) (!t121) a0_0 a0_1 l0_2))) else (none)) else (none)) = some r := h
 clear h
 by_cases c6 : 0 ≤ (l3.length : Int)
 ·rw [if_pos c6] at H
  have c6b0 : decide (0 ≤ (l3.length : Int)) = true := decide_eq_true c6
  have c6b1 : decide (0 ≤ l3.length) = true := decide_eq_true (by omega)
  clear c6
  by_cases c7 : (l3.length : Int) < (l1.length : Int)
  ·rw [if_pos c7] at H
   have c7b0 : decide ((l3.length : Int) < (l1.length : Int)) = true := decide_eq_true c7
   have c7b1 : decide (l3.length < l1.length) = true := decide_eq_true (Int.ofNat_lt.mp c7)
   clear c7
   have HC8 := am H
   clear H
   go_enter Tryd.func47, Tryd.ntmps47
   go_upto_region 2 with (first | ((with_reducible refine gate_dst (N := 5) rfl ?_); refine box_event ?hg (N := 5) ?hd (cs := #[.int .i64 a0_0, .bool a0_1, .slice A0_2 l0_2.length c0_2]) (t := 26) ?hr ?_; (case hd => rfl); (case hg => rfl); (case hr => first | (go_simp; done) | (go_simp; rfl)); intro gb119 hg w9 hbox hb; have BK119 := am (hbox); have GW119 := am ((by rw [hg]; exact (below_size (pkB HB)) : w.heap.size ≤ gb119)); have GE119 := am ((by rw [hg]; exact (below_size (pkB HB)) : w.heap.size ≤ gb119)); replace HB := am (below_step (pkB HB) hb); clear hb hbox hg; have p120 : 0 ≤ ((l3.length : Int) : Int) := of_decide_eq_true (by first | (with_reducible assumption) | assumption); have q120 : (l3.length : Int) < (l1.length : Int) := of_decide_eq_true (by first | (with_reducible assumption) | assumption); obtain ⟨ad120, e120, hx120_0⟩ := Kd.at_int HR1.out (l3.length : Int) p120 q120; cases e120; (try replace hx120_0 := (HB.out.cell (World.block_lt_of_cell? w _ hx120_0)).trans hx120_0); (try simp only [Go.IntWalk.toNatUp] at hx120_0); replace p120 := eq_true p120; replace q120 := eq_true q120))
   repeat (go_quiet (first | ((with_reducible refine gate_dst (N := 5) rfl ?_); refine box_event ?hg (N := 5) ?hd (cs := #[.int .i64 a0_0, .bool a0_1, .slice A0_2 l0_2.length c0_2]) (t := 26) ?hr ?_; (case hd => rfl); (case hg => rfl); (case hr => first | (go_simp; done) | (go_simp; rfl)); intro gb119 hg w9 hbox hb; replace HB := am (below_step (pkB HB) hb); have BK119 := am (hbox); have GW119 := am ((by rw [hg]; exact (below_size (pkB HB)) : w.heap.size ≤ gb119)); have GE119 := am ((by rw [hg]; exact (below_size (pkB HB)) : w.heap.size ≤ gb119)); clear hb hbox hg; have p120 : 0 ≤ ((l3.length : Int) : Int) := of_decide_eq_true (by first | (with_reducible assumption) | assumption); have q120 : (l3.length : Int) < (l1.length : Int) := of_decide_eq_true (by first | (with_reducible assumption) | assumption); obtain ⟨ad120, e120, hx120_0⟩ := Kd.at_int HR1.out (l3.length : Int) p120 q120; cases e120; (try replace hx120_0 := (HB.out.cell (World.block_lt_of_cell? w _ hx120_0)).trans hx120_0); (try simp only [Go.IntWalk.toNatUp] at hx120_0); replace p120 := eq_true p120; replace q120 := eq_true q120)); go_upto_region 2 with (first | ((with_reducible refine gate_dst (N := 5) rfl ?_); refine box_event ?hg (N := 5) ?hd (cs := #[.int .i64 a0_0, .bool a0_1, .slice A0_2 l0_2.length c0_2]) (t := 26) ?hr ?_; (case hd => rfl); (case hg => rfl); (case hr => first | (go_simp; done) | (go_simp; rfl)); intro gb119 hg w9 hbox hb; replace HB := am (below_step (pkB HB) hb); have BK119 := am (hbox); have GW119 := am ((by rw [hg]; exact (below_size (pkB HB)) : w.heap.size ≤ gb119)); have GE119 := am ((by rw [hg]; exact (below_size (pkB HB)) : w.heap.size ≤ gb119)); clear hb hbox hg; have p120 : 0 ≤ ((l3.length : Int) : Int) := of_decide_eq_true (by first | (with_reducible assumption) | assumption); have q120 : (l3.length : Int) < (l1.length : Int) := of_decide_eq_true (by first | (with_reducible assumption) | assumption); obtain ⟨ad120, e120, hx120_0⟩ := Kd.at_int HR1.out (l3.length : Int) p120 q120; cases e120; (try replace hx120_0 := (HB.out.cell (World.block_lt_of_cell? w _ hx120_0)).trans hx120_0); (try simp only [Go.IntWalk.toNatUp] at hx120_0); replace p120 := eq_true p120; replace q120 := eq_true q120)))
   (try simp only [Act.put, List.setIfInBounds_toArray, List.set_cons_zero, List.set_cons_succ])
   go_cut [31] (fun v31 wc => ∃ (kq : Nat) (x31_7 : Bool), v31 = .bool x31_7 ∧ Aside0 (spec_l9Fits.j0 kq l1 a2 l3 a4 (rd l1 (l3.length : Int)) x31_7 a0_0 a0_1 l0_2 = some r) ∧ Aside0 (kq ≤ k) ∧ Aside0 (wc.heap[gb119]? = some (.cells #[.int .i64 a0_0, .bool a0_1, (.slice A0_2 l0_2.length c0_2)] 26 (0, 0))) ∧ Aside0 (Below w.heap.size w wc))
   case first =>
    have H := HC8.out
    clear HC8
    by_cases c10 : (rd l1 (l3.length : Int)) > a0_0
    ·rw [if_pos c10] at H
     have c10b0 : decide (a0_0 < (rd l1 (l3.length : Int))) = true := decide_eq_true c10
     clear c10
     (first | rw [c10b0] | (simp only [i64_w, i32_w]; rw [c10b0]) | rw [c10b1] | skip)
     have H' := am H
     clear H
     obtain ⟨hcz11_0, hcz11_1, hcz11_2⟩ := bc3 BK119.out
     obtain ⟨hfz11_0, hfz11_1, hfz11_2⟩ := bf3 BK119.out
     go_wp2
     repeat (go_quiet (fail); try go_wp2)
     go_meet
     case rel => exact ⟨_, (true), (by first | rfl | (simp; done) | (simp [*]; done)), H', ⟨by first | omega | exact Nat.le_refl _⟩, ⟨pkC BK119⟩, ⟨pkB HB⟩⟩
    ·rw [if_neg c10] at H
     have c10b0 : decide (a0_0 < (rd l1 (l3.length : Int))) = false := decide_eq_false c10
     clear c10
     (first | rw [c10b0] | (simp only [i64_w, i32_w]; rw [c10b0]) | rw [c10b1] | skip)
     replace H := Option.bind_eq_some_iff.mp H
     obtain ⟨t121, A120, H⟩ := H
     try dsimp only at H
     have A12 := am A120
     clear A120
     have H' := am H
     clear H
     obtain ⟨hcz13_0, hcz13_1, hcz13_2⟩ := bc3 BK119.out
     obtain ⟨hfz13_0, hfz13_1, hfz13_2⟩ := bf3 BK119.out
     go_wp2_with (first | (go_at_call 46; (with_reducible refine (spec_l1In.calls a4 0 (wrap64 (a0_0 - (rd l1 (l3.length : Int)))) t121 _ A12.out).mono ?_); rintro e w' ⟨rfl, ⟨nd, rfl⟩⟩; (try first | exact ⟨rfl, _, World.drewN_drewN _ _ _⟩ | exact ⟨rfl, _, Eq.trans (World.drewN_drewN _ _ _) (congrArg (World.drewN _) (Nat.add_assoc _ _ _))⟩)))
     repeat (go_quiet (first | (go_at_call 46; (with_reducible refine (spec_l1In.calls a4 0 (wrap64 (a0_0 - (rd l1 (l3.length : Int)))) t121 _ A12.out).mono ?_); rintro e w' ⟨rfl, ⟨nd, rfl⟩⟩; (try first | exact ⟨rfl, _, World.drewN_drewN _ _ _⟩ | exact ⟨rfl, _, Eq.trans (World.drewN_drewN _ _ _) (congrArg (World.drewN _) (Nat.add_assoc _ _ _))⟩))); try go_wp2_with (first | (go_at_call 46; (with_reducible refine (spec_l1In.calls a4 0 (wrap64 (a0_0 - (rd l1 (l3.length : Int)))) t121 _ A12.out).mono ?_); rintro e w' ⟨rfl, ⟨nd, rfl⟩⟩; (try first | exact ⟨rfl, _, World.drewN_drewN _ _ _⟩ | exact ⟨rfl, _, Eq.trans (World.drewN_drewN _ _ _) (congrArg (World.drewN _) (Nat.add_assoc _ _ _))⟩))))
     go_meet
     case rel => exact ⟨_, (!t121), (by first | rfl | (simp; done) | (simp [*]; done)), H', ⟨by first | omega | exact Nat.le_refl _⟩, ⟨pkC BK119⟩, ⟨pkB HB⟩⟩
   case rest =>
    clear HC8
    try clear c1
    try clear p1
    try clear q1
    try clear hx1
    try clear p2
    try clear c3
    try clear c4
    try clear c6
    try clear c6b0
    try clear c6b1
    try clear p6
    try clear c7
    try clear c7b0
    try clear c7b1
    try clear c10
    try clear c10b0
    try clear c10b1
    try clear p12
    try clear q12
    try clear hx12
    try clear hcz11_0
    try clear hcz11_1
    try clear hcz11_2
    try clear hcz13_0
    try clear hcz13_1
    try clear hcz13_2
    try clear hfz11_0
    try clear hfz11_1
    try clear hfz11_2
    try clear hfz13_0
    try clear hfz13_1
    try clear hfz13_2
    try clear hx120_0
    try clear p120
    try clear q120
    obtain ⟨kq, x31_7, rfl, HA, HJ7, BK119, HB⟩ := hcut
    cases kq with
    | zero => exact absurd HA.out (by simp [spec_l9Fits.j0])
    | succ kj7 =>
     have H := HA.out
     clear HA
     simp only [spec_l9Fits.j0] at H
     by_cases c14 : x31_7 = true
     ·subst c14
      rw [if_pos rfl] at H
      obtain rfl := Option.some.inj H
      go_wp2
      repeat (go_quiet (fail); try go_wp2)
      go_ret
      exact ⟨by first | rfl | (simp [*]; done), pkB HB⟩
     ·replace c14 := Bool.eq_false_iff.mpr c14
      subst c14
      rw [if_neg (show ¬ (false = true) by decide)] at H
      replace H := Option.bind_eq_some_iff.mp H
      obtain ⟨t122, A150, H⟩ := H
      try dsimp only at H
      have A15 := am A150
      clear A150
      have H' := am H
      clear H
      obtain ⟨hcz16_0, hcz16_1, hcz16_2⟩ := bc3 BK119.out
      obtain ⟨hfz16_0, hfz16_1, hfz16_2⟩ := bf3 BK119.out
      go_wp2_with (first | (go_at_call 54; (with_reducible refine (spec_l1Least.calls a2 a0_0 t122 _ A15.out).mono ?_); rintro e w' ⟨rfl, ⟨nd, rfl⟩⟩; (try first | exact ⟨rfl, _, World.drewN_drewN _ _ _⟩ | exact ⟨rfl, _, Eq.trans (World.drewN_drewN _ _ _) (congrArg (World.drewN _) (Nat.add_assoc _ _ _))⟩)))
      repeat (go_quiet (first | (go_at_call 54; (with_reducible refine (spec_l1Least.calls a2 a0_0 t122 _ A15.out).mono ?_); rintro e w' ⟨rfl, ⟨nd, rfl⟩⟩; (try first | exact ⟨rfl, _, World.drewN_drewN _ _ _⟩ | exact ⟨rfl, _, Eq.trans (World.drewN_drewN _ _ _) (congrArg (World.drewN _) (Nat.add_assoc _ _ _))⟩))); try go_wp2_with (first | (go_at_call 54; (with_reducible refine (spec_l1Least.calls a2 a0_0 t122 _ A15.out).mono ?_); rintro e w' ⟨rfl, ⟨nd, rfl⟩⟩; (try first | exact ⟨rfl, _, World.drewN_drewN _ _ _⟩ | exact ⟨rfl, _, Eq.trans (World.drewN_drewN _ _ _) (congrArg (World.drewN _) (Nat.add_assoc _ _ _))⟩))))
      go_loopg [12] kj7 (fun kq v12 w' => ∃ (x12_2 : Int), v12 = .int .i64 x12_2 ∧ Aside0 (spec_l9Fits.l0 kq l1 t122 l3 a4 (rd l1 (l3.length : Int)) x12_2 a0_0 a0_1 l0_2 = some r) ∧ Aside0 (kq ≤ kj7) ∧ Aside0 (w'.heap[gb119]? = some (.cells #[.int .i64 a0_0, .bool a0_1, (.slice A0_2 l0_2.length c0_2)] 26 (0, 0))) ∧ Aside0 (Below w.heap.size w w'))
      case atStart => exact ⟨(0), (by first | rfl | (simp; done) | (simp [*]; done)), H', ⟨Nat.le_refl _⟩, ⟨pkC BK119⟩, ⟨pkB HB⟩⟩
      case round =>
       clear H'
       try clear c1
       try clear p1
       try clear q1
       try clear hx1
       try clear p2
       try clear c3
       try clear c4
       try clear c6
       try clear c6b0
       try clear c6b1
       try clear p6
       try clear c7
       try clear c7b0
       try clear c7b1
       try clear c10
       try clear c10b0
       try clear c10b1
       try clear p12
       try clear q12
       try clear hx12
       try clear c14
       try clear hcz11_0
       try clear hcz11_1
       try clear hcz11_2
       try clear hcz13_0
       try clear hcz13_1
       try clear hcz13_2
       try clear hcz16_0
       try clear hcz16_1
       try clear hcz16_2
       try clear hfz11_0
       try clear hfz11_1
       try clear hfz11_2
       try clear hfz13_0
       try clear hfz13_1
       try clear hfz13_2
       try clear hfz16_0
       try clear hfz16_1
       try clear hfz16_2
       try clear hx120_0
       try clear p1
       try clear p12
       try clear p120
       try clear p2
       try clear p6
       try clear q1
       try clear q12
       try clear q120
       obtain ⟨x12_2, rfl, HA, HK2, BK119, HB⟩ := hrel
       cases gk with
       | zero => exact absurd HA.out (by simp [spec_l9Fits.l0])
       | succ k2 =>
        have H := HA.out
        clear HA
        simp only [spec_l9Fits.l0] at H
        by_cases c17 : x12_2 < (l0_2.length : Int)
        ·rw [if_pos c17] at H
         have c17b0 : decide (x12_2 < (l0_2.length : Int)) = true := decide_eq_true c17
         clear c17
         by_cases c18 : 0 ≤ x12_2
         ·rw [if_pos c18] at H
          have c18b0 : decide (0 ≤ x12_2) = true := decide_eq_true c18
          clear c18
          replace H := Option.bind_eq_some_iff.mp H
          obtain ⟨t124, A190, H⟩ := H
          try dsimp only at H
          have A19 := am A190
          clear A190
          by_cases c20 : t124 = true
          ·subst c20
           rw [if_pos rfl] at H
           obtain rfl := Option.some.inj H
           obtain ⟨hcz21_0, hcz21_1, hcz21_2⟩ := bc3 BK119.out
           obtain ⟨hfz21_0, hfz21_1, hfz21_2⟩ := bf3 BK119.out
           have p123 : 0 ≤ (x12_2 : Int) := of_decide_eq_true (by first | (with_reducible assumption) | assumption)
           have q123 : x12_2 < (l0_2.length : Int) := of_decide_eq_true (by first | (with_reducible assumption) | assumption)
           obtain ⟨ad123, e123, hx123_0⟩ := Kd.at_int HR0_2.out x12_2 p123 q123
           cases e123
           (try replace hx123_0 := (HB.out.cell (World.block_lt_of_cell? w _ hx123_0)).trans hx123_0)
           replace p123 := eq_true p123
           replace q123 := eq_true q123
           go_wp2_with (first | (go_at_call 46; (with_reducible refine (spec_l1In.calls (rd l0_2 x12_2) (wrap64 (a4 - t122)) (wrap64 ((wrap64 ((wrap64 (a4 + (rd l1 (l3.length : Int)))) - 1)) + t122)) true _ A19.out).mono ?_); rintro e w' ⟨rfl, ⟨nd, rfl⟩⟩; (try first | exact ⟨rfl, _, World.drewN_drewN _ _ _⟩ | exact ⟨rfl, _, Eq.trans (World.drewN_drewN _ _ _) (congrArg (World.drewN _) (Nat.add_assoc _ _ _))⟩)))
           repeat (go_quiet (first | (go_at_call 46; (with_reducible refine (spec_l1In.calls (rd l0_2 x12_2) (wrap64 (a4 - t122)) (wrap64 ((wrap64 ((wrap64 (a4 + (rd l1 (l3.length : Int)))) - 1)) + t122)) true _ A19.out).mono ?_); rintro e w' ⟨rfl, ⟨nd, rfl⟩⟩; (try first | exact ⟨rfl, _, World.drewN_drewN _ _ _⟩ | exact ⟨rfl, _, Eq.trans (World.drewN_drewN _ _ _) (congrArg (World.drewN _) (Nat.add_assoc _ _ _))⟩))); try go_wp2_with (first | (go_at_call 46; (with_reducible refine (spec_l1In.calls (rd l0_2 x12_2) (wrap64 (a4 - t122)) (wrap64 ((wrap64 ((wrap64 (a4 + (rd l1 (l3.length : Int)))) - 1)) + t122)) true _ A19.out).mono ?_); rintro e w' ⟨rfl, ⟨nd, rfl⟩⟩; (try first | exact ⟨rfl, _, World.drewN_drewN _ _ _⟩ | exact ⟨rfl, _, Eq.trans (World.drewN_drewN _ _ _) (congrArg (World.drewN _) (Nat.add_assoc _ _ _))⟩))))
           go_ret
           exact ⟨by first | rfl | (simp [*]; done), pkB HB⟩
          ·replace c20 := Bool.eq_false_iff.mpr c20
           subst c20
           rw [if_neg (show ¬ (false = true) by decide)] at H
           have H' := am H
           clear H
           obtain ⟨hcz22_0, hcz22_1, hcz22_2⟩ := bc3 BK119.out
           obtain ⟨hfz22_0, hfz22_1, hfz22_2⟩ := bf3 BK119.out
           have p123 : 0 ≤ (x12_2 : Int) := of_decide_eq_true (by first | (with_reducible assumption) | assumption)
           have q123 : x12_2 < (l0_2.length : Int) := of_decide_eq_true (by first | (with_reducible assumption) | assumption)
           obtain ⟨ad123, e123, hx123_0⟩ := Kd.at_int HR0_2.out x12_2 p123 q123
           cases e123
           (try replace hx123_0 := (HB.out.cell (World.block_lt_of_cell? w _ hx123_0)).trans hx123_0)
           replace p123 := eq_true p123
           replace q123 := eq_true q123
           go_wp2_with (first | (go_at_call 46; (with_reducible refine (spec_l1In.calls (rd l0_2 x12_2) (wrap64 (a4 - t122)) (wrap64 ((wrap64 ((wrap64 (a4 + (rd l1 (l3.length : Int)))) - 1)) + t122)) false _ A19.out).mono ?_); rintro e w' ⟨rfl, ⟨nd, rfl⟩⟩; (try first | exact ⟨rfl, _, World.drewN_drewN _ _ _⟩ | exact ⟨rfl, _, Eq.trans (World.drewN_drewN _ _ _) (congrArg (World.drewN _) (Nat.add_assoc _ _ _))⟩)))
           repeat (go_quiet (first | (go_at_call 46; (with_reducible refine (spec_l1In.calls (rd l0_2 x12_2) (wrap64 (a4 - t122)) (wrap64 ((wrap64 ((wrap64 (a4 + (rd l1 (l3.length : Int)))) - 1)) + t122)) false _ A19.out).mono ?_); rintro e w' ⟨rfl, ⟨nd, rfl⟩⟩; (try first | exact ⟨rfl, _, World.drewN_drewN _ _ _⟩ | exact ⟨rfl, _, Eq.trans (World.drewN_drewN _ _ _) (congrArg (World.drewN _) (Nat.add_assoc _ _ _))⟩))); try go_wp2_with (first | (go_at_call 46; (with_reducible refine (spec_l1In.calls (rd l0_2 x12_2) (wrap64 (a4 - t122)) (wrap64 ((wrap64 ((wrap64 (a4 + (rd l1 (l3.length : Int)))) - 1)) + t122)) false _ A19.out).mono ?_); rintro e w' ⟨rfl, ⟨nd, rfl⟩⟩; (try first | exact ⟨rfl, _, World.drewN_drewN _ _ _⟩ | exact ⟨rfl, _, Eq.trans (World.drewN_drewN _ _ _) (congrArg (World.drewN _) (Nat.add_assoc _ _ _))⟩))))
           go_roundg k2
           case measure => have := HJ7.out; have := HK2.out; omega
           case rel => exact ⟨(wrap64 (x12_2 + 1)), (by first | rfl | (simp; done) | (simp [*]; done)), H', ⟨by have := HJ7.out; have := HK2.out; omega⟩, ⟨pkC BK119⟩, ⟨pkB HB⟩⟩
         ·rw [if_neg c18] at H
          exact absurd H (by simp)
        ·rw [if_neg c17] at H
         have c17b0 : decide (x12_2 < (l0_2.length : Int)) = false := decide_eq_false c17
         clear c17
         have H' := am H
         clear H
         obtain ⟨hcz23_0, hcz23_1, hcz23_2⟩ := bc3 BK119.out
         obtain ⟨hfz23_0, hfz23_1, hfz23_2⟩ := bf3 BK119.out
         go_wp2
         repeat (go_quiet (fail); try go_wp2)
         go_loopg [13] k2 (fun kq v13 w' => ∃ (x13_3 : Int), v13 = .int .i64 x13_3 ∧ Aside0 (spec_l9Fits.l1 kq l1 t122 l3 a4 (rd l1 (l3.length : Int)) x13_3 = some r) ∧ Aside0 (kq ≤ k2) ∧ Aside0 (w'.heap[gb119]? = some (.cells #[.int .i64 a0_0, .bool a0_1, (.slice A0_2 l0_2.length c0_2)] 26 (0, 0))) ∧ Aside0 (Below w.heap.size w w'))
         case atStart => exact ⟨(0), (by first | rfl | (simp; done) | (simp [*]; done)), H', ⟨Nat.le_refl _⟩, ⟨pkC BK119⟩, ⟨pkB HB⟩⟩
         case round =>
          clear H'
          try clear c1
          try clear p1
          try clear q1
          try clear hx1
          try clear c2
          try clear p2
          try clear c3
          try clear c4
          try clear c6
          try clear c6b0
          try clear c6b1
          try clear p6
          try clear c7
          try clear c7b0
          try clear c7b1
          try clear c10
          try clear c10b0
          try clear c10b1
          try clear p12
          try clear q12
          try clear hx12
          try clear c14
          try clear c17
          try clear c17b0
          try clear c18
          try clear c18b0
          try clear c20
          try clear hcz11_0
          try clear hcz11_1
          try clear hcz11_2
          try clear hcz13_0
          try clear hcz13_1
          try clear hcz13_2
          try clear hcz16_0
          try clear hcz16_1
          try clear hcz16_2
          try clear hcz21_0
          try clear hcz21_1
          try clear hcz21_2
          try clear hcz22_0
          try clear hcz22_1
          try clear hcz22_2
          try clear hcz23_0
          try clear hcz23_1
          try clear hcz23_2
          try clear hfz11_0
          try clear hfz11_1
          try clear hfz11_2
          try clear hfz13_0
          try clear hfz13_1
          try clear hfz13_2
          try clear hfz16_0
          try clear hfz16_1
          try clear hfz16_2
          try clear hfz21_0
          try clear hfz21_1
          try clear hfz21_2
          try clear hfz22_0
          try clear hfz22_1
          try clear hfz22_2
          try clear hfz23_0
          try clear hfz23_1
          try clear hfz23_2
          try clear hx120_0
          try clear hx123_0
          try clear p1
          try clear p12
          try clear p120
          try clear p123
          try clear p2
          try clear p6
          try clear q1
          try clear q12
          try clear q120
          try clear q123
          obtain ⟨x13_3, rfl, HA, HK3, BK119, HB⟩ := hrel
          cases gk with
          | zero => exact absurd HA.out (by simp [spec_l9Fits.l1])
          | succ k3 =>
           have H := HA.out
           clear HA
           simp only [spec_l9Fits.l1] at H
           by_cases c24 : x13_3 < (l3.length : Int)
           ·rw [if_pos c24] at H
            have c24b0 : decide (x13_3 < (l3.length : Int)) = true := decide_eq_true c24
            clear c24
            by_cases c25 : 0 ≤ x13_3
            ·rw [if_pos c25] at H
             have c25b0 : decide (0 ≤ x13_3) = true := decide_eq_true c25
             clear c25
             by_cases c26 : (rd l3 x13_3) ≤ (wrap64 ((wrap64 ((wrap64 (a4 + (rd l1 (l3.length : Int)))) - 1)) + t122))
             ·rw [if_pos c26] at H
              have c26b0 : decide ((rd l3 x13_3) ≤ (wrap64 ((wrap64 ((wrap64 (a4 + (rd l1 (l3.length : Int)))) - 1)) + t122))) = true := decide_eq_true c26
              clear c26
              by_cases c27 : x13_3 < (l1.length : Int)
              ·rw [if_pos c27] at H
               have c27b0 : decide (x13_3 < (l1.length : Int)) = true := decide_eq_true c27
               clear c27
               by_cases c28 : a4 ≤ (wrap64 ((wrap64 ((wrap64 ((rd l3 x13_3) + (rd l1 x13_3))) - 1)) + t122))
               ·rw [if_pos c28] at H
                have c28b0 : decide (a4 ≤ (wrap64 ((wrap64 ((wrap64 ((rd l3 x13_3) + (rd l1 x13_3))) - 1)) + t122))) = true := decide_eq_true c28
                clear c28
                obtain rfl := Option.some.inj H
                have p125 : 0 ≤ (x13_3 : Int) := of_decide_eq_true (by first | (with_reducible assumption) | assumption)
                have q125 : x13_3 < (l3.length : Int) := of_decide_eq_true (by first | (with_reducible assumption) | assumption)
                obtain ⟨ad125, e125, hx125_0⟩ := Kd.at_int HR3.out x13_3 p125 q125
                cases e125
                (try replace hx125_0 := (HB.out.cell (World.block_lt_of_cell? w _ hx125_0)).trans hx125_0)
                replace p125 := eq_true p125
                replace q125 := eq_true q125
                have p126 : 0 ≤ (x13_3 : Int) := of_decide_eq_true (by first | (with_reducible assumption) | assumption)
                have q126 : x13_3 < (l3.length : Int) := of_decide_eq_true (by first | (with_reducible assumption) | assumption)
                obtain ⟨ad126, e126, hx126_0⟩ := Kd.at_int HR3.out x13_3 p126 q126
                obtain rfl : ad125 = ad126 := (by injection e126)
                (try replace hx126_0 := (HB.out.cell (World.block_lt_of_cell? w _ hx126_0)).trans hx126_0)
                replace p126 := eq_true p126
                replace q126 := eq_true q126
                have p127 : 0 ≤ (x13_3 : Int) := of_decide_eq_true (by first | (with_reducible assumption) | assumption)
                have q127 : x13_3 < (l1.length : Int) := of_decide_eq_true (by first | (with_reducible assumption) | assumption)
                obtain ⟨ad127, e127, hx127_0⟩ := Kd.at_int HR1.out x13_3 p127 q127
                obtain rfl : ad120 = ad127 := (by injection e127)
                (try replace hx127_0 := (HB.out.cell (World.block_lt_of_cell? w _ hx127_0)).trans hx127_0)
                replace p127 := eq_true p127
                replace q127 := eq_true q127
                go_wp2
                repeat (go_quiet (fail); try go_wp2)
                go_ret
                exact ⟨by first | rfl | (simp [*]; done), pkB HB⟩
               ·rw [if_neg c28] at H
                have c28b0 : decide (a4 ≤ (wrap64 ((wrap64 ((wrap64 ((rd l3 x13_3) + (rd l1 x13_3))) - 1)) + t122))) = false := decide_eq_false c28
                clear c28
                have H' := am H
                clear H
                have p125 : 0 ≤ (x13_3 : Int) := of_decide_eq_true (by first | (with_reducible assumption) | assumption)
                have q125 : x13_3 < (l3.length : Int) := of_decide_eq_true (by first | (with_reducible assumption) | assumption)
                obtain ⟨ad125, e125, hx125_0⟩ := Kd.at_int HR3.out x13_3 p125 q125
                cases e125
                (try replace hx125_0 := (HB.out.cell (World.block_lt_of_cell? w _ hx125_0)).trans hx125_0)
                replace p125 := eq_true p125
                replace q125 := eq_true q125
                have p126 : 0 ≤ (x13_3 : Int) := of_decide_eq_true (by first | (with_reducible assumption) | assumption)
                have q126 : x13_3 < (l3.length : Int) := of_decide_eq_true (by first | (with_reducible assumption) | assumption)
                obtain ⟨ad126, e126, hx126_0⟩ := Kd.at_int HR3.out x13_3 p126 q126
                obtain rfl : ad125 = ad126 := (by injection e126)
                (try replace hx126_0 := (HB.out.cell (World.block_lt_of_cell? w _ hx126_0)).trans hx126_0)
                replace p126 := eq_true p126
                replace q126 := eq_true q126
                have p127 : 0 ≤ (x13_3 : Int) := of_decide_eq_true (by first | (with_reducible assumption) | assumption)
                have q127 : x13_3 < (l1.length : Int) := of_decide_eq_true (by first | (with_reducible assumption) | assumption)
                obtain ⟨ad127, e127, hx127_0⟩ := Kd.at_int HR1.out x13_3 p127 q127
                obtain rfl : ad120 = ad127 := (by injection e127)
                (try replace hx127_0 := (HB.out.cell (World.block_lt_of_cell? w _ hx127_0)).trans hx127_0)
                replace p127 := eq_true p127
                replace q127 := eq_true q127
                go_wp2
                repeat (go_quiet (fail); try go_wp2)
                go_roundg k3
                case measure => have := HJ7.out; have := HK2.out; have := HK3.out; omega
                case rel => exact ⟨(wrap64 (x13_3 + 1)), (by first | rfl | (simp; done) | (simp [*]; done)), H', ⟨by have := HJ7.out; have := HK2.out; have := HK3.out; omega⟩, ⟨pkC BK119⟩, ⟨pkB HB⟩⟩
              ·rw [if_neg c27] at H
               exact absurd H (by simp)
             ·rw [if_neg c26] at H
              have c26b0 : decide ((rd l3 x13_3) ≤ (wrap64 ((wrap64 ((wrap64 (a4 + (rd l1 (l3.length : Int)))) - 1)) + t122))) = false := decide_eq_false c26
              clear c26
              have H' := am H
              clear H
              have p125 : 0 ≤ (x13_3 : Int) := of_decide_eq_true (by first | (with_reducible assumption) | assumption)
              have q125 : x13_3 < (l3.length : Int) := of_decide_eq_true (by first | (with_reducible assumption) | assumption)
              obtain ⟨ad125, e125, hx125_0⟩ := Kd.at_int HR3.out x13_3 p125 q125
              cases e125
              (try replace hx125_0 := (HB.out.cell (World.block_lt_of_cell? w _ hx125_0)).trans hx125_0)
              replace p125 := eq_true p125
              replace q125 := eq_true q125
              go_wp2
              repeat (go_quiet (fail); try go_wp2)
              go_roundg k3
              case measure => have := HJ7.out; have := HK2.out; have := HK3.out; omega
              case rel => exact ⟨(wrap64 (x13_3 + 1)), (by first | rfl | (simp; done) | (simp [*]; done)), H', ⟨by have := HJ7.out; have := HK2.out; have := HK3.out; omega⟩, ⟨pkC BK119⟩, ⟨pkB HB⟩⟩
            ·rw [if_neg c25] at H
             exact absurd H (by simp)
           ·rw [if_neg c24] at H
            have c24b0 : decide (x13_3 < (l3.length : Int)) = false := decide_eq_false c24
            clear c24
            obtain rfl := Option.some.inj H
            go_wp2
            repeat (go_quiet (fail); try go_wp2)
            go_ret
            exact ⟨by first | rfl | (simp [*]; done), pkB HB⟩
  ·rw [if_neg c7] at H
   exact absurd H (by simp)
 ·rw [if_neg c6] at H
  exact absurd H (by simp)

end Go.Proofs.YtnoipklaebadeaaDoor.PFnPlacings
