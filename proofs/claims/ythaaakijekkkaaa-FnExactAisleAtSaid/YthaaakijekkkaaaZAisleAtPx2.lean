/- Proved: each Go function named here, called, comes to the answer of the Lean function beside it. Conditions: those that stand in each theorem. (Printed by this session's own turned copy of a printing program.) -/
import Derived.Test.YthaaakijekkkaaaZAisleAtPx0
import Derived.Test.YthaaakijekkkaaaZAisleAtPx1
namespace Go.Proofs.Ythaaakijekkkaaa.PFnExactAisleAt
open Go.RowKit Go.Proofs.YthaaakijekkkaaaW.PrintWords Go.Proofs.YthaaakijekkkaaaW.PrintLast Go.Proofs.YthaaakijekkkaaaW.PrintMore
attribute [local go_sem] max2_int min2_int max_two min_two max_three min_three max_four min_four   -- for this text's walks alone
set_option linter.unusedVariables false
set_option linter.unusedSimpArgs false

attribute [local go_sem high] eqArr40
/-! ### spec_l7Ask: function 45 -/
def spec_l7Ask.f (k : Nat) (a0 : Int) (a1 : Int) (l2 : List Int) : Option (Bool) := (spec_l7Rows.f a0 a1).bind fun t118 => (if t118 = true then ((spec_l7Order.f k a0 l2).bind fun t119 => (some t119)) else (some false))
set_option maxHeartbeats 8000000 in
set_option maxRecDepth 100000 in
theorem spec_l7Ask.calls (k : Nat) (a0 : Int) (a1 : Int) (A2 : Option Addr) (c2 : Nat) (l2 : List Int) (r : Bool) (w : World) (hr2 : Kd.C (Kd.int .i64) w A2 l2.length l2) (hc2 : l2.length ≤ c2) (h : spec_l7Ask.f k a0 a1 l2 = some r) :
    Calls Try.prog 45 #[.int .i64 a0, .int .i64 a1, .slice A2 l2.length c2] w fun e w' => e = .returned (.bool r) ∧ Drawn0 w w' := by
  have HR2 := Aside0.mk hr2
  have HC2 := Aside0.mk hc2
  clear hr2 hc2
  have H : ((spec_l7Rows.f a0 a1).bind fun t118 => (if t118 = true then ((spec_l7Order.f k a0 l2).bind fun t119 => (some t119)) else (some false))) = some r := h
  clear h
  replace H := Option.bind_eq_some_iff.mp H
  obtain ⟨t118, A40, H⟩ := H
  replace H : (if t118 = true then ((spec_l7Order.f k a0 l2).bind fun t119 => (some t119)) else (some false)) = some r := H
  have A4 := Aside0.mk A40
  clear A40
  by_cases c5 : t118 = true
  · subst c5
    have H1 : ((spec_l7Order.f k a0 l2).bind fun t119 => (some t119)) = some r := by rw [if_pos rfl] at H; exact H
    clear H
    have H := H1
    clear H1
    replace H := Option.bind_eq_some_iff.mp H
    obtain ⟨t119, A60, H⟩ := H
    replace H : (some t119) = some r := H
    have A6 := Aside0.mk A60
    clear A60
    obtain rfl := Option.some.inj H
    go_enter Try.func45, Try.ntmps45
    go_wp2_with (first | ((with_reducible refine gate_callee (f := 66) rfl ?_); refine goesL_ (some 9) rfl rfl Try.func66 (by kernel_rfl) rfl #[.int .i64 a0, .int .i64 a1] rfl (by (try simp only [List.map_toArray, List.map_cons, List.map_nil]); first | done | rfl | (simp only [List.length_drop, List.length_take]; rfl)) ?_; (with_reducible refine (spec_l7Rows.calls a0 a1 true _ A4.out).mono ?_); rintro e w' ⟨rfl, ⟨nd, rfl⟩⟩; refine ⟨_, rfl, ?_⟩) | (go_at_call 41; (with_reducible refine (spec_l7Order.calls k a0 _ _ l2 t119 _ ?side1 ?side2 A6.out).mono ?_); (case side1 => repeat (first | exact HR2.out | (with_reducible refine Kd.C_alloc ?_ _) | (with_reducible refine Kd.C_drewN ?_ _) | (with_reducible refine Kd.C_drew ?_))); (case side2 => exact HC2.out); rintro e w' ⟨rfl, ⟨nd, rfl⟩⟩))
    go_ret
    exact ⟨by first | rfl | (simp; done) | (simp [*]; done), by repeat (first | exact Drawn0.refl _ | apply Drawn0.step)⟩
  · replace c5 := Bool.eq_false_iff.mpr c5
    subst c5
    have H1 : (some false) = some r := by rw [if_neg (show ¬ (false = true) by decide)] at H; exact H
    clear H
    have H := H1
    clear H1
    obtain rfl := Option.some.inj H
    go_enter Try.func45, Try.ntmps45
    go_wp2_with (first | ((with_reducible refine gate_callee (f := 66) rfl ?_); refine goesL_ (some 9) rfl rfl Try.func66 (by kernel_rfl) rfl #[.int .i64 a0, .int .i64 a1] rfl (by (try simp only [List.map_toArray, List.map_cons, List.map_nil]); first | done | rfl | (simp only [List.length_drop, List.length_take]; rfl)) ?_; (with_reducible refine (spec_l7Rows.calls a0 a1 false _ A4.out).mono ?_); rintro e w' ⟨rfl, ⟨nd, rfl⟩⟩; refine ⟨_, rfl, ?_⟩))
    go_ret
    exact ⟨by first | rfl | (simp; done) | (simp [*]; done), by repeat (first | exact Drawn0.refl _ | apply Drawn0.step)⟩

/-! ### spec_l7Start: function 69 -/
def spec_l7Start.l0 : Nat → Int → Int → List Int → List Int → List Int → List Int → List Int → List Int → Option (List Int × List Int × List Int × List Int × List Int × List Int)
  | 0, _, _, _, _, _, _, _, _ => none
  | k + 1, x0, x4, x134000, x134001, x134002, x134003, x134004, x134005 => if x4 < x0 then (if x134000.length < 17592186044416 then (if x134001.length < 17592186044416 then (spec_l7Start.l0 k x0 (wrap64 (x4 + 1)) (x134000 ++ [(-1)]) (x134001 ++ [(-1)]) x134002 x134003 x134004 x134005) else (none)) else (none)) else (some (x134000, x134001, x134002, x134003, x134004, x134005))
def spec_l7Start.f (k : Nat) (a0 : Int) : Option (List Int × List Int × List Int × List Int × List Int × List Int) := if 0 ≤ a0 then (if (a0 : Int).toNat ≤ 35184372088832 then (spec_l7Start.l0 k a0 0 ([] : List Int) ([] : List Int) (List.replicate (a0 : Int).toNat 0) (List.replicate (a0 : Int).toNat 0) (List.replicate (a0 : Int).toNat 0) (List.replicate (a0 : Int).toNat 0)) else (none)) else (none)
def spec_l7Start.T1 : Bool × List (List Nat × List Nat) := (true, [([], []), ([0, 0], [0]), ([], []), ([2, 2], [2]), ([], []), ([4, 4], [4]), ([], []), ([6, 6], [6]), ([1, 3, 5, 7], [1, 3, 5, 7]), ([], []), ([9, 8, 0, 1, 2, 3, 4, 5, 6, 7, 8, 9], [8, 9])])
def spec_l7Start.B1 : List Nat := [0, 1, 0, 4, 0, 16, 0, 64, 255, 0, 1023]
theorem spec_l7Start.tab1 : rtab .any (opsOf Try.f69 1) = spec_l7Start.T1 := by kernel_rfl
theorem spec_l7Start.bits1 : waitsOk spec_l7Start.T1.2 spec_l7Start.B1 = true := by kernel_rfl
set_option maxHeartbeats 8000000 in
set_option maxRecDepth 100000 in
theorem spec_l7Start.calls (k : Nat) (a0 : Int) (r1 : List Int) (r2 : List Int) (r3 : List Int) (r4 : List Int) (r5 : List Int) (r6 : List Int) (w : World) (h : spec_l7Start.f k a0 = some (r1, r2, r3, r4, r5, r6)) :
    Calls Try.prog 69 #[.int .i64 a0] w fun e w' => ∃ v0_ v1_ v2_ v3_ v4_ v5_ : Value, e = .returned (.agg #[v0_, v1_, v2_, v3_, v4_, v5_]) ∧ Kd.R (Kd.int .i64) 3 w' w.heap.size (fun k_ => some k_ ≠ (v1_ : Value).ownBlock ∧ some k_ ≠ (v2_ : Value).ownBlock ∧ some k_ ≠ (v3_ : Value).ownBlock ∧ some k_ ≠ (v4_ : Value).ownBlock ∧ some k_ ≠ (v5_ : Value).ownBlock) v0_ r1 ∧ Kd.R (Kd.int .i64) 3 w' w.heap.size (fun k_ => some k_ ≠ (v0_ : Value).ownBlock ∧ some k_ ≠ (v2_ : Value).ownBlock ∧ some k_ ≠ (v3_ : Value).ownBlock ∧ some k_ ≠ (v4_ : Value).ownBlock ∧ some k_ ≠ (v5_ : Value).ownBlock) v1_ r2 ∧ Kd.R (Kd.int .i64) 3 w' w.heap.size (fun k_ => some k_ ≠ (v0_ : Value).ownBlock ∧ some k_ ≠ (v1_ : Value).ownBlock ∧ some k_ ≠ (v3_ : Value).ownBlock ∧ some k_ ≠ (v4_ : Value).ownBlock ∧ some k_ ≠ (v5_ : Value).ownBlock) v2_ r3 ∧ Kd.R (Kd.int .i64) 3 w' w.heap.size (fun k_ => some k_ ≠ (v0_ : Value).ownBlock ∧ some k_ ≠ (v1_ : Value).ownBlock ∧ some k_ ≠ (v2_ : Value).ownBlock ∧ some k_ ≠ (v4_ : Value).ownBlock ∧ some k_ ≠ (v5_ : Value).ownBlock) v3_ r4 ∧ Kd.R (Kd.int .i64) 3 w' w.heap.size (fun k_ => some k_ ≠ (v0_ : Value).ownBlock ∧ some k_ ≠ (v1_ : Value).ownBlock ∧ some k_ ≠ (v2_ : Value).ownBlock ∧ some k_ ≠ (v3_ : Value).ownBlock ∧ some k_ ≠ (v5_ : Value).ownBlock) v4_ r5 ∧ Kd.R (Kd.int .i64) 3 w' w.heap.size (fun k_ => some k_ ≠ (v0_ : Value).ownBlock ∧ some k_ ≠ (v1_ : Value).ownBlock ∧ some k_ ≠ (v2_ : Value).ownBlock ∧ some k_ ≠ (v3_ : Value).ownBlock ∧ some k_ ≠ (v4_ : Value).ownBlock) v5_ r6 ∧ Below w.heap.size w w' := by
  have hu58 := Try.underlying58
  have HB := Aside0.mk (Below.refl w.heap.size w)
  have H : (if 0 ≤ a0 then (if (a0 : Int).toNat ≤ 35184372088832 then (spec_l7Start.l0 k a0 0 ([] : List Int) ([] : List Int) (List.replicate (a0 : Int).toNat 0) (List.replicate (a0 : Int).toNat 0) (List.replicate (a0 : Int).toNat 0) (List.replicate (a0 : Int).toNat 0)) else (none)) else (none)) = some (r1, r2, r3, r4, r5, r6) := h
  clear h
  by_cases c2 : 0 ≤ a0
  · rw [if_pos c2] at H
    have c2b0 := eq_true c2
    have c2b1 : decide (0 ≤ a0) = true := decide_eq_true c2
    clear c2
    by_cases c3 : (a0 : Int).toNat ≤ 35184372088832
    · rw [if_pos c3] at H
      have c3b0 := eq_true c3
      have c3b1 : decide ((a0 : Int).toNat ≤ 35184372088832) = true := decide_eq_true c3
      clear c3
      obtain ⟨y121, hy121⟩ : ∃ y_ : List Int, y_ = (List.replicate (a0 : Int).toNat 0) := ⟨_, rfl⟩
      replace H : (spec_l7Start.l0 k a0 0 ([] : List Int) ([] : List Int) y121 (List.replicate (a0 : Int).toNat 0) (List.replicate (a0 : Int).toNat 0) (List.replicate (a0 : Int).toNat 0)) = some (r1, r2, r3, r4, r5, r6) := by first | (rw [hy121]; with_reducible exact H) | (have H2_ := (Option.bind_some _ _).symm.trans H; rw [hy121]; with_reducible exact H2_) | (have H2_ := (Option.bind_some _ _).symm.trans H; with_reducible exact H2_) | with_reducible exact H | (rw [hy121]; exact H) | exact H
      have Ny121 := Aside0.mk hy121
      clear hy121
      obtain ⟨y124, hy124⟩ : ∃ y_ : List Int, y_ = (List.replicate (a0 : Int).toNat 0) := ⟨_, rfl⟩
      replace H : (spec_l7Start.l0 k a0 0 ([] : List Int) ([] : List Int) y121 y124 (List.replicate (a0 : Int).toNat 0) (List.replicate (a0 : Int).toNat 0)) = some (r1, r2, r3, r4, r5, r6) := by first | (rw [hy124]; with_reducible exact H) | (have H2_ := (Option.bind_some _ _).symm.trans H; rw [hy124]; with_reducible exact H2_) | (have H2_ := (Option.bind_some _ _).symm.trans H; with_reducible exact H2_) | with_reducible exact H | (rw [hy124]; exact H) | exact H
      have Ny124 := Aside0.mk hy124
      clear hy124
      obtain ⟨y127, hy127⟩ : ∃ y_ : List Int, y_ = (List.replicate (a0 : Int).toNat 0) := ⟨_, rfl⟩
      replace H : (spec_l7Start.l0 k a0 0 ([] : List Int) ([] : List Int) y121 y124 y127 (List.replicate (a0 : Int).toNat 0)) = some (r1, r2, r3, r4, r5, r6) := by first | (rw [hy127]; with_reducible exact H) | (have H2_ := (Option.bind_some _ _).symm.trans H; rw [hy127]; with_reducible exact H2_) | (have H2_ := (Option.bind_some _ _).symm.trans H; with_reducible exact H2_) | with_reducible exact H | (rw [hy127]; exact H) | exact H
      have Ny127 := Aside0.mk hy127
      clear hy127
      obtain ⟨y130, hy130⟩ : ∃ y_ : List Int, y_ = (List.replicate (a0 : Int).toNat 0) := ⟨_, rfl⟩
      replace H : (spec_l7Start.l0 k a0 0 ([] : List Int) ([] : List Int) y121 y124 y127 y130) = some (r1, r2, r3, r4, r5, r6) := by first | (rw [hy130]; with_reducible exact H) | (have H2_ := (Option.bind_some _ _).symm.trans H; rw [hy130]; with_reducible exact H2_) | (have H2_ := (Option.bind_some _ _).symm.trans H; with_reducible exact H2_) | with_reducible exact H | (rw [hy130]; exact H) | exact H
      have Ny130 := Aside0.mk hy130
      clear hy130
      have H' := Aside0.mk H
      clear H
      go_enter Try.func69, Try.ntmps69
      try go_wp2_with (first | ((with_reducible refine gate_dst (N := 2) rfl ?_); refine box_event ?hg (N := 2) ?hd (cs := #[.slice none 0 0, .slice none 0 0, .slice none 0 0, .slice none 0 0, .slice none 0 0, .slice none 0 0]) (t := 58) ?hr ?_; (case hd => rfl); (case hg => rfl); (case hr => first | (go_simp; done) | (go_simp; rfl)); intro gb120 hg w4 hbox hb; have n0_ := Aside0.mk (below_step (by repeat (first | (with_reducible first | exact HB.out | apply below_alloc | apply pw_below_drewN | apply below_drew1) | exact HB.out)) hb); have n1_ := Aside0.mk (hbox); have n2_ := Aside0.mk ((by rw [hg]; exact (below_size (by repeat (first | (with_reducible first | exact HB.out | apply below_alloc | apply pw_below_drewN | apply below_drew1) | exact HB.out))) : w.heap.size ≤ gb120)); have n3_ := Aside0.mk ((by rw [hg]; exact (below_size (by repeat (first | (with_reducible first | exact HB.out | apply below_alloc | apply pw_below_drewN | apply below_drew1) | exact HB.out))) : w.heap.size ≤ gb120)); clear HB; have HB := n0_; have BK120 := n1_; have GW120 := n2_; have GE120 := n3_; clear n0_ n1_ n2_ n3_; clear hb hbox hg))
      have n0_ := Aside0.mk (blk_drew BK120.out)
      have n1_ := Aside0.mk (below_drew1 HB.out)
      clear BK120
      clear HB
      have BK120 := n0_
      have HB := n1_
      clear n0_ n1_
      refine start_ (n := 11) (S := fun w' => True) (ds := []) #[false, false, false, false, false, false, false, false, false, false, false] (by kernel_rfl) rfl rfl trivial (fun hHeld => ?_); refine with_tabW spec_l7Start.tab1 spec_l7Start.bits1 (fun HT_ HW_ => ?_)
      generalize w4.drew = w5 at BK120 HB hHeld ⊢
      refine pure_ (i := 0) (N := some 5) (v := ?_) (a' := ?_) #[true, false, false, false, false, false, false, false, false, false, false] rfl rfl (any_of HT_.out (by kernel_rfl)) (fun _ _ _ h => h) (Or.inl ⟨by rfl, ?_⟩) ?_ ?_
      rotate_left
      · intro w'
        go_simp
        with_reducible rfl
      rotate_left
      · simp only [Act.put, List.setIfInBounds_toArray, List.set_cons_zero, List.set_cons_succ, i64_w, i32_w]
        rfl
      refine pure_ (i := 2) (N := some 7) (v := ?_) (a' := ?_) #[true, false, true, false, false, false, false, false, false, false, false] rfl rfl (any_of HT_.out (by kernel_rfl)) (fun _ _ _ h => h) (Or.inl ⟨by rfl, ?_⟩) ?_ ?_
      rotate_left
      · intro w'
        go_simp
        with_reducible rfl
      rotate_left
      · simp only [Act.put, List.setIfInBounds_toArray, List.set_cons_zero, List.set_cons_succ, i64_w, i32_w]
        rfl
      refine pure_ (i := 4) (N := some 9) (v := ?_) (a' := ?_) #[true, false, true, false, true, false, false, false, false, false, false] rfl rfl (any_of HT_.out (by kernel_rfl)) (fun _ _ _ h => h) (Or.inl ⟨by rfl, ?_⟩) ?_ ?_
      rotate_left
      · intro w'
        go_simp
        with_reducible rfl
      rotate_left
      · simp only [Act.put, List.setIfInBounds_toArray, List.set_cons_zero, List.set_cons_succ, i64_w, i32_w]
        rfl
      refine pure_ (i := 6) (N := some 11) (v := ?_) (a' := ?_) #[true, false, true, false, true, false, true, false, false, false, false] rfl rfl (any_of HT_.out (by kernel_rfl)) (fun _ _ _ h => h) (Or.inl ⟨by rfl, ?_⟩) ?_ ?_
      rotate_left
      · intro w'
        go_simp
        with_reducible rfl
      rotate_left
      · simp only [Act.put, List.setIfInBounds_toArray, List.set_cons_zero, List.set_cons_succ, i64_w, i32_w]
        rfl
      refine inv_at [1, 3, 5, 7, 8, 9, 10] (fun a0_ b a w' => ∃ (v122 : Value) (v125 : Value) (v128 : Value) (v131 : Value) (gb133 : Nat) (m8_ : Value) (m9_ : Value), a = putSel a0_ b [(1, 6, v122), (3, 8, v125), (5, 10, v128), (7, 12, v131), (8, 13, m8_), (9, 3, m9_)] ∧ (w'.heap[gb120]? = some (.cells #[.slice none 0 0, .slice none 0 0, .slice none 0 0, .slice none 0 0, .slice none 0 0, .slice none 0 0] 58 (0, 0))) ∧ (Below w.heap.size w w') ∧ (b 1 = true → Kd.R (Kd.int .i64) 3 w' w.heap.size (fun _ => True) v122 y121) ∧ (b 3 = true → Kd.R (Kd.int .i64) 3 w' w.heap.size (fun _ => True) v125 y124) ∧ (b 5 = true → Kd.R (Kd.int .i64) 3 w' w.heap.size (fun _ => True) v128 y127) ∧ (b 7 = true → Kd.R (Kd.int .i64) 3 w' w.heap.size (fun _ => True) v131 y130) ∧ (b 9 = true → b 10 = false → w'.heap[gb133]? = some (.cells #[.slice none 0 0, .slice none 0 0, .slice none 0 0, .slice none 0 0, .slice none 0 0, .slice none 0 0] 58 (0, 0))) ∧ (b 9 = true → w.heap.size ≤ gb133) ∧ (b 9 = true → w.heap.size ≤ gb133) ∧ (b 9 = true → gb120 ≠ gb133) ∧ (b 9 = true → gb133 ≠ gb120) ∧ (b 10 = true → w'.heap[gb133]? = some (.cells #[.slice none 0 0, .slice none 0 0, v122, v125, v128, v131] 58 (0, 0))) ∧ (b 1 = true → b 3 = true → NeRow v122 v125) ∧ (b 1 = true → b 5 = true → NeRow v122 v128) ∧ (b 1 = true → b 7 = true → NeRow v122 v131) ∧ (b 3 = true → b 5 = true → NeRow v125 v128) ∧ (b 3 = true → b 7 = true → NeRow v125 v131) ∧ (b 5 = true → b 7 = true → NeRow v128 v131) ∧ (b 8 = true → (m8_ : Value) = .agg #[.slice none 0 0, .slice none 0 0, v122, v125, v128, v131]) ∧ (b 9 = true → (m9_ : Value) = .pointer (some ⟨gb133, 0, none⟩))) HT_.out HW_.out (by kernel_rfl) (by kernel_rfl) ?_ ?_ ?_
      · exact ⟨.bool false, .bool false, .bool false, .bool false, 0, .bool false, .bool false, by simp only [putSel, Bool.false_eq_true, if_false], BK120.out, HB.out, fun h_ => absurd h_ (by decide), fun h_ => absurd h_ (by decide), fun h_ => absurd h_ (by decide), fun h_ => absurd h_ (by decide), fun h_ => absurd h_ (by decide), fun h_ => absurd h_ (by decide), fun h_ => absurd h_ (by decide), fun h_ => absurd h_ (by decide), fun h_ => absurd h_ (by decide), fun h_ => absurd h_ (by decide), fun h_ => absurd h_ (by decide), fun h_ => absurd h_ (by decide), fun h_ => absurd h_ (by decide), fun h_ => absurd h_ (by decide), fun h_ => absurd h_ (by decide), fun h_ => absurd h_ (by decide), fun h_ => absurd h_ (by decide), fun h_ => absurd h_ (by decide)⟩
      · skip
        clear BK120 HB
        refine steps_cons ?_ ?_
        · rintro b a w' ⟨v122, v125, v128, v131, gb133, m8_, m9_, ha, Q_BK120, Q_HB, Q_HO123, Q_HO126, Q_HO129, Q_HO132, Q_BK133, Q_GW133, Q_GE133, Q_NB120_133, Q_NB133_120, Q_BK133_e10, Q_NE_v122_v125, Q_NE_v122_v128, Q_NE_v122_v131, Q_NE_v125_v128, Q_NE_v125_v131, Q_NE_v128_v131, Q_X8_, Q_X9_⟩ hb_ hon hoff
          refine ⟨_, rfl, fun K hK => ?_⟩
          have e5 : a.tmps[5]? = some (.int .i64 a0) := by rw [ha]; exact (putSel_off rfl).trans rfl
          replace ha := Aside0.mk ha
          have BK120 := Aside0.mk Q_BK120
          have HB := Aside0.mk Q_HB
          refine Kd.R_make_step (Kd.int .i64) _ 3 (by rfl) (N := 6) rfl 24 _ _ rfl a0 (eval_of e5) (eval_of e5) Try.underlying24 (.int .i64 0) 8 info3 rfl (by decide) (by omega) 0 (ok := fun _ => True) (okp := fun _ => True) rfl (fun _ hk => hk) trivial (of_decide_eq_true (by first | (with_reducible assumption) | assumption)) (Nat.le_trans (Nat.mul_le_mul_right _ (of_decide_eq_true (by first | (with_reducible assumption) | assumption) : a0.toNat ≤ 35184372088832)) (by omega)) (Below.refl _ _) (Nat.le_refl _) ?_
          intro v122 w6 ho7 hb hg_ hnew_
          clear hg_ hnew_
          (first | rw [← Ny121.out] at ho7 | (simp only [Int.reduceToNat] at ho7; rw [← Ny121.out] at ho7))
          have n0_ := Aside0.mk (Kd.R_lower ho7 (below_size (by repeat (first | (with_reducible first | exact HB.out | apply below_alloc | apply pw_below_drewN | apply below_drew1 | refine below_set ?_ GE120.out) | exact HB.out))))
          have n1_ := Aside0.mk (blk_below (g := gb120) (o := .cells #[.slice none 0 0, .slice none 0 0, .slice none 0 0, .slice none 0 0, .slice none 0 0, .slice none 0 0] 58 (0, 0)) (by first | (with_reducible exact BK120.out) | ((with_reducible repeat (first | refine blk_drewN ?_ _ | refine blk_drew ?_ | refine blk_alloc ?_ _)); exact BK120.out)) hb)
          have n2_ := Aside0.mk (below_step (by repeat (first | (with_reducible first | exact HB.out | apply below_alloc | apply pw_below_drewN | apply below_drew1 | refine below_set ?_ GE120.out) | exact HB.out)) hb)
          have z_HO126 := fun (h0_ : b 3 = true) => (show Kd.R (Kd.int .i64) 3 w6 w.heap.size (fun _ => True) v125 y124 from by first | exact (Kd.R_elder' (by (with_reducible repeat (first | apply Kd.R_alloc | apply Kd.R_drewN | apply Kd.R_drew)); exact (Q_HO126 h0_)) (Kd.R_base ho7) hb) | exact Kd.R_mono (Kd.R_elder' (by (with_reducible repeat (first | apply Kd.R_alloc | apply Kd.R_drewN | apply Kd.R_drew)); exact (Q_HO126 h0_)) (Kd.R_base ho7) hb) (fun _ h_ => by first | trivial | exact h_ | exact h_.1))
          have z_HO129 := fun (h0_ : b 5 = true) => (show Kd.R (Kd.int .i64) 3 w6 w.heap.size (fun _ => True) v128 y127 from by first | exact (Kd.R_elder' (by (with_reducible repeat (first | apply Kd.R_alloc | apply Kd.R_drewN | apply Kd.R_drew)); exact (Q_HO129 h0_)) (Kd.R_base ho7) hb) | exact Kd.R_mono (Kd.R_elder' (by (with_reducible repeat (first | apply Kd.R_alloc | apply Kd.R_drewN | apply Kd.R_drew)); exact (Q_HO129 h0_)) (Kd.R_base ho7) hb) (fun _ h_ => by first | trivial | exact h_ | exact h_.1))
          have z_HO132 := fun (h0_ : b 7 = true) => (show Kd.R (Kd.int .i64) 3 w6 w.heap.size (fun _ => True) v131 y130 from by first | exact (Kd.R_elder' (by (with_reducible repeat (first | apply Kd.R_alloc | apply Kd.R_drewN | apply Kd.R_drew)); exact (Q_HO132 h0_)) (Kd.R_base ho7) hb) | exact Kd.R_mono (Kd.R_elder' (by (with_reducible repeat (first | apply Kd.R_alloc | apply Kd.R_drewN | apply Kd.R_drew)); exact (Q_HO132 h0_)) (Kd.R_base ho7) hb) (fun _ h_ => by first | trivial | exact h_ | exact h_.1))
          have z_BK133 := fun (h0_ : b 9 = true) (h1_ : b 10 = false) => (show w6.heap[gb133]? = some (.cells #[.slice none 0 0, .slice none 0 0, .slice none 0 0, .slice none 0 0, .slice none 0 0, .slice none 0 0] 58 (0, 0)) from by first | exact (blk_below (g := gb133) (o := .cells #[.slice none 0 0, .slice none 0 0, .slice none 0 0, .slice none 0 0, .slice none 0 0, .slice none 0 0] 58 (0, 0)) (by first | (with_reducible exact (Q_BK133 h0_ h1_)) | ((with_reducible repeat (first | refine blk_drewN ?_ _ | refine blk_drew ?_ | refine blk_alloc ?_ _)); exact (Q_BK133 h0_ h1_))) hb))
          clear BK120
          clear HB
          have HO123 := n0_
          have BK120 := n1_
          have HB := n2_
          clear n0_ n1_ n2_
          have z_NE_v122_v125 : b 3 = true → NeRow v122 v125 := fun h0_ k_ e_ e2_ => Kd.fresh' (Kd.R_lt (Q_HO126 h0_)) k_ (Kd.R_base ho7 k_ e_) e2_.symm
          have z_NE_v122_v128 : b 5 = true → NeRow v122 v128 := fun h0_ k_ e_ e2_ => Kd.fresh' (Kd.R_lt (Q_HO129 h0_)) k_ (Kd.R_base ho7 k_ e_) e2_.symm
          have z_NE_v122_v131 : b 7 = true → NeRow v122 v131 := fun h0_ k_ e_ e2_ => Kd.fresh' (Kd.R_lt (Q_HO132 h0_)) k_ (Kd.R_base ho7 k_ e_) e2_.symm
          clear hb ho7
          refine hK.out _ _ ⟨v122, v125, v128, v131, gb133, m8_, m9_, (by rw [ha.out]; exact putSel_upk 0 hb_ rfl rfl rfl), (by first | (with_reducible exact BK120.out) | ((with_reducible repeat (first | refine blk_drewN ?_ _ | refine blk_drew ?_ | refine blk_alloc ?_ _)); exact BK120.out)), (by repeat (first | (with_reducible first | exact HB.out | apply below_alloc | apply pw_below_drewN | apply below_drew1 | refine below_set ?_ GE120.out) | exact HB.out)), fun _ => (by (with_reducible repeat (first | apply Kd.R_alloc | apply Kd.R_drewN | apply Kd.R_drew)); exact HO123.out), z_HO126, z_HO129, z_HO132, z_BK133, Q_GW133, Q_GE133, Q_NB120_133, Q_NB133_120, fun h0_ => absurd ((hoff 10 (by kernel_rfl)).symm.trans h0_) (by decide), fun _ h1_ => z_NE_v122_v125 h1_, fun _ h1_ => z_NE_v122_v128 h1_, fun _ h1_ => z_NE_v122_v131 h1_, Q_NE_v125_v128, Q_NE_v125_v131, Q_NE_v128_v131, fun h0_ => absurd ((hoff 8 (by kernel_rfl)).symm.trans h0_) (by decide), Q_X9_⟩
        refine steps_cons ?_ ?_
        · rintro b a w' ⟨v122, v125, v128, v131, gb133, m8_, m9_, ha, Q_BK120, Q_HB, Q_HO123, Q_HO126, Q_HO129, Q_HO132, Q_BK133, Q_GW133, Q_GE133, Q_NB120_133, Q_NB133_120, Q_BK133_e10, Q_NE_v122_v125, Q_NE_v122_v128, Q_NE_v122_v131, Q_NE_v125_v128, Q_NE_v125_v131, Q_NE_v128_v131, Q_X8_, Q_X9_⟩ hb_ hon hoff
          refine ⟨_, rfl, fun K hK => ?_⟩
          have e7 : a.tmps[7]? = some (.int .i64 a0) := by rw [ha]; exact (putSel_off rfl).trans rfl
          replace ha := Aside0.mk ha
          have BK120 := Aside0.mk Q_BK120
          have HB := Aside0.mk Q_HB
          refine Kd.R_make_step (Kd.int .i64) _ 3 (by rfl) (N := 8) rfl 24 _ _ rfl a0 (eval_of e7) (eval_of e7) Try.underlying24 (.int .i64 0) 8 info3 rfl (by decide) (by omega) 0 (ok := fun _ => True) (okp := fun _ => True) rfl (fun _ hk => hk) trivial (of_decide_eq_true (by first | (with_reducible assumption) | assumption)) (Nat.le_trans (Nat.mul_le_mul_right _ (of_decide_eq_true (by first | (with_reducible assumption) | assumption) : a0.toNat ≤ 35184372088832)) (by omega)) (Below.refl _ _) (Nat.le_refl _) ?_
          intro v125 w6 ho7 hb hg_ hnew_
          clear hg_ hnew_
          (first | rw [← Ny124.out] at ho7 | (simp only [Int.reduceToNat] at ho7; rw [← Ny124.out] at ho7))
          have n0_ := Aside0.mk (Kd.R_lower ho7 (below_size (by repeat (first | (with_reducible first | exact HB.out | apply below_alloc | apply pw_below_drewN | apply below_drew1 | refine below_set ?_ GE120.out) | exact HB.out))))
          have n1_ := Aside0.mk (blk_below (g := gb120) (o := .cells #[.slice none 0 0, .slice none 0 0, .slice none 0 0, .slice none 0 0, .slice none 0 0, .slice none 0 0] 58 (0, 0)) (by first | (with_reducible exact BK120.out) | ((with_reducible repeat (first | refine blk_drewN ?_ _ | refine blk_drew ?_ | refine blk_alloc ?_ _)); exact BK120.out)) hb)
          have n2_ := Aside0.mk (below_step (by repeat (first | (with_reducible first | exact HB.out | apply below_alloc | apply pw_below_drewN | apply below_drew1 | refine below_set ?_ GE120.out) | exact HB.out)) hb)
          have z_HO123 := fun (h0_ : b 1 = true) => (show Kd.R (Kd.int .i64) 3 w6 w.heap.size (fun _ => True) v122 y121 from by first | exact (Kd.R_elder' (by (with_reducible repeat (first | apply Kd.R_alloc | apply Kd.R_drewN | apply Kd.R_drew)); exact (Q_HO123 h0_)) (Kd.R_base ho7) hb) | exact Kd.R_mono (Kd.R_elder' (by (with_reducible repeat (first | apply Kd.R_alloc | apply Kd.R_drewN | apply Kd.R_drew)); exact (Q_HO123 h0_)) (Kd.R_base ho7) hb) (fun _ h_ => by first | trivial | exact h_ | exact h_.1))
          have z_HO129 := fun (h0_ : b 5 = true) => (show Kd.R (Kd.int .i64) 3 w6 w.heap.size (fun _ => True) v128 y127 from by first | exact (Kd.R_elder' (by (with_reducible repeat (first | apply Kd.R_alloc | apply Kd.R_drewN | apply Kd.R_drew)); exact (Q_HO129 h0_)) (Kd.R_base ho7) hb) | exact Kd.R_mono (Kd.R_elder' (by (with_reducible repeat (first | apply Kd.R_alloc | apply Kd.R_drewN | apply Kd.R_drew)); exact (Q_HO129 h0_)) (Kd.R_base ho7) hb) (fun _ h_ => by first | trivial | exact h_ | exact h_.1))
          have z_HO132 := fun (h0_ : b 7 = true) => (show Kd.R (Kd.int .i64) 3 w6 w.heap.size (fun _ => True) v131 y130 from by first | exact (Kd.R_elder' (by (with_reducible repeat (first | apply Kd.R_alloc | apply Kd.R_drewN | apply Kd.R_drew)); exact (Q_HO132 h0_)) (Kd.R_base ho7) hb) | exact Kd.R_mono (Kd.R_elder' (by (with_reducible repeat (first | apply Kd.R_alloc | apply Kd.R_drewN | apply Kd.R_drew)); exact (Q_HO132 h0_)) (Kd.R_base ho7) hb) (fun _ h_ => by first | trivial | exact h_ | exact h_.1))
          have z_BK133 := fun (h0_ : b 9 = true) (h1_ : b 10 = false) => (show w6.heap[gb133]? = some (.cells #[.slice none 0 0, .slice none 0 0, .slice none 0 0, .slice none 0 0, .slice none 0 0, .slice none 0 0] 58 (0, 0)) from by first | exact (blk_below (g := gb133) (o := .cells #[.slice none 0 0, .slice none 0 0, .slice none 0 0, .slice none 0 0, .slice none 0 0, .slice none 0 0] 58 (0, 0)) (by first | (with_reducible exact (Q_BK133 h0_ h1_)) | ((with_reducible repeat (first | refine blk_drewN ?_ _ | refine blk_drew ?_ | refine blk_alloc ?_ _)); exact (Q_BK133 h0_ h1_))) hb))
          clear BK120
          clear HB
          have HO126 := n0_
          have BK120 := n1_
          have HB := n2_
          clear n0_ n1_ n2_
          have z_NE_v122_v125 : b 1 = true → NeRow v122 v125 := fun h0_ k_ e2_ e_ => Kd.fresh' (Kd.R_lt (Q_HO123 h0_)) k_ (Kd.R_base ho7 k_ e_) e2_.symm
          have z_NE_v125_v128 : b 5 = true → NeRow v125 v128 := fun h0_ k_ e_ e2_ => Kd.fresh' (Kd.R_lt (Q_HO129 h0_)) k_ (Kd.R_base ho7 k_ e_) e2_.symm
          have z_NE_v125_v131 : b 7 = true → NeRow v125 v131 := fun h0_ k_ e_ e2_ => Kd.fresh' (Kd.R_lt (Q_HO132 h0_)) k_ (Kd.R_base ho7 k_ e_) e2_.symm
          clear hb ho7
          refine hK.out _ _ ⟨v122, v125, v128, v131, gb133, m8_, m9_, (by rw [ha.out]; exact putSel_upk 1 hb_ rfl rfl rfl), (by first | (with_reducible exact BK120.out) | ((with_reducible repeat (first | refine blk_drewN ?_ _ | refine blk_drew ?_ | refine blk_alloc ?_ _)); exact BK120.out)), (by repeat (first | (with_reducible first | exact HB.out | apply below_alloc | apply pw_below_drewN | apply below_drew1 | refine below_set ?_ GE120.out) | exact HB.out)), z_HO123, fun _ => (by (with_reducible repeat (first | apply Kd.R_alloc | apply Kd.R_drewN | apply Kd.R_drew)); exact HO126.out), z_HO129, z_HO132, z_BK133, Q_GW133, Q_GE133, Q_NB120_133, Q_NB133_120, fun h0_ => absurd ((hoff 10 (by kernel_rfl)).symm.trans h0_) (by decide), fun h0_ _ => z_NE_v122_v125 h0_, Q_NE_v122_v128, Q_NE_v122_v131, fun _ h1_ => z_NE_v125_v128 h1_, fun _ h1_ => z_NE_v125_v131 h1_, Q_NE_v128_v131, fun h0_ => absurd ((hoff 8 (by kernel_rfl)).symm.trans h0_) (by decide), Q_X9_⟩
        refine steps_cons ?_ ?_
        · rintro b a w' ⟨v122, v125, v128, v131, gb133, m8_, m9_, ha, Q_BK120, Q_HB, Q_HO123, Q_HO126, Q_HO129, Q_HO132, Q_BK133, Q_GW133, Q_GE133, Q_NB120_133, Q_NB133_120, Q_BK133_e10, Q_NE_v122_v125, Q_NE_v122_v128, Q_NE_v122_v131, Q_NE_v125_v128, Q_NE_v125_v131, Q_NE_v128_v131, Q_X8_, Q_X9_⟩ hb_ hon hoff
          refine ⟨_, rfl, fun K hK => ?_⟩
          have e9 : a.tmps[9]? = some (.int .i64 a0) := by rw [ha]; exact (putSel_off rfl).trans rfl
          replace ha := Aside0.mk ha
          have BK120 := Aside0.mk Q_BK120
          have HB := Aside0.mk Q_HB
          refine Kd.R_make_step (Kd.int .i64) _ 3 (by rfl) (N := 10) rfl 24 _ _ rfl a0 (eval_of e9) (eval_of e9) Try.underlying24 (.int .i64 0) 8 info3 rfl (by decide) (by omega) 0 (ok := fun _ => True) (okp := fun _ => True) rfl (fun _ hk => hk) trivial (of_decide_eq_true (by first | (with_reducible assumption) | assumption)) (Nat.le_trans (Nat.mul_le_mul_right _ (of_decide_eq_true (by first | (with_reducible assumption) | assumption) : a0.toNat ≤ 35184372088832)) (by omega)) (Below.refl _ _) (Nat.le_refl _) ?_
          intro v128 w6 ho7 hb hg_ hnew_
          clear hg_ hnew_
          (first | rw [← Ny127.out] at ho7 | (simp only [Int.reduceToNat] at ho7; rw [← Ny127.out] at ho7))
          have n0_ := Aside0.mk (Kd.R_lower ho7 (below_size (by repeat (first | (with_reducible first | exact HB.out | apply below_alloc | apply pw_below_drewN | apply below_drew1 | refine below_set ?_ GE120.out) | exact HB.out))))
          have n1_ := Aside0.mk (blk_below (g := gb120) (o := .cells #[.slice none 0 0, .slice none 0 0, .slice none 0 0, .slice none 0 0, .slice none 0 0, .slice none 0 0] 58 (0, 0)) (by first | (with_reducible exact BK120.out) | ((with_reducible repeat (first | refine blk_drewN ?_ _ | refine blk_drew ?_ | refine blk_alloc ?_ _)); exact BK120.out)) hb)
          have n2_ := Aside0.mk (below_step (by repeat (first | (with_reducible first | exact HB.out | apply below_alloc | apply pw_below_drewN | apply below_drew1 | refine below_set ?_ GE120.out) | exact HB.out)) hb)
          have z_HO123 := fun (h0_ : b 1 = true) => (show Kd.R (Kd.int .i64) 3 w6 w.heap.size (fun _ => True) v122 y121 from by first | exact (Kd.R_elder' (by (with_reducible repeat (first | apply Kd.R_alloc | apply Kd.R_drewN | apply Kd.R_drew)); exact (Q_HO123 h0_)) (Kd.R_base ho7) hb) | exact Kd.R_mono (Kd.R_elder' (by (with_reducible repeat (first | apply Kd.R_alloc | apply Kd.R_drewN | apply Kd.R_drew)); exact (Q_HO123 h0_)) (Kd.R_base ho7) hb) (fun _ h_ => by first | trivial | exact h_ | exact h_.1))
          have z_HO126 := fun (h0_ : b 3 = true) => (show Kd.R (Kd.int .i64) 3 w6 w.heap.size (fun _ => True) v125 y124 from by first | exact (Kd.R_elder' (by (with_reducible repeat (first | apply Kd.R_alloc | apply Kd.R_drewN | apply Kd.R_drew)); exact (Q_HO126 h0_)) (Kd.R_base ho7) hb) | exact Kd.R_mono (Kd.R_elder' (by (with_reducible repeat (first | apply Kd.R_alloc | apply Kd.R_drewN | apply Kd.R_drew)); exact (Q_HO126 h0_)) (Kd.R_base ho7) hb) (fun _ h_ => by first | trivial | exact h_ | exact h_.1))
          have z_HO132 := fun (h0_ : b 7 = true) => (show Kd.R (Kd.int .i64) 3 w6 w.heap.size (fun _ => True) v131 y130 from by first | exact (Kd.R_elder' (by (with_reducible repeat (first | apply Kd.R_alloc | apply Kd.R_drewN | apply Kd.R_drew)); exact (Q_HO132 h0_)) (Kd.R_base ho7) hb) | exact Kd.R_mono (Kd.R_elder' (by (with_reducible repeat (first | apply Kd.R_alloc | apply Kd.R_drewN | apply Kd.R_drew)); exact (Q_HO132 h0_)) (Kd.R_base ho7) hb) (fun _ h_ => by first | trivial | exact h_ | exact h_.1))
          have z_BK133 := fun (h0_ : b 9 = true) (h1_ : b 10 = false) => (show w6.heap[gb133]? = some (.cells #[.slice none 0 0, .slice none 0 0, .slice none 0 0, .slice none 0 0, .slice none 0 0, .slice none 0 0] 58 (0, 0)) from by first | exact (blk_below (g := gb133) (o := .cells #[.slice none 0 0, .slice none 0 0, .slice none 0 0, .slice none 0 0, .slice none 0 0, .slice none 0 0] 58 (0, 0)) (by first | (with_reducible exact (Q_BK133 h0_ h1_)) | ((with_reducible repeat (first | refine blk_drewN ?_ _ | refine blk_drew ?_ | refine blk_alloc ?_ _)); exact (Q_BK133 h0_ h1_))) hb))
          clear BK120
          clear HB
          have HO129 := n0_
          have BK120 := n1_
          have HB := n2_
          clear n0_ n1_ n2_
          have z_NE_v122_v128 : b 1 = true → NeRow v122 v128 := fun h0_ k_ e2_ e_ => Kd.fresh' (Kd.R_lt (Q_HO123 h0_)) k_ (Kd.R_base ho7 k_ e_) e2_.symm
          have z_NE_v125_v128 : b 3 = true → NeRow v125 v128 := fun h0_ k_ e2_ e_ => Kd.fresh' (Kd.R_lt (Q_HO126 h0_)) k_ (Kd.R_base ho7 k_ e_) e2_.symm
          have z_NE_v128_v131 : b 7 = true → NeRow v128 v131 := fun h0_ k_ e_ e2_ => Kd.fresh' (Kd.R_lt (Q_HO132 h0_)) k_ (Kd.R_base ho7 k_ e_) e2_.symm
          clear hb ho7
          refine hK.out _ _ ⟨v122, v125, v128, v131, gb133, m8_, m9_, (by rw [ha.out]; exact putSel_upk 2 hb_ rfl rfl rfl), (by first | (with_reducible exact BK120.out) | ((with_reducible repeat (first | refine blk_drewN ?_ _ | refine blk_drew ?_ | refine blk_alloc ?_ _)); exact BK120.out)), (by repeat (first | (with_reducible first | exact HB.out | apply below_alloc | apply pw_below_drewN | apply below_drew1 | refine below_set ?_ GE120.out) | exact HB.out)), z_HO123, z_HO126, fun _ => (by (with_reducible repeat (first | apply Kd.R_alloc | apply Kd.R_drewN | apply Kd.R_drew)); exact HO129.out), z_HO132, z_BK133, Q_GW133, Q_GE133, Q_NB120_133, Q_NB133_120, fun h0_ => absurd ((hoff 10 (by kernel_rfl)).symm.trans h0_) (by decide), Q_NE_v122_v125, fun h0_ _ => z_NE_v122_v128 h0_, Q_NE_v122_v131, fun h0_ _ => z_NE_v125_v128 h0_, Q_NE_v125_v131, fun _ h1_ => z_NE_v128_v131 h1_, fun h0_ => absurd ((hoff 8 (by kernel_rfl)).symm.trans h0_) (by decide), Q_X9_⟩
        refine steps_cons ?_ ?_
        · rintro b a w' ⟨v122, v125, v128, v131, gb133, m8_, m9_, ha, Q_BK120, Q_HB, Q_HO123, Q_HO126, Q_HO129, Q_HO132, Q_BK133, Q_GW133, Q_GE133, Q_NB120_133, Q_NB133_120, Q_BK133_e10, Q_NE_v122_v125, Q_NE_v122_v128, Q_NE_v122_v131, Q_NE_v125_v128, Q_NE_v125_v131, Q_NE_v128_v131, Q_X8_, Q_X9_⟩ hb_ hon hoff
          refine ⟨_, rfl, fun K hK => ?_⟩
          have e11 : a.tmps[11]? = some (.int .i64 a0) := by rw [ha]; exact (putSel_off rfl).trans rfl
          replace ha := Aside0.mk ha
          have BK120 := Aside0.mk Q_BK120
          have HB := Aside0.mk Q_HB
          refine Kd.R_make_step (Kd.int .i64) _ 3 (by rfl) (N := 12) rfl 24 _ _ rfl a0 (eval_of e11) (eval_of e11) Try.underlying24 (.int .i64 0) 8 info3 rfl (by decide) (by omega) 0 (ok := fun _ => True) (okp := fun _ => True) rfl (fun _ hk => hk) trivial (of_decide_eq_true (by first | (with_reducible assumption) | assumption)) (Nat.le_trans (Nat.mul_le_mul_right _ (of_decide_eq_true (by first | (with_reducible assumption) | assumption) : a0.toNat ≤ 35184372088832)) (by omega)) (Below.refl _ _) (Nat.le_refl _) ?_
          intro v131 w6 ho7 hb hg_ hnew_
          clear hg_ hnew_
          (first | rw [← Ny130.out] at ho7 | (simp only [Int.reduceToNat] at ho7; rw [← Ny130.out] at ho7))
          have n0_ := Aside0.mk (Kd.R_lower ho7 (below_size (by repeat (first | (with_reducible first | exact HB.out | apply below_alloc | apply pw_below_drewN | apply below_drew1 | refine below_set ?_ GE120.out) | exact HB.out))))
          have n1_ := Aside0.mk (blk_below (g := gb120) (o := .cells #[.slice none 0 0, .slice none 0 0, .slice none 0 0, .slice none 0 0, .slice none 0 0, .slice none 0 0] 58 (0, 0)) (by first | (with_reducible exact BK120.out) | ((with_reducible repeat (first | refine blk_drewN ?_ _ | refine blk_drew ?_ | refine blk_alloc ?_ _)); exact BK120.out)) hb)
          have n2_ := Aside0.mk (below_step (by repeat (first | (with_reducible first | exact HB.out | apply below_alloc | apply pw_below_drewN | apply below_drew1 | refine below_set ?_ GE120.out) | exact HB.out)) hb)
          have z_HO123 := fun (h0_ : b 1 = true) => (show Kd.R (Kd.int .i64) 3 w6 w.heap.size (fun _ => True) v122 y121 from by first | exact (Kd.R_elder' (by (with_reducible repeat (first | apply Kd.R_alloc | apply Kd.R_drewN | apply Kd.R_drew)); exact (Q_HO123 h0_)) (Kd.R_base ho7) hb) | exact Kd.R_mono (Kd.R_elder' (by (with_reducible repeat (first | apply Kd.R_alloc | apply Kd.R_drewN | apply Kd.R_drew)); exact (Q_HO123 h0_)) (Kd.R_base ho7) hb) (fun _ h_ => by first | trivial | exact h_ | exact h_.1))
          have z_HO126 := fun (h0_ : b 3 = true) => (show Kd.R (Kd.int .i64) 3 w6 w.heap.size (fun _ => True) v125 y124 from by first | exact (Kd.R_elder' (by (with_reducible repeat (first | apply Kd.R_alloc | apply Kd.R_drewN | apply Kd.R_drew)); exact (Q_HO126 h0_)) (Kd.R_base ho7) hb) | exact Kd.R_mono (Kd.R_elder' (by (with_reducible repeat (first | apply Kd.R_alloc | apply Kd.R_drewN | apply Kd.R_drew)); exact (Q_HO126 h0_)) (Kd.R_base ho7) hb) (fun _ h_ => by first | trivial | exact h_ | exact h_.1))
          have z_HO129 := fun (h0_ : b 5 = true) => (show Kd.R (Kd.int .i64) 3 w6 w.heap.size (fun _ => True) v128 y127 from by first | exact (Kd.R_elder' (by (with_reducible repeat (first | apply Kd.R_alloc | apply Kd.R_drewN | apply Kd.R_drew)); exact (Q_HO129 h0_)) (Kd.R_base ho7) hb) | exact Kd.R_mono (Kd.R_elder' (by (with_reducible repeat (first | apply Kd.R_alloc | apply Kd.R_drewN | apply Kd.R_drew)); exact (Q_HO129 h0_)) (Kd.R_base ho7) hb) (fun _ h_ => by first | trivial | exact h_ | exact h_.1))
          have z_BK133 := fun (h0_ : b 9 = true) (h1_ : b 10 = false) => (show w6.heap[gb133]? = some (.cells #[.slice none 0 0, .slice none 0 0, .slice none 0 0, .slice none 0 0, .slice none 0 0, .slice none 0 0] 58 (0, 0)) from by first | exact (blk_below (g := gb133) (o := .cells #[.slice none 0 0, .slice none 0 0, .slice none 0 0, .slice none 0 0, .slice none 0 0, .slice none 0 0] 58 (0, 0)) (by first | (with_reducible exact (Q_BK133 h0_ h1_)) | ((with_reducible repeat (first | refine blk_drewN ?_ _ | refine blk_drew ?_ | refine blk_alloc ?_ _)); exact (Q_BK133 h0_ h1_))) hb))
          clear BK120
          clear HB
          have HO132 := n0_
          have BK120 := n1_
          have HB := n2_
          clear n0_ n1_ n2_
          have z_NE_v122_v131 : b 1 = true → NeRow v122 v131 := fun h0_ k_ e2_ e_ => Kd.fresh' (Kd.R_lt (Q_HO123 h0_)) k_ (Kd.R_base ho7 k_ e_) e2_.symm
          have z_NE_v125_v131 : b 3 = true → NeRow v125 v131 := fun h0_ k_ e2_ e_ => Kd.fresh' (Kd.R_lt (Q_HO126 h0_)) k_ (Kd.R_base ho7 k_ e_) e2_.symm
          have z_NE_v128_v131 : b 5 = true → NeRow v128 v131 := fun h0_ k_ e2_ e_ => Kd.fresh' (Kd.R_lt (Q_HO129 h0_)) k_ (Kd.R_base ho7 k_ e_) e2_.symm
          clear hb ho7
          refine hK.out _ _ ⟨v122, v125, v128, v131, gb133, m8_, m9_, (by rw [ha.out]; exact putSel_upk 3 hb_ rfl rfl rfl), (by first | (with_reducible exact BK120.out) | ((with_reducible repeat (first | refine blk_drewN ?_ _ | refine blk_drew ?_ | refine blk_alloc ?_ _)); exact BK120.out)), (by repeat (first | (with_reducible first | exact HB.out | apply below_alloc | apply pw_below_drewN | apply below_drew1 | refine below_set ?_ GE120.out) | exact HB.out)), z_HO123, z_HO126, z_HO129, fun _ => (by (with_reducible repeat (first | apply Kd.R_alloc | apply Kd.R_drewN | apply Kd.R_drew)); exact HO132.out), z_BK133, Q_GW133, Q_GE133, Q_NB120_133, Q_NB133_120, fun h0_ => absurd ((hoff 10 (by kernel_rfl)).symm.trans h0_) (by decide), Q_NE_v122_v125, Q_NE_v122_v128, fun h0_ _ => z_NE_v122_v131 h0_, Q_NE_v125_v128, fun h0_ _ => z_NE_v125_v131 h0_, fun h0_ _ => z_NE_v128_v131 h0_, fun h0_ => absurd ((hoff 8 (by kernel_rfl)).symm.trans h0_) (by decide), Q_X9_⟩
        refine steps_cons ?_ ?_
        · rintro b a w' ⟨v122, v125, v128, v131, gb133, m8_, m9_, ha, Q_BK120, Q_HB, Q_HO123, Q_HO126, Q_HO129, Q_HO132, Q_BK133, Q_GW133, Q_GE133, Q_NB120_133, Q_NB133_120, Q_BK133_e10, Q_NE_v122_v125, Q_NE_v122_v128, Q_NE_v122_v131, Q_NE_v125_v128, Q_NE_v125_v131, Q_NE_v128_v131, Q_X8_, Q_X9_⟩ hb_ hon hoff
          refine ⟨_, rfl, fun K hK => ?_⟩
          have e6 : a.tmps[6]? = some (v122) := by rw [ha]; exact putSel_on (e := (1, 6, v122)) 0 rfl rfl (hon 1 (by kernel_rfl)) rfl
          have e8 : a.tmps[8]? = some (v125) := by rw [ha]; exact putSel_on (e := (3, 8, v125)) 1 rfl rfl (hon 3 (by kernel_rfl)) rfl
          have e10 : a.tmps[10]? = some (v128) := by rw [ha]; exact putSel_on (e := (5, 10, v128)) 2 rfl rfl (hon 5 (by kernel_rfl)) rfl
          have e12 : a.tmps[12]? = some (v131) := by rw [ha]; exact putSel_on (e := (7, 12, v131)) 3 rfl rfl (hon 7 (by kernel_rfl)) rfl
          replace ha := Aside0.mk ha
          have BK120 := Aside0.mk Q_BK120
          have HB := Aside0.mk Q_HB
          have HO123 := Aside0.mk (Q_HO123 (hon 1 (by kernel_rfl)))
          have HO126 := Aside0.mk (Q_HO126 (hon 3 (by kernel_rfl)))
          have HO129 := Aside0.mk (Q_HO129 (hon 5 (by kernel_rfl)))
          have HO132 := Aside0.mk (Q_HO132 (hon 7 (by kernel_rfl)))
          have NE_v122_v125 := Aside0.mk (Q_NE_v122_v125 (hon 1 (by kernel_rfl)) (hon 3 (by kernel_rfl)))
          have NE_v122_v128 := Aside0.mk (Q_NE_v122_v128 (hon 1 (by kernel_rfl)) (hon 5 (by kernel_rfl)))
          have NE_v122_v131 := Aside0.mk (Q_NE_v122_v131 (hon 1 (by kernel_rfl)) (hon 7 (by kernel_rfl)))
          have NE_v125_v128 := Aside0.mk (Q_NE_v125_v128 (hon 3 (by kernel_rfl)) (hon 5 (by kernel_rfl)))
          have NE_v125_v131 := Aside0.mk (Q_NE_v125_v131 (hon 3 (by kernel_rfl)) (hon 7 (by kernel_rfl)))
          have NE_v128_v131 := Aside0.mk (Q_NE_v128_v131 (hon 5 (by kernel_rfl)) (hon 7 (by kernel_rfl)))
          obtain ⟨Ao8_0, co8_0, eo_⟩ := Kd.R_slice HO123.out
          subst eo_
          obtain ⟨Ao8_1, co8_1, eo_⟩ := Kd.R_slice HO126.out
          subst eo_
          obtain ⟨Ao8_2, co8_2, eo_⟩ := Kd.R_slice HO129.out
          subst eo_
          obtain ⟨Ao8_3, co8_3, eo_⟩ := Kd.R_slice HO132.out
          subst eo_
          refine value_ (w1 := w') (v := .agg #[.slice none 0 0, .slice none 0 0, .slice Ao8_0 y121.length co8_0, .slice Ao8_1 y124.length co8_1, .slice Ao8_2 y127.length co8_2, .slice Ao8_3 y130.length co8_3]) (by rfl) rfl ?_ ?_
          · go_simp
            (try simp only [i64_w])
            try rfl
          refine hK.out _ _ ⟨.slice Ao8_0 y121.length co8_0, .slice Ao8_1 y124.length co8_1, .slice Ao8_2 y127.length co8_2, .slice Ao8_3 y130.length co8_3, gb133, (.agg #[.slice none 0 0, .slice none 0 0, .slice Ao8_0 y121.length co8_0, .slice Ao8_1 y124.length co8_1, .slice Ao8_2 y127.length co8_2, .slice Ao8_3 y130.length co8_3]), m9_, (by rw [ha.out]; exact putSel_upk 4 hb_ rfl rfl rfl), Q_BK120, Q_HB, Q_HO123, Q_HO126, Q_HO129, Q_HO132, Q_BK133, Q_GW133, Q_GE133, Q_NB120_133, Q_NB133_120, fun h0_ => absurd ((hoff 10 (by kernel_rfl)).symm.trans h0_) (by decide), Q_NE_v122_v125, Q_NE_v122_v128, Q_NE_v122_v131, Q_NE_v125_v128, Q_NE_v125_v131, Q_NE_v128_v131, fun _ => rfl, Q_X9_⟩
        refine steps_cons ?_ ?_
        · rintro b a w' ⟨v122, v125, v128, v131, gb133, m8_, m9_, ha, Q_BK120, Q_HB, Q_HO123, Q_HO126, Q_HO129, Q_HO132, Q_BK133, Q_GW133, Q_GE133, Q_NB120_133, Q_NB133_120, Q_BK133_e10, Q_NE_v122_v125, Q_NE_v122_v128, Q_NE_v122_v131, Q_NE_v125_v128, Q_NE_v125_v131, Q_NE_v128_v131, Q_X8_, Q_X9_⟩ hb_ hon hoff
          refine ⟨_, rfl, fun K hK => ?_⟩
          replace ha := Aside0.mk ha
          have BK120 := Aside0.mk Q_BK120
          have HB := Aside0.mk Q_HB
          refine box_step ?hg (N := 3) ?hd (cs := #[.slice none 0 0, .slice none 0 0, .slice none 0 0, .slice none 0 0, .slice none 0 0, .slice none 0 0]) (t := 58) ?hr ?_; (case hd => rfl); (case hg => rfl); (case hr => first | (go_simp; done) | (go_simp; rfl))
          intro gb133 hg w6 hbox hb
          have n0_ := Aside0.mk (blk_below (g := gb120) (o := .cells #[.slice none 0 0, .slice none 0 0, .slice none 0 0, .slice none 0 0, .slice none 0 0, .slice none 0 0] 58 (0, 0)) (by first | (with_reducible exact BK120.out) | ((with_reducible repeat (first | refine blk_drewN ?_ _ | refine blk_drew ?_ | refine blk_alloc ?_ _)); exact BK120.out)) hb)
          have n1_ := Aside0.mk (below_step (by repeat (first | (with_reducible first | exact HB.out | apply below_alloc | apply pw_below_drewN | apply below_drew1 | refine below_set ?_ GE120.out) | exact HB.out)) hb)
          have n2_ := Aside0.mk (hbox)
          have n3_ := Aside0.mk ((by rw [hg]; exact (below_size (by repeat (first | (with_reducible first | exact HB.out | apply below_alloc | apply pw_below_drewN | apply below_drew1 | refine below_set ?_ GE120.out) | exact HB.out))) : w.heap.size ≤ gb133))
          have n4_ := Aside0.mk ((by rw [hg]; exact (below_size (by repeat (first | (with_reducible first | exact HB.out | apply below_alloc | apply pw_below_drewN | apply below_drew1 | refine below_set ?_ GE120.out) | exact HB.out))) : w.heap.size ≤ gb133))
          have n5_ := Aside0.mk ((by rw [hg]; exact Nat.ne_of_lt (blk_lt (g := gb120) (o := .cells #[.slice none 0 0, .slice none 0 0, .slice none 0 0, .slice none 0 0, .slice none 0 0, .slice none 0 0] 58 (0, 0)) (by first | (with_reducible exact BK120.out) | ((with_reducible repeat (first | refine blk_drewN ?_ _ | refine blk_drew ?_ | refine blk_alloc ?_ _)); exact BK120.out))) : gb120 ≠ gb133))
          have n6_ := Aside0.mk ((by rw [hg]; exact Nat.ne_of_gt (blk_lt (g := gb120) (o := .cells #[.slice none 0 0, .slice none 0 0, .slice none 0 0, .slice none 0 0, .slice none 0 0, .slice none 0 0] 58 (0, 0)) (by first | (with_reducible exact BK120.out) | ((with_reducible repeat (first | refine blk_drewN ?_ _ | refine blk_drew ?_ | refine blk_alloc ?_ _)); exact BK120.out))) : gb133 ≠ gb120))
          have z_HO123 := fun (h0_ : b 1 = true) => (show Kd.R (Kd.int .i64) 3 w6 w.heap.size (fun _ => True) v122 y121 from by first | exact (Kd.R_below (by (with_reducible repeat (first | apply Kd.R_alloc | apply Kd.R_drewN | apply Kd.R_drew)); exact (Q_HO123 h0_)) hb) | exact Kd.R_mono (Kd.R_below (by (with_reducible repeat (first | apply Kd.R_alloc | apply Kd.R_drewN | apply Kd.R_drew)); exact (Q_HO123 h0_)) hb) (fun _ h_ => by first | trivial | exact h_ | exact h_.1))
          have z_HO126 := fun (h0_ : b 3 = true) => (show Kd.R (Kd.int .i64) 3 w6 w.heap.size (fun _ => True) v125 y124 from by first | exact (Kd.R_below (by (with_reducible repeat (first | apply Kd.R_alloc | apply Kd.R_drewN | apply Kd.R_drew)); exact (Q_HO126 h0_)) hb) | exact Kd.R_mono (Kd.R_below (by (with_reducible repeat (first | apply Kd.R_alloc | apply Kd.R_drewN | apply Kd.R_drew)); exact (Q_HO126 h0_)) hb) (fun _ h_ => by first | trivial | exact h_ | exact h_.1))
          have z_HO129 := fun (h0_ : b 5 = true) => (show Kd.R (Kd.int .i64) 3 w6 w.heap.size (fun _ => True) v128 y127 from by first | exact (Kd.R_below (by (with_reducible repeat (first | apply Kd.R_alloc | apply Kd.R_drewN | apply Kd.R_drew)); exact (Q_HO129 h0_)) hb) | exact Kd.R_mono (Kd.R_below (by (with_reducible repeat (first | apply Kd.R_alloc | apply Kd.R_drewN | apply Kd.R_drew)); exact (Q_HO129 h0_)) hb) (fun _ h_ => by first | trivial | exact h_ | exact h_.1))
          have z_HO132 := fun (h0_ : b 7 = true) => (show Kd.R (Kd.int .i64) 3 w6 w.heap.size (fun _ => True) v131 y130 from by first | exact (Kd.R_below (by (with_reducible repeat (first | apply Kd.R_alloc | apply Kd.R_drewN | apply Kd.R_drew)); exact (Q_HO132 h0_)) hb) | exact Kd.R_mono (Kd.R_below (by (with_reducible repeat (first | apply Kd.R_alloc | apply Kd.R_drewN | apply Kd.R_drew)); exact (Q_HO132 h0_)) hb) (fun _ h_ => by first | trivial | exact h_ | exact h_.1))
          clear BK120
          clear HB
          have BK120 := n0_
          have HB := n1_
          have BK133 := n2_
          have GW133 := n3_
          have GE133 := n4_
          have NB120_133 := n5_
          have NB133_120 := n6_
          clear n0_ n1_ n2_ n3_ n4_ n5_ n6_
          clear hb hbox hg
          refine hK.out _ _ ⟨v122, v125, v128, v131, gb133, m8_, (.pointer (some ⟨gb133, 0, none⟩)), (by rw [ha.out]; exact putSel_upk 5 hb_ rfl rfl rfl), (by first | (with_reducible exact BK120.out) | ((with_reducible repeat (first | refine blk_drewN ?_ _ | refine blk_drew ?_ | refine blk_alloc ?_ _)); exact BK120.out)), (by repeat (first | (with_reducible first | exact HB.out | apply below_alloc | apply pw_below_drewN | apply below_drew1 | refine below_set ?_ GE120.out | refine below_set ?_ GE133.out) | exact HB.out)), z_HO123, z_HO126, z_HO129, z_HO132, fun _ _ => (by first | (with_reducible exact BK133.out) | ((with_reducible repeat (first | refine blk_drewN ?_ _ | refine blk_drew ?_ | refine blk_alloc ?_ _)); exact BK133.out)), fun _ => GW133.out, fun _ => GE133.out, fun _ => NB120_133.out, fun _ => NB133_120.out, fun h0_ => absurd ((hoff 10 (by kernel_rfl)).symm.trans h0_) (by decide), Q_NE_v122_v125, Q_NE_v122_v128, Q_NE_v122_v131, Q_NE_v125_v128, Q_NE_v125_v131, Q_NE_v128_v131, Q_X8_, fun _ => rfl⟩
        refine steps_cons ?_ ?_
        · rintro b a w' ⟨v122, v125, v128, v131, gb133, m8_, m9_, ha, Q_BK120, Q_HB, Q_HO123, Q_HO126, Q_HO129, Q_HO132, Q_BK133, Q_GW133, Q_GE133, Q_NB120_133, Q_NB133_120, Q_BK133_e10, Q_NE_v122_v125, Q_NE_v122_v128, Q_NE_v122_v131, Q_NE_v125_v128, Q_NE_v125_v131, Q_NE_v128_v131, Q_X8_, Q_X9_⟩ hb_ hon hoff
          refine ⟨_, rfl, fun K hK => ?_⟩
          have e3 : a.tmps[3]? = some (m9_) := by rw [ha]; exact putSel_on (e := (9, 3, m9_)) 5 rfl rfl (hon 9 (by kernel_rfl)) rfl
          rw [Q_X9_ (hon 9 (by kernel_rfl))] at e3
          have e13 : a.tmps[13]? = some (m8_) := by rw [ha]; exact putSel_on (e := (8, 13, m8_)) 4 rfl rfl (hon 8 (by kernel_rfl)) rfl
          rw [Q_X8_ (hon 8 (by kernel_rfl))] at e13
          replace ha := Aside0.mk ha
          have BK120 := Aside0.mk Q_BK120
          have HB := Aside0.mk Q_HB
          have HO123 := Aside0.mk (Q_HO123 (hon 1 (by kernel_rfl)))
          have HO126 := Aside0.mk (Q_HO126 (hon 3 (by kernel_rfl)))
          have HO129 := Aside0.mk (Q_HO129 (hon 5 (by kernel_rfl)))
          have HO132 := Aside0.mk (Q_HO132 (hon 7 (by kernel_rfl)))
          have BK133 := Aside0.mk (Q_BK133 (hon 9 (by kernel_rfl)) hb_)
          have GW133 := Aside0.mk (Q_GW133 (hon 9 (by kernel_rfl)))
          have GE133 := Aside0.mk (Q_GE133 (hon 9 (by kernel_rfl)))
          have NB120_133 := Aside0.mk (Q_NB120_133 (hon 9 (by kernel_rfl)))
          have NB133_120 := Aside0.mk (Q_NB133_120 (hon 9 (by kernel_rfl)))
          have NE_v122_v125 := Aside0.mk (Q_NE_v122_v125 (hon 1 (by kernel_rfl)) (hon 3 (by kernel_rfl)))
          have NE_v122_v128 := Aside0.mk (Q_NE_v122_v128 (hon 1 (by kernel_rfl)) (hon 5 (by kernel_rfl)))
          have NE_v122_v131 := Aside0.mk (Q_NE_v122_v131 (hon 1 (by kernel_rfl)) (hon 7 (by kernel_rfl)))
          have NE_v125_v128 := Aside0.mk (Q_NE_v125_v128 (hon 3 (by kernel_rfl)) (hon 5 (by kernel_rfl)))
          have NE_v125_v131 := Aside0.mk (Q_NE_v125_v131 (hon 3 (by kernel_rfl)) (hon 7 (by kernel_rfl)))
          have NE_v128_v131 := Aside0.mk (Q_NE_v128_v131 (hon 5 (by kernel_rfl)) (hon 7 (by kernel_rfl)))
          obtain ⟨Ao20, co20, eo20⟩ := Kd.R_slice HO132.out
          (first | subst eo20 | (injection eo20 with f1_ f2_ f3_; have f4_ := f1_.symm; have f5_ := f3_.symm; clear f1_ f2_ f3_; subst f4_; subst f5_))
          obtain ⟨Ao21, co21, eo21⟩ := Kd.R_slice HO129.out
          (first | subst eo21 | (injection eo21 with f1_ f2_ f3_; have f4_ := f1_.symm; have f5_ := f3_.symm; clear f1_ f2_ f3_; subst f4_; subst f5_))
          obtain ⟨Ao22, co22, eo22⟩ := Kd.R_slice HO126.out
          (first | subst eo22 | (injection eo22 with f1_ f2_ f3_; have f4_ := f1_.symm; have f5_ := f3_.symm; clear f1_ f2_ f3_; subst f4_; subst f5_))
          obtain ⟨Ao23, co23, eo23⟩ := Kd.R_slice HO123.out
          (first | subst eo23 | (injection eo23 with f1_ f2_ f3_; have f4_ := f1_.symm; have f5_ := f3_.symm; clear f1_ f2_ f3_; subst f4_; subst f5_))
          have hs24 : w'.cell? ⟨gb133, 0, none⟩ = some (.slice none 0 0) := (blk_cell BK133.out 0).trans rfl
          have hfs24 := blk_frozen BK133.out 0
          have hns24_0 := NB120_133.out
          have hms24_0 := NB133_120.out
          have hs25 : w'.cell? ⟨gb133, 1, none⟩ = some (.slice none 0 0) := (blk_cell BK133.out 1).trans rfl
          have hfs25 := blk_frozen BK133.out 1
          have hns25_0 := NB120_133.out
          have hms25_0 := NB133_120.out
          have hs26 : w'.cell? ⟨gb133, 2, none⟩ = some (.slice none 0 0) := (blk_cell BK133.out 2).trans rfl
          have hfs26 := blk_frozen BK133.out 2
          have hns26_0 := NB120_133.out
          have hms26_0 := NB133_120.out
          have hs27 : w'.cell? ⟨gb133, 3, none⟩ = some (.slice none 0 0) := (blk_cell BK133.out 3).trans rfl
          have hfs27 := blk_frozen BK133.out 3
          have hns27_0 := NB120_133.out
          have hms27_0 := NB133_120.out
          have hs28 : w'.cell? ⟨gb133, 4, none⟩ = some (.slice none 0 0) := (blk_cell BK133.out 4).trans rfl
          have hfs28 := blk_frozen BK133.out 4
          have hns28_0 := NB120_133.out
          have hms28_0 := NB133_120.out
          have hs29 : w'.cell? ⟨gb133, 5, none⟩ = some (.slice none 0 0) := (blk_cell BK133.out 5).trans rfl
          have hfs29 := blk_frozen BK133.out 5
          have hns29_0 := NB120_133.out
          have hms29_0 := NB133_120.out
          refine skip_ (w1 := ?_) (by rfl) rfl ?_ ?_
          rotate_left
          · go_simp
            rfl
          refine hK.out _ _ ⟨.slice Ao23 y121.length co23, .slice Ao22 y124.length co22, .slice Ao21 y127.length co21, .slice Ao20 y130.length co20, gb133, m8_, m9_, (by rw [ha.out]; exact putSel_none (v := undef) rfl), (by (with_reducible repeat (first | refine blk_drewN ?_ _ | refine blk_drew ?_ | refine blk_alloc ?_ _)); refine blk_far ?_ NB120_133.out _; (with_reducible repeat (first | refine blk_drewN ?_ _ | refine blk_drew ?_ | refine blk_alloc ?_ _)); refine blk_far ?_ NB120_133.out _; (with_reducible repeat (first | refine blk_drewN ?_ _ | refine blk_drew ?_ | refine blk_alloc ?_ _)); refine blk_far ?_ NB120_133.out _; (with_reducible repeat (first | refine blk_drewN ?_ _ | refine blk_drew ?_ | refine blk_alloc ?_ _)); refine blk_far ?_ NB120_133.out _; (with_reducible repeat (first | refine blk_drewN ?_ _ | refine blk_drew ?_ | refine blk_alloc ?_ _)); refine blk_far ?_ NB120_133.out _; (with_reducible repeat (first | refine blk_drewN ?_ _ | refine blk_drew ?_ | refine blk_alloc ?_ _)); refine blk_far ?_ NB120_133.out _; (with_reducible repeat (first | refine blk_drewN ?_ _ | refine blk_drew ?_ | refine blk_alloc ?_ _)); exact BK120.out), (by repeat (first | (with_reducible first | exact HB.out | apply below_alloc | apply pw_below_drewN | apply below_drew1 | refine below_set ?_ GE120.out | refine below_set ?_ GE133.out) | exact HB.out)), fun _ => (by (with_reducible repeat (first | apply Kd.R_alloc | apply Kd.R_drewN | apply Kd.R_drew)); exact Kd.R_mono (Kd.R_far (p := ⟨gb133, 5, none⟩) (Kd.R_far (p := ⟨gb133, 4, none⟩) (Kd.R_far (p := ⟨gb133, 3, none⟩) (Kd.R_far (p := ⟨gb133, 2, none⟩) (Kd.R_far (p := ⟨gb133, 1, none⟩) (Kd.R_far (p := ⟨gb133, 0, none⟩) (Kd.R_types HO123.out BK133.out (by decide)) (fun _ hk => hk.2) (.slice none 0 0)) (fun _ hk => hk.2) (.slice none 0 0)) (fun _ hk => hk.2) (.slice Ao23 y121.length co23)) (fun _ hk => hk.2) (.slice Ao22 y124.length co22)) (fun _ hk => hk.2) (.slice Ao21 y127.length co21)) (fun _ hk => hk.2) (.slice Ao20 y130.length co20)) (fun _ hk => by first | trivial | exact hk.1 | exact ⟨hk.1.1, ⟨hk.1.2.1, hk.1.2.2⟩⟩)), fun _ => (by (with_reducible repeat (first | apply Kd.R_alloc | apply Kd.R_drewN | apply Kd.R_drew)); exact Kd.R_mono (Kd.R_far (p := ⟨gb133, 5, none⟩) (Kd.R_far (p := ⟨gb133, 4, none⟩) (Kd.R_far (p := ⟨gb133, 3, none⟩) (Kd.R_far (p := ⟨gb133, 2, none⟩) (Kd.R_far (p := ⟨gb133, 1, none⟩) (Kd.R_far (p := ⟨gb133, 0, none⟩) (Kd.R_types HO126.out BK133.out (by decide)) (fun _ hk => hk.2) (.slice none 0 0)) (fun _ hk => hk.2) (.slice none 0 0)) (fun _ hk => hk.2) (.slice Ao23 y121.length co23)) (fun _ hk => hk.2) (.slice Ao22 y124.length co22)) (fun _ hk => hk.2) (.slice Ao21 y127.length co21)) (fun _ hk => hk.2) (.slice Ao20 y130.length co20)) (fun _ hk => by first | trivial | exact hk.1 | exact ⟨hk.1.1, ⟨hk.1.2.1, hk.1.2.2⟩⟩)), fun _ => (by (with_reducible repeat (first | apply Kd.R_alloc | apply Kd.R_drewN | apply Kd.R_drew)); exact Kd.R_mono (Kd.R_far (p := ⟨gb133, 5, none⟩) (Kd.R_far (p := ⟨gb133, 4, none⟩) (Kd.R_far (p := ⟨gb133, 3, none⟩) (Kd.R_far (p := ⟨gb133, 2, none⟩) (Kd.R_far (p := ⟨gb133, 1, none⟩) (Kd.R_far (p := ⟨gb133, 0, none⟩) (Kd.R_types HO129.out BK133.out (by decide)) (fun _ hk => hk.2) (.slice none 0 0)) (fun _ hk => hk.2) (.slice none 0 0)) (fun _ hk => hk.2) (.slice Ao23 y121.length co23)) (fun _ hk => hk.2) (.slice Ao22 y124.length co22)) (fun _ hk => hk.2) (.slice Ao21 y127.length co21)) (fun _ hk => hk.2) (.slice Ao20 y130.length co20)) (fun _ hk => by first | trivial | exact hk.1 | exact ⟨hk.1.1, ⟨hk.1.2.1, hk.1.2.2⟩⟩)), fun _ => (by (with_reducible repeat (first | apply Kd.R_alloc | apply Kd.R_drewN | apply Kd.R_drew)); exact Kd.R_mono (Kd.R_far (p := ⟨gb133, 5, none⟩) (Kd.R_far (p := ⟨gb133, 4, none⟩) (Kd.R_far (p := ⟨gb133, 3, none⟩) (Kd.R_far (p := ⟨gb133, 2, none⟩) (Kd.R_far (p := ⟨gb133, 1, none⟩) (Kd.R_far (p := ⟨gb133, 0, none⟩) (Kd.R_types HO132.out BK133.out (by decide)) (fun _ hk => hk.2) (.slice none 0 0)) (fun _ hk => hk.2) (.slice none 0 0)) (fun _ hk => hk.2) (.slice Ao23 y121.length co23)) (fun _ hk => hk.2) (.slice Ao22 y124.length co22)) (fun _ hk => hk.2) (.slice Ao21 y127.length co21)) (fun _ hk => hk.2) (.slice Ao20 y130.length co20)) (fun _ hk => by first | trivial | exact hk.1 | exact ⟨hk.1.1, ⟨hk.1.2.1, hk.1.2.2⟩⟩)), fun _ h1_ => absurd ((up_self b 10).symm.trans h1_) (by decide), fun _ => GW133.out, fun _ => GE133.out, fun _ => NB120_133.out, fun _ => NB133_120.out, fun _ => (by (with_reducible repeat (first | refine blk_drewN ?_ _ | refine blk_drew ?_ | refine blk_alloc ?_ _)); refine blk_put (cs := #[.slice none 0 0, .slice none 0 0, .slice Ao23 y121.length co23, .slice Ao22 y124.length co22, .slice Ao21 y127.length co21, .slice none 0 0]) ?_ 5 _ rfl; (with_reducible repeat (first | refine blk_drewN ?_ _ | refine blk_drew ?_ | refine blk_alloc ?_ _)); refine blk_put (cs := #[.slice none 0 0, .slice none 0 0, .slice Ao23 y121.length co23, .slice Ao22 y124.length co22, .slice none 0 0, .slice none 0 0]) ?_ 4 _ rfl; (with_reducible repeat (first | refine blk_drewN ?_ _ | refine blk_drew ?_ | refine blk_alloc ?_ _)); refine blk_put (cs := #[.slice none 0 0, .slice none 0 0, .slice Ao23 y121.length co23, .slice none 0 0, .slice none 0 0, .slice none 0 0]) ?_ 3 _ rfl; (with_reducible repeat (first | refine blk_drewN ?_ _ | refine blk_drew ?_ | refine blk_alloc ?_ _)); refine blk_put (cs := #[.slice none 0 0, .slice none 0 0, .slice none 0 0, .slice none 0 0, .slice none 0 0, .slice none 0 0]) ?_ 2 _ rfl; (with_reducible repeat (first | refine blk_drewN ?_ _ | refine blk_drew ?_ | refine blk_alloc ?_ _)); refine blk_put (cs := #[.slice none 0 0, .slice none 0 0, .slice none 0 0, .slice none 0 0, .slice none 0 0, .slice none 0 0]) ?_ 1 _ rfl; (with_reducible repeat (first | refine blk_drewN ?_ _ | refine blk_drew ?_ | refine blk_alloc ?_ _)); refine blk_put (cs := #[.slice none 0 0, .slice none 0 0, .slice none 0 0, .slice none 0 0, .slice none 0 0, .slice none 0 0]) ?_ 0 _ rfl; (with_reducible repeat (first | refine blk_drewN ?_ _ | refine blk_drew ?_ | refine blk_alloc ?_ _)); exact BK133.out), Q_NE_v122_v125, Q_NE_v122_v128, Q_NE_v122_v131, Q_NE_v125_v128, Q_NE_v125_v131, Q_NE_v128_v131, Q_X8_, Q_X9_⟩
        exact steps_nil
      rintro b a w25 hall ⟨v122, v125, v128, v131, gb133, m8_, m9_, ha, Q_BK120, Q_HB, Q_HO123, Q_HO126, Q_HO129, Q_HO132, Q_BK133, Q_GW133, Q_GE133, Q_NB120_133, Q_NB133_120, Q_BK133_e10, Q_NE_v122_v125, Q_NE_v122_v128, Q_NE_v122_v131, Q_NE_v125_v128, Q_NE_v125_v131, Q_NE_v128_v131, Q_X8_, Q_X9_⟩
      clear BK120 HB
      have hb1_ := hall 1 (by kernel_rfl)
      have hb3_ := hall 3 (by kernel_rfl)
      have hb5_ := hall 5 (by kernel_rfl)
      have hb7_ := hall 7 (by kernel_rfl)
      have hb8_ := hall 8 (by kernel_rfl)
      have hb9_ := hall 9 (by kernel_rfl)
      have hb10_ := hall 10 (by kernel_rfl)
      subst ha
      obtain rfl := Q_X8_ hb8_
      obtain rfl := Q_X9_ hb9_
      simp only [putSel, hb1_, hb3_, hb5_, hb7_, hb8_, hb9_, hb10_, if_true, Act.put, List.setIfInBounds_toArray, List.set_cons_zero, List.set_cons_succ]
      have BK120 := Aside0.mk Q_BK120
      clear Q_BK120
      have HB := Aside0.mk Q_HB
      clear Q_HB
      have HO123 := Aside0.mk (Q_HO123 hb1_)
      clear Q_HO123
      have HO126 := Aside0.mk (Q_HO126 hb3_)
      clear Q_HO126
      have HO129 := Aside0.mk (Q_HO129 hb5_)
      clear Q_HO129
      have HO132 := Aside0.mk (Q_HO132 hb7_)
      clear Q_HO132
      clear Q_BK133
      have GW133 := Aside0.mk (Q_GW133 hb9_)
      clear Q_GW133
      have GE133 := Aside0.mk (Q_GE133 hb9_)
      clear Q_GE133
      have NB120_133 := Aside0.mk (Q_NB120_133 hb9_)
      clear Q_NB120_133
      have NB133_120 := Aside0.mk (Q_NB133_120 hb9_)
      clear Q_NB133_120
      have BK133 := Aside0.mk (Q_BK133_e10 hb10_)
      clear Q_BK133_e10
      have NE_v122_v125 := Aside0.mk (Q_NE_v122_v125 hb1_ hb3_)
      clear Q_NE_v122_v125
      have NE_v122_v128 := Aside0.mk (Q_NE_v122_v128 hb1_ hb5_)
      clear Q_NE_v122_v128
      have NE_v122_v131 := Aside0.mk (Q_NE_v122_v131 hb1_ hb7_)
      clear Q_NE_v122_v131
      have NE_v125_v128 := Aside0.mk (Q_NE_v125_v128 hb3_ hb5_)
      clear Q_NE_v125_v128
      have NE_v125_v131 := Aside0.mk (Q_NE_v125_v131 hb3_ hb7_)
      clear Q_NE_v125_v131
      have NE_v128_v131 := Aside0.mk (Q_NE_v128_v131 hb5_ hb7_)
      clear Q_NE_v128_v131
      clear hall hb1_ hb3_ hb5_ hb7_ hb8_ hb9_ hb10_
      have n_HO123 := Aside0.mk (show Kd.R (Kd.int .i64) 3 w25 w.heap.size (fun k_ => some k_ ≠ (v125 : Value).ownBlock ∧ some k_ ≠ (v128 : Value).ownBlock ∧ some k_ ≠ (v131 : Value).ownBlock) v122 y121 from Kd.R_of_own (Kd.own_of_R HO123.out) (fun k_ e_ => ⟨(fun e2_ => NE_v122_v125.out k_ e_ e2_.symm), (fun e2_ => NE_v122_v128.out k_ e_ e2_.symm), (fun e2_ => NE_v122_v131.out k_ e_ e2_.symm)⟩))
      have n_HO126 := Aside0.mk (show Kd.R (Kd.int .i64) 3 w25 w.heap.size (fun k_ => some k_ ≠ (v122 : Value).ownBlock ∧ some k_ ≠ (v128 : Value).ownBlock ∧ some k_ ≠ (v131 : Value).ownBlock) v125 y124 from Kd.R_of_own (Kd.own_of_R HO126.out) (fun k_ e_ => ⟨(fun e2_ => NE_v122_v125.out k_ e2_.symm e_), (fun e2_ => NE_v125_v128.out k_ e_ e2_.symm), (fun e2_ => NE_v125_v131.out k_ e_ e2_.symm)⟩))
      have n_HO129 := Aside0.mk (show Kd.R (Kd.int .i64) 3 w25 w.heap.size (fun k_ => some k_ ≠ (v122 : Value).ownBlock ∧ some k_ ≠ (v125 : Value).ownBlock ∧ some k_ ≠ (v131 : Value).ownBlock) v128 y127 from Kd.R_of_own (Kd.own_of_R HO129.out) (fun k_ e_ => ⟨(fun e2_ => NE_v122_v128.out k_ e2_.symm e_), (fun e2_ => NE_v125_v128.out k_ e2_.symm e_), (fun e2_ => NE_v128_v131.out k_ e_ e2_.symm)⟩))
      have n_HO132 := Aside0.mk (show Kd.R (Kd.int .i64) 3 w25 w.heap.size (fun k_ => some k_ ≠ (v122 : Value).ownBlock ∧ some k_ ≠ (v125 : Value).ownBlock ∧ some k_ ≠ (v128 : Value).ownBlock) v131 y130 from Kd.R_of_own (Kd.own_of_R HO132.out) (fun k_ e_ => ⟨(fun e2_ => NE_v122_v131.out k_ e2_.symm e_), (fun e2_ => NE_v125_v131.out k_ e2_.symm e_), (fun e2_ => NE_v128_v131.out k_ e2_.symm e_)⟩))
      clear HO123
      have HO123 := n_HO123
      clear n_HO123
      clear HO126
      have HO126 := n_HO126
      clear n_HO126
      clear HO129
      have HO129 := n_HO129
      clear n_HO129
      clear HO132
      have HO132 := n_HO132
      clear n_HO132
      clear NE_v122_v125 NE_v122_v128 NE_v122_v131 NE_v125_v128 NE_v125_v131 NE_v128_v131
      obtain ⟨Ao26, co26, eo26⟩ := Kd.R_slice HO132.out
      (first | subst eo26 | (injection eo26 with f1_ f2_ f3_; have f4_ := f1_.symm; have f5_ := f3_.symm; clear f1_ f2_ f3_; subst f4_; subst f5_))
      obtain ⟨Ao27, co27, eo27⟩ := Kd.R_slice HO129.out
      (first | subst eo27 | (injection eo27 with f1_ f2_ f3_; have f4_ := f1_.symm; have f5_ := f3_.symm; clear f1_ f2_ f3_; subst f4_; subst f5_))
      obtain ⟨Ao28, co28, eo28⟩ := Kd.R_slice HO126.out
      (first | subst eo28 | (injection eo28 with f1_ f2_ f3_; have f4_ := f1_.symm; have f5_ := f3_.symm; clear f1_ f2_ f3_; subst f4_; subst f5_))
      obtain ⟨Ao29, co29, eo29⟩ := Kd.R_slice HO123.out
      (first | subst eo29 | (injection eo29 with f1_ f2_ f3_; have f4_ := f1_.symm; have f5_ := f3_.symm; clear f1_ f2_ f3_; subst f4_; subst f5_))
      try go_wp2
      go_loopg [4] k (fun kq v4 w' => ∃ (x4_1 : Int) (x134000_1 : List Int) (x134001_1 : List Int) (u134000 : Value) (u134001 : Value), v4 = .int .i64 x4_1 ∧ Aside0 (spec_l7Start.l0 kq a0 x4_1 x134000_1 x134001_1 y121 y124 y127 y130 = some (r1, r2, r3, r4, r5, r6)) ∧ Aside0 (kq ≤ k) ∧ Aside0 (Kd.R (Kd.int .i64) 3 w' w.heap.size (fun k_ => some k_ ≠ (u134001 : Value).ownBlock ∧ some k_ ≠ ((.slice Ao29 y121.length co29) : Value).ownBlock ∧ some k_ ≠ ((.slice Ao28 y124.length co28) : Value).ownBlock ∧ some k_ ≠ ((.slice Ao27 y127.length co27) : Value).ownBlock ∧ some k_ ≠ ((.slice Ao26 y130.length co26) : Value).ownBlock) u134000 x134000_1) ∧ Aside0 (Kd.R (Kd.int .i64) 3 w' w.heap.size (fun k_ => some k_ ≠ (u134000 : Value).ownBlock ∧ some k_ ≠ ((.slice Ao29 y121.length co29) : Value).ownBlock ∧ some k_ ≠ ((.slice Ao28 y124.length co28) : Value).ownBlock ∧ some k_ ≠ ((.slice Ao27 y127.length co27) : Value).ownBlock ∧ some k_ ≠ ((.slice Ao26 y130.length co26) : Value).ownBlock) u134001 x134001_1) ∧ Aside0 (Kd.R (Kd.int .i64) 3 w' w.heap.size (fun k_ => some k_ ≠ (u134000 : Value).ownBlock ∧ some k_ ≠ (u134001 : Value).ownBlock ∧ some k_ ≠ ((.slice Ao28 y124.length co28) : Value).ownBlock ∧ some k_ ≠ ((.slice Ao27 y127.length co27) : Value).ownBlock ∧ some k_ ≠ ((.slice Ao26 y130.length co26) : Value).ownBlock) (.slice Ao29 y121.length co29) y121) ∧ Aside0 (Kd.R (Kd.int .i64) 3 w' w.heap.size (fun k_ => some k_ ≠ (u134000 : Value).ownBlock ∧ some k_ ≠ (u134001 : Value).ownBlock ∧ some k_ ≠ ((.slice Ao29 y121.length co29) : Value).ownBlock ∧ some k_ ≠ ((.slice Ao27 y127.length co27) : Value).ownBlock ∧ some k_ ≠ ((.slice Ao26 y130.length co26) : Value).ownBlock) (.slice Ao28 y124.length co28) y124) ∧ Aside0 (Kd.R (Kd.int .i64) 3 w' w.heap.size (fun k_ => some k_ ≠ (u134000 : Value).ownBlock ∧ some k_ ≠ (u134001 : Value).ownBlock ∧ some k_ ≠ ((.slice Ao29 y121.length co29) : Value).ownBlock ∧ some k_ ≠ ((.slice Ao28 y124.length co28) : Value).ownBlock ∧ some k_ ≠ ((.slice Ao26 y130.length co26) : Value).ownBlock) (.slice Ao27 y127.length co27) y127) ∧ Aside0 (Kd.R (Kd.int .i64) 3 w' w.heap.size (fun k_ => some k_ ≠ (u134000 : Value).ownBlock ∧ some k_ ≠ (u134001 : Value).ownBlock ∧ some k_ ≠ ((.slice Ao29 y121.length co29) : Value).ownBlock ∧ some k_ ≠ ((.slice Ao28 y124.length co28) : Value).ownBlock ∧ some k_ ≠ ((.slice Ao27 y127.length co27) : Value).ownBlock) (.slice Ao26 y130.length co26) y130) ∧ Aside0 (w'.heap[gb120]? = some (.cells #[(.slice none 0 0), (.slice none 0 0), (.slice none 0 0), (.slice none 0 0), (.slice none 0 0), (.slice none 0 0)] 58 (0, 0))) ∧ Aside0 (w'.heap[gb133]? = some (.cells #[u134000, u134001, (.slice Ao29 y121.length co29), (.slice Ao28 y124.length co28), (.slice Ao27 y127.length co27), (.slice Ao26 y130.length co26)] 58 (0, 0))) ∧ Aside0 (Below w.heap.size w w'))
      case atStart => exact ⟨(0), (([] : List Int)), (([] : List Int)), (.slice none 0 0), (.slice none 0 0), (by first | rfl | (simp; done) | (simp [*]; done)), H', ⟨Nat.le_refl _⟩, ⟨by first | exact Kd.R_nil _ _ _ _ _ | exact Kd.N_nil _ _ _ _ _ | exact Kd.V_nil _ _ _ _ _ | exact Kd.Q_nil _ _ _ _ _ | exact Kd.S_nil _ _ _ _ _⟩, ⟨by first | exact Kd.R_nil _ _ _ _ _ | exact Kd.N_nil _ _ _ _ _ | exact Kd.V_nil _ _ _ _ _ | exact Kd.Q_nil _ _ _ _ _ | exact Kd.S_nil _ _ _ _ _⟩, ⟨by (with_reducible repeat (first | apply Kd.R_alloc | apply Kd.R_drewN | apply Kd.R_drew)); exact Kd.R_mono HO123.out (fun _ hk => ⟨(by simp [Value.ownBlock]), ⟨(by simp [Value.ownBlock]), ⟨hk.1, ⟨hk.2.1, hk.2.2⟩⟩⟩⟩)⟩, ⟨by (with_reducible repeat (first | apply Kd.R_alloc | apply Kd.R_drewN | apply Kd.R_drew)); exact Kd.R_mono HO126.out (fun _ hk => ⟨(by simp [Value.ownBlock]), ⟨(by simp [Value.ownBlock]), ⟨hk.1, ⟨hk.2.1, hk.2.2⟩⟩⟩⟩)⟩, ⟨by (with_reducible repeat (first | apply Kd.R_alloc | apply Kd.R_drewN | apply Kd.R_drew)); exact Kd.R_mono HO129.out (fun _ hk => ⟨(by simp [Value.ownBlock]), ⟨(by simp [Value.ownBlock]), ⟨hk.1, ⟨hk.2.1, hk.2.2⟩⟩⟩⟩)⟩, ⟨by (with_reducible repeat (first | apply Kd.R_alloc | apply Kd.R_drewN | apply Kd.R_drew)); exact Kd.R_mono HO132.out (fun _ hk => ⟨(by simp [Value.ownBlock]), ⟨(by simp [Value.ownBlock]), ⟨hk.1, ⟨hk.2.1, hk.2.2⟩⟩⟩⟩)⟩, ⟨by first | (with_reducible exact BK120.out) | ((with_reducible repeat (first | refine blk_drewN ?_ _ | refine blk_drew ?_ | refine blk_alloc ?_ _)); exact BK120.out)⟩, ⟨by first | (with_reducible exact BK133.out) | ((with_reducible repeat (first | refine blk_drewN ?_ _ | refine blk_drew ?_ | refine blk_alloc ?_ _)); exact BK133.out)⟩, ⟨by repeat (first | (with_reducible first | exact HB.out | apply below_alloc | apply pw_below_drewN | apply below_drew1 | refine below_set ?_ GE120.out | refine below_set ?_ GE133.out) | exact HB.out)⟩⟩
      case round =>
        clear H'
        try clear c2
        try clear c2b0
        try clear c2b1
        try clear p2
        try clear c3
        try clear c3b0
        try clear c3b1
        try clear c6
        obtain ⟨x4_1, x134000_1, x134001_1, u134000, u134001, rfl, HA, HK1, HO_134000, HO_134001, HO_134002, HO_134003, HO_134004, HO_134005, BK120, BK133, HB⟩ := hrel
        cases gk with
        | zero => exact absurd HA.out (by simp [spec_l7Start.l0])
        | succ k1 =>
          have H := HA.out
          clear HA
          simp only [spec_l7Start.l0] at H
          by_cases c30 : x4_1 < a0
          · rw [if_pos c30] at H
            have c30b0 : decide (x4_1 < a0) = true := decide_eq_true c30
            clear c30
            by_cases c31 : x134000_1.length < 17592186044416
            · rw [if_pos c31] at H
              have LMc31 := Aside0.mk c31
              clear c31
              obtain ⟨y134, hy134⟩ : ∃ y_ : List Int, y_ = (x134000_1 ++ [(-1)]) := ⟨_, rfl⟩
              replace H : (if x134001_1.length < 17592186044416 then (spec_l7Start.l0 k1 a0 (wrap64 (x4_1 + 1)) y134 (x134001_1 ++ [(-1)]) y121 y124 y127 y130) else (none)) = some (r1, r2, r3, r4, r5, r6) := by first | (rw [hy134]; with_reducible exact H) | (have H2_ := (Option.bind_some _ _).symm.trans H; rw [hy134]; with_reducible exact H2_) | (have H2_ := (Option.bind_some _ _).symm.trans H; with_reducible exact H2_) | with_reducible exact H | (rw [hy134]; exact H) | exact H
              have Ny134 := Aside0.mk hy134
              clear hy134
              by_cases c32 : x134001_1.length < 17592186044416
              · rw [if_pos c32] at H
                have LMc32 := Aside0.mk c32
                clear c32
                obtain ⟨y137, hy137⟩ : ∃ y_ : List Int, y_ = (x134001_1 ++ [(-1)]) := ⟨_, rfl⟩
                replace H : (spec_l7Start.l0 k1 a0 (wrap64 (x4_1 + 1)) y134 y137 y121 y124 y127 y130) = some (r1, r2, r3, r4, r5, r6) := by first | (rw [hy137]; with_reducible exact H) | (have H2_ := (Option.bind_some _ _).symm.trans H; rw [hy137]; with_reducible exact H2_) | (have H2_ := (Option.bind_some _ _).symm.trans H; with_reducible exact H2_) | with_reducible exact H | (rw [hy137]; exact H) | exact H
                have Ny137 := Aside0.mk hy137
                clear hy137
                have H' := Aside0.mk H
                clear H
                have hnb33 := NB133_120.out
                have hnc33 := NB120_133.out
                have hcz34_0 : wr.cell? ⟨gb133, 0, none⟩ = some (u134000) := (blk_cell BK133.out 0).trans rfl
                have hcz34_1 : wr.cell? ⟨gb133, 1, none⟩ = some (u134001) := (blk_cell BK133.out 1).trans rfl
                have hcz34_2 : wr.cell? ⟨gb133, 2, none⟩ = some (.slice Ao29 y121.length co29) := (blk_cell BK133.out 2).trans rfl
                have hcz34_3 : wr.cell? ⟨gb133, 3, none⟩ = some (.slice Ao28 y124.length co28) := (blk_cell BK133.out 3).trans rfl
                have hcz34_4 : wr.cell? ⟨gb133, 4, none⟩ = some (.slice Ao27 y127.length co27) := (blk_cell BK133.out 4).trans rfl
                have hcz34_5 : wr.cell? ⟨gb133, 5, none⟩ = some (.slice Ao26 y130.length co26) := (blk_cell BK133.out 5).trans rfl
                have hfz34_0 := blk_frozen BK133.out 0
                have hfz34_1 := blk_frozen BK133.out 1
                have hfz34_2 := blk_frozen BK133.out 2
                have hfz34_3 := blk_frozen BK133.out 3
                have hfz34_4 := blk_frozen BK133.out 4
                have hfz34_5 := blk_frozen BK133.out 5
                go_wp2_with (first | ((with_reducible refine gate_builtin (b := .append) (xs := #[.tmp 20, .tmp 21]) rfl ?_); at_builtin; refine Kd.R_append (Kd.int .i64) (w0 := w) w.heap.size rfl (.tmp 20) (.tmp 21) 24 3 (.int .i64 0) 8 rfl Try.underlying24 info3 rfl (by decide) (by omega) u134000 x134000_1 (-1) [.int .i64 (-1)] (fun k_ => some k_ ≠ (u134001 : Value).ownBlock ∧ some k_ ≠ (.slice Ao29 y121.length co29 : Value).ownBlock ∧ some k_ ≠ (.slice Ao28 y124.length co28 : Value).ownBlock ∧ some k_ ≠ (.slice Ao27 y127.length co27 : Value).ownBlock ∧ some k_ ≠ (.slice Ao26 y130.length co26 : Value).ownBlock) (fun _ => False) rfl rfl ?aP (fun _ hk => hk.elim) ?aF ?aO ?aB ?aS ?aL ?_; (case aP => exact rfl); (case aB => exact (by repeat (first | (with_reducible first | exact HB.out | apply below_alloc | apply pw_below_drewN | apply below_drew1 | refine below_set ?_ GE120.out | refine below_set ?_ GE133.out) | exact HB.out))); (case aF => exact (fun k_ hk => ⟨Kd.fresh' (Kd.R_lt (by (with_reducible repeat (first | apply Kd.R_alloc | apply Kd.R_drewN | apply Kd.R_drew)); exact HO_134001.out)) k_ hk, Kd.fresh' (Kd.R_lt (by (with_reducible repeat (first | apply Kd.R_alloc | apply Kd.R_drewN | apply Kd.R_drew)); exact HO_134002.out)) k_ hk, Kd.fresh' (Kd.R_lt (by (with_reducible repeat (first | apply Kd.R_alloc | apply Kd.R_drewN | apply Kd.R_drew)); exact HO_134003.out)) k_ hk, Kd.fresh' (Kd.R_lt (by (with_reducible repeat (first | apply Kd.R_alloc | apply Kd.R_drewN | apply Kd.R_drew)); exact HO_134004.out)) k_ hk, Kd.fresh' (Kd.R_lt (by (with_reducible repeat (first | apply Kd.R_alloc | apply Kd.R_drewN | apply Kd.R_drew)); exact HO_134005.out)) k_ hk⟩)); (case aO => exact (by (with_reducible repeat (first | apply Kd.R_alloc | apply Kd.R_drewN | apply Kd.R_drew)); exact HO_134000.out)); (case aS => exact (below_size (by repeat (first | (with_reducible first | exact HB.out | apply below_alloc | apply pw_below_drewN | apply below_drew1 | refine below_set ?_ GE120.out | refine below_set ?_ GE133.out) | exact HB.out)))); (case aL => have := LMc31.out; omega); intro v135 w35 ho hb hg hat; rw [← Ny134.out] at ho; have n0_ := Aside0.mk (Kd.R_after (ok := (fun k_ => some k_ ≠ (.slice Ao29 y121.length co29 : Value).ownBlock ∧ some k_ ≠ (.slice Ao28 y124.length co28 : Value).ownBlock ∧ some k_ ≠ (.slice Ao27 y127.length co27 : Value).ownBlock ∧ some k_ ≠ (.slice Ao26 y130.length co26 : Value).ownBlock)) (by (with_reducible repeat (first | apply Kd.R_alloc | apply Kd.R_drewN | apply Kd.R_drew)); exact Kd.R_mono HO_134001.out (fun _ hk => ⟨⟨hk.2.1, ⟨hk.2.2.1, ⟨hk.2.2.2.1, hk.2.2.2.2⟩⟩⟩, hk.1⟩)) hg hat); have n1_ := Aside0.mk (Kd.R_after (ok := (fun k_ => some k_ ≠ (u134001 : Value).ownBlock ∧ some k_ ≠ (.slice Ao28 y124.length co28 : Value).ownBlock ∧ some k_ ≠ (.slice Ao27 y127.length co27 : Value).ownBlock ∧ some k_ ≠ (.slice Ao26 y130.length co26 : Value).ownBlock)) (by (with_reducible repeat (first | apply Kd.R_alloc | apply Kd.R_drewN | apply Kd.R_drew)); exact Kd.R_mono HO_134002.out (fun _ hk => ⟨⟨hk.2.1, ⟨hk.2.2.1, ⟨hk.2.2.2.1, hk.2.2.2.2⟩⟩⟩, hk.1⟩)) hg hat); have n2_ := Aside0.mk (Kd.R_after (ok := (fun k_ => some k_ ≠ (u134001 : Value).ownBlock ∧ some k_ ≠ (.slice Ao29 y121.length co29 : Value).ownBlock ∧ some k_ ≠ (.slice Ao27 y127.length co27 : Value).ownBlock ∧ some k_ ≠ (.slice Ao26 y130.length co26 : Value).ownBlock)) (by (with_reducible repeat (first | apply Kd.R_alloc | apply Kd.R_drewN | apply Kd.R_drew)); exact Kd.R_mono HO_134003.out (fun _ hk => ⟨⟨hk.2.1, ⟨hk.2.2.1, ⟨hk.2.2.2.1, hk.2.2.2.2⟩⟩⟩, hk.1⟩)) hg hat); have n3_ := Aside0.mk (Kd.R_after (ok := (fun k_ => some k_ ≠ (u134001 : Value).ownBlock ∧ some k_ ≠ (.slice Ao29 y121.length co29 : Value).ownBlock ∧ some k_ ≠ (.slice Ao28 y124.length co28 : Value).ownBlock ∧ some k_ ≠ (.slice Ao26 y130.length co26 : Value).ownBlock)) (by (with_reducible repeat (first | apply Kd.R_alloc | apply Kd.R_drewN | apply Kd.R_drew)); exact Kd.R_mono HO_134004.out (fun _ hk => ⟨⟨hk.2.1, ⟨hk.2.2.1, ⟨hk.2.2.2.1, hk.2.2.2.2⟩⟩⟩, hk.1⟩)) hg hat); have n4_ := Aside0.mk (Kd.R_after (ok := (fun k_ => some k_ ≠ (u134001 : Value).ownBlock ∧ some k_ ≠ (.slice Ao29 y121.length co29 : Value).ownBlock ∧ some k_ ≠ (.slice Ao28 y124.length co28 : Value).ownBlock ∧ some k_ ≠ (.slice Ao27 y127.length co27 : Value).ownBlock)) (by (with_reducible repeat (first | apply Kd.R_alloc | apply Kd.R_drewN | apply Kd.R_drew)); exact Kd.R_mono HO_134005.out (fun _ hk => ⟨⟨hk.2.1, ⟨hk.2.2.1, ⟨hk.2.2.2.1, hk.2.2.2.2⟩⟩⟩, hk.1⟩)) hg hat); have n5_ := Aside0.mk (blk_grown (g := gb120) (o := .cells #[.slice none 0 0, .slice none 0 0, .slice none 0 0, .slice none 0 0, .slice none 0 0, .slice none 0 0] 58 (0, 0)) (by first | (with_reducible exact BK120.out) | ((with_reducible repeat (first | refine blk_drewN ?_ _ | refine blk_drew ?_ | refine blk_alloc ?_ _)); exact BK120.out)) hg (Kd.R_ne HO_134000.out BK120.out (by decide))); have n6_ := Aside0.mk (blk_grown (g := gb133) (o := .cells #[u134000, u134001, .slice Ao29 y121.length co29, .slice Ao28 y124.length co28, .slice Ao27 y127.length co27, .slice Ao26 y130.length co26] 58 (0, 0)) (by first | (with_reducible exact BK133.out) | ((with_reducible repeat (first | refine blk_drewN ?_ _ | refine blk_drew ?_ | refine blk_alloc ?_ _)); exact BK133.out)) hg (Kd.R_ne HO_134000.out BK133.out (by decide))); have n7_ := Aside0.mk (hb); have n8_ := Aside0.mk (ho); clear HO_134001; clear HO_134002; clear HO_134003; clear HO_134004; clear HO_134005; clear BK120; clear BK133; clear HB; clear HO_134000; have HO_134001 := n0_; have HO_134002 := n1_; have HO_134003 := n2_; have HO_134004 := n3_; have HO_134005 := n4_; have BK120 := n5_; have BK133 := n6_; have HB := n7_; have HO136 := n8_; clear n0_ n1_ n2_ n3_ n4_ n5_ n6_ n7_ n8_; clear ho hb hg hat; obtain ⟨Ao36, co36, eo36⟩ := Kd.R_slice HO136.out; subst eo36; have hcz37_0 : w35.cell? ⟨gb133, 0, none⟩ = some (u134000) := (blk_cell BK133.out 0).trans rfl; have hcz37_1 : w35.cell? ⟨gb133, 1, none⟩ = some (u134001) := (blk_cell BK133.out 1).trans rfl; have hcz37_2 : w35.cell? ⟨gb133, 2, none⟩ = some (.slice Ao29 y121.length co29) := (blk_cell BK133.out 2).trans rfl; have hcz37_3 : w35.cell? ⟨gb133, 3, none⟩ = some (.slice Ao28 y124.length co28) := (blk_cell BK133.out 3).trans rfl; have hcz37_4 : w35.cell? ⟨gb133, 4, none⟩ = some (.slice Ao27 y127.length co27) := (blk_cell BK133.out 4).trans rfl; have hcz37_5 : w35.cell? ⟨gb133, 5, none⟩ = some (.slice Ao26 y130.length co26) := (blk_cell BK133.out 5).trans rfl; have hfz37_0 := blk_frozen BK133.out 0; have hfz37_1 := blk_frozen BK133.out 1; have hfz37_2 := blk_frozen BK133.out 2; have hfz37_3 := blk_frozen BK133.out 3; have hfz37_4 := blk_frozen BK133.out 4; have hfz37_5 := blk_frozen BK133.out 5) | ((with_reducible refine gate_builtin (b := .append) (xs := #[.tmp 25, .tmp 26]) rfl ?_); at_builtin; refine Kd.R_append (Kd.int .i64) (w0 := w) w.heap.size rfl (.tmp 25) (.tmp 26) 24 3 (.int .i64 0) 8 rfl Try.underlying24 info3 rfl (by decide) (by omega) u134001 x134001_1 (-1) [.int .i64 (-1)] (fun k_ => some k_ ≠ (.slice Ao29 y121.length co29 : Value).ownBlock ∧ some k_ ≠ (.slice Ao28 y124.length co28 : Value).ownBlock ∧ some k_ ≠ (.slice Ao27 y127.length co27 : Value).ownBlock ∧ some k_ ≠ (.slice Ao26 y130.length co26 : Value).ownBlock ∧ some k_ ≠ (.slice Ao36 y134.length co36 : Value).ownBlock) (fun _ => False) rfl (by first | (go_simp; done) | (go_simp; rfl)) ?aP (fun _ hk => hk.elim) ?aF ?aO ?aB ?aS ?aL ?_; (case aP => exact rfl); (case aB => exact (by repeat (first | (with_reducible first | exact HB.out | apply below_alloc | apply pw_below_drewN | apply below_drew1 | refine below_set ?_ GE120.out | refine below_set ?_ GE133.out) | exact HB.out))); (case aF => exact (fun k_ hk => ⟨Kd.fresh' (Kd.R_lt (by (with_reducible repeat (first | apply Kd.R_alloc | apply Kd.R_drewN | apply Kd.R_drew)); exact (Kd.R_mono (Kd.R_far (p := ⟨gb133, 0, none⟩) (Kd.R_types HO_134002.out BK133.out (by decide)) (fun _ hk => hk.2) (.slice Ao36 y134.length co36)) (fun _ h_ => h_.1)))) k_ hk, Kd.fresh' (Kd.R_lt (by (with_reducible repeat (first | apply Kd.R_alloc | apply Kd.R_drewN | apply Kd.R_drew)); exact (Kd.R_mono (Kd.R_far (p := ⟨gb133, 0, none⟩) (Kd.R_types HO_134003.out BK133.out (by decide)) (fun _ hk => hk.2) (.slice Ao36 y134.length co36)) (fun _ h_ => h_.1)))) k_ hk, Kd.fresh' (Kd.R_lt (by (with_reducible repeat (first | apply Kd.R_alloc | apply Kd.R_drewN | apply Kd.R_drew)); exact (Kd.R_mono (Kd.R_far (p := ⟨gb133, 0, none⟩) (Kd.R_types HO_134004.out BK133.out (by decide)) (fun _ hk => hk.2) (.slice Ao36 y134.length co36)) (fun _ h_ => h_.1)))) k_ hk, Kd.fresh' (Kd.R_lt (by (with_reducible repeat (first | apply Kd.R_alloc | apply Kd.R_drewN | apply Kd.R_drew)); exact (Kd.R_mono (Kd.R_far (p := ⟨gb133, 0, none⟩) (Kd.R_types HO_134005.out BK133.out (by decide)) (fun _ hk => hk.2) (.slice Ao36 y134.length co36)) (fun _ h_ => h_.1)))) k_ hk, Kd.fresh' (Kd.R_lt (by (with_reducible repeat (first | apply Kd.R_alloc | apply Kd.R_drewN | apply Kd.R_drew)); exact (Kd.R_mono (Kd.R_far (p := ⟨gb133, 0, none⟩) (Kd.R_types HO136.out BK133.out (by decide)) (fun _ hk => hk.2) (.slice Ao36 y134.length co36)) (fun _ h_ => h_.1)))) k_ hk⟩)); (case aO => exact (by (with_reducible repeat (first | apply Kd.R_alloc | apply Kd.R_drewN | apply Kd.R_drew)); exact Kd.R_mono (Kd.R_far (p := ⟨gb133, 0, none⟩) (Kd.R_types HO_134001.out BK133.out (by decide)) (fun _ hk => hk.2) (.slice Ao36 y134.length co36)) (fun _ hk => ⟨hk.1.1.1, ⟨hk.1.1.2.1, ⟨hk.1.1.2.2.1, ⟨hk.1.1.2.2.2, hk.1.2⟩⟩⟩⟩))); (case aS => exact (below_size (by repeat (first | (with_reducible first | exact HB.out | apply below_alloc | apply pw_below_drewN | apply below_drew1 | refine below_set ?_ GE120.out | refine below_set ?_ GE133.out) | exact HB.out)))); (case aL => have := LMc32.out; omega); intro v138 w38 ho hb hg hat; rw [← Ny137.out] at ho; have n0_ := Aside0.mk (Kd.R_after (ok := (fun k_ => some k_ ≠ (.slice Ao28 y124.length co28 : Value).ownBlock ∧ some k_ ≠ (.slice Ao27 y127.length co27 : Value).ownBlock ∧ some k_ ≠ (.slice Ao26 y130.length co26 : Value).ownBlock ∧ some k_ ≠ (.slice Ao36 y134.length co36 : Value).ownBlock)) (by (with_reducible repeat (first | apply Kd.R_alloc | apply Kd.R_drewN | apply Kd.R_drew)); exact Kd.R_mono (Kd.R_far (p := ⟨gb133, 0, none⟩) (Kd.R_types HO_134002.out BK133.out (by decide)) (fun _ hk => hk.2) (.slice Ao36 y134.length co36)) (fun _ hk => ⟨⟨hk.1.1.2.1, ⟨hk.1.1.2.2.1, ⟨hk.1.1.2.2.2, hk.1.2⟩⟩⟩, hk.1.1.1⟩)) hg hat); have n1_ := Aside0.mk (Kd.R_after (ok := (fun k_ => some k_ ≠ (.slice Ao29 y121.length co29 : Value).ownBlock ∧ some k_ ≠ (.slice Ao27 y127.length co27 : Value).ownBlock ∧ some k_ ≠ (.slice Ao26 y130.length co26 : Value).ownBlock ∧ some k_ ≠ (.slice Ao36 y134.length co36 : Value).ownBlock)) (by (with_reducible repeat (first | apply Kd.R_alloc | apply Kd.R_drewN | apply Kd.R_drew)); exact Kd.R_mono (Kd.R_far (p := ⟨gb133, 0, none⟩) (Kd.R_types HO_134003.out BK133.out (by decide)) (fun _ hk => hk.2) (.slice Ao36 y134.length co36)) (fun _ hk => ⟨⟨hk.1.1.2.1, ⟨hk.1.1.2.2.1, ⟨hk.1.1.2.2.2, hk.1.2⟩⟩⟩, hk.1.1.1⟩)) hg hat); have n2_ := Aside0.mk (Kd.R_after (ok := (fun k_ => some k_ ≠ (.slice Ao29 y121.length co29 : Value).ownBlock ∧ some k_ ≠ (.slice Ao28 y124.length co28 : Value).ownBlock ∧ some k_ ≠ (.slice Ao26 y130.length co26 : Value).ownBlock ∧ some k_ ≠ (.slice Ao36 y134.length co36 : Value).ownBlock)) (by (with_reducible repeat (first | apply Kd.R_alloc | apply Kd.R_drewN | apply Kd.R_drew)); exact Kd.R_mono (Kd.R_far (p := ⟨gb133, 0, none⟩) (Kd.R_types HO_134004.out BK133.out (by decide)) (fun _ hk => hk.2) (.slice Ao36 y134.length co36)) (fun _ hk => ⟨⟨hk.1.1.2.1, ⟨hk.1.1.2.2.1, ⟨hk.1.1.2.2.2, hk.1.2⟩⟩⟩, hk.1.1.1⟩)) hg hat); have n3_ := Aside0.mk (Kd.R_after (ok := (fun k_ => some k_ ≠ (.slice Ao29 y121.length co29 : Value).ownBlock ∧ some k_ ≠ (.slice Ao28 y124.length co28 : Value).ownBlock ∧ some k_ ≠ (.slice Ao27 y127.length co27 : Value).ownBlock ∧ some k_ ≠ (.slice Ao36 y134.length co36 : Value).ownBlock)) (by (with_reducible repeat (first | apply Kd.R_alloc | apply Kd.R_drewN | apply Kd.R_drew)); exact Kd.R_mono (Kd.R_far (p := ⟨gb133, 0, none⟩) (Kd.R_types HO_134005.out BK133.out (by decide)) (fun _ hk => hk.2) (.slice Ao36 y134.length co36)) (fun _ hk => ⟨⟨hk.1.1.2.1, ⟨hk.1.1.2.2.1, ⟨hk.1.1.2.2.2, hk.1.2⟩⟩⟩, hk.1.1.1⟩)) hg hat); have n4_ := Aside0.mk (blk_grown (g := gb120) (o := .cells #[.slice none 0 0, .slice none 0 0, .slice none 0 0, .slice none 0 0, .slice none 0 0, .slice none 0 0] 58 (0, 0)) (by (with_reducible repeat (first | refine blk_drewN ?_ _ | refine blk_drew ?_ | refine blk_alloc ?_ _)); refine blk_far ?_ NB120_133.out _; (with_reducible repeat (first | refine blk_drewN ?_ _ | refine blk_drew ?_ | refine blk_alloc ?_ _)); exact BK120.out) hg (Kd.R_ne HO_134001.out BK120.out (by decide))); have n5_ := Aside0.mk (blk_grown (g := gb133) (o := .cells #[.slice Ao36 y134.length co36, u134001, .slice Ao29 y121.length co29, .slice Ao28 y124.length co28, .slice Ao27 y127.length co27, .slice Ao26 y130.length co26] 58 (0, 0)) (by (with_reducible repeat (first | refine blk_drewN ?_ _ | refine blk_drew ?_ | refine blk_alloc ?_ _)); refine blk_put (cs := #[u134000, u134001, .slice Ao29 y121.length co29, .slice Ao28 y124.length co28, .slice Ao27 y127.length co27, .slice Ao26 y130.length co26]) ?_ 0 _ rfl; (with_reducible repeat (first | refine blk_drewN ?_ _ | refine blk_drew ?_ | refine blk_alloc ?_ _)); exact BK133.out) hg (Kd.R_ne HO_134001.out BK133.out (by decide))); have n6_ := Aside0.mk (Kd.R_after (ok := (fun k_ => some k_ ≠ (.slice Ao29 y121.length co29 : Value).ownBlock ∧ some k_ ≠ (.slice Ao28 y124.length co28 : Value).ownBlock ∧ some k_ ≠ (.slice Ao27 y127.length co27 : Value).ownBlock ∧ some k_ ≠ (.slice Ao26 y130.length co26 : Value).ownBlock)) (by (with_reducible repeat (first | apply Kd.R_alloc | apply Kd.R_drewN | apply Kd.R_drew)); exact Kd.R_mono (Kd.R_far (p := ⟨gb133, 0, none⟩) (Kd.R_types HO136.out BK133.out (by decide)) (fun _ hk => hk.2) (.slice Ao36 y134.length co36)) (fun _ hk => ⟨⟨hk.1.2.1, ⟨hk.1.2.2.1, ⟨hk.1.2.2.2.1, hk.1.2.2.2.2⟩⟩⟩, hk.1.1⟩)) hg hat); have n7_ := Aside0.mk (hb); have n8_ := Aside0.mk (ho); clear HO_134002; clear HO_134003; clear HO_134004; clear HO_134005; clear BK120; clear BK133; clear HO136; clear HB; clear HO_134001; have HO_134002 := n0_; have HO_134003 := n1_; have HO_134004 := n2_; have HO_134005 := n3_; have BK120 := n4_; have BK133 := n5_; have HO136 := n6_; have HB := n7_; have HO139 := n8_; clear n0_ n1_ n2_ n3_ n4_ n5_ n6_ n7_ n8_; clear ho hb hg hat; obtain ⟨Ao39, co39, eo39⟩ := Kd.R_slice HO139.out; subst eo39; have hcz40_0 : w38.cell? ⟨gb133, 0, none⟩ = some (.slice Ao36 y134.length co36) := (blk_cell BK133.out 0).trans rfl; have hcz40_1 : w38.cell? ⟨gb133, 1, none⟩ = some (u134001) := (blk_cell BK133.out 1).trans rfl; have hcz40_2 : w38.cell? ⟨gb133, 2, none⟩ = some (.slice Ao29 y121.length co29) := (blk_cell BK133.out 2).trans rfl; have hcz40_3 : w38.cell? ⟨gb133, 3, none⟩ = some (.slice Ao28 y124.length co28) := (blk_cell BK133.out 3).trans rfl; have hcz40_4 : w38.cell? ⟨gb133, 4, none⟩ = some (.slice Ao27 y127.length co27) := (blk_cell BK133.out 4).trans rfl; have hcz40_5 : w38.cell? ⟨gb133, 5, none⟩ = some (.slice Ao26 y130.length co26) := (blk_cell BK133.out 5).trans rfl; have hfz40_0 := blk_frozen BK133.out 0; have hfz40_1 := blk_frozen BK133.out 1; have hfz40_2 := blk_frozen BK133.out 2; have hfz40_3 := blk_frozen BK133.out 3; have hfz40_4 := blk_frozen BK133.out 4; have hfz40_5 := blk_frozen BK133.out 5))
                go_roundg k1
                case measure => have := HK1.out; omega
                case rel => exact ⟨(wrap64 (x4_1 + 1)), (y134), (y137), (.slice Ao36 y134.length co36), (.slice Ao39 y137.length co39), (by first | rfl | (simp; done) | (simp [*]; done)), H', ⟨by have := HK1.out; omega⟩, ⟨by (with_reducible repeat (first | apply Kd.R_alloc | apply Kd.R_drewN | apply Kd.R_drew)); exact Kd.R_mono (Kd.R_far (p := ⟨gb133, 1, none⟩) (Kd.R_types HO136.out BK133.out (by decide)) (fun _ hk => hk.2) (.slice Ao39 y137.length co39)) (fun _ hk => ⟨hk.1.2, ⟨hk.1.1.1, ⟨hk.1.1.2.1, ⟨hk.1.1.2.2.1, hk.1.1.2.2.2⟩⟩⟩⟩)⟩, ⟨by (with_reducible repeat (first | apply Kd.R_alloc | apply Kd.R_drewN | apply Kd.R_drew)); exact Kd.R_mono (Kd.R_far (p := ⟨gb133, 1, none⟩) (Kd.R_types HO139.out BK133.out (by decide)) (fun _ hk => hk.2) (.slice Ao39 y137.length co39)) (fun _ hk => ⟨hk.1.2.2.2.2, ⟨hk.1.1, ⟨hk.1.2.1, ⟨hk.1.2.2.1, hk.1.2.2.2.1⟩⟩⟩⟩)⟩, ⟨by (with_reducible repeat (first | apply Kd.R_alloc | apply Kd.R_drewN | apply Kd.R_drew)); exact Kd.R_mono (Kd.R_far (p := ⟨gb133, 1, none⟩) (Kd.R_types HO_134002.out BK133.out (by decide)) (fun _ hk => hk.2) (.slice Ao39 y137.length co39)) (fun _ hk => ⟨hk.1.1.2.2.2, ⟨hk.1.2, ⟨hk.1.1.1, ⟨hk.1.1.2.1, hk.1.1.2.2.1⟩⟩⟩⟩)⟩, ⟨by (with_reducible repeat (first | apply Kd.R_alloc | apply Kd.R_drewN | apply Kd.R_drew)); exact Kd.R_mono (Kd.R_far (p := ⟨gb133, 1, none⟩) (Kd.R_types HO_134003.out BK133.out (by decide)) (fun _ hk => hk.2) (.slice Ao39 y137.length co39)) (fun _ hk => ⟨hk.1.1.2.2.2, ⟨hk.1.2, ⟨hk.1.1.1, ⟨hk.1.1.2.1, hk.1.1.2.2.1⟩⟩⟩⟩)⟩, ⟨by (with_reducible repeat (first | apply Kd.R_alloc | apply Kd.R_drewN | apply Kd.R_drew)); exact Kd.R_mono (Kd.R_far (p := ⟨gb133, 1, none⟩) (Kd.R_types HO_134004.out BK133.out (by decide)) (fun _ hk => hk.2) (.slice Ao39 y137.length co39)) (fun _ hk => ⟨hk.1.1.2.2.2, ⟨hk.1.2, ⟨hk.1.1.1, ⟨hk.1.1.2.1, hk.1.1.2.2.1⟩⟩⟩⟩)⟩, ⟨by (with_reducible repeat (first | apply Kd.R_alloc | apply Kd.R_drewN | apply Kd.R_drew)); exact Kd.R_mono (Kd.R_far (p := ⟨gb133, 1, none⟩) (Kd.R_types HO_134005.out BK133.out (by decide)) (fun _ hk => hk.2) (.slice Ao39 y137.length co39)) (fun _ hk => ⟨hk.1.1.2.2.2, ⟨hk.1.2, ⟨hk.1.1.1, ⟨hk.1.1.2.1, hk.1.1.2.2.1⟩⟩⟩⟩)⟩, ⟨by (with_reducible repeat (first | refine blk_drewN ?_ _ | refine blk_drew ?_ | refine blk_alloc ?_ _)); refine blk_far ?_ NB120_133.out _; (with_reducible repeat (first | refine blk_drewN ?_ _ | refine blk_drew ?_ | refine blk_alloc ?_ _)); exact BK120.out⟩, ⟨by (with_reducible repeat (first | refine blk_drewN ?_ _ | refine blk_drew ?_ | refine blk_alloc ?_ _)); refine blk_put (cs := #[.slice Ao36 y134.length co36, u134001, .slice Ao29 y121.length co29, .slice Ao28 y124.length co28, .slice Ao27 y127.length co27, .slice Ao26 y130.length co26]) ?_ 1 _ rfl; (with_reducible repeat (first | refine blk_drewN ?_ _ | refine blk_drew ?_ | refine blk_alloc ?_ _)); exact BK133.out⟩, ⟨by repeat (first | (with_reducible first | exact HB.out | apply below_alloc | apply pw_below_drewN | apply below_drew1 | refine below_set ?_ GE120.out | refine below_set ?_ GE133.out) | exact HB.out)⟩⟩
              · rw [if_neg c32] at H
                exact absurd H (by simp)
            · rw [if_neg c31] at H
              exact absurd H (by simp)
          · rw [if_neg c30] at H
            have c30b0 : decide (x4_1 < a0) = false := decide_eq_false c30
            clear c30
            simp only [Option.some.injEq, Prod.mk.injEq] at H
            obtain ⟨rfl, rfl, rfl, rfl, rfl, rfl⟩ := H
            have hnb41 := NB133_120.out
            have hnc41 := NB120_133.out
            have hcz42_0 : wr.cell? ⟨gb133, 0, none⟩ = some (u134000) := (blk_cell BK133.out 0).trans rfl
            have hcz42_1 : wr.cell? ⟨gb133, 1, none⟩ = some (u134001) := (blk_cell BK133.out 1).trans rfl
            have hcz42_2 : wr.cell? ⟨gb133, 2, none⟩ = some (.slice Ao29 y121.length co29) := (blk_cell BK133.out 2).trans rfl
            have hcz42_3 : wr.cell? ⟨gb133, 3, none⟩ = some (.slice Ao28 y124.length co28) := (blk_cell BK133.out 3).trans rfl
            have hcz42_4 : wr.cell? ⟨gb133, 4, none⟩ = some (.slice Ao27 y127.length co27) := (blk_cell BK133.out 4).trans rfl
            have hcz42_5 : wr.cell? ⟨gb133, 5, none⟩ = some (.slice Ao26 y130.length co26) := (blk_cell BK133.out 5).trans rfl
            have hfz42_0 := blk_frozen BK133.out 0
            have hfz42_1 := blk_frozen BK133.out 1
            have hfz42_2 := blk_frozen BK133.out 2
            have hfz42_3 := blk_frozen BK133.out 3
            have hfz42_4 := blk_frozen BK133.out 4
            have hfz42_5 := blk_frozen BK133.out 5
            obtain ⟨Ao43, co43, eo43⟩ := Kd.R_slice HO_134000.out
            subst eo43
            have hcz44_0 : wr.cell? ⟨gb120, 0, none⟩ = some (.slice none 0 0) := (blk_cell BK120.out 0).trans rfl
            have hcz44_1 : wr.cell? ⟨gb120, 1, none⟩ = some (.slice none 0 0) := (blk_cell BK120.out 1).trans rfl
            have hcz44_2 : wr.cell? ⟨gb120, 2, none⟩ = some (.slice none 0 0) := (blk_cell BK120.out 2).trans rfl
            have hcz44_3 : wr.cell? ⟨gb120, 3, none⟩ = some (.slice none 0 0) := (blk_cell BK120.out 3).trans rfl
            have hcz44_4 : wr.cell? ⟨gb120, 4, none⟩ = some (.slice none 0 0) := (blk_cell BK120.out 4).trans rfl
            have hcz44_5 : wr.cell? ⟨gb120, 5, none⟩ = some (.slice none 0 0) := (blk_cell BK120.out 5).trans rfl
            have hfz44_0 := blk_frozen BK120.out 0
            have hfz44_1 := blk_frozen BK120.out 1
            have hfz44_2 := blk_frozen BK120.out 2
            have hfz44_3 := blk_frozen BK120.out 3
            have hfz44_4 := blk_frozen BK120.out 4
            have hfz44_5 := blk_frozen BK120.out 5
            obtain ⟨Ao45, co45, eo45⟩ := Kd.R_slice HO_134001.out
            subst eo45
            go_wp2
            refine bodyPost_ret (results_cell_row rfl _ _ gb120 58 #[.slice Ao43 x134000_1.length co43, .slice Ao45 x134001_1.length co45, .slice Ao29 y121.length co29, .slice Ao28 y124.length co28, .slice Ao27 y127.length co27, .slice Ao26 y130.length co26] (0, 0) _ rfl (by (with_reducible repeat (first | refine blk_drewN ?_ _ | refine blk_drew ?_ | refine blk_alloc ?_ _)); refine blk_put (cs := #[.slice Ao43 x134000_1.length co43, .slice Ao45 x134001_1.length co45, .slice Ao29 y121.length co29, .slice Ao28 y124.length co28, .slice Ao27 y127.length co27, .slice none 0 0]) ?_ 5 _ rfl; (with_reducible repeat (first | refine blk_drewN ?_ _ | refine blk_drew ?_ | refine blk_alloc ?_ _)); refine blk_put (cs := #[.slice Ao43 x134000_1.length co43, .slice Ao45 x134001_1.length co45, .slice Ao29 y121.length co29, .slice Ao28 y124.length co28, .slice none 0 0, .slice none 0 0]) ?_ 4 _ rfl; (with_reducible repeat (first | refine blk_drewN ?_ _ | refine blk_drew ?_ | refine blk_alloc ?_ _)); refine blk_put (cs := #[.slice Ao43 x134000_1.length co43, .slice Ao45 x134001_1.length co45, .slice Ao29 y121.length co29, .slice none 0 0, .slice none 0 0, .slice none 0 0]) ?_ 3 _ rfl; (with_reducible repeat (first | refine blk_drewN ?_ _ | refine blk_drew ?_ | refine blk_alloc ?_ _)); refine blk_put (cs := #[.slice Ao43 x134000_1.length co43, .slice Ao45 x134001_1.length co45, .slice none 0 0, .slice none 0 0, .slice none 0 0, .slice none 0 0]) ?_ 2 _ rfl; (with_reducible repeat (first | refine blk_drewN ?_ _ | refine blk_drew ?_ | refine blk_alloc ?_ _)); refine blk_put (cs := #[.slice Ao43 x134000_1.length co43, .slice none 0 0, .slice none 0 0, .slice none 0 0, .slice none 0 0, .slice none 0 0]) ?_ 1 _ rfl; (with_reducible repeat (first | refine blk_drewN ?_ _ | refine blk_drew ?_ | refine blk_alloc ?_ _)); refine blk_put (cs := #[.slice none 0 0, .slice none 0 0, .slice none 0 0, .slice none 0 0, .slice none 0 0, .slice none 0 0]) ?_ 0 _ rfl; (with_reducible repeat (first | refine blk_drewN ?_ _ | refine blk_drew ?_ | refine blk_alloc ?_ _)); exact BK120.out) Try.underlying58 rfl (by kernel_rfl)) rfl ?_
            exact ⟨_, _, _, _, _, _, by first | rfl | (simp [errW_none, errW_some] <;> rfl) | (simp [*, errW_none, errW_some] <;> rfl), by (with_reducible repeat (first | apply Kd.R_alloc | apply Kd.R_drewN | apply Kd.R_drew)); exact Kd.R_mono (Kd.R_far (p := ⟨gb120, 5, none⟩) (Kd.R_far (p := ⟨gb120, 4, none⟩) (Kd.R_far (p := ⟨gb120, 3, none⟩) (Kd.R_far (p := ⟨gb120, 2, none⟩) (Kd.R_far (p := ⟨gb120, 1, none⟩) (Kd.R_far (p := ⟨gb120, 0, none⟩) (Kd.R_types HO_134000.out BK120.out (by decide)) (fun _ hk => hk.2) (.slice Ao43 x134000_1.length co43)) (fun _ hk => hk.2) (.slice Ao45 x134001_1.length co45)) (fun _ hk => hk.2) (.slice Ao29 y121.length co29)) (fun _ hk => hk.2) (.slice Ao28 y124.length co28)) (fun _ hk => hk.2) (.slice Ao27 y127.length co27)) (fun _ hk => hk.2) (.slice Ao26 y130.length co26)) (fun _ hk => ⟨hk.1.1, ⟨hk.1.2.1, ⟨hk.1.2.2.1, ⟨hk.1.2.2.2.1, hk.1.2.2.2.2⟩⟩⟩⟩), by (with_reducible repeat (first | apply Kd.R_alloc | apply Kd.R_drewN | apply Kd.R_drew)); exact Kd.R_mono (Kd.R_far (p := ⟨gb120, 5, none⟩) (Kd.R_far (p := ⟨gb120, 4, none⟩) (Kd.R_far (p := ⟨gb120, 3, none⟩) (Kd.R_far (p := ⟨gb120, 2, none⟩) (Kd.R_far (p := ⟨gb120, 1, none⟩) (Kd.R_far (p := ⟨gb120, 0, none⟩) (Kd.R_types HO_134001.out BK120.out (by decide)) (fun _ hk => hk.2) (.slice Ao43 x134000_1.length co43)) (fun _ hk => hk.2) (.slice Ao45 x134001_1.length co45)) (fun _ hk => hk.2) (.slice Ao29 y121.length co29)) (fun _ hk => hk.2) (.slice Ao28 y124.length co28)) (fun _ hk => hk.2) (.slice Ao27 y127.length co27)) (fun _ hk => hk.2) (.slice Ao26 y130.length co26)) (fun _ hk => ⟨hk.1.1, ⟨hk.1.2.1, ⟨hk.1.2.2.1, ⟨hk.1.2.2.2.1, hk.1.2.2.2.2⟩⟩⟩⟩), by (with_reducible repeat (first | apply Kd.R_alloc | apply Kd.R_drewN | apply Kd.R_drew)); exact Kd.R_mono (Kd.R_far (p := ⟨gb120, 5, none⟩) (Kd.R_far (p := ⟨gb120, 4, none⟩) (Kd.R_far (p := ⟨gb120, 3, none⟩) (Kd.R_far (p := ⟨gb120, 2, none⟩) (Kd.R_far (p := ⟨gb120, 1, none⟩) (Kd.R_far (p := ⟨gb120, 0, none⟩) (Kd.R_types HO_134002.out BK120.out (by decide)) (fun _ hk => hk.2) (.slice Ao43 x134000_1.length co43)) (fun _ hk => hk.2) (.slice Ao45 x134001_1.length co45)) (fun _ hk => hk.2) (.slice Ao29 y121.length co29)) (fun _ hk => hk.2) (.slice Ao28 y124.length co28)) (fun _ hk => hk.2) (.slice Ao27 y127.length co27)) (fun _ hk => hk.2) (.slice Ao26 y130.length co26)) (fun _ hk => ⟨hk.1.1, ⟨hk.1.2.1, ⟨hk.1.2.2.1, ⟨hk.1.2.2.2.1, hk.1.2.2.2.2⟩⟩⟩⟩), by (with_reducible repeat (first | apply Kd.R_alloc | apply Kd.R_drewN | apply Kd.R_drew)); exact Kd.R_mono (Kd.R_far (p := ⟨gb120, 5, none⟩) (Kd.R_far (p := ⟨gb120, 4, none⟩) (Kd.R_far (p := ⟨gb120, 3, none⟩) (Kd.R_far (p := ⟨gb120, 2, none⟩) (Kd.R_far (p := ⟨gb120, 1, none⟩) (Kd.R_far (p := ⟨gb120, 0, none⟩) (Kd.R_types HO_134003.out BK120.out (by decide)) (fun _ hk => hk.2) (.slice Ao43 x134000_1.length co43)) (fun _ hk => hk.2) (.slice Ao45 x134001_1.length co45)) (fun _ hk => hk.2) (.slice Ao29 y121.length co29)) (fun _ hk => hk.2) (.slice Ao28 y124.length co28)) (fun _ hk => hk.2) (.slice Ao27 y127.length co27)) (fun _ hk => hk.2) (.slice Ao26 y130.length co26)) (fun _ hk => ⟨hk.1.1, ⟨hk.1.2.1, ⟨hk.1.2.2.1, ⟨hk.1.2.2.2.1, hk.1.2.2.2.2⟩⟩⟩⟩), by (with_reducible repeat (first | apply Kd.R_alloc | apply Kd.R_drewN | apply Kd.R_drew)); exact Kd.R_mono (Kd.R_far (p := ⟨gb120, 5, none⟩) (Kd.R_far (p := ⟨gb120, 4, none⟩) (Kd.R_far (p := ⟨gb120, 3, none⟩) (Kd.R_far (p := ⟨gb120, 2, none⟩) (Kd.R_far (p := ⟨gb120, 1, none⟩) (Kd.R_far (p := ⟨gb120, 0, none⟩) (Kd.R_types HO_134004.out BK120.out (by decide)) (fun _ hk => hk.2) (.slice Ao43 x134000_1.length co43)) (fun _ hk => hk.2) (.slice Ao45 x134001_1.length co45)) (fun _ hk => hk.2) (.slice Ao29 y121.length co29)) (fun _ hk => hk.2) (.slice Ao28 y124.length co28)) (fun _ hk => hk.2) (.slice Ao27 y127.length co27)) (fun _ hk => hk.2) (.slice Ao26 y130.length co26)) (fun _ hk => ⟨hk.1.1, ⟨hk.1.2.1, ⟨hk.1.2.2.1, ⟨hk.1.2.2.2.1, hk.1.2.2.2.2⟩⟩⟩⟩), by (with_reducible repeat (first | apply Kd.R_alloc | apply Kd.R_drewN | apply Kd.R_drew)); exact Kd.R_mono (Kd.R_far (p := ⟨gb120, 5, none⟩) (Kd.R_far (p := ⟨gb120, 4, none⟩) (Kd.R_far (p := ⟨gb120, 3, none⟩) (Kd.R_far (p := ⟨gb120, 2, none⟩) (Kd.R_far (p := ⟨gb120, 1, none⟩) (Kd.R_far (p := ⟨gb120, 0, none⟩) (Kd.R_types HO_134005.out BK120.out (by decide)) (fun _ hk => hk.2) (.slice Ao43 x134000_1.length co43)) (fun _ hk => hk.2) (.slice Ao45 x134001_1.length co45)) (fun _ hk => hk.2) (.slice Ao29 y121.length co29)) (fun _ hk => hk.2) (.slice Ao28 y124.length co28)) (fun _ hk => hk.2) (.slice Ao27 y127.length co27)) (fun _ hk => hk.2) (.slice Ao26 y130.length co26)) (fun _ hk => ⟨hk.1.1, ⟨hk.1.2.1, ⟨hk.1.2.2.1, ⟨hk.1.2.2.2.1, hk.1.2.2.2.2⟩⟩⟩⟩), by repeat (first | (with_reducible first | exact HB.out | apply below_alloc | apply pw_below_drewN | apply below_drew1 | refine below_set ?_ GE120.out | refine below_set ?_ GE133.out) | exact HB.out)⟩
    · rw [if_neg c3] at H
      exact absurd H (by simp)
  · rw [if_neg c2] at H
    exact absurd H (by simp)

end Go.Proofs.Ythaaakijekkkaaa.PFnExactAisleAt
