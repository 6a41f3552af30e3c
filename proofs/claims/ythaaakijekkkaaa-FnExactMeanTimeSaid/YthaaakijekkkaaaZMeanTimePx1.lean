/- Proved: each Go function named here, called, comes to the answer of the Lean function beside it. Conditions: those that stand in each theorem. (Printed by this session's own turned copy of a printing program.) -/
import Derived.Test.YthaaakijekkkaaaZMeanTimePx0
namespace Go.Proofs.Ythaaakijekkkaaa.PFnExactMeanTime
open Go.RowKit Go.Proofs.YthaaakijekkkaaaW.PrintWords Go.Proofs.YthaaakijekkkaaaW.PrintLast Go.Proofs.YthaaakijekkkaaaW.PrintMore
attribute [local go_sem] max2_int min2_int max_two min_two max_three min_three max_four min_four   -- for this text's walks alone
set_option linter.unusedVariables false
set_option linter.unusedSimpArgs false

attribute [local go_sem high] eqArr40
/-! ### spec_l1Has: function 61 -/
def spec_l1Has.l0 : Nat → List Int → Int → Int → Option (Bool)
  | 0, _, _, _ => none
  | k + 1, x0, x1, x5 => if x5 < (x0.length : Int) then (if 0 ≤ x5 then (if (rd x0 x5) = x1 then (some true) else (spec_l1Has.l0 k x0 x1 (wrap64 (x5 + 1)))) else (none)) else (some false)
def spec_l1Has.f (k : Nat) (l0 : List Int) (a1 : Int) : Option (Bool) := spec_l1Has.l0 k l0 a1 0
set_option maxHeartbeats 8000000 in
set_option maxRecDepth 100000 in
theorem spec_l1Has.calls (k : Nat) (A0 : Option Addr) (c0 : Nat) (l0 : List Int) (a1 : Int) (r : Bool) (w : World) (hr0 : Kd.C (Kd.int .i64) w A0 l0.length l0) (hc0 : l0.length ≤ c0) (h : spec_l1Has.f k l0 a1 = some r) :
    Calls Try.prog 61 #[.slice A0 l0.length c0, .int .i64 a1] w fun e w' => e = .returned (.bool r) ∧ Drawn0 w w' := by
  have HR0 := Aside0.mk hr0
  have HC0 := Aside0.mk hc0
  clear hr0 hc0
  have H : (spec_l1Has.l0 k l0 a1 0) = some r := h
  clear h
  have H' := Aside0.mk H
  clear H
  go_enter Try.func61, Try.ntmps61
  go_wp2
  go_loopg [5] k (fun kq v5 w' => ∃ (x5_1 : Int), v5 = .int .i64 x5_1 ∧ Aside0 (spec_l1Has.l0 kq l0 a1 x5_1 = some r) ∧ Aside0 (kq ≤ k) ∧ Drawn0 w w')
  case atStart => exact ⟨(0), (by first | rfl | (simp; done) | (simp [*]; done)), H', ⟨Nat.le_refl _⟩, by repeat (first | exact Drawn0.refl _ | apply Drawn0.step)⟩
  case round =>
    clear H'
    try clear p2
    obtain ⟨x5_1, rfl, HA, HK1, ⟨m1, rfl⟩⟩ := hrel
    cases gk with
    | zero => exact absurd HA.out (by simp [spec_l1Has.l0])
    | succ k1 =>
      have H := HA.out
      clear HA
      simp only [spec_l1Has.l0] at H
      by_cases c3 : x5_1 < (l0.length : Int)
      · rw [if_pos c3] at H
        have c3b0 : decide (x5_1 < (l0.length : Int)) = true := decide_eq_true c3
        clear c3
        by_cases c4 : 0 ≤ x5_1
        · rw [if_pos c4] at H
          have c4b0 : decide (0 ≤ x5_1) = true := decide_eq_true c4
          clear c4
          by_cases c5 : (rd l0 x5_1) = a1
          · rw [if_pos c5] at H
            have c5b0 : ((rd l0 x5_1) == a1) = true := beq_iff_eq.mpr c5
            have c5b1 : ((rd l0 x5_1) != a1) = false := bne_eq_false_iff_eq.mpr c5
            clear c5
            obtain rfl := Option.some.inj H
            have p101 : 0 ≤ (x5_1 : Int) := of_decide_eq_true (by first | (with_reducible assumption) | assumption)
            have q101 : x5_1 < (l0.length : Int) := of_decide_eq_true (by first | (with_reducible assumption) | assumption)
            obtain ⟨ad101, e101, hx101_0⟩ := Kd.at_int HR0.out x5_1 p101 q101
            cases e101
            replace p101 := eq_true p101
            replace q101 := eq_true q101
            go_wp2
            go_ret
            exact ⟨by first | rfl | (simp; done) | (simp [*]; done), by repeat (first | exact Drawn0.refl _ | apply Drawn0.step)⟩
          · rw [if_neg c5] at H
            have c5b0 : ((rd l0 x5_1) == a1) = false := beq_eq_false_iff_ne.mpr c5
            have c5b1 : ((rd l0 x5_1) != a1) = true := bne_iff_ne.mpr c5
            have H' := Aside0.mk H
            clear H
            have p101 : 0 ≤ (x5_1 : Int) := of_decide_eq_true (by first | (with_reducible assumption) | assumption)
            have q101 : x5_1 < (l0.length : Int) := of_decide_eq_true (by first | (with_reducible assumption) | assumption)
            obtain ⟨ad101, e101, hx101_0⟩ := Kd.at_int HR0.out x5_1 p101 q101
            cases e101
            replace p101 := eq_true p101
            replace q101 := eq_true q101
            go_wp2
            go_roundg k1
            case measure => have := HK1.out; omega
            case rel => exact ⟨(wrap64 (x5_1 + 1)), (by first | rfl | (simp; done) | (simp [*]; done)), H', ⟨by have := HK1.out; omega⟩, by repeat (first | exact Drawn0.refl _ | apply Drawn0.step)⟩
        · rw [if_neg c4] at H
          exact absurd H (by simp)
      · rw [if_neg c3] at H
        have c3b0 : decide (x5_1 < (l0.length : Int)) = false := decide_eq_false c3
        clear c3
        obtain rfl := Option.some.inj H
        go_wp2
        go_ret
        exact ⟨by first | rfl | (simp; done) | (simp [*]; done), by repeat (first | exact Drawn0.refl _ | apply Drawn0.step)⟩

/-! ### spec_l7Start: function 69 -/
def spec_l7Start.l0 : Nat → Int → Int → List Int → List Int → List Int → List Int → List Int → List Int → Option (List Int × List Int × List Int × List Int × List Int × List Int)
  | 0, _, _, _, _, _, _, _, _ => none
  | k + 1, x0, x4, x116000, x116001, x116002, x116003, x116004, x116005 => if x4 < x0 then (if x116000.length < 17592186044416 then (if x116001.length < 17592186044416 then (spec_l7Start.l0 k x0 (wrap64 (x4 + 1)) (x116000 ++ [(-1)]) (x116001 ++ [(-1)]) x116002 x116003 x116004 x116005) else (none)) else (none)) else (some (x116000, x116001, x116002, x116003, x116004, x116005))
def spec_l7Start.f (k : Nat) (a0 : Int) : Option (List Int × List Int × List Int × List Int × List Int × List Int) := if 0 ≤ a0 then (if (a0 : Int).toNat ≤ 35184372088832 then (spec_l7Start.l0 k a0 0 ([] : List Int) ([] : List Int) (List.replicate (a0 : Int).toNat 0) (List.replicate (a0 : Int).toNat 0) (List.replicate (a0 : Int).toNat 0) (List.replicate (a0 : Int).toNat 0)) else (none)) else (none)
def spec_l7Start.T1 : Bool × List (List Nat × List Nat) := (true, [([], []), ([0, 0], [0]), ([], []), ([2, 2], [2]), ([], []), ([4, 4], [4]), ([], []), ([6, 6], [6]), ([1, 3, 5, 7], [1, 3, 5, 7]), ([], []), ([9, 8, 0, 1, 2, 3, 4, 5, 6, 7, 8, 9], [8, 9])])
def spec_l7Start.B1 : List Nat := [0, 1, 0, 4, 0, 16, 0, 64, 255, 0, 1023]
theorem spec_l7Start.tab1 : rtab .any (opsOf Try.f69 1) = spec_l7Start.T1 := by kernel_rfl
theorem spec_l7Start.bits1 : waitsOk spec_l7Start.T1.2 spec_l7Start.B1 = true := by kernel_rfl
set_option maxHeartbeats 8000000 in
set_option maxRecDepth 100000 in
theorem spec_l7Start.calls (k : Nat) (a0 : Int) (r1 : List Int) (r2 : List Int) (r3 : List Int) (r4 : List Int) (r5 : List Int) (r6 : List Int) (w : World) (h : spec_l7Start.f k a0 = some (r1, r2, r3, r4, r5, r6)) :
    Calls Try.prog 69 #[.int .i64 a0] w fun e w' => ∃ v0_ v1_ v2_ v3_ v4_ v5_ : Value, e = .returned (.agg #[v0_, v1_, v2_, v3_, v4_, v5_]) ∧ Kd.R (Kd.int .i64) 3 w' w.heap.size (fun k_ => some k_ ≠ (v1_ : Value).ownBlock ∧ some k_ ≠ (v2_ : Value).ownBlock ∧ some k_ ≠ (v3_ : Value).ownBlock ∧ some k_ ≠ (v4_ : Value).ownBlock ∧ some k_ ≠ (v5_ : Value).ownBlock) v0_ r1 ∧ Kd.R (Kd.int .i64) 3 w' w.heap.size (fun k_ => some k_ ≠ (v0_ : Value).ownBlock ∧ some k_ ≠ (v2_ : Value).ownBlock ∧ some k_ ≠ (v3_ : Value).ownBlock ∧ some k_ ≠ (v4_ : Value).ownBlock ∧ some k_ ≠ (v5_ : Value).ownBlock) v1_ r2 ∧ Kd.R (Kd.int .i64) 3 w' w.heap.size (fun k_ => some k_ ≠ (v0_ : Value).ownBlock ∧ some k_ ≠ (v1_ : Value).ownBlock ∧ some k_ ≠ (v3_ : Value).ownBlock ∧ some k_ ≠ (v4_ : Value).ownBlock ∧ some k_ ≠ (v5_ : Value).ownBlock) v2_ r3 ∧ Kd.R (Kd.int .i64) 3 w' w.heap.size (fun k_ => some k_ ≠ (v0_ : Value).ownBlock ∧ some k_ ≠ (v1_ : Value).ownBlock ∧ some k_ ≠ (v2_ : Value).ownBlock ∧ some k_ ≠ (v4_ : Value).ownBlock ∧ some k_ ≠ (v5_ : Value).ownBlock) v3_ r4 ∧ Kd.R (Kd.int .i64) 3 w' w.heap.size (fun k_ => some k_ ≠ (v0_ : Value).ownBlock ∧ some k_ ≠ (v1_ : Value).ownBlock ∧ some k_ ≠ (v2_ : Value).ownBlock ∧ some k_ ≠ (v3_ : Value).ownBlock ∧ some k_ ≠ (v5_ : Value).ownBlock) v4_ r5 ∧ Kd.R (Kd.int .i64) 3 w' w.heap.size (fun k_ => some k_ ≠ (v0_ : Value).ownBlock ∧ some k_ ≠ (v1_ : Value).ownBlock ∧ some k_ ≠ (v2_ : Value).ownBlock ∧ some k_ ≠ (v3_ : Value).ownBlock ∧ some k_ ≠ (v4_ : Value).ownBlock) v5_ r6 ∧ Below w.heap.size w w' := by
  have hu58 := Try.underlying58
  have HB := Aside0.mk (Below.refl w.heap.size w)
  have H : (if 0 ≤ a0 then (if (a0 : Int).toNat ≤ 35184372088832 then (spec_l7Start.l0 k a0 0 ([] : List Int) ([] : List Int) (List.replicate (a0 : Int).toNat 0) (List.replicate (a0 : Int).toNat 0) (List.replicate (a0 : Int).toNat 0) (List.replicate (a0 : Int).toNat 0)) else (none)) else (none)) = some (r1, r2, r3, r4, r5, r6) := h
  clear h
  by_cases c2 : 0 ≤ a0
  · rw [if_pos c2] at H
    have c2b0 := eq_true c2
    have c2b1 : decide (0 ≤ a0) = true := decide_eq_true c2
    clear c2
    by_cases c3 : (a0 : Int).toNat ≤ 35184372088832
    · rw [if_pos c3] at H
      have c3b0 := eq_true c3
      have c3b1 : decide ((a0 : Int).toNat ≤ 35184372088832) = true := decide_eq_true c3
      clear c3
      obtain ⟨y103, hy103⟩ : ∃ y_ : List Int, y_ = (List.replicate (a0 : Int).toNat 0) := ⟨_, rfl⟩
      replace H : (spec_l7Start.l0 k a0 0 ([] : List Int) ([] : List Int) y103 (List.replicate (a0 : Int).toNat 0) (List.replicate (a0 : Int).toNat 0) (List.replicate (a0 : Int).toNat 0)) = some (r1, r2, r3, r4, r5, r6) := by first | (rw [hy103]; with_reducible exact H) | (have H2_ := (Option.bind_some _ _).symm.trans H; rw [hy103]; with_reducible exact H2_) | (have H2_ := (Option.bind_some _ _).symm.trans H; with_reducible exact H2_) | with_reducible exact H | (rw [hy103]; exact H) | exact H
      have Ny103 := Aside0.mk hy103
      clear hy103
      obtain ⟨y106, hy106⟩ : ∃ y_ : List Int, y_ = (List.replicate (a0 : Int).toNat 0) := ⟨_, rfl⟩
      replace H : (spec_l7Start.l0 k a0 0 ([] : List Int) ([] : List Int) y103 y106 (List.replicate (a0 : Int).toNat 0) (List.replicate (a0 : Int).toNat 0)) = some (r1, r2, r3, r4, r5, r6) := by first | (rw [hy106]; with_reducible exact H) | (have H2_ := (Option.bind_some _ _).symm.trans H; rw [hy106]; with_reducible exact H2_) | (have H2_ := (Option.bind_some _ _).symm.trans H; with_reducible exact H2_) | with_reducible exact H | (rw [hy106]; exact H) | exact H
      have Ny106 := Aside0.mk hy106
      clear hy106
      obtain ⟨y109, hy109⟩ : ∃ y_ : List Int, y_ = (List.replicate (a0 : Int).toNat 0) := ⟨_, rfl⟩
      replace H : (spec_l7Start.l0 k a0 0 ([] : List Int) ([] : List Int) y103 y106 y109 (List.replicate (a0 : Int).toNat 0)) = some (r1, r2, r3, r4, r5, r6) := by first | (rw [hy109]; with_reducible exact H) | (have H2_ := (Option.bind_some _ _).symm.trans H; rw [hy109]; with_reducible exact H2_) | (have H2_ := (Option.bind_some _ _).symm.trans H; with_reducible exact H2_) | with_reducible exact H | (rw [hy109]; exact H) | exact H
      have Ny109 := Aside0.mk hy109
      clear hy109
      obtain ⟨y112, hy112⟩ : ∃ y_ : List Int, y_ = (List.replicate (a0 : Int).toNat 0) := ⟨_, rfl⟩
      replace H : (spec_l7Start.l0 k a0 0 ([] : List Int) ([] : List Int) y103 y106 y109 y112) = some (r1, r2, r3, r4, r5, r6) := by first | (rw [hy112]; with_reducible exact H) | (have H2_ := (Option.bind_some _ _).symm.trans H; rw [hy112]; with_reducible exact H2_) | (have H2_ := (Option.bind_some _ _).symm.trans H; with_reducible exact H2_) | with_reducible exact H | (rw [hy112]; exact H) | exact H
      have Ny112 := Aside0.mk hy112
      clear hy112
      have H' := Aside0.mk H
      clear H
      go_enter Try.func69, Try.ntmps69
      try go_wp2_with (first | ((with_reducible refine gate_dst (N := 2) rfl ?_); refine box_event ?hg (N := 2) ?hd (cs := #[.slice none 0 0, .slice none 0 0, .slice none 0 0, .slice none 0 0, .slice none 0 0, .slice none 0 0]) (t := 58) ?hr ?_; (case hd => rfl); (case hg => rfl); (case hr => first | (go_simp; done) | (go_simp; rfl)); intro gb102 hg w4 hbox hb; have n0_ := Aside0.mk (below_step (by repeat (first | (with_reducible first | exact HB.out | apply below_alloc | apply pw_below_drewN | apply below_drew1) | exact HB.out)) hb); have n1_ := Aside0.mk (hbox); have n2_ := Aside0.mk ((by rw [hg]; exact (below_size (by repeat (first | (with_reducible first | exact HB.out | apply below_alloc | apply pw_below_drewN | apply below_drew1) | exact HB.out))) : w.heap.size ≤ gb102)); have n3_ := Aside0.mk ((by rw [hg]; exact (below_size (by repeat (first | (with_reducible first | exact HB.out | apply below_alloc | apply pw_below_drewN | apply below_drew1) | exact HB.out))) : w.heap.size ≤ gb102)); clear HB; have HB := n0_; have BK102 := n1_; have GW102 := n2_; have GE102 := n3_; clear n0_ n1_ n2_ n3_; clear hb hbox hg))
      have n0_ := Aside0.mk (blk_drew BK102.out)
      have n1_ := Aside0.mk (below_drew1 HB.out)
      clear BK102
      clear HB
      have BK102 := n0_
      have HB := n1_
      clear n0_ n1_
      refine start_ (n := 11) (S := fun w' => True) (ds := []) #[false, false, false, false, false, false, false, false, false, false, false] (by kernel_rfl) rfl rfl trivial (fun hHeld => ?_); refine with_tabW spec_l7Start.tab1 spec_l7Start.bits1 (fun HT_ HW_ => ?_)
      generalize w4.drew = w5 at BK102 HB hHeld ⊢
      refine pure_ (i := 0) (N := some 5) (v := ?_) (a' := ?_) #[true, false, false, false, false, false, false, false, false, false, false] rfl rfl (any_of HT_.out (by kernel_rfl)) (fun _ _ _ h => h) (Or.inl ⟨by rfl, ?_⟩) ?_ ?_
      rotate_left
      · intro w'
        go_simp
        with_reducible rfl
      rotate_left
      · simp only [Act.put, List.setIfInBounds_toArray, List.set_cons_zero, List.set_cons_succ, i64_w, i32_w]
        rfl
      refine pure_ (i := 2) (N := some 7) (v := ?_) (a' := ?_) #[true, false, true, false, false, false, false, false, false, false, false] rfl rfl (any_of HT_.out (by kernel_rfl)) (fun _ _ _ h => h) (Or.inl ⟨by rfl, ?_⟩) ?_ ?_
      rotate_left
      · intro w'
        go_simp
        with_reducible rfl
      rotate_left
      · simp only [Act.put, List.setIfInBounds_toArray, List.set_cons_zero, List.set_cons_succ, i64_w, i32_w]
        rfl
      refine pure_ (i := 4) (N := some 9) (v := ?_) (a' := ?_) #[true, false, true, false, true, false, false, false, false, false, false] rfl rfl (any_of HT_.out (by kernel_rfl)) (fun _ _ _ h => h) (Or.inl ⟨by rfl, ?_⟩) ?_ ?_
      rotate_left
      · intro w'
        go_simp
        with_reducible rfl
      rotate_left
      · simp only [Act.put, List.setIfInBounds_toArray, List.set_cons_zero, List.set_cons_succ, i64_w, i32_w]
        rfl
      refine pure_ (i := 6) (N := some 11) (v := ?_) (a' := ?_) #[true, false, true, false, true, false, true, false, false, false, false] rfl rfl (any_of HT_.out (by kernel_rfl)) (fun _ _ _ h => h) (Or.inl ⟨by rfl, ?_⟩) ?_ ?_
      rotate_left
      · intro w'
        go_simp
        with_reducible rfl
      rotate_left
      · simp only [Act.put, List.setIfInBounds_toArray, List.set_cons_zero, List.set_cons_succ, i64_w, i32_w]
        rfl
      refine inv_at [1, 3, 5, 7, 8, 9, 10] (fun a0_ b a w' => ∃ (v104 : Value) (v107 : Value) (v110 : Value) (v113 : Value) (gb115 : Nat) (m8_ : Value) (m9_ : Value), a = putSel a0_ b [(1, 6, v104), (3, 8, v107), (5, 10, v110), (7, 12, v113), (8, 13, m8_), (9, 3, m9_)] ∧ (w'.heap[gb102]? = some (.cells #[.slice none 0 0, .slice none 0 0, .slice none 0 0, .slice none 0 0, .slice none 0 0, .slice none 0 0] 58 (0, 0))) ∧ (Below w.heap.size w w') ∧ (b 1 = true → Kd.R (Kd.int .i64) 3 w' w.heap.size (fun _ => True) v104 y103) ∧ (b 3 = true → Kd.R (Kd.int .i64) 3 w' w.heap.size (fun _ => True) v107 y106) ∧ (b 5 = true → Kd.R (Kd.int .i64) 3 w' w.heap.size (fun _ => True) v110 y109) ∧ (b 7 = true → Kd.R (Kd.int .i64) 3 w' w.heap.size (fun _ => True) v113 y112) ∧ (b 9 = true → b 10 = false → w'.heap[gb115]? = some (.cells #[.slice none 0 0, .slice none 0 0, .slice none 0 0, .slice none 0 0, .slice none 0 0, .slice none 0 0] 58 (0, 0))) ∧ (b 9 = true → w.heap.size ≤ gb115) ∧ (b 9 = true → w.heap.size ≤ gb115) ∧ (b 9 = true → gb102 ≠ gb115) ∧ (b 9 = true → gb115 ≠ gb102) ∧ (b 10 = true → w'.heap[gb115]? = some (.cells #[.slice none 0 0, .slice none 0 0, v104, v107, v110, v113] 58 (0, 0))) ∧ (b 1 = true → b 3 = true → NeRow v104 v107) ∧ (b 1 = true → b 5 = true → NeRow v104 v110) ∧ (b 1 = true → b 7 = true → NeRow v104 v113) ∧ (b 3 = true → b 5 = true → NeRow v107 v110) ∧ (b 3 = true → b 7 = true → NeRow v107 v113) ∧ (b 5 = true → b 7 = true → NeRow v110 v113) ∧ (b 8 = true → (m8_ : Value) = .agg #[.slice none 0 0, .slice none 0 0, v104, v107, v110, v113]) ∧ (b 9 = true → (m9_ : Value) = .pointer (some ⟨gb115, 0, none⟩))) HT_.out HW_.out (by kernel_rfl) (by kernel_rfl) ?_ ?_ ?_
      · exact ⟨.bool false, .bool false, .bool false, .bool false, 0, .bool false, .bool false, by simp only [putSel, Bool.false_eq_true, if_false], BK102.out, HB.out, fun h_ => absurd h_ (by decide), fun h_ => absurd h_ (by decide), fun h_ => absurd h_ (by decide), fun h_ => absurd h_ (by decide), fun h_ => absurd h_ (by decide), fun h_ => absurd h_ (by decide), fun h_ => absurd h_ (by decide), fun h_ => absurd h_ (by decide), fun h_ => absurd h_ (by decide), fun h_ => absurd h_ (by decide), fun h_ => absurd h_ (by decide), fun h_ => absurd h_ (by decide), fun h_ => absurd h_ (by decide), fun h_ => absurd h_ (by decide), fun h_ => absurd h_ (by decide), fun h_ => absurd h_ (by decide), fun h_ => absurd h_ (by decide), fun h_ => absurd h_ (by decide)⟩
      · skip
        clear BK102 HB
        refine steps_cons ?_ ?_
        · rintro b a w' ⟨v104, v107, v110, v113, gb115, m8_, m9_, ha, Q_BK102, Q_HB, Q_HO105, Q_HO108, Q_HO111, Q_HO114, Q_BK115, Q_GW115, Q_GE115, Q_NB102_115, Q_NB115_102, Q_BK115_e10, Q_NE_v104_v107, Q_NE_v104_v110, Q_NE_v104_v113, Q_NE_v107_v110, Q_NE_v107_v113, Q_NE_v110_v113, Q_X8_, Q_X9_⟩ hb_ hon hoff
          refine ⟨_, rfl, fun K hK => ?_⟩
          have e5 : a.tmps[5]? = some (.int .i64 a0) := by rw [ha]; exact (putSel_off rfl).trans rfl
          replace ha := Aside0.mk ha
          have BK102 := Aside0.mk Q_BK102
          have HB := Aside0.mk Q_HB
          refine Kd.R_make_step (Kd.int .i64) _ 3 (by rfl) (N := 6) rfl 24 _ _ rfl a0 (eval_of e5) (eval_of e5) Try.underlying24 (.int .i64 0) 8 info3 rfl (by decide) (by omega) 0 (ok := fun _ => True) (okp := fun _ => True) rfl (fun _ hk => hk) trivial (of_decide_eq_true (by first | (with_reducible assumption) | assumption)) (Nat.le_trans (Nat.mul_le_mul_right _ (of_decide_eq_true (by first | (with_reducible assumption) | assumption) : a0.toNat ≤ 35184372088832)) (by omega)) (Below.refl _ _) (Nat.le_refl _) ?_
          intro v104 w6 ho7 hb hg_ hnew_
          clear hg_ hnew_
          (first | rw [← Ny103.out] at ho7 | (simp only [Int.reduceToNat] at ho7; rw [← Ny103.out] at ho7))
          have n0_ := Aside0.mk (Kd.R_lower ho7 (below_size (by repeat (first | (with_reducible first | exact HB.out | apply below_alloc | apply pw_below_drewN | apply below_drew1 | refine below_set ?_ GE102.out) | exact HB.out))))
          have n1_ := Aside0.mk (blk_below (g := gb102) (o := .cells #[.slice none 0 0, .slice none 0 0, .slice none 0 0, .slice none 0 0, .slice none 0 0, .slice none 0 0] 58 (0, 0)) (by first | (with_reducible exact BK102.out) | ((with_reducible repeat (first | refine blk_drewN ?_ _ | refine blk_drew ?_ | refine blk_alloc ?_ _)); exact BK102.out)) hb)
          have n2_ := Aside0.mk (below_step (by repeat (first | (with_reducible first | exact HB.out | apply below_alloc | apply pw_below_drewN | apply below_drew1 | refine below_set ?_ GE102.out) | exact HB.out)) hb)
          have z_HO108 := fun (h0_ : b 3 = true) => (show Kd.R (Kd.int .i64) 3 w6 w.heap.size (fun _ => True) v107 y106 from by first | exact (Kd.R_elder' (by (with_reducible repeat (first | apply Kd.R_alloc | apply Kd.R_drewN | apply Kd.R_drew)); exact (Q_HO108 h0_)) (Kd.R_base ho7) hb) | exact Kd.R_mono (Kd.R_elder' (by (with_reducible repeat (first | apply Kd.R_alloc | apply Kd.R_drewN | apply Kd.R_drew)); exact (Q_HO108 h0_)) (Kd.R_base ho7) hb) (fun _ h_ => by first | trivial | exact h_ | exact h_.1))
          have z_HO111 := fun (h0_ : b 5 = true) => (show Kd.R (Kd.int .i64) 3 w6 w.heap.size (fun _ => True) v110 y109 from by first | exact (Kd.R_elder' (by (with_reducible repeat (first | apply Kd.R_alloc | apply Kd.R_drewN | apply Kd.R_drew)); exact (Q_HO111 h0_)) (Kd.R_base ho7) hb) | exact Kd.R_mono (Kd.R_elder' (by (with_reducible repeat (first | apply Kd.R_alloc | apply Kd.R_drewN | apply Kd.R_drew)); exact (Q_HO111 h0_)) (Kd.R_base ho7) hb) (fun _ h_ => by first | trivial | exact h_ | exact h_.1))
          have z_HO114 := fun (h0_ : b 7 = true) => (show Kd.R (Kd.int .i64) 3 w6 w.heap.size (fun _ => True) v113 y112 from by first | exact (Kd.R_elder' (by (with_reducible repeat (first | apply Kd.R_alloc | apply Kd.R_drewN | apply Kd.R_drew)); exact (Q_HO114 h0_)) (Kd.R_base ho7) hb) | exact Kd.R_mono (Kd.R_elder' (by (with_reducible repeat (first | apply Kd.R_alloc | apply Kd.R_drewN | apply Kd.R_drew)); exact (Q_HO114 h0_)) (Kd.R_base ho7) hb) (fun _ h_ => by first | trivial | exact h_ | exact h_.1))
          have z_BK115 := fun (h0_ : b 9 = true) (h1_ : b 10 = false) => (show w6.heap[gb115]? = some (.cells #[.slice none 0 0, .slice none 0 0, .slice none 0 0, .slice none 0 0, .slice none 0 0, .slice none 0 0] 58 (0, 0)) from by first | exact (blk_below (g := gb115) (o := .cells #[.slice none 0 0, .slice none 0 0, .slice none 0 0, .slice none 0 0, .slice none 0 0, .slice none 0 0] 58 (0, 0)) (by first | (with_reducible exact (Q_BK115 h0_ h1_)) | ((with_reducible repeat (first | refine blk_drewN ?_ _ | refine blk_drew ?_ | refine blk_alloc ?_ _)); exact (Q_BK115 h0_ h1_))) hb))
          clear BK102
          clear HB
          have HO105 := n0_
          have BK102 := n1_
          have HB := n2_
          clear n0_ n1_ n2_
          have z_NE_v104_v107 : b 3 = true → NeRow v104 v107 := fun h0_ k_ e_ e2_ => Kd.fresh' (Kd.R_lt (Q_HO108 h0_)) k_ (Kd.R_base ho7 k_ e_) e2_.symm
          have z_NE_v104_v110 : b 5 = true → NeRow v104 v110 := fun h0_ k_ e_ e2_ => Kd.fresh' (Kd.R_lt (Q_HO111 h0_)) k_ (Kd.R_base ho7 k_ e_) e2_.symm
          have z_NE_v104_v113 : b 7 = true → NeRow v104 v113 := fun h0_ k_ e_ e2_ => Kd.fresh' (Kd.R_lt (Q_HO114 h0_)) k_ (Kd.R_base ho7 k_ e_) e2_.symm
          clear hb ho7
          refine hK.out _ _ ⟨v104, v107, v110, v113, gb115, m8_, m9_, (by rw [ha.out]; exact putSel_upk 0 hb_ rfl rfl rfl), (by first | (with_reducible exact BK102.out) | ((with_reducible repeat (first | refine blk_drewN ?_ _ | refine blk_drew ?_ | refine blk_alloc ?_ _)); exact BK102.out)), (by repeat (first | (with_reducible first | exact HB.out | apply below_alloc | apply pw_below_drewN | apply below_drew1 | refine below_set ?_ GE102.out) | exact HB.out)), fun _ => (by (with_reducible repeat (first | apply Kd.R_alloc | apply Kd.R_drewN | apply Kd.R_drew)); exact HO105.out), z_HO108, z_HO111, z_HO114, z_BK115, Q_GW115, Q_GE115, Q_NB102_115, Q_NB115_102, fun h0_ => absurd ((hoff 10 (by kernel_rfl)).symm.trans h0_) (by decide), fun _ h1_ => z_NE_v104_v107 h1_, fun _ h1_ => z_NE_v104_v110 h1_, fun _ h1_ => z_NE_v104_v113 h1_, Q_NE_v107_v110, Q_NE_v107_v113, Q_NE_v110_v113, fun h0_ => absurd ((hoff 8 (by kernel_rfl)).symm.trans h0_) (by decide), Q_X9_⟩
        refine steps_cons ?_ ?_
        · rintro b a w' ⟨v104, v107, v110, v113, gb115, m8_, m9_, ha, Q_BK102, Q_HB, Q_HO105, Q_HO108, Q_HO111, Q_HO114, Q_BK115, Q_GW115, Q_GE115, Q_NB102_115, Q_NB115_102, Q_BK115_e10, Q_NE_v104_v107, Q_NE_v104_v110, Q_NE_v104_v113, Q_NE_v107_v110, Q_NE_v107_v113, Q_NE_v110_v113, Q_X8_, Q_X9_⟩ hb_ hon hoff
          refine ⟨_, rfl, fun K hK => ?_⟩
          have e7 : a.tmps[7]? = some (.int .i64 a0) := by rw [ha]; exact (putSel_off rfl).trans rfl
          replace ha := Aside0.mk ha
          have BK102 := Aside0.mk Q_BK102
          have HB := Aside0.mk Q_HB
          refine Kd.R_make_step (Kd.int .i64) _ 3 (by rfl) (N := 8) rfl 24 _ _ rfl a0 (eval_of e7) (eval_of e7) Try.underlying24 (.int .i64 0) 8 info3 rfl (by decide) (by omega) 0 (ok := fun _ => True) (okp := fun _ => True) rfl (fun _ hk => hk) trivial (of_decide_eq_true (by first | (with_reducible assumption) | assumption)) (Nat.le_trans (Nat.mul_le_mul_right _ (of_decide_eq_true (by first | (with_reducible assumption) | assumption) : a0.toNat ≤ 35184372088832)) (by omega)) (Below.refl _ _) (Nat.le_refl _) ?_
          intro v107 w6 ho7 hb hg_ hnew_
          clear hg_ hnew_
          (first | rw [← Ny106.out] at ho7 | (simp only [Int.reduceToNat] at ho7; rw [← Ny106.out] at ho7))
          have n0_ := Aside0.mk (Kd.R_lower ho7 (below_size (by repeat (first | (with_reducible first | exact HB.out | apply below_alloc | apply pw_below_drewN | apply below_drew1 | refine below_set ?_ GE102.out) | exact HB.out))))
          have n1_ := Aside0.mk (blk_below (g := gb102) (o := .cells #[.slice none 0 0, .slice none 0 0, .slice none 0 0, .slice none 0 0, .slice none 0 0, .slice none 0 0] 58 (0, 0)) (by first | (with_reducible exact BK102.out) | ((with_reducible repeat (first | refine blk_drewN ?_ _ | refine blk_drew ?_ | refine blk_alloc ?_ _)); exact BK102.out)) hb)
          have n2_ := Aside0.mk (below_step (by repeat (first | (with_reducible first | exact HB.out | apply below_alloc | apply pw_below_drewN | apply below_drew1 | refine below_set ?_ GE102.out) | exact HB.out)) hb)
          have z_HO105 := fun (h0_ : b 1 = true) => (show Kd.R (Kd.int .i64) 3 w6 w.heap.size (fun _ => True) v104 y103 from by first | exact (Kd.R_elder' (by (with_reducible repeat (first | apply Kd.R_alloc | apply Kd.R_drewN | apply Kd.R_drew)); exact (Q_HO105 h0_)) (Kd.R_base ho7) hb) | exact Kd.R_mono (Kd.R_elder' (by (with_reducible repeat (first | apply Kd.R_alloc | apply Kd.R_drewN | apply Kd.R_drew)); exact (Q_HO105 h0_)) (Kd.R_base ho7) hb) (fun _ h_ => by first | trivial | exact h_ | exact h_.1))
          have z_HO111 := fun (h0_ : b 5 = true) => (show Kd.R (Kd.int .i64) 3 w6 w.heap.size (fun _ => True) v110 y109 from by first | exact (Kd.R_elder' (by (with_reducible repeat (first | apply Kd.R_alloc | apply Kd.R_drewN | apply Kd.R_drew)); exact (Q_HO111 h0_)) (Kd.R_base ho7) hb) | exact Kd.R_mono (Kd.R_elder' (by (with_reducible repeat (first | apply Kd.R_alloc | apply Kd.R_drewN | apply Kd.R_drew)); exact (Q_HO111 h0_)) (Kd.R_base ho7) hb) (fun _ h_ => by first | trivial | exact h_ | exact h_.1))
          have z_HO114 := fun (h0_ : b 7 = true) => (show Kd.R (Kd.int .i64) 3 w6 w.heap.size (fun _ => True) v113 y112 from by first | exact (Kd.R_elder' (by (with_reducible repeat (first | apply Kd.R_alloc | apply Kd.R_drewN | apply Kd.R_drew)); exact (Q_HO114 h0_)) (Kd.R_base ho7) hb) | exact Kd.R_mono (Kd.R_elder' (by (with_reducible repeat (first | apply Kd.R_alloc | apply Kd.R_drewN | apply Kd.R_drew)); exact (Q_HO114 h0_)) (Kd.R_base ho7) hb) (fun _ h_ => by first | trivial | exact h_ | exact h_.1))
          have z_BK115 := fun (h0_ : b 9 = true) (h1_ : b 10 = false) => (show w6.heap[gb115]? = some (.cells #[.slice none 0 0, .slice none 0 0, .slice none 0 0, .slice none 0 0, .slice none 0 0, .slice none 0 0] 58 (0, 0)) from by first | exact (blk_below (g := gb115) (o := .cells #[.slice none 0 0, .slice none 0 0, .slice none 0 0, .slice none 0 0, .slice none 0 0, .slice none 0 0] 58 (0, 0)) (by first | (with_reducible exact (Q_BK115 h0_ h1_)) | ((with_reducible repeat (first | refine blk_drewN ?_ _ | refine blk_drew ?_ | refine blk_alloc ?_ _)); exact (Q_BK115 h0_ h1_))) hb))
          clear BK102
          clear HB
          have HO108 := n0_
          have BK102 := n1_
          have HB := n2_
          clear n0_ n1_ n2_
          have z_NE_v104_v107 : b 1 = true → NeRow v104 v107 := fun h0_ k_ e2_ e_ => Kd.fresh' (Kd.R_lt (Q_HO105 h0_)) k_ (Kd.R_base ho7 k_ e_) e2_.symm
          have z_NE_v107_v110 : b 5 = true → NeRow v107 v110 := fun h0_ k_ e_ e2_ => Kd.fresh' (Kd.R_lt (Q_HO111 h0_)) k_ (Kd.R_base ho7 k_ e_) e2_.symm
          have z_NE_v107_v113 : b 7 = true → NeRow v107 v113 := fun h0_ k_ e_ e2_ => Kd.fresh' (Kd.R_lt (Q_HO114 h0_)) k_ (Kd.R_base ho7 k_ e_) e2_.symm
          clear hb ho7
          refine hK.out _ _ ⟨v104, v107, v110, v113, gb115, m8_, m9_, (by rw [ha.out]; exact putSel_upk 1 hb_ rfl rfl rfl), (by first | (with_reducible exact BK102.out) | ((with_reducible repeat (first | refine blk_drewN ?_ _ | refine blk_drew ?_ | refine blk_alloc ?_ _)); exact BK102.out)), (by repeat (first | (with_reducible first | exact HB.out | apply below_alloc | apply pw_below_drewN | apply below_drew1 | refine below_set ?_ GE102.out) | exact HB.out)), z_HO105, fun _ => (by (with_reducible repeat (first | apply Kd.R_alloc | apply Kd.R_drewN | apply Kd.R_drew)); exact HO108.out), z_HO111, z_HO114, z_BK115, Q_GW115, Q_GE115, Q_NB102_115, Q_NB115_102, fun h0_ => absurd ((hoff 10 (by kernel_rfl)).symm.trans h0_) (by decide), fun h0_ _ => z_NE_v104_v107 h0_, Q_NE_v104_v110, Q_NE_v104_v113, fun _ h1_ => z_NE_v107_v110 h1_, fun _ h1_ => z_NE_v107_v113 h1_, Q_NE_v110_v113, fun h0_ => absurd ((hoff 8 (by kernel_rfl)).symm.trans h0_) (by decide), Q_X9_⟩
        refine steps_cons ?_ ?_
        · rintro b a w' ⟨v104, v107, v110, v113, gb115, m8_, m9_, ha, Q_BK102, Q_HB, Q_HO105, Q_HO108, Q_HO111, Q_HO114, Q_BK115, Q_GW115, Q_GE115, Q_NB102_115, Q_NB115_102, Q_BK115_e10, Q_NE_v104_v107, Q_NE_v104_v110, Q_NE_v104_v113, Q_NE_v107_v110, Q_NE_v107_v113, Q_NE_v110_v113, Q_X8_, Q_X9_⟩ hb_ hon hoff
          refine ⟨_, rfl, fun K hK => ?_⟩
          have e9 : a.tmps[9]? = some (.int .i64 a0) := by rw [ha]; exact (putSel_off rfl).trans rfl
          replace ha := Aside0.mk ha
          have BK102 := Aside0.mk Q_BK102
          have HB := Aside0.mk Q_HB
          refine Kd.R_make_step (Kd.int .i64) _ 3 (by rfl) (N := 10) rfl 24 _ _ rfl a0 (eval_of e9) (eval_of e9) Try.underlying24 (.int .i64 0) 8 info3 rfl (by decide) (by omega) 0 (ok := fun _ => True) (okp := fun _ => True) rfl (fun _ hk => hk) trivial (of_decide_eq_true (by first | (with_reducible assumption) | assumption)) (Nat.le_trans (Nat.mul_le_mul_right _ (of_decide_eq_true (by first | (with_reducible assumption) | assumption) : a0.toNat ≤ 35184372088832)) (by omega)) (Below.refl _ _) (Nat.le_refl _) ?_
          intro v110 w6 ho7 hb hg_ hnew_
          clear hg_ hnew_
          (first | rw [← Ny109.out] at ho7 | (simp only [Int.reduceToNat] at ho7; rw [← Ny109.out] at ho7))
          have n0_ := Aside0.mk (Kd.R_lower ho7 (below_size (by repeat (first | (with_reducible first | exact HB.out | apply below_alloc | apply pw_below_drewN | apply below_drew1 | refine below_set ?_ GE102.out) | exact HB.out))))
          have n1_ := Aside0.mk (blk_below (g := gb102) (o := .cells #[.slice none 0 0, .slice none 0 0, .slice none 0 0, .slice none 0 0, .slice none 0 0, .slice none 0 0] 58 (0, 0)) (by first | (with_reducible exact BK102.out) | ((with_reducible repeat (first | refine blk_drewN ?_ _ | refine blk_drew ?_ | refine blk_alloc ?_ _)); exact BK102.out)) hb)
          have n2_ := Aside0.mk (below_step (by repeat (first | (with_reducible first | exact HB.out | apply below_alloc | apply pw_below_drewN | apply below_drew1 | refine below_set ?_ GE102.out) | exact HB.out)) hb)
          have z_HO105 := fun (h0_ : b 1 = true) => (show Kd.R (Kd.int .i64) 3 w6 w.heap.size (fun _ => True) v104 y103 from by first | exact (Kd.R_elder' (by (with_reducible repeat (first | apply Kd.R_alloc | apply Kd.R_drewN | apply Kd.R_drew)); exact (Q_HO105 h0_)) (Kd.R_base ho7) hb) | exact Kd.R_mono (Kd.R_elder' (by (with_reducible repeat (first | apply Kd.R_alloc | apply Kd.R_drewN | apply Kd.R_drew)); exact (Q_HO105 h0_)) (Kd.R_base ho7) hb) (fun _ h_ => by first | trivial | exact h_ | exact h_.1))
          have z_HO108 := fun (h0_ : b 3 = true) => (show Kd.R (Kd.int .i64) 3 w6 w.heap.size (fun _ => True) v107 y106 from by first | exact (Kd.R_elder' (by (with_reducible repeat (first | apply Kd.R_alloc | apply Kd.R_drewN | apply Kd.R_drew)); exact (Q_HO108 h0_)) (Kd.R_base ho7) hb) | exact Kd.R_mono (Kd.R_elder' (by (with_reducible repeat (first | apply Kd.R_alloc | apply Kd.R_drewN | apply Kd.R_drew)); exact (Q_HO108 h0_)) (Kd.R_base ho7) hb) (fun _ h_ => by first | trivial | exact h_ | exact h_.1))
          have z_HO114 := fun (h0_ : b 7 = true) => (show Kd.R (Kd.int .i64) 3 w6 w.heap.size (fun _ => True) v113 y112 from by first | exact (Kd.R_elder' (by (with_reducible repeat (first | apply Kd.R_alloc | apply Kd.R_drewN | apply Kd.R_drew)); exact (Q_HO114 h0_)) (Kd.R_base ho7) hb) | exact Kd.R_mono (Kd.R_elder' (by (with_reducible repeat (first | apply Kd.R_alloc | apply Kd.R_drewN | apply Kd.R_drew)); exact (Q_HO114 h0_)) (Kd.R_base ho7) hb) (fun _ h_ => by first | trivial | exact h_ | exact h_.1))
          have z_BK115 := fun (h0_ : b 9 = true) (h1_ : b 10 = false) => (show w6.heap[gb115]? = some (.cells #[.slice none 0 0, .slice none 0 0, .slice none 0 0, .slice none 0 0, .slice none 0 0, .slice none 0 0] 58 (0, 0)) from by first | exact (blk_below (g := gb115) (o := .cells #[.slice none 0 0, .slice none 0 0, .slice none 0 0, .slice none 0 0, .slice none 0 0, .slice none 0 0] 58 (0, 0)) (by first | (with_reducible exact (Q_BK115 h0_ h1_)) | ((with_reducible repeat (first | refine blk_drewN ?_ _ | refine blk_drew ?_ | refine blk_alloc ?_ _)); exact (Q_BK115 h0_ h1_))) hb))
          clear BK102
          clear HB
          have HO111 := n0_
          have BK102 := n1_
          have HB := n2_
          clear n0_ n1_ n2_
          have z_NE_v104_v110 : b 1 = true → NeRow v104 v110 := fun h0_ k_ e2_ e_ => Kd.fresh' (Kd.R_lt (Q_HO105 h0_)) k_ (Kd.R_base ho7 k_ e_) e2_.symm
          have z_NE_v107_v110 : b 3 = true → NeRow v107 v110 := fun h0_ k_ e2_ e_ => Kd.fresh' (Kd.R_lt (Q_HO108 h0_)) k_ (Kd.R_base ho7 k_ e_) e2_.symm
          have z_NE_v110_v113 : b 7 = true → NeRow v110 v113 := fun h0_ k_ e_ e2_ => Kd.fresh' (Kd.R_lt (Q_HO114 h0_)) k_ (Kd.R_base ho7 k_ e_) e2_.symm
          clear hb ho7
          refine hK.out _ _ ⟨v104, v107, v110, v113, gb115, m8_, m9_, (by rw [ha.out]; exact putSel_upk 2 hb_ rfl rfl rfl), (by first | (with_reducible exact BK102.out) | ((with_reducible repeat (first | refine blk_drewN ?_ _ | refine blk_drew ?_ | refine blk_alloc ?_ _)); exact BK102.out)), (by repeat (first | (with_reducible first | exact HB.out | apply below_alloc | apply pw_below_drewN | apply below_drew1 | refine below_set ?_ GE102.out) | exact HB.out)), z_HO105, z_HO108, fun _ => (by (with_reducible repeat (first | apply Kd.R_alloc | apply Kd.R_drewN | apply Kd.R_drew)); exact HO111.out), z_HO114, z_BK115, Q_GW115, Q_GE115, Q_NB102_115, Q_NB115_102, fun h0_ => absurd ((hoff 10 (by kernel_rfl)).symm.trans h0_) (by decide), Q_NE_v104_v107, fun h0_ _ => z_NE_v104_v110 h0_, Q_NE_v104_v113, fun h0_ _ => z_NE_v107_v110 h0_, Q_NE_v107_v113, fun _ h1_ => z_NE_v110_v113 h1_, fun h0_ => absurd ((hoff 8 (by kernel_rfl)).symm.trans h0_) (by decide), Q_X9_⟩
        refine steps_cons ?_ ?_
        · rintro b a w' ⟨v104, v107, v110, v113, gb115, m8_, m9_, ha, Q_BK102, Q_HB, Q_HO105, Q_HO108, Q_HO111, Q_HO114, Q_BK115, Q_GW115, Q_GE115, Q_NB102_115, Q_NB115_102, Q_BK115_e10, Q_NE_v104_v107, Q_NE_v104_v110, Q_NE_v104_v113, Q_NE_v107_v110, Q_NE_v107_v113, Q_NE_v110_v113, Q_X8_, Q_X9_⟩ hb_ hon hoff
          refine ⟨_, rfl, fun K hK => ?_⟩
          have e11 : a.tmps[11]? = some (.int .i64 a0) := by rw [ha]; exact (putSel_off rfl).trans rfl
          replace ha := Aside0.mk ha
          have BK102 := Aside0.mk Q_BK102
          have HB := Aside0.mk Q_HB
          refine Kd.R_make_step (Kd.int .i64) _ 3 (by rfl) (N := 12) rfl 24 _ _ rfl a0 (eval_of e11) (eval_of e11) Try.underlying24 (.int .i64 0) 8 info3 rfl (by decide) (by omega) 0 (ok := fun _ => True) (okp := fun _ => True) rfl (fun _ hk => hk) trivial (of_decide_eq_true (by first | (with_reducible assumption) | assumption)) (Nat.le_trans (Nat.mul_le_mul_right _ (of_decide_eq_true (by first | (with_reducible assumption) | assumption) : a0.toNat ≤ 35184372088832)) (by omega)) (Below.refl _ _) (Nat.le_refl _) ?_
          intro v113 w6 ho7 hb hg_ hnew_
          clear hg_ hnew_
          (first | rw [← Ny112.out] at ho7 | (simp only [Int.reduceToNat] at ho7; rw [← Ny112.out] at ho7))
          have n0_ := Aside0.mk (Kd.R_lower ho7 (below_size (by repeat (first | (with_reducible first | exact HB.out | apply below_alloc | apply pw_below_drewN | apply below_drew1 | refine below_set ?_ GE102.out) | exact HB.out))))
          have n1_ := Aside0.mk (blk_below (g := gb102) (o := .cells #[.slice none 0 0, .slice none 0 0, .slice none 0 0, .slice none 0 0, .slice none 0 0, .slice none 0 0] 58 (0, 0)) (by first | (with_reducible exact BK102.out) | ((with_reducible repeat (first | refine blk_drewN ?_ _ | refine blk_drew ?_ | refine blk_alloc ?_ _)); exact BK102.out)) hb)
          have n2_ := Aside0.mk (below_step (by repeat (first | (with_reducible first | exact HB.out | apply below_alloc | apply pw_below_drewN | apply below_drew1 | refine below_set ?_ GE102.out) | exact HB.out)) hb)
          have z_HO105 := fun (h0_ : b 1 = true) => (show Kd.R (Kd.int .i64) 3 w6 w.heap.size (fun _ => True) v104 y103 from by first | exact (Kd.R_elder' (by (with_reducible repeat (first | apply Kd.R_alloc | apply Kd.R_drewN | apply Kd.R_drew)); exact (Q_HO105 h0_)) (Kd.R_base ho7) hb) | exact Kd.R_mono (Kd.R_elder' (by (with_reducible repeat (first | apply Kd.R_alloc | apply Kd.R_drewN | apply Kd.R_drew)); exact (Q_HO105 h0_)) (Kd.R_base ho7) hb) (fun _ h_ => by first | trivial | exact h_ | exact h_.1))
          have z_HO108 := fun (h0_ : b 3 = true) => (show Kd.R (Kd.int .i64) 3 w6 w.heap.size (fun _ => True) v107 y106 from by first | exact (Kd.R_elder' (by (with_reducible repeat (first | apply Kd.R_alloc | apply Kd.R_drewN | apply Kd.R_drew)); exact (Q_HO108 h0_)) (Kd.R_base ho7) hb) | exact Kd.R_mono (Kd.R_elder' (by (with_reducible repeat (first | apply Kd.R_alloc | apply Kd.R_drewN | apply Kd.R_drew)); exact (Q_HO108 h0_)) (Kd.R_base ho7) hb) (fun _ h_ => by first | trivial | exact h_ | exact h_.1))
          have z_HO111 := fun (h0_ : b 5 = true) => (show Kd.R (Kd.int .i64) 3 w6 w.heap.size (fun _ => True) v110 y109 from by first | exact (Kd.R_elder' (by (with_reducible repeat (first | apply Kd.R_alloc | apply Kd.R_drewN | apply Kd.R_drew)); exact (Q_HO111 h0_)) (Kd.R_base ho7) hb) | exact Kd.R_mono (Kd.R_elder' (by (with_reducible repeat (first | apply Kd.R_alloc | apply Kd.R_drewN | apply Kd.R_drew)); exact (Q_HO111 h0_)) (Kd.R_base ho7) hb) (fun _ h_ => by first | trivial | exact h_ | exact h_.1))
          have z_BK115 := fun (h0_ : b 9 = true) (h1_ : b 10 = false) => (show w6.heap[gb115]? = some (.cells #[.slice none 0 0, .slice none 0 0, .slice none 0 0, .slice none 0 0, .slice none 0 0, .slice none 0 0] 58 (0, 0)) from by first | exact (blk_below (g := gb115) (o := .cells #[.slice none 0 0, .slice none 0 0, .slice none 0 0, .slice none 0 0, .slice none 0 0, .slice none 0 0] 58 (0, 0)) (by first | (with_reducible exact (Q_BK115 h0_ h1_)) | ((with_reducible repeat (first | refine blk_drewN ?_ _ | refine blk_drew ?_ | refine blk_alloc ?_ _)); exact (Q_BK115 h0_ h1_))) hb))
          clear BK102
          clear HB
          have HO114 := n0_
          have BK102 := n1_
          have HB := n2_
          clear n0_ n1_ n2_
          have z_NE_v104_v113 : b 1 = true → NeRow v104 v113 := fun h0_ k_ e2_ e_ => Kd.fresh' (Kd.R_lt (Q_HO105 h0_)) k_ (Kd.R_base ho7 k_ e_) e2_.symm
          have z_NE_v107_v113 : b 3 = true → NeRow v107 v113 := fun h0_ k_ e2_ e_ => Kd.fresh' (Kd.R_lt (Q_HO108 h0_)) k_ (Kd.R_base ho7 k_ e_) e2_.symm
          have z_NE_v110_v113 : b 5 = true → NeRow v110 v113 := fun h0_ k_ e2_ e_ => Kd.fresh' (Kd.R_lt (Q_HO111 h0_)) k_ (Kd.R_base ho7 k_ e_) e2_.symm
          clear hb ho7
          refine hK.out _ _ ⟨v104, v107, v110, v113, gb115, m8_, m9_, (by rw [ha.out]; exact putSel_upk 3 hb_ rfl rfl rfl), (by first | (with_reducible exact BK102.out) | ((with_reducible repeat (first | refine blk_drewN ?_ _ | refine blk_drew ?_ | refine blk_alloc ?_ _)); exact BK102.out)), (by repeat (first | (with_reducible first | exact HB.out | apply below_alloc | apply pw_below_drewN | apply below_drew1 | refine below_set ?_ GE102.out) | exact HB.out)), z_HO105, z_HO108, z_HO111, fun _ => (by (with_reducible repeat (first | apply Kd.R_alloc | apply Kd.R_drewN | apply Kd.R_drew)); exact HO114.out), z_BK115, Q_GW115, Q_GE115, Q_NB102_115, Q_NB115_102, fun h0_ => absurd ((hoff 10 (by kernel_rfl)).symm.trans h0_) (by decide), Q_NE_v104_v107, Q_NE_v104_v110, fun h0_ _ => z_NE_v104_v113 h0_, Q_NE_v107_v110, fun h0_ _ => z_NE_v107_v113 h0_, fun h0_ _ => z_NE_v110_v113 h0_, fun h0_ => absurd ((hoff 8 (by kernel_rfl)).symm.trans h0_) (by decide), Q_X9_⟩
        refine steps_cons ?_ ?_
        · rintro b a w' ⟨v104, v107, v110, v113, gb115, m8_, m9_, ha, Q_BK102, Q_HB, Q_HO105, Q_HO108, Q_HO111, Q_HO114, Q_BK115, Q_GW115, Q_GE115, Q_NB102_115, Q_NB115_102, Q_BK115_e10, Q_NE_v104_v107, Q_NE_v104_v110, Q_NE_v104_v113, Q_NE_v107_v110, Q_NE_v107_v113, Q_NE_v110_v113, Q_X8_, Q_X9_⟩ hb_ hon hoff
          refine ⟨_, rfl, fun K hK => ?_⟩
          have e6 : a.tmps[6]? = some (v104) := by rw [ha]; exact putSel_on (e := (1, 6, v104)) 0 rfl rfl (hon 1 (by kernel_rfl)) rfl
          have e8 : a.tmps[8]? = some (v107) := by rw [ha]; exact putSel_on (e := (3, 8, v107)) 1 rfl rfl (hon 3 (by kernel_rfl)) rfl
          have e10 : a.tmps[10]? = some (v110) := by rw [ha]; exact putSel_on (e := (5, 10, v110)) 2 rfl rfl (hon 5 (by kernel_rfl)) rfl
          have e12 : a.tmps[12]? = some (v113) := by rw [ha]; exact putSel_on (e := (7, 12, v113)) 3 rfl rfl (hon 7 (by kernel_rfl)) rfl
          replace ha := Aside0.mk ha
          have BK102 := Aside0.mk Q_BK102
          have HB := Aside0.mk Q_HB
          have HO105 := Aside0.mk (Q_HO105 (hon 1 (by kernel_rfl)))
          have HO108 := Aside0.mk (Q_HO108 (hon 3 (by kernel_rfl)))
          have HO111 := Aside0.mk (Q_HO111 (hon 5 (by kernel_rfl)))
          have HO114 := Aside0.mk (Q_HO114 (hon 7 (by kernel_rfl)))
          have NE_v104_v107 := Aside0.mk (Q_NE_v104_v107 (hon 1 (by kernel_rfl)) (hon 3 (by kernel_rfl)))
          have NE_v104_v110 := Aside0.mk (Q_NE_v104_v110 (hon 1 (by kernel_rfl)) (hon 5 (by kernel_rfl)))
          have NE_v104_v113 := Aside0.mk (Q_NE_v104_v113 (hon 1 (by kernel_rfl)) (hon 7 (by kernel_rfl)))
          have NE_v107_v110 := Aside0.mk (Q_NE_v107_v110 (hon 3 (by kernel_rfl)) (hon 5 (by kernel_rfl)))
          have NE_v107_v113 := Aside0.mk (Q_NE_v107_v113 (hon 3 (by kernel_rfl)) (hon 7 (by kernel_rfl)))
          have NE_v110_v113 := Aside0.mk (Q_NE_v110_v113 (hon 5 (by kernel_rfl)) (hon 7 (by kernel_rfl)))
          obtain ⟨Ao8_0, co8_0, eo_⟩ := Kd.R_slice HO105.out
          subst eo_
          obtain ⟨Ao8_1, co8_1, eo_⟩ := Kd.R_slice HO108.out
          subst eo_
          obtain ⟨Ao8_2, co8_2, eo_⟩ := Kd.R_slice HO111.out
          subst eo_
          obtain ⟨Ao8_3, co8_3, eo_⟩ := Kd.R_slice HO114.out
          subst eo_
          refine value_ (w1 := w') (v := .agg #[.slice none 0 0, .slice none 0 0, .slice Ao8_0 y103.length co8_0, .slice Ao8_1 y106.length co8_1, .slice Ao8_2 y109.length co8_2, .slice Ao8_3 y112.length co8_3]) (by rfl) rfl ?_ ?_
          · go_simp
            (try simp only [i64_w])
            try rfl
          refine hK.out _ _ ⟨.slice Ao8_0 y103.length co8_0, .slice Ao8_1 y106.length co8_1, .slice Ao8_2 y109.length co8_2, .slice Ao8_3 y112.length co8_3, gb115, (.agg #[.slice none 0 0, .slice none 0 0, .slice Ao8_0 y103.length co8_0, .slice Ao8_1 y106.length co8_1, .slice Ao8_2 y109.length co8_2, .slice Ao8_3 y112.length co8_3]), m9_, (by rw [ha.out]; exact putSel_upk 4 hb_ rfl rfl rfl), Q_BK102, Q_HB, Q_HO105, Q_HO108, Q_HO111, Q_HO114, Q_BK115, Q_GW115, Q_GE115, Q_NB102_115, Q_NB115_102, fun h0_ => absurd ((hoff 10 (by kernel_rfl)).symm.trans h0_) (by decide), Q_NE_v104_v107, Q_NE_v104_v110, Q_NE_v104_v113, Q_NE_v107_v110, Q_NE_v107_v113, Q_NE_v110_v113, fun _ => rfl, Q_X9_⟩
        refine steps_cons ?_ ?_
        · rintro b a w' ⟨v104, v107, v110, v113, gb115, m8_, m9_, ha, Q_BK102, Q_HB, Q_HO105, Q_HO108, Q_HO111, Q_HO114, Q_BK115, Q_GW115, Q_GE115, Q_NB102_115, Q_NB115_102, Q_BK115_e10, Q_NE_v104_v107, Q_NE_v104_v110, Q_NE_v104_v113, Q_NE_v107_v110, Q_NE_v107_v113, Q_NE_v110_v113, Q_X8_, Q_X9_⟩ hb_ hon hoff
          refine ⟨_, rfl, fun K hK => ?_⟩
          replace ha := Aside0.mk ha
          have BK102 := Aside0.mk Q_BK102
          have HB := Aside0.mk Q_HB
          refine box_step ?hg (N := 3) ?hd (cs := #[.slice none 0 0, .slice none 0 0, .slice none 0 0, .slice none 0 0, .slice none 0 0, .slice none 0 0]) (t := 58) ?hr ?_; (case hd => rfl); (case hg => rfl); (case hr => first | (go_simp; done) | (go_simp; rfl))
          intro gb115 hg w6 hbox hb
          have n0_ := Aside0.mk (blk_below (g := gb102) (o := .cells #[.slice none 0 0, .slice none 0 0, .slice none 0 0, .slice none 0 0, .slice none 0 0, .slice none 0 0] 58 (0, 0)) (by first | (with_reducible exact BK102.out) | ((with_reducible repeat (first | refine blk_drewN ?_ _ | refine blk_drew ?_ | refine blk_alloc ?_ _)); exact BK102.out)) hb)
          have n1_ := Aside0.mk (below_step (by repeat (first | (with_reducible first | exact HB.out | apply below_alloc | apply pw_below_drewN | apply below_drew1 | refine below_set ?_ GE102.out) | exact HB.out)) hb)
          have n2_ := Aside0.mk (hbox)
          have n3_ := Aside0.mk ((by rw [hg]; exact (below_size (by repeat (first | (with_reducible first | exact HB.out | apply below_alloc | apply pw_below_drewN | apply below_drew1 | refine below_set ?_ GE102.out) | exact HB.out))) : w.heap.size ≤ gb115))
          have n4_ := Aside0.mk ((by rw [hg]; exact (below_size (by repeat (first | (with_reducible first | exact HB.out | apply below_alloc | apply pw_below_drewN | apply below_drew1 | refine below_set ?_ GE102.out) | exact HB.out))) : w.heap.size ≤ gb115))
          have n5_ := Aside0.mk ((by rw [hg]; exact Nat.ne_of_lt (blk_lt (g := gb102) (o := .cells #[.slice none 0 0, .slice none 0 0, .slice none 0 0, .slice none 0 0, .slice none 0 0, .slice none 0 0] 58 (0, 0)) (by first | (with_reducible exact BK102.out) | ((with_reducible repeat (first | refine blk_drewN ?_ _ | refine blk_drew ?_ | refine blk_alloc ?_ _)); exact BK102.out))) : gb102 ≠ gb115))
          have n6_ := Aside0.mk ((by rw [hg]; exact Nat.ne_of_gt (blk_lt (g := gb102) (o := .cells #[.slice none 0 0, .slice none 0 0, .slice none 0 0, .slice none 0 0, .slice none 0 0, .slice none 0 0] 58 (0, 0)) (by first | (with_reducible exact BK102.out) | ((with_reducible repeat (first | refine blk_drewN ?_ _ | refine blk_drew ?_ | refine blk_alloc ?_ _)); exact BK102.out))) : gb115 ≠ gb102))
          have z_HO105 := fun (h0_ : b 1 = true) => (show Kd.R (Kd.int .i64) 3 w6 w.heap.size (fun _ => True) v104 y103 from by first | exact (Kd.R_below (by (with_reducible repeat (first | apply Kd.R_alloc | apply Kd.R_drewN | apply Kd.R_drew)); exact (Q_HO105 h0_)) hb) | exact Kd.R_mono (Kd.R_below (by (with_reducible repeat (first | apply Kd.R_alloc | apply Kd.R_drewN | apply Kd.R_drew)); exact (Q_HO105 h0_)) hb) (fun _ h_ => by first | trivial | exact h_ | exact h_.1))
          have z_HO108 := fun (h0_ : b 3 = true) => (show Kd.R (Kd.int .i64) 3 w6 w.heap.size (fun _ => True) v107 y106 from by first | exact (Kd.R_below (by (with_reducible repeat (first | apply Kd.R_alloc | apply Kd.R_drewN | apply Kd.R_drew)); exact (Q_HO108 h0_)) hb) | exact Kd.R_mono (Kd.R_below (by (with_reducible repeat (first | apply Kd.R_alloc | apply Kd.R_drewN | apply Kd.R_drew)); exact (Q_HO108 h0_)) hb) (fun _ h_ => by first | trivial | exact h_ | exact h_.1))
          have z_HO111 := fun (h0_ : b 5 = true) => (show Kd.R (Kd.int .i64) 3 w6 w.heap.size (fun _ => True) v110 y109 from by first | exact (Kd.R_below (by (with_reducible repeat (first | apply Kd.R_alloc | apply Kd.R_drewN | apply Kd.R_drew)); exact (Q_HO111 h0_)) hb) | exact Kd.R_mono (Kd.R_below (by (with_reducible repeat (first | apply Kd.R_alloc | apply Kd.R_drewN | apply Kd.R_drew)); exact (Q_HO111 h0_)) hb) (fun _ h_ => by first | trivial | exact h_ | exact h_.1))
          have z_HO114 := fun (h0_ : b 7 = true) => (show Kd.R (Kd.int .i64) 3 w6 w.heap.size (fun _ => True) v113 y112 from by first | exact (Kd.R_below (by (with_reducible repeat (first | apply Kd.R_alloc | apply Kd.R_drewN | apply Kd.R_drew)); exact (Q_HO114 h0_)) hb) | exact Kd.R_mono (Kd.R_below (by (with_reducible repeat (first | apply Kd.R_alloc | apply Kd.R_drewN | apply Kd.R_drew)); exact (Q_HO114 h0_)) hb) (fun _ h_ => by first | trivial | exact h_ | exact h_.1))
          clear BK102
          clear HB
          have BK102 := n0_
          have HB := n1_
          have BK115 := n2_
          have GW115 := n3_
          have GE115 := n4_
          have NB102_115 := n5_
          have NB115_102 := n6_
          clear n0_ n1_ n2_ n3_ n4_ n5_ n6_
          clear hb hbox hg
          refine hK.out _ _ ⟨v104, v107, v110, v113, gb115, m8_, (.pointer (some ⟨gb115, 0, none⟩)), (by rw [ha.out]; exact putSel_upk 5 hb_ rfl rfl rfl), (by first | (with_reducible exact BK102.out) | ((with_reducible repeat (first | refine blk_drewN ?_ _ | refine blk_drew ?_ | refine blk_alloc ?_ _)); exact BK102.out)), (by repeat (first | (with_reducible first | exact HB.out | apply below_alloc | apply pw_below_drewN | apply below_drew1 | refine below_set ?_ GE102.out | refine below_set ?_ GE115.out) | exact HB.out)), z_HO105, z_HO108, z_HO111, z_HO114, fun _ _ => (by first | (with_reducible exact BK115.out) | ((with_reducible repeat (first | refine blk_drewN ?_ _ | refine blk_drew ?_ | refine blk_alloc ?_ _)); exact BK115.out)), fun _ => GW115.out, fun _ => GE115.out, fun _ => NB102_115.out, fun _ => NB115_102.out, fun h0_ => absurd ((hoff 10 (by kernel_rfl)).symm.trans h0_) (by decide), Q_NE_v104_v107, Q_NE_v104_v110, Q_NE_v104_v113, Q_NE_v107_v110, Q_NE_v107_v113, Q_NE_v110_v113, Q_X8_, fun _ => rfl⟩
        refine steps_cons ?_ ?_
        · rintro b a w' ⟨v104, v107, v110, v113, gb115, m8_, m9_, ha, Q_BK102, Q_HB, Q_HO105, Q_HO108, Q_HO111, Q_HO114, Q_BK115, Q_GW115, Q_GE115, Q_NB102_115, Q_NB115_102, Q_BK115_e10, Q_NE_v104_v107, Q_NE_v104_v110, Q_NE_v104_v113, Q_NE_v107_v110, Q_NE_v107_v113, Q_NE_v110_v113, Q_X8_, Q_X9_⟩ hb_ hon hoff
          refine ⟨_, rfl, fun K hK => ?_⟩
          have e3 : a.tmps[3]? = some (m9_) := by rw [ha]; exact putSel_on (e := (9, 3, m9_)) 5 rfl rfl (hon 9 (by kernel_rfl)) rfl
          rw [Q_X9_ (hon 9 (by kernel_rfl))] at e3
          have e13 : a.tmps[13]? = some (m8_) := by rw [ha]; exact putSel_on (e := (8, 13, m8_)) 4 rfl rfl (hon 8 (by kernel_rfl)) rfl
          rw [Q_X8_ (hon 8 (by kernel_rfl))] at e13
          replace ha := Aside0.mk ha
          have BK102 := Aside0.mk Q_BK102
          have HB := Aside0.mk Q_HB
          have HO105 := Aside0.mk (Q_HO105 (hon 1 (by kernel_rfl)))
          have HO108 := Aside0.mk (Q_HO108 (hon 3 (by kernel_rfl)))
          have HO111 := Aside0.mk (Q_HO111 (hon 5 (by kernel_rfl)))
          have HO114 := Aside0.mk (Q_HO114 (hon 7 (by kernel_rfl)))
          have BK115 := Aside0.mk (Q_BK115 (hon 9 (by kernel_rfl)) hb_)
          have GW115 := Aside0.mk (Q_GW115 (hon 9 (by kernel_rfl)))
          have GE115 := Aside0.mk (Q_GE115 (hon 9 (by kernel_rfl)))
          have NB102_115 := Aside0.mk (Q_NB102_115 (hon 9 (by kernel_rfl)))
          have NB115_102 := Aside0.mk (Q_NB115_102 (hon 9 (by kernel_rfl)))
          have NE_v104_v107 := Aside0.mk (Q_NE_v104_v107 (hon 1 (by kernel_rfl)) (hon 3 (by kernel_rfl)))
          have NE_v104_v110 := Aside0.mk (Q_NE_v104_v110 (hon 1 (by kernel_rfl)) (hon 5 (by kernel_rfl)))
          have NE_v104_v113 := Aside0.mk (Q_NE_v104_v113 (hon 1 (by kernel_rfl)) (hon 7 (by kernel_rfl)))
          have NE_v107_v110 := Aside0.mk (Q_NE_v107_v110 (hon 3 (by kernel_rfl)) (hon 5 (by kernel_rfl)))
          have NE_v107_v113 := Aside0.mk (Q_NE_v107_v113 (hon 3 (by kernel_rfl)) (hon 7 (by kernel_rfl)))
          have NE_v110_v113 := Aside0.mk (Q_NE_v110_v113 (hon 5 (by kernel_rfl)) (hon 7 (by kernel_rfl)))
          obtain ⟨Ao20, co20, eo20⟩ := Kd.R_slice HO114.out
          (first | subst eo20 | (injection eo20 with f1_ f2_ f3_; have f4_ := f1_.symm; have f5_ := f3_.symm; clear f1_ f2_ f3_; subst f4_; subst f5_))
          obtain ⟨Ao21, co21, eo21⟩ := Kd.R_slice HO111.out
          (first | subst eo21 | (injection eo21 with f1_ f2_ f3_; have f4_ := f1_.symm; have f5_ := f3_.symm; clear f1_ f2_ f3_; subst f4_; subst f5_))
          obtain ⟨Ao22, co22, eo22⟩ := Kd.R_slice HO108.out
          (first | subst eo22 | (injection eo22 with f1_ f2_ f3_; have f4_ := f1_.symm; have f5_ := f3_.symm; clear f1_ f2_ f3_; subst f4_; subst f5_))
          obtain ⟨Ao23, co23, eo23⟩ := Kd.R_slice HO105.out
          (first | subst eo23 | (injection eo23 with f1_ f2_ f3_; have f4_ := f1_.symm; have f5_ := f3_.symm; clear f1_ f2_ f3_; subst f4_; subst f5_))
          have hs24 : w'.cell? ⟨gb115, 0, none⟩ = some (.slice none 0 0) := (blk_cell BK115.out 0).trans rfl
          have hfs24 := blk_frozen BK115.out 0
          have hns24_0 := NB102_115.out
          have hms24_0 := NB115_102.out
          have hs25 : w'.cell? ⟨gb115, 1, none⟩ = some (.slice none 0 0) := (blk_cell BK115.out 1).trans rfl
          have hfs25 := blk_frozen BK115.out 1
          have hns25_0 := NB102_115.out
          have hms25_0 := NB115_102.out
          have hs26 : w'.cell? ⟨gb115, 2, none⟩ = some (.slice none 0 0) := (blk_cell BK115.out 2).trans rfl
          have hfs26 := blk_frozen BK115.out 2
          have hns26_0 := NB102_115.out
          have hms26_0 := NB115_102.out
          have hs27 : w'.cell? ⟨gb115, 3, none⟩ = some (.slice none 0 0) := (blk_cell BK115.out 3).trans rfl
          have hfs27 := blk_frozen BK115.out 3
          have hns27_0 := NB102_115.out
          have hms27_0 := NB115_102.out
          have hs28 : w'.cell? ⟨gb115, 4, none⟩ = some (.slice none 0 0) := (blk_cell BK115.out 4).trans rfl
          have hfs28 := blk_frozen BK115.out 4
          have hns28_0 := NB102_115.out
          have hms28_0 := NB115_102.out
          have hs29 : w'.cell? ⟨gb115, 5, none⟩ = some (.slice none 0 0) := (blk_cell BK115.out 5).trans rfl
          have hfs29 := blk_frozen BK115.out 5
          have hns29_0 := NB102_115.out
          have hms29_0 := NB115_102.out
          refine skip_ (w1 := ?_) (by rfl) rfl ?_ ?_
          rotate_left
          · go_simp
            rfl
          refine hK.out _ _ ⟨.slice Ao23 y103.length co23, .slice Ao22 y106.length co22, .slice Ao21 y109.length co21, .slice Ao20 y112.length co20, gb115, m8_, m9_, (by rw [ha.out]; exact putSel_none (v := undef) rfl), (by (with_reducible repeat (first | refine blk_drewN ?_ _ | refine blk_drew ?_ | refine blk_alloc ?_ _)); refine blk_far ?_ NB102_115.out _; (with_reducible repeat (first | refine blk_drewN ?_ _ | refine blk_drew ?_ | refine blk_alloc ?_ _)); refine blk_far ?_ NB102_115.out _; (with_reducible repeat (first | refine blk_drewN ?_ _ | refine blk_drew ?_ | refine blk_alloc ?_ _)); refine blk_far ?_ NB102_115.out _; (with_reducible repeat (first | refine blk_drewN ?_ _ | refine blk_drew ?_ | refine blk_alloc ?_ _)); refine blk_far ?_ NB102_115.out _; (with_reducible repeat (first | refine blk_drewN ?_ _ | refine blk_drew ?_ | refine blk_alloc ?_ _)); refine blk_far ?_ NB102_115.out _; (with_reducible repeat (first | refine blk_drewN ?_ _ | refine blk_drew ?_ | refine blk_alloc ?_ _)); refine blk_far ?_ NB102_115.out _; (with_reducible repeat (first | refine blk_drewN ?_ _ | refine blk_drew ?_ | refine blk_alloc ?_ _)); exact BK102.out), (by repeat (first | (with_reducible first | exact HB.out | apply below_alloc | apply pw_below_drewN | apply below_drew1 | refine below_set ?_ GE102.out | refine below_set ?_ GE115.out) | exact HB.out)), fun _ => (by (with_reducible repeat (first | apply Kd.R_alloc | apply Kd.R_drewN | apply Kd.R_drew)); exact Kd.R_mono (Kd.R_far (p := ⟨gb115, 5, none⟩) (Kd.R_far (p := ⟨gb115, 4, none⟩) (Kd.R_far (p := ⟨gb115, 3, none⟩) (Kd.R_far (p := ⟨gb115, 2, none⟩) (Kd.R_far (p := ⟨gb115, 1, none⟩) (Kd.R_far (p := ⟨gb115, 0, none⟩) (Kd.R_types HO105.out BK115.out (by decide)) (fun _ hk => hk.2) (.slice none 0 0)) (fun _ hk => hk.2) (.slice none 0 0)) (fun _ hk => hk.2) (.slice Ao23 y103.length co23)) (fun _ hk => hk.2) (.slice Ao22 y106.length co22)) (fun _ hk => hk.2) (.slice Ao21 y109.length co21)) (fun _ hk => hk.2) (.slice Ao20 y112.length co20)) (fun _ hk => by first | trivial | exact hk.1 | exact ⟨hk.1.1, ⟨hk.1.2.1, hk.1.2.2⟩⟩)), fun _ => (by (with_reducible repeat (first | apply Kd.R_alloc | apply Kd.R_drewN | apply Kd.R_drew)); exact Kd.R_mono (Kd.R_far (p := ⟨gb115, 5, none⟩) (Kd.R_far (p := ⟨gb115, 4, none⟩) (Kd.R_far (p := ⟨gb115, 3, none⟩) (Kd.R_far (p := ⟨gb115, 2, none⟩) (Kd.R_far (p := ⟨gb115, 1, none⟩) (Kd.R_far (p := ⟨gb115, 0, none⟩) (Kd.R_types HO108.out BK115.out (by decide)) (fun _ hk => hk.2) (.slice none 0 0)) (fun _ hk => hk.2) (.slice none 0 0)) (fun _ hk => hk.2) (.slice Ao23 y103.length co23)) (fun _ hk => hk.2) (.slice Ao22 y106.length co22)) (fun _ hk => hk.2) (.slice Ao21 y109.length co21)) (fun _ hk => hk.2) (.slice Ao20 y112.length co20)) (fun _ hk => by first | trivial | exact hk.1 | exact ⟨hk.1.1, ⟨hk.1.2.1, hk.1.2.2⟩⟩)), fun _ => (by (with_reducible repeat (first | apply Kd.R_alloc | apply Kd.R_drewN | apply Kd.R_drew)); exact Kd.R_mono (Kd.R_far (p := ⟨gb115, 5, none⟩) (Kd.R_far (p := ⟨gb115, 4, none⟩) (Kd.R_far (p := ⟨gb115, 3, none⟩) (Kd.R_far (p := ⟨gb115, 2, none⟩) (Kd.R_far (p := ⟨gb115, 1, none⟩) (Kd.R_far (p := ⟨gb115, 0, none⟩) (Kd.R_types HO111.out BK115.out (by decide)) (fun _ hk => hk.2) (.slice none 0 0)) (fun _ hk => hk.2) (.slice none 0 0)) (fun _ hk => hk.2) (.slice Ao23 y103.length co23)) (fun _ hk => hk.2) (.slice Ao22 y106.length co22)) (fun _ hk => hk.2) (.slice Ao21 y109.length co21)) (fun _ hk => hk.2) (.slice Ao20 y112.length co20)) (fun _ hk => by first | trivial | exact hk.1 | exact ⟨hk.1.1, ⟨hk.1.2.1, hk.1.2.2⟩⟩)), fun _ => (by (with_reducible repeat (first | apply Kd.R_alloc | apply Kd.R_drewN | apply Kd.R_drew)); exact Kd.R_mono (Kd.R_far (p := ⟨gb115, 5, none⟩) (Kd.R_far (p := ⟨gb115, 4, none⟩) (Kd.R_far (p := ⟨gb115, 3, none⟩) (Kd.R_far (p := ⟨gb115, 2, none⟩) (Kd.R_far (p := ⟨gb115, 1, none⟩) (Kd.R_far (p := ⟨gb115, 0, none⟩) (Kd.R_types HO114.out BK115.out (by decide)) (fun _ hk => hk.2) (.slice none 0 0)) (fun _ hk => hk.2) (.slice none 0 0)) (fun _ hk => hk.2) (.slice Ao23 y103.length co23)) (fun _ hk => hk.2) (.slice Ao22 y106.length co22)) (fun _ hk => hk.2) (.slice Ao21 y109.length co21)) (fun _ hk => hk.2) (.slice Ao20 y112.length co20)) (fun _ hk => by first | trivial | exact hk.1 | exact ⟨hk.1.1, ⟨hk.1.2.1, hk.1.2.2⟩⟩)), fun _ h1_ => absurd ((up_self b 10).symm.trans h1_) (by decide), fun _ => GW115.out, fun _ => GE115.out, fun _ => NB102_115.out, fun _ => NB115_102.out, fun _ => (by (with_reducible repeat (first | refine blk_drewN ?_ _ | refine blk_drew ?_ | refine blk_alloc ?_ _)); refine blk_put (cs := #[.slice none 0 0, .slice none 0 0, .slice Ao23 y103.length co23, .slice Ao22 y106.length co22, .slice Ao21 y109.length co21, .slice none 0 0]) ?_ 5 _ rfl; (with_reducible repeat (first | refine blk_drewN ?_ _ | refine blk_drew ?_ | refine blk_alloc ?_ _)); refine blk_put (cs := #[.slice none 0 0, .slice none 0 0, .slice Ao23 y103.length co23, .slice Ao22 y106.length co22, .slice none 0 0, .slice none 0 0]) ?_ 4 _ rfl; (with_reducible repeat (first | refine blk_drewN ?_ _ | refine blk_drew ?_ | refine blk_alloc ?_ _)); refine blk_put (cs := #[.slice none 0 0, .slice none 0 0, .slice Ao23 y103.length co23, .slice none 0 0, .slice none 0 0, .slice none 0 0]) ?_ 3 _ rfl; (with_reducible repeat (first | refine blk_drewN ?_ _ | refine blk_drew ?_ | refine blk_alloc ?_ _)); refine blk_put (cs := #[.slice none 0 0, .slice none 0 0, .slice none 0 0, .slice none 0 0, .slice none 0 0, .slice none 0 0]) ?_ 2 _ rfl; (with_reducible repeat (first | refine blk_drewN ?_ _ | refine blk_drew ?_ | refine blk_alloc ?_ _)); refine blk_put (cs := #[.slice none 0 0, .slice none 0 0, .slice none 0 0, .slice none 0 0, .slice none 0 0, .slice none 0 0]) ?_ 1 _ rfl; (with_reducible repeat (first | refine blk_drewN ?_ _ | refine blk_drew ?_ | refine blk_alloc ?_ _)); refine blk_put (cs := #[.slice none 0 0, .slice none 0 0, .slice none 0 0, .slice none 0 0, .slice none 0 0, .slice none 0 0]) ?_ 0 _ rfl; (with_reducible repeat (first | refine blk_drewN ?_ _ | refine blk_drew ?_ | refine blk_alloc ?_ _)); exact BK115.out), Q_NE_v104_v107, Q_NE_v104_v110, Q_NE_v104_v113, Q_NE_v107_v110, Q_NE_v107_v113, Q_NE_v110_v113, Q_X8_, Q_X9_⟩
        exact steps_nil
      rintro b a w25 hall ⟨v104, v107, v110, v113, gb115, m8_, m9_, ha, Q_BK102, Q_HB, Q_HO105, Q_HO108, Q_HO111, Q_HO114, Q_BK115, Q_GW115, Q_GE115, Q_NB102_115, Q_NB115_102, Q_BK115_e10, Q_NE_v104_v107, Q_NE_v104_v110, Q_NE_v104_v113, Q_NE_v107_v110, Q_NE_v107_v113, Q_NE_v110_v113, Q_X8_, Q_X9_⟩
      clear BK102 HB
      have hb1_ := hall 1 (by kernel_rfl)
      have hb3_ := hall 3 (by kernel_rfl)
      have hb5_ := hall 5 (by kernel_rfl)
      have hb7_ := hall 7 (by kernel_rfl)
      have hb8_ := hall 8 (by kernel_rfl)
      have hb9_ := hall 9 (by kernel_rfl)
      have hb10_ := hall 10 (by kernel_rfl)
      subst ha
      obtain rfl := Q_X8_ hb8_
      obtain rfl := Q_X9_ hb9_
      simp only [putSel, hb1_, hb3_, hb5_, hb7_, hb8_, hb9_, hb10_, if_true, Act.put, List.setIfInBounds_toArray, List.set_cons_zero, List.set_cons_succ]
      have BK102 := Aside0.mk Q_BK102
      clear Q_BK102
      have HB := Aside0.mk Q_HB
      clear Q_HB
      have HO105 := Aside0.mk (Q_HO105 hb1_)
      clear Q_HO105
      have HO108 := Aside0.mk (Q_HO108 hb3_)
      clear Q_HO108
      have HO111 := Aside0.mk (Q_HO111 hb5_)
      clear Q_HO111
      have HO114 := Aside0.mk (Q_HO114 hb7_)
      clear Q_HO114
      clear Q_BK115
      have GW115 := Aside0.mk (Q_GW115 hb9_)
      clear Q_GW115
      have GE115 := Aside0.mk (Q_GE115 hb9_)
      clear Q_GE115
      have NB102_115 := Aside0.mk (Q_NB102_115 hb9_)
      clear Q_NB102_115
      have NB115_102 := Aside0.mk (Q_NB115_102 hb9_)
      clear Q_NB115_102
      have BK115 := Aside0.mk (Q_BK115_e10 hb10_)
      clear Q_BK115_e10
      have NE_v104_v107 := Aside0.mk (Q_NE_v104_v107 hb1_ hb3_)
      clear Q_NE_v104_v107
      have NE_v104_v110 := Aside0.mk (Q_NE_v104_v110 hb1_ hb5_)
      clear Q_NE_v104_v110
      have NE_v104_v113 := Aside0.mk (Q_NE_v104_v113 hb1_ hb7_)
      clear Q_NE_v104_v113
      have NE_v107_v110 := Aside0.mk (Q_NE_v107_v110 hb3_ hb5_)
      clear Q_NE_v107_v110
      have NE_v107_v113 := Aside0.mk (Q_NE_v107_v113 hb3_ hb7_)
      clear Q_NE_v107_v113
      have NE_v110_v113 := Aside0.mk (Q_NE_v110_v113 hb5_ hb7_)
      clear Q_NE_v110_v113
      clear hall hb1_ hb3_ hb5_ hb7_ hb8_ hb9_ hb10_
      have n_HO105 := Aside0.mk (show Kd.R (Kd.int .i64) 3 w25 w.heap.size (fun k_ => some k_ ≠ (v107 : Value).ownBlock ∧ some k_ ≠ (v110 : Value).ownBlock ∧ some k_ ≠ (v113 : Value).ownBlock) v104 y103 from Kd.R_of_own (Kd.own_of_R HO105.out) (fun k_ e_ => ⟨(fun e2_ => NE_v104_v107.out k_ e_ e2_.symm), (fun e2_ => NE_v104_v110.out k_ e_ e2_.symm), (fun e2_ => NE_v104_v113.out k_ e_ e2_.symm)⟩))
      have n_HO108 := Aside0.mk (show Kd.R (Kd.int .i64) 3 w25 w.heap.size (fun k_ => some k_ ≠ (v104 : Value).ownBlock ∧ some k_ ≠ (v110 : Value).ownBlock ∧ some k_ ≠ (v113 : Value).ownBlock) v107 y106 from Kd.R_of_own (Kd.own_of_R HO108.out) (fun k_ e_ => ⟨(fun e2_ => NE_v104_v107.out k_ e2_.symm e_), (fun e2_ => NE_v107_v110.out k_ e_ e2_.symm), (fun e2_ => NE_v107_v113.out k_ e_ e2_.symm)⟩))
      have n_HO111 := Aside0.mk (show Kd.R (Kd.int .i64) 3 w25 w.heap.size (fun k_ => some k_ ≠ (v104 : Value).ownBlock ∧ some k_ ≠ (v107 : Value).ownBlock ∧ some k_ ≠ (v113 : Value).ownBlock) v110 y109 from Kd.R_of_own (Kd.own_of_R HO111.out) (fun k_ e_ => ⟨(fun e2_ => NE_v104_v110.out k_ e2_.symm e_), (fun e2_ => NE_v107_v110.out k_ e2_.symm e_), (fun e2_ => NE_v110_v113.out k_ e_ e2_.symm)⟩))
      have n_HO114 := Aside0.mk (show Kd.R (Kd.int .i64) 3 w25 w.heap.size (fun k_ => some k_ ≠ (v104 : Value).ownBlock ∧ some k_ ≠ (v107 : Value).ownBlock ∧ some k_ ≠ (v110 : Value).ownBlock) v113 y112 from Kd.R_of_own (Kd.own_of_R HO114.out) (fun k_ e_ => ⟨(fun e2_ => NE_v104_v113.out k_ e2_.symm e_), (fun e2_ => NE_v107_v113.out k_ e2_.symm e_), (fun e2_ => NE_v110_v113.out k_ e2_.symm e_)⟩))
      clear HO105
      have HO105 := n_HO105
      clear n_HO105
      clear HO108
      have HO108 := n_HO108
      clear n_HO108
      clear HO111
      have HO111 := n_HO111
      clear n_HO111
      clear HO114
      have HO114 := n_HO114
      clear n_HO114
      clear NE_v104_v107 NE_v104_v110 NE_v104_v113 NE_v107_v110 NE_v107_v113 NE_v110_v113
      obtain ⟨Ao26, co26, eo26⟩ := Kd.R_slice HO114.out
      (first | subst eo26 | (injection eo26 with f1_ f2_ f3_; have f4_ := f1_.symm; have f5_ := f3_.symm; clear f1_ f2_ f3_; subst f4_; subst f5_))
      obtain ⟨Ao27, co27, eo27⟩ := Kd.R_slice HO111.out
      (first | subst eo27 | (injection eo27 with f1_ f2_ f3_; have f4_ := f1_.symm; have f5_ := f3_.symm; clear f1_ f2_ f3_; subst f4_; subst f5_))
      obtain ⟨Ao28, co28, eo28⟩ := Kd.R_slice HO108.out
      (first | subst eo28 | (injection eo28 with f1_ f2_ f3_; have f4_ := f1_.symm; have f5_ := f3_.symm; clear f1_ f2_ f3_; subst f4_; subst f5_))
      obtain ⟨Ao29, co29, eo29⟩ := Kd.R_slice HO105.out
      (first | subst eo29 | (injection eo29 with f1_ f2_ f3_; have f4_ := f1_.symm; have f5_ := f3_.symm; clear f1_ f2_ f3_; subst f4_; subst f5_))
      try go_wp2
      go_loopg [4] k (fun kq v4 w' => ∃ (x4_1 : Int) (x116000_1 : List Int) (x116001_1 : List Int) (u116000 : Value) (u116001 : Value), v4 = .int .i64 x4_1 ∧ Aside0 (spec_l7Start.l0 kq a0 x4_1 x116000_1 x116001_1 y103 y106 y109 y112 = some (r1, r2, r3, r4, r5, r6)) ∧ Aside0 (kq ≤ k) ∧ Aside0 (Kd.R (Kd.int .i64) 3 w' w.heap.size (fun k_ => some k_ ≠ (u116001 : Value).ownBlock ∧ some k_ ≠ ((.slice Ao29 y103.length co29) : Value).ownBlock ∧ some k_ ≠ ((.slice Ao28 y106.length co28) : Value).ownBlock ∧ some k_ ≠ ((.slice Ao27 y109.length co27) : Value).ownBlock ∧ some k_ ≠ ((.slice Ao26 y112.length co26) : Value).ownBlock) u116000 x116000_1) ∧ Aside0 (Kd.R (Kd.int .i64) 3 w' w.heap.size (fun k_ => some k_ ≠ (u116000 : Value).ownBlock ∧ some k_ ≠ ((.slice Ao29 y103.length co29) : Value).ownBlock ∧ some k_ ≠ ((.slice Ao28 y106.length co28) : Value).ownBlock ∧ some k_ ≠ ((.slice Ao27 y109.length co27) : Value).ownBlock ∧ some k_ ≠ ((.slice Ao26 y112.length co26) : Value).ownBlock) u116001 x116001_1) ∧ Aside0 (Kd.R (Kd.int .i64) 3 w' w.heap.size (fun k_ => some k_ ≠ (u116000 : Value).ownBlock ∧ some k_ ≠ (u116001 : Value).ownBlock ∧ some k_ ≠ ((.slice Ao28 y106.length co28) : Value).ownBlock ∧ some k_ ≠ ((.slice Ao27 y109.length co27) : Value).ownBlock ∧ some k_ ≠ ((.slice Ao26 y112.length co26) : Value).ownBlock) (.slice Ao29 y103.length co29) y103) ∧ Aside0 (Kd.R (Kd.int .i64) 3 w' w.heap.size (fun k_ => some k_ ≠ (u116000 : Value).ownBlock ∧ some k_ ≠ (u116001 : Value).ownBlock ∧ some k_ ≠ ((.slice Ao29 y103.length co29) : Value).ownBlock ∧ some k_ ≠ ((.slice Ao27 y109.length co27) : Value).ownBlock ∧ some k_ ≠ ((.slice Ao26 y112.length co26) : Value).ownBlock) (.slice Ao28 y106.length co28) y106) ∧ Aside0 (Kd.R (Kd.int .i64) 3 w' w.heap.size (fun k_ => some k_ ≠ (u116000 : Value).ownBlock ∧ some k_ ≠ (u116001 : Value).ownBlock ∧ some k_ ≠ ((.slice Ao29 y103.length co29) : Value).ownBlock ∧ some k_ ≠ ((.slice Ao28 y106.length co28) : Value).ownBlock ∧ some k_ ≠ ((.slice Ao26 y112.length co26) : Value).ownBlock) (.slice Ao27 y109.length co27) y109) ∧ Aside0 (Kd.R (Kd.int .i64) 3 w' w.heap.size (fun k_ => some k_ ≠ (u116000 : Value).ownBlock ∧ some k_ ≠ (u116001 : Value).ownBlock ∧ some k_ ≠ ((.slice Ao29 y103.length co29) : Value).ownBlock ∧ some k_ ≠ ((.slice Ao28 y106.length co28) : Value).ownBlock ∧ some k_ ≠ ((.slice Ao27 y109.length co27) : Value).ownBlock) (.slice Ao26 y112.length co26) y112) ∧ Aside0 (w'.heap[gb102]? = some (.cells #[(.slice none 0 0), (.slice none 0 0), (.slice none 0 0), (.slice none 0 0), (.slice none 0 0), (.slice none 0 0)] 58 (0, 0))) ∧ Aside0 (w'.heap[gb115]? = some (.cells #[u116000, u116001, (.slice Ao29 y103.length co29), (.slice Ao28 y106.length co28), (.slice Ao27 y109.length co27), (.slice Ao26 y112.length co26)] 58 (0, 0))) ∧ Aside0 (Below w.heap.size w w'))
      case atStart => exact ⟨(0), (([] : List Int)), (([] : List Int)), (.slice none 0 0), (.slice none 0 0), (by first | rfl | (simp; done) | (simp [*]; done)), H', ⟨Nat.le_refl _⟩, ⟨by first | exact Kd.R_nil _ _ _ _ _ | exact Kd.N_nil _ _ _ _ _ | exact Kd.V_nil _ _ _ _ _ | exact Kd.Q_nil _ _ _ _ _ | exact Kd.S_nil _ _ _ _ _⟩, ⟨by first | exact Kd.R_nil _ _ _ _ _ | exact Kd.N_nil _ _ _ _ _ | exact Kd.V_nil _ _ _ _ _ | exact Kd.Q_nil _ _ _ _ _ | exact Kd.S_nil _ _ _ _ _⟩, ⟨by (with_reducible repeat (first | apply Kd.R_alloc | apply Kd.R_drewN | apply Kd.R_drew)); exact Kd.R_mono HO105.out (fun _ hk => ⟨(by simp [Value.ownBlock]), ⟨(by simp [Value.ownBlock]), ⟨hk.1, ⟨hk.2.1, hk.2.2⟩⟩⟩⟩)⟩, ⟨by (with_reducible repeat (first | apply Kd.R_alloc | apply Kd.R_drewN | apply Kd.R_drew)); exact Kd.R_mono HO108.out (fun _ hk => ⟨(by simp [Value.ownBlock]), ⟨(by simp [Value.ownBlock]), ⟨hk.1, ⟨hk.2.1, hk.2.2⟩⟩⟩⟩)⟩, ⟨by (with_reducible repeat (first | apply Kd.R_alloc | apply Kd.R_drewN | apply Kd.R_drew)); exact Kd.R_mono HO111.out (fun _ hk => ⟨(by simp [Value.ownBlock]), ⟨(by simp [Value.ownBlock]), ⟨hk.1, ⟨hk.2.1, hk.2.2⟩⟩⟩⟩)⟩, ⟨by (with_reducible repeat (first | apply Kd.R_alloc | apply Kd.R_drewN | apply Kd.R_drew)); exact Kd.R_mono HO114.out (fun _ hk => ⟨(by simp [Value.ownBlock]), ⟨(by simp [Value.ownBlock]), ⟨hk.1, ⟨hk.2.1, hk.2.2⟩⟩⟩⟩)⟩, ⟨by first | (with_reducible exact BK102.out) | ((with_reducible repeat (first | refine blk_drewN ?_ _ | refine blk_drew ?_ | refine blk_alloc ?_ _)); exact BK102.out)⟩, ⟨by first | (with_reducible exact BK115.out) | ((with_reducible repeat (first | refine blk_drewN ?_ _ | refine blk_drew ?_ | refine blk_alloc ?_ _)); exact BK115.out)⟩, ⟨by repeat (first | (with_reducible first | exact HB.out | apply below_alloc | apply pw_below_drewN | apply below_drew1 | refine below_set ?_ GE102.out | refine below_set ?_ GE115.out) | exact HB.out)⟩⟩
      case round =>
        clear H'
        try clear c2
        try clear c2b0
        try clear c2b1
        try clear p2
        try clear c3
        try clear c3b0
        try clear c3b1
        try clear c6
        obtain ⟨x4_1, x116000_1, x116001_1, u116000, u116001, rfl, HA, HK1, HO_116000, HO_116001, HO_116002, HO_116003, HO_116004, HO_116005, BK102, BK115, HB⟩ := hrel
        cases gk with
        | zero => exact absurd HA.out (by simp [spec_l7Start.l0])
        | succ k1 =>
          have H := HA.out
          clear HA
          simp only [spec_l7Start.l0] at H
          by_cases c30 : x4_1 < a0
          · rw [if_pos c30] at H
            have c30b0 : decide (x4_1 < a0) = true := decide_eq_true c30
            clear c30
            by_cases c31 : x116000_1.length < 17592186044416
            · rw [if_pos c31] at H
              have LMc31 := Aside0.mk c31
              clear c31
              obtain ⟨y116, hy116⟩ : ∃ y_ : List Int, y_ = (x116000_1 ++ [(-1)]) := ⟨_, rfl⟩
              replace H : (if x116001_1.length < 17592186044416 then (spec_l7Start.l0 k1 a0 (wrap64 (x4_1 + 1)) y116 (x116001_1 ++ [(-1)]) y103 y106 y109 y112) else (none)) = some (r1, r2, r3, r4, r5, r6) := by first | (rw [hy116]; with_reducible exact H) | (have H2_ := (Option.bind_some _ _).symm.trans H; rw [hy116]; with_reducible exact H2_) | (have H2_ := (Option.bind_some _ _).symm.trans H; with_reducible exact H2_) | with_reducible exact H | (rw [hy116]; exact H) | exact H
              have Ny116 := Aside0.mk hy116
              clear hy116
              by_cases c32 : x116001_1.length < 17592186044416
              · rw [if_pos c32] at H
                have LMc32 := Aside0.mk c32
                clear c32
                obtain ⟨y119, hy119⟩ : ∃ y_ : List Int, y_ = (x116001_1 ++ [(-1)]) := ⟨_, rfl⟩
                replace H : (spec_l7Start.l0 k1 a0 (wrap64 (x4_1 + 1)) y116 y119 y103 y106 y109 y112) = some (r1, r2, r3, r4, r5, r6) := by first | (rw [hy119]; with_reducible exact H) | (have H2_ := (Option.bind_some _ _).symm.trans H; rw [hy119]; with_reducible exact H2_) | (have H2_ := (Option.bind_some _ _).symm.trans H; with_reducible exact H2_) | with_reducible exact H | (rw [hy119]; exact H) | exact H
                have Ny119 := Aside0.mk hy119
                clear hy119
                have H' := Aside0.mk H
                clear H
                have hnb33 := NB115_102.out
                have hnc33 := NB102_115.out
                have hcz34_0 : wr.cell? ⟨gb115, 0, none⟩ = some (u116000) := (blk_cell BK115.out 0).trans rfl
                have hcz34_1 : wr.cell? ⟨gb115, 1, none⟩ = some (u116001) := (blk_cell BK115.out 1).trans rfl
                have hcz34_2 : wr.cell? ⟨gb115, 2, none⟩ = some (.slice Ao29 y103.length co29) := (blk_cell BK115.out 2).trans rfl
                have hcz34_3 : wr.cell? ⟨gb115, 3, none⟩ = some (.slice Ao28 y106.length co28) := (blk_cell BK115.out 3).trans rfl
                have hcz34_4 : wr.cell? ⟨gb115, 4, none⟩ = some (.slice Ao27 y109.length co27) := (blk_cell BK115.out 4).trans rfl
                have hcz34_5 : wr.cell? ⟨gb115, 5, none⟩ = some (.slice Ao26 y112.length co26) := (blk_cell BK115.out 5).trans rfl
                have hfz34_0 := blk_frozen BK115.out 0
                have hfz34_1 := blk_frozen BK115.out 1
                have hfz34_2 := blk_frozen BK115.out 2
                have hfz34_3 := blk_frozen BK115.out 3
                have hfz34_4 := blk_frozen BK115.out 4
                have hfz34_5 := blk_frozen BK115.out 5
                go_wp2_with (first | ((with_reducible refine gate_builtin (b := .append) (xs := #[.tmp 20, .tmp 21]) rfl ?_); at_builtin; refine Kd.R_append (Kd.int .i64) (w0 := w) w.heap.size rfl (.tmp 20) (.tmp 21) 24 3 (.int .i64 0) 8 rfl Try.underlying24 info3 rfl (by decide) (by omega) u116000 x116000_1 (-1) [.int .i64 (-1)] (fun k_ => some k_ ≠ (u116001 : Value).ownBlock ∧ some k_ ≠ (.slice Ao29 y103.length co29 : Value).ownBlock ∧ some k_ ≠ (.slice Ao28 y106.length co28 : Value).ownBlock ∧ some k_ ≠ (.slice Ao27 y109.length co27 : Value).ownBlock ∧ some k_ ≠ (.slice Ao26 y112.length co26 : Value).ownBlock) (fun _ => False) rfl rfl ?aP (fun _ hk => hk.elim) ?aF ?aO ?aB ?aS ?aL ?_; (case aP => exact rfl); (case aB => exact (by repeat (first | (with_reducible first | exact HB.out | apply below_alloc | apply pw_below_drewN | apply below_drew1 | refine below_set ?_ GE102.out | refine below_set ?_ GE115.out) | exact HB.out))); (case aF => exact (fun k_ hk => ⟨Kd.fresh' (Kd.R_lt (by (with_reducible repeat (first | apply Kd.R_alloc | apply Kd.R_drewN | apply Kd.R_drew)); exact HO_116001.out)) k_ hk, Kd.fresh' (Kd.R_lt (by (with_reducible repeat (first | apply Kd.R_alloc | apply Kd.R_drewN | apply Kd.R_drew)); exact HO_116002.out)) k_ hk, Kd.fresh' (Kd.R_lt (by (with_reducible repeat (first | apply Kd.R_alloc | apply Kd.R_drewN | apply Kd.R_drew)); exact HO_116003.out)) k_ hk, Kd.fresh' (Kd.R_lt (by (with_reducible repeat (first | apply Kd.R_alloc | apply Kd.R_drewN | apply Kd.R_drew)); exact HO_116004.out)) k_ hk, Kd.fresh' (Kd.R_lt (by (with_reducible repeat (first | apply Kd.R_alloc | apply Kd.R_drewN | apply Kd.R_drew)); exact HO_116005.out)) k_ hk⟩)); (case aO => exact (by (with_reducible repeat (first | apply Kd.R_alloc | apply Kd.R_drewN | apply Kd.R_drew)); exact HO_116000.out)); (case aS => exact (below_size (by repeat (first | (with_reducible first | exact HB.out | apply below_alloc | apply pw_below_drewN | apply below_drew1 | refine below_set ?_ GE102.out | refine below_set ?_ GE115.out) | exact HB.out)))); (case aL => have := LMc31.out; omega); intro v117 w35 ho hb hg hat; rw [← Ny116.out] at ho; have n0_ := Aside0.mk (Kd.R_after (ok := (fun k_ => some k_ ≠ (.slice Ao29 y103.length co29 : Value).ownBlock ∧ some k_ ≠ (.slice Ao28 y106.length co28 : Value).ownBlock ∧ some k_ ≠ (.slice Ao27 y109.length co27 : Value).ownBlock ∧ some k_ ≠ (.slice Ao26 y112.length co26 : Value).ownBlock)) (by (with_reducible repeat (first | apply Kd.R_alloc | apply Kd.R_drewN | apply Kd.R_drew)); exact Kd.R_mono HO_116001.out (fun _ hk => ⟨⟨hk.2.1, ⟨hk.2.2.1, ⟨hk.2.2.2.1, hk.2.2.2.2⟩⟩⟩, hk.1⟩)) hg hat); have n1_ := Aside0.mk (Kd.R_after (ok := (fun k_ => some k_ ≠ (u116001 : Value).ownBlock ∧ some k_ ≠ (.slice Ao28 y106.length co28 : Value).ownBlock ∧ some k_ ≠ (.slice Ao27 y109.length co27 : Value).ownBlock ∧ some k_ ≠ (.slice Ao26 y112.length co26 : Value).ownBlock)) (by (with_reducible repeat (first | apply Kd.R_alloc | apply Kd.R_drewN | apply Kd.R_drew)); exact Kd.R_mono HO_116002.out (fun _ hk => ⟨⟨hk.2.1, ⟨hk.2.2.1, ⟨hk.2.2.2.1, hk.2.2.2.2⟩⟩⟩, hk.1⟩)) hg hat); have n2_ := Aside0.mk (Kd.R_after (ok := (fun k_ => some k_ ≠ (u116001 : Value).ownBlock ∧ some k_ ≠ (.slice Ao29 y103.length co29 : Value).ownBlock ∧ some k_ ≠ (.slice Ao27 y109.length co27 : Value).ownBlock ∧ some k_ ≠ (.slice Ao26 y112.length co26 : Value).ownBlock)) (by (with_reducible repeat (first | apply Kd.R_alloc | apply Kd.R_drewN | apply Kd.R_drew)); exact Kd.R_mono HO_116003.out (fun _ hk => ⟨⟨hk.2.1, ⟨hk.2.2.1, ⟨hk.2.2.2.1, hk.2.2.2.2⟩⟩⟩, hk.1⟩)) hg hat); have n3_ := Aside0.mk (Kd.R_after (ok := (fun k_ => some k_ ≠ (u116001 : Value).ownBlock ∧ some k_ ≠ (.slice Ao29 y103.length co29 : Value).ownBlock ∧ some k_ ≠ (.slice Ao28 y106.length co28 : Value).ownBlock ∧ some k_ ≠ (.slice Ao26 y112.length co26 : Value).ownBlock)) (by (with_reducible repeat (first | apply Kd.R_alloc | apply Kd.R_drewN | apply Kd.R_drew)); exact Kd.R_mono HO_116004.out (fun _ hk => ⟨⟨hk.2.1, ⟨hk.2.2.1, ⟨hk.2.2.2.1, hk.2.2.2.2⟩⟩⟩, hk.1⟩)) hg hat); have n4_ := Aside0.mk (Kd.R_after (ok := (fun k_ => some k_ ≠ (u116001 : Value).ownBlock ∧ some k_ ≠ (.slice Ao29 y103.length co29 : Value).ownBlock ∧ some k_ ≠ (.slice Ao28 y106.length co28 : Value).ownBlock ∧ some k_ ≠ (.slice Ao27 y109.length co27 : Value).ownBlock)) (by (with_reducible repeat (first | apply Kd.R_alloc | apply Kd.R_drewN | apply Kd.R_drew)); exact Kd.R_mono HO_116005.out (fun _ hk => ⟨⟨hk.2.1, ⟨hk.2.2.1, ⟨hk.2.2.2.1, hk.2.2.2.2⟩⟩⟩, hk.1⟩)) hg hat); have n5_ := Aside0.mk (blk_grown (g := gb102) (o := .cells #[.slice none 0 0, .slice none 0 0, .slice none 0 0, .slice none 0 0, .slice none 0 0, .slice none 0 0] 58 (0, 0)) (by first | (with_reducible exact BK102.out) | ((with_reducible repeat (first | refine blk_drewN ?_ _ | refine blk_drew ?_ | refine blk_alloc ?_ _)); exact BK102.out)) hg (Kd.R_ne HO_116000.out BK102.out (by decide))); have n6_ := Aside0.mk (blk_grown (g := gb115) (o := .cells #[u116000, u116001, .slice Ao29 y103.length co29, .slice Ao28 y106.length co28, .slice Ao27 y109.length co27, .slice Ao26 y112.length co26] 58 (0, 0)) (by first | (with_reducible exact BK115.out) | ((with_reducible repeat (first | refine blk_drewN ?_ _ | refine blk_drew ?_ | refine blk_alloc ?_ _)); exact BK115.out)) hg (Kd.R_ne HO_116000.out BK115.out (by decide))); have n7_ := Aside0.mk (hb); have n8_ := Aside0.mk (ho); clear HO_116001; clear HO_116002; clear HO_116003; clear HO_116004; clear HO_116005; clear BK102; clear BK115; clear HB; clear HO_116000; have HO_116001 := n0_; have HO_116002 := n1_; have HO_116003 := n2_; have HO_116004 := n3_; have HO_116005 := n4_; have BK102 := n5_; have BK115 := n6_; have HB := n7_; have HO118 := n8_; clear n0_ n1_ n2_ n3_ n4_ n5_ n6_ n7_ n8_; clear ho hb hg hat; obtain ⟨Ao36, co36, eo36⟩ := Kd.R_slice HO118.out; subst eo36; have hcz37_0 : w35.cell? ⟨gb115, 0, none⟩ = some (u116000) := (blk_cell BK115.out 0).trans rfl; have hcz37_1 : w35.cell? ⟨gb115, 1, none⟩ = some (u116001) := (blk_cell BK115.out 1).trans rfl; have hcz37_2 : w35.cell? ⟨gb115, 2, none⟩ = some (.slice Ao29 y103.length co29) := (blk_cell BK115.out 2).trans rfl; have hcz37_3 : w35.cell? ⟨gb115, 3, none⟩ = some (.slice Ao28 y106.length co28) := (blk_cell BK115.out 3).trans rfl; have hcz37_4 : w35.cell? ⟨gb115, 4, none⟩ = some (.slice Ao27 y109.length co27) := (blk_cell BK115.out 4).trans rfl; have hcz37_5 : w35.cell? ⟨gb115, 5, none⟩ = some (.slice Ao26 y112.length co26) := (blk_cell BK115.out 5).trans rfl; have hfz37_0 := blk_frozen BK115.out 0; have hfz37_1 := blk_frozen BK115.out 1; have hfz37_2 := blk_frozen BK115.out 2; have hfz37_3 := blk_frozen BK115.out 3; have hfz37_4 := blk_frozen BK115.out 4; have hfz37_5 := blk_frozen BK115.out 5) | ((with_reducible refine gate_builtin (b := .append) (xs := #[.tmp 25, .tmp 26]) rfl ?_); at_builtin; refine Kd.R_append (Kd.int .i64) (w0 := w) w.heap.size rfl (.tmp 25) (.tmp 26) 24 3 (.int .i64 0) 8 rfl Try.underlying24 info3 rfl (by decide) (by omega) u116001 x116001_1 (-1) [.int .i64 (-1)] (fun k_ => some k_ ≠ (.slice Ao29 y103.length co29 : Value).ownBlock ∧ some k_ ≠ (.slice Ao28 y106.length co28 : Value).ownBlock ∧ some k_ ≠ (.slice Ao27 y109.length co27 : Value).ownBlock ∧ some k_ ≠ (.slice Ao26 y112.length co26 : Value).ownBlock ∧ some k_ ≠ (.slice Ao36 y116.length co36 : Value).ownBlock) (fun _ => False) rfl (by first | (go_simp; done) | (go_simp; rfl)) ?aP (fun _ hk => hk.elim) ?aF ?aO ?aB ?aS ?aL ?_; (case aP => exact rfl); (case aB => exact (by repeat (first | (with_reducible first | exact HB.out | apply below_alloc | apply pw_below_drewN | apply below_drew1 | refine below_set ?_ GE102.out | refine below_set ?_ GE115.out) | exact HB.out))); (case aF => exact (fun k_ hk => ⟨Kd.fresh' (Kd.R_lt (by (with_reducible repeat (first | apply Kd.R_alloc | apply Kd.R_drewN | apply Kd.R_drew)); exact (Kd.R_mono (Kd.R_far (p := ⟨gb115, 0, none⟩) (Kd.R_types HO_116002.out BK115.out (by decide)) (fun _ hk => hk.2) (.slice Ao36 y116.length co36)) (fun _ h_ => h_.1)))) k_ hk, Kd.fresh' (Kd.R_lt (by (with_reducible repeat (first | apply Kd.R_alloc | apply Kd.R_drewN | apply Kd.R_drew)); exact (Kd.R_mono (Kd.R_far (p := ⟨gb115, 0, none⟩) (Kd.R_types HO_116003.out BK115.out (by decide)) (fun _ hk => hk.2) (.slice Ao36 y116.length co36)) (fun _ h_ => h_.1)))) k_ hk, Kd.fresh' (Kd.R_lt (by (with_reducible repeat (first | apply Kd.R_alloc | apply Kd.R_drewN | apply Kd.R_drew)); exact (Kd.R_mono (Kd.R_far (p := ⟨gb115, 0, none⟩) (Kd.R_types HO_116004.out BK115.out (by decide)) (fun _ hk => hk.2) (.slice Ao36 y116.length co36)) (fun _ h_ => h_.1)))) k_ hk, Kd.fresh' (Kd.R_lt (by (with_reducible repeat (first | apply Kd.R_alloc | apply Kd.R_drewN | apply Kd.R_drew)); exact (Kd.R_mono (Kd.R_far (p := ⟨gb115, 0, none⟩) (Kd.R_types HO_116005.out BK115.out (by decide)) (fun _ hk => hk.2) (.slice Ao36 y116.length co36)) (fun _ h_ => h_.1)))) k_ hk, Kd.fresh' (Kd.R_lt (by (with_reducible repeat (first | apply Kd.R_alloc | apply Kd.R_drewN | apply Kd.R_drew)); exact (Kd.R_mono (Kd.R_far (p := ⟨gb115, 0, none⟩) (Kd.R_types HO118.out BK115.out (by decide)) (fun _ hk => hk.2) (.slice Ao36 y116.length co36)) (fun _ h_ => h_.1)))) k_ hk⟩)); (case aO => exact (by (with_reducible repeat (first | apply Kd.R_alloc | apply Kd.R_drewN | apply Kd.R_drew)); exact Kd.R_mono (Kd.R_far (p := ⟨gb115, 0, none⟩) (Kd.R_types HO_116001.out BK115.out (by decide)) (fun _ hk => hk.2) (.slice Ao36 y116.length co36)) (fun _ hk => ⟨hk.1.1.1, ⟨hk.1.1.2.1, ⟨hk.1.1.2.2.1, ⟨hk.1.1.2.2.2, hk.1.2⟩⟩⟩⟩))); (case aS => exact (below_size (by repeat (first | (with_reducible first | exact HB.out | apply below_alloc | apply pw_below_drewN | apply below_drew1 | refine below_set ?_ GE102.out | refine below_set ?_ GE115.out) | exact HB.out)))); (case aL => have := LMc32.out; omega); intro v120 w38 ho hb hg hat; rw [← Ny119.out] at ho; have n0_ := Aside0.mk (Kd.R_after (ok := (fun k_ => some k_ ≠ (.slice Ao28 y106.length co28 : Value).ownBlock ∧ some k_ ≠ (.slice Ao27 y109.length co27 : Value).ownBlock ∧ some k_ ≠ (.slice Ao26 y112.length co26 : Value).ownBlock ∧ some k_ ≠ (.slice Ao36 y116.length co36 : Value).ownBlock)) (by (with_reducible repeat (first | apply Kd.R_alloc | apply Kd.R_drewN | apply Kd.R_drew)); exact Kd.R_mono (Kd.R_far (p := ⟨gb115, 0, none⟩) (Kd.R_types HO_116002.out BK115.out (by decide)) (fun _ hk => hk.2) (.slice Ao36 y116.length co36)) (fun _ hk => ⟨⟨hk.1.1.2.1, ⟨hk.1.1.2.2.1, ⟨hk.1.1.2.2.2, hk.1.2⟩⟩⟩, hk.1.1.1⟩)) hg hat); have n1_ := Aside0.mk (Kd.R_after (ok := (fun k_ => some k_ ≠ (.slice Ao29 y103.length co29 : Value).ownBlock ∧ some k_ ≠ (.slice Ao27 y109.length co27 : Value).ownBlock ∧ some k_ ≠ (.slice Ao26 y112.length co26 : Value).ownBlock ∧ some k_ ≠ (.slice Ao36 y116.length co36 : Value).ownBlock)) (by (with_reducible repeat (first | apply Kd.R_alloc | apply Kd.R_drewN | apply Kd.R_drew)); exact Kd.R_mono (Kd.R_far (p := ⟨gb115, 0, none⟩) (Kd.R_types HO_116003.out BK115.out (by decide)) (fun _ hk => hk.2) (.slice Ao36 y116.length co36)) (fun _ hk => ⟨⟨hk.1.1.2.1, ⟨hk.1.1.2.2.1, ⟨hk.1.1.2.2.2, hk.1.2⟩⟩⟩, hk.1.1.1⟩)) hg hat); have n2_ := Aside0.mk (Kd.R_after (ok := (fun k_ => some k_ ≠ (.slice Ao29 y103.length co29 : Value).ownBlock ∧ some k_ ≠ (.slice Ao28 y106.length co28 : Value).ownBlock ∧ some k_ ≠ (.slice Ao26 y112.length co26 : Value).ownBlock ∧ some k_ ≠ (.slice Ao36 y116.length co36 : Value).ownBlock)) (by (with_reducible repeat (first | apply Kd.R_alloc | apply Kd.R_drewN | apply Kd.R_drew)); exact Kd.R_mono (Kd.R_far (p := ⟨gb115, 0, none⟩) (Kd.R_types HO_116004.out BK115.out (by decide)) (fun _ hk => hk.2) (.slice Ao36 y116.length co36)) (fun _ hk => ⟨⟨hk.1.1.2.1, ⟨hk.1.1.2.2.1, ⟨hk.1.1.2.2.2, hk.1.2⟩⟩⟩, hk.1.1.1⟩)) hg hat); have n3_ := Aside0.mk (Kd.R_after (ok := (fun k_ => some k_ ≠ (.slice Ao29 y103.length co29 : Value).ownBlock ∧ some k_ ≠ (.slice Ao28 y106.length co28 : Value).ownBlock ∧ some k_ ≠ (.slice Ao27 y109.length co27 : Value).ownBlock ∧ some k_ ≠ (.slice Ao36 y116.length co36 : Value).ownBlock)) (by (with_reducible repeat (first | apply Kd.R_alloc | apply Kd.R_drewN | apply Kd.R_drew)); exact Kd.R_mono (Kd.R_far (p := ⟨gb115, 0, none⟩) (Kd.R_types HO_116005.out BK115.out (by decide)) (fun _ hk => hk.2) (.slice Ao36 y116.length co36)) (fun _ hk => ⟨⟨hk.1.1.2.1, ⟨hk.1.1.2.2.1, ⟨hk.1.1.2.2.2, hk.1.2⟩⟩⟩, hk.1.1.1⟩)) hg hat); have n4_ := Aside0.mk (blk_grown (g := gb102) (o := .cells #[.slice none 0 0, .slice none 0 0, .slice none 0 0, .slice none 0 0, .slice none 0 0, .slice none 0 0] 58 (0, 0)) (by (with_reducible repeat (first | refine blk_drewN ?_ _ | refine blk_drew ?_ | refine blk_alloc ?_ _)); refine blk_far ?_ NB102_115.out _; (with_reducible repeat (first | refine blk_drewN ?_ _ | refine blk_drew ?_ | refine blk_alloc ?_ _)); exact BK102.out) hg (Kd.R_ne HO_116001.out BK102.out (by decide))); have n5_ := Aside0.mk (blk_grown (g := gb115) (o := .cells #[.slice Ao36 y116.length co36, u116001, .slice Ao29 y103.length co29, .slice Ao28 y106.length co28, .slice Ao27 y109.length co27, .slice Ao26 y112.length co26] 58 (0, 0)) (by (with_reducible repeat (first | refine blk_drewN ?_ _ | refine blk_drew ?_ | refine blk_alloc ?_ _)); refine blk_put (cs := #[u116000, u116001, .slice Ao29 y103.length co29, .slice Ao28 y106.length co28, .slice Ao27 y109.length co27, .slice Ao26 y112.length co26]) ?_ 0 _ rfl; (with_reducible repeat (first | refine blk_drewN ?_ _ | refine blk_drew ?_ | refine blk_alloc ?_ _)); exact BK115.out) hg (Kd.R_ne HO_116001.out BK115.out (by decide))); have n6_ := Aside0.mk (Kd.R_after (ok := (fun k_ => some k_ ≠ (.slice Ao29 y103.length co29 : Value).ownBlock ∧ some k_ ≠ (.slice Ao28 y106.length co28 : Value).ownBlock ∧ some k_ ≠ (.slice Ao27 y109.length co27 : Value).ownBlock ∧ some k_ ≠ (.slice Ao26 y112.length co26 : Value).ownBlock)) (by (with_reducible repeat (first | apply Kd.R_alloc | apply Kd.R_drewN | apply Kd.R_drew)); exact Kd.R_mono (Kd.R_far (p := ⟨gb115, 0, none⟩) (Kd.R_types HO118.out BK115.out (by decide)) (fun _ hk => hk.2) (.slice Ao36 y116.length co36)) (fun _ hk => ⟨⟨hk.1.2.1, ⟨hk.1.2.2.1, ⟨hk.1.2.2.2.1, hk.1.2.2.2.2⟩⟩⟩, hk.1.1⟩)) hg hat); have n7_ := Aside0.mk (hb); have n8_ := Aside0.mk (ho); clear HO_116002; clear HO_116003; clear HO_116004; clear HO_116005; clear BK102; clear BK115; clear HO118; clear HB; clear HO_116001; have HO_116002 := n0_; have HO_116003 := n1_; have HO_116004 := n2_; have HO_116005 := n3_; have BK102 := n4_; have BK115 := n5_; have HO118 := n6_; have HB := n7_; have HO121 := n8_; clear n0_ n1_ n2_ n3_ n4_ n5_ n6_ n7_ n8_; clear ho hb hg hat; obtain ⟨Ao39, co39, eo39⟩ := Kd.R_slice HO121.out; subst eo39; have hcz40_0 : w38.cell? ⟨gb115, 0, none⟩ = some (.slice Ao36 y116.length co36) := (blk_cell BK115.out 0).trans rfl; have hcz40_1 : w38.cell? ⟨gb115, 1, none⟩ = some (u116001) := (blk_cell BK115.out 1).trans rfl; have hcz40_2 : w38.cell? ⟨gb115, 2, none⟩ = some (.slice Ao29 y103.length co29) := (blk_cell BK115.out 2).trans rfl; have hcz40_3 : w38.cell? ⟨gb115, 3, none⟩ = some (.slice Ao28 y106.length co28) := (blk_cell BK115.out 3).trans rfl; have hcz40_4 : w38.cell? ⟨gb115, 4, none⟩ = some (.slice Ao27 y109.length co27) := (blk_cell BK115.out 4).trans rfl; have hcz40_5 : w38.cell? ⟨gb115, 5, none⟩ = some (.slice Ao26 y112.length co26) := (blk_cell BK115.out 5).trans rfl; have hfz40_0 := blk_frozen BK115.out 0; have hfz40_1 := blk_frozen BK115.out 1; have hfz40_2 := blk_frozen BK115.out 2; have hfz40_3 := blk_frozen BK115.out 3; have hfz40_4 := blk_frozen BK115.out 4; have hfz40_5 := blk_frozen BK115.out 5))
                go_roundg k1
                case measure => have := HK1.out; omega
                case rel => exact ⟨(wrap64 (x4_1 + 1)), (y116), (y119), (.slice Ao36 y116.length co36), (.slice Ao39 y119.length co39), (by first | rfl | (simp; done) | (simp [*]; done)), H', ⟨by have := HK1.out; omega⟩, ⟨by (with_reducible repeat (first | apply Kd.R_alloc | apply Kd.R_drewN | apply Kd.R_drew)); exact Kd.R_mono (Kd.R_far (p := ⟨gb115, 1, none⟩) (Kd.R_types HO118.out BK115.out (by decide)) (fun _ hk => hk.2) (.slice Ao39 y119.length co39)) (fun _ hk => ⟨hk.1.2, ⟨hk.1.1.1, ⟨hk.1.1.2.1, ⟨hk.1.1.2.2.1, hk.1.1.2.2.2⟩⟩⟩⟩)⟩, ⟨by (with_reducible repeat (first | apply Kd.R_alloc | apply Kd.R_drewN | apply Kd.R_drew)); exact Kd.R_mono (Kd.R_far (p := ⟨gb115, 1, none⟩) (Kd.R_types HO121.out BK115.out (by decide)) (fun _ hk => hk.2) (.slice Ao39 y119.length co39)) (fun _ hk => ⟨hk.1.2.2.2.2, ⟨hk.1.1, ⟨hk.1.2.1, ⟨hk.1.2.2.1, hk.1.2.2.2.1⟩⟩⟩⟩)⟩, ⟨by (with_reducible repeat (first | apply Kd.R_alloc | apply Kd.R_drewN | apply Kd.R_drew)); exact Kd.R_mono (Kd.R_far (p := ⟨gb115, 1, none⟩) (Kd.R_types HO_116002.out BK115.out (by decide)) (fun _ hk => hk.2) (.slice Ao39 y119.length co39)) (fun _ hk => ⟨hk.1.1.2.2.2, ⟨hk.1.2, ⟨hk.1.1.1, ⟨hk.1.1.2.1, hk.1.1.2.2.1⟩⟩⟩⟩)⟩, ⟨by (with_reducible repeat (first | apply Kd.R_alloc | apply Kd.R_drewN | apply Kd.R_drew)); exact Kd.R_mono (Kd.R_far (p := ⟨gb115, 1, none⟩) (Kd.R_types HO_116003.out BK115.out (by decide)) (fun _ hk => hk.2) (.slice Ao39 y119.length co39)) (fun _ hk => ⟨hk.1.1.2.2.2, ⟨hk.1.2, ⟨hk.1.1.1, ⟨hk.1.1.2.1, hk.1.1.2.2.1⟩⟩⟩⟩)⟩, ⟨by (with_reducible repeat (first | apply Kd.R_alloc | apply Kd.R_drewN | apply Kd.R_drew)); exact Kd.R_mono (Kd.R_far (p := ⟨gb115, 1, none⟩) (Kd.R_types HO_116004.out BK115.out (by decide)) (fun _ hk => hk.2) (.slice Ao39 y119.length co39)) (fun _ hk => ⟨hk.1.1.2.2.2, ⟨hk.1.2, ⟨hk.1.1.1, ⟨hk.1.1.2.1, hk.1.1.2.2.1⟩⟩⟩⟩)⟩, ⟨by (with_reducible repeat (first | apply Kd.R_alloc | apply Kd.R_drewN | apply Kd.R_drew)); exact Kd.R_mono (Kd.R_far (p := ⟨gb115, 1, none⟩) (Kd.R_types HO_116005.out BK115.out (by decide)) (fun _ hk => hk.2) (.slice Ao39 y119.length co39)) (fun _ hk => ⟨hk.1.1.2.2.2, ⟨hk.1.2, ⟨hk.1.1.1, ⟨hk.1.1.2.1, hk.1.1.2.2.1⟩⟩⟩⟩)⟩, ⟨by (with_reducible repeat (first | refine blk_drewN ?_ _ | refine blk_drew ?_ | refine blk_alloc ?_ _)); refine blk_far ?_ NB102_115.out _; (with_reducible repeat (first | refine blk_drewN ?_ _ | refine blk_drew ?_ | refine blk_alloc ?_ _)); exact BK102.out⟩, ⟨by (with_reducible repeat (first | refine blk_drewN ?_ _ | refine blk_drew ?_ | refine blk_alloc ?_ _)); refine blk_put (cs := #[.slice Ao36 y116.length co36, u116001, .slice Ao29 y103.length co29, .slice Ao28 y106.length co28, .slice Ao27 y109.length co27, .slice Ao26 y112.length co26]) ?_ 1 _ rfl; (with_reducible repeat (first | refine blk_drewN ?_ _ | refine blk_drew ?_ | refine blk_alloc ?_ _)); exact BK115.out⟩, ⟨by repeat (first | (with_reducible first | exact HB.out | apply below_alloc | apply pw_below_drewN | apply below_drew1 | refine below_set ?_ GE102.out | refine below_set ?_ GE115.out) | exact HB.out)⟩⟩
              · rw [if_neg c32] at H
                exact absurd H (by simp)
            · rw [if_neg c31] at H
              exact absurd H (by simp)
          · rw [if_neg c30] at H
            have c30b0 : decide (x4_1 < a0) = false := decide_eq_false c30
            clear c30
            simp only [Option.some.injEq, Prod.mk.injEq] at H
            obtain ⟨rfl, rfl, rfl, rfl, rfl, rfl⟩ := H
            have hnb41 := NB115_102.out
            have hnc41 := NB102_115.out
            have hcz42_0 : wr.cell? ⟨gb115, 0, none⟩ = some (u116000) := (blk_cell BK115.out 0).trans rfl
            have hcz42_1 : wr.cell? ⟨gb115, 1, none⟩ = some (u116001) := (blk_cell BK115.out 1).trans rfl
            have hcz42_2 : wr.cell? ⟨gb115, 2, none⟩ = some (.slice Ao29 y103.length co29) := (blk_cell BK115.out 2).trans rfl
            have hcz42_3 : wr.cell? ⟨gb115, 3, none⟩ = some (.slice Ao28 y106.length co28) := (blk_cell BK115.out 3).trans rfl
            have hcz42_4 : wr.cell? ⟨gb115, 4, none⟩ = some (.slice Ao27 y109.length co27) := (blk_cell BK115.out 4).trans rfl
            have hcz42_5 : wr.cell? ⟨gb115, 5, none⟩ = some (.slice Ao26 y112.length co26) := (blk_cell BK115.out 5).trans rfl
            have hfz42_0 := blk_frozen BK115.out 0
            have hfz42_1 := blk_frozen BK115.out 1
            have hfz42_2 := blk_frozen BK115.out 2
            have hfz42_3 := blk_frozen BK115.out 3
            have hfz42_4 := blk_frozen BK115.out 4
            have hfz42_5 := blk_frozen BK115.out 5
            obtain ⟨Ao43, co43, eo43⟩ := Kd.R_slice HO_116000.out
            subst eo43
            have hcz44_0 : wr.cell? ⟨gb102, 0, none⟩ = some (.slice none 0 0) := (blk_cell BK102.out 0).trans rfl
            have hcz44_1 : wr.cell? ⟨gb102, 1, none⟩ = some (.slice none 0 0) := (blk_cell BK102.out 1).trans rfl
            have hcz44_2 : wr.cell? ⟨gb102, 2, none⟩ = some (.slice none 0 0) := (blk_cell BK102.out 2).trans rfl
            have hcz44_3 : wr.cell? ⟨gb102, 3, none⟩ = some (.slice none 0 0) := (blk_cell BK102.out 3).trans rfl
            have hcz44_4 : wr.cell? ⟨gb102, 4, none⟩ = some (.slice none 0 0) := (blk_cell BK102.out 4).trans rfl
            have hcz44_5 : wr.cell? ⟨gb102, 5, none⟩ = some (.slice none 0 0) := (blk_cell BK102.out 5).trans rfl
            have hfz44_0 := blk_frozen BK102.out 0
            have hfz44_1 := blk_frozen BK102.out 1
            have hfz44_2 := blk_frozen BK102.out 2
            have hfz44_3 := blk_frozen BK102.out 3
            have hfz44_4 := blk_frozen BK102.out 4
            have hfz44_5 := blk_frozen BK102.out 5
            obtain ⟨Ao45, co45, eo45⟩ := Kd.R_slice HO_116001.out
            subst eo45
            go_wp2
            refine bodyPost_ret (results_cell_row rfl _ _ gb102 58 #[.slice Ao43 x116000_1.length co43, .slice Ao45 x116001_1.length co45, .slice Ao29 y103.length co29, .slice Ao28 y106.length co28, .slice Ao27 y109.length co27, .slice Ao26 y112.length co26] (0, 0) _ rfl (by (with_reducible repeat (first | refine blk_drewN ?_ _ | refine blk_drew ?_ | refine blk_alloc ?_ _)); refine blk_put (cs := #[.slice Ao43 x116000_1.length co43, .slice Ao45 x116001_1.length co45, .slice Ao29 y103.length co29, .slice Ao28 y106.length co28, .slice Ao27 y109.length co27, .slice none 0 0]) ?_ 5 _ rfl; (with_reducible repeat (first | refine blk_drewN ?_ _ | refine blk_drew ?_ | refine blk_alloc ?_ _)); refine blk_put (cs := #[.slice Ao43 x116000_1.length co43, .slice Ao45 x116001_1.length co45, .slice Ao29 y103.length co29, .slice Ao28 y106.length co28, .slice none 0 0, .slice none 0 0]) ?_ 4 _ rfl; (with_reducible repeat (first | refine blk_drewN ?_ _ | refine blk_drew ?_ | refine blk_alloc ?_ _)); refine blk_put (cs := #[.slice Ao43 x116000_1.length co43, .slice Ao45 x116001_1.length co45, .slice Ao29 y103.length co29, .slice none 0 0, .slice none 0 0, .slice none 0 0]) ?_ 3 _ rfl; (with_reducible repeat (first | refine blk_drewN ?_ _ | refine blk_drew ?_ | refine blk_alloc ?_ _)); refine blk_put (cs := #[.slice Ao43 x116000_1.length co43, .slice Ao45 x116001_1.length co45, .slice none 0 0, .slice none 0 0, .slice none 0 0, .slice none 0 0]) ?_ 2 _ rfl; (with_reducible repeat (first | refine blk_drewN ?_ _ | refine blk_drew ?_ | refine blk_alloc ?_ _)); refine blk_put (cs := #[.slice Ao43 x116000_1.length co43, .slice none 0 0, .slice none 0 0, .slice none 0 0, .slice none 0 0, .slice none 0 0]) ?_ 1 _ rfl; (with_reducible repeat (first | refine blk_drewN ?_ _ | refine blk_drew ?_ | refine blk_alloc ?_ _)); refine blk_put (cs := #[.slice none 0 0, .slice none 0 0, .slice none 0 0, .slice none 0 0, .slice none 0 0, .slice none 0 0]) ?_ 0 _ rfl; (with_reducible repeat (first | refine blk_drewN ?_ _ | refine blk_drew ?_ | refine blk_alloc ?_ _)); exact BK102.out) Try.underlying58 rfl (by kernel_rfl)) rfl ?_
            exact ⟨_, _, _, _, _, _, by first | rfl | (simp [errW_none, errW_some] <;> rfl) | (simp [*, errW_none, errW_some] <;> rfl), by (with_reducible repeat (first | apply Kd.R_alloc | apply Kd.R_drewN | apply Kd.R_drew)); exact Kd.R_mono (Kd.R_far (p := ⟨gb102, 5, none⟩) (Kd.R_far (p := ⟨gb102, 4, none⟩) (Kd.R_far (p := ⟨gb102, 3, none⟩) (Kd.R_far (p := ⟨gb102, 2, none⟩) (Kd.R_far (p := ⟨gb102, 1, none⟩) (Kd.R_far (p := ⟨gb102, 0, none⟩) (Kd.R_types HO_116000.out BK102.out (by decide)) (fun _ hk => hk.2) (.slice Ao43 x116000_1.length co43)) (fun _ hk => hk.2) (.slice Ao45 x116001_1.length co45)) (fun _ hk => hk.2) (.slice Ao29 y103.length co29)) (fun _ hk => hk.2) (.slice Ao28 y106.length co28)) (fun _ hk => hk.2) (.slice Ao27 y109.length co27)) (fun _ hk => hk.2) (.slice Ao26 y112.length co26)) (fun _ hk => ⟨hk.1.1, ⟨hk.1.2.1, ⟨hk.1.2.2.1, ⟨hk.1.2.2.2.1, hk.1.2.2.2.2⟩⟩⟩⟩), by (with_reducible repeat (first | apply Kd.R_alloc | apply Kd.R_drewN | apply Kd.R_drew)); exact Kd.R_mono (Kd.R_far (p := ⟨gb102, 5, none⟩) (Kd.R_far (p := ⟨gb102, 4, none⟩) (Kd.R_far (p := ⟨gb102, 3, none⟩) (Kd.R_far (p := ⟨gb102, 2, none⟩) (Kd.R_far (p := ⟨gb102, 1, none⟩) (Kd.R_far (p := ⟨gb102, 0, none⟩) (Kd.R_types HO_116001.out BK102.out (by decide)) (fun _ hk => hk.2) (.slice Ao43 x116000_1.length co43)) (fun _ hk => hk.2) (.slice Ao45 x116001_1.length co45)) (fun _ hk => hk.2) (.slice Ao29 y103.length co29)) (fun _ hk => hk.2) (.slice Ao28 y106.length co28)) (fun _ hk => hk.2) (.slice Ao27 y109.length co27)) (fun _ hk => hk.2) (.slice Ao26 y112.length co26)) (fun _ hk => ⟨hk.1.1, ⟨hk.1.2.1, ⟨hk.1.2.2.1, ⟨hk.1.2.2.2.1, hk.1.2.2.2.2⟩⟩⟩⟩), by (with_reducible repeat (first | apply Kd.R_alloc | apply Kd.R_drewN | apply Kd.R_drew)); exact Kd.R_mono (Kd.R_far (p := ⟨gb102, 5, none⟩) (Kd.R_far (p := ⟨gb102, 4, none⟩) (Kd.R_far (p := ⟨gb102, 3, none⟩) (Kd.R_far (p := ⟨gb102, 2, none⟩) (Kd.R_far (p := ⟨gb102, 1, none⟩) (Kd.R_far (p := ⟨gb102, 0, none⟩) (Kd.R_types HO_116002.out BK102.out (by decide)) (fun _ hk => hk.2) (.slice Ao43 x116000_1.length co43)) (fun _ hk => hk.2) (.slice Ao45 x116001_1.length co45)) (fun _ hk => hk.2) (.slice Ao29 y103.length co29)) (fun _ hk => hk.2) (.slice Ao28 y106.length co28)) (fun _ hk => hk.2) (.slice Ao27 y109.length co27)) (fun _ hk => hk.2) (.slice Ao26 y112.length co26)) (fun _ hk => ⟨hk.1.1, ⟨hk.1.2.1, ⟨hk.1.2.2.1, ⟨hk.1.2.2.2.1, hk.1.2.2.2.2⟩⟩⟩⟩), by (with_reducible repeat (first | apply Kd.R_alloc | apply Kd.R_drewN | apply Kd.R_drew)); exact Kd.R_mono (Kd.R_far (p := ⟨gb102, 5, none⟩) (Kd.R_far (p := ⟨gb102, 4, none⟩) (Kd.R_far (p := ⟨gb102, 3, none⟩) (Kd.R_far (p := ⟨gb102, 2, none⟩) (Kd.R_far (p := ⟨gb102, 1, none⟩) (Kd.R_far (p := ⟨gb102, 0, none⟩) (Kd.R_types HO_116003.out BK102.out (by decide)) (fun _ hk => hk.2) (.slice Ao43 x116000_1.length co43)) (fun _ hk => hk.2) (.slice Ao45 x116001_1.length co45)) (fun _ hk => hk.2) (.slice Ao29 y103.length co29)) (fun _ hk => hk.2) (.slice Ao28 y106.length co28)) (fun _ hk => hk.2) (.slice Ao27 y109.length co27)) (fun _ hk => hk.2) (.slice Ao26 y112.length co26)) (fun _ hk => ⟨hk.1.1, ⟨hk.1.2.1, ⟨hk.1.2.2.1, ⟨hk.1.2.2.2.1, hk.1.2.2.2.2⟩⟩⟩⟩), by (with_reducible repeat (first | apply Kd.R_alloc | apply Kd.R_drewN | apply Kd.R_drew)); exact Kd.R_mono (Kd.R_far (p := ⟨gb102, 5, none⟩) (Kd.R_far (p := ⟨gb102, 4, none⟩) (Kd.R_far (p := ⟨gb102, 3, none⟩) (Kd.R_far (p := ⟨gb102, 2, none⟩) (Kd.R_far (p := ⟨gb102, 1, none⟩) (Kd.R_far (p := ⟨gb102, 0, none⟩) (Kd.R_types HO_116004.out BK102.out (by decide)) (fun _ hk => hk.2) (.slice Ao43 x116000_1.length co43)) (fun _ hk => hk.2) (.slice Ao45 x116001_1.length co45)) (fun _ hk => hk.2) (.slice Ao29 y103.length co29)) (fun _ hk => hk.2) (.slice Ao28 y106.length co28)) (fun _ hk => hk.2) (.slice Ao27 y109.length co27)) (fun _ hk => hk.2) (.slice Ao26 y112.length co26)) (fun _ hk => ⟨hk.1.1, ⟨hk.1.2.1, ⟨hk.1.2.2.1, ⟨hk.1.2.2.2.1, hk.1.2.2.2.2⟩⟩⟩⟩), by (with_reducible repeat (first | apply Kd.R_alloc | apply Kd.R_drewN | apply Kd.R_drew)); exact Kd.R_mono (Kd.R_far (p := ⟨gb102, 5, none⟩) (Kd.R_far (p := ⟨gb102, 4, none⟩) (Kd.R_far (p := ⟨gb102, 3, none⟩) (Kd.R_far (p := ⟨gb102, 2, none⟩) (Kd.R_far (p := ⟨gb102, 1, none⟩) (Kd.R_far (p := ⟨gb102, 0, none⟩) (Kd.R_types HO_116005.out BK102.out (by decide)) (fun _ hk => hk.2) (.slice Ao43 x116000_1.length co43)) (fun _ hk => hk.2) (.slice Ao45 x116001_1.length co45)) (fun _ hk => hk.2) (.slice Ao29 y103.length co29)) (fun _ hk => hk.2) (.slice Ao28 y106.length co28)) (fun _ hk => hk.2) (.slice Ao27 y109.length co27)) (fun _ hk => hk.2) (.slice Ao26 y112.length co26)) (fun _ hk => ⟨hk.1.1, ⟨hk.1.2.1, ⟨hk.1.2.2.1, ⟨hk.1.2.2.2.1, hk.1.2.2.2.2⟩⟩⟩⟩), by repeat (first | (with_reducible first | exact HB.out | apply below_alloc | apply pw_below_drewN | apply below_drew1 | refine below_set ?_ GE102.out | refine below_set ?_ GE115.out) | exact HB.out)⟩
    · rw [if_neg c3] at H
      exact absurd H (by simp)
  · rw [if_neg c2] at H
    exact absurd H (by simp)

end Go.Proofs.Ythaaakijekkkaaa.PFnExactMeanTime
