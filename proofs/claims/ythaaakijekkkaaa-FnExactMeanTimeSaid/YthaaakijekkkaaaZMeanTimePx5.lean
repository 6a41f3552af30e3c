/- Proved: each Go function named here, called, comes to the answer of the Lean function beside it. Conditions: those that stand in each theorem. (Printed by this session's own turned copy of a printing program.) -/
import Derived.Test.YthaaakijekkkaaaZMeanTimePx0
import Derived.Test.YthaaakijekkkaaaZMeanTimePx4
namespace Go.Proofs.Ythaaakijekkkaaa.PFnExactMeanTime
open Go.RowKit Go.Proofs.YthaaakijekkkaaaW.PrintWords Go.Proofs.YthaaakijekkkaaaW.PrintLast Go.Proofs.YthaaakijekkkaaaW.PrintMore
attribute [local go_sem] max2_int min2_int max_two min_two max_three min_three max_four min_four   -- for this text's walks alone
set_option linter.unusedVariables false
set_option linter.unusedSimpArgs false

attribute [local go_sem high] eqArr40
/-! ### impl_board: function 48 -/
mutual
def impl_board.l0 : Nat → Int → Int → List Int → List Int → List Int → List Int → Int → Int → List Int → List Int → List Int → List (List Int) → Option (List Int × List Int × List Int × (List (List Int)))
 | 0, _, _, _, _, _, _, _, _, _, _, _, _ => none
 | k + 1, x0, x1, x2, x8, x9, x10, x11, x12, x245000, x245001, x245002, x245003 => if x11 > 0 then (impl_board.l1 k x0 x1 x2 x8 x9 x10 x11 x12 x2 (x2.length : Int) 0 x245000 x245001 x245002 x245003) else (some (x245000, x245001, x245002, x245003))
def impl_board.l1 : Nat → Int → Int → List Int → List Int → List Int → List Int → Int → Int → List Int → Int → Int → List Int → List Int → List Int → List (List Int) → Option (List Int × List Int × List Int × (List (List Int)))
 | 0, _, _, _, _, _, _, _, _, _, _, _, _, _, _, _ => none
 | k + 1, x0, x1, x2, x8, x9, x10, x11, x12, x43, x44, x45, x245000, x245001, x245002, x245003 => if x45 < x44 then (if 0 ≤ x45 then (if x45 < (x43.length : Int) then (if 0 ≤ (rd x43 x45) then (if (rd x43 x45) < (x8.length : Int) then (if (rd x8 (rd x43 x45)) = x0 then (impl_board.l1 k x0 x1 x2 x8 x9 x10 x11 x12 x43 x44 (wrap64 (x45 + 1)) x245000 x245001 x245002 x245003) else (if (rd x8 (rd x43 x45)) = (rd x43 x45) then (if (rd x43 x45) < (x9.length : Int) then ((some (x9.set ((rd x43 x45) : Int).toNat (wrap64 ((rd x9 (rd x43 x45)) + 1)) : List Int)).bind fun y275 => (if (rd y275 (rd x43 x45)) = x1 then (if 0 ≤ (rd x8 (rd x43 x45)) then (if (rd x8 (rd x43 x45)) < (x10.length : Int) then (if (rd x43 x45) < (x245000.length : Int) then (impl_board.l1 k x0 x1 x2 (x8.set ((rd x43 x45) : Int).toNat x0) y275 (x10.set ((rd x8 (rd x43 x45)) : Int).toNat (-1)) (wrap64 (x11 - 1)) x12 x43 x44 (wrap64 (x45 + 1)) (x245000.set ((rd x43 x45) : Int).toNat x12) x245001 x245002 x245003) else (none)) else (none)) else (none)) else (impl_board.l1 k x0 x1 x2 x8 y275 x10 x11 x12 x43 x44 (wrap64 (x45 + 1)) x245000 x245001 x245002 x245003))) else (none)) else (if 0 ≤ (wrap64 ((rd x8 (rd x43 x45)) + 1)) then (if (wrap64 ((rd x8 (rd x43 x45)) + 1)) < (x10.length : Int) then (if (rd x10 (wrap64 ((rd x8 (rd x43 x45)) + 1))) < 0 then (if (rd x8 (rd x43 x45)) < 0 then (if (rd x43 x45) < (x245001.length : Int) then (impl_board.l1 k x0 x1 x2 (x8.set ((rd x43 x45) : Int).toNat (wrap64 ((rd x8 (rd x43 x45)) + 1))) x9 (x10.set ((wrap64 ((rd x8 (rd x43 x45)) + 1)) : Int).toNat (rd x43 x45)) x11 x12 x43 x44 (wrap64 (x45 + 1)) x245000 (x245001.set ((rd x43 x45) : Int).toNat x12) x245002 x245003) else (none)) else (if 0 ≤ (rd x8 (rd x43 x45)) then (if (rd x8 (rd x43 x45)) < (x10.length : Int) then (impl_board.l1 k x0 x1 x2 (x8.set ((rd x43 x45) : Int).toNat (wrap64 ((rd x8 (rd x43 x45)) + 1))) x9 ((x10.set ((rd x8 (rd x43 x45)) : Int).toNat (-1)).set ((wrap64 ((rd x8 (rd x43 x45)) + 1)) : Int).toNat (rd x43 x45)) x11 x12 x43 x44 (wrap64 (x45 + 1)) x245000 x245001 x245002 x245003) else (none)) else (none))) else (if (rd x8 (rd x43 x45)) ≥ 0 then (if (rd x43 x45) < (x245002.length : Int) then (impl_board.l1 k x0 x1 x2 x8 x9 x10 x11 x12 x43 x44 (wrap64 (x45 + 1)) x245000 x245001 (x245002.set ((rd x43 x45) : Int).toNat (wrap64 ((rd x245002 (rd x43 x45)) + 1))) x245003) else (none)) else (impl_board.l1 k x0 x1 x2 x8 x9 x10 x11 x12 x43 x44 (wrap64 (x45 + 1)) x245000 x245001 x245002 x245003))) else (none)) else (none)))) else (none)) else (none)) else (none)) else (none)) else ((slices_Clone_int_int.f x10).bind fun t266 => (if x245003.length < 5864062014805 then (impl_board.l0 k x0 x1 x2 x8 x9 x10 x11 (wrap64 (x12 + 1)) x245000 x245001 x245002 (x245003 ++ [t266])) else (none)))
end
def impl_board.f (k : Nat) (a0 : Int) (a1 : Int) (l2 : List Int) : Option (List Int × List Int × List Int × (List (List Int))) := if 0 ≤ a0 then (if (a0 : Int).toNat ≤ 35184372088832 then ((slices_Repeat_int_int.f (([(-1)] : List Int)) a0).bind fun t248 => ((slices_Repeat_int_int.f (([(-1)] : List Int)) a0).bind fun t257 => ((slices_Clone_int_int.f t257).bind fun t260 => (if ([] : List (List Int)).length < 5864062014805 then (impl_board.l0 k a0 a1 l2 t248 (List.replicate (a0 : Int).toNat 0) t257 a0 1 (List.replicate (a0 : Int).toNat 0) (List.replicate (a0 : Int).toNat 0) (List.replicate (a0 : Int).toNat 0) (([] : List (List Int)) ++ [t260])) else (none))))) else (none)) else (none)
def impl_board.T1 : Bool × List (List Nat × List Nat) := (true, [([], []), ([0, 0], [0]), ([], []), ([2, 2], [2]), ([], []), ([4, 4], [4]), ([1, 3, 5], [1, 3, 5]), ([], []), ([7, 6, 0, 1, 2, 3, 4, 5, 6, 7], [6, 7])])
def impl_board.B1 : List Nat := [0, 1, 0, 4, 0, 16, 63, 0, 255]
theorem impl_board.tab1 : rtab .any (opsOf Try.f48 1) = impl_board.T1 := by kernel_rfl
theorem impl_board.bits1 : waitsOk impl_board.T1.2 impl_board.B1 = true := by kernel_rfl
def impl_board.T4 : Bool × List (List Nat × List Nat) := (true, [([], []), ([0], [0]), ([], []), ([2], [2]), ([3], [3]), ([1, 4, 3], [1, 4]), ([0, 1, 2, 3, 4, 5], []), ([6, 5, 5, 0, 1, 2, 3, 4, 5], [5, 6])])
def impl_board.B4 : List Nat := [0, 1, 0, 4, 12, 31, 63, 127]
theorem impl_board.tab4 : rtab .any (opsOf Try.f48 4) = impl_board.T4 := by kernel_rfl
theorem impl_board.bits4 : waitsOk impl_board.T4.2 impl_board.B4 = true := by kernel_rfl
def impl_board.T16 : Bool × List (List Nat × List Nat) := (true, [([], []), ([], []), ([], []), ([], []), ([], []), ([4], [4]), ([], []), ([], []), ([], []), ([0, 1, 0, 1], [0, 1]), ([9, 0, 1], [9]), ([2, 3, 0, 1, 2, 3, 7, 9, 10], [2, 3]), ([11, 7, 10, 0, 1, 2, 3, 7, 9, 10], [7, 11]), ([5, 6, 0, 1, 2, 3, 4, 5, 6, 7, 8, 9, 10, 11, 12], [5, 6]), ([13, 8, 12, 0, 1, 2, 3, 4, 5, 6, 7, 8, 9, 10, 11, 12], [8, 13])])
def impl_board.B16 : List Nat := [0, 0, 0, 0, 0, 16, 0, 0, 0, 3, 515, 1679, 3727, 8191, 16383]
theorem impl_board.tab16 : rtab .any (opsOf Try.f48 16) = impl_board.T16 := by kernel_rfl
theorem impl_board.bits16 : waitsOk impl_board.T16.2 impl_board.B16 = true := by kernel_rfl
def impl_board.T26 : Bool × List (List Nat × List Nat) := (true, [([], []), ([0], [0]), ([], []), ([2], [2]), ([3], [3]), ([1, 4, 3], [1, 4]), ([0, 1, 2, 3, 4, 5], []), ([6, 5, 5, 0, 1, 2, 3, 4, 5], [5, 6])])
def impl_board.B26 : List Nat := [0, 1, 0, 4, 12, 31, 63, 127]
theorem impl_board.tab26 : rtab .any (opsOf Try.f48 26) = impl_board.T26 := by kernel_rfl
theorem impl_board.bits26 : waitsOk impl_board.T26.2 impl_board.B26 = true := by kernel_rfl
set_option maxHeartbeats 8000000 in
set_option maxRecDepth 100000 in
theorem impl_board.calls (k : Nat) (a0 : Int) (a1 : Int) (A2 : Option Addr) (c2 : Nat) (l2 : List Int) (r1 : List Int) (r2 : List Int) (r3 : List Int) (r4 : List (List Int)) (w : World) (hr2 : Kd.C (Kd.int .i64) w A2 l2.length l2) (hc2 : l2.length ≤ c2) (h : impl_board.f k a0 a1 l2 = some (r1, r2, r3, r4)) :
  Calls Try.prog 48 #[.int .i64 a0, .int .i64 a1, .slice A2 l2.length c2] w fun e w' => ∃ v0_ v1_ v2_ v3_ : Value, e = .returned (.agg #[v0_, v1_, v2_, v3_]) ∧ Kd.R (Kd.int .i64) 3 w' w.heap.size (fun k_ => some k_ ≠ (v1_ : Value).ownBlock ∧ some k_ ≠ (v2_ : Value).ownBlock) v0_ r1 ∧ Kd.R (Kd.int .i64) 3 w' w.heap.size (fun k_ => some k_ ≠ (v0_ : Value).ownBlock ∧ some k_ ≠ (v2_ : Value).ownBlock) v1_ r2 ∧ Kd.R (Kd.int .i64) 3 w' w.heap.size (fun k_ => some k_ ≠ (v0_ : Value).ownBlock ∧ some k_ ≠ (v1_ : Value).ownBlock) v2_ r3 ∧ Kd.S (Kd.slice 3 (Kd.int .i64)) 24 w' w.heap.size (fun k_ => some k_ ≠ (v0_ : Value).ownBlock ∧ some k_ ≠ (v1_ : Value).ownBlock ∧ some k_ ≠ (v2_ : Value).ownBlock) v3_ r4 ∧ Below w.heap.size w w' := by
 have hu54 := Try.underlying54
 have HR2 := Aside0.mk hr2
 have HC2 := Aside0.mk hc2
 clear hr2 hc2
 have HB := Aside0.mk (Below.refl w.heap.size w)
 have H : (if 0 ≤ a0 then (if (a0 : Int).toNat ≤ 35184372088832 then ((slices_Repeat_int_int.f (([(-1)] : List Int)) a0).bind fun t248 => ((slices_Repeat_int_int.f (([(-1)] : List Int)) a0).bind fun t257 => ((slices_Clone_int_int.f t257).bind fun t260 => (if ([] : List (List Int)).length < 5864062014805 then (impl_board.l0 k a0 a1 l2 t248 (List.replicate (a0 : Int).toNat 0) t257 a0 1 (List.replicate (a0 : Int).toNat 0) (List.replicate (a0 : Int).toNat 0) (List.replicate (a0 : Int).toNat 0) (([] : List (List Int)) ++ [t260])) else (none))))) else (none)) else (none)) = some (r1, r2, r3, r4) := h
 clear h
 by_cases c4 : 0 ≤ a0
 ·rw [if_pos c4] at H
  have c4b0 := eq_true c4
  have c4b1 : decide (0 ≤ a0) = true := decide_eq_true c4
  clear c4
  by_cases c5 : (a0 : Int).toNat ≤ 35184372088832
  ·rw [if_pos c5] at H
   have c5b0 := eq_true c5
   have c5b1 : decide ((a0 : Int).toNat ≤ 35184372088832) = true := decide_eq_true c5
   clear c5
   obtain ⟨y235, hy235⟩ : ∃ y_ : List Int, y_ = (List.replicate (a0 : Int).toNat 0) := ⟨_, rfl⟩
   replace H : ((slices_Repeat_int_int.f (([(-1)] : List Int)) a0).bind fun t248 => ((slices_Repeat_int_int.f (([(-1)] : List Int)) a0).bind fun t257 => ((slices_Clone_int_int.f t257).bind fun t260 => (if ([] : List (List Int)).length < 5864062014805 then (impl_board.l0 k a0 a1 l2 t248 (List.replicate (a0 : Int).toNat 0) t257 a0 1 y235 (List.replicate (a0 : Int).toNat 0) (List.replicate (a0 : Int).toNat 0) (([] : List (List Int)) ++ [t260])) else (none))))) = some (r1, r2, r3, r4) := by first | (rw [hy235]; with_reducible exact H) | (have H2_ := (Option.bind_some _ _).symm.trans H; rw [hy235]; with_reducible exact H2_) | (have H2_ := (Option.bind_some _ _).symm.trans H; with_reducible exact H2_) | with_reducible exact H | (rw [hy235]; exact H) | exact H
   have Ny235 := Aside0.mk hy235
   clear hy235
   obtain ⟨y238, hy238⟩ : ∃ y_ : List Int, y_ = (List.replicate (a0 : Int).toNat 0) := ⟨_, rfl⟩
   replace H : ((slices_Repeat_int_int.f (([(-1)] : List Int)) a0).bind fun t248 => ((slices_Repeat_int_int.f (([(-1)] : List Int)) a0).bind fun t257 => ((slices_Clone_int_int.f t257).bind fun t260 => (if ([] : List (List Int)).length < 5864062014805 then (impl_board.l0 k a0 a1 l2 t248 (List.replicate (a0 : Int).toNat 0) t257 a0 1 y235 y238 (List.replicate (a0 : Int).toNat 0) (([] : List (List Int)) ++ [t260])) else (none))))) = some (r1, r2, r3, r4) := by first | (rw [hy238]; with_reducible exact H) | (have H2_ := (Option.bind_some _ _).symm.trans H; rw [hy238]; with_reducible exact H2_) | (have H2_ := (Option.bind_some _ _).symm.trans H; with_reducible exact H2_) | with_reducible exact H | (rw [hy238]; exact H) | exact H
   have Ny238 := Aside0.mk hy238
   clear hy238
   obtain ⟨y241, hy241⟩ : ∃ y_ : List Int, y_ = (List.replicate (a0 : Int).toNat 0) := ⟨_, rfl⟩
   replace H : ((slices_Repeat_int_int.f (([(-1)] : List Int)) a0).bind fun t248 => ((slices_Repeat_int_int.f (([(-1)] : List Int)) a0).bind fun t257 => ((slices_Clone_int_int.f t257).bind fun t260 => (if ([] : List (List Int)).length < 5864062014805 then (impl_board.l0 k a0 a1 l2 t248 (List.replicate (a0 : Int).toNat 0) t257 a0 1 y235 y238 y241 (([] : List (List Int)) ++ [t260])) else (none))))) = some (r1, r2, r3, r4) := by first | (rw [hy241]; with_reducible exact H) | (have H2_ := (Option.bind_some _ _).symm.trans H; rw [hy241]; with_reducible exact H2_) | (have H2_ := (Option.bind_some _ _).symm.trans H; with_reducible exact H2_) | with_reducible exact H | (rw [hy241]; exact H) | exact H
   have Ny241 := Aside0.mk hy241
   clear hy241
   obtain ⟨y245, hy245⟩ : ∃ y_ : List Int, y_ = (([(-1)] : List Int)) := ⟨_, rfl⟩
   replace H : ((slices_Repeat_int_int.f y245 a0).bind fun t248 => ((slices_Repeat_int_int.f (([(-1)] : List Int)) a0).bind fun t257 => ((slices_Clone_int_int.f t257).bind fun t260 => (if ([] : List (List Int)).length < 5864062014805 then (impl_board.l0 k a0 a1 l2 t248 (List.replicate (a0 : Int).toNat 0) t257 a0 1 y235 y238 y241 (([] : List (List Int)) ++ [t260])) else (none))))) = some (r1, r2, r3, r4) := by first | (rw [hy245]; with_reducible exact H) | (have H2_ := (Option.bind_some _ _).symm.trans H; rw [hy245]; with_reducible exact H2_) | (have H2_ := (Option.bind_some _ _).symm.trans H; with_reducible exact H2_) | with_reducible exact H | (rw [hy245]; exact H) | exact H
   have Ny245 := Aside0.mk hy245
   clear hy245
   replace H := Option.bind_eq_some_iff.mp H
   obtain ⟨t248, A60, H⟩ := H
   replace H : ((slices_Repeat_int_int.f (([(-1)] : List Int)) a0).bind fun t257 => ((slices_Clone_int_int.f t257).bind fun t260 => (if ([] : List (List Int)).length < 5864062014805 then (impl_board.l0 k a0 a1 l2 t248 (List.replicate (a0 : Int).toNat 0) t257 a0 1 y235 y238 y241 (([] : List (List Int)) ++ [t260])) else (none)))) = some (r1, r2, r3, r4) := H
   have A6 := Aside0.mk A60
   clear A60
   obtain ⟨y251, hy251⟩ : ∃ y_ : List Int, y_ = (List.replicate (a0 : Int).toNat 0) := ⟨_, rfl⟩
   replace H : ((slices_Repeat_int_int.f (([(-1)] : List Int)) a0).bind fun t257 => ((slices_Clone_int_int.f t257).bind fun t260 => (if ([] : List (List Int)).length < 5864062014805 then (impl_board.l0 k a0 a1 l2 t248 y251 t257 a0 1 y235 y238 y241 (([] : List (List Int)) ++ [t260])) else (none)))) = some (r1, r2, r3, r4) := by first | (rw [hy251]; with_reducible exact H) | (have H2_ := (Option.bind_some _ _).symm.trans H; rw [hy251]; with_reducible exact H2_) | (have H2_ := (Option.bind_some _ _).symm.trans H; with_reducible exact H2_) | with_reducible exact H | (rw [hy251]; exact H) | exact H
   have Ny251 := Aside0.mk hy251
   clear hy251
   obtain ⟨y254, hy254⟩ : ∃ y_ : List Int, y_ = (([(-1)] : List Int)) := ⟨_, rfl⟩
   replace H : ((slices_Repeat_int_int.f y254 a0).bind fun t257 => ((slices_Clone_int_int.f t257).bind fun t260 => (if ([] : List (List Int)).length < 5864062014805 then (impl_board.l0 k a0 a1 l2 t248 y251 t257 a0 1 y235 y238 y241 (([] : List (List Int)) ++ [t260])) else (none)))) = some (r1, r2, r3, r4) := by first | (rw [hy254]; with_reducible exact H) | (have H2_ := (Option.bind_some _ _).symm.trans H; rw [hy254]; with_reducible exact H2_) | (have H2_ := (Option.bind_some _ _).symm.trans H; with_reducible exact H2_) | with_reducible exact H | (rw [hy254]; exact H) | exact H
   have Ny254 := Aside0.mk hy254
   clear hy254
   replace H := Option.bind_eq_some_iff.mp H
   obtain ⟨t257, A70, H⟩ := H
   replace H : ((slices_Clone_int_int.f t257).bind fun t260 => (if ([] : List (List Int)).length < 5864062014805 then (impl_board.l0 k a0 a1 l2 t248 y251 t257 a0 1 y235 y238 y241 (([] : List (List Int)) ++ [t260])) else (none))) = some (r1, r2, r3, r4) := H
   have A7 := Aside0.mk A70
   clear A70
   replace H := Option.bind_eq_some_iff.mp H
   obtain ⟨t260, A80, H⟩ := H
   replace H : (if ([] : List (List Int)).length < 5864062014805 then (impl_board.l0 k a0 a1 l2 t248 y251 t257 a0 1 y235 y238 y241 (([] : List (List Int)) ++ [t260])) else (none)) = some (r1, r2, r3, r4) := H
   have A8 := Aside0.mk A80
   clear A80
   by_cases c9 : ([] : List (List Int)).length < 5864062014805
   ·rw [if_pos c9] at H
    have LMc9 := Aside0.mk c9
    clear c9
    obtain ⟨y263, hy263⟩ : ∃ y_ : List (List Int), y_ = (([] : List (List Int)) ++ [t260]) := ⟨_, rfl⟩
    replace H : (impl_board.l0 k a0 a1 l2 t248 y251 t257 a0 1 y235 y238 y241 y263) = some (r1, r2, r3, r4) := by first | (rw [hy263]; with_reducible exact H) | (have H2_ := (Option.bind_some _ _).symm.trans H; rw [hy263]; with_reducible exact H2_) | (have H2_ := (Option.bind_some _ _).symm.trans H; with_reducible exact H2_) | with_reducible exact H | (rw [hy263]; exact H) | exact H
    have Ny263 := Aside0.mk hy263
    clear hy263
    have H' := Aside0.mk H
    clear H
    go_enter Try.func48, Try.ntmps48
    try go_wp2_with (first | ((with_reducible refine gate_dst (N := 6) rfl ?_); refine box_event ?hg (N := 6) ?hd (cs := #[.slice none 0 0, .slice none 0 0, .slice none 0 0, .slice none 0 0]) (t := 54) ?hr ?_; (case hd => rfl); (case hg => rfl); (case hr => first | (go_simp; done) | (go_simp; rfl)); intro gb234 hg w10 hbox hb; have n0_ := Aside0.mk (below_step (by repeat (first | (with_reducible first | exact HB.out | apply below_alloc | apply pw_below_drewN | apply below_drew1) | exact HB.out)) hb); have n1_ := Aside0.mk (hbox); have n2_ := Aside0.mk ((by rw [hg]; exact (below_size (by repeat (first | (with_reducible first | exact HB.out | apply below_alloc | apply pw_below_drewN | apply below_drew1) | exact HB.out))) : w.heap.size ≤ gb234)); have n3_ := Aside0.mk ((by rw [hg]; exact (below_size (by repeat (first | (with_reducible first | exact HB.out | apply below_alloc | apply pw_below_drewN | apply below_drew1) | exact HB.out))) : w.heap.size ≤ gb234)); clear HB; have HB := n0_; have BK234 := n1_; have GW234 := n2_; have GE234 := n3_; clear n0_ n1_ n2_ n3_; clear hb hbox hg))
    have n0_ := Aside0.mk (blk_drew BK234.out)
    have n1_ := Aside0.mk (below_drew1 HB.out)
    clear BK234
    clear HB
    have BK234 := n0_
    have HB := n1_
    clear n0_ n1_
    refine start_ (n := 9) (S := fun w' => True) (ds := []) #[false, false, false, false, false, false, false, false, false] (by kernel_rfl) rfl rfl trivial (fun hHeld => ?_); refine with_tabW impl_board.tab1 impl_board.bits1 (fun HT_ HW_ => ?_)
    generalize w10.drew = w11 at BK234 HB hHeld ⊢
    refine pure_ (i := 0) (N := some 16) (v := ?_) (a' := ?_) #[true, false, false, false, false, false, false, false, false] rfl rfl (any_of HT_.out (by kernel_rfl)) (fun _ _ _ h => h) (Or.inl ⟨by rfl, ?_⟩) ?_ ?_
    rotate_left
    ·intro w'
     go_simp
     with_reducible rfl
    rotate_left
    ·simp only [Act.put, List.setIfInBounds_toArray, List.set_cons_zero, List.set_cons_succ, i64_w, i32_w]
     rfl
    refine pure_ (i := 2) (N := some 18) (v := ?_) (a' := ?_) #[true, false, true, false, false, false, false, false, false] rfl rfl (any_of HT_.out (by kernel_rfl)) (fun _ _ _ h => h) (Or.inl ⟨by rfl, ?_⟩) ?_ ?_
    rotate_left
    ·intro w'
     go_simp
     with_reducible rfl
    rotate_left
    ·simp only [Act.put, List.setIfInBounds_toArray, List.set_cons_zero, List.set_cons_succ, i64_w, i32_w]
     rfl
    refine pure_ (i := 4) (N := some 20) (v := ?_) (a' := ?_) #[true, false, true, false, true, false, false, false, false] rfl rfl (any_of HT_.out (by kernel_rfl)) (fun _ _ _ h => h) (Or.inl ⟨by rfl, ?_⟩) ?_ ?_
    rotate_left
    ·intro w'
     go_simp
     with_reducible rfl
    rotate_left
    ·simp only [Act.put, List.setIfInBounds_toArray, List.set_cons_zero, List.set_cons_succ, i64_w, i32_w]
     rfl
    refine inv_at [1, 3, 5, 6, 7, 8] (fun a0_ b a w' => ∃ (v236 : Value) (v239 : Value) (v242 : Value) (gb244 : Nat) (m6_ : Value) (m7_ : Value), a = putSel a0_ b [(1, 17, v236), (3, 19, v239), (5, 21, v242), (6, 22, m6_), (7, 7, m7_)] ∧ (w'.heap[gb234]? = some (.cells #[.slice none 0 0, .slice none 0 0, .slice none 0 0, .slice none 0 0] 54 (0, 0))) ∧ (Below w.heap.size w w') ∧ (b 1 = true → Kd.R (Kd.int .i64) 3 w' w.heap.size (fun _ => True) v236 y235) ∧ (b 3 = true → Kd.R (Kd.int .i64) 3 w' w.heap.size (fun _ => True) v239 y238) ∧ (b 5 = true → Kd.R (Kd.int .i64) 3 w' w.heap.size (fun _ => True) v242 y241) ∧ (b 7 = true → b 8 = false → w'.heap[gb244]? = some (.cells #[.slice none 0 0, .slice none 0 0, .slice none 0 0, .slice none 0 0] 54 (0, 0))) ∧ (b 7 = true → w.heap.size ≤ gb244) ∧ (b 7 = true → w.heap.size ≤ gb244) ∧ (b 7 = true → gb234 ≠ gb244) ∧ (b 7 = true → gb244 ≠ gb234) ∧ (b 8 = true → w'.heap[gb244]? = some (.cells #[v236, v239, v242, .slice none 0 0] 54 (0, 0))) ∧ (b 1 = true → b 3 = true → NeRow v236 v239) ∧ (b 1 = true → b 5 = true → NeRow v236 v242) ∧ (b 3 = true → b 5 = true → NeRow v239 v242) ∧ (b 6 = true → (m6_ : Value) = .agg #[v236, v239, v242, .slice none 0 0]) ∧ (b 7 = true → (m7_ : Value) = .pointer (some ⟨gb244, 0, none⟩))) HT_.out HW_.out (by kernel_rfl) (by kernel_rfl) ?_ ?_ ?_
    ·exact ⟨.bool false, .bool false, .bool false, 0, .bool false, .bool false, by simp only [putSel, Bool.false_eq_true, if_false], BK234.out, HB.out, fun h_ => absurd h_ (by decide), fun h_ => absurd h_ (by decide), fun h_ => absurd h_ (by decide), fun h_ => absurd h_ (by decide), fun h_ => absurd h_ (by decide), fun h_ => absurd h_ (by decide), fun h_ => absurd h_ (by decide), fun h_ => absurd h_ (by decide), fun h_ => absurd h_ (by decide), fun h_ => absurd h_ (by decide), fun h_ => absurd h_ (by decide), fun h_ => absurd h_ (by decide), fun h_ => absurd h_ (by decide), fun h_ => absurd h_ (by decide)⟩
    ·skip
     clear BK234 HB
     refine steps_cons ?_ ?_
     ·rintro b a w' ⟨v236, v239, v242, gb244, m6_, m7_, ha, Q_BK234, Q_HB, Q_HO237, Q_HO240, Q_HO243, Q_BK244, Q_GW244, Q_GE244, Q_NB234_244, Q_NB244_234, Q_BK244_e8, Q_NE_v236_v239, Q_NE_v236_v242, Q_NE_v239_v242, Q_X6_, Q_X7_⟩ hb_ hon hoff
      refine ⟨_, rfl, fun K hK => ?_⟩
      have e16 : a.tmps[16]? = some (.int .i64 a0) := by rw [ha]; exact (putSel_off rfl).trans rfl
      replace ha := Aside0.mk ha
      have BK234 := Aside0.mk Q_BK234
      have HB := Aside0.mk Q_HB
      refine Kd.R_make_step (Kd.int .i64) _ 3 (by rfl) (N := 17) rfl 24 _ _ rfl a0 (eval_of e16) (eval_of e16) Try.underlying24 (.int .i64 0) 8 info3 rfl (by decide) (by omega) 0 (ok := fun _ => True) (okp := fun _ => True) rfl (fun _ hk => hk) trivial (of_decide_eq_true (by first | (with_reducible assumption) | assumption)) (Nat.le_trans (Nat.mul_le_mul_right _ (of_decide_eq_true (by first | (with_reducible assumption) | assumption) : a0.toNat ≤ 35184372088832)) (by omega)) (Below.refl _ _) (Nat.le_refl _) ?_
      intro v236 w12 ho13 hb hg_ hnew_
      clear hg_ hnew_
      (first | rw [← Ny235.out] at ho13 | (simp only [Int.reduceToNat] at ho13; rw [← Ny235.out] at ho13))
      have n0_ := Aside0.mk (Kd.R_lower ho13 (below_size (by repeat (first | (with_reducible first | exact HB.out | apply below_alloc | apply pw_below_drewN | apply below_drew1 | refine below_set ?_ GE234.out) | exact HB.out))))
      have n1_ := Aside0.mk (blk_below (g := gb234) (o := .cells #[.slice none 0 0, .slice none 0 0, .slice none 0 0, .slice none 0 0] 54 (0, 0)) BK234.out hb)
      have n2_ := Aside0.mk (below_step (by repeat (first | (with_reducible first | exact HB.out | apply below_alloc | apply pw_below_drewN | apply below_drew1 | refine below_set ?_ GE234.out) | exact HB.out)) hb)
      have z_HO240 := fun (h0_ : b 3 = true) => (show Kd.R (Kd.int .i64) 3 w12 w.heap.size (fun _ => True) v239 y238 from by first | exact (Kd.R_elder' (by (with_reducible repeat (first | apply Kd.R_alloc | apply Kd.R_drewN | apply Kd.R_drew)); exact (Q_HO240 h0_)) (Kd.R_base ho13) hb) | exact Kd.R_mono (Kd.R_elder' (by (with_reducible repeat (first | apply Kd.R_alloc | apply Kd.R_drewN | apply Kd.R_drew)); exact (Q_HO240 h0_)) (Kd.R_base ho13) hb) (fun _ h_ => by first | trivial | exact h_ | exact h_.1))
      have z_HO243 := fun (h0_ : b 5 = true) => (show Kd.R (Kd.int .i64) 3 w12 w.heap.size (fun _ => True) v242 y241 from by first | exact (Kd.R_elder' (by (with_reducible repeat (first | apply Kd.R_alloc | apply Kd.R_drewN | apply Kd.R_drew)); exact (Q_HO243 h0_)) (Kd.R_base ho13) hb) | exact Kd.R_mono (Kd.R_elder' (by (with_reducible repeat (first | apply Kd.R_alloc | apply Kd.R_drewN | apply Kd.R_drew)); exact (Q_HO243 h0_)) (Kd.R_base ho13) hb) (fun _ h_ => by first | trivial | exact h_ | exact h_.1))
      have z_BK244 := fun (h0_ : b 7 = true) (h1_ : b 8 = false) => (show w12.heap[gb244]? = some (.cells #[.slice none 0 0, .slice none 0 0, .slice none 0 0, .slice none 0 0] 54 (0, 0)) from by first | exact (blk_below (g := gb244) (o := .cells #[.slice none 0 0, .slice none 0 0, .slice none 0 0, .slice none 0 0] 54 (0, 0)) (by first | (with_reducible exact (Q_BK244 h0_ h1_)) | ((with_reducible repeat (first | refine blk_drewN ?_ _ | refine blk_drew ?_ | refine blk_alloc ?_ _)); exact (Q_BK244 h0_ h1_))) hb))
      clear BK234
      clear HB
      have HO237 := n0_
      have BK234 := n1_
      have HB := n2_
      clear n0_ n1_ n2_
      have z_NE_v236_v239 : b 3 = true → NeRow v236 v239 := fun h0_ k_ e_ e2_ => Kd.fresh' (Kd.R_lt (Q_HO240 h0_)) k_ (Kd.R_base ho13 k_ e_) e2_.symm
      have z_NE_v236_v242 : b 5 = true → NeRow v236 v242 := fun h0_ k_ e_ e2_ => Kd.fresh' (Kd.R_lt (Q_HO243 h0_)) k_ (Kd.R_base ho13 k_ e_) e2_.symm
      clear hb ho13
      refine hK.out _ _ ⟨v236, v239, v242, gb244, m6_, m7_, (by rw [ha.out]; exact putSel_upk 0 hb_ rfl rfl rfl), BK234.out, (by repeat (first | (with_reducible first | exact HB.out | apply below_alloc | apply pw_below_drewN | apply below_drew1 | refine below_set ?_ GE234.out) | exact HB.out)), fun _ => HO237.out, z_HO240, z_HO243, z_BK244, Q_GW244, Q_GE244, Q_NB234_244, Q_NB244_234, fun h0_ => absurd ((hoff 8 (by kernel_rfl)).symm.trans h0_) (by decide), fun _ h1_ => z_NE_v236_v239 h1_, fun _ h1_ => z_NE_v236_v242 h1_, Q_NE_v239_v242, fun h0_ => absurd ((hoff 6 (by kernel_rfl)).symm.trans h0_) (by decide), Q_X7_⟩
     refine steps_cons ?_ ?_
     ·rintro b a w' ⟨v236, v239, v242, gb244, m6_, m7_, ha, Q_BK234, Q_HB, Q_HO237, Q_HO240, Q_HO243, Q_BK244, Q_GW244, Q_GE244, Q_NB234_244, Q_NB244_234, Q_BK244_e8, Q_NE_v236_v239, Q_NE_v236_v242, Q_NE_v239_v242, Q_X6_, Q_X7_⟩ hb_ hon hoff
      refine ⟨_, rfl, fun K hK => ?_⟩
      have e18 : a.tmps[18]? = some (.int .i64 a0) := by rw [ha]; exact (putSel_off rfl).trans rfl
      replace ha := Aside0.mk ha
      have BK234 := Aside0.mk Q_BK234
      have HB := Aside0.mk Q_HB
      refine Kd.R_make_step (Kd.int .i64) _ 3 (by rfl) (N := 19) rfl 24 _ _ rfl a0 (eval_of e18) (eval_of e18) Try.underlying24 (.int .i64 0) 8 info3 rfl (by decide) (by omega) 0 (ok := fun _ => True) (okp := fun _ => True) rfl (fun _ hk => hk) trivial (of_decide_eq_true (by first | (with_reducible assumption) | assumption)) (Nat.le_trans (Nat.mul_le_mul_right _ (of_decide_eq_true (by first | (with_reducible assumption) | assumption) : a0.toNat ≤ 35184372088832)) (by omega)) (Below.refl _ _) (Nat.le_refl _) ?_
      intro v239 w12 ho13 hb hg_ hnew_
      clear hg_ hnew_
      (first | rw [← Ny238.out] at ho13 | (simp only [Int.reduceToNat] at ho13; rw [← Ny238.out] at ho13))
      have n0_ := Aside0.mk (Kd.R_lower ho13 (below_size (by repeat (first | (with_reducible first | exact HB.out | apply below_alloc | apply pw_below_drewN | apply below_drew1 | refine below_set ?_ GE234.out) | exact HB.out))))
      have n1_ := Aside0.mk (blk_below (g := gb234) (o := .cells #[.slice none 0 0, .slice none 0 0, .slice none 0 0, .slice none 0 0] 54 (0, 0)) BK234.out hb)
      have n2_ := Aside0.mk (below_step (by repeat (first | (with_reducible first | exact HB.out | apply below_alloc | apply pw_below_drewN | apply below_drew1 | refine below_set ?_ GE234.out) | exact HB.out)) hb)
      have z_HO237 := fun (h0_ : b 1 = true) => (show Kd.R (Kd.int .i64) 3 w12 w.heap.size (fun _ => True) v236 y235 from by first | exact (Kd.R_elder' (by (with_reducible repeat (first | apply Kd.R_alloc | apply Kd.R_drewN | apply Kd.R_drew)); exact (Q_HO237 h0_)) (Kd.R_base ho13) hb) | exact Kd.R_mono (Kd.R_elder' (by (with_reducible repeat (first | apply Kd.R_alloc | apply Kd.R_drewN | apply Kd.R_drew)); exact (Q_HO237 h0_)) (Kd.R_base ho13) hb) (fun _ h_ => by first | trivial | exact h_ | exact h_.1))
      have z_HO243 := fun (h0_ : b 5 = true) => (show Kd.R (Kd.int .i64) 3 w12 w.heap.size (fun _ => True) v242 y241 from by first | exact (Kd.R_elder' (by (with_reducible repeat (first | apply Kd.R_alloc | apply Kd.R_drewN | apply Kd.R_drew)); exact (Q_HO243 h0_)) (Kd.R_base ho13) hb) | exact Kd.R_mono (Kd.R_elder' (by (with_reducible repeat (first | apply Kd.R_alloc | apply Kd.R_drewN | apply Kd.R_drew)); exact (Q_HO243 h0_)) (Kd.R_base ho13) hb) (fun _ h_ => by first | trivial | exact h_ | exact h_.1))
      have z_BK244 := fun (h0_ : b 7 = true) (h1_ : b 8 = false) => (show w12.heap[gb244]? = some (.cells #[.slice none 0 0, .slice none 0 0, .slice none 0 0, .slice none 0 0] 54 (0, 0)) from by first | exact (blk_below (g := gb244) (o := .cells #[.slice none 0 0, .slice none 0 0, .slice none 0 0, .slice none 0 0] 54 (0, 0)) (by first | (with_reducible exact (Q_BK244 h0_ h1_)) | ((with_reducible repeat (first | refine blk_drewN ?_ _ | refine blk_drew ?_ | refine blk_alloc ?_ _)); exact (Q_BK244 h0_ h1_))) hb))
      clear BK234
      clear HB
      have HO240 := n0_
      have BK234 := n1_
      have HB := n2_
      clear n0_ n1_ n2_
      have z_NE_v236_v239 : b 1 = true → NeRow v236 v239 := fun h0_ k_ e2_ e_ => Kd.fresh' (Kd.R_lt (Q_HO237 h0_)) k_ (Kd.R_base ho13 k_ e_) e2_.symm
      have z_NE_v239_v242 : b 5 = true → NeRow v239 v242 := fun h0_ k_ e_ e2_ => Kd.fresh' (Kd.R_lt (Q_HO243 h0_)) k_ (Kd.R_base ho13 k_ e_) e2_.symm
      clear hb ho13
      refine hK.out _ _ ⟨v236, v239, v242, gb244, m6_, m7_, (by rw [ha.out]; exact putSel_upk 1 hb_ rfl rfl rfl), BK234.out, (by repeat (first | (with_reducible first | exact HB.out | apply below_alloc | apply pw_below_drewN | apply below_drew1 | refine below_set ?_ GE234.out) | exact HB.out)), z_HO237, fun _ => HO240.out, z_HO243, z_BK244, Q_GW244, Q_GE244, Q_NB234_244, Q_NB244_234, fun h0_ => absurd ((hoff 8 (by kernel_rfl)).symm.trans h0_) (by decide), fun h0_ _ => z_NE_v236_v239 h0_, Q_NE_v236_v242, fun _ h1_ => z_NE_v239_v242 h1_, fun h0_ => absurd ((hoff 6 (by kernel_rfl)).symm.trans h0_) (by decide), Q_X7_⟩
     refine steps_cons ?_ ?_
     ·rintro b a w' ⟨v236, v239, v242, gb244, m6_, m7_, ha, Q_BK234, Q_HB, Q_HO237, Q_HO240, Q_HO243, Q_BK244, Q_GW244, Q_GE244, Q_NB234_244, Q_NB244_234, Q_BK244_e8, Q_NE_v236_v239, Q_NE_v236_v242, Q_NE_v239_v242, Q_X6_, Q_X7_⟩ hb_ hon hoff
      refine ⟨_, rfl, fun K hK => ?_⟩
      have e20 : a.tmps[20]? = some (.int .i64 a0) := by rw [ha]; exact (putSel_off rfl).trans rfl
      replace ha := Aside0.mk ha
      have BK234 := Aside0.mk Q_BK234
      have HB := Aside0.mk Q_HB
      refine Kd.R_make_step (Kd.int .i64) _ 3 (by rfl) (N := 21) rfl 24 _ _ rfl a0 (eval_of e20) (eval_of e20) Try.underlying24 (.int .i64 0) 8 info3 rfl (by decide) (by omega) 0 (ok := fun _ => True) (okp := fun _ => True) rfl (fun _ hk => hk) trivial (of_decide_eq_true (by first | (with_reducible assumption) | assumption)) (Nat.le_trans (Nat.mul_le_mul_right _ (of_decide_eq_true (by first | (with_reducible assumption) | assumption) : a0.toNat ≤ 35184372088832)) (by omega)) (Below.refl _ _) (Nat.le_refl _) ?_
      intro v242 w12 ho13 hb hg_ hnew_
      clear hg_ hnew_
      (first | rw [← Ny241.out] at ho13 | (simp only [Int.reduceToNat] at ho13; rw [← Ny241.out] at ho13))
      have n0_ := Aside0.mk (Kd.R_lower ho13 (below_size (by repeat (first | (with_reducible first | exact HB.out | apply below_alloc | apply pw_below_drewN | apply below_drew1 | refine below_set ?_ GE234.out) | exact HB.out))))
      have n1_ := Aside0.mk (blk_below (g := gb234) (o := .cells #[.slice none 0 0, .slice none 0 0, .slice none 0 0, .slice none 0 0] 54 (0, 0)) BK234.out hb)
      have n2_ := Aside0.mk (below_step (by repeat (first | (with_reducible first | exact HB.out | apply below_alloc | apply pw_below_drewN | apply below_drew1 | refine below_set ?_ GE234.out) | exact HB.out)) hb)
      have z_HO237 := fun (h0_ : b 1 = true) => (show Kd.R (Kd.int .i64) 3 w12 w.heap.size (fun _ => True) v236 y235 from by first | exact (Kd.R_elder' (by (with_reducible repeat (first | apply Kd.R_alloc | apply Kd.R_drewN | apply Kd.R_drew)); exact (Q_HO237 h0_)) (Kd.R_base ho13) hb) | exact Kd.R_mono (Kd.R_elder' (by (with_reducible repeat (first | apply Kd.R_alloc | apply Kd.R_drewN | apply Kd.R_drew)); exact (Q_HO237 h0_)) (Kd.R_base ho13) hb) (fun _ h_ => by first | trivial | exact h_ | exact h_.1))
      have z_HO240 := fun (h0_ : b 3 = true) => (show Kd.R (Kd.int .i64) 3 w12 w.heap.size (fun _ => True) v239 y238 from by first | exact (Kd.R_elder' (by (with_reducible repeat (first | apply Kd.R_alloc | apply Kd.R_drewN | apply Kd.R_drew)); exact (Q_HO240 h0_)) (Kd.R_base ho13) hb) | exact Kd.R_mono (Kd.R_elder' (by (with_reducible repeat (first | apply Kd.R_alloc | apply Kd.R_drewN | apply Kd.R_drew)); exact (Q_HO240 h0_)) (Kd.R_base ho13) hb) (fun _ h_ => by first | trivial | exact h_ | exact h_.1))
      have z_BK244 := fun (h0_ : b 7 = true) (h1_ : b 8 = false) => (show w12.heap[gb244]? = some (.cells #[.slice none 0 0, .slice none 0 0, .slice none 0 0, .slice none 0 0] 54 (0, 0)) from by first | exact (blk_below (g := gb244) (o := .cells #[.slice none 0 0, .slice none 0 0, .slice none 0 0, .slice none 0 0] 54 (0, 0)) (by first | (with_reducible exact (Q_BK244 h0_ h1_)) | ((with_reducible repeat (first | refine blk_drewN ?_ _ | refine blk_drew ?_ | refine blk_alloc ?_ _)); exact (Q_BK244 h0_ h1_))) hb))
      clear BK234
      clear HB
      have HO243 := n0_
      have BK234 := n1_
      have HB := n2_
      clear n0_ n1_ n2_
      have z_NE_v236_v242 : b 1 = true → NeRow v236 v242 := fun h0_ k_ e2_ e_ => Kd.fresh' (Kd.R_lt (Q_HO237 h0_)) k_ (Kd.R_base ho13 k_ e_) e2_.symm
      have z_NE_v239_v242 : b 3 = true → NeRow v239 v242 := fun h0_ k_ e2_ e_ => Kd.fresh' (Kd.R_lt (Q_HO240 h0_)) k_ (Kd.R_base ho13 k_ e_) e2_.symm
      clear hb ho13
      refine hK.out _ _ ⟨v236, v239, v242, gb244, m6_, m7_, (by rw [ha.out]; exact putSel_upk 2 hb_ rfl rfl rfl), BK234.out, (by repeat (first | (with_reducible first | exact HB.out | apply below_alloc | apply pw_below_drewN | apply below_drew1 | refine below_set ?_ GE234.out) | exact HB.out)), z_HO237, z_HO240, fun _ => HO243.out, z_BK244, Q_GW244, Q_GE244, Q_NB234_244, Q_NB244_234, fun h0_ => absurd ((hoff 8 (by kernel_rfl)).symm.trans h0_) (by decide), Q_NE_v236_v239, fun h0_ _ => z_NE_v236_v242 h0_, fun h0_ _ => z_NE_v239_v242 h0_, fun h0_ => absurd ((hoff 6 (by kernel_rfl)).symm.trans h0_) (by decide), Q_X7_⟩
     refine steps_cons ?_ ?_
     ·rintro b a w' ⟨v236, v239, v242, gb244, m6_, m7_, ha, Q_BK234, Q_HB, Q_HO237, Q_HO240, Q_HO243, Q_BK244, Q_GW244, Q_GE244, Q_NB234_244, Q_NB244_234, Q_BK244_e8, Q_NE_v236_v239, Q_NE_v236_v242, Q_NE_v239_v242, Q_X6_, Q_X7_⟩ hb_ hon hoff
      refine ⟨_, rfl, fun K hK => ?_⟩
      have e17 : a.tmps[17]? = some (v236) := by rw [ha]; exact putSel_on (e := (1, 17, v236)) 0 rfl rfl (hon 1 (by kernel_rfl)) rfl
      have e19 : a.tmps[19]? = some (v239) := by rw [ha]; exact putSel_on (e := (3, 19, v239)) 1 rfl rfl (hon 3 (by kernel_rfl)) rfl
      have e21 : a.tmps[21]? = some (v242) := by rw [ha]; exact putSel_on (e := (5, 21, v242)) 2 rfl rfl (hon 5 (by kernel_rfl)) rfl
      replace ha := Aside0.mk ha
      have BK234 := Aside0.mk Q_BK234
      have HB := Aside0.mk Q_HB
      have HO237 := Aside0.mk (Q_HO237 (hon 1 (by kernel_rfl)))
      have HO240 := Aside0.mk (Q_HO240 (hon 3 (by kernel_rfl)))
      have HO243 := Aside0.mk (Q_HO243 (hon 5 (by kernel_rfl)))
      have NE_v236_v239 := Aside0.mk (Q_NE_v236_v239 (hon 1 (by kernel_rfl)) (hon 3 (by kernel_rfl)))
      have NE_v236_v242 := Aside0.mk (Q_NE_v236_v242 (hon 1 (by kernel_rfl)) (hon 5 (by kernel_rfl)))
      have NE_v239_v242 := Aside0.mk (Q_NE_v239_v242 (hon 3 (by kernel_rfl)) (hon 5 (by kernel_rfl)))
      obtain ⟨Ao6_0, co6_0, eo_⟩ := Kd.R_slice HO237.out
      subst eo_
      obtain ⟨Ao6_1, co6_1, eo_⟩ := Kd.R_slice HO240.out
      subst eo_
      obtain ⟨Ao6_2, co6_2, eo_⟩ := Kd.R_slice HO243.out
      subst eo_
      refine value_ (w1 := w') (v := .agg #[.slice Ao6_0 y235.length co6_0, .slice Ao6_1 y238.length co6_1, .slice Ao6_2 y241.length co6_2, .slice none 0 0]) (by rfl) rfl ?_ ?_
      ·go_simp
       (try simp only [i64_w])
       try rfl
      refine hK.out _ _ ⟨.slice Ao6_0 y235.length co6_0, .slice Ao6_1 y238.length co6_1, .slice Ao6_2 y241.length co6_2, gb244, (.agg #[.slice Ao6_0 y235.length co6_0, .slice Ao6_1 y238.length co6_1, .slice Ao6_2 y241.length co6_2, .slice none 0 0]), m7_, (by rw [ha.out]; exact putSel_upk 3 hb_ rfl rfl rfl), Q_BK234, Q_HB, Q_HO237, Q_HO240, Q_HO243, Q_BK244, Q_GW244, Q_GE244, Q_NB234_244, Q_NB244_234, fun h0_ => absurd ((hoff 8 (by kernel_rfl)).symm.trans h0_) (by decide), Q_NE_v236_v239, Q_NE_v236_v242, Q_NE_v239_v242, fun _ => rfl, Q_X7_⟩
     refine steps_cons ?_ ?_
     ·rintro b a w' ⟨v236, v239, v242, gb244, m6_, m7_, ha, Q_BK234, Q_HB, Q_HO237, Q_HO240, Q_HO243, Q_BK244, Q_GW244, Q_GE244, Q_NB234_244, Q_NB244_234, Q_BK244_e8, Q_NE_v236_v239, Q_NE_v236_v242, Q_NE_v239_v242, Q_X6_, Q_X7_⟩ hb_ hon hoff
      refine ⟨_, rfl, fun K hK => ?_⟩
      replace ha := Aside0.mk ha
      have BK234 := Aside0.mk Q_BK234
      have HB := Aside0.mk Q_HB
      refine box_step ?hg (N := 7) ?hd (cs := #[.slice none 0 0, .slice none 0 0, .slice none 0 0, .slice none 0 0]) (t := 54) ?hr ?_; (case hd => rfl); (case hg => rfl); (case hr => first | (go_simp; done) | (go_simp; rfl))
      intro gb244 hg w12 hbox hb
      have n0_ := Aside0.mk (blk_below (g := gb234) (o := .cells #[.slice none 0 0, .slice none 0 0, .slice none 0 0, .slice none 0 0] 54 (0, 0)) BK234.out hb)
      have n1_ := Aside0.mk (below_step (by repeat (first | (with_reducible first | exact HB.out | apply below_alloc | apply pw_below_drewN | apply below_drew1 | refine below_set ?_ GE234.out) | exact HB.out)) hb)
      have n2_ := Aside0.mk (hbox)
      have n3_ := Aside0.mk ((by rw [hg]; exact (below_size (by repeat (first | (with_reducible first | exact HB.out | apply below_alloc | apply pw_below_drewN | apply below_drew1 | refine below_set ?_ GE234.out) | exact HB.out))) : w.heap.size ≤ gb244))
      have n4_ := Aside0.mk ((by rw [hg]; exact (below_size (by repeat (first | (with_reducible first | exact HB.out | apply below_alloc | apply pw_below_drewN | apply below_drew1 | refine below_set ?_ GE234.out) | exact HB.out))) : w.heap.size ≤ gb244))
      have n5_ := Aside0.mk ((by rw [hg]; exact Nat.ne_of_lt (blk_lt (g := gb234) (o := .cells #[.slice none 0 0, .slice none 0 0, .slice none 0 0, .slice none 0 0] 54 (0, 0)) BK234.out) : gb234 ≠ gb244))
      have n6_ := Aside0.mk ((by rw [hg]; exact Nat.ne_of_gt (blk_lt (g := gb234) (o := .cells #[.slice none 0 0, .slice none 0 0, .slice none 0 0, .slice none 0 0] 54 (0, 0)) BK234.out) : gb244 ≠ gb234))
      have z_HO237 := fun (h0_ : b 1 = true) => (show Kd.R (Kd.int .i64) 3 w12 w.heap.size (fun _ => True) v236 y235 from by first | exact (Kd.R_below (by (with_reducible repeat (first | apply Kd.R_alloc | apply Kd.R_drewN | apply Kd.R_drew)); exact (Q_HO237 h0_)) hb) | exact Kd.R_mono (Kd.R_below (by (with_reducible repeat (first | apply Kd.R_alloc | apply Kd.R_drewN | apply Kd.R_drew)); exact (Q_HO237 h0_)) hb) (fun _ h_ => by first | trivial | exact h_ | exact h_.1))
      have z_HO240 := fun (h0_ : b 3 = true) => (show Kd.R (Kd.int .i64) 3 w12 w.heap.size (fun _ => True) v239 y238 from by first | exact (Kd.R_below (by (with_reducible repeat (first | apply Kd.R_alloc | apply Kd.R_drewN | apply Kd.R_drew)); exact (Q_HO240 h0_)) hb) | exact Kd.R_mono (Kd.R_below (by (with_reducible repeat (first | apply Kd.R_alloc | apply Kd.R_drewN | apply Kd.R_drew)); exact (Q_HO240 h0_)) hb) (fun _ h_ => by first | trivial | exact h_ | exact h_.1))
      have z_HO243 := fun (h0_ : b 5 = true) => (show Kd.R (Kd.int .i64) 3 w12 w.heap.size (fun _ => True) v242 y241 from by first | exact (Kd.R_below (by (with_reducible repeat (first | apply Kd.R_alloc | apply Kd.R_drewN | apply Kd.R_drew)); exact (Q_HO243 h0_)) hb) | exact Kd.R_mono (Kd.R_below (by (with_reducible repeat (first | apply Kd.R_alloc | apply Kd.R_drewN | apply Kd.R_drew)); exact (Q_HO243 h0_)) hb) (fun _ h_ => by first | trivial | exact h_ | exact h_.1))
      clear BK234
      clear HB
      have BK234 := n0_
      have HB := n1_
      have BK244 := n2_
      have GW244 := n3_
      have GE244 := n4_
      have NB234_244 := n5_
      have NB244_234 := n6_
      clear n0_ n1_ n2_ n3_ n4_ n5_ n6_
      clear hb hbox hg
      refine hK.out _ _ ⟨v236, v239, v242, gb244, m6_, (.pointer (some ⟨gb244, 0, none⟩)), (by rw [ha.out]; exact putSel_upk 4 hb_ rfl rfl rfl), BK234.out, (by repeat (first | (with_reducible first | exact HB.out | apply below_alloc | apply pw_below_drewN | apply below_drew1 | refine below_set ?_ GE234.out | refine below_set ?_ GE244.out) | exact HB.out)), z_HO237, z_HO240, z_HO243, fun _ _ => BK244.out, fun _ => GW244.out, fun _ => GE244.out, fun _ => NB234_244.out, fun _ => NB244_234.out, fun h0_ => absurd ((hoff 8 (by kernel_rfl)).symm.trans h0_) (by decide), Q_NE_v236_v239, Q_NE_v236_v242, Q_NE_v239_v242, Q_X6_, fun _ => rfl⟩
     refine steps_cons ?_ ?_
     ·rintro b a w' ⟨v236, v239, v242, gb244, m6_, m7_, ha, Q_BK234, Q_HB, Q_HO237, Q_HO240, Q_HO243, Q_BK244, Q_GW244, Q_GE244, Q_NB234_244, Q_NB244_234, Q_BK244_e8, Q_NE_v236_v239, Q_NE_v236_v242, Q_NE_v239_v242, Q_X6_, Q_X7_⟩ hb_ hon hoff
      refine ⟨_, rfl, fun K hK => ?_⟩
      have e7 : a.tmps[7]? = some (m7_) := by rw [ha]; exact putSel_on (e := (7, 7, m7_)) 4 rfl rfl (hon 7 (by kernel_rfl)) rfl
      rw [Q_X7_ (hon 7 (by kernel_rfl))] at e7
      have e22 : a.tmps[22]? = some (m6_) := by rw [ha]; exact putSel_on (e := (6, 22, m6_)) 3 rfl rfl (hon 6 (by kernel_rfl)) rfl
      rw [Q_X6_ (hon 6 (by kernel_rfl))] at e22
      replace ha := Aside0.mk ha
      have BK234 := Aside0.mk Q_BK234
      have HB := Aside0.mk Q_HB
      have HO237 := Aside0.mk (Q_HO237 (hon 1 (by kernel_rfl)))
      have HO240 := Aside0.mk (Q_HO240 (hon 3 (by kernel_rfl)))
      have HO243 := Aside0.mk (Q_HO243 (hon 5 (by kernel_rfl)))
      have BK244 := Aside0.mk (Q_BK244 (hon 7 (by kernel_rfl)) hb_)
      have GW244 := Aside0.mk (Q_GW244 (hon 7 (by kernel_rfl)))
      have GE244 := Aside0.mk (Q_GE244 (hon 7 (by kernel_rfl)))
      have NB234_244 := Aside0.mk (Q_NB234_244 (hon 7 (by kernel_rfl)))
      have NB244_234 := Aside0.mk (Q_NB244_234 (hon 7 (by kernel_rfl)))
      have NE_v236_v239 := Aside0.mk (Q_NE_v236_v239 (hon 1 (by kernel_rfl)) (hon 3 (by kernel_rfl)))
      have NE_v236_v242 := Aside0.mk (Q_NE_v236_v242 (hon 1 (by kernel_rfl)) (hon 5 (by kernel_rfl)))
      have NE_v239_v242 := Aside0.mk (Q_NE_v239_v242 (hon 3 (by kernel_rfl)) (hon 5 (by kernel_rfl)))
      obtain ⟨Ao23, co23, eo23⟩ := Kd.R_slice HO243.out
      (first | subst eo23 | (injection eo23 with f1_ f2_ f3_; have f4_ := f1_.symm; have f5_ := f3_.symm; clear f1_ f2_ f3_; subst f4_; subst f5_))
      obtain ⟨Ao24, co24, eo24⟩ := Kd.R_slice HO240.out
      (first | subst eo24 | (injection eo24 with f1_ f2_ f3_; have f4_ := f1_.symm; have f5_ := f3_.symm; clear f1_ f2_ f3_; subst f4_; subst f5_))
      obtain ⟨Ao25, co25, eo25⟩ := Kd.R_slice HO237.out
      (first | subst eo25 | (injection eo25 with f1_ f2_ f3_; have f4_ := f1_.symm; have f5_ := f3_.symm; clear f1_ f2_ f3_; subst f4_; subst f5_))
      have hs26 : w'.cell? ⟨gb244, 0, none⟩ = some (.slice none 0 0) := (blk_cell BK244.out 0).trans rfl
      have hfs26 := blk_frozen BK244.out 0
      have hns26_0 := NB234_244.out
      have hms26_0 := NB244_234.out
      have hs27 : w'.cell? ⟨gb244, 1, none⟩ = some (.slice none 0 0) := (blk_cell BK244.out 1).trans rfl
      have hfs27 := blk_frozen BK244.out 1
      have hns27_0 := NB234_244.out
      have hms27_0 := NB244_234.out
      have hs28 : w'.cell? ⟨gb244, 2, none⟩ = some (.slice none 0 0) := (blk_cell BK244.out 2).trans rfl
      have hfs28 := blk_frozen BK244.out 2
      have hns28_0 := NB234_244.out
      have hms28_0 := NB244_234.out
      have hs29 : w'.cell? ⟨gb244, 3, none⟩ = some (.slice none 0 0) := (blk_cell BK244.out 3).trans rfl
      have hfs29 := blk_frozen BK244.out 3
      have hns29_0 := NB234_244.out
      have hms29_0 := NB244_234.out
      refine skip_ (w1 := ?_) (by rfl) rfl ?_ ?_
      rotate_left
      ·go_simp
       rfl
      refine hK.out _ _ ⟨.slice Ao25 y235.length co25, .slice Ao24 y238.length co24, .slice Ao23 y241.length co23, gb244, m6_, m7_, (by rw [ha.out]; exact putSel_none (v := undef) rfl), (by (with_reducible repeat (first | refine blk_drewN ?_ _ | refine blk_drew ?_ | refine blk_alloc ?_ _)); refine blk_far ?_ NB234_244.out _; (with_reducible repeat (first | refine blk_drewN ?_ _ | refine blk_drew ?_ | refine blk_alloc ?_ _)); refine blk_far ?_ NB234_244.out _; (with_reducible repeat (first | refine blk_drewN ?_ _ | refine blk_drew ?_ | refine blk_alloc ?_ _)); refine blk_far ?_ NB234_244.out _; (with_reducible repeat (first | refine blk_drewN ?_ _ | refine blk_drew ?_ | refine blk_alloc ?_ _)); refine blk_far ?_ NB234_244.out _; (with_reducible repeat (first | refine blk_drewN ?_ _ | refine blk_drew ?_ | refine blk_alloc ?_ _)); exact BK234.out), (by repeat (first | (with_reducible first | exact HB.out | apply below_alloc | apply pw_below_drewN | apply below_drew1 | refine below_set ?_ GE234.out | refine below_set ?_ GE244.out) | exact HB.out)), fun _ => (by (with_reducible repeat (first | apply Kd.R_alloc | apply Kd.R_drewN | apply Kd.R_drew)); exact Kd.R_mono (Kd.R_far (p := ⟨gb244, 3, none⟩) (Kd.R_far (p := ⟨gb244, 2, none⟩) (Kd.R_far (p := ⟨gb244, 1, none⟩) (Kd.R_far (p := ⟨gb244, 0, none⟩) (Kd.R_types HO237.out BK244.out (by decide)) (fun _ hk => hk.2) (.slice Ao25 y235.length co25)) (fun _ hk => hk.2) (.slice Ao24 y238.length co24)) (fun _ hk => hk.2) (.slice Ao23 y241.length co23)) (fun _ hk => hk.2) (.slice none 0 0)) (fun _ hk => by first | trivial | exact hk.1 | exact ⟨hk.1.1, hk.1.2⟩)), fun _ => (by (with_reducible repeat (first | apply Kd.R_alloc | apply Kd.R_drewN | apply Kd.R_drew)); exact Kd.R_mono (Kd.R_far (p := ⟨gb244, 3, none⟩) (Kd.R_far (p := ⟨gb244, 2, none⟩) (Kd.R_far (p := ⟨gb244, 1, none⟩) (Kd.R_far (p := ⟨gb244, 0, none⟩) (Kd.R_types HO240.out BK244.out (by decide)) (fun _ hk => hk.2) (.slice Ao25 y235.length co25)) (fun _ hk => hk.2) (.slice Ao24 y238.length co24)) (fun _ hk => hk.2) (.slice Ao23 y241.length co23)) (fun _ hk => hk.2) (.slice none 0 0)) (fun _ hk => by first | trivial | exact hk.1 | exact ⟨hk.1.1, hk.1.2⟩)), fun _ => (by (with_reducible repeat (first | apply Kd.R_alloc | apply Kd.R_drewN | apply Kd.R_drew)); exact Kd.R_mono (Kd.R_far (p := ⟨gb244, 3, none⟩) (Kd.R_far (p := ⟨gb244, 2, none⟩) (Kd.R_far (p := ⟨gb244, 1, none⟩) (Kd.R_far (p := ⟨gb244, 0, none⟩) (Kd.R_types HO243.out BK244.out (by decide)) (fun _ hk => hk.2) (.slice Ao25 y235.length co25)) (fun _ hk => hk.2) (.slice Ao24 y238.length co24)) (fun _ hk => hk.2) (.slice Ao23 y241.length co23)) (fun _ hk => hk.2) (.slice none 0 0)) (fun _ hk => by first | trivial | exact hk.1 | exact ⟨hk.1.1, hk.1.2⟩)), fun _ h1_ => absurd ((up_self b 8).symm.trans h1_) (by decide), fun _ => GW244.out, fun _ => GE244.out, fun _ => NB234_244.out, fun _ => NB244_234.out, fun _ => (by (with_reducible repeat (first | refine blk_drewN ?_ _ | refine blk_drew ?_ | refine blk_alloc ?_ _)); refine blk_put (cs := #[.slice Ao25 y235.length co25, .slice Ao24 y238.length co24, .slice Ao23 y241.length co23, .slice none 0 0]) ?_ 3 _ rfl; (with_reducible repeat (first | refine blk_drewN ?_ _ | refine blk_drew ?_ | refine blk_alloc ?_ _)); refine blk_put (cs := #[.slice Ao25 y235.length co25, .slice Ao24 y238.length co24, .slice none 0 0, .slice none 0 0]) ?_ 2 _ rfl; (with_reducible repeat (first | refine blk_drewN ?_ _ | refine blk_drew ?_ | refine blk_alloc ?_ _)); refine blk_put (cs := #[.slice Ao25 y235.length co25, .slice none 0 0, .slice none 0 0, .slice none 0 0]) ?_ 1 _ rfl; (with_reducible repeat (first | refine blk_drewN ?_ _ | refine blk_drew ?_ | refine blk_alloc ?_ _)); refine blk_put (cs := #[.slice none 0 0, .slice none 0 0, .slice none 0 0, .slice none 0 0]) ?_ 0 _ rfl; (with_reducible repeat (first | refine blk_drewN ?_ _ | refine blk_drew ?_ | refine blk_alloc ?_ _)); exact BK244.out), Q_NE_v236_v239, Q_NE_v236_v242, Q_NE_v239_v242, Q_X6_, Q_X7_⟩
     exact steps_nil
    rintro b a w26 hall ⟨v236, v239, v242, gb244, m6_, m7_, ha, Q_BK234, Q_HB, Q_HO237, Q_HO240, Q_HO243, Q_BK244, Q_GW244, Q_GE244, Q_NB234_244, Q_NB244_234, Q_BK244_e8, Q_NE_v236_v239, Q_NE_v236_v242, Q_NE_v239_v242, Q_X6_, Q_X7_⟩
    clear BK234 HB
    have hb1_ := hall 1 (by kernel_rfl)
    have hb3_ := hall 3 (by kernel_rfl)
    have hb5_ := hall 5 (by kernel_rfl)
    have hb6_ := hall 6 (by kernel_rfl)
    have hb7_ := hall 7 (by kernel_rfl)
    have hb8_ := hall 8 (by kernel_rfl)
    subst ha
    obtain rfl := Q_X6_ hb6_
    obtain rfl := Q_X7_ hb7_
    simp only [putSel, hb1_, hb3_, hb5_, hb6_, hb7_, hb8_, if_true, Act.put, List.setIfInBounds_toArray, List.set_cons_zero, List.set_cons_succ]
    have BK234 := Aside0.mk Q_BK234
    clear Q_BK234
    have HB := Aside0.mk Q_HB
    clear Q_HB
    have HO237 := Aside0.mk (Q_HO237 hb1_)
    clear Q_HO237
    have HO240 := Aside0.mk (Q_HO240 hb3_)
    clear Q_HO240
    have HO243 := Aside0.mk (Q_HO243 hb5_)
    clear Q_HO243
    clear Q_BK244
    have GW244 := Aside0.mk (Q_GW244 hb7_)
    clear Q_GW244
    have GE244 := Aside0.mk (Q_GE244 hb7_)
    clear Q_GE244
    have NB234_244 := Aside0.mk (Q_NB234_244 hb7_)
    clear Q_NB234_244
    have NB244_234 := Aside0.mk (Q_NB244_234 hb7_)
    clear Q_NB244_234
    have BK244 := Aside0.mk (Q_BK244_e8 hb8_)
    clear Q_BK244_e8
    have NE_v236_v239 := Aside0.mk (Q_NE_v236_v239 hb1_ hb3_)
    clear Q_NE_v236_v239
    have NE_v236_v242 := Aside0.mk (Q_NE_v236_v242 hb1_ hb5_)
    clear Q_NE_v236_v242
    have NE_v239_v242 := Aside0.mk (Q_NE_v239_v242 hb3_ hb5_)
    clear Q_NE_v239_v242
    clear hall hb1_ hb3_ hb5_ hb6_ hb7_ hb8_
    have n_HO237 := Aside0.mk (show Kd.R (Kd.int .i64) 3 w26 w.heap.size (fun k_ => some k_ ≠ (v239 : Value).ownBlock ∧ some k_ ≠ (v242 : Value).ownBlock) v236 y235 from Kd.R_of_own (Kd.own_of_R HO237.out) (fun k_ e_ => ⟨(fun e2_ => NE_v236_v239.out k_ e_ e2_.symm), (fun e2_ => NE_v236_v242.out k_ e_ e2_.symm)⟩))
    have n_HO240 := Aside0.mk (show Kd.R (Kd.int .i64) 3 w26 w.heap.size (fun k_ => some k_ ≠ (v236 : Value).ownBlock ∧ some k_ ≠ (v242 : Value).ownBlock) v239 y238 from Kd.R_of_own (Kd.own_of_R HO240.out) (fun k_ e_ => ⟨(fun e2_ => NE_v236_v239.out k_ e2_.symm e_), (fun e2_ => NE_v239_v242.out k_ e_ e2_.symm)⟩))
    have n_HO243 := Aside0.mk (show Kd.R (Kd.int .i64) 3 w26 w.heap.size (fun k_ => some k_ ≠ (v236 : Value).ownBlock ∧ some k_ ≠ (v239 : Value).ownBlock) v242 y241 from Kd.R_of_own (Kd.own_of_R HO243.out) (fun k_ e_ => ⟨(fun e2_ => NE_v236_v242.out k_ e2_.symm e_), (fun e2_ => NE_v239_v242.out k_ e2_.symm e_)⟩))
    clear HO237
    have HO237 := n_HO237
    clear n_HO237
    clear HO240
    have HO240 := n_HO240
    clear n_HO240
    clear HO243
    have HO243 := n_HO243
    clear n_HO243
    clear NE_v236_v239 NE_v236_v242 NE_v239_v242
    obtain ⟨Ao27, co27, eo27⟩ := Kd.R_slice HO243.out
    (first | subst eo27 | (injection eo27 with f1_ f2_ f3_; have f4_ := f1_.symm; have f5_ := f3_.symm; clear f1_ f2_ f3_; subst f4_; subst f5_))
    obtain ⟨Ao28, co28, eo28⟩ := Kd.R_slice HO240.out
    (first | subst eo28 | (injection eo28 with f1_ f2_ f3_; have f4_ := f1_.symm; have f5_ := f3_.symm; clear f1_ f2_ f3_; subst f4_; subst f5_))
    obtain ⟨Ao29, co29, eo29⟩ := Kd.R_slice HO237.out
    (first | subst eo29 | (injection eo29 with f1_ f2_ f3_; have f4_ := f1_.symm; have f5_ := f3_.symm; clear f1_ f2_ f3_; subst f4_; subst f5_))
    try go_wp2
    have n0_ := Aside0.mk (Kd.R_drew HO237.out)
    have n1_ := Aside0.mk (Kd.R_drew HO240.out)
    have n2_ := Aside0.mk (Kd.R_drew HO243.out)
    have n3_ := Aside0.mk (blk_drew BK234.out)
    have n4_ := Aside0.mk (blk_drew BK244.out)
    have n5_ := Aside0.mk (below_drew1 HB.out)
    clear HO237
    clear HO240
    clear HO243
    clear BK234
    clear BK244
    clear HB
    have HO237 := n0_
    have HO240 := n1_
    have HO243 := n2_
    have BK234 := n3_
    have BK244 := n4_
    have HB := n5_
    clear n0_ n1_ n2_ n3_ n4_ n5_
    refine start_ (n := 7) (S := fun w' => True) (ds := []) #[false, false, false, false, false, false, false] (by kernel_rfl) rfl rfl trivial (fun hHeld => ?_)
    generalize w26.drew = w30 at HO237 HO240 HO243 BK234 BK244 HB hHeld ⊢
    refine pure_ (i := 1) (N := some 24) (v := ?_) (a' := ?_) #[false, true, false, false, false, false, false] rfl rfl (by kernel_rfl) (fun _ _ _ h => h) (Or.inl ⟨by rfl, ?_⟩) ?_ ?_
    rotate_left
    ·intro w'
     go_simp
     with_reducible rfl
    rotate_left
    ·simp only [Act.put, List.setIfInBounds_toArray, List.set_cons_zero, List.set_cons_succ, i64_w, i32_w]
     rfl
    refine pure_ (i := 3) (N := some 26) (v := ?_) (a' := ?_) #[false, true, false, true, false, false, false] rfl rfl (by kernel_rfl) (fun _ _ _ h => h) (Or.inl ⟨by rfl, ?_⟩) ?_ ?_
    rotate_left
    ·intro w'
     go_simp
     with_reducible rfl
    rotate_left
    ·simp only [Act.put, List.setIfInBounds_toArray, List.set_cons_zero, List.set_cons_succ, i64_w, i32_w]
     rfl
    refine join_ (σ := Value × Value × Value) 1 #[true, true, true, true, true, true, false] (fun s_ => [(23, s_.1), (25, s_.2.1), (27, s_.2.2), (8, s_.2.1)]) (fun s_ w' => (Kd.R (Kd.int .i64) 3 w' w.heap.size (fun k_ => some k_ ≠ (.slice Ao28 y238.length co28 : Value).ownBlock ∧ some k_ ≠ (.slice Ao27 y241.length co27 : Value).ownBlock ∧ some k_ ≠ (s_.1 : Value).ownBlock ∧ some k_ ≠ (s_.2.1 : Value).ownBlock ∧ some k_ ≠ (s_.2.2 : Value).ownBlock) (.slice Ao29 y235.length co29) y235) ∧ (Kd.R (Kd.int .i64) 3 w' w.heap.size (fun k_ => some k_ ≠ (.slice Ao29 y235.length co29 : Value).ownBlock ∧ some k_ ≠ (.slice Ao27 y241.length co27 : Value).ownBlock ∧ some k_ ≠ (s_.1 : Value).ownBlock ∧ some k_ ≠ (s_.2.1 : Value).ownBlock ∧ some k_ ≠ (s_.2.2 : Value).ownBlock) (.slice Ao28 y238.length co28) y238) ∧ (Kd.R (Kd.int .i64) 3 w' w.heap.size (fun k_ => some k_ ≠ (.slice Ao29 y235.length co29 : Value).ownBlock ∧ some k_ ≠ (.slice Ao28 y238.length co28 : Value).ownBlock ∧ some k_ ≠ (s_.1 : Value).ownBlock ∧ some k_ ≠ (s_.2.1 : Value).ownBlock ∧ some k_ ≠ (s_.2.2 : Value).ownBlock) (.slice Ao27 y241.length co27) y241) ∧ (Kd.R (Kd.int .i64) 3 w' w.heap.size (fun k_ => some k_ ≠ (.slice Ao29 y235.length co29 : Value).ownBlock ∧ some k_ ≠ (.slice Ao28 y238.length co28 : Value).ownBlock ∧ some k_ ≠ (.slice Ao27 y241.length co27 : Value).ownBlock ∧ some k_ ≠ (s_.2.1 : Value).ownBlock ∧ some k_ ≠ (s_.2.2 : Value).ownBlock) s_.1 y245) ∧ (Kd.R (Kd.int .i64) 3 w' w.heap.size (fun k_ => some k_ ≠ (.slice Ao29 y235.length co29 : Value).ownBlock ∧ some k_ ≠ (.slice Ao28 y238.length co28 : Value).ownBlock ∧ some k_ ≠ (.slice Ao27 y241.length co27 : Value).ownBlock ∧ some k_ ≠ (s_.1 : Value).ownBlock ∧ some k_ ≠ (s_.2.2 : Value).ownBlock) s_.2.1 t248) ∧ (Kd.R (Kd.int .i64) 3 w' w.heap.size (fun k_ => some k_ ≠ (.slice Ao29 y235.length co29 : Value).ownBlock ∧ some k_ ≠ (.slice Ao28 y238.length co28 : Value).ownBlock ∧ some k_ ≠ (.slice Ao27 y241.length co27 : Value).ownBlock ∧ some k_ ≠ (s_.1 : Value).ownBlock ∧ some k_ ≠ (s_.2.1 : Value).ownBlock) s_.2.2 y251) ∧ (w'.heap[gb234]? = some (.cells #[.slice none 0 0, .slice none 0 0, .slice none 0 0, .slice none 0 0] 54 (0, 0))) ∧ (w'.heap[gb244]? = some (.cells #[.slice Ao29 y235.length co29, .slice Ao28 y238.length co28, .slice Ao27 y241.length co27, .slice none 0 0] 54 (0, 0))) ∧ (Below w.heap.size w w')) ?_ ?_
    rotate_left
    ·intro hCont
     refine two_ (i := 0) (j := 4) (Ni := some 23) (Nj := some 27) #[true, true, false, true, false, false, false] #[false, true, false, true, true, false, false] rfl rfl rfl rfl (by kernel_rfl) (by decide) (by decide) (fun K hK => ?_) (fun K hK => ?_)
     ·skip
      refine Kd.R_lit_step (Kd.int .i64) _ 3 ?hg (N := 23) ?hd (xs := ([(-1)] : List Int)) (inner := [.int .i64 (-1)]) (ok := fun _ => True) (okp := fun _ => True) ?hr ?hp (fun _ hk => hk) trivial (Below.refl _ _) (Nat.le_refl _) (by simp) ?_; (case hd => rfl); (case hg => rfl); (case hr => first | (go_simp; done) | (go_simp; rfl)); (case hp => exact (Reps.one (show Kd.M (Kd.int .i64) _ _ _ (-1) [.int .i64 (-1)] from rfl) (Reps.none _ _)))
      intro v246 w31 ho32 hb hg_ hnew_
      clear hg_ hnew_
      (first | rw [← Ny245.out] at ho32 | (simp only [Int.reduceToNat] at ho32; rw [← Ny245.out] at ho32))
      have n0_ := Aside0.mk (Kd.R_elder' HO237.out (Kd.R_base ho32) hb)
      have n1_ := Aside0.mk (Kd.R_elder' HO240.out (Kd.R_base ho32) hb)
      have n2_ := Aside0.mk (Kd.R_elder' HO243.out (Kd.R_base ho32) hb)
      have n3_ := Aside0.mk (Kd.R_lower (Kd.R_new' (Kd.R_new' (Kd.R_new' ho32 (Kd.R_lt HO237.out)) (Kd.R_lt HO240.out)) (Kd.R_lt HO243.out)) (below_size (by repeat (first | (with_reducible first | exact HB.out | apply below_alloc | apply pw_below_drewN | apply below_drew1 | refine below_set ?_ GE234.out | refine below_set ?_ GE244.out) | exact HB.out))))
      have n4_ := Aside0.mk (blk_below (g := gb234) (o := .cells #[.slice none 0 0, .slice none 0 0, .slice none 0 0, .slice none 0 0] 54 (0, 0)) BK234.out hb)
      have n5_ := Aside0.mk (blk_below (g := gb244) (o := .cells #[.slice Ao29 y235.length co29, .slice Ao28 y238.length co28, .slice Ao27 y241.length co27, .slice none 0 0] 54 (0, 0)) BK244.out hb)
      have n6_ := Aside0.mk (below_step (by repeat (first | (with_reducible first | exact HB.out | apply below_alloc | apply pw_below_drewN | apply below_drew1 | refine below_set ?_ GE234.out | refine below_set ?_ GE244.out) | exact HB.out)) hb)
      clear HO237
      clear HO240
      clear HO243
      clear BK234
      clear BK244
      clear HB
      have HO237 := n0_
      have HO240 := n1_
      have HO243 := n2_
      have HO247 := n3_
      have BK234 := n4_
      have BK244 := n5_
      have HB := n6_
      clear n0_ n1_ n2_ n3_ n4_ n5_ n6_
      clear hb ho32
      obtain ⟨Ao33, co33, eo33⟩ := Kd.R_slice HO247.out
      (first | subst eo33 | (injection eo33 with f1_ f2_ f3_; have f4_ := f1_.symm; have f5_ := f3_.symm; clear f1_ f2_ f3_; subst f4_; subst f5_))
      refine hK.out _ _ trivial (fun hHeld => ?_)
      clear hK K
      refine norm_ (a' := ?_) ?_ ?_
      rotate_left
      ·show Act.put _ (some 23) _ = _
       simp only [Act.put, List.setIfInBounds_toArray, List.set_cons_zero, List.set_cons_succ, i64_w, i32_w]
       rfl
      refine two_ (i := 2) (j := 4) (Ni := some 25) (Nj := some 27) #[true, true, true, true, false, false, false] #[true, true, false, true, true, false, false] rfl rfl rfl rfl (by kernel_rfl) (by decide) (by decide) (fun K hK => ?_) (fun K hK => ?_)
      ·skip
       refine goes_ Try.func68 (by kernel_rfl) rfl #[.slice Ao33 y245.length co33, .int .i64 a0] (by rfl) rfl rfl (by (try simp only [List.map_toArray, List.map_cons, List.map_nil]); first | done | rfl | (simp only [List.length_drop, List.length_take]; rfl)) ?_
       with_reducible refine (slices_Repeat_int_int.calls _ _ y245 a0 t248 _ ?side1 ?side2 A6.out).mono ?_
       (case side1 => repeat (first | exact (Kd.R_reads' HO247.out).2.2 | (with_reducible refine Kd.C_alloc ?_ _) | (with_reducible refine Kd.C_drewN ?_ _) | (with_reducible refine Kd.C_drew ?_)))
       (case side2 => exact (Kd.R_reads' HO247.out).2.1)
       rintro e w34 ⟨v249, rfl, ho0, hb⟩
       refine ⟨_, rfl, ?_⟩
       have n0_ := Aside0.mk (Kd.R_elder' HO237.out (Kd.R_base ho0) hb)
       have n1_ := Aside0.mk (Kd.R_elder' HO240.out (Kd.R_base ho0) hb)
       have n2_ := Aside0.mk (Kd.R_elder' HO243.out (Kd.R_base ho0) hb)
       have n3_ := Aside0.mk (Kd.R_elder' HO247.out (Kd.R_base ho0) hb)
       have n4_ := Aside0.mk (Kd.R_lower (Kd.R_new' (Kd.R_new' (Kd.R_new' (Kd.R_new' ho0 (Kd.R_lt HO237.out)) (Kd.R_lt HO240.out)) (Kd.R_lt HO243.out)) (Kd.R_lt HO247.out)) (below_size (by repeat (first | (with_reducible first | exact HB.out | apply below_alloc | apply pw_below_drewN | apply below_drew1 | refine below_set ?_ GE234.out | refine below_set ?_ GE244.out) | exact HB.out))))
       have n5_ := Aside0.mk (blk_below (g := gb234) (o := .cells #[.slice none 0 0, .slice none 0 0, .slice none 0 0, .slice none 0 0] 54 (0, 0)) BK234.out hb)
       have n6_ := Aside0.mk (blk_below (g := gb244) (o := .cells #[.slice Ao29 y235.length co29, .slice Ao28 y238.length co28, .slice Ao27 y241.length co27, .slice none 0 0] 54 (0, 0)) BK244.out hb)
       have n7_ := Aside0.mk (below_step (by repeat (first | (with_reducible first | exact HB.out | apply below_alloc | apply pw_below_drewN | apply below_drew1 | refine below_set ?_ GE234.out | refine below_set ?_ GE244.out) | exact HB.out)) hb)
       clear HO237
       clear HO240
       clear HO243
       clear HO247
       clear BK234
       clear BK244
       clear HB
       have HO237 := n0_
       have HO240 := n1_
       have HO243 := n2_
       have HO247 := n3_
       have HO250 := n4_
       have BK234 := n5_
       have BK244 := n6_
       have HB := n7_
       clear n0_ n1_ n2_ n3_ n4_ n5_ n6_ n7_
       (try clear hb)
       (try clear hb2)
       (try clear hk)
       (try clear hi)
       (try clear ho0)
       refine hK.out _ _ trivial (fun hHeld => ?_)
       clear hK K
       refine norm_ (a' := ?_) ?_ ?_
       rotate_left
       ·show Act.put _ (some 25) _ = _
        simp only [Act.put, List.setIfInBounds_toArray, List.set_cons_zero, List.set_cons_succ, i64_w, i32_w]
        rfl
       refine pure_ (i := 5) (N := some 8) (v := ?_) (a' := ?_) #[true, true, true, true, false, true, false] rfl rfl (by kernel_rfl) (fun _ _ _ h => h) (Or.inl ⟨by rfl, ?_⟩) ?_ ?_
       rotate_left
       ·intro w'
        go_simp
        with_reducible rfl
       rotate_left
       ·simp only [Act.put, List.setIfInBounds_toArray, List.set_cons_zero, List.set_cons_succ, i64_w, i32_w]
        rfl
       refine one_ (i := 4) (N := some 27) #[true, true, true, true, true, true, false] rfl rfl (by kernel_rfl) (by decide) (fun K hK => ?_)
       refine Kd.R_make_step (Kd.int .i64) _ 3 (by rfl) (N := 27) rfl 24 _ _ rfl a0 rfl rfl Try.underlying24 (.int .i64 0) 8 info3 rfl (by decide) (by omega) 0 (ok := fun _ => True) (okp := fun _ => True) rfl (fun _ hk => hk) trivial (of_decide_eq_true (by first | (with_reducible assumption) | assumption)) (Nat.le_trans (Nat.mul_le_mul_right _ (of_decide_eq_true (by first | (with_reducible assumption) | assumption) : a0.toNat ≤ 35184372088832)) (by omega)) (Below.refl _ _) (Nat.le_refl _) ?_
       intro v252 w35 ho36 hb hg_ hnew_
       clear hg_ hnew_
       (first | rw [← Ny251.out] at ho36 | (simp only [Int.reduceToNat] at ho36; rw [← Ny251.out] at ho36))
       have n0_ := Aside0.mk (Kd.R_elder' HO237.out (Kd.R_base ho36) hb)
       have n1_ := Aside0.mk (Kd.R_elder' HO240.out (Kd.R_base ho36) hb)
       have n2_ := Aside0.mk (Kd.R_elder' HO243.out (Kd.R_base ho36) hb)
       have n3_ := Aside0.mk (Kd.R_elder' HO247.out (Kd.R_base ho36) hb)
       have n4_ := Aside0.mk (Kd.R_elder' HO250.out (Kd.R_base ho36) hb)
       have n5_ := Aside0.mk (Kd.R_lower (Kd.R_new' (Kd.R_new' (Kd.R_new' (Kd.R_new' (Kd.R_new' ho36 (Kd.R_lt HO237.out)) (Kd.R_lt HO240.out)) (Kd.R_lt HO243.out)) (Kd.R_lt HO247.out)) (Kd.R_lt HO250.out)) (below_size (by repeat (first | (with_reducible first | exact HB.out | apply below_alloc | apply pw_below_drewN | apply below_drew1 | refine below_set ?_ GE234.out | refine below_set ?_ GE244.out) | exact HB.out))))
       have n6_ := Aside0.mk (blk_below (g := gb234) (o := .cells #[.slice none 0 0, .slice none 0 0, .slice none 0 0, .slice none 0 0] 54 (0, 0)) BK234.out hb)
       have n7_ := Aside0.mk (blk_below (g := gb244) (o := .cells #[.slice Ao29 y235.length co29, .slice Ao28 y238.length co28, .slice Ao27 y241.length co27, .slice none 0 0] 54 (0, 0)) BK244.out hb)
       have n8_ := Aside0.mk (below_step (by repeat (first | (with_reducible first | exact HB.out | apply below_alloc | apply pw_below_drewN | apply below_drew1 | refine below_set ?_ GE234.out | refine below_set ?_ GE244.out) | exact HB.out)) hb)
       clear HO237
       clear HO240
       clear HO243
       clear HO247
       clear HO250
       clear BK234
       clear BK244
       clear HB
       have HO237 := n0_
       have HO240 := n1_
       have HO243 := n2_
       have HO247 := n3_
       have HO250 := n4_
       have HO253 := n5_
       have BK234 := n6_
       have BK244 := n7_
       have HB := n8_
       clear n0_ n1_ n2_ n3_ n4_ n5_ n6_ n7_ n8_
       clear hb ho36
       refine hK.out _ _ trivial (fun hHeld => ?_)
       clear hK K
       refine norm_ (a' := ?_) ?_ ?_
       rotate_left
       ·show Act.put _ (some 27) _ = _
        simp only [Act.put, List.setIfInBounds_toArray, List.set_cons_zero, List.set_cons_succ, i64_w, i32_w]
        rfl
       exact norm_ (by simp only [putAll, Act.put, List.setIfInBounds_toArray, List.set_cons_zero, List.set_cons_succ]) (hCont (.slice Ao33 y245.length co33, v249, v252) _ ⟨(by (with_reducible repeat (first | apply Kd.R_alloc | apply Kd.R_drewN | apply Kd.R_drew)); exact Kd.R_mono HO237.out (fun _ hk => ⟨hk.1.1.1.1, ⟨hk.1.1.1.2, ⟨hk.1.1.2, ⟨hk.1.2, hk.2⟩⟩⟩⟩)), (by (with_reducible repeat (first | apply Kd.R_alloc | apply Kd.R_drewN | apply Kd.R_drew)); exact Kd.R_mono HO240.out (fun _ hk => ⟨hk.1.1.1.1, ⟨hk.1.1.1.2, ⟨hk.1.1.2, ⟨hk.1.2, hk.2⟩⟩⟩⟩)), (by (with_reducible repeat (first | apply Kd.R_alloc | apply Kd.R_drewN | apply Kd.R_drew)); exact Kd.R_mono HO243.out (fun _ hk => ⟨hk.1.1.1.1, ⟨hk.1.1.1.2, ⟨hk.1.1.2, ⟨hk.1.2, hk.2⟩⟩⟩⟩)), (by (with_reducible repeat (first | apply Kd.R_alloc | apply Kd.R_drewN | apply Kd.R_drew)); exact Kd.R_mono HO247.out (fun _ hk => ⟨hk.1.1.1.1.2, ⟨hk.1.1.1.2, ⟨hk.1.1.2, ⟨hk.1.2, hk.2⟩⟩⟩⟩)), (by (with_reducible repeat (first | apply Kd.R_alloc | apply Kd.R_drewN | apply Kd.R_drew)); exact Kd.R_mono HO250.out (fun _ hk => ⟨hk.1.1.1.1.2, ⟨hk.1.1.1.2, ⟨hk.1.1.2, ⟨hk.1.2, hk.2⟩⟩⟩⟩)), (by (with_reducible repeat (first | apply Kd.R_alloc | apply Kd.R_drewN | apply Kd.R_drew)); exact Kd.R_mono HO253.out (fun _ hk => ⟨hk.1.1.1.1.2, ⟨hk.1.1.1.2, ⟨hk.1.1.2, ⟨hk.1.2, hk.2⟩⟩⟩⟩)), BK234.out, BK244.out, (by repeat (first | (with_reducible first | exact HB.out | apply below_alloc | apply pw_below_drewN | apply below_drew1 | refine below_set ?_ GE234.out | refine below_set ?_ GE244.out) | exact HB.out))⟩)
      ·skip
       refine Kd.R_make_step (Kd.int .i64) _ 3 (by rfl) (N := 27) rfl 24 _ _ rfl a0 rfl rfl Try.underlying24 (.int .i64 0) 8 info3 rfl (by decide) (by omega) 0 (ok := fun _ => True) (okp := fun _ => True) rfl (fun _ hk => hk) trivial (of_decide_eq_true (by first | (with_reducible assumption) | assumption)) (Nat.le_trans (Nat.mul_le_mul_right _ (of_decide_eq_true (by first | (with_reducible assumption) | assumption) : a0.toNat ≤ 35184372088832)) (by omega)) (Below.refl _ _) (Nat.le_refl _) ?_
       intro v252 w33 ho34 hb hg_ hnew_
       clear hg_ hnew_
       (first | rw [← Ny251.out] at ho34 | (simp only [Int.reduceToNat] at ho34; rw [← Ny251.out] at ho34))
       have n0_ := Aside0.mk (Kd.R_elder' HO237.out (Kd.R_base ho34) hb)
       have n1_ := Aside0.mk (Kd.R_elder' HO240.out (Kd.R_base ho34) hb)
       have n2_ := Aside0.mk (Kd.R_elder' HO243.out (Kd.R_base ho34) hb)
       have n3_ := Aside0.mk (Kd.R_elder' HO247.out (Kd.R_base ho34) hb)
       have n4_ := Aside0.mk (Kd.R_lower (Kd.R_new' (Kd.R_new' (Kd.R_new' (Kd.R_new' ho34 (Kd.R_lt HO237.out)) (Kd.R_lt HO240.out)) (Kd.R_lt HO243.out)) (Kd.R_lt HO247.out)) (below_size (by repeat (first | (with_reducible first | exact HB.out | apply below_alloc | apply pw_below_drewN | apply below_drew1 | refine below_set ?_ GE234.out | refine below_set ?_ GE244.out) | exact HB.out))))
       have n5_ := Aside0.mk (blk_below (g := gb234) (o := .cells #[.slice none 0 0, .slice none 0 0, .slice none 0 0, .slice none 0 0] 54 (0, 0)) BK234.out hb)
       have n6_ := Aside0.mk (blk_below (g := gb244) (o := .cells #[.slice Ao29 y235.length co29, .slice Ao28 y238.length co28, .slice Ao27 y241.length co27, .slice none 0 0] 54 (0, 0)) BK244.out hb)
       have n7_ := Aside0.mk (below_step (by repeat (first | (with_reducible first | exact HB.out | apply below_alloc | apply pw_below_drewN | apply below_drew1 | refine below_set ?_ GE234.out | refine below_set ?_ GE244.out) | exact HB.out)) hb)
       clear HO237
       clear HO240
       clear HO243
       clear HO247
       clear BK234
       clear BK244
       clear HB
       have HO237 := n0_
       have HO240 := n1_
       have HO243 := n2_
       have HO247 := n3_
       have HO253 := n4_
       have BK234 := n5_
       have BK244 := n6_
       have HB := n7_
       clear n0_ n1_ n2_ n3_ n4_ n5_ n6_ n7_
       clear hb ho34
       obtain ⟨Ao35, co35, eo35⟩ := Kd.R_slice HO247.out
       (first | subst eo35 | (injection eo35 with f1_ f2_ f3_; have f4_ := f1_.symm; have f5_ := f3_.symm; clear f1_ f2_ f3_; subst f4_; subst f5_))
       refine hK.out _ _ trivial (fun hHeld => ?_)
       clear hK K
       refine norm_ (a' := ?_) ?_ ?_
       rotate_left
       ·show Act.put _ (some 27) _ = _
        simp only [Act.put, List.setIfInBounds_toArray, List.set_cons_zero, List.set_cons_succ, i64_w, i32_w]
        rfl
       refine one_ (i := 2) (N := some 25) #[true, true, true, true, true, false, false] rfl rfl (by kernel_rfl) (by decide) (fun K hK => ?_)
       refine goes_ Try.func68 (by kernel_rfl) rfl #[.slice Ao35 y245.length co35, .int .i64 a0] (by rfl) rfl rfl (by (try simp only [List.map_toArray, List.map_cons, List.map_nil]); first | done | rfl | (simp only [List.length_drop, List.length_take]; rfl)) ?_
       with_reducible refine (slices_Repeat_int_int.calls _ _ y245 a0 t248 _ ?side1 ?side2 A6.out).mono ?_
       (case side1 => repeat (first | exact (Kd.R_reads' HO247.out).2.2 | (with_reducible refine Kd.C_alloc ?_ _) | (with_reducible refine Kd.C_drewN ?_ _) | (with_reducible refine Kd.C_drew ?_)))
       (case side2 => exact (Kd.R_reads' HO247.out).2.1)
       rintro e w36 ⟨v249, rfl, ho0, hb⟩
       refine ⟨_, rfl, ?_⟩
       have n0_ := Aside0.mk (Kd.R_elder' HO237.out (Kd.R_base ho0) hb)
       have n1_ := Aside0.mk (Kd.R_elder' HO240.out (Kd.R_base ho0) hb)
       have n2_ := Aside0.mk (Kd.R_elder' HO243.out (Kd.R_base ho0) hb)
       have n3_ := Aside0.mk (Kd.R_elder' HO247.out (Kd.R_base ho0) hb)
       have n4_ := Aside0.mk (Kd.R_elder' HO253.out (Kd.R_base ho0) hb)
       have n5_ := Aside0.mk (Kd.R_lower (Kd.R_new' (Kd.R_new' (Kd.R_new' (Kd.R_new' (Kd.R_new' ho0 (Kd.R_lt HO237.out)) (Kd.R_lt HO240.out)) (Kd.R_lt HO243.out)) (Kd.R_lt HO247.out)) (Kd.R_lt HO253.out)) (below_size (by repeat (first | (with_reducible first | exact HB.out | apply below_alloc | apply pw_below_drewN | apply below_drew1 | refine below_set ?_ GE234.out | refine below_set ?_ GE244.out) | exact HB.out))))
       have n6_ := Aside0.mk (blk_below (g := gb234) (o := .cells #[.slice none 0 0, .slice none 0 0, .slice none 0 0, .slice none 0 0] 54 (0, 0)) BK234.out hb)
       have n7_ := Aside0.mk (blk_below (g := gb244) (o := .cells #[.slice Ao29 y235.length co29, .slice Ao28 y238.length co28, .slice Ao27 y241.length co27, .slice none 0 0] 54 (0, 0)) BK244.out hb)
       have n8_ := Aside0.mk (below_step (by repeat (first | (with_reducible first | exact HB.out | apply below_alloc | apply pw_below_drewN | apply below_drew1 | refine below_set ?_ GE234.out | refine below_set ?_ GE244.out) | exact HB.out)) hb)
       clear HO237
       clear HO240
       clear HO243
       clear HO247
       clear HO253
       clear BK234
       clear BK244
       clear HB
       have HO237 := n0_
       have HO240 := n1_
       have HO243 := n2_
       have HO247 := n3_
       have HO253 := n4_
       have HO250 := n5_
       have BK234 := n6_
       have BK244 := n7_
       have HB := n8_
       clear n0_ n1_ n2_ n3_ n4_ n5_ n6_ n7_ n8_
       (try clear hb)
       (try clear hb2)
       (try clear hk)
       (try clear hi)
       (try clear ho0)
       refine hK.out _ _ trivial (fun hHeld => ?_)
       clear hK K
       refine norm_ (a' := ?_) ?_ ?_
       rotate_left
       ·show Act.put _ (some 25) _ = _
        simp only [Act.put, List.setIfInBounds_toArray, List.set_cons_zero, List.set_cons_succ, i64_w, i32_w]
        rfl
       refine pure_ (i := 5) (N := some 8) (v := ?_) (a' := ?_) #[true, true, true, true, true, true, false] rfl rfl (by kernel_rfl) (fun _ _ _ h => h) (Or.inl ⟨by rfl, ?_⟩) ?_ ?_
       rotate_left
       ·intro w'
        go_simp
        with_reducible rfl
       rotate_left
       ·simp only [Act.put, List.setIfInBounds_toArray, List.set_cons_zero, List.set_cons_succ, i64_w, i32_w]
        rfl
       exact norm_ (by simp only [putAll, Act.put, List.setIfInBounds_toArray, List.set_cons_zero, List.set_cons_succ]) (hCont (.slice Ao35 y245.length co35, v249, v252) _ ⟨(by (with_reducible repeat (first | apply Kd.R_alloc | apply Kd.R_drewN | apply Kd.R_drew)); exact Kd.R_mono HO237.out (fun _ hk => ⟨hk.1.1.1.1, ⟨hk.1.1.1.2, ⟨hk.1.1.2, ⟨hk.2, hk.1.2⟩⟩⟩⟩)), (by (with_reducible repeat (first | apply Kd.R_alloc | apply Kd.R_drewN | apply Kd.R_drew)); exact Kd.R_mono HO240.out (fun _ hk => ⟨hk.1.1.1.1, ⟨hk.1.1.1.2, ⟨hk.1.1.2, ⟨hk.2, hk.1.2⟩⟩⟩⟩)), (by (with_reducible repeat (first | apply Kd.R_alloc | apply Kd.R_drewN | apply Kd.R_drew)); exact Kd.R_mono HO243.out (fun _ hk => ⟨hk.1.1.1.1, ⟨hk.1.1.1.2, ⟨hk.1.1.2, ⟨hk.2, hk.1.2⟩⟩⟩⟩)), (by (with_reducible repeat (first | apply Kd.R_alloc | apply Kd.R_drewN | apply Kd.R_drew)); exact Kd.R_mono HO247.out (fun _ hk => ⟨hk.1.1.1.1.2, ⟨hk.1.1.1.2, ⟨hk.1.1.2, ⟨hk.2, hk.1.2⟩⟩⟩⟩)), (by (with_reducible repeat (first | apply Kd.R_alloc | apply Kd.R_drewN | apply Kd.R_drew)); exact Kd.R_mono HO250.out (fun _ hk => ⟨hk.1.1.1.1.2, ⟨hk.1.1.1.2, ⟨hk.1.1.2, ⟨hk.1.2, hk.2⟩⟩⟩⟩)), (by (with_reducible repeat (first | apply Kd.R_alloc | apply Kd.R_drewN | apply Kd.R_drew)); exact Kd.R_mono HO253.out (fun _ hk => ⟨hk.1.1.1.1.2, ⟨hk.1.1.1.2, ⟨hk.1.1.2, ⟨hk.1.2, hk.2⟩⟩⟩⟩)), BK234.out, BK244.out, (by repeat (first | (with_reducible first | exact HB.out | apply below_alloc | apply pw_below_drewN | apply below_drew1 | refine below_set ?_ GE234.out | refine below_set ?_ GE244.out) | exact HB.out))⟩)
     ·skip
      refine Kd.R_make_step (Kd.int .i64) _ 3 (by rfl) (N := 27) rfl 24 _ _ rfl a0 rfl rfl Try.underlying24 (.int .i64 0) 8 info3 rfl (by decide) (by omega) 0 (ok := fun _ => True) (okp := fun _ => True) rfl (fun _ hk => hk) trivial (of_decide_eq_true (by first | (with_reducible assumption) | assumption)) (Nat.le_trans (Nat.mul_le_mul_right _ (of_decide_eq_true (by first | (with_reducible assumption) | assumption) : a0.toNat ≤ 35184372088832)) (by omega)) (Below.refl _ _) (Nat.le_refl _) ?_
      intro v252 w31 ho32 hb hg_ hnew_
      clear hg_ hnew_
      (first | rw [← Ny251.out] at ho32 | (simp only [Int.reduceToNat] at ho32; rw [← Ny251.out] at ho32))
      have n0_ := Aside0.mk (Kd.R_elder' HO237.out (Kd.R_base ho32) hb)
      have n1_ := Aside0.mk (Kd.R_elder' HO240.out (Kd.R_base ho32) hb)
      have n2_ := Aside0.mk (Kd.R_elder' HO243.out (Kd.R_base ho32) hb)
      have n3_ := Aside0.mk (Kd.R_lower (Kd.R_new' (Kd.R_new' (Kd.R_new' ho32 (Kd.R_lt HO237.out)) (Kd.R_lt HO240.out)) (Kd.R_lt HO243.out)) (below_size (by repeat (first | (with_reducible first | exact HB.out | apply below_alloc | apply pw_below_drewN | apply below_drew1 | refine below_set ?_ GE234.out | refine below_set ?_ GE244.out) | exact HB.out))))
      have n4_ := Aside0.mk (blk_below (g := gb234) (o := .cells #[.slice none 0 0, .slice none 0 0, .slice none 0 0, .slice none 0 0] 54 (0, 0)) BK234.out hb)
      have n5_ := Aside0.mk (blk_below (g := gb244) (o := .cells #[.slice Ao29 y235.length co29, .slice Ao28 y238.length co28, .slice Ao27 y241.length co27, .slice none 0 0] 54 (0, 0)) BK244.out hb)
      have n6_ := Aside0.mk (below_step (by repeat (first | (with_reducible first | exact HB.out | apply below_alloc | apply pw_below_drewN | apply below_drew1 | refine below_set ?_ GE234.out | refine below_set ?_ GE244.out) | exact HB.out)) hb)
      clear HO237
      clear HO240
      clear HO243
      clear BK234
      clear BK244
      clear HB
      have HO237 := n0_
      have HO240 := n1_
      have HO243 := n2_
      have HO253 := n3_
      have BK234 := n4_
      have BK244 := n5_
      have HB := n6_
      clear n0_ n1_ n2_ n3_ n4_ n5_ n6_
      clear hb ho32
      refine hK.out _ _ trivial (fun hHeld => ?_)
      clear hK K
      refine norm_ (a' := ?_) ?_ ?_
      rotate_left
      ·show Act.put _ (some 27) _ = _
       simp only [Act.put, List.setIfInBounds_toArray, List.set_cons_zero, List.set_cons_succ, i64_w, i32_w]
       rfl
      refine one_ (i := 0) (N := some 23) #[true, true, false, true, true, false, false] rfl rfl (by kernel_rfl) (by decide) (fun K hK => ?_)
      refine Kd.R_lit_step (Kd.int .i64) _ 3 ?hg (N := 23) ?hd (xs := ([(-1)] : List Int)) (inner := [.int .i64 (-1)]) (ok := fun _ => True) (okp := fun _ => True) ?hr ?hp (fun _ hk => hk) trivial (Below.refl _ _) (Nat.le_refl _) (by simp) ?_; (case hd => rfl); (case hg => rfl); (case hr => first | (go_simp; done) | (go_simp; rfl)); (case hp => exact (Reps.one (show Kd.M (Kd.int .i64) _ _ _ (-1) [.int .i64 (-1)] from rfl) (Reps.none _ _)))
      intro v246 w33 ho34 hb hg_ hnew_
      clear hg_ hnew_
      (first | rw [← Ny245.out] at ho34 | (simp only [Int.reduceToNat] at ho34; rw [← Ny245.out] at ho34))
      have n0_ := Aside0.mk (Kd.R_elder' HO237.out (Kd.R_base ho34) hb)
      have n1_ := Aside0.mk (Kd.R_elder' HO240.out (Kd.R_base ho34) hb)
      have n2_ := Aside0.mk (Kd.R_elder' HO243.out (Kd.R_base ho34) hb)
      have n3_ := Aside0.mk (Kd.R_elder' HO253.out (Kd.R_base ho34) hb)
      have n4_ := Aside0.mk (Kd.R_lower (Kd.R_new' (Kd.R_new' (Kd.R_new' (Kd.R_new' ho34 (Kd.R_lt HO237.out)) (Kd.R_lt HO240.out)) (Kd.R_lt HO243.out)) (Kd.R_lt HO253.out)) (below_size (by repeat (first | (with_reducible first | exact HB.out | apply below_alloc | apply pw_below_drewN | apply below_drew1 | refine below_set ?_ GE234.out | refine below_set ?_ GE244.out) | exact HB.out))))
      have n5_ := Aside0.mk (blk_below (g := gb234) (o := .cells #[.slice none 0 0, .slice none 0 0, .slice none 0 0, .slice none 0 0] 54 (0, 0)) BK234.out hb)
      have n6_ := Aside0.mk (blk_below (g := gb244) (o := .cells #[.slice Ao29 y235.length co29, .slice Ao28 y238.length co28, .slice Ao27 y241.length co27, .slice none 0 0] 54 (0, 0)) BK244.out hb)
      have n7_ := Aside0.mk (below_step (by repeat (first | (with_reducible first | exact HB.out | apply below_alloc | apply pw_below_drewN | apply below_drew1 | refine below_set ?_ GE234.out | refine below_set ?_ GE244.out) | exact HB.out)) hb)
      clear HO237
      clear HO240
      clear HO243
      clear HO253
      clear BK234
      clear BK244
      clear HB
      have HO237 := n0_
      have HO240 := n1_
      have HO243 := n2_
      have HO253 := n3_
      have HO247 := n4_
      have BK234 := n5_
      have BK244 := n6_
      have HB := n7_
      clear n0_ n1_ n2_ n3_ n4_ n5_ n6_ n7_
      clear hb ho34
      obtain ⟨Ao35, co35, eo35⟩ := Kd.R_slice HO247.out
      (first | subst eo35 | (injection eo35 with f1_ f2_ f3_; have f4_ := f1_.symm; have f5_ := f3_.symm; clear f1_ f2_ f3_; subst f4_; subst f5_))
      refine hK.out _ _ trivial (fun hHeld => ?_)
      clear hK K
      refine norm_ (a' := ?_) ?_ ?_
      rotate_left
      ·show Act.put _ (some 23) _ = _
       simp only [Act.put, List.setIfInBounds_toArray, List.set_cons_zero, List.set_cons_succ, i64_w, i32_w]
       rfl
      refine one_ (i := 2) (N := some 25) #[true, true, true, true, true, false, false] rfl rfl (by kernel_rfl) (by decide) (fun K hK => ?_)
      refine goes_ Try.func68 (by kernel_rfl) rfl #[.slice Ao35 y245.length co35, .int .i64 a0] (by rfl) rfl rfl (by (try simp only [List.map_toArray, List.map_cons, List.map_nil]); first | done | rfl | (simp only [List.length_drop, List.length_take]; rfl)) ?_
      with_reducible refine (slices_Repeat_int_int.calls _ _ y245 a0 t248 _ ?side1 ?side2 A6.out).mono ?_
      (case side1 => repeat (first | exact (Kd.R_reads' HO247.out).2.2 | (with_reducible refine Kd.C_alloc ?_ _) | (with_reducible refine Kd.C_drewN ?_ _) | (with_reducible refine Kd.C_drew ?_)))
      (case side2 => exact (Kd.R_reads' HO247.out).2.1)
      rintro e w36 ⟨v249, rfl, ho0, hb⟩
      refine ⟨_, rfl, ?_⟩
      have n0_ := Aside0.mk (Kd.R_elder' HO237.out (Kd.R_base ho0) hb)
      have n1_ := Aside0.mk (Kd.R_elder' HO240.out (Kd.R_base ho0) hb)
      have n2_ := Aside0.mk (Kd.R_elder' HO243.out (Kd.R_base ho0) hb)
      have n3_ := Aside0.mk (Kd.R_elder' HO253.out (Kd.R_base ho0) hb)
      have n4_ := Aside0.mk (Kd.R_elder' HO247.out (Kd.R_base ho0) hb)
      have n5_ := Aside0.mk (Kd.R_lower (Kd.R_new' (Kd.R_new' (Kd.R_new' (Kd.R_new' (Kd.R_new' ho0 (Kd.R_lt HO237.out)) (Kd.R_lt HO240.out)) (Kd.R_lt HO243.out)) (Kd.R_lt HO253.out)) (Kd.R_lt HO247.out)) (below_size (by repeat (first | (with_reducible first | exact HB.out | apply below_alloc | apply pw_below_drewN | apply below_drew1 | refine below_set ?_ GE234.out | refine below_set ?_ GE244.out) | exact HB.out))))
      have n6_ := Aside0.mk (blk_below (g := gb234) (o := .cells #[.slice none 0 0, .slice none 0 0, .slice none 0 0, .slice none 0 0] 54 (0, 0)) BK234.out hb)
      have n7_ := Aside0.mk (blk_below (g := gb244) (o := .cells #[.slice Ao29 y235.length co29, .slice Ao28 y238.length co28, .slice Ao27 y241.length co27, .slice none 0 0] 54 (0, 0)) BK244.out hb)
      have n8_ := Aside0.mk (below_step (by repeat (first | (with_reducible first | exact HB.out | apply below_alloc | apply pw_below_drewN | apply below_drew1 | refine below_set ?_ GE234.out | refine below_set ?_ GE244.out) | exact HB.out)) hb)
      clear HO237
      clear HO240
      clear HO243
      clear HO253
      clear HO247
      clear BK234
      clear BK244
      clear HB
      have HO237 := n0_
      have HO240 := n1_
      have HO243 := n2_
      have HO253 := n3_
      have HO247 := n4_
      have HO250 := n5_
      have BK234 := n6_
      have BK244 := n7_
      have HB := n8_
      clear n0_ n1_ n2_ n3_ n4_ n5_ n6_ n7_ n8_
      (try clear hb)
      (try clear hb2)
      (try clear hk)
      (try clear hi)
      (try clear ho0)
      refine hK.out _ _ trivial (fun hHeld => ?_)
      clear hK K
      refine norm_ (a' := ?_) ?_ ?_
      rotate_left
      ·show Act.put _ (some 25) _ = _
       simp only [Act.put, List.setIfInBounds_toArray, List.set_cons_zero, List.set_cons_succ, i64_w, i32_w]
       rfl
      refine pure_ (i := 5) (N := some 8) (v := ?_) (a' := ?_) #[true, true, true, true, true, true, false] rfl rfl (by kernel_rfl) (fun _ _ _ h => h) (Or.inl ⟨by rfl, ?_⟩) ?_ ?_
      rotate_left
      ·intro w'
       go_simp
       with_reducible rfl
      rotate_left
      ·simp only [Act.put, List.setIfInBounds_toArray, List.set_cons_zero, List.set_cons_succ, i64_w, i32_w]
       rfl
      exact norm_ (by simp only [putAll, Act.put, List.setIfInBounds_toArray, List.set_cons_zero, List.set_cons_succ]) (hCont (.slice Ao35 y245.length co35, v249, v252) _ ⟨(by (with_reducible repeat (first | apply Kd.R_alloc | apply Kd.R_drewN | apply Kd.R_drew)); exact Kd.R_mono HO237.out (fun _ hk => ⟨hk.1.1.1.1, ⟨hk.1.1.1.2, ⟨hk.1.2, ⟨hk.2, hk.1.1.2⟩⟩⟩⟩)), (by (with_reducible repeat (first | apply Kd.R_alloc | apply Kd.R_drewN | apply Kd.R_drew)); exact Kd.R_mono HO240.out (fun _ hk => ⟨hk.1.1.1.1, ⟨hk.1.1.1.2, ⟨hk.1.2, ⟨hk.2, hk.1.1.2⟩⟩⟩⟩)), (by (with_reducible repeat (first | apply Kd.R_alloc | apply Kd.R_drewN | apply Kd.R_drew)); exact Kd.R_mono HO243.out (fun _ hk => ⟨hk.1.1.1.1, ⟨hk.1.1.1.2, ⟨hk.1.2, ⟨hk.2, hk.1.1.2⟩⟩⟩⟩)), (by (with_reducible repeat (first | apply Kd.R_alloc | apply Kd.R_drewN | apply Kd.R_drew)); exact Kd.R_mono HO247.out (fun _ hk => ⟨hk.1.1.1.1.2, ⟨hk.1.1.1.2, ⟨hk.1.1.2, ⟨hk.2, hk.1.2⟩⟩⟩⟩)), (by (with_reducible repeat (first | apply Kd.R_alloc | apply Kd.R_drewN | apply Kd.R_drew)); exact Kd.R_mono HO250.out (fun _ hk => ⟨hk.1.1.1.1.2, ⟨hk.1.1.1.2, ⟨hk.1.1.2, ⟨hk.2, hk.1.2⟩⟩⟩⟩)), (by (with_reducible repeat (first | apply Kd.R_alloc | apply Kd.R_drewN | apply Kd.R_drew)); exact Kd.R_mono HO253.out (fun _ hk => ⟨hk.1.1.1.1.2, ⟨hk.1.1.1.2, ⟨hk.1.1.2, ⟨hk.1.2, hk.2⟩⟩⟩⟩)), BK234.out, BK244.out, (by repeat (first | (with_reducible first | exact HB.out | apply below_alloc | apply pw_below_drewN | apply below_drew1 | refine below_set ?_ GE234.out | refine below_set ?_ GE244.out) | exact HB.out))⟩)
    rintro ⟨v246, v249, v252⟩ w37 ⟨h0_, h1_, h2_, h3_, h4_, h5_, h6_, h7_, h8_⟩
    have n0_ : Aside0 (Kd.R (Kd.int .i64) 3 w37 w.heap.size (fun k_ => some k_ ≠ (.slice Ao28 y238.length co28 : Value).ownBlock ∧ some k_ ≠ (.slice Ao27 y241.length co27 : Value).ownBlock ∧ some k_ ≠ (v246 : Value).ownBlock ∧ some k_ ≠ (v249 : Value).ownBlock ∧ some k_ ≠ (v252 : Value).ownBlock) (.slice Ao29 y235.length co29) y235) := ⟨h0_⟩
    have n1_ : Aside0 (Kd.R (Kd.int .i64) 3 w37 w.heap.size (fun k_ => some k_ ≠ (.slice Ao29 y235.length co29 : Value).ownBlock ∧ some k_ ≠ (.slice Ao27 y241.length co27 : Value).ownBlock ∧ some k_ ≠ (v246 : Value).ownBlock ∧ some k_ ≠ (v249 : Value).ownBlock ∧ some k_ ≠ (v252 : Value).ownBlock) (.slice Ao28 y238.length co28) y238) := ⟨h1_⟩
    have n2_ : Aside0 (Kd.R (Kd.int .i64) 3 w37 w.heap.size (fun k_ => some k_ ≠ (.slice Ao29 y235.length co29 : Value).ownBlock ∧ some k_ ≠ (.slice Ao28 y238.length co28 : Value).ownBlock ∧ some k_ ≠ (v246 : Value).ownBlock ∧ some k_ ≠ (v249 : Value).ownBlock ∧ some k_ ≠ (v252 : Value).ownBlock) (.slice Ao27 y241.length co27) y241) := ⟨h2_⟩
    have n3_ : Aside0 (Kd.R (Kd.int .i64) 3 w37 w.heap.size (fun k_ => some k_ ≠ (.slice Ao29 y235.length co29 : Value).ownBlock ∧ some k_ ≠ (.slice Ao28 y238.length co28 : Value).ownBlock ∧ some k_ ≠ (.slice Ao27 y241.length co27 : Value).ownBlock ∧ some k_ ≠ (v249 : Value).ownBlock ∧ some k_ ≠ (v252 : Value).ownBlock) v246 y245) := ⟨h3_⟩
    have n4_ : Aside0 (Kd.R (Kd.int .i64) 3 w37 w.heap.size (fun k_ => some k_ ≠ (.slice Ao29 y235.length co29 : Value).ownBlock ∧ some k_ ≠ (.slice Ao28 y238.length co28 : Value).ownBlock ∧ some k_ ≠ (.slice Ao27 y241.length co27 : Value).ownBlock ∧ some k_ ≠ (v246 : Value).ownBlock ∧ some k_ ≠ (v252 : Value).ownBlock) v249 t248) := ⟨h4_⟩
    have n5_ : Aside0 (Kd.R (Kd.int .i64) 3 w37 w.heap.size (fun k_ => some k_ ≠ (.slice Ao29 y235.length co29 : Value).ownBlock ∧ some k_ ≠ (.slice Ao28 y238.length co28 : Value).ownBlock ∧ some k_ ≠ (.slice Ao27 y241.length co27 : Value).ownBlock ∧ some k_ ≠ (v246 : Value).ownBlock ∧ some k_ ≠ (v249 : Value).ownBlock) v252 y251) := ⟨h5_⟩
    have n6_ : Aside0 (w37.heap[gb234]? = some (.cells #[.slice none 0 0, .slice none 0 0, .slice none 0 0, .slice none 0 0] 54 (0, 0))) := ⟨h6_⟩
    have n7_ : Aside0 (w37.heap[gb244]? = some (.cells #[.slice Ao29 y235.length co29, .slice Ao28 y238.length co28, .slice Ao27 y241.length co27, .slice none 0 0] 54 (0, 0))) := ⟨h7_⟩
    have n8_ : Aside0 (Below w.heap.size w w37) := ⟨h8_⟩
    clear HO237
    clear HO240
    clear HO243
    clear BK234
    clear BK244
    clear HB
    clear h0_ h1_ h2_ h3_ h4_ h5_ h6_ h7_ h8_
    have HO237 := n0_
    have HO240 := n1_
    have HO243 := n2_
    have HO247 := n3_
    have HO250 := n4_
    have HO253 := n5_
    have BK234 := n6_
    have BK244 := n7_
    have HB := n8_
    clear n0_ n1_ n2_ n3_ n4_ n5_ n6_ n7_ n8_
    have hHeld := trivial
    refine norm_ (a' := ?_) ?_ ?_
    rotate_left
    ·simp only [putAll, Act.put, List.setIfInBounds_toArray, List.set_cons_zero, List.set_cons_succ]
     rfl
    refine pure_ (i := 6) (N := some 9) (v := ?_) (a' := ?_) #[true, true, true, true, true, true, true] rfl rfl (by kernel_rfl) (fun _ _ _ h => h) (Or.inl ⟨by rfl, ?_⟩) ?_ ?_
    rotate_left
    ·intro w'
     go_simp
     with_reducible rfl
    rotate_left
    ·simp only [Act.put, List.setIfInBounds_toArray, List.set_cons_zero, List.set_cons_succ, i64_w, i32_w]
     rfl
    refine done_ (by kernel_rfl) ?_
    try go_wp2_with (first | ((with_reducible refine gate_dst (N := 28) rfl ?_); refine Kd.R_lit (Kd.int .i64) _ 3 ?hg (N := 28) ?hd (xs := ([(-1)] : List Int)) (inner := [.int .i64 (-1)]) (ok := fun _ => True) (okp := fun _ => True) ?hr ?hp (fun _ hk => hk) trivial (Below.refl _ _) (Nat.le_refl _) (by simp) ?_; (case hd => rfl); (case hg => rfl); (case hr => first | (go_simp; done) | (go_simp; rfl)); (case hp => exact (Reps.one (show Kd.M (Kd.int .i64) _ _ _ (-1) [.int .i64 (-1)] from rfl) (Reps.none _ _))); intro v255 w38 ho39 hb hg_ hnew_; clear hg_ hnew_; (first | rw [← Ny254.out] at ho39 | (simp only [Int.reduceToNat] at ho39; rw [← Ny254.out] at ho39)); have n0_ := Aside0.mk (Kd.R_elder' HO237.out (Kd.R_base ho39) hb); have n1_ := Aside0.mk (Kd.R_elder' HO240.out (Kd.R_base ho39) hb); have n2_ := Aside0.mk (Kd.R_elder' HO243.out (Kd.R_base ho39) hb); have n3_ := Aside0.mk (Kd.R_elder' HO247.out (Kd.R_base ho39) hb); have n4_ := Aside0.mk (Kd.R_elder' HO250.out (Kd.R_base ho39) hb); have n5_ := Aside0.mk (Kd.R_elder' HO253.out (Kd.R_base ho39) hb); have n6_ := Aside0.mk (Kd.R_lower (Kd.R_new' (Kd.R_new' (Kd.R_new' (Kd.R_new' (Kd.R_new' (Kd.R_new' ho39 (Kd.R_lt HO237.out)) (Kd.R_lt HO240.out)) (Kd.R_lt HO243.out)) (Kd.R_lt HO247.out)) (Kd.R_lt HO250.out)) (Kd.R_lt HO253.out)) (below_size (by repeat (first | (with_reducible first | exact HB.out | apply below_alloc | apply pw_below_drewN | apply below_drew1 | refine below_set ?_ GE234.out | refine below_set ?_ GE244.out) | exact HB.out)))); have n7_ := Aside0.mk (blk_below (g := gb234) (o := .cells #[.slice none 0 0, .slice none 0 0, .slice none 0 0, .slice none 0 0] 54 (0, 0)) BK234.out hb); have n8_ := Aside0.mk (blk_below (g := gb244) (o := .cells #[.slice Ao29 y235.length co29, .slice Ao28 y238.length co28, .slice Ao27 y241.length co27, .slice none 0 0] 54 (0, 0)) BK244.out hb); have n9_ := Aside0.mk (below_step (by repeat (first | (with_reducible first | exact HB.out | apply below_alloc | apply pw_below_drewN | apply below_drew1 | refine below_set ?_ GE234.out | refine below_set ?_ GE244.out) | exact HB.out)) hb); clear HO237; clear HO240; clear HO243; clear HO247; clear HO250; clear HO253; clear BK234; clear BK244; clear HB; have HO237 := n0_; have HO240 := n1_; have HO243 := n2_; have HO247 := n3_; have HO250 := n4_; have HO253 := n5_; have HO256 := n6_; have BK234 := n7_; have BK244 := n8_; have HB := n9_; clear n0_ n1_ n2_ n3_ n4_ n5_ n6_ n7_ n8_ n9_; clear hb ho39; obtain ⟨Ao40, co40, eo40⟩ := Kd.R_slice HO256.out; subst eo40) | ((with_reducible refine gate_callee (f := 68) rfl ?_); refine goesL_ (some 30) rfl rfl Try.func68 (by kernel_rfl) rfl #[.slice Ao40 y254.length co40, .int .i64 a0] rfl (by (try simp only [List.map_toArray, List.map_cons, List.map_nil]); first | done | rfl | (simp only [List.length_drop, List.length_take]; rfl)) ?_; (with_reducible refine (slices_Repeat_int_int.calls _ _ y254 a0 t257 _ ?side1 ?side2 A7.out).mono ?_); (case side1 => repeat (first | exact (Kd.R_reads' HO256.out).2.2 | (with_reducible refine Kd.C_alloc ?_ _) | (with_reducible refine Kd.C_drewN ?_ _) | (with_reducible refine Kd.C_drew ?_))); (case side2 => exact (Kd.R_reads' HO256.out).2.1); rintro e w41 ⟨v258, rfl, ho0, hb⟩; refine ⟨_, rfl, ?_⟩; have n0_ := Aside0.mk (Kd.R_elder' HO237.out (Kd.R_base ho0) hb); have n1_ := Aside0.mk (Kd.R_elder' HO240.out (Kd.R_base ho0) hb); have n2_ := Aside0.mk (Kd.R_elder' HO243.out (Kd.R_base ho0) hb); have n3_ := Aside0.mk (Kd.R_elder' HO247.out (Kd.R_base ho0) hb); have n4_ := Aside0.mk (Kd.R_elder' HO250.out (Kd.R_base ho0) hb); have n5_ := Aside0.mk (Kd.R_elder' HO253.out (Kd.R_base ho0) hb); have n6_ := Aside0.mk (Kd.R_elder' HO256.out (Kd.R_base ho0) hb); have n7_ := Aside0.mk (Kd.R_lower (Kd.R_new' (Kd.R_new' (Kd.R_new' (Kd.R_new' (Kd.R_new' (Kd.R_new' (Kd.R_new' ho0 (Kd.R_lt HO237.out)) (Kd.R_lt HO240.out)) (Kd.R_lt HO243.out)) (Kd.R_lt HO247.out)) (Kd.R_lt HO250.out)) (Kd.R_lt HO253.out)) (Kd.R_lt HO256.out)) (below_size (by repeat (first | (with_reducible first | exact HB.out | apply below_alloc | apply pw_below_drewN | apply below_drew1 | refine below_set ?_ GE234.out | refine below_set ?_ GE244.out) | exact HB.out)))); have n8_ := Aside0.mk (blk_below (g := gb234) (o := .cells #[.slice none 0 0, .slice none 0 0, .slice none 0 0, .slice none 0 0] 54 (0, 0)) BK234.out hb); have n9_ := Aside0.mk (blk_below (g := gb244) (o := .cells #[.slice Ao29 y235.length co29, .slice Ao28 y238.length co28, .slice Ao27 y241.length co27, .slice none 0 0] 54 (0, 0)) BK244.out hb); have n10_ := Aside0.mk (below_step (by repeat (first | (with_reducible first | exact HB.out | apply below_alloc | apply pw_below_drewN | apply below_drew1 | refine below_set ?_ GE234.out | refine below_set ?_ GE244.out) | exact HB.out)) hb); clear HO237; clear HO240; clear HO243; clear HO247; clear HO250; clear HO253; clear HO256; clear BK234; clear BK244; clear HB; have HO237 := n0_; have HO240 := n1_; have HO243 := n2_; have HO247 := n3_; have HO250 := n4_; have HO253 := n5_; have HO256 := n6_; have HO259 := n7_; have BK234 := n8_; have BK244 := n9_; have HB := n10_; clear n0_ n1_ n2_ n3_ n4_ n5_ n6_ n7_ n8_ n9_ n10_; (try clear hb); (try clear hb2); (try clear hk); (try clear hi); (try clear ho0)))
    have n0_ := Aside0.mk (Kd.R_drew HO237.out)
    have n1_ := Aside0.mk (Kd.R_drew HO240.out)
    have n2_ := Aside0.mk (Kd.R_drew HO243.out)
    have n3_ := Aside0.mk (Kd.R_drew HO247.out)
    have n4_ := Aside0.mk (Kd.R_drew HO250.out)
    have n5_ := Aside0.mk (Kd.R_drew HO253.out)
    have n6_ := Aside0.mk (Kd.R_drew HO256.out)
    have n7_ := Aside0.mk (Kd.R_drew HO259.out)
    have n8_ := Aside0.mk (blk_drew BK234.out)
    have n9_ := Aside0.mk (blk_drew BK244.out)
    have n10_ := Aside0.mk (below_drew1 HB.out)
    clear HO237
    clear HO240
    clear HO243
    clear HO247
    clear HO250
    clear HO253
    clear HO256
    clear HO259
    clear BK234
    clear BK244
    clear HB
    have HO237 := n0_
    have HO240 := n1_
    have HO243 := n2_
    have HO247 := n3_
    have HO250 := n4_
    have HO253 := n5_
    have HO256 := n6_
    have HO259 := n7_
    have BK234 := n8_
    have BK244 := n9_
    have HB := n10_
    clear n0_ n1_ n2_ n3_ n4_ n5_ n6_ n7_ n8_ n9_ n10_
    obtain ⟨Ao43, co43, eo43⟩ := Kd.R_slice HO259.out
    (first | subst eo43 | (injection eo43 with f1_ f2_ f3_; have f4_ := f1_.symm; have f5_ := f3_.symm; clear f1_ f2_ f3_; subst f4_; subst f5_))
    refine start_ (n := 8) (S := fun w' => w'.cell? ⟨gb244, 0, none⟩ = some (.slice Ao29 y235.length co29) ∧ w'.cell? ⟨gb244, 1, none⟩ = some (.slice Ao28 y238.length co28) ∧ w'.cell? ⟨gb244, 2, none⟩ = some (.slice Ao27 y241.length co27) ∧ w'.cell? ⟨gb244, 3, none⟩ = some (.slice none 0 0)) (ds := [7]) #[false, false, false, false, false, false, false, false] (by kernel_rfl) rfl rfl ⟨(blk_cell BK244.out 0).trans rfl, (blk_cell BK244.out 1).trans rfl, (blk_cell BK244.out 2).trans rfl, (blk_cell BK244.out 3).trans rfl⟩ (fun hHeld => ?_); refine with_tabW impl_board.tab4 impl_board.bits4 (fun HT_ HW_ => ?_)
    generalize w41.drew = w42 at HO237 HO240 HO243 HO247 HO250 HO253 HO256 HO259 BK234 BK244 HB hHeld ⊢
    refine pure_ (i := 0) (N := some 31) (v := ?_) (a' := ?_) #[true, false, false, false, false, false, false, false] rfl rfl (any_of HT_.out (by kernel_rfl)) (fun _ _ _ h => h) (Or.inl ⟨by rfl, ?_⟩) ?_ ?_
    rotate_left
    ·intro w'
     go_simp
     with_reducible rfl
    rotate_left
    ·simp only [Act.put, List.setIfInBounds_toArray, List.set_cons_zero, List.set_cons_succ, i64_w, i32_w]
     rfl
    refine pure_ (i := 2) (N := some 33) (v := ?_) (a' := ?_) #[true, false, true, false, false, false, false, false] rfl rfl (any_of HT_.out (by kernel_rfl)) (fun _ _ _ h => h) (Or.inl ⟨by rfl, ?_⟩) ?_ ?_
    rotate_left
    ·intro w'
     go_simp
     with_reducible rfl
    rotate_left
    ·simp only [Act.put, List.setIfInBounds_toArray, List.set_cons_zero, List.set_cons_succ, i64_w, i32_w]
     rfl
    refine take_ (i := 1) (N := some 32) (v := ?_) (a' := ?_) #[true, true, true, false, false, false, false, false] rfl rfl (take_ofW HT_.out HW_.out (by kernel_rfl)) (fun _ _ _ h => h) (Or.inl ⟨by rfl, ?_⟩) hHeld ?_ ?_
    rotate_left
    ·rintro w' ⟨s0, s1, s2, s3⟩
     go_simp
     with_reducible rfl
    rotate_left
    ·simp only [Act.put, List.setIfInBounds_toArray, List.set_cons_zero, List.set_cons_succ, i64_w, i32_w]
     rfl
    refine one_ (i := 3) (N := some 34) #[true, true, true, true, false, false, false, false] rfl rfl (one_of HT_.out (by kernel_rfl)) (by decide) (fun K hK => ?_)
    refine goes_ Try.func53 (by kernel_rfl) rfl #[.slice Ao43 t257.length co43] (by rfl) rfl rfl (by (try simp only [List.map_toArray, List.map_cons, List.map_nil]); first | done | rfl | (simp only [List.length_drop, List.length_take]; rfl)) ?_
    with_reducible refine (slices_Clone_int_int.calls _ _ t257 t260 _ ?side1 ?side2 A8.out).mono ?_
    (case side1 => repeat (first | exact (Kd.R_reads' HO259.out).2.2 | (with_reducible refine Kd.C_alloc ?_ _) | (with_reducible refine Kd.C_drewN ?_ _) | (with_reducible refine Kd.C_drew ?_)))
    (case side2 => exact (Kd.R_reads' HO259.out).2.1)
    rintro e w44 ⟨v261, rfl, ho0, hb⟩
    refine ⟨_, rfl, ?_⟩
    have n0_ := Aside0.mk (Kd.R_elder' HO237.out (Kd.R_base ho0) hb)
    have n1_ := Aside0.mk (Kd.R_elder' HO240.out (Kd.R_base ho0) hb)
    have n2_ := Aside0.mk (Kd.R_elder' HO243.out (Kd.R_base ho0) hb)
    have n3_ := Aside0.mk (Kd.R_elder' HO247.out (Kd.R_base ho0) hb)
    have n4_ := Aside0.mk (Kd.R_elder' HO250.out (Kd.R_base ho0) hb)
    have n5_ := Aside0.mk (Kd.R_elder' HO253.out (Kd.R_base ho0) hb)
    have n6_ := Aside0.mk (Kd.R_elder' HO256.out (Kd.R_base ho0) hb)
    have n7_ := Aside0.mk (Kd.R_elder' HO259.out (Kd.R_base ho0) hb)
    have n8_ := Aside0.mk (Kd.R_lower (Kd.R_new' (Kd.R_new' (Kd.R_new' (Kd.R_new' (Kd.R_new' (Kd.R_new' (Kd.R_new' (Kd.R_new' ho0 (Kd.R_lt HO237.out)) (Kd.R_lt HO240.out)) (Kd.R_lt HO243.out)) (Kd.R_lt HO247.out)) (Kd.R_lt HO250.out)) (Kd.R_lt HO253.out)) (Kd.R_lt HO256.out)) (Kd.R_lt HO259.out)) (below_size (by repeat (first | (with_reducible first | exact HB.out | apply below_alloc | apply pw_below_drewN | apply below_drew1 | refine below_set ?_ GE234.out | refine below_set ?_ GE244.out) | exact HB.out))))
    have n9_ := Aside0.mk (blk_below (g := gb234) (o := .cells #[.slice none 0 0, .slice none 0 0, .slice none 0 0, .slice none 0 0] 54 (0, 0)) BK234.out hb)
    have n10_ := Aside0.mk (blk_below (g := gb244) (o := .cells #[.slice Ao29 y235.length co29, .slice Ao28 y238.length co28, .slice Ao27 y241.length co27, .slice none 0 0] 54 (0, 0)) BK244.out hb)
    have n11_ := Aside0.mk (below_step (by repeat (first | (with_reducible first | exact HB.out | apply below_alloc | apply pw_below_drewN | apply below_drew1 | refine below_set ?_ GE234.out | refine below_set ?_ GE244.out) | exact HB.out)) hb)
    clear HO237
    clear HO240
    clear HO243
    clear HO247
    clear HO250
    clear HO253
    clear HO256
    clear HO259
    clear BK234
    clear BK244
    clear HB
    have HO237 := n0_
    have HO240 := n1_
    have HO243 := n2_
    have HO247 := n3_
    have HO250 := n4_
    have HO253 := n5_
    have HO256 := n6_
    have HO259 := n7_
    have HO262 := n8_
    have BK234 := n9_
    have BK244 := n10_
    have HB := n11_
    clear n0_ n1_ n2_ n3_ n4_ n5_ n6_ n7_ n8_ n9_ n10_ n11_
    (try clear hb)
    (try clear hb2)
    (try clear hk)
    (try clear hi)
    (try clear ho0)
    obtain ⟨Ao46, co46, eo46⟩ := Kd.R_slice HO262.out
    (first | subst eo46 | (injection eo46 with f1_ f2_ f3_; have f4_ := f1_.symm; have f5_ := f3_.symm; clear f1_ f2_ f3_; subst f4_; subst f5_))
    refine hK.out _ _ ⟨(blk_cell BK244.out 0).trans rfl, (blk_cell BK244.out 1).trans rfl, (blk_cell BK244.out 2).trans rfl, (blk_cell BK244.out 3).trans rfl⟩ (fun hHeld => ?_)
    clear hK K
    refine norm_ (a' := ?_) ?_ ?_
    rotate_left
    ·show Act.put _ (some 34) _ = _
     simp only [Act.put, List.setIfInBounds_toArray, List.set_cons_zero, List.set_cons_succ, i64_w, i32_w]
     rfl
    refine one_ (i := 4) (N := some 35) #[true, true, true, true, true, false, false, false] rfl rfl (one_of HT_.out (by kernel_rfl)) (by decide) (fun K hK => ?_)
    refine value_ (w1 := ?_) (v := ?_) (by rfl) rfl ?_ ?_
    rotate_left 2
    ·go_simp
     constructor
     ·rfl
     ·rfl
    refine hK.out _ _ ⟨(blk_cell (blk_alloc BK244.out _) 0).trans rfl, (blk_cell (blk_alloc BK244.out _) 1).trans rfl, (blk_cell (blk_alloc BK244.out _) 2).trans rfl, (blk_cell (blk_alloc BK244.out _) 3).trans rfl⟩ (fun hHeld => ?_)
    clear hK K
    refine norm_ (a' := ?_) ?_ ?_
    rotate_left
    ·show Act.put _ (some 35) _ = _
     simp only [Act.put, List.setIfInBounds_toArray, List.set_cons_zero, List.set_cons_succ, i64_w, i32_w]
     rfl
    refine one_ (i := 5) (N := some 36) #[true, true, true, true, true, true, false, false] rfl rfl (one_of HT_.out (by kernel_rfl)) (by decide) (fun K hK => ?_)
    refine Kd.S_append_step (Kd.slice 3 (Kd.int .i64)) (w0 := w) w.heap.size (by rfl) (.tmp 32) (.tmp 35) 22 24 (.slice none 0 0) 24 rfl Try.underlying22 info24 rfl (by decide) (by omega) (.slice none 0 0) ([] : List (List Int)) t260 [.slice Ao46 t260.length co46] (fun k_ => some k_ ≠ (.slice Ao29 y235.length co29 : Value).ownBlock ∧ some k_ ≠ (.slice Ao28 y238.length co28 : Value).ownBlock ∧ some k_ ≠ (.slice Ao27 y241.length co27 : Value).ownBlock ∧ some k_ ≠ (v246 : Value).ownBlock ∧ some k_ ≠ (v249 : Value).ownBlock ∧ some k_ ≠ (v252 : Value).ownBlock ∧ some k_ ≠ (.slice Ao40 y254.length co40 : Value).ownBlock ∧ some k_ ≠ (.slice Ao43 t257.length co43 : Value).ownBlock) (fun k_ => some k_ = (.slice Ao46 t260.length co46 : Value).ownBlock) rfl rfl ?aP (fun k_ hk_ => ((Kd.R_mono (ok' := fun k_ => ((fun k_ => some k_ ≠ (.slice Ao29 y235.length co29 : Value).ownBlock ∧ some k_ ≠ (.slice Ao28 y238.length co28 : Value).ownBlock ∧ some k_ ≠ (.slice Ao27 y241.length co27 : Value).ownBlock ∧ some k_ ≠ (v246 : Value).ownBlock ∧ some k_ ≠ (v249 : Value).ownBlock ∧ some k_ ≠ (v252 : Value).ownBlock ∧ some k_ ≠ (.slice Ao40 y254.length co40 : Value).ownBlock ∧ some k_ ≠ (.slice Ao43 t257.length co43 : Value).ownBlock)) k_ ∧ some k_ ≠ (.slice none 0 0 : Value).ownBlock) (HO262.out) (fun k_ hk => ⟨⟨hk.1.1.1.1.1.1.1.2, ⟨hk.1.1.1.1.1.1.2, ⟨hk.1.1.1.1.1.2, ⟨hk.1.1.1.1.2, ⟨hk.1.1.1.2, ⟨hk.1.1.2, ⟨hk.1.2, hk.2⟩⟩⟩⟩⟩⟩⟩, (by simp [Value.ownBlock])⟩))).1 k_ hk_.symm) ?aF ?aO ?aB ?aS ?aL ?_
    (case aP => exact Kd.M_row (Kd.R_mono (Kd.R_tight rfl (Kd.R_mono (ok' := fun k_ => ((fun k_ => some k_ ≠ (.slice Ao29 y235.length co29 : Value).ownBlock ∧ some k_ ≠ (.slice Ao28 y238.length co28 : Value).ownBlock ∧ some k_ ≠ (.slice Ao27 y241.length co27 : Value).ownBlock ∧ some k_ ≠ (v246 : Value).ownBlock ∧ some k_ ≠ (v249 : Value).ownBlock ∧ some k_ ≠ (v252 : Value).ownBlock ∧ some k_ ≠ (.slice Ao40 y254.length co40 : Value).ownBlock ∧ some k_ ≠ (.slice Ao43 t257.length co43 : Value).ownBlock)) k_ ∧ some k_ ≠ (.slice none 0 0 : Value).ownBlock) (HO262.out) (fun k_ hk => ⟨⟨hk.1.1.1.1.1.1.1.2, ⟨hk.1.1.1.1.1.1.2, ⟨hk.1.1.1.1.1.2, ⟨hk.1.1.1.1.2, ⟨hk.1.1.1.2, ⟨hk.1.1.2, ⟨hk.1.2, hk.2⟩⟩⟩⟩⟩⟩⟩, (by simp [Value.ownBlock])⟩))) (fun _ h_ => h_)))
    (case aB => exact (by repeat (first | (with_reducible first | exact HB.out | apply below_alloc | apply pw_below_drewN | apply below_drew1 | refine below_set ?_ GE234.out | refine below_set ?_ GE244.out) | exact HB.out)))
    (case aF => exact (fun k_ hk => ⟨Kd.fresh' (Kd.R_lt HO237.out) k_ hk, Kd.fresh' (Kd.R_lt HO240.out) k_ hk, Kd.fresh' (Kd.R_lt HO243.out) k_ hk, Kd.fresh' (Kd.R_lt HO247.out) k_ hk, Kd.fresh' (Kd.R_lt HO250.out) k_ hk, Kd.fresh' (Kd.R_lt HO253.out) k_ hk, Kd.fresh' (Kd.R_lt HO256.out) k_ hk, Kd.fresh' (Kd.R_lt HO259.out) k_ hk⟩))
    (case aO => exact ((Kd.S_nil _ _ _ _ _)))
    (case aS => exact (below_size (by repeat (first | (with_reducible first | exact HB.out | apply below_alloc | apply pw_below_drewN | apply below_drew1 | refine below_set ?_ GE234.out | refine below_set ?_ GE244.out) | exact HB.out))))
    (case aL => have := LMc9.out; omega)
    intro v264 w45 ho hb hg hat
    rw [← Ny263.out] at ho
    have n0_ := Aside0.mk (blk_grown (g := gb234) (o := .cells #[.slice none 0 0, .slice none 0 0, .slice none 0 0, .slice none 0 0] 54 (0, 0)) BK234.out hg (by simp [Value.ownBlock]))
    have n1_ := Aside0.mk (Kd.R_grown HO237.out hg (fun _ _ => by simp [Value.ownBlock]))
    have n2_ := Aside0.mk (Kd.R_grown HO240.out hg (fun _ _ => by simp [Value.ownBlock]))
    have n3_ := Aside0.mk (Kd.R_grown HO243.out hg (fun _ _ => by simp [Value.ownBlock]))
    have n4_ := Aside0.mk (blk_grown (g := gb244) (o := .cells #[.slice Ao29 y235.length co29, .slice Ao28 y238.length co28, .slice Ao27 y241.length co27, .slice none 0 0] 54 (0, 0)) BK244.out hg (by simp [Value.ownBlock]))
    have n5_ := Aside0.mk (Kd.R_grown HO247.out hg (fun _ _ => by simp [Value.ownBlock]))
    have n6_ := Aside0.mk (Kd.R_grown HO250.out hg (fun _ _ => by simp [Value.ownBlock]))
    have n7_ := Aside0.mk (Kd.R_grown HO253.out hg (fun _ _ => by simp [Value.ownBlock]))
    have n8_ := Aside0.mk (Kd.R_grown HO256.out hg (fun _ _ => by simp [Value.ownBlock]))
    have n9_ := Aside0.mk (Kd.R_grown HO259.out hg (fun _ _ => by simp [Value.ownBlock]))
    have n10_ := Aside0.mk (hb)
    have n11_ := Aside0.mk (ho)
    clear BK234
    clear HO237
    clear HO240
    clear HO243
    clear BK244
    clear HO247
    clear HO250
    clear HO253
    clear HO256
    clear HO259
    clear HB
    clear HO262
    have BK234 := n0_
    have HO237 := n1_
    have HO240 := n2_
    have HO243 := n3_
    have BK244 := n4_
    have HO247 := n5_
    have HO250 := n6_
    have HO253 := n7_
    have HO256 := n8_
    have HO259 := n9_
    have HB := n10_
    have HO265 := n11_
    clear n0_ n1_ n2_ n3_ n4_ n5_ n6_ n7_ n8_ n9_ n10_ n11_
    clear ho hb hg hat
    obtain ⟨Ao47, co47, eo47⟩ := Kd.S_slice HO265.out
    (first | subst eo47 | (injection eo47 with f1_ f2_ f3_; have f4_ := f1_.symm; have f5_ := f3_.symm; clear f1_ f2_ f3_; subst f4_; subst f5_))
    refine hK.out _ _ ⟨(blk_cell BK244.out 0).trans rfl, (blk_cell BK244.out 1).trans rfl, (blk_cell BK244.out 2).trans rfl, (blk_cell BK244.out 3).trans rfl⟩ (fun hHeld => ?_)
    clear hK K
    refine norm_ (a' := ?_) ?_ ?_
    rotate_left
    ·show Act.put _ (some 36) _ = _
     simp only [Act.put, List.setIfInBounds_toArray, List.set_cons_zero, List.set_cons_succ, i64_w, i32_w]
     rfl
    refine pure_ (i := 6) (N := some 37) (v := ?_) (a' := ?_) #[true, true, true, true, true, true, true, false] rfl rfl (any_of HT_.out (by kernel_rfl)) (fun _ _ _ h => h) (Or.inl ⟨by rfl, ?_⟩) ?_ ?_
    rotate_left
    ·intro w'
     go_simp
     with_reducible rfl
    rotate_left
    ·simp only [Act.put, List.setIfInBounds_toArray, List.set_cons_zero, List.set_cons_succ, i64_w, i32_w]
     rfl
    refine last_ (i := 7) (N := none) #[true, true, true, true, true, true, true, true] rfl rfl (one_of HT_.out (by kernel_rfl)) (by decide) (fun K hK => ?_)
    have hs48 : w45.cell? ⟨gb244, 3, none⟩ = some (.slice none 0 0) := (blk_cell BK244.out 3).trans rfl
    have hfs48 := blk_frozen BK244.out 3
    have hns48_0 := NB234_244.out
    have hms48_0 := NB244_234.out
    refine skip_ (w1 := ?_) (by rfl) rfl ?_ ?_
    rotate_left
    ·go_simp
     rfl
    refine hK.out _ _ ?_
    clear hK K
    refine done_ (done_of HT_.out (by kernel_rfl)) ?_
    try go_wp2
    go_loopg [11, 12] k (fun kq v11 v12 w' => ∃ (x8_1 : List Int) (x9_1 : List Int) (x10_1 : List Int) (x11_1 : Int) (x12_1 : Int) (x245000_1 : List Int) (x245001_1 : List Int) (x245002_1 : List Int) (x245003_1 : List (List Int)) (u245000 : Value) (u245001 : Value) (u245002 : Value) (u245003 : Value), v11 = .int .i64 x11_1 ∧ v12 = .int .i64 x12_1 ∧ Aside0 (impl_board.l0 kq a0 a1 l2 x8_1 x9_1 x10_1 x11_1 x12_1 x245000_1 x245001_1 x245002_1 x245003_1 = some (r1, r2, r3, r4)) ∧ Aside0 (kq ≤ k) ∧ Aside0 (Kd.R (Kd.int .i64) 3 w' w.heap.size (fun k_ => some k_ ≠ (v252 : Value).ownBlock ∧ some k_ ≠ ((.slice Ao43 t257.length co43) : Value).ownBlock ∧ some k_ ≠ (u245000 : Value).ownBlock ∧ some k_ ≠ (u245001 : Value).ownBlock ∧ some k_ ≠ (u245002 : Value).ownBlock) v249 x8_1) ∧ Aside0 (Kd.R (Kd.int .i64) 3 w' w.heap.size (fun k_ => some k_ ≠ (v249 : Value).ownBlock ∧ some k_ ≠ ((.slice Ao43 t257.length co43) : Value).ownBlock ∧ some k_ ≠ (u245000 : Value).ownBlock ∧ some k_ ≠ (u245001 : Value).ownBlock ∧ some k_ ≠ (u245002 : Value).ownBlock) v252 x9_1) ∧ Aside0 (Kd.R (Kd.int .i64) 3 w' w.heap.size (fun k_ => some k_ ≠ (v249 : Value).ownBlock ∧ some k_ ≠ (v252 : Value).ownBlock ∧ some k_ ≠ (u245000 : Value).ownBlock ∧ some k_ ≠ (u245001 : Value).ownBlock ∧ some k_ ≠ (u245002 : Value).ownBlock) (.slice Ao43 t257.length co43) x10_1) ∧ Aside0 (Kd.R (Kd.int .i64) 3 w' w.heap.size (fun k_ => some k_ ≠ (v249 : Value).ownBlock ∧ some k_ ≠ (v252 : Value).ownBlock ∧ some k_ ≠ ((.slice Ao43 t257.length co43) : Value).ownBlock ∧ some k_ ≠ (u245001 : Value).ownBlock ∧ some k_ ≠ (u245002 : Value).ownBlock) u245000 x245000_1) ∧ Aside0 (Kd.R (Kd.int .i64) 3 w' w.heap.size (fun k_ => some k_ ≠ (v249 : Value).ownBlock ∧ some k_ ≠ (v252 : Value).ownBlock ∧ some k_ ≠ ((.slice Ao43 t257.length co43) : Value).ownBlock ∧ some k_ ≠ (u245000 : Value).ownBlock ∧ some k_ ≠ (u245002 : Value).ownBlock) u245001 x245001_1) ∧ Aside0 (Kd.R (Kd.int .i64) 3 w' w.heap.size (fun k_ => some k_ ≠ (v249 : Value).ownBlock ∧ some k_ ≠ (v252 : Value).ownBlock ∧ some k_ ≠ ((.slice Ao43 t257.length co43) : Value).ownBlock ∧ some k_ ≠ (u245000 : Value).ownBlock ∧ some k_ ≠ (u245001 : Value).ownBlock) u245002 x245002_1) ∧ Aside0 (Kd.S (Kd.slice 3 (Kd.int .i64)) 24 w' w.heap.size (fun k_ => some k_ ≠ (v249 : Value).ownBlock ∧ some k_ ≠ (v252 : Value).ownBlock ∧ some k_ ≠ ((.slice Ao43 t257.length co43) : Value).ownBlock ∧ some k_ ≠ (u245000 : Value).ownBlock ∧ some k_ ≠ (u245001 : Value).ownBlock ∧ some k_ ≠ (u245002 : Value).ownBlock) u245003 x245003_1) ∧ Aside0 (w'.heap[gb234]? = some (.cells #[(.slice none 0 0), (.slice none 0 0), (.slice none 0 0), (.slice none 0 0)] 54 (0, 0))) ∧ Aside0 (w'.heap[gb244]? = some (.cells #[u245000, u245001, u245002, u245003] 54 (0, 0))) ∧ Aside0 (Below w.heap.size w w'))
    case atStart => exact ⟨(t248), (y251), (t257), (a0), (1), (y235), (y238), (y241), (y263), (.slice Ao29 y235.length co29), (.slice Ao28 y238.length co28), (.slice Ao27 y241.length co27), (.slice Ao47 y263.length co47), (by first | rfl | (simp; done) | (simp [*]; done)), (by first | rfl | (simp; done) | (simp [*]; done)), H', ⟨Nat.le_refl _⟩, ⟨by (with_reducible repeat (first | apply Kd.R_alloc | apply Kd.R_drewN | apply Kd.R_drew)); exact Kd.R_mono (Kd.R_far (p := ⟨gb244, 3, none⟩) (Kd.R_types HO250.out BK244.out (by decide)) (fun _ hk => hk.2) (.slice Ao47 y263.length co47)) (fun _ hk => ⟨hk.1.1.1.1.2.2.2.2, ⟨hk.1.1.2, ⟨hk.1.1.1.1.1, ⟨hk.1.1.1.1.2.1, hk.1.1.1.1.2.2.1⟩⟩⟩⟩)⟩, ⟨by (with_reducible repeat (first | apply Kd.R_alloc | apply Kd.R_drewN | apply Kd.R_drew)); exact Kd.R_mono (Kd.R_far (p := ⟨gb244, 3, none⟩) (Kd.R_types HO253.out BK244.out (by decide)) (fun _ hk => hk.2) (.slice Ao47 y263.length co47)) (fun _ hk => ⟨hk.1.1.1.1.2.2.2.2, ⟨hk.1.1.2, ⟨hk.1.1.1.1.1, ⟨hk.1.1.1.1.2.1, hk.1.1.1.1.2.2.1⟩⟩⟩⟩)⟩, ⟨by (with_reducible repeat (first | apply Kd.R_alloc | apply Kd.R_drewN | apply Kd.R_drew)); exact Kd.R_mono (Kd.R_far (p := ⟨gb244, 3, none⟩) (Kd.R_types HO259.out BK244.out (by decide)) (fun _ hk => hk.2) (.slice Ao47 y263.length co47)) (fun _ hk => ⟨hk.1.1.1.1.2, ⟨hk.1.1.1.2, ⟨hk.1.1.1.1.1.1.1.1.2, ⟨hk.1.1.1.1.1.1.1.2, hk.1.1.1.1.1.1.2⟩⟩⟩⟩)⟩, ⟨by (with_reducible repeat (first | apply Kd.R_alloc | apply Kd.R_drewN | apply Kd.R_drew)); exact Kd.R_mono (Kd.R_far (p := ⟨gb244, 3, none⟩) (Kd.R_types HO237.out BK244.out (by decide)) (fun _ hk => hk.2) (.slice Ao47 y263.length co47)) (fun _ hk => ⟨hk.1.1.1.1.2.2.2.1, ⟨hk.1.1.1.1.2.2.2.2, ⟨hk.1.1.2, ⟨hk.1.1.1.1.1, hk.1.1.1.1.2.1⟩⟩⟩⟩)⟩, ⟨by (with_reducible repeat (first | apply Kd.R_alloc | apply Kd.R_drewN | apply Kd.R_drew)); exact Kd.R_mono (Kd.R_far (p := ⟨gb244, 3, none⟩) (Kd.R_types HO240.out BK244.out (by decide)) (fun _ hk => hk.2) (.slice Ao47 y263.length co47)) (fun _ hk => ⟨hk.1.1.1.1.2.2.2.1, ⟨hk.1.1.1.1.2.2.2.2, ⟨hk.1.1.2, ⟨hk.1.1.1.1.1, hk.1.1.1.1.2.1⟩⟩⟩⟩)⟩, ⟨by (with_reducible repeat (first | apply Kd.R_alloc | apply Kd.R_drewN | apply Kd.R_drew)); exact Kd.R_mono (Kd.R_far (p := ⟨gb244, 3, none⟩) (Kd.R_types HO243.out BK244.out (by decide)) (fun _ hk => hk.2) (.slice Ao47 y263.length co47)) (fun _ hk => ⟨hk.1.1.1.1.2.2.2.1, ⟨hk.1.1.1.1.2.2.2.2, ⟨hk.1.1.2, ⟨hk.1.1.1.1.1, hk.1.1.1.1.2.1⟩⟩⟩⟩)⟩, ⟨by (with_reducible repeat (first | apply Kd.S_alloc | apply Kd.S_drewN | apply Kd.S_drew)); exact Kd.S_mono (Kd.S_far (p := ⟨gb244, 3, none⟩) (Kd.S_types HO265.out BK244.out (by decide)) (fun _ hk => hk.2) (.slice Ao47 y263.length co47)) (fun _ hk => ⟨hk.1.2.2.2.2.1, ⟨hk.1.2.2.2.2.2.1, ⟨hk.1.2.2.2.2.2.2.2, ⟨hk.1.1, ⟨hk.1.2.1, hk.1.2.2.1⟩⟩⟩⟩⟩)⟩, ⟨by (with_reducible repeat (first | refine blk_drewN ?_ _ | refine blk_drew ?_ | refine blk_alloc ?_ _)); refine blk_far ?_ NB234_244.out _; (with_reducible repeat (first | refine blk_drewN ?_ _ | refine blk_drew ?_ | refine blk_alloc ?_ _)); exact BK234.out⟩, ⟨by (with_reducible repeat (first | refine blk_drewN ?_ _ | refine blk_drew ?_ | refine blk_alloc ?_ _)); refine blk_put (cs := #[.slice Ao29 y235.length co29, .slice Ao28 y238.length co28, .slice Ao27 y241.length co27, .slice none 0 0]) ?_ 3 _ rfl; (with_reducible repeat (first | refine blk_drewN ?_ _ | refine blk_drew ?_ | refine blk_alloc ?_ _)); exact BK244.out⟩, ⟨by repeat (first | (with_reducible first | exact HB.out | apply below_alloc | apply pw_below_drewN | apply below_drew1 | refine below_set ?_ GE234.out | refine below_set ?_ GE244.out) | exact HB.out)⟩⟩
    case round =>
     clear H'
     try clear p2
     try clear c5
     try clear c6
     try clear c9
     obtain ⟨x8_1, x9_1, x10_1, x11_1, x12_1, x245000_1, x245001_1, x245002_1, x245003_1, u245000, u245001, u245002, u245003, rfl, rfl, HA, HK1, HO_8, HO_9, HO_10, HO_245000, HO_245001, HO_245002, HO_245003, BK234, BK244, HB⟩ := hrel
     have hl10_1 := (Kd.R_reads' HO_10.out).1
     rw [hl10_1] at HO_10
     (try simp only [hl10_1])
     (try simp only [hl10_1] at BK234)
     (try simp only [hl10_1] at BK244)
     (try simp only [hl10_1] at HO_8)
     (try simp only [hl10_1] at HO_9)
     (try simp only [hl10_1] at HO_245000)
     (try simp only [hl10_1] at HO_245001)
     (try simp only [hl10_1] at HO_245002)
     (try simp only [hl10_1] at HO_245003)
     cases gk with
     | zero => exact absurd HA.out (by simp [impl_board.l0])
     | succ k1 =>
      have H := HA.out
      clear HA
      simp only [impl_board.l0] at H
      by_cases c49 : x11_1 > 0
      ·rw [if_pos c49] at H
       have c49b0 : decide (0 < x11_1) = true := decide_eq_true c49
       clear c49
       have H' := Aside0.mk H
       clear H
       go_wp2
       go_loopg [11, 45] k1 (fun kq v11 v45 w' => ∃ (x8_2 : List Int) (x9_2 : List Int) (x10_2 : List Int) (x11_2 : Int) (x45_2 : Int) (x245000_2 : List Int) (x245001_2 : List Int) (x245002_2 : List Int) (u245000 : Value) (u245001 : Value) (u245002 : Value), v11 = .int .i64 x11_2 ∧ v45 = .int .i64 x45_2 ∧ Aside0 (impl_board.l1 kq a0 a1 l2 x8_2 x9_2 x10_2 x11_2 x12_1 l2 (l2.length : Int) x45_2 x245000_2 x245001_2 x245002_2 x245003_1 = some (r1, r2, r3, r4)) ∧ Aside0 (kq ≤ k1) ∧ Aside0 (Kd.R (Kd.int .i64) 3 w' w.heap.size (fun k_ => some k_ ≠ (v252 : Value).ownBlock ∧ some k_ ≠ ((.slice Ao43 x10_1.length co43) : Value).ownBlock ∧ some k_ ≠ (u245000 : Value).ownBlock ∧ some k_ ≠ (u245001 : Value).ownBlock ∧ some k_ ≠ (u245002 : Value).ownBlock) v249 x8_2) ∧ Aside0 (Kd.R (Kd.int .i64) 3 w' w.heap.size (fun k_ => some k_ ≠ (v249 : Value).ownBlock ∧ some k_ ≠ ((.slice Ao43 x10_1.length co43) : Value).ownBlock ∧ some k_ ≠ (u245000 : Value).ownBlock ∧ some k_ ≠ (u245001 : Value).ownBlock ∧ some k_ ≠ (u245002 : Value).ownBlock) v252 x9_2) ∧ Aside0 (Kd.R (Kd.int .i64) 3 w' w.heap.size (fun k_ => some k_ ≠ (v249 : Value).ownBlock ∧ some k_ ≠ (v252 : Value).ownBlock ∧ some k_ ≠ (u245000 : Value).ownBlock ∧ some k_ ≠ (u245001 : Value).ownBlock ∧ some k_ ≠ (u245002 : Value).ownBlock) (.slice Ao43 x10_1.length co43) x10_2) ∧ Aside0 (Kd.R (Kd.int .i64) 3 w' w.heap.size (fun k_ => some k_ ≠ (v249 : Value).ownBlock ∧ some k_ ≠ (v252 : Value).ownBlock ∧ some k_ ≠ ((.slice Ao43 x10_1.length co43) : Value).ownBlock ∧ some k_ ≠ (u245001 : Value).ownBlock ∧ some k_ ≠ (u245002 : Value).ownBlock) u245000 x245000_2) ∧ Aside0 (Kd.R (Kd.int .i64) 3 w' w.heap.size (fun k_ => some k_ ≠ (v249 : Value).ownBlock ∧ some k_ ≠ (v252 : Value).ownBlock ∧ some k_ ≠ ((.slice Ao43 x10_1.length co43) : Value).ownBlock ∧ some k_ ≠ (u245000 : Value).ownBlock ∧ some k_ ≠ (u245002 : Value).ownBlock) u245001 x245001_2) ∧ Aside0 (Kd.R (Kd.int .i64) 3 w' w.heap.size (fun k_ => some k_ ≠ (v249 : Value).ownBlock ∧ some k_ ≠ (v252 : Value).ownBlock ∧ some k_ ≠ ((.slice Ao43 x10_1.length co43) : Value).ownBlock ∧ some k_ ≠ (u245000 : Value).ownBlock ∧ some k_ ≠ (u245001 : Value).ownBlock) u245002 x245002_2) ∧ Aside0 (Kd.S (Kd.slice 3 (Kd.int .i64)) 24 w' w.heap.size (fun k_ => some k_ ≠ (v249 : Value).ownBlock ∧ some k_ ≠ (v252 : Value).ownBlock ∧ some k_ ≠ ((.slice Ao43 x10_1.length co43) : Value).ownBlock ∧ some k_ ≠ (u245000 : Value).ownBlock ∧ some k_ ≠ (u245001 : Value).ownBlock ∧ some k_ ≠ (u245002 : Value).ownBlock) u245003 x245003_1) ∧ Aside0 (w'.heap[gb234]? = some (.cells #[(.slice none 0 0), (.slice none 0 0), (.slice none 0 0), (.slice none 0 0)] 54 (0, 0))) ∧ Aside0 (w'.heap[gb244]? = some (.cells #[u245000, u245001, u245002, u245003] 54 (0, 0))) ∧ Aside0 (Below w.heap.size w w'))
       case atStart => exact ⟨(x8_1), (x9_1), (x10_1), (x11_1), (0), (x245000_1), (x245001_1), (x245002_1), (u245000), (u245001), (u245002), (by first | rfl | (simp; done) | (simp [*]; done)), (by first | rfl | (simp; done) | (simp [*]; done)), H', ⟨Nat.le_refl _⟩, ⟨by (try simp only [hl10_1]); (with_reducible repeat (first | apply Kd.R_alloc | apply Kd.R_drewN | apply Kd.R_drew)); exact HO_8.out⟩, ⟨by (try simp only [hl10_1]); (with_reducible repeat (first | apply Kd.R_alloc | apply Kd.R_drewN | apply Kd.R_drew)); exact HO_9.out⟩, ⟨by (try simp only [hl10_1]); (with_reducible repeat (first | apply Kd.R_alloc | apply Kd.R_drewN | apply Kd.R_drew)); exact HO_10.out⟩, ⟨by (try simp only [hl10_1]); (with_reducible repeat (first | apply Kd.R_alloc | apply Kd.R_drewN | apply Kd.R_drew)); exact HO_245000.out⟩, ⟨by (try simp only [hl10_1]); (with_reducible repeat (first | apply Kd.R_alloc | apply Kd.R_drewN | apply Kd.R_drew)); exact HO_245001.out⟩, ⟨by (try simp only [hl10_1]); (with_reducible repeat (first | apply Kd.R_alloc | apply Kd.R_drewN | apply Kd.R_drew)); exact HO_245002.out⟩, ⟨by (try simp only [hl10_1]); (with_reducible repeat (first | apply Kd.S_alloc | apply Kd.S_drewN | apply Kd.S_drew)); exact HO_245003.out⟩, ⟨by (try simp only [hl10_1]); first | (with_reducible exact BK234.out) | ((with_reducible repeat (first | refine blk_drewN ?_ _ | refine blk_drew ?_ | refine blk_alloc ?_ _)); exact BK234.out)⟩, ⟨by (try simp only [hl10_1]); first | (with_reducible exact BK244.out) | ((with_reducible repeat (first | refine blk_drewN ?_ _ | refine blk_drew ?_ | refine blk_alloc ?_ _)); exact BK244.out)⟩, ⟨by repeat (first | (with_reducible first | exact HB.out | apply below_alloc | apply pw_below_drewN | apply below_drew1 | refine below_set ?_ GE234.out | refine below_set ?_ GE244.out) | exact HB.out)⟩⟩
       case round =>
        clear H'
        try clear p2
        try clear c4
        try clear c5
        try clear c6
        try clear c9
        try clear c49
        try clear c49b0
        try clear p2
        obtain ⟨x8_2, x9_2, x10_2, x11_2, x45_2, x245000_2, x245001_2, x245002_2, u245000, u245001, u245002, rfl, rfl, HA, HK2, HO_8, HO_9, HO_10, HO_245000, HO_245001, HO_245002, HO_245003, BK234, BK244, HB⟩ := hrel
        have hl10_2 := (Kd.R_reads' HO_10.out).1
        rw [hl10_2] at HO_10
        (try simp only [hl10_2])
        (try simp only [hl10_2] at BK234)
        (try simp only [hl10_2] at BK244)
        (try simp only [hl10_2] at HO_8)
        (try simp only [hl10_2] at HO_9)
        (try simp only [hl10_2] at HO_245000)
        (try simp only [hl10_2] at HO_245001)
        (try simp only [hl10_2] at HO_245002)
        (try simp only [hl10_2] at HO_245003)
        cases gk with
        | zero => exact absurd HA.out (by simp [impl_board.l1])
        | succ k2 =>
         have H := HA.out
         clear HA
         simp only [impl_board.l1] at H
         by_cases c50 : x45_2 < (l2.length : Int)
         ·rw [if_pos c50] at H
          have c50b0 : decide (x45_2 < (l2.length : Int)) = true := decide_eq_true c50
          clear c50
          by_cases c51 : 0 ≤ x45_2
          ·rw [if_pos c51] at H
           have c51b0 : decide (0 ≤ x45_2) = true := decide_eq_true c51
           clear c51
           by_cases c52 : x45_2 < (l2.length : Int)
           ·rw [if_pos c52] at H
            have c52b0 : decide (x45_2 < (l2.length : Int)) = true := decide_eq_true c52
            clear c52
            by_cases c53 : 0 ≤ (rd l2 x45_2)
            ·rw [if_pos c53] at H
             have c53b0 : decide (0 ≤ (rd l2 x45_2)) = true := decide_eq_true c53
             clear c53
             by_cases c54 : (rd l2 x45_2) < (x8_2.length : Int)
             ·rw [if_pos c54] at H
              have c54b0 : decide ((rd l2 x45_2) < (x8_2.length : Int)) = true := decide_eq_true c54
              clear c54
              by_cases c55 : (rd x8_2 (rd l2 x45_2)) = a0
              ·rw [if_pos c55] at H
               have c55b0 : ((rd x8_2 (rd l2 x45_2)) == a0) = true := beq_iff_eq.mpr c55
               have c55b1 : ((rd x8_2 (rd l2 x45_2)) != a0) = false := bne_eq_false_iff_eq.mpr c55
               clear c55
               have H' := Aside0.mk H
               clear H
               have p272 : 0 ≤ (x45_2 : Int) := of_decide_eq_true (by first | (with_reducible assumption) | assumption)
               have q272 : x45_2 < (l2.length : Int) := of_decide_eq_true (by first | (with_reducible assumption) | assumption)
               obtain ⟨ad272, e272, hx272_0⟩ := Kd.at_int HR2.out x45_2 p272 q272
               cases e272
               (try replace hx272_0 := (HB.out.cell (World.block_lt_of_cell? w _ hx272_0)).trans hx272_0)
               replace p272 := eq_true p272
               replace q272 := eq_true q272
               obtain ⟨Ao56, co56, eo56⟩ := Kd.R_slice HO_8.out
               subst eo56
               have p273 : 0 ≤ ((rd l2 x45_2) : Int) := of_decide_eq_true (by first | (with_reducible assumption) | assumption)
               have q273 : (rd l2 x45_2) < (x8_2.length : Int) := of_decide_eq_true (by first | (with_reducible assumption) | assumption)
               obtain ⟨ad273, e273, hx273_0⟩ := Kd.at_int (Kd.R_reads' HO_8.out).2.2 (rd l2 x45_2) p273 q273
               cases e273
               replace p273 := eq_true p273
               replace q273 := eq_true q273
               go_wp2
               (try simp only [← hl10_2])
               go_roundg k2
               case measure => have := HK1.out; have := HK2.out; omega
               case rel => exact ⟨(x8_2), (x9_2), (x10_2), (x11_2), (wrap64 (x45_2 + 1)), (x245000_2), (x245001_2), (x245002_2), (u245000), (u245001), (u245002), (by first | rfl | (simp; done) | (simp [*]; done)), (by first | rfl | (simp; done) | (simp [*]; done)), H', ⟨by have := HK1.out; have := HK2.out; omega⟩, ⟨by (try simp only [hl10_1]); (try simp only [hl10_2]); (with_reducible repeat (first | apply Kd.R_alloc | apply Kd.R_drewN | apply Kd.R_drew)); exact HO_8.out⟩, ⟨by (try simp only [hl10_1]); (try simp only [hl10_2]); (with_reducible repeat (first | apply Kd.R_alloc | apply Kd.R_drewN | apply Kd.R_drew)); exact HO_9.out⟩, ⟨by (try simp only [hl10_1]); (try simp only [hl10_2]); (with_reducible repeat (first | apply Kd.R_alloc | apply Kd.R_drewN | apply Kd.R_drew)); exact HO_10.out⟩, ⟨by (try simp only [hl10_1]); (try simp only [hl10_2]); (with_reducible repeat (first | apply Kd.R_alloc | apply Kd.R_drewN | apply Kd.R_drew)); exact HO_245000.out⟩, ⟨by (try simp only [hl10_1]); (try simp only [hl10_2]); (with_reducible repeat (first | apply Kd.R_alloc | apply Kd.R_drewN | apply Kd.R_drew)); exact HO_245001.out⟩, ⟨by (try simp only [hl10_1]); (try simp only [hl10_2]); (with_reducible repeat (first | apply Kd.R_alloc | apply Kd.R_drewN | apply Kd.R_drew)); exact HO_245002.out⟩, ⟨by (try simp only [hl10_1]); (try simp only [hl10_2]); (with_reducible repeat (first | apply Kd.S_alloc | apply Kd.S_drewN | apply Kd.S_drew)); exact HO_245003.out⟩, ⟨by (try simp only [hl10_1]); (try simp only [hl10_2]); first | (with_reducible exact BK234.out) | ((with_reducible repeat (first | refine blk_drewN ?_ _ | refine blk_drew ?_ | refine blk_alloc ?_ _)); exact BK234.out)⟩, ⟨by (try simp only [hl10_1]); (try simp only [hl10_2]); first | (with_reducible exact BK244.out) | ((with_reducible repeat (first | refine blk_drewN ?_ _ | refine blk_drew ?_ | refine blk_alloc ?_ _)); exact BK244.out)⟩, ⟨by repeat (first | (with_reducible first | exact HB.out | apply below_alloc | apply pw_below_drewN | apply below_drew1 | refine below_set ?_ GE234.out | refine below_set ?_ GE244.out) | exact HB.out)⟩⟩
              ·rw [if_neg c55] at H
               have c55b0 : ((rd x8_2 (rd l2 x45_2)) == a0) = false := beq_eq_false_iff_ne.mpr c55
               have c55b1 : ((rd x8_2 (rd l2 x45_2)) != a0) = true := bne_iff_ne.mpr c55
               by_cases c57 : (rd x8_2 (rd l2 x45_2)) = (rd l2 x45_2)
               ·rw [if_pos c57] at H
                have c57b0 : ((rd x8_2 (rd l2 x45_2)) == (rd l2 x45_2)) = true := beq_iff_eq.mpr c57
                have c57b1 : ((rd x8_2 (rd l2 x45_2)) != (rd l2 x45_2)) = false := bne_eq_false_iff_eq.mpr c57
                clear c57
                by_cases c58 : (rd l2 x45_2) < (x9_2.length : Int)
                ·rw [if_pos c58] at H
                 have c58b0 : decide ((rd l2 x45_2) < (x9_2.length : Int)) = true := decide_eq_true c58
                 clear c58
                 obtain ⟨y275, hy275⟩ : ∃ y_ : List Int, y_ = (x9_2.set ((rd l2 x45_2) : Int).toNat (wrap64 ((rd x9_2 (rd l2 x45_2)) + 1))) := ⟨_, rfl⟩
                 replace H : (if (rd y275 (rd l2 x45_2)) = a1 then (if 0 ≤ (rd x8_2 (rd l2 x45_2)) then (if (rd x8_2 (rd l2 x45_2)) < (x10_2.length : Int) then (if (rd l2 x45_2) < (x245000_2.length : Int) then (impl_board.l1 k2 a0 a1 l2 (x8_2.set ((rd l2 x45_2) : Int).toNat a0) y275 (x10_2.set ((rd x8_2 (rd l2 x45_2)) : Int).toNat (-1)) (wrap64 (x11_2 - 1)) x12_1 l2 (l2.length : Int) (wrap64 (x45_2 + 1)) (x245000_2.set ((rd l2 x45_2) : Int).toNat x12_1) x245001_2 x245002_2 x245003_1) else (none)) else (none)) else (none)) else (impl_board.l1 k2 a0 a1 l2 x8_2 y275 x10_2 x11_2 x12_1 l2 (l2.length : Int) (wrap64 (x45_2 + 1)) x245000_2 x245001_2 x245002_2 x245003_1)) = some (r1, r2, r3, r4) := by first | (rw [hy275]; with_reducible exact H) | (have H2_ := (Option.bind_some _ _).symm.trans H; rw [hy275]; with_reducible exact H2_) | (have H2_ := (Option.bind_some _ _).symm.trans H; with_reducible exact H2_) | with_reducible exact H | (rw [hy275]; exact H) | exact H
                 have Ny275 := Aside0.mk hy275
                 clear hy275
                 by_cases c60 : (rd y275 (rd l2 x45_2)) = a1
                 ·rw [if_pos c60] at H
                  have c60b0 : ((rd y275 (rd l2 x45_2)) == a1) = true := beq_iff_eq.mpr c60
                  have c60b1 : ((rd y275 (rd l2 x45_2)) != a1) = false := bne_eq_false_iff_eq.mpr c60
                  clear c60
                  by_cases c61 : 0 ≤ (rd x8_2 (rd l2 x45_2))
                  ·rw [if_pos c61] at H
                   have c61b0 : decide (0 ≤ (rd x8_2 (rd l2 x45_2))) = true := decide_eq_true c61
                   clear c61
                   by_cases c62 : (rd x8_2 (rd l2 x45_2)) < (x10_2.length : Int)
                   ·rw [if_pos c62] at H
                    have c62b0 : decide ((rd x8_2 (rd l2 x45_2)) < (x10_2.length : Int)) = true := decide_eq_true c62
                    clear c62
                    obtain ⟨y277, hy277⟩ : ∃ y_ : List Int, y_ = (x10_2.set ((rd x8_2 (rd l2 x45_2)) : Int).toNat (-1)) := ⟨_, rfl⟩
                    replace H : (if (rd l2 x45_2) < (x245000_2.length : Int) then (impl_board.l1 k2 a0 a1 l2 (x8_2.set ((rd l2 x45_2) : Int).toNat a0) y275 y277 (wrap64 (x11_2 - 1)) x12_1 l2 (l2.length : Int) (wrap64 (x45_2 + 1)) (x245000_2.set ((rd l2 x45_2) : Int).toNat x12_1) x245001_2 x245002_2 x245003_1) else (none)) = some (r1, r2, r3, r4) := by first | (rw [hy277]; with_reducible exact H) | (have H2_ := (Option.bind_some _ _).symm.trans H; rw [hy277]; with_reducible exact H2_) | (have H2_ := (Option.bind_some _ _).symm.trans H; with_reducible exact H2_) | with_reducible exact H | (rw [hy277]; exact H) | exact H
                    have Ny277 := Aside0.mk hy277
                    clear hy277
                    obtain ⟨y278, hy278⟩ : ∃ y_ : List Int, y_ = (x8_2.set ((rd l2 x45_2) : Int).toNat a0) := ⟨_, rfl⟩
                    replace H : (if (rd l2 x45_2) < (x245000_2.length : Int) then (impl_board.l1 k2 a0 a1 l2 y278 y275 y277 (wrap64 (x11_2 - 1)) x12_1 l2 (l2.length : Int) (wrap64 (x45_2 + 1)) (x245000_2.set ((rd l2 x45_2) : Int).toNat x12_1) x245001_2 x245002_2 x245003_1) else (none)) = some (r1, r2, r3, r4) := by first | (rw [hy278]; with_reducible exact H) | (have H2_ := (Option.bind_some _ _).symm.trans H; rw [hy278]; with_reducible exact H2_) | (have H2_ := (Option.bind_some _ _).symm.trans H; with_reducible exact H2_) | with_reducible exact H | (rw [hy278]; exact H) | exact H
                    have Ny278 := Aside0.mk hy278
                    clear hy278
                    by_cases c65 : (rd l2 x45_2) < (x245000_2.length : Int)
                    ·rw [if_pos c65] at H
                     have c65b0 : decide ((rd l2 x45_2) < (x245000_2.length : Int)) = true := decide_eq_true c65
                     clear c65
                     obtain ⟨y279, hy279⟩ : ∃ y_ : List Int, y_ = (x245000_2.set ((rd l2 x45_2) : Int).toNat x12_1) := ⟨_, rfl⟩
                     replace H : (impl_board.l1 k2 a0 a1 l2 y278 y275 y277 (wrap64 (x11_2 - 1)) x12_1 l2 (l2.length : Int) (wrap64 (x45_2 + 1)) y279 x245001_2 x245002_2 x245003_1) = some (r1, r2, r3, r4) := by first | (rw [hy279]; with_reducible exact H) | (have H2_ := (Option.bind_some _ _).symm.trans H; rw [hy279]; with_reducible exact H2_) | (have H2_ := (Option.bind_some _ _).symm.trans H; with_reducible exact H2_) | with_reducible exact H | (rw [hy279]; exact H) | exact H
                     have Ny279 := Aside0.mk hy279
                     clear hy279
                     have H' := Aside0.mk H
                     clear H
                     have p272 : 0 ≤ (x45_2 : Int) := of_decide_eq_true (by first | (with_reducible assumption) | assumption)
                     have q272 : x45_2 < (l2.length : Int) := of_decide_eq_true (by first | (with_reducible assumption) | assumption)
                     obtain ⟨ad272, e272, hx272_0⟩ := Kd.at_int HR2.out x45_2 p272 q272
                     cases e272
                     (try replace hx272_0 := (HB.out.cell (World.block_lt_of_cell? w _ hx272_0)).trans hx272_0)
                     replace p272 := eq_true p272
                     replace q272 := eq_true q272
                     obtain ⟨Ao67, co67, eo67⟩ := Kd.R_slice HO_8.out
                     subst eo67
                     have p273 : 0 ≤ ((rd l2 x45_2) : Int) := of_decide_eq_true (by first | (with_reducible assumption) | assumption)
                     have q273 : (rd l2 x45_2) < (x8_2.length : Int) := of_decide_eq_true (by first | (with_reducible assumption) | assumption)
                     obtain ⟨ad273, e273, hx273_0⟩ := Kd.at_int (Kd.R_reads' HO_8.out).2.2 (rd l2 x45_2) p273 q273
                     cases e273
                     replace p273 := eq_true p273
                     replace q273 := eq_true q273
                     obtain ⟨Ao68, co68, eo68⟩ := Kd.R_slice HO_9.out
                     subst eo68
                     have p274 : 0 ≤ ((rd l2 x45_2) : Int) := of_decide_eq_true (by first | (with_reducible assumption) | assumption)
                     have q274 : (rd l2 x45_2) < (x9_2.length : Int) := of_decide_eq_true (by first | (with_reducible assumption) | assumption)
                     obtain ⟨ad274, e274, hx274_0⟩ := Kd.at_int (Kd.R_reads' HO_9.out).2.2 (rd l2 x45_2) p274 q274
                     cases e274
                     replace p274 := eq_true p274
                     replace q274 := eq_true q274
                     have p59 : 0 ≤ ((rd l2 x45_2) : Int) := of_decide_eq_true (by first | (with_reducible assumption) | assumption)
                     have q59 : ((rd l2 x45_2) : Int) < ((x9_2.length : Int) : Int) := of_decide_eq_true (by first | (with_reducible assumption) | assumption)
                     obtain ⟨go59, co59, eo59, gb59, gl59, cl59, HG59⟩ := Kd.R_form HO_9.out (by omega)
                     (first | cases eo59 | (injection eo59 with ea_ en_ ec_; (first | subst ea_ | (injection ea_ with ea_; subst ea_)); subst ec_; clear en_))
                     have GB59 := Aside0.mk gb59
                     have GG59 := Aside0.mk HG59
                     clear gb59 gl59 HG59
                     (first | simp only [add_plain] at hx274_0 | skip)
                     obtain ⟨hx59_0, hf59_0⟩ := Kd.R_celln 0 HO_9.out ((rd l2 x45_2) : Int) p59 q59
                     replace p59 := eq_true p59
                     replace q59 := eq_true q59
                     have HP69 := Kd.R_putg HO_9.out ((rd l2 x45_2) : Int) (wrap64 ((rd x9_2 (rd l2 x45_2)) + 1))
                     try go_wp2_with (first | ((with_reducible refine gate_store (t := 3) (p := 66) rfl ?_); refine store_event (t := 3) (p := 66) (v := ?vo_w70) (w1 := (wr.setCell ⟨go59, ((rd l2 x45_2) : Int).toNat, none⟩ (.int .i64 (wrap64 ((rd x9_2 (rd l2 x45_2)) + 1))))) ?hg ?ho ?hn ?hr ?_; (case ho => rfl); (case hg => rfl); (case hn => rfl); (case hr => first | (go_simp; done) | (go_simp; rfl)); intro w70 hw; have hg : wr.grownBy w70 (some go59) := (by rw [hw]; exact HP69.2); have hp_ : Kd.R (Kd.int .i64) 3 w70 w.heap.size (fun k_ => some k_ ≠ (.slice (some ad273) x8_2.length co67 : Value).ownBlock ∧ some k_ ≠ (.slice Ao43 x10_2.length co43 : Value).ownBlock ∧ some k_ ≠ (u245000 : Value).ownBlock ∧ some k_ ≠ (u245001 : Value).ownBlock ∧ some k_ ≠ (u245002 : Value).ownBlock) (.slice (some ⟨go59, 0, none⟩) x9_2.length co68) y275 := (by rw [hw, Ny275.out]; exact HP69.1); clear HP69; have n0_ := Aside0.mk (Kd.R_after (v := (.slice (some ⟨go59, 0, none⟩) x9_2.length co68)) (v1 := (.slice (some ⟨go59, 0, none⟩) x9_2.length co68)) (ok := (fun k_ => some k_ ≠ (.slice Ao43 x10_2.length co43 : Value).ownBlock ∧ some k_ ≠ (u245000 : Value).ownBlock ∧ some k_ ≠ (u245001 : Value).ownBlock ∧ some k_ ≠ (u245002 : Value).ownBlock)) (by (with_reducible repeat (first | apply Kd.R_alloc | apply Kd.R_drewN | apply Kd.R_drew)); exact Kd.R_mono HO_8.out (fun _ hk => ⟨⟨hk.2.1, ⟨hk.2.2.1, ⟨hk.2.2.2.1, hk.2.2.2.2⟩⟩⟩, hk.1⟩)) hg (.inl rfl)); have n1_ := Aside0.mk (hp_); have n2_ := Aside0.mk (Kd.R_after (v := (.slice (some ⟨go59, 0, none⟩) x9_2.length co68)) (v1 := (.slice (some ⟨go59, 0, none⟩) x9_2.length co68)) (ok := (fun k_ => some k_ ≠ (.slice (some ad273) x8_2.length co67 : Value).ownBlock ∧ some k_ ≠ (u245000 : Value).ownBlock ∧ some k_ ≠ (u245001 : Value).ownBlock ∧ some k_ ≠ (u245002 : Value).ownBlock)) (by (with_reducible repeat (first | apply Kd.R_alloc | apply Kd.R_drewN | apply Kd.R_drew)); exact Kd.R_mono HO_10.out (fun _ hk => ⟨⟨hk.1, ⟨hk.2.2.1, ⟨hk.2.2.2.1, hk.2.2.2.2⟩⟩⟩, hk.2.1⟩)) hg (.inl rfl)); have n3_ := Aside0.mk (Kd.R_after (v := (.slice (some ⟨go59, 0, none⟩) x9_2.length co68)) (v1 := (.slice (some ⟨go59, 0, none⟩) x9_2.length co68)) (ok := (fun k_ => some k_ ≠ (.slice (some ad273) x8_2.length co67 : Value).ownBlock ∧ some k_ ≠ (.slice Ao43 x10_2.length co43 : Value).ownBlock ∧ some k_ ≠ (u245001 : Value).ownBlock ∧ some k_ ≠ (u245002 : Value).ownBlock)) (by (with_reducible repeat (first | apply Kd.R_alloc | apply Kd.R_drewN | apply Kd.R_drew)); exact Kd.R_mono HO_245000.out (fun _ hk => ⟨⟨hk.1, ⟨hk.2.2.1, ⟨hk.2.2.2.1, hk.2.2.2.2⟩⟩⟩, hk.2.1⟩)) hg (.inl rfl)); have n4_ := Aside0.mk (Kd.R_after (v := (.slice (some ⟨go59, 0, none⟩) x9_2.length co68)) (v1 := (.slice (some ⟨go59, 0, none⟩) x9_2.length co68)) (ok := (fun k_ => some k_ ≠ (.slice (some ad273) x8_2.length co67 : Value).ownBlock ∧ some k_ ≠ (.slice Ao43 x10_2.length co43 : Value).ownBlock ∧ some k_ ≠ (u245000 : Value).ownBlock ∧ some k_ ≠ (u245002 : Value).ownBlock)) (by (with_reducible repeat (first | apply Kd.R_alloc | apply Kd.R_drewN | apply Kd.R_drew)); exact Kd.R_mono HO_245001.out (fun _ hk => ⟨⟨hk.1, ⟨hk.2.2.1, ⟨hk.2.2.2.1, hk.2.2.2.2⟩⟩⟩, hk.2.1⟩)) hg (.inl rfl)); have n5_ := Aside0.mk (Kd.R_after (v := (.slice (some ⟨go59, 0, none⟩) x9_2.length co68)) (v1 := (.slice (some ⟨go59, 0, none⟩) x9_2.length co68)) (ok := (fun k_ => some k_ ≠ (.slice (some ad273) x8_2.length co67 : Value).ownBlock ∧ some k_ ≠ (.slice Ao43 x10_2.length co43 : Value).ownBlock ∧ some k_ ≠ (u245000 : Value).ownBlock ∧ some k_ ≠ (u245001 : Value).ownBlock)) (by (with_reducible repeat (first | apply Kd.R_alloc | apply Kd.R_drewN | apply Kd.R_drew)); exact Kd.R_mono HO_245002.out (fun _ hk => ⟨⟨hk.1, ⟨hk.2.2.1, ⟨hk.2.2.2.1, hk.2.2.2.2⟩⟩⟩, hk.2.1⟩)) hg (.inl rfl)); have n6_ := Aside0.mk (Kd.S_after (v := (.slice (some ⟨go59, 0, none⟩) x9_2.length co68)) (v1 := (.slice (some ⟨go59, 0, none⟩) x9_2.length co68)) (ok := (fun k_ => some k_ ≠ (.slice (some ad273) x8_2.length co67 : Value).ownBlock ∧ some k_ ≠ (.slice Ao43 x10_2.length co43 : Value).ownBlock ∧ some k_ ≠ (u245000 : Value).ownBlock ∧ some k_ ≠ (u245001 : Value).ownBlock ∧ some k_ ≠ (u245002 : Value).ownBlock)) (by (with_reducible repeat (first | apply Kd.S_alloc | apply Kd.S_drewN | apply Kd.S_drew)); exact Kd.S_mono HO_245003.out (fun _ hk => ⟨⟨hk.1, ⟨hk.2.2.1, ⟨hk.2.2.2.1, ⟨hk.2.2.2.2.1, hk.2.2.2.2.2⟩⟩⟩⟩, hk.2.1⟩)) hg (.inl rfl)); have n7_ := Aside0.mk (blk_grown (g := gb234) (o := .cells #[.slice none 0 0, .slice none 0 0, .slice none 0 0, .slice none 0 0] 54 (0, 0)) BK234.out hg (Kd.R_ne HO_9.out BK234.out (by decide))); have n8_ := Aside0.mk (blk_grown (g := gb244) (o := .cells #[u245000, u245001, u245002, u245003] 54 (0, 0)) BK244.out hg (Kd.R_ne HO_9.out BK244.out (by decide))); have n9_ := Aside0.mk ((by rw [hw]; exact below_set (HB.out) GB59.out : Below w.heap.size w w70)); clear HO_8; clear HO_9; clear HO_10; clear HO_245000; clear HO_245001; clear HO_245002; clear HO_245003; clear BK234; clear BK244; clear HB; have HO_8 := n0_; have HO_9 := n1_; have HO_10 := n2_; have HO_245000 := n3_; have HO_245001 := n4_; have HO_245002 := n5_; have HO_245003 := n6_; have BK234 := n7_; have BK244 := n8_; have HB := n9_; clear n0_ n1_ n2_ n3_ n4_ n5_ n6_ n7_ n8_ n9_; clear hg hw hp_; have p276 : 0 ≤ ((rd l2 x45_2) : Int) := of_decide_eq_true (by first | (with_reducible assumption) | assumption); have q276 : (rd l2 x45_2) < (y275.length : Int) := (by have h_ : ((rd l2 x45_2) : Int) < ((x9_2.length : Int) : Int) := of_decide_eq_true (by first | (with_reducible assumption) | assumption); first | (have e_ := (Kd.R_reads' HO_9.out).1; omega) | simpa only [Ny275.out, List.length_set] using h_); have ql276 : (((rd l2 x45_2) : Int) < ((x9_2.length : Int) : Int)) = True := eq_true (of_decide_eq_true (by first | (with_reducible assumption) | assumption)); obtain ⟨ad276, e276, hx276_0⟩ := Kd.at_int (Kd.R_reads' HO_9.out).2.2 (rd l2 x45_2) p276 q276; obtain rfl : (⟨go59, 0, none⟩ : Addr) = ad276 := (by injection e276); (first | simp only [add_plain] at hx276_0 | simp only [add_at] at hx276_0 | simp only [Addr.add, Nat.zero_add] at hx276_0 | skip); replace p276 := eq_true p276; replace q276 := eq_true q276))
                     have n0_ := Aside0.mk (Kd.R_drew HO_8.out)
                     have n1_ := Aside0.mk (Kd.R_drew HO_9.out)
                     have n2_ := Aside0.mk (Kd.R_drew HO_10.out)
                     have n3_ := Aside0.mk (Kd.R_drew HO_245000.out)
                     have n4_ := Aside0.mk (Kd.R_drew HO_245001.out)
                     have n5_ := Aside0.mk (Kd.R_drew HO_245002.out)
                     have n6_ := Aside0.mk (Kd.S_drew HO_245003.out)
                     have n7_ := Aside0.mk (blk_drew BK234.out)
                     have n8_ := Aside0.mk (blk_drew BK244.out)
                     have n9_ := Aside0.mk (below_drew1 HB.out)
                     clear HO_8
                     clear HO_9
                     clear HO_10
                     clear HO_245000
                     clear HO_245001
                     clear HO_245002
                     clear HO_245003
                     clear BK234
                     clear BK244
                     clear HB
                     have HO_8 := n0_
                     have HO_9 := n1_
                     have HO_10 := n2_
                     have HO_245000 := n3_
                     have HO_245001 := n4_
                     have HO_245002 := n5_
                     have HO_245003 := n6_
                     have BK234 := n7_
                     have BK244 := n8_
                     have HB := n9_
                     clear n0_ n1_ n2_ n3_ n4_ n5_ n6_ n7_ n8_ n9_
                     have p63 : 0 ≤ ((rd x8_2 (rd l2 x45_2)) : Int) := of_decide_eq_true (by first | (with_reducible assumption) | assumption)
                     have q63 : ((rd x8_2 (rd l2 x45_2)) : Int) < ((x10_2.length : Int) : Int) := of_decide_eq_true (by first | (with_reducible assumption) | assumption)
                     obtain ⟨go63, co63, eo63, gb63, gl63, cl63, HG63⟩ := Kd.R_form HO_10.out (by omega)
                     (first | cases eo63 | (injection eo63 with ea_ en_ ec_; (first | subst ea_ | (injection ea_ with ea_; subst ea_)); subst ec_; clear en_))
                     have GB63 := Aside0.mk gb63
                     have GG63 := Aside0.mk HG63
                     clear gb63 gl63 HG63
                     obtain ⟨hx63_0, hf63_0⟩ := Kd.R_celln 0 HO_10.out ((rd x8_2 (rd l2 x45_2)) : Int) p63 q63
                     replace p63 := eq_true p63
                     replace q63 := eq_true q63
                     have HP72 := Kd.R_putn HO_10.out ((rd x8_2 (rd l2 x45_2)) : Int) (-1)
                     rw [← Ny277.out] at HP72
                     have HQ72 := Aside0.mk HP72
                     clear HP72
                     have p64 : 0 ≤ ((rd l2 x45_2) : Int) := of_decide_eq_true (by first | (with_reducible assumption) | assumption)
                     have q64 : ((rd l2 x45_2) : Int) < ((x8_2.length : Int) : Int) := of_decide_eq_true (by first | (with_reducible assumption) | assumption)
                     obtain ⟨go64, co64, eo64, gb64, gl64, cl64, HG64⟩ := Kd.R_form HO_8.out (by omega)
                     (first | cases eo64 | (injection eo64 with ea_ en_ ec_; (first | subst ea_ | (injection ea_ with ea_; subst ea_)); subst ec_; clear en_))
                     have GB64 := Aside0.mk gb64
                     have GG64 := Aside0.mk HG64
                     clear gb64 gl64 HG64
                     (first | simp only [add_plain] at hx273_0 | skip)
                     obtain ⟨hx64_0, hf64_0⟩ := Kd.R_celln 0 (Kd.R_far (p := ⟨go63, ((rd x8_2 (rd l2 x45_2)) : Int).toNat, none⟩) (Kd.R_mono HO_8.out (fun k_ hk => (⟨hk, fun e_ => hk.1.1 (by rw [e_]; rfl)⟩ : _ ∧ k_ ≠ go63))) (fun _ hk => hk.2) (.int .i64 (-1))) ((rd l2 x45_2) : Int) p64 q64
                     replace p64 := eq_true p64
                     replace q64 := eq_true q64
                     have HP73 := Kd.R_putn (Kd.R_far (p := ⟨go63, ((rd x8_2 (rd l2 x45_2)) : Int).toNat, none⟩) (Kd.R_mono HO_8.out (fun k_ hk => (⟨hk, fun e_ => hk.1.1 (by rw [e_]; rfl)⟩ : _ ∧ k_ ≠ go63))) (fun _ hk => hk.2) (.int .i64 (-1))) ((rd l2 x45_2) : Int) a0
                     rw [← Ny278.out] at HP73
                     have HQ73 := Aside0.mk HP73
                     clear HP73
                     have p66 : 0 ≤ ((rd l2 x45_2) : Int) := of_decide_eq_true (by first | (with_reducible assumption) | assumption)
                     have q66 : ((rd l2 x45_2) : Int) < ((x245000_2.length : Int) : Int) := of_decide_eq_true (by first | (with_reducible assumption) | assumption)
                     obtain ⟨go66, co66, eo66, gb66, gl66, cl66, HG66⟩ := Kd.R_form HO_245000.out (by omega)
                     (first | cases eo66 | (injection eo66 with ea_ en_ ec_; (first | subst ea_ | (injection ea_ with ea_; subst ea_)); subst ec_; clear en_))
                     have GB66 := Aside0.mk gb66
                     have GG66 := Aside0.mk HG66
                     clear gb66 gl66 HG66
                     obtain ⟨hx66_0, hf66_0⟩ := Kd.R_celln 0 (Kd.R_far (p := ⟨go64, ((rd l2 x45_2) : Int).toNat, none⟩) (Kd.R_far (p := ⟨go63, ((rd x8_2 (rd l2 x45_2)) : Int).toNat, none⟩) (Kd.R_mono (Kd.R_mono HO_245000.out (fun k_ hk => (⟨hk, fun e_ => hk.1.2.1 (by rw [e_]; rfl)⟩ : _ ∧ k_ ≠ go63))) (fun k_ hk => (⟨hk, fun e_ => hk.1.1.1 (by rw [e_]; rfl)⟩ : _ ∧ k_ ≠ go64))) (fun _ hk => hk.1.2) (.int .i64 (-1))) (fun _ hk => hk.2) (.int .i64 a0)) ((rd l2 x45_2) : Int) p66 q66
                     replace p66 := eq_true p66
                     replace q66 := eq_true q66
                     have HP74 := Kd.R_putn (Kd.R_far (p := ⟨go64, ((rd l2 x45_2) : Int).toNat, none⟩) (Kd.R_far (p := ⟨go63, ((rd x8_2 (rd l2 x45_2)) : Int).toNat, none⟩) (Kd.R_mono (Kd.R_mono HO_245000.out (fun k_ hk => (⟨hk, fun e_ => hk.1.2.1 (by rw [e_]; rfl)⟩ : _ ∧ k_ ≠ go63))) (fun k_ hk => (⟨hk, fun e_ => hk.1.1.1 (by rw [e_]; rfl)⟩ : _ ∧ k_ ≠ go64))) (fun _ hk => hk.1.2) (.int .i64 (-1))) (fun _ hk => hk.2) (.int .i64 a0)) ((rd l2 x45_2) : Int) x12_1
                     rw [← Ny279.out] at HP74
                     have HQ74 := Aside0.mk HP74
                     clear HP74
                     refine start_ (n := 15) (S := fun w' => w'.cell? ⟨gb244, 0, none⟩ = some (.slice (some ⟨go66, 0, none⟩) x245000_2.length co66) ∧ w'.cell? ⟨gb244, 1, none⟩ = some (u245001) ∧ w'.cell? ⟨gb244, 2, none⟩ = some (u245002) ∧ w'.cell? ⟨gb244, 3, none⟩ = some (u245003)) (ds := [14]) #[false, false, false, false, false, false, false, false, false, false, false, false, false, false, false] (by kernel_rfl) rfl rfl ⟨(blk_cell BK244.out 0).trans rfl, (blk_cell BK244.out 1).trans rfl, (blk_cell BK244.out 2).trans rfl, (blk_cell BK244.out 3).trans rfl⟩ (fun hHeld => ?_); refine with_tabW impl_board.tab16 impl_board.bits16 (fun HT_ HW_ => ?_)
                     generalize w70.drew = w71 at HO_8 HO_9 HO_10 HO_245000 HO_245001 HO_245002 HO_245003 BK234 BK244 HB GG63 GG64 GG66 HQ72 HQ73 HQ74 hf63_0 hf64_0 hf66_0 hx273_0 hx63_0 hx64_0 hx66_0 hHeld ⊢
                     refine pure_ (i := 0) (N := some 73) (v := ?_) (a' := ?_) #[true, false, false, false, false, false, false, false, false, false, false, false, false, false, false] rfl rfl (any_of HT_.out (by kernel_rfl)) (fun _ _ _ h => h) (Or.inl ⟨by rfl, ?_⟩) ?_ ?_
                     rotate_left
                     ·intro w'
                      go_simp
                      with_reducible rfl
                     rotate_left
                     ·simp only [Act.put, List.setIfInBounds_toArray, List.set_cons_zero, List.set_cons_succ, i64_w, i32_w]
                      rfl
                     refine pure_ (i := 1) (N := some 74) (v := ?_) (a' := ?_) #[true, true, false, false, false, false, false, false, false, false, false, false, false, false, false] rfl rfl (any_of HT_.out (by kernel_rfl)) (fun _ _ _ h => h) (Or.inl ⟨by rfl, ?_⟩) ?_ ?_
                     rotate_left
                     ·intro w'
                      go_simp
                      with_reducible rfl
                     rotate_left
                     ·simp only [Act.put, List.setIfInBounds_toArray, List.set_cons_zero, List.set_cons_succ, i64_w, i32_w]
                      rfl
                     refine pure_ (i := 2) (N := some 75) (v := ?_) (a' := ?_) #[true, true, true, false, false, false, false, false, false, false, false, false, false, false, false] rfl rfl (any_of HT_.out (by kernel_rfl)) (fun _ _ _ h => h) (Or.inl ⟨by rfl, ?_⟩) ?_ ?_
                     rotate_left
                     ·intro w'
                      go_simp
                      with_reducible rfl
                     rotate_left
                     ·simp only [Act.put, List.setIfInBounds_toArray, List.set_cons_zero, List.set_cons_succ, i64_w, i32_w]
                      rfl
                     refine pure_ (i := 3) (N := some 76) (v := ?_) (a' := ?_) #[true, true, true, true, false, false, false, false, false, false, false, false, false, false, false] rfl rfl (any_of HT_.out (by kernel_rfl)) (fun _ _ _ h => h) (Or.inl ⟨by rfl, ?_⟩) ?_ ?_
                     rotate_left
                     ·intro w'
                      go_simp
                      with_reducible rfl
                     rotate_left
                     ·simp only [Act.put, List.setIfInBounds_toArray, List.set_cons_zero, List.set_cons_succ, i64_w, i32_w]
                      rfl
                     refine pure_ (i := 4) (N := some 77) (v := ?_) (a' := ?_) #[true, true, true, true, true, false, false, false, false, false, false, false, false, false, false] rfl rfl (any_of HT_.out (by kernel_rfl)) (fun _ _ _ h => h) (Or.inl ⟨by rfl, ?_⟩) ?_ ?_
                     rotate_left
                     ·intro w'
                      go_simp
                      with_reducible rfl
                     rotate_left
                     ·simp only [Act.put, List.setIfInBounds_toArray, List.set_cons_zero, List.set_cons_succ, i64_w, i32_w]
                      rfl
                     refine pure_ (i := 6) (N := some 79) (v := ?_) (a' := ?_) #[true, true, true, true, true, false, true, false, false, false, false, false, false, false, false] rfl rfl (any_of HT_.out (by kernel_rfl)) (fun _ _ _ h => h) (Or.inl ⟨by rfl, ?_⟩) ?_ ?_
                     rotate_left
                     ·intro w'
                      go_simp
                      with_reducible rfl
                     rotate_left
                     ·simp only [Act.put, List.setIfInBounds_toArray, List.set_cons_zero, List.set_cons_succ, i64_w, i32_w]
                      rfl
                     refine pure_ (i := 7) (N := some 80) (v := ?_) (a' := ?_) #[true, true, true, true, true, false, true, true, false, false, false, false, false, false, false] rfl rfl (any_of HT_.out (by kernel_rfl)) (fun _ _ _ h => h) (Or.inl ⟨by rfl, ?_⟩) ?_ ?_
                     rotate_left
                     ·intro w'
                      go_simp
                      with_reducible rfl
                     rotate_left
                     ·simp only [Act.put, List.setIfInBounds_toArray, List.set_cons_zero, List.set_cons_succ, i64_w, i32_w]
                      rfl
                     refine pure_ (i := 8) (N := some 81) (v := ?_) (a' := ?_) #[true, true, true, true, true, false, true, true, true, false, false, false, false, false, false] rfl rfl (any_of HT_.out (by kernel_rfl)) (fun _ _ _ h => h) (Or.inl ⟨by rfl, ?_⟩) ?_ ?_
                     rotate_left
                     ·intro w'
                      go_simp
                      with_reducible rfl
                     rotate_left
                     ·simp only [Act.put, List.setIfInBounds_toArray, List.set_cons_zero, List.set_cons_succ, i64_w, i32_w]
                      rfl
                     refine pure_ (i := 9) (N := some 82) (v := ?_) (a' := ?_) #[true, true, true, true, true, false, true, true, true, true, false, false, false, false, false] rfl rfl (any_of HT_.out (by kernel_rfl)) (fun _ _ _ h => h) (Or.inl ⟨by rfl, ?_⟩) ?_ ?_
                     rotate_left
                     ·intro w'
                      go_simp
                      with_reducible rfl
                     rotate_left
                     ·simp only [Act.put, List.setIfInBounds_toArray, List.set_cons_zero, List.set_cons_succ, i64_w, i32_w]
                      rfl
                     refine take_ (i := 5) (N := some 78) (v := ?_) (a' := ?_) #[true, true, true, true, true, true, true, true, true, true, false, false, false, false, false] rfl rfl (take_ofW HT_.out HW_.out (by kernel_rfl)) (fun _ _ _ h => h) (Or.inl ⟨by rfl, ?_⟩) hHeld ?_ ?_
                     rotate_left
                     ·rintro w' ⟨s0, s1, s2, s3⟩
                      go_simp
                      with_reducible rfl
                     rotate_left
                     ·simp only [Act.put, List.setIfInBounds_toArray, List.set_cons_zero, List.set_cons_succ, i64_w, i32_w]
                      rfl
                     refine one_ (i := 10) (N := none) #[true, true, true, true, true, true, true, true, true, true, true, false, false, false, false] rfl rfl (one_of HT_.out (by kernel_rfl)) (by decide) (fun K hK => ?_)
                     refine skip_ (w1 := ?_) (by rfl) rfl ?_ ?_
                     rotate_left
                     ·go_simp
                      rfl
                     refine hK.out _ _ ⟨((cell_far (p := ⟨go63, _, none⟩) (fun e_ => (Kd.R_ne HO_10.out BK244.out (by decide)) (congrArg some e_)) _).trans (hHeld.1)), ((cell_far (p := ⟨go63, _, none⟩) (fun e_ => (Kd.R_ne HO_10.out BK244.out (by decide)) (congrArg some e_)) _).trans (hHeld.2.1)), ((cell_far (p := ⟨go63, _, none⟩) (fun e_ => (Kd.R_ne HO_10.out BK244.out (by decide)) (congrArg some e_)) _).trans (hHeld.2.2.1)), ((cell_far (p := ⟨go63, _, none⟩) (fun e_ => (Kd.R_ne HO_10.out BK244.out (by decide)) (congrArg some e_)) _).trans (hHeld.2.2.2))⟩ (fun hHeld => ?_)
                     clear hK K
                     refine pure_ (i := 11) (N := some 83) (v := ?_) (a' := ?_) #[true, true, true, true, true, true, true, true, true, true, true, true, false, false, false] rfl rfl (any_of HT_.out (by kernel_rfl)) (fun _ _ _ h => h) (Or.inl ⟨by rfl, ?_⟩) ?_ ?_
                     rotate_left
                     ·intro w'
                      go_simp
                      with_reducible rfl
                     rotate_left
                     ·simp only [Act.put, List.setIfInBounds_toArray, List.set_cons_zero, List.set_cons_succ, i64_w, i32_w]
                      rfl
                     refine one_ (i := 12) (N := none) #[true, true, true, true, true, true, true, true, true, true, true, true, true, false, false] rfl rfl (one_of HT_.out (by kernel_rfl)) (by decide) (fun K hK => ?_)
                     refine skip_ (w1 := ?_) (by rfl) rfl ?_ ?_
                     rotate_left
                     ·go_simp
                      rfl
                     refine hK.out _ _ ⟨((cell_far (p := ⟨go64, _, none⟩) (fun e_ => (Kd.R_ne HO_8.out BK244.out (by decide)) (congrArg some e_)) _).trans (hHeld.1)), ((cell_far (p := ⟨go64, _, none⟩) (fun e_ => (Kd.R_ne HO_8.out BK244.out (by decide)) (congrArg some e_)) _).trans (hHeld.2.1)), ((cell_far (p := ⟨go64, _, none⟩) (fun e_ => (Kd.R_ne HO_8.out BK244.out (by decide)) (congrArg some e_)) _).trans (hHeld.2.2.1)), ((cell_far (p := ⟨go64, _, none⟩) (fun e_ => (Kd.R_ne HO_8.out BK244.out (by decide)) (congrArg some e_)) _).trans (hHeld.2.2.2))⟩ (fun hHeld => ?_)
                     clear hK K
                     refine pure_ (i := 13) (N := some 84) (v := ?_) (a' := ?_) #[true, true, true, true, true, true, true, true, true, true, true, true, true, true, false] rfl rfl (any_of HT_.out (by kernel_rfl)) (fun _ _ _ h => h) (Or.inl ⟨by rfl, ?_⟩) ?_ ?_
                     rotate_left
                     ·intro w'
                      go_simp
                      with_reducible rfl
                     rotate_left
                     ·simp only [Act.put, List.setIfInBounds_toArray, List.set_cons_zero, List.set_cons_succ, i64_w, i32_w]
                      rfl
                     refine last_ (i := 14) (N := none) #[true, true, true, true, true, true, true, true, true, true, true, true, true, true, true] rfl rfl (one_of HT_.out (by kernel_rfl)) (by decide) (fun K hK => ?_)
                     refine skip_ (w1 := ?_) (by rfl) rfl ?_ ?_
                     rotate_left
                     ·go_simp
                      rfl
                     refine hK.out _ _ ?_
                     clear hK K
                     refine done_ (done_of HT_.out (by kernel_rfl)) ?_
                     try go_wp2
                     (try simp only [← hl10_2])
                     go_roundg k2
                     case measure => have := HK1.out; have := HK2.out; omega
                     case rel => exact ⟨(y278), (y275), (y277), (wrap64 (x11_2 - 1)), (wrap64 (x45_2 + 1)), (y279), (x245001_2), (x245002_2), (.slice (some ⟨go66, 0, none⟩) x245000_2.length co66), (u245001), (u245002), (by first | rfl | (simp; done) | (simp [*]; done)), (by first | rfl | (simp; done) | (simp [*]; done)), H', ⟨by have := HK1.out; have := HK2.out; omega⟩, ⟨by (try simp only [hl10_1]); (try simp only [hl10_2]); (with_reducible repeat (first | apply Kd.R_alloc | apply Kd.R_drewN | apply Kd.R_drew)); exact Kd.R_mono (Kd.R_far (p := ⟨go66, ((rd l2 x45_2) : Int).toNat, none⟩) (Kd.R_mono HQ73.out (fun k_ hk => (⟨hk, fun e_ => hk.1.1.2.1 (by rw [e_]; rfl)⟩ : _ ∧ k_ ≠ go66))) (fun _ hk => hk.2) (.int .i64 x12_1)) (fun _ hk => ⟨hk.1.1.2, ⟨hk.1.1.1.1, ⟨hk.1.1.1.2.1, ⟨hk.1.1.1.2.2.1, hk.1.1.1.2.2.2⟩⟩⟩⟩)⟩, ⟨by (try simp only [hl10_1]); (try simp only [hl10_2]); (with_reducible repeat (first | apply Kd.R_alloc | apply Kd.R_drewN | apply Kd.R_drew)); exact Kd.R_mono (Kd.R_far (p := ⟨go66, ((rd l2 x45_2) : Int).toNat, none⟩) (Kd.R_far (p := ⟨go64, ((rd l2 x45_2) : Int).toNat, none⟩) (Kd.R_far (p := ⟨go63, ((rd x8_2 (rd l2 x45_2)) : Int).toNat, none⟩) (Kd.R_mono (Kd.R_mono (Kd.R_mono HO_9.out (fun k_ hk => (⟨hk, fun e_ => hk.2.1 (by rw [e_]; rfl)⟩ : _ ∧ k_ ≠ go63))) (fun k_ hk => (⟨hk, fun e_ => hk.1.1 (by rw [e_]; rfl)⟩ : _ ∧ k_ ≠ go64))) (fun k_ hk => (⟨hk, fun e_ => hk.1.1.2.2.1 (by rw [e_]; rfl)⟩ : _ ∧ k_ ≠ go66))) (fun _ hk => hk.1.1.2) (.int .i64 (-1))) (fun _ hk => hk.1.2) (.int .i64 a0)) (fun _ hk => hk.2) (.int .i64 x12_1)) (fun _ hk => ⟨hk.1.1.1.1, ⟨hk.1.1.1.2.1, ⟨hk.1.1.1.2.2.1, ⟨hk.1.1.1.2.2.2.1, hk.1.1.1.2.2.2.2⟩⟩⟩⟩)⟩, ⟨by (try simp only [hl10_1]); (try simp only [hl10_2]); (with_reducible repeat (first | apply Kd.R_alloc | apply Kd.R_drewN | apply Kd.R_drew)); exact Kd.R_mono (Kd.R_far (p := ⟨go66, ((rd l2 x45_2) : Int).toNat, none⟩) (Kd.R_far (p := ⟨go64, ((rd l2 x45_2) : Int).toNat, none⟩) (Kd.R_mono (Kd.R_mono HQ72.out (fun k_ hk => (⟨hk, fun e_ => hk.1.1 (by rw [e_]; rfl)⟩ : _ ∧ k_ ≠ go64))) (fun k_ hk => (⟨hk, fun e_ => hk.1.1.2.1 (by rw [e_]; rfl)⟩ : _ ∧ k_ ≠ go66))) (fun _ hk => hk.1.2) (.int .i64 a0)) (fun _ hk => hk.2) (.int .i64 x12_1)) (fun _ hk => ⟨hk.1.1.1.1, ⟨hk.1.1.2, ⟨hk.1.1.1.2.1, ⟨hk.1.1.1.2.2.1, hk.1.1.1.2.2.2⟩⟩⟩⟩)⟩, ⟨by (try simp only [hl10_1]); (try simp only [hl10_2]); (with_reducible repeat (first | apply Kd.R_alloc | apply Kd.R_drewN | apply Kd.R_drew)); exact Kd.R_mono HQ74.out (fun _ hk => ⟨hk.1.1.1.1, ⟨hk.1.1.2, ⟨hk.1.1.1.2.1, ⟨hk.1.1.1.2.2.1, hk.1.1.1.2.2.2⟩⟩⟩⟩)⟩, ⟨by (try simp only [hl10_1]); (try simp only [hl10_2]); (with_reducible repeat (first | apply Kd.R_alloc | apply Kd.R_drewN | apply Kd.R_drew)); exact Kd.R_mono (Kd.R_far (p := ⟨go66, ((rd l2 x45_2) : Int).toNat, none⟩) (Kd.R_far (p := ⟨go64, ((rd l2 x45_2) : Int).toNat, none⟩) (Kd.R_far (p := ⟨go63, ((rd x8_2 (rd l2 x45_2)) : Int).toNat, none⟩) (Kd.R_mono (Kd.R_mono (Kd.R_mono HO_245001.out (fun k_ hk => (⟨hk, fun e_ => hk.1.2.1 (by rw [e_]; rfl)⟩ : _ ∧ k_ ≠ go63))) (fun k_ hk => (⟨hk, fun e_ => hk.1.1.1 (by rw [e_]; rfl)⟩ : _ ∧ k_ ≠ go64))) (fun k_ hk => (⟨hk, fun e_ => hk.1.1.1.2.2.1 (by rw [e_]; rfl)⟩ : _ ∧ k_ ≠ go66))) (fun _ hk => hk.1.1.2) (.int .i64 (-1))) (fun _ hk => hk.1.2) (.int .i64 a0)) (fun _ hk => hk.2) (.int .i64 x12_1)) (fun _ hk => ⟨hk.1.1.1.1.1, ⟨hk.1.1.1.2, ⟨hk.1.1.1.1.2.1, ⟨hk.1.1.1.1.2.2.1, hk.1.1.1.1.2.2.2⟩⟩⟩⟩)⟩, ⟨by (try simp only [hl10_1]); (try simp only [hl10_2]); (with_reducible repeat (first | apply Kd.R_alloc | apply Kd.R_drewN | apply Kd.R_drew)); exact Kd.R_mono (Kd.R_far (p := ⟨go66, ((rd l2 x45_2) : Int).toNat, none⟩) (Kd.R_far (p := ⟨go64, ((rd l2 x45_2) : Int).toNat, none⟩) (Kd.R_far (p := ⟨go63, ((rd x8_2 (rd l2 x45_2)) : Int).toNat, none⟩) (Kd.R_mono (Kd.R_mono (Kd.R_mono HO_245002.out (fun k_ hk => (⟨hk, fun e_ => hk.1.2.1 (by rw [e_]; rfl)⟩ : _ ∧ k_ ≠ go63))) (fun k_ hk => (⟨hk, fun e_ => hk.1.1.1 (by rw [e_]; rfl)⟩ : _ ∧ k_ ≠ go64))) (fun k_ hk => (⟨hk, fun e_ => hk.1.1.1.2.2.1 (by rw [e_]; rfl)⟩ : _ ∧ k_ ≠ go66))) (fun _ hk => hk.1.1.2) (.int .i64 (-1))) (fun _ hk => hk.1.2) (.int .i64 a0)) (fun _ hk => hk.2) (.int .i64 x12_1)) (fun _ hk => ⟨hk.1.1.1.1.1, ⟨hk.1.1.1.2, ⟨hk.1.1.1.1.2.1, ⟨hk.1.1.1.1.2.2.1, hk.1.1.1.1.2.2.2⟩⟩⟩⟩)⟩, ⟨by (try simp only [hl10_1]); (try simp only [hl10_2]); (with_reducible repeat (first | apply Kd.S_alloc | apply Kd.S_drewN | apply Kd.S_drew)); exact Kd.S_mono (Kd.S_far (p := ⟨go66, ((rd l2 x45_2) : Int).toNat, none⟩) (Kd.S_far (p := ⟨go64, ((rd l2 x45_2) : Int).toNat, none⟩) (Kd.S_far (p := ⟨go63, ((rd x8_2 (rd l2 x45_2)) : Int).toNat, none⟩) (Kd.S_mono (Kd.S_mono (Kd.S_mono HO_245003.out (fun k_ hk => (⟨hk, fun e_ => hk.1.2.1 (by rw [e_]; rfl)⟩ : _ ∧ k_ ≠ go63))) (fun k_ hk => (⟨hk, fun e_ => hk.1.1.1 (by rw [e_]; rfl)⟩ : _ ∧ k_ ≠ go64))) (fun k_ hk => (⟨hk, fun e_ => hk.1.1.1.2.2.1 (by rw [e_]; rfl)⟩ : _ ∧ k_ ≠ go66))) (fun _ hk => hk.1.1.2) (.int .i64 (-1))) (fun _ hk => hk.1.2) (.int .i64 a0)) (fun _ hk => hk.2) (.int .i64 x12_1)) (fun _ hk => ⟨hk.1.1.1.1.1, ⟨hk.1.1.1.2, ⟨hk.1.1.1.1.2.1, ⟨hk.1.1.1.1.2.2.1, ⟨hk.1.1.1.1.2.2.2.1, hk.1.1.1.1.2.2.2.2⟩⟩⟩⟩⟩)⟩, ⟨by (try simp only [hl10_1]); (try simp only [hl10_2]); (with_reducible repeat (first | refine blk_drewN ?_ _ | refine blk_drew ?_ | refine blk_alloc ?_ _)); refine blk_far ?_ (by have h_ := Kd.R_ne HO_245000.out BK234.out (by decide); intro e_; exact h_ (by rw [e_]; rfl)) _; (with_reducible repeat (first | refine blk_drewN ?_ _ | refine blk_drew ?_ | refine blk_alloc ?_ _)); refine blk_far ?_ (by have h_ := Kd.R_ne HO_8.out BK234.out (by decide); intro e_; exact h_ (by rw [e_]; rfl)) _; (with_reducible repeat (first | refine blk_drewN ?_ _ | refine blk_drew ?_ | refine blk_alloc ?_ _)); refine blk_far ?_ (by have h_ := Kd.R_ne HO_10.out BK234.out (by decide); intro e_; exact h_ (by rw [e_]; rfl)) _; (with_reducible repeat (first | refine blk_drewN ?_ _ | refine blk_drew ?_ | refine blk_alloc ?_ _)); exact BK234.out⟩, ⟨by (try simp only [hl10_1]); (try simp only [hl10_2]); (with_reducible repeat (first | refine blk_drewN ?_ _ | refine blk_drew ?_ | refine blk_alloc ?_ _)); refine blk_far ?_ (by have h_ := Kd.R_ne HO_245000.out BK244.out (by decide); intro e_; exact h_ (by rw [e_]; rfl)) _; (with_reducible repeat (first | refine blk_drewN ?_ _ | refine blk_drew ?_ | refine blk_alloc ?_ _)); refine blk_far ?_ (by have h_ := Kd.R_ne HO_8.out BK244.out (by decide); intro e_; exact h_ (by rw [e_]; rfl)) _; (with_reducible repeat (first | refine blk_drewN ?_ _ | refine blk_drew ?_ | refine blk_alloc ?_ _)); refine blk_far ?_ (by have h_ := Kd.R_ne HO_10.out BK244.out (by decide); intro e_; exact h_ (by rw [e_]; rfl)) _; (with_reducible repeat (first | refine blk_drewN ?_ _ | refine blk_drew ?_ | refine blk_alloc ?_ _)); exact BK244.out⟩, ⟨by repeat (first | (with_reducible first | exact HB.out | apply below_alloc | apply pw_below_drewN | apply below_drew1 | refine below_set ?_ GB63.out | refine below_set ?_ GB64.out | refine below_set ?_ GB66.out | refine below_set ?_ GE234.out | refine below_set ?_ GE244.out) | exact HB.out)⟩⟩
                    ·rw [if_neg c65] at H
                     exact absurd H (by simp)
                   ·rw [if_neg c62] at H
                    exact absurd H (by simp)
                  ·rw [if_neg c61] at H
                   exact absurd H (by simp)
                 ·rw [if_neg c60] at H
                  have c60b0 : ((rd y275 (rd l2 x45_2)) == a1) = false := beq_eq_false_iff_ne.mpr c60
                  have c60b1 : ((rd y275 (rd l2 x45_2)) != a1) = true := bne_iff_ne.mpr c60
                  have H' := Aside0.mk H
                  clear H
                  have p272 : 0 ≤ (x45_2 : Int) := of_decide_eq_true (by first | (with_reducible assumption) | assumption)
                  have q272 : x45_2 < (l2.length : Int) := of_decide_eq_true (by first | (with_reducible assumption) | assumption)
                  obtain ⟨ad272, e272, hx272_0⟩ := Kd.at_int HR2.out x45_2 p272 q272
                  cases e272
                  (try replace hx272_0 := (HB.out.cell (World.block_lt_of_cell? w _ hx272_0)).trans hx272_0)
                  replace p272 := eq_true p272
                  replace q272 := eq_true q272
                  obtain ⟨Ao75, co75, eo75⟩ := Kd.R_slice HO_8.out
                  subst eo75
                  have p273 : 0 ≤ ((rd l2 x45_2) : Int) := of_decide_eq_true (by first | (with_reducible assumption) | assumption)
                  have q273 : (rd l2 x45_2) < (x8_2.length : Int) := of_decide_eq_true (by first | (with_reducible assumption) | assumption)
                  obtain ⟨ad273, e273, hx273_0⟩ := Kd.at_int (Kd.R_reads' HO_8.out).2.2 (rd l2 x45_2) p273 q273
                  cases e273
                  replace p273 := eq_true p273
                  replace q273 := eq_true q273
                  obtain ⟨Ao76, co76, eo76⟩ := Kd.R_slice HO_9.out
                  subst eo76
                  have p274 : 0 ≤ ((rd l2 x45_2) : Int) := of_decide_eq_true (by first | (with_reducible assumption) | assumption)
                  have q274 : (rd l2 x45_2) < (x9_2.length : Int) := of_decide_eq_true (by first | (with_reducible assumption) | assumption)
                  obtain ⟨ad274, e274, hx274_0⟩ := Kd.at_int (Kd.R_reads' HO_9.out).2.2 (rd l2 x45_2) p274 q274
                  cases e274
                  replace p274 := eq_true p274
                  replace q274 := eq_true q274
                  have p59 : 0 ≤ ((rd l2 x45_2) : Int) := of_decide_eq_true (by first | (with_reducible assumption) | assumption)
                  have q59 : ((rd l2 x45_2) : Int) < ((x9_2.length : Int) : Int) := of_decide_eq_true (by first | (with_reducible assumption) | assumption)
                  obtain ⟨go59, co59, eo59, gb59, gl59, cl59, HG59⟩ := Kd.R_form HO_9.out (by omega)
                  (first | cases eo59 | (injection eo59 with ea_ en_ ec_; (first | subst ea_ | (injection ea_ with ea_; subst ea_)); subst ec_; clear en_))
                  have GB59 := Aside0.mk gb59
                  have GG59 := Aside0.mk HG59
                  clear gb59 gl59 HG59
                  (first | simp only [add_plain] at hx274_0 | skip)
                  obtain ⟨hx59_0, hf59_0⟩ := Kd.R_celln 0 HO_9.out ((rd l2 x45_2) : Int) p59 q59
                  replace p59 := eq_true p59
                  replace q59 := eq_true q59
                  have HP77 := Kd.R_putg HO_9.out ((rd l2 x45_2) : Int) (wrap64 ((rd x9_2 (rd l2 x45_2)) + 1))
                  go_wp2_with (first | ((with_reducible refine gate_store (t := 3) (p := 66) rfl ?_); refine store_event (t := 3) (p := 66) (v := ?vo_w78) (w1 := (wr.setCell ⟨go59, ((rd l2 x45_2) : Int).toNat, none⟩ (.int .i64 (wrap64 ((rd x9_2 (rd l2 x45_2)) + 1))))) ?hg ?ho ?hn ?hr ?_; (case ho => rfl); (case hg => rfl); (case hn => rfl); (case hr => first | (go_simp; done) | (go_simp; rfl)); intro w78 hw; have hg : wr.grownBy w78 (some go59) := (by rw [hw]; exact HP77.2); have hp_ : Kd.R (Kd.int .i64) 3 w78 w.heap.size (fun k_ => some k_ ≠ (.slice (some ad273) x8_2.length co75 : Value).ownBlock ∧ some k_ ≠ (.slice Ao43 x10_2.length co43 : Value).ownBlock ∧ some k_ ≠ (u245000 : Value).ownBlock ∧ some k_ ≠ (u245001 : Value).ownBlock ∧ some k_ ≠ (u245002 : Value).ownBlock) (.slice (some ⟨go59, 0, none⟩) x9_2.length co76) y275 := (by rw [hw, Ny275.out]; exact HP77.1); clear HP77; have n0_ := Aside0.mk (Kd.R_after (v := (.slice (some ⟨go59, 0, none⟩) x9_2.length co76)) (v1 := (.slice (some ⟨go59, 0, none⟩) x9_2.length co76)) (ok := (fun k_ => some k_ ≠ (.slice Ao43 x10_2.length co43 : Value).ownBlock ∧ some k_ ≠ (u245000 : Value).ownBlock ∧ some k_ ≠ (u245001 : Value).ownBlock ∧ some k_ ≠ (u245002 : Value).ownBlock)) (by (with_reducible repeat (first | apply Kd.R_alloc | apply Kd.R_drewN | apply Kd.R_drew)); exact Kd.R_mono HO_8.out (fun _ hk => ⟨⟨hk.2.1, ⟨hk.2.2.1, ⟨hk.2.2.2.1, hk.2.2.2.2⟩⟩⟩, hk.1⟩)) hg (.inl rfl)); have n1_ := Aside0.mk (hp_); have n2_ := Aside0.mk (Kd.R_after (v := (.slice (some ⟨go59, 0, none⟩) x9_2.length co76)) (v1 := (.slice (some ⟨go59, 0, none⟩) x9_2.length co76)) (ok := (fun k_ => some k_ ≠ (.slice (some ad273) x8_2.length co75 : Value).ownBlock ∧ some k_ ≠ (u245000 : Value).ownBlock ∧ some k_ ≠ (u245001 : Value).ownBlock ∧ some k_ ≠ (u245002 : Value).ownBlock)) (by (with_reducible repeat (first | apply Kd.R_alloc | apply Kd.R_drewN | apply Kd.R_drew)); exact Kd.R_mono HO_10.out (fun _ hk => ⟨⟨hk.1, ⟨hk.2.2.1, ⟨hk.2.2.2.1, hk.2.2.2.2⟩⟩⟩, hk.2.1⟩)) hg (.inl rfl)); have n3_ := Aside0.mk (Kd.R_after (v := (.slice (some ⟨go59, 0, none⟩) x9_2.length co76)) (v1 := (.slice (some ⟨go59, 0, none⟩) x9_2.length co76)) (ok := (fun k_ => some k_ ≠ (.slice (some ad273) x8_2.length co75 : Value).ownBlock ∧ some k_ ≠ (.slice Ao43 x10_2.length co43 : Value).ownBlock ∧ some k_ ≠ (u245001 : Value).ownBlock ∧ some k_ ≠ (u245002 : Value).ownBlock)) (by (with_reducible repeat (first | apply Kd.R_alloc | apply Kd.R_drewN | apply Kd.R_drew)); exact Kd.R_mono HO_245000.out (fun _ hk => ⟨⟨hk.1, ⟨hk.2.2.1, ⟨hk.2.2.2.1, hk.2.2.2.2⟩⟩⟩, hk.2.1⟩)) hg (.inl rfl)); have n4_ := Aside0.mk (Kd.R_after (v := (.slice (some ⟨go59, 0, none⟩) x9_2.length co76)) (v1 := (.slice (some ⟨go59, 0, none⟩) x9_2.length co76)) (ok := (fun k_ => some k_ ≠ (.slice (some ad273) x8_2.length co75 : Value).ownBlock ∧ some k_ ≠ (.slice Ao43 x10_2.length co43 : Value).ownBlock ∧ some k_ ≠ (u245000 : Value).ownBlock ∧ some k_ ≠ (u245002 : Value).ownBlock)) (by (with_reducible repeat (first | apply Kd.R_alloc | apply Kd.R_drewN | apply Kd.R_drew)); exact Kd.R_mono HO_245001.out (fun _ hk => ⟨⟨hk.1, ⟨hk.2.2.1, ⟨hk.2.2.2.1, hk.2.2.2.2⟩⟩⟩, hk.2.1⟩)) hg (.inl rfl)); have n5_ := Aside0.mk (Kd.R_after (v := (.slice (some ⟨go59, 0, none⟩) x9_2.length co76)) (v1 := (.slice (some ⟨go59, 0, none⟩) x9_2.length co76)) (ok := (fun k_ => some k_ ≠ (.slice (some ad273) x8_2.length co75 : Value).ownBlock ∧ some k_ ≠ (.slice Ao43 x10_2.length co43 : Value).ownBlock ∧ some k_ ≠ (u245000 : Value).ownBlock ∧ some k_ ≠ (u245001 : Value).ownBlock)) (by (with_reducible repeat (first | apply Kd.R_alloc | apply Kd.R_drewN | apply Kd.R_drew)); exact Kd.R_mono HO_245002.out (fun _ hk => ⟨⟨hk.1, ⟨hk.2.2.1, ⟨hk.2.2.2.1, hk.2.2.2.2⟩⟩⟩, hk.2.1⟩)) hg (.inl rfl)); have n6_ := Aside0.mk (Kd.S_after (v := (.slice (some ⟨go59, 0, none⟩) x9_2.length co76)) (v1 := (.slice (some ⟨go59, 0, none⟩) x9_2.length co76)) (ok := (fun k_ => some k_ ≠ (.slice (some ad273) x8_2.length co75 : Value).ownBlock ∧ some k_ ≠ (.slice Ao43 x10_2.length co43 : Value).ownBlock ∧ some k_ ≠ (u245000 : Value).ownBlock ∧ some k_ ≠ (u245001 : Value).ownBlock ∧ some k_ ≠ (u245002 : Value).ownBlock)) (by (with_reducible repeat (first | apply Kd.S_alloc | apply Kd.S_drewN | apply Kd.S_drew)); exact Kd.S_mono HO_245003.out (fun _ hk => ⟨⟨hk.1, ⟨hk.2.2.1, ⟨hk.2.2.2.1, ⟨hk.2.2.2.2.1, hk.2.2.2.2.2⟩⟩⟩⟩, hk.2.1⟩)) hg (.inl rfl)); have n7_ := Aside0.mk (blk_grown (g := gb234) (o := .cells #[.slice none 0 0, .slice none 0 0, .slice none 0 0, .slice none 0 0] 54 (0, 0)) BK234.out hg (Kd.R_ne HO_9.out BK234.out (by decide))); have n8_ := Aside0.mk (blk_grown (g := gb244) (o := .cells #[u245000, u245001, u245002, u245003] 54 (0, 0)) BK244.out hg (Kd.R_ne HO_9.out BK244.out (by decide))); have n9_ := Aside0.mk ((by rw [hw]; exact below_set (HB.out) GB59.out : Below w.heap.size w w78)); clear HO_8; clear HO_9; clear HO_10; clear HO_245000; clear HO_245001; clear HO_245002; clear HO_245003; clear BK234; clear BK244; clear HB; have HO_8 := n0_; have HO_9 := n1_; have HO_10 := n2_; have HO_245000 := n3_; have HO_245001 := n4_; have HO_245002 := n5_; have HO_245003 := n6_; have BK234 := n7_; have BK244 := n8_; have HB := n9_; clear n0_ n1_ n2_ n3_ n4_ n5_ n6_ n7_ n8_ n9_; clear hg hw hp_; have p276 : 0 ≤ ((rd l2 x45_2) : Int) := of_decide_eq_true (by first | (with_reducible assumption) | assumption); have q276 : (rd l2 x45_2) < (y275.length : Int) := (by have h_ : ((rd l2 x45_2) : Int) < ((x9_2.length : Int) : Int) := of_decide_eq_true (by first | (with_reducible assumption) | assumption); first | (have e_ := (Kd.R_reads' HO_9.out).1; omega) | simpa only [Ny275.out, List.length_set] using h_); have ql276 : (((rd l2 x45_2) : Int) < ((x9_2.length : Int) : Int)) = True := eq_true (of_decide_eq_true (by first | (with_reducible assumption) | assumption)); obtain ⟨ad276, e276, hx276_0⟩ := Kd.at_int (Kd.R_reads' HO_9.out).2.2 (rd l2 x45_2) p276 q276; obtain rfl : (⟨go59, 0, none⟩ : Addr) = ad276 := (by injection e276); (first | simp only [add_plain] at hx276_0 | simp only [add_at] at hx276_0 | simp only [Addr.add, Nat.zero_add] at hx276_0 | skip); replace p276 := eq_true p276; replace q276 := eq_true q276))
                  (try simp only [← hl10_2])
                  go_roundg k2
                  case measure => have := HK1.out; have := HK2.out; omega
                  case rel => exact ⟨(x8_2), (y275), (x10_2), (x11_2), (wrap64 (x45_2 + 1)), (x245000_2), (x245001_2), (x245002_2), (u245000), (u245001), (u245002), (by first | rfl | (simp; done) | (simp [*]; done)), (by first | rfl | (simp; done) | (simp [*]; done)), H', ⟨by have := HK1.out; have := HK2.out; omega⟩, ⟨by (try simp only [hl10_1]); (try simp only [hl10_2]); (with_reducible repeat (first | apply Kd.R_alloc | apply Kd.R_drewN | apply Kd.R_drew)); exact Kd.R_mono HO_8.out (fun _ hk => ⟨hk.2, ⟨hk.1.1, ⟨hk.1.2.1, ⟨hk.1.2.2.1, hk.1.2.2.2⟩⟩⟩⟩)⟩, ⟨by (try simp only [hl10_1]); (try simp only [hl10_2]); (with_reducible repeat (first | apply Kd.R_alloc | apply Kd.R_drewN | apply Kd.R_drew)); exact HO_9.out⟩, ⟨by (try simp only [hl10_1]); (try simp only [hl10_2]); (with_reducible repeat (first | apply Kd.R_alloc | apply Kd.R_drewN | apply Kd.R_drew)); exact Kd.R_mono HO_10.out (fun _ hk => ⟨hk.1.1, ⟨hk.2, ⟨hk.1.2.1, ⟨hk.1.2.2.1, hk.1.2.2.2⟩⟩⟩⟩)⟩, ⟨by (try simp only [hl10_1]); (try simp only [hl10_2]); (with_reducible repeat (first | apply Kd.R_alloc | apply Kd.R_drewN | apply Kd.R_drew)); exact Kd.R_mono HO_245000.out (fun _ hk => ⟨hk.1.1, ⟨hk.2, ⟨hk.1.2.1, ⟨hk.1.2.2.1, hk.1.2.2.2⟩⟩⟩⟩)⟩, ⟨by (try simp only [hl10_1]); (try simp only [hl10_2]); (with_reducible repeat (first | apply Kd.R_alloc | apply Kd.R_drewN | apply Kd.R_drew)); exact Kd.R_mono HO_245001.out (fun _ hk => ⟨hk.1.1, ⟨hk.2, ⟨hk.1.2.1, ⟨hk.1.2.2.1, hk.1.2.2.2⟩⟩⟩⟩)⟩, ⟨by (try simp only [hl10_1]); (try simp only [hl10_2]); (with_reducible repeat (first | apply Kd.R_alloc | apply Kd.R_drewN | apply Kd.R_drew)); exact Kd.R_mono HO_245002.out (fun _ hk => ⟨hk.1.1, ⟨hk.2, ⟨hk.1.2.1, ⟨hk.1.2.2.1, hk.1.2.2.2⟩⟩⟩⟩)⟩, ⟨by (try simp only [hl10_1]); (try simp only [hl10_2]); (with_reducible repeat (first | apply Kd.S_alloc | apply Kd.S_drewN | apply Kd.S_drew)); exact Kd.S_mono HO_245003.out (fun _ hk => ⟨hk.1.1, ⟨hk.2, ⟨hk.1.2.1, ⟨hk.1.2.2.1, ⟨hk.1.2.2.2.1, hk.1.2.2.2.2⟩⟩⟩⟩⟩)⟩, ⟨by (try simp only [hl10_1]); (try simp only [hl10_2]); first | (with_reducible exact BK234.out) | ((with_reducible repeat (first | refine blk_drewN ?_ _ | refine blk_drew ?_ | refine blk_alloc ?_ _)); exact BK234.out)⟩, ⟨by (try simp only [hl10_1]); (try simp only [hl10_2]); first | (with_reducible exact BK244.out) | ((with_reducible repeat (first | refine blk_drewN ?_ _ | refine blk_drew ?_ | refine blk_alloc ?_ _)); exact BK244.out)⟩, ⟨by repeat (first | (with_reducible first | exact HB.out | apply below_alloc | apply pw_below_drewN | apply below_drew1 | refine below_set ?_ GE234.out | refine below_set ?_ GE244.out) | exact HB.out)⟩⟩
                ·rw [if_neg c58] at H
                 exact absurd H (by simp)
               ·rw [if_neg c57] at H
                have c57b0 : ((rd x8_2 (rd l2 x45_2)) == (rd l2 x45_2)) = false := beq_eq_false_iff_ne.mpr c57
                have c57b1 : ((rd x8_2 (rd l2 x45_2)) != (rd l2 x45_2)) = true := bne_iff_ne.mpr c57
                obtain ⟨ji79, hji79⟩ : ∃ j_ : Int, (wrap64 ((rd x8_2 (rd l2 x45_2)) + 1)) = j_ := ⟨_, rfl⟩
                replace H : (if 0 ≤ (ji79) then (if (ji79) < (x10_2.length : Int) then (if (rd x10_2 (ji79)) < 0 then (if (rd x8_2 (rd l2 x45_2)) < 0 then (if (rd l2 x45_2) < (x245001_2.length : Int) then (impl_board.l1 k2 a0 a1 l2 (x8_2.set ((rd l2 x45_2) : Int).toNat (ji79)) x9_2 (x10_2.set ((ji79) : Int).toNat (rd l2 x45_2)) x11_2 x12_1 l2 (l2.length : Int) (wrap64 (x45_2 + 1)) x245000_2 (x245001_2.set ((rd l2 x45_2) : Int).toNat x12_1) x245002_2 x245003_1) else (none)) else (if 0 ≤ (rd x8_2 (rd l2 x45_2)) then (if (rd x8_2 (rd l2 x45_2)) < (x10_2.length : Int) then (impl_board.l1 k2 a0 a1 l2 (x8_2.set ((rd l2 x45_2) : Int).toNat (ji79)) x9_2 ((x10_2.set ((rd x8_2 (rd l2 x45_2)) : Int).toNat (-1)).set ((ji79) : Int).toNat (rd l2 x45_2)) x11_2 x12_1 l2 (l2.length : Int) (wrap64 (x45_2 + 1)) x245000_2 x245001_2 x245002_2 x245003_1) else (none)) else (none))) else (if (rd x8_2 (rd l2 x45_2)) ≥ 0 then (if (rd l2 x45_2) < (x245002_2.length : Int) then (impl_board.l1 k2 a0 a1 l2 x8_2 x9_2 x10_2 x11_2 x12_1 l2 (l2.length : Int) (wrap64 (x45_2 + 1)) x245000_2 x245001_2 (x245002_2.set ((rd l2 x45_2) : Int).toNat (wrap64 ((rd x245002_2 (rd l2 x45_2)) + 1))) x245003_1) else (none)) else (impl_board.l1 k2 a0 a1 l2 x8_2 x9_2 x10_2 x11_2 x12_1 l2 (l2.length : Int) (wrap64 (x45_2 + 1)) x245000_2 x245001_2 x245002_2 x245003_1))) else (none)) else (none)) = some (r1, r2, r3, r4) := by first | (rw [hji79] at H; exact H) | (simp only [hji79] at H ⊢; exact H)
                have hji79w : (IntKind.i64.wrap ((rd x8_2 (rd l2 x45_2)) + 1)) = ji79 := (i64_w _).trans hji79
                by_cases c80 : 0 ≤ (ji79)
                ·rw [if_pos c80] at H
                 have c80b0 : decide (0 ≤ (ji79)) = true := decide_eq_true c80
                 clear c80
                 by_cases c81 : (ji79) < (x10_2.length : Int)
                 ·rw [if_pos c81] at H
                  have c81b0 : decide ((ji79) < (x10_2.length : Int)) = true := decide_eq_true c81
                  clear c81
                  by_cases c82 : (rd x10_2 (ji79)) < 0
                  ·rw [if_pos c82] at H
                   have c82b0 : decide ((rd x10_2 (ji79)) < 0) = true := decide_eq_true c82
                   clear c82
                   by_cases c83 : (rd x8_2 (rd l2 x45_2)) < 0
                   ·rw [if_pos c83] at H
                    have c83b0 : decide ((rd x8_2 (rd l2 x45_2)) < 0) = true := decide_eq_true c83
                    clear c83
                    by_cases c84 : (rd l2 x45_2) < (x245001_2.length : Int)
                    ·rw [if_pos c84] at H
                     have c84b0 : decide ((rd l2 x45_2) < (x245001_2.length : Int)) = true := decide_eq_true c84
                     clear c84
                     obtain ⟨y281, hy281⟩ : ∃ y_ : List Int, y_ = (x245001_2.set ((rd l2 x45_2) : Int).toNat x12_1) := ⟨_, rfl⟩
                     replace H : (impl_board.l1 k2 a0 a1 l2 (x8_2.set ((rd l2 x45_2) : Int).toNat (ji79)) x9_2 (x10_2.set ((ji79) : Int).toNat (rd l2 x45_2)) x11_2 x12_1 l2 (l2.length : Int) (wrap64 (x45_2 + 1)) x245000_2 y281 x245002_2 x245003_1) = some (r1, r2, r3, r4) := by first | (rw [hy281]; with_reducible exact H) | (have H2_ := (Option.bind_some _ _).symm.trans H; rw [hy281]; with_reducible exact H2_) | (have H2_ := (Option.bind_some _ _).symm.trans H; with_reducible exact H2_) | with_reducible exact H | (rw [hy281]; exact H) | exact H
                     have Ny281 := Aside0.mk hy281
                     clear hy281
                     obtain ⟨y282, hy282⟩ : ∃ y_ : List Int, y_ = (x10_2.set ((ji79) : Int).toNat (rd l2 x45_2)) := ⟨_, rfl⟩
                     replace H : (impl_board.l1 k2 a0 a1 l2 (x8_2.set ((rd l2 x45_2) : Int).toNat (ji79)) x9_2 y282 x11_2 x12_1 l2 (l2.length : Int) (wrap64 (x45_2 + 1)) x245000_2 y281 x245002_2 x245003_1) = some (r1, r2, r3, r4) := by first | (rw [hy282]; with_reducible exact H) | (have H2_ := (Option.bind_some _ _).symm.trans H; rw [hy282]; with_reducible exact H2_) | (have H2_ := (Option.bind_some _ _).symm.trans H; with_reducible exact H2_) | with_reducible exact H | (rw [hy282]; exact H) | exact H
                     have Ny282 := Aside0.mk hy282
                     clear hy282
                     obtain ⟨y283, hy283⟩ : ∃ y_ : List Int, y_ = (x8_2.set ((rd l2 x45_2) : Int).toNat (ji79)) := ⟨_, rfl⟩
                     replace H : (impl_board.l1 k2 a0 a1 l2 y283 x9_2 y282 x11_2 x12_1 l2 (l2.length : Int) (wrap64 (x45_2 + 1)) x245000_2 y281 x245002_2 x245003_1) = some (r1, r2, r3, r4) := by first | (rw [hy283]; with_reducible exact H) | (have H2_ := (Option.bind_some _ _).symm.trans H; rw [hy283]; with_reducible exact H2_) | (have H2_ := (Option.bind_some _ _).symm.trans H; with_reducible exact H2_) | with_reducible exact H | (rw [hy283]; exact H) | exact H
                     have Ny283 := Aside0.mk hy283
                     clear hy283
                     have H' := Aside0.mk H
                     clear H
                     have p272 : 0 ≤ (x45_2 : Int) := of_decide_eq_true (by first | (with_reducible assumption) | assumption)
                     have q272 : x45_2 < (l2.length : Int) := of_decide_eq_true (by first | (with_reducible assumption) | assumption)
                     obtain ⟨ad272, e272, hx272_0⟩ := Kd.at_int HR2.out x45_2 p272 q272
                     cases e272
                     (try replace hx272_0 := (HB.out.cell (World.block_lt_of_cell? w _ hx272_0)).trans hx272_0)
                     replace p272 := eq_true p272
                     replace q272 := eq_true q272
                     obtain ⟨Ao88, co88, eo88⟩ := Kd.R_slice HO_8.out
                     subst eo88
                     have p273 : 0 ≤ ((rd l2 x45_2) : Int) := of_decide_eq_true (by first | (with_reducible assumption) | assumption)
                     have q273 : (rd l2 x45_2) < (x8_2.length : Int) := of_decide_eq_true (by first | (with_reducible assumption) | assumption)
                     obtain ⟨ad273, e273, hx273_0⟩ := Kd.at_int (Kd.R_reads' HO_8.out).2.2 (rd l2 x45_2) p273 q273
                     cases e273
                     replace p273 := eq_true p273
                     replace q273 := eq_true q273
                     have p280 : 0 ≤ ((ji79) : Int) := of_decide_eq_true (by first | (with_reducible assumption) | assumption)
                     have q280 : (ji79) < (x10_2.length : Int) := of_decide_eq_true (by first | (with_reducible assumption) | assumption)
                     obtain ⟨ad280, e280, hx280_0⟩ := Kd.at_int (Kd.R_reads' HO_10.out).2.2 (ji79) p280 q280
                     cases e280
                     replace p280 := eq_true p280
                     replace q280 := eq_true q280
                     have hnb89 := NB244_234.out
                     have hnc89 := NB234_244.out
                     have hcz90_0 : wr.cell? ⟨gb244, 0, none⟩ = some (u245000) := (blk_cell BK244.out 0).trans rfl
                     have hcz90_1 : wr.cell? ⟨gb244, 1, none⟩ = some (u245001) := (blk_cell BK244.out 1).trans rfl
                     have hcz90_2 : wr.cell? ⟨gb244, 2, none⟩ = some (u245002) := (blk_cell BK244.out 2).trans rfl
                     have hcz90_3 : wr.cell? ⟨gb244, 3, none⟩ = some (u245003) := (blk_cell BK244.out 3).trans rfl
                     have hfz90_0 := blk_frozen BK244.out 0
                     have hfz90_1 := blk_frozen BK244.out 1
                     have hfz90_2 := blk_frozen BK244.out 2
                     have hfz90_3 := blk_frozen BK244.out 3
                     have p85 : 0 ≤ ((rd l2 x45_2) : Int) := of_decide_eq_true (by first | (with_reducible assumption) | assumption)
                     have q85 : ((rd l2 x45_2) : Int) < ((x245001_2.length : Int) : Int) := of_decide_eq_true (by first | (with_reducible assumption) | assumption)
                     obtain ⟨go85, co85, eo85, gb85, gl85, cl85, HG85⟩ := Kd.R_form HO_245001.out (by omega)
                     (first | cases eo85 | (injection eo85 with ea_ en_ ec_; (first | subst ea_ | (injection ea_ with ea_; subst ea_)); subst ec_; clear en_))
                     have GB85 := Aside0.mk gb85
                     have GG85 := Aside0.mk HG85
                     clear gb85 gl85 HG85
                     obtain ⟨hx85_0, hf85_0⟩ := Kd.R_celln 0 HO_245001.out ((rd l2 x45_2) : Int) p85 q85
                     replace p85 := eq_true p85
                     replace q85 := eq_true q85
                     have HP91 := Kd.R_putg HO_245001.out ((rd l2 x45_2) : Int) x12_1
                     go_wp2_with (first | ((with_reducible refine gate_store (t := 3) (p := 100) rfl ?_); refine store_event (t := 3) (p := 100) (v := ?vo_w92) (w1 := (wr.setCell ⟨go85, ((rd l2 x45_2) : Int).toNat, none⟩ (.int .i64 x12_1))) ?hg ?ho ?hn ?hr ?_; (case ho => rfl); (case hg => rfl); (case hn => rfl); (case hr => first | (go_simp; done) | (go_simp; rfl)); intro w92 hw; have hg : wr.grownBy w92 (some go85) := (by rw [hw]; exact HP91.2); have hp_ : Kd.R (Kd.int .i64) 3 w92 w.heap.size (fun k_ => some k_ ≠ (.slice (some ad273) x8_2.length co88 : Value).ownBlock ∧ some k_ ≠ (v252 : Value).ownBlock ∧ some k_ ≠ (.slice (some ad280) x10_2.length co43 : Value).ownBlock ∧ some k_ ≠ (u245000 : Value).ownBlock ∧ some k_ ≠ (u245002 : Value).ownBlock) (.slice (some ⟨go85, 0, none⟩) x245001_2.length co85) y281 := (by rw [hw, Ny281.out]; exact HP91.1); clear HP91; have n0_ := Aside0.mk (Kd.R_after (v := (.slice (some ⟨go85, 0, none⟩) x245001_2.length co85)) (v1 := (.slice (some ⟨go85, 0, none⟩) x245001_2.length co85)) (ok := (fun k_ => some k_ ≠ (v252 : Value).ownBlock ∧ some k_ ≠ (.slice (some ad280) x10_2.length co43 : Value).ownBlock ∧ some k_ ≠ (u245000 : Value).ownBlock ∧ some k_ ≠ (u245002 : Value).ownBlock)) (by (with_reducible repeat (first | apply Kd.R_alloc | apply Kd.R_drewN | apply Kd.R_drew)); exact Kd.R_mono HO_8.out (fun _ hk => ⟨⟨hk.1, ⟨hk.2.1, ⟨hk.2.2.1, hk.2.2.2.2⟩⟩⟩, hk.2.2.2.1⟩)) hg (.inl rfl)); have n1_ := Aside0.mk (Kd.R_after (v := (.slice (some ⟨go85, 0, none⟩) x245001_2.length co85)) (v1 := (.slice (some ⟨go85, 0, none⟩) x245001_2.length co85)) (ok := (fun k_ => some k_ ≠ (.slice (some ad273) x8_2.length co88 : Value).ownBlock ∧ some k_ ≠ (.slice (some ad280) x10_2.length co43 : Value).ownBlock ∧ some k_ ≠ (u245000 : Value).ownBlock ∧ some k_ ≠ (u245002 : Value).ownBlock)) (by (with_reducible repeat (first | apply Kd.R_alloc | apply Kd.R_drewN | apply Kd.R_drew)); exact Kd.R_mono HO_9.out (fun _ hk => ⟨⟨hk.1, ⟨hk.2.1, ⟨hk.2.2.1, hk.2.2.2.2⟩⟩⟩, hk.2.2.2.1⟩)) hg (.inl rfl)); have n2_ := Aside0.mk (Kd.R_after (v := (.slice (some ⟨go85, 0, none⟩) x245001_2.length co85)) (v1 := (.slice (some ⟨go85, 0, none⟩) x245001_2.length co85)) (ok := (fun k_ => some k_ ≠ (.slice (some ad273) x8_2.length co88 : Value).ownBlock ∧ some k_ ≠ (v252 : Value).ownBlock ∧ some k_ ≠ (u245000 : Value).ownBlock ∧ some k_ ≠ (u245002 : Value).ownBlock)) (by (with_reducible repeat (first | apply Kd.R_alloc | apply Kd.R_drewN | apply Kd.R_drew)); exact Kd.R_mono HO_10.out (fun _ hk => ⟨⟨hk.1, ⟨hk.2.1, ⟨hk.2.2.1, hk.2.2.2.2⟩⟩⟩, hk.2.2.2.1⟩)) hg (.inl rfl)); have n3_ := Aside0.mk (Kd.R_after (v := (.slice (some ⟨go85, 0, none⟩) x245001_2.length co85)) (v1 := (.slice (some ⟨go85, 0, none⟩) x245001_2.length co85)) (ok := (fun k_ => some k_ ≠ (.slice (some ad273) x8_2.length co88 : Value).ownBlock ∧ some k_ ≠ (v252 : Value).ownBlock ∧ some k_ ≠ (.slice (some ad280) x10_2.length co43 : Value).ownBlock ∧ some k_ ≠ (u245002 : Value).ownBlock)) (by (with_reducible repeat (first | apply Kd.R_alloc | apply Kd.R_drewN | apply Kd.R_drew)); exact Kd.R_mono HO_245000.out (fun _ hk => ⟨⟨hk.1, ⟨hk.2.1, ⟨hk.2.2.1, hk.2.2.2.2⟩⟩⟩, hk.2.2.2.1⟩)) hg (.inl rfl)); have n4_ := Aside0.mk (hp_); have n5_ := Aside0.mk (Kd.R_after (v := (.slice (some ⟨go85, 0, none⟩) x245001_2.length co85)) (v1 := (.slice (some ⟨go85, 0, none⟩) x245001_2.length co85)) (ok := (fun k_ => some k_ ≠ (.slice (some ad273) x8_2.length co88 : Value).ownBlock ∧ some k_ ≠ (v252 : Value).ownBlock ∧ some k_ ≠ (.slice (some ad280) x10_2.length co43 : Value).ownBlock ∧ some k_ ≠ (u245000 : Value).ownBlock)) (by (with_reducible repeat (first | apply Kd.R_alloc | apply Kd.R_drewN | apply Kd.R_drew)); exact Kd.R_mono HO_245002.out (fun _ hk => ⟨⟨hk.1, ⟨hk.2.1, ⟨hk.2.2.1, hk.2.2.2.1⟩⟩⟩, hk.2.2.2.2⟩)) hg (.inl rfl)); have n6_ := Aside0.mk (Kd.S_after (v := (.slice (some ⟨go85, 0, none⟩) x245001_2.length co85)) (v1 := (.slice (some ⟨go85, 0, none⟩) x245001_2.length co85)) (ok := (fun k_ => some k_ ≠ (.slice (some ad273) x8_2.length co88 : Value).ownBlock ∧ some k_ ≠ (v252 : Value).ownBlock ∧ some k_ ≠ (.slice (some ad280) x10_2.length co43 : Value).ownBlock ∧ some k_ ≠ (u245000 : Value).ownBlock ∧ some k_ ≠ (u245002 : Value).ownBlock)) (by (with_reducible repeat (first | apply Kd.S_alloc | apply Kd.S_drewN | apply Kd.S_drew)); exact Kd.S_mono HO_245003.out (fun _ hk => ⟨⟨hk.1, ⟨hk.2.1, ⟨hk.2.2.1, ⟨hk.2.2.2.1, hk.2.2.2.2.2⟩⟩⟩⟩, hk.2.2.2.2.1⟩)) hg (.inl rfl)); have n7_ := Aside0.mk (blk_grown (g := gb234) (o := .cells #[.slice none 0 0, .slice none 0 0, .slice none 0 0, .slice none 0 0] 54 (0, 0)) BK234.out hg (Kd.R_ne HO_245001.out BK234.out (by decide))); have n8_ := Aside0.mk (blk_grown (g := gb244) (o := .cells #[u245000, .slice (some ⟨go85, 0, none⟩) x245001_2.length co85, u245002, u245003] 54 (0, 0)) BK244.out hg (Kd.R_ne HO_245001.out BK244.out (by decide))); have n9_ := Aside0.mk ((by rw [hw]; exact below_set (HB.out) GB85.out : Below w.heap.size w w92)); clear HO_8; clear HO_9; clear HO_10; clear HO_245000; clear HO_245001; clear HO_245002; clear HO_245003; clear BK234; clear BK244; clear HB; have HO_8 := n0_; have HO_9 := n1_; have HO_10 := n2_; have HO_245000 := n3_; have HO_245001 := n4_; have HO_245002 := n5_; have HO_245003 := n6_; have BK234 := n7_; have BK244 := n8_; have HB := n9_; clear n0_ n1_ n2_ n3_ n4_ n5_ n6_ n7_ n8_ n9_; clear hg hw hp_; have p86 : 0 ≤ ((ji79) : Int) := of_decide_eq_true (by first | (with_reducible assumption) | assumption); have q86 : ((ji79) : Int) < ((x10_2.length : Int) : Int) := of_decide_eq_true (by first | (with_reducible assumption) | assumption); obtain ⟨go86, co86, eo86, gb86, gl86, cl86, HG86⟩ := Kd.R_form HO_10.out (by omega); (first | cases eo86 | (injection eo86 with ea_ en_ ec_; (first | subst ea_ | (injection ea_ with ea_; subst ea_)); subst ec_; clear en_)); have GB86 := Aside0.mk gb86; have GG86 := Aside0.mk HG86; clear gb86 gl86 HG86; (first | simp only [add_plain] at hx280_0 | skip); obtain ⟨hx86_0, hf86_0⟩ := Kd.R_celln 0 HO_10.out ((ji79) : Int) p86 q86; replace p86 := eq_true p86; replace q86 := eq_true q86; have n_ := Aside0.mk (Kd.R_mono (ok' := (fun k_ => some k_ ≠ (.slice (some ad273) x8_2.length co88 : Value).ownBlock ∧ some k_ ≠ (v252 : Value).ownBlock ∧ some k_ ≠ (u245000 : Value).ownBlock ∧ some k_ ≠ (.slice (some ⟨go85, 0, none⟩) x245001_2.length co85 : Value).ownBlock ∧ some k_ ≠ (u245002 : Value).ownBlock)) HO_10.out (fun k_ hk => ⟨hk.1.1, ⟨hk.1.2.1, ⟨hk.1.2.2.1, ⟨hk.2, hk.1.2.2.2⟩⟩⟩⟩)); clear HO_10; have HO_10 := n_; clear n_; obtain ⟨hy93_, hz93_⟩ := Kd.R_celln 0 HO_10.out ((ji79) : Int) (of_decide_eq_true (by first | (with_reducible assumption) | assumption)) (of_decide_eq_true (by first | (with_reducible assumption) | assumption)); have HP93 := Kd.R_putg HO_10.out ((ji79) : Int) (rd l2 x45_2)) | ((with_reducible refine gate_store (t := 3) (p := 112) rfl ?_); refine store_event (t := 3) (p := 112) (v := ?vo_w94) (w1 := (w92.setCell ⟨go86, ((ji79) : Int).toNat, none⟩ (.int .i64 (rd l2 x45_2)))) ?hg ?ho ?hn ?hr ?_; (case ho => rfl); (case hg => rfl); (case hn => rfl); (case hr => first | (go_simp; done) | (go_simp; rfl)); intro w94 hw; have hg : w92.grownBy w94 (some go86) := (by rw [hw]; exact HP93.2); have hp_ : Kd.R (Kd.int .i64) 3 w94 w.heap.size (fun k_ => some k_ ≠ (.slice (some ad273) x8_2.length co88 : Value).ownBlock ∧ some k_ ≠ (v252 : Value).ownBlock ∧ some k_ ≠ (u245000 : Value).ownBlock ∧ some k_ ≠ (.slice (some ⟨go85, 0, none⟩) x245001_2.length co85 : Value).ownBlock ∧ some k_ ≠ (u245002 : Value).ownBlock) (.slice (some ⟨go86, 0, none⟩) x10_2.length co43) y282 := (by rw [hw, Ny282.out]; exact HP93.1); clear HP93; have n0_ := Aside0.mk (Kd.R_after (v := (.slice (some ⟨go86, 0, none⟩) x10_2.length co43)) (v1 := (.slice (some ⟨go86, 0, none⟩) x10_2.length co43)) (ok := (fun k_ => some k_ ≠ (v252 : Value).ownBlock ∧ some k_ ≠ (u245000 : Value).ownBlock ∧ some k_ ≠ (.slice (some ⟨go85, 0, none⟩) x245001_2.length co85 : Value).ownBlock ∧ some k_ ≠ (u245002 : Value).ownBlock)) (by (with_reducible repeat (first | apply Kd.R_alloc | apply Kd.R_drewN | apply Kd.R_drew)); exact Kd.R_mono HO_8.out (fun _ hk => ⟨⟨hk.1.1, ⟨hk.1.2.2.1, ⟨hk.2, hk.1.2.2.2⟩⟩⟩, hk.1.2.1⟩)) hg (.inl rfl)); have n1_ := Aside0.mk (Kd.R_after (v := (.slice (some ⟨go86, 0, none⟩) x10_2.length co43)) (v1 := (.slice (some ⟨go86, 0, none⟩) x10_2.length co43)) (ok := (fun k_ => some k_ ≠ (.slice (some ad273) x8_2.length co88 : Value).ownBlock ∧ some k_ ≠ (u245000 : Value).ownBlock ∧ some k_ ≠ (.slice (some ⟨go85, 0, none⟩) x245001_2.length co85 : Value).ownBlock ∧ some k_ ≠ (u245002 : Value).ownBlock)) (by (with_reducible repeat (first | apply Kd.R_alloc | apply Kd.R_drewN | apply Kd.R_drew)); exact Kd.R_mono HO_9.out (fun _ hk => ⟨⟨hk.1.1, ⟨hk.1.2.2.1, ⟨hk.2, hk.1.2.2.2⟩⟩⟩, hk.1.2.1⟩)) hg (.inl rfl)); have n2_ := Aside0.mk (hp_); have n3_ := Aside0.mk (Kd.R_after (v := (.slice (some ⟨go86, 0, none⟩) x10_2.length co43)) (v1 := (.slice (some ⟨go86, 0, none⟩) x10_2.length co43)) (ok := (fun k_ => some k_ ≠ (.slice (some ad273) x8_2.length co88 : Value).ownBlock ∧ some k_ ≠ (v252 : Value).ownBlock ∧ some k_ ≠ (.slice (some ⟨go85, 0, none⟩) x245001_2.length co85 : Value).ownBlock ∧ some k_ ≠ (u245002 : Value).ownBlock)) (by (with_reducible repeat (first | apply Kd.R_alloc | apply Kd.R_drewN | apply Kd.R_drew)); exact Kd.R_mono HO_245000.out (fun _ hk => ⟨⟨hk.1.1, ⟨hk.1.2.1, ⟨hk.2, hk.1.2.2.2⟩⟩⟩, hk.1.2.2.1⟩)) hg (.inl rfl)); have n4_ := Aside0.mk (Kd.R_after (v := (.slice (some ⟨go86, 0, none⟩) x10_2.length co43)) (v1 := (.slice (some ⟨go86, 0, none⟩) x10_2.length co43)) (ok := (fun k_ => some k_ ≠ (.slice (some ad273) x8_2.length co88 : Value).ownBlock ∧ some k_ ≠ (v252 : Value).ownBlock ∧ some k_ ≠ (u245000 : Value).ownBlock ∧ some k_ ≠ (u245002 : Value).ownBlock)) (by (with_reducible repeat (first | apply Kd.R_alloc | apply Kd.R_drewN | apply Kd.R_drew)); exact Kd.R_mono HO_245001.out (fun _ hk => ⟨⟨hk.1, ⟨hk.2.1, ⟨hk.2.2.2.1, hk.2.2.2.2⟩⟩⟩, hk.2.2.1⟩)) hg (.inl rfl)); have n5_ := Aside0.mk (Kd.R_after (v := (.slice (some ⟨go86, 0, none⟩) x10_2.length co43)) (v1 := (.slice (some ⟨go86, 0, none⟩) x10_2.length co43)) (ok := (fun k_ => some k_ ≠ (.slice (some ad273) x8_2.length co88 : Value).ownBlock ∧ some k_ ≠ (v252 : Value).ownBlock ∧ some k_ ≠ (u245000 : Value).ownBlock ∧ some k_ ≠ (.slice (some ⟨go85, 0, none⟩) x245001_2.length co85 : Value).ownBlock)) (by (with_reducible repeat (first | apply Kd.R_alloc | apply Kd.R_drewN | apply Kd.R_drew)); exact Kd.R_mono HO_245002.out (fun _ hk => ⟨⟨hk.1.1, ⟨hk.1.2.1, ⟨hk.1.2.2.2, hk.2⟩⟩⟩, hk.1.2.2.1⟩)) hg (.inl rfl)); have n6_ := Aside0.mk (Kd.S_after (v := (.slice (some ⟨go86, 0, none⟩) x10_2.length co43)) (v1 := (.slice (some ⟨go86, 0, none⟩) x10_2.length co43)) (ok := (fun k_ => some k_ ≠ (.slice (some ad273) x8_2.length co88 : Value).ownBlock ∧ some k_ ≠ (v252 : Value).ownBlock ∧ some k_ ≠ (u245000 : Value).ownBlock ∧ some k_ ≠ (.slice (some ⟨go85, 0, none⟩) x245001_2.length co85 : Value).ownBlock ∧ some k_ ≠ (u245002 : Value).ownBlock)) (by (with_reducible repeat (first | apply Kd.S_alloc | apply Kd.S_drewN | apply Kd.S_drew)); exact Kd.S_mono HO_245003.out (fun _ hk => ⟨⟨hk.1.1, ⟨hk.1.2.1, ⟨hk.1.2.2.2.1, ⟨hk.2, hk.1.2.2.2.2⟩⟩⟩⟩, hk.1.2.2.1⟩)) hg (.inl rfl)); have n7_ := Aside0.mk (blk_grown (g := gb234) (o := .cells #[.slice none 0 0, .slice none 0 0, .slice none 0 0, .slice none 0 0] 54 (0, 0)) BK234.out hg (Kd.R_ne HO_10.out BK234.out (by decide))); have n8_ := Aside0.mk (blk_grown (g := gb244) (o := .cells #[u245000, .slice (some ⟨go85, 0, none⟩) x245001_2.length co85, u245002, u245003] 54 (0, 0)) BK244.out hg (Kd.R_ne HO_10.out BK244.out (by decide))); have n9_ := Aside0.mk ((by rw [hw]; exact below_set (HB.out) GB86.out : Below w.heap.size w w94)); clear HO_8; clear HO_9; clear HO_10; clear HO_245000; clear HO_245001; clear HO_245002; clear HO_245003; clear BK234; clear BK244; clear HB; have HO_8 := n0_; have HO_9 := n1_; have HO_10 := n2_; have HO_245000 := n3_; have HO_245001 := n4_; have HO_245002 := n5_; have HO_245003 := n6_; have BK234 := n7_; have BK244 := n8_; have HB := n9_; clear n0_ n1_ n2_ n3_ n4_ n5_ n6_ n7_ n8_ n9_; clear hg hw hp_; have p87 : 0 ≤ ((rd l2 x45_2) : Int) := of_decide_eq_true (by first | (with_reducible assumption) | assumption); have q87 : ((rd l2 x45_2) : Int) < ((x8_2.length : Int) : Int) := of_decide_eq_true (by first | (with_reducible assumption) | assumption); obtain ⟨go87, co87, eo87, gb87, gl87, cl87, HG87⟩ := Kd.R_form HO_8.out (by omega); (first | cases eo87 | (injection eo87 with ea_ en_ ec_; (first | subst ea_ | (injection ea_ with ea_; subst ea_)); subst ec_; clear en_)); have GB87 := Aside0.mk gb87; have GG87 := Aside0.mk HG87; clear gb87 gl87 HG87; (first | simp only [add_plain] at hx273_0 | skip); obtain ⟨hx87_0, hf87_0⟩ := Kd.R_celln 0 HO_8.out ((rd l2 x45_2) : Int) p87 q87; replace p87 := eq_true p87; replace q87 := eq_true q87; have n_ := Aside0.mk (Kd.R_mono (ok' := (fun k_ => some k_ ≠ (v252 : Value).ownBlock ∧ some k_ ≠ (.slice (some ⟨go86, 0, none⟩) x10_2.length co43 : Value).ownBlock ∧ some k_ ≠ (u245000 : Value).ownBlock ∧ some k_ ≠ (.slice (some ⟨go85, 0, none⟩) x245001_2.length co85 : Value).ownBlock ∧ some k_ ≠ (u245002 : Value).ownBlock)) HO_8.out (fun k_ hk => ⟨hk.1.1, ⟨hk.2, ⟨hk.1.2.1, ⟨hk.1.2.2.1, hk.1.2.2.2⟩⟩⟩⟩)); clear HO_8; have HO_8 := n_; clear n_; obtain ⟨hy95_, hz95_⟩ := Kd.R_celln 0 HO_8.out ((rd l2 x45_2) : Int) (of_decide_eq_true (by first | (with_reducible assumption) | assumption)) (of_decide_eq_true (by first | (with_reducible assumption) | assumption)); have HP95 := Kd.R_putg HO_8.out ((rd l2 x45_2) : Int) ji79) | ((with_reducible refine gate_store (t := 3) (p := 113) rfl ?_); refine store_event (t := 3) (p := 113) (v := ?vo_w96) (w1 := (w94.setCell ⟨go87, ((rd l2 x45_2) : Int).toNat, none⟩ (.int .i64 ji79))) ?hg ?ho ?hn ?hr ?_; (case ho => rfl); (case hg => rfl); (case hn => rfl); (case hr => first | (go_simp; done) | (go_simp; rfl)); intro w96 hw; have hg : w94.grownBy w96 (some go87) := (by rw [hw]; exact HP95.2); have hp_ : Kd.R (Kd.int .i64) 3 w96 w.heap.size (fun k_ => some k_ ≠ (v252 : Value).ownBlock ∧ some k_ ≠ (.slice (some ⟨go86, 0, none⟩) x10_2.length co43 : Value).ownBlock ∧ some k_ ≠ (u245000 : Value).ownBlock ∧ some k_ ≠ (.slice (some ⟨go85, 0, none⟩) x245001_2.length co85 : Value).ownBlock ∧ some k_ ≠ (u245002 : Value).ownBlock) (.slice (some ⟨go87, 0, none⟩) x8_2.length co88) y283 := (by rw [hw, Ny283.out]; exact HP95.1); clear HP95; have n0_ := Aside0.mk (hp_); have n1_ := Aside0.mk (Kd.R_after (v := (.slice (some ⟨go87, 0, none⟩) x8_2.length co88)) (v1 := (.slice (some ⟨go87, 0, none⟩) x8_2.length co88)) (ok := (fun k_ => some k_ ≠ (.slice (some ⟨go86, 0, none⟩) x10_2.length co43 : Value).ownBlock ∧ some k_ ≠ (u245000 : Value).ownBlock ∧ some k_ ≠ (.slice (some ⟨go85, 0, none⟩) x245001_2.length co85 : Value).ownBlock ∧ some k_ ≠ (u245002 : Value).ownBlock)) (by (with_reducible repeat (first | apply Kd.R_alloc | apply Kd.R_drewN | apply Kd.R_drew)); exact Kd.R_mono HO_9.out (fun _ hk => ⟨⟨hk.2, ⟨hk.1.2.1, ⟨hk.1.2.2.1, hk.1.2.2.2⟩⟩⟩, hk.1.1⟩)) hg (.inl rfl)); have n2_ := Aside0.mk (Kd.R_after (v := (.slice (some ⟨go87, 0, none⟩) x8_2.length co88)) (v1 := (.slice (some ⟨go87, 0, none⟩) x8_2.length co88)) (ok := (fun k_ => some k_ ≠ (v252 : Value).ownBlock ∧ some k_ ≠ (u245000 : Value).ownBlock ∧ some k_ ≠ (.slice (some ⟨go85, 0, none⟩) x245001_2.length co85 : Value).ownBlock ∧ some k_ ≠ (u245002 : Value).ownBlock)) (by (with_reducible repeat (first | apply Kd.R_alloc | apply Kd.R_drewN | apply Kd.R_drew)); exact Kd.R_mono HO_10.out (fun _ hk => ⟨⟨hk.2.1, ⟨hk.2.2.1, ⟨hk.2.2.2.1, hk.2.2.2.2⟩⟩⟩, hk.1⟩)) hg (.inl rfl)); have n3_ := Aside0.mk (Kd.R_after (v := (.slice (some ⟨go87, 0, none⟩) x8_2.length co88)) (v1 := (.slice (some ⟨go87, 0, none⟩) x8_2.length co88)) (ok := (fun k_ => some k_ ≠ (v252 : Value).ownBlock ∧ some k_ ≠ (.slice (some ⟨go86, 0, none⟩) x10_2.length co43 : Value).ownBlock ∧ some k_ ≠ (.slice (some ⟨go85, 0, none⟩) x245001_2.length co85 : Value).ownBlock ∧ some k_ ≠ (u245002 : Value).ownBlock)) (by (with_reducible repeat (first | apply Kd.R_alloc | apply Kd.R_drewN | apply Kd.R_drew)); exact Kd.R_mono HO_245000.out (fun _ hk => ⟨⟨hk.1.2.1, ⟨hk.2, ⟨hk.1.2.2.1, hk.1.2.2.2⟩⟩⟩, hk.1.1⟩)) hg (.inl rfl)); have n4_ := Aside0.mk (Kd.R_after (v := (.slice (some ⟨go87, 0, none⟩) x8_2.length co88)) (v1 := (.slice (some ⟨go87, 0, none⟩) x8_2.length co88)) (ok := (fun k_ => some k_ ≠ (v252 : Value).ownBlock ∧ some k_ ≠ (.slice (some ⟨go86, 0, none⟩) x10_2.length co43 : Value).ownBlock ∧ some k_ ≠ (u245000 : Value).ownBlock ∧ some k_ ≠ (u245002 : Value).ownBlock)) (by (with_reducible repeat (first | apply Kd.R_alloc | apply Kd.R_drewN | apply Kd.R_drew)); exact Kd.R_mono HO_245001.out (fun _ hk => ⟨⟨hk.1.2.1, ⟨hk.2, ⟨hk.1.2.2.1, hk.1.2.2.2⟩⟩⟩, hk.1.1⟩)) hg (.inl rfl)); have n5_ := Aside0.mk (Kd.R_after (v := (.slice (some ⟨go87, 0, none⟩) x8_2.length co88)) (v1 := (.slice (some ⟨go87, 0, none⟩) x8_2.length co88)) (ok := (fun k_ => some k_ ≠ (v252 : Value).ownBlock ∧ some k_ ≠ (.slice (some ⟨go86, 0, none⟩) x10_2.length co43 : Value).ownBlock ∧ some k_ ≠ (u245000 : Value).ownBlock ∧ some k_ ≠ (.slice (some ⟨go85, 0, none⟩) x245001_2.length co85 : Value).ownBlock)) (by (with_reducible repeat (first | apply Kd.R_alloc | apply Kd.R_drewN | apply Kd.R_drew)); exact Kd.R_mono HO_245002.out (fun _ hk => ⟨⟨hk.1.2.1, ⟨hk.2, ⟨hk.1.2.2.1, hk.1.2.2.2⟩⟩⟩, hk.1.1⟩)) hg (.inl rfl)); have n6_ := Aside0.mk (Kd.S_after (v := (.slice (some ⟨go87, 0, none⟩) x8_2.length co88)) (v1 := (.slice (some ⟨go87, 0, none⟩) x8_2.length co88)) (ok := (fun k_ => some k_ ≠ (v252 : Value).ownBlock ∧ some k_ ≠ (.slice (some ⟨go86, 0, none⟩) x10_2.length co43 : Value).ownBlock ∧ some k_ ≠ (u245000 : Value).ownBlock ∧ some k_ ≠ (.slice (some ⟨go85, 0, none⟩) x245001_2.length co85 : Value).ownBlock ∧ some k_ ≠ (u245002 : Value).ownBlock)) (by (with_reducible repeat (first | apply Kd.S_alloc | apply Kd.S_drewN | apply Kd.S_drew)); exact Kd.S_mono HO_245003.out (fun _ hk => ⟨⟨hk.1.2.1, ⟨hk.2, ⟨hk.1.2.2.1, ⟨hk.1.2.2.2.1, hk.1.2.2.2.2⟩⟩⟩⟩, hk.1.1⟩)) hg (.inl rfl)); have n7_ := Aside0.mk (blk_grown (g := gb234) (o := .cells #[.slice none 0 0, .slice none 0 0, .slice none 0 0, .slice none 0 0] 54 (0, 0)) BK234.out hg (Kd.R_ne HO_8.out BK234.out (by decide))); have n8_ := Aside0.mk (blk_grown (g := gb244) (o := .cells #[u245000, .slice (some ⟨go85, 0, none⟩) x245001_2.length co85, u245002, u245003] 54 (0, 0)) BK244.out hg (Kd.R_ne HO_8.out BK244.out (by decide))); have n9_ := Aside0.mk ((by rw [hw]; exact below_set (HB.out) GB87.out : Below w.heap.size w w96)); clear HO_8; clear HO_9; clear HO_10; clear HO_245000; clear HO_245001; clear HO_245002; clear HO_245003; clear BK234; clear BK244; clear HB; have HO_8 := n0_; have HO_9 := n1_; have HO_10 := n2_; have HO_245000 := n3_; have HO_245001 := n4_; have HO_245002 := n5_; have HO_245003 := n6_; have BK234 := n7_; have BK244 := n8_; have HB := n9_; clear n0_ n1_ n2_ n3_ n4_ n5_ n6_ n7_ n8_ n9_; clear hg hw hp_))
                     (try simp only [← hl10_2])
                     go_roundg k2
                     case measure => have := HK1.out; have := HK2.out; omega
                     case rel => exact ⟨(y283), (x9_2), (y282), (x11_2), (wrap64 (x45_2 + 1)), (x245000_2), (y281), (x245002_2), (u245000), (.slice (some ⟨go85, 0, none⟩) x245001_2.length co85), (u245002), (by first | rfl | (simp; done) | (simp [*]; done)), (by first | rfl | (simp; done) | (simp [*]; done)), H', ⟨by have := HK1.out; have := HK2.out; omega⟩, ⟨by (try simp only [hl10_1]); (try simp only [hl10_2]); (with_reducible repeat (first | apply Kd.R_alloc | apply Kd.R_drewN | apply Kd.R_drew)); exact HO_8.out⟩, ⟨by (try simp only [hl10_1]); (try simp only [hl10_2]); (with_reducible repeat (first | apply Kd.R_alloc | apply Kd.R_drewN | apply Kd.R_drew)); exact Kd.R_mono HO_9.out (fun _ hk => ⟨hk.2, ⟨hk.1.1, ⟨hk.1.2.1, ⟨hk.1.2.2.1, hk.1.2.2.2⟩⟩⟩⟩)⟩, ⟨by (try simp only [hl10_1]); (try simp only [hl10_2]); (with_reducible repeat (first | apply Kd.R_alloc | apply Kd.R_drewN | apply Kd.R_drew)); exact Kd.R_mono HO_10.out (fun _ hk => ⟨hk.2, ⟨hk.1.1, ⟨hk.1.2.1, ⟨hk.1.2.2.1, hk.1.2.2.2⟩⟩⟩⟩)⟩, ⟨by (try simp only [hl10_1]); (try simp only [hl10_2]); (with_reducible repeat (first | apply Kd.R_alloc | apply Kd.R_drewN | apply Kd.R_drew)); exact Kd.R_mono HO_245000.out (fun _ hk => ⟨hk.2, ⟨hk.1.1, ⟨hk.1.2.1, ⟨hk.1.2.2.1, hk.1.2.2.2⟩⟩⟩⟩)⟩, ⟨by (try simp only [hl10_1]); (try simp only [hl10_2]); (with_reducible repeat (first | apply Kd.R_alloc | apply Kd.R_drewN | apply Kd.R_drew)); exact Kd.R_mono HO_245001.out (fun _ hk => ⟨hk.2, ⟨hk.1.1, ⟨hk.1.2.1, ⟨hk.1.2.2.1, hk.1.2.2.2⟩⟩⟩⟩)⟩, ⟨by (try simp only [hl10_1]); (try simp only [hl10_2]); (with_reducible repeat (first | apply Kd.R_alloc | apply Kd.R_drewN | apply Kd.R_drew)); exact Kd.R_mono HO_245002.out (fun _ hk => ⟨hk.2, ⟨hk.1.1, ⟨hk.1.2.1, ⟨hk.1.2.2.1, hk.1.2.2.2⟩⟩⟩⟩)⟩, ⟨by (try simp only [hl10_1]); (try simp only [hl10_2]); (with_reducible repeat (first | apply Kd.S_alloc | apply Kd.S_drewN | apply Kd.S_drew)); exact Kd.S_mono HO_245003.out (fun _ hk => ⟨hk.2, ⟨hk.1.1, ⟨hk.1.2.1, ⟨hk.1.2.2.1, ⟨hk.1.2.2.2.1, hk.1.2.2.2.2⟩⟩⟩⟩⟩)⟩, ⟨by (try simp only [hl10_1]); (try simp only [hl10_2]); first | (with_reducible exact BK234.out) | ((with_reducible repeat (first | refine blk_drewN ?_ _ | refine blk_drew ?_ | refine blk_alloc ?_ _)); exact BK234.out)⟩, ⟨by (try simp only [hl10_1]); (try simp only [hl10_2]); first | (with_reducible exact BK244.out) | ((with_reducible repeat (first | refine blk_drewN ?_ _ | refine blk_drew ?_ | refine blk_alloc ?_ _)); exact BK244.out)⟩, ⟨by repeat (first | (with_reducible first | exact HB.out | apply below_alloc | apply pw_below_drewN | apply below_drew1 | refine below_set ?_ GE234.out | refine below_set ?_ GE244.out) | exact HB.out)⟩⟩
                    ·rw [if_neg c84] at H
                     exact absurd H (by simp)
                   ·rw [if_neg c83] at H
                    have c83b0 : decide ((rd x8_2 (rd l2 x45_2)) < 0) = false := decide_eq_false c83
                    clear c83
                    by_cases c97 : 0 ≤ (rd x8_2 (rd l2 x45_2))
                    ·rw [if_pos c97] at H
                     have c97b0 : decide (0 ≤ (rd x8_2 (rd l2 x45_2))) = true := decide_eq_true c97
                     clear c97
                     by_cases c98 : (rd x8_2 (rd l2 x45_2)) < (x10_2.length : Int)
                     ·rw [if_pos c98] at H
                      have c98b0 : decide ((rd x8_2 (rd l2 x45_2)) < (x10_2.length : Int)) = true := decide_eq_true c98
                      clear c98
                      obtain ⟨y284, hy284⟩ : ∃ y_ : List Int, y_ = (x10_2.set ((rd x8_2 (rd l2 x45_2)) : Int).toNat (-1)) := ⟨_, rfl⟩
                      replace H : (impl_board.l1 k2 a0 a1 l2 (x8_2.set ((rd l2 x45_2) : Int).toNat (ji79)) x9_2 (y284.set ((ji79) : Int).toNat (rd l2 x45_2)) x11_2 x12_1 l2 (l2.length : Int) (wrap64 (x45_2 + 1)) x245000_2 x245001_2 x245002_2 x245003_1) = some (r1, r2, r3, r4) := by first | (rw [hy284]; with_reducible exact H) | (have H2_ := (Option.bind_some _ _).symm.trans H; rw [hy284]; with_reducible exact H2_) | (have H2_ := (Option.bind_some _ _).symm.trans H; with_reducible exact H2_) | with_reducible exact H | (rw [hy284]; exact H) | exact H
                      have Ny284 := Aside0.mk hy284
                      clear hy284
                      obtain ⟨y285, hy285⟩ : ∃ y_ : List Int, y_ = (y284.set ((ji79) : Int).toNat (rd l2 x45_2)) := ⟨_, rfl⟩
                      replace H : (impl_board.l1 k2 a0 a1 l2 (x8_2.set ((rd l2 x45_2) : Int).toNat (ji79)) x9_2 y285 x11_2 x12_1 l2 (l2.length : Int) (wrap64 (x45_2 + 1)) x245000_2 x245001_2 x245002_2 x245003_1) = some (r1, r2, r3, r4) := by first | (rw [hy285]; with_reducible exact H) | (have H2_ := (Option.bind_some _ _).symm.trans H; rw [hy285]; with_reducible exact H2_) | (have H2_ := (Option.bind_some _ _).symm.trans H; with_reducible exact H2_) | with_reducible exact H | (rw [hy285]; exact H) | exact H
                      have Ny285 := Aside0.mk hy285
                      clear hy285
                      obtain ⟨y286, hy286⟩ : ∃ y_ : List Int, y_ = (x8_2.set ((rd l2 x45_2) : Int).toNat (ji79)) := ⟨_, rfl⟩
                      replace H : (impl_board.l1 k2 a0 a1 l2 y286 x9_2 y285 x11_2 x12_1 l2 (l2.length : Int) (wrap64 (x45_2 + 1)) x245000_2 x245001_2 x245002_2 x245003_1) = some (r1, r2, r3, r4) := by first | (rw [hy286]; with_reducible exact H) | (have H2_ := (Option.bind_some _ _).symm.trans H; rw [hy286]; with_reducible exact H2_) | (have H2_ := (Option.bind_some _ _).symm.trans H; with_reducible exact H2_) | with_reducible exact H | (rw [hy286]; exact H) | exact H
                      have Ny286 := Aside0.mk hy286
                      clear hy286
                      have H' := Aside0.mk H
                      clear H
                      have p272 : 0 ≤ (x45_2 : Int) := of_decide_eq_true (by first | (with_reducible assumption) | assumption)
                      have q272 : x45_2 < (l2.length : Int) := of_decide_eq_true (by first | (with_reducible assumption) | assumption)
                      obtain ⟨ad272, e272, hx272_0⟩ := Kd.at_int HR2.out x45_2 p272 q272
                      cases e272
                      (try replace hx272_0 := (HB.out.cell (World.block_lt_of_cell? w _ hx272_0)).trans hx272_0)
                      replace p272 := eq_true p272
                      replace q272 := eq_true q272
                      obtain ⟨Ao102, co102, eo102⟩ := Kd.R_slice HO_8.out
                      subst eo102
                      have p273 : 0 ≤ ((rd l2 x45_2) : Int) := of_decide_eq_true (by first | (with_reducible assumption) | assumption)
                      have q273 : (rd l2 x45_2) < (x8_2.length : Int) := of_decide_eq_true (by first | (with_reducible assumption) | assumption)
                      obtain ⟨ad273, e273, hx273_0⟩ := Kd.at_int (Kd.R_reads' HO_8.out).2.2 (rd l2 x45_2) p273 q273
                      cases e273
                      replace p273 := eq_true p273
                      replace q273 := eq_true q273
                      have p280 : 0 ≤ ((ji79) : Int) := of_decide_eq_true (by first | (with_reducible assumption) | assumption)
                      have q280 : (ji79) < (x10_2.length : Int) := of_decide_eq_true (by first | (with_reducible assumption) | assumption)
                      obtain ⟨ad280, e280, hx280_0⟩ := Kd.at_int (Kd.R_reads' HO_10.out).2.2 (ji79) p280 q280
                      cases e280
                      replace p280 := eq_true p280
                      replace q280 := eq_true q280
                      have p99 : 0 ≤ ((rd x8_2 (rd l2 x45_2)) : Int) := of_decide_eq_true (by first | (with_reducible assumption) | assumption)
                      have q99 : ((rd x8_2 (rd l2 x45_2)) : Int) < ((x10_2.length : Int) : Int) := of_decide_eq_true (by first | (with_reducible assumption) | assumption)
                      obtain ⟨go99, co99, eo99, gb99, gl99, cl99, HG99⟩ := Kd.R_form HO_10.out (by omega)
                      (first | cases eo99 | (injection eo99 with ea_ en_ ec_; (first | subst ea_ | (injection ea_ with ea_; subst ea_)); subst ec_; clear en_))
                      have GB99 := Aside0.mk gb99
                      have GG99 := Aside0.mk HG99
                      clear gb99 gl99 HG99
                      (first | simp only [add_plain] at hx280_0 | skip)
                      obtain ⟨hx99_0, hf99_0⟩ := Kd.R_celln 0 HO_10.out ((rd x8_2 (rd l2 x45_2)) : Int) p99 q99
                      replace p99 := eq_true p99
                      replace q99 := eq_true q99
                      have HP103 := Kd.R_putg HO_10.out ((rd x8_2 (rd l2 x45_2)) : Int) (-1)
                      go_wp2_with (first | ((with_reducible refine gate_store (t := 3) (p := 103) rfl ?_); refine store_event (t := 3) (p := 103) (v := ?vo_w104) (w1 := (wr.setCell ⟨go99, ((rd x8_2 (rd l2 x45_2)) : Int).toNat, none⟩ (.int .i64 (-1)))) ?hg ?ho ?hn ?hr ?_; (case ho => rfl); (case hg => rfl); (case hn => rfl); (case hr => first | (go_simp; done) | (go_simp; rfl)); intro w104 hw; have hg : wr.grownBy w104 (some go99) := (by rw [hw]; exact HP103.2); have hp_ : Kd.R (Kd.int .i64) 3 w104 w.heap.size (fun k_ => some k_ ≠ (.slice (some ad273) x8_2.length co102 : Value).ownBlock ∧ some k_ ≠ (v252 : Value).ownBlock ∧ some k_ ≠ (u245000 : Value).ownBlock ∧ some k_ ≠ (u245001 : Value).ownBlock ∧ some k_ ≠ (u245002 : Value).ownBlock) (.slice (some ⟨go99, 0, none⟩) x10_2.length co43) y284 := (by rw [hw, Ny284.out]; exact HP103.1); clear HP103; have n0_ := Aside0.mk (Kd.R_after (v := (.slice (some ⟨go99, 0, none⟩) x10_2.length co43)) (v1 := (.slice (some ⟨go99, 0, none⟩) x10_2.length co43)) (ok := (fun k_ => some k_ ≠ (v252 : Value).ownBlock ∧ some k_ ≠ (u245000 : Value).ownBlock ∧ some k_ ≠ (u245001 : Value).ownBlock ∧ some k_ ≠ (u245002 : Value).ownBlock)) (by (with_reducible repeat (first | apply Kd.R_alloc | apply Kd.R_drewN | apply Kd.R_drew)); exact Kd.R_mono HO_8.out (fun _ hk => ⟨⟨hk.1, ⟨hk.2.2.1, ⟨hk.2.2.2.1, hk.2.2.2.2⟩⟩⟩, hk.2.1⟩)) hg (.inl rfl)); have n1_ := Aside0.mk (Kd.R_after (v := (.slice (some ⟨go99, 0, none⟩) x10_2.length co43)) (v1 := (.slice (some ⟨go99, 0, none⟩) x10_2.length co43)) (ok := (fun k_ => some k_ ≠ (.slice (some ad273) x8_2.length co102 : Value).ownBlock ∧ some k_ ≠ (u245000 : Value).ownBlock ∧ some k_ ≠ (u245001 : Value).ownBlock ∧ some k_ ≠ (u245002 : Value).ownBlock)) (by (with_reducible repeat (first | apply Kd.R_alloc | apply Kd.R_drewN | apply Kd.R_drew)); exact Kd.R_mono HO_9.out (fun _ hk => ⟨⟨hk.1, ⟨hk.2.2.1, ⟨hk.2.2.2.1, hk.2.2.2.2⟩⟩⟩, hk.2.1⟩)) hg (.inl rfl)); have n2_ := Aside0.mk (hp_); have n3_ := Aside0.mk (Kd.R_after (v := (.slice (some ⟨go99, 0, none⟩) x10_2.length co43)) (v1 := (.slice (some ⟨go99, 0, none⟩) x10_2.length co43)) (ok := (fun k_ => some k_ ≠ (.slice (some ad273) x8_2.length co102 : Value).ownBlock ∧ some k_ ≠ (v252 : Value).ownBlock ∧ some k_ ≠ (u245001 : Value).ownBlock ∧ some k_ ≠ (u245002 : Value).ownBlock)) (by (with_reducible repeat (first | apply Kd.R_alloc | apply Kd.R_drewN | apply Kd.R_drew)); exact Kd.R_mono HO_245000.out (fun _ hk => ⟨⟨hk.1, ⟨hk.2.1, ⟨hk.2.2.2.1, hk.2.2.2.2⟩⟩⟩, hk.2.2.1⟩)) hg (.inl rfl)); have n4_ := Aside0.mk (Kd.R_after (v := (.slice (some ⟨go99, 0, none⟩) x10_2.length co43)) (v1 := (.slice (some ⟨go99, 0, none⟩) x10_2.length co43)) (ok := (fun k_ => some k_ ≠ (.slice (some ad273) x8_2.length co102 : Value).ownBlock ∧ some k_ ≠ (v252 : Value).ownBlock ∧ some k_ ≠ (u245000 : Value).ownBlock ∧ some k_ ≠ (u245002 : Value).ownBlock)) (by (with_reducible repeat (first | apply Kd.R_alloc | apply Kd.R_drewN | apply Kd.R_drew)); exact Kd.R_mono HO_245001.out (fun _ hk => ⟨⟨hk.1, ⟨hk.2.1, ⟨hk.2.2.2.1, hk.2.2.2.2⟩⟩⟩, hk.2.2.1⟩)) hg (.inl rfl)); have n5_ := Aside0.mk (Kd.R_after (v := (.slice (some ⟨go99, 0, none⟩) x10_2.length co43)) (v1 := (.slice (some ⟨go99, 0, none⟩) x10_2.length co43)) (ok := (fun k_ => some k_ ≠ (.slice (some ad273) x8_2.length co102 : Value).ownBlock ∧ some k_ ≠ (v252 : Value).ownBlock ∧ some k_ ≠ (u245000 : Value).ownBlock ∧ some k_ ≠ (u245001 : Value).ownBlock)) (by (with_reducible repeat (first | apply Kd.R_alloc | apply Kd.R_drewN | apply Kd.R_drew)); exact Kd.R_mono HO_245002.out (fun _ hk => ⟨⟨hk.1, ⟨hk.2.1, ⟨hk.2.2.2.1, hk.2.2.2.2⟩⟩⟩, hk.2.2.1⟩)) hg (.inl rfl)); have n6_ := Aside0.mk (Kd.S_after (v := (.slice (some ⟨go99, 0, none⟩) x10_2.length co43)) (v1 := (.slice (some ⟨go99, 0, none⟩) x10_2.length co43)) (ok := (fun k_ => some k_ ≠ (.slice (some ad273) x8_2.length co102 : Value).ownBlock ∧ some k_ ≠ (v252 : Value).ownBlock ∧ some k_ ≠ (u245000 : Value).ownBlock ∧ some k_ ≠ (u245001 : Value).ownBlock ∧ some k_ ≠ (u245002 : Value).ownBlock)) (by (with_reducible repeat (first | apply Kd.S_alloc | apply Kd.S_drewN | apply Kd.S_drew)); exact Kd.S_mono HO_245003.out (fun _ hk => ⟨⟨hk.1, ⟨hk.2.1, ⟨hk.2.2.2.1, ⟨hk.2.2.2.2.1, hk.2.2.2.2.2⟩⟩⟩⟩, hk.2.2.1⟩)) hg (.inl rfl)); have n7_ := Aside0.mk (blk_grown (g := gb234) (o := .cells #[.slice none 0 0, .slice none 0 0, .slice none 0 0, .slice none 0 0] 54 (0, 0)) BK234.out hg (Kd.R_ne HO_10.out BK234.out (by decide))); have n8_ := Aside0.mk (blk_grown (g := gb244) (o := .cells #[u245000, u245001, u245002, u245003] 54 (0, 0)) BK244.out hg (Kd.R_ne HO_10.out BK244.out (by decide))); have n9_ := Aside0.mk ((by rw [hw]; exact below_set (HB.out) GB99.out : Below w.heap.size w w104)); clear HO_8; clear HO_9; clear HO_10; clear HO_245000; clear HO_245001; clear HO_245002; clear HO_245003; clear BK234; clear BK244; clear HB; have HO_8 := n0_; have HO_9 := n1_; have HO_10 := n2_; have HO_245000 := n3_; have HO_245001 := n4_; have HO_245002 := n5_; have HO_245003 := n6_; have BK234 := n7_; have BK244 := n8_; have HB := n9_; clear n0_ n1_ n2_ n3_ n4_ n5_ n6_ n7_ n8_ n9_; clear hg hw hp_; have p100 : 0 ≤ ((ji79) : Int) := of_decide_eq_true (by first | (with_reducible assumption) | assumption); have q100 : ((ji79) : Int) < ((x10_2.length : Int) : Int) := of_decide_eq_true (by first | (with_reducible assumption) | assumption); obtain ⟨hx100_0, hf100_0⟩ := Kd.R_celln 0 HO_10.out ((ji79) : Int) p100 q100; replace p100 := eq_true p100; replace q100 := eq_true q100; obtain ⟨hy105_, hz105_⟩ := Kd.R_celln 0 HO_10.out ((ji79) : Int) (of_decide_eq_true (by first | (with_reducible assumption) | assumption)) (of_decide_eq_true (by first | (with_reducible assumption) | assumption)); have HP105 := Kd.R_putg HO_10.out ((ji79) : Int) (rd l2 x45_2)) | ((with_reducible refine gate_store (t := 3) (p := 112) rfl ?_); refine store_event (t := 3) (p := 112) (v := ?vo_w106) (w1 := (w104.setCell ⟨go99, ((ji79) : Int).toNat, none⟩ (.int .i64 (rd l2 x45_2)))) ?hg ?ho ?hn ?hr ?_; (case ho => rfl); (case hg => rfl); (case hn => rfl); (case hr => first | (go_simp; done) | (go_simp; rfl)); intro w106 hw; have hg : w104.grownBy w106 (some go99) := (by rw [hw]; exact HP105.2); have hp_ : Kd.R (Kd.int .i64) 3 w106 w.heap.size (fun k_ => some k_ ≠ (.slice (some ad273) x8_2.length co102 : Value).ownBlock ∧ some k_ ≠ (v252 : Value).ownBlock ∧ some k_ ≠ (u245000 : Value).ownBlock ∧ some k_ ≠ (u245001 : Value).ownBlock ∧ some k_ ≠ (u245002 : Value).ownBlock) (.slice (some ⟨go99, 0, none⟩) x10_2.length co43) y285 := (by rw [hw, Ny285.out]; exact HP105.1); clear HP105; have n0_ := Aside0.mk (Kd.R_after (v := (.slice (some ⟨go99, 0, none⟩) x10_2.length co43)) (v1 := (.slice (some ⟨go99, 0, none⟩) x10_2.length co43)) (ok := (fun k_ => some k_ ≠ (v252 : Value).ownBlock ∧ some k_ ≠ (u245000 : Value).ownBlock ∧ some k_ ≠ (u245001 : Value).ownBlock ∧ some k_ ≠ (u245002 : Value).ownBlock)) HO_8.out hg (.inl rfl)); have n1_ := Aside0.mk (Kd.R_after (v := (.slice (some ⟨go99, 0, none⟩) x10_2.length co43)) (v1 := (.slice (some ⟨go99, 0, none⟩) x10_2.length co43)) (ok := (fun k_ => some k_ ≠ (.slice (some ad273) x8_2.length co102 : Value).ownBlock ∧ some k_ ≠ (u245000 : Value).ownBlock ∧ some k_ ≠ (u245001 : Value).ownBlock ∧ some k_ ≠ (u245002 : Value).ownBlock)) HO_9.out hg (.inl rfl)); have n2_ := Aside0.mk (hp_); have n3_ := Aside0.mk (Kd.R_after (v := (.slice (some ⟨go99, 0, none⟩) x10_2.length co43)) (v1 := (.slice (some ⟨go99, 0, none⟩) x10_2.length co43)) (ok := (fun k_ => some k_ ≠ (.slice (some ad273) x8_2.length co102 : Value).ownBlock ∧ some k_ ≠ (v252 : Value).ownBlock ∧ some k_ ≠ (u245001 : Value).ownBlock ∧ some k_ ≠ (u245002 : Value).ownBlock)) HO_245000.out hg (.inl rfl)); have n4_ := Aside0.mk (Kd.R_after (v := (.slice (some ⟨go99, 0, none⟩) x10_2.length co43)) (v1 := (.slice (some ⟨go99, 0, none⟩) x10_2.length co43)) (ok := (fun k_ => some k_ ≠ (.slice (some ad273) x8_2.length co102 : Value).ownBlock ∧ some k_ ≠ (v252 : Value).ownBlock ∧ some k_ ≠ (u245000 : Value).ownBlock ∧ some k_ ≠ (u245002 : Value).ownBlock)) HO_245001.out hg (.inl rfl)); have n5_ := Aside0.mk (Kd.R_after (v := (.slice (some ⟨go99, 0, none⟩) x10_2.length co43)) (v1 := (.slice (some ⟨go99, 0, none⟩) x10_2.length co43)) (ok := (fun k_ => some k_ ≠ (.slice (some ad273) x8_2.length co102 : Value).ownBlock ∧ some k_ ≠ (v252 : Value).ownBlock ∧ some k_ ≠ (u245000 : Value).ownBlock ∧ some k_ ≠ (u245001 : Value).ownBlock)) HO_245002.out hg (.inl rfl)); have n6_ := Aside0.mk (Kd.S_after (v := (.slice (some ⟨go99, 0, none⟩) x10_2.length co43)) (v1 := (.slice (some ⟨go99, 0, none⟩) x10_2.length co43)) (ok := (fun k_ => some k_ ≠ (.slice (some ad273) x8_2.length co102 : Value).ownBlock ∧ some k_ ≠ (v252 : Value).ownBlock ∧ some k_ ≠ (u245000 : Value).ownBlock ∧ some k_ ≠ (u245001 : Value).ownBlock ∧ some k_ ≠ (u245002 : Value).ownBlock)) (by (with_reducible repeat (first | apply Kd.S_alloc | apply Kd.S_drewN | apply Kd.S_drew)); exact HO_245003.out) hg (.inl rfl)); have n7_ := Aside0.mk (blk_grown (g := gb234) (o := .cells #[.slice none 0 0, .slice none 0 0, .slice none 0 0, .slice none 0 0] 54 (0, 0)) BK234.out hg (Kd.R_ne HO_10.out BK234.out (by decide))); have n8_ := Aside0.mk (blk_grown (g := gb244) (o := .cells #[u245000, u245001, u245002, u245003] 54 (0, 0)) BK244.out hg (Kd.R_ne HO_10.out BK244.out (by decide))); have n9_ := Aside0.mk ((by rw [hw]; exact below_set (HB.out) GB99.out : Below w.heap.size w w106)); clear HO_8; clear HO_9; clear HO_10; clear HO_245000; clear HO_245001; clear HO_245002; clear HO_245003; clear BK234; clear BK244; clear HB; have HO_8 := n0_; have HO_9 := n1_; have HO_10 := n2_; have HO_245000 := n3_; have HO_245001 := n4_; have HO_245002 := n5_; have HO_245003 := n6_; have BK234 := n7_; have BK244 := n8_; have HB := n9_; clear n0_ n1_ n2_ n3_ n4_ n5_ n6_ n7_ n8_ n9_; clear hg hw hp_; have p101 : 0 ≤ ((rd l2 x45_2) : Int) := of_decide_eq_true (by first | (with_reducible assumption) | assumption); have q101 : ((rd l2 x45_2) : Int) < ((x8_2.length : Int) : Int) := of_decide_eq_true (by first | (with_reducible assumption) | assumption); obtain ⟨go101, co101, eo101, gb101, gl101, cl101, HG101⟩ := Kd.R_form HO_8.out (by omega); (first | cases eo101 | (injection eo101 with ea_ en_ ec_; (first | subst ea_ | (injection ea_ with ea_; subst ea_)); subst ec_; clear en_)); have GB101 := Aside0.mk gb101; have GG101 := Aside0.mk HG101; clear gb101 gl101 HG101; (first | simp only [add_plain] at hx273_0 | skip); obtain ⟨hx101_0, hf101_0⟩ := Kd.R_celln 0 HO_8.out ((rd l2 x45_2) : Int) p101 q101; replace p101 := eq_true p101; replace q101 := eq_true q101; have n_ := Aside0.mk (Kd.R_mono (ok' := (fun k_ => some k_ ≠ (v252 : Value).ownBlock ∧ some k_ ≠ (.slice (some ⟨go99, 0, none⟩) x10_2.length co43 : Value).ownBlock ∧ some k_ ≠ (u245000 : Value).ownBlock ∧ some k_ ≠ (u245001 : Value).ownBlock ∧ some k_ ≠ (u245002 : Value).ownBlock)) HO_8.out (fun k_ hk => ⟨hk.1.1, ⟨hk.2, ⟨hk.1.2.1, ⟨hk.1.2.2.1, hk.1.2.2.2⟩⟩⟩⟩)); clear HO_8; have HO_8 := n_; clear n_; obtain ⟨hy107_, hz107_⟩ := Kd.R_celln 0 HO_8.out ((rd l2 x45_2) : Int) (of_decide_eq_true (by first | (with_reducible assumption) | assumption)) (of_decide_eq_true (by first | (with_reducible assumption) | assumption)); have HP107 := Kd.R_putg HO_8.out ((rd l2 x45_2) : Int) ji79) | ((with_reducible refine gate_store (t := 3) (p := 113) rfl ?_); refine store_event (t := 3) (p := 113) (v := ?vo_w108) (w1 := (w106.setCell ⟨go101, ((rd l2 x45_2) : Int).toNat, none⟩ (.int .i64 ji79))) ?hg ?ho ?hn ?hr ?_; (case ho => rfl); (case hg => rfl); (case hn => rfl); (case hr => first | (go_simp; done) | (go_simp; rfl)); intro w108 hw; have hg : w106.grownBy w108 (some go101) := (by rw [hw]; exact HP107.2); have hp_ : Kd.R (Kd.int .i64) 3 w108 w.heap.size (fun k_ => some k_ ≠ (v252 : Value).ownBlock ∧ some k_ ≠ (.slice (some ⟨go99, 0, none⟩) x10_2.length co43 : Value).ownBlock ∧ some k_ ≠ (u245000 : Value).ownBlock ∧ some k_ ≠ (u245001 : Value).ownBlock ∧ some k_ ≠ (u245002 : Value).ownBlock) (.slice (some ⟨go101, 0, none⟩) x8_2.length co102) y286 := (by rw [hw, Ny286.out]; exact HP107.1); clear HP107; have n0_ := Aside0.mk (hp_); have n1_ := Aside0.mk (Kd.R_after (v := (.slice (some ⟨go101, 0, none⟩) x8_2.length co102)) (v1 := (.slice (some ⟨go101, 0, none⟩) x8_2.length co102)) (ok := (fun k_ => some k_ ≠ (.slice (some ⟨go99, 0, none⟩) x10_2.length co43 : Value).ownBlock ∧ some k_ ≠ (u245000 : Value).ownBlock ∧ some k_ ≠ (u245001 : Value).ownBlock ∧ some k_ ≠ (u245002 : Value).ownBlock)) (by (with_reducible repeat (first | apply Kd.R_alloc | apply Kd.R_drewN | apply Kd.R_drew)); exact Kd.R_mono HO_9.out (fun _ hk => ⟨⟨hk.2, ⟨hk.1.2.1, ⟨hk.1.2.2.1, hk.1.2.2.2⟩⟩⟩, hk.1.1⟩)) hg (.inl rfl)); have n2_ := Aside0.mk (Kd.R_after (v := (.slice (some ⟨go101, 0, none⟩) x8_2.length co102)) (v1 := (.slice (some ⟨go101, 0, none⟩) x8_2.length co102)) (ok := (fun k_ => some k_ ≠ (v252 : Value).ownBlock ∧ some k_ ≠ (u245000 : Value).ownBlock ∧ some k_ ≠ (u245001 : Value).ownBlock ∧ some k_ ≠ (u245002 : Value).ownBlock)) (by (with_reducible repeat (first | apply Kd.R_alloc | apply Kd.R_drewN | apply Kd.R_drew)); exact Kd.R_mono HO_10.out (fun _ hk => ⟨⟨hk.2.1, ⟨hk.2.2.1, ⟨hk.2.2.2.1, hk.2.2.2.2⟩⟩⟩, hk.1⟩)) hg (.inl rfl)); have n3_ := Aside0.mk (Kd.R_after (v := (.slice (some ⟨go101, 0, none⟩) x8_2.length co102)) (v1 := (.slice (some ⟨go101, 0, none⟩) x8_2.length co102)) (ok := (fun k_ => some k_ ≠ (v252 : Value).ownBlock ∧ some k_ ≠ (.slice (some ⟨go99, 0, none⟩) x10_2.length co43 : Value).ownBlock ∧ some k_ ≠ (u245001 : Value).ownBlock ∧ some k_ ≠ (u245002 : Value).ownBlock)) (by (with_reducible repeat (first | apply Kd.R_alloc | apply Kd.R_drewN | apply Kd.R_drew)); exact Kd.R_mono HO_245000.out (fun _ hk => ⟨⟨hk.1.2.1, ⟨hk.2, ⟨hk.1.2.2.1, hk.1.2.2.2⟩⟩⟩, hk.1.1⟩)) hg (.inl rfl)); have n4_ := Aside0.mk (Kd.R_after (v := (.slice (some ⟨go101, 0, none⟩) x8_2.length co102)) (v1 := (.slice (some ⟨go101, 0, none⟩) x8_2.length co102)) (ok := (fun k_ => some k_ ≠ (v252 : Value).ownBlock ∧ some k_ ≠ (.slice (some ⟨go99, 0, none⟩) x10_2.length co43 : Value).ownBlock ∧ some k_ ≠ (u245000 : Value).ownBlock ∧ some k_ ≠ (u245002 : Value).ownBlock)) (by (with_reducible repeat (first | apply Kd.R_alloc | apply Kd.R_drewN | apply Kd.R_drew)); exact Kd.R_mono HO_245001.out (fun _ hk => ⟨⟨hk.1.2.1, ⟨hk.2, ⟨hk.1.2.2.1, hk.1.2.2.2⟩⟩⟩, hk.1.1⟩)) hg (.inl rfl)); have n5_ := Aside0.mk (Kd.R_after (v := (.slice (some ⟨go101, 0, none⟩) x8_2.length co102)) (v1 := (.slice (some ⟨go101, 0, none⟩) x8_2.length co102)) (ok := (fun k_ => some k_ ≠ (v252 : Value).ownBlock ∧ some k_ ≠ (.slice (some ⟨go99, 0, none⟩) x10_2.length co43 : Value).ownBlock ∧ some k_ ≠ (u245000 : Value).ownBlock ∧ some k_ ≠ (u245001 : Value).ownBlock)) (by (with_reducible repeat (first | apply Kd.R_alloc | apply Kd.R_drewN | apply Kd.R_drew)); exact Kd.R_mono HO_245002.out (fun _ hk => ⟨⟨hk.1.2.1, ⟨hk.2, ⟨hk.1.2.2.1, hk.1.2.2.2⟩⟩⟩, hk.1.1⟩)) hg (.inl rfl)); have n6_ := Aside0.mk (Kd.S_after (v := (.slice (some ⟨go101, 0, none⟩) x8_2.length co102)) (v1 := (.slice (some ⟨go101, 0, none⟩) x8_2.length co102)) (ok := (fun k_ => some k_ ≠ (v252 : Value).ownBlock ∧ some k_ ≠ (.slice (some ⟨go99, 0, none⟩) x10_2.length co43 : Value).ownBlock ∧ some k_ ≠ (u245000 : Value).ownBlock ∧ some k_ ≠ (u245001 : Value).ownBlock ∧ some k_ ≠ (u245002 : Value).ownBlock)) (by (with_reducible repeat (first | apply Kd.S_alloc | apply Kd.S_drewN | apply Kd.S_drew)); exact Kd.S_mono HO_245003.out (fun _ hk => ⟨⟨hk.1.2.1, ⟨hk.2, ⟨hk.1.2.2.1, ⟨hk.1.2.2.2.1, hk.1.2.2.2.2⟩⟩⟩⟩, hk.1.1⟩)) hg (.inl rfl)); have n7_ := Aside0.mk (blk_grown (g := gb234) (o := .cells #[.slice none 0 0, .slice none 0 0, .slice none 0 0, .slice none 0 0] 54 (0, 0)) BK234.out hg (Kd.R_ne HO_8.out BK234.out (by decide))); have n8_ := Aside0.mk (blk_grown (g := gb244) (o := .cells #[u245000, u245001, u245002, u245003] 54 (0, 0)) BK244.out hg (Kd.R_ne HO_8.out BK244.out (by decide))); have n9_ := Aside0.mk ((by rw [hw]; exact below_set (HB.out) GB101.out : Below w.heap.size w w108)); clear HO_8; clear HO_9; clear HO_10; clear HO_245000; clear HO_245001; clear HO_245002; clear HO_245003; clear BK234; clear BK244; clear HB; have HO_8 := n0_; have HO_9 := n1_; have HO_10 := n2_; have HO_245000 := n3_; have HO_245001 := n4_; have HO_245002 := n5_; have HO_245003 := n6_; have BK234 := n7_; have BK244 := n8_; have HB := n9_; clear n0_ n1_ n2_ n3_ n4_ n5_ n6_ n7_ n8_ n9_; clear hg hw hp_))
                      (try simp only [← hl10_2])
                      go_roundg k2
                      case measure => have := HK1.out; have := HK2.out; omega
                      case rel => exact ⟨(y286), (x9_2), (y285), (x11_2), (wrap64 (x45_2 + 1)), (x245000_2), (x245001_2), (x245002_2), (u245000), (u245001), (u245002), (by first | rfl | (simp; done) | (simp [*]; done)), (by first | rfl | (simp; done) | (simp [*]; done)), H', ⟨by have := HK1.out; have := HK2.out; omega⟩, ⟨by (try simp only [hl10_1]); (try simp only [hl10_2]); (with_reducible repeat (first | apply Kd.R_alloc | apply Kd.R_drewN | apply Kd.R_drew)); exact HO_8.out⟩, ⟨by (try simp only [hl10_1]); (try simp only [hl10_2]); (with_reducible repeat (first | apply Kd.R_alloc | apply Kd.R_drewN | apply Kd.R_drew)); exact Kd.R_mono HO_9.out (fun _ hk => ⟨hk.2, ⟨hk.1.1, ⟨hk.1.2.1, ⟨hk.1.2.2.1, hk.1.2.2.2⟩⟩⟩⟩)⟩, ⟨by (try simp only [hl10_1]); (try simp only [hl10_2]); (with_reducible repeat (first | apply Kd.R_alloc | apply Kd.R_drewN | apply Kd.R_drew)); exact Kd.R_mono HO_10.out (fun _ hk => ⟨hk.2, ⟨hk.1.1, ⟨hk.1.2.1, ⟨hk.1.2.2.1, hk.1.2.2.2⟩⟩⟩⟩)⟩, ⟨by (try simp only [hl10_1]); (try simp only [hl10_2]); (with_reducible repeat (first | apply Kd.R_alloc | apply Kd.R_drewN | apply Kd.R_drew)); exact Kd.R_mono HO_245000.out (fun _ hk => ⟨hk.2, ⟨hk.1.1, ⟨hk.1.2.1, ⟨hk.1.2.2.1, hk.1.2.2.2⟩⟩⟩⟩)⟩, ⟨by (try simp only [hl10_1]); (try simp only [hl10_2]); (with_reducible repeat (first | apply Kd.R_alloc | apply Kd.R_drewN | apply Kd.R_drew)); exact Kd.R_mono HO_245001.out (fun _ hk => ⟨hk.2, ⟨hk.1.1, ⟨hk.1.2.1, ⟨hk.1.2.2.1, hk.1.2.2.2⟩⟩⟩⟩)⟩, ⟨by (try simp only [hl10_1]); (try simp only [hl10_2]); (with_reducible repeat (first | apply Kd.R_alloc | apply Kd.R_drewN | apply Kd.R_drew)); exact Kd.R_mono HO_245002.out (fun _ hk => ⟨hk.2, ⟨hk.1.1, ⟨hk.1.2.1, ⟨hk.1.2.2.1, hk.1.2.2.2⟩⟩⟩⟩)⟩, ⟨by (try simp only [hl10_1]); (try simp only [hl10_2]); (with_reducible repeat (first | apply Kd.S_alloc | apply Kd.S_drewN | apply Kd.S_drew)); exact Kd.S_mono HO_245003.out (fun _ hk => ⟨hk.2, ⟨hk.1.1, ⟨hk.1.2.1, ⟨hk.1.2.2.1, ⟨hk.1.2.2.2.1, hk.1.2.2.2.2⟩⟩⟩⟩⟩)⟩, ⟨by (try simp only [hl10_1]); (try simp only [hl10_2]); first | (with_reducible exact BK234.out) | ((with_reducible repeat (first | refine blk_drewN ?_ _ | refine blk_drew ?_ | refine blk_alloc ?_ _)); exact BK234.out)⟩, ⟨by (try simp only [hl10_1]); (try simp only [hl10_2]); first | (with_reducible exact BK244.out) | ((with_reducible repeat (first | refine blk_drewN ?_ _ | refine blk_drew ?_ | refine blk_alloc ?_ _)); exact BK244.out)⟩, ⟨by repeat (first | (with_reducible first | exact HB.out | apply below_alloc | apply pw_below_drewN | apply below_drew1 | refine below_set ?_ GE234.out | refine below_set ?_ GE244.out) | exact HB.out)⟩⟩
                     ·rw [if_neg c98] at H
                      exact absurd H (by simp)
                    ·rw [if_neg c97] at H
                     exact absurd H (by simp)
                  ·rw [if_neg c82] at H
                   have c82b0 : decide ((rd x10_2 (ji79)) < 0) = false := decide_eq_false c82
                   clear c82
                   by_cases c109 : (rd x8_2 (rd l2 x45_2)) ≥ 0
                   ·rw [if_pos c109] at H
                    have c109b0 : decide (0 ≤ (rd x8_2 (rd l2 x45_2))) = true := decide_eq_true c109
                    clear c109
                    by_cases c110 : (rd l2 x45_2) < (x245002_2.length : Int)
                    ·rw [if_pos c110] at H
                     have c110b0 : decide ((rd l2 x45_2) < (x245002_2.length : Int)) = true := decide_eq_true c110
                     clear c110
                     obtain ⟨y288, hy288⟩ : ∃ y_ : List Int, y_ = (x245002_2.set ((rd l2 x45_2) : Int).toNat (wrap64 ((rd x245002_2 (rd l2 x45_2)) + 1))) := ⟨_, rfl⟩
                     replace H : (impl_board.l1 k2 a0 a1 l2 x8_2 x9_2 x10_2 x11_2 x12_1 l2 (l2.length : Int) (wrap64 (x45_2 + 1)) x245000_2 x245001_2 y288 x245003_1) = some (r1, r2, r3, r4) := by first | (rw [hy288]; with_reducible exact H) | (have H2_ := (Option.bind_some _ _).symm.trans H; rw [hy288]; with_reducible exact H2_) | (have H2_ := (Option.bind_some _ _).symm.trans H; with_reducible exact H2_) | with_reducible exact H | (rw [hy288]; exact H) | exact H
                     have Ny288 := Aside0.mk hy288
                     clear hy288
                     have H' := Aside0.mk H
                     clear H
                     have p272 : 0 ≤ (x45_2 : Int) := of_decide_eq_true (by first | (with_reducible assumption) | assumption)
                     have q272 : x45_2 < (l2.length : Int) := of_decide_eq_true (by first | (with_reducible assumption) | assumption)
                     obtain ⟨ad272, e272, hx272_0⟩ := Kd.at_int HR2.out x45_2 p272 q272
                     cases e272
                     (try replace hx272_0 := (HB.out.cell (World.block_lt_of_cell? w _ hx272_0)).trans hx272_0)
                     replace p272 := eq_true p272
                     replace q272 := eq_true q272
                     obtain ⟨Ao112, co112, eo112⟩ := Kd.R_slice HO_8.out
                     subst eo112
                     have p273 : 0 ≤ ((rd l2 x45_2) : Int) := of_decide_eq_true (by first | (with_reducible assumption) | assumption)
                     have q273 : (rd l2 x45_2) < (x8_2.length : Int) := of_decide_eq_true (by first | (with_reducible assumption) | assumption)
                     obtain ⟨ad273, e273, hx273_0⟩ := Kd.at_int (Kd.R_reads' HO_8.out).2.2 (rd l2 x45_2) p273 q273
                     cases e273
                     replace p273 := eq_true p273
                     replace q273 := eq_true q273
                     have p280 : 0 ≤ ((ji79) : Int) := of_decide_eq_true (by first | (with_reducible assumption) | assumption)
                     have q280 : (ji79) < (x10_2.length : Int) := of_decide_eq_true (by first | (with_reducible assumption) | assumption)
                     obtain ⟨ad280, e280, hx280_0⟩ := Kd.at_int (Kd.R_reads' HO_10.out).2.2 (ji79) p280 q280
                     cases e280
                     replace p280 := eq_true p280
                     replace q280 := eq_true q280
                     have hnb113 := NB244_234.out
                     have hnc113 := NB234_244.out
                     have hcz114_0 : wr.cell? ⟨gb244, 0, none⟩ = some (u245000) := (blk_cell BK244.out 0).trans rfl
                     have hcz114_1 : wr.cell? ⟨gb244, 1, none⟩ = some (u245001) := (blk_cell BK244.out 1).trans rfl
                     have hcz114_2 : wr.cell? ⟨gb244, 2, none⟩ = some (u245002) := (blk_cell BK244.out 2).trans rfl
                     have hcz114_3 : wr.cell? ⟨gb244, 3, none⟩ = some (u245003) := (blk_cell BK244.out 3).trans rfl
                     have hfz114_0 := blk_frozen BK244.out 0
                     have hfz114_1 := blk_frozen BK244.out 1
                     have hfz114_2 := blk_frozen BK244.out 2
                     have hfz114_3 := blk_frozen BK244.out 3
                     obtain ⟨Ao115, co115, eo115⟩ := Kd.R_slice HO_245002.out
                     subst eo115
                     have p287 : 0 ≤ ((rd l2 x45_2) : Int) := of_decide_eq_true (by first | (with_reducible assumption) | assumption)
                     have q287 : (rd l2 x45_2) < (x245002_2.length : Int) := of_decide_eq_true (by first | (with_reducible assumption) | assumption)
                     obtain ⟨ad287, e287, hx287_0⟩ := Kd.at_int (Kd.R_reads' HO_245002.out).2.2 (rd l2 x45_2) p287 q287
                     cases e287
                     replace p287 := eq_true p287
                     replace q287 := eq_true q287
                     have p111 : 0 ≤ ((rd l2 x45_2) : Int) := of_decide_eq_true (by first | (with_reducible assumption) | assumption)
                     have q111 : ((rd l2 x45_2) : Int) < ((x245002_2.length : Int) : Int) := of_decide_eq_true (by first | (with_reducible assumption) | assumption)
                     obtain ⟨go111, co111, eo111, gb111, gl111, cl111, HG111⟩ := Kd.R_form HO_245002.out (by omega)
                     (first | cases eo111 | (injection eo111 with ea_ en_ ec_; (first | subst ea_ | (injection ea_ with ea_; subst ea_)); subst ec_; clear en_))
                     have GB111 := Aside0.mk gb111
                     have GG111 := Aside0.mk HG111
                     clear gb111 gl111 HG111
                     (first | simp only [add_plain] at hx287_0 | skip)
                     obtain ⟨hx111_0, hf111_0⟩ := Kd.R_celln 0 HO_245002.out ((rd l2 x45_2) : Int) p111 q111
                     replace p111 := eq_true p111
                     replace q111 := eq_true q111
                     have HP116 := Kd.R_putg HO_245002.out ((rd l2 x45_2) : Int) (wrap64 ((rd x245002_2 (rd l2 x45_2)) + 1))
                     go_wp2_with (first | ((with_reducible refine gate_store (t := 3) (p := 123) rfl ?_); refine store_event (t := 3) (p := 123) (v := ?vo_w117) (w1 := (wr.setCell ⟨go111, ((rd l2 x45_2) : Int).toNat, none⟩ (.int .i64 (wrap64 ((rd x245002_2 (rd l2 x45_2)) + 1))))) ?hg ?ho ?hn ?hr ?_; (case ho => rfl); (case hg => rfl); (case hn => rfl); (case hr => first | (go_simp; done) | (go_simp; rfl)); intro w117 hw; have hg : wr.grownBy w117 (some go111) := (by rw [hw]; exact HP116.2); have hp_ : Kd.R (Kd.int .i64) 3 w117 w.heap.size (fun k_ => some k_ ≠ (.slice (some ad273) x8_2.length co112 : Value).ownBlock ∧ some k_ ≠ (v252 : Value).ownBlock ∧ some k_ ≠ (.slice (some ad280) x10_2.length co43 : Value).ownBlock ∧ some k_ ≠ (u245000 : Value).ownBlock ∧ some k_ ≠ (u245001 : Value).ownBlock) (.slice (some ⟨go111, 0, none⟩) x245002_2.length co115) y288 := (by rw [hw, Ny288.out]; exact HP116.1); clear HP116; have n0_ := Aside0.mk (Kd.R_after (v := (.slice (some ⟨go111, 0, none⟩) x245002_2.length co115)) (v1 := (.slice (some ⟨go111, 0, none⟩) x245002_2.length co115)) (ok := (fun k_ => some k_ ≠ (v252 : Value).ownBlock ∧ some k_ ≠ (.slice (some ad280) x10_2.length co43 : Value).ownBlock ∧ some k_ ≠ (u245000 : Value).ownBlock ∧ some k_ ≠ (u245001 : Value).ownBlock)) (by (with_reducible repeat (first | apply Kd.R_alloc | apply Kd.R_drewN | apply Kd.R_drew)); exact Kd.R_mono HO_8.out (fun _ hk => ⟨⟨hk.1, ⟨hk.2.1, ⟨hk.2.2.1, hk.2.2.2.1⟩⟩⟩, hk.2.2.2.2⟩)) hg (.inl rfl)); have n1_ := Aside0.mk (Kd.R_after (v := (.slice (some ⟨go111, 0, none⟩) x245002_2.length co115)) (v1 := (.slice (some ⟨go111, 0, none⟩) x245002_2.length co115)) (ok := (fun k_ => some k_ ≠ (.slice (some ad273) x8_2.length co112 : Value).ownBlock ∧ some k_ ≠ (.slice (some ad280) x10_2.length co43 : Value).ownBlock ∧ some k_ ≠ (u245000 : Value).ownBlock ∧ some k_ ≠ (u245001 : Value).ownBlock)) (by (with_reducible repeat (first | apply Kd.R_alloc | apply Kd.R_drewN | apply Kd.R_drew)); exact Kd.R_mono HO_9.out (fun _ hk => ⟨⟨hk.1, ⟨hk.2.1, ⟨hk.2.2.1, hk.2.2.2.1⟩⟩⟩, hk.2.2.2.2⟩)) hg (.inl rfl)); have n2_ := Aside0.mk (Kd.R_after (v := (.slice (some ⟨go111, 0, none⟩) x245002_2.length co115)) (v1 := (.slice (some ⟨go111, 0, none⟩) x245002_2.length co115)) (ok := (fun k_ => some k_ ≠ (.slice (some ad273) x8_2.length co112 : Value).ownBlock ∧ some k_ ≠ (v252 : Value).ownBlock ∧ some k_ ≠ (u245000 : Value).ownBlock ∧ some k_ ≠ (u245001 : Value).ownBlock)) (by (with_reducible repeat (first | apply Kd.R_alloc | apply Kd.R_drewN | apply Kd.R_drew)); exact Kd.R_mono HO_10.out (fun _ hk => ⟨⟨hk.1, ⟨hk.2.1, ⟨hk.2.2.1, hk.2.2.2.1⟩⟩⟩, hk.2.2.2.2⟩)) hg (.inl rfl)); have n3_ := Aside0.mk (Kd.R_after (v := (.slice (some ⟨go111, 0, none⟩) x245002_2.length co115)) (v1 := (.slice (some ⟨go111, 0, none⟩) x245002_2.length co115)) (ok := (fun k_ => some k_ ≠ (.slice (some ad273) x8_2.length co112 : Value).ownBlock ∧ some k_ ≠ (v252 : Value).ownBlock ∧ some k_ ≠ (.slice (some ad280) x10_2.length co43 : Value).ownBlock ∧ some k_ ≠ (u245001 : Value).ownBlock)) (by (with_reducible repeat (first | apply Kd.R_alloc | apply Kd.R_drewN | apply Kd.R_drew)); exact Kd.R_mono HO_245000.out (fun _ hk => ⟨⟨hk.1, ⟨hk.2.1, ⟨hk.2.2.1, hk.2.2.2.1⟩⟩⟩, hk.2.2.2.2⟩)) hg (.inl rfl)); have n4_ := Aside0.mk (Kd.R_after (v := (.slice (some ⟨go111, 0, none⟩) x245002_2.length co115)) (v1 := (.slice (some ⟨go111, 0, none⟩) x245002_2.length co115)) (ok := (fun k_ => some k_ ≠ (.slice (some ad273) x8_2.length co112 : Value).ownBlock ∧ some k_ ≠ (v252 : Value).ownBlock ∧ some k_ ≠ (.slice (some ad280) x10_2.length co43 : Value).ownBlock ∧ some k_ ≠ (u245000 : Value).ownBlock)) (by (with_reducible repeat (first | apply Kd.R_alloc | apply Kd.R_drewN | apply Kd.R_drew)); exact Kd.R_mono HO_245001.out (fun _ hk => ⟨⟨hk.1, ⟨hk.2.1, ⟨hk.2.2.1, hk.2.2.2.1⟩⟩⟩, hk.2.2.2.2⟩)) hg (.inl rfl)); have n5_ := Aside0.mk (hp_); have n6_ := Aside0.mk (Kd.S_after (v := (.slice (some ⟨go111, 0, none⟩) x245002_2.length co115)) (v1 := (.slice (some ⟨go111, 0, none⟩) x245002_2.length co115)) (ok := (fun k_ => some k_ ≠ (.slice (some ad273) x8_2.length co112 : Value).ownBlock ∧ some k_ ≠ (v252 : Value).ownBlock ∧ some k_ ≠ (.slice (some ad280) x10_2.length co43 : Value).ownBlock ∧ some k_ ≠ (u245000 : Value).ownBlock ∧ some k_ ≠ (u245001 : Value).ownBlock)) (by (with_reducible repeat (first | apply Kd.S_alloc | apply Kd.S_drewN | apply Kd.S_drew)); exact Kd.S_mono HO_245003.out (fun _ hk => ⟨⟨hk.1, ⟨hk.2.1, ⟨hk.2.2.1, ⟨hk.2.2.2.1, hk.2.2.2.2.1⟩⟩⟩⟩, hk.2.2.2.2.2⟩)) hg (.inl rfl)); have n7_ := Aside0.mk (blk_grown (g := gb234) (o := .cells #[.slice none 0 0, .slice none 0 0, .slice none 0 0, .slice none 0 0] 54 (0, 0)) BK234.out hg (Kd.R_ne HO_245002.out BK234.out (by decide))); have n8_ := Aside0.mk (blk_grown (g := gb244) (o := .cells #[u245000, u245001, .slice (some ⟨go111, 0, none⟩) x245002_2.length co115, u245003] 54 (0, 0)) BK244.out hg (Kd.R_ne HO_245002.out BK244.out (by decide))); have n9_ := Aside0.mk ((by rw [hw]; exact below_set (HB.out) GB111.out : Below w.heap.size w w117)); clear HO_8; clear HO_9; clear HO_10; clear HO_245000; clear HO_245001; clear HO_245002; clear HO_245003; clear BK234; clear BK244; clear HB; have HO_8 := n0_; have HO_9 := n1_; have HO_10 := n2_; have HO_245000 := n3_; have HO_245001 := n4_; have HO_245002 := n5_; have HO_245003 := n6_; have BK234 := n7_; have BK244 := n8_; have HB := n9_; clear n0_ n1_ n2_ n3_ n4_ n5_ n6_ n7_ n8_ n9_; clear hg hw hp_))
                     (try simp only [← hl10_2])
                     go_roundg k2
                     case measure => have := HK1.out; have := HK2.out; omega
                     case rel => exact ⟨(x8_2), (x9_2), (x10_2), (x11_2), (wrap64 (x45_2 + 1)), (x245000_2), (x245001_2), (y288), (u245000), (u245001), (.slice (some ⟨go111, 0, none⟩) x245002_2.length co115), (by first | rfl | (simp; done) | (simp [*]; done)), (by first | rfl | (simp; done) | (simp [*]; done)), H', ⟨by have := HK1.out; have := HK2.out; omega⟩, ⟨by (try simp only [hl10_1]); (try simp only [hl10_2]); (with_reducible repeat (first | apply Kd.R_alloc | apply Kd.R_drewN | apply Kd.R_drew)); exact Kd.R_mono HO_8.out (fun _ hk => ⟨hk.1.1, ⟨hk.1.2.1, ⟨hk.1.2.2.1, ⟨hk.1.2.2.2, hk.2⟩⟩⟩⟩)⟩, ⟨by (try simp only [hl10_1]); (try simp only [hl10_2]); (with_reducible repeat (first | apply Kd.R_alloc | apply Kd.R_drewN | apply Kd.R_drew)); exact Kd.R_mono HO_9.out (fun _ hk => ⟨hk.1.1, ⟨hk.1.2.1, ⟨hk.1.2.2.1, ⟨hk.1.2.2.2, hk.2⟩⟩⟩⟩)⟩, ⟨by (try simp only [hl10_1]); (try simp only [hl10_2]); (with_reducible repeat (first | apply Kd.R_alloc | apply Kd.R_drewN | apply Kd.R_drew)); exact Kd.R_mono HO_10.out (fun _ hk => ⟨hk.1.1, ⟨hk.1.2.1, ⟨hk.1.2.2.1, ⟨hk.1.2.2.2, hk.2⟩⟩⟩⟩)⟩, ⟨by (try simp only [hl10_1]); (try simp only [hl10_2]); (with_reducible repeat (first | apply Kd.R_alloc | apply Kd.R_drewN | apply Kd.R_drew)); exact Kd.R_mono HO_245000.out (fun _ hk => ⟨hk.1.1, ⟨hk.1.2.1, ⟨hk.1.2.2.1, ⟨hk.1.2.2.2, hk.2⟩⟩⟩⟩)⟩, ⟨by (try simp only [hl10_1]); (try simp only [hl10_2]); (with_reducible repeat (first | apply Kd.R_alloc | apply Kd.R_drewN | apply Kd.R_drew)); exact Kd.R_mono HO_245001.out (fun _ hk => ⟨hk.1.1, ⟨hk.1.2.1, ⟨hk.1.2.2.1, ⟨hk.1.2.2.2, hk.2⟩⟩⟩⟩)⟩, ⟨by (try simp only [hl10_1]); (try simp only [hl10_2]); (with_reducible repeat (first | apply Kd.R_alloc | apply Kd.R_drewN | apply Kd.R_drew)); exact HO_245002.out⟩, ⟨by (try simp only [hl10_1]); (try simp only [hl10_2]); (with_reducible repeat (first | apply Kd.S_alloc | apply Kd.S_drewN | apply Kd.S_drew)); exact Kd.S_mono HO_245003.out (fun _ hk => ⟨hk.1.1, ⟨hk.1.2.1, ⟨hk.1.2.2.1, ⟨hk.1.2.2.2.1, ⟨hk.1.2.2.2.2, hk.2⟩⟩⟩⟩⟩)⟩, ⟨by (try simp only [hl10_1]); (try simp only [hl10_2]); first | (with_reducible exact BK234.out) | ((with_reducible repeat (first | refine blk_drewN ?_ _ | refine blk_drew ?_ | refine blk_alloc ?_ _)); exact BK234.out)⟩, ⟨by (try simp only [hl10_1]); (try simp only [hl10_2]); first | (with_reducible exact BK244.out) | ((with_reducible repeat (first | refine blk_drewN ?_ _ | refine blk_drew ?_ | refine blk_alloc ?_ _)); exact BK244.out)⟩, ⟨by repeat (first | (with_reducible first | exact HB.out | apply below_alloc | apply pw_below_drewN | apply below_drew1 | refine below_set ?_ GE234.out | refine below_set ?_ GE244.out) | exact HB.out)⟩⟩
                    ·rw [if_neg c110] at H
                     exact absurd H (by simp)
                   ·rw [if_neg c109] at H
                    have c109b0 : decide (0 ≤ (rd x8_2 (rd l2 x45_2))) = false := decide_eq_false c109
                    clear c109
                    have H' := Aside0.mk H
                    clear H
                    have p272 : 0 ≤ (x45_2 : Int) := of_decide_eq_true (by first | (with_reducible assumption) | assumption)
                    have q272 : x45_2 < (l2.length : Int) := of_decide_eq_true (by first | (with_reducible assumption) | assumption)
                    obtain ⟨ad272, e272, hx272_0⟩ := Kd.at_int HR2.out x45_2 p272 q272
                    cases e272
                    (try replace hx272_0 := (HB.out.cell (World.block_lt_of_cell? w _ hx272_0)).trans hx272_0)
                    replace p272 := eq_true p272
                    replace q272 := eq_true q272
                    obtain ⟨Ao118, co118, eo118⟩ := Kd.R_slice HO_8.out
                    subst eo118
                    have p273 : 0 ≤ ((rd l2 x45_2) : Int) := of_decide_eq_true (by first | (with_reducible assumption) | assumption)
                    have q273 : (rd l2 x45_2) < (x8_2.length : Int) := of_decide_eq_true (by first | (with_reducible assumption) | assumption)
                    obtain ⟨ad273, e273, hx273_0⟩ := Kd.at_int (Kd.R_reads' HO_8.out).2.2 (rd l2 x45_2) p273 q273
                    cases e273
                    replace p273 := eq_true p273
                    replace q273 := eq_true q273
                    have p280 : 0 ≤ ((ji79) : Int) := of_decide_eq_true (by first | (with_reducible assumption) | assumption)
                    have q280 : (ji79) < (x10_2.length : Int) := of_decide_eq_true (by first | (with_reducible assumption) | assumption)
                    obtain ⟨ad280, e280, hx280_0⟩ := Kd.at_int (Kd.R_reads' HO_10.out).2.2 (ji79) p280 q280
                    cases e280
                    replace p280 := eq_true p280
                    replace q280 := eq_true q280
                    go_wp2
                    (try simp only [← hl10_2])
                    go_roundg k2
                    case measure => have := HK1.out; have := HK2.out; omega
                    case rel => exact ⟨(x8_2), (x9_2), (x10_2), (x11_2), (wrap64 (x45_2 + 1)), (x245000_2), (x245001_2), (x245002_2), (u245000), (u245001), (u245002), (by first | rfl | (simp; done) | (simp [*]; done)), (by first | rfl | (simp; done) | (simp [*]; done)), H', ⟨by have := HK1.out; have := HK2.out; omega⟩, ⟨by (try simp only [hl10_1]); (try simp only [hl10_2]); (with_reducible repeat (first | apply Kd.R_alloc | apply Kd.R_drewN | apply Kd.R_drew)); exact HO_8.out⟩, ⟨by (try simp only [hl10_1]); (try simp only [hl10_2]); (with_reducible repeat (first | apply Kd.R_alloc | apply Kd.R_drewN | apply Kd.R_drew)); exact HO_9.out⟩, ⟨by (try simp only [hl10_1]); (try simp only [hl10_2]); (with_reducible repeat (first | apply Kd.R_alloc | apply Kd.R_drewN | apply Kd.R_drew)); exact HO_10.out⟩, ⟨by (try simp only [hl10_1]); (try simp only [hl10_2]); (with_reducible repeat (first | apply Kd.R_alloc | apply Kd.R_drewN | apply Kd.R_drew)); exact HO_245000.out⟩, ⟨by (try simp only [hl10_1]); (try simp only [hl10_2]); (with_reducible repeat (first | apply Kd.R_alloc | apply Kd.R_drewN | apply Kd.R_drew)); exact HO_245001.out⟩, ⟨by (try simp only [hl10_1]); (try simp only [hl10_2]); (with_reducible repeat (first | apply Kd.R_alloc | apply Kd.R_drewN | apply Kd.R_drew)); exact HO_245002.out⟩, ⟨by (try simp only [hl10_1]); (try simp only [hl10_2]); (with_reducible repeat (first | apply Kd.S_alloc | apply Kd.S_drewN | apply Kd.S_drew)); exact HO_245003.out⟩, ⟨by (try simp only [hl10_1]); (try simp only [hl10_2]); first | (with_reducible exact BK234.out) | ((with_reducible repeat (first | refine blk_drewN ?_ _ | refine blk_drew ?_ | refine blk_alloc ?_ _)); exact BK234.out)⟩, ⟨by (try simp only [hl10_1]); (try simp only [hl10_2]); first | (with_reducible exact BK244.out) | ((with_reducible repeat (first | refine blk_drewN ?_ _ | refine blk_drew ?_ | refine blk_alloc ?_ _)); exact BK244.out)⟩, ⟨by repeat (first | (with_reducible first | exact HB.out | apply below_alloc | apply pw_below_drewN | apply below_drew1 | refine below_set ?_ GE234.out | refine below_set ?_ GE244.out) | exact HB.out)⟩⟩
                 ·rw [if_neg c81] at H
                  exact absurd H (by simp)
                ·rw [if_neg c80] at H
                 exact absurd H (by simp)
             ·rw [if_neg c54] at H
              exact absurd H (by simp)
            ·rw [if_neg c53] at H
             exact absurd H (by simp)
           ·rw [if_neg c52] at H
            exact absurd H (by simp)
          ·rw [if_neg c51] at H
           exact absurd H (by simp)
         ·rw [if_neg c50] at H
          have c50b0 : decide (x45_2 < (l2.length : Int)) = false := decide_eq_false c50
          clear c50
          replace H := Option.bind_eq_some_iff.mp H
          obtain ⟨t266, A1190, H⟩ := H
          replace H : (if x245003_1.length < 5864062014805 then (impl_board.l0 k2 a0 a1 l2 x8_2 x9_2 x10_2 x11_2 (wrap64 (x12_1 + 1)) x245000_2 x245001_2 x245002_2 (x245003_1 ++ [t266])) else (none)) = some (r1, r2, r3, r4) := H
          have A119 := Aside0.mk A1190
          clear A1190
          by_cases c120 : x245003_1.length < 5864062014805
          ·rw [if_pos c120] at H
           have LMc120 := Aside0.mk c120
           clear c120
           obtain ⟨y269, hy269⟩ : ∃ y_ : List (List Int), y_ = (x245003_1 ++ [t266]) := ⟨_, rfl⟩
           replace H : (impl_board.l0 k2 a0 a1 l2 x8_2 x9_2 x10_2 x11_2 (wrap64 (x12_1 + 1)) x245000_2 x245001_2 x245002_2 y269) = some (r1, r2, r3, r4) := by first | (rw [hy269]; with_reducible exact H) | (have H2_ := (Option.bind_some _ _).symm.trans H; rw [hy269]; with_reducible exact H2_) | (have H2_ := (Option.bind_some _ _).symm.trans H; with_reducible exact H2_) | with_reducible exact H | (rw [hy269]; exact H) | exact H
           have Ny269 := Aside0.mk hy269
           clear hy269
           have H' := Aside0.mk H
           clear H
           try go_wp2
           have n0_ := Aside0.mk (Kd.R_drew HO_8.out)
           have n1_ := Aside0.mk (Kd.R_drew HO_9.out)
           have n2_ := Aside0.mk (Kd.R_drew HO_10.out)
           have n3_ := Aside0.mk (Kd.R_drew HO_245000.out)
           have n4_ := Aside0.mk (Kd.R_drew HO_245001.out)
           have n5_ := Aside0.mk (Kd.R_drew HO_245002.out)
           have n6_ := Aside0.mk (Kd.S_drew HO_245003.out)
           have n7_ := Aside0.mk (blk_drew BK234.out)
           have n8_ := Aside0.mk (blk_drew BK244.out)
           have n9_ := Aside0.mk (below_drew1 HB.out)
           clear HO_8
           clear HO_9
           clear HO_10
           clear HO_245000
           clear HO_245001
           clear HO_245002
           clear HO_245003
           clear BK234
           clear BK244
           clear HB
           have HO_8 := n0_
           have HO_9 := n1_
           have HO_10 := n2_
           have HO_245000 := n3_
           have HO_245001 := n4_
           have HO_245002 := n5_
           have HO_245003 := n6_
           have BK234 := n7_
           have BK244 := n8_
           have HB := n9_
           clear n0_ n1_ n2_ n3_ n4_ n5_ n6_ n7_ n8_ n9_
           refine start_ (n := 8) (S := fun w' => w'.cell? ⟨gb244, 0, none⟩ = some (u245000) ∧ w'.cell? ⟨gb244, 1, none⟩ = some (u245001) ∧ w'.cell? ⟨gb244, 2, none⟩ = some (u245002) ∧ w'.cell? ⟨gb244, 3, none⟩ = some (u245003)) (ds := [7]) #[false, false, false, false, false, false, false, false] (by kernel_rfl) rfl rfl ⟨(blk_cell BK244.out 0).trans rfl, (blk_cell BK244.out 1).trans rfl, (blk_cell BK244.out 2).trans rfl, (blk_cell BK244.out 3).trans rfl⟩ (fun hHeld => ?_); refine with_tabW impl_board.tab26 impl_board.bits26 (fun HT_ HW_ => ?_)
           generalize wr.drew = w121 at HO_8 HO_9 HO_10 HO_245000 HO_245001 HO_245002 HO_245003 BK234 BK244 HB hHeld ⊢
           refine pure_ (i := 0) (N := some 125) (v := ?_) (a' := ?_) #[true, false, false, false, false, false, false, false] rfl rfl (any_of HT_.out (by kernel_rfl)) (fun _ _ _ h => h) (Or.inl ⟨by rfl, ?_⟩) ?_ ?_
           rotate_left
           ·intro w'
            go_simp
            with_reducible rfl
           rotate_left
           ·simp only [Act.put, List.setIfInBounds_toArray, List.set_cons_zero, List.set_cons_succ, i64_w, i32_w]
            rfl
           refine pure_ (i := 2) (N := some 127) (v := ?_) (a' := ?_) #[true, false, true, false, false, false, false, false] rfl rfl (any_of HT_.out (by kernel_rfl)) (fun _ _ _ h => h) (Or.inl ⟨by rfl, ?_⟩) ?_ ?_
           rotate_left
           ·intro w'
            go_simp
            with_reducible rfl
           rotate_left
           ·simp only [Act.put, List.setIfInBounds_toArray, List.set_cons_zero, List.set_cons_succ, i64_w, i32_w]
            rfl
           refine take_ (i := 1) (N := some 126) (v := ?_) (a' := ?_) #[true, true, true, false, false, false, false, false] rfl rfl (take_ofW HT_.out HW_.out (by kernel_rfl)) (fun _ _ _ h => h) (Or.inl ⟨by rfl, ?_⟩) hHeld ?_ ?_
           rotate_left
           ·rintro w' ⟨s0, s1, s2, s3⟩
            go_simp
            with_reducible rfl
           rotate_left
           ·simp only [Act.put, List.setIfInBounds_toArray, List.set_cons_zero, List.set_cons_succ, i64_w, i32_w]
            rfl
           refine one_ (i := 3) (N := some 128) #[true, true, true, true, false, false, false, false] rfl rfl (one_of HT_.out (by kernel_rfl)) (by decide) (fun K hK => ?_)
           refine goes_ Try.func53 (by kernel_rfl) rfl #[.slice Ao43 x10_2.length co43] (by rfl) rfl rfl (by (try simp only [List.map_toArray, List.map_cons, List.map_nil]); first | done | rfl | (simp only [List.length_drop, List.length_take]; rfl)) ?_
           with_reducible refine (slices_Clone_int_int.calls _ _ x10_2 t266 _ ?side1 ?side2 A119.out).mono ?_
           (case side1 => repeat (first | exact (Kd.R_reads' HO_10.out).2.2 | (with_reducible refine Kd.C_alloc ?_ _) | (with_reducible refine Kd.C_drewN ?_ _) | (with_reducible refine Kd.C_drew ?_)))
           (case side2 => exact (Kd.R_reads' HO_10.out).2.1)
           rintro e w122 ⟨v267, rfl, ho0, hb⟩
           refine ⟨_, rfl, ?_⟩
           have n0_ := Aside0.mk (Kd.R_elder' HO_8.out (Kd.R_base ho0) hb)
           have n1_ := Aside0.mk (Kd.R_elder' HO_9.out (Kd.R_base ho0) hb)
           have n2_ := Aside0.mk (Kd.R_elder' HO_10.out (Kd.R_base ho0) hb)
           have n3_ := Aside0.mk (Kd.R_elder' HO_245000.out (Kd.R_base ho0) hb)
           have n4_ := Aside0.mk (Kd.R_elder' HO_245001.out (Kd.R_base ho0) hb)
           have n5_ := Aside0.mk (Kd.R_elder' HO_245002.out (Kd.R_base ho0) hb)
           have n6_ := Aside0.mk (Kd.S_elder' (by (with_reducible repeat (first | apply Kd.S_alloc | apply Kd.S_drewN | apply Kd.S_drew)); exact HO_245003.out) (Kd.R_base ho0) hb)
           have n7_ := Aside0.mk (Kd.R_lower (Kd.R_new' (Kd.R_new' (Kd.R_new' (Kd.R_new' (Kd.R_new' (Kd.R_new' ho0 (Kd.R_lt HO_8.out)) (Kd.R_lt HO_9.out)) (Kd.R_lt HO_10.out)) (Kd.R_lt HO_245000.out)) (Kd.R_lt HO_245001.out)) (Kd.R_lt HO_245002.out)) (below_size (by repeat (first | (with_reducible first | exact HB.out | apply below_alloc | apply pw_below_drewN | apply below_drew1 | refine below_set ?_ GE234.out | refine below_set ?_ GE244.out) | exact HB.out))))
           have n8_ := Aside0.mk (blk_below (g := gb234) (o := .cells #[.slice none 0 0, .slice none 0 0, .slice none 0 0, .slice none 0 0] 54 (0, 0)) BK234.out hb)
           have n9_ := Aside0.mk (blk_below (g := gb244) (o := .cells #[u245000, u245001, u245002, u245003] 54 (0, 0)) BK244.out hb)
           have n10_ := Aside0.mk (below_step (by repeat (first | (with_reducible first | exact HB.out | apply below_alloc | apply pw_below_drewN | apply below_drew1 | refine below_set ?_ GE234.out | refine below_set ?_ GE244.out) | exact HB.out)) hb)
           clear HO_8
           clear HO_9
           clear HO_10
           clear HO_245000
           clear HO_245001
           clear HO_245002
           clear HO_245003
           clear BK234
           clear BK244
           clear HB
           have HO_8 := n0_
           have HO_9 := n1_
           have HO_10 := n2_
           have HO_245000 := n3_
           have HO_245001 := n4_
           have HO_245002 := n5_
           have HO_245003 := n6_
           have HO268 := n7_
           have BK234 := n8_
           have BK244 := n9_
           have HB := n10_
           clear n0_ n1_ n2_ n3_ n4_ n5_ n6_ n7_ n8_ n9_ n10_
           (try clear hb)
           (try clear hb2)
           (try clear hk)
           (try clear hi)
           (try clear ho0)
           obtain ⟨Ao124, co124, eo124⟩ := Kd.R_slice HO268.out
           (first | subst eo124 | (injection eo124 with f1_ f2_ f3_; have f4_ := f1_.symm; have f5_ := f3_.symm; clear f1_ f2_ f3_; subst f4_; subst f5_))
           refine hK.out _ _ ⟨(blk_cell BK244.out 0).trans rfl, (blk_cell BK244.out 1).trans rfl, (blk_cell BK244.out 2).trans rfl, (blk_cell BK244.out 3).trans rfl⟩ (fun hHeld => ?_)
           clear hK K
           refine norm_ (a' := ?_) ?_ ?_
           rotate_left
           ·show Act.put _ (some 128) _ = _
            simp only [Act.put, List.setIfInBounds_toArray, List.set_cons_zero, List.set_cons_succ, i64_w, i32_w]
            rfl
           refine one_ (i := 4) (N := some 129) #[true, true, true, true, true, false, false, false] rfl rfl (one_of HT_.out (by kernel_rfl)) (by decide) (fun K hK => ?_)
           refine value_ (w1 := ?_) (v := ?_) (by rfl) rfl ?_ ?_
           rotate_left 2
           ·go_simp
            constructor
            ·rfl
            ·rfl
           refine hK.out _ _ ⟨(blk_cell (blk_alloc BK244.out _) 0).trans rfl, (blk_cell (blk_alloc BK244.out _) 1).trans rfl, (blk_cell (blk_alloc BK244.out _) 2).trans rfl, (blk_cell (blk_alloc BK244.out _) 3).trans rfl⟩ (fun hHeld => ?_)
           clear hK K
           refine norm_ (a' := ?_) ?_ ?_
           rotate_left
           ·show Act.put _ (some 129) _ = _
            simp only [Act.put, List.setIfInBounds_toArray, List.set_cons_zero, List.set_cons_succ, i64_w, i32_w]
            rfl
           refine one_ (i := 5) (N := some 130) #[true, true, true, true, true, true, false, false] rfl rfl (one_of HT_.out (by kernel_rfl)) (by decide) (fun K hK => ?_)
           refine Kd.S_append_step (Kd.slice 3 (Kd.int .i64)) (w0 := w) w.heap.size (by rfl) (.tmp 126) (.tmp 129) 22 24 (.slice none 0 0) 24 rfl Try.underlying22 info24 rfl (by decide) (by omega) u245003 x245003_1 t266 [.slice Ao124 t266.length co124] (fun k_ => some k_ ≠ (v249 : Value).ownBlock ∧ some k_ ≠ (v252 : Value).ownBlock ∧ some k_ ≠ (.slice Ao43 x10_2.length co43 : Value).ownBlock ∧ some k_ ≠ (u245000 : Value).ownBlock ∧ some k_ ≠ (u245001 : Value).ownBlock ∧ some k_ ≠ (u245002 : Value).ownBlock) (fun k_ => some k_ = (.slice Ao124 t266.length co124 : Value).ownBlock) rfl rfl ?aP (fun k_ hk_ => ((Kd.R_mono (ok' := fun k_ => ((fun k_ => some k_ ≠ (v249 : Value).ownBlock ∧ some k_ ≠ (v252 : Value).ownBlock ∧ some k_ ≠ (.slice Ao43 x10_2.length co43 : Value).ownBlock ∧ some k_ ≠ (u245000 : Value).ownBlock ∧ some k_ ≠ (u245001 : Value).ownBlock ∧ some k_ ≠ (u245002 : Value).ownBlock)) k_ ∧ some k_ ≠ (u245003 : Value).ownBlock) (Kd.R_apart' (HO268.out) (Kd.S_typed HO_245003.out) (by decide)) (fun k_ hk => ⟨⟨hk.1.1.1.1.1.1.2, ⟨hk.1.1.1.1.1.2, ⟨hk.1.1.1.1.2, ⟨hk.1.1.1.2, ⟨hk.1.1.2, hk.1.2⟩⟩⟩⟩⟩, hk.2⟩))).1 k_ hk_.symm) ?aF ?aO ?aB ?aS ?aL ?_
           (case aP => exact Kd.M_row (Kd.R_mono (Kd.R_tight rfl (Kd.R_mono (ok' := fun k_ => ((fun k_ => some k_ ≠ (v249 : Value).ownBlock ∧ some k_ ≠ (v252 : Value).ownBlock ∧ some k_ ≠ (.slice Ao43 x10_2.length co43 : Value).ownBlock ∧ some k_ ≠ (u245000 : Value).ownBlock ∧ some k_ ≠ (u245001 : Value).ownBlock ∧ some k_ ≠ (u245002 : Value).ownBlock)) k_ ∧ some k_ ≠ (u245003 : Value).ownBlock) (Kd.R_apart' (HO268.out) (Kd.S_typed HO_245003.out) (by decide)) (fun k_ hk => ⟨⟨hk.1.1.1.1.1.1.2, ⟨hk.1.1.1.1.1.2, ⟨hk.1.1.1.1.2, ⟨hk.1.1.1.2, ⟨hk.1.1.2, hk.1.2⟩⟩⟩⟩⟩, hk.2⟩))) (fun _ h_ => h_)))
           (case aB => exact (by repeat (first | (with_reducible first | exact HB.out | apply below_alloc | apply pw_below_drewN | apply below_drew1 | refine below_set ?_ GE234.out | refine below_set ?_ GE244.out) | exact HB.out)))
           (case aF => exact (fun k_ hk => ⟨Kd.fresh' (Kd.R_lt HO_8.out) k_ hk, Kd.fresh' (Kd.R_lt HO_9.out) k_ hk, Kd.fresh' (Kd.R_lt HO_10.out) k_ hk, Kd.fresh' (Kd.R_lt HO_245000.out) k_ hk, Kd.fresh' (Kd.R_lt HO_245001.out) k_ hk, Kd.fresh' (Kd.R_lt HO_245002.out) k_ hk⟩))
           (case aO => exact (by (with_reducible repeat (first | apply Kd.S_alloc | apply Kd.S_drewN | apply Kd.S_drew)); exact Kd.S_mono HO_245003.out (fun k_ hk => ⟨⟨hk.1.1, ⟨hk.1.2.1, ⟨hk.1.2.2.1, ⟨hk.1.2.2.2.1, ⟨hk.1.2.2.2.2.1, hk.1.2.2.2.2.2⟩⟩⟩⟩⟩, fun e_ => hk.2 e_⟩)))
           (case aS => exact (below_size (by repeat (first | (with_reducible first | exact HB.out | apply below_alloc | apply pw_below_drewN | apply below_drew1 | refine below_set ?_ GE234.out | refine below_set ?_ GE244.out) | exact HB.out))))
           (case aL => have := LMc120.out; omega)
           intro v270 w123 ho hb hg hat
           rw [← Ny269.out] at ho
           have n0_ := Aside0.mk (Kd.R_over' HO_8.out (Kd.S_typed (by (with_reducible repeat (first | apply Kd.S_alloc | apply Kd.S_drewN | apply Kd.S_drew)); exact HO_245003.out)) (by decide) hg)
           have n1_ := Aside0.mk (Kd.R_over' HO_9.out (Kd.S_typed (by (with_reducible repeat (first | apply Kd.S_alloc | apply Kd.S_drewN | apply Kd.S_drew)); exact HO_245003.out)) (by decide) hg)
           have n2_ := Aside0.mk (Kd.R_over' HO_10.out (Kd.S_typed (by (with_reducible repeat (first | apply Kd.S_alloc | apply Kd.S_drewN | apply Kd.S_drew)); exact HO_245003.out)) (by decide) hg)
           have n3_ := Aside0.mk (Kd.R_over' HO_245000.out (Kd.S_typed (by (with_reducible repeat (first | apply Kd.S_alloc | apply Kd.S_drewN | apply Kd.S_drew)); exact HO_245003.out)) (by decide) hg)
           have n4_ := Aside0.mk (Kd.R_over' HO_245001.out (Kd.S_typed (by (with_reducible repeat (first | apply Kd.S_alloc | apply Kd.S_drewN | apply Kd.S_drew)); exact HO_245003.out)) (by decide) hg)
           have n5_ := Aside0.mk (Kd.R_over' HO_245002.out (Kd.S_typed (by (with_reducible repeat (first | apply Kd.S_alloc | apply Kd.S_drewN | apply Kd.S_drew)); exact HO_245003.out)) (by decide) hg)
           have n6_ := Aside0.mk (blk_grown (g := gb234) (o := .cells #[.slice none 0 0, .slice none 0 0, .slice none 0 0, .slice none 0 0] 54 (0, 0)) BK234.out hg (Kd.S_ne HO_245003.out BK234.out (by decide)))
           have n7_ := Aside0.mk (blk_grown (g := gb244) (o := .cells #[u245000, u245001, u245002, u245003] 54 (0, 0)) BK244.out hg (Kd.S_ne HO_245003.out BK244.out (by decide)))
           have n8_ := Aside0.mk (hb)
           have n9_ := Aside0.mk (ho)
           clear HO_8
           clear HO_9
           clear HO_10
           clear HO_245000
           clear HO_245001
           clear HO_245002
           clear BK234
           clear BK244
           clear HB
           clear HO_245003
           clear HO268
           have HO_8 := n0_
           have HO_9 := n1_
           have HO_10 := n2_
           have HO_245000 := n3_
           have HO_245001 := n4_
           have HO_245002 := n5_
           have BK234 := n6_
           have BK244 := n7_
           have HB := n8_
           have HO271 := n9_
           clear n0_ n1_ n2_ n3_ n4_ n5_ n6_ n7_ n8_ n9_
           clear ho hb hg hat
           obtain ⟨Ao125, co125, eo125⟩ := Kd.S_slice HO271.out
           (first | subst eo125 | (injection eo125 with f1_ f2_ f3_; have f4_ := f1_.symm; have f5_ := f3_.symm; clear f1_ f2_ f3_; subst f4_; subst f5_))
           refine hK.out _ _ ⟨(blk_cell BK244.out 0).trans rfl, (blk_cell BK244.out 1).trans rfl, (blk_cell BK244.out 2).trans rfl, (blk_cell BK244.out 3).trans rfl⟩ (fun hHeld => ?_)
           clear hK K
           refine norm_ (a' := ?_) ?_ ?_
           rotate_left
           ·show Act.put _ (some 130) _ = _
            simp only [Act.put, List.setIfInBounds_toArray, List.set_cons_zero, List.set_cons_succ, i64_w, i32_w]
            rfl
           refine pure_ (i := 6) (N := some 131) (v := ?_) (a' := ?_) #[true, true, true, true, true, true, true, false] rfl rfl (any_of HT_.out (by kernel_rfl)) (fun _ _ _ h => h) (Or.inl ⟨by rfl, ?_⟩) ?_ ?_
           rotate_left
           ·intro w'
            go_simp
            with_reducible rfl
           rotate_left
           ·simp only [Act.put, List.setIfInBounds_toArray, List.set_cons_zero, List.set_cons_succ, i64_w, i32_w]
            rfl
           refine last_ (i := 7) (N := none) #[true, true, true, true, true, true, true, true] rfl rfl (one_of HT_.out (by kernel_rfl)) (by decide) (fun K hK => ?_)
           have hs126 : w123.cell? ⟨gb244, 3, none⟩ = some (u245003) := (blk_cell BK244.out 3).trans rfl
           have hfs126 := blk_frozen BK244.out 3
           have hns126_0 := NB234_244.out
           have hms126_0 := NB244_234.out
           refine skip_ (w1 := ?_) (by rfl) rfl ?_ ?_
           rotate_left
           ·go_simp
            rfl
           refine hK.out _ _ ?_
           clear hK K
           refine done_ (done_of HT_.out (by kernel_rfl)) ?_
           try go_wp2
           (try simp only [← hl10_1, ← hl10_2])
           go_roundg k2
           case measure => have := HK1.out; have := HK2.out; omega
           case rel => exact ⟨(x8_2), (x9_2), (x10_2), (x11_2), (wrap64 (x12_1 + 1)), (x245000_2), (x245001_2), (x245002_2), (y269), (u245000), (u245001), (u245002), (.slice Ao125 y269.length co125), (by first | rfl | (simp; done) | (simp [*]; done)), (by first | rfl | (simp; done) | (simp [*]; done)), H', ⟨by have := HK1.out; have := HK2.out; omega⟩, ⟨by (try simp only [hl10_1]); (try simp only [hl10_2]); (with_reducible repeat (first | apply Kd.R_alloc | apply Kd.R_drewN | apply Kd.R_drew)); exact Kd.R_mono (Kd.R_far (p := ⟨gb244, 3, none⟩) (Kd.R_types HO_8.out BK244.out (by decide)) (fun _ hk => hk.2) (.slice Ao125 y269.length co125)) (fun _ hk => ⟨hk.1.1.1, ⟨hk.1.1.2.1, ⟨hk.1.1.2.2.1, ⟨hk.1.1.2.2.2.1, hk.1.1.2.2.2.2⟩⟩⟩⟩)⟩, ⟨by (try simp only [hl10_1]); (try simp only [hl10_2]); (with_reducible repeat (first | apply Kd.R_alloc | apply Kd.R_drewN | apply Kd.R_drew)); exact Kd.R_mono (Kd.R_far (p := ⟨gb244, 3, none⟩) (Kd.R_types HO_9.out BK244.out (by decide)) (fun _ hk => hk.2) (.slice Ao125 y269.length co125)) (fun _ hk => ⟨hk.1.1.1, ⟨hk.1.1.2.1, ⟨hk.1.1.2.2.1, ⟨hk.1.1.2.2.2.1, hk.1.1.2.2.2.2⟩⟩⟩⟩)⟩, ⟨by (try simp only [hl10_1]); (try simp only [hl10_2]); (with_reducible repeat (first | apply Kd.R_alloc | apply Kd.R_drewN | apply Kd.R_drew)); exact Kd.R_mono (Kd.R_far (p := ⟨gb244, 3, none⟩) (Kd.R_types HO_10.out BK244.out (by decide)) (fun _ hk => hk.2) (.slice Ao125 y269.length co125)) (fun _ hk => ⟨hk.1.1.1, ⟨hk.1.1.2.1, ⟨hk.1.1.2.2.1, ⟨hk.1.1.2.2.2.1, hk.1.1.2.2.2.2⟩⟩⟩⟩)⟩, ⟨by (try simp only [hl10_1]); (try simp only [hl10_2]); (with_reducible repeat (first | apply Kd.R_alloc | apply Kd.R_drewN | apply Kd.R_drew)); exact Kd.R_mono (Kd.R_far (p := ⟨gb244, 3, none⟩) (Kd.R_types HO_245000.out BK244.out (by decide)) (fun _ hk => hk.2) (.slice Ao125 y269.length co125)) (fun _ hk => ⟨hk.1.1.1, ⟨hk.1.1.2.1, ⟨hk.1.1.2.2.1, ⟨hk.1.1.2.2.2.1, hk.1.1.2.2.2.2⟩⟩⟩⟩)⟩, ⟨by (try simp only [hl10_1]); (try simp only [hl10_2]); (with_reducible repeat (first | apply Kd.R_alloc | apply Kd.R_drewN | apply Kd.R_drew)); exact Kd.R_mono (Kd.R_far (p := ⟨gb244, 3, none⟩) (Kd.R_types HO_245001.out BK244.out (by decide)) (fun _ hk => hk.2) (.slice Ao125 y269.length co125)) (fun _ hk => ⟨hk.1.1.1, ⟨hk.1.1.2.1, ⟨hk.1.1.2.2.1, ⟨hk.1.1.2.2.2.1, hk.1.1.2.2.2.2⟩⟩⟩⟩)⟩, ⟨by (try simp only [hl10_1]); (try simp only [hl10_2]); (with_reducible repeat (first | apply Kd.R_alloc | apply Kd.R_drewN | apply Kd.R_drew)); exact Kd.R_mono (Kd.R_far (p := ⟨gb244, 3, none⟩) (Kd.R_types HO_245002.out BK244.out (by decide)) (fun _ hk => hk.2) (.slice Ao125 y269.length co125)) (fun _ hk => ⟨hk.1.1.1, ⟨hk.1.1.2.1, ⟨hk.1.1.2.2.1, ⟨hk.1.1.2.2.2.1, hk.1.1.2.2.2.2⟩⟩⟩⟩)⟩, ⟨by (try simp only [hl10_1]); (try simp only [hl10_2]); (with_reducible repeat (first | apply Kd.S_alloc | apply Kd.S_drewN | apply Kd.S_drew)); exact Kd.S_mono (Kd.S_far (p := ⟨gb244, 3, none⟩) (Kd.S_types HO271.out BK244.out (by decide)) (fun _ hk => hk.2) (.slice Ao125 y269.length co125)) (fun _ hk => ⟨hk.1.1, ⟨hk.1.2.1, ⟨hk.1.2.2.1, ⟨hk.1.2.2.2.1, ⟨hk.1.2.2.2.2.1, hk.1.2.2.2.2.2⟩⟩⟩⟩⟩)⟩, ⟨by (try simp only [hl10_1]); (try simp only [hl10_2]); (with_reducible repeat (first | refine blk_drewN ?_ _ | refine blk_drew ?_ | refine blk_alloc ?_ _)); refine blk_far ?_ NB234_244.out _; (with_reducible repeat (first | refine blk_drewN ?_ _ | refine blk_drew ?_ | refine blk_alloc ?_ _)); exact BK234.out⟩, ⟨by (try simp only [hl10_1]); (try simp only [hl10_2]); (with_reducible repeat (first | refine blk_drewN ?_ _ | refine blk_drew ?_ | refine blk_alloc ?_ _)); refine blk_put (cs := #[u245000, u245001, u245002, u245003]) ?_ 3 _ rfl; (with_reducible repeat (first | refine blk_drewN ?_ _ | refine blk_drew ?_ | refine blk_alloc ?_ _)); exact BK244.out⟩, ⟨by repeat (first | (with_reducible first | exact HB.out | apply below_alloc | apply pw_below_drewN | apply below_drew1 | refine below_set ?_ GE234.out | refine below_set ?_ GE244.out) | exact HB.out)⟩⟩
          ·rw [if_neg c120] at H
           exact absurd H (by simp)
      ·rw [if_neg c49] at H
       have c49b0 : decide (0 < x11_1) = false := decide_eq_false c49
       clear c49
       simp only [Option.some.injEq, Prod.mk.injEq] at H
       obtain ⟨rfl, rfl, rfl, rfl⟩ := H
       have hnb127 := NB244_234.out
       have hnc127 := NB234_244.out
       have hcz128_0 : wr.cell? ⟨gb244, 0, none⟩ = some (u245000) := (blk_cell BK244.out 0).trans rfl
       have hcz128_1 : wr.cell? ⟨gb244, 1, none⟩ = some (u245001) := (blk_cell BK244.out 1).trans rfl
       have hcz128_2 : wr.cell? ⟨gb244, 2, none⟩ = some (u245002) := (blk_cell BK244.out 2).trans rfl
       have hcz128_3 : wr.cell? ⟨gb244, 3, none⟩ = some (u245003) := (blk_cell BK244.out 3).trans rfl
       have hfz128_0 := blk_frozen BK244.out 0
       have hfz128_1 := blk_frozen BK244.out 1
       have hfz128_2 := blk_frozen BK244.out 2
       have hfz128_3 := blk_frozen BK244.out 3
       obtain ⟨Ao129, co129, eo129⟩ := Kd.R_slice HO_245000.out
       subst eo129
       have hcz130_0 : wr.cell? ⟨gb234, 0, none⟩ = some (.slice none 0 0) := (blk_cell BK234.out 0).trans rfl
       have hcz130_1 : wr.cell? ⟨gb234, 1, none⟩ = some (.slice none 0 0) := (blk_cell BK234.out 1).trans rfl
       have hcz130_2 : wr.cell? ⟨gb234, 2, none⟩ = some (.slice none 0 0) := (blk_cell BK234.out 2).trans rfl
       have hcz130_3 : wr.cell? ⟨gb234, 3, none⟩ = some (.slice none 0 0) := (blk_cell BK234.out 3).trans rfl
       have hfz130_0 := blk_frozen BK234.out 0
       have hfz130_1 := blk_frozen BK234.out 1
       have hfz130_2 := blk_frozen BK234.out 2
       have hfz130_3 := blk_frozen BK234.out 3
       obtain ⟨Ao131, co131, eo131⟩ := Kd.R_slice HO_245001.out
       subst eo131
       obtain ⟨Ao132, co132, eo132⟩ := Kd.R_slice HO_245002.out
       subst eo132
       obtain ⟨Ao133, co133, eo133⟩ := Kd.S_slice HO_245003.out
       subst eo133
       go_wp2
       refine bodyPost_ret (results_cell_row rfl _ _ gb234 54 #[.slice Ao129 x245000_1.length co129, .slice Ao131 x245001_1.length co131, .slice Ao132 x245002_1.length co132, .slice Ao133 x245003_1.length co133] (0, 0) _ rfl (by (with_reducible repeat (first | refine blk_drewN ?_ _ | refine blk_drew ?_ | refine blk_alloc ?_ _)); refine blk_put (cs := #[.slice Ao129 x245000_1.length co129, .slice Ao131 x245001_1.length co131, .slice Ao132 x245002_1.length co132, .slice none 0 0]) ?_ 3 _ rfl; (with_reducible repeat (first | refine blk_drewN ?_ _ | refine blk_drew ?_ | refine blk_alloc ?_ _)); refine blk_put (cs := #[.slice Ao129 x245000_1.length co129, .slice Ao131 x245001_1.length co131, .slice none 0 0, .slice none 0 0]) ?_ 2 _ rfl; (with_reducible repeat (first | refine blk_drewN ?_ _ | refine blk_drew ?_ | refine blk_alloc ?_ _)); refine blk_put (cs := #[.slice Ao129 x245000_1.length co129, .slice none 0 0, .slice none 0 0, .slice none 0 0]) ?_ 1 _ rfl; (with_reducible repeat (first | refine blk_drewN ?_ _ | refine blk_drew ?_ | refine blk_alloc ?_ _)); refine blk_put (cs := #[.slice none 0 0, .slice none 0 0, .slice none 0 0, .slice none 0 0]) ?_ 0 _ rfl; (with_reducible repeat (first | refine blk_drewN ?_ _ | refine blk_drew ?_ | refine blk_alloc ?_ _)); exact BK234.out) Try.underlying54 rfl (by kernel_rfl)) rfl ?_
       exact ⟨_, _, _, _, by first | rfl | (simp [errW_none, errW_some] <;> rfl) | (simp [*, errW_none, errW_some] <;> rfl), by (with_reducible repeat (first | apply Kd.R_alloc | apply Kd.R_drewN | apply Kd.R_drew)); exact Kd.R_mono (Kd.R_far (p := ⟨gb234, 3, none⟩) (Kd.R_far (p := ⟨gb234, 2, none⟩) (Kd.R_far (p := ⟨gb234, 1, none⟩) (Kd.R_far (p := ⟨gb234, 0, none⟩) (Kd.R_types HO_245000.out BK234.out (by decide)) (fun _ hk => hk.2) (.slice Ao129 x245000_1.length co129)) (fun _ hk => hk.2) (.slice Ao131 x245001_1.length co131)) (fun _ hk => hk.2) (.slice Ao132 x245002_1.length co132)) (fun _ hk => hk.2) (.slice Ao133 x245003_1.length co133)) (fun _ hk => ⟨hk.1.2.2.2.1, hk.1.2.2.2.2⟩), by (with_reducible repeat (first | apply Kd.R_alloc | apply Kd.R_drewN | apply Kd.R_drew)); exact Kd.R_mono (Kd.R_far (p := ⟨gb234, 3, none⟩) (Kd.R_far (p := ⟨gb234, 2, none⟩) (Kd.R_far (p := ⟨gb234, 1, none⟩) (Kd.R_far (p := ⟨gb234, 0, none⟩) (Kd.R_types HO_245001.out BK234.out (by decide)) (fun _ hk => hk.2) (.slice Ao129 x245000_1.length co129)) (fun _ hk => hk.2) (.slice Ao131 x245001_1.length co131)) (fun _ hk => hk.2) (.slice Ao132 x245002_1.length co132)) (fun _ hk => hk.2) (.slice Ao133 x245003_1.length co133)) (fun _ hk => ⟨hk.1.2.2.2.1, hk.1.2.2.2.2⟩), by (with_reducible repeat (first | apply Kd.R_alloc | apply Kd.R_drewN | apply Kd.R_drew)); exact Kd.R_mono (Kd.R_far (p := ⟨gb234, 3, none⟩) (Kd.R_far (p := ⟨gb234, 2, none⟩) (Kd.R_far (p := ⟨gb234, 1, none⟩) (Kd.R_far (p := ⟨gb234, 0, none⟩) (Kd.R_types HO_245002.out BK234.out (by decide)) (fun _ hk => hk.2) (.slice Ao129 x245000_1.length co129)) (fun _ hk => hk.2) (.slice Ao131 x245001_1.length co131)) (fun _ hk => hk.2) (.slice Ao132 x245002_1.length co132)) (fun _ hk => hk.2) (.slice Ao133 x245003_1.length co133)) (fun _ hk => ⟨hk.1.2.2.2.1, hk.1.2.2.2.2⟩), by (with_reducible repeat (first | apply Kd.S_alloc | apply Kd.S_drewN | apply Kd.S_drew)); exact Kd.S_mono (Kd.S_far (p := ⟨gb234, 3, none⟩) (Kd.S_far (p := ⟨gb234, 2, none⟩) (Kd.S_far (p := ⟨gb234, 1, none⟩) (Kd.S_far (p := ⟨gb234, 0, none⟩) (Kd.S_types HO_245003.out BK234.out (by decide)) (fun _ hk => hk.2) (.slice Ao129 x245000_1.length co129)) (fun _ hk => hk.2) (.slice Ao131 x245001_1.length co131)) (fun _ hk => hk.2) (.slice Ao132 x245002_1.length co132)) (fun _ hk => hk.2) (.slice Ao133 x245003_1.length co133)) (fun _ hk => ⟨hk.1.2.2.2.1, ⟨hk.1.2.2.2.2.1, hk.1.2.2.2.2.2⟩⟩), by repeat (first | (with_reducible first | exact HB.out | apply below_alloc | apply pw_below_drewN | apply below_drew1 | refine below_set ?_ GE234.out | refine below_set ?_ GE244.out) | exact HB.out)⟩
   ·rw [if_neg c9] at H
    exact absurd H (by simp)
  ·rw [if_neg c5] at H
   exact absurd H (by simp)
 ·rw [if_neg c4] at H
  exact absurd H (by simp)

end Go.Proofs.Ythaaakijekkkaaa.PFnExactMeanTime
