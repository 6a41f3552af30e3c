import Derived.Test.YtmlkajaaokhdaaaZFnBoardingPFnBoardingx0
import Derived.Test.YtmlkajaaokhdaaaZFnBoardingPFnBoardingx3
namespace Go.Proofs.Ytmlkajaaokhdaaa.PFnBoarding
open Go.RowKit Go.Proofs.YtmlkajaaokhdaaaW.PrintWords Go.Proofs.YtmlkajaaokhdaaaW.PrintLast Go.Proofs.YtmlkajaaokhdaaaW.PrintMore
attribute [local go_sem] max2_int min2_int max_two min_two max_three min_three max_four min_four   -- for this text's walks alone
set_option linter.unusedVariables false
set_option linter.unusedSimpArgs false

/-! ### impl_board: function 27 -/
mutual
def impl_board.l0 : Nat → Int → Int → List Int → List Int → List Int → List Int → Int → Int → List Int → List Int → List Int → List (List Int) → Option (List Int × List Int × List Int × (List (List Int)))
 | 0, _, _, _, _, _, _, _, _, _, _, _, _ => none
 | k + 1, x0, x1, x2, x8, x9, x10, x11, x12, x238000, x238001, x238002, x238003 => if x11 > 0 then (impl_board.l1 k x0 x1 x2 x8 x9 x10 x11 x12 x2 (x2.length : Int) 0 x238000 x238001 x238002 x238003) else (some (x238000, x238001, x238002, x238003))
def impl_board.l1 : Nat → Int → Int → List Int → List Int → List Int → List Int → Int → Int → List Int → Int → Int → List Int → List Int → List Int → List (List Int) → Option (List Int × List Int × List Int × (List (List Int)))
 | 0, _, _, _, _, _, _, _, _, _, _, _, _, _, _, _ => none
 | k + 1, x0, x1, x2, x8, x9, x10, x11, x12, x43, x44, x45, x238000, x238001, x238002, x238003 => if x45 < x44 then (if 0 ≤ x45 then (if x45 < (x43.length : Int) then (if 0 ≤ (rd x43 x45) then (if (rd x43 x45) < (x8.length : Int) then (if (rd x8 (rd x43 x45)) = x0 then (impl_board.l1 k x0 x1 x2 x8 x9 x10 x11 x12 x43 x44 (wrap64 (x45 + 1)) x238000 x238001 x238002 x238003) else (if (rd x8 (rd x43 x45)) = (rd x43 x45) then (if (rd x43 x45) < (x9.length : Int) then ((some (x9.set ((rd x43 x45) : Int).toNat (wrap64 ((rd x9 (rd x43 x45)) + 1)) : List Int)).bind fun y268 => (if (rd y268 (rd x43 x45)) = x1 then (if 0 ≤ (rd x8 (rd x43 x45)) then (if (rd x8 (rd x43 x45)) < (x10.length : Int) then (if (rd x43 x45) < (x238000.length : Int) then (impl_board.l1 k x0 x1 x2 (x8.set ((rd x43 x45) : Int).toNat x0) y268 (x10.set ((rd x8 (rd x43 x45)) : Int).toNat (-1)) (wrap64 (x11 - 1)) x12 x43 x44 (wrap64 (x45 + 1)) (x238000.set ((rd x43 x45) : Int).toNat x12) x238001 x238002 x238003) else (none)) else (none)) else (none)) else (impl_board.l1 k x0 x1 x2 x8 y268 x10 x11 x12 x43 x44 (wrap64 (x45 + 1)) x238000 x238001 x238002 x238003))) else (none)) else (if 0 ≤ (wrap64 ((rd x8 (rd x43 x45)) + 1)) then (if (wrap64 ((rd x8 (rd x43 x45)) + 1)) < (x10.length : Int) then (if (rd x10 (wrap64 ((rd x8 (rd x43 x45)) + 1))) < 0 then (if (rd x8 (rd x43 x45)) < 0 then (if (rd x43 x45) < (x238001.length : Int) then (impl_board.l1 k x0 x1 x2 (x8.set ((rd x43 x45) : Int).toNat (wrap64 ((rd x8 (rd x43 x45)) + 1))) x9 (x10.set ((wrap64 ((rd x8 (rd x43 x45)) + 1)) : Int).toNat (rd x43 x45)) x11 x12 x43 x44 (wrap64 (x45 + 1)) x238000 (x238001.set ((rd x43 x45) : Int).toNat x12) x238002 x238003) else (none)) else (if 0 ≤ (rd x8 (rd x43 x45)) then (if (rd x8 (rd x43 x45)) < (x10.length : Int) then (impl_board.l1 k x0 x1 x2 (x8.set ((rd x43 x45) : Int).toNat (wrap64 ((rd x8 (rd x43 x45)) + 1))) x9 ((x10.set ((rd x8 (rd x43 x45)) : Int).toNat (-1)).set ((wrap64 ((rd x8 (rd x43 x45)) + 1)) : Int).toNat (rd x43 x45)) x11 x12 x43 x44 (wrap64 (x45 + 1)) x238000 x238001 x238002 x238003) else (none)) else (none))) else (if (rd x8 (rd x43 x45)) ≥ 0 then (if (rd x43 x45) < (x238002.length : Int) then (impl_board.l1 k x0 x1 x2 x8 x9 x10 x11 x12 x43 x44 (wrap64 (x45 + 1)) x238000 x238001 (x238002.set ((rd x43 x45) : Int).toNat (wrap64 ((rd x238002 (rd x43 x45)) + 1))) x238003) else (none)) else (impl_board.l1 k x0 x1 x2 x8 x9 x10 x11 x12 x43 x44 (wrap64 (x45 + 1)) x238000 x238001 x238002 x238003))) else (none)) else (none)))) else (none)) else (none)) else (none)) else (none)) else ((slices_Clone_int_int.f x10).bind fun t259 => (if x238003.length < 5864062014805 then (impl_board.l0 k x0 x1 x2 x8 x9 x10 x11 (wrap64 (x12 + 1)) x238000 x238001 x238002 (x238003 ++ [t259])) else (none)))
end
def impl_board.f (k : Nat) (a0 : Int) (a1 : Int) (l2 : List Int) : Option (List Int × List Int × List Int × (List (List Int))) := if 0 ≤ a0 then (if (a0 : Int).toNat ≤ 35184372088832 then ((slices_Repeat_int_int.f (([(-1)] : List Int)) a0).bind fun t241 => ((slices_Repeat_int_int.f (([(-1)] : List Int)) a0).bind fun t250 => ((slices_Clone_int_int.f t250).bind fun t253 => (if ([] : List (List Int)).length < 5864062014805 then (impl_board.l0 k a0 a1 l2 t241 (List.replicate (a0 : Int).toNat 0) t250 a0 1 (List.replicate (a0 : Int).toNat 0) (List.replicate (a0 : Int).toNat 0) (List.replicate (a0 : Int).toNat 0) (([] : List (List Int)) ++ [t253])) else (none))))) else (none)) else (none)
def impl_board.T1 : Bool × List (List Nat × List Nat) := (true, [([], []), ([0, 0], [0]), ([], []), ([2, 2], [2]), ([], []), ([4, 4], [4]), ([1, 3, 5], [1, 3, 5]), ([], []), ([7, 6, 0, 1, 2, 3, 4, 5, 6, 7], [6, 7])])
def impl_board.B1 : List Nat := [0, 1, 0, 4, 0, 16, 63, 0, 255]
theorem impl_board.tab1 : rtab .any (opsOf Try.f27 1) = impl_board.T1 := by kernel_rfl
theorem impl_board.bits1 : waitsOk impl_board.T1.2 impl_board.B1 = true := by kernel_rfl
def impl_board.T4 : Bool × List (List Nat × List Nat) := (true, [([], []), ([0], [0]), ([], []), ([2], [2]), ([3], [3]), ([1, 4, 3], [1, 4]), ([0, 1, 2, 3, 4, 5], []), ([6, 5, 5, 0, 1, 2, 3, 4, 5], [5, 6])])
def impl_board.B4 : List Nat := [0, 1, 0, 4, 12, 31, 63, 127]
theorem impl_board.tab4 : rtab .any (opsOf Try.f27 4) = impl_board.T4 := by kernel_rfl
theorem impl_board.bits4 : waitsOk impl_board.T4.2 impl_board.B4 = true := by kernel_rfl
def impl_board.T16 : Bool × List (List Nat × List Nat) := (true, [([], []), ([], []), ([], []), ([], []), ([], []), ([4], [4]), ([], []), ([], []), ([], []), ([0, 1, 0, 1], [0, 1]), ([9, 0, 1], [9]), ([2, 3, 0, 1, 2, 3, 7, 9, 10], [2, 3]), ([11, 7, 10, 0, 1, 2, 3, 7, 9, 10], [7, 11]), ([5, 6, 0, 1, 2, 3, 4, 5, 6, 7, 8, 9, 10, 11, 12], [5, 6]), ([13, 8, 12, 0, 1, 2, 3, 4, 5, 6, 7, 8, 9, 10, 11, 12], [8, 13])])
def impl_board.B16 : List Nat := [0, 0, 0, 0, 0, 16, 0, 0, 0, 3, 515, 1679, 3727, 8191, 16383]
theorem impl_board.tab16 : rtab .any (opsOf Try.f27 16) = impl_board.T16 := by kernel_rfl
theorem impl_board.bits16 : waitsOk impl_board.T16.2 impl_board.B16 = true := by kernel_rfl
def impl_board.T26 : Bool × List (List Nat × List Nat) := (true, [([], []), ([0], [0]), ([], []), ([2], [2]), ([3], [3]), ([1, 4, 3], [1, 4]), ([0, 1, 2, 3, 4, 5], []), ([6, 5, 5, 0, 1, 2, 3, 4, 5], [5, 6])])
def impl_board.B26 : List Nat := [0, 1, 0, 4, 12, 31, 63, 127]
theorem impl_board.tab26 : rtab .any (opsOf Try.f27 26) = impl_board.T26 := by kernel_rfl
theorem impl_board.bits26 : waitsOk impl_board.T26.2 impl_board.B26 = true := by kernel_rfl
set_option maxHeartbeats 8000000 in
set_option maxRecDepth 100000 in
theorem impl_board.calls (k : Nat) (a0 : Int) (a1 : Int) (A2 : Option Addr) (c2 : Nat) (l2 : List Int) (r1 : List Int) (r2 : List Int) (r3 : List Int) (r4 : List (List Int)) (w : World) (hr2 : Kd.C (Kd.int .i64) w A2 l2.length l2) (hc2 : l2.length ≤ c2) (h : impl_board.f k a0 a1 l2 = some (r1, r2, r3, r4)) :
  Calls Try.prog 27 #[.int .i64 a0, .int .i64 a1, .slice A2 l2.length c2] w fun e w' => ∃ v0_ v1_ v2_ v3_ : Value, e = .returned (.agg #[v0_, v1_, v2_, v3_]) ∧ Kd.R (Kd.int .i64) 3 w' w.heap.size (fun k_ => some k_ ≠ (v1_ : Value).ownBlock ∧ some k_ ≠ (v2_ : Value).ownBlock) v0_ r1 ∧ Kd.R (Kd.int .i64) 3 w' w.heap.size (fun k_ => some k_ ≠ (v0_ : Value).ownBlock ∧ some k_ ≠ (v2_ : Value).ownBlock) v1_ r2 ∧ Kd.R (Kd.int .i64) 3 w' w.heap.size (fun k_ => some k_ ≠ (v0_ : Value).ownBlock ∧ some k_ ≠ (v1_ : Value).ownBlock) v2_ r3 ∧ Kd.S (Kd.slice 3 (Kd.int .i64)) 24 w' w.heap.size (fun k_ => some k_ ≠ (v0_ : Value).ownBlock ∧ some k_ ≠ (v1_ : Value).ownBlock ∧ some k_ ≠ (v2_ : Value).ownBlock) v3_ r4 ∧ Below w.heap.size w w' := by
 have hu48 := Try.underlying48
 have HR2 := Aside0.mk hr2
 have HC2 := Aside0.mk hc2
 clear hr2 hc2
 have HB := Aside0.mk (Below.refl w.heap.size w)
 have H : (if 0 ≤ a0 then (if (a0 : Int).toNat ≤ 35184372088832 then ((slices_Repeat_int_int.f (([(-1)] : List Int)) a0).bind fun t241 => ((slices_Repeat_int_int.f (([(-1)] : List Int)) a0).bind fun t250 => ((slices_Clone_int_int.f t250).bind fun t253 => (if ([] : List (List Int)).length < 5864062014805 then (impl_board.l0 k a0 a1 l2 t241 (List.replicate (a0 : Int).toNat 0) t250 a0 1 (List.replicate (a0 : Int).toNat 0) (List.replicate (a0 : Int).toNat 0) (List.replicate (a0 : Int).toNat 0) (([] : List (List Int)) ++ [t253])) else (none))))) else (none)) else (none)) = some (r1, r2, r3, r4) := h
 clear h
 by_cases c4 : 0 ≤ a0
 ·rw [if_pos c4] at H
  have c4b0 := eq_true c4
  have c4b1 : decide (0 ≤ a0) = true := decide_eq_true c4
  clear c4
  by_cases c5 : (a0 : Int).toNat ≤ 35184372088832
  ·rw [if_pos c5] at H
   have c5b0 := eq_true c5
   have c5b1 : decide ((a0 : Int).toNat ≤ 35184372088832) = true := decide_eq_true c5
   clear c5
   obtain ⟨y228, hy228⟩ : ∃ y_ : List Int, y_ = (List.replicate (a0 : Int).toNat 0) := ⟨_, rfl⟩
   replace H : ((slices_Repeat_int_int.f (([(-1)] : List Int)) a0).bind fun t241 => ((slices_Repeat_int_int.f (([(-1)] : List Int)) a0).bind fun t250 => ((slices_Clone_int_int.f t250).bind fun t253 => (if ([] : List (List Int)).length < 5864062014805 then (impl_board.l0 k a0 a1 l2 t241 (List.replicate (a0 : Int).toNat 0) t250 a0 1 y228 (List.replicate (a0 : Int).toNat 0) (List.replicate (a0 : Int).toNat 0) (([] : List (List Int)) ++ [t253])) else (none))))) = some (r1, r2, r3, r4) := by first | (rw [hy228]; with_reducible exact H) | (have H2_ := (Option.bind_some _ _).symm.trans H; rw [hy228]; with_reducible exact H2_) | (have H2_ := (Option.bind_some _ _).symm.trans H; with_reducible exact H2_) | with_reducible exact H | (rw [hy228]; exact H) | exact H
   have Ny228 := Aside0.mk hy228
   clear hy228
   obtain ⟨y231, hy231⟩ : ∃ y_ : List Int, y_ = (List.replicate (a0 : Int).toNat 0) := ⟨_, rfl⟩
   replace H : ((slices_Repeat_int_int.f (([(-1)] : List Int)) a0).bind fun t241 => ((slices_Repeat_int_int.f (([(-1)] : List Int)) a0).bind fun t250 => ((slices_Clone_int_int.f t250).bind fun t253 => (if ([] : List (List Int)).length < 5864062014805 then (impl_board.l0 k a0 a1 l2 t241 (List.replicate (a0 : Int).toNat 0) t250 a0 1 y228 y231 (List.replicate (a0 : Int).toNat 0) (([] : List (List Int)) ++ [t253])) else (none))))) = some (r1, r2, r3, r4) := by first | (rw [hy231]; with_reducible exact H) | (have H2_ := (Option.bind_some _ _).symm.trans H; rw [hy231]; with_reducible exact H2_) | (have H2_ := (Option.bind_some _ _).symm.trans H; with_reducible exact H2_) | with_reducible exact H | (rw [hy231]; exact H) | exact H
   have Ny231 := Aside0.mk hy231
   clear hy231
   obtain ⟨y234, hy234⟩ : ∃ y_ : List Int, y_ = (List.replicate (a0 : Int).toNat 0) := ⟨_, rfl⟩
   replace H : ((slices_Repeat_int_int.f (([(-1)] : List Int)) a0).bind fun t241 => ((slices_Repeat_int_int.f (([(-1)] : List Int)) a0).bind fun t250 => ((slices_Clone_int_int.f t250).bind fun t253 => (if ([] : List (List Int)).length < 5864062014805 then (impl_board.l0 k a0 a1 l2 t241 (List.replicate (a0 : Int).toNat 0) t250 a0 1 y228 y231 y234 (([] : List (List Int)) ++ [t253])) else (none))))) = some (r1, r2, r3, r4) := by first | (rw [hy234]; with_reducible exact H) | (have H2_ := (Option.bind_some _ _).symm.trans H; rw [hy234]; with_reducible exact H2_) | (have H2_ := (Option.bind_some _ _).symm.trans H; with_reducible exact H2_) | with_reducible exact H | (rw [hy234]; exact H) | exact H
   have Ny234 := Aside0.mk hy234
   clear hy234
   obtain ⟨y238, hy238⟩ : ∃ y_ : List Int, y_ = (([(-1)] : List Int)) := ⟨_, rfl⟩
   replace H : ((slices_Repeat_int_int.f y238 a0).bind fun t241 => ((slices_Repeat_int_int.f (([(-1)] : List Int)) a0).bind fun t250 => ((slices_Clone_int_int.f t250).bind fun t253 => (if ([] : List (List Int)).length < 5864062014805 then (impl_board.l0 k a0 a1 l2 t241 (List.replicate (a0 : Int).toNat 0) t250 a0 1 y228 y231 y234 (([] : List (List Int)) ++ [t253])) else (none))))) = some (r1, r2, r3, r4) := by first | (rw [hy238]; with_reducible exact H) | (have H2_ := (Option.bind_some _ _).symm.trans H; rw [hy238]; with_reducible exact H2_) | (have H2_ := (Option.bind_some _ _).symm.trans H; with_reducible exact H2_) | with_reducible exact H | (rw [hy238]; exact H) | exact H
   have Ny238 := Aside0.mk hy238
   clear hy238
   replace H := Option.bind_eq_some_iff.mp H
   obtain ⟨t241, A60, H⟩ := H
   replace H : ((slices_Repeat_int_int.f (([(-1)] : List Int)) a0).bind fun t250 => ((slices_Clone_int_int.f t250).bind fun t253 => (if ([] : List (List Int)).length < 5864062014805 then (impl_board.l0 k a0 a1 l2 t241 (List.replicate (a0 : Int).toNat 0) t250 a0 1 y228 y231 y234 (([] : List (List Int)) ++ [t253])) else (none)))) = some (r1, r2, r3, r4) := H
   have A6 := Aside0.mk A60
   clear A60
   obtain ⟨y244, hy244⟩ : ∃ y_ : List Int, y_ = (List.replicate (a0 : Int).toNat 0) := ⟨_, rfl⟩
   replace H : ((slices_Repeat_int_int.f (([(-1)] : List Int)) a0).bind fun t250 => ((slices_Clone_int_int.f t250).bind fun t253 => (if ([] : List (List Int)).length < 5864062014805 then (impl_board.l0 k a0 a1 l2 t241 y244 t250 a0 1 y228 y231 y234 (([] : List (List Int)) ++ [t253])) else (none)))) = some (r1, r2, r3, r4) := by first | (rw [hy244]; with_reducible exact H) | (have H2_ := (Option.bind_some _ _).symm.trans H; rw [hy244]; with_reducible exact H2_) | (have H2_ := (Option.bind_some _ _).symm.trans H; with_reducible exact H2_) | with_reducible exact H | (rw [hy244]; exact H) | exact H
   have Ny244 := Aside0.mk hy244
   clear hy244
   obtain ⟨y247, hy247⟩ : ∃ y_ : List Int, y_ = (([(-1)] : List Int)) := ⟨_, rfl⟩
   replace H : ((slices_Repeat_int_int.f y247 a0).bind fun t250 => ((slices_Clone_int_int.f t250).bind fun t253 => (if ([] : List (List Int)).length < 5864062014805 then (impl_board.l0 k a0 a1 l2 t241 y244 t250 a0 1 y228 y231 y234 (([] : List (List Int)) ++ [t253])) else (none)))) = some (r1, r2, r3, r4) := by first | (rw [hy247]; with_reducible exact H) | (have H2_ := (Option.bind_some _ _).symm.trans H; rw [hy247]; with_reducible exact H2_) | (have H2_ := (Option.bind_some _ _).symm.trans H; with_reducible exact H2_) | with_reducible exact H | (rw [hy247]; exact H) | exact H
   have Ny247 := Aside0.mk hy247
   clear hy247
   replace H := Option.bind_eq_some_iff.mp H
   obtain ⟨t250, A70, H⟩ := H
   replace H : ((slices_Clone_int_int.f t250).bind fun t253 => (if ([] : List (List Int)).length < 5864062014805 then (impl_board.l0 k a0 a1 l2 t241 y244 t250 a0 1 y228 y231 y234 (([] : List (List Int)) ++ [t253])) else (none))) = some (r1, r2, r3, r4) := H
   have A7 := Aside0.mk A70
   clear A70
   replace H := Option.bind_eq_some_iff.mp H
   obtain ⟨t253, A80, H⟩ := H
   replace H : (if ([] : List (List Int)).length < 5864062014805 then (impl_board.l0 k a0 a1 l2 t241 y244 t250 a0 1 y228 y231 y234 (([] : List (List Int)) ++ [t253])) else (none)) = some (r1, r2, r3, r4) := H
   have A8 := Aside0.mk A80
   clear A80
   by_cases c9 : ([] : List (List Int)).length < 5864062014805
   ·rw [if_pos c9] at H
    have LMc9 := Aside0.mk c9
    clear c9
    obtain ⟨y256, hy256⟩ : ∃ y_ : List (List Int), y_ = (([] : List (List Int)) ++ [t253]) := ⟨_, rfl⟩
    replace H : (impl_board.l0 k a0 a1 l2 t241 y244 t250 a0 1 y228 y231 y234 y256) = some (r1, r2, r3, r4) := by first | (rw [hy256]; with_reducible exact H) | (have H2_ := (Option.bind_some _ _).symm.trans H; rw [hy256]; with_reducible exact H2_) | (have H2_ := (Option.bind_some _ _).symm.trans H; with_reducible exact H2_) | with_reducible exact H | (rw [hy256]; exact H) | exact H
    have Ny256 := Aside0.mk hy256
    clear hy256
    have H' := Aside0.mk H
    clear H
    go_enter Try.func27, Try.ntmps27
    try go_wp2_with (first | ((with_reducible refine gate_dst (N := 6) rfl ?_); refine box_event ?hg (N := 6) ?hd (cs := #[.slice none 0 0, .slice none 0 0, .slice none 0 0, .slice none 0 0]) (t := 48) ?hr ?_; (case hd => rfl); (case hg => rfl); (case hr => first | (go_simp; done) | (go_simp; rfl)); intro gb227 hg w10 hbox hb; have n0_ := Aside0.mk (below_step (by repeat (first | (with_reducible first | exact HB.out | apply below_alloc | apply pw_below_drewN | apply below_drew1) | exact HB.out)) hb); have n1_ := Aside0.mk (hbox); have n2_ := Aside0.mk ((by rw [hg]; exact (below_size (by repeat (first | (with_reducible first | exact HB.out | apply below_alloc | apply pw_below_drewN | apply below_drew1) | exact HB.out))) : w.heap.size ≤ gb227)); have n3_ := Aside0.mk ((by rw [hg]; exact (below_size (by repeat (first | (with_reducible first | exact HB.out | apply below_alloc | apply pw_below_drewN | apply below_drew1) | exact HB.out))) : w.heap.size ≤ gb227)); clear HB; have HB := n0_; have BK227 := n1_; have GW227 := n2_; have GE227 := n3_; clear n0_ n1_ n2_ n3_ hb hbox hg))
    have n0_ := Aside0.mk (blk_drew BK227.out)
    have n1_ := Aside0.mk (below_drew1 HB.out)
    clear BK227 HB
    have BK227 := n0_
    have HB := n1_
    clear n0_ n1_
    refine start_ (n := 9) (S := fun w' => True) (ds := []) #[false, false, false, false, false, false, false, false, false] (by kernel_rfl) rfl rfl trivial (fun hHeld => ?_); refine with_tabW impl_board.tab1 impl_board.bits1 (fun HT_ HW_ => ?_)
    generalize w10.drew = w11 at BK227 HB hHeld ⊢
    refine pi_ (i := 0) (N := some 16) (v := ?_) (a' := ?_) (bm 9 1) rfl rfl HT_ (by kernel_rfl) (fun _ _ _ h => h) (Or.inl ⟨by rfl, ?_⟩) ?_ ?_
    rotate_left
    ·intro w'
     go_simp
     with_reducible rfl
    rotate_left
    ·simp only [Act.put, pp_]
     rfl
    refine pi_ (i := 2) (N := some 18) (v := ?_) (a' := ?_) (bm 9 5) rfl rfl HT_ (by kernel_rfl) (fun _ _ _ h => h) (Or.inl ⟨by rfl, ?_⟩) ?_ ?_
    rotate_left
    ·intro w'
     go_simp
     with_reducible rfl
    rotate_left
    ·simp only [Act.put, pp_]
     rfl
    refine pi_ (i := 4) (N := some 20) (v := ?_) (a' := ?_) (bm 9 21) rfl rfl HT_ (by kernel_rfl) (fun _ _ _ h => h) (Or.inl ⟨by rfl, ?_⟩) ?_ ?_
    rotate_left
    ·intro w'
     go_simp
     with_reducible rfl
    rotate_left
    ·simp only [Act.put, pp_]
     rfl
    refine inv_at [1, 3, 5, 6, 7, 8] (fun a0_ b a w' => ∃ (v229 : Value) (v232 : Value) (v235 : Value) (gb237 : Nat) (m6_ : Value) (m7_ : Value), a = putSel a0_ b [(1, 17, v229), (3, 19, v232), (5, 21, v235), (6, 22, m6_), (7, 7, m7_)] ∧ (w'.heap[gb227]? = some (.cells #[.slice none 0 0, .slice none 0 0, .slice none 0 0, .slice none 0 0] 48 (0, 0))) ∧ (Below w.heap.size w w') ∧ (b 1 = true → Kd.R (Kd.int .i64) 3 w' w.heap.size (fun _ => True) v229 y228) ∧ (b 3 = true → Kd.R (Kd.int .i64) 3 w' w.heap.size (fun _ => True) v232 y231) ∧ (b 5 = true → Kd.R (Kd.int .i64) 3 w' w.heap.size (fun _ => True) v235 y234) ∧ (b 7 = true → b 8 = false → w'.heap[gb237]? = some (.cells #[.slice none 0 0, .slice none 0 0, .slice none 0 0, .slice none 0 0] 48 (0, 0))) ∧ (b 7 = true → w.heap.size ≤ gb237) ∧ (b 7 = true → w.heap.size ≤ gb237) ∧ (b 7 = true → gb227 ≠ gb237) ∧ (b 7 = true → gb237 ≠ gb227) ∧ (b 8 = true → w'.heap[gb237]? = some (.cells #[v229, v232, v235, .slice none 0 0] 48 (0, 0))) ∧ (b 1 = true → b 3 = true → NeRow v229 v232) ∧ (b 1 = true → b 5 = true → NeRow v229 v235) ∧ (b 3 = true → b 5 = true → NeRow v232 v235) ∧ (b 6 = true → (m6_ : Value) = .agg #[v229, v232, v235, .slice none 0 0]) ∧ (b 7 = true → (m7_ : Value) = .pointer (some ⟨gb237, 0, none⟩))) HT_.out HW_.out (by kernel_rfl) (by kernel_rfl) ?_ ?_ ?_
    ·exact ⟨.bool false, .bool false, .bool false, 0, .bool false, .bool false, by simp only [putSel, Bool.false_eq_true, if_false], BK227.out, HB.out, fun h_ => absurd h_ (by decide), fun h_ => absurd h_ (by decide), fun h_ => absurd h_ (by decide), fun h_ => absurd h_ (by decide), fun h_ => absurd h_ (by decide), fun h_ => absurd h_ (by decide), fun h_ => absurd h_ (by decide), fun h_ => absurd h_ (by decide), fun h_ => absurd h_ (by decide), fun h_ => absurd h_ (by decide), fun h_ => absurd h_ (by decide), fun h_ => absurd h_ (by decide), fun h_ => absurd h_ (by decide), fun h_ => absurd h_ (by decide)⟩
    ·skip
     clear BK227 HB
     refine steps_cons ?_ ?_
     ·rintro b a w' ⟨v229, v232, v235, gb237, m6_, m7_, ha, Q_BK227, Q_HB, Q_HO230, Q_HO233, Q_HO236, Q_BK237, Q_GW237, Q_GE237, Q_NB227_237, Q_NB237_227, Q_BK237_e8, Q_NE_v229_v232, Q_NE_v229_v235, Q_NE_v232_v235, Q_X6_, Q_X7_⟩ hb_ hon hoff
      refine ⟨_, rfl, fun K hK => ?_⟩
      have e16 : a.tmps[16]? = some (.int .i64 a0) := by rw [ha]; exact (putSel_off rfl).trans rfl
      replace ha := Aside0.mk ha
      have BK227 := Aside0.mk Q_BK227
      have HB := Aside0.mk Q_HB
      refine Kd.R_make_step (Kd.int .i64) _ 3 (by rfl) (N := 17) rfl 24 _ _ rfl a0 (eval_of e16) (eval_of e16) Try.underlying24 (.int .i64 0) 8 info3 rfl (by decide) (by omega) 0 (ok := fun _ => True) (okp := fun _ => True) rfl (fun _ hk => hk) trivial (of_decide_eq_true (by first | (with_reducible assumption) | assumption)) (Nat.le_trans (Nat.mul_le_mul_right _ (of_decide_eq_true (by first | (with_reducible assumption) | assumption) : a0.toNat ≤ 35184372088832)) (by omega)) (Below.refl _ _) (Nat.le_refl _) ?_
      intro v229 w12 ho13 hb hg_ hnew_
      clear hg_ hnew_
      (first | rw [← Ny228.out] at ho13 | (simp only [Int.reduceToNat] at ho13; rw [← Ny228.out] at ho13))
      have n0_ := Aside0.mk (Kd.R_lower ho13 (below_size HB.out))
      have n1_ := Aside0.mk (blk_below (g := gb227) (o := .cells #[.slice none 0 0, .slice none 0 0, .slice none 0 0, .slice none 0 0] 48 (0, 0)) BK227.out hb)
      have n2_ := Aside0.mk (below_step HB.out hb)
      have z_HO233 := fun (h0_ : b 3 = true) => (show Kd.R (Kd.int .i64) 3 w12 w.heap.size (fun _ => True) v232 y231 from by first | exact (Kd.R_elder' (by (with_reducible repeat (first | apply Kd.R_alloc | apply Kd.R_drewN | apply Kd.R_drew)); exact (Q_HO233 h0_)) (Kd.R_base ho13) hb) | exact Kd.R_mono (Kd.R_elder' (by (with_reducible repeat (first | apply Kd.R_alloc | apply Kd.R_drewN | apply Kd.R_drew)); exact (Q_HO233 h0_)) (Kd.R_base ho13) hb) (fun _ h_ => by first | trivial | exact h_ | exact h_.1))
      have z_HO236 := fun (h0_ : b 5 = true) => (show Kd.R (Kd.int .i64) 3 w12 w.heap.size (fun _ => True) v235 y234 from by first | exact (Kd.R_elder' (by (with_reducible repeat (first | apply Kd.R_alloc | apply Kd.R_drewN | apply Kd.R_drew)); exact (Q_HO236 h0_)) (Kd.R_base ho13) hb) | exact Kd.R_mono (Kd.R_elder' (by (with_reducible repeat (first | apply Kd.R_alloc | apply Kd.R_drewN | apply Kd.R_drew)); exact (Q_HO236 h0_)) (Kd.R_base ho13) hb) (fun _ h_ => by first | trivial | exact h_ | exact h_.1))
      have z_BK237 := fun (h0_ : b 7 = true) (h1_ : b 8 = false) => (show w12.heap[gb237]? = some (.cells #[.slice none 0 0, .slice none 0 0, .slice none 0 0, .slice none 0 0] 48 (0, 0)) from by first | exact (blk_below (g := gb237) (o := .cells #[.slice none 0 0, .slice none 0 0, .slice none 0 0, .slice none 0 0] 48 (0, 0)) (by first | (with_reducible exact (Q_BK237 h0_ h1_)) | ((with_reducible repeat (first | refine blk_drewN ?_ _ | refine blk_drew ?_ | refine blk_alloc ?_ _)); exact (Q_BK237 h0_ h1_))) hb))
      clear BK227 HB
      have HO230 := n0_
      have BK227 := n1_
      have HB := n2_
      clear n0_ n1_ n2_
      have z_NE_v229_v232 : b 3 = true → NeRow v229 v232 := fun h0_ k_ e_ e2_ => Kd.fresh' (Kd.R_lt (Q_HO233 h0_)) k_ (Kd.R_base ho13 k_ e_) e2_.symm
      have z_NE_v229_v235 : b 5 = true → NeRow v229 v235 := fun h0_ k_ e_ e2_ => Kd.fresh' (Kd.R_lt (Q_HO236 h0_)) k_ (Kd.R_base ho13 k_ e_) e2_.symm
      clear hb ho13
      refine hK.out _ _ ⟨v229, v232, v235, gb237, m6_, m7_, (by rw [ha.out]; exact putSel_upk 0 hb_ rfl rfl rfl), BK227.out, HB.out, fun _ => HO230.out, z_HO233, z_HO236, z_BK237, Q_GW237, Q_GE237, Q_NB227_237, Q_NB237_227, fun h0_ => absurd ((hoff 8 (by kernel_rfl)).symm.trans h0_) (by decide), fun _ h1_ => z_NE_v229_v232 h1_, fun _ h1_ => z_NE_v229_v235 h1_, Q_NE_v232_v235, fun h0_ => absurd ((hoff 6 (by kernel_rfl)).symm.trans h0_) (by decide), Q_X7_⟩
     refine steps_cons ?_ ?_
     ·rintro b a w' ⟨v229, v232, v235, gb237, m6_, m7_, ha, Q_BK227, Q_HB, Q_HO230, Q_HO233, Q_HO236, Q_BK237, Q_GW237, Q_GE237, Q_NB227_237, Q_NB237_227, Q_BK237_e8, Q_NE_v229_v232, Q_NE_v229_v235, Q_NE_v232_v235, Q_X6_, Q_X7_⟩ hb_ hon hoff
      refine ⟨_, rfl, fun K hK => ?_⟩
      have e18 : a.tmps[18]? = some (.int .i64 a0) := by rw [ha]; exact (putSel_off rfl).trans rfl
      replace ha := Aside0.mk ha
      have BK227 := Aside0.mk Q_BK227
      have HB := Aside0.mk Q_HB
      refine Kd.R_make_step (Kd.int .i64) _ 3 (by rfl) (N := 19) rfl 24 _ _ rfl a0 (eval_of e18) (eval_of e18) Try.underlying24 (.int .i64 0) 8 info3 rfl (by decide) (by omega) 0 (ok := fun _ => True) (okp := fun _ => True) rfl (fun _ hk => hk) trivial (of_decide_eq_true (by first | (with_reducible assumption) | assumption)) (Nat.le_trans (Nat.mul_le_mul_right _ (of_decide_eq_true (by first | (with_reducible assumption) | assumption) : a0.toNat ≤ 35184372088832)) (by omega)) (Below.refl _ _) (Nat.le_refl _) ?_
      intro v232 w12 ho13 hb hg_ hnew_
      clear hg_ hnew_
      (first | rw [← Ny231.out] at ho13 | (simp only [Int.reduceToNat] at ho13; rw [← Ny231.out] at ho13))
      have n0_ := Aside0.mk (Kd.R_lower ho13 (below_size HB.out))
      have n1_ := Aside0.mk (blk_below (g := gb227) (o := .cells #[.slice none 0 0, .slice none 0 0, .slice none 0 0, .slice none 0 0] 48 (0, 0)) BK227.out hb)
      have n2_ := Aside0.mk (below_step HB.out hb)
      have z_HO230 := fun (h0_ : b 1 = true) => (show Kd.R (Kd.int .i64) 3 w12 w.heap.size (fun _ => True) v229 y228 from by first | exact (Kd.R_elder' (by (with_reducible repeat (first | apply Kd.R_alloc | apply Kd.R_drewN | apply Kd.R_drew)); exact (Q_HO230 h0_)) (Kd.R_base ho13) hb) | exact Kd.R_mono (Kd.R_elder' (by (with_reducible repeat (first | apply Kd.R_alloc | apply Kd.R_drewN | apply Kd.R_drew)); exact (Q_HO230 h0_)) (Kd.R_base ho13) hb) (fun _ h_ => by first | trivial | exact h_ | exact h_.1))
      have z_HO236 := fun (h0_ : b 5 = true) => (show Kd.R (Kd.int .i64) 3 w12 w.heap.size (fun _ => True) v235 y234 from by first | exact (Kd.R_elder' (by (with_reducible repeat (first | apply Kd.R_alloc | apply Kd.R_drewN | apply Kd.R_drew)); exact (Q_HO236 h0_)) (Kd.R_base ho13) hb) | exact Kd.R_mono (Kd.R_elder' (by (with_reducible repeat (first | apply Kd.R_alloc | apply Kd.R_drewN | apply Kd.R_drew)); exact (Q_HO236 h0_)) (Kd.R_base ho13) hb) (fun _ h_ => by first | trivial | exact h_ | exact h_.1))
      have z_BK237 := fun (h0_ : b 7 = true) (h1_ : b 8 = false) => (show w12.heap[gb237]? = some (.cells #[.slice none 0 0, .slice none 0 0, .slice none 0 0, .slice none 0 0] 48 (0, 0)) from by first | exact (blk_below (g := gb237) (o := .cells #[.slice none 0 0, .slice none 0 0, .slice none 0 0, .slice none 0 0] 48 (0, 0)) (by first | (with_reducible exact (Q_BK237 h0_ h1_)) | ((with_reducible repeat (first | refine blk_drewN ?_ _ | refine blk_drew ?_ | refine blk_alloc ?_ _)); exact (Q_BK237 h0_ h1_))) hb))
      clear BK227 HB
      have HO233 := n0_
      have BK227 := n1_
      have HB := n2_
      clear n0_ n1_ n2_
      have z_NE_v229_v232 : b 1 = true → NeRow v229 v232 := fun h0_ k_ e2_ e_ => Kd.fresh' (Kd.R_lt (Q_HO230 h0_)) k_ (Kd.R_base ho13 k_ e_) e2_.symm
      have z_NE_v232_v235 : b 5 = true → NeRow v232 v235 := fun h0_ k_ e_ e2_ => Kd.fresh' (Kd.R_lt (Q_HO236 h0_)) k_ (Kd.R_base ho13 k_ e_) e2_.symm
      clear hb ho13
      refine hK.out _ _ ⟨v229, v232, v235, gb237, m6_, m7_, (by rw [ha.out]; exact putSel_upk 1 hb_ rfl rfl rfl), BK227.out, HB.out, z_HO230, fun _ => HO233.out, z_HO236, z_BK237, Q_GW237, Q_GE237, Q_NB227_237, Q_NB237_227, fun h0_ => absurd ((hoff 8 (by kernel_rfl)).symm.trans h0_) (by decide), fun h0_ _ => z_NE_v229_v232 h0_, Q_NE_v229_v235, fun _ h1_ => z_NE_v232_v235 h1_, fun h0_ => absurd ((hoff 6 (by kernel_rfl)).symm.trans h0_) (by decide), Q_X7_⟩
     refine steps_cons ?_ ?_
     ·rintro b a w' ⟨v229, v232, v235, gb237, m6_, m7_, ha, Q_BK227, Q_HB, Q_HO230, Q_HO233, Q_HO236, Q_BK237, Q_GW237, Q_GE237, Q_NB227_237, Q_NB237_227, Q_BK237_e8, Q_NE_v229_v232, Q_NE_v229_v235, Q_NE_v232_v235, Q_X6_, Q_X7_⟩ hb_ hon hoff
      refine ⟨_, rfl, fun K hK => ?_⟩
      have e20 : a.tmps[20]? = some (.int .i64 a0) := by rw [ha]; exact (putSel_off rfl).trans rfl
      replace ha := Aside0.mk ha
      have BK227 := Aside0.mk Q_BK227
      have HB := Aside0.mk Q_HB
      refine Kd.R_make_step (Kd.int .i64) _ 3 (by rfl) (N := 21) rfl 24 _ _ rfl a0 (eval_of e20) (eval_of e20) Try.underlying24 (.int .i64 0) 8 info3 rfl (by decide) (by omega) 0 (ok := fun _ => True) (okp := fun _ => True) rfl (fun _ hk => hk) trivial (of_decide_eq_true (by first | (with_reducible assumption) | assumption)) (Nat.le_trans (Nat.mul_le_mul_right _ (of_decide_eq_true (by first | (with_reducible assumption) | assumption) : a0.toNat ≤ 35184372088832)) (by omega)) (Below.refl _ _) (Nat.le_refl _) ?_
      intro v235 w12 ho13 hb hg_ hnew_
      clear hg_ hnew_
      (first | rw [← Ny234.out] at ho13 | (simp only [Int.reduceToNat] at ho13; rw [← Ny234.out] at ho13))
      have n0_ := Aside0.mk (Kd.R_lower ho13 (below_size HB.out))
      have n1_ := Aside0.mk (blk_below (g := gb227) (o := .cells #[.slice none 0 0, .slice none 0 0, .slice none 0 0, .slice none 0 0] 48 (0, 0)) BK227.out hb)
      have n2_ := Aside0.mk (below_step HB.out hb)
      have z_HO230 := fun (h0_ : b 1 = true) => (show Kd.R (Kd.int .i64) 3 w12 w.heap.size (fun _ => True) v229 y228 from by first | exact (Kd.R_elder' (by (with_reducible repeat (first | apply Kd.R_alloc | apply Kd.R_drewN | apply Kd.R_drew)); exact (Q_HO230 h0_)) (Kd.R_base ho13) hb) | exact Kd.R_mono (Kd.R_elder' (by (with_reducible repeat (first | apply Kd.R_alloc | apply Kd.R_drewN | apply Kd.R_drew)); exact (Q_HO230 h0_)) (Kd.R_base ho13) hb) (fun _ h_ => by first | trivial | exact h_ | exact h_.1))
      have z_HO233 := fun (h0_ : b 3 = true) => (show Kd.R (Kd.int .i64) 3 w12 w.heap.size (fun _ => True) v232 y231 from by first | exact (Kd.R_elder' (by (with_reducible repeat (first | apply Kd.R_alloc | apply Kd.R_drewN | apply Kd.R_drew)); exact (Q_HO233 h0_)) (Kd.R_base ho13) hb) | exact Kd.R_mono (Kd.R_elder' (by (with_reducible repeat (first | apply Kd.R_alloc | apply Kd.R_drewN | apply Kd.R_drew)); exact (Q_HO233 h0_)) (Kd.R_base ho13) hb) (fun _ h_ => by first | trivial | exact h_ | exact h_.1))
      have z_BK237 := fun (h0_ : b 7 = true) (h1_ : b 8 = false) => (show w12.heap[gb237]? = some (.cells #[.slice none 0 0, .slice none 0 0, .slice none 0 0, .slice none 0 0] 48 (0, 0)) from by first | exact (blk_below (g := gb237) (o := .cells #[.slice none 0 0, .slice none 0 0, .slice none 0 0, .slice none 0 0] 48 (0, 0)) (by first | (with_reducible exact (Q_BK237 h0_ h1_)) | ((with_reducible repeat (first | refine blk_drewN ?_ _ | refine blk_drew ?_ | refine blk_alloc ?_ _)); exact (Q_BK237 h0_ h1_))) hb))
      clear BK227 HB
      have HO236 := n0_
      have BK227 := n1_
      have HB := n2_
      clear n0_ n1_ n2_
      have z_NE_v229_v235 : b 1 = true → NeRow v229 v235 := fun h0_ k_ e2_ e_ => Kd.fresh' (Kd.R_lt (Q_HO230 h0_)) k_ (Kd.R_base ho13 k_ e_) e2_.symm
      have z_NE_v232_v235 : b 3 = true → NeRow v232 v235 := fun h0_ k_ e2_ e_ => Kd.fresh' (Kd.R_lt (Q_HO233 h0_)) k_ (Kd.R_base ho13 k_ e_) e2_.symm
      clear hb ho13
      refine hK.out _ _ ⟨v229, v232, v235, gb237, m6_, m7_, (by rw [ha.out]; exact putSel_upk 2 hb_ rfl rfl rfl), BK227.out, HB.out, z_HO230, z_HO233, fun _ => HO236.out, z_BK237, Q_GW237, Q_GE237, Q_NB227_237, Q_NB237_227, fun h0_ => absurd ((hoff 8 (by kernel_rfl)).symm.trans h0_) (by decide), Q_NE_v229_v232, fun h0_ _ => z_NE_v229_v235 h0_, fun h0_ _ => z_NE_v232_v235 h0_, fun h0_ => absurd ((hoff 6 (by kernel_rfl)).symm.trans h0_) (by decide), Q_X7_⟩
     refine steps_cons ?_ ?_
     ·rintro b a w' ⟨v229, v232, v235, gb237, m6_, m7_, ha, Q_BK227, Q_HB, Q_HO230, Q_HO233, Q_HO236, Q_BK237, Q_GW237, Q_GE237, Q_NB227_237, Q_NB237_227, Q_BK237_e8, Q_NE_v229_v232, Q_NE_v229_v235, Q_NE_v232_v235, Q_X6_, Q_X7_⟩ hb_ hon hoff
      refine ⟨_, rfl, fun K hK => ?_⟩
      have e17 : a.tmps[17]? = some (v229) := by rw [ha]; exact putSel_on (e := (1, 17, v229)) 0 rfl rfl (hon 1 (by kernel_rfl)) rfl
      have e19 : a.tmps[19]? = some (v232) := by rw [ha]; exact putSel_on (e := (3, 19, v232)) 1 rfl rfl (hon 3 (by kernel_rfl)) rfl
      have e21 : a.tmps[21]? = some (v235) := by rw [ha]; exact putSel_on (e := (5, 21, v235)) 2 rfl rfl (hon 5 (by kernel_rfl)) rfl
      replace ha := Aside0.mk ha
      have BK227 := Aside0.mk Q_BK227
      have HB := Aside0.mk Q_HB
      have HO230 := Aside0.mk (Q_HO230 (hon 1 (by kernel_rfl)))
      have HO233 := Aside0.mk (Q_HO233 (hon 3 (by kernel_rfl)))
      have HO236 := Aside0.mk (Q_HO236 (hon 5 (by kernel_rfl)))
      have NE_v229_v232 := Aside0.mk (Q_NE_v229_v232 (hon 1 (by kernel_rfl)) (hon 3 (by kernel_rfl)))
      have NE_v229_v235 := Aside0.mk (Q_NE_v229_v235 (hon 1 (by kernel_rfl)) (hon 5 (by kernel_rfl)))
      have NE_v232_v235 := Aside0.mk (Q_NE_v232_v235 (hon 3 (by kernel_rfl)) (hon 5 (by kernel_rfl)))
      obtain ⟨Ao6_0, co6_0, eo_⟩ := Kd.R_slice HO230.out
      subst eo_
      obtain ⟨Ao6_1, co6_1, eo_⟩ := Kd.R_slice HO233.out
      subst eo_
      obtain ⟨Ao6_2, co6_2, eo_⟩ := Kd.R_slice HO236.out
      subst eo_
      refine value_ (w1 := w') (v := .agg #[.slice Ao6_0 y228.length co6_0, .slice Ao6_1 y231.length co6_1, .slice Ao6_2 y234.length co6_2, .slice none 0 0]) (by rfl) rfl ?_ ?_
      ·go_simp
       (try simp only [i64_w])
       try rfl
      refine hK.out _ _ ⟨.slice Ao6_0 y228.length co6_0, .slice Ao6_1 y231.length co6_1, .slice Ao6_2 y234.length co6_2, gb237, (.agg #[.slice Ao6_0 y228.length co6_0, .slice Ao6_1 y231.length co6_1, .slice Ao6_2 y234.length co6_2, .slice none 0 0]), m7_, (by rw [ha.out]; exact putSel_upk 3 hb_ rfl rfl rfl), Q_BK227, Q_HB, Q_HO230, Q_HO233, Q_HO236, Q_BK237, Q_GW237, Q_GE237, Q_NB227_237, Q_NB237_227, fun h0_ => absurd ((hoff 8 (by kernel_rfl)).symm.trans h0_) (by decide), Q_NE_v229_v232, Q_NE_v229_v235, Q_NE_v232_v235, fun _ => rfl, Q_X7_⟩
     refine steps_cons ?_ ?_
     ·rintro b a w' ⟨v229, v232, v235, gb237, m6_, m7_, ha, Q_BK227, Q_HB, Q_HO230, Q_HO233, Q_HO236, Q_BK237, Q_GW237, Q_GE237, Q_NB227_237, Q_NB237_227, Q_BK237_e8, Q_NE_v229_v232, Q_NE_v229_v235, Q_NE_v232_v235, Q_X6_, Q_X7_⟩ hb_ hon hoff
      refine ⟨_, rfl, fun K hK => ?_⟩
      replace ha := Aside0.mk ha
      have BK227 := Aside0.mk Q_BK227
      have HB := Aside0.mk Q_HB
      refine box_step ?hg (N := 7) ?hd (cs := #[.slice none 0 0, .slice none 0 0, .slice none 0 0, .slice none 0 0]) (t := 48) ?hr ?_; (case hd => rfl); (case hg => rfl); (case hr => first | (go_simp; done) | (go_simp; rfl))
      intro gb237 hg w12 hbox hb
      have n0_ := Aside0.mk (blk_below (g := gb227) (o := .cells #[.slice none 0 0, .slice none 0 0, .slice none 0 0, .slice none 0 0] 48 (0, 0)) BK227.out hb)
      have n1_ := Aside0.mk (below_step HB.out hb)
      have n2_ := Aside0.mk (hbox)
      have n3_ := Aside0.mk ((by rw [hg]; exact (below_size HB.out) : w.heap.size ≤ gb237))
      have n4_ := Aside0.mk ((by rw [hg]; exact (below_size HB.out) : w.heap.size ≤ gb237))
      have n5_ := Aside0.mk ((by rw [hg]; exact Nat.ne_of_lt (blk_lt (g := gb227) (o := .cells #[.slice none 0 0, .slice none 0 0, .slice none 0 0, .slice none 0 0] 48 (0, 0)) BK227.out) : gb227 ≠ gb237))
      have n6_ := Aside0.mk ((by rw [hg]; exact Nat.ne_of_gt (blk_lt (g := gb227) (o := .cells #[.slice none 0 0, .slice none 0 0, .slice none 0 0, .slice none 0 0] 48 (0, 0)) BK227.out) : gb237 ≠ gb227))
      have z_HO230 := fun (h0_ : b 1 = true) => (show Kd.R (Kd.int .i64) 3 w12 w.heap.size (fun _ => True) v229 y228 from by first | exact (Kd.R_below (by (with_reducible repeat (first | apply Kd.R_alloc | apply Kd.R_drewN | apply Kd.R_drew)); exact (Q_HO230 h0_)) hb) | exact Kd.R_mono (Kd.R_below (by (with_reducible repeat (first | apply Kd.R_alloc | apply Kd.R_drewN | apply Kd.R_drew)); exact (Q_HO230 h0_)) hb) (fun _ h_ => by first | trivial | exact h_ | exact h_.1))
      have z_HO233 := fun (h0_ : b 3 = true) => (show Kd.R (Kd.int .i64) 3 w12 w.heap.size (fun _ => True) v232 y231 from by first | exact (Kd.R_below (by (with_reducible repeat (first | apply Kd.R_alloc | apply Kd.R_drewN | apply Kd.R_drew)); exact (Q_HO233 h0_)) hb) | exact Kd.R_mono (Kd.R_below (by (with_reducible repeat (first | apply Kd.R_alloc | apply Kd.R_drewN | apply Kd.R_drew)); exact (Q_HO233 h0_)) hb) (fun _ h_ => by first | trivial | exact h_ | exact h_.1))
      have z_HO236 := fun (h0_ : b 5 = true) => (show Kd.R (Kd.int .i64) 3 w12 w.heap.size (fun _ => True) v235 y234 from by first | exact (Kd.R_below (by (with_reducible repeat (first | apply Kd.R_alloc | apply Kd.R_drewN | apply Kd.R_drew)); exact (Q_HO236 h0_)) hb) | exact Kd.R_mono (Kd.R_below (by (with_reducible repeat (first | apply Kd.R_alloc | apply Kd.R_drewN | apply Kd.R_drew)); exact (Q_HO236 h0_)) hb) (fun _ h_ => by first | trivial | exact h_ | exact h_.1))
      clear BK227 HB
      have BK227 := n0_
      have HB := n1_
      have BK237 := n2_
      have GW237 := n3_
      have GE237 := n4_
      have NB227_237 := n5_
      have NB237_227 := n6_
      clear n0_ n1_ n2_ n3_ n4_ n5_ n6_ hb hbox hg
      refine hK.out _ _ ⟨v229, v232, v235, gb237, m6_, (.pointer (some ⟨gb237, 0, none⟩)), (by rw [ha.out]; exact putSel_upk 4 hb_ rfl rfl rfl), (by first | (with_reducible exact BK227.out) | ((with_reducible repeat (first | refine blk_drewN ?_ _ | refine blk_drew ?_ | refine blk_alloc ?_ _)); exact BK227.out)), (by repeat (first | (with_reducible first | exact HB.out | apply below_alloc | apply pw_below_drewN | apply below_drew1 | refine below_set ?_ GE227.out | refine below_set ?_ GE237.out) | exact HB.out)), z_HO230, z_HO233, z_HO236, fun _ _ => (by first | (with_reducible exact BK237.out) | ((with_reducible repeat (first | refine blk_drewN ?_ _ | refine blk_drew ?_ | refine blk_alloc ?_ _)); exact BK237.out)), fun _ => GW237.out, fun _ => GE237.out, fun _ => NB227_237.out, fun _ => NB237_227.out, fun h0_ => absurd ((hoff 8 (by kernel_rfl)).symm.trans h0_) (by decide), Q_NE_v229_v232, Q_NE_v229_v235, Q_NE_v232_v235, Q_X6_, fun _ => rfl⟩
     refine steps_cons ?_ ?_
     ·rintro b a w' ⟨v229, v232, v235, gb237, m6_, m7_, ha, Q_BK227, Q_HB, Q_HO230, Q_HO233, Q_HO236, Q_BK237, Q_GW237, Q_GE237, Q_NB227_237, Q_NB237_227, Q_BK237_e8, Q_NE_v229_v232, Q_NE_v229_v235, Q_NE_v232_v235, Q_X6_, Q_X7_⟩ hb_ hon hoff
      refine ⟨_, rfl, fun K hK => ?_⟩
      have e7 : a.tmps[7]? = some (m7_) := by rw [ha]; exact putSel_on (e := (7, 7, m7_)) 4 rfl rfl (hon 7 (by kernel_rfl)) rfl
      rw [Q_X7_ (hon 7 (by kernel_rfl))] at e7
      have e22 : a.tmps[22]? = some (m6_) := by rw [ha]; exact putSel_on (e := (6, 22, m6_)) 3 rfl rfl (hon 6 (by kernel_rfl)) rfl
      rw [Q_X6_ (hon 6 (by kernel_rfl))] at e22
      replace ha := Aside0.mk ha
      have BK227 := Aside0.mk Q_BK227
      have HB := Aside0.mk Q_HB
      have HO230 := Aside0.mk (Q_HO230 (hon 1 (by kernel_rfl)))
      have HO233 := Aside0.mk (Q_HO233 (hon 3 (by kernel_rfl)))
      have HO236 := Aside0.mk (Q_HO236 (hon 5 (by kernel_rfl)))
      have BK237 := Aside0.mk (Q_BK237 (hon 7 (by kernel_rfl)) hb_)
      have GW237 := Aside0.mk (Q_GW237 (hon 7 (by kernel_rfl)))
      have GE237 := Aside0.mk (Q_GE237 (hon 7 (by kernel_rfl)))
      have NB227_237 := Aside0.mk (Q_NB227_237 (hon 7 (by kernel_rfl)))
      have NB237_227 := Aside0.mk (Q_NB237_227 (hon 7 (by kernel_rfl)))
      have NE_v229_v232 := Aside0.mk (Q_NE_v229_v232 (hon 1 (by kernel_rfl)) (hon 3 (by kernel_rfl)))
      have NE_v229_v235 := Aside0.mk (Q_NE_v229_v235 (hon 1 (by kernel_rfl)) (hon 5 (by kernel_rfl)))
      have NE_v232_v235 := Aside0.mk (Q_NE_v232_v235 (hon 3 (by kernel_rfl)) (hon 5 (by kernel_rfl)))
      obtain ⟨Ao23, co23, eo23⟩ := Kd.R_slice HO236.out
      (first | subst eo23 | (injection eo23 with f1_ f2_ f3_; have f4_ := f1_.symm; have f5_ := f3_.symm; clear f1_ f2_ f3_; subst f4_; subst f5_))
      obtain ⟨Ao24, co24, eo24⟩ := Kd.R_slice HO233.out
      (first | subst eo24 | (injection eo24 with f1_ f2_ f3_; have f4_ := f1_.symm; have f5_ := f3_.symm; clear f1_ f2_ f3_; subst f4_; subst f5_))
      obtain ⟨Ao25, co25, eo25⟩ := Kd.R_slice HO230.out
      (first | subst eo25 | (injection eo25 with f1_ f2_ f3_; have f4_ := f1_.symm; have f5_ := f3_.symm; clear f1_ f2_ f3_; subst f4_; subst f5_))
      have hs26 : w'.cell? ⟨gb237, 0, none⟩ = some (.slice none 0 0) := (blk_cell BK237.out 0).trans rfl
      have hfs26 := blk_frozen BK237.out 0
      have hns26_0 := NB227_237.out
      have hms26_0 := NB237_227.out
      have hs27 : w'.cell? ⟨gb237, 1, none⟩ = some (.slice none 0 0) := (blk_cell BK237.out 1).trans rfl
      have hfs27 := blk_frozen BK237.out 1
      have hns27_0 := NB227_237.out
      have hms27_0 := NB237_227.out
      have hs28 : w'.cell? ⟨gb237, 2, none⟩ = some (.slice none 0 0) := (blk_cell BK237.out 2).trans rfl
      have hfs28 := blk_frozen BK237.out 2
      have hns28_0 := NB227_237.out
      have hms28_0 := NB237_227.out
      have hs29 : w'.cell? ⟨gb237, 3, none⟩ = some (.slice none 0 0) := (blk_cell BK237.out 3).trans rfl
      have hfs29 := blk_frozen BK237.out 3
      have hns29_0 := NB227_237.out
      have hms29_0 := NB237_227.out
      refine skip_ (w1 := ?_) (by rfl) rfl ?_ ?_
      rotate_left
      ·go_simp
       rfl
      refine hK.out _ _ ⟨.slice Ao25 y228.length co25, .slice Ao24 y231.length co24, .slice Ao23 y234.length co23, gb237, m6_, m7_, (by rw [ha.out]; exact putSel_none (v := undef) rfl), (by (with_reducible repeat (first | refine blk_drewN ?_ _ | refine blk_drew ?_ | refine blk_alloc ?_ _)); refine blk_far ?_ NB227_237.out _; (with_reducible repeat (first | refine blk_drewN ?_ _ | refine blk_drew ?_ | refine blk_alloc ?_ _)); refine blk_far ?_ NB227_237.out _; (with_reducible repeat (first | refine blk_drewN ?_ _ | refine blk_drew ?_ | refine blk_alloc ?_ _)); refine blk_far ?_ NB227_237.out _; (with_reducible repeat (first | refine blk_drewN ?_ _ | refine blk_drew ?_ | refine blk_alloc ?_ _)); refine blk_far ?_ NB227_237.out _; (with_reducible repeat (first | refine blk_drewN ?_ _ | refine blk_drew ?_ | refine blk_alloc ?_ _)); exact BK227.out), (by repeat (first | (with_reducible first | exact HB.out | apply below_alloc | apply pw_below_drewN | apply below_drew1 | refine below_set ?_ GE227.out | refine below_set ?_ GE237.out) | exact HB.out)), fun _ => (by (with_reducible repeat (first | apply Kd.R_alloc | apply Kd.R_drewN | apply Kd.R_drew)); exact Kd.R_mono (Kd.R_far (p := ⟨gb237, 3, none⟩) (Kd.R_far (p := ⟨gb237, 2, none⟩) (Kd.R_far (p := ⟨gb237, 1, none⟩) (Kd.R_far (p := ⟨gb237, 0, none⟩) (Kd.R_types HO230.out BK237.out (by decide)) (fun _ hk => hk.2) (.slice Ao25 y228.length co25)) (fun _ hk => hk.2) (.slice Ao24 y231.length co24)) (fun _ hk => hk.2) (.slice Ao23 y234.length co23)) (fun _ hk => hk.2) (.slice none 0 0)) (fun _ hk => by first | trivial | exact hk.1 | exact ⟨hk.1.1, hk.1.2⟩)), fun _ => (by (with_reducible repeat (first | apply Kd.R_alloc | apply Kd.R_drewN | apply Kd.R_drew)); exact Kd.R_mono (Kd.R_far (p := ⟨gb237, 3, none⟩) (Kd.R_far (p := ⟨gb237, 2, none⟩) (Kd.R_far (p := ⟨gb237, 1, none⟩) (Kd.R_far (p := ⟨gb237, 0, none⟩) (Kd.R_types HO233.out BK237.out (by decide)) (fun _ hk => hk.2) (.slice Ao25 y228.length co25)) (fun _ hk => hk.2) (.slice Ao24 y231.length co24)) (fun _ hk => hk.2) (.slice Ao23 y234.length co23)) (fun _ hk => hk.2) (.slice none 0 0)) (fun _ hk => by first | trivial | exact hk.1 | exact ⟨hk.1.1, hk.1.2⟩)), fun _ => (by (with_reducible repeat (first | apply Kd.R_alloc | apply Kd.R_drewN | apply Kd.R_drew)); exact Kd.R_mono (Kd.R_far (p := ⟨gb237, 3, none⟩) (Kd.R_far (p := ⟨gb237, 2, none⟩) (Kd.R_far (p := ⟨gb237, 1, none⟩) (Kd.R_far (p := ⟨gb237, 0, none⟩) (Kd.R_types HO236.out BK237.out (by decide)) (fun _ hk => hk.2) (.slice Ao25 y228.length co25)) (fun _ hk => hk.2) (.slice Ao24 y231.length co24)) (fun _ hk => hk.2) (.slice Ao23 y234.length co23)) (fun _ hk => hk.2) (.slice none 0 0)) (fun _ hk => by first | trivial | exact hk.1 | exact ⟨hk.1.1, hk.1.2⟩)), fun _ h1_ => absurd ((up_self b 8).symm.trans h1_) (by decide), fun _ => GW237.out, fun _ => GE237.out, fun _ => NB227_237.out, fun _ => NB237_227.out, fun _ => (by (with_reducible repeat (first | refine blk_drewN ?_ _ | refine blk_drew ?_ | refine blk_alloc ?_ _)); refine blk_put (cs := #[.slice Ao25 y228.length co25, .slice Ao24 y231.length co24, .slice Ao23 y234.length co23, .slice none 0 0]) ?_ 3 _ rfl; (with_reducible repeat (first | refine blk_drewN ?_ _ | refine blk_drew ?_ | refine blk_alloc ?_ _)); refine blk_put (cs := #[.slice Ao25 y228.length co25, .slice Ao24 y231.length co24, .slice none 0 0, .slice none 0 0]) ?_ 2 _ rfl; (with_reducible repeat (first | refine blk_drewN ?_ _ | refine blk_drew ?_ | refine blk_alloc ?_ _)); refine blk_put (cs := #[.slice Ao25 y228.length co25, .slice none 0 0, .slice none 0 0, .slice none 0 0]) ?_ 1 _ rfl; (with_reducible repeat (first | refine blk_drewN ?_ _ | refine blk_drew ?_ | refine blk_alloc ?_ _)); refine blk_put (cs := #[.slice none 0 0, .slice none 0 0, .slice none 0 0, .slice none 0 0]) ?_ 0 _ rfl; (with_reducible repeat (first | refine blk_drewN ?_ _ | refine blk_drew ?_ | refine blk_alloc ?_ _)); exact BK237.out), Q_NE_v229_v232, Q_NE_v229_v235, Q_NE_v232_v235, Q_X6_, Q_X7_⟩
     exact steps_nil
    rintro b a w26 hall ⟨v229, v232, v235, gb237, m6_, m7_, ha, Q_BK227, Q_HB, Q_HO230, Q_HO233, Q_HO236, Q_BK237, Q_GW237, Q_GE237, Q_NB227_237, Q_NB237_227, Q_BK237_e8, Q_NE_v229_v232, Q_NE_v229_v235, Q_NE_v232_v235, Q_X6_, Q_X7_⟩
    clear BK227 HB
    have hb1_ := hall 1 (by kernel_rfl)
    have hb3_ := hall 3 (by kernel_rfl)
    have hb5_ := hall 5 (by kernel_rfl)
    have hb6_ := hall 6 (by kernel_rfl)
    have hb7_ := hall 7 (by kernel_rfl)
    have hb8_ := hall 8 (by kernel_rfl)
    subst ha
    obtain rfl := Q_X6_ hb6_
    obtain rfl := Q_X7_ hb7_
    simp only [putSel, hb1_, hb3_, hb5_, hb6_, hb7_, hb8_, if_true, Act.put, List.setIfInBounds_toArray, List.set_cons_zero, List.set_cons_succ]
    have BK227 := Aside0.mk Q_BK227
    clear Q_BK227
    have HB := Aside0.mk Q_HB
    clear Q_HB
    have HO230 := Aside0.mk (Q_HO230 hb1_)
    clear Q_HO230
    have HO233 := Aside0.mk (Q_HO233 hb3_)
    clear Q_HO233
    have HO236 := Aside0.mk (Q_HO236 hb5_)
    clear Q_HO236 Q_BK237
    have GW237 := Aside0.mk (Q_GW237 hb7_)
    clear Q_GW237
    have GE237 := Aside0.mk (Q_GE237 hb7_)
    clear Q_GE237
    have NB227_237 := Aside0.mk (Q_NB227_237 hb7_)
    clear Q_NB227_237
    have NB237_227 := Aside0.mk (Q_NB237_227 hb7_)
    clear Q_NB237_227
    have BK237 := Aside0.mk (Q_BK237_e8 hb8_)
    clear Q_BK237_e8
    have NE_v229_v232 := Aside0.mk (Q_NE_v229_v232 hb1_ hb3_)
    clear Q_NE_v229_v232
    have NE_v229_v235 := Aside0.mk (Q_NE_v229_v235 hb1_ hb5_)
    clear Q_NE_v229_v235
    have NE_v232_v235 := Aside0.mk (Q_NE_v232_v235 hb3_ hb5_)
    clear Q_NE_v232_v235 hall hb1_ hb3_ hb5_ hb6_ hb7_ hb8_
    have n_HO230 := Aside0.mk (show Kd.R (Kd.int .i64) 3 w26 w.heap.size (fun k_ => some k_ ≠ (v232 : Value).ownBlock ∧ some k_ ≠ (v235 : Value).ownBlock) v229 y228 from Kd.R_of_own (Kd.own_of_R HO230.out) (fun k_ e_ => ⟨(fun e2_ => NE_v229_v232.out k_ e_ e2_.symm), (fun e2_ => NE_v229_v235.out k_ e_ e2_.symm)⟩))
    have n_HO233 := Aside0.mk (show Kd.R (Kd.int .i64) 3 w26 w.heap.size (fun k_ => some k_ ≠ (v229 : Value).ownBlock ∧ some k_ ≠ (v235 : Value).ownBlock) v232 y231 from Kd.R_of_own (Kd.own_of_R HO233.out) (fun k_ e_ => ⟨(fun e2_ => NE_v229_v232.out k_ e2_.symm e_), (fun e2_ => NE_v232_v235.out k_ e_ e2_.symm)⟩))
    have n_HO236 := Aside0.mk (show Kd.R (Kd.int .i64) 3 w26 w.heap.size (fun k_ => some k_ ≠ (v229 : Value).ownBlock ∧ some k_ ≠ (v232 : Value).ownBlock) v235 y234 from Kd.R_of_own (Kd.own_of_R HO236.out) (fun k_ e_ => ⟨(fun e2_ => NE_v229_v235.out k_ e2_.symm e_), (fun e2_ => NE_v232_v235.out k_ e2_.symm e_)⟩))
    clear HO230
    have HO230 := n_HO230
    clear n_HO230 HO233
    have HO233 := n_HO233
    clear n_HO233 HO236
    have HO236 := n_HO236
    clear n_HO236 NE_v229_v232 NE_v229_v235 NE_v232_v235
    obtain ⟨Ao27, co27, eo27⟩ := Kd.R_slice HO236.out
    (first | subst eo27 | (injection eo27 with f1_ f2_ f3_; have f4_ := f1_.symm; have f5_ := f3_.symm; clear f1_ f2_ f3_; subst f4_; subst f5_))
    obtain ⟨Ao28, co28, eo28⟩ := Kd.R_slice HO233.out
    (first | subst eo28 | (injection eo28 with f1_ f2_ f3_; have f4_ := f1_.symm; have f5_ := f3_.symm; clear f1_ f2_ f3_; subst f4_; subst f5_))
    obtain ⟨Ao29, co29, eo29⟩ := Kd.R_slice HO230.out
    (first | subst eo29 | (injection eo29 with f1_ f2_ f3_; have f4_ := f1_.symm; have f5_ := f3_.symm; clear f1_ f2_ f3_; subst f4_; subst f5_))
    try go_wp2
    have n0_ := Aside0.mk (Kd.R_drew HO230.out)
    have n1_ := Aside0.mk (Kd.R_drew HO233.out)
    have n2_ := Aside0.mk (Kd.R_drew HO236.out)
    have n3_ := Aside0.mk (blk_drew BK227.out)
    have n4_ := Aside0.mk (blk_drew BK237.out)
    have n5_ := Aside0.mk (below_drew1 HB.out)
    clear HO230 HO233 HO236 BK227 BK237 HB
    have HO230 := n0_
    have HO233 := n1_
    have HO236 := n2_
    have BK227 := n3_
    have BK237 := n4_
    have HB := n5_
    clear n0_ n1_ n2_ n3_ n4_ n5_
    refine start_ (n := 7) (S := fun w' => True) (ds := []) #[false, false, false, false, false, false, false] (by kernel_rfl) rfl rfl trivial (fun hHeld => ?_)
    generalize w26.drew = w30 at HO230 HO233 HO236 BK227 BK237 HB hHeld ⊢
    refine pure_ (i := 1) (N := some 24) (v := ?_) (a' := ?_) (bm 7 2) rfl rfl (by kernel_rfl) (fun _ _ _ h => h) (Or.inl ⟨by rfl, ?_⟩) ?_ ?_
    rotate_left
    ·intro w'
     go_simp
     with_reducible rfl
    rotate_left
    ·simp only [Act.put, pp_]
     rfl
    refine pure_ (i := 3) (N := some 26) (v := ?_) (a' := ?_) (bm 7 10) rfl rfl (by kernel_rfl) (fun _ _ _ h => h) (Or.inl ⟨by rfl, ?_⟩) ?_ ?_
    rotate_left
    ·intro w'
     go_simp
     with_reducible rfl
    rotate_left
    ·simp only [Act.put, pp_]
     rfl
    refine join_ (σ := Value × Value × Value) 1 (bm 7 63) (fun s_ => [(23, s_.1), (25, s_.2.1), (27, s_.2.2), (8, s_.2.1)]) (fun s_ w' => (Kd.R (Kd.int .i64) 3 w' w.heap.size (fun k_ => some k_ ≠ (.slice Ao28 y231.length co28 : Value).ownBlock ∧ some k_ ≠ (.slice Ao27 y234.length co27 : Value).ownBlock ∧ some k_ ≠ (s_.1 : Value).ownBlock ∧ some k_ ≠ (s_.2.1 : Value).ownBlock ∧ some k_ ≠ (s_.2.2 : Value).ownBlock) (.slice Ao29 y228.length co29) y228) ∧ (Kd.R (Kd.int .i64) 3 w' w.heap.size (fun k_ => some k_ ≠ (.slice Ao29 y228.length co29 : Value).ownBlock ∧ some k_ ≠ (.slice Ao27 y234.length co27 : Value).ownBlock ∧ some k_ ≠ (s_.1 : Value).ownBlock ∧ some k_ ≠ (s_.2.1 : Value).ownBlock ∧ some k_ ≠ (s_.2.2 : Value).ownBlock) (.slice Ao28 y231.length co28) y231) ∧ (Kd.R (Kd.int .i64) 3 w' w.heap.size (fun k_ => some k_ ≠ (.slice Ao29 y228.length co29 : Value).ownBlock ∧ some k_ ≠ (.slice Ao28 y231.length co28 : Value).ownBlock ∧ some k_ ≠ (s_.1 : Value).ownBlock ∧ some k_ ≠ (s_.2.1 : Value).ownBlock ∧ some k_ ≠ (s_.2.2 : Value).ownBlock) (.slice Ao27 y234.length co27) y234) ∧ (Kd.R (Kd.int .i64) 3 w' w.heap.size (fun k_ => some k_ ≠ (.slice Ao29 y228.length co29 : Value).ownBlock ∧ some k_ ≠ (.slice Ao28 y231.length co28 : Value).ownBlock ∧ some k_ ≠ (.slice Ao27 y234.length co27 : Value).ownBlock ∧ some k_ ≠ (s_.2.1 : Value).ownBlock ∧ some k_ ≠ (s_.2.2 : Value).ownBlock) s_.1 y238) ∧ (Kd.R (Kd.int .i64) 3 w' w.heap.size (fun k_ => some k_ ≠ (.slice Ao29 y228.length co29 : Value).ownBlock ∧ some k_ ≠ (.slice Ao28 y231.length co28 : Value).ownBlock ∧ some k_ ≠ (.slice Ao27 y234.length co27 : Value).ownBlock ∧ some k_ ≠ (s_.1 : Value).ownBlock ∧ some k_ ≠ (s_.2.2 : Value).ownBlock) s_.2.1 t241) ∧ (Kd.R (Kd.int .i64) 3 w' w.heap.size (fun k_ => some k_ ≠ (.slice Ao29 y228.length co29 : Value).ownBlock ∧ some k_ ≠ (.slice Ao28 y231.length co28 : Value).ownBlock ∧ some k_ ≠ (.slice Ao27 y234.length co27 : Value).ownBlock ∧ some k_ ≠ (s_.1 : Value).ownBlock ∧ some k_ ≠ (s_.2.1 : Value).ownBlock) s_.2.2 y244) ∧ (w'.heap[gb227]? = some (.cells #[.slice none 0 0, .slice none 0 0, .slice none 0 0, .slice none 0 0] 48 (0, 0))) ∧ (w'.heap[gb237]? = some (.cells #[.slice Ao29 y228.length co29, .slice Ao28 y231.length co28, .slice Ao27 y234.length co27, .slice none 0 0] 48 (0, 0))) ∧ (Below w.heap.size w w')) ?_ ?_
    rotate_left
    ·intro hCont
     refine two_ (i := 0) (j := 4) (Ni := some 23) (Nj := some 27) (bm 7 11) (bm 7 26) rfl rfl rfl rfl (by kernel_rfl) (by decide) (by decide) (fun K hK => ?_) (fun K hK => ?_)
     ·skip
      refine Kd.R_lit_step (Kd.int .i64) _ 3 ?hg (N := 23) ?hd (xs := ([(-1)] : List Int)) (inner := [.int .i64 (-1)]) (ok := fun _ => True) (okp := fun _ => True) ?hr ?hp (fun _ hk => hk) trivial (Below.refl _ _) (Nat.le_refl _) (by simp) ?_; (case hd => rfl); (case hg => rfl); (case hr => first | (go_simp; done) | (go_simp; rfl)); (case hp => exact (Reps.one (show Kd.M (Kd.int .i64) _ _ _ (-1) [.int .i64 (-1)] from rfl) (Reps.none _ _)))
      intro v239 w31 ho32 hb hg_ hnew_
      clear hg_ hnew_
      (first | rw [← Ny238.out] at ho32 | (simp only [Int.reduceToNat] at ho32; rw [← Ny238.out] at ho32))
      have n0_ := Aside0.mk (Kd.R_elder' HO230.out (Kd.R_base ho32) hb)
      have n1_ := Aside0.mk (Kd.R_elder' HO233.out (Kd.R_base ho32) hb)
      have n2_ := Aside0.mk (Kd.R_elder' HO236.out (Kd.R_base ho32) hb)
      have n3_ := Aside0.mk (Kd.R_lower (Kd.R_new' (Kd.R_new' (Kd.R_new' ho32 (Kd.R_lt HO230.out)) (Kd.R_lt HO233.out)) (Kd.R_lt HO236.out)) (below_size HB.out))
      have n4_ := Aside0.mk (blk_below (g := gb227) (o := .cells #[.slice none 0 0, .slice none 0 0, .slice none 0 0, .slice none 0 0] 48 (0, 0)) BK227.out hb)
      have n5_ := Aside0.mk (blk_below (g := gb237) (o := .cells #[.slice Ao29 y228.length co29, .slice Ao28 y231.length co28, .slice Ao27 y234.length co27, .slice none 0 0] 48 (0, 0)) BK237.out hb)
      have n6_ := Aside0.mk (below_step HB.out hb)
      clear HO230 HO233 HO236 BK227 BK237 HB
      have HO230 := n0_
      have HO233 := n1_
      have HO236 := n2_
      have HO240 := n3_
      have BK227 := n4_
      have BK237 := n5_
      have HB := n6_
      clear n0_ n1_ n2_ n3_ n4_ n5_ n6_ hb ho32
      obtain ⟨Ao33, co33, eo33⟩ := Kd.R_slice HO240.out
      (first | subst eo33 | (injection eo33 with f1_ f2_ f3_; have f4_ := f1_.symm; have f5_ := f3_.symm; clear f1_ f2_ f3_; subst f4_; subst f5_))
      refine hK.out _ _ trivial (fun hHeld => ?_)
      clear hK K
      refine norm_ (a' := ?_) ?_ ?_
      rotate_left
      ·show Act.put _ (some 23) _ = _
       simp only [Act.put, pp_]
       rfl
      refine two_ (i := 2) (j := 4) (Ni := some 25) (Nj := some 27) (bm 7 15) (bm 7 27) rfl rfl rfl rfl (by kernel_rfl) (by decide) (by decide) (fun K hK => ?_) (fun K hK => ?_)
      ·skip
       refine goes_ Try.func43 (by kernel_rfl) rfl #[.slice Ao33 y238.length co33, .int .i64 a0] (by rfl) rfl rfl (by (try simp only [List.map_toArray, List.map_cons, List.map_nil]); first | done | rfl | (simp only [List.length_drop, List.length_take]; rfl)) ?_
       with_reducible refine (slices_Repeat_int_int.calls _ _ y238 a0 t241 _ ?side1 ?side2 A6.out).mono ?_
       (case side1 => repeat (first | exact (Kd.R_reads' HO240.out).2.2 | (with_reducible refine Kd.C_alloc ?_ _) | (with_reducible refine Kd.C_drewN ?_ _) | (with_reducible refine Kd.C_drew ?_)))
       (case side2 => exact (Kd.R_reads' HO240.out).2.1)
       rintro e w34 ⟨v242, rfl, ho0, hb⟩
       refine ⟨_, rfl, ?_⟩
       have n0_ := Aside0.mk (Kd.R_elder' HO230.out (Kd.R_base ho0) hb)
       have n1_ := Aside0.mk (Kd.R_elder' HO233.out (Kd.R_base ho0) hb)
       have n2_ := Aside0.mk (Kd.R_elder' HO236.out (Kd.R_base ho0) hb)
       have n3_ := Aside0.mk (Kd.R_elder' HO240.out (Kd.R_base ho0) hb)
       have n4_ := Aside0.mk (Kd.R_lower (Kd.R_new' (Kd.R_new' (Kd.R_new' (Kd.R_new' ho0 (Kd.R_lt HO230.out)) (Kd.R_lt HO233.out)) (Kd.R_lt HO236.out)) (Kd.R_lt HO240.out)) (below_size HB.out))
       have n5_ := Aside0.mk (blk_below (g := gb227) (o := .cells #[.slice none 0 0, .slice none 0 0, .slice none 0 0, .slice none 0 0] 48 (0, 0)) BK227.out hb)
       have n6_ := Aside0.mk (blk_below (g := gb237) (o := .cells #[.slice Ao29 y228.length co29, .slice Ao28 y231.length co28, .slice Ao27 y234.length co27, .slice none 0 0] 48 (0, 0)) BK237.out hb)
       have n7_ := Aside0.mk (below_step HB.out hb)
       clear HO230 HO233 HO236 HO240 BK227 BK237 HB
       have HO230 := n0_
       have HO233 := n1_
       have HO236 := n2_
       have HO240 := n3_
       have HO243 := n4_
       have BK227 := n5_
       have BK237 := n6_
       have HB := n7_
       clear n0_ n1_ n2_ n3_ n4_ n5_ n6_ n7_
       (try clear hb)
       (try clear hb2)
       (try clear hk)
       (try clear hi)
       (try clear ho0)
       refine hK.out _ _ trivial (fun hHeld => ?_)
       clear hK K
       refine norm_ (a' := ?_) ?_ ?_
       rotate_left
       ·show Act.put _ (some 25) _ = _
        simp only [Act.put, pp_]
        rfl
       refine pure_ (i := 5) (N := some 8) (v := ?_) (a' := ?_) (bm 7 47) rfl rfl (by kernel_rfl) (fun _ _ _ h => h) (Or.inl ⟨by rfl, ?_⟩) ?_ ?_
       rotate_left
       ·intro w'
        go_simp
        with_reducible rfl
       rotate_left
       ·simp only [Act.put, pp_]
        rfl
       refine one_ (i := 4) (N := some 27) (bm 7 63) rfl rfl (by kernel_rfl) (by decide) (fun K hK => ?_)
       refine Kd.R_make_step (Kd.int .i64) _ 3 (by rfl) (N := 27) rfl 24 _ _ rfl a0 rfl rfl Try.underlying24 (.int .i64 0) 8 info3 rfl (by decide) (by omega) 0 (ok := fun _ => True) (okp := fun _ => True) rfl (fun _ hk => hk) trivial (of_decide_eq_true (by first | (with_reducible assumption) | assumption)) (Nat.le_trans (Nat.mul_le_mul_right _ (of_decide_eq_true (by first | (with_reducible assumption) | assumption) : a0.toNat ≤ 35184372088832)) (by omega)) (Below.refl _ _) (Nat.le_refl _) ?_
       intro v245 w35 ho36 hb hg_ hnew_
       clear hg_ hnew_
       (first | rw [← Ny244.out] at ho36 | (simp only [Int.reduceToNat] at ho36; rw [← Ny244.out] at ho36))
       have n0_ := Aside0.mk (Kd.R_elder' HO230.out (Kd.R_base ho36) hb)
       have n1_ := Aside0.mk (Kd.R_elder' HO233.out (Kd.R_base ho36) hb)
       have n2_ := Aside0.mk (Kd.R_elder' HO236.out (Kd.R_base ho36) hb)
       have n3_ := Aside0.mk (Kd.R_elder' HO240.out (Kd.R_base ho36) hb)
       have n4_ := Aside0.mk (Kd.R_elder' HO243.out (Kd.R_base ho36) hb)
       have n5_ := Aside0.mk (Kd.R_lower (Kd.R_new' (Kd.R_new' (Kd.R_new' (Kd.R_new' (Kd.R_new' ho36 (Kd.R_lt HO230.out)) (Kd.R_lt HO233.out)) (Kd.R_lt HO236.out)) (Kd.R_lt HO240.out)) (Kd.R_lt HO243.out)) (below_size HB.out))
       have n6_ := Aside0.mk (blk_below (g := gb227) (o := .cells #[.slice none 0 0, .slice none 0 0, .slice none 0 0, .slice none 0 0] 48 (0, 0)) BK227.out hb)
       have n7_ := Aside0.mk (blk_below (g := gb237) (o := .cells #[.slice Ao29 y228.length co29, .slice Ao28 y231.length co28, .slice Ao27 y234.length co27, .slice none 0 0] 48 (0, 0)) BK237.out hb)
       have n8_ := Aside0.mk (below_step HB.out hb)
       clear HO230 HO233 HO236 HO240 HO243 BK227 BK237 HB
       have HO230 := n0_
       have HO233 := n1_
       have HO236 := n2_
       have HO240 := n3_
       have HO243 := n4_
       have HO246 := n5_
       have BK227 := n6_
       have BK237 := n7_
       have HB := n8_
       clear n0_ n1_ n2_ n3_ n4_ n5_ n6_ n7_ n8_ hb ho36
       refine hK.out _ _ trivial (fun hHeld => ?_)
       clear hK K
       refine norm_ (a' := ?_) ?_ ?_
       rotate_left
       ·show Act.put _ (some 27) _ = _
        simp only [Act.put, pp_]
        rfl
       exact norm_ (by simp only [putAll, Act.put, List.setIfInBounds_toArray, List.set_cons_zero, List.set_cons_succ]) (hCont (.slice Ao33 y238.length co33, v242, v245) _ ⟨(Kd.R_mono HO230.out (fun _ hk => ⟨hk.1.1.1.1, ⟨hk.1.1.1.2, ⟨hk.1.1.2, ⟨hk.1.2, hk.2⟩⟩⟩⟩)), (Kd.R_mono HO233.out (fun _ hk => ⟨hk.1.1.1.1, ⟨hk.1.1.1.2, ⟨hk.1.1.2, ⟨hk.1.2, hk.2⟩⟩⟩⟩)), (Kd.R_mono HO236.out (fun _ hk => ⟨hk.1.1.1.1, ⟨hk.1.1.1.2, ⟨hk.1.1.2, ⟨hk.1.2, hk.2⟩⟩⟩⟩)), (Kd.R_mono HO240.out (fun _ hk => ⟨hk.1.1.1.1.2, ⟨hk.1.1.1.2, ⟨hk.1.1.2, ⟨hk.1.2, hk.2⟩⟩⟩⟩)), (Kd.R_mono HO243.out (fun _ hk => ⟨hk.1.1.1.1.2, ⟨hk.1.1.1.2, ⟨hk.1.1.2, ⟨hk.1.2, hk.2⟩⟩⟩⟩)), (Kd.R_mono HO246.out (fun _ hk => ⟨hk.1.1.1.1.2, ⟨hk.1.1.1.2, ⟨hk.1.1.2, ⟨hk.1.2, hk.2⟩⟩⟩⟩)), BK227.out, BK237.out, HB.out⟩)
      ·skip
       refine Kd.R_make_step (Kd.int .i64) _ 3 (by rfl) (N := 27) rfl 24 _ _ rfl a0 rfl rfl Try.underlying24 (.int .i64 0) 8 info3 rfl (by decide) (by omega) 0 (ok := fun _ => True) (okp := fun _ => True) rfl (fun _ hk => hk) trivial (of_decide_eq_true (by first | (with_reducible assumption) | assumption)) (Nat.le_trans (Nat.mul_le_mul_right _ (of_decide_eq_true (by first | (with_reducible assumption) | assumption) : a0.toNat ≤ 35184372088832)) (by omega)) (Below.refl _ _) (Nat.le_refl _) ?_
       intro v245 w33 ho34 hb hg_ hnew_
       clear hg_ hnew_
       (first | rw [← Ny244.out] at ho34 | (simp only [Int.reduceToNat] at ho34; rw [← Ny244.out] at ho34))
       have n0_ := Aside0.mk (Kd.R_elder' HO230.out (Kd.R_base ho34) hb)
       have n1_ := Aside0.mk (Kd.R_elder' HO233.out (Kd.R_base ho34) hb)
       have n2_ := Aside0.mk (Kd.R_elder' HO236.out (Kd.R_base ho34) hb)
       have n3_ := Aside0.mk (Kd.R_elder' HO240.out (Kd.R_base ho34) hb)
       have n4_ := Aside0.mk (Kd.R_lower (Kd.R_new' (Kd.R_new' (Kd.R_new' (Kd.R_new' ho34 (Kd.R_lt HO230.out)) (Kd.R_lt HO233.out)) (Kd.R_lt HO236.out)) (Kd.R_lt HO240.out)) (below_size HB.out))
       have n5_ := Aside0.mk (blk_below (g := gb227) (o := .cells #[.slice none 0 0, .slice none 0 0, .slice none 0 0, .slice none 0 0] 48 (0, 0)) BK227.out hb)
       have n6_ := Aside0.mk (blk_below (g := gb237) (o := .cells #[.slice Ao29 y228.length co29, .slice Ao28 y231.length co28, .slice Ao27 y234.length co27, .slice none 0 0] 48 (0, 0)) BK237.out hb)
       have n7_ := Aside0.mk (below_step HB.out hb)
       clear HO230 HO233 HO236 HO240 BK227 BK237 HB
       have HO230 := n0_
       have HO233 := n1_
       have HO236 := n2_
       have HO240 := n3_
       have HO246 := n4_
       have BK227 := n5_
       have BK237 := n6_
       have HB := n7_
       clear n0_ n1_ n2_ n3_ n4_ n5_ n6_ n7_ hb ho34
       obtain ⟨Ao35, co35, eo35⟩ := Kd.R_slice HO240.out
       (first | subst eo35 | (injection eo35 with f1_ f2_ f3_; have f4_ := f1_.symm; have f5_ := f3_.symm; clear f1_ f2_ f3_; subst f4_; subst f5_))
       refine hK.out _ _ trivial (fun hHeld => ?_)
       clear hK K
       refine norm_ (a' := ?_) ?_ ?_
       rotate_left
       ·show Act.put _ (some 27) _ = _
        simp only [Act.put, pp_]
        rfl
       refine one_ (i := 2) (N := some 25) (bm 7 31) rfl rfl (by kernel_rfl) (by decide) (fun K hK => ?_)
       refine goes_ Try.func43 (by kernel_rfl) rfl #[.slice Ao35 y238.length co35, .int .i64 a0] (by rfl) rfl rfl (by (try simp only [List.map_toArray, List.map_cons, List.map_nil]); first | done | rfl | (simp only [List.length_drop, List.length_take]; rfl)) ?_
       with_reducible refine (slices_Repeat_int_int.calls _ _ y238 a0 t241 _ ?side1 ?side2 A6.out).mono ?_
       (case side1 => repeat (first | exact (Kd.R_reads' HO240.out).2.2 | (with_reducible refine Kd.C_alloc ?_ _) | (with_reducible refine Kd.C_drewN ?_ _) | (with_reducible refine Kd.C_drew ?_)))
       (case side2 => exact (Kd.R_reads' HO240.out).2.1)
       rintro e w36 ⟨v242, rfl, ho0, hb⟩
       refine ⟨_, rfl, ?_⟩
       have n0_ := Aside0.mk (Kd.R_elder' HO230.out (Kd.R_base ho0) hb)
       have n1_ := Aside0.mk (Kd.R_elder' HO233.out (Kd.R_base ho0) hb)
       have n2_ := Aside0.mk (Kd.R_elder' HO236.out (Kd.R_base ho0) hb)
       have n3_ := Aside0.mk (Kd.R_elder' HO240.out (Kd.R_base ho0) hb)
       have n4_ := Aside0.mk (Kd.R_elder' HO246.out (Kd.R_base ho0) hb)
       have n5_ := Aside0.mk (Kd.R_lower (Kd.R_new' (Kd.R_new' (Kd.R_new' (Kd.R_new' (Kd.R_new' ho0 (Kd.R_lt HO230.out)) (Kd.R_lt HO233.out)) (Kd.R_lt HO236.out)) (Kd.R_lt HO240.out)) (Kd.R_lt HO246.out)) (below_size HB.out))
       have n6_ := Aside0.mk (blk_below (g := gb227) (o := .cells #[.slice none 0 0, .slice none 0 0, .slice none 0 0, .slice none 0 0] 48 (0, 0)) BK227.out hb)
       have n7_ := Aside0.mk (blk_below (g := gb237) (o := .cells #[.slice Ao29 y228.length co29, .slice Ao28 y231.length co28, .slice Ao27 y234.length co27, .slice none 0 0] 48 (0, 0)) BK237.out hb)
       have n8_ := Aside0.mk (below_step HB.out hb)
       clear HO230 HO233 HO236 HO240 HO246 BK227 BK237 HB
       have HO230 := n0_
       have HO233 := n1_
       have HO236 := n2_
       have HO240 := n3_
       have HO246 := n4_
       have HO243 := n5_
       have BK227 := n6_
       have BK237 := n7_
       have HB := n8_
       clear n0_ n1_ n2_ n3_ n4_ n5_ n6_ n7_ n8_
       (try clear hb)
       (try clear hb2)
       (try clear hk)
       (try clear hi)
       (try clear ho0)
       refine hK.out _ _ trivial (fun hHeld => ?_)
       clear hK K
       refine norm_ (a' := ?_) ?_ ?_
       rotate_left
       ·show Act.put _ (some 25) _ = _
        simp only [Act.put, pp_]
        rfl
       refine pure_ (i := 5) (N := some 8) (v := ?_) (a' := ?_) (bm 7 63) rfl rfl (by kernel_rfl) (fun _ _ _ h => h) (Or.inl ⟨by rfl, ?_⟩) ?_ ?_
       rotate_left
       ·intro w'
        go_simp
        with_reducible rfl
       rotate_left
       ·simp only [Act.put, pp_]
        rfl
       exact norm_ (by simp only [putAll, Act.put, List.setIfInBounds_toArray, List.set_cons_zero, List.set_cons_succ]) (hCont (.slice Ao35 y238.length co35, v242, v245) _ ⟨(Kd.R_mono HO230.out (fun _ hk => ⟨hk.1.1.1.1, ⟨hk.1.1.1.2, ⟨hk.1.1.2, ⟨hk.2, hk.1.2⟩⟩⟩⟩)), (Kd.R_mono HO233.out (fun _ hk => ⟨hk.1.1.1.1, ⟨hk.1.1.1.2, ⟨hk.1.1.2, ⟨hk.2, hk.1.2⟩⟩⟩⟩)), (Kd.R_mono HO236.out (fun _ hk => ⟨hk.1.1.1.1, ⟨hk.1.1.1.2, ⟨hk.1.1.2, ⟨hk.2, hk.1.2⟩⟩⟩⟩)), (Kd.R_mono HO240.out (fun _ hk => ⟨hk.1.1.1.1.2, ⟨hk.1.1.1.2, ⟨hk.1.1.2, ⟨hk.2, hk.1.2⟩⟩⟩⟩)), (Kd.R_mono HO243.out (fun _ hk => ⟨hk.1.1.1.1.2, ⟨hk.1.1.1.2, ⟨hk.1.1.2, ⟨hk.1.2, hk.2⟩⟩⟩⟩)), (Kd.R_mono HO246.out (fun _ hk => ⟨hk.1.1.1.1.2, ⟨hk.1.1.1.2, ⟨hk.1.1.2, ⟨hk.1.2, hk.2⟩⟩⟩⟩)), BK227.out, BK237.out, HB.out⟩)
     ·skip
      refine Kd.R_make_step (Kd.int .i64) _ 3 (by rfl) (N := 27) rfl 24 _ _ rfl a0 rfl rfl Try.underlying24 (.int .i64 0) 8 info3 rfl (by decide) (by omega) 0 (ok := fun _ => True) (okp := fun _ => True) rfl (fun _ hk => hk) trivial (of_decide_eq_true (by first | (with_reducible assumption) | assumption)) (Nat.le_trans (Nat.mul_le_mul_right _ (of_decide_eq_true (by first | (with_reducible assumption) | assumption) : a0.toNat ≤ 35184372088832)) (by omega)) (Below.refl _ _) (Nat.le_refl _) ?_
      intro v245 w31 ho32 hb hg_ hnew_
      clear hg_ hnew_
      (first | rw [← Ny244.out] at ho32 | (simp only [Int.reduceToNat] at ho32; rw [← Ny244.out] at ho32))
      have n0_ := Aside0.mk (Kd.R_elder' HO230.out (Kd.R_base ho32) hb)
      have n1_ := Aside0.mk (Kd.R_elder' HO233.out (Kd.R_base ho32) hb)
      have n2_ := Aside0.mk (Kd.R_elder' HO236.out (Kd.R_base ho32) hb)
      have n3_ := Aside0.mk (Kd.R_lower (Kd.R_new' (Kd.R_new' (Kd.R_new' ho32 (Kd.R_lt HO230.out)) (Kd.R_lt HO233.out)) (Kd.R_lt HO236.out)) (below_size HB.out))
      have n4_ := Aside0.mk (blk_below (g := gb227) (o := .cells #[.slice none 0 0, .slice none 0 0, .slice none 0 0, .slice none 0 0] 48 (0, 0)) BK227.out hb)
      have n5_ := Aside0.mk (blk_below (g := gb237) (o := .cells #[.slice Ao29 y228.length co29, .slice Ao28 y231.length co28, .slice Ao27 y234.length co27, .slice none 0 0] 48 (0, 0)) BK237.out hb)
      have n6_ := Aside0.mk (below_step HB.out hb)
      clear HO230 HO233 HO236 BK227 BK237 HB
      have HO230 := n0_
      have HO233 := n1_
      have HO236 := n2_
      have HO246 := n3_
      have BK227 := n4_
      have BK237 := n5_
      have HB := n6_
      clear n0_ n1_ n2_ n3_ n4_ n5_ n6_ hb ho32
      refine hK.out _ _ trivial (fun hHeld => ?_)
      clear hK K
      refine norm_ (a' := ?_) ?_ ?_
      rotate_left
      ·show Act.put _ (some 27) _ = _
       simp only [Act.put, pp_]
       rfl
      refine one_ (i := 0) (N := some 23) (bm 7 27) rfl rfl (by kernel_rfl) (by decide) (fun K hK => ?_)
      refine Kd.R_lit_step (Kd.int .i64) _ 3 ?hg (N := 23) ?hd (xs := ([(-1)] : List Int)) (inner := [.int .i64 (-1)]) (ok := fun _ => True) (okp := fun _ => True) ?hr ?hp (fun _ hk => hk) trivial (Below.refl _ _) (Nat.le_refl _) (by simp) ?_; (case hd => rfl); (case hg => rfl); (case hr => first | (go_simp; done) | (go_simp; rfl)); (case hp => exact (Reps.one (show Kd.M (Kd.int .i64) _ _ _ (-1) [.int .i64 (-1)] from rfl) (Reps.none _ _)))
      intro v239 w33 ho34 hb hg_ hnew_
      clear hg_ hnew_
      (first | rw [← Ny238.out] at ho34 | (simp only [Int.reduceToNat] at ho34; rw [← Ny238.out] at ho34))
      have n0_ := Aside0.mk (Kd.R_elder' HO230.out (Kd.R_base ho34) hb)
      have n1_ := Aside0.mk (Kd.R_elder' HO233.out (Kd.R_base ho34) hb)
      have n2_ := Aside0.mk (Kd.R_elder' HO236.out (Kd.R_base ho34) hb)
      have n3_ := Aside0.mk (Kd.R_elder' HO246.out (Kd.R_base ho34) hb)
      have n4_ := Aside0.mk (Kd.R_lower (Kd.R_new' (Kd.R_new' (Kd.R_new' (Kd.R_new' ho34 (Kd.R_lt HO230.out)) (Kd.R_lt HO233.out)) (Kd.R_lt HO236.out)) (Kd.R_lt HO246.out)) (below_size HB.out))
      have n5_ := Aside0.mk (blk_below (g := gb227) (o := .cells #[.slice none 0 0, .slice none 0 0, .slice none 0 0, .slice none 0 0] 48 (0, 0)) BK227.out hb)
      have n6_ := Aside0.mk (blk_below (g := gb237) (o := .cells #[.slice Ao29 y228.length co29, .slice Ao28 y231.length co28, .slice Ao27 y234.length co27, .slice none 0 0] 48 (0, 0)) BK237.out hb)
      have n7_ := Aside0.mk (below_step HB.out hb)
      clear HO230 HO233 HO236 HO246 BK227 BK237 HB
      have HO230 := n0_
      have HO233 := n1_
      have HO236 := n2_
      have HO246 := n3_
      have HO240 := n4_
      have BK227 := n5_
      have BK237 := n6_
      have HB := n7_
      clear n0_ n1_ n2_ n3_ n4_ n5_ n6_ n7_ hb ho34
      obtain ⟨Ao35, co35, eo35⟩ := Kd.R_slice HO240.out
      (first | subst eo35 | (injection eo35 with f1_ f2_ f3_; have f4_ := f1_.symm; have f5_ := f3_.symm; clear f1_ f2_ f3_; subst f4_; subst f5_))
      refine hK.out _ _ trivial (fun hHeld => ?_)
      clear hK K
      refine norm_ (a' := ?_) ?_ ?_
      rotate_left
      ·show Act.put _ (some 23) _ = _
       simp only [Act.put, pp_]
       rfl
      refine one_ (i := 2) (N := some 25) (bm 7 31) rfl rfl (by kernel_rfl) (by decide) (fun K hK => ?_)
      refine goes_ Try.func43 (by kernel_rfl) rfl #[.slice Ao35 y238.length co35, .int .i64 a0] (by rfl) rfl rfl (by (try simp only [List.map_toArray, List.map_cons, List.map_nil]); first | done | rfl | (simp only [List.length_drop, List.length_take]; rfl)) ?_
      with_reducible refine (slices_Repeat_int_int.calls _ _ y238 a0 t241 _ ?side1 ?side2 A6.out).mono ?_
      (case side1 => repeat (first | exact (Kd.R_reads' HO240.out).2.2 | (with_reducible refine Kd.C_alloc ?_ _) | (with_reducible refine Kd.C_drewN ?_ _) | (with_reducible refine Kd.C_drew ?_)))
      (case side2 => exact (Kd.R_reads' HO240.out).2.1)
      rintro e w36 ⟨v242, rfl, ho0, hb⟩
      refine ⟨_, rfl, ?_⟩
      have n0_ := Aside0.mk (Kd.R_elder' HO230.out (Kd.R_base ho0) hb)
      have n1_ := Aside0.mk (Kd.R_elder' HO233.out (Kd.R_base ho0) hb)
      have n2_ := Aside0.mk (Kd.R_elder' HO236.out (Kd.R_base ho0) hb)
      have n3_ := Aside0.mk (Kd.R_elder' HO246.out (Kd.R_base ho0) hb)
      have n4_ := Aside0.mk (Kd.R_elder' HO240.out (Kd.R_base ho0) hb)
      have n5_ := Aside0.mk (Kd.R_lower (Kd.R_new' (Kd.R_new' (Kd.R_new' (Kd.R_new' (Kd.R_new' ho0 (Kd.R_lt HO230.out)) (Kd.R_lt HO233.out)) (Kd.R_lt HO236.out)) (Kd.R_lt HO246.out)) (Kd.R_lt HO240.out)) (below_size HB.out))
      have n6_ := Aside0.mk (blk_below (g := gb227) (o := .cells #[.slice none 0 0, .slice none 0 0, .slice none 0 0, .slice none 0 0] 48 (0, 0)) BK227.out hb)
      have n7_ := Aside0.mk (blk_below (g := gb237) (o := .cells #[.slice Ao29 y228.length co29, .slice Ao28 y231.length co28, .slice Ao27 y234.length co27, .slice none 0 0] 48 (0, 0)) BK237.out hb)
      have n8_ := Aside0.mk (below_step HB.out hb)
      clear HO230 HO233 HO236 HO246 HO240 BK227 BK237 HB
      have HO230 := n0_
      have HO233 := n1_
      have HO236 := n2_
      have HO246 := n3_
      have HO240 := n4_
      have HO243 := n5_
      have BK227 := n6_
      have BK237 := n7_
      have HB := n8_
      clear n0_ n1_ n2_ n3_ n4_ n5_ n6_ n7_ n8_
      (try clear hb)
      (try clear hb2)
      (try clear hk)
      (try clear hi)
      (try clear ho0)
      refine hK.out _ _ trivial (fun hHeld => ?_)
      clear hK K
      refine norm_ (a' := ?_) ?_ ?_
      rotate_left
      ·show Act.put _ (some 25) _ = _
       simp only [Act.put, pp_]
       rfl
      refine pure_ (i := 5) (N := some 8) (v := ?_) (a' := ?_) (bm 7 63) rfl rfl (by kernel_rfl) (fun _ _ _ h => h) (Or.inl ⟨by rfl, ?_⟩) ?_ ?_
      rotate_left
      ·intro w'
       go_simp
       with_reducible rfl
      rotate_left
      ·simp only [Act.put, pp_]
       rfl
      exact norm_ (by simp only [putAll, Act.put, List.setIfInBounds_toArray, List.set_cons_zero, List.set_cons_succ]) (hCont (.slice Ao35 y238.length co35, v242, v245) _ ⟨(by (with_reducible repeat (first | apply Kd.R_alloc | apply Kd.R_drewN | apply Kd.R_drew)); exact Kd.R_mono HO230.out (fun _ hk => ⟨hk.1.1.1.1, ⟨hk.1.1.1.2, ⟨hk.1.2, ⟨hk.2, hk.1.1.2⟩⟩⟩⟩)), (by (with_reducible repeat (first | apply Kd.R_alloc | apply Kd.R_drewN | apply Kd.R_drew)); exact Kd.R_mono HO233.out (fun _ hk => ⟨hk.1.1.1.1, ⟨hk.1.1.1.2, ⟨hk.1.2, ⟨hk.2, hk.1.1.2⟩⟩⟩⟩)), (by (with_reducible repeat (first | apply Kd.R_alloc | apply Kd.R_drewN | apply Kd.R_drew)); exact Kd.R_mono HO236.out (fun _ hk => ⟨hk.1.1.1.1, ⟨hk.1.1.1.2, ⟨hk.1.2, ⟨hk.2, hk.1.1.2⟩⟩⟩⟩)), (by (with_reducible repeat (first | apply Kd.R_alloc | apply Kd.R_drewN | apply Kd.R_drew)); exact Kd.R_mono HO240.out (fun _ hk => ⟨hk.1.1.1.1.2, ⟨hk.1.1.1.2, ⟨hk.1.1.2, ⟨hk.2, hk.1.2⟩⟩⟩⟩)), (by (with_reducible repeat (first | apply Kd.R_alloc | apply Kd.R_drewN | apply Kd.R_drew)); exact Kd.R_mono HO243.out (fun _ hk => ⟨hk.1.1.1.1.2, ⟨hk.1.1.1.2, ⟨hk.1.1.2, ⟨hk.2, hk.1.2⟩⟩⟩⟩)), (by (with_reducible repeat (first | apply Kd.R_alloc | apply Kd.R_drewN | apply Kd.R_drew)); exact Kd.R_mono HO246.out (fun _ hk => ⟨hk.1.1.1.1.2, ⟨hk.1.1.1.2, ⟨hk.1.1.2, ⟨hk.1.2, hk.2⟩⟩⟩⟩)), (by first | (with_reducible exact BK227.out) | ((with_reducible repeat (first | refine blk_drewN ?_ _ | refine blk_drew ?_ | refine blk_alloc ?_ _)); exact BK227.out)), (by first | (with_reducible exact BK237.out) | ((with_reducible repeat (first | refine blk_drewN ?_ _ | refine blk_drew ?_ | refine blk_alloc ?_ _)); exact BK237.out)), (by repeat (first | (with_reducible first | exact HB.out | apply below_alloc | apply pw_below_drewN | apply below_drew1 | refine below_set ?_ GE227.out | refine below_set ?_ GE237.out) | exact HB.out))⟩)
    rintro ⟨v239, v242, v245⟩ w37 ⟨h0_, h1_, h2_, h3_, h4_, h5_, h6_, h7_, h8_⟩
    have n0_ : Aside0 (Kd.R (Kd.int .i64) 3 w37 w.heap.size (fun k_ => some k_ ≠ (.slice Ao28 y231.length co28 : Value).ownBlock ∧ some k_ ≠ (.slice Ao27 y234.length co27 : Value).ownBlock ∧ some k_ ≠ (v239 : Value).ownBlock ∧ some k_ ≠ (v242 : Value).ownBlock ∧ some k_ ≠ (v245 : Value).ownBlock) (.slice Ao29 y228.length co29) y228) := ⟨h0_⟩
    have n1_ : Aside0 (Kd.R (Kd.int .i64) 3 w37 w.heap.size (fun k_ => some k_ ≠ (.slice Ao29 y228.length co29 : Value).ownBlock ∧ some k_ ≠ (.slice Ao27 y234.length co27 : Value).ownBlock ∧ some k_ ≠ (v239 : Value).ownBlock ∧ some k_ ≠ (v242 : Value).ownBlock ∧ some k_ ≠ (v245 : Value).ownBlock) (.slice Ao28 y231.length co28) y231) := ⟨h1_⟩
    have n2_ : Aside0 (Kd.R (Kd.int .i64) 3 w37 w.heap.size (fun k_ => some k_ ≠ (.slice Ao29 y228.length co29 : Value).ownBlock ∧ some k_ ≠ (.slice Ao28 y231.length co28 : Value).ownBlock ∧ some k_ ≠ (v239 : Value).ownBlock ∧ some k_ ≠ (v242 : Value).ownBlock ∧ some k_ ≠ (v245 : Value).ownBlock) (.slice Ao27 y234.length co27) y234) := ⟨h2_⟩
    have n3_ : Aside0 (Kd.R (Kd.int .i64) 3 w37 w.heap.size (fun k_ => some k_ ≠ (.slice Ao29 y228.length co29 : Value).ownBlock ∧ some k_ ≠ (.slice Ao28 y231.length co28 : Value).ownBlock ∧ some k_ ≠ (.slice Ao27 y234.length co27 : Value).ownBlock ∧ some k_ ≠ (v242 : Value).ownBlock ∧ some k_ ≠ (v245 : Value).ownBlock) v239 y238) := ⟨h3_⟩
    have n4_ : Aside0 (Kd.R (Kd.int .i64) 3 w37 w.heap.size (fun k_ => some k_ ≠ (.slice Ao29 y228.length co29 : Value).ownBlock ∧ some k_ ≠ (.slice Ao28 y231.length co28 : Value).ownBlock ∧ some k_ ≠ (.slice Ao27 y234.length co27 : Value).ownBlock ∧ some k_ ≠ (v239 : Value).ownBlock ∧ some k_ ≠ (v245 : Value).ownBlock) v242 t241) := ⟨h4_⟩
    have n5_ : Aside0 (Kd.R (Kd.int .i64) 3 w37 w.heap.size (fun k_ => some k_ ≠ (.slice Ao29 y228.length co29 : Value).ownBlock ∧ some k_ ≠ (.slice Ao28 y231.length co28 : Value).ownBlock ∧ some k_ ≠ (.slice Ao27 y234.length co27 : Value).ownBlock ∧ some k_ ≠ (v239 : Value).ownBlock ∧ some k_ ≠ (v242 : Value).ownBlock) v245 y244) := ⟨h5_⟩
    have n6_ : Aside0 (w37.heap[gb227]? = some (.cells #[.slice none 0 0, .slice none 0 0, .slice none 0 0, .slice none 0 0] 48 (0, 0))) := ⟨h6_⟩
    have n7_ : Aside0 (w37.heap[gb237]? = some (.cells #[.slice Ao29 y228.length co29, .slice Ao28 y231.length co28, .slice Ao27 y234.length co27, .slice none 0 0] 48 (0, 0))) := ⟨h7_⟩
    have n8_ : Aside0 (Below w.heap.size w w37) := ⟨h8_⟩
    clear HO230 HO233 HO236 BK227 BK237 HB h0_ h1_ h2_ h3_ h4_ h5_ h6_ h7_ h8_
    have HO230 := n0_
    have HO233 := n1_
    have HO236 := n2_
    have HO240 := n3_
    have HO243 := n4_
    have HO246 := n5_
    have BK227 := n6_
    have BK237 := n7_
    have HB := n8_
    clear n0_ n1_ n2_ n3_ n4_ n5_ n6_ n7_ n8_
    have hHeld := trivial
    refine norm_ (a' := ?_) ?_ ?_
    rotate_left
    ·simp only [putAll, Act.put, List.setIfInBounds_toArray, List.set_cons_zero, List.set_cons_succ]
     rfl
    refine pure_ (i := 6) (N := some 9) (v := ?_) (a' := ?_) (bm 7 127) rfl rfl (by kernel_rfl) (fun _ _ _ h => h) (Or.inl ⟨by rfl, ?_⟩) ?_ ?_
    rotate_left
    ·intro w'
     go_simp
     with_reducible rfl
    rotate_left
    ·simp only [Act.put, pp_]
     rfl
    refine done_ (by kernel_rfl) ?_
    try go_wp2_with (first | ((with_reducible refine gate_dst (N := 28) rfl ?_); refine Kd.R_lit (Kd.int .i64) _ 3 ?hg (N := 28) ?hd (xs := ([(-1)] : List Int)) (inner := [.int .i64 (-1)]) (ok := fun _ => True) (okp := fun _ => True) ?hr ?hp (fun _ hk => hk) trivial (Below.refl _ _) (Nat.le_refl _) (by simp) ?_; (case hd => rfl); (case hg => rfl); (case hr => first | (go_simp; done) | (go_simp; rfl)); (case hp => exact (Reps.one (show Kd.M (Kd.int .i64) _ _ _ (-1) [.int .i64 (-1)] from rfl) (Reps.none _ _))); intro v248 w38 ho39 hb hg_ hnew_; clear hg_ hnew_; (first | rw [← Ny247.out] at ho39 | (simp only [Int.reduceToNat] at ho39; rw [← Ny247.out] at ho39)); have n0_ := Aside0.mk (Kd.R_elder' (by (with_reducible repeat (first | apply Kd.R_alloc | apply Kd.R_drewN | apply Kd.R_drew)); exact HO230.out) (Kd.R_base ho39) hb); have n1_ := Aside0.mk (Kd.R_elder' (by (with_reducible repeat (first | apply Kd.R_alloc | apply Kd.R_drewN | apply Kd.R_drew)); exact HO233.out) (Kd.R_base ho39) hb); have n2_ := Aside0.mk (Kd.R_elder' (by (with_reducible repeat (first | apply Kd.R_alloc | apply Kd.R_drewN | apply Kd.R_drew)); exact HO236.out) (Kd.R_base ho39) hb); have n3_ := Aside0.mk (Kd.R_elder' (by (with_reducible repeat (first | apply Kd.R_alloc | apply Kd.R_drewN | apply Kd.R_drew)); exact HO240.out) (Kd.R_base ho39) hb); have n4_ := Aside0.mk (Kd.R_elder' (by (with_reducible repeat (first | apply Kd.R_alloc | apply Kd.R_drewN | apply Kd.R_drew)); exact HO243.out) (Kd.R_base ho39) hb); have n5_ := Aside0.mk (Kd.R_elder' (by (with_reducible repeat (first | apply Kd.R_alloc | apply Kd.R_drewN | apply Kd.R_drew)); exact HO246.out) (Kd.R_base ho39) hb); have n6_ := Aside0.mk (Kd.R_lower (Kd.R_new' (Kd.R_new' (Kd.R_new' (Kd.R_new' (Kd.R_new' (Kd.R_new' ho39 (Kd.R_lt (by (with_reducible repeat (first | apply Kd.R_alloc | apply Kd.R_drewN | apply Kd.R_drew)); exact HO230.out))) (Kd.R_lt (by (with_reducible repeat (first | apply Kd.R_alloc | apply Kd.R_drewN | apply Kd.R_drew)); exact HO233.out))) (Kd.R_lt (by (with_reducible repeat (first | apply Kd.R_alloc | apply Kd.R_drewN | apply Kd.R_drew)); exact HO236.out))) (Kd.R_lt (by (with_reducible repeat (first | apply Kd.R_alloc | apply Kd.R_drewN | apply Kd.R_drew)); exact HO240.out))) (Kd.R_lt (by (with_reducible repeat (first | apply Kd.R_alloc | apply Kd.R_drewN | apply Kd.R_drew)); exact HO243.out))) (Kd.R_lt (by (with_reducible repeat (first | apply Kd.R_alloc | apply Kd.R_drewN | apply Kd.R_drew)); exact HO246.out))) (below_size (by repeat (first | (with_reducible first | exact HB.out | apply below_alloc | apply pw_below_drewN | apply below_drew1 | refine below_set ?_ GE227.out | refine below_set ?_ GE237.out) | exact HB.out)))); have n7_ := Aside0.mk (blk_below (g := gb227) (o := .cells #[.slice none 0 0, .slice none 0 0, .slice none 0 0, .slice none 0 0] 48 (0, 0)) (by first | (with_reducible exact BK227.out) | ((with_reducible repeat (first | refine blk_drewN ?_ _ | refine blk_drew ?_ | refine blk_alloc ?_ _)); exact BK227.out)) hb); have n8_ := Aside0.mk (blk_below (g := gb237) (o := .cells #[.slice Ao29 y228.length co29, .slice Ao28 y231.length co28, .slice Ao27 y234.length co27, .slice none 0 0] 48 (0, 0)) (by first | (with_reducible exact BK237.out) | ((with_reducible repeat (first | refine blk_drewN ?_ _ | refine blk_drew ?_ | refine blk_alloc ?_ _)); exact BK237.out)) hb); have n9_ := Aside0.mk (below_step (by repeat (first | (with_reducible first | exact HB.out | apply below_alloc | apply pw_below_drewN | apply below_drew1 | refine below_set ?_ GE227.out | refine below_set ?_ GE237.out) | exact HB.out)) hb); clear HO230 HO233 HO236 HO240 HO243 HO246 BK227 BK237 HB; have HO230 := n0_; have HO233 := n1_; have HO236 := n2_; have HO240 := n3_; have HO243 := n4_; have HO246 := n5_; have HO249 := n6_; have BK227 := n7_; have BK237 := n8_; have HB := n9_; clear n0_ n1_ n2_ n3_ n4_ n5_ n6_ n7_ n8_ n9_ hb ho39; obtain ⟨Ao40, co40, eo40⟩ := Kd.R_slice HO249.out; subst eo40) | ((with_reducible refine gate_callee (f := 43) rfl ?_); refine goesL_ (some 30) rfl rfl Try.func43 (by kernel_rfl) rfl #[.slice Ao40 y247.length co40, .int .i64 a0] rfl (by (try simp only [List.map_toArray, List.map_cons, List.map_nil]); first | done | rfl | (simp only [List.length_drop, List.length_take]; rfl)) ?_; (with_reducible refine (slices_Repeat_int_int.calls _ _ y247 a0 t250 _ ?side1 ?side2 A7.out).mono ?_); (case side1 => repeat (first | exact (Kd.R_reads' HO249.out).2.2 | (with_reducible refine Kd.C_alloc ?_ _) | (with_reducible refine Kd.C_drewN ?_ _) | (with_reducible refine Kd.C_drew ?_))); (case side2 => exact (Kd.R_reads' HO249.out).2.1); rintro e w41 ⟨v251, rfl, ho0, hb⟩; refine ⟨_, rfl, ?_⟩; have n0_ := Aside0.mk (Kd.R_elder' (by (with_reducible repeat (first | apply Kd.R_alloc | apply Kd.R_drewN | apply Kd.R_drew)); exact HO230.out) (Kd.R_base ho0) hb); have n1_ := Aside0.mk (Kd.R_elder' (by (with_reducible repeat (first | apply Kd.R_alloc | apply Kd.R_drewN | apply Kd.R_drew)); exact HO233.out) (Kd.R_base ho0) hb); have n2_ := Aside0.mk (Kd.R_elder' (by (with_reducible repeat (first | apply Kd.R_alloc | apply Kd.R_drewN | apply Kd.R_drew)); exact HO236.out) (Kd.R_base ho0) hb); have n3_ := Aside0.mk (Kd.R_elder' (by (with_reducible repeat (first | apply Kd.R_alloc | apply Kd.R_drewN | apply Kd.R_drew)); exact HO240.out) (Kd.R_base ho0) hb); have n4_ := Aside0.mk (Kd.R_elder' (by (with_reducible repeat (first | apply Kd.R_alloc | apply Kd.R_drewN | apply Kd.R_drew)); exact HO243.out) (Kd.R_base ho0) hb); have n5_ := Aside0.mk (Kd.R_elder' (by (with_reducible repeat (first | apply Kd.R_alloc | apply Kd.R_drewN | apply Kd.R_drew)); exact HO246.out) (Kd.R_base ho0) hb); have n6_ := Aside0.mk (Kd.R_elder' (by (with_reducible repeat (first | apply Kd.R_alloc | apply Kd.R_drewN | apply Kd.R_drew)); exact HO249.out) (Kd.R_base ho0) hb); have n7_ := Aside0.mk (Kd.R_lower (Kd.R_new' (Kd.R_new' (Kd.R_new' (Kd.R_new' (Kd.R_new' (Kd.R_new' (Kd.R_new' ho0 (Kd.R_lt (by (with_reducible repeat (first | apply Kd.R_alloc | apply Kd.R_drewN | apply Kd.R_drew)); exact HO230.out))) (Kd.R_lt (by (with_reducible repeat (first | apply Kd.R_alloc | apply Kd.R_drewN | apply Kd.R_drew)); exact HO233.out))) (Kd.R_lt (by (with_reducible repeat (first | apply Kd.R_alloc | apply Kd.R_drewN | apply Kd.R_drew)); exact HO236.out))) (Kd.R_lt (by (with_reducible repeat (first | apply Kd.R_alloc | apply Kd.R_drewN | apply Kd.R_drew)); exact HO240.out))) (Kd.R_lt (by (with_reducible repeat (first | apply Kd.R_alloc | apply Kd.R_drewN | apply Kd.R_drew)); exact HO243.out))) (Kd.R_lt (by (with_reducible repeat (first | apply Kd.R_alloc | apply Kd.R_drewN | apply Kd.R_drew)); exact HO246.out))) (Kd.R_lt (by (with_reducible repeat (first | apply Kd.R_alloc | apply Kd.R_drewN | apply Kd.R_drew)); exact HO249.out))) (below_size (by repeat (first | (with_reducible first | exact HB.out | apply below_alloc | apply pw_below_drewN | apply below_drew1 | refine below_set ?_ GE227.out | refine below_set ?_ GE237.out) | exact HB.out)))); have n8_ := Aside0.mk (blk_below (g := gb227) (o := .cells #[.slice none 0 0, .slice none 0 0, .slice none 0 0, .slice none 0 0] 48 (0, 0)) (by first | (with_reducible exact BK227.out) | ((with_reducible repeat (first | refine blk_drewN ?_ _ | refine blk_drew ?_ | refine blk_alloc ?_ _)); exact BK227.out)) hb); have n9_ := Aside0.mk (blk_below (g := gb237) (o := .cells #[.slice Ao29 y228.length co29, .slice Ao28 y231.length co28, .slice Ao27 y234.length co27, .slice none 0 0] 48 (0, 0)) (by first | (with_reducible exact BK237.out) | ((with_reducible repeat (first | refine blk_drewN ?_ _ | refine blk_drew ?_ | refine blk_alloc ?_ _)); exact BK237.out)) hb); have n10_ := Aside0.mk (below_step (by repeat (first | (with_reducible first | exact HB.out | apply below_alloc | apply pw_below_drewN | apply below_drew1 | refine below_set ?_ GE227.out | refine below_set ?_ GE237.out) | exact HB.out)) hb); clear HO230 HO233 HO236 HO240 HO243 HO246 HO249 BK227 BK237 HB; have HO230 := n0_; have HO233 := n1_; have HO236 := n2_; have HO240 := n3_; have HO243 := n4_; have HO246 := n5_; have HO249 := n6_; have HO252 := n7_; have BK227 := n8_; have BK237 := n9_; have HB := n10_; clear n0_ n1_ n2_ n3_ n4_ n5_ n6_ n7_ n8_ n9_ n10_; (try clear hb); (try clear hb2); (try clear hk); (try clear hi); (try clear ho0)))
    have n0_ := Aside0.mk (Kd.R_drew HO230.out)
    have n1_ := Aside0.mk (Kd.R_drew HO233.out)
    have n2_ := Aside0.mk (Kd.R_drew HO236.out)
    have n3_ := Aside0.mk (Kd.R_drew HO240.out)
    have n4_ := Aside0.mk (Kd.R_drew HO243.out)
    have n5_ := Aside0.mk (Kd.R_drew HO246.out)
    have n6_ := Aside0.mk (Kd.R_drew HO249.out)
    have n7_ := Aside0.mk (Kd.R_drew HO252.out)
    have n8_ := Aside0.mk (blk_drew BK227.out)
    have n9_ := Aside0.mk (blk_drew BK237.out)
    have n10_ := Aside0.mk (below_drew1 HB.out)
    clear HO230 HO233 HO236 HO240 HO243 HO246 HO249 HO252 BK227 BK237 HB
    have HO230 := n0_
    have HO233 := n1_
    have HO236 := n2_
    have HO240 := n3_
    have HO243 := n4_
    have HO246 := n5_
    have HO249 := n6_
    have HO252 := n7_
    have BK227 := n8_
    have BK237 := n9_
    have HB := n10_
    clear n0_ n1_ n2_ n3_ n4_ n5_ n6_ n7_ n8_ n9_ n10_
    obtain ⟨Ao43, co43, eo43⟩ := Kd.R_slice HO252.out
    (first | subst eo43 | (injection eo43 with f1_ f2_ f3_; have f4_ := f1_.symm; have f5_ := f3_.symm; clear f1_ f2_ f3_; subst f4_; subst f5_))
    refine start_ (n := 8) (S := fun w' => w'.cell? ⟨gb237, 0, none⟩ = some (.slice Ao29 y228.length co29) ∧ w'.cell? ⟨gb237, 1, none⟩ = some (.slice Ao28 y231.length co28) ∧ w'.cell? ⟨gb237, 2, none⟩ = some (.slice Ao27 y234.length co27) ∧ w'.cell? ⟨gb237, 3, none⟩ = some (.slice none 0 0)) (ds := [7]) #[false, false, false, false, false, false, false, false] (by kernel_rfl) rfl rfl ⟨(blk_cell BK237.out 0).trans rfl, (blk_cell BK237.out 1).trans rfl, (blk_cell BK237.out 2).trans rfl, (blk_cell BK237.out 3).trans rfl⟩ (fun hHeld => ?_); refine with_tabW impl_board.tab4 impl_board.bits4 (fun HT_ HW_ => ?_)
    generalize w41.drew = w42 at HO230 HO233 HO236 HO240 HO243 HO246 HO249 HO252 BK227 BK237 HB hHeld ⊢
    refine pi_ (i := 0) (N := some 31) (v := ?_) (a' := ?_) (bm 8 1) rfl rfl HT_ (by kernel_rfl) (fun _ _ _ h => h) (Or.inl ⟨by rfl, ?_⟩) ?_ ?_
    rotate_left
    ·intro w'
     go_simp
     with_reducible rfl
    rotate_left
    ·simp only [Act.put, pp_]
     rfl
    refine pi_ (i := 2) (N := some 33) (v := ?_) (a' := ?_) (bm 8 5) rfl rfl HT_ (by kernel_rfl) (fun _ _ _ h => h) (Or.inl ⟨by rfl, ?_⟩) ?_ ?_
    rotate_left
    ·intro w'
     go_simp
     with_reducible rfl
    rotate_left
    ·simp only [Act.put, pp_]
     rfl
    refine take_ (i := 1) (N := some 32) (v := ?_) (a' := ?_) (bm 8 7) rfl rfl (take_ofW HT_.out HW_.out (by kernel_rfl)) (fun _ _ _ h => h) (Or.inl ⟨by rfl, ?_⟩) hHeld ?_ ?_
    rotate_left
    ·rintro w' ⟨s0, s1, s2, s3⟩
     go_simp
     with_reducible rfl
    rotate_left
    ·simp only [Act.put, pp_]
     rfl
    refine one_ (i := 3) (N := some 34) (bm 8 15) rfl rfl (one_of HT_.out (by kernel_rfl)) (by decide) (fun K hK => ?_)
    refine goes_ Try.func39 (by kernel_rfl) rfl #[.slice Ao43 t250.length co43] (by rfl) rfl rfl (by (try simp only [List.map_toArray, List.map_cons, List.map_nil]); first | done | rfl | (simp only [List.length_drop, List.length_take]; rfl)) ?_
    with_reducible refine (slices_Clone_int_int.calls _ _ t250 t253 _ ?side1 ?side2 A8.out).mono ?_
    (case side1 => repeat (first | exact (Kd.R_reads' HO252.out).2.2 | (with_reducible refine Kd.C_alloc ?_ _) | (with_reducible refine Kd.C_drewN ?_ _) | (with_reducible refine Kd.C_drew ?_)))
    (case side2 => exact (Kd.R_reads' HO252.out).2.1)
    rintro e w44 ⟨v254, rfl, ho0, hb⟩
    refine ⟨_, rfl, ?_⟩
    have n0_ := Aside0.mk (Kd.R_elder' HO230.out (Kd.R_base ho0) hb)
    have n1_ := Aside0.mk (Kd.R_elder' HO233.out (Kd.R_base ho0) hb)
    have n2_ := Aside0.mk (Kd.R_elder' HO236.out (Kd.R_base ho0) hb)
    have n3_ := Aside0.mk (Kd.R_elder' HO240.out (Kd.R_base ho0) hb)
    have n4_ := Aside0.mk (Kd.R_elder' HO243.out (Kd.R_base ho0) hb)
    have n5_ := Aside0.mk (Kd.R_elder' HO246.out (Kd.R_base ho0) hb)
    have n6_ := Aside0.mk (Kd.R_elder' HO249.out (Kd.R_base ho0) hb)
    have n7_ := Aside0.mk (Kd.R_elder' HO252.out (Kd.R_base ho0) hb)
    have n8_ := Aside0.mk (Kd.R_lower (Kd.R_new' (Kd.R_new' (Kd.R_new' (Kd.R_new' (Kd.R_new' (Kd.R_new' (Kd.R_new' (Kd.R_new' ho0 (Kd.R_lt HO230.out)) (Kd.R_lt HO233.out)) (Kd.R_lt HO236.out)) (Kd.R_lt HO240.out)) (Kd.R_lt HO243.out)) (Kd.R_lt HO246.out)) (Kd.R_lt HO249.out)) (Kd.R_lt HO252.out)) (below_size HB.out))
    have n9_ := Aside0.mk (blk_below (g := gb227) (o := .cells #[.slice none 0 0, .slice none 0 0, .slice none 0 0, .slice none 0 0] 48 (0, 0)) BK227.out hb)
    have n10_ := Aside0.mk (blk_below (g := gb237) (o := .cells #[.slice Ao29 y228.length co29, .slice Ao28 y231.length co28, .slice Ao27 y234.length co27, .slice none 0 0] 48 (0, 0)) BK237.out hb)
    have n11_ := Aside0.mk (below_step HB.out hb)
    clear HO230 HO233 HO236 HO240 HO243 HO246 HO249 HO252 BK227 BK237 HB
    have HO230 := n0_
    have HO233 := n1_
    have HO236 := n2_
    have HO240 := n3_
    have HO243 := n4_
    have HO246 := n5_
    have HO249 := n6_
    have HO252 := n7_
    have HO255 := n8_
    have BK227 := n9_
    have BK237 := n10_
    have HB := n11_
    clear n0_ n1_ n2_ n3_ n4_ n5_ n6_ n7_ n8_ n9_ n10_ n11_
    (try clear hb)
    (try clear hb2)
    (try clear hk)
    (try clear hi)
    (try clear ho0)
    obtain ⟨Ao46, co46, eo46⟩ := Kd.R_slice HO255.out
    (first | subst eo46 | (injection eo46 with f1_ f2_ f3_; have f4_ := f1_.symm; have f5_ := f3_.symm; clear f1_ f2_ f3_; subst f4_; subst f5_))
    refine hK.out _ _ ⟨(blk_cell BK237.out 0).trans rfl, (blk_cell BK237.out 1).trans rfl, (blk_cell BK237.out 2).trans rfl, (blk_cell BK237.out 3).trans rfl⟩ (fun hHeld => ?_)
    clear hK K
    refine norm_ (a' := ?_) ?_ ?_
    rotate_left
    ·show Act.put _ (some 34) _ = _
     simp only [Act.put, pp_]
     rfl
    refine one_ (i := 4) (N := some 35) (bm 8 31) rfl rfl (one_of HT_.out (by kernel_rfl)) (by decide) (fun K hK => ?_)
    refine value_ (w1 := ?_) (v := ?_) (by rfl) rfl ?_ ?_
    rotate_left 2
    ·go_simp
     constructor
     ·rfl
     ·rfl
    refine hK.out _ _ ⟨(blk_cell (blk_alloc BK237.out _) 0).trans rfl, (blk_cell (blk_alloc BK237.out _) 1).trans rfl, (blk_cell (blk_alloc BK237.out _) 2).trans rfl, (blk_cell (blk_alloc BK237.out _) 3).trans rfl⟩ (fun hHeld => ?_)
    clear hK K
    refine norm_ (a' := ?_) ?_ ?_
    rotate_left
    ·show Act.put _ (some 35) _ = _
     simp only [Act.put, pp_]
     rfl
    refine one_ (i := 5) (N := some 36) (bm 8 63) rfl rfl (one_of HT_.out (by kernel_rfl)) (by decide) (fun K hK => ?_)
    refine Kd.S_append_step (Kd.slice 3 (Kd.int .i64)) (w0 := w) w.heap.size (by rfl) (.tmp 32) (.tmp 35) 46 24 (.slice none 0 0) 24 rfl Try.underlying46 info24 rfl (by decide) (by omega) (.slice none 0 0) ([] : List (List Int)) t253 [.slice Ao46 t253.length co46] (fun k_ => some k_ ≠ (.slice Ao29 y228.length co29 : Value).ownBlock ∧ some k_ ≠ (.slice Ao28 y231.length co28 : Value).ownBlock ∧ some k_ ≠ (.slice Ao27 y234.length co27 : Value).ownBlock ∧ some k_ ≠ (v239 : Value).ownBlock ∧ some k_ ≠ (v242 : Value).ownBlock ∧ some k_ ≠ (v245 : Value).ownBlock ∧ some k_ ≠ (.slice Ao40 y247.length co40 : Value).ownBlock ∧ some k_ ≠ (.slice Ao43 t250.length co43 : Value).ownBlock) (fun k_ => some k_ = (.slice Ao46 t253.length co46 : Value).ownBlock) rfl rfl ?aP (fun k_ hk_ => ((Kd.R_mono (ok' := fun k_ => ((fun k_ => some k_ ≠ (.slice Ao29 y228.length co29 : Value).ownBlock ∧ some k_ ≠ (.slice Ao28 y231.length co28 : Value).ownBlock ∧ some k_ ≠ (.slice Ao27 y234.length co27 : Value).ownBlock ∧ some k_ ≠ (v239 : Value).ownBlock ∧ some k_ ≠ (v242 : Value).ownBlock ∧ some k_ ≠ (v245 : Value).ownBlock ∧ some k_ ≠ (.slice Ao40 y247.length co40 : Value).ownBlock ∧ some k_ ≠ (.slice Ao43 t250.length co43 : Value).ownBlock)) k_ ∧ some k_ ≠ (.slice none 0 0 : Value).ownBlock) HO255.out (fun k_ hk => ⟨⟨hk.1.1.1.1.1.1.1.2, ⟨hk.1.1.1.1.1.1.2, ⟨hk.1.1.1.1.1.2, ⟨hk.1.1.1.1.2, ⟨hk.1.1.1.2, ⟨hk.1.1.2, ⟨hk.1.2, hk.2⟩⟩⟩⟩⟩⟩⟩, (by simp [Value.ownBlock])⟩))).1 k_ hk_.symm) ?aF ?aO ?aB ?aS ?aL ?_
    (case aP => exact Kd.M_row (Kd.R_mono (Kd.R_tight rfl (Kd.R_mono (ok' := fun k_ => ((fun k_ => some k_ ≠ (.slice Ao29 y228.length co29 : Value).ownBlock ∧ some k_ ≠ (.slice Ao28 y231.length co28 : Value).ownBlock ∧ some k_ ≠ (.slice Ao27 y234.length co27 : Value).ownBlock ∧ some k_ ≠ (v239 : Value).ownBlock ∧ some k_ ≠ (v242 : Value).ownBlock ∧ some k_ ≠ (v245 : Value).ownBlock ∧ some k_ ≠ (.slice Ao40 y247.length co40 : Value).ownBlock ∧ some k_ ≠ (.slice Ao43 t250.length co43 : Value).ownBlock)) k_ ∧ some k_ ≠ (.slice none 0 0 : Value).ownBlock) HO255.out (fun k_ hk => ⟨⟨hk.1.1.1.1.1.1.1.2, ⟨hk.1.1.1.1.1.1.2, ⟨hk.1.1.1.1.1.2, ⟨hk.1.1.1.1.2, ⟨hk.1.1.1.2, ⟨hk.1.1.2, ⟨hk.1.2, hk.2⟩⟩⟩⟩⟩⟩⟩, (by simp [Value.ownBlock])⟩))) (fun _ h_ => h_)))
    (case aB => exact HB.out)
    (case aF => exact (fun k_ hk => ⟨Kd.fresh' (Kd.R_lt HO230.out) k_ hk, Kd.fresh' (Kd.R_lt HO233.out) k_ hk, Kd.fresh' (Kd.R_lt HO236.out) k_ hk, Kd.fresh' (Kd.R_lt HO240.out) k_ hk, Kd.fresh' (Kd.R_lt HO243.out) k_ hk, Kd.fresh' (Kd.R_lt HO246.out) k_ hk, Kd.fresh' (Kd.R_lt HO249.out) k_ hk, Kd.fresh' (Kd.R_lt HO252.out) k_ hk⟩))
    (case aO => exact ((Kd.S_nil _ _ _ _ _)))
    (case aS => exact (below_size HB.out))
    (case aL => have := LMc9.out; omega)
    intro v257 w45 ho hb hg hat
    rw [← Ny256.out] at ho
    have n0_ := Aside0.mk (blk_grown (g := gb227) (o := .cells #[.slice none 0 0, .slice none 0 0, .slice none 0 0, .slice none 0 0] 48 (0, 0)) BK227.out hg (by simp [Value.ownBlock]))
    have n1_ := Aside0.mk (Kd.R_grown HO230.out hg (fun _ _ => by simp [Value.ownBlock]))
    have n2_ := Aside0.mk (Kd.R_grown HO233.out hg (fun _ _ => by simp [Value.ownBlock]))
    have n3_ := Aside0.mk (Kd.R_grown HO236.out hg (fun _ _ => by simp [Value.ownBlock]))
    have n4_ := Aside0.mk (blk_grown (g := gb237) (o := .cells #[.slice Ao29 y228.length co29, .slice Ao28 y231.length co28, .slice Ao27 y234.length co27, .slice none 0 0] 48 (0, 0)) BK237.out hg (by simp [Value.ownBlock]))
    have n5_ := Aside0.mk (Kd.R_grown HO240.out hg (fun _ _ => by simp [Value.ownBlock]))
    have n6_ := Aside0.mk (Kd.R_grown HO243.out hg (fun _ _ => by simp [Value.ownBlock]))
    have n7_ := Aside0.mk (Kd.R_grown HO246.out hg (fun _ _ => by simp [Value.ownBlock]))
    have n8_ := Aside0.mk (Kd.R_grown HO249.out hg (fun _ _ => by simp [Value.ownBlock]))
    have n9_ := Aside0.mk (Kd.R_grown HO252.out hg (fun _ _ => by simp [Value.ownBlock]))
    have n10_ := Aside0.mk (hb)
    have n11_ := Aside0.mk (ho)
    clear BK227 HO230 HO233 HO236 BK237 HO240 HO243 HO246 HO249 HO252 HB HO255
    have BK227 := n0_
    have HO230 := n1_
    have HO233 := n2_
    have HO236 := n3_
    have BK237 := n4_
    have HO240 := n5_
    have HO243 := n6_
    have HO246 := n7_
    have HO249 := n8_
    have HO252 := n9_
    have HB := n10_
    have HO258 := n11_
    clear n0_ n1_ n2_ n3_ n4_ n5_ n6_ n7_ n8_ n9_ n10_ n11_ ho hb hg hat
    obtain ⟨Ao47, co47, eo47⟩ := Kd.S_slice HO258.out
    (first | subst eo47 | (injection eo47 with f1_ f2_ f3_; have f4_ := f1_.symm; have f5_ := f3_.symm; clear f1_ f2_ f3_; subst f4_; subst f5_))
    refine hK.out _ _ ⟨(blk_cell BK237.out 0).trans rfl, (blk_cell BK237.out 1).trans rfl, (blk_cell BK237.out 2).trans rfl, (blk_cell BK237.out 3).trans rfl⟩ (fun hHeld => ?_)
    clear hK K
    refine norm_ (a' := ?_) ?_ ?_
    rotate_left
    ·show Act.put _ (some 36) _ = _
     simp only [Act.put, pp_]
     rfl
    refine pi_ (i := 6) (N := some 37) (v := ?_) (a' := ?_) (bm 8 127) rfl rfl HT_ (by kernel_rfl) (fun _ _ _ h => h) (Or.inl ⟨by rfl, ?_⟩) ?_ ?_
    rotate_left
    ·intro w'
     go_simp
     with_reducible rfl
    rotate_left
    ·simp only [Act.put, pp_]
     rfl
    refine last_ (i := 7) (N := none) (bm 8 255) rfl rfl (one_of HT_.out (by kernel_rfl)) (by decide) (fun K hK => ?_)
    have hs48 : w45.cell? ⟨gb237, 3, none⟩ = some (.slice none 0 0) := (blk_cell BK237.out 3).trans rfl
    have hfs48 := blk_frozen BK237.out 3
    have hns48_0 := NB227_237.out
    have hms48_0 := NB237_227.out
    refine skip_ (w1 := ?_) (by rfl) rfl ?_ ?_
    rotate_left
    ·go_simp
     rfl
    refine hK.out _ _ ?_
    clear hK K
    refine done_ (done_of HT_.out (by kernel_rfl)) ?_
    try go_wp2
    go_loopg [11, 12] k (fun kq v11 v12 w' => ∃ (x8_1 : List Int) (x9_1 : List Int) (x10_1 : List Int) (x11_1 : Int) (x12_1 : Int) (x238000_1 : List Int) (x238001_1 : List Int) (x238002_1 : List Int) (x238003_1 : List (List Int)) (u238000 : Value) (u238001 : Value) (u238002 : Value) (u238003 : Value), v11 = .int .i64 x11_1 ∧ v12 = .int .i64 x12_1 ∧ Aside0 (impl_board.l0 kq a0 a1 l2 x8_1 x9_1 x10_1 x11_1 x12_1 x238000_1 x238001_1 x238002_1 x238003_1 = some (r1, r2, r3, r4)) ∧ Aside0 (kq ≤ k) ∧ Aside0 (Kd.R (Kd.int .i64) 3 w' w.heap.size (fun k_ => some k_ ≠ (v245 : Value).ownBlock ∧ some k_ ≠ ((.slice Ao43 t250.length co43) : Value).ownBlock ∧ some k_ ≠ (u238000 : Value).ownBlock ∧ some k_ ≠ (u238001 : Value).ownBlock ∧ some k_ ≠ (u238002 : Value).ownBlock) v242 x8_1) ∧ Aside0 (Kd.R (Kd.int .i64) 3 w' w.heap.size (fun k_ => some k_ ≠ (v242 : Value).ownBlock ∧ some k_ ≠ ((.slice Ao43 t250.length co43) : Value).ownBlock ∧ some k_ ≠ (u238000 : Value).ownBlock ∧ some k_ ≠ (u238001 : Value).ownBlock ∧ some k_ ≠ (u238002 : Value).ownBlock) v245 x9_1) ∧ Aside0 (Kd.R (Kd.int .i64) 3 w' w.heap.size (fun k_ => some k_ ≠ (v242 : Value).ownBlock ∧ some k_ ≠ (v245 : Value).ownBlock ∧ some k_ ≠ (u238000 : Value).ownBlock ∧ some k_ ≠ (u238001 : Value).ownBlock ∧ some k_ ≠ (u238002 : Value).ownBlock) (.slice Ao43 t250.length co43) x10_1) ∧ Aside0 (Kd.R (Kd.int .i64) 3 w' w.heap.size (fun k_ => some k_ ≠ (v242 : Value).ownBlock ∧ some k_ ≠ (v245 : Value).ownBlock ∧ some k_ ≠ ((.slice Ao43 t250.length co43) : Value).ownBlock ∧ some k_ ≠ (u238001 : Value).ownBlock ∧ some k_ ≠ (u238002 : Value).ownBlock) u238000 x238000_1) ∧ Aside0 (Kd.R (Kd.int .i64) 3 w' w.heap.size (fun k_ => some k_ ≠ (v242 : Value).ownBlock ∧ some k_ ≠ (v245 : Value).ownBlock ∧ some k_ ≠ ((.slice Ao43 t250.length co43) : Value).ownBlock ∧ some k_ ≠ (u238000 : Value).ownBlock ∧ some k_ ≠ (u238002 : Value).ownBlock) u238001 x238001_1) ∧ Aside0 (Kd.R (Kd.int .i64) 3 w' w.heap.size (fun k_ => some k_ ≠ (v242 : Value).ownBlock ∧ some k_ ≠ (v245 : Value).ownBlock ∧ some k_ ≠ ((.slice Ao43 t250.length co43) : Value).ownBlock ∧ some k_ ≠ (u238000 : Value).ownBlock ∧ some k_ ≠ (u238001 : Value).ownBlock) u238002 x238002_1) ∧ Aside0 (Kd.S (Kd.slice 3 (Kd.int .i64)) 24 w' w.heap.size (fun k_ => some k_ ≠ (v242 : Value).ownBlock ∧ some k_ ≠ (v245 : Value).ownBlock ∧ some k_ ≠ ((.slice Ao43 t250.length co43) : Value).ownBlock ∧ some k_ ≠ (u238000 : Value).ownBlock ∧ some k_ ≠ (u238001 : Value).ownBlock ∧ some k_ ≠ (u238002 : Value).ownBlock) u238003 x238003_1) ∧ Aside0 (w'.heap[gb227]? = some (.cells #[(.slice none 0 0), (.slice none 0 0), (.slice none 0 0), (.slice none 0 0)] 48 (0, 0))) ∧ Aside0 (w'.heap[gb237]? = some (.cells #[u238000, u238001, u238002, u238003] 48 (0, 0))) ∧ Aside0 (Below w.heap.size w w'))
    case atStart => exact ⟨(t241), (y244), (t250), (a0), (1), (y228), (y231), (y234), (y256), (.slice Ao29 y228.length co29), (.slice Ao28 y231.length co28), (.slice Ao27 y234.length co27), (.slice Ao47 y256.length co47), (by first | rfl | (simp; done) | (simp [*]; done)), (by first | rfl | (simp; done) | (simp [*]; done)), H', ⟨Nat.le_refl _⟩, ⟨by (with_reducible repeat (first | apply Kd.R_alloc | apply Kd.R_drewN | apply Kd.R_drew)); exact Kd.R_mono (Kd.R_far (p := ⟨gb237, 3, none⟩) (Kd.R_types HO243.out BK237.out (by decide)) (fun _ hk => hk.2) (.slice Ao47 y256.length co47)) (fun _ hk => ⟨hk.1.1.1.1.2.2.2.2, ⟨hk.1.1.2, ⟨hk.1.1.1.1.1, ⟨hk.1.1.1.1.2.1, hk.1.1.1.1.2.2.1⟩⟩⟩⟩)⟩, ⟨by (with_reducible repeat (first | apply Kd.R_alloc | apply Kd.R_drewN | apply Kd.R_drew)); exact Kd.R_mono (Kd.R_far (p := ⟨gb237, 3, none⟩) (Kd.R_types HO246.out BK237.out (by decide)) (fun _ hk => hk.2) (.slice Ao47 y256.length co47)) (fun _ hk => ⟨hk.1.1.1.1.2.2.2.2, ⟨hk.1.1.2, ⟨hk.1.1.1.1.1, ⟨hk.1.1.1.1.2.1, hk.1.1.1.1.2.2.1⟩⟩⟩⟩)⟩, ⟨by (with_reducible repeat (first | apply Kd.R_alloc | apply Kd.R_drewN | apply Kd.R_drew)); exact Kd.R_mono (Kd.R_far (p := ⟨gb237, 3, none⟩) (Kd.R_types HO252.out BK237.out (by decide)) (fun _ hk => hk.2) (.slice Ao47 y256.length co47)) (fun _ hk => ⟨hk.1.1.1.1.2, ⟨hk.1.1.1.2, ⟨hk.1.1.1.1.1.1.1.1.2, ⟨hk.1.1.1.1.1.1.1.2, hk.1.1.1.1.1.1.2⟩⟩⟩⟩)⟩, ⟨by (with_reducible repeat (first | apply Kd.R_alloc | apply Kd.R_drewN | apply Kd.R_drew)); exact Kd.R_mono (Kd.R_far (p := ⟨gb237, 3, none⟩) (Kd.R_types HO230.out BK237.out (by decide)) (fun _ hk => hk.2) (.slice Ao47 y256.length co47)) (fun _ hk => ⟨hk.1.1.1.1.2.2.2.1, ⟨hk.1.1.1.1.2.2.2.2, ⟨hk.1.1.2, ⟨hk.1.1.1.1.1, hk.1.1.1.1.2.1⟩⟩⟩⟩)⟩, ⟨by (with_reducible repeat (first | apply Kd.R_alloc | apply Kd.R_drewN | apply Kd.R_drew)); exact Kd.R_mono (Kd.R_far (p := ⟨gb237, 3, none⟩) (Kd.R_types HO233.out BK237.out (by decide)) (fun _ hk => hk.2) (.slice Ao47 y256.length co47)) (fun _ hk => ⟨hk.1.1.1.1.2.2.2.1, ⟨hk.1.1.1.1.2.2.2.2, ⟨hk.1.1.2, ⟨hk.1.1.1.1.1, hk.1.1.1.1.2.1⟩⟩⟩⟩)⟩, ⟨by (with_reducible repeat (first | apply Kd.R_alloc | apply Kd.R_drewN | apply Kd.R_drew)); exact Kd.R_mono (Kd.R_far (p := ⟨gb237, 3, none⟩) (Kd.R_types HO236.out BK237.out (by decide)) (fun _ hk => hk.2) (.slice Ao47 y256.length co47)) (fun _ hk => ⟨hk.1.1.1.1.2.2.2.1, ⟨hk.1.1.1.1.2.2.2.2, ⟨hk.1.1.2, ⟨hk.1.1.1.1.1, hk.1.1.1.1.2.1⟩⟩⟩⟩)⟩, ⟨by (with_reducible repeat (first | apply Kd.S_alloc | apply Kd.S_drewN | apply Kd.S_drew)); exact Kd.S_mono (Kd.S_far (p := ⟨gb237, 3, none⟩) (Kd.S_types HO258.out BK237.out (by decide)) (fun _ hk => hk.2) (.slice Ao47 y256.length co47)) (fun _ hk => ⟨hk.1.2.2.2.2.1, ⟨hk.1.2.2.2.2.2.1, ⟨hk.1.2.2.2.2.2.2.2, ⟨hk.1.1, ⟨hk.1.2.1, hk.1.2.2.1⟩⟩⟩⟩⟩)⟩, ⟨by (with_reducible repeat (first | refine blk_drewN ?_ _ | refine blk_drew ?_ | refine blk_alloc ?_ _)); refine blk_far ?_ NB227_237.out _; (with_reducible repeat (first | refine blk_drewN ?_ _ | refine blk_drew ?_ | refine blk_alloc ?_ _)); exact BK227.out⟩, ⟨by (with_reducible repeat (first | refine blk_drewN ?_ _ | refine blk_drew ?_ | refine blk_alloc ?_ _)); refine blk_put (cs := #[.slice Ao29 y228.length co29, .slice Ao28 y231.length co28, .slice Ao27 y234.length co27, .slice none 0 0]) ?_ 3 _ rfl; (with_reducible repeat (first | refine blk_drewN ?_ _ | refine blk_drew ?_ | refine blk_alloc ?_ _)); exact BK237.out⟩, ⟨by repeat (first | (with_reducible first | exact HB.out | apply below_alloc | apply pw_below_drewN | apply below_drew1 | refine below_set ?_ GE227.out | refine below_set ?_ GE237.out) | exact HB.out)⟩⟩
    case round =>
     clear H'
     try clear p2
     try clear c3
     try clear c4
     try clear c9
     try clear c39
     try clear c43
     obtain ⟨x8_1, x9_1, x10_1, x11_1, x12_1, x238000_1, x238001_1, x238002_1, x238003_1, u238000, u238001, u238002, u238003, rfl, rfl, HA, HK1, HO_8, HO_9, HO_10, HO_238000, HO_238001, HO_238002, HO_238003, BK227, BK237, HB⟩ := hrel
     have hl10_1 := (Kd.R_reads' HO_10.out).1
     rw [hl10_1] at HO_10
     (try simp only [hl10_1])
     (try simp only [hl10_1] at BK227)
     (try simp only [hl10_1] at BK237)
     (try simp only [hl10_1] at HO_8)
     (try simp only [hl10_1] at HO_9)
     (try simp only [hl10_1] at HO_238000)
     (try simp only [hl10_1] at HO_238001)
     (try simp only [hl10_1] at HO_238002)
     (try simp only [hl10_1] at HO_238003)
     cases gk with
     | zero => exact absurd HA.out (by simp [impl_board.l0])
     | succ k1 =>
      have H := HA.out
      clear HA
      simp only [impl_board.l0] at H
      by_cases c49 : x11_1 > 0
      ·rw [if_pos c49] at H
       have c49b0 : decide (0 < x11_1) = true := decide_eq_true c49
       clear c49
       have H' := Aside0.mk H
       clear H
       go_wp2
       go_loopg [11, 45] k1 (fun kq v11 v45 w' => ∃ (x8_2 : List Int) (x9_2 : List Int) (x10_2 : List Int) (x11_2 : Int) (x45_2 : Int) (x238000_2 : List Int) (x238001_2 : List Int) (x238002_2 : List Int) (u238000 : Value) (u238001 : Value) (u238002 : Value), v11 = .int .i64 x11_2 ∧ v45 = .int .i64 x45_2 ∧ Aside0 (impl_board.l1 kq a0 a1 l2 x8_2 x9_2 x10_2 x11_2 x12_1 l2 (l2.length : Int) x45_2 x238000_2 x238001_2 x238002_2 x238003_1 = some (r1, r2, r3, r4)) ∧ Aside0 (kq ≤ k1) ∧ Aside0 (Kd.R (Kd.int .i64) 3 w' w.heap.size (fun k_ => some k_ ≠ (v245 : Value).ownBlock ∧ some k_ ≠ ((.slice Ao43 x10_1.length co43) : Value).ownBlock ∧ some k_ ≠ (u238000 : Value).ownBlock ∧ some k_ ≠ (u238001 : Value).ownBlock ∧ some k_ ≠ (u238002 : Value).ownBlock) v242 x8_2) ∧ Aside0 (Kd.R (Kd.int .i64) 3 w' w.heap.size (fun k_ => some k_ ≠ (v242 : Value).ownBlock ∧ some k_ ≠ ((.slice Ao43 x10_1.length co43) : Value).ownBlock ∧ some k_ ≠ (u238000 : Value).ownBlock ∧ some k_ ≠ (u238001 : Value).ownBlock ∧ some k_ ≠ (u238002 : Value).ownBlock) v245 x9_2) ∧ Aside0 (Kd.R (Kd.int .i64) 3 w' w.heap.size (fun k_ => some k_ ≠ (v242 : Value).ownBlock ∧ some k_ ≠ (v245 : Value).ownBlock ∧ some k_ ≠ (u238000 : Value).ownBlock ∧ some k_ ≠ (u238001 : Value).ownBlock ∧ some k_ ≠ (u238002 : Value).ownBlock) (.slice Ao43 x10_1.length co43) x10_2) ∧ Aside0 (Kd.R (Kd.int .i64) 3 w' w.heap.size (fun k_ => some k_ ≠ (v242 : Value).ownBlock ∧ some k_ ≠ (v245 : Value).ownBlock ∧ some k_ ≠ ((.slice Ao43 x10_1.length co43) : Value).ownBlock ∧ some k_ ≠ (u238001 : Value).ownBlock ∧ some k_ ≠ (u238002 : Value).ownBlock) u238000 x238000_2) ∧ Aside0 (Kd.R (Kd.int .i64) 3 w' w.heap.size (fun k_ => some k_ ≠ (v242 : Value).ownBlock ∧ some k_ ≠ (v245 : Value).ownBlock ∧ some k_ ≠ ((.slice Ao43 x10_1.length co43) : Value).ownBlock ∧ some k_ ≠ (u238000 : Value).ownBlock ∧ some k_ ≠ (u238002 : Value).ownBlock) u238001 x238001_2) ∧ Aside0 (Kd.R (Kd.int .i64) 3 w' w.heap.size (fun k_ => some k_ ≠ (v242 : Value).ownBlock ∧ some k_ ≠ (v245 : Value).ownBlock ∧ some k_ ≠ ((.slice Ao43 x10_1.length co43) : Value).ownBlock ∧ some k_ ≠ (u238000 : Value).ownBlock ∧ some k_ ≠ (u238001 : Value).ownBlock) u238002 x238002_2) ∧ Aside0 (Kd.S (Kd.slice 3 (Kd.int .i64)) 24 w' w.heap.size (fun k_ => some k_ ≠ (v242 : Value).ownBlock ∧ some k_ ≠ (v245 : Value).ownBlock ∧ some k_ ≠ ((.slice Ao43 x10_1.length co43) : Value).ownBlock ∧ some k_ ≠ (u238000 : Value).ownBlock ∧ some k_ ≠ (u238001 : Value).ownBlock ∧ some k_ ≠ (u238002 : Value).ownBlock) u238003 x238003_1) ∧ Aside0 (w'.heap[gb227]? = some (.cells #[(.slice none 0 0), (.slice none 0 0), (.slice none 0 0), (.slice none 0 0)] 48 (0, 0))) ∧ Aside0 (w'.heap[gb237]? = some (.cells #[u238000, u238001, u238002, u238003] 48 (0, 0))) ∧ Aside0 (Below w.heap.size w w'))
       case atStart => exact ⟨(x8_1), (x9_1), (x10_1), (x11_1), (0), (x238000_1), (x238001_1), (x238002_1), (u238000), (u238001), (u238002), (by first | rfl | (simp; done) | (simp [*]; done)), (by first | rfl | (simp; done) | (simp [*]; done)), H', ⟨Nat.le_refl _⟩, ⟨by (try simp only [hl10_1]); (with_reducible repeat (first | apply Kd.R_alloc | apply Kd.R_drewN | apply Kd.R_drew)); exact HO_8.out⟩, ⟨by (try simp only [hl10_1]); (with_reducible repeat (first | apply Kd.R_alloc | apply Kd.R_drewN | apply Kd.R_drew)); exact HO_9.out⟩, ⟨by (try simp only [hl10_1]); (with_reducible repeat (first | apply Kd.R_alloc | apply Kd.R_drewN | apply Kd.R_drew)); exact HO_10.out⟩, ⟨by (try simp only [hl10_1]); (with_reducible repeat (first | apply Kd.R_alloc | apply Kd.R_drewN | apply Kd.R_drew)); exact HO_238000.out⟩, ⟨by (try simp only [hl10_1]); (with_reducible repeat (first | apply Kd.R_alloc | apply Kd.R_drewN | apply Kd.R_drew)); exact HO_238001.out⟩, ⟨by (try simp only [hl10_1]); (with_reducible repeat (first | apply Kd.R_alloc | apply Kd.R_drewN | apply Kd.R_drew)); exact HO_238002.out⟩, ⟨by (try simp only [hl10_1]); (with_reducible repeat (first | apply Kd.S_alloc | apply Kd.S_drewN | apply Kd.S_drew)); exact HO_238003.out⟩, ⟨by (try simp only [hl10_1]); first | (with_reducible exact BK227.out) | ((with_reducible repeat (first | refine blk_drewN ?_ _ | refine blk_drew ?_ | refine blk_alloc ?_ _)); exact BK227.out)⟩, ⟨by (try simp only [hl10_1]); first | (with_reducible exact BK237.out) | ((with_reducible repeat (first | refine blk_drewN ?_ _ | refine blk_drew ?_ | refine blk_alloc ?_ _)); exact BK237.out)⟩, ⟨HB.out⟩⟩
       case round =>
        clear H'
        try clear p2
        try clear c3
        try clear c4
        try clear c9
        try clear c39
        try clear c43
        try clear c49
        try clear c49b0
        try clear p2
        obtain ⟨x8_2, x9_2, x10_2, x11_2, x45_2, x238000_2, x238001_2, x238002_2, u238000, u238001, u238002, rfl, rfl, HA, HK2, HO_8, HO_9, HO_10, HO_238000, HO_238001, HO_238002, HO_238003, BK227, BK237, HB⟩ := hrel
        have hl10_2 := (Kd.R_reads' HO_10.out).1
        rw [hl10_2] at HO_10
        (try simp only [hl10_2])
        (try simp only [hl10_2] at BK227)
        (try simp only [hl10_2] at BK237)
        (try simp only [hl10_2] at HO_8)
        (try simp only [hl10_2] at HO_9)
        (try simp only [hl10_2] at HO_238000)
        (try simp only [hl10_2] at HO_238001)
        (try simp only [hl10_2] at HO_238002)
        (try simp only [hl10_2] at HO_238003)
        cases gk with
        | zero => exact absurd HA.out (by simp [impl_board.l1])
        | succ k2 =>
         have H := HA.out
         clear HA
         simp only [impl_board.l1] at H
         by_cases c50 : x45_2 < (l2.length : Int)
         ·rw [if_pos c50] at H
          have c50b0 : decide (x45_2 < (l2.length : Int)) = true := decide_eq_true c50
          clear c50
          by_cases c51 : 0 ≤ x45_2
          ·rw [if_pos c51] at H
           have c51b0 : decide (0 ≤ x45_2) = true := decide_eq_true c51
           clear c51
           by_cases c52 : x45_2 < (l2.length : Int)
           ·rw [if_pos c52] at H
            have c52b0 : decide (x45_2 < (l2.length : Int)) = true := decide_eq_true c52
            clear c52
            by_cases c53 : 0 ≤ (rd l2 x45_2)
            ·rw [if_pos c53] at H
             have c53b0 : decide (0 ≤ (rd l2 x45_2)) = true := decide_eq_true c53
             clear c53
             by_cases c54 : (rd l2 x45_2) < (x8_2.length : Int)
             ·rw [if_pos c54] at H
              have c54b0 : decide ((rd l2 x45_2) < (x8_2.length : Int)) = true := decide_eq_true c54
              clear c54
              by_cases c55 : (rd x8_2 (rd l2 x45_2)) = a0
              ·rw [if_pos c55] at H
               have c55b0 : ((rd x8_2 (rd l2 x45_2)) == a0) = true := beq_iff_eq.mpr c55
               have c55b1 : ((rd x8_2 (rd l2 x45_2)) != a0) = false := bne_eq_false_iff_eq.mpr c55
               clear c55
               have H' := Aside0.mk H
               clear H
               have p265 : 0 ≤ (x45_2 : Int) := of_decide_eq_true (by first | (with_reducible assumption) | assumption)
               have q265 : x45_2 < (l2.length : Int) := of_decide_eq_true (by first | (with_reducible assumption) | assumption)
               obtain ⟨ad265, e265, hx265_0⟩ := Kd.at_int HR2.out x45_2 p265 q265
               cases e265
               (try replace hx265_0 := (HB.out.cell (World.block_lt_of_cell? w _ hx265_0)).trans hx265_0)
               replace p265 := eq_true p265
               replace q265 := eq_true q265
               obtain ⟨Ao56, co56, eo56⟩ := Kd.R_slice HO_8.out
               subst eo56
               have p266 : 0 ≤ ((rd l2 x45_2) : Int) := of_decide_eq_true (by first | (with_reducible assumption) | assumption)
               have q266 : (rd l2 x45_2) < (x8_2.length : Int) := of_decide_eq_true (by first | (with_reducible assumption) | assumption)
               obtain ⟨ad266, e266, hx266_0⟩ := Kd.at_int (Kd.R_reads' HO_8.out).2.2 (rd l2 x45_2) p266 q266
               cases e266
               replace p266 := eq_true p266
               replace q266 := eq_true q266
               go_wp2
               (try simp only [← hl10_2])
               go_roundg k2
               case measure => have := HK1.out; have := HK2.out; omega
               case rel => exact ⟨(x8_2), (x9_2), (x10_2), (x11_2), (wrap64 (x45_2 + 1)), (x238000_2), (x238001_2), (x238002_2), (u238000), (u238001), (u238002), (by first | rfl | (simp; done) | (simp [*]; done)), (by first | rfl | (simp; done) | (simp [*]; done)), H', ⟨by have := HK1.out; have := HK2.out; omega⟩, ⟨by (try simp only [hl10_1]); (try simp only [hl10_2]); (with_reducible repeat (first | apply Kd.R_alloc | apply Kd.R_drewN | apply Kd.R_drew)); exact HO_8.out⟩, ⟨by (try simp only [hl10_1]); (try simp only [hl10_2]); (with_reducible repeat (first | apply Kd.R_alloc | apply Kd.R_drewN | apply Kd.R_drew)); exact HO_9.out⟩, ⟨by (try simp only [hl10_1]); (try simp only [hl10_2]); (with_reducible repeat (first | apply Kd.R_alloc | apply Kd.R_drewN | apply Kd.R_drew)); exact HO_10.out⟩, ⟨by (try simp only [hl10_1]); (try simp only [hl10_2]); (with_reducible repeat (first | apply Kd.R_alloc | apply Kd.R_drewN | apply Kd.R_drew)); exact HO_238000.out⟩, ⟨by (try simp only [hl10_1]); (try simp only [hl10_2]); (with_reducible repeat (first | apply Kd.R_alloc | apply Kd.R_drewN | apply Kd.R_drew)); exact HO_238001.out⟩, ⟨by (try simp only [hl10_1]); (try simp only [hl10_2]); (with_reducible repeat (first | apply Kd.R_alloc | apply Kd.R_drewN | apply Kd.R_drew)); exact HO_238002.out⟩, ⟨by (try simp only [hl10_1]); (try simp only [hl10_2]); (with_reducible repeat (first | apply Kd.S_alloc | apply Kd.S_drewN | apply Kd.S_drew)); exact HO_238003.out⟩, ⟨by (try simp only [hl10_1]); (try simp only [hl10_2]); first | (with_reducible exact BK227.out) | ((with_reducible repeat (first | refine blk_drewN ?_ _ | refine blk_drew ?_ | refine blk_alloc ?_ _)); exact BK227.out)⟩, ⟨by (try simp only [hl10_1]); (try simp only [hl10_2]); first | (with_reducible exact BK237.out) | ((with_reducible repeat (first | refine blk_drewN ?_ _ | refine blk_drew ?_ | refine blk_alloc ?_ _)); exact BK237.out)⟩, ⟨HB.out⟩⟩
              ·rw [if_neg c55] at H
               have c55b0 : ((rd x8_2 (rd l2 x45_2)) == a0) = false := beq_eq_false_iff_ne.mpr c55
               have c55b1 : ((rd x8_2 (rd l2 x45_2)) != a0) = true := bne_iff_ne.mpr c55
               by_cases c57 : (rd x8_2 (rd l2 x45_2)) = (rd l2 x45_2)
               ·rw [if_pos c57] at H
                have c57b0 : ((rd x8_2 (rd l2 x45_2)) == (rd l2 x45_2)) = true := beq_iff_eq.mpr c57
                have c57b1 : ((rd x8_2 (rd l2 x45_2)) != (rd l2 x45_2)) = false := bne_eq_false_iff_eq.mpr c57
                clear c57
                by_cases c58 : (rd l2 x45_2) < (x9_2.length : Int)
                ·rw [if_pos c58] at H
                 have c58b0 : decide ((rd l2 x45_2) < (x9_2.length : Int)) = true := decide_eq_true c58
                 clear c58
                 obtain ⟨y268, hy268⟩ : ∃ y_ : List Int, y_ = (x9_2.set ((rd l2 x45_2) : Int).toNat (wrap64 ((rd x9_2 (rd l2 x45_2)) + 1))) := ⟨_, rfl⟩
                 replace H : (if (rd y268 (rd l2 x45_2)) = a1 then (if 0 ≤ (rd x8_2 (rd l2 x45_2)) then (if (rd x8_2 (rd l2 x45_2)) < (x10_2.length : Int) then (if (rd l2 x45_2) < (x238000_2.length : Int) then (impl_board.l1 k2 a0 a1 l2 (x8_2.set ((rd l2 x45_2) : Int).toNat a0) y268 (x10_2.set ((rd x8_2 (rd l2 x45_2)) : Int).toNat (-1)) (wrap64 (x11_2 - 1)) x12_1 l2 (l2.length : Int) (wrap64 (x45_2 + 1)) (x238000_2.set ((rd l2 x45_2) : Int).toNat x12_1) x238001_2 x238002_2 x238003_1) else (none)) else (none)) else (none)) else (impl_board.l1 k2 a0 a1 l2 x8_2 y268 x10_2 x11_2 x12_1 l2 (l2.length : Int) (wrap64 (x45_2 + 1)) x238000_2 x238001_2 x238002_2 x238003_1)) = some (r1, r2, r3, r4) := by first | (rw [hy268]; with_reducible exact H) | (have H2_ := (Option.bind_some _ _).symm.trans H; rw [hy268]; with_reducible exact H2_) | (have H2_ := (Option.bind_some _ _).symm.trans H; with_reducible exact H2_) | with_reducible exact H | (rw [hy268]; exact H) | exact H
                 have Ny268 := Aside0.mk hy268
                 clear hy268
                 by_cases c60 : (rd y268 (rd l2 x45_2)) = a1
                 ·rw [if_pos c60] at H
                  have c60b0 : ((rd y268 (rd l2 x45_2)) == a1) = true := beq_iff_eq.mpr c60
                  have c60b1 : ((rd y268 (rd l2 x45_2)) != a1) = false := bne_eq_false_iff_eq.mpr c60
                  clear c60
                  by_cases c61 : 0 ≤ (rd x8_2 (rd l2 x45_2))
                  ·rw [if_pos c61] at H
                   have c61b0 : decide (0 ≤ (rd x8_2 (rd l2 x45_2))) = true := decide_eq_true c61
                   clear c61
                   by_cases c62 : (rd x8_2 (rd l2 x45_2)) < (x10_2.length : Int)
                   ·rw [if_pos c62] at H
                    have c62b0 : decide ((rd x8_2 (rd l2 x45_2)) < (x10_2.length : Int)) = true := decide_eq_true c62
                    clear c62
                    obtain ⟨y270, hy270⟩ : ∃ y_ : List Int, y_ = (x10_2.set ((rd x8_2 (rd l2 x45_2)) : Int).toNat (-1)) := ⟨_, rfl⟩
                    replace H : (if (rd l2 x45_2) < (x238000_2.length : Int) then (impl_board.l1 k2 a0 a1 l2 (x8_2.set ((rd l2 x45_2) : Int).toNat a0) y268 y270 (wrap64 (x11_2 - 1)) x12_1 l2 (l2.length : Int) (wrap64 (x45_2 + 1)) (x238000_2.set ((rd l2 x45_2) : Int).toNat x12_1) x238001_2 x238002_2 x238003_1) else (none)) = some (r1, r2, r3, r4) := by first | (rw [hy270]; with_reducible exact H) | (have H2_ := (Option.bind_some _ _).symm.trans H; rw [hy270]; with_reducible exact H2_) | (have H2_ := (Option.bind_some _ _).symm.trans H; with_reducible exact H2_) | with_reducible exact H | (rw [hy270]; exact H) | exact H
                    have Ny270 := Aside0.mk hy270
                    clear hy270
                    obtain ⟨y271, hy271⟩ : ∃ y_ : List Int, y_ = (x8_2.set ((rd l2 x45_2) : Int).toNat a0) := ⟨_, rfl⟩
                    replace H : (if (rd l2 x45_2) < (x238000_2.length : Int) then (impl_board.l1 k2 a0 a1 l2 y271 y268 y270 (wrap64 (x11_2 - 1)) x12_1 l2 (l2.length : Int) (wrap64 (x45_2 + 1)) (x238000_2.set ((rd l2 x45_2) : Int).toNat x12_1) x238001_2 x238002_2 x238003_1) else (none)) = some (r1, r2, r3, r4) := by first | (rw [hy271]; with_reducible exact H) | (have H2_ := (Option.bind_some _ _).symm.trans H; rw [hy271]; with_reducible exact H2_) | (have H2_ := (Option.bind_some _ _).symm.trans H; with_reducible exact H2_) | with_reducible exact H | (rw [hy271]; exact H) | exact H
                    have Ny271 := Aside0.mk hy271
                    clear hy271
                    by_cases c65 : (rd l2 x45_2) < (x238000_2.length : Int)
                    ·rw [if_pos c65] at H
                     have c65b0 : decide ((rd l2 x45_2) < (x238000_2.length : Int)) = true := decide_eq_true c65
                     clear c65
                     obtain ⟨y272, hy272⟩ : ∃ y_ : List Int, y_ = (x238000_2.set ((rd l2 x45_2) : Int).toNat x12_1) := ⟨_, rfl⟩
                     replace H : (impl_board.l1 k2 a0 a1 l2 y271 y268 y270 (wrap64 (x11_2 - 1)) x12_1 l2 (l2.length : Int) (wrap64 (x45_2 + 1)) y272 x238001_2 x238002_2 x238003_1) = some (r1, r2, r3, r4) := by first | (rw [hy272]; with_reducible exact H) | (have H2_ := (Option.bind_some _ _).symm.trans H; rw [hy272]; with_reducible exact H2_) | (have H2_ := (Option.bind_some _ _).symm.trans H; with_reducible exact H2_) | with_reducible exact H | (rw [hy272]; exact H) | exact H
                     have Ny272 := Aside0.mk hy272
                     clear hy272
                     have H' := Aside0.mk H
                     clear H
                     have p265 : 0 ≤ (x45_2 : Int) := of_decide_eq_true (by first | (with_reducible assumption) | assumption)
                     have q265 : x45_2 < (l2.length : Int) := of_decide_eq_true (by first | (with_reducible assumption) | assumption)
                     obtain ⟨ad265, e265, hx265_0⟩ := Kd.at_int HR2.out x45_2 p265 q265
                     cases e265
                     (try replace hx265_0 := (HB.out.cell (World.block_lt_of_cell? w _ hx265_0)).trans hx265_0)
                     replace p265 := eq_true p265
                     replace q265 := eq_true q265
                     obtain ⟨Ao67, co67, eo67⟩ := Kd.R_slice HO_8.out
                     subst eo67
                     have p266 : 0 ≤ ((rd l2 x45_2) : Int) := of_decide_eq_true (by first | (with_reducible assumption) | assumption)
                     have q266 : (rd l2 x45_2) < (x8_2.length : Int) := of_decide_eq_true (by first | (with_reducible assumption) | assumption)
                     obtain ⟨ad266, e266, hx266_0⟩ := Kd.at_int (Kd.R_reads' HO_8.out).2.2 (rd l2 x45_2) p266 q266
                     cases e266
                     replace p266 := eq_true p266
                     replace q266 := eq_true q266
                     obtain ⟨Ao68, co68, eo68⟩ := Kd.R_slice HO_9.out
                     subst eo68
                     have p267 : 0 ≤ ((rd l2 x45_2) : Int) := of_decide_eq_true (by first | (with_reducible assumption) | assumption)
                     have q267 : (rd l2 x45_2) < (x9_2.length : Int) := of_decide_eq_true (by first | (with_reducible assumption) | assumption)
                     obtain ⟨ad267, e267, hx267_0⟩ := Kd.at_int (Kd.R_reads' HO_9.out).2.2 (rd l2 x45_2) p267 q267
                     cases e267
                     replace p267 := eq_true p267
                     replace q267 := eq_true q267
                     have p59 : 0 ≤ ((rd l2 x45_2) : Int) := of_decide_eq_true (by first | (with_reducible assumption) | assumption)
                     have q59 : ((rd l2 x45_2) : Int) < ((x9_2.length : Int) : Int) := of_decide_eq_true (by first | (with_reducible assumption) | assumption)
                     obtain ⟨go59, co59, eo59, gb59, gl59, cl59, HG59⟩ := Kd.R_form HO_9.out (by omega)
                     (first | cases eo59 | (injection eo59 with ea_ en_ ec_; (first | subst ea_ | (injection ea_ with ea_; subst ea_)); subst ec_; clear en_))
                     have GB59 := Aside0.mk gb59
                     have GG59 := Aside0.mk HG59
                     clear gb59 gl59 HG59
                     (first | simp only [add_plain] at hx267_0 | skip)
                     obtain ⟨hx59_0, hf59_0⟩ := Kd.R_celln 0 HO_9.out ((rd l2 x45_2) : Int) p59 q59
                     replace p59 := eq_true p59
                     replace q59 := eq_true q59
                     have HP69 := Kd.R_putg HO_9.out ((rd l2 x45_2) : Int) (wrap64 ((rd x9_2 (rd l2 x45_2)) + 1))
                     try go_wp2_with (first | ((with_reducible refine gate_store (t := 3) (p := 66) rfl ?_); refine store_event (t := 3) (p := 66) (v := ?vo_w70) (w1 := (wr.setCell ⟨go59, ((rd l2 x45_2) : Int).toNat, none⟩ (.int .i64 (wrap64 ((rd x9_2 (rd l2 x45_2)) + 1))))) ?hg ?ho ?hn ?hr ?_; (case ho => rfl); (case hg => rfl); (case hn => rfl); (case hr => first | (go_simp; done) | (go_simp; rfl)); intro w70 hw; have hg : wr.grownBy w70 (some go59) := (by rw [hw]; exact HP69.2); have hp_ : Kd.R (Kd.int .i64) 3 w70 w.heap.size (fun k_ => some k_ ≠ (.slice (some ad266) x8_2.length co67 : Value).ownBlock ∧ some k_ ≠ (.slice Ao43 x10_2.length co43 : Value).ownBlock ∧ some k_ ≠ (u238000 : Value).ownBlock ∧ some k_ ≠ (u238001 : Value).ownBlock ∧ some k_ ≠ (u238002 : Value).ownBlock) (.slice (some ⟨go59, 0, none⟩) x9_2.length co68) y268 := (by rw [hw, Ny268.out]; exact HP69.1); clear HP69; have n0_ := Aside0.mk (Kd.R_after (v := (.slice (some ⟨go59, 0, none⟩) x9_2.length co68)) (v1 := (.slice (some ⟨go59, 0, none⟩) x9_2.length co68)) (ok := (fun k_ => some k_ ≠ (.slice Ao43 x10_2.length co43 : Value).ownBlock ∧ some k_ ≠ (u238000 : Value).ownBlock ∧ some k_ ≠ (u238001 : Value).ownBlock ∧ some k_ ≠ (u238002 : Value).ownBlock)) (Kd.R_mono HO_8.out (fun _ hk => ⟨⟨hk.2.1, ⟨hk.2.2.1, ⟨hk.2.2.2.1, hk.2.2.2.2⟩⟩⟩, hk.1⟩)) hg (.inl rfl)); have n1_ := Aside0.mk (hp_); have n2_ := Aside0.mk (Kd.R_after (v := (.slice (some ⟨go59, 0, none⟩) x9_2.length co68)) (v1 := (.slice (some ⟨go59, 0, none⟩) x9_2.length co68)) (ok := (fun k_ => some k_ ≠ (.slice (some ad266) x8_2.length co67 : Value).ownBlock ∧ some k_ ≠ (u238000 : Value).ownBlock ∧ some k_ ≠ (u238001 : Value).ownBlock ∧ some k_ ≠ (u238002 : Value).ownBlock)) (Kd.R_mono HO_10.out (fun _ hk => ⟨⟨hk.1, ⟨hk.2.2.1, ⟨hk.2.2.2.1, hk.2.2.2.2⟩⟩⟩, hk.2.1⟩)) hg (.inl rfl)); have n3_ := Aside0.mk (Kd.R_after (v := (.slice (some ⟨go59, 0, none⟩) x9_2.length co68)) (v1 := (.slice (some ⟨go59, 0, none⟩) x9_2.length co68)) (ok := (fun k_ => some k_ ≠ (.slice (some ad266) x8_2.length co67 : Value).ownBlock ∧ some k_ ≠ (.slice Ao43 x10_2.length co43 : Value).ownBlock ∧ some k_ ≠ (u238001 : Value).ownBlock ∧ some k_ ≠ (u238002 : Value).ownBlock)) (Kd.R_mono HO_238000.out (fun _ hk => ⟨⟨hk.1, ⟨hk.2.2.1, ⟨hk.2.2.2.1, hk.2.2.2.2⟩⟩⟩, hk.2.1⟩)) hg (.inl rfl)); have n4_ := Aside0.mk (Kd.R_after (v := (.slice (some ⟨go59, 0, none⟩) x9_2.length co68)) (v1 := (.slice (some ⟨go59, 0, none⟩) x9_2.length co68)) (ok := (fun k_ => some k_ ≠ (.slice (some ad266) x8_2.length co67 : Value).ownBlock ∧ some k_ ≠ (.slice Ao43 x10_2.length co43 : Value).ownBlock ∧ some k_ ≠ (u238000 : Value).ownBlock ∧ some k_ ≠ (u238002 : Value).ownBlock)) (Kd.R_mono HO_238001.out (fun _ hk => ⟨⟨hk.1, ⟨hk.2.2.1, ⟨hk.2.2.2.1, hk.2.2.2.2⟩⟩⟩, hk.2.1⟩)) hg (.inl rfl)); have n5_ := Aside0.mk (Kd.R_after (v := (.slice (some ⟨go59, 0, none⟩) x9_2.length co68)) (v1 := (.slice (some ⟨go59, 0, none⟩) x9_2.length co68)) (ok := (fun k_ => some k_ ≠ (.slice (some ad266) x8_2.length co67 : Value).ownBlock ∧ some k_ ≠ (.slice Ao43 x10_2.length co43 : Value).ownBlock ∧ some k_ ≠ (u238000 : Value).ownBlock ∧ some k_ ≠ (u238001 : Value).ownBlock)) (Kd.R_mono HO_238002.out (fun _ hk => ⟨⟨hk.1, ⟨hk.2.2.1, ⟨hk.2.2.2.1, hk.2.2.2.2⟩⟩⟩, hk.2.1⟩)) hg (.inl rfl)); have n6_ := Aside0.mk (Kd.S_after (v := (.slice (some ⟨go59, 0, none⟩) x9_2.length co68)) (v1 := (.slice (some ⟨go59, 0, none⟩) x9_2.length co68)) (ok := (fun k_ => some k_ ≠ (.slice (some ad266) x8_2.length co67 : Value).ownBlock ∧ some k_ ≠ (.slice Ao43 x10_2.length co43 : Value).ownBlock ∧ some k_ ≠ (u238000 : Value).ownBlock ∧ some k_ ≠ (u238001 : Value).ownBlock ∧ some k_ ≠ (u238002 : Value).ownBlock)) (by (with_reducible repeat (first | apply Kd.S_alloc | apply Kd.S_drewN | apply Kd.S_drew)); exact Kd.S_mono HO_238003.out (fun _ hk => ⟨⟨hk.1, ⟨hk.2.2.1, ⟨hk.2.2.2.1, ⟨hk.2.2.2.2.1, hk.2.2.2.2.2⟩⟩⟩⟩, hk.2.1⟩)) hg (.inl rfl)); have n7_ := Aside0.mk (blk_grown (g := gb227) (o := .cells #[.slice none 0 0, .slice none 0 0, .slice none 0 0, .slice none 0 0] 48 (0, 0)) BK227.out hg (Kd.R_ne HO_9.out BK227.out (by decide))); have n8_ := Aside0.mk (blk_grown (g := gb237) (o := .cells #[u238000, u238001, u238002, u238003] 48 (0, 0)) BK237.out hg (Kd.R_ne HO_9.out BK237.out (by decide))); have n9_ := Aside0.mk ((by rw [hw]; exact below_set HB.out GB59.out : Below w.heap.size w w70)); clear HO_8 HO_9 HO_10 HO_238000 HO_238001 HO_238002 HO_238003 BK227 BK237 HB; have HO_8 := n0_; have HO_9 := n1_; have HO_10 := n2_; have HO_238000 := n3_; have HO_238001 := n4_; have HO_238002 := n5_; have HO_238003 := n6_; have BK227 := n7_; have BK237 := n8_; have HB := n9_; clear n0_ n1_ n2_ n3_ n4_ n5_ n6_ n7_ n8_ n9_ hg hw hp_; have p269 : 0 ≤ ((rd l2 x45_2) : Int) := of_decide_eq_true (by first | (with_reducible assumption) | assumption); have q269 : (rd l2 x45_2) < (y268.length : Int) := (by have h_ : ((rd l2 x45_2) : Int) < ((x9_2.length : Int) : Int) := of_decide_eq_true (by first | (with_reducible assumption) | assumption); first | (have e_ := (Kd.R_reads' HO_9.out).1; omega) | simpa only [Ny268.out, List.length_set] using h_); have ql269 : (((rd l2 x45_2) : Int) < ((x9_2.length : Int) : Int)) = True := eq_true (of_decide_eq_true (by first | (with_reducible assumption) | assumption)); obtain ⟨ad269, e269, hx269_0⟩ := Kd.at_int (Kd.R_reads' HO_9.out).2.2 (rd l2 x45_2) p269 q269; obtain rfl : (⟨go59, 0, none⟩ : Addr) = ad269 := (by injection e269); (first | simp only [add_plain] at hx269_0 | simp only [add_at] at hx269_0 | simp only [Addr.add, Nat.zero_add] at hx269_0 | skip); replace p269 := eq_true p269; replace q269 := eq_true q269))
                     have n0_ := Aside0.mk (Kd.R_drew HO_8.out)
                     have n1_ := Aside0.mk (Kd.R_drew HO_9.out)
                     have n2_ := Aside0.mk (Kd.R_drew HO_10.out)
                     have n3_ := Aside0.mk (Kd.R_drew HO_238000.out)
                     have n4_ := Aside0.mk (Kd.R_drew HO_238001.out)
                     have n5_ := Aside0.mk (Kd.R_drew HO_238002.out)
                     have n6_ := Aside0.mk (Kd.S_drew HO_238003.out)
                     have n7_ := Aside0.mk (blk_drew BK227.out)
                     have n8_ := Aside0.mk (blk_drew BK237.out)
                     have n9_ := Aside0.mk (below_drew1 HB.out)
                     clear HO_8 HO_9 HO_10 HO_238000 HO_238001 HO_238002 HO_238003 BK227 BK237 HB
                     have HO_8 := n0_
                     have HO_9 := n1_
                     have HO_10 := n2_
                     have HO_238000 := n3_
                     have HO_238001 := n4_
                     have HO_238002 := n5_
                     have HO_238003 := n6_
                     have BK227 := n7_
                     have BK237 := n8_
                     have HB := n9_
                     clear n0_ n1_ n2_ n3_ n4_ n5_ n6_ n7_ n8_ n9_
                     have p63 : 0 ≤ ((rd x8_2 (rd l2 x45_2)) : Int) := of_decide_eq_true (by first | (with_reducible assumption) | assumption)
                     have q63 : ((rd x8_2 (rd l2 x45_2)) : Int) < ((x10_2.length : Int) : Int) := of_decide_eq_true (by first | (with_reducible assumption) | assumption)
                     obtain ⟨go63, co63, eo63, gb63, gl63, cl63, HG63⟩ := Kd.R_form HO_10.out (by omega)
                     (first | cases eo63 | (injection eo63 with ea_ en_ ec_; (first | subst ea_ | (injection ea_ with ea_; subst ea_)); subst ec_; clear en_))
                     have GB63 := Aside0.mk gb63
                     have GG63 := Aside0.mk HG63
                     clear gb63 gl63 HG63
                     obtain ⟨hx63_0, hf63_0⟩ := Kd.R_celln 0 HO_10.out ((rd x8_2 (rd l2 x45_2)) : Int) p63 q63
                     replace p63 := eq_true p63
                     replace q63 := eq_true q63
                     have HP72 := Kd.R_putn HO_10.out ((rd x8_2 (rd l2 x45_2)) : Int) (-1)
                     rw [← Ny270.out] at HP72
                     have HQ72 := Aside0.mk HP72
                     clear HP72
                     have p64 : 0 ≤ ((rd l2 x45_2) : Int) := of_decide_eq_true (by first | (with_reducible assumption) | assumption)
                     have q64 : ((rd l2 x45_2) : Int) < ((x8_2.length : Int) : Int) := of_decide_eq_true (by first | (with_reducible assumption) | assumption)
                     obtain ⟨go64, co64, eo64, gb64, gl64, cl64, HG64⟩ := Kd.R_form HO_8.out (by omega)
                     (first | cases eo64 | (injection eo64 with ea_ en_ ec_; (first | subst ea_ | (injection ea_ with ea_; subst ea_)); subst ec_; clear en_))
                     have GB64 := Aside0.mk gb64
                     have GG64 := Aside0.mk HG64
                     clear gb64 gl64 HG64
                     (first | simp only [add_plain] at hx266_0 | skip)
                     obtain ⟨hx64_0, hf64_0⟩ := Kd.R_celln 0 (Kd.R_far (p := ⟨go63, ((rd x8_2 (rd l2 x45_2)) : Int).toNat, none⟩) (Kd.R_mono HO_8.out (fun k_ hk => (⟨hk, fun e_ => hk.1.1 (by rw [e_]; rfl)⟩ : _ ∧ k_ ≠ go63))) (fun _ hk => hk.2) (.int .i64 (-1))) ((rd l2 x45_2) : Int) p64 q64
                     replace p64 := eq_true p64
                     replace q64 := eq_true q64
                     have HP73 := Kd.R_putn (Kd.R_far (p := ⟨go63, ((rd x8_2 (rd l2 x45_2)) : Int).toNat, none⟩) (Kd.R_mono HO_8.out (fun k_ hk => (⟨hk, fun e_ => hk.1.1 (by rw [e_]; rfl)⟩ : _ ∧ k_ ≠ go63))) (fun _ hk => hk.2) (.int .i64 (-1))) ((rd l2 x45_2) : Int) a0
                     rw [← Ny271.out] at HP73
                     have HQ73 := Aside0.mk HP73
                     clear HP73
                     have p66 : 0 ≤ ((rd l2 x45_2) : Int) := of_decide_eq_true (by first | (with_reducible assumption) | assumption)
                     have q66 : ((rd l2 x45_2) : Int) < ((x238000_2.length : Int) : Int) := of_decide_eq_true (by first | (with_reducible assumption) | assumption)
                     obtain ⟨go66, co66, eo66, gb66, gl66, cl66, HG66⟩ := Kd.R_form HO_238000.out (by omega)
                     (first | cases eo66 | (injection eo66 with ea_ en_ ec_; (first | subst ea_ | (injection ea_ with ea_; subst ea_)); subst ec_; clear en_))
                     have GB66 := Aside0.mk gb66
                     have GG66 := Aside0.mk HG66
                     clear gb66 gl66 HG66
                     obtain ⟨hx66_0, hf66_0⟩ := Kd.R_celln 0 (Kd.R_far (p := ⟨go64, ((rd l2 x45_2) : Int).toNat, none⟩) (Kd.R_far (p := ⟨go63, ((rd x8_2 (rd l2 x45_2)) : Int).toNat, none⟩) (Kd.R_mono (Kd.R_mono HO_238000.out (fun k_ hk => (⟨hk, fun e_ => hk.1.2.1 (by rw [e_]; rfl)⟩ : _ ∧ k_ ≠ go63))) (fun k_ hk => (⟨hk, fun e_ => hk.1.1.1 (by rw [e_]; rfl)⟩ : _ ∧ k_ ≠ go64))) (fun _ hk => hk.1.2) (.int .i64 (-1))) (fun _ hk => hk.2) (.int .i64 a0)) ((rd l2 x45_2) : Int) p66 q66
                     replace p66 := eq_true p66
                     replace q66 := eq_true q66
                     have HP74 := Kd.R_putn (Kd.R_far (p := ⟨go64, ((rd l2 x45_2) : Int).toNat, none⟩) (Kd.R_far (p := ⟨go63, ((rd x8_2 (rd l2 x45_2)) : Int).toNat, none⟩) (Kd.R_mono (Kd.R_mono HO_238000.out (fun k_ hk => (⟨hk, fun e_ => hk.1.2.1 (by rw [e_]; rfl)⟩ : _ ∧ k_ ≠ go63))) (fun k_ hk => (⟨hk, fun e_ => hk.1.1.1 (by rw [e_]; rfl)⟩ : _ ∧ k_ ≠ go64))) (fun _ hk => hk.1.2) (.int .i64 (-1))) (fun _ hk => hk.2) (.int .i64 a0)) ((rd l2 x45_2) : Int) x12_1
                     rw [← Ny272.out] at HP74
                     have HQ74 := Aside0.mk HP74
                     clear HP74
                     refine start_ (n := 15) (S := fun w' => w'.cell? ⟨gb237, 0, none⟩ = some (.slice (some ⟨go66, 0, none⟩) x238000_2.length co66) ∧ w'.cell? ⟨gb237, 1, none⟩ = some (u238001) ∧ w'.cell? ⟨gb237, 2, none⟩ = some (u238002) ∧ w'.cell? ⟨gb237, 3, none⟩ = some (u238003)) (ds := [14]) #[false, false, false, false, false, false, false, false, false, false, false, false, false, false, false] (by kernel_rfl) rfl rfl ⟨(blk_cell BK237.out 0).trans rfl, (blk_cell BK237.out 1).trans rfl, (blk_cell BK237.out 2).trans rfl, (blk_cell BK237.out 3).trans rfl⟩ (fun hHeld => ?_); refine with_tabW impl_board.tab16 impl_board.bits16 (fun HT_ HW_ => ?_)
                     generalize w70.drew = w71 at HO_8 HO_9 HO_10 HO_238000 HO_238001 HO_238002 HO_238003 BK227 BK237 HB GG63 GG64 GG66 HQ72 HQ73 HQ74 hf63_0 hf64_0 hf66_0 hx266_0 hx63_0 hx64_0 hx66_0 hHeld ⊢
                     refine pi_ (i := 0) (N := some 73) (v := ?_) (a' := ?_) (bm 15 1) rfl rfl HT_ (by kernel_rfl) (fun _ _ _ h => h) (Or.inl ⟨by rfl, ?_⟩) ?_ ?_
                     rotate_left
                     ·intro w'
                      go_simp
                      with_reducible rfl
                     rotate_left
                     ·simp only [Act.put, pp_]
                      rfl
                     refine pi_ (i := 1) (N := some 74) (v := ?_) (a' := ?_) (bm 15 3) rfl rfl HT_ (by kernel_rfl) (fun _ _ _ h => h) (Or.inl ⟨by rfl, ?_⟩) ?_ ?_
                     rotate_left
                     ·intro w'
                      go_simp
                      with_reducible rfl
                     rotate_left
                     ·simp only [Act.put, pp_]
                      rfl
                     refine pi_ (i := 2) (N := some 75) (v := ?_) (a' := ?_) (bm 15 7) rfl rfl HT_ (by kernel_rfl) (fun _ _ _ h => h) (Or.inl ⟨by rfl, ?_⟩) ?_ ?_
                     rotate_left
                     ·intro w'
                      go_simp
                      with_reducible rfl
                     rotate_left
                     ·simp only [Act.put, pp_]
                      rfl
                     refine pi_ (i := 3) (N := some 76) (v := ?_) (a' := ?_) (bm 15 15) rfl rfl HT_ (by kernel_rfl) (fun _ _ _ h => h) (Or.inl ⟨by rfl, ?_⟩) ?_ ?_
                     rotate_left
                     ·intro w'
                      go_simp
                      with_reducible rfl
                     rotate_left
                     ·simp only [Act.put, pp_]
                      rfl
                     refine pi_ (i := 4) (N := some 77) (v := ?_) (a' := ?_) (bm 15 31) rfl rfl HT_ (by kernel_rfl) (fun _ _ _ h => h) (Or.inl ⟨by rfl, ?_⟩) ?_ ?_
                     rotate_left
                     ·intro w'
                      go_simp
                      with_reducible rfl
                     rotate_left
                     ·simp only [Act.put, pp_]
                      rfl
                     refine pi_ (i := 6) (N := some 79) (v := ?_) (a' := ?_) (bm 15 95) rfl rfl HT_ (by kernel_rfl) (fun _ _ _ h => h) (Or.inl ⟨by rfl, ?_⟩) ?_ ?_
                     rotate_left
                     ·intro w'
                      go_simp
                      with_reducible rfl
                     rotate_left
                     ·simp only [Act.put, pp_]
                      rfl
                     refine pi_ (i := 7) (N := some 80) (v := ?_) (a' := ?_) (bm 15 223) rfl rfl HT_ (by kernel_rfl) (fun _ _ _ h => h) (Or.inl ⟨by rfl, ?_⟩) ?_ ?_
                     rotate_left
                     ·intro w'
                      go_simp
                      with_reducible rfl
                     rotate_left
                     ·simp only [Act.put, pp_]
                      rfl
                     refine pi_ (i := 8) (N := some 81) (v := ?_) (a' := ?_) (bm 15 479) rfl rfl HT_ (by kernel_rfl) (fun _ _ _ h => h) (Or.inl ⟨by rfl, ?_⟩) ?_ ?_
                     rotate_left
                     ·intro w'
                      go_simp
                      with_reducible rfl
                     rotate_left
                     ·simp only [Act.put, pp_]
                      rfl
                     refine pi_ (i := 9) (N := some 82) (v := ?_) (a' := ?_) (bm 15 991) rfl rfl HT_ (by kernel_rfl) (fun _ _ _ h => h) (Or.inl ⟨by rfl, ?_⟩) ?_ ?_
                     rotate_left
                     ·intro w'
                      go_simp
                      with_reducible rfl
                     rotate_left
                     ·simp only [Act.put, pp_]
                      rfl
                     refine take_ (i := 5) (N := some 78) (v := ?_) (a' := ?_) (bm 15 1023) rfl rfl (take_ofW HT_.out HW_.out (by kernel_rfl)) (fun _ _ _ h => h) (Or.inl ⟨by rfl, ?_⟩) hHeld ?_ ?_
                     rotate_left
                     ·rintro w' ⟨s0, s1, s2, s3⟩
                      go_simp
                      with_reducible rfl
                     rotate_left
                     ·simp only [Act.put, pp_]
                      rfl
                     refine one_ (i := 10) (N := none) (bm 15 2047) rfl rfl (one_of HT_.out (by kernel_rfl)) (by decide) (fun K hK => ?_)
                     refine skip_ (w1 := ?_) (by rfl) rfl ?_ ?_
                     rotate_left
                     ·go_simp
                      rfl
                     refine hK.out _ _ ⟨((cell_far (p := ⟨go63, _, none⟩) (fun e_ => (Kd.R_ne HO_10.out BK237.out (by decide)) (congrArg some e_)) _).trans (hHeld.1)), ((cell_far (p := ⟨go63, _, none⟩) (fun e_ => (Kd.R_ne HO_10.out BK237.out (by decide)) (congrArg some e_)) _).trans (hHeld.2.1)), ((cell_far (p := ⟨go63, _, none⟩) (fun e_ => (Kd.R_ne HO_10.out BK237.out (by decide)) (congrArg some e_)) _).trans (hHeld.2.2.1)), ((cell_far (p := ⟨go63, _, none⟩) (fun e_ => (Kd.R_ne HO_10.out BK237.out (by decide)) (congrArg some e_)) _).trans (hHeld.2.2.2))⟩ (fun hHeld => ?_)
                     clear hK K
                     refine pi_ (i := 11) (N := some 83) (v := ?_) (a' := ?_) (bm 15 4095) rfl rfl HT_ (by kernel_rfl) (fun _ _ _ h => h) (Or.inl ⟨by rfl, ?_⟩) ?_ ?_
                     rotate_left
                     ·intro w'
                      go_simp
                      with_reducible rfl
                     rotate_left
                     ·simp only [Act.put, pp_]
                      rfl
                     refine one_ (i := 12) (N := none) (bm 15 8191) rfl rfl (one_of HT_.out (by kernel_rfl)) (by decide) (fun K hK => ?_)
                     refine skip_ (w1 := ?_) (by rfl) rfl ?_ ?_
                     rotate_left
                     ·go_simp
                      rfl
                     refine hK.out _ _ ⟨((cell_far (p := ⟨go64, _, none⟩) (fun e_ => (Kd.R_ne HO_8.out BK237.out (by decide)) (congrArg some e_)) _).trans (hHeld.1)), ((cell_far (p := ⟨go64, _, none⟩) (fun e_ => (Kd.R_ne HO_8.out BK237.out (by decide)) (congrArg some e_)) _).trans (hHeld.2.1)), ((cell_far (p := ⟨go64, _, none⟩) (fun e_ => (Kd.R_ne HO_8.out BK237.out (by decide)) (congrArg some e_)) _).trans (hHeld.2.2.1)), ((cell_far (p := ⟨go64, _, none⟩) (fun e_ => (Kd.R_ne HO_8.out BK237.out (by decide)) (congrArg some e_)) _).trans (hHeld.2.2.2))⟩ (fun hHeld => ?_)
                     clear hK K
                     refine pi_ (i := 13) (N := some 84) (v := ?_) (a' := ?_) (bm 15 16383) rfl rfl HT_ (by kernel_rfl) (fun _ _ _ h => h) (Or.inl ⟨by rfl, ?_⟩) ?_ ?_
                     rotate_left
                     ·intro w'
                      go_simp
                      with_reducible rfl
                     rotate_left
                     ·simp only [Act.put, pp_]
                      rfl
                     refine last_ (i := 14) (N := none) (bm 15 32767) rfl rfl (one_of HT_.out (by kernel_rfl)) (by decide) (fun K hK => ?_)
                     refine skip_ (w1 := ?_) (by rfl) rfl ?_ ?_
                     rotate_left
                     ·go_simp
                      rfl
                     refine hK.out _ _ ?_
                     clear hK K
                     refine done_ (done_of HT_.out (by kernel_rfl)) ?_
                     try go_wp2
                     (try simp only [← hl10_2])
                     go_roundg k2
                     case measure => have := HK1.out; have := HK2.out; omega
                     case rel => exact ⟨(y271), (y268), (y270), (wrap64 (x11_2 - 1)), (wrap64 (x45_2 + 1)), (y272), (x238001_2), (x238002_2), (.slice (some ⟨go66, 0, none⟩) x238000_2.length co66), (u238001), (u238002), (by first | rfl | (simp; done) | (simp [*]; done)), (by first | rfl | (simp; done) | (simp [*]; done)), H', ⟨by have := HK1.out; have := HK2.out; omega⟩, ⟨by (try simp only [hl10_1]); (try simp only [hl10_2]); (with_reducible repeat (first | apply Kd.R_alloc | apply Kd.R_drewN | apply Kd.R_drew)); exact Kd.R_mono (Kd.R_far (p := ⟨go66, ((rd l2 x45_2) : Int).toNat, none⟩) (Kd.R_mono HQ73.out (fun k_ hk => (⟨hk, fun e_ => hk.1.1.2.1 (by rw [e_]; rfl)⟩ : _ ∧ k_ ≠ go66))) (fun _ hk => hk.2) (.int .i64 x12_1)) (fun _ hk => ⟨hk.1.1.2, ⟨hk.1.1.1.1, ⟨hk.1.1.1.2.1, ⟨hk.1.1.1.2.2.1, hk.1.1.1.2.2.2⟩⟩⟩⟩)⟩, ⟨by (try simp only [hl10_1]); (try simp only [hl10_2]); (with_reducible repeat (first | apply Kd.R_alloc | apply Kd.R_drewN | apply Kd.R_drew)); exact Kd.R_mono (Kd.R_far (p := ⟨go66, ((rd l2 x45_2) : Int).toNat, none⟩) (Kd.R_far (p := ⟨go64, ((rd l2 x45_2) : Int).toNat, none⟩) (Kd.R_far (p := ⟨go63, ((rd x8_2 (rd l2 x45_2)) : Int).toNat, none⟩) (Kd.R_mono (Kd.R_mono (Kd.R_mono HO_9.out (fun k_ hk => (⟨hk, fun e_ => hk.2.1 (by rw [e_]; rfl)⟩ : _ ∧ k_ ≠ go63))) (fun k_ hk => (⟨hk, fun e_ => hk.1.1 (by rw [e_]; rfl)⟩ : _ ∧ k_ ≠ go64))) (fun k_ hk => (⟨hk, fun e_ => hk.1.1.2.2.1 (by rw [e_]; rfl)⟩ : _ ∧ k_ ≠ go66))) (fun _ hk => hk.1.1.2) (.int .i64 (-1))) (fun _ hk => hk.1.2) (.int .i64 a0)) (fun _ hk => hk.2) (.int .i64 x12_1)) (fun _ hk => ⟨hk.1.1.1.1, ⟨hk.1.1.1.2.1, ⟨hk.1.1.1.2.2.1, ⟨hk.1.1.1.2.2.2.1, hk.1.1.1.2.2.2.2⟩⟩⟩⟩)⟩, ⟨by (try simp only [hl10_1]); (try simp only [hl10_2]); (with_reducible repeat (first | apply Kd.R_alloc | apply Kd.R_drewN | apply Kd.R_drew)); exact Kd.R_mono (Kd.R_far (p := ⟨go66, ((rd l2 x45_2) : Int).toNat, none⟩) (Kd.R_far (p := ⟨go64, ((rd l2 x45_2) : Int).toNat, none⟩) (Kd.R_mono (Kd.R_mono HQ72.out (fun k_ hk => (⟨hk, fun e_ => hk.1.1 (by rw [e_]; rfl)⟩ : _ ∧ k_ ≠ go64))) (fun k_ hk => (⟨hk, fun e_ => hk.1.1.2.1 (by rw [e_]; rfl)⟩ : _ ∧ k_ ≠ go66))) (fun _ hk => hk.1.2) (.int .i64 a0)) (fun _ hk => hk.2) (.int .i64 x12_1)) (fun _ hk => ⟨hk.1.1.1.1, ⟨hk.1.1.2, ⟨hk.1.1.1.2.1, ⟨hk.1.1.1.2.2.1, hk.1.1.1.2.2.2⟩⟩⟩⟩)⟩, ⟨by (try simp only [hl10_1]); (try simp only [hl10_2]); (with_reducible repeat (first | apply Kd.R_alloc | apply Kd.R_drewN | apply Kd.R_drew)); exact Kd.R_mono HQ74.out (fun _ hk => ⟨hk.1.1.1.1, ⟨hk.1.1.2, ⟨hk.1.1.1.2.1, ⟨hk.1.1.1.2.2.1, hk.1.1.1.2.2.2⟩⟩⟩⟩)⟩, ⟨by (try simp only [hl10_1]); (try simp only [hl10_2]); (with_reducible repeat (first | apply Kd.R_alloc | apply Kd.R_drewN | apply Kd.R_drew)); exact Kd.R_mono (Kd.R_far (p := ⟨go66, ((rd l2 x45_2) : Int).toNat, none⟩) (Kd.R_far (p := ⟨go64, ((rd l2 x45_2) : Int).toNat, none⟩) (Kd.R_far (p := ⟨go63, ((rd x8_2 (rd l2 x45_2)) : Int).toNat, none⟩) (Kd.R_mono (Kd.R_mono (Kd.R_mono HO_238001.out (fun k_ hk => (⟨hk, fun e_ => hk.1.2.1 (by rw [e_]; rfl)⟩ : _ ∧ k_ ≠ go63))) (fun k_ hk => (⟨hk, fun e_ => hk.1.1.1 (by rw [e_]; rfl)⟩ : _ ∧ k_ ≠ go64))) (fun k_ hk => (⟨hk, fun e_ => hk.1.1.1.2.2.1 (by rw [e_]; rfl)⟩ : _ ∧ k_ ≠ go66))) (fun _ hk => hk.1.1.2) (.int .i64 (-1))) (fun _ hk => hk.1.2) (.int .i64 a0)) (fun _ hk => hk.2) (.int .i64 x12_1)) (fun _ hk => ⟨hk.1.1.1.1.1, ⟨hk.1.1.1.2, ⟨hk.1.1.1.1.2.1, ⟨hk.1.1.1.1.2.2.1, hk.1.1.1.1.2.2.2⟩⟩⟩⟩)⟩, ⟨by (try simp only [hl10_1]); (try simp only [hl10_2]); (with_reducible repeat (first | apply Kd.R_alloc | apply Kd.R_drewN | apply Kd.R_drew)); exact Kd.R_mono (Kd.R_far (p := ⟨go66, ((rd l2 x45_2) : Int).toNat, none⟩) (Kd.R_far (p := ⟨go64, ((rd l2 x45_2) : Int).toNat, none⟩) (Kd.R_far (p := ⟨go63, ((rd x8_2 (rd l2 x45_2)) : Int).toNat, none⟩) (Kd.R_mono (Kd.R_mono (Kd.R_mono HO_238002.out (fun k_ hk => (⟨hk, fun e_ => hk.1.2.1 (by rw [e_]; rfl)⟩ : _ ∧ k_ ≠ go63))) (fun k_ hk => (⟨hk, fun e_ => hk.1.1.1 (by rw [e_]; rfl)⟩ : _ ∧ k_ ≠ go64))) (fun k_ hk => (⟨hk, fun e_ => hk.1.1.1.2.2.1 (by rw [e_]; rfl)⟩ : _ ∧ k_ ≠ go66))) (fun _ hk => hk.1.1.2) (.int .i64 (-1))) (fun _ hk => hk.1.2) (.int .i64 a0)) (fun _ hk => hk.2) (.int .i64 x12_1)) (fun _ hk => ⟨hk.1.1.1.1.1, ⟨hk.1.1.1.2, ⟨hk.1.1.1.1.2.1, ⟨hk.1.1.1.1.2.2.1, hk.1.1.1.1.2.2.2⟩⟩⟩⟩)⟩, ⟨by (try simp only [hl10_1]); (try simp only [hl10_2]); (with_reducible repeat (first | apply Kd.S_alloc | apply Kd.S_drewN | apply Kd.S_drew)); exact Kd.S_mono (Kd.S_far (p := ⟨go66, ((rd l2 x45_2) : Int).toNat, none⟩) (Kd.S_far (p := ⟨go64, ((rd l2 x45_2) : Int).toNat, none⟩) (Kd.S_far (p := ⟨go63, ((rd x8_2 (rd l2 x45_2)) : Int).toNat, none⟩) (Kd.S_mono (Kd.S_mono (Kd.S_mono HO_238003.out (fun k_ hk => (⟨hk, fun e_ => hk.1.2.1 (by rw [e_]; rfl)⟩ : _ ∧ k_ ≠ go63))) (fun k_ hk => (⟨hk, fun e_ => hk.1.1.1 (by rw [e_]; rfl)⟩ : _ ∧ k_ ≠ go64))) (fun k_ hk => (⟨hk, fun e_ => hk.1.1.1.2.2.1 (by rw [e_]; rfl)⟩ : _ ∧ k_ ≠ go66))) (fun _ hk => hk.1.1.2) (.int .i64 (-1))) (fun _ hk => hk.1.2) (.int .i64 a0)) (fun _ hk => hk.2) (.int .i64 x12_1)) (fun _ hk => ⟨hk.1.1.1.1.1, ⟨hk.1.1.1.2, ⟨hk.1.1.1.1.2.1, ⟨hk.1.1.1.1.2.2.1, ⟨hk.1.1.1.1.2.2.2.1, hk.1.1.1.1.2.2.2.2⟩⟩⟩⟩⟩)⟩, ⟨by (try simp only [hl10_1]); (try simp only [hl10_2]); (with_reducible repeat (first | refine blk_drewN ?_ _ | refine blk_drew ?_ | refine blk_alloc ?_ _)); refine blk_far ?_ (by have h_ := Kd.R_ne HO_238000.out BK227.out (by decide); intro e_; exact h_ (by rw [e_]; rfl)) _; (with_reducible repeat (first | refine blk_drewN ?_ _ | refine blk_drew ?_ | refine blk_alloc ?_ _)); refine blk_far ?_ (by have h_ := Kd.R_ne HO_8.out BK227.out (by decide); intro e_; exact h_ (by rw [e_]; rfl)) _; (with_reducible repeat (first | refine blk_drewN ?_ _ | refine blk_drew ?_ | refine blk_alloc ?_ _)); refine blk_far ?_ (by have h_ := Kd.R_ne HO_10.out BK227.out (by decide); intro e_; exact h_ (by rw [e_]; rfl)) _; (with_reducible repeat (first | refine blk_drewN ?_ _ | refine blk_drew ?_ | refine blk_alloc ?_ _)); exact BK227.out⟩, ⟨by (try simp only [hl10_1]); (try simp only [hl10_2]); (with_reducible repeat (first | refine blk_drewN ?_ _ | refine blk_drew ?_ | refine blk_alloc ?_ _)); refine blk_far ?_ (by have h_ := Kd.R_ne HO_238000.out BK237.out (by decide); intro e_; exact h_ (by rw [e_]; rfl)) _; (with_reducible repeat (first | refine blk_drewN ?_ _ | refine blk_drew ?_ | refine blk_alloc ?_ _)); refine blk_far ?_ (by have h_ := Kd.R_ne HO_8.out BK237.out (by decide); intro e_; exact h_ (by rw [e_]; rfl)) _; (with_reducible repeat (first | refine blk_drewN ?_ _ | refine blk_drew ?_ | refine blk_alloc ?_ _)); refine blk_far ?_ (by have h_ := Kd.R_ne HO_10.out BK237.out (by decide); intro e_; exact h_ (by rw [e_]; rfl)) _; (with_reducible repeat (first | refine blk_drewN ?_ _ | refine blk_drew ?_ | refine blk_alloc ?_ _)); exact BK237.out⟩, ⟨by repeat (first | (with_reducible first | exact HB.out | apply below_alloc | apply pw_below_drewN | apply below_drew1 | refine below_set ?_ GB63.out | refine below_set ?_ GB64.out | refine below_set ?_ GB66.out | refine below_set ?_ GE227.out | refine below_set ?_ GE237.out) | exact HB.out)⟩⟩
                    ·rw [if_neg c65] at H
                     exact absurd H (by simp)
                   ·rw [if_neg c62] at H
                    exact absurd H (by simp)
                  ·rw [if_neg c61] at H
                   exact absurd H (by simp)
                 ·rw [if_neg c60] at H
                  have c60b0 : ((rd y268 (rd l2 x45_2)) == a1) = false := beq_eq_false_iff_ne.mpr c60
                  have c60b1 : ((rd y268 (rd l2 x45_2)) != a1) = true := bne_iff_ne.mpr c60
                  have H' := Aside0.mk H
                  clear H
                  have p265 : 0 ≤ (x45_2 : Int) := of_decide_eq_true (by first | (with_reducible assumption) | assumption)
                  have q265 : x45_2 < (l2.length : Int) := of_decide_eq_true (by first | (with_reducible assumption) | assumption)
                  obtain ⟨ad265, e265, hx265_0⟩ := Kd.at_int HR2.out x45_2 p265 q265
                  cases e265
                  (try replace hx265_0 := (HB.out.cell (World.block_lt_of_cell? w _ hx265_0)).trans hx265_0)
                  replace p265 := eq_true p265
                  replace q265 := eq_true q265
                  obtain ⟨Ao75, co75, eo75⟩ := Kd.R_slice HO_8.out
                  subst eo75
                  have p266 : 0 ≤ ((rd l2 x45_2) : Int) := of_decide_eq_true (by first | (with_reducible assumption) | assumption)
                  have q266 : (rd l2 x45_2) < (x8_2.length : Int) := of_decide_eq_true (by first | (with_reducible assumption) | assumption)
                  obtain ⟨ad266, e266, hx266_0⟩ := Kd.at_int (Kd.R_reads' HO_8.out).2.2 (rd l2 x45_2) p266 q266
                  cases e266
                  replace p266 := eq_true p266
                  replace q266 := eq_true q266
                  obtain ⟨Ao76, co76, eo76⟩ := Kd.R_slice HO_9.out
                  subst eo76
                  have p267 : 0 ≤ ((rd l2 x45_2) : Int) := of_decide_eq_true (by first | (with_reducible assumption) | assumption)
                  have q267 : (rd l2 x45_2) < (x9_2.length : Int) := of_decide_eq_true (by first | (with_reducible assumption) | assumption)
                  obtain ⟨ad267, e267, hx267_0⟩ := Kd.at_int (Kd.R_reads' HO_9.out).2.2 (rd l2 x45_2) p267 q267
                  cases e267
                  replace p267 := eq_true p267
                  replace q267 := eq_true q267
                  have p59 : 0 ≤ ((rd l2 x45_2) : Int) := of_decide_eq_true (by first | (with_reducible assumption) | assumption)
                  have q59 : ((rd l2 x45_2) : Int) < ((x9_2.length : Int) : Int) := of_decide_eq_true (by first | (with_reducible assumption) | assumption)
                  obtain ⟨go59, co59, eo59, gb59, gl59, cl59, HG59⟩ := Kd.R_form HO_9.out (by omega)
                  (first | cases eo59 | (injection eo59 with ea_ en_ ec_; (first | subst ea_ | (injection ea_ with ea_; subst ea_)); subst ec_; clear en_))
                  have GB59 := Aside0.mk gb59
                  have GG59 := Aside0.mk HG59
                  clear gb59 gl59 HG59
                  (first | simp only [add_plain] at hx267_0 | skip)
                  obtain ⟨hx59_0, hf59_0⟩ := Kd.R_celln 0 HO_9.out ((rd l2 x45_2) : Int) p59 q59
                  replace p59 := eq_true p59
                  replace q59 := eq_true q59
                  have HP77 := Kd.R_putg HO_9.out ((rd l2 x45_2) : Int) (wrap64 ((rd x9_2 (rd l2 x45_2)) + 1))
                  go_wp2_with (first | ((with_reducible refine gate_store (t := 3) (p := 66) rfl ?_); refine store_event (t := 3) (p := 66) (v := ?vo_w78) (w1 := (wr.setCell ⟨go59, ((rd l2 x45_2) : Int).toNat, none⟩ (.int .i64 (wrap64 ((rd x9_2 (rd l2 x45_2)) + 1))))) ?hg ?ho ?hn ?hr ?_; (case ho => rfl); (case hg => rfl); (case hn => rfl); (case hr => first | (go_simp; done) | (go_simp; rfl)); intro w78 hw; have hg : wr.grownBy w78 (some go59) := (by rw [hw]; exact HP77.2); have hp_ : Kd.R (Kd.int .i64) 3 w78 w.heap.size (fun k_ => some k_ ≠ (.slice (some ad266) x8_2.length co75 : Value).ownBlock ∧ some k_ ≠ (.slice Ao43 x10_2.length co43 : Value).ownBlock ∧ some k_ ≠ (u238000 : Value).ownBlock ∧ some k_ ≠ (u238001 : Value).ownBlock ∧ some k_ ≠ (u238002 : Value).ownBlock) (.slice (some ⟨go59, 0, none⟩) x9_2.length co76) y268 := (by rw [hw, Ny268.out]; exact HP77.1); clear HP77; have n0_ := Aside0.mk (Kd.R_after (v := (.slice (some ⟨go59, 0, none⟩) x9_2.length co76)) (v1 := (.slice (some ⟨go59, 0, none⟩) x9_2.length co76)) (ok := (fun k_ => some k_ ≠ (.slice Ao43 x10_2.length co43 : Value).ownBlock ∧ some k_ ≠ (u238000 : Value).ownBlock ∧ some k_ ≠ (u238001 : Value).ownBlock ∧ some k_ ≠ (u238002 : Value).ownBlock)) (Kd.R_mono HO_8.out (fun _ hk => ⟨⟨hk.2.1, ⟨hk.2.2.1, ⟨hk.2.2.2.1, hk.2.2.2.2⟩⟩⟩, hk.1⟩)) hg (.inl rfl)); have n1_ := Aside0.mk (hp_); have n2_ := Aside0.mk (Kd.R_after (v := (.slice (some ⟨go59, 0, none⟩) x9_2.length co76)) (v1 := (.slice (some ⟨go59, 0, none⟩) x9_2.length co76)) (ok := (fun k_ => some k_ ≠ (.slice (some ad266) x8_2.length co75 : Value).ownBlock ∧ some k_ ≠ (u238000 : Value).ownBlock ∧ some k_ ≠ (u238001 : Value).ownBlock ∧ some k_ ≠ (u238002 : Value).ownBlock)) (Kd.R_mono HO_10.out (fun _ hk => ⟨⟨hk.1, ⟨hk.2.2.1, ⟨hk.2.2.2.1, hk.2.2.2.2⟩⟩⟩, hk.2.1⟩)) hg (.inl rfl)); have n3_ := Aside0.mk (Kd.R_after (v := (.slice (some ⟨go59, 0, none⟩) x9_2.length co76)) (v1 := (.slice (some ⟨go59, 0, none⟩) x9_2.length co76)) (ok := (fun k_ => some k_ ≠ (.slice (some ad266) x8_2.length co75 : Value).ownBlock ∧ some k_ ≠ (.slice Ao43 x10_2.length co43 : Value).ownBlock ∧ some k_ ≠ (u238001 : Value).ownBlock ∧ some k_ ≠ (u238002 : Value).ownBlock)) (Kd.R_mono HO_238000.out (fun _ hk => ⟨⟨hk.1, ⟨hk.2.2.1, ⟨hk.2.2.2.1, hk.2.2.2.2⟩⟩⟩, hk.2.1⟩)) hg (.inl rfl)); have n4_ := Aside0.mk (Kd.R_after (v := (.slice (some ⟨go59, 0, none⟩) x9_2.length co76)) (v1 := (.slice (some ⟨go59, 0, none⟩) x9_2.length co76)) (ok := (fun k_ => some k_ ≠ (.slice (some ad266) x8_2.length co75 : Value).ownBlock ∧ some k_ ≠ (.slice Ao43 x10_2.length co43 : Value).ownBlock ∧ some k_ ≠ (u238000 : Value).ownBlock ∧ some k_ ≠ (u238002 : Value).ownBlock)) (Kd.R_mono HO_238001.out (fun _ hk => ⟨⟨hk.1, ⟨hk.2.2.1, ⟨hk.2.2.2.1, hk.2.2.2.2⟩⟩⟩, hk.2.1⟩)) hg (.inl rfl)); have n5_ := Aside0.mk (Kd.R_after (v := (.slice (some ⟨go59, 0, none⟩) x9_2.length co76)) (v1 := (.slice (some ⟨go59, 0, none⟩) x9_2.length co76)) (ok := (fun k_ => some k_ ≠ (.slice (some ad266) x8_2.length co75 : Value).ownBlock ∧ some k_ ≠ (.slice Ao43 x10_2.length co43 : Value).ownBlock ∧ some k_ ≠ (u238000 : Value).ownBlock ∧ some k_ ≠ (u238001 : Value).ownBlock)) (Kd.R_mono HO_238002.out (fun _ hk => ⟨⟨hk.1, ⟨hk.2.2.1, ⟨hk.2.2.2.1, hk.2.2.2.2⟩⟩⟩, hk.2.1⟩)) hg (.inl rfl)); have n6_ := Aside0.mk (Kd.S_after (v := (.slice (some ⟨go59, 0, none⟩) x9_2.length co76)) (v1 := (.slice (some ⟨go59, 0, none⟩) x9_2.length co76)) (ok := (fun k_ => some k_ ≠ (.slice (some ad266) x8_2.length co75 : Value).ownBlock ∧ some k_ ≠ (.slice Ao43 x10_2.length co43 : Value).ownBlock ∧ some k_ ≠ (u238000 : Value).ownBlock ∧ some k_ ≠ (u238001 : Value).ownBlock ∧ some k_ ≠ (u238002 : Value).ownBlock)) (by (with_reducible repeat (first | apply Kd.S_alloc | apply Kd.S_drewN | apply Kd.S_drew)); exact Kd.S_mono HO_238003.out (fun _ hk => ⟨⟨hk.1, ⟨hk.2.2.1, ⟨hk.2.2.2.1, ⟨hk.2.2.2.2.1, hk.2.2.2.2.2⟩⟩⟩⟩, hk.2.1⟩)) hg (.inl rfl)); have n7_ := Aside0.mk (blk_grown (g := gb227) (o := .cells #[.slice none 0 0, .slice none 0 0, .slice none 0 0, .slice none 0 0] 48 (0, 0)) BK227.out hg (Kd.R_ne HO_9.out BK227.out (by decide))); have n8_ := Aside0.mk (blk_grown (g := gb237) (o := .cells #[u238000, u238001, u238002, u238003] 48 (0, 0)) BK237.out hg (Kd.R_ne HO_9.out BK237.out (by decide))); have n9_ := Aside0.mk ((by rw [hw]; exact below_set HB.out GB59.out : Below w.heap.size w w78)); clear HO_8 HO_9 HO_10 HO_238000 HO_238001 HO_238002 HO_238003 BK227 BK237 HB; have HO_8 := n0_; have HO_9 := n1_; have HO_10 := n2_; have HO_238000 := n3_; have HO_238001 := n4_; have HO_238002 := n5_; have HO_238003 := n6_; have BK227 := n7_; have BK237 := n8_; have HB := n9_; clear n0_ n1_ n2_ n3_ n4_ n5_ n6_ n7_ n8_ n9_ hg hw hp_; have p269 : 0 ≤ ((rd l2 x45_2) : Int) := of_decide_eq_true (by first | (with_reducible assumption) | assumption); have q269 : (rd l2 x45_2) < (y268.length : Int) := (by have h_ : ((rd l2 x45_2) : Int) < ((x9_2.length : Int) : Int) := of_decide_eq_true (by first | (with_reducible assumption) | assumption); first | (have e_ := (Kd.R_reads' HO_9.out).1; omega) | simpa only [Ny268.out, List.length_set] using h_); have ql269 : (((rd l2 x45_2) : Int) < ((x9_2.length : Int) : Int)) = True := eq_true (of_decide_eq_true (by first | (with_reducible assumption) | assumption)); obtain ⟨ad269, e269, hx269_0⟩ := Kd.at_int (Kd.R_reads' HO_9.out).2.2 (rd l2 x45_2) p269 q269; obtain rfl : (⟨go59, 0, none⟩ : Addr) = ad269 := (by injection e269); (first | simp only [add_plain] at hx269_0 | simp only [add_at] at hx269_0 | simp only [Addr.add, Nat.zero_add] at hx269_0 | skip); replace p269 := eq_true p269; replace q269 := eq_true q269))
                  (try simp only [← hl10_2])
                  go_roundg k2
                  case measure => have := HK1.out; have := HK2.out; omega
                  case rel => exact ⟨(x8_2), (y268), (x10_2), (x11_2), (wrap64 (x45_2 + 1)), (x238000_2), (x238001_2), (x238002_2), (u238000), (u238001), (u238002), (by first | rfl | (simp; done) | (simp [*]; done)), (by first | rfl | (simp; done) | (simp [*]; done)), H', ⟨by have := HK1.out; have := HK2.out; omega⟩, ⟨by (try simp only [hl10_1]); (try simp only [hl10_2]); (with_reducible repeat (first | apply Kd.R_alloc | apply Kd.R_drewN | apply Kd.R_drew)); exact Kd.R_mono HO_8.out (fun _ hk => ⟨hk.2, ⟨hk.1.1, ⟨hk.1.2.1, ⟨hk.1.2.2.1, hk.1.2.2.2⟩⟩⟩⟩)⟩, ⟨by (try simp only [hl10_1]); (try simp only [hl10_2]); (with_reducible repeat (first | apply Kd.R_alloc | apply Kd.R_drewN | apply Kd.R_drew)); exact HO_9.out⟩, ⟨by (try simp only [hl10_1]); (try simp only [hl10_2]); (with_reducible repeat (first | apply Kd.R_alloc | apply Kd.R_drewN | apply Kd.R_drew)); exact Kd.R_mono HO_10.out (fun _ hk => ⟨hk.1.1, ⟨hk.2, ⟨hk.1.2.1, ⟨hk.1.2.2.1, hk.1.2.2.2⟩⟩⟩⟩)⟩, ⟨by (try simp only [hl10_1]); (try simp only [hl10_2]); (with_reducible repeat (first | apply Kd.R_alloc | apply Kd.R_drewN | apply Kd.R_drew)); exact Kd.R_mono HO_238000.out (fun _ hk => ⟨hk.1.1, ⟨hk.2, ⟨hk.1.2.1, ⟨hk.1.2.2.1, hk.1.2.2.2⟩⟩⟩⟩)⟩, ⟨by (try simp only [hl10_1]); (try simp only [hl10_2]); (with_reducible repeat (first | apply Kd.R_alloc | apply Kd.R_drewN | apply Kd.R_drew)); exact Kd.R_mono HO_238001.out (fun _ hk => ⟨hk.1.1, ⟨hk.2, ⟨hk.1.2.1, ⟨hk.1.2.2.1, hk.1.2.2.2⟩⟩⟩⟩)⟩, ⟨by (try simp only [hl10_1]); (try simp only [hl10_2]); (with_reducible repeat (first | apply Kd.R_alloc | apply Kd.R_drewN | apply Kd.R_drew)); exact Kd.R_mono HO_238002.out (fun _ hk => ⟨hk.1.1, ⟨hk.2, ⟨hk.1.2.1, ⟨hk.1.2.2.1, hk.1.2.2.2⟩⟩⟩⟩)⟩, ⟨by (try simp only [hl10_1]); (try simp only [hl10_2]); (with_reducible repeat (first | apply Kd.S_alloc | apply Kd.S_drewN | apply Kd.S_drew)); exact Kd.S_mono HO_238003.out (fun _ hk => ⟨hk.1.1, ⟨hk.2, ⟨hk.1.2.1, ⟨hk.1.2.2.1, ⟨hk.1.2.2.2.1, hk.1.2.2.2.2⟩⟩⟩⟩⟩)⟩, ⟨by (try simp only [hl10_1]); (try simp only [hl10_2]); first | (with_reducible exact BK227.out) | ((with_reducible repeat (first | refine blk_drewN ?_ _ | refine blk_drew ?_ | refine blk_alloc ?_ _)); exact BK227.out)⟩, ⟨by (try simp only [hl10_1]); (try simp only [hl10_2]); first | (with_reducible exact BK237.out) | ((with_reducible repeat (first | refine blk_drewN ?_ _ | refine blk_drew ?_ | refine blk_alloc ?_ _)); exact BK237.out)⟩, ⟨HB.out⟩⟩
                ·rw [if_neg c58] at H
                 exact absurd H (by simp)
               ·rw [if_neg c57] at H
                have c57b0 : ((rd x8_2 (rd l2 x45_2)) == (rd l2 x45_2)) = false := beq_eq_false_iff_ne.mpr c57
                have c57b1 : ((rd x8_2 (rd l2 x45_2)) != (rd l2 x45_2)) = true := bne_iff_ne.mpr c57
                obtain ⟨ji79, hji79⟩ : ∃ j_ : Int, (wrap64 ((rd x8_2 (rd l2 x45_2)) + 1)) = j_ := ⟨_, rfl⟩
                replace H : (if 0 ≤ (ji79) then (if (ji79) < (x10_2.length : Int) then (if (rd x10_2 (ji79)) < 0 then (if (rd x8_2 (rd l2 x45_2)) < 0 then (if (rd l2 x45_2) < (x238001_2.length : Int) then (impl_board.l1 k2 a0 a1 l2 (x8_2.set ((rd l2 x45_2) : Int).toNat (ji79)) x9_2 (x10_2.set ((ji79) : Int).toNat (rd l2 x45_2)) x11_2 x12_1 l2 (l2.length : Int) (wrap64 (x45_2 + 1)) x238000_2 (x238001_2.set ((rd l2 x45_2) : Int).toNat x12_1) x238002_2 x238003_1) else (none)) else (if 0 ≤ (rd x8_2 (rd l2 x45_2)) then (if (rd x8_2 (rd l2 x45_2)) < (x10_2.length : Int) then (impl_board.l1 k2 a0 a1 l2 (x8_2.set ((rd l2 x45_2) : Int).toNat (ji79)) x9_2 ((x10_2.set ((rd x8_2 (rd l2 x45_2)) : Int).toNat (-1)).set ((ji79) : Int).toNat (rd l2 x45_2)) x11_2 x12_1 l2 (l2.length : Int) (wrap64 (x45_2 + 1)) x238000_2 x238001_2 x238002_2 x238003_1) else (none)) else (none))) else (if (rd x8_2 (rd l2 x45_2)) ≥ 0 then (if (rd l2 x45_2) < (x238002_2.length : Int) then (impl_board.l1 k2 a0 a1 l2 x8_2 x9_2 x10_2 x11_2 x12_1 l2 (l2.length : Int) (wrap64 (x45_2 + 1)) x238000_2 x238001_2 (x238002_2.set ((rd l2 x45_2) : Int).toNat (wrap64 ((rd x238002_2 (rd l2 x45_2)) + 1))) x238003_1) else (none)) else (impl_board.l1 k2 a0 a1 l2 x8_2 x9_2 x10_2 x11_2 x12_1 l2 (l2.length : Int) (wrap64 (x45_2 + 1)) x238000_2 x238001_2 x238002_2 x238003_1))) else (none)) else (none)) = some (r1, r2, r3, r4) := by first | (rw [hji79] at H; exact H) | (simp only [hji79] at H ⊢; exact H)
                have hji79w : (IntKind.i64.wrap ((rd x8_2 (rd l2 x45_2)) + 1)) = ji79 := (i64_w _).trans hji79
                by_cases c80 : 0 ≤ (ji79)
                ·rw [if_pos c80] at H
                 have c80b0 : decide (0 ≤ (ji79)) = true := decide_eq_true c80
                 clear c80
                 by_cases c81 : (ji79) < (x10_2.length : Int)
                 ·rw [if_pos c81] at H
                  have c81b0 : decide ((ji79) < (x10_2.length : Int)) = true := decide_eq_true c81
                  clear c81
                  by_cases c82 : (rd x10_2 (ji79)) < 0
                  ·rw [if_pos c82] at H
                   have c82b0 : decide ((rd x10_2 (ji79)) < 0) = true := decide_eq_true c82
                   clear c82
                   by_cases c83 : (rd x8_2 (rd l2 x45_2)) < 0
                   ·rw [if_pos c83] at H
                    have c83b0 : decide ((rd x8_2 (rd l2 x45_2)) < 0) = true := decide_eq_true c83
                    clear c83
                    by_cases c84 : (rd l2 x45_2) < (x238001_2.length : Int)
                    ·rw [if_pos c84] at H
                     have c84b0 : decide ((rd l2 x45_2) < (x238001_2.length : Int)) = true := decide_eq_true c84
                     clear c84
                     obtain ⟨y274, hy274⟩ : ∃ y_ : List Int, y_ = (x238001_2.set ((rd l2 x45_2) : Int).toNat x12_1) := ⟨_, rfl⟩
                     replace H : (impl_board.l1 k2 a0 a1 l2 (x8_2.set ((rd l2 x45_2) : Int).toNat (ji79)) x9_2 (x10_2.set ((ji79) : Int).toNat (rd l2 x45_2)) x11_2 x12_1 l2 (l2.length : Int) (wrap64 (x45_2 + 1)) x238000_2 y274 x238002_2 x238003_1) = some (r1, r2, r3, r4) := by first | (rw [hy274]; with_reducible exact H) | (have H2_ := (Option.bind_some _ _).symm.trans H; rw [hy274]; with_reducible exact H2_) | (have H2_ := (Option.bind_some _ _).symm.trans H; with_reducible exact H2_) | with_reducible exact H | (rw [hy274]; exact H) | exact H
                     have Ny274 := Aside0.mk hy274
                     clear hy274
                     obtain ⟨y275, hy275⟩ : ∃ y_ : List Int, y_ = (x10_2.set ((ji79) : Int).toNat (rd l2 x45_2)) := ⟨_, rfl⟩
                     replace H : (impl_board.l1 k2 a0 a1 l2 (x8_2.set ((rd l2 x45_2) : Int).toNat (ji79)) x9_2 y275 x11_2 x12_1 l2 (l2.length : Int) (wrap64 (x45_2 + 1)) x238000_2 y274 x238002_2 x238003_1) = some (r1, r2, r3, r4) := by first | (rw [hy275]; with_reducible exact H) | (have H2_ := (Option.bind_some _ _).symm.trans H; rw [hy275]; with_reducible exact H2_) | (have H2_ := (Option.bind_some _ _).symm.trans H; with_reducible exact H2_) | with_reducible exact H | (rw [hy275]; exact H) | exact H
                     have Ny275 := Aside0.mk hy275
                     clear hy275
                     obtain ⟨y276, hy276⟩ : ∃ y_ : List Int, y_ = (x8_2.set ((rd l2 x45_2) : Int).toNat (ji79)) := ⟨_, rfl⟩
                     replace H : (impl_board.l1 k2 a0 a1 l2 y276 x9_2 y275 x11_2 x12_1 l2 (l2.length : Int) (wrap64 (x45_2 + 1)) x238000_2 y274 x238002_2 x238003_1) = some (r1, r2, r3, r4) := by first | (rw [hy276]; with_reducible exact H) | (have H2_ := (Option.bind_some _ _).symm.trans H; rw [hy276]; with_reducible exact H2_) | (have H2_ := (Option.bind_some _ _).symm.trans H; with_reducible exact H2_) | with_reducible exact H | (rw [hy276]; exact H) | exact H
                     have Ny276 := Aside0.mk hy276
                     clear hy276
                     have H' := Aside0.mk H
                     clear H
                     have p265 : 0 ≤ (x45_2 : Int) := of_decide_eq_true (by first | (with_reducible assumption) | assumption)
                     have q265 : x45_2 < (l2.length : Int) := of_decide_eq_true (by first | (with_reducible assumption) | assumption)
                     obtain ⟨ad265, e265, hx265_0⟩ := Kd.at_int HR2.out x45_2 p265 q265
                     cases e265
                     (try replace hx265_0 := (HB.out.cell (World.block_lt_of_cell? w _ hx265_0)).trans hx265_0)
                     replace p265 := eq_true p265
                     replace q265 := eq_true q265
                     obtain ⟨Ao88, co88, eo88⟩ := Kd.R_slice HO_8.out
                     subst eo88
                     have p266 : 0 ≤ ((rd l2 x45_2) : Int) := of_decide_eq_true (by first | (with_reducible assumption) | assumption)
                     have q266 : (rd l2 x45_2) < (x8_2.length : Int) := of_decide_eq_true (by first | (with_reducible assumption) | assumption)
                     obtain ⟨ad266, e266, hx266_0⟩ := Kd.at_int (Kd.R_reads' HO_8.out).2.2 (rd l2 x45_2) p266 q266
                     cases e266
                     replace p266 := eq_true p266
                     replace q266 := eq_true q266
                     have p273 : 0 ≤ ((ji79) : Int) := of_decide_eq_true (by first | (with_reducible assumption) | assumption)
                     have q273 : (ji79) < (x10_2.length : Int) := of_decide_eq_true (by first | (with_reducible assumption) | assumption)
                     obtain ⟨ad273, e273, hx273_0⟩ := Kd.at_int (Kd.R_reads' HO_10.out).2.2 (ji79) p273 q273
                     cases e273
                     replace p273 := eq_true p273
                     replace q273 := eq_true q273
                     have hnb89 := NB237_227.out
                     have hnc89 := NB227_237.out
                     have hcz90_0 : wr.cell? ⟨gb237, 0, none⟩ = some (u238000) := (blk_cell BK237.out 0).trans rfl
                     have hcz90_1 : wr.cell? ⟨gb237, 1, none⟩ = some (u238001) := (blk_cell BK237.out 1).trans rfl
                     have hcz90_2 : wr.cell? ⟨gb237, 2, none⟩ = some (u238002) := (blk_cell BK237.out 2).trans rfl
                     have hcz90_3 : wr.cell? ⟨gb237, 3, none⟩ = some (u238003) := (blk_cell BK237.out 3).trans rfl
                     have hfz90_0 := blk_frozen BK237.out 0
                     have hfz90_1 := blk_frozen BK237.out 1
                     have hfz90_2 := blk_frozen BK237.out 2
                     have hfz90_3 := blk_frozen BK237.out 3
                     have p85 : 0 ≤ ((rd l2 x45_2) : Int) := of_decide_eq_true (by first | (with_reducible assumption) | assumption)
                     have q85 : ((rd l2 x45_2) : Int) < ((x238001_2.length : Int) : Int) := of_decide_eq_true (by first | (with_reducible assumption) | assumption)
                     obtain ⟨go85, co85, eo85, gb85, gl85, cl85, HG85⟩ := Kd.R_form HO_238001.out (by omega)
                     (first | cases eo85 | (injection eo85 with ea_ en_ ec_; (first | subst ea_ | (injection ea_ with ea_; subst ea_)); subst ec_; clear en_))
                     have GB85 := Aside0.mk gb85
                     have GG85 := Aside0.mk HG85
                     clear gb85 gl85 HG85
                     obtain ⟨hx85_0, hf85_0⟩ := Kd.R_celln 0 HO_238001.out ((rd l2 x45_2) : Int) p85 q85
                     replace p85 := eq_true p85
                     replace q85 := eq_true q85
                     have HP91 := Kd.R_putg HO_238001.out ((rd l2 x45_2) : Int) x12_1
                     go_wp2_with (first | ((with_reducible refine gate_store (t := 3) (p := 100) rfl ?_); refine store_event (t := 3) (p := 100) (v := ?vo_w92) (w1 := (wr.setCell ⟨go85, ((rd l2 x45_2) : Int).toNat, none⟩ (.int .i64 x12_1))) ?hg ?ho ?hn ?hr ?_; (case ho => rfl); (case hg => rfl); (case hn => rfl); (case hr => first | (go_simp; done) | (go_simp; rfl)); intro w92 hw; have hg : wr.grownBy w92 (some go85) := (by rw [hw]; exact HP91.2); have hp_ : Kd.R (Kd.int .i64) 3 w92 w.heap.size (fun k_ => some k_ ≠ (.slice (some ad266) x8_2.length co88 : Value).ownBlock ∧ some k_ ≠ (v245 : Value).ownBlock ∧ some k_ ≠ (.slice (some ad273) x10_2.length co43 : Value).ownBlock ∧ some k_ ≠ (u238000 : Value).ownBlock ∧ some k_ ≠ (u238002 : Value).ownBlock) (.slice (some ⟨go85, 0, none⟩) x238001_2.length co85) y274 := (by rw [hw, Ny274.out]; exact HP91.1); clear HP91; have n0_ := Aside0.mk (Kd.R_after (v := (.slice (some ⟨go85, 0, none⟩) x238001_2.length co85)) (v1 := (.slice (some ⟨go85, 0, none⟩) x238001_2.length co85)) (ok := (fun k_ => some k_ ≠ (v245 : Value).ownBlock ∧ some k_ ≠ (.slice (some ad273) x10_2.length co43 : Value).ownBlock ∧ some k_ ≠ (u238000 : Value).ownBlock ∧ some k_ ≠ (u238002 : Value).ownBlock)) (Kd.R_mono HO_8.out (fun _ hk => ⟨⟨hk.1, ⟨hk.2.1, ⟨hk.2.2.1, hk.2.2.2.2⟩⟩⟩, hk.2.2.2.1⟩)) hg (.inl rfl)); have n1_ := Aside0.mk (Kd.R_after (v := (.slice (some ⟨go85, 0, none⟩) x238001_2.length co85)) (v1 := (.slice (some ⟨go85, 0, none⟩) x238001_2.length co85)) (ok := (fun k_ => some k_ ≠ (.slice (some ad266) x8_2.length co88 : Value).ownBlock ∧ some k_ ≠ (.slice (some ad273) x10_2.length co43 : Value).ownBlock ∧ some k_ ≠ (u238000 : Value).ownBlock ∧ some k_ ≠ (u238002 : Value).ownBlock)) (Kd.R_mono HO_9.out (fun _ hk => ⟨⟨hk.1, ⟨hk.2.1, ⟨hk.2.2.1, hk.2.2.2.2⟩⟩⟩, hk.2.2.2.1⟩)) hg (.inl rfl)); have n2_ := Aside0.mk (Kd.R_after (v := (.slice (some ⟨go85, 0, none⟩) x238001_2.length co85)) (v1 := (.slice (some ⟨go85, 0, none⟩) x238001_2.length co85)) (ok := (fun k_ => some k_ ≠ (.slice (some ad266) x8_2.length co88 : Value).ownBlock ∧ some k_ ≠ (v245 : Value).ownBlock ∧ some k_ ≠ (u238000 : Value).ownBlock ∧ some k_ ≠ (u238002 : Value).ownBlock)) (Kd.R_mono HO_10.out (fun _ hk => ⟨⟨hk.1, ⟨hk.2.1, ⟨hk.2.2.1, hk.2.2.2.2⟩⟩⟩, hk.2.2.2.1⟩)) hg (.inl rfl)); have n3_ := Aside0.mk (Kd.R_after (v := (.slice (some ⟨go85, 0, none⟩) x238001_2.length co85)) (v1 := (.slice (some ⟨go85, 0, none⟩) x238001_2.length co85)) (ok := (fun k_ => some k_ ≠ (.slice (some ad266) x8_2.length co88 : Value).ownBlock ∧ some k_ ≠ (v245 : Value).ownBlock ∧ some k_ ≠ (.slice (some ad273) x10_2.length co43 : Value).ownBlock ∧ some k_ ≠ (u238002 : Value).ownBlock)) (Kd.R_mono HO_238000.out (fun _ hk => ⟨⟨hk.1, ⟨hk.2.1, ⟨hk.2.2.1, hk.2.2.2.2⟩⟩⟩, hk.2.2.2.1⟩)) hg (.inl rfl)); have n4_ := Aside0.mk (hp_); have n5_ := Aside0.mk (Kd.R_after (v := (.slice (some ⟨go85, 0, none⟩) x238001_2.length co85)) (v1 := (.slice (some ⟨go85, 0, none⟩) x238001_2.length co85)) (ok := (fun k_ => some k_ ≠ (.slice (some ad266) x8_2.length co88 : Value).ownBlock ∧ some k_ ≠ (v245 : Value).ownBlock ∧ some k_ ≠ (.slice (some ad273) x10_2.length co43 : Value).ownBlock ∧ some k_ ≠ (u238000 : Value).ownBlock)) (Kd.R_mono HO_238002.out (fun _ hk => ⟨⟨hk.1, ⟨hk.2.1, ⟨hk.2.2.1, hk.2.2.2.1⟩⟩⟩, hk.2.2.2.2⟩)) hg (.inl rfl)); have n6_ := Aside0.mk (Kd.S_after (v := (.slice (some ⟨go85, 0, none⟩) x238001_2.length co85)) (v1 := (.slice (some ⟨go85, 0, none⟩) x238001_2.length co85)) (ok := (fun k_ => some k_ ≠ (.slice (some ad266) x8_2.length co88 : Value).ownBlock ∧ some k_ ≠ (v245 : Value).ownBlock ∧ some k_ ≠ (.slice (some ad273) x10_2.length co43 : Value).ownBlock ∧ some k_ ≠ (u238000 : Value).ownBlock ∧ some k_ ≠ (u238002 : Value).ownBlock)) (by (with_reducible repeat (first | apply Kd.S_alloc | apply Kd.S_drewN | apply Kd.S_drew)); exact Kd.S_mono HO_238003.out (fun _ hk => ⟨⟨hk.1, ⟨hk.2.1, ⟨hk.2.2.1, ⟨hk.2.2.2.1, hk.2.2.2.2.2⟩⟩⟩⟩, hk.2.2.2.2.1⟩)) hg (.inl rfl)); have n7_ := Aside0.mk (blk_grown (g := gb227) (o := .cells #[.slice none 0 0, .slice none 0 0, .slice none 0 0, .slice none 0 0] 48 (0, 0)) BK227.out hg (Kd.R_ne HO_238001.out BK227.out (by decide))); have n8_ := Aside0.mk (blk_grown (g := gb237) (o := .cells #[u238000, .slice (some ⟨go85, 0, none⟩) x238001_2.length co85, u238002, u238003] 48 (0, 0)) BK237.out hg (Kd.R_ne HO_238001.out BK237.out (by decide))); have n9_ := Aside0.mk ((by rw [hw]; exact below_set HB.out GB85.out : Below w.heap.size w w92)); clear HO_8 HO_9 HO_10 HO_238000 HO_238001 HO_238002 HO_238003 BK227 BK237 HB; have HO_8 := n0_; have HO_9 := n1_; have HO_10 := n2_; have HO_238000 := n3_; have HO_238001 := n4_; have HO_238002 := n5_; have HO_238003 := n6_; have BK227 := n7_; have BK237 := n8_; have HB := n9_; clear n0_ n1_ n2_ n3_ n4_ n5_ n6_ n7_ n8_ n9_ hg hw hp_; have p86 : 0 ≤ ((ji79) : Int) := of_decide_eq_true (by first | (with_reducible assumption) | assumption); have q86 : ((ji79) : Int) < ((x10_2.length : Int) : Int) := of_decide_eq_true (by first | (with_reducible assumption) | assumption); obtain ⟨go86, co86, eo86, gb86, gl86, cl86, HG86⟩ := Kd.R_form HO_10.out (by omega); (first | cases eo86 | (injection eo86 with ea_ en_ ec_; (first | subst ea_ | (injection ea_ with ea_; subst ea_)); subst ec_; clear en_)); have GB86 := Aside0.mk gb86; have GG86 := Aside0.mk HG86; clear gb86 gl86 HG86; (first | simp only [add_plain] at hx273_0 | skip); obtain ⟨hx86_0, hf86_0⟩ := Kd.R_celln 0 HO_10.out ((ji79) : Int) p86 q86; replace p86 := eq_true p86; replace q86 := eq_true q86; have n_ := Aside0.mk (Kd.R_mono (ok' := (fun k_ => some k_ ≠ (.slice (some ad266) x8_2.length co88 : Value).ownBlock ∧ some k_ ≠ (v245 : Value).ownBlock ∧ some k_ ≠ (u238000 : Value).ownBlock ∧ some k_ ≠ (.slice (some ⟨go85, 0, none⟩) x238001_2.length co85 : Value).ownBlock ∧ some k_ ≠ (u238002 : Value).ownBlock)) HO_10.out (fun k_ hk => ⟨hk.1.1, ⟨hk.1.2.1, ⟨hk.1.2.2.1, ⟨hk.2, hk.1.2.2.2⟩⟩⟩⟩)); clear HO_10; have HO_10 := n_; clear n_; obtain ⟨hy93_, hz93_⟩ := Kd.R_celln 0 HO_10.out ((ji79) : Int) (of_decide_eq_true (by first | (with_reducible assumption) | assumption)) (of_decide_eq_true (by first | (with_reducible assumption) | assumption)); have HP93 := Kd.R_putg HO_10.out ((ji79) : Int) (rd l2 x45_2)) | ((with_reducible refine gate_store (t := 3) (p := 112) rfl ?_); refine store_event (t := 3) (p := 112) (v := ?vo_w94) (w1 := (w92.setCell ⟨go86, ((ji79) : Int).toNat, none⟩ (.int .i64 (rd l2 x45_2)))) ?hg ?ho ?hn ?hr ?_; (case ho => rfl); (case hg => rfl); (case hn => rfl); (case hr => first | (go_simp; done) | (go_simp; rfl)); intro w94 hw; have hg : w92.grownBy w94 (some go86) := (by rw [hw]; exact HP93.2); have hp_ : Kd.R (Kd.int .i64) 3 w94 w.heap.size (fun k_ => some k_ ≠ (.slice (some ad266) x8_2.length co88 : Value).ownBlock ∧ some k_ ≠ (v245 : Value).ownBlock ∧ some k_ ≠ (u238000 : Value).ownBlock ∧ some k_ ≠ (.slice (some ⟨go85, 0, none⟩) x238001_2.length co85 : Value).ownBlock ∧ some k_ ≠ (u238002 : Value).ownBlock) (.slice (some ⟨go86, 0, none⟩) x10_2.length co43) y275 := (by rw [hw, Ny275.out]; exact HP93.1); clear HP93; have n0_ := Aside0.mk (Kd.R_after (v := (.slice (some ⟨go86, 0, none⟩) x10_2.length co43)) (v1 := (.slice (some ⟨go86, 0, none⟩) x10_2.length co43)) (ok := (fun k_ => some k_ ≠ (v245 : Value).ownBlock ∧ some k_ ≠ (u238000 : Value).ownBlock ∧ some k_ ≠ (.slice (some ⟨go85, 0, none⟩) x238001_2.length co85 : Value).ownBlock ∧ some k_ ≠ (u238002 : Value).ownBlock)) (Kd.R_mono HO_8.out (fun _ hk => ⟨⟨hk.1.1, ⟨hk.1.2.2.1, ⟨hk.2, hk.1.2.2.2⟩⟩⟩, hk.1.2.1⟩)) hg (.inl rfl)); have n1_ := Aside0.mk (Kd.R_after (v := (.slice (some ⟨go86, 0, none⟩) x10_2.length co43)) (v1 := (.slice (some ⟨go86, 0, none⟩) x10_2.length co43)) (ok := (fun k_ => some k_ ≠ (.slice (some ad266) x8_2.length co88 : Value).ownBlock ∧ some k_ ≠ (u238000 : Value).ownBlock ∧ some k_ ≠ (.slice (some ⟨go85, 0, none⟩) x238001_2.length co85 : Value).ownBlock ∧ some k_ ≠ (u238002 : Value).ownBlock)) (Kd.R_mono HO_9.out (fun _ hk => ⟨⟨hk.1.1, ⟨hk.1.2.2.1, ⟨hk.2, hk.1.2.2.2⟩⟩⟩, hk.1.2.1⟩)) hg (.inl rfl)); have n2_ := Aside0.mk (hp_); have n3_ := Aside0.mk (Kd.R_after (v := (.slice (some ⟨go86, 0, none⟩) x10_2.length co43)) (v1 := (.slice (some ⟨go86, 0, none⟩) x10_2.length co43)) (ok := (fun k_ => some k_ ≠ (.slice (some ad266) x8_2.length co88 : Value).ownBlock ∧ some k_ ≠ (v245 : Value).ownBlock ∧ some k_ ≠ (.slice (some ⟨go85, 0, none⟩) x238001_2.length co85 : Value).ownBlock ∧ some k_ ≠ (u238002 : Value).ownBlock)) (Kd.R_mono HO_238000.out (fun _ hk => ⟨⟨hk.1.1, ⟨hk.1.2.1, ⟨hk.2, hk.1.2.2.2⟩⟩⟩, hk.1.2.2.1⟩)) hg (.inl rfl)); have n4_ := Aside0.mk (Kd.R_after (v := (.slice (some ⟨go86, 0, none⟩) x10_2.length co43)) (v1 := (.slice (some ⟨go86, 0, none⟩) x10_2.length co43)) (ok := (fun k_ => some k_ ≠ (.slice (some ad266) x8_2.length co88 : Value).ownBlock ∧ some k_ ≠ (v245 : Value).ownBlock ∧ some k_ ≠ (u238000 : Value).ownBlock ∧ some k_ ≠ (u238002 : Value).ownBlock)) (Kd.R_mono HO_238001.out (fun _ hk => ⟨⟨hk.1, ⟨hk.2.1, ⟨hk.2.2.2.1, hk.2.2.2.2⟩⟩⟩, hk.2.2.1⟩)) hg (.inl rfl)); have n5_ := Aside0.mk (Kd.R_after (v := (.slice (some ⟨go86, 0, none⟩) x10_2.length co43)) (v1 := (.slice (some ⟨go86, 0, none⟩) x10_2.length co43)) (ok := (fun k_ => some k_ ≠ (.slice (some ad266) x8_2.length co88 : Value).ownBlock ∧ some k_ ≠ (v245 : Value).ownBlock ∧ some k_ ≠ (u238000 : Value).ownBlock ∧ some k_ ≠ (.slice (some ⟨go85, 0, none⟩) x238001_2.length co85 : Value).ownBlock)) (Kd.R_mono HO_238002.out (fun _ hk => ⟨⟨hk.1.1, ⟨hk.1.2.1, ⟨hk.1.2.2.2, hk.2⟩⟩⟩, hk.1.2.2.1⟩)) hg (.inl rfl)); have n6_ := Aside0.mk (Kd.S_after (v := (.slice (some ⟨go86, 0, none⟩) x10_2.length co43)) (v1 := (.slice (some ⟨go86, 0, none⟩) x10_2.length co43)) (ok := (fun k_ => some k_ ≠ (.slice (some ad266) x8_2.length co88 : Value).ownBlock ∧ some k_ ≠ (v245 : Value).ownBlock ∧ some k_ ≠ (u238000 : Value).ownBlock ∧ some k_ ≠ (.slice (some ⟨go85, 0, none⟩) x238001_2.length co85 : Value).ownBlock ∧ some k_ ≠ (u238002 : Value).ownBlock)) (by (with_reducible repeat (first | apply Kd.S_alloc | apply Kd.S_drewN | apply Kd.S_drew)); exact Kd.S_mono HO_238003.out (fun _ hk => ⟨⟨hk.1.1, ⟨hk.1.2.1, ⟨hk.1.2.2.2.1, ⟨hk.2, hk.1.2.2.2.2⟩⟩⟩⟩, hk.1.2.2.1⟩)) hg (.inl rfl)); have n7_ := Aside0.mk (blk_grown (g := gb227) (o := .cells #[.slice none 0 0, .slice none 0 0, .slice none 0 0, .slice none 0 0] 48 (0, 0)) BK227.out hg (Kd.R_ne HO_10.out BK227.out (by decide))); have n8_ := Aside0.mk (blk_grown (g := gb237) (o := .cells #[u238000, .slice (some ⟨go85, 0, none⟩) x238001_2.length co85, u238002, u238003] 48 (0, 0)) BK237.out hg (Kd.R_ne HO_10.out BK237.out (by decide))); have n9_ := Aside0.mk ((by rw [hw]; exact below_set HB.out GB86.out : Below w.heap.size w w94)); clear HO_8 HO_9 HO_10 HO_238000 HO_238001 HO_238002 HO_238003 BK227 BK237 HB; have HO_8 := n0_; have HO_9 := n1_; have HO_10 := n2_; have HO_238000 := n3_; have HO_238001 := n4_; have HO_238002 := n5_; have HO_238003 := n6_; have BK227 := n7_; have BK237 := n8_; have HB := n9_; clear n0_ n1_ n2_ n3_ n4_ n5_ n6_ n7_ n8_ n9_ hg hw hp_; have p87 : 0 ≤ ((rd l2 x45_2) : Int) := of_decide_eq_true (by first | (with_reducible assumption) | assumption); have q87 : ((rd l2 x45_2) : Int) < ((x8_2.length : Int) : Int) := of_decide_eq_true (by first | (with_reducible assumption) | assumption); obtain ⟨go87, co87, eo87, gb87, gl87, cl87, HG87⟩ := Kd.R_form HO_8.out (by omega); (first | cases eo87 | (injection eo87 with ea_ en_ ec_; (first | subst ea_ | (injection ea_ with ea_; subst ea_)); subst ec_; clear en_)); have GB87 := Aside0.mk gb87; have GG87 := Aside0.mk HG87; clear gb87 gl87 HG87; (first | simp only [add_plain] at hx266_0 | skip); obtain ⟨hx87_0, hf87_0⟩ := Kd.R_celln 0 HO_8.out ((rd l2 x45_2) : Int) p87 q87; replace p87 := eq_true p87; replace q87 := eq_true q87; have n_ := Aside0.mk (Kd.R_mono (ok' := (fun k_ => some k_ ≠ (v245 : Value).ownBlock ∧ some k_ ≠ (.slice (some ⟨go86, 0, none⟩) x10_2.length co43 : Value).ownBlock ∧ some k_ ≠ (u238000 : Value).ownBlock ∧ some k_ ≠ (.slice (some ⟨go85, 0, none⟩) x238001_2.length co85 : Value).ownBlock ∧ some k_ ≠ (u238002 : Value).ownBlock)) HO_8.out (fun k_ hk => ⟨hk.1.1, ⟨hk.2, ⟨hk.1.2.1, ⟨hk.1.2.2.1, hk.1.2.2.2⟩⟩⟩⟩)); clear HO_8; have HO_8 := n_; clear n_; obtain ⟨hy95_, hz95_⟩ := Kd.R_celln 0 HO_8.out ((rd l2 x45_2) : Int) (of_decide_eq_true (by first | (with_reducible assumption) | assumption)) (of_decide_eq_true (by first | (with_reducible assumption) | assumption)); have HP95 := Kd.R_putg HO_8.out ((rd l2 x45_2) : Int) ji79) | ((with_reducible refine gate_store (t := 3) (p := 113) rfl ?_); refine store_event (t := 3) (p := 113) (v := ?vo_w96) (w1 := (w94.setCell ⟨go87, ((rd l2 x45_2) : Int).toNat, none⟩ (.int .i64 ji79))) ?hg ?ho ?hn ?hr ?_; (case ho => rfl); (case hg => rfl); (case hn => rfl); (case hr => first | (go_simp; done) | (go_simp; rfl)); intro w96 hw; have hg : w94.grownBy w96 (some go87) := (by rw [hw]; exact HP95.2); have hp_ : Kd.R (Kd.int .i64) 3 w96 w.heap.size (fun k_ => some k_ ≠ (v245 : Value).ownBlock ∧ some k_ ≠ (.slice (some ⟨go86, 0, none⟩) x10_2.length co43 : Value).ownBlock ∧ some k_ ≠ (u238000 : Value).ownBlock ∧ some k_ ≠ (.slice (some ⟨go85, 0, none⟩) x238001_2.length co85 : Value).ownBlock ∧ some k_ ≠ (u238002 : Value).ownBlock) (.slice (some ⟨go87, 0, none⟩) x8_2.length co88) y276 := (by rw [hw, Ny276.out]; exact HP95.1); clear HP95; have n0_ := Aside0.mk (hp_); have n1_ := Aside0.mk (Kd.R_after (v := (.slice (some ⟨go87, 0, none⟩) x8_2.length co88)) (v1 := (.slice (some ⟨go87, 0, none⟩) x8_2.length co88)) (ok := (fun k_ => some k_ ≠ (.slice (some ⟨go86, 0, none⟩) x10_2.length co43 : Value).ownBlock ∧ some k_ ≠ (u238000 : Value).ownBlock ∧ some k_ ≠ (.slice (some ⟨go85, 0, none⟩) x238001_2.length co85 : Value).ownBlock ∧ some k_ ≠ (u238002 : Value).ownBlock)) (Kd.R_mono HO_9.out (fun _ hk => ⟨⟨hk.2, ⟨hk.1.2.1, ⟨hk.1.2.2.1, hk.1.2.2.2⟩⟩⟩, hk.1.1⟩)) hg (.inl rfl)); have n2_ := Aside0.mk (Kd.R_after (v := (.slice (some ⟨go87, 0, none⟩) x8_2.length co88)) (v1 := (.slice (some ⟨go87, 0, none⟩) x8_2.length co88)) (ok := (fun k_ => some k_ ≠ (v245 : Value).ownBlock ∧ some k_ ≠ (u238000 : Value).ownBlock ∧ some k_ ≠ (.slice (some ⟨go85, 0, none⟩) x238001_2.length co85 : Value).ownBlock ∧ some k_ ≠ (u238002 : Value).ownBlock)) (Kd.R_mono HO_10.out (fun _ hk => ⟨⟨hk.2.1, ⟨hk.2.2.1, ⟨hk.2.2.2.1, hk.2.2.2.2⟩⟩⟩, hk.1⟩)) hg (.inl rfl)); have n3_ := Aside0.mk (Kd.R_after (v := (.slice (some ⟨go87, 0, none⟩) x8_2.length co88)) (v1 := (.slice (some ⟨go87, 0, none⟩) x8_2.length co88)) (ok := (fun k_ => some k_ ≠ (v245 : Value).ownBlock ∧ some k_ ≠ (.slice (some ⟨go86, 0, none⟩) x10_2.length co43 : Value).ownBlock ∧ some k_ ≠ (.slice (some ⟨go85, 0, none⟩) x238001_2.length co85 : Value).ownBlock ∧ some k_ ≠ (u238002 : Value).ownBlock)) (Kd.R_mono HO_238000.out (fun _ hk => ⟨⟨hk.1.2.1, ⟨hk.2, ⟨hk.1.2.2.1, hk.1.2.2.2⟩⟩⟩, hk.1.1⟩)) hg (.inl rfl)); have n4_ := Aside0.mk (Kd.R_after (v := (.slice (some ⟨go87, 0, none⟩) x8_2.length co88)) (v1 := (.slice (some ⟨go87, 0, none⟩) x8_2.length co88)) (ok := (fun k_ => some k_ ≠ (v245 : Value).ownBlock ∧ some k_ ≠ (.slice (some ⟨go86, 0, none⟩) x10_2.length co43 : Value).ownBlock ∧ some k_ ≠ (u238000 : Value).ownBlock ∧ some k_ ≠ (u238002 : Value).ownBlock)) (Kd.R_mono HO_238001.out (fun _ hk => ⟨⟨hk.1.2.1, ⟨hk.2, ⟨hk.1.2.2.1, hk.1.2.2.2⟩⟩⟩, hk.1.1⟩)) hg (.inl rfl)); have n5_ := Aside0.mk (Kd.R_after (v := (.slice (some ⟨go87, 0, none⟩) x8_2.length co88)) (v1 := (.slice (some ⟨go87, 0, none⟩) x8_2.length co88)) (ok := (fun k_ => some k_ ≠ (v245 : Value).ownBlock ∧ some k_ ≠ (.slice (some ⟨go86, 0, none⟩) x10_2.length co43 : Value).ownBlock ∧ some k_ ≠ (u238000 : Value).ownBlock ∧ some k_ ≠ (.slice (some ⟨go85, 0, none⟩) x238001_2.length co85 : Value).ownBlock)) (Kd.R_mono HO_238002.out (fun _ hk => ⟨⟨hk.1.2.1, ⟨hk.2, ⟨hk.1.2.2.1, hk.1.2.2.2⟩⟩⟩, hk.1.1⟩)) hg (.inl rfl)); have n6_ := Aside0.mk (Kd.S_after (v := (.slice (some ⟨go87, 0, none⟩) x8_2.length co88)) (v1 := (.slice (some ⟨go87, 0, none⟩) x8_2.length co88)) (ok := (fun k_ => some k_ ≠ (v245 : Value).ownBlock ∧ some k_ ≠ (.slice (some ⟨go86, 0, none⟩) x10_2.length co43 : Value).ownBlock ∧ some k_ ≠ (u238000 : Value).ownBlock ∧ some k_ ≠ (.slice (some ⟨go85, 0, none⟩) x238001_2.length co85 : Value).ownBlock ∧ some k_ ≠ (u238002 : Value).ownBlock)) (by (with_reducible repeat (first | apply Kd.S_alloc | apply Kd.S_drewN | apply Kd.S_drew)); exact Kd.S_mono HO_238003.out (fun _ hk => ⟨⟨hk.1.2.1, ⟨hk.2, ⟨hk.1.2.2.1, ⟨hk.1.2.2.2.1, hk.1.2.2.2.2⟩⟩⟩⟩, hk.1.1⟩)) hg (.inl rfl)); have n7_ := Aside0.mk (blk_grown (g := gb227) (o := .cells #[.slice none 0 0, .slice none 0 0, .slice none 0 0, .slice none 0 0] 48 (0, 0)) BK227.out hg (Kd.R_ne HO_8.out BK227.out (by decide))); have n8_ := Aside0.mk (blk_grown (g := gb237) (o := .cells #[u238000, .slice (some ⟨go85, 0, none⟩) x238001_2.length co85, u238002, u238003] 48 (0, 0)) BK237.out hg (Kd.R_ne HO_8.out BK237.out (by decide))); have n9_ := Aside0.mk ((by rw [hw]; exact below_set HB.out GB87.out : Below w.heap.size w w96)); clear HO_8 HO_9 HO_10 HO_238000 HO_238001 HO_238002 HO_238003 BK227 BK237 HB; have HO_8 := n0_; have HO_9 := n1_; have HO_10 := n2_; have HO_238000 := n3_; have HO_238001 := n4_; have HO_238002 := n5_; have HO_238003 := n6_; have BK227 := n7_; have BK237 := n8_; have HB := n9_; clear n0_ n1_ n2_ n3_ n4_ n5_ n6_ n7_ n8_ n9_ hg hw hp_))
                     (try simp only [← hl10_2])
                     go_roundg k2
                     case measure => have := HK1.out; have := HK2.out; omega
                     case rel => exact ⟨(y276), (x9_2), (y275), (x11_2), (wrap64 (x45_2 + 1)), (x238000_2), (y274), (x238002_2), (u238000), (.slice (some ⟨go85, 0, none⟩) x238001_2.length co85), (u238002), (by first | rfl | (simp; done) | (simp [*]; done)), (by first | rfl | (simp; done) | (simp [*]; done)), H', ⟨by have := HK1.out; have := HK2.out; omega⟩, ⟨by (try simp only [hl10_1]); (try simp only [hl10_2]); (with_reducible repeat (first | apply Kd.R_alloc | apply Kd.R_drewN | apply Kd.R_drew)); exact HO_8.out⟩, ⟨by (try simp only [hl10_1]); (try simp only [hl10_2]); (with_reducible repeat (first | apply Kd.R_alloc | apply Kd.R_drewN | apply Kd.R_drew)); exact Kd.R_mono HO_9.out (fun _ hk => ⟨hk.2, ⟨hk.1.1, ⟨hk.1.2.1, ⟨hk.1.2.2.1, hk.1.2.2.2⟩⟩⟩⟩)⟩, ⟨by (try simp only [hl10_1]); (try simp only [hl10_2]); (with_reducible repeat (first | apply Kd.R_alloc | apply Kd.R_drewN | apply Kd.R_drew)); exact Kd.R_mono HO_10.out (fun _ hk => ⟨hk.2, ⟨hk.1.1, ⟨hk.1.2.1, ⟨hk.1.2.2.1, hk.1.2.2.2⟩⟩⟩⟩)⟩, ⟨by (try simp only [hl10_1]); (try simp only [hl10_2]); (with_reducible repeat (first | apply Kd.R_alloc | apply Kd.R_drewN | apply Kd.R_drew)); exact Kd.R_mono HO_238000.out (fun _ hk => ⟨hk.2, ⟨hk.1.1, ⟨hk.1.2.1, ⟨hk.1.2.2.1, hk.1.2.2.2⟩⟩⟩⟩)⟩, ⟨by (try simp only [hl10_1]); (try simp only [hl10_2]); (with_reducible repeat (first | apply Kd.R_alloc | apply Kd.R_drewN | apply Kd.R_drew)); exact Kd.R_mono HO_238001.out (fun _ hk => ⟨hk.2, ⟨hk.1.1, ⟨hk.1.2.1, ⟨hk.1.2.2.1, hk.1.2.2.2⟩⟩⟩⟩)⟩, ⟨by (try simp only [hl10_1]); (try simp only [hl10_2]); (with_reducible repeat (first | apply Kd.R_alloc | apply Kd.R_drewN | apply Kd.R_drew)); exact Kd.R_mono HO_238002.out (fun _ hk => ⟨hk.2, ⟨hk.1.1, ⟨hk.1.2.1, ⟨hk.1.2.2.1, hk.1.2.2.2⟩⟩⟩⟩)⟩, ⟨by (try simp only [hl10_1]); (try simp only [hl10_2]); (with_reducible repeat (first | apply Kd.S_alloc | apply Kd.S_drewN | apply Kd.S_drew)); exact Kd.S_mono HO_238003.out (fun _ hk => ⟨hk.2, ⟨hk.1.1, ⟨hk.1.2.1, ⟨hk.1.2.2.1, ⟨hk.1.2.2.2.1, hk.1.2.2.2.2⟩⟩⟩⟩⟩)⟩, ⟨by (try simp only [hl10_1]); (try simp only [hl10_2]); first | (with_reducible exact BK227.out) | ((with_reducible repeat (first | refine blk_drewN ?_ _ | refine blk_drew ?_ | refine blk_alloc ?_ _)); exact BK227.out)⟩, ⟨by (try simp only [hl10_1]); (try simp only [hl10_2]); first | (with_reducible exact BK237.out) | ((with_reducible repeat (first | refine blk_drewN ?_ _ | refine blk_drew ?_ | refine blk_alloc ?_ _)); exact BK237.out)⟩, ⟨HB.out⟩⟩
                    ·rw [if_neg c84] at H
                     exact absurd H (by simp)
                   ·rw [if_neg c83] at H
                    have c83b0 : decide ((rd x8_2 (rd l2 x45_2)) < 0) = false := decide_eq_false c83
                    clear c83
                    by_cases c97 : 0 ≤ (rd x8_2 (rd l2 x45_2))
                    ·rw [if_pos c97] at H
                     have c97b0 : decide (0 ≤ (rd x8_2 (rd l2 x45_2))) = true := decide_eq_true c97
                     clear c97
                     by_cases c98 : (rd x8_2 (rd l2 x45_2)) < (x10_2.length : Int)
                     ·rw [if_pos c98] at H
                      have c98b0 : decide ((rd x8_2 (rd l2 x45_2)) < (x10_2.length : Int)) = true := decide_eq_true c98
                      clear c98
                      obtain ⟨y277, hy277⟩ : ∃ y_ : List Int, y_ = (x10_2.set ((rd x8_2 (rd l2 x45_2)) : Int).toNat (-1)) := ⟨_, rfl⟩
                      replace H : (impl_board.l1 k2 a0 a1 l2 (x8_2.set ((rd l2 x45_2) : Int).toNat (ji79)) x9_2 (y277.set ((ji79) : Int).toNat (rd l2 x45_2)) x11_2 x12_1 l2 (l2.length : Int) (wrap64 (x45_2 + 1)) x238000_2 x238001_2 x238002_2 x238003_1) = some (r1, r2, r3, r4) := by first | (rw [hy277]; with_reducible exact H) | (have H2_ := (Option.bind_some _ _).symm.trans H; rw [hy277]; with_reducible exact H2_) | (have H2_ := (Option.bind_some _ _).symm.trans H; with_reducible exact H2_) | with_reducible exact H | (rw [hy277]; exact H) | exact H
                      have Ny277 := Aside0.mk hy277
                      clear hy277
                      obtain ⟨y278, hy278⟩ : ∃ y_ : List Int, y_ = (y277.set ((ji79) : Int).toNat (rd l2 x45_2)) := ⟨_, rfl⟩
                      replace H : (impl_board.l1 k2 a0 a1 l2 (x8_2.set ((rd l2 x45_2) : Int).toNat (ji79)) x9_2 y278 x11_2 x12_1 l2 (l2.length : Int) (wrap64 (x45_2 + 1)) x238000_2 x238001_2 x238002_2 x238003_1) = some (r1, r2, r3, r4) := by first | (rw [hy278]; with_reducible exact H) | (have H2_ := (Option.bind_some _ _).symm.trans H; rw [hy278]; with_reducible exact H2_) | (have H2_ := (Option.bind_some _ _).symm.trans H; with_reducible exact H2_) | with_reducible exact H | (rw [hy278]; exact H) | exact H
                      have Ny278 := Aside0.mk hy278
                      clear hy278
                      obtain ⟨y279, hy279⟩ : ∃ y_ : List Int, y_ = (x8_2.set ((rd l2 x45_2) : Int).toNat (ji79)) := ⟨_, rfl⟩
                      replace H : (impl_board.l1 k2 a0 a1 l2 y279 x9_2 y278 x11_2 x12_1 l2 (l2.length : Int) (wrap64 (x45_2 + 1)) x238000_2 x238001_2 x238002_2 x238003_1) = some (r1, r2, r3, r4) := by first | (rw [hy279]; with_reducible exact H) | (have H2_ := (Option.bind_some _ _).symm.trans H; rw [hy279]; with_reducible exact H2_) | (have H2_ := (Option.bind_some _ _).symm.trans H; with_reducible exact H2_) | with_reducible exact H | (rw [hy279]; exact H) | exact H
                      have Ny279 := Aside0.mk hy279
                      clear hy279
                      have H' := Aside0.mk H
                      clear H
                      have p265 : 0 ≤ (x45_2 : Int) := of_decide_eq_true (by first | (with_reducible assumption) | assumption)
                      have q265 : x45_2 < (l2.length : Int) := of_decide_eq_true (by first | (with_reducible assumption) | assumption)
                      obtain ⟨ad265, e265, hx265_0⟩ := Kd.at_int HR2.out x45_2 p265 q265
                      cases e265
                      (try replace hx265_0 := (HB.out.cell (World.block_lt_of_cell? w _ hx265_0)).trans hx265_0)
                      replace p265 := eq_true p265
                      replace q265 := eq_true q265
                      obtain ⟨Ao102, co102, eo102⟩ := Kd.R_slice HO_8.out
                      subst eo102
                      have p266 : 0 ≤ ((rd l2 x45_2) : Int) := of_decide_eq_true (by first | (with_reducible assumption) | assumption)
                      have q266 : (rd l2 x45_2) < (x8_2.length : Int) := of_decide_eq_true (by first | (with_reducible assumption) | assumption)
                      obtain ⟨ad266, e266, hx266_0⟩ := Kd.at_int (Kd.R_reads' HO_8.out).2.2 (rd l2 x45_2) p266 q266
                      cases e266
                      replace p266 := eq_true p266
                      replace q266 := eq_true q266
                      have p273 : 0 ≤ ((ji79) : Int) := of_decide_eq_true (by first | (with_reducible assumption) | assumption)
                      have q273 : (ji79) < (x10_2.length : Int) := of_decide_eq_true (by first | (with_reducible assumption) | assumption)
                      obtain ⟨ad273, e273, hx273_0⟩ := Kd.at_int (Kd.R_reads' HO_10.out).2.2 (ji79) p273 q273
                      cases e273
                      replace p273 := eq_true p273
                      replace q273 := eq_true q273
                      have p99 : 0 ≤ ((rd x8_2 (rd l2 x45_2)) : Int) := of_decide_eq_true (by first | (with_reducible assumption) | assumption)
                      have q99 : ((rd x8_2 (rd l2 x45_2)) : Int) < ((x10_2.length : Int) : Int) := of_decide_eq_true (by first | (with_reducible assumption) | assumption)
                      obtain ⟨go99, co99, eo99, gb99, gl99, cl99, HG99⟩ := Kd.R_form HO_10.out (by omega)
                      (first | cases eo99 | (injection eo99 with ea_ en_ ec_; (first | subst ea_ | (injection ea_ with ea_; subst ea_)); subst ec_; clear en_))
                      have GB99 := Aside0.mk gb99
                      have GG99 := Aside0.mk HG99
                      clear gb99 gl99 HG99
                      (first | simp only [add_plain] at hx273_0 | skip)
                      obtain ⟨hx99_0, hf99_0⟩ := Kd.R_celln 0 HO_10.out ((rd x8_2 (rd l2 x45_2)) : Int) p99 q99
                      replace p99 := eq_true p99
                      replace q99 := eq_true q99
                      have HP103 := Kd.R_putg HO_10.out ((rd x8_2 (rd l2 x45_2)) : Int) (-1)
                      go_wp2_with (first | ((with_reducible refine gate_store (t := 3) (p := 103) rfl ?_); refine store_event (t := 3) (p := 103) (v := ?vo_w104) (w1 := (wr.setCell ⟨go99, ((rd x8_2 (rd l2 x45_2)) : Int).toNat, none⟩ (.int .i64 (-1)))) ?hg ?ho ?hn ?hr ?_; (case ho => rfl); (case hg => rfl); (case hn => rfl); (case hr => first | (go_simp; done) | (go_simp; rfl)); intro w104 hw; have hg : wr.grownBy w104 (some go99) := (by rw [hw]; exact HP103.2); have hp_ : Kd.R (Kd.int .i64) 3 w104 w.heap.size (fun k_ => some k_ ≠ (.slice (some ad266) x8_2.length co102 : Value).ownBlock ∧ some k_ ≠ (v245 : Value).ownBlock ∧ some k_ ≠ (u238000 : Value).ownBlock ∧ some k_ ≠ (u238001 : Value).ownBlock ∧ some k_ ≠ (u238002 : Value).ownBlock) (.slice (some ⟨go99, 0, none⟩) x10_2.length co43) y277 := (by rw [hw, Ny277.out]; exact HP103.1); clear HP103; have n0_ := Aside0.mk (Kd.R_after (v := (.slice (some ⟨go99, 0, none⟩) x10_2.length co43)) (v1 := (.slice (some ⟨go99, 0, none⟩) x10_2.length co43)) (ok := (fun k_ => some k_ ≠ (v245 : Value).ownBlock ∧ some k_ ≠ (u238000 : Value).ownBlock ∧ some k_ ≠ (u238001 : Value).ownBlock ∧ some k_ ≠ (u238002 : Value).ownBlock)) (Kd.R_mono HO_8.out (fun _ hk => ⟨⟨hk.1, ⟨hk.2.2.1, ⟨hk.2.2.2.1, hk.2.2.2.2⟩⟩⟩, hk.2.1⟩)) hg (.inl rfl)); have n1_ := Aside0.mk (Kd.R_after (v := (.slice (some ⟨go99, 0, none⟩) x10_2.length co43)) (v1 := (.slice (some ⟨go99, 0, none⟩) x10_2.length co43)) (ok := (fun k_ => some k_ ≠ (.slice (some ad266) x8_2.length co102 : Value).ownBlock ∧ some k_ ≠ (u238000 : Value).ownBlock ∧ some k_ ≠ (u238001 : Value).ownBlock ∧ some k_ ≠ (u238002 : Value).ownBlock)) (Kd.R_mono HO_9.out (fun _ hk => ⟨⟨hk.1, ⟨hk.2.2.1, ⟨hk.2.2.2.1, hk.2.2.2.2⟩⟩⟩, hk.2.1⟩)) hg (.inl rfl)); have n2_ := Aside0.mk (hp_); have n3_ := Aside0.mk (Kd.R_after (v := (.slice (some ⟨go99, 0, none⟩) x10_2.length co43)) (v1 := (.slice (some ⟨go99, 0, none⟩) x10_2.length co43)) (ok := (fun k_ => some k_ ≠ (.slice (some ad266) x8_2.length co102 : Value).ownBlock ∧ some k_ ≠ (v245 : Value).ownBlock ∧ some k_ ≠ (u238001 : Value).ownBlock ∧ some k_ ≠ (u238002 : Value).ownBlock)) (Kd.R_mono HO_238000.out (fun _ hk => ⟨⟨hk.1, ⟨hk.2.1, ⟨hk.2.2.2.1, hk.2.2.2.2⟩⟩⟩, hk.2.2.1⟩)) hg (.inl rfl)); have n4_ := Aside0.mk (Kd.R_after (v := (.slice (some ⟨go99, 0, none⟩) x10_2.length co43)) (v1 := (.slice (some ⟨go99, 0, none⟩) x10_2.length co43)) (ok := (fun k_ => some k_ ≠ (.slice (some ad266) x8_2.length co102 : Value).ownBlock ∧ some k_ ≠ (v245 : Value).ownBlock ∧ some k_ ≠ (u238000 : Value).ownBlock ∧ some k_ ≠ (u238002 : Value).ownBlock)) (Kd.R_mono HO_238001.out (fun _ hk => ⟨⟨hk.1, ⟨hk.2.1, ⟨hk.2.2.2.1, hk.2.2.2.2⟩⟩⟩, hk.2.2.1⟩)) hg (.inl rfl)); have n5_ := Aside0.mk (Kd.R_after (v := (.slice (some ⟨go99, 0, none⟩) x10_2.length co43)) (v1 := (.slice (some ⟨go99, 0, none⟩) x10_2.length co43)) (ok := (fun k_ => some k_ ≠ (.slice (some ad266) x8_2.length co102 : Value).ownBlock ∧ some k_ ≠ (v245 : Value).ownBlock ∧ some k_ ≠ (u238000 : Value).ownBlock ∧ some k_ ≠ (u238001 : Value).ownBlock)) (Kd.R_mono HO_238002.out (fun _ hk => ⟨⟨hk.1, ⟨hk.2.1, ⟨hk.2.2.2.1, hk.2.2.2.2⟩⟩⟩, hk.2.2.1⟩)) hg (.inl rfl)); have n6_ := Aside0.mk (Kd.S_after (v := (.slice (some ⟨go99, 0, none⟩) x10_2.length co43)) (v1 := (.slice (some ⟨go99, 0, none⟩) x10_2.length co43)) (ok := (fun k_ => some k_ ≠ (.slice (some ad266) x8_2.length co102 : Value).ownBlock ∧ some k_ ≠ (v245 : Value).ownBlock ∧ some k_ ≠ (u238000 : Value).ownBlock ∧ some k_ ≠ (u238001 : Value).ownBlock ∧ some k_ ≠ (u238002 : Value).ownBlock)) (by (with_reducible repeat (first | apply Kd.S_alloc | apply Kd.S_drewN | apply Kd.S_drew)); exact Kd.S_mono HO_238003.out (fun _ hk => ⟨⟨hk.1, ⟨hk.2.1, ⟨hk.2.2.2.1, ⟨hk.2.2.2.2.1, hk.2.2.2.2.2⟩⟩⟩⟩, hk.2.2.1⟩)) hg (.inl rfl)); have n7_ := Aside0.mk (blk_grown (g := gb227) (o := .cells #[.slice none 0 0, .slice none 0 0, .slice none 0 0, .slice none 0 0] 48 (0, 0)) BK227.out hg (Kd.R_ne HO_10.out BK227.out (by decide))); have n8_ := Aside0.mk (blk_grown (g := gb237) (o := .cells #[u238000, u238001, u238002, u238003] 48 (0, 0)) BK237.out hg (Kd.R_ne HO_10.out BK237.out (by decide))); have n9_ := Aside0.mk ((by rw [hw]; exact below_set HB.out GB99.out : Below w.heap.size w w104)); clear HO_8 HO_9 HO_10 HO_238000 HO_238001 HO_238002 HO_238003 BK227 BK237 HB; have HO_8 := n0_; have HO_9 := n1_; have HO_10 := n2_; have HO_238000 := n3_; have HO_238001 := n4_; have HO_238002 := n5_; have HO_238003 := n6_; have BK227 := n7_; have BK237 := n8_; have HB := n9_; clear n0_ n1_ n2_ n3_ n4_ n5_ n6_ n7_ n8_ n9_ hg hw hp_; have p100 : 0 ≤ ((ji79) : Int) := of_decide_eq_true (by first | (with_reducible assumption) | assumption); have q100 : ((ji79) : Int) < ((x10_2.length : Int) : Int) := of_decide_eq_true (by first | (with_reducible assumption) | assumption); obtain ⟨hx100_0, hf100_0⟩ := Kd.R_celln 0 HO_10.out ((ji79) : Int) p100 q100; replace p100 := eq_true p100; replace q100 := eq_true q100; obtain ⟨hy105_, hz105_⟩ := Kd.R_celln 0 HO_10.out ((ji79) : Int) (of_decide_eq_true (by first | (with_reducible assumption) | assumption)) (of_decide_eq_true (by first | (with_reducible assumption) | assumption)); have HP105 := Kd.R_putg HO_10.out ((ji79) : Int) (rd l2 x45_2)) | ((with_reducible refine gate_store (t := 3) (p := 112) rfl ?_); refine store_event (t := 3) (p := 112) (v := ?vo_w106) (w1 := (w104.setCell ⟨go99, ((ji79) : Int).toNat, none⟩ (.int .i64 (rd l2 x45_2)))) ?hg ?ho ?hn ?hr ?_; (case ho => rfl); (case hg => rfl); (case hn => rfl); (case hr => first | (go_simp; done) | (go_simp; rfl)); intro w106 hw; have hg : w104.grownBy w106 (some go99) := (by rw [hw]; exact HP105.2); have hp_ : Kd.R (Kd.int .i64) 3 w106 w.heap.size (fun k_ => some k_ ≠ (.slice (some ad266) x8_2.length co102 : Value).ownBlock ∧ some k_ ≠ (v245 : Value).ownBlock ∧ some k_ ≠ (u238000 : Value).ownBlock ∧ some k_ ≠ (u238001 : Value).ownBlock ∧ some k_ ≠ (u238002 : Value).ownBlock) (.slice (some ⟨go99, 0, none⟩) x10_2.length co43) y278 := (by rw [hw, Ny278.out]; exact HP105.1); clear HP105; have n0_ := Aside0.mk (Kd.R_after (v := (.slice (some ⟨go99, 0, none⟩) x10_2.length co43)) (v1 := (.slice (some ⟨go99, 0, none⟩) x10_2.length co43)) (ok := (fun k_ => some k_ ≠ (v245 : Value).ownBlock ∧ some k_ ≠ (u238000 : Value).ownBlock ∧ some k_ ≠ (u238001 : Value).ownBlock ∧ some k_ ≠ (u238002 : Value).ownBlock)) HO_8.out hg (.inl rfl)); have n1_ := Aside0.mk (Kd.R_after (v := (.slice (some ⟨go99, 0, none⟩) x10_2.length co43)) (v1 := (.slice (some ⟨go99, 0, none⟩) x10_2.length co43)) (ok := (fun k_ => some k_ ≠ (.slice (some ad266) x8_2.length co102 : Value).ownBlock ∧ some k_ ≠ (u238000 : Value).ownBlock ∧ some k_ ≠ (u238001 : Value).ownBlock ∧ some k_ ≠ (u238002 : Value).ownBlock)) HO_9.out hg (.inl rfl)); have n2_ := Aside0.mk (hp_); have n3_ := Aside0.mk (Kd.R_after (v := (.slice (some ⟨go99, 0, none⟩) x10_2.length co43)) (v1 := (.slice (some ⟨go99, 0, none⟩) x10_2.length co43)) (ok := (fun k_ => some k_ ≠ (.slice (some ad266) x8_2.length co102 : Value).ownBlock ∧ some k_ ≠ (v245 : Value).ownBlock ∧ some k_ ≠ (u238001 : Value).ownBlock ∧ some k_ ≠ (u238002 : Value).ownBlock)) HO_238000.out hg (.inl rfl)); have n4_ := Aside0.mk (Kd.R_after (v := (.slice (some ⟨go99, 0, none⟩) x10_2.length co43)) (v1 := (.slice (some ⟨go99, 0, none⟩) x10_2.length co43)) (ok := (fun k_ => some k_ ≠ (.slice (some ad266) x8_2.length co102 : Value).ownBlock ∧ some k_ ≠ (v245 : Value).ownBlock ∧ some k_ ≠ (u238000 : Value).ownBlock ∧ some k_ ≠ (u238002 : Value).ownBlock)) HO_238001.out hg (.inl rfl)); have n5_ := Aside0.mk (Kd.R_after (v := (.slice (some ⟨go99, 0, none⟩) x10_2.length co43)) (v1 := (.slice (some ⟨go99, 0, none⟩) x10_2.length co43)) (ok := (fun k_ => some k_ ≠ (.slice (some ad266) x8_2.length co102 : Value).ownBlock ∧ some k_ ≠ (v245 : Value).ownBlock ∧ some k_ ≠ (u238000 : Value).ownBlock ∧ some k_ ≠ (u238001 : Value).ownBlock)) HO_238002.out hg (.inl rfl)); have n6_ := Aside0.mk (Kd.S_after (v := (.slice (some ⟨go99, 0, none⟩) x10_2.length co43)) (v1 := (.slice (some ⟨go99, 0, none⟩) x10_2.length co43)) (ok := (fun k_ => some k_ ≠ (.slice (some ad266) x8_2.length co102 : Value).ownBlock ∧ some k_ ≠ (v245 : Value).ownBlock ∧ some k_ ≠ (u238000 : Value).ownBlock ∧ some k_ ≠ (u238001 : Value).ownBlock ∧ some k_ ≠ (u238002 : Value).ownBlock)) HO_238003.out hg (.inl rfl)); have n7_ := Aside0.mk (blk_grown (g := gb227) (o := .cells #[.slice none 0 0, .slice none 0 0, .slice none 0 0, .slice none 0 0] 48 (0, 0)) BK227.out hg (Kd.R_ne HO_10.out BK227.out (by decide))); have n8_ := Aside0.mk (blk_grown (g := gb237) (o := .cells #[u238000, u238001, u238002, u238003] 48 (0, 0)) BK237.out hg (Kd.R_ne HO_10.out BK237.out (by decide))); have n9_ := Aside0.mk ((by rw [hw]; exact below_set HB.out GB99.out : Below w.heap.size w w106)); clear HO_8 HO_9 HO_10 HO_238000 HO_238001 HO_238002 HO_238003 BK227 BK237 HB; have HO_8 := n0_; have HO_9 := n1_; have HO_10 := n2_; have HO_238000 := n3_; have HO_238001 := n4_; have HO_238002 := n5_; have HO_238003 := n6_; have BK227 := n7_; have BK237 := n8_; have HB := n9_; clear n0_ n1_ n2_ n3_ n4_ n5_ n6_ n7_ n8_ n9_ hg hw hp_; have p101 : 0 ≤ ((rd l2 x45_2) : Int) := of_decide_eq_true (by first | (with_reducible assumption) | assumption); have q101 : ((rd l2 x45_2) : Int) < ((x8_2.length : Int) : Int) := of_decide_eq_true (by first | (with_reducible assumption) | assumption); obtain ⟨go101, co101, eo101, gb101, gl101, cl101, HG101⟩ := Kd.R_form HO_8.out (by omega); (first | cases eo101 | (injection eo101 with ea_ en_ ec_; (first | subst ea_ | (injection ea_ with ea_; subst ea_)); subst ec_; clear en_)); have GB101 := Aside0.mk gb101; have GG101 := Aside0.mk HG101; clear gb101 gl101 HG101; (first | simp only [add_plain] at hx266_0 | skip); obtain ⟨hx101_0, hf101_0⟩ := Kd.R_celln 0 HO_8.out ((rd l2 x45_2) : Int) p101 q101; replace p101 := eq_true p101; replace q101 := eq_true q101; have n_ := Aside0.mk (Kd.R_mono (ok' := (fun k_ => some k_ ≠ (v245 : Value).ownBlock ∧ some k_ ≠ (.slice (some ⟨go99, 0, none⟩) x10_2.length co43 : Value).ownBlock ∧ some k_ ≠ (u238000 : Value).ownBlock ∧ some k_ ≠ (u238001 : Value).ownBlock ∧ some k_ ≠ (u238002 : Value).ownBlock)) HO_8.out (fun k_ hk => ⟨hk.1.1, ⟨hk.2, ⟨hk.1.2.1, ⟨hk.1.2.2.1, hk.1.2.2.2⟩⟩⟩⟩)); clear HO_8; have HO_8 := n_; clear n_; obtain ⟨hy107_, hz107_⟩ := Kd.R_celln 0 HO_8.out ((rd l2 x45_2) : Int) (of_decide_eq_true (by first | (with_reducible assumption) | assumption)) (of_decide_eq_true (by first | (with_reducible assumption) | assumption)); have HP107 := Kd.R_putg HO_8.out ((rd l2 x45_2) : Int) ji79) | ((with_reducible refine gate_store (t := 3) (p := 113) rfl ?_); refine store_event (t := 3) (p := 113) (v := ?vo_w108) (w1 := (w106.setCell ⟨go101, ((rd l2 x45_2) : Int).toNat, none⟩ (.int .i64 ji79))) ?hg ?ho ?hn ?hr ?_; (case ho => rfl); (case hg => rfl); (case hn => rfl); (case hr => first | (go_simp; done) | (go_simp; rfl)); intro w108 hw; have hg : w106.grownBy w108 (some go101) := (by rw [hw]; exact HP107.2); have hp_ : Kd.R (Kd.int .i64) 3 w108 w.heap.size (fun k_ => some k_ ≠ (v245 : Value).ownBlock ∧ some k_ ≠ (.slice (some ⟨go99, 0, none⟩) x10_2.length co43 : Value).ownBlock ∧ some k_ ≠ (u238000 : Value).ownBlock ∧ some k_ ≠ (u238001 : Value).ownBlock ∧ some k_ ≠ (u238002 : Value).ownBlock) (.slice (some ⟨go101, 0, none⟩) x8_2.length co102) y279 := (by rw [hw, Ny279.out]; exact HP107.1); clear HP107; have n0_ := Aside0.mk (hp_); have n1_ := Aside0.mk (Kd.R_after (v := (.slice (some ⟨go101, 0, none⟩) x8_2.length co102)) (v1 := (.slice (some ⟨go101, 0, none⟩) x8_2.length co102)) (ok := (fun k_ => some k_ ≠ (.slice (some ⟨go99, 0, none⟩) x10_2.length co43 : Value).ownBlock ∧ some k_ ≠ (u238000 : Value).ownBlock ∧ some k_ ≠ (u238001 : Value).ownBlock ∧ some k_ ≠ (u238002 : Value).ownBlock)) (Kd.R_mono HO_9.out (fun _ hk => ⟨⟨hk.2, ⟨hk.1.2.1, ⟨hk.1.2.2.1, hk.1.2.2.2⟩⟩⟩, hk.1.1⟩)) hg (.inl rfl)); have n2_ := Aside0.mk (Kd.R_after (v := (.slice (some ⟨go101, 0, none⟩) x8_2.length co102)) (v1 := (.slice (some ⟨go101, 0, none⟩) x8_2.length co102)) (ok := (fun k_ => some k_ ≠ (v245 : Value).ownBlock ∧ some k_ ≠ (u238000 : Value).ownBlock ∧ some k_ ≠ (u238001 : Value).ownBlock ∧ some k_ ≠ (u238002 : Value).ownBlock)) (Kd.R_mono HO_10.out (fun _ hk => ⟨⟨hk.2.1, ⟨hk.2.2.1, ⟨hk.2.2.2.1, hk.2.2.2.2⟩⟩⟩, hk.1⟩)) hg (.inl rfl)); have n3_ := Aside0.mk (Kd.R_after (v := (.slice (some ⟨go101, 0, none⟩) x8_2.length co102)) (v1 := (.slice (some ⟨go101, 0, none⟩) x8_2.length co102)) (ok := (fun k_ => some k_ ≠ (v245 : Value).ownBlock ∧ some k_ ≠ (.slice (some ⟨go99, 0, none⟩) x10_2.length co43 : Value).ownBlock ∧ some k_ ≠ (u238001 : Value).ownBlock ∧ some k_ ≠ (u238002 : Value).ownBlock)) (Kd.R_mono HO_238000.out (fun _ hk => ⟨⟨hk.1.2.1, ⟨hk.2, ⟨hk.1.2.2.1, hk.1.2.2.2⟩⟩⟩, hk.1.1⟩)) hg (.inl rfl)); have n4_ := Aside0.mk (Kd.R_after (v := (.slice (some ⟨go101, 0, none⟩) x8_2.length co102)) (v1 := (.slice (some ⟨go101, 0, none⟩) x8_2.length co102)) (ok := (fun k_ => some k_ ≠ (v245 : Value).ownBlock ∧ some k_ ≠ (.slice (some ⟨go99, 0, none⟩) x10_2.length co43 : Value).ownBlock ∧ some k_ ≠ (u238000 : Value).ownBlock ∧ some k_ ≠ (u238002 : Value).ownBlock)) (Kd.R_mono HO_238001.out (fun _ hk => ⟨⟨hk.1.2.1, ⟨hk.2, ⟨hk.1.2.2.1, hk.1.2.2.2⟩⟩⟩, hk.1.1⟩)) hg (.inl rfl)); have n5_ := Aside0.mk (Kd.R_after (v := (.slice (some ⟨go101, 0, none⟩) x8_2.length co102)) (v1 := (.slice (some ⟨go101, 0, none⟩) x8_2.length co102)) (ok := (fun k_ => some k_ ≠ (v245 : Value).ownBlock ∧ some k_ ≠ (.slice (some ⟨go99, 0, none⟩) x10_2.length co43 : Value).ownBlock ∧ some k_ ≠ (u238000 : Value).ownBlock ∧ some k_ ≠ (u238001 : Value).ownBlock)) (Kd.R_mono HO_238002.out (fun _ hk => ⟨⟨hk.1.2.1, ⟨hk.2, ⟨hk.1.2.2.1, hk.1.2.2.2⟩⟩⟩, hk.1.1⟩)) hg (.inl rfl)); have n6_ := Aside0.mk (Kd.S_after (v := (.slice (some ⟨go101, 0, none⟩) x8_2.length co102)) (v1 := (.slice (some ⟨go101, 0, none⟩) x8_2.length co102)) (ok := (fun k_ => some k_ ≠ (v245 : Value).ownBlock ∧ some k_ ≠ (.slice (some ⟨go99, 0, none⟩) x10_2.length co43 : Value).ownBlock ∧ some k_ ≠ (u238000 : Value).ownBlock ∧ some k_ ≠ (u238001 : Value).ownBlock ∧ some k_ ≠ (u238002 : Value).ownBlock)) (by (with_reducible repeat (first | apply Kd.S_alloc | apply Kd.S_drewN | apply Kd.S_drew)); exact Kd.S_mono HO_238003.out (fun _ hk => ⟨⟨hk.1.2.1, ⟨hk.2, ⟨hk.1.2.2.1, ⟨hk.1.2.2.2.1, hk.1.2.2.2.2⟩⟩⟩⟩, hk.1.1⟩)) hg (.inl rfl)); have n7_ := Aside0.mk (blk_grown (g := gb227) (o := .cells #[.slice none 0 0, .slice none 0 0, .slice none 0 0, .slice none 0 0] 48 (0, 0)) BK227.out hg (Kd.R_ne HO_8.out BK227.out (by decide))); have n8_ := Aside0.mk (blk_grown (g := gb237) (o := .cells #[u238000, u238001, u238002, u238003] 48 (0, 0)) BK237.out hg (Kd.R_ne HO_8.out BK237.out (by decide))); have n9_ := Aside0.mk ((by rw [hw]; exact below_set HB.out GB101.out : Below w.heap.size w w108)); clear HO_8 HO_9 HO_10 HO_238000 HO_238001 HO_238002 HO_238003 BK227 BK237 HB; have HO_8 := n0_; have HO_9 := n1_; have HO_10 := n2_; have HO_238000 := n3_; have HO_238001 := n4_; have HO_238002 := n5_; have HO_238003 := n6_; have BK227 := n7_; have BK237 := n8_; have HB := n9_; clear n0_ n1_ n2_ n3_ n4_ n5_ n6_ n7_ n8_ n9_ hg hw hp_))
                      (try simp only [← hl10_2])
                      go_roundg k2
                      case measure => have := HK1.out; have := HK2.out; omega
                      case rel => exact ⟨(y279), (x9_2), (y278), (x11_2), (wrap64 (x45_2 + 1)), (x238000_2), (x238001_2), (x238002_2), (u238000), (u238001), (u238002), (by first | rfl | (simp; done) | (simp [*]; done)), (by first | rfl | (simp; done) | (simp [*]; done)), H', ⟨by have := HK1.out; have := HK2.out; omega⟩, ⟨by (try simp only [hl10_1]); (try simp only [hl10_2]); (with_reducible repeat (first | apply Kd.R_alloc | apply Kd.R_drewN | apply Kd.R_drew)); exact HO_8.out⟩, ⟨by (try simp only [hl10_1]); (try simp only [hl10_2]); (with_reducible repeat (first | apply Kd.R_alloc | apply Kd.R_drewN | apply Kd.R_drew)); exact Kd.R_mono HO_9.out (fun _ hk => ⟨hk.2, ⟨hk.1.1, ⟨hk.1.2.1, ⟨hk.1.2.2.1, hk.1.2.2.2⟩⟩⟩⟩)⟩, ⟨by (try simp only [hl10_1]); (try simp only [hl10_2]); (with_reducible repeat (first | apply Kd.R_alloc | apply Kd.R_drewN | apply Kd.R_drew)); exact Kd.R_mono HO_10.out (fun _ hk => ⟨hk.2, ⟨hk.1.1, ⟨hk.1.2.1, ⟨hk.1.2.2.1, hk.1.2.2.2⟩⟩⟩⟩)⟩, ⟨by (try simp only [hl10_1]); (try simp only [hl10_2]); (with_reducible repeat (first | apply Kd.R_alloc | apply Kd.R_drewN | apply Kd.R_drew)); exact Kd.R_mono HO_238000.out (fun _ hk => ⟨hk.2, ⟨hk.1.1, ⟨hk.1.2.1, ⟨hk.1.2.2.1, hk.1.2.2.2⟩⟩⟩⟩)⟩, ⟨by (try simp only [hl10_1]); (try simp only [hl10_2]); (with_reducible repeat (first | apply Kd.R_alloc | apply Kd.R_drewN | apply Kd.R_drew)); exact Kd.R_mono HO_238001.out (fun _ hk => ⟨hk.2, ⟨hk.1.1, ⟨hk.1.2.1, ⟨hk.1.2.2.1, hk.1.2.2.2⟩⟩⟩⟩)⟩, ⟨by (try simp only [hl10_1]); (try simp only [hl10_2]); (with_reducible repeat (first | apply Kd.R_alloc | apply Kd.R_drewN | apply Kd.R_drew)); exact Kd.R_mono HO_238002.out (fun _ hk => ⟨hk.2, ⟨hk.1.1, ⟨hk.1.2.1, ⟨hk.1.2.2.1, hk.1.2.2.2⟩⟩⟩⟩)⟩, ⟨by (try simp only [hl10_1]); (try simp only [hl10_2]); (with_reducible repeat (first | apply Kd.S_alloc | apply Kd.S_drewN | apply Kd.S_drew)); exact Kd.S_mono HO_238003.out (fun _ hk => ⟨hk.2, ⟨hk.1.1, ⟨hk.1.2.1, ⟨hk.1.2.2.1, ⟨hk.1.2.2.2.1, hk.1.2.2.2.2⟩⟩⟩⟩⟩)⟩, ⟨by (try simp only [hl10_1]); (try simp only [hl10_2]); first | (with_reducible exact BK227.out) | ((with_reducible repeat (first | refine blk_drewN ?_ _ | refine blk_drew ?_ | refine blk_alloc ?_ _)); exact BK227.out)⟩, ⟨by (try simp only [hl10_1]); (try simp only [hl10_2]); first | (with_reducible exact BK237.out) | ((with_reducible repeat (first | refine blk_drewN ?_ _ | refine blk_drew ?_ | refine blk_alloc ?_ _)); exact BK237.out)⟩, ⟨HB.out⟩⟩
                     ·rw [if_neg c98] at H
                      exact absurd H (by simp)
                    ·rw [if_neg c97] at H
                     exact absurd H (by simp)
                  ·rw [if_neg c82] at H
                   have c82b0 : decide ((rd x10_2 (ji79)) < 0) = false := decide_eq_false c82
                   clear c82
                   by_cases c109 : (rd x8_2 (rd l2 x45_2)) ≥ 0
                   ·rw [if_pos c109] at H
                    have c109b0 : decide (0 ≤ (rd x8_2 (rd l2 x45_2))) = true := decide_eq_true c109
                    clear c109
                    by_cases c110 : (rd l2 x45_2) < (x238002_2.length : Int)
                    ·rw [if_pos c110] at H
                     have c110b0 : decide ((rd l2 x45_2) < (x238002_2.length : Int)) = true := decide_eq_true c110
                     clear c110
                     obtain ⟨y281, hy281⟩ : ∃ y_ : List Int, y_ = (x238002_2.set ((rd l2 x45_2) : Int).toNat (wrap64 ((rd x238002_2 (rd l2 x45_2)) + 1))) := ⟨_, rfl⟩
                     replace H : (impl_board.l1 k2 a0 a1 l2 x8_2 x9_2 x10_2 x11_2 x12_1 l2 (l2.length : Int) (wrap64 (x45_2 + 1)) x238000_2 x238001_2 y281 x238003_1) = some (r1, r2, r3, r4) := by first | (rw [hy281]; with_reducible exact H) | (have H2_ := (Option.bind_some _ _).symm.trans H; rw [hy281]; with_reducible exact H2_) | (have H2_ := (Option.bind_some _ _).symm.trans H; with_reducible exact H2_) | with_reducible exact H | (rw [hy281]; exact H) | exact H
                     have Ny281 := Aside0.mk hy281
                     clear hy281
                     have H' := Aside0.mk H
                     clear H
                     have p265 : 0 ≤ (x45_2 : Int) := of_decide_eq_true (by first | (with_reducible assumption) | assumption)
                     have q265 : x45_2 < (l2.length : Int) := of_decide_eq_true (by first | (with_reducible assumption) | assumption)
                     obtain ⟨ad265, e265, hx265_0⟩ := Kd.at_int HR2.out x45_2 p265 q265
                     cases e265
                     (try replace hx265_0 := (HB.out.cell (World.block_lt_of_cell? w _ hx265_0)).trans hx265_0)
                     replace p265 := eq_true p265
                     replace q265 := eq_true q265
                     obtain ⟨Ao112, co112, eo112⟩ := Kd.R_slice HO_8.out
                     subst eo112
                     have p266 : 0 ≤ ((rd l2 x45_2) : Int) := of_decide_eq_true (by first | (with_reducible assumption) | assumption)
                     have q266 : (rd l2 x45_2) < (x8_2.length : Int) := of_decide_eq_true (by first | (with_reducible assumption) | assumption)
                     obtain ⟨ad266, e266, hx266_0⟩ := Kd.at_int (Kd.R_reads' HO_8.out).2.2 (rd l2 x45_2) p266 q266
                     cases e266
                     replace p266 := eq_true p266
                     replace q266 := eq_true q266
                     have p273 : 0 ≤ ((ji79) : Int) := of_decide_eq_true (by first | (with_reducible assumption) | assumption)
                     have q273 : (ji79) < (x10_2.length : Int) := of_decide_eq_true (by first | (with_reducible assumption) | assumption)
                     obtain ⟨ad273, e273, hx273_0⟩ := Kd.at_int (Kd.R_reads' HO_10.out).2.2 (ji79) p273 q273
                     cases e273
                     replace p273 := eq_true p273
                     replace q273 := eq_true q273
                     have hnb113 := NB237_227.out
                     have hnc113 := NB227_237.out
                     have hcz114_0 : wr.cell? ⟨gb237, 0, none⟩ = some (u238000) := (blk_cell BK237.out 0).trans rfl
                     have hcz114_1 : wr.cell? ⟨gb237, 1, none⟩ = some (u238001) := (blk_cell BK237.out 1).trans rfl
                     have hcz114_2 : wr.cell? ⟨gb237, 2, none⟩ = some (u238002) := (blk_cell BK237.out 2).trans rfl
                     have hcz114_3 : wr.cell? ⟨gb237, 3, none⟩ = some (u238003) := (blk_cell BK237.out 3).trans rfl
                     have hfz114_0 := blk_frozen BK237.out 0
                     have hfz114_1 := blk_frozen BK237.out 1
                     have hfz114_2 := blk_frozen BK237.out 2
                     have hfz114_3 := blk_frozen BK237.out 3
                     obtain ⟨Ao115, co115, eo115⟩ := Kd.R_slice HO_238002.out
                     subst eo115
                     have p280 : 0 ≤ ((rd l2 x45_2) : Int) := of_decide_eq_true (by first | (with_reducible assumption) | assumption)
                     have q280 : (rd l2 x45_2) < (x238002_2.length : Int) := of_decide_eq_true (by first | (with_reducible assumption) | assumption)
                     obtain ⟨ad280, e280, hx280_0⟩ := Kd.at_int (Kd.R_reads' HO_238002.out).2.2 (rd l2 x45_2) p280 q280
                     cases e280
                     replace p280 := eq_true p280
                     replace q280 := eq_true q280
                     have p111 : 0 ≤ ((rd l2 x45_2) : Int) := of_decide_eq_true (by first | (with_reducible assumption) | assumption)
                     have q111 : ((rd l2 x45_2) : Int) < ((x238002_2.length : Int) : Int) := of_decide_eq_true (by first | (with_reducible assumption) | assumption)
                     obtain ⟨go111, co111, eo111, gb111, gl111, cl111, HG111⟩ := Kd.R_form HO_238002.out (by omega)
                     (first | cases eo111 | (injection eo111 with ea_ en_ ec_; (first | subst ea_ | (injection ea_ with ea_; subst ea_)); subst ec_; clear en_))
                     have GB111 := Aside0.mk gb111
                     have GG111 := Aside0.mk HG111
                     clear gb111 gl111 HG111
                     (first | simp only [add_plain] at hx280_0 | skip)
                     obtain ⟨hx111_0, hf111_0⟩ := Kd.R_celln 0 HO_238002.out ((rd l2 x45_2) : Int) p111 q111
                     replace p111 := eq_true p111
                     replace q111 := eq_true q111
                     have HP116 := Kd.R_putg HO_238002.out ((rd l2 x45_2) : Int) (wrap64 ((rd x238002_2 (rd l2 x45_2)) + 1))
                     go_wp2_with (first | ((with_reducible refine gate_store (t := 3) (p := 123) rfl ?_); refine store_event (t := 3) (p := 123) (v := ?vo_w117) (w1 := (wr.setCell ⟨go111, ((rd l2 x45_2) : Int).toNat, none⟩ (.int .i64 (wrap64 ((rd x238002_2 (rd l2 x45_2)) + 1))))) ?hg ?ho ?hn ?hr ?_; (case ho => rfl); (case hg => rfl); (case hn => rfl); (case hr => first | (go_simp; done) | (go_simp; rfl)); intro w117 hw; have hg : wr.grownBy w117 (some go111) := (by rw [hw]; exact HP116.2); have hp_ : Kd.R (Kd.int .i64) 3 w117 w.heap.size (fun k_ => some k_ ≠ (.slice (some ad266) x8_2.length co112 : Value).ownBlock ∧ some k_ ≠ (v245 : Value).ownBlock ∧ some k_ ≠ (.slice (some ad273) x10_2.length co43 : Value).ownBlock ∧ some k_ ≠ (u238000 : Value).ownBlock ∧ some k_ ≠ (u238001 : Value).ownBlock) (.slice (some ⟨go111, 0, none⟩) x238002_2.length co115) y281 := (by rw [hw, Ny281.out]; exact HP116.1); clear HP116; have n0_ := Aside0.mk (Kd.R_after (v := (.slice (some ⟨go111, 0, none⟩) x238002_2.length co115)) (v1 := (.slice (some ⟨go111, 0, none⟩) x238002_2.length co115)) (ok := (fun k_ => some k_ ≠ (v245 : Value).ownBlock ∧ some k_ ≠ (.slice (some ad273) x10_2.length co43 : Value).ownBlock ∧ some k_ ≠ (u238000 : Value).ownBlock ∧ some k_ ≠ (u238001 : Value).ownBlock)) (Kd.R_mono HO_8.out (fun _ hk => ⟨⟨hk.1, ⟨hk.2.1, ⟨hk.2.2.1, hk.2.2.2.1⟩⟩⟩, hk.2.2.2.2⟩)) hg (.inl rfl)); have n1_ := Aside0.mk (Kd.R_after (v := (.slice (some ⟨go111, 0, none⟩) x238002_2.length co115)) (v1 := (.slice (some ⟨go111, 0, none⟩) x238002_2.length co115)) (ok := (fun k_ => some k_ ≠ (.slice (some ad266) x8_2.length co112 : Value).ownBlock ∧ some k_ ≠ (.slice (some ad273) x10_2.length co43 : Value).ownBlock ∧ some k_ ≠ (u238000 : Value).ownBlock ∧ some k_ ≠ (u238001 : Value).ownBlock)) (Kd.R_mono HO_9.out (fun _ hk => ⟨⟨hk.1, ⟨hk.2.1, ⟨hk.2.2.1, hk.2.2.2.1⟩⟩⟩, hk.2.2.2.2⟩)) hg (.inl rfl)); have n2_ := Aside0.mk (Kd.R_after (v := (.slice (some ⟨go111, 0, none⟩) x238002_2.length co115)) (v1 := (.slice (some ⟨go111, 0, none⟩) x238002_2.length co115)) (ok := (fun k_ => some k_ ≠ (.slice (some ad266) x8_2.length co112 : Value).ownBlock ∧ some k_ ≠ (v245 : Value).ownBlock ∧ some k_ ≠ (u238000 : Value).ownBlock ∧ some k_ ≠ (u238001 : Value).ownBlock)) (Kd.R_mono HO_10.out (fun _ hk => ⟨⟨hk.1, ⟨hk.2.1, ⟨hk.2.2.1, hk.2.2.2.1⟩⟩⟩, hk.2.2.2.2⟩)) hg (.inl rfl)); have n3_ := Aside0.mk (Kd.R_after (v := (.slice (some ⟨go111, 0, none⟩) x238002_2.length co115)) (v1 := (.slice (some ⟨go111, 0, none⟩) x238002_2.length co115)) (ok := (fun k_ => some k_ ≠ (.slice (some ad266) x8_2.length co112 : Value).ownBlock ∧ some k_ ≠ (v245 : Value).ownBlock ∧ some k_ ≠ (.slice (some ad273) x10_2.length co43 : Value).ownBlock ∧ some k_ ≠ (u238001 : Value).ownBlock)) (Kd.R_mono HO_238000.out (fun _ hk => ⟨⟨hk.1, ⟨hk.2.1, ⟨hk.2.2.1, hk.2.2.2.1⟩⟩⟩, hk.2.2.2.2⟩)) hg (.inl rfl)); have n4_ := Aside0.mk (Kd.R_after (v := (.slice (some ⟨go111, 0, none⟩) x238002_2.length co115)) (v1 := (.slice (some ⟨go111, 0, none⟩) x238002_2.length co115)) (ok := (fun k_ => some k_ ≠ (.slice (some ad266) x8_2.length co112 : Value).ownBlock ∧ some k_ ≠ (v245 : Value).ownBlock ∧ some k_ ≠ (.slice (some ad273) x10_2.length co43 : Value).ownBlock ∧ some k_ ≠ (u238000 : Value).ownBlock)) (Kd.R_mono HO_238001.out (fun _ hk => ⟨⟨hk.1, ⟨hk.2.1, ⟨hk.2.2.1, hk.2.2.2.1⟩⟩⟩, hk.2.2.2.2⟩)) hg (.inl rfl)); have n5_ := Aside0.mk (hp_); have n6_ := Aside0.mk (Kd.S_after (v := (.slice (some ⟨go111, 0, none⟩) x238002_2.length co115)) (v1 := (.slice (some ⟨go111, 0, none⟩) x238002_2.length co115)) (ok := (fun k_ => some k_ ≠ (.slice (some ad266) x8_2.length co112 : Value).ownBlock ∧ some k_ ≠ (v245 : Value).ownBlock ∧ some k_ ≠ (.slice (some ad273) x10_2.length co43 : Value).ownBlock ∧ some k_ ≠ (u238000 : Value).ownBlock ∧ some k_ ≠ (u238001 : Value).ownBlock)) (by (with_reducible repeat (first | apply Kd.S_alloc | apply Kd.S_drewN | apply Kd.S_drew)); exact Kd.S_mono HO_238003.out (fun _ hk => ⟨⟨hk.1, ⟨hk.2.1, ⟨hk.2.2.1, ⟨hk.2.2.2.1, hk.2.2.2.2.1⟩⟩⟩⟩, hk.2.2.2.2.2⟩)) hg (.inl rfl)); have n7_ := Aside0.mk (blk_grown (g := gb227) (o := .cells #[.slice none 0 0, .slice none 0 0, .slice none 0 0, .slice none 0 0] 48 (0, 0)) BK227.out hg (Kd.R_ne HO_238002.out BK227.out (by decide))); have n8_ := Aside0.mk (blk_grown (g := gb237) (o := .cells #[u238000, u238001, .slice (some ⟨go111, 0, none⟩) x238002_2.length co115, u238003] 48 (0, 0)) BK237.out hg (Kd.R_ne HO_238002.out BK237.out (by decide))); have n9_ := Aside0.mk ((by rw [hw]; exact below_set HB.out GB111.out : Below w.heap.size w w117)); clear HO_8 HO_9 HO_10 HO_238000 HO_238001 HO_238002 HO_238003 BK227 BK237 HB; have HO_8 := n0_; have HO_9 := n1_; have HO_10 := n2_; have HO_238000 := n3_; have HO_238001 := n4_; have HO_238002 := n5_; have HO_238003 := n6_; have BK227 := n7_; have BK237 := n8_; have HB := n9_; clear n0_ n1_ n2_ n3_ n4_ n5_ n6_ n7_ n8_ n9_ hg hw hp_))
                     (try simp only [← hl10_2])
                     go_roundg k2
                     case measure => have := HK1.out; have := HK2.out; omega
                     case rel => exact ⟨(x8_2), (x9_2), (x10_2), (x11_2), (wrap64 (x45_2 + 1)), (x238000_2), (x238001_2), (y281), (u238000), (u238001), (.slice (some ⟨go111, 0, none⟩) x238002_2.length co115), (by first | rfl | (simp; done) | (simp [*]; done)), (by first | rfl | (simp; done) | (simp [*]; done)), H', ⟨by have := HK1.out; have := HK2.out; omega⟩, ⟨by (try simp only [hl10_1]); (try simp only [hl10_2]); (with_reducible repeat (first | apply Kd.R_alloc | apply Kd.R_drewN | apply Kd.R_drew)); exact Kd.R_mono HO_8.out (fun _ hk => ⟨hk.1.1, ⟨hk.1.2.1, ⟨hk.1.2.2.1, ⟨hk.1.2.2.2, hk.2⟩⟩⟩⟩)⟩, ⟨by (try simp only [hl10_1]); (try simp only [hl10_2]); (with_reducible repeat (first | apply Kd.R_alloc | apply Kd.R_drewN | apply Kd.R_drew)); exact Kd.R_mono HO_9.out (fun _ hk => ⟨hk.1.1, ⟨hk.1.2.1, ⟨hk.1.2.2.1, ⟨hk.1.2.2.2, hk.2⟩⟩⟩⟩)⟩, ⟨by (try simp only [hl10_1]); (try simp only [hl10_2]); (with_reducible repeat (first | apply Kd.R_alloc | apply Kd.R_drewN | apply Kd.R_drew)); exact Kd.R_mono HO_10.out (fun _ hk => ⟨hk.1.1, ⟨hk.1.2.1, ⟨hk.1.2.2.1, ⟨hk.1.2.2.2, hk.2⟩⟩⟩⟩)⟩, ⟨by (try simp only [hl10_1]); (try simp only [hl10_2]); (with_reducible repeat (first | apply Kd.R_alloc | apply Kd.R_drewN | apply Kd.R_drew)); exact Kd.R_mono HO_238000.out (fun _ hk => ⟨hk.1.1, ⟨hk.1.2.1, ⟨hk.1.2.2.1, ⟨hk.1.2.2.2, hk.2⟩⟩⟩⟩)⟩, ⟨by (try simp only [hl10_1]); (try simp only [hl10_2]); (with_reducible repeat (first | apply Kd.R_alloc | apply Kd.R_drewN | apply Kd.R_drew)); exact Kd.R_mono HO_238001.out (fun _ hk => ⟨hk.1.1, ⟨hk.1.2.1, ⟨hk.1.2.2.1, ⟨hk.1.2.2.2, hk.2⟩⟩⟩⟩)⟩, ⟨by (try simp only [hl10_1]); (try simp only [hl10_2]); (with_reducible repeat (first | apply Kd.R_alloc | apply Kd.R_drewN | apply Kd.R_drew)); exact HO_238002.out⟩, ⟨by (try simp only [hl10_1]); (try simp only [hl10_2]); (with_reducible repeat (first | apply Kd.S_alloc | apply Kd.S_drewN | apply Kd.S_drew)); exact Kd.S_mono HO_238003.out (fun _ hk => ⟨hk.1.1, ⟨hk.1.2.1, ⟨hk.1.2.2.1, ⟨hk.1.2.2.2.1, ⟨hk.1.2.2.2.2, hk.2⟩⟩⟩⟩⟩)⟩, ⟨by (try simp only [hl10_1]); (try simp only [hl10_2]); first | (with_reducible exact BK227.out) | ((with_reducible repeat (first | refine blk_drewN ?_ _ | refine blk_drew ?_ | refine blk_alloc ?_ _)); exact BK227.out)⟩, ⟨by (try simp only [hl10_1]); (try simp only [hl10_2]); first | (with_reducible exact BK237.out) | ((with_reducible repeat (first | refine blk_drewN ?_ _ | refine blk_drew ?_ | refine blk_alloc ?_ _)); exact BK237.out)⟩, ⟨HB.out⟩⟩
                    ·rw [if_neg c110] at H
                     exact absurd H (by simp)
                   ·rw [if_neg c109] at H
                    have c109b0 : decide (0 ≤ (rd x8_2 (rd l2 x45_2))) = false := decide_eq_false c109
                    clear c109
                    have H' := Aside0.mk H
                    clear H
                    have p265 : 0 ≤ (x45_2 : Int) := of_decide_eq_true (by first | (with_reducible assumption) | assumption)
                    have q265 : x45_2 < (l2.length : Int) := of_decide_eq_true (by first | (with_reducible assumption) | assumption)
                    obtain ⟨ad265, e265, hx265_0⟩ := Kd.at_int HR2.out x45_2 p265 q265
                    cases e265
                    (try replace hx265_0 := (HB.out.cell (World.block_lt_of_cell? w _ hx265_0)).trans hx265_0)
                    replace p265 := eq_true p265
                    replace q265 := eq_true q265
                    obtain ⟨Ao118, co118, eo118⟩ := Kd.R_slice HO_8.out
                    subst eo118
                    have p266 : 0 ≤ ((rd l2 x45_2) : Int) := of_decide_eq_true (by first | (with_reducible assumption) | assumption)
                    have q266 : (rd l2 x45_2) < (x8_2.length : Int) := of_decide_eq_true (by first | (with_reducible assumption) | assumption)
                    obtain ⟨ad266, e266, hx266_0⟩ := Kd.at_int (Kd.R_reads' HO_8.out).2.2 (rd l2 x45_2) p266 q266
                    cases e266
                    replace p266 := eq_true p266
                    replace q266 := eq_true q266
                    have p273 : 0 ≤ ((ji79) : Int) := of_decide_eq_true (by first | (with_reducible assumption) | assumption)
                    have q273 : (ji79) < (x10_2.length : Int) := of_decide_eq_true (by first | (with_reducible assumption) | assumption)
                    obtain ⟨ad273, e273, hx273_0⟩ := Kd.at_int (Kd.R_reads' HO_10.out).2.2 (ji79) p273 q273
                    cases e273
                    replace p273 := eq_true p273
                    replace q273 := eq_true q273
                    go_wp2
                    (try simp only [← hl10_2])
                    go_roundg k2
                    case measure => have := HK1.out; have := HK2.out; omega
                    case rel => exact ⟨(x8_2), (x9_2), (x10_2), (x11_2), (wrap64 (x45_2 + 1)), (x238000_2), (x238001_2), (x238002_2), (u238000), (u238001), (u238002), (by first | rfl | (simp; done) | (simp [*]; done)), (by first | rfl | (simp; done) | (simp [*]; done)), H', ⟨by have := HK1.out; have := HK2.out; omega⟩, ⟨by (try simp only [hl10_1]); (try simp only [hl10_2]); (with_reducible repeat (first | apply Kd.R_alloc | apply Kd.R_drewN | apply Kd.R_drew)); exact HO_8.out⟩, ⟨by (try simp only [hl10_1]); (try simp only [hl10_2]); (with_reducible repeat (first | apply Kd.R_alloc | apply Kd.R_drewN | apply Kd.R_drew)); exact HO_9.out⟩, ⟨by (try simp only [hl10_1]); (try simp only [hl10_2]); (with_reducible repeat (first | apply Kd.R_alloc | apply Kd.R_drewN | apply Kd.R_drew)); exact HO_10.out⟩, ⟨by (try simp only [hl10_1]); (try simp only [hl10_2]); (with_reducible repeat (first | apply Kd.R_alloc | apply Kd.R_drewN | apply Kd.R_drew)); exact HO_238000.out⟩, ⟨by (try simp only [hl10_1]); (try simp only [hl10_2]); (with_reducible repeat (first | apply Kd.R_alloc | apply Kd.R_drewN | apply Kd.R_drew)); exact HO_238001.out⟩, ⟨by (try simp only [hl10_1]); (try simp only [hl10_2]); (with_reducible repeat (first | apply Kd.R_alloc | apply Kd.R_drewN | apply Kd.R_drew)); exact HO_238002.out⟩, ⟨by (try simp only [hl10_1]); (try simp only [hl10_2]); (with_reducible repeat (first | apply Kd.S_alloc | apply Kd.S_drewN | apply Kd.S_drew)); exact HO_238003.out⟩, ⟨by (try simp only [hl10_1]); (try simp only [hl10_2]); first | (with_reducible exact BK227.out) | ((with_reducible repeat (first | refine blk_drewN ?_ _ | refine blk_drew ?_ | refine blk_alloc ?_ _)); exact BK227.out)⟩, ⟨by (try simp only [hl10_1]); (try simp only [hl10_2]); first | (with_reducible exact BK237.out) | ((with_reducible repeat (first | refine blk_drewN ?_ _ | refine blk_drew ?_ | refine blk_alloc ?_ _)); exact BK237.out)⟩, ⟨HB.out⟩⟩
                 ·rw [if_neg c81] at H
                  exact absurd H (by simp)
                ·rw [if_neg c80] at H
                 exact absurd H (by simp)
             ·rw [if_neg c54] at H
              exact absurd H (by simp)
            ·rw [if_neg c53] at H
             exact absurd H (by simp)
           ·rw [if_neg c52] at H
            exact absurd H (by simp)
          ·rw [if_neg c51] at H
           exact absurd H (by simp)
         ·rw [if_neg c50] at H
          have c50b0 : decide (x45_2 < (l2.length : Int)) = false := decide_eq_false c50
          clear c50
          replace H := Option.bind_eq_some_iff.mp H
          obtain ⟨t259, A1190, H⟩ := H
          replace H : (if x238003_1.length < 5864062014805 then (impl_board.l0 k2 a0 a1 l2 x8_2 x9_2 x10_2 x11_2 (wrap64 (x12_1 + 1)) x238000_2 x238001_2 x238002_2 (x238003_1 ++ [t259])) else (none)) = some (r1, r2, r3, r4) := H
          have A119 := Aside0.mk A1190
          clear A1190
          by_cases c120 : x238003_1.length < 5864062014805
          ·rw [if_pos c120] at H
           have LMc120 := Aside0.mk c120
           clear c120
           obtain ⟨y262, hy262⟩ : ∃ y_ : List (List Int), y_ = (x238003_1 ++ [t259]) := ⟨_, rfl⟩
           replace H : (impl_board.l0 k2 a0 a1 l2 x8_2 x9_2 x10_2 x11_2 (wrap64 (x12_1 + 1)) x238000_2 x238001_2 x238002_2 y262) = some (r1, r2, r3, r4) := by first | (rw [hy262]; with_reducible exact H) | (have H2_ := (Option.bind_some _ _).symm.trans H; rw [hy262]; with_reducible exact H2_) | (have H2_ := (Option.bind_some _ _).symm.trans H; with_reducible exact H2_) | with_reducible exact H | (rw [hy262]; exact H) | exact H
           have Ny262 := Aside0.mk hy262
           clear hy262
           have H' := Aside0.mk H
           clear H
           try go_wp2
           have n0_ := Aside0.mk (Kd.R_drew HO_8.out)
           have n1_ := Aside0.mk (Kd.R_drew HO_9.out)
           have n2_ := Aside0.mk (Kd.R_drew HO_10.out)
           have n3_ := Aside0.mk (Kd.R_drew HO_238000.out)
           have n4_ := Aside0.mk (Kd.R_drew HO_238001.out)
           have n5_ := Aside0.mk (Kd.R_drew HO_238002.out)
           have n6_ := Aside0.mk (Kd.S_drew HO_238003.out)
           have n7_ := Aside0.mk (blk_drew BK227.out)
           have n8_ := Aside0.mk (blk_drew BK237.out)
           have n9_ := Aside0.mk (below_drew1 HB.out)
           clear HO_8 HO_9 HO_10 HO_238000 HO_238001 HO_238002 HO_238003 BK227 BK237 HB
           have HO_8 := n0_
           have HO_9 := n1_
           have HO_10 := n2_
           have HO_238000 := n3_
           have HO_238001 := n4_
           have HO_238002 := n5_
           have HO_238003 := n6_
           have BK227 := n7_
           have BK237 := n8_
           have HB := n9_
           clear n0_ n1_ n2_ n3_ n4_ n5_ n6_ n7_ n8_ n9_
           refine start_ (n := 8) (S := fun w' => w'.cell? ⟨gb237, 0, none⟩ = some (u238000) ∧ w'.cell? ⟨gb237, 1, none⟩ = some (u238001) ∧ w'.cell? ⟨gb237, 2, none⟩ = some (u238002) ∧ w'.cell? ⟨gb237, 3, none⟩ = some (u238003)) (ds := [7]) #[false, false, false, false, false, false, false, false] (by kernel_rfl) rfl rfl ⟨(blk_cell BK237.out 0).trans rfl, (blk_cell BK237.out 1).trans rfl, (blk_cell BK237.out 2).trans rfl, (blk_cell BK237.out 3).trans rfl⟩ (fun hHeld => ?_); refine with_tabW impl_board.tab26 impl_board.bits26 (fun HT_ HW_ => ?_)
           generalize wr.drew = w121 at HO_8 HO_9 HO_10 HO_238000 HO_238001 HO_238002 HO_238003 BK227 BK237 HB hHeld ⊢
           refine pi_ (i := 0) (N := some 125) (v := ?_) (a' := ?_) (bm 8 1) rfl rfl HT_ (by kernel_rfl) (fun _ _ _ h => h) (Or.inl ⟨by rfl, ?_⟩) ?_ ?_
           rotate_left
           ·intro w'
            go_simp
            with_reducible rfl
           rotate_left
           ·simp only [Act.put, pp_]
            rfl
           refine pi_ (i := 2) (N := some 127) (v := ?_) (a' := ?_) (bm 8 5) rfl rfl HT_ (by kernel_rfl) (fun _ _ _ h => h) (Or.inl ⟨by rfl, ?_⟩) ?_ ?_
           rotate_left
           ·intro w'
            go_simp
            with_reducible rfl
           rotate_left
           ·simp only [Act.put, pp_]
            rfl
           refine take_ (i := 1) (N := some 126) (v := ?_) (a' := ?_) (bm 8 7) rfl rfl (take_ofW HT_.out HW_.out (by kernel_rfl)) (fun _ _ _ h => h) (Or.inl ⟨by rfl, ?_⟩) hHeld ?_ ?_
           rotate_left
           ·rintro w' ⟨s0, s1, s2, s3⟩
            go_simp
            with_reducible rfl
           rotate_left
           ·simp only [Act.put, pp_]
            rfl
           refine one_ (i := 3) (N := some 128) (bm 8 15) rfl rfl (one_of HT_.out (by kernel_rfl)) (by decide) (fun K hK => ?_)
           refine goes_ Try.func39 (by kernel_rfl) rfl #[.slice Ao43 x10_2.length co43] (by rfl) rfl rfl (by (try simp only [List.map_toArray, List.map_cons, List.map_nil]); first | done | rfl | (simp only [List.length_drop, List.length_take]; rfl)) ?_
           with_reducible refine (slices_Clone_int_int.calls _ _ x10_2 t259 _ ?side1 ?side2 A119.out).mono ?_
           (case side1 => repeat (first | exact (Kd.R_reads' HO_10.out).2.2 | (with_reducible refine Kd.C_alloc ?_ _) | (with_reducible refine Kd.C_drewN ?_ _) | (with_reducible refine Kd.C_drew ?_)))
           (case side2 => exact (Kd.R_reads' HO_10.out).2.1)
           rintro e w122 ⟨v260, rfl, ho0, hb⟩
           refine ⟨_, rfl, ?_⟩
           have n0_ := Aside0.mk (Kd.R_elder' HO_8.out (Kd.R_base ho0) hb)
           have n1_ := Aside0.mk (Kd.R_elder' HO_9.out (Kd.R_base ho0) hb)
           have n2_ := Aside0.mk (Kd.R_elder' HO_10.out (Kd.R_base ho0) hb)
           have n3_ := Aside0.mk (Kd.R_elder' HO_238000.out (Kd.R_base ho0) hb)
           have n4_ := Aside0.mk (Kd.R_elder' HO_238001.out (Kd.R_base ho0) hb)
           have n5_ := Aside0.mk (Kd.R_elder' HO_238002.out (Kd.R_base ho0) hb)
           have n6_ := Aside0.mk (Kd.S_elder' HO_238003.out (Kd.R_base ho0) hb)
           have n7_ := Aside0.mk (Kd.R_lower (Kd.R_new' (Kd.R_new' (Kd.R_new' (Kd.R_new' (Kd.R_new' (Kd.R_new' ho0 (Kd.R_lt HO_8.out)) (Kd.R_lt HO_9.out)) (Kd.R_lt HO_10.out)) (Kd.R_lt HO_238000.out)) (Kd.R_lt HO_238001.out)) (Kd.R_lt HO_238002.out)) (below_size HB.out))
           have n8_ := Aside0.mk (blk_below (g := gb227) (o := .cells #[.slice none 0 0, .slice none 0 0, .slice none 0 0, .slice none 0 0] 48 (0, 0)) BK227.out hb)
           have n9_ := Aside0.mk (blk_below (g := gb237) (o := .cells #[u238000, u238001, u238002, u238003] 48 (0, 0)) BK237.out hb)
           have n10_ := Aside0.mk (below_step HB.out hb)
           clear HO_8 HO_9 HO_10 HO_238000 HO_238001 HO_238002 HO_238003 BK227 BK237 HB
           have HO_8 := n0_
           have HO_9 := n1_
           have HO_10 := n2_
           have HO_238000 := n3_
           have HO_238001 := n4_
           have HO_238002 := n5_
           have HO_238003 := n6_
           have HO261 := n7_
           have BK227 := n8_
           have BK237 := n9_
           have HB := n10_
           clear n0_ n1_ n2_ n3_ n4_ n5_ n6_ n7_ n8_ n9_ n10_
           (try clear hb)
           (try clear hb2)
           (try clear hk)
           (try clear hi)
           (try clear ho0)
           obtain ⟨Ao124, co124, eo124⟩ := Kd.R_slice HO261.out
           (first | subst eo124 | (injection eo124 with f1_ f2_ f3_; have f4_ := f1_.symm; have f5_ := f3_.symm; clear f1_ f2_ f3_; subst f4_; subst f5_))
           refine hK.out _ _ ⟨(blk_cell BK237.out 0).trans rfl, (blk_cell BK237.out 1).trans rfl, (blk_cell BK237.out 2).trans rfl, (blk_cell BK237.out 3).trans rfl⟩ (fun hHeld => ?_)
           clear hK K
           refine norm_ (a' := ?_) ?_ ?_
           rotate_left
           ·show Act.put _ (some 128) _ = _
            simp only [Act.put, pp_]
            rfl
           refine one_ (i := 4) (N := some 129) (bm 8 31) rfl rfl (one_of HT_.out (by kernel_rfl)) (by decide) (fun K hK => ?_)
           refine value_ (w1 := ?_) (v := ?_) (by rfl) rfl ?_ ?_
           rotate_left 2
           ·go_simp
            constructor
            ·rfl
            ·rfl
           refine hK.out _ _ ⟨(blk_cell (blk_alloc BK237.out _) 0).trans rfl, (blk_cell (blk_alloc BK237.out _) 1).trans rfl, (blk_cell (blk_alloc BK237.out _) 2).trans rfl, (blk_cell (blk_alloc BK237.out _) 3).trans rfl⟩ (fun hHeld => ?_)
           clear hK K
           refine norm_ (a' := ?_) ?_ ?_
           rotate_left
           ·show Act.put _ (some 129) _ = _
            simp only [Act.put, pp_]
            rfl
           refine one_ (i := 5) (N := some 130) (bm 8 63) rfl rfl (one_of HT_.out (by kernel_rfl)) (by decide) (fun K hK => ?_)
           refine Kd.S_append_step (Kd.slice 3 (Kd.int .i64)) (w0 := w) w.heap.size (by rfl) (.tmp 126) (.tmp 129) 46 24 (.slice none 0 0) 24 rfl Try.underlying46 info24 rfl (by decide) (by omega) u238003 x238003_1 t259 [.slice Ao124 t259.length co124] (fun k_ => some k_ ≠ (v242 : Value).ownBlock ∧ some k_ ≠ (v245 : Value).ownBlock ∧ some k_ ≠ (.slice Ao43 x10_2.length co43 : Value).ownBlock ∧ some k_ ≠ (u238000 : Value).ownBlock ∧ some k_ ≠ (u238001 : Value).ownBlock ∧ some k_ ≠ (u238002 : Value).ownBlock) (fun k_ => some k_ = (.slice Ao124 t259.length co124 : Value).ownBlock) rfl rfl ?aP (fun k_ hk_ => ((Kd.R_mono (ok' := fun k_ => ((fun k_ => some k_ ≠ (v242 : Value).ownBlock ∧ some k_ ≠ (v245 : Value).ownBlock ∧ some k_ ≠ (.slice Ao43 x10_2.length co43 : Value).ownBlock ∧ some k_ ≠ (u238000 : Value).ownBlock ∧ some k_ ≠ (u238001 : Value).ownBlock ∧ some k_ ≠ (u238002 : Value).ownBlock)) k_ ∧ some k_ ≠ (u238003 : Value).ownBlock) (Kd.R_apart' HO261.out (Kd.S_typed HO_238003.out) (by decide)) (fun k_ hk => ⟨⟨hk.1.1.1.1.1.1.2, ⟨hk.1.1.1.1.1.2, ⟨hk.1.1.1.1.2, ⟨hk.1.1.1.2, ⟨hk.1.1.2, hk.1.2⟩⟩⟩⟩⟩, hk.2⟩))).1 k_ hk_.symm) ?aF ?aO ?aB ?aS ?aL ?_
           (case aP => exact Kd.M_row (Kd.R_mono (Kd.R_tight rfl (Kd.R_mono (ok' := fun k_ => ((fun k_ => some k_ ≠ (v242 : Value).ownBlock ∧ some k_ ≠ (v245 : Value).ownBlock ∧ some k_ ≠ (.slice Ao43 x10_2.length co43 : Value).ownBlock ∧ some k_ ≠ (u238000 : Value).ownBlock ∧ some k_ ≠ (u238001 : Value).ownBlock ∧ some k_ ≠ (u238002 : Value).ownBlock)) k_ ∧ some k_ ≠ (u238003 : Value).ownBlock) (Kd.R_apart' HO261.out (Kd.S_typed HO_238003.out) (by decide)) (fun k_ hk => ⟨⟨hk.1.1.1.1.1.1.2, ⟨hk.1.1.1.1.1.2, ⟨hk.1.1.1.1.2, ⟨hk.1.1.1.2, ⟨hk.1.1.2, hk.1.2⟩⟩⟩⟩⟩, hk.2⟩))) (fun _ h_ => h_)))
           (case aB => exact HB.out)
           (case aF => exact (fun k_ hk => ⟨Kd.fresh' (Kd.R_lt HO_8.out) k_ hk, Kd.fresh' (Kd.R_lt HO_9.out) k_ hk, Kd.fresh' (Kd.R_lt HO_10.out) k_ hk, Kd.fresh' (Kd.R_lt HO_238000.out) k_ hk, Kd.fresh' (Kd.R_lt HO_238001.out) k_ hk, Kd.fresh' (Kd.R_lt HO_238002.out) k_ hk⟩))
           (case aO => exact (by (with_reducible repeat (first | apply Kd.S_alloc | apply Kd.S_drewN | apply Kd.S_drew)); exact Kd.S_mono HO_238003.out (fun k_ hk => ⟨⟨hk.1.1, ⟨hk.1.2.1, ⟨hk.1.2.2.1, ⟨hk.1.2.2.2.1, ⟨hk.1.2.2.2.2.1, hk.1.2.2.2.2.2⟩⟩⟩⟩⟩, fun e_ => hk.2 e_⟩)))
           (case aS => exact (below_size HB.out))
           (case aL => have := LMc120.out; omega)
           intro v263 w123 ho hb hg hat
           rw [← Ny262.out] at ho
           have n0_ := Aside0.mk (Kd.R_over' HO_8.out (Kd.S_typed HO_238003.out) (by decide) hg)
           have n1_ := Aside0.mk (Kd.R_over' HO_9.out (Kd.S_typed HO_238003.out) (by decide) hg)
           have n2_ := Aside0.mk (Kd.R_over' HO_10.out (Kd.S_typed HO_238003.out) (by decide) hg)
           have n3_ := Aside0.mk (Kd.R_over' HO_238000.out (Kd.S_typed HO_238003.out) (by decide) hg)
           have n4_ := Aside0.mk (Kd.R_over' HO_238001.out (Kd.S_typed HO_238003.out) (by decide) hg)
           have n5_ := Aside0.mk (Kd.R_over' HO_238002.out (Kd.S_typed HO_238003.out) (by decide) hg)
           have n6_ := Aside0.mk (blk_grown (g := gb227) (o := .cells #[.slice none 0 0, .slice none 0 0, .slice none 0 0, .slice none 0 0] 48 (0, 0)) BK227.out hg (Kd.S_ne HO_238003.out BK227.out (by decide)))
           have n7_ := Aside0.mk (blk_grown (g := gb237) (o := .cells #[u238000, u238001, u238002, u238003] 48 (0, 0)) BK237.out hg (Kd.S_ne HO_238003.out BK237.out (by decide)))
           have n8_ := Aside0.mk (hb)
           have n9_ := Aside0.mk (ho)
           clear HO_8 HO_9 HO_10 HO_238000 HO_238001 HO_238002 BK227 BK237 HB HO_238003 HO261
           have HO_8 := n0_
           have HO_9 := n1_
           have HO_10 := n2_
           have HO_238000 := n3_
           have HO_238001 := n4_
           have HO_238002 := n5_
           have BK227 := n6_
           have BK237 := n7_
           have HB := n8_
           have HO264 := n9_
           clear n0_ n1_ n2_ n3_ n4_ n5_ n6_ n7_ n8_ n9_ ho hb hg hat
           obtain ⟨Ao125, co125, eo125⟩ := Kd.S_slice HO264.out
           (first | subst eo125 | (injection eo125 with f1_ f2_ f3_; have f4_ := f1_.symm; have f5_ := f3_.symm; clear f1_ f2_ f3_; subst f4_; subst f5_))
           refine hK.out _ _ ⟨(blk_cell BK237.out 0).trans rfl, (blk_cell BK237.out 1).trans rfl, (blk_cell BK237.out 2).trans rfl, (blk_cell BK237.out 3).trans rfl⟩ (fun hHeld => ?_)
           clear hK K
           refine norm_ (a' := ?_) ?_ ?_
           rotate_left
           ·show Act.put _ (some 130) _ = _
            simp only [Act.put, pp_]
            rfl
           refine pi_ (i := 6) (N := some 131) (v := ?_) (a' := ?_) (bm 8 127) rfl rfl HT_ (by kernel_rfl) (fun _ _ _ h => h) (Or.inl ⟨by rfl, ?_⟩) ?_ ?_
           rotate_left
           ·intro w'
            go_simp
            with_reducible rfl
           rotate_left
           ·simp only [Act.put, pp_]
            rfl
           refine last_ (i := 7) (N := none) (bm 8 255) rfl rfl (one_of HT_.out (by kernel_rfl)) (by decide) (fun K hK => ?_)
           have hs126 : w123.cell? ⟨gb237, 3, none⟩ = some (u238003) := (blk_cell BK237.out 3).trans rfl
           have hfs126 := blk_frozen BK237.out 3
           have hns126_0 := NB227_237.out
           have hms126_0 := NB237_227.out
           refine skip_ (w1 := ?_) (by rfl) rfl ?_ ?_
           rotate_left
           ·go_simp
            rfl
           refine hK.out _ _ ?_
           clear hK K
           refine done_ (done_of HT_.out (by kernel_rfl)) ?_
           try go_wp2
           (try simp only [← hl10_1, ← hl10_2])
           go_roundg k2
           case measure => have := HK1.out; have := HK2.out; omega
           case rel => exact ⟨(x8_2), (x9_2), (x10_2), (x11_2), (wrap64 (x12_1 + 1)), (x238000_2), (x238001_2), (x238002_2), (y262), (u238000), (u238001), (u238002), (.slice Ao125 y262.length co125), (by first | rfl | (simp; done) | (simp [*]; done)), (by first | rfl | (simp; done) | (simp [*]; done)), H', ⟨by have := HK1.out; have := HK2.out; omega⟩, ⟨by (try simp only [hl10_1]); (try simp only [hl10_2]); (with_reducible repeat (first | apply Kd.R_alloc | apply Kd.R_drewN | apply Kd.R_drew)); exact Kd.R_mono (Kd.R_far (p := ⟨gb237, 3, none⟩) (Kd.R_types HO_8.out BK237.out (by decide)) (fun _ hk => hk.2) (.slice Ao125 y262.length co125)) (fun _ hk => ⟨hk.1.1.1, ⟨hk.1.1.2.1, ⟨hk.1.1.2.2.1, ⟨hk.1.1.2.2.2.1, hk.1.1.2.2.2.2⟩⟩⟩⟩)⟩, ⟨by (try simp only [hl10_1]); (try simp only [hl10_2]); (with_reducible repeat (first | apply Kd.R_alloc | apply Kd.R_drewN | apply Kd.R_drew)); exact Kd.R_mono (Kd.R_far (p := ⟨gb237, 3, none⟩) (Kd.R_types HO_9.out BK237.out (by decide)) (fun _ hk => hk.2) (.slice Ao125 y262.length co125)) (fun _ hk => ⟨hk.1.1.1, ⟨hk.1.1.2.1, ⟨hk.1.1.2.2.1, ⟨hk.1.1.2.2.2.1, hk.1.1.2.2.2.2⟩⟩⟩⟩)⟩, ⟨by (try simp only [hl10_1]); (try simp only [hl10_2]); (with_reducible repeat (first | apply Kd.R_alloc | apply Kd.R_drewN | apply Kd.R_drew)); exact Kd.R_mono (Kd.R_far (p := ⟨gb237, 3, none⟩) (Kd.R_types HO_10.out BK237.out (by decide)) (fun _ hk => hk.2) (.slice Ao125 y262.length co125)) (fun _ hk => ⟨hk.1.1.1, ⟨hk.1.1.2.1, ⟨hk.1.1.2.2.1, ⟨hk.1.1.2.2.2.1, hk.1.1.2.2.2.2⟩⟩⟩⟩)⟩, ⟨by (try simp only [hl10_1]); (try simp only [hl10_2]); (with_reducible repeat (first | apply Kd.R_alloc | apply Kd.R_drewN | apply Kd.R_drew)); exact Kd.R_mono (Kd.R_far (p := ⟨gb237, 3, none⟩) (Kd.R_types HO_238000.out BK237.out (by decide)) (fun _ hk => hk.2) (.slice Ao125 y262.length co125)) (fun _ hk => ⟨hk.1.1.1, ⟨hk.1.1.2.1, ⟨hk.1.1.2.2.1, ⟨hk.1.1.2.2.2.1, hk.1.1.2.2.2.2⟩⟩⟩⟩)⟩, ⟨by (try simp only [hl10_1]); (try simp only [hl10_2]); (with_reducible repeat (first | apply Kd.R_alloc | apply Kd.R_drewN | apply Kd.R_drew)); exact Kd.R_mono (Kd.R_far (p := ⟨gb237, 3, none⟩) (Kd.R_types HO_238001.out BK237.out (by decide)) (fun _ hk => hk.2) (.slice Ao125 y262.length co125)) (fun _ hk => ⟨hk.1.1.1, ⟨hk.1.1.2.1, ⟨hk.1.1.2.2.1, ⟨hk.1.1.2.2.2.1, hk.1.1.2.2.2.2⟩⟩⟩⟩)⟩, ⟨by (try simp only [hl10_1]); (try simp only [hl10_2]); (with_reducible repeat (first | apply Kd.R_alloc | apply Kd.R_drewN | apply Kd.R_drew)); exact Kd.R_mono (Kd.R_far (p := ⟨gb237, 3, none⟩) (Kd.R_types HO_238002.out BK237.out (by decide)) (fun _ hk => hk.2) (.slice Ao125 y262.length co125)) (fun _ hk => ⟨hk.1.1.1, ⟨hk.1.1.2.1, ⟨hk.1.1.2.2.1, ⟨hk.1.1.2.2.2.1, hk.1.1.2.2.2.2⟩⟩⟩⟩)⟩, ⟨by (try simp only [hl10_1]); (try simp only [hl10_2]); (with_reducible repeat (first | apply Kd.S_alloc | apply Kd.S_drewN | apply Kd.S_drew)); exact Kd.S_mono (Kd.S_far (p := ⟨gb237, 3, none⟩) (Kd.S_types HO264.out BK237.out (by decide)) (fun _ hk => hk.2) (.slice Ao125 y262.length co125)) (fun _ hk => ⟨hk.1.1, ⟨hk.1.2.1, ⟨hk.1.2.2.1, ⟨hk.1.2.2.2.1, ⟨hk.1.2.2.2.2.1, hk.1.2.2.2.2.2⟩⟩⟩⟩⟩)⟩, ⟨by (try simp only [hl10_1]); (try simp only [hl10_2]); (with_reducible repeat (first | refine blk_drewN ?_ _ | refine blk_drew ?_ | refine blk_alloc ?_ _)); refine blk_far ?_ NB227_237.out _; (with_reducible repeat (first | refine blk_drewN ?_ _ | refine blk_drew ?_ | refine blk_alloc ?_ _)); exact BK227.out⟩, ⟨by (try simp only [hl10_1]); (try simp only [hl10_2]); (with_reducible repeat (first | refine blk_drewN ?_ _ | refine blk_drew ?_ | refine blk_alloc ?_ _)); refine blk_put (cs := #[u238000, u238001, u238002, u238003]) ?_ 3 _ rfl; (with_reducible repeat (first | refine blk_drewN ?_ _ | refine blk_drew ?_ | refine blk_alloc ?_ _)); exact BK237.out⟩, ⟨by repeat (first | (with_reducible first | exact HB.out | apply below_alloc | apply pw_below_drewN | apply below_drew1 | refine below_set ?_ GE227.out | refine below_set ?_ GE237.out) | exact HB.out)⟩⟩
          ·rw [if_neg c120] at H
           exact absurd H (by simp)
      ·rw [if_neg c49] at H
       have c49b0 : decide (0 < x11_1) = false := decide_eq_false c49
       clear c49
       simp only [Option.some.injEq, Prod.mk.injEq] at H
       obtain ⟨rfl, rfl, rfl, rfl⟩ := H
       have hnb127 := NB237_227.out
       have hnc127 := NB227_237.out
       have hcz128_0 : wr.cell? ⟨gb237, 0, none⟩ = some (u238000) := (blk_cell BK237.out 0).trans rfl
       have hcz128_1 : wr.cell? ⟨gb237, 1, none⟩ = some (u238001) := (blk_cell BK237.out 1).trans rfl
       have hcz128_2 : wr.cell? ⟨gb237, 2, none⟩ = some (u238002) := (blk_cell BK237.out 2).trans rfl
       have hcz128_3 : wr.cell? ⟨gb237, 3, none⟩ = some (u238003) := (blk_cell BK237.out 3).trans rfl
       have hfz128_0 := blk_frozen BK237.out 0
       have hfz128_1 := blk_frozen BK237.out 1
       have hfz128_2 := blk_frozen BK237.out 2
       have hfz128_3 := blk_frozen BK237.out 3
       obtain ⟨Ao129, co129, eo129⟩ := Kd.R_slice HO_238000.out
       subst eo129
       have hcz130_0 : wr.cell? ⟨gb227, 0, none⟩ = some (.slice none 0 0) := (blk_cell BK227.out 0).trans rfl
       have hcz130_1 : wr.cell? ⟨gb227, 1, none⟩ = some (.slice none 0 0) := (blk_cell BK227.out 1).trans rfl
       have hcz130_2 : wr.cell? ⟨gb227, 2, none⟩ = some (.slice none 0 0) := (blk_cell BK227.out 2).trans rfl
       have hcz130_3 : wr.cell? ⟨gb227, 3, none⟩ = some (.slice none 0 0) := (blk_cell BK227.out 3).trans rfl
       have hfz130_0 := blk_frozen BK227.out 0
       have hfz130_1 := blk_frozen BK227.out 1
       have hfz130_2 := blk_frozen BK227.out 2
       have hfz130_3 := blk_frozen BK227.out 3
       obtain ⟨Ao131, co131, eo131⟩ := Kd.R_slice HO_238001.out
       subst eo131
       obtain ⟨Ao132, co132, eo132⟩ := Kd.R_slice HO_238002.out
       subst eo132
       obtain ⟨Ao133, co133, eo133⟩ := Kd.S_slice HO_238003.out
       subst eo133
       go_wp2
       refine bodyPost_ret (results_cell_row rfl _ _ gb227 48 #[.slice Ao129 x238000_1.length co129, .slice Ao131 x238001_1.length co131, .slice Ao132 x238002_1.length co132, .slice Ao133 x238003_1.length co133] (0, 0) _ rfl (by (with_reducible repeat (first | refine blk_drewN ?_ _ | refine blk_drew ?_ | refine blk_alloc ?_ _)); refine blk_put (cs := #[.slice Ao129 x238000_1.length co129, .slice Ao131 x238001_1.length co131, .slice Ao132 x238002_1.length co132, .slice none 0 0]) ?_ 3 _ rfl; (with_reducible repeat (first | refine blk_drewN ?_ _ | refine blk_drew ?_ | refine blk_alloc ?_ _)); refine blk_put (cs := #[.slice Ao129 x238000_1.length co129, .slice Ao131 x238001_1.length co131, .slice none 0 0, .slice none 0 0]) ?_ 2 _ rfl; (with_reducible repeat (first | refine blk_drewN ?_ _ | refine blk_drew ?_ | refine blk_alloc ?_ _)); refine blk_put (cs := #[.slice Ao129 x238000_1.length co129, .slice none 0 0, .slice none 0 0, .slice none 0 0]) ?_ 1 _ rfl; (with_reducible repeat (first | refine blk_drewN ?_ _ | refine blk_drew ?_ | refine blk_alloc ?_ _)); refine blk_put (cs := #[.slice none 0 0, .slice none 0 0, .slice none 0 0, .slice none 0 0]) ?_ 0 _ rfl; (with_reducible repeat (first | refine blk_drewN ?_ _ | refine blk_drew ?_ | refine blk_alloc ?_ _)); exact BK227.out) Try.underlying48 rfl (by kernel_rfl)) rfl ?_
       exact ⟨_, _, _, _, by first | rfl | (simp [errW_none, errW_some] <;> rfl) | (simp [*, errW_none, errW_some] <;> rfl), by (with_reducible repeat (first | apply Kd.R_alloc | apply Kd.R_drewN | apply Kd.R_drew)); exact Kd.R_mono (Kd.R_far (p := ⟨gb227, 3, none⟩) (Kd.R_far (p := ⟨gb227, 2, none⟩) (Kd.R_far (p := ⟨gb227, 1, none⟩) (Kd.R_far (p := ⟨gb227, 0, none⟩) (Kd.R_types HO_238000.out BK227.out (by decide)) (fun _ hk => hk.2) (.slice Ao129 x238000_1.length co129)) (fun _ hk => hk.2) (.slice Ao131 x238001_1.length co131)) (fun _ hk => hk.2) (.slice Ao132 x238002_1.length co132)) (fun _ hk => hk.2) (.slice Ao133 x238003_1.length co133)) (fun _ hk => ⟨hk.1.2.2.2.1, hk.1.2.2.2.2⟩), by (with_reducible repeat (first | apply Kd.R_alloc | apply Kd.R_drewN | apply Kd.R_drew)); exact Kd.R_mono (Kd.R_far (p := ⟨gb227, 3, none⟩) (Kd.R_far (p := ⟨gb227, 2, none⟩) (Kd.R_far (p := ⟨gb227, 1, none⟩) (Kd.R_far (p := ⟨gb227, 0, none⟩) (Kd.R_types HO_238001.out BK227.out (by decide)) (fun _ hk => hk.2) (.slice Ao129 x238000_1.length co129)) (fun _ hk => hk.2) (.slice Ao131 x238001_1.length co131)) (fun _ hk => hk.2) (.slice Ao132 x238002_1.length co132)) (fun _ hk => hk.2) (.slice Ao133 x238003_1.length co133)) (fun _ hk => ⟨hk.1.2.2.2.1, hk.1.2.2.2.2⟩), by (with_reducible repeat (first | apply Kd.R_alloc | apply Kd.R_drewN | apply Kd.R_drew)); exact Kd.R_mono (Kd.R_far (p := ⟨gb227, 3, none⟩) (Kd.R_far (p := ⟨gb227, 2, none⟩) (Kd.R_far (p := ⟨gb227, 1, none⟩) (Kd.R_far (p := ⟨gb227, 0, none⟩) (Kd.R_types HO_238002.out BK227.out (by decide)) (fun _ hk => hk.2) (.slice Ao129 x238000_1.length co129)) (fun _ hk => hk.2) (.slice Ao131 x238001_1.length co131)) (fun _ hk => hk.2) (.slice Ao132 x238002_1.length co132)) (fun _ hk => hk.2) (.slice Ao133 x238003_1.length co133)) (fun _ hk => ⟨hk.1.2.2.2.1, hk.1.2.2.2.2⟩), by (with_reducible repeat (first | apply Kd.S_alloc | apply Kd.S_drewN | apply Kd.S_drew)); exact Kd.S_mono (Kd.S_far (p := ⟨gb227, 3, none⟩) (Kd.S_far (p := ⟨gb227, 2, none⟩) (Kd.S_far (p := ⟨gb227, 1, none⟩) (Kd.S_far (p := ⟨gb227, 0, none⟩) (Kd.S_types HO_238003.out BK227.out (by decide)) (fun _ hk => hk.2) (.slice Ao129 x238000_1.length co129)) (fun _ hk => hk.2) (.slice Ao131 x238001_1.length co131)) (fun _ hk => hk.2) (.slice Ao132 x238002_1.length co132)) (fun _ hk => hk.2) (.slice Ao133 x238003_1.length co133)) (fun _ hk => ⟨hk.1.2.2.2.1, ⟨hk.1.2.2.2.2.1, hk.1.2.2.2.2.2⟩⟩), by repeat (first | (with_reducible first | exact HB.out | apply below_alloc | apply pw_below_drewN | apply below_drew1 | refine below_set ?_ GE227.out | refine below_set ?_ GE237.out) | exact HB.out)⟩
   ·rw [if_neg c9] at H
    exact absurd H (by simp)
  ·rw [if_neg c5] at H
   exact absurd H (by simp)
 ·rw [if_neg c4] at H
  exact absurd H (by simp)

end Go.Proofs.Ytmlkajaaokhdaaa.PFnBoarding
