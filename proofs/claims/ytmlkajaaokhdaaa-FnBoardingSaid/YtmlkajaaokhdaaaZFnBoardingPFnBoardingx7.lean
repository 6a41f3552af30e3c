import Derived.Test.YtmlkajaaokhdaaaZFnBoardingPFnBoardingx0
import Derived.Test.YtmlkajaaokhdaaaZFnBoardingPFnBoardingx3
import Derived.Test.YtmlkajaaokhdaaaZFnBoardingPFnBoardingx4
import Derived.Test.YtmlkajaaokhdaaaZFnBoardingPFnBoardingx5
import Derived.Test.YtmlkajaaokhdaaaZFnBoardingPFnBoardingx6
namespace Go.Proofs.Ytmlkajaaokhdaaa.PFnBoarding
open Go.RowKit Go.Proofs.YtmlkajaaokhdaaaW.PrintWords Go.Proofs.YtmlkajaaokhdaaaW.PrintLast Go.Proofs.YtmlkajaaokhdaaaW.PrintMore
attribute [local go_sem] max2_int min2_int max_two min_two max_three min_three max_four min_four   -- for this text's walks alone
set_option linter.unusedVariables false
set_option linter.unusedSimpArgs false

/-! ### spec_l7Run: function 30 -/
mutual
def spec_l7Run.l0 : Nat → Int → Int → List Int → Int → Int → List Int → List Int → List Int → List Int → List Int → List Int → Option (List Int × List Int × List Int × List Int × List Int × List Int)
 | 0, _, _, _, _, _, _, _, _, _, _, _ => none
 | k + 1, x0, x1, x2, x3, x10, x367000, x367001, x367002, x367003, x367004, x367005 => if x3 < 0 then ((spec_l1Has.f k x367004 0).bind fun t367 => (spec_l7Run.j1 k x0 x1 x2 x3 x10 t367 x367000 x367001 x367002 x367003 x367004 x367005)) else (if x10 ≤ x3 then ((spec_l1Has.f k x367004 0).bind fun t368 => (spec_l7Run.j1 k x0 x1 x2 x3 x10 t368 x367000 x367001 x367002 x367003 x367004 x367005)) else (spec_l7Run.j1 k x0 x1 x2 x3 x10 false x367000 x367001 x367002 x367003 x367004 x367005))
def spec_l7Run.j1 : Nat → Int → Int → List Int → Int → Int → Bool → List Int → List Int → List Int → List Int → List Int → List Int → Option (List Int × List Int × List Int × List Int × List Int × List Int)
 | 0, _, _, _, _, _, _, _, _, _, _, _, _ => none
 | k + 1, x0, x1, x2, x3, x10, x25, x367000, x367001, x367002, x367003, x367004, x367005 => if x25 = true then (spec_l7Run.l1 k x0 x1 x2 x3 x10 0 x367000 x367001 x367002 x367003 x367004 x367005) else (some (x367000, x367001, x367002, x367003, x367004, x367005))
def spec_l7Run.l1 : Nat → Int → Int → List Int → Int → Int → Int → List Int → List Int → List Int → List Int → List Int → List Int → Option (List Int × List Int × List Int × List Int × List Int × List Int)
 | 0, _, _, _, _, _, _, _, _, _, _, _, _ => none
 | k + 1, x0, x1, x2, x3, x10, x11, x367000, x367001, x367002, x367003, x367004, x367005 => if x11 < x0 then (if 0 ≤ x11 then (if x11 < (x2.length : Int) then ((spec_l7Act.f x367000 x367001 x367002 x367003 x367004 x367005 (rd x2 x11) x10 x1).bind fun bt370 => (spec_l7Run.l1 k x0 x1 x2 x3 x10 (wrap64 (x11 + 1)) bt370.1 bt370.2.1 bt370.2.2.1 bt370.2.2.2.1 bt370.2.2.2.2.1 bt370.2.2.2.2.2)) else (none)) else (none)) else (spec_l7Run.l0 k x0 x1 x2 x3 (wrap64 (x10 + 1)) x367000 x367001 x367002 x367003 x367004 x367005)
end
def spec_l7Run.f (k : Nat) (a0 : Int) (a1 : Int) (l2 : List Int) (a3 : Int) : Option (List Int × List Int × List Int × List Int × List Int × List Int) := (spec_l7Start.f k a0).bind fun bt348 => (spec_l7Run.l0 k a0 a1 l2 a3 1 bt348.1 bt348.2.1 bt348.2.2.1 bt348.2.2.2.1 bt348.2.2.2.2.1 bt348.2.2.2.2.2)
def spec_l7Run.T8 : Bool × List (List Nat × List Nat) := (true, [([], []), ([], []), ([], []), ([1, 2], [1, 2]), ([3], [3]), ([], []), ([], []), ([0, 4, 5, 6], [0, 4, 5, 6])])
def spec_l7Run.B8 : List Nat := [0, 0, 0, 6, 14, 0, 0, 127]
theorem spec_l7Run.tab8 : rtab .any (opsOf Try.f30 8) = spec_l7Run.T8 := by kernel_rfl
theorem spec_l7Run.bits8 : waitsOk spec_l7Run.T8.2 spec_l7Run.B8 = true := by kernel_rfl
set_option maxHeartbeats 8000000 in
set_option maxRecDepth 100000 in
theorem spec_l7Run.calls (k : Nat) (a0 : Int) (a1 : Int) (A2 : Option Addr) (c2 : Nat) (l2 : List Int) (a3 : Int) (r1 : List Int) (r2 : List Int) (r3 : List Int) (r4 : List Int) (r5 : List Int) (r6 : List Int) (w : World) (hr2 : Kd.C (Kd.int .i64) w A2 l2.length l2) (hc2 : l2.length ≤ c2) (h : spec_l7Run.f k a0 a1 l2 a3 = some (r1, r2, r3, r4, r5, r6)) :
  Calls Try.prog 30 #[.int .i64 a0, .int .i64 a1, .slice A2 l2.length c2, .int .i64 a3] w fun e w' => ∃ v0_ v1_ v2_ v3_ v4_ v5_ : Value, e = .returned (.agg #[v0_, v1_, v2_, v3_, v4_, v5_]) ∧ Kd.R (Kd.int .i64) 3 w' w.heap.size (fun k_ => some k_ ≠ (v1_ : Value).ownBlock ∧ some k_ ≠ (v2_ : Value).ownBlock ∧ some k_ ≠ (v3_ : Value).ownBlock ∧ some k_ ≠ (v4_ : Value).ownBlock ∧ some k_ ≠ (v5_ : Value).ownBlock) v0_ r1 ∧ Kd.R (Kd.int .i64) 3 w' w.heap.size (fun k_ => some k_ ≠ (v0_ : Value).ownBlock ∧ some k_ ≠ (v2_ : Value).ownBlock ∧ some k_ ≠ (v3_ : Value).ownBlock ∧ some k_ ≠ (v4_ : Value).ownBlock ∧ some k_ ≠ (v5_ : Value).ownBlock) v1_ r2 ∧ Kd.R (Kd.int .i64) 3 w' w.heap.size (fun k_ => some k_ ≠ (v0_ : Value).ownBlock ∧ some k_ ≠ (v1_ : Value).ownBlock ∧ some k_ ≠ (v3_ : Value).ownBlock ∧ some k_ ≠ (v4_ : Value).ownBlock ∧ some k_ ≠ (v5_ : Value).ownBlock) v2_ r3 ∧ Kd.R (Kd.int .i64) 3 w' w.heap.size (fun k_ => some k_ ≠ (v0_ : Value).ownBlock ∧ some k_ ≠ (v1_ : Value).ownBlock ∧ some k_ ≠ (v2_ : Value).ownBlock ∧ some k_ ≠ (v4_ : Value).ownBlock ∧ some k_ ≠ (v5_ : Value).ownBlock) v3_ r4 ∧ Kd.R (Kd.int .i64) 3 w' w.heap.size (fun k_ => some k_ ≠ (v0_ : Value).ownBlock ∧ some k_ ≠ (v1_ : Value).ownBlock ∧ some k_ ≠ (v2_ : Value).ownBlock ∧ some k_ ≠ (v3_ : Value).ownBlock ∧ some k_ ≠ (v5_ : Value).ownBlock) v4_ r5 ∧ Kd.R (Kd.int .i64) 3 w' w.heap.size (fun k_ => some k_ ≠ (v0_ : Value).ownBlock ∧ some k_ ≠ (v1_ : Value).ownBlock ∧ some k_ ≠ (v2_ : Value).ownBlock ∧ some k_ ≠ (v3_ : Value).ownBlock ∧ some k_ ≠ (v4_ : Value).ownBlock) v5_ r6 ∧ Below w.heap.size w w' := by
 have hu52 := Try.underlying52
 have HR2 := Aside0.mk hr2
 have HC2 := Aside0.mk hc2
 clear hr2 hc2
 have HB := Aside0.mk (Below.refl w.heap.size w)
 have H : ((spec_l7Start.f k a0).bind fun bt348 => (spec_l7Run.l0 k a0 a1 l2 a3 1 bt348.1 bt348.2.1 bt348.2.2.1 bt348.2.2.2.1 bt348.2.2.2.2.1 bt348.2.2.2.2.2)) = some (r1, r2, r3, r4, r5, r6) := h
 clear h
 replace H := Option.bind_eq_some_iff.mp H
 obtain ⟨⟨t348, t351, t354, t357, t360, t363⟩, A50, H⟩ := H
 try dsimp only at H
 have A5 := Aside0.mk A50
 clear A50
 have H' := Aside0.mk H
 clear H
 go_enter Try.func30, Try.ntmps30
 go_wp2_with (first | ((with_reducible refine gate_dst (N := 8) rfl ?_); refine box_event ?hg (N := 8) ?hd (cs := #[.slice none 0 0, .slice none 0 0, .slice none 0 0, .slice none 0 0, .slice none 0 0, .slice none 0 0]) (t := 52) ?hr ?_; (case hd => rfl); (case hg => rfl); (case hr => first | (go_simp; done) | (go_simp; rfl)); intro gb347 hg w6 hbox hb; have n0_ := Aside0.mk (below_step (by repeat (first | (with_reducible first | exact HB.out | apply below_alloc | apply pw_below_drewN | apply below_drew1) | exact HB.out)) hb); have n1_ := Aside0.mk (hbox); have n2_ := Aside0.mk ((by rw [hg]; exact (below_size (by repeat (first | (with_reducible first | exact HB.out | apply below_alloc | apply pw_below_drewN | apply below_drew1) | exact HB.out))) : w.heap.size ≤ gb347)); have n3_ := Aside0.mk ((by rw [hg]; exact (below_size (by repeat (first | (with_reducible first | exact HB.out | apply below_alloc | apply pw_below_drewN | apply below_drew1) | exact HB.out))) : w.heap.size ≤ gb347)); clear HB; have HB := n0_; have BK347 := n1_; have GW347 := n2_; have GE347 := n3_; clear n0_ n1_ n2_ n3_ hb hbox hg) | ((with_reducible refine gate_callee (f := 45) rfl ?_); refine goesL_ (some 13) rfl rfl Try.func45 (by kernel_rfl) rfl #[.int .i64 a0] rfl (by first | rfl | (simp only [List.map_toArray, List.map_cons, List.map_nil, List.length_drop, List.length_take]; first | done | rfl)) ?_; (with_reducible refine (spec_l7Start.calls k a0 t348 t351 t354 t357 t360 t363 _ A5.out).mono ?_); rintro e w7 ⟨v349, v352, v355, v358, v361, v364, rfl, ho0, ho1, ho2, ho3, ho4, ho5, hb⟩; refine ⟨_, rfl, ?_⟩; have n0_ := Aside0.mk (Kd.R_lower ho0 (below_size (by repeat (first | (with_reducible first | exact HB.out | apply below_alloc | apply pw_below_drewN | apply below_drew1 | refine below_set ?_ GE347.out) | exact HB.out)))); have n1_ := Aside0.mk (Kd.R_lower ho1 (below_size (by repeat (first | (with_reducible first | exact HB.out | apply below_alloc | apply pw_below_drewN | apply below_drew1 | refine below_set ?_ GE347.out) | exact HB.out)))); have n2_ := Aside0.mk (Kd.R_lower ho2 (below_size (by repeat (first | (with_reducible first | exact HB.out | apply below_alloc | apply pw_below_drewN | apply below_drew1 | refine below_set ?_ GE347.out) | exact HB.out)))); have n3_ := Aside0.mk (Kd.R_lower ho3 (below_size (by repeat (first | (with_reducible first | exact HB.out | apply below_alloc | apply pw_below_drewN | apply below_drew1 | refine below_set ?_ GE347.out) | exact HB.out)))); have n4_ := Aside0.mk (Kd.R_lower ho4 (below_size (by repeat (first | (with_reducible first | exact HB.out | apply below_alloc | apply pw_below_drewN | apply below_drew1 | refine below_set ?_ GE347.out) | exact HB.out)))); have n5_ := Aside0.mk (Kd.R_lower ho5 (below_size (by repeat (first | (with_reducible first | exact HB.out | apply below_alloc | apply pw_below_drewN | apply below_drew1 | refine below_set ?_ GE347.out) | exact HB.out)))); have n6_ := Aside0.mk (blk_below (by first | (with_reducible exact BK347.out) | ((with_reducible repeat (first | refine blk_drewN ?_ _ | refine blk_drew ?_ | refine blk_alloc ?_ _)); exact BK347.out)) hb); have n7_ := Aside0.mk (below_step (by repeat (first | (with_reducible first | exact HB.out | apply below_alloc | apply pw_below_drewN | apply below_drew1 | refine below_set ?_ GE347.out) | exact HB.out)) hb); clear BK347 HB; have HO350 := n0_; have HO353 := n1_; have HO356 := n2_; have HO359 := n3_; have HO362 := n4_; have HO365 := n5_; have BK347 := n6_; have HB := n7_; clear n0_ n1_ n2_ n3_ n4_ n5_ n6_ n7_; (try clear hb); (try clear hb2); (try clear hk); (try clear hi); (try clear ho0); (try clear ho1); (try clear ho2); (try clear ho3); (try clear ho4); (try clear ho5)) | ((with_reducible refine gate_dst (N := 9) rfl ?_); refine box_event ?hg (N := 9) ?hd (cs := #[.slice none 0 0, .slice none 0 0, .slice none 0 0, .slice none 0 0, .slice none 0 0, .slice none 0 0]) (t := 52) ?hr ?_; (case hd => rfl); (case hg => rfl); (case hr => first | (go_simp; done) | (go_simp; rfl)); intro gb366 hg w8 hbox hb; have n0_ := Aside0.mk (Kd.R_below (by (with_reducible repeat (first | apply Kd.R_alloc | apply Kd.R_drewN | apply Kd.R_drew)); exact HO350.out) hb); have n1_ := Aside0.mk (Kd.R_below (by (with_reducible repeat (first | apply Kd.R_alloc | apply Kd.R_drewN | apply Kd.R_drew)); exact HO353.out) hb); have n2_ := Aside0.mk (Kd.R_below (by (with_reducible repeat (first | apply Kd.R_alloc | apply Kd.R_drewN | apply Kd.R_drew)); exact HO356.out) hb); have n3_ := Aside0.mk (Kd.R_below (by (with_reducible repeat (first | apply Kd.R_alloc | apply Kd.R_drewN | apply Kd.R_drew)); exact HO359.out) hb); have n4_ := Aside0.mk (Kd.R_below (by (with_reducible repeat (first | apply Kd.R_alloc | apply Kd.R_drewN | apply Kd.R_drew)); exact HO362.out) hb); have n5_ := Aside0.mk (Kd.R_below (by (with_reducible repeat (first | apply Kd.R_alloc | apply Kd.R_drewN | apply Kd.R_drew)); exact HO365.out) hb); have n6_ := Aside0.mk (blk_below (by first | (with_reducible exact BK347.out) | ((with_reducible repeat (first | refine blk_drewN ?_ _ | refine blk_drew ?_ | refine blk_alloc ?_ _)); exact BK347.out)) hb); have n7_ := Aside0.mk (below_step (by repeat (first | (with_reducible first | exact HB.out | apply below_alloc | apply pw_below_drewN | apply below_drew1 | refine below_set ?_ GE347.out) | exact HB.out)) hb); have n8_ := Aside0.mk (hbox); have n9_ := Aside0.mk ((by rw [hg]; exact (below_size (by repeat (first | (with_reducible first | exact HB.out | apply below_alloc | apply pw_below_drewN | apply below_drew1 | refine below_set ?_ GE347.out) | exact HB.out))) : w.heap.size ≤ gb366)); have n10_ := Aside0.mk ((by rw [hg]; exact (below_size (by repeat (first | (with_reducible first | exact HB.out | apply below_alloc | apply pw_below_drewN | apply below_drew1 | refine below_set ?_ GE347.out) | exact HB.out))) : w.heap.size ≤ gb366)); have n11_ := Aside0.mk ((by rw [hg]; exact Nat.ne_of_lt (blk_lt (by first | (with_reducible exact BK347.out) | ((with_reducible repeat (first | refine blk_drewN ?_ _ | refine blk_drew ?_ | refine blk_alloc ?_ _)); exact BK347.out))) : gb347 ≠ gb366)); have n12_ := Aside0.mk ((by rw [hg]; exact Nat.ne_of_gt (blk_lt (by first | (with_reducible exact BK347.out) | ((with_reducible repeat (first | refine blk_drewN ?_ _ | refine blk_drew ?_ | refine blk_alloc ?_ _)); exact BK347.out))) : gb366 ≠ gb347)); clear HO350 HO353 HO356 HO359 HO362 HO365 BK347 HB; have HO350 := n0_; have HO353 := n1_; have HO356 := n2_; have HO359 := n3_; have HO362 := n4_; have HO365 := n5_; have BK347 := n6_; have HB := n7_; have BK366 := n8_; have GW366 := n9_; have GE366 := n10_; have NB347_366 := n11_; have NB366_347 := n12_; clear n0_ n1_ n2_ n3_ n4_ n5_ n6_ n7_ n8_ n9_ n10_ n11_ n12_ hb hbox hg; obtain ⟨Ao9, co9, eo9⟩ := Kd.R_slice HO350.out; subst eo9; have hnb10 := NB366_347.out; have hnc10 := NB347_366.out; have hcz11_0 : w8.cell? ⟨gb366, 0, none⟩ = some (.slice none 0 0) := (blk_cell BK366.out 0).trans rfl; have hcz11_1 : w8.cell? ⟨gb366, 1, none⟩ = some (.slice none 0 0) := (blk_cell BK366.out 1).trans rfl; have hcz11_2 : w8.cell? ⟨gb366, 2, none⟩ = some (.slice none 0 0) := (blk_cell BK366.out 2).trans rfl; have hcz11_3 : w8.cell? ⟨gb366, 3, none⟩ = some (.slice none 0 0) := (blk_cell BK366.out 3).trans rfl; have hcz11_4 : w8.cell? ⟨gb366, 4, none⟩ = some (.slice none 0 0) := (blk_cell BK366.out 4).trans rfl; have hcz11_5 : w8.cell? ⟨gb366, 5, none⟩ = some (.slice none 0 0) := (blk_cell BK366.out 5).trans rfl; have hfz11_0 := blk_frozen BK366.out 0; have hfz11_1 := blk_frozen BK366.out 1; have hfz11_2 := blk_frozen BK366.out 2; have hfz11_3 := blk_frozen BK366.out 3; have hfz11_4 := blk_frozen BK366.out 4; have hfz11_5 := blk_frozen BK366.out 5; obtain ⟨Ao12, co12, eo12⟩ := Kd.R_slice HO353.out; subst eo12; obtain ⟨Ao13, co13, eo13⟩ := Kd.R_slice HO356.out; subst eo13; obtain ⟨Ao14, co14, eo14⟩ := Kd.R_slice HO359.out; subst eo14; obtain ⟨Ao15, co15, eo15⟩ := Kd.R_slice HO362.out; subst eo15; obtain ⟨Ao16, co16, eo16⟩ := Kd.R_slice HO365.out; subst eo16))
 go_loopg [10] k (fun kq v10 w' => ∃ (x10_1 : Int) (x367000_1 : List Int) (x367001_1 : List Int) (x367002_1 : List Int) (x367003_1 : List Int) (x367004_1 : List Int) (x367005_1 : List Int) (u367000 : Value) (u367001 : Value) (u367002 : Value) (u367003 : Value) (u367004 : Value) (u367005 : Value), v10 = .int .i64 x10_1 ∧ Aside0 (spec_l7Run.l0 kq a0 a1 l2 a3 x10_1 x367000_1 x367001_1 x367002_1 x367003_1 x367004_1 x367005_1 = some (r1, r2, r3, r4, r5, r6)) ∧ Aside0 (kq ≤ k) ∧ Aside0 (Kd.R (Kd.int .i64) 3 w' w.heap.size (fun k_ => some k_ ≠ (u367001 : Value).ownBlock ∧ some k_ ≠ (u367002 : Value).ownBlock ∧ some k_ ≠ (u367003 : Value).ownBlock ∧ some k_ ≠ (u367004 : Value).ownBlock ∧ some k_ ≠ (u367005 : Value).ownBlock) u367000 x367000_1) ∧ Aside0 (Kd.R (Kd.int .i64) 3 w' w.heap.size (fun k_ => some k_ ≠ (u367000 : Value).ownBlock ∧ some k_ ≠ (u367002 : Value).ownBlock ∧ some k_ ≠ (u367003 : Value).ownBlock ∧ some k_ ≠ (u367004 : Value).ownBlock ∧ some k_ ≠ (u367005 : Value).ownBlock) u367001 x367001_1) ∧ Aside0 (Kd.R (Kd.int .i64) 3 w' w.heap.size (fun k_ => some k_ ≠ (u367000 : Value).ownBlock ∧ some k_ ≠ (u367001 : Value).ownBlock ∧ some k_ ≠ (u367003 : Value).ownBlock ∧ some k_ ≠ (u367004 : Value).ownBlock ∧ some k_ ≠ (u367005 : Value).ownBlock) u367002 x367002_1) ∧ Aside0 (Kd.R (Kd.int .i64) 3 w' w.heap.size (fun k_ => some k_ ≠ (u367000 : Value).ownBlock ∧ some k_ ≠ (u367001 : Value).ownBlock ∧ some k_ ≠ (u367002 : Value).ownBlock ∧ some k_ ≠ (u367004 : Value).ownBlock ∧ some k_ ≠ (u367005 : Value).ownBlock) u367003 x367003_1) ∧ Aside0 (Kd.R (Kd.int .i64) 3 w' w.heap.size (fun k_ => some k_ ≠ (u367000 : Value).ownBlock ∧ some k_ ≠ (u367001 : Value).ownBlock ∧ some k_ ≠ (u367002 : Value).ownBlock ∧ some k_ ≠ (u367003 : Value).ownBlock ∧ some k_ ≠ (u367005 : Value).ownBlock) u367004 x367004_1) ∧ Aside0 (Kd.R (Kd.int .i64) 3 w' w.heap.size (fun k_ => some k_ ≠ (u367000 : Value).ownBlock ∧ some k_ ≠ (u367001 : Value).ownBlock ∧ some k_ ≠ (u367002 : Value).ownBlock ∧ some k_ ≠ (u367003 : Value).ownBlock ∧ some k_ ≠ (u367004 : Value).ownBlock) u367005 x367005_1) ∧ Aside0 (w'.heap[gb347]? = some (.cells #[(.slice none 0 0), (.slice none 0 0), (.slice none 0 0), (.slice none 0 0), (.slice none 0 0), (.slice none 0 0)] 52 (0, 0))) ∧ Aside0 (w'.heap[gb366]? = some (.cells #[u367000, u367001, u367002, u367003, u367004, u367005] 52 (0, 0))) ∧ Aside0 (Below w.heap.size w w'))
 case atStart => exact ⟨(1), (t348), (t351), (t354), (t357), (t360), (t363), (.slice Ao9 t348.length co9), (.slice Ao12 t351.length co12), (.slice Ao13 t354.length co13), (.slice Ao14 t357.length co14), (.slice Ao15 t360.length co15), (.slice Ao16 t363.length co16), (by first | rfl | (simp; done) | (simp [*]; done)), H', ⟨Nat.le_refl _⟩, ⟨by (with_reducible repeat (first | apply Kd.R_alloc | apply Kd.R_drewN | apply Kd.R_drew)); exact Kd.R_mono (Kd.R_far (p := ⟨gb366, 5, none⟩) (Kd.R_far (p := ⟨gb366, 4, none⟩) (Kd.R_far (p := ⟨gb366, 3, none⟩) (Kd.R_far (p := ⟨gb366, 2, none⟩) (Kd.R_far (p := ⟨gb366, 1, none⟩) (Kd.R_far (p := ⟨gb366, 0, none⟩) (Kd.R_types HO350.out BK366.out (by decide)) (fun _ hk => hk.2) (.slice Ao9 t348.length co9)) (fun _ hk => hk.2) (.slice Ao12 t351.length co12)) (fun _ hk => hk.2) (.slice Ao13 t354.length co13)) (fun _ hk => hk.2) (.slice Ao14 t357.length co14)) (fun _ hk => hk.2) (.slice Ao15 t360.length co15)) (fun _ hk => hk.2) (.slice Ao16 t363.length co16)) (fun _ hk => ⟨hk.1.1, ⟨hk.1.2.1, ⟨hk.1.2.2.1, ⟨hk.1.2.2.2.1, hk.1.2.2.2.2⟩⟩⟩⟩)⟩, ⟨by (with_reducible repeat (first | apply Kd.R_alloc | apply Kd.R_drewN | apply Kd.R_drew)); exact Kd.R_mono (Kd.R_far (p := ⟨gb366, 5, none⟩) (Kd.R_far (p := ⟨gb366, 4, none⟩) (Kd.R_far (p := ⟨gb366, 3, none⟩) (Kd.R_far (p := ⟨gb366, 2, none⟩) (Kd.R_far (p := ⟨gb366, 1, none⟩) (Kd.R_far (p := ⟨gb366, 0, none⟩) (Kd.R_types HO353.out BK366.out (by decide)) (fun _ hk => hk.2) (.slice Ao9 t348.length co9)) (fun _ hk => hk.2) (.slice Ao12 t351.length co12)) (fun _ hk => hk.2) (.slice Ao13 t354.length co13)) (fun _ hk => hk.2) (.slice Ao14 t357.length co14)) (fun _ hk => hk.2) (.slice Ao15 t360.length co15)) (fun _ hk => hk.2) (.slice Ao16 t363.length co16)) (fun _ hk => ⟨hk.1.1, ⟨hk.1.2.1, ⟨hk.1.2.2.1, ⟨hk.1.2.2.2.1, hk.1.2.2.2.2⟩⟩⟩⟩)⟩, ⟨by (with_reducible repeat (first | apply Kd.R_alloc | apply Kd.R_drewN | apply Kd.R_drew)); exact Kd.R_mono (Kd.R_far (p := ⟨gb366, 5, none⟩) (Kd.R_far (p := ⟨gb366, 4, none⟩) (Kd.R_far (p := ⟨gb366, 3, none⟩) (Kd.R_far (p := ⟨gb366, 2, none⟩) (Kd.R_far (p := ⟨gb366, 1, none⟩) (Kd.R_far (p := ⟨gb366, 0, none⟩) (Kd.R_types HO356.out BK366.out (by decide)) (fun _ hk => hk.2) (.slice Ao9 t348.length co9)) (fun _ hk => hk.2) (.slice Ao12 t351.length co12)) (fun _ hk => hk.2) (.slice Ao13 t354.length co13)) (fun _ hk => hk.2) (.slice Ao14 t357.length co14)) (fun _ hk => hk.2) (.slice Ao15 t360.length co15)) (fun _ hk => hk.2) (.slice Ao16 t363.length co16)) (fun _ hk => ⟨hk.1.1, ⟨hk.1.2.1, ⟨hk.1.2.2.1, ⟨hk.1.2.2.2.1, hk.1.2.2.2.2⟩⟩⟩⟩)⟩, ⟨by (with_reducible repeat (first | apply Kd.R_alloc | apply Kd.R_drewN | apply Kd.R_drew)); exact Kd.R_mono (Kd.R_far (p := ⟨gb366, 5, none⟩) (Kd.R_far (p := ⟨gb366, 4, none⟩) (Kd.R_far (p := ⟨gb366, 3, none⟩) (Kd.R_far (p := ⟨gb366, 2, none⟩) (Kd.R_far (p := ⟨gb366, 1, none⟩) (Kd.R_far (p := ⟨gb366, 0, none⟩) (Kd.R_types HO359.out BK366.out (by decide)) (fun _ hk => hk.2) (.slice Ao9 t348.length co9)) (fun _ hk => hk.2) (.slice Ao12 t351.length co12)) (fun _ hk => hk.2) (.slice Ao13 t354.length co13)) (fun _ hk => hk.2) (.slice Ao14 t357.length co14)) (fun _ hk => hk.2) (.slice Ao15 t360.length co15)) (fun _ hk => hk.2) (.slice Ao16 t363.length co16)) (fun _ hk => ⟨hk.1.1, ⟨hk.1.2.1, ⟨hk.1.2.2.1, ⟨hk.1.2.2.2.1, hk.1.2.2.2.2⟩⟩⟩⟩)⟩, ⟨by (with_reducible repeat (first | apply Kd.R_alloc | apply Kd.R_drewN | apply Kd.R_drew)); exact Kd.R_mono (Kd.R_far (p := ⟨gb366, 5, none⟩) (Kd.R_far (p := ⟨gb366, 4, none⟩) (Kd.R_far (p := ⟨gb366, 3, none⟩) (Kd.R_far (p := ⟨gb366, 2, none⟩) (Kd.R_far (p := ⟨gb366, 1, none⟩) (Kd.R_far (p := ⟨gb366, 0, none⟩) (Kd.R_types HO362.out BK366.out (by decide)) (fun _ hk => hk.2) (.slice Ao9 t348.length co9)) (fun _ hk => hk.2) (.slice Ao12 t351.length co12)) (fun _ hk => hk.2) (.slice Ao13 t354.length co13)) (fun _ hk => hk.2) (.slice Ao14 t357.length co14)) (fun _ hk => hk.2) (.slice Ao15 t360.length co15)) (fun _ hk => hk.2) (.slice Ao16 t363.length co16)) (fun _ hk => ⟨hk.1.1, ⟨hk.1.2.1, ⟨hk.1.2.2.1, ⟨hk.1.2.2.2.1, hk.1.2.2.2.2⟩⟩⟩⟩)⟩, ⟨by (with_reducible repeat (first | apply Kd.R_alloc | apply Kd.R_drewN | apply Kd.R_drew)); exact Kd.R_mono (Kd.R_far (p := ⟨gb366, 5, none⟩) (Kd.R_far (p := ⟨gb366, 4, none⟩) (Kd.R_far (p := ⟨gb366, 3, none⟩) (Kd.R_far (p := ⟨gb366, 2, none⟩) (Kd.R_far (p := ⟨gb366, 1, none⟩) (Kd.R_far (p := ⟨gb366, 0, none⟩) (Kd.R_types HO365.out BK366.out (by decide)) (fun _ hk => hk.2) (.slice Ao9 t348.length co9)) (fun _ hk => hk.2) (.slice Ao12 t351.length co12)) (fun _ hk => hk.2) (.slice Ao13 t354.length co13)) (fun _ hk => hk.2) (.slice Ao14 t357.length co14)) (fun _ hk => hk.2) (.slice Ao15 t360.length co15)) (fun _ hk => hk.2) (.slice Ao16 t363.length co16)) (fun _ hk => ⟨hk.1.1, ⟨hk.1.2.1, ⟨hk.1.2.2.1, ⟨hk.1.2.2.2.1, hk.1.2.2.2.2⟩⟩⟩⟩)⟩, ⟨by (with_reducible repeat (first | refine blk_drewN ?_ _ | refine blk_drew ?_ | refine blk_alloc ?_ _)); refine blk_far ?_ NB347_366.out _; (with_reducible repeat (first | refine blk_drewN ?_ _ | refine blk_drew ?_ | refine blk_alloc ?_ _)); refine blk_far ?_ NB347_366.out _; (with_reducible repeat (first | refine blk_drewN ?_ _ | refine blk_drew ?_ | refine blk_alloc ?_ _)); refine blk_far ?_ NB347_366.out _; (with_reducible repeat (first | refine blk_drewN ?_ _ | refine blk_drew ?_ | refine blk_alloc ?_ _)); refine blk_far ?_ NB347_366.out _; (with_reducible repeat (first | refine blk_drewN ?_ _ | refine blk_drew ?_ | refine blk_alloc ?_ _)); refine blk_far ?_ NB347_366.out _; (with_reducible repeat (first | refine blk_drewN ?_ _ | refine blk_drew ?_ | refine blk_alloc ?_ _)); refine blk_far ?_ NB347_366.out _; (with_reducible repeat (first | refine blk_drewN ?_ _ | refine blk_drew ?_ | refine blk_alloc ?_ _)); exact BK347.out⟩, ⟨by (with_reducible repeat (first | refine blk_drewN ?_ _ | refine blk_drew ?_ | refine blk_alloc ?_ _)); refine blk_put (cs := #[.slice Ao9 t348.length co9, .slice Ao12 t351.length co12, .slice Ao13 t354.length co13, .slice Ao14 t357.length co14, .slice Ao15 t360.length co15, .slice none 0 0]) ?_ 5 _ rfl; (with_reducible repeat (first | refine blk_drewN ?_ _ | refine blk_drew ?_ | refine blk_alloc ?_ _)); refine blk_put (cs := #[.slice Ao9 t348.length co9, .slice Ao12 t351.length co12, .slice Ao13 t354.length co13, .slice Ao14 t357.length co14, .slice none 0 0, .slice none 0 0]) ?_ 4 _ rfl; (with_reducible repeat (first | refine blk_drewN ?_ _ | refine blk_drew ?_ | refine blk_alloc ?_ _)); refine blk_put (cs := #[.slice Ao9 t348.length co9, .slice Ao12 t351.length co12, .slice Ao13 t354.length co13, .slice none 0 0, .slice none 0 0, .slice none 0 0]) ?_ 3 _ rfl; (with_reducible repeat (first | refine blk_drewN ?_ _ | refine blk_drew ?_ | refine blk_alloc ?_ _)); refine blk_put (cs := #[.slice Ao9 t348.length co9, .slice Ao12 t351.length co12, .slice none 0 0, .slice none 0 0, .slice none 0 0, .slice none 0 0]) ?_ 2 _ rfl; (with_reducible repeat (first | refine blk_drewN ?_ _ | refine blk_drew ?_ | refine blk_alloc ?_ _)); refine blk_put (cs := #[.slice Ao9 t348.length co9, .slice none 0 0, .slice none 0 0, .slice none 0 0, .slice none 0 0, .slice none 0 0]) ?_ 1 _ rfl; (with_reducible repeat (first | refine blk_drewN ?_ _ | refine blk_drew ?_ | refine blk_alloc ?_ _)); refine blk_put (cs := #[.slice none 0 0, .slice none 0 0, .slice none 0 0, .slice none 0 0, .slice none 0 0, .slice none 0 0]) ?_ 0 _ rfl; (with_reducible repeat (first | refine blk_drewN ?_ _ | refine blk_drew ?_ | refine blk_alloc ?_ _)); exact BK366.out⟩, ⟨by repeat (first | (with_reducible first | exact HB.out | apply below_alloc | apply pw_below_drewN | apply below_drew1 | refine below_set ?_ GE347.out | refine below_set ?_ GE366.out) | exact HB.out)⟩⟩
 case round =>
  clear H'
  try clear c1
  try clear c2
  try clear p2
  try clear c3
  try clear c4
  try clear c10
  try clear hcz11_0
  try clear hcz11_1
  try clear hcz11_2
  try clear hcz11_3
  try clear hcz11_4
  try clear hcz11_5
  try clear hfz11_0
  try clear hfz11_1
  try clear hfz11_2
  try clear hfz11_3
  try clear hfz11_4
  try clear hfz11_5
  obtain ⟨x10_1, x367000_1, x367001_1, x367002_1, x367003_1, x367004_1, x367005_1, u367000, u367001, u367002, u367003, u367004, u367005, rfl, HA, HK1, HO_367000, HO_367001, HO_367002, HO_367003, HO_367004, HO_367005, BK347, BK366, HB⟩ := hrel
  cases gk with
  | zero => exact absurd HA.out (by simp [spec_l7Run.l0])
  | succ k1 =>
   have H := HA.out
   clear HA
   simp only [spec_l7Run.l0] at H
   have HC17 := Aside0.mk H
   clear H
   go_upto_region 3 with (fail)
   go_cut [25] (fun v25 wc => ∃ (kq : Nat) (x25_16 : Bool), v25 = .bool x25_16 ∧ Aside0 (spec_l7Run.j1 kq a0 a1 l2 a3 x10_1 x25_16 x367000_1 x367001_1 x367002_1 x367003_1 x367004_1 x367005_1 = some (r1, r2, r3, r4, r5, r6)) ∧ Aside0 (kq ≤ k1) ∧ Aside0 (Kd.R (Kd.int .i64) 3 wc w.heap.size (fun k_ => some k_ ≠ (u367001 : Value).ownBlock ∧ some k_ ≠ (u367002 : Value).ownBlock ∧ some k_ ≠ (u367003 : Value).ownBlock ∧ some k_ ≠ (u367004 : Value).ownBlock ∧ some k_ ≠ (u367005 : Value).ownBlock) u367000 x367000_1) ∧ Aside0 (Kd.R (Kd.int .i64) 3 wc w.heap.size (fun k_ => some k_ ≠ (u367000 : Value).ownBlock ∧ some k_ ≠ (u367002 : Value).ownBlock ∧ some k_ ≠ (u367003 : Value).ownBlock ∧ some k_ ≠ (u367004 : Value).ownBlock ∧ some k_ ≠ (u367005 : Value).ownBlock) u367001 x367001_1) ∧ Aside0 (Kd.R (Kd.int .i64) 3 wc w.heap.size (fun k_ => some k_ ≠ (u367000 : Value).ownBlock ∧ some k_ ≠ (u367001 : Value).ownBlock ∧ some k_ ≠ (u367003 : Value).ownBlock ∧ some k_ ≠ (u367004 : Value).ownBlock ∧ some k_ ≠ (u367005 : Value).ownBlock) u367002 x367002_1) ∧ Aside0 (Kd.R (Kd.int .i64) 3 wc w.heap.size (fun k_ => some k_ ≠ (u367000 : Value).ownBlock ∧ some k_ ≠ (u367001 : Value).ownBlock ∧ some k_ ≠ (u367002 : Value).ownBlock ∧ some k_ ≠ (u367004 : Value).ownBlock ∧ some k_ ≠ (u367005 : Value).ownBlock) u367003 x367003_1) ∧ Aside0 (Kd.R (Kd.int .i64) 3 wc w.heap.size (fun k_ => some k_ ≠ (u367000 : Value).ownBlock ∧ some k_ ≠ (u367001 : Value).ownBlock ∧ some k_ ≠ (u367002 : Value).ownBlock ∧ some k_ ≠ (u367003 : Value).ownBlock ∧ some k_ ≠ (u367005 : Value).ownBlock) u367004 x367004_1) ∧ Aside0 (Kd.R (Kd.int .i64) 3 wc w.heap.size (fun k_ => some k_ ≠ (u367000 : Value).ownBlock ∧ some k_ ≠ (u367001 : Value).ownBlock ∧ some k_ ≠ (u367002 : Value).ownBlock ∧ some k_ ≠ (u367003 : Value).ownBlock ∧ some k_ ≠ (u367004 : Value).ownBlock) u367005 x367005_1) ∧ Aside0 (wc.heap[gb347]? = some (.cells #[(.slice none 0 0), (.slice none 0 0), (.slice none 0 0), (.slice none 0 0), (.slice none 0 0), (.slice none 0 0)] 52 (0, 0))) ∧ Aside0 (wc.heap[gb366]? = some (.cells #[u367000, u367001, u367002, u367003, u367004, u367005] 52 (0, 0))) ∧ Aside0 (Below w.heap.size w wc))
   case first =>
    have H := HC17.out
    clear HC17
    by_cases c18 : a3 < 0
    ·rw [if_pos c18] at H
     have c18b0 : decide (a3 < 0) = true := decide_eq_true c18
     clear c18
     (first | rw [c18b0] | (simp only [i64_w, i32_w]; rw [c18b0]) | rw [c18b1] | skip)
     replace H := Option.bind_eq_some_iff.mp H
     obtain ⟨t367, A190, H⟩ := H
     try dsimp only at H
     have A19 := Aside0.mk A190
     clear A190
     have H' := Aside0.mk H
     clear H
     have hnb20 := NB366_347.out
     have hnc20 := NB347_366.out
     have hcz21_0 : wr.cell? ⟨gb366, 0, none⟩ = some (u367000) := (blk_cell BK366.out 0).trans rfl
     have hcz21_1 : wr.cell? ⟨gb366, 1, none⟩ = some (u367001) := (blk_cell BK366.out 1).trans rfl
     have hcz21_2 : wr.cell? ⟨gb366, 2, none⟩ = some (u367002) := (blk_cell BK366.out 2).trans rfl
     have hcz21_3 : wr.cell? ⟨gb366, 3, none⟩ = some (u367003) := (blk_cell BK366.out 3).trans rfl
     have hcz21_4 : wr.cell? ⟨gb366, 4, none⟩ = some (u367004) := (blk_cell BK366.out 4).trans rfl
     have hcz21_5 : wr.cell? ⟨gb366, 5, none⟩ = some (u367005) := (blk_cell BK366.out 5).trans rfl
     have hfz21_0 := blk_frozen BK366.out 0
     have hfz21_1 := blk_frozen BK366.out 1
     have hfz21_2 := blk_frozen BK366.out 2
     have hfz21_3 := blk_frozen BK366.out 3
     have hfz21_4 := blk_frozen BK366.out 4
     have hfz21_5 := blk_frozen BK366.out 5
     obtain ⟨Ao22, co22, eo22⟩ := Kd.R_slice HO_367004.out
     subst eo22
     go_wp2_with (first | (go_at_call 46; (with_reducible refine (spec_l1Has.calls k1 _ _ x367004_1 0 t367 _ ?side1 ?side2 A19.out).mono ?_); (case side1 => repeat (first | exact (Kd.R_reads' HO_367004.out).2.2 | (with_reducible refine Kd.C_alloc ?_ _) | (with_reducible refine Kd.C_drewN ?_ _) | (with_reducible refine Kd.C_drew ?_))); (case side2 => exact (Kd.R_reads' HO_367004.out).2.1); rintro e w' ⟨rfl, ⟨nd, rfl⟩⟩))
     go_meet
     case rel => exact ⟨_, (t367), (by first | rfl | (simp; done) | (simp [*]; done)), H', ⟨by have := HK1.out; first | omega | exact Nat.le_refl _⟩, ⟨by (with_reducible repeat (first | apply Kd.R_alloc | apply Kd.R_drewN | apply Kd.R_drew)); exact HO_367000.out⟩, ⟨by (with_reducible repeat (first | apply Kd.R_alloc | apply Kd.R_drewN | apply Kd.R_drew)); exact HO_367001.out⟩, ⟨by (with_reducible repeat (first | apply Kd.R_alloc | apply Kd.R_drewN | apply Kd.R_drew)); exact HO_367002.out⟩, ⟨by (with_reducible repeat (first | apply Kd.R_alloc | apply Kd.R_drewN | apply Kd.R_drew)); exact HO_367003.out⟩, ⟨by (with_reducible repeat (first | apply Kd.R_alloc | apply Kd.R_drewN | apply Kd.R_drew)); exact HO_367004.out⟩, ⟨by (with_reducible repeat (first | apply Kd.R_alloc | apply Kd.R_drewN | apply Kd.R_drew)); exact HO_367005.out⟩, ⟨by first | (with_reducible exact BK347.out) | ((with_reducible repeat (first | refine blk_drewN ?_ _ | refine blk_drew ?_ | refine blk_alloc ?_ _)); exact BK347.out)⟩, ⟨by first | (with_reducible exact BK366.out) | ((with_reducible repeat (first | refine blk_drewN ?_ _ | refine blk_drew ?_ | refine blk_alloc ?_ _)); exact BK366.out)⟩, ⟨by repeat (first | (with_reducible first | exact HB.out | apply below_alloc | apply pw_below_drewN | apply below_drew1 | refine below_set ?_ GE347.out | refine below_set ?_ GE366.out) | exact HB.out)⟩⟩
    ·rw [if_neg c18] at H
     have c18b0 : decide (a3 < 0) = false := decide_eq_false c18
     clear c18
     (first | rw [c18b0] | (simp only [i64_w, i32_w]; rw [c18b0]) | rw [c18b1] | skip)
     by_cases c23 : x10_1 ≤ a3
     ·rw [if_pos c23] at H
      have c23b0 : decide (x10_1 ≤ a3) = true := decide_eq_true c23
      clear c23
      replace H := Option.bind_eq_some_iff.mp H
      obtain ⟨t368, A240, H⟩ := H
      try dsimp only at H
      have A24 := Aside0.mk A240
      clear A240
      have H' := Aside0.mk H
      clear H
      have hnb25 := NB366_347.out
      have hnc25 := NB347_366.out
      have hcz26_0 : wr.cell? ⟨gb366, 0, none⟩ = some (u367000) := (blk_cell BK366.out 0).trans rfl
      have hcz26_1 : wr.cell? ⟨gb366, 1, none⟩ = some (u367001) := (blk_cell BK366.out 1).trans rfl
      have hcz26_2 : wr.cell? ⟨gb366, 2, none⟩ = some (u367002) := (blk_cell BK366.out 2).trans rfl
      have hcz26_3 : wr.cell? ⟨gb366, 3, none⟩ = some (u367003) := (blk_cell BK366.out 3).trans rfl
      have hcz26_4 : wr.cell? ⟨gb366, 4, none⟩ = some (u367004) := (blk_cell BK366.out 4).trans rfl
      have hcz26_5 : wr.cell? ⟨gb366, 5, none⟩ = some (u367005) := (blk_cell BK366.out 5).trans rfl
      have hfz26_0 := blk_frozen BK366.out 0
      have hfz26_1 := blk_frozen BK366.out 1
      have hfz26_2 := blk_frozen BK366.out 2
      have hfz26_3 := blk_frozen BK366.out 3
      have hfz26_4 := blk_frozen BK366.out 4
      have hfz26_5 := blk_frozen BK366.out 5
      obtain ⟨Ao27, co27, eo27⟩ := Kd.R_slice HO_367004.out
      subst eo27
      go_wp2_with (first | (go_at_call 46; (with_reducible refine (spec_l1Has.calls k1 _ _ x367004_1 0 t368 _ ?side1 ?side2 A24.out).mono ?_); (case side1 => repeat (first | exact (Kd.R_reads' HO_367004.out).2.2 | (with_reducible refine Kd.C_alloc ?_ _) | (with_reducible refine Kd.C_drewN ?_ _) | (with_reducible refine Kd.C_drew ?_))); (case side2 => exact (Kd.R_reads' HO_367004.out).2.1); rintro e w' ⟨rfl, ⟨nd, rfl⟩⟩))
      go_meet
      case rel => exact ⟨_, (t368), (by first | rfl | (simp; done) | (simp [*]; done)), H', ⟨by have := HK1.out; first | omega | exact Nat.le_refl _⟩, ⟨by (with_reducible repeat (first | apply Kd.R_alloc | apply Kd.R_drewN | apply Kd.R_drew)); exact HO_367000.out⟩, ⟨by (with_reducible repeat (first | apply Kd.R_alloc | apply Kd.R_drewN | apply Kd.R_drew)); exact HO_367001.out⟩, ⟨by (with_reducible repeat (first | apply Kd.R_alloc | apply Kd.R_drewN | apply Kd.R_drew)); exact HO_367002.out⟩, ⟨by (with_reducible repeat (first | apply Kd.R_alloc | apply Kd.R_drewN | apply Kd.R_drew)); exact HO_367003.out⟩, ⟨by (with_reducible repeat (first | apply Kd.R_alloc | apply Kd.R_drewN | apply Kd.R_drew)); exact HO_367004.out⟩, ⟨by (with_reducible repeat (first | apply Kd.R_alloc | apply Kd.R_drewN | apply Kd.R_drew)); exact HO_367005.out⟩, ⟨by first | (with_reducible exact BK347.out) | ((with_reducible repeat (first | refine blk_drewN ?_ _ | refine blk_drew ?_ | refine blk_alloc ?_ _)); exact BK347.out)⟩, ⟨by first | (with_reducible exact BK366.out) | ((with_reducible repeat (first | refine blk_drewN ?_ _ | refine blk_drew ?_ | refine blk_alloc ?_ _)); exact BK366.out)⟩, ⟨by repeat (first | (with_reducible first | exact HB.out | apply below_alloc | apply pw_below_drewN | apply below_drew1 | refine below_set ?_ GE347.out | refine below_set ?_ GE366.out) | exact HB.out)⟩⟩
     ·rw [if_neg c23] at H
      have c23b0 : decide (x10_1 ≤ a3) = false := decide_eq_false c23
      clear c23
      have H' := Aside0.mk H
      clear H
      go_wp2
      go_meet
      case rel => exact ⟨_, (false), (by first | rfl | (simp; done) | (simp [*]; done)), H', ⟨by have := HK1.out; first | omega | exact Nat.le_refl _⟩, ⟨by (with_reducible repeat (first | apply Kd.R_alloc | apply Kd.R_drewN | apply Kd.R_drew)); exact HO_367000.out⟩, ⟨by (with_reducible repeat (first | apply Kd.R_alloc | apply Kd.R_drewN | apply Kd.R_drew)); exact HO_367001.out⟩, ⟨by (with_reducible repeat (first | apply Kd.R_alloc | apply Kd.R_drewN | apply Kd.R_drew)); exact HO_367002.out⟩, ⟨by (with_reducible repeat (first | apply Kd.R_alloc | apply Kd.R_drewN | apply Kd.R_drew)); exact HO_367003.out⟩, ⟨by (with_reducible repeat (first | apply Kd.R_alloc | apply Kd.R_drewN | apply Kd.R_drew)); exact HO_367004.out⟩, ⟨by (with_reducible repeat (first | apply Kd.R_alloc | apply Kd.R_drewN | apply Kd.R_drew)); exact HO_367005.out⟩, ⟨BK347.out⟩, ⟨BK366.out⟩, ⟨HB.out⟩⟩
   case rest =>
    clear HC17
    try clear c1
    try clear c2
    try clear p2
    try clear c3
    try clear c4
    try clear c10
    try clear c18
    try clear c18b0
    try clear c18b1
    try clear c20
    try clear c23
    try clear c23b0
    try clear c25
    try clear hcz11_0
    try clear hcz11_1
    try clear hcz11_2
    try clear hcz11_3
    try clear hcz11_4
    try clear hcz11_5
    try clear hcz21_0
    try clear hcz21_1
    try clear hcz21_2
    try clear hcz21_3
    try clear hcz21_4
    try clear hcz21_5
    try clear hcz26_0
    try clear hcz26_1
    try clear hcz26_2
    try clear hcz26_3
    try clear hcz26_4
    try clear hcz26_5
    try clear hfz11_0
    try clear hfz11_1
    try clear hfz11_2
    try clear hfz11_3
    try clear hfz11_4
    try clear hfz11_5
    try clear hfz21_0
    try clear hfz21_1
    try clear hfz21_2
    try clear hfz21_3
    try clear hfz21_4
    try clear hfz21_5
    try clear hfz26_0
    try clear hfz26_1
    try clear hfz26_2
    try clear hfz26_3
    try clear hfz26_4
    try clear hfz26_5
    try clear p2
    obtain ⟨kq, x25_16, rfl, HA, HJ16, HO_367000, HO_367001, HO_367002, HO_367003, HO_367004, HO_367005, BK347, BK366, HB⟩ := hcut
    cases kq with
    | zero => exact absurd HA.out (by simp [spec_l7Run.j1])
    | succ kj16 =>
     have H := HA.out
     clear HA
     simp only [spec_l7Run.j1] at H
     by_cases c28 : x25_16 = true
     ·subst c28
      rw [if_pos rfl] at H
      have H' := Aside0.mk H
      clear H
      go_wp2
      go_loopg [11] kj16 (fun kq v11 w' => ∃ (x11_3 : Int) (x367000_3 : List Int) (x367001_3 : List Int) (x367002_3 : List Int) (x367003_3 : List Int) (x367004_3 : List Int) (x367005_3 : List Int) (u367000 : Value) (u367001 : Value) (u367002 : Value) (u367003 : Value) (u367004 : Value) (u367005 : Value), v11 = .int .i64 x11_3 ∧ Aside0 (spec_l7Run.l1 kq a0 a1 l2 a3 x10_1 x11_3 x367000_3 x367001_3 x367002_3 x367003_3 x367004_3 x367005_3 = some (r1, r2, r3, r4, r5, r6)) ∧ Aside0 (kq ≤ kj16) ∧ Aside0 (Kd.R (Kd.int .i64) 3 w' w.heap.size (fun k_ => some k_ ≠ (u367001 : Value).ownBlock ∧ some k_ ≠ (u367002 : Value).ownBlock ∧ some k_ ≠ (u367003 : Value).ownBlock ∧ some k_ ≠ (u367004 : Value).ownBlock ∧ some k_ ≠ (u367005 : Value).ownBlock) u367000 x367000_3) ∧ Aside0 (Kd.R (Kd.int .i64) 3 w' w.heap.size (fun k_ => some k_ ≠ (u367000 : Value).ownBlock ∧ some k_ ≠ (u367002 : Value).ownBlock ∧ some k_ ≠ (u367003 : Value).ownBlock ∧ some k_ ≠ (u367004 : Value).ownBlock ∧ some k_ ≠ (u367005 : Value).ownBlock) u367001 x367001_3) ∧ Aside0 (Kd.R (Kd.int .i64) 3 w' w.heap.size (fun k_ => some k_ ≠ (u367000 : Value).ownBlock ∧ some k_ ≠ (u367001 : Value).ownBlock ∧ some k_ ≠ (u367003 : Value).ownBlock ∧ some k_ ≠ (u367004 : Value).ownBlock ∧ some k_ ≠ (u367005 : Value).ownBlock) u367002 x367002_3) ∧ Aside0 (Kd.R (Kd.int .i64) 3 w' w.heap.size (fun k_ => some k_ ≠ (u367000 : Value).ownBlock ∧ some k_ ≠ (u367001 : Value).ownBlock ∧ some k_ ≠ (u367002 : Value).ownBlock ∧ some k_ ≠ (u367004 : Value).ownBlock ∧ some k_ ≠ (u367005 : Value).ownBlock) u367003 x367003_3) ∧ Aside0 (Kd.R (Kd.int .i64) 3 w' w.heap.size (fun k_ => some k_ ≠ (u367000 : Value).ownBlock ∧ some k_ ≠ (u367001 : Value).ownBlock ∧ some k_ ≠ (u367002 : Value).ownBlock ∧ some k_ ≠ (u367003 : Value).ownBlock ∧ some k_ ≠ (u367005 : Value).ownBlock) u367004 x367004_3) ∧ Aside0 (Kd.R (Kd.int .i64) 3 w' w.heap.size (fun k_ => some k_ ≠ (u367000 : Value).ownBlock ∧ some k_ ≠ (u367001 : Value).ownBlock ∧ some k_ ≠ (u367002 : Value).ownBlock ∧ some k_ ≠ (u367003 : Value).ownBlock ∧ some k_ ≠ (u367004 : Value).ownBlock) u367005 x367005_3) ∧ Aside0 (w'.heap[gb347]? = some (.cells #[(.slice none 0 0), (.slice none 0 0), (.slice none 0 0), (.slice none 0 0), (.slice none 0 0), (.slice none 0 0)] 52 (0, 0))) ∧ Aside0 (w'.heap[gb366]? = some (.cells #[u367000, u367001, u367002, u367003, u367004, u367005] 52 (0, 0))) ∧ Aside0 (Below w.heap.size w w'))
      case atStart => exact ⟨(0), (x367000_1), (x367001_1), (x367002_1), (x367003_1), (x367004_1), (x367005_1), (u367000), (u367001), (u367002), (u367003), (u367004), (u367005), (by first | rfl | (simp; done) | (simp [*]; done)), H', ⟨Nat.le_refl _⟩, ⟨by (with_reducible repeat (first | apply Kd.R_alloc | apply Kd.R_drewN | apply Kd.R_drew)); exact HO_367000.out⟩, ⟨by (with_reducible repeat (first | apply Kd.R_alloc | apply Kd.R_drewN | apply Kd.R_drew)); exact HO_367001.out⟩, ⟨by (with_reducible repeat (first | apply Kd.R_alloc | apply Kd.R_drewN | apply Kd.R_drew)); exact HO_367002.out⟩, ⟨by (with_reducible repeat (first | apply Kd.R_alloc | apply Kd.R_drewN | apply Kd.R_drew)); exact HO_367003.out⟩, ⟨by (with_reducible repeat (first | apply Kd.R_alloc | apply Kd.R_drewN | apply Kd.R_drew)); exact HO_367004.out⟩, ⟨by (with_reducible repeat (first | apply Kd.R_alloc | apply Kd.R_drewN | apply Kd.R_drew)); exact HO_367005.out⟩, ⟨BK347.out⟩, ⟨BK366.out⟩, ⟨HB.out⟩⟩
      case round =>
       clear H'
       try clear c1
       try clear c2
       try clear p2
       try clear c3
       try clear c4
       try clear c10
       try clear c18
       try clear c18b0
       try clear c18b1
       try clear c20
       try clear c23
       try clear c23b0
       try clear c25
       try clear c28
       try clear hcz11_0
       try clear hcz11_1
       try clear hcz11_2
       try clear hcz11_3
       try clear hcz11_4
       try clear hcz11_5
       try clear hcz21_0
       try clear hcz21_1
       try clear hcz21_2
       try clear hcz21_3
       try clear hcz21_4
       try clear hcz21_5
       try clear hcz26_0
       try clear hcz26_1
       try clear hcz26_2
       try clear hcz26_3
       try clear hcz26_4
       try clear hcz26_5
       try clear hfz11_0
       try clear hfz11_1
       try clear hfz11_2
       try clear hfz11_3
       try clear hfz11_4
       try clear hfz11_5
       try clear hfz21_0
       try clear hfz21_1
       try clear hfz21_2
       try clear hfz21_3
       try clear hfz21_4
       try clear hfz21_5
       try clear hfz26_0
       try clear hfz26_1
       try clear hfz26_2
       try clear hfz26_3
       try clear hfz26_4
       try clear hfz26_5
       try clear p2
       obtain ⟨x11_3, x367000_3, x367001_3, x367002_3, x367003_3, x367004_3, x367005_3, u367000, u367001, u367002, u367003, u367004, u367005, rfl, HA, HK3, HO_367000, HO_367001, HO_367002, HO_367003, HO_367004, HO_367005, BK347, BK366, HB⟩ := hrel
       cases gk with
       | zero => exact absurd HA.out (by simp [spec_l7Run.l1])
       | succ k3 =>
        have H := HA.out
        clear HA
        simp only [spec_l7Run.l1] at H
        by_cases c29 : x11_3 < a0
        ·rw [if_pos c29] at H
         have c29b0 : decide (x11_3 < a0) = true := decide_eq_true c29
         clear c29
         by_cases c30 : 0 ≤ x11_3
         ·rw [if_pos c30] at H
          have c30b0 : decide (0 ≤ x11_3) = true := decide_eq_true c30
          clear c30
          by_cases c31 : x11_3 < (l2.length : Int)
          ·rw [if_pos c31] at H
           have c31b0 : decide (x11_3 < (l2.length : Int)) = true := decide_eq_true c31
           clear c31
           replace H := Option.bind_eq_some_iff.mp H
           obtain ⟨⟨t370, t371, t372, t373, t374, t375⟩, A320, H⟩ := H
           try dsimp only at H
           have A32 := Aside0.mk A320
           clear A320
           have H' := Aside0.mk H
           clear H
           try go_wp2
           have n0_ := Aside0.mk (Kd.R_drew HO_367000.out)
           have n1_ := Aside0.mk (Kd.R_drew HO_367001.out)
           have n2_ := Aside0.mk (Kd.R_drew HO_367002.out)
           have n3_ := Aside0.mk (Kd.R_drew HO_367003.out)
           have n4_ := Aside0.mk (Kd.R_drew HO_367004.out)
           have n5_ := Aside0.mk (Kd.R_drew HO_367005.out)
           have n6_ := Aside0.mk (blk_drew BK347.out)
           have n7_ := Aside0.mk (blk_drew BK366.out)
           have n8_ := Aside0.mk (below_drew1 HB.out)
           clear HO_367000 HO_367001 HO_367002 HO_367003 HO_367004 HO_367005 BK347 BK366 HB
           have HO_367000 := n0_
           have HO_367001 := n1_
           have HO_367002 := n2_
           have HO_367003 := n3_
           have HO_367004 := n4_
           have HO_367005 := n5_
           have BK347 := n6_
           have BK366 := n7_
           have HB := n8_
           clear n0_ n1_ n2_ n3_ n4_ n5_ n6_ n7_ n8_
           have p369 : 0 ≤ (x11_3 : Int) := of_decide_eq_true (by first | (with_reducible assumption) | assumption)
           have q369 : x11_3 < (l2.length : Int) := of_decide_eq_true (by first | (with_reducible assumption) | assumption)
           obtain ⟨ad369, e369, hx369_0⟩ := Kd.at_int HR2.out x11_3 p369 q369
           have hw369_0 := hx369_0
           cases e369
           (try replace hx369_0 := (HB.out.cell (World.block_lt_of_cell? w _ hx369_0)).trans hx369_0)
           replace p369 := eq_true p369
           replace q369 := eq_true q369
           obtain ⟨Ao34, co34, eo34⟩ := Kd.R_slice HO_367000.out
           (first | subst eo34 | (injection eo34 with f1_ f2_ f3_; have f4_ := f1_.symm; have f5_ := f3_.symm; clear f1_ f2_ f3_; subst f4_; subst f5_))
           obtain ⟨Ao35, co35, eo35⟩ := Kd.R_slice HO_367001.out
           (first | subst eo35 | (injection eo35 with f1_ f2_ f3_; have f4_ := f1_.symm; have f5_ := f3_.symm; clear f1_ f2_ f3_; subst f4_; subst f5_))
           obtain ⟨Ao36, co36, eo36⟩ := Kd.R_slice HO_367002.out
           (first | subst eo36 | (injection eo36 with f1_ f2_ f3_; have f4_ := f1_.symm; have f5_ := f3_.symm; clear f1_ f2_ f3_; subst f4_; subst f5_))
           obtain ⟨Ao37, co37, eo37⟩ := Kd.R_slice HO_367003.out
           (first | subst eo37 | (injection eo37 with f1_ f2_ f3_; have f4_ := f1_.symm; have f5_ := f3_.symm; clear f1_ f2_ f3_; subst f4_; subst f5_))
           obtain ⟨Ao38, co38, eo38⟩ := Kd.R_slice HO_367004.out
           (first | subst eo38 | (injection eo38 with f1_ f2_ f3_; have f4_ := f1_.symm; have f5_ := f3_.symm; clear f1_ f2_ f3_; subst f4_; subst f5_))
           obtain ⟨Ao39, co39, eo39⟩ := Kd.R_slice HO_367005.out
           (first | subst eo39 | (injection eo39 with f1_ f2_ f3_; have f4_ := f1_.symm; have f5_ := f3_.symm; clear f1_ f2_ f3_; subst f4_; subst f5_))
           refine start_ (n := 8) (S := fun w' => w'.cell? ⟨gb366, 0, none⟩ = some (.slice Ao34 x367000_3.length co34) ∧ w'.cell? ⟨gb366, 1, none⟩ = some (.slice Ao35 x367001_3.length co35) ∧ w'.cell? ⟨gb366, 2, none⟩ = some (.slice Ao36 x367002_3.length co36) ∧ w'.cell? ⟨gb366, 3, none⟩ = some (.slice Ao37 x367003_3.length co37) ∧ w'.cell? ⟨gb366, 4, none⟩ = some (.slice Ao38 x367004_3.length co38) ∧ w'.cell? ⟨gb366, 5, none⟩ = some (.slice Ao39 x367005_3.length co39) ∧ w'.cell? (ad369.add (x11_3).toNat) = some (.int .i64 (rd l2 x11_3))) (ds := []) #[false, false, false, false, false, false, false, false] (by kernel_rfl) rfl rfl ⟨(blk_cell BK366.out 0).trans rfl, (blk_cell BK366.out 1).trans rfl, (blk_cell BK366.out 2).trans rfl, (blk_cell BK366.out 3).trans rfl, (blk_cell BK366.out 4).trans rfl, (blk_cell BK366.out 5).trans rfl, ((HB.out.cell (World.block_lt_of_cell? w _ hw369_0)).trans hw369_0)⟩ (fun hHeld => ?_); refine with_tabW spec_l7Run.tab8 spec_l7Run.bits8 (fun HT_ HW_ => ?_)
           generalize wr.drew = w33 at HO_367000 HO_367001 HO_367002 HO_367003 HO_367004 HO_367005 BK347 BK366 HB hx369_0 hHeld ⊢
           refine pi_ (i := 1) (N := some 34) (v := ?_) (a' := ?_) (bm 8 2) rfl rfl HT_ (by kernel_rfl) (fun _ _ _ h => h) (Or.inl ⟨by rfl, ?_⟩) ?_ ?_
           rotate_left
           ·intro w'
            go_simp
            with_reducible rfl
           rotate_left
           ·simp only [Act.put, pp_]
            rfl
           refine pi_ (i := 2) (N := some 35) (v := ?_) (a' := ?_) (bm 8 6) rfl rfl HT_ (by kernel_rfl) (fun _ _ _ h => h) (Or.inl ⟨by rfl, ?_⟩) ?_ ?_
           rotate_left
           ·intro w'
            go_simp
            with_reducible rfl
           rotate_left
           ·simp only [Act.put, pp_]
            rfl
           refine pi_ (i := 3) (N := some 36) (v := ?_) (a' := ?_) (bm 8 14) rfl rfl HT_ (by kernel_rfl) (fun _ _ _ h => h) (Or.inl ⟨by rfl, ?_⟩) ?_ ?_
           rotate_left
           ·intro w'
            go_simp
            with_reducible rfl
           rotate_left
           ·simp only [Act.put, pp_]
            rfl
           refine pi_ (i := 5) (N := some 38) (v := ?_) (a' := ?_) (bm 8 46) rfl rfl HT_ (by kernel_rfl) (fun _ _ _ h => h) (Or.inl ⟨by rfl, ?_⟩) ?_ ?_
           rotate_left
           ·intro w'
            go_simp
            with_reducible rfl
           rotate_left
           ·simp only [Act.put, pp_]
            rfl
           refine pi_ (i := 6) (N := some 39) (v := ?_) (a' := ?_) (bm 8 110) rfl rfl HT_ (by kernel_rfl) (fun _ _ _ h => h) (Or.inl ⟨by rfl, ?_⟩) ?_ ?_
           rotate_left
           ·intro w'
            go_simp
            with_reducible rfl
           rotate_left
           ·simp only [Act.put, pp_]
            rfl
           refine take_ (i := 0) (N := some 33) (v := ?_) (a' := ?_) (bm 8 111) rfl rfl (take_ofW HT_.out HW_.out (by kernel_rfl)) (fun _ _ _ h => h) (Or.inl ⟨by rfl, ?_⟩) hHeld ?_ ?_
           rotate_left
           ·rintro w' ⟨s0, s1, s2, s3, s4, s5, s6⟩
            go_simp
            with_reducible rfl
           rotate_left
           ·simp only [Act.put, pp_]
            rfl
           refine take_ (i := 4) (N := some 37) (v := ?_) (a' := ?_) (bm 8 127) rfl rfl (take_ofW HT_.out HW_.out (by kernel_rfl)) (fun _ _ _ h => h) (Or.inl ⟨by rfl, ?_⟩) hHeld ?_ ?_
           rotate_left
           ·rintro w' ⟨s0, s1, s2, s3, s4, s5, s6⟩
            go_simp
            with_reducible rfl
           rotate_left
           ·simp only [Act.put, pp_]
            rfl
           refine one_ (i := 7) (N := some 40) (bm 8 255) rfl rfl (one_of HT_.out (by kernel_rfl)) (by decide) (fun K hK => ?_)
           refine goes_ Try.func47 (by kernel_rfl) rfl #[.agg #[.slice Ao34 x367000_3.length co34, .slice Ao35 x367001_3.length co35, .slice Ao36 x367002_3.length co36, .slice Ao37 x367003_3.length co37, .slice Ao38 x367004_3.length co38, .slice Ao39 x367005_3.length co39], .int .i64 (rd l2 x11_3), .int .i64 x10_1, .int .i64 a1] (by rfl) rfl rfl (by first | rfl | (simp only [List.map_toArray, List.map_cons, List.map_nil, List.length_drop, List.length_take]; first | done | rfl)) ?_
           with_reducible refine (spec_l7Act.calls (fun k_ => some k_ = (.slice Ao34 x367000_3.length co34 : Value).ownBlock) (.slice Ao34 x367000_3.length co34) x367000_3 (fun k_ => some k_ = (.slice Ao35 x367001_3.length co35 : Value).ownBlock) (.slice Ao35 x367001_3.length co35) x367001_3 (fun k_ => some k_ = (.slice Ao36 x367002_3.length co36 : Value).ownBlock) (.slice Ao36 x367002_3.length co36) x367002_3 (fun k_ => some k_ = (.slice Ao37 x367003_3.length co37 : Value).ownBlock) (.slice Ao37 x367003_3.length co37) x367003_3 (fun k_ => some k_ = (.slice Ao38 x367004_3.length co38 : Value).ownBlock) (.slice Ao38 x367004_3.length co38) x367004_3 (fun k_ => some k_ = (.slice Ao39 x367005_3.length co39 : Value).ownBlock) (.slice Ao39 x367005_3.length co39) x367005_3 (rd l2 x11_3) x10_1 a1 t370 t371 t372 t373 t374 t375 w _ ?side1 ?side2 ?side3 ?side4 ?side5 ?side6 ?side7 ?side8 ?side9 ?side10 ?side11 ?side12 ?side13 ?side14 ?side15 ?side16 ?side17 ?side18 ?side19 ?side20 ?side21 ?side22 ?side23 ?side24 ?side25 ?side26 ?side27 ?side28 ?side29 ?side30 ?side31 ?side32 ?side33 ?side34 ?side35 ?side36 ?side37 A32.out).mono ?_
           (case side1 => exact HB.out)
           (case side2 => exact Kd.R_tight rfl HO_367000.out)
           (case side3 => exact fun k_ e_ => (HO_367000.out.1 k_ e_.symm).1)
           (case side4 => exact fun k_ e_ => (HO_367000.out.1 k_ e_.symm).2.1)
           (case side5 => exact fun k_ e_ => (HO_367000.out.1 k_ e_.symm).2.2.1)
           (case side6 => exact fun k_ e_ => (HO_367000.out.1 k_ e_.symm).2.2.2.1)
           (case side7 => exact fun k_ e_ => (HO_367000.out.1 k_ e_.symm).2.2.2.2)
           (case side8 => exact Kd.R_tight rfl HO_367001.out)
           (case side9 => exact fun k_ e_ => (HO_367001.out.1 k_ e_.symm).1)
           (case side10 => exact fun k_ e_ => (HO_367001.out.1 k_ e_.symm).2.1)
           (case side11 => exact fun k_ e_ => (HO_367001.out.1 k_ e_.symm).2.2.1)
           (case side12 => exact fun k_ e_ => (HO_367001.out.1 k_ e_.symm).2.2.2.1)
           (case side13 => exact fun k_ e_ => (HO_367001.out.1 k_ e_.symm).2.2.2.2)
           (case side14 => exact Kd.R_tight rfl HO_367002.out)
           (case side15 => exact fun k_ e_ => (HO_367002.out.1 k_ e_.symm).1)
           (case side16 => exact fun k_ e_ => (HO_367002.out.1 k_ e_.symm).2.1)
           (case side17 => exact fun k_ e_ => (HO_367002.out.1 k_ e_.symm).2.2.1)
           (case side18 => exact fun k_ e_ => (HO_367002.out.1 k_ e_.symm).2.2.2.1)
           (case side19 => exact fun k_ e_ => (HO_367002.out.1 k_ e_.symm).2.2.2.2)
           (case side20 => exact Kd.R_tight rfl HO_367003.out)
           (case side21 => exact fun k_ e_ => (HO_367003.out.1 k_ e_.symm).1)
           (case side22 => exact fun k_ e_ => (HO_367003.out.1 k_ e_.symm).2.1)
           (case side23 => exact fun k_ e_ => (HO_367003.out.1 k_ e_.symm).2.2.1)
           (case side24 => exact fun k_ e_ => (HO_367003.out.1 k_ e_.symm).2.2.2.1)
           (case side25 => exact fun k_ e_ => (HO_367003.out.1 k_ e_.symm).2.2.2.2)
           (case side26 => exact Kd.R_tight rfl HO_367004.out)
           (case side27 => exact fun k_ e_ => (HO_367004.out.1 k_ e_.symm).1)
           (case side28 => exact fun k_ e_ => (HO_367004.out.1 k_ e_.symm).2.1)
           (case side29 => exact fun k_ e_ => (HO_367004.out.1 k_ e_.symm).2.2.1)
           (case side30 => exact fun k_ e_ => (HO_367004.out.1 k_ e_.symm).2.2.2.1)
           (case side31 => exact fun k_ e_ => (HO_367004.out.1 k_ e_.symm).2.2.2.2)
           (case side32 => exact Kd.R_tight rfl HO_367005.out)
           (case side33 => exact fun k_ e_ => (HO_367005.out.1 k_ e_.symm).1)
           (case side34 => exact fun k_ e_ => (HO_367005.out.1 k_ e_.symm).2.1)
           (case side35 => exact fun k_ e_ => (HO_367005.out.1 k_ e_.symm).2.2.1)
           (case side36 => exact fun k_ e_ => (HO_367005.out.1 k_ e_.symm).2.2.2.1)
           (case side37 => exact fun k_ e_ => (HO_367005.out.1 k_ e_.symm).2.2.2.2)
           rintro e w40 ⟨rfl, hy0, hy1, hy2, hy3, hy4, hy5, hb, hkp⟩
           refine ⟨_, rfl, ?_⟩
           have n0_ := Aside0.mk (Kd.R_reok rfl hy0 (fun k_ e_ => HO_367000.out.1 k_ e_))
           have n1_ := Aside0.mk (Kd.R_reok rfl hy1 (fun k_ e_ => HO_367001.out.1 k_ e_))
           have n2_ := Aside0.mk (Kd.R_reok rfl hy2 (fun k_ e_ => HO_367002.out.1 k_ e_))
           have n3_ := Aside0.mk (Kd.R_reok rfl hy3 (fun k_ e_ => HO_367003.out.1 k_ e_))
           have n4_ := Aside0.mk (Kd.R_reok rfl hy4 (fun k_ e_ => HO_367004.out.1 k_ e_))
           have n5_ := Aside0.mk (Kd.R_reok rfl hy5 (fun k_ e_ => HO_367005.out.1 k_ e_))
           have n6_ := Aside0.mk (blk_kept BK347.out hkp (fun hs_ => Or.elim hs_ (fun e_ => (fun e_ => (Kd.R_ne HO_367000.out BK347.out (by decide)) e_) e_) (fun e_ => Or.elim e_ (fun e_ => (fun e_ => (Kd.R_ne HO_367001.out BK347.out (by decide)) e_) e_) (fun e_ => Or.elim e_ (fun e_ => (fun e_ => (Kd.R_ne HO_367002.out BK347.out (by decide)) e_) e_) (fun e_ => Or.elim e_ (fun e_ => (fun e_ => (Kd.R_ne HO_367003.out BK347.out (by decide)) e_) e_) (fun e_ => Or.elim e_ (fun e_ => (fun e_ => (Kd.R_ne HO_367004.out BK347.out (by decide)) e_) e_) (fun e_ => (fun e_ => (Kd.R_ne HO_367005.out BK347.out (by decide)) e_) e_)))))))
           have n7_ := Aside0.mk (blk_kept BK366.out hkp (fun hs_ => Or.elim hs_ (fun e_ => (fun e_ => (Kd.R_ne HO_367000.out BK366.out (by decide)) e_) e_) (fun e_ => Or.elim e_ (fun e_ => (fun e_ => (Kd.R_ne HO_367001.out BK366.out (by decide)) e_) e_) (fun e_ => Or.elim e_ (fun e_ => (fun e_ => (Kd.R_ne HO_367002.out BK366.out (by decide)) e_) e_) (fun e_ => Or.elim e_ (fun e_ => (fun e_ => (Kd.R_ne HO_367003.out BK366.out (by decide)) e_) e_) (fun e_ => Or.elim e_ (fun e_ => (fun e_ => (Kd.R_ne HO_367004.out BK366.out (by decide)) e_) e_) (fun e_ => (fun e_ => (Kd.R_ne HO_367005.out BK366.out (by decide)) e_) e_)))))))
           have n8_ := Aside0.mk (hb)
           clear HO_367000 HO_367001 HO_367002 HO_367003 HO_367004 HO_367005 BK347 BK366 HB
           have HO_367000 := n0_
           have HO_367001 := n1_
           have HO_367002 := n2_
           have HO_367003 := n3_
           have HO_367004 := n4_
           have HO_367005 := n5_
           have BK347 := n6_
           have BK366 := n7_
           have HB := n8_
           clear n0_ n1_ n2_ n3_ n4_ n5_ n6_ n7_ n8_
           (try clear hb)
           (try clear hkp)
           (try clear hy0)
           (try clear hy1)
           (try clear hy2)
           (try clear hy3)
           (try clear hy4)
           (try clear hy5)
           refine hK.out _ _ ⟨(blk_cell BK366.out 0).trans rfl, (blk_cell BK366.out 1).trans rfl, (blk_cell BK366.out 2).trans rfl, (blk_cell BK366.out 3).trans rfl, (blk_cell BK366.out 4).trans rfl, (blk_cell BK366.out 5).trans rfl, ((HB.out.cell (World.block_lt_of_cell? w _ hw369_0)).trans hw369_0)⟩ (fun hHeld => ?_)
           clear hK K
           refine norm_ (a' := ?_) ?_ ?_
           rotate_left
           ·show Act.put _ (some 40) _ = _
            simp only [Act.put, pp_]
            rfl
           refine done_ (done_of HT_.out (by kernel_rfl)) ?_
           try go_wp2
           go_roundg k3
           case measure => have := HK1.out; have := HJ16.out; have := HK3.out; omega
           case rel => exact ⟨(wrap64 (x11_3 + 1)), (t370), (t371), (t372), (t373), (t374), (t375), (.slice Ao34 x367000_3.length co34), (.slice Ao35 x367001_3.length co35), (.slice Ao36 x367002_3.length co36), (.slice Ao37 x367003_3.length co37), (.slice Ao38 x367004_3.length co38), (.slice Ao39 x367005_3.length co39), (by first | rfl | (simp; done) | (simp [*]; done)), H', ⟨by have := HK1.out; have := HJ16.out; have := HK3.out; omega⟩, ⟨by (with_reducible repeat (first | apply Kd.R_alloc | apply Kd.R_drewN | apply Kd.R_drew)); exact HO_367000.out⟩, ⟨by (with_reducible repeat (first | apply Kd.R_alloc | apply Kd.R_drewN | apply Kd.R_drew)); exact HO_367001.out⟩, ⟨by (with_reducible repeat (first | apply Kd.R_alloc | apply Kd.R_drewN | apply Kd.R_drew)); exact HO_367002.out⟩, ⟨by (with_reducible repeat (first | apply Kd.R_alloc | apply Kd.R_drewN | apply Kd.R_drew)); exact HO_367003.out⟩, ⟨by (with_reducible repeat (first | apply Kd.R_alloc | apply Kd.R_drewN | apply Kd.R_drew)); exact HO_367004.out⟩, ⟨by (with_reducible repeat (first | apply Kd.R_alloc | apply Kd.R_drewN | apply Kd.R_drew)); exact HO_367005.out⟩, ⟨BK347.out⟩, ⟨BK366.out⟩, ⟨HB.out⟩⟩
          ·rw [if_neg c31] at H
           exact absurd H (by simp)
         ·rw [if_neg c30] at H
          exact absurd H (by simp)
        ·rw [if_neg c29] at H
         have c29b0 : decide (x11_3 < a0) = false := decide_eq_false c29
         clear c29
         have H' := Aside0.mk H
         clear H
         go_wp2
         go_roundg k3
         case measure => have := HK1.out; have := HJ16.out; have := HK3.out; omega
         case rel => exact ⟨(wrap64 (x10_1 + 1)), (x367000_3), (x367001_3), (x367002_3), (x367003_3), (x367004_3), (x367005_3), (u367000), (u367001), (u367002), (u367003), (u367004), (u367005), (by first | rfl | (simp; done) | (simp [*]; done)), H', ⟨by have := HK1.out; have := HJ16.out; have := HK3.out; omega⟩, ⟨by (with_reducible repeat (first | apply Kd.R_alloc | apply Kd.R_drewN | apply Kd.R_drew)); exact HO_367000.out⟩, ⟨by (with_reducible repeat (first | apply Kd.R_alloc | apply Kd.R_drewN | apply Kd.R_drew)); exact HO_367001.out⟩, ⟨by (with_reducible repeat (first | apply Kd.R_alloc | apply Kd.R_drewN | apply Kd.R_drew)); exact HO_367002.out⟩, ⟨by (with_reducible repeat (first | apply Kd.R_alloc | apply Kd.R_drewN | apply Kd.R_drew)); exact HO_367003.out⟩, ⟨by (with_reducible repeat (first | apply Kd.R_alloc | apply Kd.R_drewN | apply Kd.R_drew)); exact HO_367004.out⟩, ⟨by (with_reducible repeat (first | apply Kd.R_alloc | apply Kd.R_drewN | apply Kd.R_drew)); exact HO_367005.out⟩, ⟨by first | (with_reducible exact BK347.out) | ((with_reducible repeat (first | refine blk_drewN ?_ _ | refine blk_drew ?_ | refine blk_alloc ?_ _)); exact BK347.out)⟩, ⟨by first | (with_reducible exact BK366.out) | ((with_reducible repeat (first | refine blk_drewN ?_ _ | refine blk_drew ?_ | refine blk_alloc ?_ _)); exact BK366.out)⟩, ⟨by repeat (first | (with_reducible first | exact HB.out | apply below_alloc | apply pw_below_drewN | apply below_drew1 | refine below_set ?_ GE347.out | refine below_set ?_ GE366.out) | exact HB.out)⟩⟩
     ·replace c28 := Bool.eq_false_iff.mpr c28
      subst c28
      rw [if_neg (show ¬ (false = true) by decide)] at H
      simp only [Option.some.injEq, Prod.mk.injEq] at H
      obtain ⟨rfl, rfl, rfl, rfl, rfl, rfl⟩ := H
      have hnb41 := NB366_347.out
      have hnc41 := NB347_366.out
      have hcz42_0 : wc.cell? ⟨gb366, 0, none⟩ = some (u367000) := (blk_cell BK366.out 0).trans rfl
      have hcz42_1 : wc.cell? ⟨gb366, 1, none⟩ = some (u367001) := (blk_cell BK366.out 1).trans rfl
      have hcz42_2 : wc.cell? ⟨gb366, 2, none⟩ = some (u367002) := (blk_cell BK366.out 2).trans rfl
      have hcz42_3 : wc.cell? ⟨gb366, 3, none⟩ = some (u367003) := (blk_cell BK366.out 3).trans rfl
      have hcz42_4 : wc.cell? ⟨gb366, 4, none⟩ = some (u367004) := (blk_cell BK366.out 4).trans rfl
      have hcz42_5 : wc.cell? ⟨gb366, 5, none⟩ = some (u367005) := (blk_cell BK366.out 5).trans rfl
      have hfz42_0 := blk_frozen BK366.out 0
      have hfz42_1 := blk_frozen BK366.out 1
      have hfz42_2 := blk_frozen BK366.out 2
      have hfz42_3 := blk_frozen BK366.out 3
      have hfz42_4 := blk_frozen BK366.out 4
      have hfz42_5 := blk_frozen BK366.out 5
      obtain ⟨Ao43, co43, eo43⟩ := Kd.R_slice HO_367000.out
      subst eo43
      have hcz44_0 : wc.cell? ⟨gb347, 0, none⟩ = some (.slice none 0 0) := (blk_cell BK347.out 0).trans rfl
      have hcz44_1 : wc.cell? ⟨gb347, 1, none⟩ = some (.slice none 0 0) := (blk_cell BK347.out 1).trans rfl
      have hcz44_2 : wc.cell? ⟨gb347, 2, none⟩ = some (.slice none 0 0) := (blk_cell BK347.out 2).trans rfl
      have hcz44_3 : wc.cell? ⟨gb347, 3, none⟩ = some (.slice none 0 0) := (blk_cell BK347.out 3).trans rfl
      have hcz44_4 : wc.cell? ⟨gb347, 4, none⟩ = some (.slice none 0 0) := (blk_cell BK347.out 4).trans rfl
      have hcz44_5 : wc.cell? ⟨gb347, 5, none⟩ = some (.slice none 0 0) := (blk_cell BK347.out 5).trans rfl
      have hfz44_0 := blk_frozen BK347.out 0
      have hfz44_1 := blk_frozen BK347.out 1
      have hfz44_2 := blk_frozen BK347.out 2
      have hfz44_3 := blk_frozen BK347.out 3
      have hfz44_4 := blk_frozen BK347.out 4
      have hfz44_5 := blk_frozen BK347.out 5
      obtain ⟨Ao45, co45, eo45⟩ := Kd.R_slice HO_367001.out
      subst eo45
      obtain ⟨Ao46, co46, eo46⟩ := Kd.R_slice HO_367002.out
      subst eo46
      obtain ⟨Ao47, co47, eo47⟩ := Kd.R_slice HO_367003.out
      subst eo47
      obtain ⟨Ao48, co48, eo48⟩ := Kd.R_slice HO_367004.out
      subst eo48
      obtain ⟨Ao49, co49, eo49⟩ := Kd.R_slice HO_367005.out
      subst eo49
      go_wp2
      refine bodyPost_ret (results_cell_row rfl _ _ gb347 52 #[.slice Ao43 x367000_1.length co43, .slice Ao45 x367001_1.length co45, .slice Ao46 x367002_1.length co46, .slice Ao47 x367003_1.length co47, .slice Ao48 x367004_1.length co48, .slice Ao49 x367005_1.length co49] (0, 0) _ rfl (by (with_reducible repeat (first | refine blk_drewN ?_ _ | refine blk_drew ?_ | refine blk_alloc ?_ _)); refine blk_put (cs := #[.slice Ao43 x367000_1.length co43, .slice Ao45 x367001_1.length co45, .slice Ao46 x367002_1.length co46, .slice Ao47 x367003_1.length co47, .slice Ao48 x367004_1.length co48, .slice none 0 0]) ?_ 5 _ rfl; (with_reducible repeat (first | refine blk_drewN ?_ _ | refine blk_drew ?_ | refine blk_alloc ?_ _)); refine blk_put (cs := #[.slice Ao43 x367000_1.length co43, .slice Ao45 x367001_1.length co45, .slice Ao46 x367002_1.length co46, .slice Ao47 x367003_1.length co47, .slice none 0 0, .slice none 0 0]) ?_ 4 _ rfl; (with_reducible repeat (first | refine blk_drewN ?_ _ | refine blk_drew ?_ | refine blk_alloc ?_ _)); refine blk_put (cs := #[.slice Ao43 x367000_1.length co43, .slice Ao45 x367001_1.length co45, .slice Ao46 x367002_1.length co46, .slice none 0 0, .slice none 0 0, .slice none 0 0]) ?_ 3 _ rfl; (with_reducible repeat (first | refine blk_drewN ?_ _ | refine blk_drew ?_ | refine blk_alloc ?_ _)); refine blk_put (cs := #[.slice Ao43 x367000_1.length co43, .slice Ao45 x367001_1.length co45, .slice none 0 0, .slice none 0 0, .slice none 0 0, .slice none 0 0]) ?_ 2 _ rfl; (with_reducible repeat (first | refine blk_drewN ?_ _ | refine blk_drew ?_ | refine blk_alloc ?_ _)); refine blk_put (cs := #[.slice Ao43 x367000_1.length co43, .slice none 0 0, .slice none 0 0, .slice none 0 0, .slice none 0 0, .slice none 0 0]) ?_ 1 _ rfl; (with_reducible repeat (first | refine blk_drewN ?_ _ | refine blk_drew ?_ | refine blk_alloc ?_ _)); refine blk_put (cs := #[.slice none 0 0, .slice none 0 0, .slice none 0 0, .slice none 0 0, .slice none 0 0, .slice none 0 0]) ?_ 0 _ rfl; (with_reducible repeat (first | refine blk_drewN ?_ _ | refine blk_drew ?_ | refine blk_alloc ?_ _)); exact BK347.out) Try.underlying52 rfl (by kernel_rfl)) rfl ?_
      exact ⟨_, _, _, _, _, _, by first | rfl | (simp [errW_none, errW_some] <;> rfl) | (simp [*, errW_none, errW_some] <;> rfl), by (with_reducible repeat (first | apply Kd.R_alloc | apply Kd.R_drewN | apply Kd.R_drew)); exact Kd.R_mono (Kd.R_far (p := ⟨gb347, 5, none⟩) (Kd.R_far (p := ⟨gb347, 4, none⟩) (Kd.R_far (p := ⟨gb347, 3, none⟩) (Kd.R_far (p := ⟨gb347, 2, none⟩) (Kd.R_far (p := ⟨gb347, 1, none⟩) (Kd.R_far (p := ⟨gb347, 0, none⟩) (Kd.R_types HO_367000.out BK347.out (by decide)) (fun _ hk => hk.2) (.slice Ao43 x367000_1.length co43)) (fun _ hk => hk.2) (.slice Ao45 x367001_1.length co45)) (fun _ hk => hk.2) (.slice Ao46 x367002_1.length co46)) (fun _ hk => hk.2) (.slice Ao47 x367003_1.length co47)) (fun _ hk => hk.2) (.slice Ao48 x367004_1.length co48)) (fun _ hk => hk.2) (.slice Ao49 x367005_1.length co49)) (fun _ hk => ⟨hk.1.1, ⟨hk.1.2.1, ⟨hk.1.2.2.1, ⟨hk.1.2.2.2.1, hk.1.2.2.2.2⟩⟩⟩⟩), by (with_reducible repeat (first | apply Kd.R_alloc | apply Kd.R_drewN | apply Kd.R_drew)); exact Kd.R_mono (Kd.R_far (p := ⟨gb347, 5, none⟩) (Kd.R_far (p := ⟨gb347, 4, none⟩) (Kd.R_far (p := ⟨gb347, 3, none⟩) (Kd.R_far (p := ⟨gb347, 2, none⟩) (Kd.R_far (p := ⟨gb347, 1, none⟩) (Kd.R_far (p := ⟨gb347, 0, none⟩) (Kd.R_types HO_367001.out BK347.out (by decide)) (fun _ hk => hk.2) (.slice Ao43 x367000_1.length co43)) (fun _ hk => hk.2) (.slice Ao45 x367001_1.length co45)) (fun _ hk => hk.2) (.slice Ao46 x367002_1.length co46)) (fun _ hk => hk.2) (.slice Ao47 x367003_1.length co47)) (fun _ hk => hk.2) (.slice Ao48 x367004_1.length co48)) (fun _ hk => hk.2) (.slice Ao49 x367005_1.length co49)) (fun _ hk => ⟨hk.1.1, ⟨hk.1.2.1, ⟨hk.1.2.2.1, ⟨hk.1.2.2.2.1, hk.1.2.2.2.2⟩⟩⟩⟩), by (with_reducible repeat (first | apply Kd.R_alloc | apply Kd.R_drewN | apply Kd.R_drew)); exact Kd.R_mono (Kd.R_far (p := ⟨gb347, 5, none⟩) (Kd.R_far (p := ⟨gb347, 4, none⟩) (Kd.R_far (p := ⟨gb347, 3, none⟩) (Kd.R_far (p := ⟨gb347, 2, none⟩) (Kd.R_far (p := ⟨gb347, 1, none⟩) (Kd.R_far (p := ⟨gb347, 0, none⟩) (Kd.R_types HO_367002.out BK347.out (by decide)) (fun _ hk => hk.2) (.slice Ao43 x367000_1.length co43)) (fun _ hk => hk.2) (.slice Ao45 x367001_1.length co45)) (fun _ hk => hk.2) (.slice Ao46 x367002_1.length co46)) (fun _ hk => hk.2) (.slice Ao47 x367003_1.length co47)) (fun _ hk => hk.2) (.slice Ao48 x367004_1.length co48)) (fun _ hk => hk.2) (.slice Ao49 x367005_1.length co49)) (fun _ hk => ⟨hk.1.1, ⟨hk.1.2.1, ⟨hk.1.2.2.1, ⟨hk.1.2.2.2.1, hk.1.2.2.2.2⟩⟩⟩⟩), by (with_reducible repeat (first | apply Kd.R_alloc | apply Kd.R_drewN | apply Kd.R_drew)); exact Kd.R_mono (Kd.R_far (p := ⟨gb347, 5, none⟩) (Kd.R_far (p := ⟨gb347, 4, none⟩) (Kd.R_far (p := ⟨gb347, 3, none⟩) (Kd.R_far (p := ⟨gb347, 2, none⟩) (Kd.R_far (p := ⟨gb347, 1, none⟩) (Kd.R_far (p := ⟨gb347, 0, none⟩) (Kd.R_types HO_367003.out BK347.out (by decide)) (fun _ hk => hk.2) (.slice Ao43 x367000_1.length co43)) (fun _ hk => hk.2) (.slice Ao45 x367001_1.length co45)) (fun _ hk => hk.2) (.slice Ao46 x367002_1.length co46)) (fun _ hk => hk.2) (.slice Ao47 x367003_1.length co47)) (fun _ hk => hk.2) (.slice Ao48 x367004_1.length co48)) (fun _ hk => hk.2) (.slice Ao49 x367005_1.length co49)) (fun _ hk => ⟨hk.1.1, ⟨hk.1.2.1, ⟨hk.1.2.2.1, ⟨hk.1.2.2.2.1, hk.1.2.2.2.2⟩⟩⟩⟩), by (with_reducible repeat (first | apply Kd.R_alloc | apply Kd.R_drewN | apply Kd.R_drew)); exact Kd.R_mono (Kd.R_far (p := ⟨gb347, 5, none⟩) (Kd.R_far (p := ⟨gb347, 4, none⟩) (Kd.R_far (p := ⟨gb347, 3, none⟩) (Kd.R_far (p := ⟨gb347, 2, none⟩) (Kd.R_far (p := ⟨gb347, 1, none⟩) (Kd.R_far (p := ⟨gb347, 0, none⟩) (Kd.R_types HO_367004.out BK347.out (by decide)) (fun _ hk => hk.2) (.slice Ao43 x367000_1.length co43)) (fun _ hk => hk.2) (.slice Ao45 x367001_1.length co45)) (fun _ hk => hk.2) (.slice Ao46 x367002_1.length co46)) (fun _ hk => hk.2) (.slice Ao47 x367003_1.length co47)) (fun _ hk => hk.2) (.slice Ao48 x367004_1.length co48)) (fun _ hk => hk.2) (.slice Ao49 x367005_1.length co49)) (fun _ hk => ⟨hk.1.1, ⟨hk.1.2.1, ⟨hk.1.2.2.1, ⟨hk.1.2.2.2.1, hk.1.2.2.2.2⟩⟩⟩⟩), by (with_reducible repeat (first | apply Kd.R_alloc | apply Kd.R_drewN | apply Kd.R_drew)); exact Kd.R_mono (Kd.R_far (p := ⟨gb347, 5, none⟩) (Kd.R_far (p := ⟨gb347, 4, none⟩) (Kd.R_far (p := ⟨gb347, 3, none⟩) (Kd.R_far (p := ⟨gb347, 2, none⟩) (Kd.R_far (p := ⟨gb347, 1, none⟩) (Kd.R_far (p := ⟨gb347, 0, none⟩) (Kd.R_types HO_367005.out BK347.out (by decide)) (fun _ hk => hk.2) (.slice Ao43 x367000_1.length co43)) (fun _ hk => hk.2) (.slice Ao45 x367001_1.length co45)) (fun _ hk => hk.2) (.slice Ao46 x367002_1.length co46)) (fun _ hk => hk.2) (.slice Ao47 x367003_1.length co47)) (fun _ hk => hk.2) (.slice Ao48 x367004_1.length co48)) (fun _ hk => hk.2) (.slice Ao49 x367005_1.length co49)) (fun _ hk => ⟨hk.1.1, ⟨hk.1.2.1, ⟨hk.1.2.2.1, ⟨hk.1.2.2.2.1, hk.1.2.2.2.2⟩⟩⟩⟩), by repeat (first | (with_reducible first | exact HB.out | apply below_alloc | apply pw_below_drewN | apply below_drew1 | refine below_set ?_ GE347.out | refine below_set ?_ GE366.out) | exact HB.out)⟩

/-! ### spec_AisleAt: function 7 -/
def spec_AisleAt.f (k : Nat) (a0 : Int) (a1 : Int) (l2 : List Int) (a3 : Int) : Option (List Int × Bool) := (spec_l7Ask.f k a0 a1 l2).bind fun t376 => (if t376 = true then (if a3 < 0 then (some ((([] : List Int)), false)) else ((spec_l7Run.f k a0 a1 l2 a3).bind fun bt380 => (some (bt380.1, true)))) else (some ((([] : List Int)), false)))
set_option maxHeartbeats 8000000 in
set_option maxRecDepth 100000 in
theorem spec_AisleAt.calls (k : Nat) (a0 : Int) (a1 : Int) (A2 : Option Addr) (c2 : Nat) (l2 : List Int) (a3 : Int) (r1 : List Int) (r2 : Bool) (w : World) (hr2 : Kd.C (Kd.int .i64) w A2 l2.length l2) (hc2 : l2.length ≤ c2) (h : spec_AisleAt.f k a0 a1 l2 a3 = some (r1, r2)) :
  Calls Try.prog 7 #[.int .i64 a0, .int .i64 a1, .slice A2 l2.length c2, .int .i64 a3] w fun e w' => ∃ v0_ : Value, e = .returned (.tuple #[v0_, .bool r2]) ∧ Kd.R (Kd.int .i64) 3 w' w.heap.size (fun _ => True) v0_ r1 ∧ Below w.heap.size w w' := by
 have hfd52_0 : ∀ (x0_ x1_ x2_ x3_ x4_ x5_ : Value) (W : World), (Instr.field 52 (.agg #[x0_, x1_, x2_, x3_, x4_, x5_]) 0).run Try.prog W = .ok x0_ W := fun x0_ x1_ x2_ x3_ x4_ x5_ W => by rfl
 have HR2 := Aside0.mk hr2
 have HC2 := Aside0.mk hc2
 clear hr2 hc2
 have HB := Aside0.mk (Below.refl w.heap.size w)
 have H : ((spec_l7Ask.f k a0 a1 l2).bind fun t376 => (if t376 = true then (if a3 < 0 then (some ((([] : List Int)), false)) else ((spec_l7Run.f k a0 a1 l2 a3).bind fun bt380 => (some (bt380.1, true)))) else (some ((([] : List Int)), false)))) = some (r1, r2) := h
 clear h
 replace H := Option.bind_eq_some_iff.mp H
 obtain ⟨t376, A50, H⟩ := H
 try dsimp only at H
 have A5 := Aside0.mk A50
 clear A50
 by_cases c6 : t376 = true
 ·subst c6
  rw [if_pos rfl] at H
  by_cases c7 : a3 < 0
  ·rw [if_pos c7] at H
   have c7b0 : decide (a3 < 0) = true := decide_eq_true c7
   clear c7
   obtain ⟨y377, hy377⟩ : ∃ y_ : List Int, y_ = (([] : List Int)) := ⟨_, rfl⟩
   replace H : (some (y377, false)) = some (r1, r2) := by first | (rw [hy377]; with_reducible exact H) | (have H2_ := (Option.bind_some _ _).symm.trans H; rw [hy377]; with_reducible exact H2_) | (have H2_ := (Option.bind_some _ _).symm.trans H; with_reducible exact H2_) | with_reducible exact H | (rw [hy377]; exact H) | exact H
   have Ny377 := Aside0.mk hy377
   clear hy377
   simp only [Option.some.injEq, Prod.mk.injEq] at H
   obtain ⟨rfl, rfl⟩ := H
   go_enter Try.func7, Try.ntmps7
   go_wp2_with (first | ((with_reducible refine gate_callee (f := 29) rfl ?_); refine goesL_ (some 13) rfl rfl Try.func29 (by kernel_rfl) rfl #[.int .i64 a0, .int .i64 a1, .slice A2 l2.length c2] rfl (by first | rfl | (simp only [List.map_toArray, List.map_cons, List.map_nil, List.length_drop, List.length_take]; first | done | rfl)) ?_; (with_reducible refine (spec_l7Ask.calls k a0 a1 _ _ l2 true _ ?side1 ?side2 A5.out).mono ?_); (case side1 => exact HR2.out); (case side2 => exact HC2.out); rintro e w' ⟨rfl, ⟨nd, rfl⟩⟩; refine ⟨_, rfl, ?_⟩) | ((with_reducible refine gate_dst (N := 19) rfl ?_); refine Kd.R_lit (Kd.int .i64) _ 3 ?hg (N := 19) ?hd (xs := ([] : List Int)) (inner := []) (ok := fun _ => True) (okp := fun _ => True) ?hr ?hp (fun _ hk => hk) trivial (Below.refl _ _) (Nat.le_refl _) (by simp) ?_; (case hd => rfl); (case hg => rfl); (case hr => first | (go_simp; done) | (go_simp; rfl)); (case hp => exact (Reps.none _ _)); intro v378 w8 ho9 hb hg_ hnew_; clear hg_ hnew_; (first | rw [← Ny377.out] at ho9 | (simp only [Int.reduceToNat] at ho9; rw [← Ny377.out] at ho9)); have HO379 := Aside0.mk (Kd.R_lower ho9 (below_size (by repeat (first | (with_reducible first | exact HB.out | apply below_alloc | apply pw_below_drewN | apply below_drew1) | exact HB.out)))); replace HB := Aside0.mk (below_step (by repeat (first | (with_reducible first | exact HB.out | apply below_alloc | apply pw_below_drewN | apply below_drew1) | exact HB.out)) hb); clear hb ho9))
   go_ret2
   exact ⟨_, by first | rfl | (simp [errW_none, errW_some] <;> rfl) | (simp [*, errW_none, errW_some] <;> rfl), by (with_reducible repeat (first | apply Kd.R_alloc | apply Kd.R_drewN | apply Kd.R_drew)); exact HO379.out, by repeat (first | (with_reducible first | exact HB.out | apply below_alloc | apply pw_below_drewN | apply below_drew1) | exact HB.out)⟩
  ·rw [if_neg c7] at H
   have c7b0 : decide (a3 < 0) = false := decide_eq_false c7
   clear c7
   replace H := Option.bind_eq_some_iff.mp H
   obtain ⟨⟨t380, t383, t386, t389, t392, t395⟩, A100, H⟩ := H
   try dsimp only at H
   have A10 := Aside0.mk A100
   clear A100
   simp only [Option.some.injEq, Prod.mk.injEq] at H
   obtain ⟨rfl, rfl⟩ := H
   go_enter Try.func7, Try.ntmps7
   go_wp2_with (first | ((with_reducible refine gate_callee (f := 29) rfl ?_); refine goesL_ (some 13) rfl rfl Try.func29 (by kernel_rfl) rfl #[.int .i64 a0, .int .i64 a1, .slice A2 l2.length c2] rfl (by first | rfl | (simp only [List.map_toArray, List.map_cons, List.map_nil, List.length_drop, List.length_take]; first | done | rfl)) ?_; (with_reducible refine (spec_l7Ask.calls k a0 a1 _ _ l2 true _ ?side1 ?side2 A5.out).mono ?_); (case side1 => exact HR2.out); (case side2 => exact HC2.out); rintro e w' ⟨rfl, ⟨nd, rfl⟩⟩; refine ⟨_, rfl, ?_⟩) | ((with_reducible refine gate_callee (f := 30) rfl ?_); refine goesL_ (some 24) rfl rfl Try.func30 (by kernel_rfl) rfl #[.int .i64 a0, .int .i64 a1, .slice A2 l2.length c2, .int .i64 a3] rfl (by first | rfl | (simp only [List.map_toArray, List.map_cons, List.map_nil, List.length_drop, List.length_take]; first | done | rfl)) ?_; (with_reducible refine (spec_l7Run.calls k a0 a1 _ _ l2 a3 t380 t383 t386 t389 t392 t395 _ ?side1 ?side2 A10.out).mono ?_); (case side1 => exact HR2.out); (case side2 => exact HC2.out); rintro e w11 ⟨v381, v384, v387, v390, v393, v396, rfl, ho0, ho1, ho2, ho3, ho4, ho5, hb⟩; refine ⟨_, rfl, ?_⟩; have HO382 := Aside0.mk (Kd.R_lower ho0 (below_size (by repeat (first | (with_reducible first | exact HB.out | apply below_alloc | apply pw_below_drewN | apply below_drew1) | exact HB.out)))); have HO385 := Aside0.mk (Kd.R_lower ho1 (below_size (by repeat (first | (with_reducible first | exact HB.out | apply below_alloc | apply pw_below_drewN | apply below_drew1) | exact HB.out)))); have HO388 := Aside0.mk (Kd.R_lower ho2 (below_size (by repeat (first | (with_reducible first | exact HB.out | apply below_alloc | apply pw_below_drewN | apply below_drew1) | exact HB.out)))); have HO391 := Aside0.mk (Kd.R_lower ho3 (below_size (by repeat (first | (with_reducible first | exact HB.out | apply below_alloc | apply pw_below_drewN | apply below_drew1) | exact HB.out)))); have HO394 := Aside0.mk (Kd.R_lower ho4 (below_size (by repeat (first | (with_reducible first | exact HB.out | apply below_alloc | apply pw_below_drewN | apply below_drew1) | exact HB.out)))); have HO397 := Aside0.mk (Kd.R_lower ho5 (below_size (by repeat (first | (with_reducible first | exact HB.out | apply below_alloc | apply pw_below_drewN | apply below_drew1) | exact HB.out)))); replace HB := Aside0.mk (below_step (by repeat (first | (with_reducible first | exact HB.out | apply below_alloc | apply pw_below_drewN | apply below_drew1) | exact HB.out)) hb); (try clear hb); (try clear hb2); (try clear hk); (try clear hi); (try clear ho0); (try clear ho1); (try clear ho2); (try clear ho3); (try clear ho4); (try clear ho5)))
   go_ret2
   exact ⟨_, by first | rfl | (simp [errW_none, errW_some] <;> rfl) | (simp [*, errW_none, errW_some] <;> rfl), Kd.R_mono HO382.out (fun _ hk => trivial), HB.out⟩
 ·replace c6 := Bool.eq_false_iff.mpr c6
  subst c6
  rw [if_neg (show ¬ (false = true) by decide)] at H
  obtain ⟨y398, hy398⟩ : ∃ y_ : List Int, y_ = (([] : List Int)) := ⟨_, rfl⟩
  replace H : (some (y398, false)) = some (r1, r2) := by first | (rw [hy398]; with_reducible exact H) | (have H2_ := (Option.bind_some _ _).symm.trans H; rw [hy398]; with_reducible exact H2_) | (have H2_ := (Option.bind_some _ _).symm.trans H; with_reducible exact H2_) | with_reducible exact H | (rw [hy398]; exact H) | exact H
  have Ny398 := Aside0.mk hy398
  clear hy398
  simp only [Option.some.injEq, Prod.mk.injEq] at H
  obtain ⟨rfl, rfl⟩ := H
  go_enter Try.func7, Try.ntmps7
  go_wp2_with (first | ((with_reducible refine gate_callee (f := 29) rfl ?_); refine goesL_ (some 13) rfl rfl Try.func29 (by kernel_rfl) rfl #[.int .i64 a0, .int .i64 a1, .slice A2 l2.length c2] rfl (by first | rfl | (simp only [List.map_toArray, List.map_cons, List.map_nil, List.length_drop, List.length_take]; first | done | rfl)) ?_; (with_reducible refine (spec_l7Ask.calls k a0 a1 _ _ l2 false _ ?side1 ?side2 A5.out).mono ?_); (case side1 => exact HR2.out); (case side2 => exact HC2.out); rintro e w' ⟨rfl, ⟨nd, rfl⟩⟩; refine ⟨_, rfl, ?_⟩) | ((with_reducible refine gate_dst (N := 19) rfl ?_); refine Kd.R_lit (Kd.int .i64) _ 3 ?hg (N := 19) ?hd (xs := ([] : List Int)) (inner := []) (ok := fun _ => True) (okp := fun _ => True) ?hr ?hp (fun _ hk => hk) trivial (Below.refl _ _) (Nat.le_refl _) (by simp) ?_; (case hd => rfl); (case hg => rfl); (case hr => first | (go_simp; done) | (go_simp; rfl)); (case hp => exact (Reps.none _ _)); intro v399 w12 ho13 hb hg_ hnew_; clear hg_ hnew_; (first | rw [← Ny398.out] at ho13 | (simp only [Int.reduceToNat] at ho13; rw [← Ny398.out] at ho13)); have HO400 := Aside0.mk (Kd.R_lower ho13 (below_size (by repeat (first | (with_reducible first | exact HB.out | apply below_alloc | apply pw_below_drewN | apply below_drew1) | exact HB.out)))); replace HB := Aside0.mk (below_step (by repeat (first | (with_reducible first | exact HB.out | apply below_alloc | apply pw_below_drewN | apply below_drew1) | exact HB.out)) hb); clear hb ho13))
  go_ret2
  exact ⟨_, by first | rfl | (simp [errW_none, errW_some] <;> rfl) | (simp [*, errW_none, errW_some] <;> rfl), by (with_reducible repeat (first | apply Kd.R_alloc | apply Kd.R_drewN | apply Kd.R_drew)); exact HO400.out, by repeat (first | (with_reducible first | exact HB.out | apply below_alloc | apply pw_below_drewN | apply below_drew1) | exact HB.out)⟩

/-! ### impl_BoardTime: function 8 -/
def impl_BoardTime.f (k : Nat) (a0 : Int) (a1 : Int) (l2 : List Int) : Option (Int × Bool) := (impl_isBoarding.f k a0 a1 l2).bind fun t401 => (if t401 = true then ((impl_board.f k a0 a1 l2).bind fun bt402 => ((impl_boarding_time.f bt402.1 bt402.2.1 bt402.2.2.1 bt402.2.2.2).bind fun t414 => (some (t414, true)))) else (some (0, false)))
set_option maxHeartbeats 8000000 in
set_option maxRecDepth 100000 in
theorem impl_BoardTime.calls (k : Nat) (a0 : Int) (a1 : Int) (A2 : Option Addr) (c2 : Nat) (l2 : List Int) (r1 : Int) (r2 : Bool) (w : World) (hr2 : Kd.C (Kd.int .i64) w A2 l2.length l2) (hc2 : l2.length ≤ c2) (h : impl_BoardTime.f k a0 a1 l2 = some (r1, r2)) :
  Calls Try.prog 8 #[.int .i64 a0, .int .i64 a1, .slice A2 l2.length c2] w fun e w' => e = .returned (.tuple #[.int .i64 r1, .bool r2]) ∧ Below w.heap.size w w' := by
 have HR2 := Aside0.mk hr2
 have HC2 := Aside0.mk hc2
 clear hr2 hc2
 have HB := Aside0.mk (Below.refl w.heap.size w)
 have H : ((impl_isBoarding.f k a0 a1 l2).bind fun t401 => (if t401 = true then ((impl_board.f k a0 a1 l2).bind fun bt402 => ((impl_boarding_time.f bt402.1 bt402.2.1 bt402.2.2.1 bt402.2.2.2).bind fun t414 => (some (t414, true)))) else (some (0, false)))) = some (r1, r2) := h
 clear h
 replace H := Option.bind_eq_some_iff.mp H
 obtain ⟨t401, A40, H⟩ := H
 try dsimp only at H
 have A4 := Aside0.mk A40
 clear A40
 by_cases c5 : t401 = true
 ·subst c5
  rw [if_pos rfl] at H
  replace H := Option.bind_eq_some_iff.mp H
  obtain ⟨⟨t402, t405, t408, t411⟩, A60, H⟩ := H
  try dsimp only at H
  have A6 := Aside0.mk A60
  clear A60
  replace H := Option.bind_eq_some_iff.mp H
  obtain ⟨t414, A70, H⟩ := H
  try dsimp only at H
  have A7 := Aside0.mk A70
  clear A70
  simp only [Option.some.injEq, Prod.mk.injEq] at H
  obtain ⟨rfl, rfl⟩ := H
  go_enter Try.func8, Try.ntmps8
  go_wp2_with (first | ((with_reducible refine gate_callee (f := 26) rfl ?_); refine goesL_ (some 11) rfl rfl Try.func26 (by kernel_rfl) rfl #[.int .i64 a0, .int .i64 a1, .slice A2 l2.length c2] rfl (by first | rfl | (simp only [List.map_toArray, List.map_cons, List.map_nil, List.length_drop, List.length_take]; first | done | rfl)) ?_; (with_reducible refine (impl_isBoarding.calls k a0 a1 _ _ l2 true _ ?side1 ?side2 A4.out).mono ?_); (case side1 => exact HR2.out); (case side2 => exact HC2.out); rintro e w' ⟨rfl, ⟨nd, rfl⟩⟩; refine ⟨_, rfl, ?_⟩) | ((with_reducible refine gate_callee (f := 27) rfl ?_); refine goesL_ (some 16) rfl rfl Try.func27 (by kernel_rfl) rfl #[.int .i64 a0, .int .i64 a1, .slice A2 l2.length c2] rfl (by first | rfl | (simp only [List.map_toArray, List.map_cons, List.map_nil, List.length_drop, List.length_take]; first | done | rfl)) ?_; (with_reducible refine (impl_board.calls k a0 a1 _ _ l2 t402 t405 t408 t411 _ ?side1 ?side2 A6.out).mono ?_); (case side1 => exact HR2.out); (case side2 => exact HC2.out); rintro e w8 ⟨v403, v406, v409, v412, rfl, ho0, ho1, ho2, ho3, hb⟩; refine ⟨_, rfl, ?_⟩; have HO404 := Aside0.mk (Kd.R_lower ho0 (below_size (by repeat (first | (with_reducible first | exact HB.out | apply below_alloc | apply pw_below_drewN | apply below_drew1) | exact HB.out)))); have HO407 := Aside0.mk (Kd.R_lower ho1 (below_size (by repeat (first | (with_reducible first | exact HB.out | apply below_alloc | apply pw_below_drewN | apply below_drew1) | exact HB.out)))); have HO410 := Aside0.mk (Kd.R_lower ho2 (below_size (by repeat (first | (with_reducible first | exact HB.out | apply below_alloc | apply pw_below_drewN | apply below_drew1) | exact HB.out)))); have HO413 := Aside0.mk (Kd.S_lower ho3 (below_size (by repeat (first | (with_reducible first | exact HB.out | apply below_alloc | apply pw_below_drewN | apply below_drew1) | exact HB.out)))); replace HB := Aside0.mk (below_step (by repeat (first | (with_reducible first | exact HB.out | apply below_alloc | apply pw_below_drewN | apply below_drew1) | exact HB.out)) hb); (try clear hb); (try clear hb2); (try clear hk); (try clear hi); (try clear ho0); (try clear ho1); (try clear ho2); (try clear ho3); obtain ⟨Ao9, co9, eo9⟩ := Kd.R_slice HO404.out; subst eo9; obtain ⟨Ao10, co10, eo10⟩ := Kd.R_slice HO407.out; subst eo10; obtain ⟨Ao11, co11, eo11⟩ := Kd.R_slice HO410.out; subst eo11; obtain ⟨Ao12, co12, eo12⟩ := Kd.S_slice HO413.out; subst eo12) | ((with_reducible refine gate_callee (f := 28) rfl ?_); refine goesL_ (some 17) rfl rfl Try.func28 (by kernel_rfl) rfl #[.agg #[.slice Ao9 t402.length co9, .slice Ao10 t405.length co10, .slice Ao11 t408.length co11, .slice Ao12 t411.length co12]] rfl (by first | rfl | (simp only [List.map_toArray, List.map_cons, List.map_nil, List.length_drop, List.length_take]; first | done | rfl)) ?_; (with_reducible refine (impl_boarding_time.calls _ _ t402 _ _ t405 _ _ t408 _ _ t411 t414 _ ?side1 ?side2 ?side3 ?side4 ?side5 ?side6 ?side7 ?side8 A7.out).mono ?_); (case side1 => repeat (first | exact (Kd.R_reads' HO404.out).2.2 | (with_reducible refine Kd.C_alloc ?_ _) | (with_reducible refine Kd.C_drewN ?_ _) | (with_reducible refine Kd.C_drew ?_))); (case side2 => exact (Kd.R_reads' HO404.out).2.1); (case side3 => repeat (first | exact (Kd.R_reads' HO407.out).2.2 | (with_reducible refine Kd.C_alloc ?_ _) | (with_reducible refine Kd.C_drewN ?_ _) | (with_reducible refine Kd.C_drew ?_))); (case side4 => exact (Kd.R_reads' HO407.out).2.1); (case side5 => repeat (first | exact (Kd.R_reads' HO410.out).2.2 | (with_reducible refine Kd.C_alloc ?_ _) | (with_reducible refine Kd.C_drewN ?_ _) | (with_reducible refine Kd.C_drew ?_))); (case side6 => exact (Kd.R_reads' HO410.out).2.1); (case side7 => repeat (first | exact (Kd.S_reads' HO413.out).2.2 | (with_reducible refine Kd.C_alloc ?_ _) | (with_reducible refine Kd.C_drewN ?_ _) | (with_reducible refine Kd.C_drew ?_))); (case side8 => exact (Kd.S_reads' HO413.out).2.1); rintro e w13 ⟨rfl, hb⟩; refine ⟨_, rfl, ?_⟩; replace HO404 := Aside0.mk (Kd.R_below (by (with_reducible repeat (first | apply Kd.R_alloc | apply Kd.R_drewN | apply Kd.R_drew)); exact HO404.out) hb); replace HO407 := Aside0.mk (Kd.R_below (by (with_reducible repeat (first | apply Kd.R_alloc | apply Kd.R_drewN | apply Kd.R_drew)); exact HO407.out) hb); replace HO410 := Aside0.mk (Kd.R_below (by (with_reducible repeat (first | apply Kd.R_alloc | apply Kd.R_drewN | apply Kd.R_drew)); exact HO410.out) hb); replace HO413 := Aside0.mk (Kd.S_below (by (with_reducible repeat (first | apply Kd.S_alloc | apply Kd.S_drewN | apply Kd.S_drew)); exact HO413.out) hb); replace HB := Aside0.mk (below_step (by repeat (first | (with_reducible first | exact HB.out | apply below_alloc | apply pw_below_drewN | apply below_drew1) | exact HB.out)) hb); (try clear hb); (try clear hb2); (try clear hk); (try clear hi)))
  go_ret2
  exact ⟨by first | rfl | (simp [errW_none, errW_some] <;> rfl) | (simp [*, errW_none, errW_some] <;> rfl), by repeat (first | (with_reducible first | exact HB.out | apply below_alloc | apply pw_below_drewN | apply below_drew1) | exact HB.out)⟩
 ·replace c5 := Bool.eq_false_iff.mpr c5
  subst c5
  rw [if_neg (show ¬ (false = true) by decide)] at H
  simp only [Option.some.injEq, Prod.mk.injEq] at H
  obtain ⟨rfl, rfl⟩ := H
  go_enter Try.func8, Try.ntmps8
  go_wp2_with (first | ((with_reducible refine gate_callee (f := 26) rfl ?_); refine goesL_ (some 11) rfl rfl Try.func26 (by kernel_rfl) rfl #[.int .i64 a0, .int .i64 a1, .slice A2 l2.length c2] rfl (by first | rfl | (simp only [List.map_toArray, List.map_cons, List.map_nil, List.length_drop, List.length_take]; first | done | rfl)) ?_; (with_reducible refine (impl_isBoarding.calls k a0 a1 _ _ l2 false _ ?side1 ?side2 A4.out).mono ?_); (case side1 => exact HR2.out); (case side2 => exact HC2.out); rintro e w' ⟨rfl, ⟨nd, rfl⟩⟩; refine ⟨_, rfl, ?_⟩))
  go_ret2
  exact ⟨by first | rfl | (simp [errW_none, errW_some] <;> rfl) | (simp [*, errW_none, errW_some] <;> rfl), by repeat (first | (with_reducible first | exact HB.out | apply below_alloc | apply pw_below_drewN | apply below_drew1) | exact HB.out)⟩

/-! ### spec_l1Most: function 37 -/
def spec_l1Most.f (a0 : Int) (a1 : Int) : Option (Int) := if a0 > a1 then (some a0) else (some a1)
set_option maxHeartbeats 8000000 in
set_option maxRecDepth 100000 in
theorem spec_l1Most.calls (a0 : Int) (a1 : Int) (r : Int) (w : World) (h : spec_l1Most.f a0 a1 = some r) :
  Calls Try.prog 37 #[.int .i64 a0, .int .i64 a1] w fun e w' => e = .returned (.int .i64 r) ∧ Drawn0 w w' := by
 have H : (if a0 > a1 then (some a0) else (some a1)) = some r := h
 clear h
 by_cases c3 : a0 > a1
 ·rw [if_pos c3] at H
  have c3b0 : decide (a1 < a0) = true := decide_eq_true c3
  clear c3
  obtain rfl := Option.some.inj H
  go_enter Try.func37, Try.ntmps37
  go_wp2
  go_ret
  exact ⟨by first | rfl | (simp; done) | (simp [*]; done), by repeat (first | exact Drawn0.refl _ | apply Drawn0.step)⟩
 ·rw [if_neg c3] at H
  have c3b0 : decide (a1 < a0) = false := decide_eq_false c3
  clear c3
  obtain rfl := Option.some.inj H
  go_enter Try.func37, Try.ntmps37
  go_wp2
  go_ret
  exact ⟨by first | rfl | (simp; done) | (simp [*]; done), by repeat (first | exact Drawn0.refl _ | apply Drawn0.step)⟩

end Go.Proofs.Ytmlkajaaokhdaaa.PFnBoarding
