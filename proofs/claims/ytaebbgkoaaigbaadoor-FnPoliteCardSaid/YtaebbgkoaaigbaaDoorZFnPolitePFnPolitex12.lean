/- Proved: each Go function named here, called, comes to the answer of the Lean function beside it. Conditions: those that stand in each theorem. (Printed by this session's own turned copy of a printing program.) -/
import Derived.Test.YtaebbgkoaaigbaaDoorZFnPolitePFnPolitex0
import Derived.Test.YtaebbgkoaaigbaaDoorZFnPolitePFnPolitex7
import Derived.Test.YtaebbgkoaaigbaaDoorZFnPolitePFnPolitex8
import Derived.Test.YtaebbgkoaaigbaaDoorZFnPolitePFnPolitex10
namespace Go.Proofs.YtaebbgkoaaigbaaDoor.PFnPolite
open Go.RowKit Go.Proofs.YtaebbgkoaaigbaaDoorW.PrintWords Go.Proofs.YtaebbgkoaaigbaaDoorW.PrintLast Go.Proofs.YtaebbgkoaaigbaaDoorW.PrintMore
attribute [local go_sem] max2_int min2_int max_two min_two max_three min_three max_four min_four   -- for this text's walks alone
set_option linter.unusedVariables false
set_option linter.unusedSimpArgs false

/-! ### spec_l3Settle: function 60 -/
def spec_l3Settle.l0 : Nat → Int → Int → Bool → List Int → Option (Int × Bool × List Int × Int)
 | 0, _, _, _, _ => none
 | k + 1, x4, x561000, x561001, x561002 => (spec_l3Polite.f k x561000 x561001 x561002).bind fun t562 => (if (t562.length : Int) = 0 then (some (x561000, x561001, x561002, x4)) else (if 0 < (t562.length : Int) then ((spec_l3Far.f k x561000 x561001 x561002 (rd t562 0)).bind fun t566 => (if t566 < 2 then (some (x561000, x561001, x561002, x4)) else ((spec_l2With.f k x561000 x561001 x561002 (rd t562 0)).bind fun bt568 => (spec_l3Settle.l0 k (wrap64 (x4 + 1)) bt568.1 bt568.2.1 bt568.2.2)))) else (none)))
def spec_l3Settle.f (k : Nat) (a0_0 : Int) (a0_1 : Bool) (l0_2 : List Int) : Option (Int × Bool × List Int × Int) := spec_l3Settle.l0 k 0 a0_0 a0_1 l0_2
def spec_l3Settle.T3 : Bool × List (List Nat × List Nat) := (true, [([], []), ([0], [0]), ([1], [1]), ([2], [2]), ([3], [3]), ([3], [3]), ([5, 3], [3, 5]), ([6, 3], [3, 6]), ([4, 7, 3, 3], [3, 4, 7]), ([8, 3], [3, 8]), ([3, 9], [3, 9])])
def spec_l3Settle.B3 : List Nat := [0, 1, 3, 7, 15, 15, 47, 111, 255, 511, 1023]
theorem spec_l3Settle.tab3 : rtab .any (opsOf Tryd.f60 3) = spec_l3Settle.T3 := by kernel_rfl
theorem spec_l3Settle.bits3 : waitsOk spec_l3Settle.T3.2 spec_l3Settle.B3 = true := by kernel_rfl
set_option maxHeartbeats 8000000 in
set_option maxRecDepth 100000 in
theorem spec_l3Settle.calls (k : Nat) (a0_0 : Int) (a0_1 : Bool) (P0_2_ : Nat → Prop) (A0_2 : Option Addr) (c0_2 : Nat) (l0_2 : List Int) (r1 : Int) (r2 : Bool) (r3 : List Int) (r4 : Int) (w : World) (hs0_2 : Kd.V (Kd.int .i64) 3 w w.heap.size (fun k_ => P0_2_ k_) (.slice A0_2 l0_2.length c0_2) l0_2) (h : spec_l3Settle.f k a0_0 a0_1 l0_2 = some (r1, r2, r3, r4)) :
  Calls Tryd.prog 60 #[.agg #[.int .i64 a0_0, .bool a0_1, .slice A0_2 l0_2.length c0_2]] w fun e w' => ∃ v2_ : Value, e = .returned (.tuple #[.agg #[.int .i64 r1, .bool r2, v2_], .int .i64 r4]) ∧ Kd.V (Kd.int .i64) 3 w' w.heap.size (fun k_ => (P0_2_ k_ ∨ w.heap.size ≤ k_)) v2_ r3 ∧ Below w.heap.size w w' := by
 have hu26 := Tryd.underlying26
 have HO0_2 := Aside0.mk (show Kd.V (Kd.int .i64) 3 w w.heap.size (fun k_ => (P0_2_ k_ ∨ w.heap.size ≤ k_)) (.slice A0_2 l0_2.length c0_2) l0_2 from Kd.V_mono hs0_2 (fun k_ hk => .inl hk))
 have HB := Aside0.mk (Below.refl w.heap.size w)
 have H : (spec_l3Settle.l0 k 0 a0_0 a0_1 l0_2) = some (r1, r2, r3, r4) := h
 clear h
 have H' := Aside0.mk H
 clear H
 go_enter Tryd.func60, Tryd.ntmps60
 go_wp2_with (first | ((with_reducible refine gate_dst (N := 1) rfl ?_); refine box_event ?hg (N := 1) ?hd (cs := #[.int .i64 a0_0, .bool a0_1, .slice A0_2 l0_2.length c0_2]) (t := 26) ?hr ?_; (case hd => rfl); (case hg => rfl); (case hr => first | (go_simp; done) | (go_simp; rfl)); intro gb560 hg w2 hbox hb; have n0_ := Aside0.mk (Kd.V_below (Kd.V_elderB HO0_2.out gb560 (Nat.le_of_eq hg.symm)) hb); have n1_ := Aside0.mk (below_step HB.out hb); have n2_ := Aside0.mk (hbox); have n3_ := Aside0.mk ((by rw [hg]; exact (below_size HB.out) : w.heap.size ≤ gb560)); have n4_ := Aside0.mk ((by rw [hg]; exact (below_size HB.out) : w.heap.size ≤ gb560)); clear HO0_2 HB; have HO0_2 := n0_; have HB := n1_; have BK560 := n2_; have GW560 := n3_; have GE560 := n4_; clear n0_ n1_ n2_ n3_ n4_ hb hbox hg) | ((with_reducible refine gate_dst (N := 2) rfl ?_); refine box_event ?hg (N := 2) ?hd (cs := #[.int .i64 0, .bool false, .slice none 0 0]) (t := 26) ?hr ?_; (case hd => rfl); (case hg => rfl); (case hr => first | (go_simp; done) | (go_simp; rfl)); intro gb561 hg w3 hbox hb; have n0_ := Aside0.mk (Kd.V_below (Kd.V_elderB HO0_2.out gb561 (Nat.le_of_eq hg.symm)) hb); have n1_ := Aside0.mk (blk_below BK560.out hb); have n2_ := Aside0.mk (below_step HB.out hb); have n3_ := Aside0.mk (hbox); have n4_ := Aside0.mk ((by rw [hg]; exact (below_size HB.out) : w.heap.size ≤ gb561)); have n5_ := Aside0.mk ((by rw [hg]; exact (below_size HB.out) : w.heap.size ≤ gb561)); have n6_ := Aside0.mk ((by rw [hg]; exact Nat.ne_of_lt (blk_lt BK560.out) : gb560 ≠ gb561)); have n7_ := Aside0.mk ((by rw [hg]; exact Nat.ne_of_gt (blk_lt BK560.out) : gb561 ≠ gb560)); clear HO0_2 BK560 HB; have HO0_2 := n0_; have BK560 := n1_; have HB := n2_; have BK561 := n3_; have GW561 := n4_; have GE561 := n5_; have NB560_561 := n6_; have NB561_560 := n7_; clear n0_ n1_ n2_ n3_ n4_ n5_ n6_ n7_ hb hbox hg))
 go_loopg [4] k (fun kq v4 w' => ∃ (x4_1 : Int) (x561000_1 : Int) (x561001_1 : Bool) (x561002_1 : List Int) (x562000_1 : Int) (x562001_1 : Bool) (u561002 : Value), v4 = .int .i64 x4_1 ∧ Aside0 (spec_l3Settle.l0 kq x4_1 x561000_1 x561001_1 x561002_1 = some (r1, r2, r3, r4)) ∧ Aside0 (kq ≤ k) ∧ Aside0 (Kd.V (Kd.int .i64) 3 w' w.heap.size (fun k_ => (P0_2_ k_ ∨ w.heap.size ≤ k_) ∧ k_ ≠ gb560 ∧ k_ ≠ gb561) u561002 x561002_1) ∧ Aside0 (w'.heap[gb560]? = some (.cells #[.int .i64 x561000_1, .bool x561001_1, u561002] 26 (0, 0))) ∧ Aside0 (w'.heap[gb561]? = some (.cells #[.int .i64 x562000_1, .bool x562001_1, (.slice none 0 0)] 26 (0, 0))) ∧ Aside0 (Below w.heap.size w w'))
 case atStart => exact ⟨(0), (a0_0), (a0_1), (l0_2), (0), (false), (.slice A0_2 l0_2.length c0_2), (by first | rfl | (simp; done) | (simp [*]; done)), H', ⟨Nat.le_refl _⟩, ⟨by (with_reducible repeat (first | apply Kd.V_alloc | apply Kd.V_drewN | apply Kd.V_drew)); exact Kd.V_mono HO0_2.out (fun _ hk => ⟨hk.1.1, ⟨hk.1.2, hk.2⟩⟩)⟩, ⟨BK560.out⟩, ⟨BK561.out⟩, ⟨HB.out⟩⟩
 case round =>
  clear H'
  try clear p2
  obtain ⟨x4_1, x561000_1, x561001_1, x561002_1, x562000_1, x562001_1, u561002, rfl, HA, HK1, HO_561002, BK560, BK561, HB⟩ := hrel
  cases gk with
  | zero => exact absurd HA.out (by simp [spec_l3Settle.l0])
  | succ k1 =>
   have H := HA.out
   clear HA
   simp only [spec_l3Settle.l0] at H
   replace H := Option.bind_eq_some_iff.mp H
   obtain ⟨t562, A40, H⟩ := H
   try dsimp only at H
   have A4 := Aside0.mk A40
   clear A40
   by_cases c5 : (t562.length : Int) = 0
   ·rw [if_pos c5] at H
    have c5b0 : ((t562.length : Int) == 0) = true := beq_iff_eq.mpr c5
    have c5b1 : ((t562.length : Int) != 0) = false := bne_eq_false_iff_eq.mpr c5
    clear c5
    simp only [Option.some.injEq, Prod.mk.injEq] at H
    obtain ⟨rfl, rfl, rfl, rfl⟩ := H
    have hnb6 := NB560_561.out
    have hnc6 := NB561_560.out
    have hcz7_0 : wr.cell? ⟨gb560, 0, none⟩ = some (.int .i64 x561000_1) := (blk_cell BK560.out 0).trans rfl
    have hcz7_1 : wr.cell? ⟨gb560, 1, none⟩ = some (.bool x561001_1) := (blk_cell BK560.out 1).trans rfl
    have hcz7_2 : wr.cell? ⟨gb560, 2, none⟩ = some (u561002) := (blk_cell BK560.out 2).trans rfl
    have hfz7_0 := blk_frozen BK560.out 0
    have hfz7_1 := blk_frozen BK560.out 1
    have hfz7_2 := blk_frozen BK560.out 2
    obtain ⟨Ao8, co8, eo8⟩ := Kd.V_slice HO_561002.out
    subst eo8
    try go_wp2_with (first | ((with_reducible refine gate_callee (f := 57) rfl ?_); refine goesL_ (some 7) rfl rfl Tryd.func57 (by kernel_rfl) rfl #[.agg #[.int .i64 x561000_1, .bool x561001_1, .slice Ao8 x561002_1.length co8]] rfl (by first | rfl | (simp only [List.map_toArray, List.map_cons, List.map_nil, List.length_drop, List.length_take]; first | done | rfl)) ?_; (with_reducible refine (spec_l3Polite.calls k1 x561000_1 x561001_1 _ _ x561002_1 t562 _ ?side1 ?side2 A4.out).mono ?_); (case side1 => repeat (first | exact (Kd.V_reads' HO_561002.out).2.2 | (with_reducible refine Kd.C_alloc ?_ _) | (with_reducible refine Kd.C_drewN ?_ _) | (with_reducible refine Kd.C_drew ?_))); (case side2 => exact (Kd.V_reads' HO_561002.out).2.1); rintro e w9 ⟨v563, rfl, ho0, hb⟩; refine ⟨_, rfl, ?_⟩; replace HO_561002 := Aside0.mk (Kd.V_elder' (by (with_reducible repeat (first | apply Kd.V_alloc | apply Kd.V_drewN | apply Kd.V_drew)); exact HO_561002.out) (Kd.R_base ho0) hb); have HO564 := Aside0.mk (Kd.R_lower (Kd.R_newM (M := fun k_ => (w.heap.size ≤ k_)) ho0 (below_size (by repeat (first | (with_reducible first | exact HB.out | apply below_alloc | apply pw_below_drewN | apply below_drew1 | refine below_set ?_ GE560.out | refine below_set ?_ GE561.out) | exact HB.out))) (fun k_ h_ => h_)) (below_size (by repeat (first | (with_reducible first | exact HB.out | apply below_alloc | apply pw_below_drewN | apply below_drew1 | refine below_set ?_ GE560.out | refine below_set ?_ GE561.out) | exact HB.out)))); replace BK560 := Aside0.mk (blk_below (by first | (with_reducible exact BK560.out) | ((with_reducible repeat (first | refine blk_drewN ?_ _ | refine blk_drew ?_ | refine blk_alloc ?_ _)); exact BK560.out)) hb); replace BK561 := Aside0.mk (blk_below (by first | (with_reducible exact BK561.out) | ((with_reducible repeat (first | refine blk_drewN ?_ _ | refine blk_drew ?_ | refine blk_alloc ?_ _)); exact BK561.out)) hb); replace HB := Aside0.mk (below_step (by repeat (first | (with_reducible first | exact HB.out | apply below_alloc | apply pw_below_drewN | apply below_drew1 | refine below_set ?_ GE560.out | refine below_set ?_ GE561.out) | exact HB.out)) hb); (try clear hb); (try clear hb2); (try clear hk); (try clear hi); (try clear ho0)))
    have n0_ := Aside0.mk (Kd.V_drew HO_561002.out)
    have n1_ := Aside0.mk (Kd.R_drew HO564.out)
    have n2_ := Aside0.mk (blk_drew BK560.out)
    have n3_ := Aside0.mk (blk_drew BK561.out)
    have n4_ := Aside0.mk (below_drew1 HB.out)
    clear HO_561002 HO564 BK560 BK561 HB
    have HO_561002 := n0_
    have HO564 := n1_
    have BK560 := n2_
    have BK561 := n3_
    have HB := n4_
    clear n0_ n1_ n2_ n3_ n4_
    obtain ⟨Ao11, co11, eo11⟩ := Kd.R_slice HO564.out
    (first | subst eo11 | (injection eo11 with f1_ f2_ f3_; have f4_ := f1_.symm; have f5_ := f3_.symm; clear f1_ f2_ f3_; subst f4_; subst f5_))
    refine start_ (n := 11) (S := fun w' => True) (ds := []) #[false, false, false, false, false, false, false, false, false, false, false] (by kernel_rfl) rfl rfl trivial (fun hHeld => ?_); refine with_tabW spec_l3Settle.tab3 spec_l3Settle.bits3 (fun HT_ HW_ => ?_)
    generalize w9.drew = w10 at HO_561002 HO564 BK560 BK561 HB hHeld ⊢
    refine pure_ (i := 0) (N := some 8) (v := ?_) (a' := ?_) #[true, false, false, false, false, false, false, false, false, false, false] rfl rfl (any_of HT_.out (by kernel_rfl)) (fun _ _ _ h => h) (Or.inl ⟨by rfl, ?_⟩) ?_ ?_
    rotate_left
    ·intro w'
     go_simp
     with_reducible rfl
    rotate_left
    ·simp only [Act.put, List.setIfInBounds_toArray, List.set_cons_zero, List.set_cons_succ, i64_w, i32_w]
     rfl
    refine pure_ (i := 1) (N := some 9) (v := ?_) (a' := ?_) #[true, true, false, false, false, false, false, false, false, false, false] rfl rfl (any_of HT_.out (by kernel_rfl)) (fun _ _ _ h => h) (Or.inl ⟨by rfl, ?_⟩) ?_ ?_
    rotate_left
    ·intro w'
     go_simp
     with_reducible rfl
    rotate_left
    ·simp only [Act.put, List.setIfInBounds_toArray, List.set_cons_zero, List.set_cons_succ, i64_w, i32_w]
     rfl
    refine pure_ (i := 2) (N := some 10) (v := ?_) (a' := ?_) #[true, true, true, false, false, false, false, false, false, false, false] rfl rfl (any_of HT_.out (by kernel_rfl)) (fun _ _ _ h => h) (Or.inl ⟨by rfl, ?_⟩) ?_ ?_
    rotate_left
    ·intro w'
     go_simp
     with_reducible rfl
    rotate_left
    ·simp only [Act.put, List.setIfInBounds_toArray, List.set_cons_zero, List.set_cons_succ, i64_w, i32_w]
     rfl
    refine pure_ (i := 3) (N := some 11) (v := ?_) (a' := ?_) #[true, true, true, true, false, false, false, false, false, false, false] rfl rfl (any_of HT_.out (by kernel_rfl)) (fun _ _ _ h => h) (Or.inl ⟨by rfl, ?_⟩) ?_ ?_
    rotate_left
    ·intro w'
     go_simp
     with_reducible rfl
    rotate_left
    ·simp only [Act.put, List.setIfInBounds_toArray, List.set_cons_zero, List.set_cons_succ, i64_w, i32_w]
     rfl
    refine pure_ (i := 4) (N := some 12) (v := undef) (a' := ?_) #[true, true, true, true, true, false, false, false, false, false, false] rfl rfl (any_of HT_.out (by kernel_rfl)) (fun _ _ _ h => h) (Or.inr ⟨by rfl, rfl⟩) ?_ ?_
    rotate_left
    ·simp only [Act.put, List.setIfInBounds_toArray, List.set_cons_zero, List.set_cons_succ, i64_w, i32_w]
     rfl
    refine pure_ (i := 5) (N := some 13) (v := undef) (a' := ?_) #[true, true, true, true, true, true, false, false, false, false, false] rfl rfl (any_of HT_.out (by kernel_rfl)) (fun _ _ _ h => h) (Or.inr ⟨by rfl, rfl⟩) ?_ ?_
    rotate_left
    ·simp only [Act.put, List.setIfInBounds_toArray, List.set_cons_zero, List.set_cons_succ, i64_w, i32_w]
     rfl
    refine pure_ (i := 6) (N := some 14) (v := undef) (a' := ?_) #[true, true, true, true, true, true, true, false, false, false, false] rfl rfl (any_of HT_.out (by kernel_rfl)) (fun _ _ _ h => h) (Or.inr ⟨by rfl, rfl⟩) ?_ ?_
    rotate_left
    ·simp only [Act.put, List.setIfInBounds_toArray, List.set_cons_zero, List.set_cons_succ, i64_w, i32_w]
     rfl
    refine pure_ (i := 7) (N := some 15) (v := undef) (a' := ?_) #[true, true, true, true, true, true, true, true, false, false, false] rfl rfl (any_of HT_.out (by kernel_rfl)) (fun _ _ _ h => h) (Or.inr ⟨by rfl, rfl⟩) ?_ ?_
    rotate_left
    ·simp only [Act.put, List.setIfInBounds_toArray, List.set_cons_zero, List.set_cons_succ, i64_w, i32_w]
     rfl
    refine pure_ (i := 8) (N := some 16) (v := undef) (a' := ?_) #[true, true, true, true, true, true, true, true, true, false, false] rfl rfl (any_of HT_.out (by kernel_rfl)) (fun _ _ _ h => h) (Or.inr ⟨by rfl, rfl⟩) ?_ ?_
    rotate_left
    ·simp only [Act.put, List.setIfInBounds_toArray, List.set_cons_zero, List.set_cons_succ, i64_w, i32_w]
     rfl
    refine pure_ (i := 9) (N := some 17) (v := undef) (a' := ?_) #[true, true, true, true, true, true, true, true, true, true, false] rfl rfl (any_of HT_.out (by kernel_rfl)) (fun _ _ _ h => h) (Or.inr ⟨by rfl, rfl⟩) ?_ ?_
    rotate_left
    ·simp only [Act.put, List.setIfInBounds_toArray, List.set_cons_zero, List.set_cons_succ, i64_w, i32_w]
     rfl
    refine pure_ (i := 10) (N := some 18) (v := ?_) (a' := ?_) #[true, true, true, true, true, true, true, true, true, true, true] rfl rfl (any_of HT_.out (by kernel_rfl)) (fun _ _ _ h => h) (Or.inl ⟨by rfl, ?_⟩) ?_ ?_
    rotate_left
    ·intro w'
     go_simp
     with_reducible rfl
    rotate_left
    ·simp only [Act.put, List.setIfInBounds_toArray, List.set_cons_zero, List.set_cons_succ, i64_w, i32_w]
     rfl
    refine done_ (done_of HT_.out (by kernel_rfl)) ?_
    have hcz12_0 : w10.cell? ⟨gb560, 0, none⟩ = some (.int .i64 x561000_1) := (blk_cell BK560.out 0).trans rfl
    have hcz12_1 : w10.cell? ⟨gb560, 1, none⟩ = some (.bool x561001_1) := (blk_cell BK560.out 1).trans rfl
    have hcz12_2 : w10.cell? ⟨gb560, 2, none⟩ = some (.slice Ao8 x561002_1.length co8) := (blk_cell BK560.out 2).trans rfl
    have hfz12_0 := blk_frozen BK560.out 0
    have hfz12_1 := blk_frozen BK560.out 1
    have hfz12_2 := blk_frozen BK560.out 2
    have hcz13_0 : w10.cell? ⟨gb561, 0, none⟩ = some (.int .i64 x562000_1) := (blk_cell BK561.out 0).trans rfl
    have hcz13_1 : w10.cell? ⟨gb561, 1, none⟩ = some (.bool x562001_1) := (blk_cell BK561.out 1).trans rfl
    have hcz13_2 : w10.cell? ⟨gb561, 2, none⟩ = some (.slice none 0 0) := (blk_cell BK561.out 2).trans rfl
    have hfz13_0 := blk_frozen BK561.out 0
    have hfz13_1 := blk_frozen BK561.out 1
    have hfz13_2 := blk_frozen BK561.out 2
    try go_wp2
    refine bodyPost_ret (results_ct rfl _ _ gb561 26 #[.int .i64 x561000_1, .bool x561001_1, .slice Ao8 x561002_1.length co8] (0, 0) _ rfl (by (with_reducible repeat (first | refine blk_drewN ?_ _ | refine blk_drew ?_ | refine blk_alloc ?_ _)); refine blk_put (cs := #[.int .i64 x561000_1, .bool x561001_1, .slice none 0 0]) ?_ 2 _ rfl; (with_reducible repeat (first | refine blk_drewN ?_ _ | refine blk_drew ?_ | refine blk_alloc ?_ _)); refine blk_put (cs := #[.int .i64 x561000_1, .bool x562001_1, .slice none 0 0]) ?_ 1 _ rfl; (with_reducible repeat (first | refine blk_drewN ?_ _ | refine blk_drew ?_ | refine blk_alloc ?_ _)); refine blk_put (cs := #[.int .i64 x562000_1, .bool x562001_1, .slice none 0 0]) ?_ 0 _ rfl; (with_reducible repeat (first | refine blk_drewN ?_ _ | refine blk_drew ?_ | refine blk_alloc ?_ _)); exact BK561.out) Tryd.underlying26 rfl (by kernel_rfl)) rfl ?_
    exact ⟨_, by first | rfl | (simp [errW_none, errW_some] <;> rfl) | (simp [*, errW_none, errW_some] <;> rfl), by (with_reducible repeat (first | apply Kd.V_alloc | apply Kd.V_drewN | apply Kd.V_drew)); exact Kd.V_mono (Kd.V_far (p := ⟨gb561, 2, none⟩) (Kd.V_far (p := ⟨gb561, 1, none⟩) (Kd.V_far (p := ⟨gb561, 0, none⟩) (Kd.V_mono HO_561002.out (fun k_ hk => (⟨hk, hk.1.2.2⟩ : _ ∧ k_ ≠ gb561))) (fun _ hk => hk.2) (.int .i64 x561000_1)) (fun _ hk => hk.2) (.bool x561001_1)) (fun _ hk => hk.2) (.slice Ao8 x561002_1.length co8)) (fun _ hk => hk.1.1.1), by repeat (first | (with_reducible first | exact HB.out | apply below_alloc | apply pw_below_drewN | apply below_drew1 | refine below_set ?_ GE560.out | refine below_set ?_ GE561.out) | exact HB.out)⟩
   ·rw [if_neg c5] at H
    have c5b0 : ((t562.length : Int) == 0) = false := beq_eq_false_iff_ne.mpr c5
    have c5b1 : ((t562.length : Int) != 0) = true := bne_iff_ne.mpr c5
    have c5b2 : ¬ (t562 = []) := fun h_ => c5 (by rw [h_]; rfl)
    by_cases c14 : 0 < (t562.length : Int)
    ·rw [if_pos c14] at H
     have c14b0 : decide (0 < (t562.length : Int)) = true := decide_eq_true c14
     have c14b1 : decide (0 < t562.length) = true := decide_eq_true (by omega)
     clear c14
     replace H := Option.bind_eq_some_iff.mp H
     obtain ⟨t566, A150, H⟩ := H
     try dsimp only at H
     have A15 := Aside0.mk A150
     clear A150
     by_cases c16 : t566 < 2
     ·rw [if_pos c16] at H
      have c16b0 : decide (t566 < 2) = true := decide_eq_true c16
      clear c16
      simp only [Option.some.injEq, Prod.mk.injEq] at H
      obtain ⟨rfl, rfl, rfl, rfl⟩ := H
      have hnb17 := NB560_561.out
      have hnc17 := NB561_560.out
      have hcz18_0 : wr.cell? ⟨gb560, 0, none⟩ = some (.int .i64 x561000_1) := (blk_cell BK560.out 0).trans rfl
      have hcz18_1 : wr.cell? ⟨gb560, 1, none⟩ = some (.bool x561001_1) := (blk_cell BK560.out 1).trans rfl
      have hcz18_2 : wr.cell? ⟨gb560, 2, none⟩ = some (u561002) := (blk_cell BK560.out 2).trans rfl
      have hfz18_0 := blk_frozen BK560.out 0
      have hfz18_1 := blk_frozen BK560.out 1
      have hfz18_2 := blk_frozen BK560.out 2
      obtain ⟨Ao19, co19, eo19⟩ := Kd.V_slice HO_561002.out
      subst eo19
      try go_wp2_with (first | ((with_reducible refine gate_callee (f := 57) rfl ?_); refine goesL_ (some 7) rfl rfl Tryd.func57 (by kernel_rfl) rfl #[.agg #[.int .i64 x561000_1, .bool x561001_1, .slice Ao19 x561002_1.length co19]] rfl (by first | rfl | (simp only [List.map_toArray, List.map_cons, List.map_nil, List.length_drop, List.length_take]; first | done | rfl)) ?_; (with_reducible refine (spec_l3Polite.calls k1 x561000_1 x561001_1 _ _ x561002_1 t562 _ ?side1 ?side2 A4.out).mono ?_); (case side1 => repeat (first | exact (Kd.V_reads' HO_561002.out).2.2 | (with_reducible refine Kd.C_alloc ?_ _) | (with_reducible refine Kd.C_drewN ?_ _) | (with_reducible refine Kd.C_drew ?_))); (case side2 => exact (Kd.V_reads' HO_561002.out).2.1); rintro e w20 ⟨v563, rfl, ho0, hb⟩; refine ⟨_, rfl, ?_⟩; replace HO_561002 := Aside0.mk (Kd.V_elder' HO_561002.out (Kd.R_base ho0) hb); have HO564 := Aside0.mk (Kd.R_lower (Kd.R_newM (M := fun k_ => (w.heap.size ≤ k_)) ho0 (below_size HB.out) (fun k_ h_ => h_)) (below_size HB.out)); replace BK560 := Aside0.mk (blk_below BK560.out hb); replace BK561 := Aside0.mk (blk_below BK561.out hb); replace HB := Aside0.mk (below_step HB.out hb); (try clear hb); (try clear hb2); (try clear hk); (try clear hi); (try clear ho0)))
      have n0_ := Aside0.mk (Kd.V_drew HO_561002.out)
      have n1_ := Aside0.mk (Kd.R_drew HO564.out)
      have n2_ := Aside0.mk (blk_drew BK560.out)
      have n3_ := Aside0.mk (blk_drew BK561.out)
      have n4_ := Aside0.mk (below_drew1 HB.out)
      clear HO_561002 HO564 BK560 BK561 HB
      have HO_561002 := n0_
      have HO564 := n1_
      have BK560 := n2_
      have BK561 := n3_
      have HB := n4_
      clear n0_ n1_ n2_ n3_ n4_
      obtain ⟨Ao22, co22, eo22⟩ := Kd.R_slice HO564.out
      (first | subst eo22 | (injection eo22 with f1_ f2_ f3_; have f4_ := f1_.symm; have f5_ := f3_.symm; clear f1_ f2_ f3_; subst f4_; subst f5_))
      have p565 : 0 ≤ (0 : Int) := (by omega)
      have q565 : 0 < (t562.length : Int) := of_decide_eq_true (by first | (with_reducible assumption) | assumption)
      obtain ⟨ad565, e565, hx565_0⟩ := Kd.at_int (Kd.R_reads' HO564.out).2.2 0 p565 q565
      cases e565
      have qi565 : (0 < t562.length) = True := eq_true (by omega)
      (try rw [show ((0 : Int)).toNat = 0 from rfl] at hx565_0)
      (try rw [Addr.add_zero'] at hx565_0)
      replace p565 := eq_true p565
      replace q565 := eq_true q565
      refine start_ (n := 11) (S := fun w' => w'.cell? ⟨gb560, 0, none⟩ = some (.int .i64 x561000_1) ∧ w'.cell? ⟨gb560, 1, none⟩ = some (.bool x561001_1) ∧ w'.cell? ⟨gb560, 2, none⟩ = some (.slice Ao19 x561002_1.length co19) ∧ w'.cell? ad565 = some (.int .i64 (rd t562 0))) (ds := []) #[false, false, false, false, false, false, false, false, false, false, false] (by kernel_rfl) rfl rfl ⟨(blk_cell BK560.out 0).trans rfl, (blk_cell BK560.out 1).trans rfl, (blk_cell BK560.out 2).trans rfl, hx565_0⟩ (fun hHeld => ?_); refine with_tabW spec_l3Settle.tab3 spec_l3Settle.bits3 (fun HT_ HW_ => ?_)
      generalize w20.drew = w21 at HO_561002 HO564 BK560 BK561 HB hx565_0 hHeld ⊢
      refine pure_ (i := 0) (N := some 8) (v := ?_) (a' := ?_) #[true, false, false, false, false, false, false, false, false, false, false] rfl rfl (any_of HT_.out (by kernel_rfl)) (fun _ _ _ h => h) (Or.inl ⟨by rfl, ?_⟩) ?_ ?_
      rotate_left
      ·intro w'
       go_simp
       with_reducible rfl
      rotate_left
      ·simp only [Act.put, List.setIfInBounds_toArray, List.set_cons_zero, List.set_cons_succ, i64_w, i32_w]
       rfl
      refine pure_ (i := 1) (N := some 9) (v := ?_) (a' := ?_) #[true, true, false, false, false, false, false, false, false, false, false] rfl rfl (any_of HT_.out (by kernel_rfl)) (fun _ _ _ h => h) (Or.inl ⟨by rfl, ?_⟩) ?_ ?_
      rotate_left
      ·intro w'
       go_simp
       with_reducible rfl
      rotate_left
      ·simp only [Act.put, List.setIfInBounds_toArray, List.set_cons_zero, List.set_cons_succ, i64_w, i32_w]
       rfl
      refine pure_ (i := 2) (N := some 10) (v := ?_) (a' := ?_) #[true, true, true, false, false, false, false, false, false, false, false] rfl rfl (any_of HT_.out (by kernel_rfl)) (fun _ _ _ h => h) (Or.inl ⟨by rfl, ?_⟩) ?_ ?_
      rotate_left
      ·intro w'
       go_simp
       with_reducible rfl
      rotate_left
      ·simp only [Act.put, List.setIfInBounds_toArray, List.set_cons_zero, List.set_cons_succ, i64_w, i32_w]
       rfl
      refine pure_ (i := 3) (N := some 11) (v := ?_) (a' := ?_) #[true, true, true, true, false, false, false, false, false, false, false] rfl rfl (any_of HT_.out (by kernel_rfl)) (fun _ _ _ h => h) (Or.inl ⟨by rfl, ?_⟩) ?_ ?_
      rotate_left
      ·intro w'
       go_simp
       with_reducible rfl
      rotate_left
      ·simp only [Act.put, List.setIfInBounds_toArray, List.set_cons_zero, List.set_cons_succ, i64_w, i32_w]
       rfl
      refine pure_ (i := 5) (N := some 13) (v := ?_) (a' := ?_) #[true, true, true, true, false, true, false, false, false, false, false] rfl rfl (any_of HT_.out (by kernel_rfl)) (fun _ _ _ h => h) (Or.inl ⟨by rfl, ?_⟩) ?_ ?_
      rotate_left
      ·intro w'
       go_simp
       with_reducible rfl
      rotate_left
      ·simp only [Act.put, List.setIfInBounds_toArray, List.set_cons_zero, List.set_cons_succ, i64_w, i32_w]
       rfl
      refine pure_ (i := 6) (N := some 14) (v := ?_) (a' := ?_) #[true, true, true, true, false, true, true, false, false, false, false] rfl rfl (any_of HT_.out (by kernel_rfl)) (fun _ _ _ h => h) (Or.inl ⟨by rfl, ?_⟩) ?_ ?_
      rotate_left
      ·intro w'
       go_simp
       with_reducible rfl
      rotate_left
      ·simp only [Act.put, List.setIfInBounds_toArray, List.set_cons_zero, List.set_cons_succ, i64_w, i32_w]
       rfl
      refine take_ (i := 4) (N := some 12) (v := ?_) (a' := ?_) #[true, true, true, true, true, true, true, false, false, false, false] rfl rfl (take_ofW HT_.out HW_.out (by kernel_rfl)) (fun _ _ _ h => h) (Or.inl ⟨by rfl, ?_⟩) hHeld ?_ ?_
      rotate_left
      ·rintro w' ⟨s0, s1, s2, s3⟩
       go_simp
       with_reducible rfl
      rotate_left
      ·simp only [Act.put, List.setIfInBounds_toArray, List.set_cons_zero, List.set_cons_succ, i64_w, i32_w]
       rfl
      refine take_ (i := 7) (N := some 15) (v := ?_) (a' := ?_) #[true, true, true, true, true, true, true, true, false, false, false] rfl rfl (take_ofW HT_.out HW_.out (by kernel_rfl)) (fun _ _ _ h => h) (Or.inl ⟨by rfl, ?_⟩) hHeld ?_ ?_
      rotate_left
      ·rintro w' ⟨s0, s1, s2, s3⟩
       go_simp
       with_reducible rfl
      rotate_left
      ·simp only [Act.put, List.setIfInBounds_toArray, List.set_cons_zero, List.set_cons_succ, i64_w, i32_w]
       rfl
      refine one_ (i := 8) (N := some 16) #[true, true, true, true, true, true, true, true, true, false, false] rfl rfl (one_of HT_.out (by kernel_rfl)) (by decide) (fun K hK => ?_)
      refine goes_ Tryd.func83 (by kernel_rfl) rfl #[.agg #[.int .i64 x561000_1, .bool x561001_1, .slice Ao19 x561002_1.length co19], .int .i64 (rd t562 0)] (by rfl) rfl rfl (by first | rfl | (simp only [List.map_toArray, List.map_cons, List.map_nil, List.length_drop, List.length_take]; first | done | rfl)) ?_
      with_reducible refine (spec_l3Far.calls k1 x561000_1 x561001_1 _ _ x561002_1 (rd t562 0) t566 _ ?side1 ?side2 A15.out).mono ?_
      (case side1 => repeat (first | exact (Kd.V_reads' HO_561002.out).2.2 | (with_reducible refine Kd.C_alloc ?_ _) | (with_reducible refine Kd.C_drewN ?_ _) | (with_reducible refine Kd.C_drew ?_)))
      (case side2 => exact (Kd.V_reads' HO_561002.out).2.1)
      rintro e w23 ⟨rfl, hb⟩
      have HS3_ := (hb.cell (World.block_lt_of_cell? _ _ (hHeld.2.2.2))).trans (hHeld.2.2.2)
      refine ⟨_, rfl, ?_⟩
      have n0_ := Aside0.mk (Kd.V_below HO_561002.out hb)
      have n1_ := Aside0.mk (Kd.R_below HO564.out hb)
      have n2_ := Aside0.mk (blk_below BK560.out hb)
      have n3_ := Aside0.mk (blk_below BK561.out hb)
      have n4_ := Aside0.mk (below_step (by repeat (first | (with_reducible first | exact HB.out | apply below_alloc | apply pw_below_drewN | apply below_drew1 | refine below_set ?_ GE560.out | refine below_set ?_ GE561.out) | exact HB.out)) hb)
      clear HO_561002 HO564 BK560 BK561 HB
      have HO_561002 := n0_
      have HO564 := n1_
      have BK560 := n2_
      have BK561 := n3_
      have HB := n4_
      clear n0_ n1_ n2_ n3_ n4_
      (try clear hb)
      (try clear hb2)
      (try clear hk)
      (try clear hi)
      refine hK.out _ _ ⟨(blk_cell BK560.out 0).trans rfl, (blk_cell BK560.out 1).trans rfl, (blk_cell BK560.out 2).trans rfl, HS3_⟩ (fun hHeld => ?_)
      clear hK K
      refine norm_ (a' := ?_) ?_ ?_
      rotate_left
      ·show Act.put _ (some 16) _ = _
       simp only [Act.put, List.setIfInBounds_toArray, List.set_cons_zero, List.set_cons_succ, i64_w, i32_w]
       rfl
      refine pure_ (i := 9) (N := some 17) (v := ?_) (a' := ?_) #[true, true, true, true, true, true, true, true, true, true, false] rfl rfl (any_of HT_.out (by kernel_rfl)) (fun _ _ _ h => h) (Or.inl ⟨by rfl, ?_⟩) ?_ ?_
      rotate_left
      ·intro w'
       go_simp
       with_reducible rfl
      rotate_left
      ·simp only [Act.put, List.setIfInBounds_toArray, List.set_cons_zero, List.set_cons_succ, i64_w, i32_w]
       rfl
      refine pure_ (i := 10) (N := some 18) (v := ?_) (a' := ?_) #[true, true, true, true, true, true, true, true, true, true, true] rfl rfl (any_of HT_.out (by kernel_rfl)) (fun _ _ _ h => h) (Or.inl ⟨by rfl, ?_⟩) ?_ ?_
      rotate_left
      ·intro w'
       go_simp
       with_reducible rfl
      rotate_left
      ·simp only [Act.put, List.setIfInBounds_toArray, List.set_cons_zero, List.set_cons_succ, i64_w, i32_w]
       rfl
      refine done_ (done_of HT_.out (by kernel_rfl)) ?_
      have hcz24_0 : w23.cell? ⟨gb560, 0, none⟩ = some (.int .i64 x561000_1) := (blk_cell BK560.out 0).trans rfl
      have hcz24_1 : w23.cell? ⟨gb560, 1, none⟩ = some (.bool x561001_1) := (blk_cell BK560.out 1).trans rfl
      have hcz24_2 : w23.cell? ⟨gb560, 2, none⟩ = some (.slice Ao19 x561002_1.length co19) := (blk_cell BK560.out 2).trans rfl
      have hfz24_0 := blk_frozen BK560.out 0
      have hfz24_1 := blk_frozen BK560.out 1
      have hfz24_2 := blk_frozen BK560.out 2
      have hcz25_0 : w23.cell? ⟨gb561, 0, none⟩ = some (.int .i64 x562000_1) := (blk_cell BK561.out 0).trans rfl
      have hcz25_1 : w23.cell? ⟨gb561, 1, none⟩ = some (.bool x562001_1) := (blk_cell BK561.out 1).trans rfl
      have hcz25_2 : w23.cell? ⟨gb561, 2, none⟩ = some (.slice none 0 0) := (blk_cell BK561.out 2).trans rfl
      have hfz25_0 := blk_frozen BK561.out 0
      have hfz25_1 := blk_frozen BK561.out 1
      have hfz25_2 := blk_frozen BK561.out 2
      try go_wp2
      refine bodyPost_ret (results_ct rfl _ _ gb561 26 #[.int .i64 x561000_1, .bool x561001_1, .slice Ao19 x561002_1.length co19] (0, 0) _ rfl (by (with_reducible repeat (first | refine blk_drewN ?_ _ | refine blk_drew ?_ | refine blk_alloc ?_ _)); refine blk_put (cs := #[.int .i64 x561000_1, .bool x561001_1, .slice none 0 0]) ?_ 2 _ rfl; (with_reducible repeat (first | refine blk_drewN ?_ _ | refine blk_drew ?_ | refine blk_alloc ?_ _)); refine blk_put (cs := #[.int .i64 x561000_1, .bool x562001_1, .slice none 0 0]) ?_ 1 _ rfl; (with_reducible repeat (first | refine blk_drewN ?_ _ | refine blk_drew ?_ | refine blk_alloc ?_ _)); refine blk_put (cs := #[.int .i64 x562000_1, .bool x562001_1, .slice none 0 0]) ?_ 0 _ rfl; (with_reducible repeat (first | refine blk_drewN ?_ _ | refine blk_drew ?_ | refine blk_alloc ?_ _)); exact BK561.out) Tryd.underlying26 rfl (by kernel_rfl)) rfl ?_
      exact ⟨_, by first | rfl | (simp [errW_none, errW_some] <;> rfl) | (simp [*, errW_none, errW_some] <;> rfl), by (with_reducible repeat (first | apply Kd.V_alloc | apply Kd.V_drewN | apply Kd.V_drew)); exact Kd.V_mono (Kd.V_far (p := ⟨gb561, 2, none⟩) (Kd.V_far (p := ⟨gb561, 1, none⟩) (Kd.V_far (p := ⟨gb561, 0, none⟩) (Kd.V_mono HO_561002.out (fun k_ hk => (⟨hk, hk.1.2.2⟩ : _ ∧ k_ ≠ gb561))) (fun _ hk => hk.2) (.int .i64 x561000_1)) (fun _ hk => hk.2) (.bool x561001_1)) (fun _ hk => hk.2) (.slice Ao19 x561002_1.length co19)) (fun _ hk => hk.1.1.1), by repeat (first | (with_reducible first | exact HB.out | apply below_alloc | apply pw_below_drewN | apply below_drew1 | refine below_set ?_ GE560.out | refine below_set ?_ GE561.out) | exact HB.out)⟩
     ·rw [if_neg c16] at H
      have c16b0 : decide (t566 < 2) = false := decide_eq_false c16
      clear c16
      replace H := Option.bind_eq_some_iff.mp H
      obtain ⟨⟨t568, t569, t570⟩, A260, H⟩ := H
      try dsimp only at H
      have A26 := Aside0.mk A260
      clear A260
      have H' := Aside0.mk H
      clear H
      have hnb27 := NB560_561.out
      have hnc27 := NB561_560.out
      have hcz28_0 : wr.cell? ⟨gb560, 0, none⟩ = some (.int .i64 x561000_1) := (blk_cell BK560.out 0).trans rfl
      have hcz28_1 : wr.cell? ⟨gb560, 1, none⟩ = some (.bool x561001_1) := (blk_cell BK560.out 1).trans rfl
      have hcz28_2 : wr.cell? ⟨gb560, 2, none⟩ = some (u561002) := (blk_cell BK560.out 2).trans rfl
      have hfz28_0 := blk_frozen BK560.out 0
      have hfz28_1 := blk_frozen BK560.out 1
      have hfz28_2 := blk_frozen BK560.out 2
      obtain ⟨Ao29, co29, eo29⟩ := Kd.V_slice HO_561002.out
      subst eo29
      try go_wp2_with (first | ((with_reducible refine gate_callee (f := 57) rfl ?_); refine goesL_ (some 7) rfl rfl Tryd.func57 (by kernel_rfl) rfl #[.agg #[.int .i64 x561000_1, .bool x561001_1, .slice Ao29 x561002_1.length co29]] rfl (by first | rfl | (simp only [List.map_toArray, List.map_cons, List.map_nil, List.length_drop, List.length_take]; first | done | rfl)) ?_; (with_reducible refine (spec_l3Polite.calls k1 x561000_1 x561001_1 _ _ x561002_1 t562 _ ?side1 ?side2 A4.out).mono ?_); (case side1 => repeat (first | exact (Kd.V_reads' HO_561002.out).2.2 | (with_reducible refine Kd.C_alloc ?_ _) | (with_reducible refine Kd.C_drewN ?_ _) | (with_reducible refine Kd.C_drew ?_))); (case side2 => exact (Kd.V_reads' HO_561002.out).2.1); rintro e w30 ⟨v563, rfl, ho0, hb⟩; refine ⟨_, rfl, ?_⟩; replace HO_561002 := Aside0.mk (Kd.V_elder' HO_561002.out (Kd.R_base ho0) hb); have HO564 := Aside0.mk (Kd.R_lower (Kd.R_newM (M := fun k_ => (w.heap.size ≤ k_)) ho0 (below_size HB.out) (fun k_ h_ => h_)) (below_size HB.out)); replace BK560 := Aside0.mk (blk_below BK560.out hb); replace BK561 := Aside0.mk (blk_below BK561.out hb); replace HB := Aside0.mk (below_step HB.out hb); (try clear hb); (try clear hb2); (try clear hk); (try clear hi); (try clear ho0)))
      have n0_ := Aside0.mk (Kd.V_drew HO_561002.out)
      have n1_ := Aside0.mk (Kd.R_drew HO564.out)
      have n2_ := Aside0.mk (blk_drew BK560.out)
      have n3_ := Aside0.mk (blk_drew BK561.out)
      have n4_ := Aside0.mk (below_drew1 HB.out)
      clear HO_561002 HO564 BK560 BK561 HB
      have HO_561002 := n0_
      have HO564 := n1_
      have BK560 := n2_
      have BK561 := n3_
      have HB := n4_
      clear n0_ n1_ n2_ n3_ n4_
      obtain ⟨Ao32, co32, eo32⟩ := Kd.R_slice HO564.out
      (first | subst eo32 | (injection eo32 with f1_ f2_ f3_; have f4_ := f1_.symm; have f5_ := f3_.symm; clear f1_ f2_ f3_; subst f4_; subst f5_))
      have p565 : 0 ≤ (0 : Int) := (by omega)
      have q565 : 0 < (t562.length : Int) := of_decide_eq_true (by first | (with_reducible assumption) | assumption)
      obtain ⟨ad565, e565, hx565_0⟩ := Kd.at_int (Kd.R_reads' HO564.out).2.2 0 p565 q565
      cases e565
      have qi565 : (0 < t562.length) = True := eq_true (by omega)
      (try rw [show ((0 : Int)).toNat = 0 from rfl] at hx565_0)
      (try rw [Addr.add_zero'] at hx565_0)
      replace p565 := eq_true p565
      replace q565 := eq_true q565
      refine start_ (n := 11) (S := fun w' => w'.cell? ⟨gb560, 0, none⟩ = some (.int .i64 x561000_1) ∧ w'.cell? ⟨gb560, 1, none⟩ = some (.bool x561001_1) ∧ w'.cell? ⟨gb560, 2, none⟩ = some (.slice Ao29 x561002_1.length co29) ∧ w'.cell? ad565 = some (.int .i64 (rd t562 0))) (ds := []) #[false, false, false, false, false, false, false, false, false, false, false] (by kernel_rfl) rfl rfl ⟨(blk_cell BK560.out 0).trans rfl, (blk_cell BK560.out 1).trans rfl, (blk_cell BK560.out 2).trans rfl, hx565_0⟩ (fun hHeld => ?_); refine with_tabW spec_l3Settle.tab3 spec_l3Settle.bits3 (fun HT_ HW_ => ?_)
      generalize w30.drew = w31 at HO_561002 HO564 BK560 BK561 HB hx565_0 hHeld ⊢
      refine pure_ (i := 0) (N := some 8) (v := ?_) (a' := ?_) #[true, false, false, false, false, false, false, false, false, false, false] rfl rfl (any_of HT_.out (by kernel_rfl)) (fun _ _ _ h => h) (Or.inl ⟨by rfl, ?_⟩) ?_ ?_
      rotate_left
      ·intro w'
       go_simp
       with_reducible rfl
      rotate_left
      ·simp only [Act.put, List.setIfInBounds_toArray, List.set_cons_zero, List.set_cons_succ, i64_w, i32_w]
       rfl
      refine pure_ (i := 1) (N := some 9) (v := ?_) (a' := ?_) #[true, true, false, false, false, false, false, false, false, false, false] rfl rfl (any_of HT_.out (by kernel_rfl)) (fun _ _ _ h => h) (Or.inl ⟨by rfl, ?_⟩) ?_ ?_
      rotate_left
      ·intro w'
       go_simp
       with_reducible rfl
      rotate_left
      ·simp only [Act.put, List.setIfInBounds_toArray, List.set_cons_zero, List.set_cons_succ, i64_w, i32_w]
       rfl
      refine pure_ (i := 2) (N := some 10) (v := ?_) (a' := ?_) #[true, true, true, false, false, false, false, false, false, false, false] rfl rfl (any_of HT_.out (by kernel_rfl)) (fun _ _ _ h => h) (Or.inl ⟨by rfl, ?_⟩) ?_ ?_
      rotate_left
      ·intro w'
       go_simp
       with_reducible rfl
      rotate_left
      ·simp only [Act.put, List.setIfInBounds_toArray, List.set_cons_zero, List.set_cons_succ, i64_w, i32_w]
       rfl
      refine pure_ (i := 3) (N := some 11) (v := ?_) (a' := ?_) #[true, true, true, true, false, false, false, false, false, false, false] rfl rfl (any_of HT_.out (by kernel_rfl)) (fun _ _ _ h => h) (Or.inl ⟨by rfl, ?_⟩) ?_ ?_
      rotate_left
      ·intro w'
       go_simp
       with_reducible rfl
      rotate_left
      ·simp only [Act.put, List.setIfInBounds_toArray, List.set_cons_zero, List.set_cons_succ, i64_w, i32_w]
       rfl
      refine pure_ (i := 5) (N := some 13) (v := ?_) (a' := ?_) #[true, true, true, true, false, true, false, false, false, false, false] rfl rfl (any_of HT_.out (by kernel_rfl)) (fun _ _ _ h => h) (Or.inl ⟨by rfl, ?_⟩) ?_ ?_
      rotate_left
      ·intro w'
       go_simp
       with_reducible rfl
      rotate_left
      ·simp only [Act.put, List.setIfInBounds_toArray, List.set_cons_zero, List.set_cons_succ, i64_w, i32_w]
       rfl
      refine pure_ (i := 6) (N := some 14) (v := ?_) (a' := ?_) #[true, true, true, true, false, true, true, false, false, false, false] rfl rfl (any_of HT_.out (by kernel_rfl)) (fun _ _ _ h => h) (Or.inl ⟨by rfl, ?_⟩) ?_ ?_
      rotate_left
      ·intro w'
       go_simp
       with_reducible rfl
      rotate_left
      ·simp only [Act.put, List.setIfInBounds_toArray, List.set_cons_zero, List.set_cons_succ, i64_w, i32_w]
       rfl
      refine take_ (i := 4) (N := some 12) (v := ?_) (a' := ?_) #[true, true, true, true, true, true, true, false, false, false, false] rfl rfl (take_ofW HT_.out HW_.out (by kernel_rfl)) (fun _ _ _ h => h) (Or.inl ⟨by rfl, ?_⟩) hHeld ?_ ?_
      rotate_left
      ·rintro w' ⟨s0, s1, s2, s3⟩
       go_simp
       with_reducible rfl
      rotate_left
      ·simp only [Act.put, List.setIfInBounds_toArray, List.set_cons_zero, List.set_cons_succ, i64_w, i32_w]
       rfl
      refine take_ (i := 7) (N := some 15) (v := ?_) (a' := ?_) #[true, true, true, true, true, true, true, true, false, false, false] rfl rfl (take_ofW HT_.out HW_.out (by kernel_rfl)) (fun _ _ _ h => h) (Or.inl ⟨by rfl, ?_⟩) hHeld ?_ ?_
      rotate_left
      ·rintro w' ⟨s0, s1, s2, s3⟩
       go_simp
       with_reducible rfl
      rotate_left
      ·simp only [Act.put, List.setIfInBounds_toArray, List.set_cons_zero, List.set_cons_succ, i64_w, i32_w]
       rfl
      refine one_ (i := 8) (N := some 16) #[true, true, true, true, true, true, true, true, true, false, false] rfl rfl (one_of HT_.out (by kernel_rfl)) (by decide) (fun K hK => ?_)
      refine goes_ Tryd.func83 (by kernel_rfl) rfl #[.agg #[.int .i64 x561000_1, .bool x561001_1, .slice Ao29 x561002_1.length co29], .int .i64 (rd t562 0)] (by rfl) rfl rfl (by first | rfl | (simp only [List.map_toArray, List.map_cons, List.map_nil, List.length_drop, List.length_take]; first | done | rfl)) ?_
      with_reducible refine (spec_l3Far.calls k1 x561000_1 x561001_1 _ _ x561002_1 (rd t562 0) t566 _ ?side1 ?side2 A15.out).mono ?_
      (case side1 => repeat (first | exact (Kd.V_reads' HO_561002.out).2.2 | (with_reducible refine Kd.C_alloc ?_ _) | (with_reducible refine Kd.C_drewN ?_ _) | (with_reducible refine Kd.C_drew ?_)))
      (case side2 => exact (Kd.V_reads' HO_561002.out).2.1)
      rintro e w33 ⟨rfl, hb⟩
      have HS3_ := (hb.cell (World.block_lt_of_cell? _ _ (hHeld.2.2.2))).trans (hHeld.2.2.2)
      refine ⟨_, rfl, ?_⟩
      have n0_ := Aside0.mk (Kd.V_below HO_561002.out hb)
      have n1_ := Aside0.mk (Kd.R_below HO564.out hb)
      have n2_ := Aside0.mk (blk_below BK560.out hb)
      have n3_ := Aside0.mk (blk_below BK561.out hb)
      have n4_ := Aside0.mk (below_step HB.out hb)
      clear HO_561002 HO564 BK560 BK561 HB
      have HO_561002 := n0_
      have HO564 := n1_
      have BK560 := n2_
      have BK561 := n3_
      have HB := n4_
      clear n0_ n1_ n2_ n3_ n4_
      (try clear hb)
      (try clear hb2)
      (try clear hk)
      (try clear hi)
      refine hK.out _ _ ⟨(blk_cell BK560.out 0).trans rfl, (blk_cell BK560.out 1).trans rfl, (blk_cell BK560.out 2).trans rfl, HS3_⟩ (fun hHeld => ?_)
      clear hK K
      refine norm_ (a' := ?_) ?_ ?_
      rotate_left
      ·show Act.put _ (some 16) _ = _
       simp only [Act.put, List.setIfInBounds_toArray, List.set_cons_zero, List.set_cons_succ, i64_w, i32_w]
       rfl
      refine pure_ (i := 9) (N := some 17) (v := ?_) (a' := ?_) #[true, true, true, true, true, true, true, true, true, true, false] rfl rfl (any_of HT_.out (by kernel_rfl)) (fun _ _ _ h => h) (Or.inl ⟨by rfl, ?_⟩) ?_ ?_
      rotate_left
      ·intro w'
       go_simp
       with_reducible rfl
      rotate_left
      ·simp only [Act.put, List.setIfInBounds_toArray, List.set_cons_zero, List.set_cons_succ, i64_w, i32_w]
       rfl
      refine pure_ (i := 10) (N := some 18) (v := ?_) (a' := ?_) #[true, true, true, true, true, true, true, true, true, true, true] rfl rfl (any_of HT_.out (by kernel_rfl)) (fun _ _ _ h => h) (Or.inl ⟨by rfl, ?_⟩) ?_ ?_
      rotate_left
      ·intro w'
       go_simp
       with_reducible rfl
      rotate_left
      ·simp only [Act.put, List.setIfInBounds_toArray, List.set_cons_zero, List.set_cons_succ, i64_w, i32_w]
       rfl
      refine done_ (done_of HT_.out (by kernel_rfl)) ?_
      try go_wp2
      have n0_ := Aside0.mk (Kd.V_drew HO_561002.out)
      have n1_ := Aside0.mk (Kd.R_drew HO564.out)
      have n2_ := Aside0.mk (blk_drew BK560.out)
      have n3_ := Aside0.mk (blk_drew BK561.out)
      have n4_ := Aside0.mk (below_drew1 HB.out)
      clear HO_561002 HO564 BK560 BK561 HB
      have HO_561002 := n0_
      have HO564 := n1_
      have BK560 := n2_
      have BK561 := n3_
      have HB := n4_
      clear n0_ n1_ n2_ n3_ n4_
      have p567 : 0 ≤ (0 : Int) := (by omega)
      have q567 : 0 < (t562.length : Int) := of_decide_eq_true (by first | (with_reducible assumption) | assumption)
      obtain ⟨ad567, e567, hx567_0⟩ := Kd.at_int (Kd.R_reads' HO564.out).2.2 0 p567 q567
      obtain rfl : ad565 = ad567 := (by injection e567)
      have qi567 : (0 < t562.length) = True := eq_true (by omega)
      (try rw [show ((0 : Int)).toNat = 0 from rfl] at hx567_0)
      (try rw [Addr.add_zero'] at hx567_0)
      replace p567 := eq_true p567
      replace q567 := eq_true q567
      refine start_ (n := 6) (S := fun w' => w'.cell? ⟨gb560, 0, none⟩ = some (.int .i64 x561000_1) ∧ w'.cell? ⟨gb560, 1, none⟩ = some (.bool x561001_1) ∧ w'.cell? ⟨gb560, 2, none⟩ = some (.slice Ao29 x561002_1.length co29) ∧ w'.cell? ad565 = some (.int .i64 (rd t562 0))) (ds := [5]) #[false, false, false, false, false, false] (by kernel_rfl) rfl rfl ⟨(blk_cell BK560.out 0).trans rfl, (blk_cell BK560.out 1).trans rfl, (blk_cell BK560.out 2).trans rfl, hx567_0⟩ (fun hHeld => ?_)
      generalize w33.drew = w34 at HO_561002 HO564 BK560 BK561 HB hx567_0 hHeld ⊢
      refine pure_ (i := 1) (N := some 22) (v := ?_) (a' := ?_) #[false, true, false, false, false, false] rfl rfl (by kernel_rfl) (fun _ _ _ h => h) (Or.inl ⟨by rfl, ?_⟩) ?_ ?_
      rotate_left
      ·intro w'
       go_simp
       with_reducible rfl
      rotate_left
      ·simp only [Act.put, List.setIfInBounds_toArray, List.set_cons_zero, List.set_cons_succ, i64_w, i32_w]
       rfl
      refine pure_ (i := 2) (N := some 23) (v := ?_) (a' := ?_) #[false, true, true, false, false, false] rfl rfl (by kernel_rfl) (fun _ _ _ h => h) (Or.inl ⟨by rfl, ?_⟩) ?_ ?_
      rotate_left
      ·intro w'
       go_simp
       with_reducible rfl
      rotate_left
      ·simp only [Act.put, List.setIfInBounds_toArray, List.set_cons_zero, List.set_cons_succ, i64_w, i32_w]
       rfl
      refine take_ (i := 0) (N := some 21) (v := ?_) (a' := ?_) #[true, true, true, false, false, false] rfl rfl (by kernel_rfl) (fun _ _ _ h => h) (Or.inl ⟨by rfl, ?_⟩) hHeld ?_ ?_
      rotate_left
      ·rintro w' ⟨s0, s1, s2, s3⟩
       go_simp
       with_reducible rfl
      rotate_left
      ·simp only [Act.put, List.setIfInBounds_toArray, List.set_cons_zero, List.set_cons_succ, i64_w, i32_w]
       rfl
      refine take_ (i := 3) (N := some 24) (v := ?_) (a' := ?_) #[true, true, true, true, false, false] rfl rfl (by kernel_rfl) (fun _ _ _ h => h) (Or.inl ⟨by rfl, ?_⟩) hHeld ?_ ?_
      rotate_left
      ·rintro w' ⟨s0, s1, s2, s3⟩
       go_simp
       with_reducible rfl
      rotate_left
      ·simp only [Act.put, List.setIfInBounds_toArray, List.set_cons_zero, List.set_cons_succ, i64_w, i32_w]
       rfl
      refine one_ (i := 4) (N := some 25) #[true, true, true, true, true, false] rfl rfl (by kernel_rfl) (by decide) (fun K hK => ?_)
      refine goes_ Tryd.func58 (by kernel_rfl) rfl #[.agg #[.int .i64 x561000_1, .bool x561001_1, .slice Ao29 x561002_1.length co29], .int .i64 (rd t562 0)] (by rfl) rfl rfl (by first | rfl | (simp only [List.map_toArray, List.map_cons, List.map_nil, List.length_drop, List.length_take]; first | done | rfl)) ?_
      with_reducible refine (spec_l2With.calls k1 x561000_1 x561001_1 _ _ x561002_1 (rd t562 0) t568 t569 t570 _ ?side1 ?side2 A26.out).mono ?_
      (case side1 => repeat (first | exact (Kd.V_reads' HO_561002.out).2.2 | (with_reducible refine Kd.C_alloc ?_ _) | (with_reducible refine Kd.C_drewN ?_ _) | (with_reducible refine Kd.C_drew ?_)))
      (case side2 => exact (Kd.V_reads' HO_561002.out).2.1)
      rintro e w35 ⟨v571, rfl, ho0, hb⟩
      have HS3_ := (hb.cell (World.block_lt_of_cell? _ _ (hHeld.2.2.2))).trans (hHeld.2.2.2)
      refine ⟨_, rfl, ?_⟩
      have n0_ := Aside0.mk (Kd.V_below HO_561002.out hb)
      have n1_ := Aside0.mk (Kd.R_below HO564.out hb)
      have n2_ := Aside0.mk (Kd.V_lower (Kd.V_mono (ok' := fun k_ => (P0_2_ k_ ∨ w.heap.size ≤ k_) ∧ some k_ ≠ (.slice (some ad565) t562.length co32 : Value).ownBlock ∧ k_ ≠ gb560 ∧ k_ ≠ gb561) ho0 (fun k_ hk_ => ⟨(.inr (Nat.le_trans (below_size HB.out) hk_)), (Kd.fresh' (Kd.R_lt HO564.out) k_ hk_), (Kd.freshB BK560.out k_ hk_), (Kd.freshB BK561.out k_ hk_)⟩)) (below_size HB.out))
      have n3_ := Aside0.mk (blk_below BK560.out hb)
      have n4_ := Aside0.mk (blk_below BK561.out hb)
      have n5_ := Aside0.mk (below_step (by repeat (first | (with_reducible first | exact HB.out | apply below_alloc | apply pw_below_drewN | apply below_drew1 | refine below_set ?_ GE560.out | refine below_set ?_ GE561.out) | exact HB.out)) hb)
      clear HO_561002 HO564 BK560 BK561 HB
      have HO_561002 := n0_
      have HO564 := n1_
      have HO572 := n2_
      have BK560 := n3_
      have BK561 := n4_
      have HB := n5_
      clear n0_ n1_ n2_ n3_ n4_ n5_
      (try clear hb)
      (try clear hb2)
      (try clear hk)
      (try clear hi)
      (try clear ho0)
      obtain ⟨Ao38, co38, eo38⟩ := Kd.V_slice HO572.out
      (first | subst eo38 | (injection eo38 with f1_ f2_ f3_; have f4_ := f1_.symm; have f5_ := f3_.symm; clear f1_ f2_ f3_; subst f4_; subst f5_))
      refine hK.out _ _ ⟨(blk_cell BK560.out 0).trans rfl, (blk_cell BK560.out 1).trans rfl, (blk_cell BK560.out 2).trans rfl, HS3_⟩ (fun hHeld => ?_)
      clear hK K
      refine norm_ (a' := ?_) ?_ ?_
      rotate_left
      ·show Act.put _ (some 25) _ = _
       simp only [Act.put, List.setIfInBounds_toArray, List.set_cons_zero, List.set_cons_succ, i64_w, i32_w]
       rfl
      refine last_ (i := 5) (N := none) #[true, true, true, true, true, true] rfl rfl (by kernel_rfl) (by decide) (fun K hK => ?_)
      have hs36 : w35.cell? ⟨gb560, 0, none⟩ = some (.int .i64 x561000_1) := (blk_cell BK560.out 0).trans rfl
      have hfs36 := blk_frozen BK560.out 0
      have hns36_1 := NB561_560.out
      have hms36_1 := NB560_561.out
      have hs37 : w35.cell? ⟨gb560, 1, none⟩ = some (.bool x561001_1) := (blk_cell BK560.out 1).trans rfl
      have hfs37 := blk_frozen BK560.out 1
      have hns37_1 := NB561_560.out
      have hms37_1 := NB560_561.out
      have hs39 : w35.cell? ⟨gb560, 2, none⟩ = some (.slice Ao29 x561002_1.length co29) := (blk_cell BK560.out 2).trans rfl
      have hfs39 := blk_frozen BK560.out 2
      have hns39_1 := NB561_560.out
      have hms39_1 := NB560_561.out
      refine skip_ (w1 := ?_) (by rfl) rfl ?_ ?_
      rotate_left
      ·go_simp
       rfl
      refine hK.out _ _ ?_
      clear hK K
      refine done_ (by kernel_rfl) ?_
      try go_wp2
      go_roundg k1
      case measure => have := HK1.out; omega
      case rel => exact ⟨(wrap64 (x4_1 + 1)), (t568), (t569), (t570), (x562000_1), (x562001_1), (.slice Ao38 t570.length co38), (by first | rfl | (simp; done) | (simp [*]; done)), H', ⟨by have := HK1.out; omega⟩, ⟨by (with_reducible repeat (first | apply Kd.V_alloc | apply Kd.V_drewN | apply Kd.V_drew)); exact Kd.V_mono (Kd.V_far (p := ⟨gb560, 2, none⟩) (Kd.V_far (p := ⟨gb560, 1, none⟩) (Kd.V_far (p := ⟨gb560, 0, none⟩) (Kd.V_mono HO572.out (fun k_ hk => (⟨hk, hk.2.2.1⟩ : _ ∧ k_ ≠ gb560))) (fun _ hk => hk.2) (.int .i64 t568)) (fun _ hk => hk.2) (.bool t569)) (fun _ hk => hk.2) (.slice Ao38 t570.length co38)) (fun _ hk => ⟨hk.1.1, ⟨hk.1.2.2.1, hk.1.2.2.2⟩⟩)⟩, ⟨by (with_reducible repeat (first | refine blk_drewN ?_ _ | refine blk_drew ?_ | refine blk_alloc ?_ _)); refine blk_put (cs := #[.int .i64 t568, .bool t569, .slice Ao29 x561002_1.length co29]) ?_ 2 _ rfl; (with_reducible repeat (first | refine blk_drewN ?_ _ | refine blk_drew ?_ | refine blk_alloc ?_ _)); refine blk_put (cs := #[.int .i64 t568, .bool x561001_1, .slice Ao29 x561002_1.length co29]) ?_ 1 _ rfl; (with_reducible repeat (first | refine blk_drewN ?_ _ | refine blk_drew ?_ | refine blk_alloc ?_ _)); refine blk_put (cs := #[.int .i64 x561000_1, .bool x561001_1, .slice Ao29 x561002_1.length co29]) ?_ 0 _ rfl; (with_reducible repeat (first | refine blk_drewN ?_ _ | refine blk_drew ?_ | refine blk_alloc ?_ _)); exact BK560.out⟩, ⟨by (with_reducible repeat (first | refine blk_drewN ?_ _ | refine blk_drew ?_ | refine blk_alloc ?_ _)); refine blk_far ?_ NB561_560.out _; (with_reducible repeat (first | refine blk_drewN ?_ _ | refine blk_drew ?_ | refine blk_alloc ?_ _)); refine blk_far ?_ NB561_560.out _; (with_reducible repeat (first | refine blk_drewN ?_ _ | refine blk_drew ?_ | refine blk_alloc ?_ _)); refine blk_far ?_ NB561_560.out _; (with_reducible repeat (first | refine blk_drewN ?_ _ | refine blk_drew ?_ | refine blk_alloc ?_ _)); exact BK561.out⟩, ⟨by repeat (first | (with_reducible first | exact HB.out | apply below_alloc | apply pw_below_drewN | apply below_drew1 | refine below_set ?_ GE560.out | refine below_set ?_ GE561.out) | exact HB.out)⟩⟩
    ·rw [if_neg c14] at H
     exact absurd H (by simp)

end Go.Proofs.YtaebbgkoaaigbaaDoor.PFnPolite
