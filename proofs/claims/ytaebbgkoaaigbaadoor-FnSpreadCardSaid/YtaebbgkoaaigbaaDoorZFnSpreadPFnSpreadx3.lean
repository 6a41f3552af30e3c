import Derived.Test.YtaebbgkoaaigbaaDoorZFnSpreadPFnSpreadx0
import Derived.Test.YtaebbgkoaaigbaaDoorZFnSpreadPFnSpreadx1
import Derived.Test.YtaebbgkoaaigbaaDoorZFnSpreadPFnSpreadx2
namespace Go.Proofs.YtaebbgkoaaigbaaDoor.PFnSpread
open Go.RowKit Go.Proofs.YtaebbgkoaaigbaaDoorW.PrintWords Go.Proofs.YtaebbgkoaaigbaaDoorW.PrintLast Go.Proofs.YtaebbgkoaaigbaaDoorW.PrintMore
attribute [local go_sem] max2_int min2_int max_two min_two max_three min_three max_four min_four   -- for this text's walks alone
set_option linter.unusedVariables false
set_option linter.unusedSimpArgs false

/-! ### spec_l1Cur_row: function 53 -/
mutual
def spec_l1Cur_row.l0 : Nat → Int → Int → List Int → Int → Int → Int → Bool → List Int → Option (Int × Bool × List Int × Int × Int)
 | 0, _, _, _, _, _, _, _, _ => none
 | k + 1, x4, x5, x1000, x1001, x1002, x180000, x180001, x180002 => if x5 < x180000 then (spec_l1Cur_row.j1 k x4 x5 (decide (x5 < 25)) x1000 x1001 x1002 x180000 x180001 x180002) else (spec_l1Cur_row.j1 k x4 x5 false x1000 x1001 x1002 x180000 x180001 x180002)
def spec_l1Cur_row.j1 : Nat → Int → Int → Bool → List Int → Int → Int → Int → Bool → List Int → Option (Int × Bool × List Int × Int × Int)
 | 0, _, _, _, _, _, _, _, _, _ => none
 | k + 1, x4, x5, x18, x1000, x1001, x1002, x180000, x180001, x180002 => if x18 = true then ((spec_l1Cur_one.f x1000 x1001 x1002 x4).bind fun bt180 => (if bt180.1 = true then (if x180002.length < 17592186044416 then (spec_l1Cur_row.l0 k x4 (wrap64 (x5 + 1)) x1000 bt180.2.1 bt180.2.2 x180000 x180001 (x180002 ++ [x5])) else (none)) else (spec_l1Cur_row.l0 k x4 (wrap64 (x5 + 1)) x1000 bt180.2.1 bt180.2.2 x180000 x180001 x180002))) else ((spec_l1Cur_one.f x1000 x1001 x1002 6).bind fun bt186 => (if bt186.1 = true then ((spec_l2Row.f k x180000 x180001 x180002).bind fun t189 => (spec_l1Cur_row.j2 k t189 x1000 bt186.2.1 bt186.2.2 x180000 x180001 x180002)) else (spec_l1Cur_row.j2 k false x1000 bt186.2.1 bt186.2.2 x180000 x180001 x180002)))
def spec_l1Cur_row.j2 : Nat → Bool → List Int → Int → Int → Int → Bool → List Int → Option (Int × Bool × List Int × Int × Int)
 | 0, _, _, _, _, _, _, _ => none
 | k + 1, x35, x1000, x1001, x1002, x180000, x180001, x180002 => if x35 = true then ((spec_OtherSeats.f k x180000 x180001 x180002).bind fun bt190 => (spec_l1Cur_row.j3 k x1000 x1001 x1002 bt190.1 bt190.2.1 bt190.2.2.1)) else (spec_l1Cur_row.j3 k x1000 x1001 x1002 x180000 x180001 x180002)
def spec_l1Cur_row.j3 : Nat → List Int → Int → Int → Int → Bool → List Int → Option (Int × Bool × List Int × Int × Int)
 | 0, _, _, _, _, _, _ => none
 | k + 1, x1000, x1001, x1002, x180000, x180001, x180002 => (spec_l1Cur_one.f x1000 x1001 x1002 40).bind fun bt196 => (if bt196.1 = true then ((spec_l1Cur_among.f x1000 bt196.2.1 bt196.2.2 (([(-1), 0, x180000, 4611686018427387904] : List Int))).bind fun bt202 => (if x180002.length < 17592186044416 then (some (x180000, x180001, (x180002 ++ [bt202.1]), bt202.2.1, bt202.2.2)) else (none))) else (some (x180000, x180001, x180002, bt196.2.1, bt196.2.2)))
end
def spec_l1Cur_row.f (k : Nat) (s0_0 : List Int) (s0_1 : Int) (s0_2 : Int) : Option (Int × Bool × List Int × Int × Int) := (spec_l1Cur_freeRow.f s0_0 s0_1 s0_2).bind fun bt166 => ((spec_l1Cur_among.f s0_0 bt166.2.2.2.1 bt166.2.2.2.2 (([3, 2, 5] : List Int))).bind fun bt176 => (spec_l1Cur_row.l0 k bt176.1 0 s0_0 bt176.2.1 bt176.2.2 bt166.1 bt166.2.1 bt166.2.2.1))
def spec_l1Cur_row.T10 : Bool × List (List Nat × List Nat) := (true, [([], []), ([0], [0]), ([], []), ([], []), ([3], [3]), ([4], [4]), ([2, 5], [2, 5]), ([6], [6]), ([1, 7, 6], [1, 7]), ([0, 1, 2, 3, 4, 5, 6, 7, 8], []), ([9, 8, 8, 0, 1, 2, 3, 4, 5, 6, 7, 8], [8, 9])])
def spec_l1Cur_row.B10 : List Nat := [0, 1, 0, 0, 8, 24, 60, 124, 255, 511, 1023]
theorem spec_l1Cur_row.tab10 : rtab .any (opsOf Tryd.f53 10) = spec_l1Cur_row.T10 := by kernel_rfl
theorem spec_l1Cur_row.bits10 : waitsOk spec_l1Cur_row.T10.2 spec_l1Cur_row.B10 = true := by kernel_rfl
set_option maxHeartbeats 8000000 in
set_option maxRecDepth 100000 in
theorem spec_l1Cur_row.calls (k : Nat) (g : Nat) (s0_0 : List Int) (s0_1 : Int) (s0_2 : Int) (r1 : Int) (r2 : Bool) (r3 : List Int) (r4 : Int) (r5 : Int) (w0 w : World) (hI : IsS66 w0 w g s0_0 s0_1 s0_2) (hB : Below w0.heap.size w0 w) (h : spec_l1Cur_row.f k s0_0 s0_1 s0_2 = some (r1, r2, r3, r4, r5)) :
  Calls Tryd.prog 53 #[.pointer (some ⟨g, 0, none⟩)] w fun e w' => ∃ v2_ : Value, e = .returned (.agg #[.int .i64 r1, .bool r2, v2_]) ∧ Kd.R (Kd.int .i64) 3 w' w.heap.size (fun _ => True) v2_ r3 ∧ IsS66 w0 w' g s0_0 r4 r5 ∧ Below w0.heap.size w0 w' ∧ KeepBut w w' g none := by
 have hu26 := Tryd.underlying26
 have HI0 := Aside0.mk hI
 have HK := Aside0.mk (KeepBut.refl w g none)
 have HL := Aside0.mk hB.size
 clear hI
 have HW0 := Aside0.mk hB.size
 have HB := Aside0.mk hB
 clear hB
 have H : ((spec_l1Cur_freeRow.f s0_0 s0_1 s0_2).bind fun bt166 => ((spec_l1Cur_among.f s0_0 bt166.2.2.2.1 bt166.2.2.2.2 (([3, 2, 5] : List Int))).bind fun bt176 => (spec_l1Cur_row.l0 k bt176.1 0 s0_0 bt176.2.1 bt176.2.2 bt166.1 bt166.2.1 bt166.2.2.1))) = some (r1, r2, r3, r4, r5) := h
 clear h
 replace H := Option.bind_eq_some_iff.mp H
 obtain ⟨⟨t166, t167, t168, t171, t172⟩, A20, H⟩ := H
 try dsimp only at H
 have A2 := Aside0.mk A20
 clear A20
 obtain ⟨y173, hy173⟩ : ∃ y_ : List Int, y_ = (([3, 2, 5] : List Int)) := ⟨_, rfl⟩
 replace H : ((spec_l1Cur_among.f s0_0 t171 t172 y173).bind fun bt176 => (spec_l1Cur_row.l0 k bt176.1 0 s0_0 bt176.2.1 bt176.2.2 t166 t167 t168)) = some (r1, r2, r3, r4, r5) := by first | (rw [hy173]; with_reducible exact H) | (have H2_ := (Option.bind_some _ _).symm.trans H; rw [hy173]; with_reducible exact H2_) | (have H2_ := (Option.bind_some _ _).symm.trans H; with_reducible exact H2_) | with_reducible exact H | (rw [hy173]; exact H) | exact H
 have Ny173 := Aside0.mk hy173
 clear hy173
 replace H := Option.bind_eq_some_iff.mp H
 obtain ⟨⟨t176, t177, t178⟩, A30, H⟩ := H
 try dsimp only at H
 have A3 := Aside0.mk A30
 clear A30
 have H' := Aside0.mk H
 clear H
 go_enter Tryd.func53, Tryd.ntmps53
 go_wp2_with (first | ((with_reducible refine gate_dst (N := 2) rfl ?_); refine box_event ?hg (N := 2) ?hd (cs := #[.int .i64 0, .bool false, .slice none 0 0]) (t := 26) ?hr ?_; (case hd => rfl); (case hg => rfl); (case hr => first | (go_simp; done) | (go_simp; rfl)); intro gb165 hg w4 hbox hb; have n0_ := Aside0.mk (IsS66.below (by repeat (first | (with_reducible first | exact HI0.out | apply IsS66.alloc | apply IsS66.drewN | apply IsS66.drew | apply IsS66.set_1 | apply IsS66.set_2) | exact HI0.out)) hb); have n1_ := Aside0.mk (KeepBut.trans (by repeat (first | (with_reducible first | exact HK.out | apply KeepBut.set_ | apply keep_drewN | apply keep_drew | apply keep_alloc) | exact HK.out)) (KeepBut.of_below hb g none) (.inl rfl)); have n2_ := Aside0.mk (below_step (by repeat (first | (with_reducible first | exact HB.out | apply below_alloc | apply pw_below_drewN | apply below_drew1 | refine below_set ?_ (IsS66.ge HI0.out)) | exact HB.out)) hb); have n3_ := Aside0.mk (hbox); have n4_ := Aside0.mk ((by rw [hg]; exact (keep_size (w := w) (g := g) (row := none) (by repeat (first | (with_reducible first | exact HK.out | apply KeepBut.set_ | apply keep_drewN | apply keep_drew | apply keep_alloc) | exact HK.out))) : w.heap.size ≤ gb165)); have n5_ := Aside0.mk ((Nat.le_trans HW0.out (by rw [hg]; exact (keep_size (w := w) (g := g) (row := none) (by repeat (first | (with_reducible first | exact HK.out | apply KeepBut.set_ | apply keep_drewN | apply keep_drew | apply keep_alloc) | exact HK.out))) : w.heap.size ≤ gb165) : w0.heap.size ≤ gb165)); have n6_ := Aside0.mk ((by rw [hg]; exact Nat.ne_of_lt (IsS66.lt (show IsS66 w0 _ g s0_0 s0_1 s0_2 from by repeat (first | (with_reducible first | exact HI0.out | apply IsS66.alloc | apply IsS66.drewN | apply IsS66.drew | apply IsS66.set_1 | apply IsS66.set_2) | exact HI0.out))) : g ≠ gb165)); have n7_ := Aside0.mk ((by rw [hg]; exact Nat.ne_of_gt (IsS66.lt (show IsS66 w0 _ g s0_0 s0_1 s0_2 from by repeat (first | (with_reducible first | exact HI0.out | apply IsS66.alloc | apply IsS66.drewN | apply IsS66.drew | apply IsS66.set_1 | apply IsS66.set_2) | exact HI0.out))) : gb165 ≠ g)); clear HI0 HK HB; have HI0 := n0_; have HK := n1_; have HB := n2_; have BK165 := n3_; have GW165 := n4_; have GE165 := n5_; have NB0_165 := n6_; have NB165_0 := n7_; clear n0_ n1_ n2_ n3_ n4_ n5_ n6_ n7_ hb hbox hg) | ((with_reducible refine gate_callee (f := 52) rfl ?_); refine goesL_ (some 7) rfl rfl Tryd.func52 (by kernel_rfl) rfl #[.pointer (some ⟨g, 0, none⟩)] rfl (by first | rfl | (simp only [List.map_toArray, List.map_cons, List.map_nil, List.length_drop, List.length_take]; first | done | rfl)) ?_; (with_reducible refine (spec_l1Cur_freeRow.calls g s0_0 s0_1 s0_2 t166 t167 t168 t171 t172 w0 _ ?side1 ?side2 A2.out).mono ?_); (case side1 => exact HI0.out); (case side2 => exact HB.out); rintro e w5 ⟨v169, rfl, ho0, hi, hb, hk⟩; refine ⟨_, rfl, ?_⟩; have n0_ := Aside0.mk (KeepBut.blk hk (by first | (with_reducible exact BK165.out) | ((with_reducible repeat (first | refine blk_drewN ?_ _ | refine blk_drew ?_ | refine blk_alloc ?_ _)); exact BK165.out)) NB165_0.out (by simp)); have n1_ := Aside0.mk (Kd.R_lower ho0 (keep_size (w := w) (g := g) (row := none) (by repeat (first | (with_reducible first | exact HK.out | apply KeepBut.set_ | apply keep_drewN | apply keep_drew | apply keep_alloc | refine keep_far ?_ GW165.out _) | exact HK.out)))); have n2_ := Aside0.mk (KeepBut.trans (by repeat (first | (with_reducible first | exact HK.out | apply KeepBut.set_ | apply keep_drewN | apply keep_drew | apply keep_alloc | refine keep_far ?_ GW165.out _) | exact HK.out)) hk (.inl rfl)); have n3_ := Aside0.mk (hb); have n4_ := Aside0.mk (hi); clear BK165 HK HB HI0; have BK165 := n0_; have HO170 := n1_; have HK := n2_; have HB := n3_; have HI0 := n4_; clear n0_ n1_ n2_ n3_ n4_; (try clear hb); (try clear hb2); (try clear hk); (try clear hi); (try clear ho0)) | ((with_reducible refine gate_dst (N := 9) rfl ?_); refine Kd.R_lit (Kd.int .i64) _ 3 ?hg (N := 9) ?hd (xs := ([3, 2, 5] : List Int)) (inner := [.int .i64 3, .int .i64 2, .int .i64 5]) (ok := fun _ => True) (okp := fun _ => True) ?hr ?hp (fun _ hk => hk) trivial (Below.refl _ _) (Nat.le_refl _) (by simp) ?_; (case hd => rfl); (case hg => rfl); (case hr => first | (go_simp; done) | (go_simp; rfl)); (case hp => exact (Reps.one (show Kd.M (Kd.int .i64) _ _ _ 3 [.int .i64 3] from rfl) (Reps.one (show Kd.M (Kd.int .i64) _ _ _ 2 [.int .i64 2] from rfl) (Reps.one (show Kd.M (Kd.int .i64) _ _ _ 5 [.int .i64 5] from rfl) (Reps.none _ _))))); intro v174 w6 ho7 hb hg_ hnew_; clear hg_ hnew_; (first | rw [← Ny173.out] at ho7 | (simp only [Int.reduceToNat] at ho7; rw [← Ny173.out] at ho7)); have n0_ := Aside0.mk (Kd.R_elder' (by (with_reducible repeat (first | apply Kd.R_alloc | apply Kd.R_drewN | apply Kd.R_drew)); exact HO170.out) (Kd.R_base ho7) hb); have n1_ := Aside0.mk (Kd.R_lower (Kd.R_new' ho7 (Kd.R_lt (by (with_reducible repeat (first | apply Kd.R_alloc | apply Kd.R_drewN | apply Kd.R_drew)); exact HO170.out))) (keep_size (w := w) (g := g) (row := none) (by repeat (first | (with_reducible first | exact HK.out | apply KeepBut.set_ | apply keep_drewN | apply keep_drew | apply keep_alloc | refine keep_far ?_ GW165.out _) | exact HK.out)))); have n2_ := Aside0.mk (IsS66.below (by repeat (first | (with_reducible first | exact HI0.out | apply IsS66.alloc | apply IsS66.drewN | apply IsS66.drew | apply IsS66.set_1 | apply IsS66.set_2 | refine IsS66.far ?_ NB0_165.out _) | exact HI0.out)) hb); have n3_ := Aside0.mk (blk_below (by first | (with_reducible exact BK165.out) | ((with_reducible repeat (first | refine blk_drewN ?_ _ | refine blk_drew ?_ | refine blk_alloc ?_ _)); exact BK165.out)) hb); have n4_ := Aside0.mk (KeepBut.trans (by repeat (first | (with_reducible first | exact HK.out | apply KeepBut.set_ | apply keep_drewN | apply keep_drew | apply keep_alloc | refine keep_far ?_ GW165.out _) | exact HK.out)) (KeepBut.of_below hb g none) (.inl rfl)); have n5_ := Aside0.mk (below_step (by repeat (first | (with_reducible first | exact HB.out | apply below_alloc | apply pw_below_drewN | apply below_drew1 | refine below_set ?_ (IsS66.ge HI0.out) | refine below_set ?_ GE165.out) | exact HB.out)) hb); clear HO170 HI0 BK165 HK HB; have HO170 := n0_; have HO175 := n1_; have HI0 := n2_; have BK165 := n3_; have HK := n4_; have HB := n5_; clear n0_ n1_ n2_ n3_ n4_ n5_ hb ho7; obtain ⟨Ao8, co8, eo8⟩ := Kd.R_slice HO175.out; subst eo8) | ((with_reducible refine gate_callee (f := 66) rfl ?_); refine goesL_ (some 10) rfl rfl Tryd.func66 (by kernel_rfl) rfl #[.pointer (some ⟨g, 0, none⟩), .slice Ao8 y173.length co8] rfl (by first | rfl | (simp only [List.map_toArray, List.map_cons, List.map_nil, List.length_drop, List.length_take]; first | done | rfl)) ?_; (with_reducible refine (spec_l1Cur_among.calls g s0_0 t171 t172 _ _ y173 t176 t177 t178 w0 _ ?side1 ?side2 ?side3 ?side4 ?side5 A3.out).mono ?_); (case side1 => exact HI0.out); (case side2 => exact HB.out); (case side3 => repeat (first | exact (Kd.R_reads' HO175.out).2.2 | (with_reducible refine Kd.C_alloc ?_ _) | (with_reducible refine Kd.C_drewN ?_ _) | (with_reducible refine Kd.C_drew ?_))); (case side4 => exact (Kd.R_reads' HO175.out).2.1); (case side5 => exact far_slice (IsS66.own_ne HI0.out HO175.out (by decide))); rintro e w9 ⟨rfl, hi, hb, hk⟩; refine ⟨_, rfl, ?_⟩; have n0_ := Aside0.mk (KeepBut.blk hk (by first | (with_reducible exact BK165.out) | ((with_reducible repeat (first | refine blk_drewN ?_ _ | refine blk_drew ?_ | refine blk_alloc ?_ _)); exact BK165.out)) NB165_0.out (by simp)); have n1_ := Aside0.mk (Kd.R_mono (Kd.R_keep (IsS66.apart (show IsS66 w0 _ g s0_0 t171 t172 from by repeat (first | (with_reducible first | exact HI0.out | apply IsS66.alloc | apply IsS66.drewN | apply IsS66.drew | apply IsS66.set_1 | apply IsS66.set_2 | refine IsS66.far ?_ NB0_165.out _) | exact HI0.out)) (by (with_reducible repeat (first | apply Kd.R_alloc | apply Kd.R_drewN | apply Kd.R_drew)); exact HO170.out) (by decide)) hk (fun _ h => h.2)) (fun _ h => h.1)); have n2_ := Aside0.mk (Kd.R_mono (Kd.R_keep (IsS66.apart (show IsS66 w0 _ g s0_0 t171 t172 from by repeat (first | (with_reducible first | exact HI0.out | apply IsS66.alloc | apply IsS66.drewN | apply IsS66.drew | apply IsS66.set_1 | apply IsS66.set_2 | refine IsS66.far ?_ NB0_165.out _) | exact HI0.out)) (by (with_reducible repeat (first | apply Kd.R_alloc | apply Kd.R_drewN | apply Kd.R_drew)); exact HO175.out) (by decide)) hk (fun _ h => h.2)) (fun _ h => h.1)); have n3_ := Aside0.mk (KeepBut.trans (by repeat (first | (with_reducible first | exact HK.out | apply KeepBut.set_ | apply keep_drewN | apply keep_drew | apply keep_alloc | refine keep_far ?_ GW165.out _) | exact HK.out)) hk (.inl rfl)); have n4_ := Aside0.mk (hb); have n5_ := Aside0.mk (hi); clear BK165 HO170 HO175 HK HB HI0; have BK165 := n0_; have HO170 := n1_; have HO175 := n2_; have HK := n3_; have HB := n4_; have HI0 := n5_; clear n0_ n1_ n2_ n3_ n4_ n5_; (try clear hb); (try clear hb2); (try clear hk); (try clear hi)) | ((with_reducible refine gate_dst (N := 3) rfl ?_); refine box_event ?hg (N := 3) ?hd (cs := #[.int .i64 0, .bool false, .slice none 0 0]) (t := 26) ?hr ?_; (case hd => rfl); (case hg => rfl); (case hr => first | (go_simp; done) | (go_simp; rfl)); intro gb179 hg w10 hbox hb; have n0_ := Aside0.mk (Kd.R_below (by (with_reducible repeat (first | apply Kd.R_alloc | apply Kd.R_drewN | apply Kd.R_drew)); exact HO170.out) hb); have n1_ := Aside0.mk (Kd.R_below (by (with_reducible repeat (first | apply Kd.R_alloc | apply Kd.R_drewN | apply Kd.R_drew)); exact HO175.out) hb); have n2_ := Aside0.mk (IsS66.below (by repeat (first | (with_reducible first | exact HI0.out | apply IsS66.alloc | apply IsS66.drewN | apply IsS66.drew | apply IsS66.set_1 | apply IsS66.set_2 | refine IsS66.far ?_ NB0_165.out _) | exact HI0.out)) hb); have n3_ := Aside0.mk (blk_below (by first | (with_reducible exact BK165.out) | ((with_reducible repeat (first | refine blk_drewN ?_ _ | refine blk_drew ?_ | refine blk_alloc ?_ _)); exact BK165.out)) hb); have n4_ := Aside0.mk (KeepBut.trans (by repeat (first | (with_reducible first | exact HK.out | apply KeepBut.set_ | apply keep_drewN | apply keep_drew | apply keep_alloc | refine keep_far ?_ GW165.out _) | exact HK.out)) (KeepBut.of_below hb g none) (.inl rfl)); have n5_ := Aside0.mk (below_step (by repeat (first | (with_reducible first | exact HB.out | apply below_alloc | apply pw_below_drewN | apply below_drew1 | refine below_set ?_ (IsS66.ge HI0.out) | refine below_set ?_ GE165.out) | exact HB.out)) hb); have n6_ := Aside0.mk (hbox); have n7_ := Aside0.mk ((by rw [hg]; exact (keep_size (w := w) (g := g) (row := none) (by repeat (first | (with_reducible first | exact HK.out | apply KeepBut.set_ | apply keep_drewN | apply keep_drew | apply keep_alloc | refine keep_far ?_ GW165.out _) | exact HK.out))) : w.heap.size ≤ gb179)); have n8_ := Aside0.mk ((Nat.le_trans HW0.out (by rw [hg]; exact (keep_size (w := w) (g := g) (row := none) (by repeat (first | (with_reducible first | exact HK.out | apply KeepBut.set_ | apply keep_drewN | apply keep_drew | apply keep_alloc | refine keep_far ?_ GW165.out _) | exact HK.out))) : w.heap.size ≤ gb179) : w0.heap.size ≤ gb179)); have n9_ := Aside0.mk ((by rw [hg]; exact Nat.ne_of_lt (blk_lt (by first | (with_reducible exact BK165.out) | ((with_reducible repeat (first | refine blk_drewN ?_ _ | refine blk_drew ?_ | refine blk_alloc ?_ _)); exact BK165.out))) : gb165 ≠ gb179)); have n10_ := Aside0.mk ((by rw [hg]; exact Nat.ne_of_gt (blk_lt (by first | (with_reducible exact BK165.out) | ((with_reducible repeat (first | refine blk_drewN ?_ _ | refine blk_drew ?_ | refine blk_alloc ?_ _)); exact BK165.out))) : gb179 ≠ gb165)); have n11_ := Aside0.mk ((by rw [hg]; exact Nat.ne_of_lt (IsS66.lt (show IsS66 w0 _ g s0_0 t177 t178 from by repeat (first | (with_reducible first | exact HI0.out | apply IsS66.alloc | apply IsS66.drewN | apply IsS66.drew | apply IsS66.set_1 | apply IsS66.set_2 | refine IsS66.far ?_ NB0_165.out _) | exact HI0.out))) : g ≠ gb179)); have n12_ := Aside0.mk ((by rw [hg]; exact Nat.ne_of_gt (IsS66.lt (show IsS66 w0 _ g s0_0 t177 t178 from by repeat (first | (with_reducible first | exact HI0.out | apply IsS66.alloc | apply IsS66.drewN | apply IsS66.drew | apply IsS66.set_1 | apply IsS66.set_2 | refine IsS66.far ?_ NB0_165.out _) | exact HI0.out))) : gb179 ≠ g)); clear HO170 HO175 HI0 BK165 HK HB; have HO170 := n0_; have HO175 := n1_; have HI0 := n2_; have BK165 := n3_; have HK := n4_; have HB := n5_; have BK179 := n6_; have GW179 := n7_; have GE179 := n8_; have NB165_179 := n9_; have NB179_165 := n10_; have NB0_179 := n11_; have NB179_0 := n12_; clear n0_ n1_ n2_ n3_ n4_ n5_ n6_ n7_ n8_ n9_ n10_ n11_ n12_ hb hbox hg; have hnb11 := NB179_165.out; have hnc11 := NB165_179.out; have hnb12 := NB179_0.out; have hnc12 := NB0_179.out; have hcz13_0 : w10.cell? ⟨gb179, 0, none⟩ = some (.int .i64 0) := (blk_cell BK179.out 0).trans rfl; have hcz13_1 : w10.cell? ⟨gb179, 1, none⟩ = some (.bool false) := (blk_cell BK179.out 1).trans rfl; have hcz13_2 : w10.cell? ⟨gb179, 2, none⟩ = some (.slice none 0 0) := (blk_cell BK179.out 2).trans rfl; have hfz13_0 := blk_frozen BK179.out 0; have hfz13_1 := blk_frozen BK179.out 1; have hfz13_2 := blk_frozen BK179.out 2; obtain ⟨Ao14, co14, eo14⟩ := Kd.R_slice HO170.out; subst eo14))
 go_loopg [5] k (fun kq v5 w' => ∃ (x5_1 : Int) (x1001_1 : Int) (x1002_1 : Int) (x180002_1 : List Int) (u180002 : Value), v5 = .int .i64 x5_1 ∧ Aside0 (spec_l1Cur_row.l0 kq t176 x5_1 s0_0 x1001_1 x1002_1 t166 t167 x180002_1 = some (r1, r2, r3, r4, r5)) ∧ Aside0 (kq ≤ k) ∧ Aside0 (Kd.R (Kd.int .i64) 3 w' w.heap.size (fun _ => True) u180002 x180002_1) ∧ Aside0 (w'.heap[gb165]? = some (.cells #[.int .i64 0, .bool false, (.slice none 0 0)] 26 (0, 0))) ∧ Aside0 (w'.heap[gb179]? = some (.cells #[.int .i64 t166, .bool t167, u180002] 26 (0, 0))) ∧ Aside0 (IsS66 w0 w' g s0_0 x1001_1 x1002_1) ∧ Aside0 (KeepBut w w' g none) ∧ Aside0 (Below w0.heap.size w0 w'))
 case atStart => exact ⟨(0), (t177), (t178), (t168), (.slice Ao14 t168.length co14), (by first | rfl | (simp; done) | (simp [*]; done)), H', ⟨Nat.le_refl _⟩, ⟨by (with_reducible repeat (first | apply Kd.R_alloc | apply Kd.R_drewN | apply Kd.R_drew)); exact Kd.R_mono (Kd.R_far (p := ⟨gb179, 2, none⟩) (Kd.R_far (p := ⟨gb179, 1, none⟩) (Kd.R_far (p := ⟨gb179, 0, none⟩) (Kd.R_types HO170.out BK179.out (by decide)) (fun _ hk => hk.2) (.int .i64 t166)) (fun _ hk => hk.2) (.bool t167)) (fun _ hk => hk.2) (.slice Ao14 t168.length co14)) (fun _ hk => trivial)⟩, ⟨by (with_reducible repeat (first | refine blk_drewN ?_ _ | refine blk_drew ?_ | refine blk_alloc ?_ _)); refine blk_far ?_ NB165_179.out _; (with_reducible repeat (first | refine blk_drewN ?_ _ | refine blk_drew ?_ | refine blk_alloc ?_ _)); refine blk_far ?_ NB165_179.out _; (with_reducible repeat (first | refine blk_drewN ?_ _ | refine blk_drew ?_ | refine blk_alloc ?_ _)); refine blk_far ?_ NB165_179.out _; (with_reducible repeat (first | refine blk_drewN ?_ _ | refine blk_drew ?_ | refine blk_alloc ?_ _)); exact BK165.out⟩, ⟨by (with_reducible repeat (first | refine blk_drewN ?_ _ | refine blk_drew ?_ | refine blk_alloc ?_ _)); refine blk_put (cs := #[.int .i64 t166, .bool t167, .slice none 0 0]) ?_ 2 _ rfl; (with_reducible repeat (first | refine blk_drewN ?_ _ | refine blk_drew ?_ | refine blk_alloc ?_ _)); refine blk_put (cs := #[.int .i64 t166, .bool false, .slice none 0 0]) ?_ 1 _ rfl; (with_reducible repeat (first | refine blk_drewN ?_ _ | refine blk_drew ?_ | refine blk_alloc ?_ _)); refine blk_put (cs := #[.int .i64 0, .bool false, .slice none 0 0]) ?_ 0 _ rfl; (with_reducible repeat (first | refine blk_drewN ?_ _ | refine blk_drew ?_ | refine blk_alloc ?_ _)); exact BK179.out⟩, ⟨by repeat (first | (with_reducible first | exact HI0.out | apply IsS66.alloc | apply IsS66.drewN | apply IsS66.drew | apply IsS66.set_1 | apply IsS66.set_2 | refine IsS66.far ?_ NB0_165.out _ | refine IsS66.far ?_ NB0_179.out _) | exact HI0.out)⟩, ⟨by repeat (first | (with_reducible first | exact HK.out | apply KeepBut.set_ | apply keep_drewN | apply keep_drew | apply keep_alloc | refine keep_far ?_ GW165.out _ | refine keep_far ?_ GW179.out _) | exact HK.out)⟩, ⟨by repeat (first | (with_reducible first | exact HB.out | apply below_alloc | apply pw_below_drewN | apply below_drew1 | refine below_set ?_ (IsS66.ge HI0.out) | refine below_set ?_ GE165.out | refine below_set ?_ GE179.out) | exact HB.out)⟩⟩
 case round =>
  clear H'
  try clear c1
  try clear p2
  try clear c5
  try clear c6
  try clear c11
  try clear c12
  try clear hcz13_0
  try clear hcz13_1
  try clear hcz13_2
  try clear hfz13_0
  try clear hfz13_1
  try clear hfz13_2
  obtain ⟨x5_1, x1001_1, x1002_1, x180002_1, u180002, rfl, HA, HK1, HO_180002, BK165, BK179, HI0, HK, HB⟩ := hrel
  cases gk with
  | zero => exact absurd HA.out (by simp [spec_l1Cur_row.l0])
  | succ k1 =>
   have H := HA.out
   clear HA
   simp only [spec_l1Cur_row.l0] at H
   have HC15 := Aside0.mk H
   clear H
   go_upto_region 3 with (fail)
   go_cut [18] (fun v18 wc => ∃ (kq : Nat) (x18_14 : Bool), v18 = .bool x18_14 ∧ Aside0 (spec_l1Cur_row.j1 kq t176 x5_1 x18_14 s0_0 x1001_1 x1002_1 t166 t167 x180002_1 = some (r1, r2, r3, r4, r5)) ∧ Aside0 (kq ≤ k1) ∧ Aside0 (Kd.R (Kd.int .i64) 3 wc w.heap.size (fun _ => True) u180002 x180002_1) ∧ Aside0 (wc.heap[gb165]? = some (.cells #[.int .i64 0, .bool false, (.slice none 0 0)] 26 (0, 0))) ∧ Aside0 (wc.heap[gb179]? = some (.cells #[.int .i64 t166, .bool t167, u180002] 26 (0, 0))) ∧ Aside0 (IsS66 w0 wc g s0_0 x1001_1 x1002_1) ∧ Aside0 (KeepBut w wc g none) ∧ Aside0 (Below w0.heap.size w0 wc))
   case first =>
    have H := HC15.out
    clear HC15
    by_cases c16 : x5_1 < t166
    ·rw [if_pos c16] at H
     have c16b0 : decide (x5_1 < t166) = true := decide_eq_true c16
     clear c16
     (first | rw [c16b0] | (simp only [i64_w, i32_w]; rw [c16b0]) | rw [c16b1] | skip)
     have H' := Aside0.mk H
     clear H
     have hnb17 := NB179_165.out
     have hnc17 := NB165_179.out
     have hnb18 := NB179_0.out
     have hnc18 := NB0_179.out
     have hcz19_0 : wr.cell? ⟨gb179, 0, none⟩ = some (.int .i64 t166) := (blk_cell BK179.out 0).trans rfl
     have hcz19_1 : wr.cell? ⟨gb179, 1, none⟩ = some (.bool t167) := (blk_cell BK179.out 1).trans rfl
     have hcz19_2 : wr.cell? ⟨gb179, 2, none⟩ = some (u180002) := (blk_cell BK179.out 2).trans rfl
     have hfz19_0 := blk_frozen BK179.out 0
     have hfz19_1 := blk_frozen BK179.out 1
     have hfz19_2 := blk_frozen BK179.out 2
     go_wp2
     go_meet
     case rel => exact ⟨_, (decide (x5_1 < 25)), (by first | rfl | (simp; done) | (simp [*]; done)), H', ⟨by have := HK1.out; first | omega | exact Nat.le_refl _⟩, ⟨by (with_reducible repeat (first | apply Kd.R_alloc | apply Kd.R_drewN | apply Kd.R_drew)); exact HO_180002.out⟩, ⟨BK165.out⟩, ⟨BK179.out⟩, ⟨HI0.out⟩, ⟨HK.out⟩, ⟨HB.out⟩⟩
    ·rw [if_neg c16] at H
     have c16b0 : decide (x5_1 < t166) = false := decide_eq_false c16
     clear c16
     (first | rw [c16b0] | (simp only [i64_w, i32_w]; rw [c16b0]) | rw [c16b1] | skip)
     have H' := Aside0.mk H
     clear H
     have hnb20 := NB179_165.out
     have hnc20 := NB165_179.out
     have hnb21 := NB179_0.out
     have hnc21 := NB0_179.out
     have hcz22_0 : wr.cell? ⟨gb179, 0, none⟩ = some (.int .i64 t166) := (blk_cell BK179.out 0).trans rfl
     have hcz22_1 : wr.cell? ⟨gb179, 1, none⟩ = some (.bool t167) := (blk_cell BK179.out 1).trans rfl
     have hcz22_2 : wr.cell? ⟨gb179, 2, none⟩ = some (u180002) := (blk_cell BK179.out 2).trans rfl
     have hfz22_0 := blk_frozen BK179.out 0
     have hfz22_1 := blk_frozen BK179.out 1
     have hfz22_2 := blk_frozen BK179.out 2
     go_wp2
     go_meet
     case rel => exact ⟨_, (false), (by first | rfl | (simp; done) | (simp [*]; done)), H', ⟨by have := HK1.out; first | omega | exact Nat.le_refl _⟩, ⟨by (with_reducible repeat (first | apply Kd.R_alloc | apply Kd.R_drewN | apply Kd.R_drew)); exact HO_180002.out⟩, ⟨BK165.out⟩, ⟨BK179.out⟩, ⟨HI0.out⟩, ⟨HK.out⟩, ⟨HB.out⟩⟩
   case rest =>
    clear HC15
    try clear c1
    try clear c2
    try clear p2
    try clear c5
    try clear c6
    try clear c11
    try clear c12
    try clear c16
    try clear c16b0
    try clear c16b1
    try clear c17
    try clear c18
    try clear c20
    try clear c21
    try clear hcz13_0
    try clear hcz13_1
    try clear hcz13_2
    try clear hcz19_0
    try clear hcz19_1
    try clear hcz19_2
    try clear hcz22_0
    try clear hcz22_1
    try clear hcz22_2
    try clear hfz13_0
    try clear hfz13_1
    try clear hfz13_2
    try clear hfz19_0
    try clear hfz19_1
    try clear hfz19_2
    try clear hfz22_0
    try clear hfz22_1
    try clear hfz22_2
    try clear p2
    obtain ⟨kq, x18_14, rfl, HA, HJ14, HO_180002, BK165, BK179, HI0, HK, HB⟩ := hcut
    cases kq with
    | zero => exact absurd HA.out (by simp [spec_l1Cur_row.j1])
    | succ kj14 =>
     have H := HA.out
     clear HA
     simp only [spec_l1Cur_row.j1] at H
     by_cases c23 : x18_14 = true
     ·subst c23
      rw [if_pos rfl] at H
      replace H := Option.bind_eq_some_iff.mp H
      obtain ⟨⟨t180, t181, t182⟩, A240, H⟩ := H
      try dsimp only at H
      have A24 := Aside0.mk A240
      clear A240
      by_cases c25 : t180 = true
      ·subst c25
       rw [if_pos rfl] at H
       by_cases c26 : x180002_1.length < 17592186044416
       ·rw [if_pos c26] at H
        have LMc26 := Aside0.mk c26
        clear c26
        obtain ⟨y183, hy183⟩ : ∃ y_ : List Int, y_ = (x180002_1 ++ [x5_1]) := ⟨_, rfl⟩
        replace H : (spec_l1Cur_row.l0 kj14 t176 (wrap64 (x5_1 + 1)) s0_0 t181 t182 t166 t167 y183) = some (r1, r2, r3, r4, r5) := by first | (rw [hy183]; with_reducible exact H) | (have H2_ := (Option.bind_some _ _).symm.trans H; rw [hy183]; with_reducible exact H2_) | (have H2_ := (Option.bind_some _ _).symm.trans H; with_reducible exact H2_) | with_reducible exact H | (rw [hy183]; exact H) | exact H
        have Ny183 := Aside0.mk hy183
        clear hy183
        have H' := Aside0.mk H
        clear H
        go_wp2_with (first | ((with_reducible refine gate_callee (f := 51) rfl ?_); refine goesL_ (some 23) rfl rfl Tryd.func51 (by kernel_rfl) rfl #[.pointer (some ⟨g, 0, none⟩), .int .i64 t176] rfl (by first | rfl | (simp only [List.map_toArray, List.map_cons, List.map_nil, List.length_drop, List.length_take]; first | done | rfl)) ?_; (with_reducible refine (spec_l1Cur_one.calls g s0_0 x1001_1 x1002_1 t176 true t181 t182 w0 _ ?side1 ?side2 A24.out).mono ?_); (case side1 => exact HI0.out); (case side2 => exact HB.out); rintro e w27 ⟨rfl, hi, hb, hk⟩; refine ⟨_, rfl, ?_⟩; replace HO_180002 := Aside0.mk (Kd.R_mono (Kd.R_keep (IsS66.apart (show IsS66 w0 _ g s0_0 x1001_1 x1002_1 from by repeat (first | (with_reducible first | exact HI0.out | apply IsS66.alloc | apply IsS66.drewN | apply IsS66.drew | apply IsS66.set_1 | apply IsS66.set_2 | refine IsS66.far ?_ NB0_165.out _ | refine IsS66.far ?_ NB0_179.out _) | exact HI0.out)) (by (with_reducible repeat (first | apply Kd.R_alloc | apply Kd.R_drewN | apply Kd.R_drew)); exact HO_180002.out) (by decide)) hk (fun _ h => h.2)) (fun _ h => h.1)); replace BK165 := Aside0.mk (KeepBut.blk hk (by first | (with_reducible exact BK165.out) | ((with_reducible repeat (first | refine blk_drewN ?_ _ | refine blk_drew ?_ | refine blk_alloc ?_ _)); exact BK165.out)) NB165_0.out (by simp)); replace BK179 := Aside0.mk (KeepBut.blk hk (by first | (with_reducible exact BK179.out) | ((with_reducible repeat (first | refine blk_drewN ?_ _ | refine blk_drew ?_ | refine blk_alloc ?_ _)); exact BK179.out)) NB179_0.out (by simp)); replace HK := Aside0.mk (KeepBut.trans (by repeat (first | (with_reducible first | exact HK.out | apply KeepBut.set_ | apply keep_drewN | apply keep_drew | apply keep_alloc | refine keep_far ?_ GW165.out _ | refine keep_far ?_ GW179.out _) | exact HK.out)) hk (.inl rfl)); replace HB := Aside0.mk (hb); replace HI0 := Aside0.mk (hi); (try clear hb); (try clear hb2); (try clear hk); (try clear hi); have hnb28 := NB179_165.out; have hnc28 := NB165_179.out; have hnb29 := NB179_0.out; have hnc29 := NB0_179.out; have hcz30_0 : w27.cell? ⟨gb179, 0, none⟩ = some (.int .i64 t166) := (blk_cell BK179.out 0).trans rfl; have hcz30_1 : w27.cell? ⟨gb179, 1, none⟩ = some (.bool t167) := (blk_cell BK179.out 1).trans rfl; have hcz30_2 : w27.cell? ⟨gb179, 2, none⟩ = some (u180002) := (blk_cell BK179.out 2).trans rfl; have hfz30_0 := blk_frozen BK179.out 0; have hfz30_1 := blk_frozen BK179.out 1; have hfz30_2 := blk_frozen BK179.out 2) | ((with_reducible refine gate_builtin (b := .append) (xs := #[.tmp 25, .tmp 27]) rfl ?_); at_builtin; refine Kd.R_append (Kd.int .i64) w.heap.size rfl (.tmp 25) (.tmp 27) 24 3 (.int .i64 0) 8 rfl Tryd.underlying24 info3 rfl (by decide) (by omega) u180002 x180002_1 x5_1 [.int .i64 x5_1] (fun _ => True) (fun _ => False) rfl rfl ?aP (fun _ hk => hk.elim) ?aF ?aO (Below.refl _ _) ?aS ?aL ?_; (case aP => exact rfl); (case aF => exact (fun _ _ => trivial)); (case aO => exact (by (with_reducible repeat (first | apply Kd.R_alloc | apply Kd.R_drewN | apply Kd.R_drew)); exact HO_180002.out)); (case aS => exact (keep_size (w := w) (g := g) (row := none) (by repeat (first | (with_reducible first | exact HK.out | apply KeepBut.set_ | apply keep_drewN | apply keep_drew | apply keep_alloc | refine keep_far ?_ GW165.out _ | refine keep_far ?_ GW179.out _) | exact HK.out)))); (case aL => have := LMc26.out; omega); intro v184 w31 ho hb hg hat; rw [← Ny183.out] at ho; replace BK165 := Aside0.mk (blk_grown (by first | (with_reducible exact BK165.out) | ((with_reducible repeat (first | refine blk_drewN ?_ _ | refine blk_drew ?_ | refine blk_alloc ?_ _)); exact BK165.out)) hg (Kd.R_ne HO_180002.out BK165.out (by decide))); replace BK179 := Aside0.mk (blk_grown (by first | (with_reducible exact BK179.out) | ((with_reducible repeat (first | refine blk_drewN ?_ _ | refine blk_drew ?_ | refine blk_alloc ?_ _)); exact BK179.out)) hg (Kd.R_ne HO_180002.out BK179.out (by decide))); replace HI0 := Aside0.mk (IsS66.grown (by repeat (first | (with_reducible first | exact HI0.out | apply IsS66.alloc | apply IsS66.drewN | apply IsS66.drew | apply IsS66.set_1 | apply IsS66.set_2 | refine IsS66.far ?_ NB0_165.out _ | refine IsS66.far ?_ NB0_179.out _) | exact HI0.out)) hg (IsS66.own_ne HI0.out HO_180002.out (by decide))); replace HB := Aside0.mk (below_weaken (by repeat (first | (with_reducible first | exact HB.out | apply below_alloc | apply pw_below_drewN | apply below_drew1 | refine below_set ?_ (IsS66.ge HI0.out) | refine below_set ?_ GE165.out | refine below_set ?_ GE179.out) | exact HB.out)) HL.out hb); replace HK := Aside0.mk (KeepBut.trans (by repeat (first | (with_reducible first | exact HK.out | apply KeepBut.set_ | apply keep_drewN | apply keep_drew | apply keep_alloc | refine keep_far ?_ GW165.out _ | refine keep_far ?_ GW179.out _) | exact HK.out)) (KeepBut.of_grown hg g) (Kd.R_base2 HO_180002.out)); have HO185 := Aside0.mk (ho); clear HO_180002 ho hb hg hat; obtain ⟨Ao32, co32, eo32⟩ := Kd.R_slice HO185.out; subst eo32; have hcz33_0 : w31.cell? ⟨gb179, 0, none⟩ = some (.int .i64 t166) := (blk_cell BK179.out 0).trans rfl; have hcz33_1 : w31.cell? ⟨gb179, 1, none⟩ = some (.bool t167) := (blk_cell BK179.out 1).trans rfl; have hcz33_2 : w31.cell? ⟨gb179, 2, none⟩ = some (u180002) := (blk_cell BK179.out 2).trans rfl; have hfz33_0 := blk_frozen BK179.out 0; have hfz33_1 := blk_frozen BK179.out 1; have hfz33_2 := blk_frozen BK179.out 2))
        go_roundg kj14
        case measure => have := HK1.out; have := HJ14.out; omega
        case rel => exact ⟨(wrap64 (x5_1 + 1)), (t181), (t182), (y183), (.slice Ao32 y183.length co32), (by first | rfl | (simp; done) | (simp [*]; done)), H', ⟨by have := HK1.out; have := HJ14.out; omega⟩, ⟨by (with_reducible repeat (first | apply Kd.R_alloc | apply Kd.R_drewN | apply Kd.R_drew)); exact Kd.R_mono (Kd.R_far (p := ⟨gb179, 2, none⟩) (Kd.R_types HO185.out BK179.out (by decide)) (fun _ hk => hk.2) (.slice Ao32 y183.length co32)) (fun _ hk => trivial)⟩, ⟨by (with_reducible repeat (first | refine blk_drewN ?_ _ | refine blk_drew ?_ | refine blk_alloc ?_ _)); refine blk_far ?_ NB165_179.out _; (with_reducible repeat (first | refine blk_drewN ?_ _ | refine blk_drew ?_ | refine blk_alloc ?_ _)); exact BK165.out⟩, ⟨by (with_reducible repeat (first | refine blk_drewN ?_ _ | refine blk_drew ?_ | refine blk_alloc ?_ _)); refine blk_put (cs := #[.int .i64 t166, .bool t167, u180002]) ?_ 2 _ rfl; (with_reducible repeat (first | refine blk_drewN ?_ _ | refine blk_drew ?_ | refine blk_alloc ?_ _)); exact BK179.out⟩, ⟨by repeat (first | (with_reducible first | exact HI0.out | apply IsS66.alloc | apply IsS66.drewN | apply IsS66.drew | apply IsS66.set_1 | apply IsS66.set_2 | refine IsS66.far ?_ NB0_165.out _ | refine IsS66.far ?_ NB0_179.out _) | exact HI0.out)⟩, ⟨by repeat (first | (with_reducible first | exact HK.out | apply KeepBut.set_ | apply keep_drewN | apply keep_drew | apply keep_alloc | refine keep_far ?_ GW165.out _ | refine keep_far ?_ GW179.out _) | exact HK.out)⟩, ⟨by repeat (first | (with_reducible first | exact HB.out | apply below_alloc | apply pw_below_drewN | apply below_drew1 | refine below_set ?_ (IsS66.ge HI0.out) | refine below_set ?_ GE165.out | refine below_set ?_ GE179.out) | exact HB.out)⟩⟩
       ·rw [if_neg c26] at H
        exact absurd H (by simp)
      ·replace c25 := Bool.eq_false_iff.mpr c25
       subst c25
       rw [if_neg (show ¬ (false = true) by decide)] at H
       have H' := Aside0.mk H
       clear H
       go_wp2_with (first | ((with_reducible refine gate_callee (f := 51) rfl ?_); refine goesL_ (some 23) rfl rfl Tryd.func51 (by kernel_rfl) rfl #[.pointer (some ⟨g, 0, none⟩), .int .i64 t176] rfl (by first | rfl | (simp only [List.map_toArray, List.map_cons, List.map_nil, List.length_drop, List.length_take]; first | done | rfl)) ?_; (with_reducible refine (spec_l1Cur_one.calls g s0_0 x1001_1 x1002_1 t176 false t181 t182 w0 _ ?side1 ?side2 A24.out).mono ?_); (case side1 => exact HI0.out); (case side2 => exact HB.out); rintro e w34 ⟨rfl, hi, hb, hk⟩; refine ⟨_, rfl, ?_⟩; replace HO_180002 := Aside0.mk (Kd.R_mono (Kd.R_keep (IsS66.apart HI0.out HO_180002.out (by decide)) hk (fun _ h => h.2)) (fun _ h => h.1)); replace BK165 := Aside0.mk (KeepBut.blk hk BK165.out NB165_0.out (by simp)); replace BK179 := Aside0.mk (KeepBut.blk hk BK179.out NB179_0.out (by simp)); replace HK := Aside0.mk (KeepBut.trans HK.out hk (.inl rfl)); replace HB := Aside0.mk (hb); replace HI0 := Aside0.mk (hi); (try clear hb); (try clear hb2); (try clear hk); (try clear hi)))
       go_roundg kj14
       case measure => have := HK1.out; have := HJ14.out; omega
       case rel => exact ⟨(wrap64 (x5_1 + 1)), (t181), (t182), (x180002_1), (u180002), (by first | rfl | (simp; done) | (simp [*]; done)), H', ⟨by have := HK1.out; have := HJ14.out; omega⟩, ⟨by (with_reducible repeat (first | apply Kd.R_alloc | apply Kd.R_drewN | apply Kd.R_drew)); exact HO_180002.out⟩, ⟨BK165.out⟩, ⟨BK179.out⟩, ⟨HI0.out⟩, ⟨HK.out⟩, ⟨HB.out⟩⟩
     ·replace c23 := Bool.eq_false_iff.mpr c23
      subst c23
      rw [if_neg (show ¬ (false = true) by decide)] at H
      have HC35 := Aside0.mk H
      clear H
      go_upto_region 7 with (fail)
      go_cut [35] (fun v35 wc => ∃ (kq : Nat) (x35_34 : Bool) (x1001_34 : Int) (x1002_34 : Int), v35 = .bool x35_34 ∧ Aside0 (spec_l1Cur_row.j2 kq x35_34 s0_0 x1001_34 x1002_34 t166 t167 x180002_1 = some (r1, r2, r3, r4, r5)) ∧ Aside0 (kq ≤ kj14) ∧ Aside0 (Kd.R (Kd.int .i64) 3 wc w.heap.size (fun _ => True) u180002 x180002_1) ∧ Aside0 (wc.heap[gb165]? = some (.cells #[.int .i64 0, .bool false, (.slice none 0 0)] 26 (0, 0))) ∧ Aside0 (wc.heap[gb179]? = some (.cells #[.int .i64 t166, .bool t167, u180002] 26 (0, 0))) ∧ Aside0 (IsS66 w0 wc g s0_0 x1001_34 x1002_34) ∧ Aside0 (KeepBut w wc g none) ∧ Aside0 (Below w0.heap.size w0 wc))
      case first =>
       have H := HC35.out
       clear HC35
       replace H := Option.bind_eq_some_iff.mp H
       obtain ⟨⟨t186, t187, t188⟩, A360, H⟩ := H
       try dsimp only at H
       have A36 := Aside0.mk A360
       clear A360
       by_cases c37 : t186 = true
       ·subst c37
        rw [if_pos rfl] at H
        replace H := Option.bind_eq_some_iff.mp H
        obtain ⟨t189, A380, H⟩ := H
        try dsimp only at H
        have A38 := Aside0.mk A380
        clear A380
        have H' := Aside0.mk H
        clear H
        go_wp2_with (first | ((with_reducible refine gate_callee (f := 51) rfl ?_); refine goesL_ (some 31) rfl rfl Tryd.func51 (by kernel_rfl) rfl #[.pointer (some ⟨g, 0, none⟩), .int .i64 6] rfl (by first | rfl | (simp only [List.map_toArray, List.map_cons, List.map_nil, List.length_drop, List.length_take]; first | done | rfl)) ?_; (with_reducible refine (spec_l1Cur_one.calls g s0_0 x1001_1 x1002_1 6 true t187 t188 w0 _ ?side1 ?side2 A36.out).mono ?_); (case side1 => exact HI0.out); (case side2 => exact HB.out); rintro e w39 ⟨rfl, hi, hb, hk⟩; refine ⟨_, rfl, ?_⟩; replace HO_180002 := Aside0.mk (Kd.R_mono (Kd.R_keep (IsS66.apart HI0.out HO_180002.out (by decide)) hk (fun _ h => h.2)) (fun _ h => h.1)); replace BK165 := Aside0.mk (KeepBut.blk hk BK165.out NB165_0.out (by simp)); replace BK179 := Aside0.mk (KeepBut.blk hk BK179.out NB179_0.out (by simp)); replace HK := Aside0.mk (KeepBut.trans HK.out hk (.inl rfl)); replace HB := Aside0.mk (hb); replace HI0 := Aside0.mk (hi); (try clear hb); (try clear hb2); (try clear hk); (try clear hi); have hnb40 := NB179_165.out; have hnc40 := NB165_179.out; have hnb41 := NB179_0.out; have hnc41 := NB0_179.out; have hcz42_0 : w39.cell? ⟨gb179, 0, none⟩ = some (.int .i64 t166) := (blk_cell BK179.out 0).trans rfl; have hcz42_1 : w39.cell? ⟨gb179, 1, none⟩ = some (.bool t167) := (blk_cell BK179.out 1).trans rfl; have hcz42_2 : w39.cell? ⟨gb179, 2, none⟩ = some (u180002) := (blk_cell BK179.out 2).trans rfl; have hfz42_0 := blk_frozen BK179.out 0; have hfz42_1 := blk_frozen BK179.out 1; have hfz42_2 := blk_frozen BK179.out 2; obtain ⟨Ao43, co43, eo43⟩ := Kd.R_slice HO_180002.out; subst eo43) | (go_at_call 47; (with_reducible refine (spec_l2Row.calls kj14 t166 t167 _ _ x180002_1 t189 _ ?side1 ?side2 A38.out).mono ?_); (case side1 => repeat (first | exact (Kd.R_reads' HO_180002.out).2.2 | (with_reducible refine Kd.C_alloc ?_ _) | (with_reducible refine Kd.C_drewN ?_ _) | (with_reducible refine Kd.C_drew ?_))); (case side2 => exact (Kd.R_reads' HO_180002.out).2.1); rintro e w44 ⟨rfl, hb⟩; replace HO_180002 := Aside0.mk (Kd.R_below HO_180002.out hb); replace BK165 := Aside0.mk (blk_below BK165.out hb); replace BK179 := Aside0.mk (blk_below BK179.out hb); replace HI0 := Aside0.mk (IsS66.below HI0.out hb); replace HK := Aside0.mk (KeepBut.trans HK.out (KeepBut.of_below hb g none) (.inl rfl)); replace HB := Aside0.mk (below_step HB.out hb); (try clear hb); (try clear hb2); (try clear hk); (try clear hi)))
        go_meet
        case rel => exact ⟨_, (t189), (t187), (t188), (by first | rfl | (simp; done) | (simp [*]; done)), H', ⟨by have := HK1.out; have := HJ14.out; first | omega | exact Nat.le_refl _⟩, ⟨by (with_reducible repeat (first | apply Kd.R_alloc | apply Kd.R_drewN | apply Kd.R_drew)); exact HO_180002.out⟩, ⟨BK165.out⟩, ⟨BK179.out⟩, ⟨HI0.out⟩, ⟨HK.out⟩, ⟨HB.out⟩⟩
       ·replace c37 := Bool.eq_false_iff.mpr c37
        subst c37
        rw [if_neg (show ¬ (false = true) by decide)] at H
        have H' := Aside0.mk H
        clear H
        go_wp2_with (first | ((with_reducible refine gate_callee (f := 51) rfl ?_); refine goesL_ (some 31) rfl rfl Tryd.func51 (by kernel_rfl) rfl #[.pointer (some ⟨g, 0, none⟩), .int .i64 6] rfl (by first | rfl | (simp only [List.map_toArray, List.map_cons, List.map_nil, List.length_drop, List.length_take]; first | done | rfl)) ?_; (with_reducible refine (spec_l1Cur_one.calls g s0_0 x1001_1 x1002_1 6 false t187 t188 w0 _ ?side1 ?side2 A36.out).mono ?_); (case side1 => exact HI0.out); (case side2 => exact HB.out); rintro e w45 ⟨rfl, hi, hb, hk⟩; refine ⟨_, rfl, ?_⟩; have n0_ := Aside0.mk (Kd.R_mono (Kd.R_keep (IsS66.apart HI0.out HO_180002.out (by decide)) hk (fun _ h => h.2)) (fun _ h => h.1)); have n1_ := Aside0.mk (KeepBut.blk hk BK165.out NB165_0.out (by simp)); have n2_ := Aside0.mk (KeepBut.blk hk BK179.out NB179_0.out (by simp)); have n3_ := Aside0.mk (KeepBut.trans HK.out hk (.inl rfl)); have n4_ := Aside0.mk (hb); have n5_ := Aside0.mk (hi); clear HO_180002 BK165 BK179 HK HB HI0; have HO_180002 := n0_; have BK165 := n1_; have BK179 := n2_; have HK := n3_; have HB := n4_; have HI0 := n5_; clear n0_ n1_ n2_ n3_ n4_ n5_; (try clear hb); (try clear hb2); (try clear hk); (try clear hi)))
        go_meet
        case rel => exact ⟨_, (false), (t187), (t188), (by first | rfl | (simp; done) | (simp [*]; done)), H', ⟨by have := HK1.out; have := HJ14.out; first | omega | exact Nat.le_refl _⟩, ⟨by (with_reducible repeat (first | apply Kd.R_alloc | apply Kd.R_drewN | apply Kd.R_drew)); exact HO_180002.out⟩, ⟨BK165.out⟩, ⟨BK179.out⟩, ⟨HI0.out⟩, ⟨HK.out⟩, ⟨HB.out⟩⟩
      case rest =>
       clear HC35
       try clear c1
       try clear c2
       try clear p2
       try clear c3
       try clear c4
       try clear c5
       try clear c6
       try clear p6
       try clear c11
       try clear c12
       try clear c16
       try clear c16b0
       try clear c16b1
       try clear c17
       try clear c18
       try clear c20
       try clear c21
       try clear c23
       try clear c25
       try clear c26
       try clear c28
       try clear c29
       try clear c37
       try clear c40
       try clear c41
       try clear hcz13_0
       try clear hcz13_1
       try clear hcz13_2
       try clear hcz19_0
       try clear hcz19_1
       try clear hcz19_2
       try clear hcz22_0
       try clear hcz22_1
       try clear hcz22_2
       try clear hcz30_0
       try clear hcz30_1
       try clear hcz30_2
       try clear hcz33_0
       try clear hcz33_1
       try clear hcz33_2
       try clear hcz42_0
       try clear hcz42_1
       try clear hcz42_2
       try clear hfz13_0
       try clear hfz13_1
       try clear hfz13_2
       try clear hfz19_0
       try clear hfz19_1
       try clear hfz19_2
       try clear hfz22_0
       try clear hfz22_1
       try clear hfz22_2
       try clear hfz30_0
       try clear hfz30_1
       try clear hfz30_2
       try clear hfz33_0
       try clear hfz33_1
       try clear hfz33_2
       try clear hfz42_0
       try clear hfz42_1
       try clear hfz42_2
       try clear p2
       obtain ⟨kq, x35_34, x1001_34, x1002_34, rfl, HA, HJ34, HO_180002, BK165, BK179, HI0, HK, HB⟩ := hcut
       cases kq with
       | zero => exact absurd HA.out (by simp [spec_l1Cur_row.j2])
       | succ kj34 =>
        have H := HA.out
        clear HA
        simp only [spec_l1Cur_row.j2] at H
        have HC46 := Aside0.mk H
        clear H
        go_upto_if 35 with (fail)
        go_cut [] (fun wc => ∃ (kq : Nat) (x180000_45 : Int) (x180001_45 : Bool) (x180002_45 : List Int) (u180002 : Value), Aside0 (spec_l1Cur_row.j3 kq s0_0 x1001_34 x1002_34 x180000_45 x180001_45 x180002_45 = some (r1, r2, r3, r4, r5)) ∧ Aside0 (kq ≤ kj34) ∧ Aside0 (Kd.R (Kd.int .i64) 3 wc w.heap.size (fun _ => True) u180002 x180002_45) ∧ Aside0 (wc.heap[gb165]? = some (.cells #[.int .i64 0, .bool false, (.slice none 0 0)] 26 (0, 0))) ∧ Aside0 (wc.heap[gb179]? = some (.cells #[.int .i64 x180000_45, .bool x180001_45, u180002] 26 (0, 0))) ∧ Aside0 (IsS66 w0 wc g s0_0 x1001_34 x1002_34) ∧ Aside0 (KeepBut w wc g none) ∧ Aside0 (Below w0.heap.size w0 wc))
        case first =>
         have H := HC46.out
         clear HC46
         by_cases c47 : x35_34 = true
         ·subst c47
          rw [if_pos rfl] at H
          replace H := Option.bind_eq_some_iff.mp H
          obtain ⟨⟨t190, t191, t192, t195⟩, A480, H⟩ := H
          try dsimp only at H
          have A48 := Aside0.mk A480
          clear A480
          have H' := Aside0.mk H
          clear H
          have hnb49 := NB179_165.out
          have hnc49 := NB165_179.out
          have hnb50 := NB179_0.out
          have hnc50 := NB0_179.out
          have hcz51_0 : wc.cell? ⟨gb179, 0, none⟩ = some (.int .i64 t166) := (blk_cell BK179.out 0).trans rfl
          have hcz51_1 : wc.cell? ⟨gb179, 1, none⟩ = some (.bool t167) := (blk_cell BK179.out 1).trans rfl
          have hcz51_2 : wc.cell? ⟨gb179, 2, none⟩ = some (u180002) := (blk_cell BK179.out 2).trans rfl
          have hfz51_0 := blk_frozen BK179.out 0
          have hfz51_1 := blk_frozen BK179.out 1
          have hfz51_2 := blk_frozen BK179.out 2
          obtain ⟨Ao52, co52, eo52⟩ := Kd.R_slice HO_180002.out
          subst eo52
          go_wp2_with (first | ((with_reducible refine gate_callee (f := 82) rfl ?_); refine goesL_ (some 38) rfl rfl Tryd.func82 (by kernel_rfl) rfl #[.agg #[.int .i64 t166, .bool t167, .slice Ao52 x180002_1.length co52]] rfl (by first | rfl | (simp only [List.map_toArray, List.map_cons, List.map_nil, List.length_drop, List.length_take]; first | done | rfl)) ?_; (with_reducible refine (spec_OtherSeats.calls kj34 t166 t167 _ _ x180002_1 t190 t191 t192 t195 _ ?side1 ?side2 A48.out).mono ?_); (case side1 => repeat (first | exact (Kd.R_reads' HO_180002.out).2.2 | (with_reducible refine Kd.C_alloc ?_ _) | (with_reducible refine Kd.C_drewN ?_ _) | (with_reducible refine Kd.C_drew ?_))); (case side2 => exact (Kd.R_reads' HO_180002.out).2.1); rintro e w53 ⟨v193, rfl, ho0, hb⟩; refine ⟨_, rfl, ?_⟩; have n0_ := Aside0.mk (Kd.R_elder' (by (with_reducible repeat (first | apply Kd.R_alloc | apply Kd.R_drewN | apply Kd.R_drew)); exact HO_180002.out) (Kd.R_base ho0) hb); have n1_ := Aside0.mk (Kd.R_lower (Kd.R_new' ho0 (Kd.R_lt (by (with_reducible repeat (first | apply Kd.R_alloc | apply Kd.R_drewN | apply Kd.R_drew)); exact HO_180002.out))) (keep_size (w := w) (g := g) (row := none) (by repeat (first | (with_reducible first | exact HK.out | apply KeepBut.set_ | apply keep_drewN | apply keep_drew | apply keep_alloc | refine keep_far ?_ GW165.out _ | refine keep_far ?_ GW179.out _) | exact HK.out)))); have n2_ := Aside0.mk (blk_below (by first | (with_reducible exact BK165.out) | ((with_reducible repeat (first | refine blk_drewN ?_ _ | refine blk_drew ?_ | refine blk_alloc ?_ _)); exact BK165.out)) hb); have n3_ := Aside0.mk (blk_below (by first | (with_reducible exact BK179.out) | ((with_reducible repeat (first | refine blk_drewN ?_ _ | refine blk_drew ?_ | refine blk_alloc ?_ _)); exact BK179.out)) hb); have n4_ := Aside0.mk (IsS66.below (by repeat (first | (with_reducible first | exact HI0.out | apply IsS66.alloc | apply IsS66.drewN | apply IsS66.drew | apply IsS66.set_1 | apply IsS66.set_2 | refine IsS66.far ?_ NB0_165.out _ | refine IsS66.far ?_ NB0_179.out _) | exact HI0.out)) hb); have n5_ := Aside0.mk (KeepBut.trans (by repeat (first | (with_reducible first | exact HK.out | apply KeepBut.set_ | apply keep_drewN | apply keep_drew | apply keep_alloc | refine keep_far ?_ GW165.out _ | refine keep_far ?_ GW179.out _) | exact HK.out)) (KeepBut.of_below hb g none) (.inl rfl)); have n6_ := Aside0.mk (below_step (by repeat (first | (with_reducible first | exact HB.out | apply below_alloc | apply pw_below_drewN | apply below_drew1 | refine below_set ?_ (IsS66.ge HI0.out) | refine below_set ?_ GE165.out | refine below_set ?_ GE179.out) | exact HB.out)) hb); clear HO_180002 BK165 BK179 HI0 HK HB; have HO_180002 := n0_; have HO194 := n1_; have BK165 := n2_; have BK179 := n3_; have HI0 := n4_; have HK := n5_; have HB := n6_; clear n0_ n1_ n2_ n3_ n4_ n5_ n6_; (try clear hb); (try clear hb2); (try clear hk); (try clear hi); (try clear ho0); have hcz54_0 : w53.cell? ⟨gb179, 0, none⟩ = some (.int .i64 t166) := (blk_cell BK179.out 0).trans rfl; have hcz54_1 : w53.cell? ⟨gb179, 1, none⟩ = some (.bool t167) := (blk_cell BK179.out 1).trans rfl; have hcz54_2 : w53.cell? ⟨gb179, 2, none⟩ = some (.slice Ao52 x180002_1.length co52) := (blk_cell BK179.out 2).trans rfl; have hfz54_0 := blk_frozen BK179.out 0; have hfz54_1 := blk_frozen BK179.out 1; have hfz54_2 := blk_frozen BK179.out 2; obtain ⟨Ao55, co55, eo55⟩ := Kd.R_slice HO194.out; subst eo55))
          go_meet
          case rel => exact ⟨_, (t190), (t191), (t192), (.slice Ao55 t192.length co55), H', ⟨by have := HK1.out; have := HJ14.out; have := HJ34.out; first | omega | exact Nat.le_refl _⟩, ⟨by (with_reducible repeat (first | apply Kd.R_alloc | apply Kd.R_drewN | apply Kd.R_drew)); exact Kd.R_mono (Kd.R_far (p := ⟨gb179, 2, none⟩) (Kd.R_far (p := ⟨gb179, 1, none⟩) (Kd.R_far (p := ⟨gb179, 0, none⟩) (Kd.R_types HO194.out BK179.out (by decide)) (fun _ hk => hk.2) (.int .i64 t190)) (fun _ hk => hk.2) (.bool t191)) (fun _ hk => hk.2) (.slice Ao55 t192.length co55)) (fun _ hk => trivial)⟩, ⟨by (with_reducible repeat (first | refine blk_drewN ?_ _ | refine blk_drew ?_ | refine blk_alloc ?_ _)); refine blk_far ?_ NB165_179.out _; (with_reducible repeat (first | refine blk_drewN ?_ _ | refine blk_drew ?_ | refine blk_alloc ?_ _)); refine blk_far ?_ NB165_179.out _; (with_reducible repeat (first | refine blk_drewN ?_ _ | refine blk_drew ?_ | refine blk_alloc ?_ _)); refine blk_far ?_ NB165_179.out _; (with_reducible repeat (first | refine blk_drewN ?_ _ | refine blk_drew ?_ | refine blk_alloc ?_ _)); exact BK165.out⟩, ⟨by (with_reducible repeat (first | refine blk_drewN ?_ _ | refine blk_drew ?_ | refine blk_alloc ?_ _)); refine blk_put (cs := #[.int .i64 t190, .bool t191, .slice Ao52 x180002_1.length co52]) ?_ 2 _ rfl; (with_reducible repeat (first | refine blk_drewN ?_ _ | refine blk_drew ?_ | refine blk_alloc ?_ _)); refine blk_put (cs := #[.int .i64 t190, .bool t167, .slice Ao52 x180002_1.length co52]) ?_ 1 _ rfl; (with_reducible repeat (first | refine blk_drewN ?_ _ | refine blk_drew ?_ | refine blk_alloc ?_ _)); refine blk_put (cs := #[.int .i64 t166, .bool t167, .slice Ao52 x180002_1.length co52]) ?_ 0 _ rfl; (with_reducible repeat (first | refine blk_drewN ?_ _ | refine blk_drew ?_ | refine blk_alloc ?_ _)); exact BK179.out⟩, ⟨by repeat (first | (with_reducible first | exact HI0.out | apply IsS66.alloc | apply IsS66.drewN | apply IsS66.drew | apply IsS66.set_1 | apply IsS66.set_2 | refine IsS66.far ?_ NB0_165.out _ | refine IsS66.far ?_ NB0_179.out _) | exact HI0.out)⟩, ⟨by repeat (first | (with_reducible first | exact HK.out | apply KeepBut.set_ | apply keep_drewN | apply keep_drew | apply keep_alloc | refine keep_far ?_ GW165.out _ | refine keep_far ?_ GW179.out _) | exact HK.out)⟩, ⟨by repeat (first | (with_reducible first | exact HB.out | apply below_alloc | apply pw_below_drewN | apply below_drew1 | refine below_set ?_ (IsS66.ge HI0.out) | refine below_set ?_ GE165.out | refine below_set ?_ GE179.out) | exact HB.out)⟩⟩
         ·replace c47 := Bool.eq_false_iff.mpr c47
          subst c47
          rw [if_neg (show ¬ (false = true) by decide)] at H
          have H' := Aside0.mk H
          clear H
          go_wp2
          go_meet
          case rel => exact ⟨_, (t166), (t167), (x180002_1), (u180002), H', ⟨by have := HK1.out; have := HJ14.out; have := HJ34.out; first | omega | exact Nat.le_refl _⟩, ⟨by (with_reducible repeat (first | apply Kd.R_alloc | apply Kd.R_drewN | apply Kd.R_drew)); exact HO_180002.out⟩, ⟨BK165.out⟩, ⟨BK179.out⟩, ⟨HI0.out⟩, ⟨HK.out⟩, ⟨HB.out⟩⟩
        case rest =>
         clear HC46
         try clear c1
         try clear c2
         try clear p2
         try clear c3
         try clear c4
         try clear c5
         try clear c6
         try clear p6
         try clear c8
         try clear c11
         try clear c12
         try clear c16
         try clear c16b0
         try clear c16b1
         try clear c17
         try clear c18
         try clear c20
         try clear c21
         try clear c23
         try clear c25
         try clear c26
         try clear c28
         try clear c29
         try clear c37
         try clear c40
         try clear c41
         try clear c47
         try clear c49
         try clear c50
         try clear c51
         try clear c52
         try clear c53
         try clear hcz13_0
         try clear hcz13_1
         try clear hcz13_2
         try clear hcz19_0
         try clear hcz19_1
         try clear hcz19_2
         try clear hcz22_0
         try clear hcz22_1
         try clear hcz22_2
         try clear hcz30_0
         try clear hcz30_1
         try clear hcz30_2
         try clear hcz33_0
         try clear hcz33_1
         try clear hcz33_2
         try clear hcz42_0
         try clear hcz42_1
         try clear hcz42_2
         try clear hcz51_0
         try clear hcz51_1
         try clear hcz51_2
         try clear hcz54_0
         try clear hcz54_1
         try clear hcz54_2
         try clear hfz13_0
         try clear hfz13_1
         try clear hfz13_2
         try clear hfz19_0
         try clear hfz19_1
         try clear hfz19_2
         try clear hfz22_0
         try clear hfz22_1
         try clear hfz22_2
         try clear hfz30_0
         try clear hfz30_1
         try clear hfz30_2
         try clear hfz33_0
         try clear hfz33_1
         try clear hfz33_2
         try clear hfz42_0
         try clear hfz42_1
         try clear hfz42_2
         try clear hfz51_0
         try clear hfz51_1
         try clear hfz51_2
         try clear hfz54_0
         try clear hfz54_1
         try clear hfz54_2
         try clear p2
         try clear p6
         obtain ⟨kq, x180000_45, x180001_45, x180002_45, u180002, HA, HJ45, HO_180002, BK165, BK179, HI0, HK, HB⟩ := hcut
         cases kq with
         | zero => exact absurd HA.out (by simp [spec_l1Cur_row.j3])
         | succ kj45 =>
          have H := HA.out
          clear HA
          simp only [spec_l1Cur_row.j3] at H
          replace H := Option.bind_eq_some_iff.mp H
          obtain ⟨⟨t196, t197, t198⟩, A560, H⟩ := H
          try dsimp only at H
          have A56 := Aside0.mk A560
          clear A560
          by_cases c57 : t196 = true
          ·subst c57
           rw [if_pos rfl] at H
           obtain ⟨y199, hy199⟩ : ∃ y_ : List Int, y_ = (([(-1), 0, x180000_45, 4611686018427387904] : List Int)) := ⟨_, rfl⟩
           replace H : ((spec_l1Cur_among.f s0_0 t197 t198 y199).bind fun bt202 => (if x180002_45.length < 17592186044416 then (some (x180000_45, x180001_45, (x180002_45 ++ [bt202.1]), bt202.2.1, bt202.2.2)) else (none))) = some (r1, r2, r3, r4, r5) := by first | (rw [hy199]; with_reducible exact H) | (have H2_ := (Option.bind_some _ _).symm.trans H; rw [hy199]; with_reducible exact H2_) | (have H2_ := (Option.bind_some _ _).symm.trans H; with_reducible exact H2_) | with_reducible exact H | (rw [hy199]; exact H) | exact H
           have Ny199 := Aside0.mk hy199
           clear hy199
           replace H := Option.bind_eq_some_iff.mp H
           obtain ⟨⟨t202, t203, t204⟩, A580, H⟩ := H
           try dsimp only at H
           have A58 := Aside0.mk A580
           clear A580
           by_cases c59 : x180002_45.length < 17592186044416
           ·rw [if_pos c59] at H
            have LMc59 := Aside0.mk c59
            clear c59
            obtain ⟨y205, hy205⟩ : ∃ y_ : List Int, y_ = (x180002_45 ++ [t202]) := ⟨_, rfl⟩
            replace H : (some (x180000_45, x180001_45, y205, t203, t204)) = some (r1, r2, r3, r4, r5) := by first | (rw [hy205]; with_reducible exact H) | (have H2_ := (Option.bind_some _ _).symm.trans H; rw [hy205]; with_reducible exact H2_) | (have H2_ := (Option.bind_some _ _).symm.trans H; with_reducible exact H2_) | with_reducible exact H | (rw [hy205]; exact H) | exact H
            have Ny205 := Aside0.mk hy205
            clear hy205
            simp only [Option.some.injEq, Prod.mk.injEq] at H
            obtain ⟨rfl, rfl, rfl, rfl, rfl⟩ := H
            try go_wp2_with (first | ((with_reducible refine gate_callee (f := 51) rfl ?_); refine goesL_ (some 42) rfl rfl Tryd.func51 (by kernel_rfl) rfl #[.pointer (some ⟨g, 0, none⟩), .int .i64 40] rfl (by first | rfl | (simp only [List.map_toArray, List.map_cons, List.map_nil, List.length_drop, List.length_take]; first | done | rfl)) ?_; (with_reducible refine (spec_l1Cur_one.calls g s0_0 x1001_34 x1002_34 40 true t197 t198 w0 _ ?side1 ?side2 A56.out).mono ?_); (case side1 => exact HI0.out); (case side2 => exact HB.out); rintro e w60 ⟨rfl, hi, hb, hk⟩; refine ⟨_, rfl, ?_⟩; replace HO_180002 := Aside0.mk (Kd.R_mono (Kd.R_keep (IsS66.apart HI0.out HO_180002.out (by decide)) hk (fun _ h => h.2)) (fun _ h => h.1)); replace BK165 := Aside0.mk (KeepBut.blk hk BK165.out NB165_0.out (by simp)); replace BK179 := Aside0.mk (KeepBut.blk hk BK179.out NB179_0.out (by simp)); replace HK := Aside0.mk (KeepBut.trans HK.out hk (.inl rfl)); replace HB := Aside0.mk (hb); replace HI0 := Aside0.mk (hi); (try clear hb); (try clear hb2); (try clear hk); (try clear hi)))
            have n0_ := Aside0.mk (Kd.R_drew HO_180002.out)
            have n1_ := Aside0.mk (blk_drew BK165.out)
            have n2_ := Aside0.mk (blk_drew BK179.out)
            have n3_ := Aside0.mk (IsS66.drew HI0.out)
            have n4_ := Aside0.mk (keep_drew HK.out)
            have n5_ := Aside0.mk (below_drew1 HB.out)
            clear HO_180002 BK165 BK179 HI0 HK HB
            have HO_180002 := n0_
            have BK165 := n1_
            have BK179 := n2_
            have HI0 := n3_
            have HK := n4_
            have HB := n5_
            clear n0_ n1_ n2_ n3_ n4_ n5_
            refine start_ (n := 11) (S := fun w' => w'.cell? ⟨gb179, 0, none⟩ = some (.int .i64 x180000_45) ∧ w'.cell? ⟨gb179, 1, none⟩ = some (.bool x180001_45) ∧ w'.cell? ⟨gb179, 2, none⟩ = some (u180002)) (ds := [10]) #[false, false, false, false, false, false, false, false, false, false, false] (by kernel_rfl) rfl rfl ⟨(blk_cell BK179.out 0).trans rfl, (blk_cell BK179.out 1).trans rfl, (blk_cell BK179.out 2).trans rfl⟩ (fun hHeld => ?_); refine with_tabW spec_l1Cur_row.tab10 spec_l1Cur_row.bits10 (fun HT_ HW_ => ?_)
            generalize w60.drew = w61 at HO_180002 BK165 BK179 HI0 HK HB hHeld ⊢
            refine pi_ (i := 0) (N := some 43) (v := ?_) (a' := ?_) (bm 11 1) rfl rfl HT_ (by kernel_rfl) (fun _ _ _ h => h) (Or.inl ⟨by rfl, ?_⟩) ?_ ?_
            rotate_left
            ·intro w'
             go_simp
             with_reducible rfl
            rotate_left
            ·simp only [Act.put, pp_]
             rfl
            refine pi_ (i := 2) (N := some 45) (v := ?_) (a' := ?_) (bm 11 5) rfl rfl HT_ (by kernel_rfl) (fun _ _ _ h => h) (Or.inl ⟨by rfl, ?_⟩) ?_ ?_
            rotate_left
            ·intro w'
             go_simp
             with_reducible rfl
            rotate_left
            ·simp only [Act.put, pp_]
             rfl
            refine pi_ (i := 3) (N := some 46) (v := ?_) (a' := ?_) (bm 11 13) rfl rfl HT_ (by kernel_rfl) (fun _ _ _ h => h) (Or.inl ⟨by rfl, ?_⟩) ?_ ?_
            rotate_left
            ·intro w'
             go_simp
             with_reducible rfl
            rotate_left
            ·simp only [Act.put, pp_]
             rfl
            refine take_ (i := 1) (N := some 44) (v := ?_) (a' := ?_) (bm 11 15) rfl rfl (take_ofW HT_.out HW_.out (by kernel_rfl)) (fun _ _ _ h => h) (Or.inl ⟨by rfl, ?_⟩) hHeld ?_ ?_
            rotate_left
            ·rintro w' ⟨s0, s1, s2⟩
             go_simp
             with_reducible rfl
            rotate_left
            ·simp only [Act.put, pp_]
             rfl
            refine take_ (i := 4) (N := some 47) (v := ?_) (a' := ?_) (bm 11 31) rfl rfl (take_ofW HT_.out HW_.out (by kernel_rfl)) (fun _ _ _ h => h) (Or.inl ⟨by rfl, ?_⟩) hHeld ?_ ?_
            rotate_left
            ·rintro w' ⟨s0, s1, s2⟩
             go_simp
             with_reducible rfl
            rotate_left
            ·simp only [Act.put, pp_]
             rfl
            refine one_ (i := 5) (N := some 48) (bm 11 63) rfl rfl (one_of HT_.out (by kernel_rfl)) (by decide) (fun K hK => ?_)
            refine Kd.R_lit_step (Kd.int .i64) _ 3 ?hg (N := 48) ?hd (xs := ([(-1), 0, x180000_45, 4611686018427387904] : List Int)) (inner := [.int .i64 (-1), .int .i64 0, .int .i64 x180000_45, .int .i64 4611686018427387904]) (ok := fun _ => True) (okp := fun _ => True) ?hr ?hp (fun _ hk => hk) trivial (Below.refl _ _) (Nat.le_refl _) (by simp) ?_; (case hd => rfl); (case hg => rfl); (case hr => first | (go_simp; done) | (go_simp; rfl)); (case hp => exact (Reps.one (show Kd.M (Kd.int .i64) _ _ _ (-1) [.int .i64 (-1)] from rfl) (Reps.one (show Kd.M (Kd.int .i64) _ _ _ 0 [.int .i64 0] from rfl) (Reps.one (show Kd.M (Kd.int .i64) _ _ _ x180000_45 [.int .i64 x180000_45] from rfl) (Reps.one (show Kd.M (Kd.int .i64) _ _ _ 4611686018427387904 [.int .i64 4611686018427387904] from rfl) (Reps.none _ _))))))
            intro v200 w62 ho63 hb hg_ hnew_
            clear hg_ hnew_
            (first | rw [← Ny199.out] at ho63 | (simp only [Int.reduceToNat] at ho63; rw [← Ny199.out] at ho63))
            have n0_ := Aside0.mk (Kd.R_elder' HO_180002.out (Kd.R_base ho63) hb)
            have n1_ := Aside0.mk (Kd.R_lower (Kd.R_new' ho63 (Kd.R_lt HO_180002.out)) (keep_size HK.out))
            have n2_ := Aside0.mk (blk_below BK165.out hb)
            have n3_ := Aside0.mk (blk_below BK179.out hb)
            have n4_ := Aside0.mk (IsS66.below HI0.out hb)
            have n5_ := Aside0.mk (KeepBut.trans HK.out (KeepBut.of_below hb g none) (.inl rfl))
            have n6_ := Aside0.mk (below_step HB.out hb)
            clear HO_180002 BK165 BK179 HI0 HK HB
            have HO_180002 := n0_
            have HO201 := n1_
            have BK165 := n2_
            have BK179 := n3_
            have HI0 := n4_
            have HK := n5_
            have HB := n6_
            clear n0_ n1_ n2_ n3_ n4_ n5_ n6_ hb ho63
            obtain ⟨Ao64, co64, eo64⟩ := Kd.R_slice HO201.out
            (first | subst eo64 | (injection eo64 with f1_ f2_ f3_; have f4_ := f1_.symm; have f5_ := f3_.symm; clear f1_ f2_ f3_; subst f4_; subst f5_))
            refine hK.out _ _ ⟨(blk_cell BK179.out 0).trans rfl, (blk_cell BK179.out 1).trans rfl, (blk_cell BK179.out 2).trans rfl⟩ (fun hHeld => ?_)
            clear hK K
            refine norm_ (a' := ?_) ?_ ?_
            rotate_left
            ·show Act.put _ (some 48) _ = _
             simp only [Act.put, pp_]
             rfl
            refine one_ (i := 6) (N := some 49) (bm 11 127) rfl rfl (one_of HT_.out (by kernel_rfl)) (by decide) (fun K hK => ?_)
            refine goes_ Tryd.func66 (by kernel_rfl) rfl #[.pointer (some ⟨g, 0, none⟩), .slice Ao64 y199.length co64] (by rfl) rfl rfl (by first | rfl | (simp only [List.map_toArray, List.map_cons, List.map_nil, List.length_drop, List.length_take]; first | done | rfl)) ?_
            with_reducible refine (spec_l1Cur_among.calls g s0_0 t197 t198 _ _ y199 t202 t203 t204 w0 _ ?side1 ?side2 ?side3 ?side4 ?side5 A58.out).mono ?_
            (case side1 => exact HI0.out)
            (case side2 => exact HB.out)
            (case side3 => repeat (first | exact (Kd.R_reads' HO201.out).2.2 | (with_reducible refine Kd.C_alloc ?_ _) | (with_reducible refine Kd.C_drewN ?_ _) | (with_reducible refine Kd.C_drew ?_)))
            (case side4 => exact (Kd.R_reads' HO201.out).2.1)
            (case side5 => exact far_slice (IsS66.own_ne HI0.out HO201.out (by decide)))
            rintro e w65 ⟨rfl, hi, hb, hk⟩
            refine ⟨_, rfl, ?_⟩
            have n0_ := Aside0.mk (Kd.R_mono (Kd.R_keep (IsS66.apart HI0.out HO_180002.out (by decide)) hk (fun _ h => h.2)) (fun _ h => h.1))
            have n1_ := Aside0.mk (KeepBut.blk hk BK165.out NB165_0.out (by simp))
            have n2_ := Aside0.mk (KeepBut.blk hk BK179.out NB179_0.out (by simp))
            have n3_ := Aside0.mk (Kd.R_mono (Kd.R_keep (IsS66.apart HI0.out HO201.out (by decide)) hk (fun _ h => h.2)) (fun _ h => h.1))
            have n4_ := Aside0.mk (KeepBut.trans HK.out hk (.inl rfl))
            have n5_ := Aside0.mk (hb)
            have n6_ := Aside0.mk (hi)
            clear HO_180002 BK165 BK179 HO201 HK HB HI0
            have HO_180002 := n0_
            have BK165 := n1_
            have BK179 := n2_
            have HO201 := n3_
            have HK := n4_
            have HB := n5_
            have HI0 := n6_
            clear n0_ n1_ n2_ n3_ n4_ n5_ n6_
            (try clear hb)
            (try clear hb2)
            (try clear hk)
            (try clear hi)
            refine hK.out _ _ ⟨(blk_cell BK179.out 0).trans rfl, (blk_cell BK179.out 1).trans rfl, (blk_cell BK179.out 2).trans rfl⟩ (fun hHeld => ?_)
            clear hK K
            refine norm_ (a' := ?_) ?_ ?_
            rotate_left
            ·show Act.put _ (some 49) _ = _
             simp only [Act.put, pp_]
             rfl
            refine one_ (i := 7) (N := some 50) (bm 11 255) rfl rfl (one_of HT_.out (by kernel_rfl)) (by decide) (fun K hK => ?_)
            refine value_ (w1 := ?_) (v := ?_) (by rfl) rfl ?_ ?_
            rotate_left 2
            ·go_simp
             constructor
             ·rfl
             ·rfl
            refine hK.out _ _ ⟨(blk_cell (blk_alloc BK179.out _) 0).trans rfl, (blk_cell (blk_alloc BK179.out _) 1).trans rfl, (blk_cell (blk_alloc BK179.out _) 2).trans rfl⟩ (fun hHeld => ?_)
            clear hK K
            refine norm_ (a' := ?_) ?_ ?_
            rotate_left
            ·show Act.put _ (some 50) _ = _
             simp only [Act.put, pp_]
             rfl
            refine one_ (i := 8) (N := some 51) (bm 11 511) rfl rfl (one_of HT_.out (by kernel_rfl)) (by decide) (fun K hK => ?_)
            refine Kd.R_append_step (Kd.int .i64) w.heap.size (by rfl) (.tmp 44) (.tmp 50) 24 3 (.int .i64 0) 8 rfl Tryd.underlying24 info3 rfl (by decide) (by omega) u180002 x180002_45 t202 [.int .i64 t202] (fun k_ => some k_ ≠ (.slice Ao64 y199.length co64 : Value).ownBlock) (fun _ => False) rfl rfl ?aP (fun _ hk => hk.elim) ?aF ?aO (Below.refl _ _) ?aS ?aL ?_
            (case aP => exact rfl)
            (case aF => exact (fun k_ hk => Kd.fresh' (Kd.R_lt HO201.out) k_ hk))
            (case aO => exact (Kd.R_mono HO_180002.out (fun _ hk => hk.2)))
            (case aS => exact (keep_size HK.out))
            (case aL => have := LMc59.out; omega)
            intro v206 w66 ho hb hg hat
            rw [← Ny205.out] at ho
            have n0_ := Aside0.mk (blk_grown BK165.out hg (Kd.R_ne HO_180002.out BK165.out (by decide)))
            have n1_ := Aside0.mk (blk_grown BK179.out hg (Kd.R_ne HO_180002.out BK179.out (by decide)))
            have n2_ := Aside0.mk (IsS66.grown HI0.out hg (IsS66.own_ne HI0.out HO_180002.out (by decide)))
            have n3_ := Aside0.mk (Kd.R_after (ok := (fun _ => True)) HO201.out hg hat)
            have n4_ := Aside0.mk (below_weaken HB.out HL.out hb)
            have n5_ := Aside0.mk (KeepBut.trans (by repeat (first | (with_reducible first | exact HK.out | apply KeepBut.set_ | apply keep_drewN | apply keep_drew | apply keep_alloc | refine keep_far ?_ GW165.out _ | refine keep_far ?_ GW179.out _) | exact HK.out)) (KeepBut.of_grown hg g) (Kd.R_base2 HO_180002.out))
            have n6_ := Aside0.mk (ho)
            clear BK165 BK179 HI0 HO201 HB HK HO_180002
            have BK165 := n0_
            have BK179 := n1_
            have HI0 := n2_
            have HO201 := n3_
            have HB := n4_
            have HK := n5_
            have HO207 := n6_
            clear n0_ n1_ n2_ n3_ n4_ n5_ n6_ ho hb hg hat
            obtain ⟨Ao67, co67, eo67⟩ := Kd.R_slice HO207.out
            (first | subst eo67 | (injection eo67 with f1_ f2_ f3_; have f4_ := f1_.symm; have f5_ := f3_.symm; clear f1_ f2_ f3_; subst f4_; subst f5_))
            refine hK.out _ _ ⟨(blk_cell BK179.out 0).trans rfl, (blk_cell BK179.out 1).trans rfl, (blk_cell BK179.out 2).trans rfl⟩ (fun hHeld => ?_)
            clear hK K
            refine norm_ (a' := ?_) ?_ ?_
            rotate_left
            ·show Act.put _ (some 51) _ = _
             simp only [Act.put, pp_]
             rfl
            refine pi_ (i := 9) (N := some 52) (v := ?_) (a' := ?_) (bm 11 1023) rfl rfl HT_ (by kernel_rfl) (fun _ _ _ h => h) (Or.inl ⟨by rfl, ?_⟩) ?_ ?_
            rotate_left
            ·intro w'
             go_simp
             with_reducible rfl
            rotate_left
            ·simp only [Act.put, pp_]
             rfl
            refine last_ (i := 10) (N := none) (bm 11 2047) rfl rfl (one_of HT_.out (by kernel_rfl)) (by decide) (fun K hK => ?_)
            have hs68 : w66.cell? ⟨gb179, 2, none⟩ = some (u180002) := (blk_cell BK179.out 2).trans rfl
            have hfs68 := blk_frozen BK179.out 2
            have hns68_0 := NB165_179.out
            have hms68_0 := NB179_165.out
            refine skip_ (w1 := ?_) (by rfl) rfl ?_ ?_
            rotate_left
            ·go_simp
             rfl
            refine hK.out _ _ ?_
            clear hK K
            refine done_ (done_of HT_.out (by kernel_rfl)) ?_
            have hnb69 := NB179_165.out
            have hnc69 := NB165_179.out
            have hnb70 := NB179_0.out
            have hnc70 := NB0_179.out
            have hcz71_0 : w66.cell? ⟨gb179, 0, none⟩ = some (.int .i64 x180000_45) := (blk_cell BK179.out 0).trans rfl
            have hcz71_1 : w66.cell? ⟨gb179, 1, none⟩ = some (.bool x180001_45) := (blk_cell BK179.out 1).trans rfl
            have hcz71_2 : w66.cell? ⟨gb179, 2, none⟩ = some (u180002) := (blk_cell BK179.out 2).trans rfl
            have hfz71_0 := blk_frozen BK179.out 0
            have hfz71_1 := blk_frozen BK179.out 1
            have hfz71_2 := blk_frozen BK179.out 2
            have hnb72 := NB165_0.out
            have hnc72 := NB0_165.out
            have hcz73_0 : w66.cell? ⟨gb165, 0, none⟩ = some (.int .i64 0) := (blk_cell BK165.out 0).trans rfl
            have hcz73_1 : w66.cell? ⟨gb165, 1, none⟩ = some (.bool false) := (blk_cell BK165.out 1).trans rfl
            have hcz73_2 : w66.cell? ⟨gb165, 2, none⟩ = some (.slice none 0 0) := (blk_cell BK165.out 2).trans rfl
            have hfz73_0 := blk_frozen BK165.out 0
            have hfz73_1 := blk_frozen BK165.out 1
            have hfz73_2 := blk_frozen BK165.out 2
            try go_wp2
            refine bodyPost_ret (results_cell_row rfl _ _ gb165 26 #[.int .i64 x180000_45, .bool x180001_45, .slice Ao67 y205.length co67] (0, 0) _ rfl (by (with_reducible repeat (first | refine blk_drewN ?_ _ | refine blk_drew ?_ | refine blk_alloc ?_ _)); refine blk_put (cs := #[.int .i64 x180000_45, .bool x180001_45, .slice none 0 0]) ?_ 2 _ rfl; (with_reducible repeat (first | refine blk_drewN ?_ _ | refine blk_drew ?_ | refine blk_alloc ?_ _)); refine blk_put (cs := #[.int .i64 x180000_45, .bool false, .slice none 0 0]) ?_ 1 _ rfl; (with_reducible repeat (first | refine blk_drewN ?_ _ | refine blk_drew ?_ | refine blk_alloc ?_ _)); refine blk_put (cs := #[.int .i64 0, .bool false, .slice none 0 0]) ?_ 0 _ rfl; (with_reducible repeat (first | refine blk_drewN ?_ _ | refine blk_drew ?_ | refine blk_alloc ?_ _)); refine blk_far ?_ NB165_179.out _; (with_reducible repeat (first | refine blk_drewN ?_ _ | refine blk_drew ?_ | refine blk_alloc ?_ _)); exact BK165.out) Tryd.underlying26 rfl (by kernel_rfl)) rfl ?_
            exact ⟨_, by first | rfl | (simp [errW_none, errW_some] <;> rfl) | (simp [*, errW_none, errW_some] <;> rfl), by (with_reducible repeat (first | apply Kd.R_alloc | apply Kd.R_drewN | apply Kd.R_drew)); exact Kd.R_mono (Kd.R_far (p := ⟨gb165, 2, none⟩) (Kd.R_far (p := ⟨gb165, 1, none⟩) (Kd.R_far (p := ⟨gb165, 0, none⟩) (Kd.R_far (p := ⟨gb179, 2, none⟩) (Kd.R_types (Kd.R_types HO207.out BK179.out (by decide)) BK165.out (by decide)) (fun _ hk => hk.1.2) (.slice Ao67 y205.length co67)) (fun _ hk => hk.2) (.int .i64 x180000_45)) (fun _ hk => hk.2) (.bool x180001_45)) (fun _ hk => hk.2) (.slice Ao67 y205.length co67)) (fun _ hk => trivial), by repeat (first | (with_reducible first | exact HI0.out | apply IsS66.alloc | apply IsS66.drewN | apply IsS66.drew | apply IsS66.set_1 | apply IsS66.set_2 | refine IsS66.far ?_ NB0_165.out _ | refine IsS66.far ?_ NB0_179.out _) | exact HI0.out), by repeat (first | (with_reducible first | exact HB.out | apply below_alloc | apply pw_below_drewN | apply below_drew1 | refine below_set ?_ (IsS66.ge HI0.out) | refine below_set ?_ GE165.out | refine below_set ?_ GE179.out) | exact HB.out), by repeat (first | (with_reducible first | exact HK.out | apply KeepBut.set_ | apply keep_drewN | apply keep_drew | apply keep_alloc | refine keep_far ?_ GW165.out _ | refine keep_far ?_ GW179.out _) | exact HK.out)⟩
           ·rw [if_neg c59] at H
            exact absurd H (by simp)
          ·replace c57 := Bool.eq_false_iff.mpr c57
           subst c57
           rw [if_neg (show ¬ (false = true) by decide)] at H
           simp only [Option.some.injEq, Prod.mk.injEq] at H
           obtain ⟨rfl, rfl, rfl, rfl, rfl⟩ := H
           go_wp2_with (first | ((with_reducible refine gate_callee (f := 51) rfl ?_); refine goesL_ (some 42) rfl rfl Tryd.func51 (by kernel_rfl) rfl #[.pointer (some ⟨g, 0, none⟩), .int .i64 40] rfl (by first | rfl | (simp only [List.map_toArray, List.map_cons, List.map_nil, List.length_drop, List.length_take]; first | done | rfl)) ?_; (with_reducible refine (spec_l1Cur_one.calls g s0_0 x1001_34 x1002_34 40 false t197 t198 w0 _ ?side1 ?side2 A56.out).mono ?_); (case side1 => exact HI0.out); (case side2 => exact HB.out); rintro e w74 ⟨rfl, hi, hb, hk⟩; refine ⟨_, rfl, ?_⟩; replace HO_180002 := Aside0.mk (Kd.R_mono (Kd.R_keep (IsS66.apart (show IsS66 w0 _ g s0_0 x1001_34 x1002_34 from by repeat (first | (with_reducible first | exact HI0.out | apply IsS66.alloc | apply IsS66.drewN | apply IsS66.drew | apply IsS66.set_1 | apply IsS66.set_2 | refine IsS66.far ?_ NB0_165.out _ | refine IsS66.far ?_ NB0_179.out _) | exact HI0.out)) (by (with_reducible repeat (first | apply Kd.R_alloc | apply Kd.R_drewN | apply Kd.R_drew)); exact HO_180002.out) (by decide)) hk (fun _ h => h.2)) (fun _ h => h.1)); replace BK165 := Aside0.mk (KeepBut.blk hk (by first | (with_reducible exact BK165.out) | ((with_reducible repeat (first | refine blk_drewN ?_ _ | refine blk_drew ?_ | refine blk_alloc ?_ _)); exact BK165.out)) NB165_0.out (by simp)); replace BK179 := Aside0.mk (KeepBut.blk hk (by first | (with_reducible exact BK179.out) | ((with_reducible repeat (first | refine blk_drewN ?_ _ | refine blk_drew ?_ | refine blk_alloc ?_ _)); exact BK179.out)) NB179_0.out (by simp)); replace HK := Aside0.mk (KeepBut.trans (by repeat (first | (with_reducible first | exact HK.out | apply KeepBut.set_ | apply keep_drewN | apply keep_drew | apply keep_alloc | refine keep_far ?_ GW165.out _ | refine keep_far ?_ GW179.out _) | exact HK.out)) hk (.inl rfl)); replace HB := Aside0.mk (hb); replace HI0 := Aside0.mk (hi); (try clear hb); (try clear hb2); (try clear hk); (try clear hi); have hnb75 := NB179_165.out; have hnc75 := NB165_179.out; have hnb76 := NB179_0.out; have hnc76 := NB0_179.out; have hcz77_0 : w74.cell? ⟨gb179, 0, none⟩ = some (.int .i64 x180000_45) := (blk_cell BK179.out 0).trans rfl; have hcz77_1 : w74.cell? ⟨gb179, 1, none⟩ = some (.bool x180001_45) := (blk_cell BK179.out 1).trans rfl; have hcz77_2 : w74.cell? ⟨gb179, 2, none⟩ = some (u180002) := (blk_cell BK179.out 2).trans rfl; have hfz77_0 := blk_frozen BK179.out 0; have hfz77_1 := blk_frozen BK179.out 1; have hfz77_2 := blk_frozen BK179.out 2; have hnb78 := NB165_0.out; have hnc78 := NB0_165.out; have hcz79_0 : w74.cell? ⟨gb165, 0, none⟩ = some (.int .i64 0) := (blk_cell BK165.out 0).trans rfl; have hcz79_1 : w74.cell? ⟨gb165, 1, none⟩ = some (.bool false) := (blk_cell BK165.out 1).trans rfl; have hcz79_2 : w74.cell? ⟨gb165, 2, none⟩ = some (.slice none 0 0) := (blk_cell BK165.out 2).trans rfl; have hfz79_0 := blk_frozen BK165.out 0; have hfz79_1 := blk_frozen BK165.out 1; have hfz79_2 := blk_frozen BK165.out 2; obtain ⟨Ao80, co80, eo80⟩ := Kd.R_slice HO_180002.out; subst eo80))
           refine bodyPost_ret (results_cell_row rfl _ _ gb165 26 #[.int .i64 x180000_45, .bool x180001_45, .slice Ao80 x180002_45.length co80] (0, 0) _ rfl (by (with_reducible repeat (first | refine blk_drewN ?_ _ | refine blk_drew ?_ | refine blk_alloc ?_ _)); refine blk_put (cs := #[.int .i64 x180000_45, .bool x180001_45, .slice none 0 0]) ?_ 2 _ rfl; (with_reducible repeat (first | refine blk_drewN ?_ _ | refine blk_drew ?_ | refine blk_alloc ?_ _)); refine blk_put (cs := #[.int .i64 x180000_45, .bool false, .slice none 0 0]) ?_ 1 _ rfl; (with_reducible repeat (first | refine blk_drewN ?_ _ | refine blk_drew ?_ | refine blk_alloc ?_ _)); refine blk_put (cs := #[.int .i64 0, .bool false, .slice none 0 0]) ?_ 0 _ rfl; (with_reducible repeat (first | refine blk_drewN ?_ _ | refine blk_drew ?_ | refine blk_alloc ?_ _)); exact BK165.out) Tryd.underlying26 rfl (by kernel_rfl)) rfl ?_
           exact ⟨_, by first | rfl | (simp [errW_none, errW_some] <;> rfl) | (simp [*, errW_none, errW_some] <;> rfl), by (with_reducible repeat (first | apply Kd.R_alloc | apply Kd.R_drewN | apply Kd.R_drew)); exact Kd.R_mono (Kd.R_far (p := ⟨gb165, 2, none⟩) (Kd.R_far (p := ⟨gb165, 1, none⟩) (Kd.R_far (p := ⟨gb165, 0, none⟩) (Kd.R_types HO_180002.out BK165.out (by decide)) (fun _ hk => hk.2) (.int .i64 x180000_45)) (fun _ hk => hk.2) (.bool x180001_45)) (fun _ hk => hk.2) (.slice Ao80 x180002_45.length co80)) (fun _ hk => trivial), by repeat (first | (with_reducible first | exact HI0.out | apply IsS66.alloc | apply IsS66.drewN | apply IsS66.drew | apply IsS66.set_1 | apply IsS66.set_2 | refine IsS66.far ?_ NB0_165.out _ | refine IsS66.far ?_ NB0_179.out _) | exact HI0.out), by repeat (first | (with_reducible first | exact HB.out | apply below_alloc | apply pw_below_drewN | apply below_drew1 | refine below_set ?_ (IsS66.ge HI0.out) | refine below_set ?_ GE165.out | refine below_set ?_ GE179.out) | exact HB.out), by repeat (first | (with_reducible first | exact HK.out | apply KeepBut.set_ | apply keep_drewN | apply keep_drew | apply keep_alloc | refine keep_far ?_ GW165.out _ | refine keep_far ?_ GW179.out _) | exact HK.out)⟩

/-! ### spec_l1Own: function 62 -/
def spec_l1Own.f (l0 : List Int) : Option (List Int) := (some (([] : List Int) : List Int)).bind fun y208 => (if y208.length + l0.length < 17592186044416 then (some (y208 ++ l0)) else (none))
set_option maxHeartbeats 8000000 in
set_option maxRecDepth 100000 in
theorem spec_l1Own.calls (A0 : Option Addr) (c0 : Nat) (l0 : List Int) (r : List Int) (w : World) (hr0 : Kd.C (Kd.int .i64) w A0 l0.length l0) (hc0 : l0.length ≤ c0) (h : spec_l1Own.f l0 = some r) :
  Calls Tryd.prog 62 #[.slice A0 l0.length c0] w fun e w' => ∃ v0_ : Value, e = .returned (v0_) ∧ Kd.R (Kd.int .i64) 3 w' w.heap.size (fun _ => True) v0_ r ∧ Below w.heap.size w w' := by
 have HR0 := Aside0.mk hr0
 have HC0 := Aside0.mk hc0
 clear hr0 hc0
 have HB := Aside0.mk (Below.refl w.heap.size w)
 have H : ((some (([] : List Int) : List Int)).bind fun y208 => (if y208.length + l0.length < 17592186044416 then (some (y208 ++ l0)) else (none))) = some r := h
 clear h
 obtain ⟨y208, hy208⟩ : ∃ y_ : List Int, y_ = (([] : List Int)) := ⟨_, rfl⟩
 replace H : (if y208.length + l0.length < 17592186044416 then (some (y208 ++ l0)) else (none)) = some r := by first | (rw [hy208]; with_reducible exact H) | (have H2_ := (Option.bind_some _ _).symm.trans H; rw [hy208]; with_reducible exact H2_) | (have H2_ := (Option.bind_some _ _).symm.trans H; with_reducible exact H2_) | with_reducible exact H | (rw [hy208]; exact H) | exact H
 have Ny208 := Aside0.mk hy208
 clear hy208
 by_cases c2 : y208.length + l0.length < 17592186044416
 ·rw [if_pos c2] at H
  have LMc2 := Aside0.mk c2
  clear c2
  obtain ⟨y211, hy211⟩ : ∃ y_ : List Int, y_ = (y208 ++ l0) := ⟨_, rfl⟩
  replace H : (some y211) = some r := by first | (rw [hy211]; with_reducible exact H) | (have H2_ := (Option.bind_some _ _).symm.trans H; rw [hy211]; with_reducible exact H2_) | (have H2_ := (Option.bind_some _ _).symm.trans H; with_reducible exact H2_) | with_reducible exact H | (rw [hy211]; exact H) | exact H
  have Ny211 := Aside0.mk hy211
  clear hy211
  obtain rfl := Option.some.inj H
  go_enter Tryd.func62, Tryd.ntmps62
  go_wp2_with (first | ((with_reducible refine gate_dst (N := 3) rfl ?_); refine Kd.R_lit (Kd.int .i64) _ 3 ?hg (N := 3) ?hd (xs := ([] : List Int)) (inner := []) (ok := fun _ => True) (okp := fun _ => True) ?hr ?hp (fun _ hk => hk) trivial (Below.refl _ _) (Nat.le_refl _) (by simp) ?_; (case hd => rfl); (case hg => rfl); (case hr => first | (go_simp; done) | (go_simp; rfl)); (case hp => exact (Reps.none _ _)); intro v209 w3 ho4 hb hg_ hnew_; clear hg_ hnew_; (first | rw [← Ny208.out] at ho4 | (simp only [Int.reduceToNat] at ho4; rw [← Ny208.out] at ho4)); have HO210 := Aside0.mk (Kd.R_lower ho4 (below_size HB.out)); replace HB := Aside0.mk (below_step HB.out hb); clear hb ho4) | ((with_reducible refine gate_builtin (b := .append) (xs := #[.tmp 3, .tmp 4]) rfl ?_); at_builtin; refine Kd.R_append_rows (Kd.int .i64) (w0 := w) w.heap.size rfl (.tmp 3) (.tmp 4) 24 3 (.int .i64 0) 8 rfl Tryd.underlying24 info3 rfl (by decide) (by omega) v209 y208 l0 _ _ _ (fun _ => True) (fun _ => False) rfl rfl ?aO ?aR (fun _ _ h => h) (fun _ h => h.elim) ?aF ?aB ?aS ?aL ?_; (case aR => repeat (first | exact (Kd.C_below HR0.out HB.out) | (with_reducible refine Kd.C_alloc ?_ _) | (with_reducible refine Kd.C_drewN ?_ _) | (with_reducible refine Kd.C_drew ?_))); (case aB => exact HB.out); (case aF => exact (fun _ _ => trivial)); (case aO => exact HO210.out); (case aS => exact (below_size HB.out)); (case aL => have := LMc2.out; omega); intro v212 w5 ho hb hg hat; rw [← Ny211.out] at ho; replace HB := Aside0.mk (hb); have HO213 := Aside0.mk (ho); clear HO210 ho hb hg hat))
  go_ret
  exact ⟨_, by first | rfl | (simp [*]; done), by (with_reducible repeat (first | apply Kd.R_alloc | apply Kd.R_drewN | apply Kd.R_drew)); exact HO213.out, HB.out⟩
 ·rw [if_neg c2] at H
  exact absurd H (by simp)

end Go.Proofs.YtaebbgkoaaigbaaDoor.PFnSpread
