/- Proved: each Go function named here, called, comes to the answer of the Lean function beside it. Conditions: those that stand in each theorem. (Printed by this session's own turned copy of a printing program.) -/
import Derived.Test.YtaebbgkoaaigbaaDoorZFnPolitePFnPolitex0
import Derived.Test.YtaebbgkoaaigbaaDoorZFnPolitePFnPolitex3
import Derived.Test.YtaebbgkoaaigbaaDoorZFnPolitePFnPolitex4
import Derived.Test.YtaebbgkoaaigbaaDoorZFnPolitePFnPolitex5
namespace Go.Proofs.YtaebbgkoaaigbaaDoor.PFnPolite
open Go.RowKit Go.Proofs.YtaebbgkoaaigbaaDoorW.PrintWords Go.Proofs.YtaebbgkoaaigbaaDoorW.PrintLast Go.Proofs.YtaebbgkoaaigbaaDoorW.PrintMore
attribute [local go_sem] max2_int min2_int max_two min_two max_three min_three max_four min_four   -- for this text's walks alone
set_option linter.unusedVariables false
set_option linter.unusedSimpArgs false

/-! ### spec_l1Cur_row: function 53 -/
mutual
def spec_l1Cur_row.l0 : Nat → Int → Int → List Int → Int → Int → Int → Bool → List Int → Option (Int × Bool × List Int × Int × Int)
 | 0, _, _, _, _, _, _, _, _ => none
 | k + 1, x4, x5, x1000, x1001, x1002, x291000, x291001, x291002 => if x5 < x291000 then (spec_l1Cur_row.j1 k x4 x5 (decide (x5 < 25)) x1000 x1001 x1002 x291000 x291001 x291002) else (spec_l1Cur_row.j1 k x4 x5 false x1000 x1001 x1002 x291000 x291001 x291002)
def spec_l1Cur_row.j1 : Nat → Int → Int → Bool → List Int → Int → Int → Int → Bool → List Int → Option (Int × Bool × List Int × Int × Int)
 | 0, _, _, _, _, _, _, _, _, _ => none
 | k + 1, x4, x5, x18, x1000, x1001, x1002, x291000, x291001, x291002 => if x18 = true then ((spec_l1Cur_one.f x1000 x1001 x1002 x4).bind fun bt291 => (if bt291.1 = true then (if x291002.length < 17592186044416 then (spec_l1Cur_row.l0 k x4 (wrap64 (x5 + 1)) x1000 bt291.2.1 bt291.2.2 x291000 x291001 (x291002 ++ [x5])) else (none)) else (spec_l1Cur_row.l0 k x4 (wrap64 (x5 + 1)) x1000 bt291.2.1 bt291.2.2 x291000 x291001 x291002))) else ((spec_l1Cur_one.f x1000 x1001 x1002 6).bind fun bt297 => (if bt297.1 = true then ((spec_l2Row.f k x291000 x291001 x291002).bind fun t300 => (spec_l1Cur_row.j2 k t300 x1000 bt297.2.1 bt297.2.2 x291000 x291001 x291002)) else (spec_l1Cur_row.j2 k false x1000 bt297.2.1 bt297.2.2 x291000 x291001 x291002)))
def spec_l1Cur_row.j2 : Nat → Bool → List Int → Int → Int → Int → Bool → List Int → Option (Int × Bool × List Int × Int × Int)
 | 0, _, _, _, _, _, _, _ => none
 | k + 1, x35, x1000, x1001, x1002, x291000, x291001, x291002 => if x35 = true then ((spec_OtherSeats.f k x291000 x291001 x291002).bind fun bt301 => (spec_l1Cur_row.j3 k x1000 x1001 x1002 bt301.1 bt301.2.1 bt301.2.2.1)) else (spec_l1Cur_row.j3 k x1000 x1001 x1002 x291000 x291001 x291002)
def spec_l1Cur_row.j3 : Nat → List Int → Int → Int → Int → Bool → List Int → Option (Int × Bool × List Int × Int × Int)
 | 0, _, _, _, _, _, _ => none
 | k + 1, x1000, x1001, x1002, x291000, x291001, x291002 => (spec_l1Cur_one.f x1000 x1001 x1002 40).bind fun bt307 => (if bt307.1 = true then ((spec_l1Cur_among.f x1000 bt307.2.1 bt307.2.2 (([(-1), 0, x291000, 4611686018427387904] : List Int))).bind fun bt313 => (if x291002.length < 17592186044416 then (some (x291000, x291001, (x291002 ++ [bt313.1]), bt313.2.1, bt313.2.2)) else (none))) else (some (x291000, x291001, x291002, bt307.2.1, bt307.2.2)))
end
def spec_l1Cur_row.f (k : Nat) (s0_0 : List Int) (s0_1 : Int) (s0_2 : Int) : Option (Int × Bool × List Int × Int × Int) := (spec_l1Cur_freeRow.f s0_0 s0_1 s0_2).bind fun bt277 => ((spec_l1Cur_among.f s0_0 bt277.2.2.2.1 bt277.2.2.2.2 (([3, 2, 5] : List Int))).bind fun bt287 => (spec_l1Cur_row.l0 k bt287.1 0 s0_0 bt287.2.1 bt287.2.2 bt277.1 bt277.2.1 bt277.2.2.1))
def spec_l1Cur_row.T10 : Bool × List (List Nat × List Nat) := (true, [([], []), ([0], [0]), ([], []), ([], []), ([3], [3]), ([4], [4]), ([2, 5], [2, 5]), ([6], [6]), ([1, 7, 6], [1, 7]), ([0, 1, 2, 3, 4, 5, 6, 7, 8], []), ([9, 8, 8, 0, 1, 2, 3, 4, 5, 6, 7, 8], [8, 9])])
def spec_l1Cur_row.B10 : List Nat := [0, 1, 0, 0, 8, 24, 60, 124, 255, 511, 1023]
theorem spec_l1Cur_row.tab10 : rtab .any (opsOf Tryd.f53 10) = spec_l1Cur_row.T10 := by kernel_rfl
theorem spec_l1Cur_row.bits10 : waitsOk spec_l1Cur_row.T10.2 spec_l1Cur_row.B10 = true := by kernel_rfl
set_option maxHeartbeats 8000000 in
set_option maxRecDepth 100000 in
theorem spec_l1Cur_row.calls (k : Nat) (g : Nat) (s0_0 : List Int) (s0_1 : Int) (s0_2 : Int) (r1 : Int) (r2 : Bool) (r3 : List Int) (r4 : Int) (r5 : Int) (w0 w : World) (hI : IsS66 w0 w g s0_0 s0_1 s0_2) (hB : Below w0.heap.size w0 w) (h : spec_l1Cur_row.f k s0_0 s0_1 s0_2 = some (r1, r2, r3, r4, r5)) :
  Calls Tryd.prog 53 #[.pointer (some ⟨g, 0, none⟩)] w fun e w' => ∃ v2_ : Value, e = .returned (.agg #[.int .i64 r1, .bool r2, v2_]) ∧ Kd.R (Kd.int .i64) 3 w' w.heap.size (fun _ => True) v2_ r3 ∧ IsS66 w0 w' g s0_0 r4 r5 ∧ Below w0.heap.size w0 w' ∧ KeepBut w w' g none := by
 have hu26 := Tryd.underlying26
 have HI0 := Aside0.mk hI
 have HK := Aside0.mk (KeepBut.refl w g none)
 have HL := Aside0.mk hB.size
 clear hI
 have HW0 := Aside0.mk hB.size
 have HB := Aside0.mk hB
 clear hB
 have H : ((spec_l1Cur_freeRow.f s0_0 s0_1 s0_2).bind fun bt277 => ((spec_l1Cur_among.f s0_0 bt277.2.2.2.1 bt277.2.2.2.2 (([3, 2, 5] : List Int))).bind fun bt287 => (spec_l1Cur_row.l0 k bt287.1 0 s0_0 bt287.2.1 bt287.2.2 bt277.1 bt277.2.1 bt277.2.2.1))) = some (r1, r2, r3, r4, r5) := h
 clear h
 replace H := Option.bind_eq_some_iff.mp H
 obtain ⟨⟨t277, t278, t279, t282, t283⟩, A20, H⟩ := H
 try dsimp only at H
 have A2 := Aside0.mk A20
 clear A20
 obtain ⟨y284, hy284⟩ : ∃ y_ : List Int, y_ = (([3, 2, 5] : List Int)) := ⟨_, rfl⟩
 replace H : ((spec_l1Cur_among.f s0_0 t282 t283 y284).bind fun bt287 => (spec_l1Cur_row.l0 k bt287.1 0 s0_0 bt287.2.1 bt287.2.2 t277 t278 t279)) = some (r1, r2, r3, r4, r5) := by first | (rw [hy284]; with_reducible exact H) | (have H2_ := (Option.bind_some _ _).symm.trans H; rw [hy284]; with_reducible exact H2_) | (have H2_ := (Option.bind_some _ _).symm.trans H; with_reducible exact H2_) | with_reducible exact H | (rw [hy284]; exact H) | exact H
 have Ny284 := Aside0.mk hy284
 clear hy284
 replace H := Option.bind_eq_some_iff.mp H
 obtain ⟨⟨t287, t288, t289⟩, A30, H⟩ := H
 try dsimp only at H
 have A3 := Aside0.mk A30
 clear A30
 have H' := Aside0.mk H
 clear H
 go_enter Tryd.func53, Tryd.ntmps53
 go_wp2_with (first | ((with_reducible refine gate_dst (N := 2) rfl ?_); refine box_event ?hg (N := 2) ?hd (cs := #[.int .i64 0, .bool false, .slice none 0 0]) (t := 26) ?hr ?_; (case hd => rfl); (case hg => rfl); (case hr => first | (go_simp; done) | (go_simp; rfl)); intro gb276 hg w4 hbox hb; have n0_ := Aside0.mk (IsS66.below (by repeat (first | (with_reducible first | exact HI0.out | apply IsS66.alloc | apply IsS66.drewN | apply IsS66.drew | apply IsS66.set_1 | apply IsS66.set_2) | exact HI0.out)) hb); have n1_ := Aside0.mk (KeepBut.trans (by repeat (first | (with_reducible first | exact HK.out | apply KeepBut.set_ | apply keep_drewN | apply keep_drew | apply keep_alloc) | exact HK.out)) (KeepBut.of_below hb g none) (.inl rfl)); have n2_ := Aside0.mk (below_step (by repeat (first | (with_reducible first | exact HB.out | apply below_alloc | apply pw_below_drewN | apply below_drew1 | refine below_set ?_ (IsS66.ge HI0.out)) | exact HB.out)) hb); have n3_ := Aside0.mk (hbox); have n4_ := Aside0.mk ((by rw [hg]; exact (keep_size (w := w) (g := g) (row := none) (by repeat (first | (with_reducible first | exact HK.out | apply KeepBut.set_ | apply keep_drewN | apply keep_drew | apply keep_alloc) | exact HK.out))) : w.heap.size ≤ gb276)); have n5_ := Aside0.mk ((Nat.le_trans HW0.out (by rw [hg]; exact (keep_size (w := w) (g := g) (row := none) (by repeat (first | (with_reducible first | exact HK.out | apply KeepBut.set_ | apply keep_drewN | apply keep_drew | apply keep_alloc) | exact HK.out))) : w.heap.size ≤ gb276) : w0.heap.size ≤ gb276)); have n6_ := Aside0.mk ((by rw [hg]; exact Nat.ne_of_lt (IsS66.lt (show IsS66 w0 _ g s0_0 s0_1 s0_2 from by repeat (first | (with_reducible first | exact HI0.out | apply IsS66.alloc | apply IsS66.drewN | apply IsS66.drew | apply IsS66.set_1 | apply IsS66.set_2) | exact HI0.out))) : g ≠ gb276)); have n7_ := Aside0.mk ((by rw [hg]; exact Nat.ne_of_gt (IsS66.lt (show IsS66 w0 _ g s0_0 s0_1 s0_2 from by repeat (first | (with_reducible first | exact HI0.out | apply IsS66.alloc | apply IsS66.drewN | apply IsS66.drew | apply IsS66.set_1 | apply IsS66.set_2) | exact HI0.out))) : gb276 ≠ g)); clear HI0 HK HB; have HI0 := n0_; have HK := n1_; have HB := n2_; have BK276 := n3_; have GW276 := n4_; have GE276 := n5_; have NB0_276 := n6_; have NB276_0 := n7_; clear n0_ n1_ n2_ n3_ n4_ n5_ n6_ n7_ hb hbox hg) | ((with_reducible refine gate_callee (f := 52) rfl ?_); refine goesL_ (some 7) rfl rfl Tryd.func52 (by kernel_rfl) rfl #[.pointer (some ⟨g, 0, none⟩)] rfl (by first | rfl | (simp only [List.map_toArray, List.map_cons, List.map_nil, List.length_drop, List.length_take]; first | done | rfl)) ?_; (with_reducible refine (spec_l1Cur_freeRow.calls g s0_0 s0_1 s0_2 t277 t278 t279 t282 t283 w0 _ ?side1 ?side2 A2.out).mono ?_); (case side1 => exact HI0.out); (case side2 => exact HB.out); rintro e w5 ⟨v280, rfl, ho0, hi, hb, hk⟩; refine ⟨_, rfl, ?_⟩; have n0_ := Aside0.mk (KeepBut.blk hk (by first | (with_reducible exact BK276.out) | ((with_reducible repeat (first | refine blk_drewN ?_ _ | refine blk_drew ?_ | refine blk_alloc ?_ _)); exact BK276.out)) NB276_0.out (by simp)); have n1_ := Aside0.mk (Kd.R_lower ho0 (keep_size (w := w) (g := g) (row := none) (by repeat (first | (with_reducible first | exact HK.out | apply KeepBut.set_ | apply keep_drewN | apply keep_drew | apply keep_alloc | refine keep_far ?_ GW276.out _) | exact HK.out)))); have n2_ := Aside0.mk (KeepBut.trans (by repeat (first | (with_reducible first | exact HK.out | apply KeepBut.set_ | apply keep_drewN | apply keep_drew | apply keep_alloc | refine keep_far ?_ GW276.out _) | exact HK.out)) hk (.inl rfl)); have n3_ := Aside0.mk (hb); have n4_ := Aside0.mk (hi); clear BK276 HK HB HI0; have BK276 := n0_; have HO281 := n1_; have HK := n2_; have HB := n3_; have HI0 := n4_; clear n0_ n1_ n2_ n3_ n4_; (try clear hb); (try clear hb2); (try clear hk); (try clear hi); (try clear ho0)) | ((with_reducible refine gate_dst (N := 9) rfl ?_); refine Kd.R_lit (Kd.int .i64) _ 3 ?hg (N := 9) ?hd (xs := ([3, 2, 5] : List Int)) (inner := [.int .i64 3, .int .i64 2, .int .i64 5]) (ok := fun _ => True) (okp := fun _ => True) ?hr ?hp (fun _ hk => hk) trivial (Below.refl _ _) (Nat.le_refl _) (by simp) ?_; (case hd => rfl); (case hg => rfl); (case hr => first | (go_simp; done) | (go_simp; rfl)); (case hp => exact (Reps.one (show Kd.M (Kd.int .i64) _ _ _ 3 [.int .i64 3] from rfl) (Reps.one (show Kd.M (Kd.int .i64) _ _ _ 2 [.int .i64 2] from rfl) (Reps.one (show Kd.M (Kd.int .i64) _ _ _ 5 [.int .i64 5] from rfl) (Reps.none _ _))))); intro v285 w6 ho7 hb hg_ hnew_; clear hg_ hnew_; (first | rw [← Ny284.out] at ho7 | (simp only [Int.reduceToNat] at ho7; rw [← Ny284.out] at ho7)); have n0_ := Aside0.mk (Kd.R_elder' (by (with_reducible repeat (first | apply Kd.R_alloc | apply Kd.R_drewN | apply Kd.R_drew)); exact HO281.out) (Kd.R_base ho7) hb); have n1_ := Aside0.mk (Kd.R_lower (Kd.R_new' ho7 (Kd.R_lt (by (with_reducible repeat (first | apply Kd.R_alloc | apply Kd.R_drewN | apply Kd.R_drew)); exact HO281.out))) (keep_size (w := w) (g := g) (row := none) (by repeat (first | (with_reducible first | exact HK.out | apply KeepBut.set_ | apply keep_drewN | apply keep_drew | apply keep_alloc | refine keep_far ?_ GW276.out _) | exact HK.out)))); have n2_ := Aside0.mk (IsS66.below (by repeat (first | (with_reducible first | exact HI0.out | apply IsS66.alloc | apply IsS66.drewN | apply IsS66.drew | apply IsS66.set_1 | apply IsS66.set_2 | refine IsS66.far ?_ NB0_276.out _) | exact HI0.out)) hb); have n3_ := Aside0.mk (blk_below (by first | (with_reducible exact BK276.out) | ((with_reducible repeat (first | refine blk_drewN ?_ _ | refine blk_drew ?_ | refine blk_alloc ?_ _)); exact BK276.out)) hb); have n4_ := Aside0.mk (KeepBut.trans (by repeat (first | (with_reducible first | exact HK.out | apply KeepBut.set_ | apply keep_drewN | apply keep_drew | apply keep_alloc | refine keep_far ?_ GW276.out _) | exact HK.out)) (KeepBut.of_below hb g none) (.inl rfl)); have n5_ := Aside0.mk (below_step (by repeat (first | (with_reducible first | exact HB.out | apply below_alloc | apply pw_below_drewN | apply below_drew1 | refine below_set ?_ (IsS66.ge HI0.out) | refine below_set ?_ GE276.out) | exact HB.out)) hb); clear HO281 HI0 BK276 HK HB; have HO281 := n0_; have HO286 := n1_; have HI0 := n2_; have BK276 := n3_; have HK := n4_; have HB := n5_; clear n0_ n1_ n2_ n3_ n4_ n5_ hb ho7; obtain ⟨Ao8, co8, eo8⟩ := Kd.R_slice HO286.out; subst eo8) | ((with_reducible refine gate_callee (f := 66) rfl ?_); refine goesL_ (some 10) rfl rfl Tryd.func66 (by kernel_rfl) rfl #[.pointer (some ⟨g, 0, none⟩), .slice Ao8 y284.length co8] rfl (by first | rfl | (simp only [List.map_toArray, List.map_cons, List.map_nil, List.length_drop, List.length_take]; first | done | rfl)) ?_; (with_reducible refine (spec_l1Cur_among.calls g s0_0 t282 t283 _ _ y284 t287 t288 t289 w0 _ ?side1 ?side2 ?side3 ?side4 ?side5 A3.out).mono ?_); (case side1 => exact HI0.out); (case side2 => exact HB.out); (case side3 => repeat (first | exact (Kd.R_reads' HO286.out).2.2 | (with_reducible refine Kd.C_alloc ?_ _) | (with_reducible refine Kd.C_drewN ?_ _) | (with_reducible refine Kd.C_drew ?_))); (case side4 => exact (Kd.R_reads' HO286.out).2.1); (case side5 => exact far_slice (IsS66.own_ne HI0.out HO286.out (by decide))); rintro e w9 ⟨rfl, hi, hb, hk⟩; refine ⟨_, rfl, ?_⟩; have n0_ := Aside0.mk (KeepBut.blk hk (by first | (with_reducible exact BK276.out) | ((with_reducible repeat (first | refine blk_drewN ?_ _ | refine blk_drew ?_ | refine blk_alloc ?_ _)); exact BK276.out)) NB276_0.out (by simp)); have n1_ := Aside0.mk (Kd.R_mono (Kd.R_keep (IsS66.apart (show IsS66 w0 _ g s0_0 t282 t283 from by repeat (first | (with_reducible first | exact HI0.out | apply IsS66.alloc | apply IsS66.drewN | apply IsS66.drew | apply IsS66.set_1 | apply IsS66.set_2 | refine IsS66.far ?_ NB0_276.out _) | exact HI0.out)) (by (with_reducible repeat (first | apply Kd.R_alloc | apply Kd.R_drewN | apply Kd.R_drew)); exact HO281.out) (by decide)) hk (fun _ h => h.2)) (fun _ h => h.1)); have n2_ := Aside0.mk (Kd.R_mono (Kd.R_keep (IsS66.apart (show IsS66 w0 _ g s0_0 t282 t283 from by repeat (first | (with_reducible first | exact HI0.out | apply IsS66.alloc | apply IsS66.drewN | apply IsS66.drew | apply IsS66.set_1 | apply IsS66.set_2 | refine IsS66.far ?_ NB0_276.out _) | exact HI0.out)) (by (with_reducible repeat (first | apply Kd.R_alloc | apply Kd.R_drewN | apply Kd.R_drew)); exact HO286.out) (by decide)) hk (fun _ h => h.2)) (fun _ h => h.1)); have n3_ := Aside0.mk (KeepBut.trans (by repeat (first | (with_reducible first | exact HK.out | apply KeepBut.set_ | apply keep_drewN | apply keep_drew | apply keep_alloc | refine keep_far ?_ GW276.out _) | exact HK.out)) hk (.inl rfl)); have n4_ := Aside0.mk (hb); have n5_ := Aside0.mk (hi); clear BK276 HO281 HO286 HK HB HI0; have BK276 := n0_; have HO281 := n1_; have HO286 := n2_; have HK := n3_; have HB := n4_; have HI0 := n5_; clear n0_ n1_ n2_ n3_ n4_ n5_; (try clear hb); (try clear hb2); (try clear hk); (try clear hi)) | ((with_reducible refine gate_dst (N := 3) rfl ?_); refine box_event ?hg (N := 3) ?hd (cs := #[.int .i64 0, .bool false, .slice none 0 0]) (t := 26) ?hr ?_; (case hd => rfl); (case hg => rfl); (case hr => first | (go_simp; done) | (go_simp; rfl)); intro gb290 hg w10 hbox hb; have n0_ := Aside0.mk (Kd.R_below (by (with_reducible repeat (first | apply Kd.R_alloc | apply Kd.R_drewN | apply Kd.R_drew)); exact HO281.out) hb); have n1_ := Aside0.mk (Kd.R_below (by (with_reducible repeat (first | apply Kd.R_alloc | apply Kd.R_drewN | apply Kd.R_drew)); exact HO286.out) hb); have n2_ := Aside0.mk (IsS66.below (by repeat (first | (with_reducible first | exact HI0.out | apply IsS66.alloc | apply IsS66.drewN | apply IsS66.drew | apply IsS66.set_1 | apply IsS66.set_2 | refine IsS66.far ?_ NB0_276.out _) | exact HI0.out)) hb); have n3_ := Aside0.mk (blk_below (by first | (with_reducible exact BK276.out) | ((with_reducible repeat (first | refine blk_drewN ?_ _ | refine blk_drew ?_ | refine blk_alloc ?_ _)); exact BK276.out)) hb); have n4_ := Aside0.mk (KeepBut.trans (by repeat (first | (with_reducible first | exact HK.out | apply KeepBut.set_ | apply keep_drewN | apply keep_drew | apply keep_alloc | refine keep_far ?_ GW276.out _) | exact HK.out)) (KeepBut.of_below hb g none) (.inl rfl)); have n5_ := Aside0.mk (below_step (by repeat (first | (with_reducible first | exact HB.out | apply below_alloc | apply pw_below_drewN | apply below_drew1 | refine below_set ?_ (IsS66.ge HI0.out) | refine below_set ?_ GE276.out) | exact HB.out)) hb); have n6_ := Aside0.mk (hbox); have n7_ := Aside0.mk ((by rw [hg]; exact (keep_size (w := w) (g := g) (row := none) (by repeat (first | (with_reducible first | exact HK.out | apply KeepBut.set_ | apply keep_drewN | apply keep_drew | apply keep_alloc | refine keep_far ?_ GW276.out _) | exact HK.out))) : w.heap.size ≤ gb290)); have n8_ := Aside0.mk ((Nat.le_trans HW0.out (by rw [hg]; exact (keep_size (w := w) (g := g) (row := none) (by repeat (first | (with_reducible first | exact HK.out | apply KeepBut.set_ | apply keep_drewN | apply keep_drew | apply keep_alloc | refine keep_far ?_ GW276.out _) | exact HK.out))) : w.heap.size ≤ gb290) : w0.heap.size ≤ gb290)); have n9_ := Aside0.mk ((by rw [hg]; exact Nat.ne_of_lt (blk_lt (by first | (with_reducible exact BK276.out) | ((with_reducible repeat (first | refine blk_drewN ?_ _ | refine blk_drew ?_ | refine blk_alloc ?_ _)); exact BK276.out))) : gb276 ≠ gb290)); have n10_ := Aside0.mk ((by rw [hg]; exact Nat.ne_of_gt (blk_lt (by first | (with_reducible exact BK276.out) | ((with_reducible repeat (first | refine blk_drewN ?_ _ | refine blk_drew ?_ | refine blk_alloc ?_ _)); exact BK276.out))) : gb290 ≠ gb276)); have n11_ := Aside0.mk ((by rw [hg]; exact Nat.ne_of_lt (IsS66.lt (show IsS66 w0 _ g s0_0 t288 t289 from by repeat (first | (with_reducible first | exact HI0.out | apply IsS66.alloc | apply IsS66.drewN | apply IsS66.drew | apply IsS66.set_1 | apply IsS66.set_2 | refine IsS66.far ?_ NB0_276.out _) | exact HI0.out))) : g ≠ gb290)); have n12_ := Aside0.mk ((by rw [hg]; exact Nat.ne_of_gt (IsS66.lt (show IsS66 w0 _ g s0_0 t288 t289 from by repeat (first | (with_reducible first | exact HI0.out | apply IsS66.alloc | apply IsS66.drewN | apply IsS66.drew | apply IsS66.set_1 | apply IsS66.set_2 | refine IsS66.far ?_ NB0_276.out _) | exact HI0.out))) : gb290 ≠ g)); clear HO281 HO286 HI0 BK276 HK HB; have HO281 := n0_; have HO286 := n1_; have HI0 := n2_; have BK276 := n3_; have HK := n4_; have HB := n5_; have BK290 := n6_; have GW290 := n7_; have GE290 := n8_; have NB276_290 := n9_; have NB290_276 := n10_; have NB0_290 := n11_; have NB290_0 := n12_; clear n0_ n1_ n2_ n3_ n4_ n5_ n6_ n7_ n8_ n9_ n10_ n11_ n12_ hb hbox hg; have hnb11 := NB290_276.out; have hnc11 := NB276_290.out; have hnb12 := NB290_0.out; have hnc12 := NB0_290.out; have hcz13_0 : w10.cell? ⟨gb290, 0, none⟩ = some (.int .i64 0) := (blk_cell BK290.out 0).trans rfl; have hcz13_1 : w10.cell? ⟨gb290, 1, none⟩ = some (.bool false) := (blk_cell BK290.out 1).trans rfl; have hcz13_2 : w10.cell? ⟨gb290, 2, none⟩ = some (.slice none 0 0) := (blk_cell BK290.out 2).trans rfl; have hfz13_0 := blk_frozen BK290.out 0; have hfz13_1 := blk_frozen BK290.out 1; have hfz13_2 := blk_frozen BK290.out 2; obtain ⟨Ao14, co14, eo14⟩ := Kd.R_slice HO281.out; subst eo14))
 go_loopg [5] k (fun kq v5 w' => ∃ (x5_1 : Int) (x1001_1 : Int) (x1002_1 : Int) (x291002_1 : List Int) (u291002 : Value), v5 = .int .i64 x5_1 ∧ Aside0 (spec_l1Cur_row.l0 kq t287 x5_1 s0_0 x1001_1 x1002_1 t277 t278 x291002_1 = some (r1, r2, r3, r4, r5)) ∧ Aside0 (kq ≤ k) ∧ Aside0 (Kd.R (Kd.int .i64) 3 w' w.heap.size (fun _ => True) u291002 x291002_1) ∧ Aside0 (w'.heap[gb276]? = some (.cells #[.int .i64 0, .bool false, (.slice none 0 0)] 26 (0, 0))) ∧ Aside0 (w'.heap[gb290]? = some (.cells #[.int .i64 t277, .bool t278, u291002] 26 (0, 0))) ∧ Aside0 (IsS66 w0 w' g s0_0 x1001_1 x1002_1) ∧ Aside0 (KeepBut w w' g none) ∧ Aside0 (Below w0.heap.size w0 w'))
 case atStart => exact ⟨(0), (t288), (t289), (t279), (.slice Ao14 t279.length co14), (by first | rfl | (simp; done) | (simp [*]; done)), H', ⟨Nat.le_refl _⟩, ⟨by (with_reducible repeat (first | apply Kd.R_alloc | apply Kd.R_drewN | apply Kd.R_drew)); exact Kd.R_mono (Kd.R_far (p := ⟨gb290, 2, none⟩) (Kd.R_far (p := ⟨gb290, 1, none⟩) (Kd.R_far (p := ⟨gb290, 0, none⟩) (Kd.R_types HO281.out BK290.out (by decide)) (fun _ hk => hk.2) (.int .i64 t277)) (fun _ hk => hk.2) (.bool t278)) (fun _ hk => hk.2) (.slice Ao14 t279.length co14)) (fun _ hk => trivial)⟩, ⟨by (with_reducible repeat (first | refine blk_drewN ?_ _ | refine blk_drew ?_ | refine blk_alloc ?_ _)); refine blk_far ?_ NB276_290.out _; (with_reducible repeat (first | refine blk_drewN ?_ _ | refine blk_drew ?_ | refine blk_alloc ?_ _)); refine blk_far ?_ NB276_290.out _; (with_reducible repeat (first | refine blk_drewN ?_ _ | refine blk_drew ?_ | refine blk_alloc ?_ _)); refine blk_far ?_ NB276_290.out _; (with_reducible repeat (first | refine blk_drewN ?_ _ | refine blk_drew ?_ | refine blk_alloc ?_ _)); exact BK276.out⟩, ⟨by (with_reducible repeat (first | refine blk_drewN ?_ _ | refine blk_drew ?_ | refine blk_alloc ?_ _)); refine blk_put (cs := #[.int .i64 t277, .bool t278, .slice none 0 0]) ?_ 2 _ rfl; (with_reducible repeat (first | refine blk_drewN ?_ _ | refine blk_drew ?_ | refine blk_alloc ?_ _)); refine blk_put (cs := #[.int .i64 t277, .bool false, .slice none 0 0]) ?_ 1 _ rfl; (with_reducible repeat (first | refine blk_drewN ?_ _ | refine blk_drew ?_ | refine blk_alloc ?_ _)); refine blk_put (cs := #[.int .i64 0, .bool false, .slice none 0 0]) ?_ 0 _ rfl; (with_reducible repeat (first | refine blk_drewN ?_ _ | refine blk_drew ?_ | refine blk_alloc ?_ _)); exact BK290.out⟩, ⟨by repeat (first | (with_reducible first | exact HI0.out | apply IsS66.alloc | apply IsS66.drewN | apply IsS66.drew | apply IsS66.set_1 | apply IsS66.set_2 | refine IsS66.far ?_ NB0_276.out _ | refine IsS66.far ?_ NB0_290.out _) | exact HI0.out)⟩, ⟨by repeat (first | (with_reducible first | exact HK.out | apply KeepBut.set_ | apply keep_drewN | apply keep_drew | apply keep_alloc | refine keep_far ?_ GW276.out _ | refine keep_far ?_ GW290.out _) | exact HK.out)⟩, ⟨by repeat (first | (with_reducible first | exact HB.out | apply below_alloc | apply pw_below_drewN | apply below_drew1 | refine below_set ?_ (IsS66.ge HI0.out) | refine below_set ?_ GE276.out | refine below_set ?_ GE290.out) | exact HB.out)⟩⟩
 case round =>
  clear H'
  try clear c1
  try clear p2
  try clear c5
  try clear c6
  try clear c11
  try clear c12
  try clear hcz13_0
  try clear hcz13_1
  try clear hcz13_2
  try clear hfz13_0
  try clear hfz13_1
  try clear hfz13_2
  obtain ⟨x5_1, x1001_1, x1002_1, x291002_1, u291002, rfl, HA, HK1, HO_291002, BK276, BK290, HI0, HK, HB⟩ := hrel
  cases gk with
  | zero => exact absurd HA.out (by simp [spec_l1Cur_row.l0])
  | succ k1 =>
   have H := HA.out
   clear HA
   simp only [spec_l1Cur_row.l0] at H
   have HC15 := Aside0.mk H
   clear H
   go_upto_region 3 with (fail)
   go_cut [18] (fun v18 wc => ∃ (kq : Nat) (x18_14 : Bool), v18 = .bool x18_14 ∧ Aside0 (spec_l1Cur_row.j1 kq t287 x5_1 x18_14 s0_0 x1001_1 x1002_1 t277 t278 x291002_1 = some (r1, r2, r3, r4, r5)) ∧ Aside0 (kq ≤ k1) ∧ Aside0 (Kd.R (Kd.int .i64) 3 wc w.heap.size (fun _ => True) u291002 x291002_1) ∧ Aside0 (wc.heap[gb276]? = some (.cells #[.int .i64 0, .bool false, (.slice none 0 0)] 26 (0, 0))) ∧ Aside0 (wc.heap[gb290]? = some (.cells #[.int .i64 t277, .bool t278, u291002] 26 (0, 0))) ∧ Aside0 (IsS66 w0 wc g s0_0 x1001_1 x1002_1) ∧ Aside0 (KeepBut w wc g none) ∧ Aside0 (Below w0.heap.size w0 wc))
   case first =>
    have H := HC15.out
    clear HC15
    by_cases c16 : x5_1 < t277
    ·rw [if_pos c16] at H
     have c16b0 : decide (x5_1 < t277) = true := decide_eq_true c16
     clear c16
     (first | rw [c16b0] | (simp only [i64_w, i32_w]; rw [c16b0]) | rw [c16b1] | skip)
     have H' := Aside0.mk H
     clear H
     have hnb17 := NB290_276.out
     have hnc17 := NB276_290.out
     have hnb18 := NB290_0.out
     have hnc18 := NB0_290.out
     have hcz19_0 : wr.cell? ⟨gb290, 0, none⟩ = some (.int .i64 t277) := (blk_cell BK290.out 0).trans rfl
     have hcz19_1 : wr.cell? ⟨gb290, 1, none⟩ = some (.bool t278) := (blk_cell BK290.out 1).trans rfl
     have hcz19_2 : wr.cell? ⟨gb290, 2, none⟩ = some (u291002) := (blk_cell BK290.out 2).trans rfl
     have hfz19_0 := blk_frozen BK290.out 0
     have hfz19_1 := blk_frozen BK290.out 1
     have hfz19_2 := blk_frozen BK290.out 2
     go_wp2
     go_meet
     case rel => exact ⟨_, (decide (x5_1 < 25)), (by first | rfl | (simp; done) | (simp [*]; done)), H', ⟨by have := HK1.out; first | omega | exact Nat.le_refl _⟩, ⟨by (with_reducible repeat (first | apply Kd.R_alloc | apply Kd.R_drewN | apply Kd.R_drew)); exact HO_291002.out⟩, ⟨BK276.out⟩, ⟨BK290.out⟩, ⟨HI0.out⟩, ⟨HK.out⟩, ⟨HB.out⟩⟩
    ·rw [if_neg c16] at H
     have c16b0 : decide (x5_1 < t277) = false := decide_eq_false c16
     clear c16
     (first | rw [c16b0] | (simp only [i64_w, i32_w]; rw [c16b0]) | rw [c16b1] | skip)
     have H' := Aside0.mk H
     clear H
     have hnb20 := NB290_276.out
     have hnc20 := NB276_290.out
     have hnb21 := NB290_0.out
     have hnc21 := NB0_290.out
     have hcz22_0 : wr.cell? ⟨gb290, 0, none⟩ = some (.int .i64 t277) := (blk_cell BK290.out 0).trans rfl
     have hcz22_1 : wr.cell? ⟨gb290, 1, none⟩ = some (.bool t278) := (blk_cell BK290.out 1).trans rfl
     have hcz22_2 : wr.cell? ⟨gb290, 2, none⟩ = some (u291002) := (blk_cell BK290.out 2).trans rfl
     have hfz22_0 := blk_frozen BK290.out 0
     have hfz22_1 := blk_frozen BK290.out 1
     have hfz22_2 := blk_frozen BK290.out 2
     go_wp2
     go_meet
     case rel => exact ⟨_, (false), (by first | rfl | (simp; done) | (simp [*]; done)), H', ⟨by have := HK1.out; first | omega | exact Nat.le_refl _⟩, ⟨by (with_reducible repeat (first | apply Kd.R_alloc | apply Kd.R_drewN | apply Kd.R_drew)); exact HO_291002.out⟩, ⟨BK276.out⟩, ⟨BK290.out⟩, ⟨HI0.out⟩, ⟨HK.out⟩, ⟨HB.out⟩⟩
   case rest =>
    clear HC15
    try clear c1
    try clear c2
    try clear p2
    try clear c5
    try clear c6
    try clear c11
    try clear c12
    try clear c16
    try clear c16b0
    try clear c16b1
    try clear c17
    try clear c18
    try clear c20
    try clear c21
    try clear hcz13_0
    try clear hcz13_1
    try clear hcz13_2
    try clear hcz19_0
    try clear hcz19_1
    try clear hcz19_2
    try clear hcz22_0
    try clear hcz22_1
    try clear hcz22_2
    try clear hfz13_0
    try clear hfz13_1
    try clear hfz13_2
    try clear hfz19_0
    try clear hfz19_1
    try clear hfz19_2
    try clear hfz22_0
    try clear hfz22_1
    try clear hfz22_2
    try clear p2
    obtain ⟨kq, x18_14, rfl, HA, HJ14, HO_291002, BK276, BK290, HI0, HK, HB⟩ := hcut
    cases kq with
    | zero => exact absurd HA.out (by simp [spec_l1Cur_row.j1])
    | succ kj14 =>
     have H := HA.out
     clear HA
     simp only [spec_l1Cur_row.j1] at H
     by_cases c23 : x18_14 = true
     ·subst c23
      rw [if_pos rfl] at H
      replace H := Option.bind_eq_some_iff.mp H
      obtain ⟨⟨t291, t292, t293⟩, A240, H⟩ := H
      try dsimp only at H
      have A24 := Aside0.mk A240
      clear A240
      by_cases c25 : t291 = true
      ·subst c25
       rw [if_pos rfl] at H
       by_cases c26 : x291002_1.length < 17592186044416
       ·rw [if_pos c26] at H
        have LMc26 := Aside0.mk c26
        clear c26
        obtain ⟨y294, hy294⟩ : ∃ y_ : List Int, y_ = (x291002_1 ++ [x5_1]) := ⟨_, rfl⟩
        replace H : (spec_l1Cur_row.l0 kj14 t287 (wrap64 (x5_1 + 1)) s0_0 t292 t293 t277 t278 y294) = some (r1, r2, r3, r4, r5) := by first | (rw [hy294]; with_reducible exact H) | (have H2_ := (Option.bind_some _ _).symm.trans H; rw [hy294]; with_reducible exact H2_) | (have H2_ := (Option.bind_some _ _).symm.trans H; with_reducible exact H2_) | with_reducible exact H | (rw [hy294]; exact H) | exact H
        have Ny294 := Aside0.mk hy294
        clear hy294
        have H' := Aside0.mk H
        clear H
        go_wp2_with (first | ((with_reducible refine gate_callee (f := 51) rfl ?_); refine goesL_ (some 23) rfl rfl Tryd.func51 (by kernel_rfl) rfl #[.pointer (some ⟨g, 0, none⟩), .int .i64 t287] rfl (by first | rfl | (simp only [List.map_toArray, List.map_cons, List.map_nil, List.length_drop, List.length_take]; first | done | rfl)) ?_; (with_reducible refine (spec_l1Cur_one.calls g s0_0 x1001_1 x1002_1 t287 true t292 t293 w0 _ ?side1 ?side2 A24.out).mono ?_); (case side1 => exact HI0.out); (case side2 => exact HB.out); rintro e w27 ⟨rfl, hi, hb, hk⟩; refine ⟨_, rfl, ?_⟩; replace HO_291002 := Aside0.mk (Kd.R_mono (Kd.R_keep (IsS66.apart (show IsS66 w0 _ g s0_0 x1001_1 x1002_1 from by repeat (first | (with_reducible first | exact HI0.out | apply IsS66.alloc | apply IsS66.drewN | apply IsS66.drew | apply IsS66.set_1 | apply IsS66.set_2 | refine IsS66.far ?_ NB0_276.out _ | refine IsS66.far ?_ NB0_290.out _) | exact HI0.out)) (by (with_reducible repeat (first | apply Kd.R_alloc | apply Kd.R_drewN | apply Kd.R_drew)); exact HO_291002.out) (by decide)) hk (fun _ h => h.2)) (fun _ h => h.1)); replace BK276 := Aside0.mk (KeepBut.blk hk (by first | (with_reducible exact BK276.out) | ((with_reducible repeat (first | refine blk_drewN ?_ _ | refine blk_drew ?_ | refine blk_alloc ?_ _)); exact BK276.out)) NB276_0.out (by simp)); replace BK290 := Aside0.mk (KeepBut.blk hk (by first | (with_reducible exact BK290.out) | ((with_reducible repeat (first | refine blk_drewN ?_ _ | refine blk_drew ?_ | refine blk_alloc ?_ _)); exact BK290.out)) NB290_0.out (by simp)); replace HK := Aside0.mk (KeepBut.trans (by repeat (first | (with_reducible first | exact HK.out | apply KeepBut.set_ | apply keep_drewN | apply keep_drew | apply keep_alloc | refine keep_far ?_ GW276.out _ | refine keep_far ?_ GW290.out _) | exact HK.out)) hk (.inl rfl)); replace HB := Aside0.mk (hb); replace HI0 := Aside0.mk (hi); (try clear hb); (try clear hb2); (try clear hk); (try clear hi); have hnb28 := NB290_276.out; have hnc28 := NB276_290.out; have hnb29 := NB290_0.out; have hnc29 := NB0_290.out; have hcz30_0 : w27.cell? ⟨gb290, 0, none⟩ = some (.int .i64 t277) := (blk_cell BK290.out 0).trans rfl; have hcz30_1 : w27.cell? ⟨gb290, 1, none⟩ = some (.bool t278) := (blk_cell BK290.out 1).trans rfl; have hcz30_2 : w27.cell? ⟨gb290, 2, none⟩ = some (u291002) := (blk_cell BK290.out 2).trans rfl; have hfz30_0 := blk_frozen BK290.out 0; have hfz30_1 := blk_frozen BK290.out 1; have hfz30_2 := blk_frozen BK290.out 2) | ((with_reducible refine gate_builtin (b := .append) (xs := #[.tmp 25, .tmp 27]) rfl ?_); at_builtin; refine Kd.R_append (Kd.int .i64) w.heap.size rfl (.tmp 25) (.tmp 27) 24 3 (.int .i64 0) 8 rfl Tryd.underlying24 info3 rfl (by decide) (by omega) u291002 x291002_1 x5_1 [.int .i64 x5_1] (fun _ => True) (fun _ => False) rfl rfl ?aP (fun _ hk => hk.elim) ?aF ?aO (Below.refl _ _) ?aS ?aL ?_; (case aP => exact rfl); (case aF => exact (fun _ _ => trivial)); (case aO => exact (by (with_reducible repeat (first | apply Kd.R_alloc | apply Kd.R_drewN | apply Kd.R_drew)); exact HO_291002.out)); (case aS => exact (keep_size (w := w) (g := g) (row := none) (by repeat (first | (with_reducible first | exact HK.out | apply KeepBut.set_ | apply keep_drewN | apply keep_drew | apply keep_alloc | refine keep_far ?_ GW276.out _ | refine keep_far ?_ GW290.out _) | exact HK.out)))); (case aL => have := LMc26.out; omega); intro v295 w31 ho hb hg hat; rw [← Ny294.out] at ho; replace BK276 := Aside0.mk (blk_grown (by first | (with_reducible exact BK276.out) | ((with_reducible repeat (first | refine blk_drewN ?_ _ | refine blk_drew ?_ | refine blk_alloc ?_ _)); exact BK276.out)) hg (Kd.R_ne HO_291002.out BK276.out (by decide))); replace BK290 := Aside0.mk (blk_grown (by first | (with_reducible exact BK290.out) | ((with_reducible repeat (first | refine blk_drewN ?_ _ | refine blk_drew ?_ | refine blk_alloc ?_ _)); exact BK290.out)) hg (Kd.R_ne HO_291002.out BK290.out (by decide))); replace HI0 := Aside0.mk (IsS66.grown (by repeat (first | (with_reducible first | exact HI0.out | apply IsS66.alloc | apply IsS66.drewN | apply IsS66.drew | apply IsS66.set_1 | apply IsS66.set_2 | refine IsS66.far ?_ NB0_276.out _ | refine IsS66.far ?_ NB0_290.out _) | exact HI0.out)) hg (IsS66.own_ne HI0.out HO_291002.out (by decide))); replace HB := Aside0.mk (below_weaken (by repeat (first | (with_reducible first | exact HB.out | apply below_alloc | apply pw_below_drewN | apply below_drew1 | refine below_set ?_ (IsS66.ge HI0.out) | refine below_set ?_ GE276.out | refine below_set ?_ GE290.out) | exact HB.out)) HL.out hb); replace HK := Aside0.mk (KeepBut.trans (by repeat (first | (with_reducible first | exact HK.out | apply KeepBut.set_ | apply keep_drewN | apply keep_drew | apply keep_alloc | refine keep_far ?_ GW276.out _ | refine keep_far ?_ GW290.out _) | exact HK.out)) (KeepBut.of_grown hg g) (Kd.R_base2 HO_291002.out)); have HO296 := Aside0.mk (ho); clear HO_291002 ho hb hg hat; obtain ⟨Ao32, co32, eo32⟩ := Kd.R_slice HO296.out; subst eo32; have hcz33_0 : w31.cell? ⟨gb290, 0, none⟩ = some (.int .i64 t277) := (blk_cell BK290.out 0).trans rfl; have hcz33_1 : w31.cell? ⟨gb290, 1, none⟩ = some (.bool t278) := (blk_cell BK290.out 1).trans rfl; have hcz33_2 : w31.cell? ⟨gb290, 2, none⟩ = some (u291002) := (blk_cell BK290.out 2).trans rfl; have hfz33_0 := blk_frozen BK290.out 0; have hfz33_1 := blk_frozen BK290.out 1; have hfz33_2 := blk_frozen BK290.out 2))
        go_roundg kj14
        case measure => have := HK1.out; have := HJ14.out; omega
        case rel => exact ⟨(wrap64 (x5_1 + 1)), (t292), (t293), (y294), (.slice Ao32 y294.length co32), (by first | rfl | (simp; done) | (simp [*]; done)), H', ⟨by have := HK1.out; have := HJ14.out; omega⟩, ⟨by (with_reducible repeat (first | apply Kd.R_alloc | apply Kd.R_drewN | apply Kd.R_drew)); exact Kd.R_mono (Kd.R_far (p := ⟨gb290, 2, none⟩) (Kd.R_types HO296.out BK290.out (by decide)) (fun _ hk => hk.2) (.slice Ao32 y294.length co32)) (fun _ hk => trivial)⟩, ⟨by (with_reducible repeat (first | refine blk_drewN ?_ _ | refine blk_drew ?_ | refine blk_alloc ?_ _)); refine blk_far ?_ NB276_290.out _; (with_reducible repeat (first | refine blk_drewN ?_ _ | refine blk_drew ?_ | refine blk_alloc ?_ _)); exact BK276.out⟩, ⟨by (with_reducible repeat (first | refine blk_drewN ?_ _ | refine blk_drew ?_ | refine blk_alloc ?_ _)); refine blk_put (cs := #[.int .i64 t277, .bool t278, u291002]) ?_ 2 _ rfl; (with_reducible repeat (first | refine blk_drewN ?_ _ | refine blk_drew ?_ | refine blk_alloc ?_ _)); exact BK290.out⟩, ⟨by repeat (first | (with_reducible first | exact HI0.out | apply IsS66.alloc | apply IsS66.drewN | apply IsS66.drew | apply IsS66.set_1 | apply IsS66.set_2 | refine IsS66.far ?_ NB0_276.out _ | refine IsS66.far ?_ NB0_290.out _) | exact HI0.out)⟩, ⟨by repeat (first | (with_reducible first | exact HK.out | apply KeepBut.set_ | apply keep_drewN | apply keep_drew | apply keep_alloc | refine keep_far ?_ GW276.out _ | refine keep_far ?_ GW290.out _) | exact HK.out)⟩, ⟨by repeat (first | (with_reducible first | exact HB.out | apply below_alloc | apply pw_below_drewN | apply below_drew1 | refine below_set ?_ (IsS66.ge HI0.out) | refine below_set ?_ GE276.out | refine below_set ?_ GE290.out) | exact HB.out)⟩⟩
       ·rw [if_neg c26] at H
        exact absurd H (by simp)
      ·replace c25 := Bool.eq_false_iff.mpr c25
       subst c25
       rw [if_neg (show ¬ (false = true) by decide)] at H
       have H' := Aside0.mk H
       clear H
       go_wp2_with (first | ((with_reducible refine gate_callee (f := 51) rfl ?_); refine goesL_ (some 23) rfl rfl Tryd.func51 (by kernel_rfl) rfl #[.pointer (some ⟨g, 0, none⟩), .int .i64 t287] rfl (by first | rfl | (simp only [List.map_toArray, List.map_cons, List.map_nil, List.length_drop, List.length_take]; first | done | rfl)) ?_; (with_reducible refine (spec_l1Cur_one.calls g s0_0 x1001_1 x1002_1 t287 false t292 t293 w0 _ ?side1 ?side2 A24.out).mono ?_); (case side1 => exact HI0.out); (case side2 => exact HB.out); rintro e w34 ⟨rfl, hi, hb, hk⟩; refine ⟨_, rfl, ?_⟩; replace HO_291002 := Aside0.mk (Kd.R_mono (Kd.R_keep (IsS66.apart HI0.out HO_291002.out (by decide)) hk (fun _ h => h.2)) (fun _ h => h.1)); replace BK276 := Aside0.mk (KeepBut.blk hk BK276.out NB276_0.out (by simp)); replace BK290 := Aside0.mk (KeepBut.blk hk BK290.out NB290_0.out (by simp)); replace HK := Aside0.mk (KeepBut.trans HK.out hk (.inl rfl)); replace HB := Aside0.mk (hb); replace HI0 := Aside0.mk (hi); (try clear hb); (try clear hb2); (try clear hk); (try clear hi)))
       go_roundg kj14
       case measure => have := HK1.out; have := HJ14.out; omega
       case rel => exact ⟨(wrap64 (x5_1 + 1)), (t292), (t293), (x291002_1), (u291002), (by first | rfl | (simp; done) | (simp [*]; done)), H', ⟨by have := HK1.out; have := HJ14.out; omega⟩, ⟨by (with_reducible repeat (first | apply Kd.R_alloc | apply Kd.R_drewN | apply Kd.R_drew)); exact HO_291002.out⟩, ⟨BK276.out⟩, ⟨BK290.out⟩, ⟨HI0.out⟩, ⟨HK.out⟩, ⟨HB.out⟩⟩
     ·replace c23 := Bool.eq_false_iff.mpr c23
      subst c23
      rw [if_neg (show ¬ (false = true) by decide)] at H
      have HC35 := Aside0.mk H
      clear H
      go_upto_region 7 with (fail)
      go_cut [35] (fun v35 wc => ∃ (kq : Nat) (x35_34 : Bool) (x1001_34 : Int) (x1002_34 : Int), v35 = .bool x35_34 ∧ Aside0 (spec_l1Cur_row.j2 kq x35_34 s0_0 x1001_34 x1002_34 t277 t278 x291002_1 = some (r1, r2, r3, r4, r5)) ∧ Aside0 (kq ≤ kj14) ∧ Aside0 (Kd.R (Kd.int .i64) 3 wc w.heap.size (fun _ => True) u291002 x291002_1) ∧ Aside0 (wc.heap[gb276]? = some (.cells #[.int .i64 0, .bool false, (.slice none 0 0)] 26 (0, 0))) ∧ Aside0 (wc.heap[gb290]? = some (.cells #[.int .i64 t277, .bool t278, u291002] 26 (0, 0))) ∧ Aside0 (IsS66 w0 wc g s0_0 x1001_34 x1002_34) ∧ Aside0 (KeepBut w wc g none) ∧ Aside0 (Below w0.heap.size w0 wc))
      case first =>
       have H := HC35.out
       clear HC35
       replace H := Option.bind_eq_some_iff.mp H
       obtain ⟨⟨t297, t298, t299⟩, A360, H⟩ := H
       try dsimp only at H
       have A36 := Aside0.mk A360
       clear A360
       by_cases c37 : t297 = true
       ·subst c37
        rw [if_pos rfl] at H
        replace H := Option.bind_eq_some_iff.mp H
        obtain ⟨t300, A380, H⟩ := H
        try dsimp only at H
        have A38 := Aside0.mk A380
        clear A380
        have H' := Aside0.mk H
        clear H
        go_wp2_with (first | ((with_reducible refine gate_callee (f := 51) rfl ?_); refine goesL_ (some 31) rfl rfl Tryd.func51 (by kernel_rfl) rfl #[.pointer (some ⟨g, 0, none⟩), .int .i64 6] rfl (by first | rfl | (simp only [List.map_toArray, List.map_cons, List.map_nil, List.length_drop, List.length_take]; first | done | rfl)) ?_; (with_reducible refine (spec_l1Cur_one.calls g s0_0 x1001_1 x1002_1 6 true t298 t299 w0 _ ?side1 ?side2 A36.out).mono ?_); (case side1 => exact HI0.out); (case side2 => exact HB.out); rintro e w39 ⟨rfl, hi, hb, hk⟩; refine ⟨_, rfl, ?_⟩; replace HO_291002 := Aside0.mk (Kd.R_mono (Kd.R_keep (IsS66.apart HI0.out HO_291002.out (by decide)) hk (fun _ h => h.2)) (fun _ h => h.1)); replace BK276 := Aside0.mk (KeepBut.blk hk BK276.out NB276_0.out (by simp)); replace BK290 := Aside0.mk (KeepBut.blk hk BK290.out NB290_0.out (by simp)); replace HK := Aside0.mk (KeepBut.trans HK.out hk (.inl rfl)); replace HB := Aside0.mk (hb); replace HI0 := Aside0.mk (hi); (try clear hb); (try clear hb2); (try clear hk); (try clear hi); have hnb40 := NB290_276.out; have hnc40 := NB276_290.out; have hnb41 := NB290_0.out; have hnc41 := NB0_290.out; have hcz42_0 : w39.cell? ⟨gb290, 0, none⟩ = some (.int .i64 t277) := (blk_cell BK290.out 0).trans rfl; have hcz42_1 : w39.cell? ⟨gb290, 1, none⟩ = some (.bool t278) := (blk_cell BK290.out 1).trans rfl; have hcz42_2 : w39.cell? ⟨gb290, 2, none⟩ = some (u291002) := (blk_cell BK290.out 2).trans rfl; have hfz42_0 := blk_frozen BK290.out 0; have hfz42_1 := blk_frozen BK290.out 1; have hfz42_2 := blk_frozen BK290.out 2; obtain ⟨Ao43, co43, eo43⟩ := Kd.R_slice HO_291002.out; subst eo43) | (go_at_call 47; (with_reducible refine (spec_l2Row.calls kj14 t277 t278 _ _ x291002_1 t300 _ ?side1 ?side2 A38.out).mono ?_); (case side1 => repeat (first | exact (Kd.R_reads' HO_291002.out).2.2 | (with_reducible refine Kd.C_alloc ?_ _) | (with_reducible refine Kd.C_drewN ?_ _) | (with_reducible refine Kd.C_drew ?_))); (case side2 => exact (Kd.R_reads' HO_291002.out).2.1); rintro e w44 ⟨rfl, hb⟩; replace HO_291002 := Aside0.mk (Kd.R_below HO_291002.out hb); replace BK276 := Aside0.mk (blk_below BK276.out hb); replace BK290 := Aside0.mk (blk_below BK290.out hb); replace HI0 := Aside0.mk (IsS66.below HI0.out hb); replace HK := Aside0.mk (KeepBut.trans HK.out (KeepBut.of_below hb g none) (.inl rfl)); replace HB := Aside0.mk (below_step HB.out hb); (try clear hb); (try clear hb2); (try clear hk); (try clear hi)))
        go_meet
        case rel => exact ⟨_, (t300), (t298), (t299), (by first | rfl | (simp; done) | (simp [*]; done)), H', ⟨by have := HK1.out; have := HJ14.out; first | omega | exact Nat.le_refl _⟩, ⟨by (with_reducible repeat (first | apply Kd.R_alloc | apply Kd.R_drewN | apply Kd.R_drew)); exact HO_291002.out⟩, ⟨BK276.out⟩, ⟨BK290.out⟩, ⟨HI0.out⟩, ⟨HK.out⟩, ⟨HB.out⟩⟩
       ·replace c37 := Bool.eq_false_iff.mpr c37
        subst c37
        rw [if_neg (show ¬ (false = true) by decide)] at H
        have H' := Aside0.mk H
        clear H
        go_wp2_with (first | ((with_reducible refine gate_callee (f := 51) rfl ?_); refine goesL_ (some 31) rfl rfl Tryd.func51 (by kernel_rfl) rfl #[.pointer (some ⟨g, 0, none⟩), .int .i64 6] rfl (by first | rfl | (simp only [List.map_toArray, List.map_cons, List.map_nil, List.length_drop, List.length_take]; first | done | rfl)) ?_; (with_reducible refine (spec_l1Cur_one.calls g s0_0 x1001_1 x1002_1 6 false t298 t299 w0 _ ?side1 ?side2 A36.out).mono ?_); (case side1 => exact HI0.out); (case side2 => exact HB.out); rintro e w45 ⟨rfl, hi, hb, hk⟩; refine ⟨_, rfl, ?_⟩; have n0_ := Aside0.mk (Kd.R_mono (Kd.R_keep (IsS66.apart HI0.out HO_291002.out (by decide)) hk (fun _ h => h.2)) (fun _ h => h.1)); have n1_ := Aside0.mk (KeepBut.blk hk BK276.out NB276_0.out (by simp)); have n2_ := Aside0.mk (KeepBut.blk hk BK290.out NB290_0.out (by simp)); have n3_ := Aside0.mk (KeepBut.trans HK.out hk (.inl rfl)); have n4_ := Aside0.mk (hb); have n5_ := Aside0.mk (hi); clear HO_291002 BK276 BK290 HK HB HI0; have HO_291002 := n0_; have BK276 := n1_; have BK290 := n2_; have HK := n3_; have HB := n4_; have HI0 := n5_; clear n0_ n1_ n2_ n3_ n4_ n5_; (try clear hb); (try clear hb2); (try clear hk); (try clear hi)))
        go_meet
        case rel => exact ⟨_, (false), (t298), (t299), (by first | rfl | (simp; done) | (simp [*]; done)), H', ⟨by have := HK1.out; have := HJ14.out; first | omega | exact Nat.le_refl _⟩, ⟨by (with_reducible repeat (first | apply Kd.R_alloc | apply Kd.R_drewN | apply Kd.R_drew)); exact HO_291002.out⟩, ⟨BK276.out⟩, ⟨BK290.out⟩, ⟨HI0.out⟩, ⟨HK.out⟩, ⟨HB.out⟩⟩
      case rest =>
       clear HC35
       try clear c1
       try clear c2
       try clear p2
       try clear c3
       try clear c4
       try clear c5
       try clear c6
       try clear p6
       try clear c11
       try clear c12
       try clear c16
       try clear c16b0
       try clear c16b1
       try clear c17
       try clear c18
       try clear c20
       try clear c21
       try clear c23
       try clear c25
       try clear c26
       try clear c28
       try clear c29
       try clear c37
       try clear c40
       try clear c41
       try clear hcz13_0
       try clear hcz13_1
       try clear hcz13_2
       try clear hcz19_0
       try clear hcz19_1
       try clear hcz19_2
       try clear hcz22_0
       try clear hcz22_1
       try clear hcz22_2
       try clear hcz30_0
       try clear hcz30_1
       try clear hcz30_2
       try clear hcz33_0
       try clear hcz33_1
       try clear hcz33_2
       try clear hcz42_0
       try clear hcz42_1
       try clear hcz42_2
       try clear hfz13_0
       try clear hfz13_1
       try clear hfz13_2
       try clear hfz19_0
       try clear hfz19_1
       try clear hfz19_2
       try clear hfz22_0
       try clear hfz22_1
       try clear hfz22_2
       try clear hfz30_0
       try clear hfz30_1
       try clear hfz30_2
       try clear hfz33_0
       try clear hfz33_1
       try clear hfz33_2
       try clear hfz42_0
       try clear hfz42_1
       try clear hfz42_2
       try clear p2
       obtain ⟨kq, x35_34, x1001_34, x1002_34, rfl, HA, HJ34, HO_291002, BK276, BK290, HI0, HK, HB⟩ := hcut
       cases kq with
       | zero => exact absurd HA.out (by simp [spec_l1Cur_row.j2])
       | succ kj34 =>
        have H := HA.out
        clear HA
        simp only [spec_l1Cur_row.j2] at H
        have HC46 := Aside0.mk H
        clear H
        go_upto_if 35 with (fail)
        go_cut [] (fun wc => ∃ (kq : Nat) (x291000_45 : Int) (x291001_45 : Bool) (x291002_45 : List Int) (u291002 : Value), Aside0 (spec_l1Cur_row.j3 kq s0_0 x1001_34 x1002_34 x291000_45 x291001_45 x291002_45 = some (r1, r2, r3, r4, r5)) ∧ Aside0 (kq ≤ kj34) ∧ Aside0 (Kd.R (Kd.int .i64) 3 wc w.heap.size (fun _ => True) u291002 x291002_45) ∧ Aside0 (wc.heap[gb276]? = some (.cells #[.int .i64 0, .bool false, (.slice none 0 0)] 26 (0, 0))) ∧ Aside0 (wc.heap[gb290]? = some (.cells #[.int .i64 x291000_45, .bool x291001_45, u291002] 26 (0, 0))) ∧ Aside0 (IsS66 w0 wc g s0_0 x1001_34 x1002_34) ∧ Aside0 (KeepBut w wc g none) ∧ Aside0 (Below w0.heap.size w0 wc))
        case first =>
         have H := HC46.out
         clear HC46
         by_cases c47 : x35_34 = true
         ·subst c47
          rw [if_pos rfl] at H
          replace H := Option.bind_eq_some_iff.mp H
          obtain ⟨⟨t301, t302, t303, t306⟩, A480, H⟩ := H
          try dsimp only at H
          have A48 := Aside0.mk A480
          clear A480
          have H' := Aside0.mk H
          clear H
          have hnb49 := NB290_276.out
          have hnc49 := NB276_290.out
          have hnb50 := NB290_0.out
          have hnc50 := NB0_290.out
          have hcz51_0 : wc.cell? ⟨gb290, 0, none⟩ = some (.int .i64 t277) := (blk_cell BK290.out 0).trans rfl
          have hcz51_1 : wc.cell? ⟨gb290, 1, none⟩ = some (.bool t278) := (blk_cell BK290.out 1).trans rfl
          have hcz51_2 : wc.cell? ⟨gb290, 2, none⟩ = some (u291002) := (blk_cell BK290.out 2).trans rfl
          have hfz51_0 := blk_frozen BK290.out 0
          have hfz51_1 := blk_frozen BK290.out 1
          have hfz51_2 := blk_frozen BK290.out 2
          obtain ⟨Ao52, co52, eo52⟩ := Kd.R_slice HO_291002.out
          subst eo52
          go_wp2_with (first | ((with_reducible refine gate_callee (f := 82) rfl ?_); refine goesL_ (some 38) rfl rfl Tryd.func82 (by kernel_rfl) rfl #[.agg #[.int .i64 t277, .bool t278, .slice Ao52 x291002_1.length co52]] rfl (by first | rfl | (simp only [List.map_toArray, List.map_cons, List.map_nil, List.length_drop, List.length_take]; first | done | rfl)) ?_; (with_reducible refine (spec_OtherSeats.calls kj34 t277 t278 _ _ x291002_1 t301 t302 t303 t306 _ ?side1 ?side2 A48.out).mono ?_); (case side1 => repeat (first | exact (Kd.R_reads' HO_291002.out).2.2 | (with_reducible refine Kd.C_alloc ?_ _) | (with_reducible refine Kd.C_drewN ?_ _) | (with_reducible refine Kd.C_drew ?_))); (case side2 => exact (Kd.R_reads' HO_291002.out).2.1); rintro e w53 ⟨v304, rfl, ho0, hb⟩; refine ⟨_, rfl, ?_⟩; have n0_ := Aside0.mk (Kd.R_elder' (by (with_reducible repeat (first | apply Kd.R_alloc | apply Kd.R_drewN | apply Kd.R_drew)); exact HO_291002.out) (Kd.R_base ho0) hb); have n1_ := Aside0.mk (Kd.R_lower (Kd.R_new' ho0 (Kd.R_lt (by (with_reducible repeat (first | apply Kd.R_alloc | apply Kd.R_drewN | apply Kd.R_drew)); exact HO_291002.out))) (keep_size (w := w) (g := g) (row := none) (by repeat (first | (with_reducible first | exact HK.out | apply KeepBut.set_ | apply keep_drewN | apply keep_drew | apply keep_alloc | refine keep_far ?_ GW276.out _ | refine keep_far ?_ GW290.out _) | exact HK.out)))); have n2_ := Aside0.mk (blk_below (by first | (with_reducible exact BK276.out) | ((with_reducible repeat (first | refine blk_drewN ?_ _ | refine blk_drew ?_ | refine blk_alloc ?_ _)); exact BK276.out)) hb); have n3_ := Aside0.mk (blk_below (by first | (with_reducible exact BK290.out) | ((with_reducible repeat (first | refine blk_drewN ?_ _ | refine blk_drew ?_ | refine blk_alloc ?_ _)); exact BK290.out)) hb); have n4_ := Aside0.mk (IsS66.below (by repeat (first | (with_reducible first | exact HI0.out | apply IsS66.alloc | apply IsS66.drewN | apply IsS66.drew | apply IsS66.set_1 | apply IsS66.set_2 | refine IsS66.far ?_ NB0_276.out _ | refine IsS66.far ?_ NB0_290.out _) | exact HI0.out)) hb); have n5_ := Aside0.mk (KeepBut.trans (by repeat (first | (with_reducible first | exact HK.out | apply KeepBut.set_ | apply keep_drewN | apply keep_drew | apply keep_alloc | refine keep_far ?_ GW276.out _ | refine keep_far ?_ GW290.out _) | exact HK.out)) (KeepBut.of_below hb g none) (.inl rfl)); have n6_ := Aside0.mk (below_step (by repeat (first | (with_reducible first | exact HB.out | apply below_alloc | apply pw_below_drewN | apply below_drew1 | refine below_set ?_ (IsS66.ge HI0.out) | refine below_set ?_ GE276.out | refine below_set ?_ GE290.out) | exact HB.out)) hb); clear HO_291002 BK276 BK290 HI0 HK HB; have HO_291002 := n0_; have HO305 := n1_; have BK276 := n2_; have BK290 := n3_; have HI0 := n4_; have HK := n5_; have HB := n6_; clear n0_ n1_ n2_ n3_ n4_ n5_ n6_; (try clear hb); (try clear hb2); (try clear hk); (try clear hi); (try clear ho0); have hcz54_0 : w53.cell? ⟨gb290, 0, none⟩ = some (.int .i64 t277) := (blk_cell BK290.out 0).trans rfl; have hcz54_1 : w53.cell? ⟨gb290, 1, none⟩ = some (.bool t278) := (blk_cell BK290.out 1).trans rfl; have hcz54_2 : w53.cell? ⟨gb290, 2, none⟩ = some (.slice Ao52 x291002_1.length co52) := (blk_cell BK290.out 2).trans rfl; have hfz54_0 := blk_frozen BK290.out 0; have hfz54_1 := blk_frozen BK290.out 1; have hfz54_2 := blk_frozen BK290.out 2; obtain ⟨Ao55, co55, eo55⟩ := Kd.R_slice HO305.out; subst eo55))
          go_meet
          case rel => exact ⟨_, (t301), (t302), (t303), (.slice Ao55 t303.length co55), H', ⟨by have := HK1.out; have := HJ14.out; have := HJ34.out; first | omega | exact Nat.le_refl _⟩, ⟨by (with_reducible repeat (first | apply Kd.R_alloc | apply Kd.R_drewN | apply Kd.R_drew)); exact Kd.R_mono (Kd.R_far (p := ⟨gb290, 2, none⟩) (Kd.R_far (p := ⟨gb290, 1, none⟩) (Kd.R_far (p := ⟨gb290, 0, none⟩) (Kd.R_types HO305.out BK290.out (by decide)) (fun _ hk => hk.2) (.int .i64 t301)) (fun _ hk => hk.2) (.bool t302)) (fun _ hk => hk.2) (.slice Ao55 t303.length co55)) (fun _ hk => trivial)⟩, ⟨by (with_reducible repeat (first | refine blk_drewN ?_ _ | refine blk_drew ?_ | refine blk_alloc ?_ _)); refine blk_far ?_ NB276_290.out _; (with_reducible repeat (first | refine blk_drewN ?_ _ | refine blk_drew ?_ | refine blk_alloc ?_ _)); refine blk_far ?_ NB276_290.out _; (with_reducible repeat (first | refine blk_drewN ?_ _ | refine blk_drew ?_ | refine blk_alloc ?_ _)); refine blk_far ?_ NB276_290.out _; (with_reducible repeat (first | refine blk_drewN ?_ _ | refine blk_drew ?_ | refine blk_alloc ?_ _)); exact BK276.out⟩, ⟨by (with_reducible repeat (first | refine blk_drewN ?_ _ | refine blk_drew ?_ | refine blk_alloc ?_ _)); refine blk_put (cs := #[.int .i64 t301, .bool t302, .slice Ao52 x291002_1.length co52]) ?_ 2 _ rfl; (with_reducible repeat (first | refine blk_drewN ?_ _ | refine blk_drew ?_ | refine blk_alloc ?_ _)); refine blk_put (cs := #[.int .i64 t301, .bool t278, .slice Ao52 x291002_1.length co52]) ?_ 1 _ rfl; (with_reducible repeat (first | refine blk_drewN ?_ _ | refine blk_drew ?_ | refine blk_alloc ?_ _)); refine blk_put (cs := #[.int .i64 t277, .bool t278, .slice Ao52 x291002_1.length co52]) ?_ 0 _ rfl; (with_reducible repeat (first | refine blk_drewN ?_ _ | refine blk_drew ?_ | refine blk_alloc ?_ _)); exact BK290.out⟩, ⟨by repeat (first | (with_reducible first | exact HI0.out | apply IsS66.alloc | apply IsS66.drewN | apply IsS66.drew | apply IsS66.set_1 | apply IsS66.set_2 | refine IsS66.far ?_ NB0_276.out _ | refine IsS66.far ?_ NB0_290.out _) | exact HI0.out)⟩, ⟨by repeat (first | (with_reducible first | exact HK.out | apply KeepBut.set_ | apply keep_drewN | apply keep_drew | apply keep_alloc | refine keep_far ?_ GW276.out _ | refine keep_far ?_ GW290.out _) | exact HK.out)⟩, ⟨by repeat (first | (with_reducible first | exact HB.out | apply below_alloc | apply pw_below_drewN | apply below_drew1 | refine below_set ?_ (IsS66.ge HI0.out) | refine below_set ?_ GE276.out | refine below_set ?_ GE290.out) | exact HB.out)⟩⟩
         ·replace c47 := Bool.eq_false_iff.mpr c47
          subst c47
          rw [if_neg (show ¬ (false = true) by decide)] at H
          have H' := Aside0.mk H
          clear H
          go_wp2
          go_meet
          case rel => exact ⟨_, (t277), (t278), (x291002_1), (u291002), H', ⟨by have := HK1.out; have := HJ14.out; have := HJ34.out; first | omega | exact Nat.le_refl _⟩, ⟨by (with_reducible repeat (first | apply Kd.R_alloc | apply Kd.R_drewN | apply Kd.R_drew)); exact HO_291002.out⟩, ⟨BK276.out⟩, ⟨BK290.out⟩, ⟨HI0.out⟩, ⟨HK.out⟩, ⟨HB.out⟩⟩
        case rest =>
         clear HC46
         try clear c1
         try clear c2
         try clear p2
         try clear c3
         try clear c4
         try clear c5
         try clear c6
         try clear p6
         try clear c8
         try clear c11
         try clear c12
         try clear c16
         try clear c16b0
         try clear c16b1
         try clear c17
         try clear c18
         try clear c20
         try clear c21
         try clear c23
         try clear c25
         try clear c26
         try clear c28
         try clear c29
         try clear c37
         try clear c40
         try clear c41
         try clear c47
         try clear c49
         try clear c50
         try clear c51
         try clear c52
         try clear c53
         try clear hcz13_0
         try clear hcz13_1
         try clear hcz13_2
         try clear hcz19_0
         try clear hcz19_1
         try clear hcz19_2
         try clear hcz22_0
         try clear hcz22_1
         try clear hcz22_2
         try clear hcz30_0
         try clear hcz30_1
         try clear hcz30_2
         try clear hcz33_0
         try clear hcz33_1
         try clear hcz33_2
         try clear hcz42_0
         try clear hcz42_1
         try clear hcz42_2
         try clear hcz51_0
         try clear hcz51_1
         try clear hcz51_2
         try clear hcz54_0
         try clear hcz54_1
         try clear hcz54_2
         try clear hfz13_0
         try clear hfz13_1
         try clear hfz13_2
         try clear hfz19_0
         try clear hfz19_1
         try clear hfz19_2
         try clear hfz22_0
         try clear hfz22_1
         try clear hfz22_2
         try clear hfz30_0
         try clear hfz30_1
         try clear hfz30_2
         try clear hfz33_0
         try clear hfz33_1
         try clear hfz33_2
         try clear hfz42_0
         try clear hfz42_1
         try clear hfz42_2
         try clear hfz51_0
         try clear hfz51_1
         try clear hfz51_2
         try clear hfz54_0
         try clear hfz54_1
         try clear hfz54_2
         try clear p2
         try clear p6
         obtain ⟨kq, x291000_45, x291001_45, x291002_45, u291002, HA, HJ45, HO_291002, BK276, BK290, HI0, HK, HB⟩ := hcut
         cases kq with
         | zero => exact absurd HA.out (by simp [spec_l1Cur_row.j3])
         | succ kj45 =>
          have H := HA.out
          clear HA
          simp only [spec_l1Cur_row.j3] at H
          replace H := Option.bind_eq_some_iff.mp H
          obtain ⟨⟨t307, t308, t309⟩, A560, H⟩ := H
          try dsimp only at H
          have A56 := Aside0.mk A560
          clear A560
          by_cases c57 : t307 = true
          ·subst c57
           rw [if_pos rfl] at H
           obtain ⟨y310, hy310⟩ : ∃ y_ : List Int, y_ = (([(-1), 0, x291000_45, 4611686018427387904] : List Int)) := ⟨_, rfl⟩
           replace H : ((spec_l1Cur_among.f s0_0 t308 t309 y310).bind fun bt313 => (if x291002_45.length < 17592186044416 then (some (x291000_45, x291001_45, (x291002_45 ++ [bt313.1]), bt313.2.1, bt313.2.2)) else (none))) = some (r1, r2, r3, r4, r5) := by first | (rw [hy310]; with_reducible exact H) | (have H2_ := (Option.bind_some _ _).symm.trans H; rw [hy310]; with_reducible exact H2_) | (have H2_ := (Option.bind_some _ _).symm.trans H; with_reducible exact H2_) | with_reducible exact H | (rw [hy310]; exact H) | exact H
           have Ny310 := Aside0.mk hy310
           clear hy310
           replace H := Option.bind_eq_some_iff.mp H
           obtain ⟨⟨t313, t314, t315⟩, A580, H⟩ := H
           try dsimp only at H
           have A58 := Aside0.mk A580
           clear A580
           by_cases c59 : x291002_45.length < 17592186044416
           ·rw [if_pos c59] at H
            have LMc59 := Aside0.mk c59
            clear c59
            obtain ⟨y316, hy316⟩ : ∃ y_ : List Int, y_ = (x291002_45 ++ [t313]) := ⟨_, rfl⟩
            replace H : (some (x291000_45, x291001_45, y316, t314, t315)) = some (r1, r2, r3, r4, r5) := by first | (rw [hy316]; with_reducible exact H) | (have H2_ := (Option.bind_some _ _).symm.trans H; rw [hy316]; with_reducible exact H2_) | (have H2_ := (Option.bind_some _ _).symm.trans H; with_reducible exact H2_) | with_reducible exact H | (rw [hy316]; exact H) | exact H
            have Ny316 := Aside0.mk hy316
            clear hy316
            simp only [Option.some.injEq, Prod.mk.injEq] at H
            obtain ⟨rfl, rfl, rfl, rfl, rfl⟩ := H
            try go_wp2_with (first | ((with_reducible refine gate_callee (f := 51) rfl ?_); refine goesL_ (some 42) rfl rfl Tryd.func51 (by kernel_rfl) rfl #[.pointer (some ⟨g, 0, none⟩), .int .i64 40] rfl (by first | rfl | (simp only [List.map_toArray, List.map_cons, List.map_nil, List.length_drop, List.length_take]; first | done | rfl)) ?_; (with_reducible refine (spec_l1Cur_one.calls g s0_0 x1001_34 x1002_34 40 true t308 t309 w0 _ ?side1 ?side2 A56.out).mono ?_); (case side1 => exact HI0.out); (case side2 => exact HB.out); rintro e w60 ⟨rfl, hi, hb, hk⟩; refine ⟨_, rfl, ?_⟩; replace HO_291002 := Aside0.mk (Kd.R_mono (Kd.R_keep (IsS66.apart HI0.out HO_291002.out (by decide)) hk (fun _ h => h.2)) (fun _ h => h.1)); replace BK276 := Aside0.mk (KeepBut.blk hk BK276.out NB276_0.out (by simp)); replace BK290 := Aside0.mk (KeepBut.blk hk BK290.out NB290_0.out (by simp)); replace HK := Aside0.mk (KeepBut.trans HK.out hk (.inl rfl)); replace HB := Aside0.mk (hb); replace HI0 := Aside0.mk (hi); (try clear hb); (try clear hb2); (try clear hk); (try clear hi)))
            have n0_ := Aside0.mk (Kd.R_drew HO_291002.out)
            have n1_ := Aside0.mk (blk_drew BK276.out)
            have n2_ := Aside0.mk (blk_drew BK290.out)
            have n3_ := Aside0.mk (IsS66.drew HI0.out)
            have n4_ := Aside0.mk (keep_drew HK.out)
            have n5_ := Aside0.mk (below_drew1 HB.out)
            clear HO_291002 BK276 BK290 HI0 HK HB
            have HO_291002 := n0_
            have BK276 := n1_
            have BK290 := n2_
            have HI0 := n3_
            have HK := n4_
            have HB := n5_
            clear n0_ n1_ n2_ n3_ n4_ n5_
            refine start_ (n := 11) (S := fun w' => w'.cell? ⟨gb290, 0, none⟩ = some (.int .i64 x291000_45) ∧ w'.cell? ⟨gb290, 1, none⟩ = some (.bool x291001_45) ∧ w'.cell? ⟨gb290, 2, none⟩ = some (u291002)) (ds := [10]) #[false, false, false, false, false, false, false, false, false, false, false] (by kernel_rfl) rfl rfl ⟨(blk_cell BK290.out 0).trans rfl, (blk_cell BK290.out 1).trans rfl, (blk_cell BK290.out 2).trans rfl⟩ (fun hHeld => ?_); refine with_tabW spec_l1Cur_row.tab10 spec_l1Cur_row.bits10 (fun HT_ HW_ => ?_)
            generalize w60.drew = w61 at HO_291002 BK276 BK290 HI0 HK HB hHeld ⊢
            refine pure_ (i := 0) (N := some 43) (v := ?_) (a' := ?_) #[true, false, false, false, false, false, false, false, false, false, false] rfl rfl (any_of HT_.out (by kernel_rfl)) (fun _ _ _ h => h) (Or.inl ⟨by rfl, ?_⟩) ?_ ?_
            rotate_left
            ·intro w'
             go_simp
             with_reducible rfl
            rotate_left
            ·simp only [Act.put, List.setIfInBounds_toArray, List.set_cons_zero, List.set_cons_succ, i64_w, i32_w]
             rfl
            refine pure_ (i := 2) (N := some 45) (v := ?_) (a' := ?_) #[true, false, true, false, false, false, false, false, false, false, false] rfl rfl (any_of HT_.out (by kernel_rfl)) (fun _ _ _ h => h) (Or.inl ⟨by rfl, ?_⟩) ?_ ?_
            rotate_left
            ·intro w'
             go_simp
             with_reducible rfl
            rotate_left
            ·simp only [Act.put, List.setIfInBounds_toArray, List.set_cons_zero, List.set_cons_succ, i64_w, i32_w]
             rfl
            refine pure_ (i := 3) (N := some 46) (v := ?_) (a' := ?_) #[true, false, true, true, false, false, false, false, false, false, false] rfl rfl (any_of HT_.out (by kernel_rfl)) (fun _ _ _ h => h) (Or.inl ⟨by rfl, ?_⟩) ?_ ?_
            rotate_left
            ·intro w'
             go_simp
             with_reducible rfl
            rotate_left
            ·simp only [Act.put, List.setIfInBounds_toArray, List.set_cons_zero, List.set_cons_succ, i64_w, i32_w]
             rfl
            refine take_ (i := 1) (N := some 44) (v := ?_) (a' := ?_) #[true, true, true, true, false, false, false, false, false, false, false] rfl rfl (take_ofW HT_.out HW_.out (by kernel_rfl)) (fun _ _ _ h => h) (Or.inl ⟨by rfl, ?_⟩) hHeld ?_ ?_
            rotate_left
            ·rintro w' ⟨s0, s1, s2⟩
             go_simp
             with_reducible rfl
            rotate_left
            ·simp only [Act.put, List.setIfInBounds_toArray, List.set_cons_zero, List.set_cons_succ, i64_w, i32_w]
             rfl
            refine take_ (i := 4) (N := some 47) (v := ?_) (a' := ?_) #[true, true, true, true, true, false, false, false, false, false, false] rfl rfl (take_ofW HT_.out HW_.out (by kernel_rfl)) (fun _ _ _ h => h) (Or.inl ⟨by rfl, ?_⟩) hHeld ?_ ?_
            rotate_left
            ·rintro w' ⟨s0, s1, s2⟩
             go_simp
             with_reducible rfl
            rotate_left
            ·simp only [Act.put, List.setIfInBounds_toArray, List.set_cons_zero, List.set_cons_succ, i64_w, i32_w]
             rfl
            refine one_ (i := 5) (N := some 48) #[true, true, true, true, true, true, false, false, false, false, false] rfl rfl (one_of HT_.out (by kernel_rfl)) (by decide) (fun K hK => ?_)
            refine Kd.R_lit_step (Kd.int .i64) _ 3 ?hg (N := 48) ?hd (xs := ([(-1), 0, x291000_45, 4611686018427387904] : List Int)) (inner := [.int .i64 (-1), .int .i64 0, .int .i64 x291000_45, .int .i64 4611686018427387904]) (ok := fun _ => True) (okp := fun _ => True) ?hr ?hp (fun _ hk => hk) trivial (Below.refl _ _) (Nat.le_refl _) (by simp) ?_; (case hd => rfl); (case hg => rfl); (case hr => first | (go_simp; done) | (go_simp; rfl)); (case hp => exact (Reps.one (show Kd.M (Kd.int .i64) _ _ _ (-1) [.int .i64 (-1)] from rfl) (Reps.one (show Kd.M (Kd.int .i64) _ _ _ 0 [.int .i64 0] from rfl) (Reps.one (show Kd.M (Kd.int .i64) _ _ _ x291000_45 [.int .i64 x291000_45] from rfl) (Reps.one (show Kd.M (Kd.int .i64) _ _ _ 4611686018427387904 [.int .i64 4611686018427387904] from rfl) (Reps.none _ _))))))
            intro v311 w62 ho63 hb hg_ hnew_
            clear hg_ hnew_
            (first | rw [← Ny310.out] at ho63 | (simp only [Int.reduceToNat] at ho63; rw [← Ny310.out] at ho63))
            have n0_ := Aside0.mk (Kd.R_elder' HO_291002.out (Kd.R_base ho63) hb)
            have n1_ := Aside0.mk (Kd.R_lower (Kd.R_new' ho63 (Kd.R_lt HO_291002.out)) (keep_size HK.out))
            have n2_ := Aside0.mk (blk_below BK276.out hb)
            have n3_ := Aside0.mk (blk_below BK290.out hb)
            have n4_ := Aside0.mk (IsS66.below HI0.out hb)
            have n5_ := Aside0.mk (KeepBut.trans HK.out (KeepBut.of_below hb g none) (.inl rfl))
            have n6_ := Aside0.mk (below_step HB.out hb)
            clear HO_291002 BK276 BK290 HI0 HK HB
            have HO_291002 := n0_
            have HO312 := n1_
            have BK276 := n2_
            have BK290 := n3_
            have HI0 := n4_
            have HK := n5_
            have HB := n6_
            clear n0_ n1_ n2_ n3_ n4_ n5_ n6_ hb ho63
            obtain ⟨Ao64, co64, eo64⟩ := Kd.R_slice HO312.out
            (first | subst eo64 | (injection eo64 with f1_ f2_ f3_; have f4_ := f1_.symm; have f5_ := f3_.symm; clear f1_ f2_ f3_; subst f4_; subst f5_))
            refine hK.out _ _ ⟨(blk_cell BK290.out 0).trans rfl, (blk_cell BK290.out 1).trans rfl, (blk_cell BK290.out 2).trans rfl⟩ (fun hHeld => ?_)
            clear hK K
            refine norm_ (a' := ?_) ?_ ?_
            rotate_left
            ·show Act.put _ (some 48) _ = _
             simp only [Act.put, List.setIfInBounds_toArray, List.set_cons_zero, List.set_cons_succ, i64_w, i32_w]
             rfl
            refine one_ (i := 6) (N := some 49) #[true, true, true, true, true, true, true, false, false, false, false] rfl rfl (one_of HT_.out (by kernel_rfl)) (by decide) (fun K hK => ?_)
            refine goes_ Tryd.func66 (by kernel_rfl) rfl #[.pointer (some ⟨g, 0, none⟩), .slice Ao64 y310.length co64] (by rfl) rfl rfl (by first | rfl | (simp only [List.map_toArray, List.map_cons, List.map_nil, List.length_drop, List.length_take]; first | done | rfl)) ?_
            with_reducible refine (spec_l1Cur_among.calls g s0_0 t308 t309 _ _ y310 t313 t314 t315 w0 _ ?side1 ?side2 ?side3 ?side4 ?side5 A58.out).mono ?_
            (case side1 => exact HI0.out)
            (case side2 => exact HB.out)
            (case side3 => repeat (first | exact (Kd.R_reads' HO312.out).2.2 | (with_reducible refine Kd.C_alloc ?_ _) | (with_reducible refine Kd.C_drewN ?_ _) | (with_reducible refine Kd.C_drew ?_)))
            (case side4 => exact (Kd.R_reads' HO312.out).2.1)
            (case side5 => exact far_slice (IsS66.own_ne HI0.out HO312.out (by decide)))
            rintro e w65 ⟨rfl, hi, hb, hk⟩
            refine ⟨_, rfl, ?_⟩
            have n0_ := Aside0.mk (Kd.R_mono (Kd.R_keep (IsS66.apart HI0.out HO_291002.out (by decide)) hk (fun _ h => h.2)) (fun _ h => h.1))
            have n1_ := Aside0.mk (KeepBut.blk hk BK276.out NB276_0.out (by simp))
            have n2_ := Aside0.mk (KeepBut.blk hk BK290.out NB290_0.out (by simp))
            have n3_ := Aside0.mk (Kd.R_mono (Kd.R_keep (IsS66.apart HI0.out HO312.out (by decide)) hk (fun _ h => h.2)) (fun _ h => h.1))
            have n4_ := Aside0.mk (KeepBut.trans HK.out hk (.inl rfl))
            have n5_ := Aside0.mk (hb)
            have n6_ := Aside0.mk (hi)
            clear HO_291002 BK276 BK290 HO312 HK HB HI0
            have HO_291002 := n0_
            have BK276 := n1_
            have BK290 := n2_
            have HO312 := n3_
            have HK := n4_
            have HB := n5_
            have HI0 := n6_
            clear n0_ n1_ n2_ n3_ n4_ n5_ n6_
            (try clear hb)
            (try clear hb2)
            (try clear hk)
            (try clear hi)
            refine hK.out _ _ ⟨(blk_cell BK290.out 0).trans rfl, (blk_cell BK290.out 1).trans rfl, (blk_cell BK290.out 2).trans rfl⟩ (fun hHeld => ?_)
            clear hK K
            refine norm_ (a' := ?_) ?_ ?_
            rotate_left
            ·show Act.put _ (some 49) _ = _
             simp only [Act.put, List.setIfInBounds_toArray, List.set_cons_zero, List.set_cons_succ, i64_w, i32_w]
             rfl
            refine one_ (i := 7) (N := some 50) #[true, true, true, true, true, true, true, true, false, false, false] rfl rfl (one_of HT_.out (by kernel_rfl)) (by decide) (fun K hK => ?_)
            refine value_ (w1 := ?_) (v := ?_) (by rfl) rfl ?_ ?_
            rotate_left 2
            ·go_simp
             constructor
             ·rfl
             ·rfl
            refine hK.out _ _ ⟨(blk_cell (blk_alloc BK290.out _) 0).trans rfl, (blk_cell (blk_alloc BK290.out _) 1).trans rfl, (blk_cell (blk_alloc BK290.out _) 2).trans rfl⟩ (fun hHeld => ?_)
            clear hK K
            refine norm_ (a' := ?_) ?_ ?_
            rotate_left
            ·show Act.put _ (some 50) _ = _
             simp only [Act.put, List.setIfInBounds_toArray, List.set_cons_zero, List.set_cons_succ, i64_w, i32_w]
             rfl
            refine one_ (i := 8) (N := some 51) #[true, true, true, true, true, true, true, true, true, false, false] rfl rfl (one_of HT_.out (by kernel_rfl)) (by decide) (fun K hK => ?_)
            refine Kd.R_append_step (Kd.int .i64) w.heap.size (by rfl) (.tmp 44) (.tmp 50) 24 3 (.int .i64 0) 8 rfl Tryd.underlying24 info3 rfl (by decide) (by omega) u291002 x291002_45 t313 [.int .i64 t313] (fun k_ => some k_ ≠ (.slice Ao64 y310.length co64 : Value).ownBlock) (fun _ => False) rfl rfl ?aP (fun _ hk => hk.elim) ?aF ?aO (Below.refl _ _) ?aS ?aL ?_
            (case aP => exact rfl)
            (case aF => exact (fun k_ hk => Kd.fresh' (Kd.R_lt HO312.out) k_ hk))
            (case aO => exact (Kd.R_mono HO_291002.out (fun _ hk => hk.2)))
            (case aS => exact (keep_size HK.out))
            (case aL => have := LMc59.out; omega)
            intro v317 w66 ho hb hg hat
            rw [← Ny316.out] at ho
            have n0_ := Aside0.mk (blk_grown BK276.out hg (Kd.R_ne HO_291002.out BK276.out (by decide)))
            have n1_ := Aside0.mk (blk_grown BK290.out hg (Kd.R_ne HO_291002.out BK290.out (by decide)))
            have n2_ := Aside0.mk (IsS66.grown HI0.out hg (IsS66.own_ne HI0.out HO_291002.out (by decide)))
            have n3_ := Aside0.mk (Kd.R_after (ok := (fun _ => True)) HO312.out hg hat)
            have n4_ := Aside0.mk (below_weaken HB.out HL.out hb)
            have n5_ := Aside0.mk (KeepBut.trans (by repeat (first | (with_reducible first | exact HK.out | apply KeepBut.set_ | apply keep_drewN | apply keep_drew | apply keep_alloc | refine keep_far ?_ GW276.out _ | refine keep_far ?_ GW290.out _) | exact HK.out)) (KeepBut.of_grown hg g) (Kd.R_base2 HO_291002.out))
            have n6_ := Aside0.mk (ho)
            clear BK276 BK290 HI0 HO312 HB HK HO_291002
            have BK276 := n0_
            have BK290 := n1_
            have HI0 := n2_
            have HO312 := n3_
            have HB := n4_
            have HK := n5_
            have HO318 := n6_
            clear n0_ n1_ n2_ n3_ n4_ n5_ n6_ ho hb hg hat
            obtain ⟨Ao67, co67, eo67⟩ := Kd.R_slice HO318.out
            (first | subst eo67 | (injection eo67 with f1_ f2_ f3_; have f4_ := f1_.symm; have f5_ := f3_.symm; clear f1_ f2_ f3_; subst f4_; subst f5_))
            refine hK.out _ _ ⟨(blk_cell BK290.out 0).trans rfl, (blk_cell BK290.out 1).trans rfl, (blk_cell BK290.out 2).trans rfl⟩ (fun hHeld => ?_)
            clear hK K
            refine norm_ (a' := ?_) ?_ ?_
            rotate_left
            ·show Act.put _ (some 51) _ = _
             simp only [Act.put, List.setIfInBounds_toArray, List.set_cons_zero, List.set_cons_succ, i64_w, i32_w]
             rfl
            refine pure_ (i := 9) (N := some 52) (v := ?_) (a' := ?_) #[true, true, true, true, true, true, true, true, true, true, false] rfl rfl (any_of HT_.out (by kernel_rfl)) (fun _ _ _ h => h) (Or.inl ⟨by rfl, ?_⟩) ?_ ?_
            rotate_left
            ·intro w'
             go_simp
             with_reducible rfl
            rotate_left
            ·simp only [Act.put, List.setIfInBounds_toArray, List.set_cons_zero, List.set_cons_succ, i64_w, i32_w]
             rfl
            refine last_ (i := 10) (N := none) #[true, true, true, true, true, true, true, true, true, true, true] rfl rfl (one_of HT_.out (by kernel_rfl)) (by decide) (fun K hK => ?_)
            have hs68 : w66.cell? ⟨gb290, 2, none⟩ = some (u291002) := (blk_cell BK290.out 2).trans rfl
            have hfs68 := blk_frozen BK290.out 2
            have hns68_0 := NB276_290.out
            have hms68_0 := NB290_276.out
            refine skip_ (w1 := ?_) (by rfl) rfl ?_ ?_
            rotate_left
            ·go_simp
             rfl
            refine hK.out _ _ ?_
            clear hK K
            refine done_ (done_of HT_.out (by kernel_rfl)) ?_
            have hnb69 := NB290_276.out
            have hnc69 := NB276_290.out
            have hnb70 := NB290_0.out
            have hnc70 := NB0_290.out
            have hcz71_0 : w66.cell? ⟨gb290, 0, none⟩ = some (.int .i64 x291000_45) := (blk_cell BK290.out 0).trans rfl
            have hcz71_1 : w66.cell? ⟨gb290, 1, none⟩ = some (.bool x291001_45) := (blk_cell BK290.out 1).trans rfl
            have hcz71_2 : w66.cell? ⟨gb290, 2, none⟩ = some (u291002) := (blk_cell BK290.out 2).trans rfl
            have hfz71_0 := blk_frozen BK290.out 0
            have hfz71_1 := blk_frozen BK290.out 1
            have hfz71_2 := blk_frozen BK290.out 2
            have hnb72 := NB276_0.out
            have hnc72 := NB0_276.out
            have hcz73_0 : w66.cell? ⟨gb276, 0, none⟩ = some (.int .i64 0) := (blk_cell BK276.out 0).trans rfl
            have hcz73_1 : w66.cell? ⟨gb276, 1, none⟩ = some (.bool false) := (blk_cell BK276.out 1).trans rfl
            have hcz73_2 : w66.cell? ⟨gb276, 2, none⟩ = some (.slice none 0 0) := (blk_cell BK276.out 2).trans rfl
            have hfz73_0 := blk_frozen BK276.out 0
            have hfz73_1 := blk_frozen BK276.out 1
            have hfz73_2 := blk_frozen BK276.out 2
            try go_wp2
            refine bodyPost_ret (results_cell_row rfl _ _ gb276 26 #[.int .i64 x291000_45, .bool x291001_45, .slice Ao67 y316.length co67] (0, 0) _ rfl (by (with_reducible repeat (first | refine blk_drewN ?_ _ | refine blk_drew ?_ | refine blk_alloc ?_ _)); refine blk_put (cs := #[.int .i64 x291000_45, .bool x291001_45, .slice none 0 0]) ?_ 2 _ rfl; (with_reducible repeat (first | refine blk_drewN ?_ _ | refine blk_drew ?_ | refine blk_alloc ?_ _)); refine blk_put (cs := #[.int .i64 x291000_45, .bool false, .slice none 0 0]) ?_ 1 _ rfl; (with_reducible repeat (first | refine blk_drewN ?_ _ | refine blk_drew ?_ | refine blk_alloc ?_ _)); refine blk_put (cs := #[.int .i64 0, .bool false, .slice none 0 0]) ?_ 0 _ rfl; (with_reducible repeat (first | refine blk_drewN ?_ _ | refine blk_drew ?_ | refine blk_alloc ?_ _)); refine blk_far ?_ NB276_290.out _; (with_reducible repeat (first | refine blk_drewN ?_ _ | refine blk_drew ?_ | refine blk_alloc ?_ _)); exact BK276.out) Tryd.underlying26 rfl (by kernel_rfl)) rfl ?_
            exact ⟨_, by first | rfl | (simp [errW_none, errW_some] <;> rfl) | (simp [*, errW_none, errW_some] <;> rfl), by (with_reducible repeat (first | apply Kd.R_alloc | apply Kd.R_drewN | apply Kd.R_drew)); exact Kd.R_mono (Kd.R_far (p := ⟨gb276, 2, none⟩) (Kd.R_far (p := ⟨gb276, 1, none⟩) (Kd.R_far (p := ⟨gb276, 0, none⟩) (Kd.R_far (p := ⟨gb290, 2, none⟩) (Kd.R_types (Kd.R_types HO318.out BK290.out (by decide)) BK276.out (by decide)) (fun _ hk => hk.1.2) (.slice Ao67 y316.length co67)) (fun _ hk => hk.2) (.int .i64 x291000_45)) (fun _ hk => hk.2) (.bool x291001_45)) (fun _ hk => hk.2) (.slice Ao67 y316.length co67)) (fun _ hk => trivial), by repeat (first | (with_reducible first | exact HI0.out | apply IsS66.alloc | apply IsS66.drewN | apply IsS66.drew | apply IsS66.set_1 | apply IsS66.set_2 | refine IsS66.far ?_ NB0_276.out _ | refine IsS66.far ?_ NB0_290.out _) | exact HI0.out), by repeat (first | (with_reducible first | exact HB.out | apply below_alloc | apply pw_below_drewN | apply below_drew1 | refine below_set ?_ (IsS66.ge HI0.out) | refine below_set ?_ GE276.out | refine below_set ?_ GE290.out) | exact HB.out), by repeat (first | (with_reducible first | exact HK.out | apply KeepBut.set_ | apply keep_drewN | apply keep_drew | apply keep_alloc | refine keep_far ?_ GW276.out _ | refine keep_far ?_ GW290.out _) | exact HK.out)⟩
           ·rw [if_neg c59] at H
            exact absurd H (by simp)
          ·replace c57 := Bool.eq_false_iff.mpr c57
           subst c57
           rw [if_neg (show ¬ (false = true) by decide)] at H
           simp only [Option.some.injEq, Prod.mk.injEq] at H
           obtain ⟨rfl, rfl, rfl, rfl, rfl⟩ := H
           go_wp2_with (first | ((with_reducible refine gate_callee (f := 51) rfl ?_); refine goesL_ (some 42) rfl rfl Tryd.func51 (by kernel_rfl) rfl #[.pointer (some ⟨g, 0, none⟩), .int .i64 40] rfl (by first | rfl | (simp only [List.map_toArray, List.map_cons, List.map_nil, List.length_drop, List.length_take]; first | done | rfl)) ?_; (with_reducible refine (spec_l1Cur_one.calls g s0_0 x1001_34 x1002_34 40 false t308 t309 w0 _ ?side1 ?side2 A56.out).mono ?_); (case side1 => exact HI0.out); (case side2 => exact HB.out); rintro e w74 ⟨rfl, hi, hb, hk⟩; refine ⟨_, rfl, ?_⟩; replace HO_291002 := Aside0.mk (Kd.R_mono (Kd.R_keep (IsS66.apart (show IsS66 w0 _ g s0_0 x1001_34 x1002_34 from by repeat (first | (with_reducible first | exact HI0.out | apply IsS66.alloc | apply IsS66.drewN | apply IsS66.drew | apply IsS66.set_1 | apply IsS66.set_2 | refine IsS66.far ?_ NB0_276.out _ | refine IsS66.far ?_ NB0_290.out _) | exact HI0.out)) (by (with_reducible repeat (first | apply Kd.R_alloc | apply Kd.R_drewN | apply Kd.R_drew)); exact HO_291002.out) (by decide)) hk (fun _ h => h.2)) (fun _ h => h.1)); replace BK276 := Aside0.mk (KeepBut.blk hk (by first | (with_reducible exact BK276.out) | ((with_reducible repeat (first | refine blk_drewN ?_ _ | refine blk_drew ?_ | refine blk_alloc ?_ _)); exact BK276.out)) NB276_0.out (by simp)); replace BK290 := Aside0.mk (KeepBut.blk hk (by first | (with_reducible exact BK290.out) | ((with_reducible repeat (first | refine blk_drewN ?_ _ | refine blk_drew ?_ | refine blk_alloc ?_ _)); exact BK290.out)) NB290_0.out (by simp)); replace HK := Aside0.mk (KeepBut.trans (by repeat (first | (with_reducible first | exact HK.out | apply KeepBut.set_ | apply keep_drewN | apply keep_drew | apply keep_alloc | refine keep_far ?_ GW276.out _ | refine keep_far ?_ GW290.out _) | exact HK.out)) hk (.inl rfl)); replace HB := Aside0.mk (hb); replace HI0 := Aside0.mk (hi); (try clear hb); (try clear hb2); (try clear hk); (try clear hi); have hnb75 := NB290_276.out; have hnc75 := NB276_290.out; have hnb76 := NB290_0.out; have hnc76 := NB0_290.out; have hcz77_0 : w74.cell? ⟨gb290, 0, none⟩ = some (.int .i64 x291000_45) := (blk_cell BK290.out 0).trans rfl; have hcz77_1 : w74.cell? ⟨gb290, 1, none⟩ = some (.bool x291001_45) := (blk_cell BK290.out 1).trans rfl; have hcz77_2 : w74.cell? ⟨gb290, 2, none⟩ = some (u291002) := (blk_cell BK290.out 2).trans rfl; have hfz77_0 := blk_frozen BK290.out 0; have hfz77_1 := blk_frozen BK290.out 1; have hfz77_2 := blk_frozen BK290.out 2; have hnb78 := NB276_0.out; have hnc78 := NB0_276.out; have hcz79_0 : w74.cell? ⟨gb276, 0, none⟩ = some (.int .i64 0) := (blk_cell BK276.out 0).trans rfl; have hcz79_1 : w74.cell? ⟨gb276, 1, none⟩ = some (.bool false) := (blk_cell BK276.out 1).trans rfl; have hcz79_2 : w74.cell? ⟨gb276, 2, none⟩ = some (.slice none 0 0) := (blk_cell BK276.out 2).trans rfl; have hfz79_0 := blk_frozen BK276.out 0; have hfz79_1 := blk_frozen BK276.out 1; have hfz79_2 := blk_frozen BK276.out 2; obtain ⟨Ao80, co80, eo80⟩ := Kd.R_slice HO_291002.out; subst eo80))
           refine bodyPost_ret (results_cell_row rfl _ _ gb276 26 #[.int .i64 x291000_45, .bool x291001_45, .slice Ao80 x291002_45.length co80] (0, 0) _ rfl (by (with_reducible repeat (first | refine blk_drewN ?_ _ | refine blk_drew ?_ | refine blk_alloc ?_ _)); refine blk_put (cs := #[.int .i64 x291000_45, .bool x291001_45, .slice none 0 0]) ?_ 2 _ rfl; (with_reducible repeat (first | refine blk_drewN ?_ _ | refine blk_drew ?_ | refine blk_alloc ?_ _)); refine blk_put (cs := #[.int .i64 x291000_45, .bool false, .slice none 0 0]) ?_ 1 _ rfl; (with_reducible repeat (first | refine blk_drewN ?_ _ | refine blk_drew ?_ | refine blk_alloc ?_ _)); refine blk_put (cs := #[.int .i64 0, .bool false, .slice none 0 0]) ?_ 0 _ rfl; (with_reducible repeat (first | refine blk_drewN ?_ _ | refine blk_drew ?_ | refine blk_alloc ?_ _)); exact BK276.out) Tryd.underlying26 rfl (by kernel_rfl)) rfl ?_
           exact ⟨_, by first | rfl | (simp [errW_none, errW_some] <;> rfl) | (simp [*, errW_none, errW_some] <;> rfl), by (with_reducible repeat (first | apply Kd.R_alloc | apply Kd.R_drewN | apply Kd.R_drew)); exact Kd.R_mono (Kd.R_far (p := ⟨gb276, 2, none⟩) (Kd.R_far (p := ⟨gb276, 1, none⟩) (Kd.R_far (p := ⟨gb276, 0, none⟩) (Kd.R_types HO_291002.out BK276.out (by decide)) (fun _ hk => hk.2) (.int .i64 x291000_45)) (fun _ hk => hk.2) (.bool x291001_45)) (fun _ hk => hk.2) (.slice Ao80 x291002_45.length co80)) (fun _ hk => trivial), by repeat (first | (with_reducible first | exact HI0.out | apply IsS66.alloc | apply IsS66.drewN | apply IsS66.drew | apply IsS66.set_1 | apply IsS66.set_2 | refine IsS66.far ?_ NB0_276.out _ | refine IsS66.far ?_ NB0_290.out _) | exact HI0.out), by repeat (first | (with_reducible first | exact HB.out | apply below_alloc | apply pw_below_drewN | apply below_drew1 | refine below_set ?_ (IsS66.ge HI0.out) | refine below_set ?_ GE276.out | refine below_set ?_ GE290.out) | exact HB.out), by repeat (first | (with_reducible first | exact HK.out | apply KeepBut.set_ | apply keep_drewN | apply keep_drew | apply keep_alloc | refine keep_far ?_ GW276.out _ | refine keep_far ?_ GW290.out _) | exact HK.out)⟩

end Go.Proofs.YtaebbgkoaaigbaaDoor.PFnPolite
