import Derived.Test.YtnoipklaebadeaaDoorZFnPlacingsPFnPlacingsx0
import Derived.Test.YtnoipklaebadeaaDoorZFnPlacingsPFnPlacingsx1
import Derived.Test.YtnoipklaebadeaaDoorZFnPlacingsPFnPlacingsx4
import Derived.Test.YtnoipklaebadeaaDoorZFnPlacingsPFnPlacingsx6
import Derived.Test.YtnoipklaebadeaaDoorZFnPlacingsPFnPlacingsx7
namespace Go.Proofs.YtnoipklaebadeaaDoor.PFnPlacings
open Go.RowKit Go.Proofs.YtnoipklaebadeaaDoorW.PrintWords Go.Proofs.YtnoipklaebadeaaDoorW.PrintLast Go.Proofs.YtnoipklaebadeaaDoorW.PrintMore
attribute [local go_sem] max2_int min2_int max_two min_two max_three min_three max_four min_four   -- for this text's walks alone
set_option linter.unusedVariables false
set_option linter.unusedSimpArgs false

/-! ### spec_l1Cur_row: function 61 -/
mutual
def spec_l1Cur_row.l0 : Nat → Int → Int → List Int → Int → Int → Int → Bool → List Int → Option (Int × Bool × List Int × Int × Int)
 | 0, _, _, _, _, _, _, _, _ => none
 | k + 1, x4, x5, x1000, x1001, x1002, x297000, x297001, x297002 => if x5 < x297000 then (spec_l1Cur_row.j1 k x4 x5 (decide (x5 < 25)) x1000 x1001 x1002 x297000 x297001 x297002) else (spec_l1Cur_row.j1 k x4 x5 false x1000 x1001 x1002 x297000 x297001 x297002)
def spec_l1Cur_row.j1 : Nat → Int → Int → Bool → List Int → Int → Int → Int → Bool → List Int → Option (Int × Bool × List Int × Int × Int)
 | 0, _, _, _, _, _, _, _, _, _ => none
 | k + 1, x4, x5, x18, x1000, x1001, x1002, x297000, x297001, x297002 => if x18 = true then ((spec_l1Cur_one.f x1000 x1001 x1002 x4).bind fun bt297 => (if bt297.1 = true then (if x297002.length < 17592186044416 then (spec_l1Cur_row.l0 k x4 (wrap64 (x5 + 1)) x1000 bt297.2.1 bt297.2.2 x297000 x297001 (x297002 ++ [x5])) else (none)) else (spec_l1Cur_row.l0 k x4 (wrap64 (x5 + 1)) x1000 bt297.2.1 bt297.2.2 x297000 x297001 x297002))) else ((spec_l1Cur_one.f x1000 x1001 x1002 6).bind fun bt303 => (if bt303.1 = true then ((spec_l2Row.f k x297000 x297001 x297002).bind fun t306 => (spec_l1Cur_row.j2 k t306 x1000 bt303.2.1 bt303.2.2 x297000 x297001 x297002)) else (spec_l1Cur_row.j2 k false x1000 bt303.2.1 bt303.2.2 x297000 x297001 x297002)))
def spec_l1Cur_row.j2 : Nat → Bool → List Int → Int → Int → Int → Bool → List Int → Option (Int × Bool × List Int × Int × Int)
 | 0, _, _, _, _, _, _, _ => none
 | k + 1, x35, x1000, x1001, x1002, x297000, x297001, x297002 => if x35 = true then ((spec_OtherSeats.f k x297000 x297001 x297002).bind fun bt307 => (spec_l1Cur_row.j3 k x1000 x1001 x1002 bt307.1 bt307.2.1 bt307.2.2.1)) else (spec_l1Cur_row.j3 k x1000 x1001 x1002 x297000 x297001 x297002)
def spec_l1Cur_row.j3 : Nat → List Int → Int → Int → Int → Bool → List Int → Option (Int × Bool × List Int × Int × Int)
 | 0, _, _, _, _, _, _ => none
 | k + 1, x1000, x1001, x1002, x297000, x297001, x297002 => (spec_l1Cur_one.f x1000 x1001 x1002 40).bind fun bt313 => (if bt313.1 = true then ((spec_l1Cur_among.f x1000 bt313.2.1 bt313.2.2 (([(-1), 0, x297000, 4611686018427387904] : List Int))).bind fun bt319 => (if x297002.length < 17592186044416 then (some (x297000, x297001, (x297002 ++ [bt319.1]), bt319.2.1, bt319.2.2)) else (none))) else (some (x297000, x297001, x297002, bt313.2.1, bt313.2.2)))
end
def spec_l1Cur_row.f (k : Nat) (s0_0 : List Int) (s0_1 : Int) (s0_2 : Int) : Option (Int × Bool × List Int × Int × Int) := (spec_l1Cur_freeRow.f s0_0 s0_1 s0_2).bind fun bt283 => ((spec_l1Cur_among.f s0_0 bt283.2.2.2.1 bt283.2.2.2.2 (([3, 2, 5] : List Int))).bind fun bt293 => (spec_l1Cur_row.l0 k bt293.1 0 s0_0 bt293.2.1 bt293.2.2 bt283.1 bt283.2.1 bt283.2.2.1))
def spec_l1Cur_row.T10 : Bool × List (List Nat × List Nat) := (true, [([], []), ([0], [0]), ([], []), ([], []), ([3], [3]), ([4], [4]), ([2, 5], [2, 5]), ([6], [6]), ([1, 7, 6], [1, 7]), ([0, 1, 2, 3, 4, 5, 6, 7, 8], []), ([9, 8, 8, 0, 1, 2, 3, 4, 5, 6, 7, 8], [8, 9])])
def spec_l1Cur_row.B10 : List Nat := [0, 1, 0, 0, 8, 24, 60, 124, 255, 511, 1023]
theorem spec_l1Cur_row.tab10 : rtab .any (opsOf Tryd.f61 10) = spec_l1Cur_row.T10 := by kernel_rfl
theorem spec_l1Cur_row.bits10 : waitsOk spec_l1Cur_row.T10.2 spec_l1Cur_row.B10 = true := by kernel_rfl
set_option maxHeartbeats 8000000 in
set_option maxRecDepth 100000 in
theorem spec_l1Cur_row.calls (k : Nat) (g : Nat) (s0_0 : List Int) (s0_1 : Int) (s0_2 : Int) (r1 : Int) (r2 : Bool) (r3 : List Int) (r4 : Int) (r5 : Int) (w0 w : World) (hI : IsS65 w0 w g s0_0 s0_1 s0_2) (hB : Below w0.heap.size w0 w) (h : spec_l1Cur_row.f k s0_0 s0_1 s0_2 = some (r1, r2, r3, r4, r5)) :
  Calls Tryd.prog 61 #[.pointer (some ⟨g, 0, none⟩)] w fun e w' => ∃ v2_ : Value, e = .returned (.agg #[.int .i64 r1, .bool r2, v2_]) ∧ Kd.R (Kd.int .i64) 3 w' w.heap.size (fun _ => True) v2_ r3 ∧ IsS65 w0 w' g s0_0 r4 r5 ∧ Below w0.heap.size w0 w' ∧ KeepBut w w' g none := by
 have hu26 := Tryd.underlying26
 have HI0 := am hI
 have HK := am (KeepBut.refl w g none)
 have HL := am hB.size
 clear hI
 have HW0 := am hB.size
 have HB := am hB
 clear hB
 have H : ((spec_l1Cur_freeRow.f s0_0 s0_1 s0_2).bind fun bt283 => ((spec_l1Cur_among.f s0_0 bt283.2.2.2.1 bt283.2.2.2.2 (([3, 2, 5] : List Int))).bind fun bt293 => (spec_l1Cur_row.l0 k bt293.1 0 s0_0 bt293.2.1 bt293.2.2 bt283.1 bt283.2.1 bt283.2.2.1))) = some (r1, r2, r3, r4, r5) := h
 clear h
 replace H := Option.bind_eq_some_iff.mp H
 obtain ⟨⟨t283, t284, t285, t288, t289⟩, A20, H⟩ := H
 try dsimp only at H
 have A2 := am A20
 clear A20
 obtain ⟨y290, hy290⟩ : ∃ y_ : List Int, y_ = (([3, 2, 5] : List Int)) := ⟨_, rfl⟩
 replace H : ((spec_l1Cur_among.f s0_0 t288 t289 y290).bind fun bt293 => (spec_l1Cur_row.l0 k bt293.1 0 s0_0 bt293.2.1 bt293.2.2 t283 t284 t285)) = some (r1, r2, r3, r4, r5) := by first | (rw [hy290]; with_reducible exact H) | (have H2_ := (Option.bind_some _ _).symm.trans H; rw [hy290]; with_reducible exact H2_) | (have H2_ := (Option.bind_some _ _).symm.trans H; with_reducible exact H2_) | with_reducible exact H | (rw [hy290]; exact H) | exact H
 have Ny290 := am hy290
 clear hy290
 replace H := Option.bind_eq_some_iff.mp H
 obtain ⟨⟨t293, t294, t295⟩, A30, H⟩ := H
 try dsimp only at H
 have A3 := am A30
 clear A30
 have H' := am H
 clear H
 go_enter Tryd.func61, Tryd.ntmps61
 go_wp2_with (first | ((with_reducible refine gate_dst (N := 2) rfl ?_); refine box_event ?hg (N := 2) ?hd (cs := #[.int .i64 0, .bool false, .slice none 0 0]) (t := 26) ?hr ?_; (case hd => rfl); (case hg => rfl); (case hr => first | (go_simp; done) | (go_simp; rfl)); intro gb282 hg w4 hbox hb; have BK282 := am (hbox); have GW282 := am ((by rw [hg]; exact (keep_size (pkK HK)) : w.heap.size ≤ gb282)); have GE282 := am ((Nat.le_trans HW0.out (by rw [hg]; exact (keep_size (pkK HK)) : w.heap.size ≤ gb282) : w0.heap.size ≤ gb282)); have NB0_282 := am ((by rw [hg]; exact Nat.ne_of_lt (IsS65.lt (pkS65 HI0)) : g ≠ gb282)); have NB282_0 := am ((by rw [hg]; exact Nat.ne_of_gt (IsS65.lt (pkS65 HI0)) : gb282 ≠ g)); replace HI0 := am (IsS65.below (pkS65 HI0) hb); replace HK := am (ktb (pkK HK) hb); replace HB := am (below_step (pkBS65 HB) hb); clear hb hbox hg) | (go_at_call 60; (with_reducible refine (spec_l1Cur_freeRow.calls g s0_0 s0_1 s0_2 t283 t284 t285 t288 t289 w0 _ ?side1 ?side2 A2.out).mono ?_); (case side1 => exact pkS65 HI0); (case side2 => exact pkBS65 HB); rintro e w5 ⟨v286, rfl, ho0, hi, hb, hk⟩; have HO287 := am (Kd.R_lower ho0 (keep_size (pkK HK))); replace BK282 := am (KeepBut.blk hk (pkC BK282) NB282_0.out (by simp)); replace HK := am (ktk (pkK HK) hk); replace HB := am (hb); replace HI0 := am (hi)) | ((with_reducible refine gate_dst (N := 9) rfl ?_); refine Kd.R_lit (Kd.int .i64) _ 3 ?hg (N := 9) ?hd (xs := ([3, 2, 5] : List Int)) (inner := [.int .i64 3, .int .i64 2, .int .i64 5]) (ok := fun _ => True) (okp := fun _ => True) ?hr ?hp (fun _ hk => hk) trivial (Below.refl _ _) (Nat.le_refl _) (by simp) ?_; (case hd => rfl); (case hg => rfl); (case hr => first | (go_simp; done) | (go_simp; rfl)); (case hp => exact (Reps.one (show Kd.M (Kd.int .i64) _ _ _ 3 [.int .i64 3] from rfl) (Reps.one (show Kd.M (Kd.int .i64) _ _ _ 2 [.int .i64 2] from rfl) (Reps.one (show Kd.M (Kd.int .i64) _ _ _ 5 [.int .i64 5] from rfl) (Reps.none _ _))))); intro v291 w6 ho7 hb hg_ hnew_; clear hg_ hnew_; (first | rw [← Ny290.out] at ho7 | (simp only [Int.reduceToNat] at ho7; rw [← Ny290.out] at ho7)); have HO292 := am (Kd.R_lower (Kd.R_new' ho7 (Kd.R_lt (pk HO287))) (keep_size (pkK HK))); replace HO287 := am (Kd.R_elder' (pk HO287) (Kd.R_base ho7) hb); replace HI0 := am (IsS65.below (pkS65 HI0) hb); replace BK282 := am (blk_below (pkC BK282) hb); replace HK := am (ktb (pkK HK) hb); replace HB := am (below_step (pkBS65 HB) hb); clear hb ho7; obtain ⟨Ao8, co8, eo8⟩ := Kd.R_slice HO292.out; subst eo8) | (go_at_call 51; (with_reducible refine (spec_l1Cur_among.calls g s0_0 t288 t289 _ _ y290 t293 t294 t295 w0 _ ?side1 ?side2 ?side3 ?side4 ?side5 A3.out).mono ?_); (case side1 => exact pkS65 HI0); (case side2 => exact pkBS65 HB); (case side3 => repeat (first | exact (Kd.R_reads' HO292.out).2.2 | (with_reducible refine Kd.C_alloc ?_ _) | (with_reducible refine Kd.C_drewN ?_ _) | (with_reducible refine Kd.C_drew ?_))); (case side4 => exact (Kd.R_reads' HO292.out).2.1); (case side5 => exact far_slice (IsS65.own_ne HI0.out HO292.out (by decide))); rintro e w9 ⟨rfl, hi, hb, hk⟩; replace BK282 := am (KeepBut.blk hk (pkC BK282) NB282_0.out (by simp)); replace HO287 := am (Kd.R_mono (Kd.R_keep (IsS65.apart (pkS65 HI0) (pk HO287) (by decide)) hk (fun _ h => h.2)) (fun _ h => h.1)); replace HO292 := am (Kd.R_mono (Kd.R_keep (IsS65.apart (pkS65 HI0) (pk HO292) (by decide)) hk (fun _ h => h.2)) (fun _ h => h.1)); replace HK := am (ktk (pkK HK) hk); replace HB := am (hb); replace HI0 := am (hi); (try clear hb); (try clear hb2); (try clear hk); (try clear hi)) | ((with_reducible refine gate_dst (N := 3) rfl ?_); refine box_event ?hg (N := 3) ?hd (cs := #[.int .i64 0, .bool false, .slice none 0 0]) (t := 26) ?hr ?_; (case hd => rfl); (case hg => rfl); (case hr => first | (go_simp; done) | (go_simp; rfl)); intro gb296 hg w10 hbox hb; have BK296 := am (hbox); have GW296 := am ((by rw [hg]; exact (keep_size (pkK HK)) : w.heap.size ≤ gb296)); have GE296 := am ((Nat.le_trans HW0.out (by rw [hg]; exact (keep_size (pkK HK)) : w.heap.size ≤ gb296) : w0.heap.size ≤ gb296)); have NB282_296 := am ((by rw [hg]; exact Nat.ne_of_lt (blk_lt (pkC BK282)) : gb282 ≠ gb296)); have NB296_282 := am ((by rw [hg]; exact Nat.ne_of_gt (blk_lt (pkC BK282)) : gb296 ≠ gb282)); have NB0_296 := am ((by rw [hg]; exact Nat.ne_of_lt (IsS65.lt (pkS65 HI0)) : g ≠ gb296)); have NB296_0 := am ((by rw [hg]; exact Nat.ne_of_gt (IsS65.lt (pkS65 HI0)) : gb296 ≠ g)); replace HO287 := am (Kd.R_below (pk HO287) hb); replace HO292 := am (Kd.R_below (pk HO292) hb); replace HI0 := am (IsS65.below (pkS65 HI0) hb); replace BK282 := am (blk_below (pkC BK282) hb); replace HK := am (ktb (pkK HK) hb); replace HB := am (below_step (pkBS65 HB) hb); clear hb hbox hg; have hnb11 := NB296_282.out; have hnc11 := NB282_296.out; have hnb12 := NB296_0.out; have hnc12 := NB0_296.out; obtain ⟨hcz13_0, hcz13_1, hcz13_2⟩ := bc3 BK296.out; obtain ⟨hfz13_0, hfz13_1, hfz13_2⟩ := bf3 BK296.out; obtain ⟨Ao14, co14, eo14⟩ := Kd.R_slice HO287.out; subst eo14))
 go_loopg [5] k (fun kq v5 w' => ∃ (x5_1 : Int) (x1001_1 : Int) (x1002_1 : Int) (x297002_1 : List Int) (u297002 : Value), v5 = .int .i64 x5_1 ∧ Aside0 (spec_l1Cur_row.l0 kq t293 x5_1 s0_0 x1001_1 x1002_1 t283 t284 x297002_1 = some (r1, r2, r3, r4, r5)) ∧ Aside0 (kq ≤ k) ∧ Aside0 (Kd.R (Kd.int .i64) 3 w' w.heap.size (fun _ => True) u297002 x297002_1) ∧ Aside0 (w'.heap[gb282]? = some (.cells #[.int .i64 0, .bool false, (.slice none 0 0)] 26 (0, 0))) ∧ Aside0 (w'.heap[gb296]? = some (.cells #[.int .i64 t283, .bool t284, u297002] 26 (0, 0))) ∧ Aside0 (IsS65 w0 w' g s0_0 x1001_1 x1002_1) ∧ Aside0 (KeepBut w w' g none) ∧ Aside0 (Below w0.heap.size w0 w'))
 case atStart => exact ⟨(0), (t294), (t295), (t285), (.slice Ao14 t285.length co14), (by first | rfl | (simp; done) | (simp [*]; done)), H', ⟨Nat.le_refl _⟩, ⟨by (with_reducible repeat (first | apply Kd.R_alloc | apply Kd.R_drewN | apply Kd.R_drew)); exact Kd.R_mono (Kd.R_far (p := ⟨gb296, 2, none⟩) (Kd.R_far (p := ⟨gb296, 1, none⟩) (Kd.R_far (p := ⟨gb296, 0, none⟩) (Kd.R_types HO287.out BK296.out (by decide)) (fun _ hk => hk.2) (.int .i64 t283)) (fun _ hk => hk.2) (.bool t284)) (fun _ hk => hk.2) (.slice Ao14 t285.length co14)) (fun _ hk => trivial)⟩, ⟨by (with_reducible repeat (first | refine blk_drewN ?_ _ | refine blk_drew ?_ | refine blk_alloc ?_ _)); refine blk_far ?_ NB282_296.out _; (with_reducible repeat (first | refine blk_drewN ?_ _ | refine blk_drew ?_ | refine blk_alloc ?_ _)); refine blk_far ?_ NB282_296.out _; (with_reducible repeat (first | refine blk_drewN ?_ _ | refine blk_drew ?_ | refine blk_alloc ?_ _)); refine blk_far ?_ NB282_296.out _; (with_reducible repeat (first | refine blk_drewN ?_ _ | refine blk_drew ?_ | refine blk_alloc ?_ _)); exact BK282.out⟩, ⟨by (with_reducible repeat (first | refine blk_drewN ?_ _ | refine blk_drew ?_ | refine blk_alloc ?_ _)); refine blk_put (cs := #[.int .i64 t283, .bool t284, .slice none 0 0]) ?_ 2 _ rfl; (with_reducible repeat (first | refine blk_drewN ?_ _ | refine blk_drew ?_ | refine blk_alloc ?_ _)); refine blk_put (cs := #[.int .i64 t283, .bool false, .slice none 0 0]) ?_ 1 _ rfl; (with_reducible repeat (first | refine blk_drewN ?_ _ | refine blk_drew ?_ | refine blk_alloc ?_ _)); refine blk_put (cs := #[.int .i64 0, .bool false, .slice none 0 0]) ?_ 0 _ rfl; (with_reducible repeat (first | refine blk_drewN ?_ _ | refine blk_drew ?_ | refine blk_alloc ?_ _)); exact BK296.out⟩, ⟨pkS65 HI0⟩, ⟨pkK HK⟩, ⟨pkBS65 HB⟩⟩
 case round =>
  clear H'
  try clear c1
  try clear p2
  try clear c5
  try clear c6
  try clear c11
  try clear c12
  try clear hcz13_0
  try clear hcz13_1
  try clear hcz13_2
  try clear hfz13_0
  try clear hfz13_1
  try clear hfz13_2
  obtain ⟨x5_1, x1001_1, x1002_1, x297002_1, u297002, rfl, HA, HK1, HO_297002, BK282, BK296, HI0, HK, HB⟩ := hrel
  cases gk with
  | zero => exact absurd HA.out (by simp [spec_l1Cur_row.l0])
  | succ k1 =>
   have H := HA.out
   clear HA
   simp only [spec_l1Cur_row.l0] at H
   have HC15 := am H
   clear H
   go_upto_region 3 with (fail)
   go_cut [18] (fun v18 wc => ∃ (kq : Nat) (x18_14 : Bool), v18 = .bool x18_14 ∧ Aside0 (spec_l1Cur_row.j1 kq t293 x5_1 x18_14 s0_0 x1001_1 x1002_1 t283 t284 x297002_1 = some (r1, r2, r3, r4, r5)) ∧ Aside0 (kq ≤ k1) ∧ Aside0 (Kd.R (Kd.int .i64) 3 wc w.heap.size (fun _ => True) u297002 x297002_1) ∧ Aside0 (wc.heap[gb282]? = some (.cells #[.int .i64 0, .bool false, (.slice none 0 0)] 26 (0, 0))) ∧ Aside0 (wc.heap[gb296]? = some (.cells #[.int .i64 t283, .bool t284, u297002] 26 (0, 0))) ∧ Aside0 (IsS65 w0 wc g s0_0 x1001_1 x1002_1) ∧ Aside0 (KeepBut w wc g none) ∧ Aside0 (Below w0.heap.size w0 wc))
   case first =>
    have H := HC15.out
    clear HC15
    by_cases c16 : x5_1 < t283
    ·rw [if_pos c16] at H
     have c16b0 : decide (x5_1 < t283) = true := decide_eq_true c16
     clear c16
     (first | rw [c16b0] | (simp only [i64_w, i32_w]; rw [c16b0]) | rw [c16b1] | skip)
     have H' := am H
     clear H
     have hnb17 := NB296_282.out
     have hnc17 := NB282_296.out
     have hnb18 := NB296_0.out
     have hnc18 := NB0_296.out
     obtain ⟨hcz19_0, hcz19_1, hcz19_2⟩ := bc3 BK296.out
     obtain ⟨hfz19_0, hfz19_1, hfz19_2⟩ := bf3 BK296.out
     go_wp2
     go_meet
     case rel => exact ⟨_, (decide (x5_1 < 25)), (by first | rfl | (simp; done) | (simp [*]; done)), H', ⟨by have := HK1.out; first | omega | exact Nat.le_refl _⟩, ⟨by (with_reducible repeat (first | apply Kd.R_alloc | apply Kd.R_drewN | apply Kd.R_drew)); exact HO_297002.out⟩, ⟨pkC BK282⟩, ⟨pkC BK296⟩, ⟨pkS65 HI0⟩, ⟨pkK HK⟩, ⟨pkBS65 HB⟩⟩
    ·rw [if_neg c16] at H
     have c16b0 : decide (x5_1 < t283) = false := decide_eq_false c16
     clear c16
     (first | rw [c16b0] | (simp only [i64_w, i32_w]; rw [c16b0]) | rw [c16b1] | skip)
     have H' := am H
     clear H
     have hnb20 := NB296_282.out
     have hnc20 := NB282_296.out
     have hnb21 := NB296_0.out
     have hnc21 := NB0_296.out
     obtain ⟨hcz22_0, hcz22_1, hcz22_2⟩ := bc3 BK296.out
     obtain ⟨hfz22_0, hfz22_1, hfz22_2⟩ := bf3 BK296.out
     go_wp2
     go_meet
     case rel => exact ⟨_, (false), (by first | rfl | (simp; done) | (simp [*]; done)), H', ⟨by have := HK1.out; first | omega | exact Nat.le_refl _⟩, ⟨by (with_reducible repeat (first | apply Kd.R_alloc | apply Kd.R_drewN | apply Kd.R_drew)); exact HO_297002.out⟩, ⟨pkC BK282⟩, ⟨pkC BK296⟩, ⟨pkS65 HI0⟩, ⟨pkK HK⟩, ⟨pkBS65 HB⟩⟩
   case rest =>
    clear HC15
    try clear c1
    try clear c2
    try clear p2
    try clear c5
    try clear c6
    try clear c11
    try clear c12
    try clear c16
    try clear c16b0
    try clear c16b1
    try clear c17
    try clear c18
    try clear c20
    try clear c21
    try clear hcz13_0
    try clear hcz13_1
    try clear hcz13_2
    try clear hcz19_0
    try clear hcz19_1
    try clear hcz19_2
    try clear hcz22_0
    try clear hcz22_1
    try clear hcz22_2
    try clear hfz13_0
    try clear hfz13_1
    try clear hfz13_2
    try clear hfz19_0
    try clear hfz19_1
    try clear hfz19_2
    try clear hfz22_0
    try clear hfz22_1
    try clear hfz22_2
    try clear p2
    obtain ⟨kq, x18_14, rfl, HA, HJ14, HO_297002, BK282, BK296, HI0, HK, HB⟩ := hcut
    cases kq with
    | zero => exact absurd HA.out (by simp [spec_l1Cur_row.j1])
    | succ kj14 =>
     have H := HA.out
     clear HA
     simp only [spec_l1Cur_row.j1] at H
     by_cases c23 : x18_14 = true
     ·subst c23
      rw [if_pos rfl] at H
      replace H := Option.bind_eq_some_iff.mp H
      obtain ⟨⟨t297, t298, t299⟩, A240, H⟩ := H
      try dsimp only at H
      have A24 := am A240
      clear A240
      by_cases c25 : t297 = true
      ·subst c25
       rw [if_pos rfl] at H
       by_cases c26 : x297002_1.length < 17592186044416
       ·rw [if_pos c26] at H
        have LMc26 := am c26
        clear c26
        obtain ⟨y300, hy300⟩ : ∃ y_ : List Int, y_ = (x297002_1 ++ [x5_1]) := ⟨_, rfl⟩
        replace H : (spec_l1Cur_row.l0 kj14 t293 (wrap64 (x5_1 + 1)) s0_0 t298 t299 t283 t284 y300) = some (r1, r2, r3, r4, r5) := by first | (rw [hy300]; with_reducible exact H) | (have H2_ := (Option.bind_some _ _).symm.trans H; rw [hy300]; with_reducible exact H2_) | (have H2_ := (Option.bind_some _ _).symm.trans H; with_reducible exact H2_) | with_reducible exact H | (rw [hy300]; exact H) | exact H
        have Ny300 := am hy300
        clear hy300
        have H' := am H
        clear H
        go_wp2_with (first | (go_at_call 38; (with_reducible refine (spec_l1Cur_one.calls g s0_0 x1001_1 x1002_1 t293 true t298 t299 w0 _ ?side1 ?side2 A24.out).mono ?_); (case side1 => exact pkS65 HI0); (case side2 => exact pkBS65 HB); rintro e w27 ⟨rfl, hi, hb, hk⟩; replace HO_297002 := am (Kd.R_mono (Kd.R_keep (IsS65.apart (pkS65 HI0) (pk HO_297002) (by decide)) hk (fun _ h => h.2)) (fun _ h => h.1)); replace BK282 := am (KeepBut.blk hk (pkC BK282) NB282_0.out (by simp)); replace BK296 := am (KeepBut.blk hk (pkC BK296) NB296_0.out (by simp)); replace HK := am (ktk (pkK HK) hk); replace HB := am (hb); replace HI0 := am (hi); (try clear hb); (try clear hb2); (try clear hk); (try clear hi); have hnb28 := NB296_282.out; have hnc28 := NB282_296.out; have hnb29 := NB296_0.out; have hnc29 := NB0_296.out; obtain ⟨hcz30_0, hcz30_1, hcz30_2⟩ := bc3 BK296.out; obtain ⟨hfz30_0, hfz30_1, hfz30_2⟩ := bf3 BK296.out) | ((with_reducible refine gate_builtin (b := .append) (xs := #[.tmp 25, .tmp 27]) rfl ?_); at_builtin; refine Kd.R_append (Kd.int .i64) w.heap.size rfl (.tmp 25) (.tmp 27) 24 3 (.int .i64 0) 8 rfl Tryd.underlying24 info3 rfl (by decide) (by omega) u297002 x297002_1 x5_1 [.int .i64 x5_1] (fun _ => True) (fun _ => False) rfl rfl ?aP (fun _ hk => hk.elim) ?aF ?aO (Below.refl _ _) ?aS ?aL ?_; (case aP => exact rfl); (case aF => exact (fun _ _ => trivial)); (case aO => exact (pk HO_297002)); (case aS => exact (keep_size (pkK HK))); (case aL => have := LMc26.out; omega); intro v301 w31 ho hb hg hat; rw [← Ny300.out] at ho; have HO302 := am (ho); replace BK282 := am (blk_grown (pkC BK282) hg (Kd.R_ne HO_297002.out BK282.out (by decide))); replace BK296 := am (blk_grown (pkC BK296) hg (Kd.R_ne HO_297002.out BK296.out (by decide))); replace HI0 := am (IsS65.grown (pkS65 HI0) hg (IsS65.own_ne HI0.out HO_297002.out (by decide))); replace HB := am (below_weaken (pkBS65 HB) HL.out hb); replace HK := am (KeepBut.trans (pkK HK) (KeepBut.of_grown hg g) (Kd.R_base2 HO_297002.out)); clear HO_297002 ho hb hg hat; obtain ⟨Ao32, co32, eo32⟩ := Kd.R_slice HO302.out; subst eo32; obtain ⟨hcz33_0, hcz33_1, hcz33_2⟩ := bc3 BK296.out; obtain ⟨hfz33_0, hfz33_1, hfz33_2⟩ := bf3 BK296.out))
        go_roundg kj14
        case measure => have := HK1.out; have := HJ14.out; omega
        case rel => exact ⟨(wrap64 (x5_1 + 1)), (t298), (t299), (y300), (.slice Ao32 y300.length co32), (by first | rfl | (simp; done) | (simp [*]; done)), H', ⟨by have := HK1.out; have := HJ14.out; omega⟩, ⟨by (with_reducible repeat (first | apply Kd.R_alloc | apply Kd.R_drewN | apply Kd.R_drew)); exact Kd.R_mono (Kd.R_far (p := ⟨gb296, 2, none⟩) (Kd.R_types HO302.out BK296.out (by decide)) (fun _ hk => hk.2) (.slice Ao32 y300.length co32)) (fun _ hk => trivial)⟩, ⟨by (with_reducible repeat (first | refine blk_drewN ?_ _ | refine blk_drew ?_ | refine blk_alloc ?_ _)); refine blk_far ?_ NB282_296.out _; (with_reducible repeat (first | refine blk_drewN ?_ _ | refine blk_drew ?_ | refine blk_alloc ?_ _)); exact BK282.out⟩, ⟨by (with_reducible repeat (first | refine blk_drewN ?_ _ | refine blk_drew ?_ | refine blk_alloc ?_ _)); refine blk_put (cs := #[.int .i64 t283, .bool t284, u297002]) ?_ 2 _ rfl; (with_reducible repeat (first | refine blk_drewN ?_ _ | refine blk_drew ?_ | refine blk_alloc ?_ _)); exact BK296.out⟩, ⟨pkS65 HI0⟩, ⟨pkK HK⟩, ⟨pkBS65 HB⟩⟩
       ·rw [if_neg c26] at H
        exact absurd H (by simp)
      ·replace c25 := Bool.eq_false_iff.mpr c25
       subst c25
       rw [if_neg (show ¬ (false = true) by decide)] at H
       have H' := am H
       clear H
       go_wp2_with (first | (go_at_call 38; (with_reducible refine (spec_l1Cur_one.calls g s0_0 x1001_1 x1002_1 t293 false t298 t299 w0 _ ?side1 ?side2 A24.out).mono ?_); (case side1 => exact pkS65 HI0); (case side2 => exact pkBS65 HB); rintro e w34 ⟨rfl, hi, hb, hk⟩; replace HO_297002 := am (Kd.R_mono (Kd.R_keep (IsS65.apart (pkS65 HI0) (pk HO_297002) (by decide)) hk (fun _ h => h.2)) (fun _ h => h.1)); replace BK282 := am (KeepBut.blk hk (pkC BK282) NB282_0.out (by simp)); replace BK296 := am (KeepBut.blk hk (pkC BK296) NB296_0.out (by simp)); replace HK := am (ktk (pkK HK) hk); replace HB := am (hb); replace HI0 := am (hi); (try clear hb); (try clear hb2); (try clear hk); (try clear hi)))
       go_roundg kj14
       case measure => have := HK1.out; have := HJ14.out; omega
       case rel => exact ⟨(wrap64 (x5_1 + 1)), (t298), (t299), (x297002_1), (u297002), (by first | rfl | (simp; done) | (simp [*]; done)), H', ⟨by have := HK1.out; have := HJ14.out; omega⟩, ⟨by (with_reducible repeat (first | apply Kd.R_alloc | apply Kd.R_drewN | apply Kd.R_drew)); exact HO_297002.out⟩, ⟨pkC BK282⟩, ⟨pkC BK296⟩, ⟨pkS65 HI0⟩, ⟨pkK HK⟩, ⟨pkBS65 HB⟩⟩
     ·replace c23 := Bool.eq_false_iff.mpr c23
      subst c23
      rw [if_neg (show ¬ (false = true) by decide)] at H
      have HC35 := am H
      clear H
      go_upto_region 7 with (fail)
      go_cut [35] (fun v35 wc => ∃ (kq : Nat) (x35_34 : Bool) (x1001_34 : Int) (x1002_34 : Int), v35 = .bool x35_34 ∧ Aside0 (spec_l1Cur_row.j2 kq x35_34 s0_0 x1001_34 x1002_34 t283 t284 x297002_1 = some (r1, r2, r3, r4, r5)) ∧ Aside0 (kq ≤ kj14) ∧ Aside0 (Kd.R (Kd.int .i64) 3 wc w.heap.size (fun _ => True) u297002 x297002_1) ∧ Aside0 (wc.heap[gb282]? = some (.cells #[.int .i64 0, .bool false, (.slice none 0 0)] 26 (0, 0))) ∧ Aside0 (wc.heap[gb296]? = some (.cells #[.int .i64 t283, .bool t284, u297002] 26 (0, 0))) ∧ Aside0 (IsS65 w0 wc g s0_0 x1001_34 x1002_34) ∧ Aside0 (KeepBut w wc g none) ∧ Aside0 (Below w0.heap.size w0 wc))
      case first =>
       have H := HC35.out
       clear HC35
       replace H := Option.bind_eq_some_iff.mp H
       obtain ⟨⟨t303, t304, t305⟩, A360, H⟩ := H
       try dsimp only at H
       have A36 := am A360
       clear A360
       by_cases c37 : t303 = true
       ·subst c37
        rw [if_pos rfl] at H
        replace H := Option.bind_eq_some_iff.mp H
        obtain ⟨t306, A380, H⟩ := H
        try dsimp only at H
        have A38 := am A380
        clear A380
        have H' := am H
        clear H
        go_wp2_with (first | (go_at_call 38; (with_reducible refine (spec_l1Cur_one.calls g s0_0 x1001_1 x1002_1 6 true t304 t305 w0 _ ?side1 ?side2 A36.out).mono ?_); (case side1 => exact pkS65 HI0); (case side2 => exact pkBS65 HB); rintro e w39 ⟨rfl, hi, hb, hk⟩; replace HO_297002 := am (Kd.R_mono (Kd.R_keep (IsS65.apart (pkS65 HI0) (pk HO_297002) (by decide)) hk (fun _ h => h.2)) (fun _ h => h.1)); replace BK282 := am (KeepBut.blk hk (pkC BK282) NB282_0.out (by simp)); replace BK296 := am (KeepBut.blk hk (pkC BK296) NB296_0.out (by simp)); replace HK := am (ktk (pkK HK) hk); replace HB := am (hb); replace HI0 := am (hi); (try clear hb); (try clear hb2); (try clear hk); (try clear hi); have hnb40 := NB296_282.out; have hnc40 := NB282_296.out; have hnb41 := NB296_0.out; have hnc41 := NB0_296.out; obtain ⟨hcz42_0, hcz42_1, hcz42_2⟩ := bc3 BK296.out; obtain ⟨hfz42_0, hfz42_1, hfz42_2⟩ := bf3 BK296.out; obtain ⟨Ao43, co43, eo43⟩ := Kd.R_slice HO_297002.out; subst eo43) | (go_at_call 45; (with_reducible refine (spec_l2Row.calls kj14 t283 t284 _ _ x297002_1 t306 _ ?side1 ?side2 A38.out).mono ?_); (case side1 => repeat (first | exact (Kd.R_reads' HO_297002.out).2.2 | (with_reducible refine Kd.C_alloc ?_ _) | (with_reducible refine Kd.C_drewN ?_ _) | (with_reducible refine Kd.C_drew ?_))); (case side2 => exact (Kd.R_reads' HO_297002.out).2.1); rintro e w44 ⟨rfl, hb⟩; replace HO_297002 := am (Kd.R_below (pk HO_297002) hb); replace BK282 := am (blk_below (pkC BK282) hb); replace BK296 := am (blk_below (pkC BK296) hb); replace HI0 := am (IsS65.below (pkS65 HI0) hb); replace HK := am (ktb (pkK HK) hb); replace HB := am (below_step (pkBS65 HB) hb); (try clear hb); (try clear hb2); (try clear hk); (try clear hi)))
        go_meet
        case rel => exact ⟨_, (t306), (t304), (t305), (by first | rfl | (simp; done) | (simp [*]; done)), H', ⟨by have := HK1.out; have := HJ14.out; first | omega | exact Nat.le_refl _⟩, ⟨by (with_reducible repeat (first | apply Kd.R_alloc | apply Kd.R_drewN | apply Kd.R_drew)); exact HO_297002.out⟩, ⟨pkC BK282⟩, ⟨pkC BK296⟩, ⟨pkS65 HI0⟩, ⟨pkK HK⟩, ⟨pkBS65 HB⟩⟩
       ·replace c37 := Bool.eq_false_iff.mpr c37
        subst c37
        rw [if_neg (show ¬ (false = true) by decide)] at H
        have H' := am H
        clear H
        go_wp2_with (first | (go_at_call 38; (with_reducible refine (spec_l1Cur_one.calls g s0_0 x1001_1 x1002_1 6 false t304 t305 w0 _ ?side1 ?side2 A36.out).mono ?_); (case side1 => exact pkS65 HI0); (case side2 => exact pkBS65 HB); rintro e w45 ⟨rfl, hi, hb, hk⟩; replace HO_297002 := am (Kd.R_mono (Kd.R_keep (IsS65.apart (pkS65 HI0) (pk HO_297002) (by decide)) hk (fun _ h => h.2)) (fun _ h => h.1)); replace BK282 := am (KeepBut.blk hk (pkC BK282) NB282_0.out (by simp)); replace BK296 := am (KeepBut.blk hk (pkC BK296) NB296_0.out (by simp)); replace HK := am (ktk (pkK HK) hk); replace HB := am (hb); replace HI0 := am (hi); (try clear hb); (try clear hb2); (try clear hk); (try clear hi)))
        go_meet
        case rel => exact ⟨_, (false), (t304), (t305), (by first | rfl | (simp; done) | (simp [*]; done)), H', ⟨by have := HK1.out; have := HJ14.out; first | omega | exact Nat.le_refl _⟩, ⟨by (with_reducible repeat (first | apply Kd.R_alloc | apply Kd.R_drewN | apply Kd.R_drew)); exact HO_297002.out⟩, ⟨pkC BK282⟩, ⟨pkC BK296⟩, ⟨pkS65 HI0⟩, ⟨pkK HK⟩, ⟨pkBS65 HB⟩⟩
      case rest =>
       clear HC35
       try clear c1
       try clear c2
       try clear p2
       try clear c3
       try clear c4
       try clear c5
       try clear c6
       try clear p6
       try clear c11
       try clear c12
       try clear c16
       try clear c16b0
       try clear c16b1
       try clear c17
       try clear c18
       try clear c20
       try clear c21
       try clear c23
       try clear c25
       try clear c26
       try clear c28
       try clear c29
       try clear c37
       try clear c38
       try clear c40
       try clear c41
       try clear hcz13_0
       try clear hcz13_1
       try clear hcz13_2
       try clear hcz19_0
       try clear hcz19_1
       try clear hcz19_2
       try clear hcz22_0
       try clear hcz22_1
       try clear hcz22_2
       try clear hcz30_0
       try clear hcz30_1
       try clear hcz30_2
       try clear hcz33_0
       try clear hcz33_1
       try clear hcz33_2
       try clear hcz42_0
       try clear hcz42_1
       try clear hcz42_2
       try clear hfz13_0
       try clear hfz13_1
       try clear hfz13_2
       try clear hfz19_0
       try clear hfz19_1
       try clear hfz19_2
       try clear hfz22_0
       try clear hfz22_1
       try clear hfz22_2
       try clear hfz30_0
       try clear hfz30_1
       try clear hfz30_2
       try clear hfz33_0
       try clear hfz33_1
       try clear hfz33_2
       try clear hfz42_0
       try clear hfz42_1
       try clear hfz42_2
       try clear p2
       obtain ⟨kq, x35_34, x1001_34, x1002_34, rfl, HA, HJ34, HO_297002, BK282, BK296, HI0, HK, HB⟩ := hcut
       cases kq with
       | zero => exact absurd HA.out (by simp [spec_l1Cur_row.j2])
       | succ kj34 =>
        have H := HA.out
        clear HA
        simp only [spec_l1Cur_row.j2] at H
        have HC46 := am H
        clear H
        go_upto_if 35 with (fail)
        go_cut [] (fun wc => ∃ (kq : Nat) (x297000_45 : Int) (x297001_45 : Bool) (x297002_45 : List Int) (u297002 : Value), Aside0 (spec_l1Cur_row.j3 kq s0_0 x1001_34 x1002_34 x297000_45 x297001_45 x297002_45 = some (r1, r2, r3, r4, r5)) ∧ Aside0 (kq ≤ kj34) ∧ Aside0 (Kd.R (Kd.int .i64) 3 wc w.heap.size (fun _ => True) u297002 x297002_45) ∧ Aside0 (wc.heap[gb282]? = some (.cells #[.int .i64 0, .bool false, (.slice none 0 0)] 26 (0, 0))) ∧ Aside0 (wc.heap[gb296]? = some (.cells #[.int .i64 x297000_45, .bool x297001_45, u297002] 26 (0, 0))) ∧ Aside0 (IsS65 w0 wc g s0_0 x1001_34 x1002_34) ∧ Aside0 (KeepBut w wc g none) ∧ Aside0 (Below w0.heap.size w0 wc))
        case first =>
         have H := HC46.out
         clear HC46
         by_cases c47 : x35_34 = true
         ·subst c47
          rw [if_pos rfl] at H
          replace H := Option.bind_eq_some_iff.mp H
          obtain ⟨⟨t307, t308, t309, t312⟩, A480, H⟩ := H
          try dsimp only at H
          have A48 := am A480
          clear A480
          have H' := am H
          clear H
          have hnb49 := NB296_282.out
          have hnc49 := NB282_296.out
          have hnb50 := NB296_0.out
          have hnc50 := NB0_296.out
          obtain ⟨hcz51_0, hcz51_1, hcz51_2⟩ := bc3 BK296.out
          obtain ⟨hfz51_0, hfz51_1, hfz51_2⟩ := bf3 BK296.out
          obtain ⟨Ao52, co52, eo52⟩ := Kd.R_slice HO_297002.out
          subst eo52
          go_wp2_with (first | (go_at_call 65; (with_reducible refine (spec_OtherSeats.calls kj34 t283 t284 _ _ x297002_1 t307 t308 t309 t312 _ ?side1 ?side2 A48.out).mono ?_); (case side1 => repeat (first | exact (Kd.R_reads' HO_297002.out).2.2 | (with_reducible refine Kd.C_alloc ?_ _) | (with_reducible refine Kd.C_drewN ?_ _) | (with_reducible refine Kd.C_drew ?_))); (case side2 => exact (Kd.R_reads' HO_297002.out).2.1); rintro e w53 ⟨v310, rfl, ho0, hb⟩; have HO311 := am (Kd.R_lower (Kd.R_new' ho0 (Kd.R_lt (pk HO_297002))) (keep_size (pkK HK))); replace HO_297002 := am (Kd.R_elder' (pk HO_297002) (Kd.R_base ho0) hb); replace BK282 := am (blk_below (pkC BK282) hb); replace BK296 := am (blk_below (pkC BK296) hb); replace HI0 := am (IsS65.below (pkS65 HI0) hb); replace HK := am (ktb (pkK HK) hb); replace HB := am (below_step (pkBS65 HB) hb); obtain ⟨hcz54_0, hcz54_1, hcz54_2⟩ := bc3 BK296.out; obtain ⟨hfz54_0, hfz54_1, hfz54_2⟩ := bf3 BK296.out; obtain ⟨Ao55, co55, eo55⟩ := Kd.R_slice HO311.out; subst eo55))
          go_meet
          case rel => exact ⟨_, (t307), (t308), (t309), (.slice Ao55 t309.length co55), H', ⟨by have := HK1.out; have := HJ14.out; have := HJ34.out; first | omega | exact Nat.le_refl _⟩, ⟨by (with_reducible repeat (first | apply Kd.R_alloc | apply Kd.R_drewN | apply Kd.R_drew)); exact Kd.R_mono (Kd.R_far (p := ⟨gb296, 2, none⟩) (Kd.R_far (p := ⟨gb296, 1, none⟩) (Kd.R_far (p := ⟨gb296, 0, none⟩) (Kd.R_types HO311.out BK296.out (by decide)) (fun _ hk => hk.2) (.int .i64 t307)) (fun _ hk => hk.2) (.bool t308)) (fun _ hk => hk.2) (.slice Ao55 t309.length co55)) (fun _ hk => trivial)⟩, ⟨by (with_reducible repeat (first | refine blk_drewN ?_ _ | refine blk_drew ?_ | refine blk_alloc ?_ _)); refine blk_far ?_ NB282_296.out _; (with_reducible repeat (first | refine blk_drewN ?_ _ | refine blk_drew ?_ | refine blk_alloc ?_ _)); refine blk_far ?_ NB282_296.out _; (with_reducible repeat (first | refine blk_drewN ?_ _ | refine blk_drew ?_ | refine blk_alloc ?_ _)); refine blk_far ?_ NB282_296.out _; (with_reducible repeat (first | refine blk_drewN ?_ _ | refine blk_drew ?_ | refine blk_alloc ?_ _)); exact BK282.out⟩, ⟨by (with_reducible repeat (first | refine blk_drewN ?_ _ | refine blk_drew ?_ | refine blk_alloc ?_ _)); refine blk_put (cs := #[.int .i64 t307, .bool t308, .slice Ao52 x297002_1.length co52]) ?_ 2 _ rfl; (with_reducible repeat (first | refine blk_drewN ?_ _ | refine blk_drew ?_ | refine blk_alloc ?_ _)); refine blk_put (cs := #[.int .i64 t307, .bool t284, .slice Ao52 x297002_1.length co52]) ?_ 1 _ rfl; (with_reducible repeat (first | refine blk_drewN ?_ _ | refine blk_drew ?_ | refine blk_alloc ?_ _)); refine blk_put (cs := #[.int .i64 t283, .bool t284, .slice Ao52 x297002_1.length co52]) ?_ 0 _ rfl; (with_reducible repeat (first | refine blk_drewN ?_ _ | refine blk_drew ?_ | refine blk_alloc ?_ _)); exact BK296.out⟩, ⟨pkS65 HI0⟩, ⟨pkK HK⟩, ⟨pkBS65 HB⟩⟩
         ·replace c47 := Bool.eq_false_iff.mpr c47
          subst c47
          rw [if_neg (show ¬ (false = true) by decide)] at H
          have H' := am H
          clear H
          go_wp2
          go_meet
          case rel => exact ⟨_, (t283), (t284), (x297002_1), (u297002), H', ⟨by have := HK1.out; have := HJ14.out; have := HJ34.out; first | omega | exact Nat.le_refl _⟩, ⟨by (with_reducible repeat (first | apply Kd.R_alloc | apply Kd.R_drewN | apply Kd.R_drew)); exact HO_297002.out⟩, ⟨pkC BK282⟩, ⟨pkC BK296⟩, ⟨pkS65 HI0⟩, ⟨pkK HK⟩, ⟨pkBS65 HB⟩⟩
        case rest =>
         clear HC46
         try clear c1
         try clear c2
         try clear p2
         try clear c3
         try clear c4
         try clear c5
         try clear c6
         try clear p6
         try clear c11
         try clear c12
         try clear c16
         try clear c16b0
         try clear c16b1
         try clear c17
         try clear c18
         try clear c20
         try clear c21
         try clear c23
         try clear c25
         try clear c26
         try clear c28
         try clear c29
         try clear c37
         try clear c38
         try clear c40
         try clear c41
         try clear c47
         try clear c49
         try clear c50
         try clear c51
         try clear hcz13_0
         try clear hcz13_1
         try clear hcz13_2
         try clear hcz19_0
         try clear hcz19_1
         try clear hcz19_2
         try clear hcz22_0
         try clear hcz22_1
         try clear hcz22_2
         try clear hcz30_0
         try clear hcz30_1
         try clear hcz30_2
         try clear hcz33_0
         try clear hcz33_1
         try clear hcz33_2
         try clear hcz42_0
         try clear hcz42_1
         try clear hcz42_2
         try clear hcz51_0
         try clear hcz51_1
         try clear hcz51_2
         try clear hcz54_0
         try clear hcz54_1
         try clear hcz54_2
         try clear hfz13_0
         try clear hfz13_1
         try clear hfz13_2
         try clear hfz19_0
         try clear hfz19_1
         try clear hfz19_2
         try clear hfz22_0
         try clear hfz22_1
         try clear hfz22_2
         try clear hfz30_0
         try clear hfz30_1
         try clear hfz30_2
         try clear hfz33_0
         try clear hfz33_1
         try clear hfz33_2
         try clear hfz42_0
         try clear hfz42_1
         try clear hfz42_2
         try clear hfz51_0
         try clear hfz51_1
         try clear hfz51_2
         try clear hfz54_0
         try clear hfz54_1
         try clear hfz54_2
         try clear p2
         try clear p6
         obtain ⟨kq, x297000_45, x297001_45, x297002_45, u297002, HA, HJ45, HO_297002, BK282, BK296, HI0, HK, HB⟩ := hcut
         cases kq with
         | zero => exact absurd HA.out (by simp [spec_l1Cur_row.j3])
         | succ kj45 =>
          have H := HA.out
          clear HA
          simp only [spec_l1Cur_row.j3] at H
          replace H := Option.bind_eq_some_iff.mp H
          obtain ⟨⟨t313, t314, t315⟩, A560, H⟩ := H
          try dsimp only at H
          have A56 := am A560
          clear A560
          by_cases c57 : t313 = true
          ·subst c57
           rw [if_pos rfl] at H
           obtain ⟨y316, hy316⟩ : ∃ y_ : List Int, y_ = (([(-1), 0, x297000_45, 4611686018427387904] : List Int)) := ⟨_, rfl⟩
           replace H : ((spec_l1Cur_among.f s0_0 t314 t315 y316).bind fun bt319 => (if x297002_45.length < 17592186044416 then (some (x297000_45, x297001_45, (x297002_45 ++ [bt319.1]), bt319.2.1, bt319.2.2)) else (none))) = some (r1, r2, r3, r4, r5) := by first | (rw [hy316]; with_reducible exact H) | (have H2_ := (Option.bind_some _ _).symm.trans H; rw [hy316]; with_reducible exact H2_) | (have H2_ := (Option.bind_some _ _).symm.trans H; with_reducible exact H2_) | with_reducible exact H | (rw [hy316]; exact H) | exact H
           have Ny316 := am hy316
           clear hy316
           replace H := Option.bind_eq_some_iff.mp H
           obtain ⟨⟨t319, t320, t321⟩, A580, H⟩ := H
           try dsimp only at H
           have A58 := am A580
           clear A580
           by_cases c59 : x297002_45.length < 17592186044416
           ·rw [if_pos c59] at H
            have LMc59 := am c59
            clear c59
            obtain ⟨y322, hy322⟩ : ∃ y_ : List Int, y_ = (x297002_45 ++ [t319]) := ⟨_, rfl⟩
            replace H : (some (x297000_45, x297001_45, y322, t320, t321)) = some (r1, r2, r3, r4, r5) := by first | (rw [hy322]; with_reducible exact H) | (have H2_ := (Option.bind_some _ _).symm.trans H; rw [hy322]; with_reducible exact H2_) | (have H2_ := (Option.bind_some _ _).symm.trans H; with_reducible exact H2_) | with_reducible exact H | (rw [hy322]; exact H) | exact H
            have Ny322 := am hy322
            clear hy322
            simp only [Option.some.injEq, Prod.mk.injEq] at H
            obtain ⟨rfl, rfl, rfl, rfl, rfl⟩ := H
            try go_wp2_with (first | (go_at_call 38; (with_reducible refine (spec_l1Cur_one.calls g s0_0 x1001_34 x1002_34 40 true t314 t315 w0 _ ?side1 ?side2 A56.out).mono ?_); (case side1 => exact pkS65 HI0); (case side2 => exact pkBS65 HB); rintro e w60 ⟨rfl, hi, hb, hk⟩; replace HO_297002 := am (Kd.R_mono (Kd.R_keep (IsS65.apart (pkS65 HI0) (pk HO_297002) (by decide)) hk (fun _ h => h.2)) (fun _ h => h.1)); replace BK282 := am (KeepBut.blk hk (pkC BK282) NB282_0.out (by simp)); replace BK296 := am (KeepBut.blk hk (pkC BK296) NB296_0.out (by simp)); replace HK := am (ktk (pkK HK) hk); replace HB := am (hb); replace HI0 := am (hi); (try clear hb); (try clear hb2); (try clear hk); (try clear hi)))
            replace HO_297002 := am (Kd.R_drew HO_297002.out)
            replace BK282 := am (blk_drew BK282.out)
            replace BK296 := am (blk_drew BK296.out)
            replace HI0 := am (IsS65.drew HI0.out)
            replace HK := am (keep_drew HK.out)
            replace HB := am (below_drew1 HB.out)
            refine start_ (n := 11) (S := fun w' => w'.cell? ⟨gb296, 0, none⟩ = some (.int .i64 x297000_45) ∧ w'.cell? ⟨gb296, 1, none⟩ = some (.bool x297001_45) ∧ w'.cell? ⟨gb296, 2, none⟩ = some (u297002)) (ds := [10]) #[false, false, false, false, false, false, false, false, false, false, false] (by kernel_rfl) rfl rfl ⟨(blk_cell BK296.out 0).trans rfl, (blk_cell BK296.out 1).trans rfl, (blk_cell BK296.out 2).trans rfl⟩ (fun hHeld => ?_); refine with_tabW spec_l1Cur_row.tab10 spec_l1Cur_row.bits10 (fun HT_ HW_ => ?_)
            generalize w60.drew = w61 at HO_297002 BK282 BK296 HI0 HK HB hHeld ⊢
            refine pi_ (i := 0) (N := some 43) (v := ?_) (a' := ?_) (bm 11 1) rfl rfl HT_ (by kernel_rfl) (fun _ _ _ h => h) (Or.inl ⟨by rfl, ?_⟩) ?_ ?_
            rotate_left
            ·intro w'
             go_simp
             with_reducible rfl
            rotate_left
            ·simp only [Act.put, pp_]
             rfl
            refine pi_ (i := 2) (N := some 45) (v := ?_) (a' := ?_) (bm 11 5) rfl rfl HT_ (by kernel_rfl) (fun _ _ _ h => h) (Or.inl ⟨by rfl, ?_⟩) ?_ ?_
            rotate_left
            ·intro w'
             go_simp
             with_reducible rfl
            rotate_left
            ·simp only [Act.put, pp_]
             rfl
            refine pi_ (i := 3) (N := some 46) (v := ?_) (a' := ?_) (bm 11 13) rfl rfl HT_ (by kernel_rfl) (fun _ _ _ h => h) (Or.inl ⟨by rfl, ?_⟩) ?_ ?_
            rotate_left
            ·intro w'
             go_simp
             with_reducible rfl
            rotate_left
            ·simp only [Act.put, pp_]
             rfl
            refine take_ (i := 1) (N := some 44) (v := ?_) (a' := ?_) (bm 11 15) rfl rfl (take_ofW HT_.out HW_.out (by kernel_rfl)) (fun _ _ _ h => h) (Or.inl ⟨by rfl, ?_⟩) hHeld ?_ ?_
            rotate_left
            ·rintro w' ⟨s0, s1, s2⟩
             go_simp
             with_reducible rfl
            rotate_left
            ·simp only [Act.put, pp_]
             rfl
            refine take_ (i := 4) (N := some 47) (v := ?_) (a' := ?_) (bm 11 31) rfl rfl (take_ofW HT_.out HW_.out (by kernel_rfl)) (fun _ _ _ h => h) (Or.inl ⟨by rfl, ?_⟩) hHeld ?_ ?_
            rotate_left
            ·rintro w' ⟨s0, s1, s2⟩
             go_simp
             with_reducible rfl
            rotate_left
            ·simp only [Act.put, pp_]
             rfl
            refine one_ (i := 5) (N := some 48) (bm 11 63) rfl rfl (one_of HT_.out (by kernel_rfl)) (by decide) (fun K hK => ?_)
            refine Kd.R_lit_step (Kd.int .i64) _ 3 ?hg (N := 48) ?hd (xs := ([(-1), 0, x297000_45, 4611686018427387904] : List Int)) (inner := [.int .i64 (-1), .int .i64 0, .int .i64 x297000_45, .int .i64 4611686018427387904]) (ok := fun _ => True) (okp := fun _ => True) ?hr ?hp (fun _ hk => hk) trivial (Below.refl _ _) (Nat.le_refl _) (by simp) ?_; (case hd => rfl); (case hg => rfl); (case hr => first | (go_simp; done) | (go_simp; rfl)); (case hp => exact (Reps.one (show Kd.M (Kd.int .i64) _ _ _ (-1) [.int .i64 (-1)] from rfl) (Reps.one (show Kd.M (Kd.int .i64) _ _ _ 0 [.int .i64 0] from rfl) (Reps.one (show Kd.M (Kd.int .i64) _ _ _ x297000_45 [.int .i64 x297000_45] from rfl) (Reps.one (show Kd.M (Kd.int .i64) _ _ _ 4611686018427387904 [.int .i64 4611686018427387904] from rfl) (Reps.none _ _))))))
            intro v317 w62 ho63 hb hg_ hnew_
            clear hg_ hnew_
            (first | rw [← Ny316.out] at ho63 | (simp only [Int.reduceToNat] at ho63; rw [← Ny316.out] at ho63))
            have HO318 := am (Kd.R_lower (Kd.R_new' ho63 (Kd.R_lt (pk HO_297002))) (keep_size (pkK HK)))
            replace HO_297002 := am (Kd.R_elder' (pk HO_297002) (Kd.R_base ho63) hb)
            replace BK282 := am (blk_below (pkC BK282) hb)
            replace BK296 := am (blk_below (pkC BK296) hb)
            replace HI0 := am (IsS65.below (pkS65 HI0) hb)
            replace HK := am (ktb (pkK HK) hb)
            replace HB := am (below_step (pkBS65 HB) hb)
            clear hb ho63
            obtain ⟨Ao64, co64, eo64⟩ := Kd.R_slice HO318.out
            (first | subst eo64 | (injection eo64 with f1_ f2_ f3_; have f4_ := f1_.symm; have f5_ := f3_.symm; clear f1_ f2_ f3_; subst f4_; subst f5_))
            refine hK.out _ _ ⟨(blk_cell BK296.out 0).trans rfl, (blk_cell BK296.out 1).trans rfl, (blk_cell BK296.out 2).trans rfl⟩ (fun hHeld => ?_)
            clear hK K
            refine norm_ (a' := ?_) ?_ ?_
            rotate_left
            ·show Act.put _ (some 48) _ = _
             simp only [Act.put, pp_]
             rfl
            refine one_ (i := 6) (N := some 49) (bm 11 127) rfl rfl (one_of HT_.out (by kernel_rfl)) (by decide) (fun K hK => ?_)
            refine goes_ Tryd.func51 (by kernel_rfl) rfl #[.pointer (some ⟨g, 0, none⟩), .slice Ao64 y316.length co64] (by rfl) rfl rfl (by (try simp only [List.map_toArray, List.map_cons, List.map_nil]); first | done | rfl | (simp only [List.length_drop, List.length_take]; rfl)) ?_
            with_reducible refine (spec_l1Cur_among.calls g s0_0 t314 t315 _ _ y316 t319 t320 t321 w0 _ ?side1 ?side2 ?side3 ?side4 ?side5 A58.out).mono ?_
            (case side1 => exact pkS65 HI0)
            (case side2 => exact pkBS65 HB)
            (case side3 => repeat (first | exact (Kd.R_reads' HO318.out).2.2 | (with_reducible refine Kd.C_alloc ?_ _) | (with_reducible refine Kd.C_drewN ?_ _) | (with_reducible refine Kd.C_drew ?_)))
            (case side4 => exact (Kd.R_reads' HO318.out).2.1)
            (case side5 => exact far_slice (IsS65.own_ne HI0.out HO318.out (by decide)))
            rintro e w65 ⟨rfl, hi, hb, hk⟩
            refine ⟨_, rfl, ?_⟩
            replace HO_297002 := am (Kd.R_mono (Kd.R_keep (IsS65.apart (pkS65 HI0) (pk HO_297002) (by decide)) hk (fun _ h => h.2)) (fun _ h => h.1))
            replace BK282 := am (KeepBut.blk hk (pkC BK282) NB282_0.out (by simp))
            replace BK296 := am (KeepBut.blk hk (pkC BK296) NB296_0.out (by simp))
            replace HO318 := am (Kd.R_mono (Kd.R_keep (IsS65.apart (pkS65 HI0) (pk HO318) (by decide)) hk (fun _ h => h.2)) (fun _ h => h.1))
            replace HK := am (ktk (pkK HK) hk)
            replace HB := am (hb)
            replace HI0 := am (hi)
            (try clear hb)
            (try clear hb2)
            (try clear hk)
            (try clear hi)
            refine hK.out _ _ ⟨(blk_cell BK296.out 0).trans rfl, (blk_cell BK296.out 1).trans rfl, (blk_cell BK296.out 2).trans rfl⟩ (fun hHeld => ?_)
            clear hK K
            refine norm_ (a' := ?_) ?_ ?_
            rotate_left
            ·show Act.put _ (some 49) _ = _
             simp only [Act.put, pp_]
             rfl
            refine one_ (i := 7) (N := some 50) (bm 11 255) rfl rfl (one_of HT_.out (by kernel_rfl)) (by decide) (fun K hK => ?_)
            refine value_ (w1 := ?_) (v := ?_) (by rfl) rfl ?_ ?_
            rotate_left 2
            ·go_simp
             constructor
             ·rfl
             ·rfl
            refine hK.out _ _ ⟨(blk_cell (blk_alloc BK296.out _) 0).trans rfl, (blk_cell (blk_alloc BK296.out _) 1).trans rfl, (blk_cell (blk_alloc BK296.out _) 2).trans rfl⟩ (fun hHeld => ?_)
            clear hK K
            refine norm_ (a' := ?_) ?_ ?_
            rotate_left
            ·show Act.put _ (some 50) _ = _
             simp only [Act.put, pp_]
             rfl
            refine one_ (i := 8) (N := some 51) (bm 11 511) rfl rfl (one_of HT_.out (by kernel_rfl)) (by decide) (fun K hK => ?_)
            refine Kd.R_append_step (Kd.int .i64) w.heap.size (by rfl) (.tmp 44) (.tmp 50) 24 3 (.int .i64 0) 8 rfl Tryd.underlying24 info3 rfl (by decide) (by omega) u297002 x297002_45 t319 [.int .i64 t319] (fun k_ => some k_ ≠ (.slice Ao64 y316.length co64 : Value).ownBlock) (fun _ => False) rfl rfl ?aP (fun _ hk => hk.elim) ?aF ?aO (Below.refl _ _) ?aS ?aL ?_
            (case aP => exact rfl)
            (case aF => exact (fun k_ hk => Kd.fresh' (Kd.R_lt (pk HO318)) k_ hk))
            (case aO => exact (by (with_reducible repeat (first | apply Kd.R_alloc | apply Kd.R_drewN | apply Kd.R_drew)); exact Kd.R_mono HO_297002.out (fun _ hk => hk.2)))
            (case aS => exact (keep_size (pkK HK)))
            (case aL => have := LMc59.out; omega)
            intro v323 w66 ho hb hg hat
            rw [← Ny322.out] at ho
            have HO324 := am (ho)
            replace BK282 := am (blk_grown (pkC BK282) hg (Kd.R_ne HO_297002.out BK282.out (by decide)))
            replace BK296 := am (blk_grown (pkC BK296) hg (Kd.R_ne HO_297002.out BK296.out (by decide)))
            replace HI0 := am (IsS65.grown (pkS65 HI0) hg (IsS65.own_ne HI0.out HO_297002.out (by decide)))
            replace HO318 := am (Kd.R_after (ok := (fun _ => True)) (pk HO318) hg hat)
            replace HB := am (below_weaken (pkBS65 HB) HL.out hb)
            replace HK := am (KeepBut.trans (pkK HK) (KeepBut.of_grown hg g) (Kd.R_base2 HO_297002.out))
            clear HO_297002 ho hb hg hat
            obtain ⟨Ao67, co67, eo67⟩ := Kd.R_slice HO324.out
            (first | subst eo67 | (injection eo67 with f1_ f2_ f3_; have f4_ := f1_.symm; have f5_ := f3_.symm; clear f1_ f2_ f3_; subst f4_; subst f5_))
            refine hK.out _ _ ⟨(blk_cell BK296.out 0).trans rfl, (blk_cell BK296.out 1).trans rfl, (blk_cell BK296.out 2).trans rfl⟩ (fun hHeld => ?_)
            clear hK K
            refine norm_ (a' := ?_) ?_ ?_
            rotate_left
            ·show Act.put _ (some 51) _ = _
             simp only [Act.put, pp_]
             rfl
            refine pi_ (i := 9) (N := some 52) (v := ?_) (a' := ?_) (bm 11 1023) rfl rfl HT_ (by kernel_rfl) (fun _ _ _ h => h) (Or.inl ⟨by rfl, ?_⟩) ?_ ?_
            rotate_left
            ·intro w'
             go_simp
             with_reducible rfl
            rotate_left
            ·simp only [Act.put, pp_]
             rfl
            refine last_ (i := 10) (N := none) (bm 11 2047) rfl rfl (one_of HT_.out (by kernel_rfl)) (by decide) (fun K hK => ?_)
            have hs68 : w66.cell? ⟨gb296, 2, none⟩ = some (u297002) := (blk_cell BK296.out 2).trans rfl
            have hfs68 := blk_frozen BK296.out 2
            have hns68_0 := NB282_296.out
            have hms68_0 := NB296_282.out
            refine skip_ (w1 := ?_) (by rfl) rfl ?_ ?_
            rotate_left
            ·go_simp
             rfl
            refine hK.out _ _ ?_
            clear hK K
            refine done_ (done_of HT_.out (by kernel_rfl)) ?_
            have hnb69 := NB296_282.out
            have hnc69 := NB282_296.out
            have hnb70 := NB296_0.out
            have hnc70 := NB0_296.out
            obtain ⟨hcz71_0, hcz71_1, hcz71_2⟩ := bc3 BK296.out
            obtain ⟨hfz71_0, hfz71_1, hfz71_2⟩ := bf3 BK296.out
            have hnb72 := NB282_0.out
            have hnc72 := NB0_282.out
            obtain ⟨hcz73_0, hcz73_1, hcz73_2⟩ := bc3 BK282.out
            obtain ⟨hfz73_0, hfz73_1, hfz73_2⟩ := bf3 BK282.out
            try go_wp2
            refine bodyPost_ret (results_cell_row rfl _ _ gb282 26 #[.int .i64 x297000_45, .bool x297001_45, .slice Ao67 y322.length co67] (0, 0) _ rfl (by (with_reducible repeat (first | refine blk_drewN ?_ _ | refine blk_drew ?_ | refine blk_alloc ?_ _)); refine blk_put (cs := #[.int .i64 x297000_45, .bool x297001_45, .slice none 0 0]) ?_ 2 _ rfl; (with_reducible repeat (first | refine blk_drewN ?_ _ | refine blk_drew ?_ | refine blk_alloc ?_ _)); refine blk_put (cs := #[.int .i64 x297000_45, .bool false, .slice none 0 0]) ?_ 1 _ rfl; (with_reducible repeat (first | refine blk_drewN ?_ _ | refine blk_drew ?_ | refine blk_alloc ?_ _)); refine blk_put (cs := #[.int .i64 0, .bool false, .slice none 0 0]) ?_ 0 _ rfl; (with_reducible repeat (first | refine blk_drewN ?_ _ | refine blk_drew ?_ | refine blk_alloc ?_ _)); refine blk_far ?_ NB282_296.out _; (with_reducible repeat (first | refine blk_drewN ?_ _ | refine blk_drew ?_ | refine blk_alloc ?_ _)); exact BK282.out) Tryd.underlying26 rfl (by kernel_rfl)) rfl ?_
            exact ⟨_, by first | rfl | (simp [*]; done), by (with_reducible repeat (first | apply Kd.R_alloc | apply Kd.R_drewN | apply Kd.R_drew)); exact Kd.R_mono (Kd.R_far (p := ⟨gb282, 2, none⟩) (Kd.R_far (p := ⟨gb282, 1, none⟩) (Kd.R_far (p := ⟨gb282, 0, none⟩) (Kd.R_far (p := ⟨gb296, 2, none⟩) (Kd.R_types (Kd.R_types HO324.out BK296.out (by decide)) BK282.out (by decide)) (fun _ hk => hk.1.2) (.slice Ao67 y322.length co67)) (fun _ hk => hk.2) (.int .i64 x297000_45)) (fun _ hk => hk.2) (.bool x297001_45)) (fun _ hk => hk.2) (.slice Ao67 y322.length co67)) (fun _ hk => trivial), pkS65 HI0, pkBS65 HB, pkK HK⟩
           ·rw [if_neg c59] at H
            exact absurd H (by simp)
          ·replace c57 := Bool.eq_false_iff.mpr c57
           subst c57
           rw [if_neg (show ¬ (false = true) by decide)] at H
           simp only [Option.some.injEq, Prod.mk.injEq] at H
           obtain ⟨rfl, rfl, rfl, rfl, rfl⟩ := H
           go_wp2_with (first | (go_at_call 38; (with_reducible refine (spec_l1Cur_one.calls g s0_0 x1001_34 x1002_34 40 false t314 t315 w0 _ ?side1 ?side2 A56.out).mono ?_); (case side1 => exact pkS65 HI0); (case side2 => exact pkBS65 HB); rintro e w74 ⟨rfl, hi, hb, hk⟩; replace HO_297002 := am (Kd.R_mono (Kd.R_keep (IsS65.apart (pkS65 HI0) (pk HO_297002) (by decide)) hk (fun _ h => h.2)) (fun _ h => h.1)); replace BK282 := am (KeepBut.blk hk (pkC BK282) NB282_0.out (by simp)); replace BK296 := am (KeepBut.blk hk (pkC BK296) NB296_0.out (by simp)); replace HK := am (ktk (pkK HK) hk); replace HB := am (hb); replace HI0 := am (hi); (try clear hb); (try clear hb2); (try clear hk); (try clear hi); have hnb75 := NB296_282.out; have hnc75 := NB282_296.out; have hnb76 := NB296_0.out; have hnc76 := NB0_296.out; obtain ⟨hcz77_0, hcz77_1, hcz77_2⟩ := bc3 BK296.out; obtain ⟨hfz77_0, hfz77_1, hfz77_2⟩ := bf3 BK296.out; have hnb78 := NB282_0.out; have hnc78 := NB0_282.out; obtain ⟨hcz79_0, hcz79_1, hcz79_2⟩ := bc3 BK282.out; obtain ⟨hfz79_0, hfz79_1, hfz79_2⟩ := bf3 BK282.out; obtain ⟨Ao80, co80, eo80⟩ := Kd.R_slice HO_297002.out; subst eo80))
           refine bodyPost_ret (results_cell_row rfl _ _ gb282 26 #[.int .i64 x297000_45, .bool x297001_45, .slice Ao80 x297002_45.length co80] (0, 0) _ rfl (by (with_reducible repeat (first | refine blk_drewN ?_ _ | refine blk_drew ?_ | refine blk_alloc ?_ _)); refine blk_put (cs := #[.int .i64 x297000_45, .bool x297001_45, .slice none 0 0]) ?_ 2 _ rfl; (with_reducible repeat (first | refine blk_drewN ?_ _ | refine blk_drew ?_ | refine blk_alloc ?_ _)); refine blk_put (cs := #[.int .i64 x297000_45, .bool false, .slice none 0 0]) ?_ 1 _ rfl; (with_reducible repeat (first | refine blk_drewN ?_ _ | refine blk_drew ?_ | refine blk_alloc ?_ _)); refine blk_put (cs := #[.int .i64 0, .bool false, .slice none 0 0]) ?_ 0 _ rfl; (with_reducible repeat (first | refine blk_drewN ?_ _ | refine blk_drew ?_ | refine blk_alloc ?_ _)); exact BK282.out) Tryd.underlying26 rfl (by kernel_rfl)) rfl ?_
           exact ⟨_, by first | rfl | (simp [*]; done), by (with_reducible repeat (first | apply Kd.R_alloc | apply Kd.R_drewN | apply Kd.R_drew)); exact Kd.R_mono (Kd.R_far (p := ⟨gb282, 2, none⟩) (Kd.R_far (p := ⟨gb282, 1, none⟩) (Kd.R_far (p := ⟨gb282, 0, none⟩) (Kd.R_types HO_297002.out BK282.out (by decide)) (fun _ hk => hk.2) (.int .i64 x297000_45)) (fun _ hk => hk.2) (.bool x297001_45)) (fun _ hk => hk.2) (.slice Ao80 x297002_45.length co80)) (fun _ hk => trivial), pkS65 HI0, pkBS65 HB, pkK HK⟩

end Go.Proofs.YtnoipklaebadeaaDoor.PFnPlacings
