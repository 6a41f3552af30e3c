import Derived.Test.YtnoipklaebadeaaDoorZFnPlacingsPFnPlacingsx0
import Derived.Test.YtnoipklaebadeaaDoorZFnPlacingsPFnPlacingsx1
import Derived.Test.YtnoipklaebadeaaDoorZFnPlacingsPFnPlacingsx4
import Derived.Test.YtnoipklaebadeaaDoorZFnPlacingsPFnPlacingsx6
import Derived.Test.YtnoipklaebadeaaDoorZFnPlacingsPFnPlacingsx9
namespace Go.Proofs.YtnoipklaebadeaaDoor.PFnPlacings
open Go.RowKit Go.Proofs.YtnoipklaebadeaaDoorW.PrintWords Go.Proofs.YtnoipklaebadeaaDoorW.PrintLast Go.Proofs.YtnoipklaebadeaaDoorW.PrintMore
attribute [local go_sem] max2_int min2_int max_two min_two max_three min_three max_four min_four   -- for this text's walks alone
set_option linter.unusedVariables false
set_option linter.unusedSimpArgs false

/-! ### spec_l1Cur_groups9: function 37 -/
mutual
def spec_l1Cur_groups9.j0 : Nat → List Int → Int → Int → Int → Bool → List Int → Option (Int × Bool × List Int × List Int × Int × Int × Int)
 | 0, _, _, _, _, _, _ => none
 | k + 1, x1000, x1001, x1002, x365000, x365001, x365002 => if x365000 > 12 then ((spec_l2Row.f k x365000 x365001 x365002).bind fun t368 => (if t368 = true then ((spec_l1Cur_one.f x1000 x1001 x1002 8).bind fun bt369 => (spec_l1Cur_groups9.j1 k (!bt369.1) x1000 bt369.2.1 bt369.2.2 x365000 x365001 x365002)) else (spec_l1Cur_groups9.j1 k false x1000 x1001 x1002 x365000 x365001 x365002))) else (spec_l1Cur_groups9.j1 k false x1000 x1001 x1002 x365000 x365001 x365002)
def spec_l1Cur_groups9.j1 : Nat → Bool → List Int → Int → Int → Int → Bool → List Int → Option (Int × Bool × List Int × List Int × Int × Int × Int)
 | 0, _, _, _, _, _, _, _ => none
 | k + 1, x25, x1000, x1001, x1002, x365000, x365001, x365002 => if x25 = true then (spec_l1Cur_groups9.j2 k x1000 x1001 x1002 12 false (([] : List Int))) else (spec_l1Cur_groups9.j2 k x1000 x1001 x1002 x365000 x365001 x365002)
def spec_l1Cur_groups9.j2 : Nat → List Int → Int → Int → Int → Bool → List Int → Option (Int × Bool × List Int × List Int × Int × Int × Int)
 | 0, _, _, _, _, _, _ => none
 | k + 1, x1000, x1001, x1002, x365000, x365001, x365002 => (spec_l1Cur_among.f x1000 x1001 x1002 (([2, 3, 1, 2] : List Int))).bind fun bt381 => (spec_l1Cur_groups9.l0 k (([] : List Int)) bt381.1 x1000 bt381.2.1 bt381.2.2 x365000 x365001 x365002)
def spec_l1Cur_groups9.l0 : Nat → List Int → Int → List Int → Int → Int → Int → Bool → List Int → Option (Int × Bool × List Int × List Int × Int × Int × Int)
 | 0, _, _, _, _, _, _, _, _ => none
 | k + 1, x6, x7, x1000, x1001, x1002, x365000, x365001, x365002 => if x7 > 0 then ((spec_l1Cur_among.f x1000 x1001 x1002 (([1, 2, 3, 1, 4] : List Int))).bind fun bt387 => (if x6.length < 17592186044416 then (spec_l1Cur_groups9.l0 k (x6 ++ [bt387.1]) (wrap64 (x7 - 1)) x1000 bt387.2.1 bt387.2.2 x365000 x365001 x365002) else (none))) else ((spec_l1Cur_pick.f x1000 x1001 x1002 24).bind fun bt393 => (if bt393.1 = 0 then ((spec_l1Cur_among.f x1000 bt393.2.1 bt393.2.2 (([0, (-1), 24, 4611686018427387904] : List Int))).bind fun bt399 => (if x6.length < 17592186044416 then (spec_l1Cur_groups9.j4 k (x6 ++ [bt399.1]) x1000 bt399.2.1 bt399.2.2 x365000 x365001 x365002) else (none))) else (if bt393.1 = 1 then (spec_l1Cur_groups9.j4 k (([] : List Int)) x1000 bt393.2.1 bt393.2.2 x365000 x365001 x365002) else (spec_l1Cur_groups9.j4 k x6 x1000 bt393.2.1 bt393.2.2 x365000 x365001 x365002))))
def spec_l1Cur_groups9.j4 : Nat → List Int → List Int → Int → Int → Int → Bool → List Int → Option (Int × Bool × List Int × List Int × Int × Int × Int)
 | 0, _, _, _, _, _, _, _ => none
 | k + 1, x6, x1000, x1001, x1002, x365000, x365001, x365002 => (some (([1, 0, 2, 3, 4611686018427387904, (-1)] : List Int) : List Int)).bind fun y408 => ((spec_l1Cur_pick.f x1000 x1001 x1002 24).bind fun bt411 => (if 0 ≤ (wrap64 (4 + (wrap64 (Int.tdiv bt411.1 11)))) then (if (wrap64 (4 + (wrap64 (Int.tdiv bt411.1 11)))) ≤ (y408.length : Int) then ((spec_l1Cur_among.f x1000 bt411.2.1 bt411.2.2 (y408.take ((wrap64 (4 + (wrap64 (Int.tdiv bt411.1 11)))) : Int).toNat)).bind fun bt418 => (some (x365000, x365001, x365002, x6, bt418.1, bt418.2.1, bt418.2.2))) else (none)) else (none)))
end
def spec_l1Cur_groups9.f (k : Nat) (s0_0 : List Int) (s0_1 : Int) (s0_2 : Int) : Option (Int × Bool × List Int × List Int × Int × Int × Int) := (spec_l1Cur_sparse3.f k s0_0 s0_1 s0_2).bind fun bt357 => ((spec_l1Cur_one.f s0_0 bt357.2.2.2.1 bt357.2.2.2.2 16).bind fun bt365 => (if bt365.1 = true then (spec_l1Cur_groups9.j0 k s0_0 bt365.2.1 bt365.2.2 bt357.1 bt357.2.1 bt357.2.2.1) else (spec_l1Cur_groups9.j0 k s0_0 bt365.2.1 bt365.2.2 bt357.1 false bt357.2.2.1)))
def spec_l1Cur_groups9.T16 : Bool × List (List Nat × List Nat) := (true, [([], []), ([], []), ([], []), ([], []), ([], []), ([4], [4]), ([5], [5]), ([6], [6]), ([3, 7], [3, 7]), ([2, 8, 5], [2, 8]), ([0, 9, 0], [0]), ([1, 10, 0, 1, 10], [1]), ([9, 11, 0, 1, 2, 3, 4, 5, 6, 7, 8, 9, 10, 11], [9])])
def spec_l1Cur_groups9.B16 : List Nat := [0, 0, 0, 0, 0, 16, 48, 112, 248, 508, 1021, 2047, 4095]
theorem spec_l1Cur_groups9.tab16 : rtab .any (opsOf Tryd.f37 16) = spec_l1Cur_groups9.T16 := by kernel_rfl
theorem spec_l1Cur_groups9.bits16 : waitsOk spec_l1Cur_groups9.T16.2 spec_l1Cur_groups9.B16 = true := by kernel_rfl
set_option maxHeartbeats 8000000 in
set_option maxRecDepth 100000 in
theorem spec_l1Cur_groups9.calls (k : Nat) (g : Nat) (s0_0 : List Int) (s0_1 : Int) (s0_2 : Int) (r1 : Int) (r2 : Bool) (r3 : List Int) (r4 : List Int) (r5 : Int) (r6 : Int) (r7 : Int) (w0 w : World) (hI : IsS65 w0 w g s0_0 s0_1 s0_2) (hB : Below w0.heap.size w0 w) (h : spec_l1Cur_groups9.f k s0_0 s0_1 s0_2 = some (r1, r2, r3, r4, r5, r6, r7)) :
  Calls Tryd.prog 37 #[.pointer (some ⟨g, 0, none⟩)] w fun e w' => ∃ v2_ v3_ : Value, e = .returned (.tuple #[.agg #[.int .i64 r1, .bool r2, v2_], v3_, .int .i64 r5]) ∧ Kd.V (Kd.int .i64) 3 w' w.heap.size (fun k_ => (w.heap.size ≤ k_) ∧ some k_ ≠ (v3_ : Value).ownBlock) v2_ r3 ∧ Kd.R (Kd.int .i64) 3 w' w.heap.size (fun k_ => (w.heap.size ≤ k_)) v3_ r4 ∧ IsS65 w0 w' g s0_0 r6 r7 ∧ Below w0.heap.size w0 w' ∧ KeepBut w w' g none := by
 have hu26 := Tryd.underlying26
 have HI0 := am hI
 have HK := am (KeepBut.refl w g none)
 have HL := am hB.size
 clear hI
 have HW0 := am hB.size
 have HB := am hB
 clear hB
 have H : ((spec_l1Cur_sparse3.f k s0_0 s0_1 s0_2).bind fun bt357 => ((spec_l1Cur_one.f s0_0 bt357.2.2.2.1 bt357.2.2.2.2 16).bind fun bt365 => (if bt365.1 = true then (spec_l1Cur_groups9.j0 k s0_0 bt365.2.1 bt365.2.2 bt357.1 bt357.2.1 bt357.2.2.1) else (spec_l1Cur_groups9.j0 k s0_0 bt365.2.1 bt365.2.2 bt357.1 false bt357.2.2.1)))) = some (r1, r2, r3, r4, r5, r6, r7) := h
 clear h
 replace H := Option.bind_eq_some_iff.mp H
 obtain ⟨⟨t357, t358, t359, t362, t363⟩, A20, H⟩ := H
 try dsimp only at H
 have A2 := am A20
 clear A20
 replace H := Option.bind_eq_some_iff.mp H
 obtain ⟨⟨t365, t366, t367⟩, A30, H⟩ := H
 try dsimp only at H
 have A3 := am A30
 clear A30
 have HC4 := am H
 clear H
 go_enter Tryd.func37, Tryd.ntmps37
 go_upto_if 12 with (first | ((with_reducible refine gate_dst (N := 2) rfl ?_); refine box_event ?hg (N := 2) ?hd (cs := #[.int .i64 0, .bool false, .slice none 0 0]) (t := 26) ?hr ?_; (case hd => rfl); (case hg => rfl); (case hr => first | (go_simp; done) | (go_simp; rfl)); intro gb356 hg w5 hbox hb; have BK356 := am (hbox); have GW356 := am ((by rw [hg]; exact (keep_size (pkK HK)) : w.heap.size ≤ gb356)); have GE356 := am ((Nat.le_trans HW0.out (by rw [hg]; exact (keep_size (pkK HK)) : w.heap.size ≤ gb356) : w0.heap.size ≤ gb356)); have NB0_356 := am ((by rw [hg]; exact Nat.ne_of_lt (IsS65.lt (pkS65 HI0)) : g ≠ gb356)); have NB356_0 := am ((by rw [hg]; exact Nat.ne_of_gt (IsS65.lt (pkS65 HI0)) : gb356 ≠ g)); replace HI0 := am (IsS65.below (pkS65 HI0) hb); replace HK := am (ktb (pkK HK) hb); replace HB := am (below_step (pkBS65 HB) hb); clear hb hbox hg) | (go_at_call 50; (with_reducible refine (spec_l1Cur_sparse3.calls k g s0_0 s0_1 s0_2 t357 t358 t359 t362 t363 w0 _ ?side1 ?side2 A2.out).mono ?_); (case side1 => exact pkS65 HI0); (case side2 => exact pkBS65 HB); rintro e w6 ⟨v360, rfl, ho0, hi, hb, hk⟩; have HO361 := am (Kd.V_lower (Kd.V_mono (ok' := fun k_ => (w.heap.size ≤ k_) ∧ k_ ≠ gb356 ∧ k_ ≠ g) ho0 (fun k_ hk_ => ⟨(Nat.le_trans (keep_size (pkK HK)) hk_), (Kd.freshB (pkC BK356) k_ hk_), (IsS65.fresh (pkS65 HI0) k_ hk_)⟩)) (keep_size (pkK HK))); replace BK356 := am (KeepBut.blk hk (pkC BK356) NB356_0.out (by simp)); replace HK := am (ktk (pkK HK) hk); replace HB := am (hb); replace HI0 := am (hi)) | ((with_reducible refine gate_dst (N := 5) rfl ?_); refine box_event ?hg (N := 5) ?hd (cs := #[.int .i64 0, .bool false, .slice none 0 0]) (t := 26) ?hr ?_; (case hd => rfl); (case hg => rfl); (case hr => first | (go_simp; done) | (go_simp; rfl)); intro gb364 hg w7 hbox hb; have BK364 := am (hbox); have GW364 := am ((by rw [hg]; exact (keep_size (pkK HK)) : w.heap.size ≤ gb364)); have GE364 := am ((Nat.le_trans HW0.out (by rw [hg]; exact (keep_size (pkK HK)) : w.heap.size ≤ gb364) : w0.heap.size ≤ gb364)); have NB356_364 := am ((by rw [hg]; exact Nat.ne_of_lt (blk_lt (pkC BK356)) : gb356 ≠ gb364)); have NB364_356 := am ((by rw [hg]; exact Nat.ne_of_gt (blk_lt (pkC BK356)) : gb364 ≠ gb356)); have NB0_364 := am ((by rw [hg]; exact Nat.ne_of_lt (IsS65.lt (pkS65 HI0)) : g ≠ gb364)); have NB364_0 := am ((by rw [hg]; exact Nat.ne_of_gt (IsS65.lt (pkS65 HI0)) : gb364 ≠ g)); replace HO361 := am (Kd.V_below (Kd.V_elderB (pk HO361) gb364 (Nat.le_of_eq hg.symm)) hb); replace HI0 := am (IsS65.below (pkS65 HI0) hb); replace BK356 := am (blk_below (pkC BK356) hb); replace HK := am (ktb (pkK HK) hb); replace HB := am (below_step (pkBS65 HB) hb); clear hb hbox hg; have hnb8 := NB364_356.out; have hnc8 := NB356_364.out; have hnb9 := NB364_0.out; have hnc9 := NB0_364.out; obtain ⟨hcz10_0, hcz10_1, hcz10_2⟩ := bc3 BK364.out; obtain ⟨hfz10_0, hfz10_1, hfz10_2⟩ := bf3 BK364.out; obtain ⟨Ao11, co11, eo11⟩ := Kd.V_slice HO361.out; subst eo11) | (go_at_call 38; (with_reducible refine (spec_l1Cur_one.calls g s0_0 t362 t363 16 t365 t366 t367 w0 _ ?side1 ?side2 A3.out).mono ?_); (case side1 => exact pkS65 HI0); (case side2 => exact pkBS65 HB); rintro e w12 ⟨rfl, hi, hb, hk⟩; replace BK356 := am (KeepBut.blk hk (g' := gb356) (o := .cells #[.int .i64 0, .bool false, .slice none 0 0] 26 (0, 0)) (by (with_reducible repeat (first | refine blk_drewN ?_ _ | refine blk_drew ?_ | refine blk_alloc ?_ _)); refine blk_far ?_ NB356_364.out _; (with_reducible repeat (first | refine blk_drewN ?_ _ | refine blk_drew ?_ | refine blk_alloc ?_ _)); refine blk_far ?_ NB356_364.out _; (with_reducible repeat (first | refine blk_drewN ?_ _ | refine blk_drew ?_ | refine blk_alloc ?_ _)); refine blk_far ?_ NB356_364.out _; (with_reducible repeat (first | refine blk_drewN ?_ _ | refine blk_drew ?_ | refine blk_alloc ?_ _)); exact BK356.out) NB356_0.out (by simp)); replace HO361 := am (Kd.V_mono (Kd.V_keep (Kd.V_mono (ok := fun k_ => ((((w.heap.size ≤ k_)) ∧ (k_ ≠ gb356 ∧ k_ ≠ g)) ∧ k_ ≠ gb364)) (by (with_reducible repeat (first | apply Kd.V_alloc | apply Kd.V_drewN | apply Kd.V_drew)); exact (Kd.V_mono (Kd.V_far (p := ⟨gb364, 2, none⟩) (Kd.V_far (p := ⟨gb364, 1, none⟩) (Kd.V_far (p := ⟨gb364, 0, none⟩) (Kd.V_mono HO361.out (fun k_ hk => (⟨hk, hk.2⟩ : _ ∧ k_ ≠ gb364))) (fun _ hk => hk.2) (.int .i64 t357)) (fun _ hk => hk.2) (.bool t358)) (fun _ hk => hk.2) (.slice Ao11 t359.length co11)) (fun _ h_ => h_.1))) (fun k_ hk_ => (⟨hk_, hk_.1.2.2⟩ : _ ∧ k_ ≠ g))) hk (fun _ h => h.2)) (fun _ h => h.1)); replace BK364 := am (KeepBut.blk hk (g' := gb364) (o := .cells #[.int .i64 t357, .bool t358, .slice Ao11 t359.length co11] 26 (0, 0)) (by (with_reducible repeat (first | refine blk_drewN ?_ _ | refine blk_drew ?_ | refine blk_alloc ?_ _)); refine blk_put (cs := #[.int .i64 t357, .bool t358, .slice none 0 0]) ?_ 2 _ rfl; (with_reducible repeat (first | refine blk_drewN ?_ _ | refine blk_drew ?_ | refine blk_alloc ?_ _)); refine blk_put (cs := #[.int .i64 t357, .bool false, .slice none 0 0]) ?_ 1 _ rfl; (with_reducible repeat (first | refine blk_drewN ?_ _ | refine blk_drew ?_ | refine blk_alloc ?_ _)); refine blk_put (cs := #[.int .i64 0, .bool false, .slice none 0 0]) ?_ 0 _ rfl; (with_reducible repeat (first | refine blk_drewN ?_ _ | refine blk_drew ?_ | refine blk_alloc ?_ _)); exact BK364.out) NB364_0.out (by simp)); replace HK := am (ktk (pkK HK) hk); replace HB := am (hb); replace HI0 := am (hi); (try clear hb); (try clear hb2); (try clear hk); (try clear hi)))
 (try simp only [Act.put, List.setIfInBounds_toArray, List.set_cons_zero, List.set_cons_succ])
 go_cut [] (fun wc => ∃ (kq : Nat) (x365001_3 : Bool), Aside0 (spec_l1Cur_groups9.j0 kq s0_0 t366 t367 t357 x365001_3 t359 = some (r1, r2, r3, r4, r5, r6, r7)) ∧ Aside0 (kq ≤ k) ∧ Aside0 (Kd.V (Kd.int .i64) 3 wc w.heap.size (fun k_ => (w.heap.size ≤ k_) ∧ k_ ≠ gb356 ∧ k_ ≠ gb364 ∧ k_ ≠ g) (.slice Ao11 t359.length co11) t359) ∧ Aside0 (wc.heap[gb356]? = some (.cells #[.int .i64 0, .bool false, (.slice none 0 0)] 26 (0, 0))) ∧ Aside0 (wc.heap[gb364]? = some (.cells #[.int .i64 t357, .bool x365001_3, (.slice Ao11 t359.length co11)] 26 (0, 0))) ∧ Aside0 (IsS65 w0 wc g s0_0 t366 t367) ∧ Aside0 (KeepBut w wc g none) ∧ Aside0 (Below w0.heap.size w0 wc))
 case first =>
  have H := HC4.out
  clear HC4
  by_cases c13 : t365 = true
  ·subst c13
   rw [if_pos rfl] at H
   have H' := am H
   clear H
   go_wp2
   go_meet
   case rel => exact ⟨_, (t358), H', ⟨by first | omega | exact Nat.le_refl _⟩, ⟨by (with_reducible repeat (first | apply Kd.V_alloc | apply Kd.V_drewN | apply Kd.V_drew)); exact Kd.V_mono HO361.out (fun _ hk => ⟨hk.1.1, ⟨hk.1.2.1, ⟨hk.2, hk.1.2.2⟩⟩⟩)⟩, ⟨pkC BK356⟩, ⟨pkC BK364⟩, ⟨pkS65 HI0⟩, ⟨pkK HK⟩, ⟨pkBS65 HB⟩⟩
  ·replace c13 := Bool.eq_false_iff.mpr c13
   subst c13
   rw [if_neg (show ¬ (false = true) by decide)] at H
   have H' := am H
   clear H
   have hnb14 := NB364_356.out
   have hnc14 := NB356_364.out
   have hnb15 := NB364_0.out
   have hnc15 := NB0_364.out
   obtain ⟨hcz16_0, hcz16_1, hcz16_2⟩ := bc3 BK364.out
   obtain ⟨hfz16_0, hfz16_1, hfz16_2⟩ := bf3 BK364.out
   go_wp2
   go_meet
   case rel => exact ⟨_, (false), H', ⟨by first | omega | exact Nat.le_refl _⟩, ⟨by (with_reducible repeat (first | apply Kd.V_alloc | apply Kd.V_drewN | apply Kd.V_drew)); exact Kd.V_mono (Kd.V_far (p := ⟨gb364, 1, none⟩) (Kd.V_mono HO361.out (fun k_ hk => (⟨hk, hk.2⟩ : _ ∧ k_ ≠ gb364))) (fun _ hk => hk.2) (.bool false)) (fun _ hk => ⟨hk.1.1.1, ⟨hk.1.1.2.1, ⟨hk.1.2, hk.1.1.2.2⟩⟩⟩)⟩, ⟨by (with_reducible repeat (first | refine blk_drewN ?_ _ | refine blk_drew ?_ | refine blk_alloc ?_ _)); refine blk_far ?_ NB356_364.out _; (with_reducible repeat (first | refine blk_drewN ?_ _ | refine blk_drew ?_ | refine blk_alloc ?_ _)); exact BK356.out⟩, ⟨by (with_reducible repeat (first | refine blk_drewN ?_ _ | refine blk_drew ?_ | refine blk_alloc ?_ _)); refine blk_put (cs := #[.int .i64 t357, .bool t358, .slice Ao11 t359.length co11]) ?_ 1 _ rfl; (with_reducible repeat (first | refine blk_drewN ?_ _ | refine blk_drew ?_ | refine blk_alloc ?_ _)); exact BK364.out⟩, ⟨pkS65 HI0⟩, ⟨pkK HK⟩, ⟨pkBS65 HB⟩⟩
 case rest =>
  clear HC4
  try clear c1
  try clear p2
  try clear c3
  try clear c5
  try clear c8
  try clear c9
  try clear c13
  try clear c14
  try clear c15
  try clear hcz10_0
  try clear hcz10_1
  try clear hcz10_2
  try clear hcz16_0
  try clear hcz16_1
  try clear hcz16_2
  try clear hfz10_0
  try clear hfz10_1
  try clear hfz10_2
  try clear hfz16_0
  try clear hfz16_1
  try clear hfz16_2
  obtain ⟨kq, x365001_3, HA, HJ3, HO_365002, BK356, BK364, HI0, HK, HB⟩ := hcut
  cases kq with
  | zero => exact absurd HA.out (by simp [spec_l1Cur_groups9.j0])
  | succ kj3 =>
   have H := HA.out
   clear HA
   simp only [spec_l1Cur_groups9.j0] at H
   have HC17 := am H
   clear H
   go_upto_region 4 with (fail)
   go_cut [25] (fun v25 wc => ∃ (kq : Nat) (x25_16 : Bool) (x1001_16 : Int) (x1002_16 : Int), v25 = .bool x25_16 ∧ Aside0 (spec_l1Cur_groups9.j1 kq x25_16 s0_0 x1001_16 x1002_16 t357 x365001_3 t359 = some (r1, r2, r3, r4, r5, r6, r7)) ∧ Aside0 (kq ≤ kj3) ∧ Aside0 (Kd.V (Kd.int .i64) 3 wc w.heap.size (fun k_ => (w.heap.size ≤ k_) ∧ k_ ≠ gb356 ∧ k_ ≠ gb364 ∧ k_ ≠ g) (.slice Ao11 t359.length co11) t359) ∧ Aside0 (wc.heap[gb356]? = some (.cells #[.int .i64 0, .bool false, (.slice none 0 0)] 26 (0, 0))) ∧ Aside0 (wc.heap[gb364]? = some (.cells #[.int .i64 t357, .bool x365001_3, (.slice Ao11 t359.length co11)] 26 (0, 0))) ∧ Aside0 (IsS65 w0 wc g s0_0 x1001_16 x1002_16) ∧ Aside0 (KeepBut w wc g none) ∧ Aside0 (Below w0.heap.size w0 wc))
   case first =>
    have H := HC17.out
    clear HC17
    by_cases c18 : t357 > 12
    ·rw [if_pos c18] at H
     have c18b0 : decide (12 < t357) = true := decide_eq_true c18
     clear c18
     (first | rw [c18b0] | (simp only [i64_w, i32_w]; rw [c18b0]) | rw [c18b1] | skip)
     replace H := Option.bind_eq_some_iff.mp H
     obtain ⟨t368, A190, H⟩ := H
     try dsimp only at H
     have A19 := am A190
     clear A190
     by_cases c20 : t368 = true
     ·subst c20
      rw [if_pos rfl] at H
      replace H := Option.bind_eq_some_iff.mp H
      obtain ⟨⟨t369, t370, t371⟩, A210, H⟩ := H
      try dsimp only at H
      have A21 := am A210
      clear A210
      have H' := am H
      clear H
      have hnb22 := NB364_356.out
      have hnc22 := NB356_364.out
      have hnb23 := NB364_0.out
      have hnc23 := NB0_364.out
      obtain ⟨hcz24_0, hcz24_1, hcz24_2⟩ := bc3 BK364.out
      obtain ⟨hfz24_0, hfz24_1, hfz24_2⟩ := bf3 BK364.out
      go_wp2_with (first | (go_at_call 45; (with_reducible refine (spec_l2Row.calls kj3 t357 x365001_3 _ _ t359 true _ ?side1 ?side2 A19.out).mono ?_); (case side1 => repeat (first | exact (Kd.V_reads' HO_365002.out).2.2 | (with_reducible refine Kd.C_alloc ?_ _) | (with_reducible refine Kd.C_drewN ?_ _) | (with_reducible refine Kd.C_drew ?_))); (case side2 => exact (Kd.V_reads' HO_365002.out).2.1); rintro e w25 ⟨rfl, hb⟩; replace HO_365002 := am (Kd.V_below (pk HO_365002) hb); replace BK356 := am (blk_below (pkC BK356) hb); replace BK364 := am (blk_below (pkC BK364) hb); replace HI0 := am (IsS65.below (pkS65 HI0) hb); replace HK := am (ktb (pkK HK) hb); replace HB := am (below_step (pkBS65 HB) hb); (try clear hb); (try clear hb2); (try clear hk); (try clear hi)) | (go_at_call 38; (with_reducible refine (spec_l1Cur_one.calls g s0_0 t366 t367 8 t369 t370 t371 w0 _ ?side1 ?side2 A21.out).mono ?_); (case side1 => exact pkS65 HI0); (case side2 => exact pkBS65 HB); rintro e w26 ⟨rfl, hi, hb, hk⟩; replace HO_365002 := am (Kd.V_mono (Kd.V_keep (Kd.V_mono (ok := fun k_ => (((w.heap.size ≤ k_)) ∧ (k_ ≠ gb356 ∧ (k_ ≠ gb364 ∧ k_ ≠ g)))) (pk HO_365002) (fun k_ hk_ => (⟨hk_, hk_.2.2.2⟩ : _ ∧ k_ ≠ g))) hk (fun _ h => h.2)) (fun _ h => h.1)); replace BK356 := am (KeepBut.blk hk (pkC BK356) NB356_0.out (by simp)); replace BK364 := am (KeepBut.blk hk (pkC BK364) NB364_0.out (by simp)); replace HK := am (ktk (pkK HK) hk); replace HB := am (hb); replace HI0 := am (hi); (try clear hb); (try clear hb2); (try clear hk); (try clear hi)))
      go_meet
      case rel => exact ⟨_, (!t369), (t370), (t371), (by first | rfl | (simp; done) | (simp [*]; done)), H', ⟨by have := HJ3.out; first | omega | exact Nat.le_refl _⟩, ⟨by (with_reducible repeat (first | apply Kd.V_alloc | apply Kd.V_drewN | apply Kd.V_drew)); exact HO_365002.out⟩, ⟨pkC BK356⟩, ⟨pkC BK364⟩, ⟨pkS65 HI0⟩, ⟨pkK HK⟩, ⟨pkBS65 HB⟩⟩
     ·replace c20 := Bool.eq_false_iff.mpr c20
      subst c20
      rw [if_neg (show ¬ (false = true) by decide)] at H
      have H' := am H
      clear H
      have hnb27 := NB364_356.out
      have hnc27 := NB356_364.out
      have hnb28 := NB364_0.out
      have hnc28 := NB0_364.out
      obtain ⟨hcz29_0, hcz29_1, hcz29_2⟩ := bc3 BK364.out
      obtain ⟨hfz29_0, hfz29_1, hfz29_2⟩ := bf3 BK364.out
      go_wp2_with (first | (go_at_call 45; (with_reducible refine (spec_l2Row.calls kj3 t357 x365001_3 _ _ t359 false _ ?side1 ?side2 A19.out).mono ?_); (case side1 => repeat (first | exact (Kd.V_reads' HO_365002.out).2.2 | (with_reducible refine Kd.C_alloc ?_ _) | (with_reducible refine Kd.C_drewN ?_ _) | (with_reducible refine Kd.C_drew ?_))); (case side2 => exact (Kd.V_reads' HO_365002.out).2.1); rintro e w30 ⟨rfl, hb⟩; replace HO_365002 := am (Kd.V_below (pk HO_365002) hb); replace BK356 := am (blk_below (pkC BK356) hb); replace BK364 := am (blk_below (pkC BK364) hb); replace HI0 := am (IsS65.below (pkS65 HI0) hb); replace HK := am (ktb (pkK HK) hb); replace HB := am (below_step (pkBS65 HB) hb); (try clear hb); (try clear hb2); (try clear hk); (try clear hi)))
      go_meet
      case rel => exact ⟨_, (false), (t366), (t367), (by first | rfl | (simp; done) | (simp [*]; done)), H', ⟨by have := HJ3.out; first | omega | exact Nat.le_refl _⟩, ⟨by (with_reducible repeat (first | apply Kd.V_alloc | apply Kd.V_drewN | apply Kd.V_drew)); exact HO_365002.out⟩, ⟨pkC BK356⟩, ⟨pkC BK364⟩, ⟨pkS65 HI0⟩, ⟨pkK HK⟩, ⟨pkBS65 HB⟩⟩
    ·rw [if_neg c18] at H
     have c18b0 : decide (12 < t357) = false := decide_eq_false c18
     clear c18
     (first | rw [c18b0] | (simp only [i64_w, i32_w]; rw [c18b0]) | rw [c18b1] | skip)
     have H' := am H
     clear H
     have hnb31 := NB364_356.out
     have hnc31 := NB356_364.out
     have hnb32 := NB364_0.out
     have hnc32 := NB0_364.out
     obtain ⟨hcz33_0, hcz33_1, hcz33_2⟩ := bc3 BK364.out
     obtain ⟨hfz33_0, hfz33_1, hfz33_2⟩ := bf3 BK364.out
     go_wp2
     go_meet
     case rel => exact ⟨_, (false), (t366), (t367), (by first | rfl | (simp; done) | (simp [*]; done)), H', ⟨by have := HJ3.out; first | omega | exact Nat.le_refl _⟩, ⟨by (with_reducible repeat (first | apply Kd.V_alloc | apply Kd.V_drewN | apply Kd.V_drew)); exact HO_365002.out⟩, ⟨pkC BK356⟩, ⟨pkC BK364⟩, ⟨pkS65 HI0⟩, ⟨pkK HK⟩, ⟨pkBS65 HB⟩⟩
   case rest =>
    clear HC17
    try clear c1
    try clear c2
    try clear p2
    try clear c3
    try clear c5
    try clear c8
    try clear c9
    try clear c13
    try clear c14
    try clear c15
    try clear c18
    try clear c18b0
    try clear c18b1
    try clear c20
    try clear c22
    try clear c23
    try clear c27
    try clear c28
    try clear c31
    try clear c32
    try clear hcz10_0
    try clear hcz10_1
    try clear hcz10_2
    try clear hcz16_0
    try clear hcz16_1
    try clear hcz16_2
    try clear hcz24_0
    try clear hcz24_1
    try clear hcz24_2
    try clear hcz29_0
    try clear hcz29_1
    try clear hcz29_2
    try clear hcz33_0
    try clear hcz33_1
    try clear hcz33_2
    try clear hfz10_0
    try clear hfz10_1
    try clear hfz10_2
    try clear hfz16_0
    try clear hfz16_1
    try clear hfz16_2
    try clear hfz24_0
    try clear hfz24_1
    try clear hfz24_2
    try clear hfz29_0
    try clear hfz29_1
    try clear hfz29_2
    try clear hfz33_0
    try clear hfz33_1
    try clear hfz33_2
    try clear p2
    obtain ⟨kq, x25_16, x1001_16, x1002_16, rfl, HA, HJ16, HO_365002, BK356, BK364, HI0, HK, HB⟩ := hcut
    cases kq with
    | zero => exact absurd HA.out (by simp [spec_l1Cur_groups9.j1])
    | succ kj16 =>
     have H := HA.out
     clear HA
     simp only [spec_l1Cur_groups9.j1] at H
     have HC34 := am H
     clear H
     go_upto_if 25 with (fail)
     go_cut [] (fun wc => ∃ (kq : Nat) (x365000_33 : Int) (x365001_33 : Bool) (x365002_33 : List Int) (u365002 : Value), Aside0 (spec_l1Cur_groups9.j2 kq s0_0 x1001_16 x1002_16 x365000_33 x365001_33 x365002_33 = some (r1, r2, r3, r4, r5, r6, r7)) ∧ Aside0 (kq ≤ kj16) ∧ Aside0 (Kd.V (Kd.int .i64) 3 wc w.heap.size (fun k_ => (w.heap.size ≤ k_) ∧ k_ ≠ gb356 ∧ k_ ≠ gb364 ∧ k_ ≠ g) u365002 x365002_33) ∧ Aside0 (wc.heap[gb356]? = some (.cells #[.int .i64 0, .bool false, (.slice none 0 0)] 26 (0, 0))) ∧ Aside0 (wc.heap[gb364]? = some (.cells #[.int .i64 x365000_33, .bool x365001_33, u365002] 26 (0, 0))) ∧ Aside0 (IsS65 w0 wc g s0_0 x1001_16 x1002_16) ∧ Aside0 (KeepBut w wc g none) ∧ Aside0 (Below w0.heap.size w0 wc))
     case first =>
      have H := HC34.out
      clear HC34
      by_cases c35 : x25_16 = true
      ·subst c35
       rw [if_pos rfl] at H
       obtain ⟨y372, hy372⟩ : ∃ y_ : List Int, y_ = (([] : List Int)) := ⟨_, rfl⟩
       replace H : (spec_l1Cur_groups9.j2 kj16 s0_0 x1001_16 x1002_16 12 false y372) = some (r1, r2, r3, r4, r5, r6, r7) := by first | (rw [hy372]; with_reducible exact H) | (have H2_ := (Option.bind_some _ _).symm.trans H; rw [hy372]; with_reducible exact H2_) | (have H2_ := (Option.bind_some _ _).symm.trans H; with_reducible exact H2_) | with_reducible exact H | (rw [hy372]; exact H) | exact H
       have Ny372 := am hy372
       clear hy372
       have H' := am H
       clear H
       go_wp2_with (first | ((with_reducible refine gate_dst (N := 26) rfl ?_); refine Kd.R_lit (Kd.int .i64) _ 3 ?hg (N := 26) ?hd (xs := ([] : List Int)) (inner := []) (ok := fun _ => True) (okp := fun _ => True) ?hr ?hp (fun _ hk => hk) trivial (Below.refl _ _) (Nat.le_refl _) (by simp) ?_; (case hd => rfl); (case hg => rfl); (case hr => first | (go_simp; done) | (go_simp; rfl)); (case hp => exact (Reps.none _ _)); intro v373 w36 ho37 hb hg_ hnew_; clear hg_ hnew_; (first | rw [← Ny372.out] at ho37 | (simp only [Int.reduceToNat] at ho37; rw [← Ny372.out] at ho37)); have HO374 := am (Kd.R_lower (Kd.R_newM (M := fun k_ => (w.heap.size ≤ k_)) ho37 (keep_size (pkK HK)) (fun k_ h_ => h_)) (keep_size (pkK HK))); replace HO_365002 := am (Kd.V_elder' (pk HO_365002) (Kd.R_base ho37) hb); replace BK356 := am (blk_below (pkC BK356) hb); replace BK364 := am (blk_below (pkC BK364) hb); replace HI0 := am (IsS65.below (pkS65 HI0) hb); replace HK := am (ktb (pkK HK) hb); replace HB := am (below_step (pkBS65 HB) hb); clear hb ho37; obtain ⟨Ao38, co38, eo38⟩ := Kd.R_slice HO374.out; subst eo38; have hnb39 := NB364_356.out; have hnc39 := NB356_364.out; have hnb40 := NB364_0.out; have hnc40 := NB0_364.out; obtain ⟨hcz41_0, hcz41_1, hcz41_2⟩ := bc3 BK364.out; obtain ⟨hfz41_0, hfz41_1, hfz41_2⟩ := bf3 BK364.out))
       go_meet
       case rel => exact ⟨_, (12), (false), (y372), (.slice Ao38 y372.length co38), H', ⟨by have := HJ3.out; have := HJ16.out; first | omega | exact Nat.le_refl _⟩, ⟨Kd.R_V (by (with_reducible repeat (first | apply Kd.R_alloc | apply Kd.R_drewN | apply Kd.R_drew)); exact Kd.R_mono (Kd.R_far (p := ⟨gb364, 2, none⟩) (Kd.R_far (p := ⟨gb364, 1, none⟩) (Kd.R_far (p := ⟨gb364, 0, none⟩) (Kd.R_types (IsS65.apart HI0.out (Kd.R_types (Kd.R_types HO374.out BK356.out (by decide)) BK364.out (by decide)) (by decide)) BK364.out (by decide)) (fun _ hk => hk.2) (.int .i64 12)) (fun _ hk => hk.2) (.bool false)) (fun _ hk => hk.2) (.slice Ao38 y372.length co38)) (fun _ hk => ⟨hk.1.1.1.1.1, ⟨hk.1.1.1.2, ⟨hk.1.1.2, hk.1.2⟩⟩⟩))⟩, ⟨by (with_reducible repeat (first | refine blk_drewN ?_ _ | refine blk_drew ?_ | refine blk_alloc ?_ _)); refine blk_far ?_ NB356_364.out _; (with_reducible repeat (first | refine blk_drewN ?_ _ | refine blk_drew ?_ | refine blk_alloc ?_ _)); refine blk_far ?_ NB356_364.out _; (with_reducible repeat (first | refine blk_drewN ?_ _ | refine blk_drew ?_ | refine blk_alloc ?_ _)); refine blk_far ?_ NB356_364.out _; (with_reducible repeat (first | refine blk_drewN ?_ _ | refine blk_drew ?_ | refine blk_alloc ?_ _)); exact BK356.out⟩, ⟨by (with_reducible repeat (first | refine blk_drewN ?_ _ | refine blk_drew ?_ | refine blk_alloc ?_ _)); refine blk_put (cs := #[.int .i64 12, .bool false, .slice Ao11 t359.length co11]) ?_ 2 _ rfl; (with_reducible repeat (first | refine blk_drewN ?_ _ | refine blk_drew ?_ | refine blk_alloc ?_ _)); refine blk_put (cs := #[.int .i64 12, .bool x365001_3, .slice Ao11 t359.length co11]) ?_ 1 _ rfl; (with_reducible repeat (first | refine blk_drewN ?_ _ | refine blk_drew ?_ | refine blk_alloc ?_ _)); refine blk_put (cs := #[.int .i64 t357, .bool x365001_3, .slice Ao11 t359.length co11]) ?_ 0 _ rfl; (with_reducible repeat (first | refine blk_drewN ?_ _ | refine blk_drew ?_ | refine blk_alloc ?_ _)); exact BK364.out⟩, ⟨pkS65 HI0⟩, ⟨pkK HK⟩, ⟨pkBS65 HB⟩⟩
      ·replace c35 := Bool.eq_false_iff.mpr c35
       subst c35
       rw [if_neg (show ¬ (false = true) by decide)] at H
       have H' := am H
       clear H
       go_wp2
       go_meet
       case rel => exact ⟨_, (t357), (x365001_3), (t359), (.slice Ao11 t359.length co11), H', ⟨by have := HJ3.out; have := HJ16.out; first | omega | exact Nat.le_refl _⟩, ⟨by (with_reducible repeat (first | apply Kd.V_alloc | apply Kd.V_drewN | apply Kd.V_drew)); exact HO_365002.out⟩, ⟨pkC BK356⟩, ⟨pkC BK364⟩, ⟨pkS65 HI0⟩, ⟨pkK HK⟩, ⟨pkBS65 HB⟩⟩
     case rest =>
      clear HC34
      try clear c1
      try clear c2
      try clear p2
      try clear c3
      try clear c4
      try clear c5
      try clear c8
      try clear c9
      try clear c13
      try clear c14
      try clear c15
      try clear c18
      try clear c18b0
      try clear c18b1
      try clear c20
      try clear c22
      try clear c23
      try clear c27
      try clear c28
      try clear c31
      try clear c32
      try clear c35
      try clear c37
      try clear c38
      try clear c39
      try clear c40
      try clear hcz10_0
      try clear hcz10_1
      try clear hcz10_2
      try clear hcz16_0
      try clear hcz16_1
      try clear hcz16_2
      try clear hcz24_0
      try clear hcz24_1
      try clear hcz24_2
      try clear hcz29_0
      try clear hcz29_1
      try clear hcz29_2
      try clear hcz33_0
      try clear hcz33_1
      try clear hcz33_2
      try clear hcz41_0
      try clear hcz41_1
      try clear hcz41_2
      try clear hfz10_0
      try clear hfz10_1
      try clear hfz10_2
      try clear hfz16_0
      try clear hfz16_1
      try clear hfz16_2
      try clear hfz24_0
      try clear hfz24_1
      try clear hfz24_2
      try clear hfz29_0
      try clear hfz29_1
      try clear hfz29_2
      try clear hfz33_0
      try clear hfz33_1
      try clear hfz33_2
      try clear hfz41_0
      try clear hfz41_1
      try clear hfz41_2
      try clear p2
      obtain ⟨kq, x365000_33, x365001_33, x365002_33, u365002, HA, HJ33, HO_365002, BK356, BK364, HI0, HK, HB⟩ := hcut
      cases kq with
      | zero => exact absurd HA.out (by simp [spec_l1Cur_groups9.j2])
      | succ kj33 =>
       have H := HA.out
       clear HA
       simp only [spec_l1Cur_groups9.j2] at H
       obtain ⟨y375, hy375⟩ : ∃ y_ : List Int, y_ = (([] : List Int)) := ⟨_, rfl⟩
       replace H : ((spec_l1Cur_among.f s0_0 x1001_16 x1002_16 (([2, 3, 1, 2] : List Int))).bind fun bt381 => (spec_l1Cur_groups9.l0 kj33 y375 bt381.1 s0_0 bt381.2.1 bt381.2.2 x365000_33 x365001_33 x365002_33)) = some (r1, r2, r3, r4, r5, r6, r7) := by first | (rw [hy375]; with_reducible exact H) | (have H2_ := (Option.bind_some _ _).symm.trans H; rw [hy375]; with_reducible exact H2_) | (have H2_ := (Option.bind_some _ _).symm.trans H; with_reducible exact H2_) | with_reducible exact H | (rw [hy375]; exact H) | exact H
       have Ny375 := am hy375
       clear hy375
       obtain ⟨y378, hy378⟩ : ∃ y_ : List Int, y_ = (([2, 3, 1, 2] : List Int)) := ⟨_, rfl⟩
       replace H : ((spec_l1Cur_among.f s0_0 x1001_16 x1002_16 y378).bind fun bt381 => (spec_l1Cur_groups9.l0 kj33 y375 bt381.1 s0_0 bt381.2.1 bt381.2.2 x365000_33 x365001_33 x365002_33)) = some (r1, r2, r3, r4, r5, r6, r7) := by first | (rw [hy378]; with_reducible exact H) | (have H2_ := (Option.bind_some _ _).symm.trans H; rw [hy378]; with_reducible exact H2_) | (have H2_ := (Option.bind_some _ _).symm.trans H; with_reducible exact H2_) | with_reducible exact H | (rw [hy378]; exact H) | exact H
       have Ny378 := am hy378
       clear hy378
       replace H := Option.bind_eq_some_iff.mp H
       obtain ⟨⟨t381, t382, t383⟩, A420, H⟩ := H
       try dsimp only at H
       have A42 := am A420
       clear A420
       have H' := am H
       clear H
       go_wp2_with (first | ((with_reducible refine gate_dst (N := 28) rfl ?_); refine Kd.R_lit (Kd.int .i64) _ 3 ?hg (N := 28) ?hd (xs := ([] : List Int)) (inner := []) (ok := fun _ => True) (okp := fun _ => True) ?hr ?hp (fun _ hk => hk) trivial (Below.refl _ _) (Nat.le_refl _) (by simp) ?_; (case hd => rfl); (case hg => rfl); (case hr => first | (go_simp; done) | (go_simp; rfl)); (case hp => exact (Reps.none _ _)); intro v376 w43 ho44 hb hg_ hnew_; clear hg_ hnew_; (first | rw [← Ny375.out] at ho44 | (simp only [Int.reduceToNat] at ho44; rw [← Ny375.out] at ho44)); have HO377 := am (Kd.R_lower (Kd.R_newM (M := fun k_ => (w.heap.size ≤ k_)) ho44 (keep_size (pkK HK)) (fun k_ h_ => h_)) (keep_size (pkK HK))); replace HO_365002 := am (Kd.V_elder' (pk HO_365002) (Kd.R_base ho44) hb); replace BK356 := am (blk_below (pkC BK356) hb); replace BK364 := am (blk_below (pkC BK364) hb); replace HI0 := am (IsS65.below (pkS65 HI0) hb); replace HK := am (ktb (pkK HK) hb); replace HB := am (below_step (pkBS65 HB) hb); clear hb ho44) | ((with_reducible refine gate_dst (N := 30) rfl ?_); refine Kd.R_lit (Kd.int .i64) _ 3 ?hg (N := 30) ?hd (xs := ([2, 3, 1, 2] : List Int)) (inner := [.int .i64 2, .int .i64 3, .int .i64 1, .int .i64 2]) (ok := fun _ => True) (okp := fun _ => True) ?hr ?hp (fun _ hk => hk) trivial (Below.refl _ _) (Nat.le_refl _) (by simp) ?_; (case hd => rfl); (case hg => rfl); (case hr => first | (go_simp; done) | (go_simp; rfl)); (case hp => exact (Reps.one (show Kd.M (Kd.int .i64) _ _ _ 2 [.int .i64 2] from rfl) (Reps.one (show Kd.M (Kd.int .i64) _ _ _ 3 [.int .i64 3] from rfl) (Reps.one (show Kd.M (Kd.int .i64) _ _ _ 1 [.int .i64 1] from rfl) (Reps.one (show Kd.M (Kd.int .i64) _ _ _ 2 [.int .i64 2] from rfl) (Reps.none _ _)))))); intro v379 w45 ho46 hb hg_ hnew_; clear hg_ hnew_; (first | rw [← Ny378.out] at ho46 | (simp only [Int.reduceToNat] at ho46; rw [← Ny378.out] at ho46)); have HO380 := am (Kd.R_lower (Kd.R_new' (Kd.R_newM (M := fun k_ => (w.heap.size ≤ k_)) ho46 (keep_size (pkK HK)) (fun k_ h_ => h_)) (Kd.R_lt (pk HO377))) (keep_size (pkK HK))); replace HO_365002 := am (Kd.V_elder' (pk HO_365002) (Kd.R_base ho46) hb); replace HO377 := am (Kd.R_elder' (pk HO377) (Kd.R_base ho46) hb); replace BK356 := am (blk_below (pkC BK356) hb); replace BK364 := am (blk_below (pkC BK364) hb); replace HI0 := am (IsS65.below (pkS65 HI0) hb); replace HK := am (ktb (pkK HK) hb); replace HB := am (below_step (pkBS65 HB) hb); clear hb ho46; obtain ⟨Ao47, co47, eo47⟩ := Kd.R_slice HO380.out; subst eo47) | (go_at_call 51; (with_reducible refine (spec_l1Cur_among.calls g s0_0 x1001_16 x1002_16 _ _ y378 t381 t382 t383 w0 _ ?side1 ?side2 ?side3 ?side4 ?side5 A42.out).mono ?_); (case side1 => exact pkS65 HI0); (case side2 => exact pkBS65 HB); (case side3 => repeat (first | exact (Kd.R_reads' HO380.out).2.2 | (with_reducible refine Kd.C_alloc ?_ _) | (with_reducible refine Kd.C_drewN ?_ _) | (with_reducible refine Kd.C_drew ?_))); (case side4 => exact (Kd.R_reads' HO380.out).2.1); (case side5 => exact far_slice (IsS65.own_ne HI0.out HO380.out (by decide))); rintro e w48 ⟨rfl, hi, hb, hk⟩; replace HO_365002 := am (Kd.V_mono (Kd.V_keep (Kd.V_mono (ok := fun k_ => (((((w.heap.size ≤ k_)) ∧ (k_ ≠ gb356 ∧ (k_ ≠ gb364 ∧ k_ ≠ g))) ∧ some k_ ≠ (v376 : Value).ownBlock) ∧ some k_ ≠ (.slice Ao47 y378.length co47 : Value).ownBlock)) (pk HO_365002) (fun k_ hk_ => (⟨hk_, hk_.1.1.2.2.2⟩ : _ ∧ k_ ≠ g))) hk (fun _ h => h.2)) (fun _ h => h.1)); replace BK356 := am (KeepBut.blk hk (pkC BK356) NB356_0.out (by simp)); replace BK364 := am (KeepBut.blk hk (pkC BK364) NB364_0.out (by simp)); replace HO377 := am (Kd.R_mono (Kd.R_keep (IsS65.apart (pkS65 HI0) (pk HO377) (by decide)) hk (fun _ h => h.2)) (fun _ h => h.1)); replace HO380 := am (Kd.R_mono (Kd.R_keep (IsS65.apart (pkS65 HI0) (pk HO380) (by decide)) hk (fun _ h => h.2)) (fun _ h => h.1)); replace HK := am (ktk (pkK HK) hk); replace HB := am (hb); replace HI0 := am (hi); (try clear hb); (try clear hb2); (try clear hk); (try clear hi)))
       go_loopg [6, 7] kj33 (fun kq v6 v7 w' => ∃ (x6_4 : List Int) (x7_4 : Int) (x1001_4 : Int) (x1002_4 : Int), v7 = .int .i64 x7_4 ∧ Aside0 (spec_l1Cur_groups9.l0 kq x6_4 x7_4 s0_0 x1001_4 x1002_4 x365000_33 x365001_33 x365002_33 = some (r1, r2, r3, r4, r5, r6, r7)) ∧ Aside0 (kq ≤ kj33) ∧ Aside0 (Kd.R (Kd.int .i64) 3 w' w.heap.size (fun k_ => (w.heap.size ≤ k_)) v6 x6_4) ∧ Aside0 (Kd.V (Kd.int .i64) 3 w' w.heap.size (fun k_ => (w.heap.size ≤ k_) ∧ some k_ ≠ (v6 : Value).ownBlock ∧ k_ ≠ gb356 ∧ k_ ≠ gb364 ∧ k_ ≠ g) u365002 x365002_33) ∧ Aside0 (w'.heap[gb356]? = some (.cells #[.int .i64 0, .bool false, (.slice none 0 0)] 26 (0, 0))) ∧ Aside0 (w'.heap[gb364]? = some (.cells #[.int .i64 x365000_33, .bool x365001_33, u365002] 26 (0, 0))) ∧ Aside0 (IsS65 w0 w' g s0_0 x1001_4 x1002_4) ∧ Aside0 (KeepBut w w' g none) ∧ Aside0 (Below w0.heap.size w0 w'))
       case atStart => exact ⟨(y375), (t381), (t382), (t383), (by first | rfl | (simp; done) | (simp [*]; done)), H', ⟨Nat.le_refl _⟩, ⟨by (with_reducible repeat (first | apply Kd.R_alloc | apply Kd.R_drewN | apply Kd.R_drew)); exact Kd.R_mono HO377.out (fun _ hk => hk.1.1)⟩, ⟨by (with_reducible repeat (first | apply Kd.V_alloc | apply Kd.V_drewN | apply Kd.V_drew)); exact Kd.V_mono HO_365002.out (fun _ hk => ⟨hk.1.1.1, ⟨hk.1.2, ⟨hk.1.1.2.1, ⟨hk.1.1.2.2.1, hk.1.1.2.2.2⟩⟩⟩⟩)⟩, ⟨pkC BK356⟩, ⟨pkC BK364⟩, ⟨pkS65 HI0⟩, ⟨pkK HK⟩, ⟨pkBS65 HB⟩⟩
       case round =>
        clear H'
        try clear c1
        try clear c2
        try clear p2
        try clear c3
        try clear c4
        try clear c5
        try clear c8
        try clear c9
        try clear c13
        try clear c14
        try clear c15
        try clear c18
        try clear c18b0
        try clear c18b1
        try clear c20
        try clear c22
        try clear c23
        try clear c27
        try clear c28
        try clear c31
        try clear c32
        try clear c35
        try clear c37
        try clear c38
        try clear c39
        try clear c40
        try clear hcz10_0
        try clear hcz10_1
        try clear hcz10_2
        try clear hcz16_0
        try clear hcz16_1
        try clear hcz16_2
        try clear hcz24_0
        try clear hcz24_1
        try clear hcz24_2
        try clear hcz29_0
        try clear hcz29_1
        try clear hcz29_2
        try clear hcz33_0
        try clear hcz33_1
        try clear hcz33_2
        try clear hcz41_0
        try clear hcz41_1
        try clear hcz41_2
        try clear hfz10_0
        try clear hfz10_1
        try clear hfz10_2
        try clear hfz16_0
        try clear hfz16_1
        try clear hfz16_2
        try clear hfz24_0
        try clear hfz24_1
        try clear hfz24_2
        try clear hfz29_0
        try clear hfz29_1
        try clear hfz29_2
        try clear hfz33_0
        try clear hfz33_1
        try clear hfz33_2
        try clear hfz41_0
        try clear hfz41_1
        try clear hfz41_2
        try clear p2
        obtain ⟨x6_4, x7_4, x1001_4, x1002_4, rfl, HA, HK4, HO_6, HO_365002, BK356, BK364, HI0, HK, HB⟩ := hrel
        cases gk with
        | zero => exact absurd HA.out (by simp [spec_l1Cur_groups9.l0])
        | succ k4 =>
         have H := HA.out
         clear HA
         simp only [spec_l1Cur_groups9.l0] at H
         by_cases c49 : x7_4 > 0
         ·rw [if_pos c49] at H
          have c49b0 : decide (0 < x7_4) = true := decide_eq_true c49
          clear c49
          obtain ⟨y384, hy384⟩ : ∃ y_ : List Int, y_ = (([1, 2, 3, 1, 4] : List Int)) := ⟨_, rfl⟩
          replace H : ((spec_l1Cur_among.f s0_0 x1001_4 x1002_4 y384).bind fun bt387 => (if x6_4.length < 17592186044416 then (spec_l1Cur_groups9.l0 k4 (x6_4 ++ [bt387.1]) (wrap64 (x7_4 - 1)) s0_0 bt387.2.1 bt387.2.2 x365000_33 x365001_33 x365002_33) else (none))) = some (r1, r2, r3, r4, r5, r6, r7) := by first | (rw [hy384]; with_reducible exact H) | (have H2_ := (Option.bind_some _ _).symm.trans H; rw [hy384]; with_reducible exact H2_) | (have H2_ := (Option.bind_some _ _).symm.trans H; with_reducible exact H2_) | with_reducible exact H | (rw [hy384]; exact H) | exact H
          have Ny384 := am hy384
          clear hy384
          replace H := Option.bind_eq_some_iff.mp H
          obtain ⟨⟨t387, t388, t389⟩, A500, H⟩ := H
          try dsimp only at H
          have A50 := am A500
          clear A500
          by_cases c51 : x6_4.length < 17592186044416
          ·rw [if_pos c51] at H
           have LMc51 := am c51
           clear c51
           obtain ⟨y390, hy390⟩ : ∃ y_ : List Int, y_ = (x6_4 ++ [t387]) := ⟨_, rfl⟩
           replace H : (spec_l1Cur_groups9.l0 k4 y390 (wrap64 (x7_4 - 1)) s0_0 t388 t389 x365000_33 x365001_33 x365002_33) = some (r1, r2, r3, r4, r5, r6, r7) := by first | (rw [hy390]; with_reducible exact H) | (have H2_ := (Option.bind_some _ _).symm.trans H; rw [hy390]; with_reducible exact H2_) | (have H2_ := (Option.bind_some _ _).symm.trans H; with_reducible exact H2_) | with_reducible exact H | (rw [hy390]; exact H) | exact H
           have Ny390 := am hy390
           clear hy390
           have H' := am H
           clear H
           go_wp2_with (first | ((with_reducible refine gate_dst (N := 38) rfl ?_); refine Kd.R_lit (Kd.int .i64) _ 3 ?hg (N := 38) ?hd (xs := ([1, 2, 3, 1, 4] : List Int)) (inner := [.int .i64 1, .int .i64 2, .int .i64 3, .int .i64 1, .int .i64 4]) (ok := fun _ => True) (okp := fun _ => True) ?hr ?hp (fun _ hk => hk) trivial (Below.refl _ _) (Nat.le_refl _) (by simp) ?_; (case hd => rfl); (case hg => rfl); (case hr => first | (go_simp; done) | (go_simp; rfl)); (case hp => exact (Reps.one (show Kd.M (Kd.int .i64) _ _ _ 1 [.int .i64 1] from rfl) (Reps.one (show Kd.M (Kd.int .i64) _ _ _ 2 [.int .i64 2] from rfl) (Reps.one (show Kd.M (Kd.int .i64) _ _ _ 3 [.int .i64 3] from rfl) (Reps.one (show Kd.M (Kd.int .i64) _ _ _ 1 [.int .i64 1] from rfl) (Reps.one (show Kd.M (Kd.int .i64) _ _ _ 4 [.int .i64 4] from rfl) (Reps.none _ _))))))); intro v385 w52 ho53 hb hg_ hnew_; clear hg_ hnew_; (first | rw [← Ny384.out] at ho53 | (simp only [Int.reduceToNat] at ho53; rw [← Ny384.out] at ho53)); have HO386 := am (Kd.R_lower (Kd.R_new' (Kd.R_newM (M := fun k_ => (w.heap.size ≤ k_)) ho53 (keep_size (pkK HK)) (fun k_ h_ => h_)) (Kd.R_lt (pk HO_6))) (keep_size (pkK HK))); replace HO_6 := am (Kd.R_elder' (pk HO_6) (Kd.R_base ho53) hb); replace HO_365002 := am (Kd.V_elder' (pk HO_365002) (Kd.R_base ho53) hb); replace BK356 := am (blk_below (pkC BK356) hb); replace BK364 := am (blk_below (pkC BK364) hb); replace HI0 := am (IsS65.below (pkS65 HI0) hb); replace HK := am (ktb (pkK HK) hb); replace HB := am (below_step (pkBS65 HB) hb); clear hb ho53; obtain ⟨Ao54, co54, eo54⟩ := Kd.R_slice HO386.out; subst eo54) | (go_at_call 51; (with_reducible refine (spec_l1Cur_among.calls g s0_0 x1001_4 x1002_4 _ _ y384 t387 t388 t389 w0 _ ?side1 ?side2 ?side3 ?side4 ?side5 A50.out).mono ?_); (case side1 => exact pkS65 HI0); (case side2 => exact pkBS65 HB); (case side3 => repeat (first | exact (Kd.R_reads' HO386.out).2.2 | (with_reducible refine Kd.C_alloc ?_ _) | (with_reducible refine Kd.C_drewN ?_ _) | (with_reducible refine Kd.C_drew ?_))); (case side4 => exact (Kd.R_reads' HO386.out).2.1); (case side5 => exact far_slice (IsS65.own_ne HI0.out HO386.out (by decide))); rintro e w55 ⟨rfl, hi, hb, hk⟩; replace HO_6 := am (Kd.R_mono (Kd.R_keep (IsS65.apart (pkS65 HI0) (pk HO_6) (by decide)) hk (fun _ h => h.2)) (fun _ h => h.1)); replace HO_365002 := am (Kd.V_mono (Kd.V_keep (Kd.V_mono (ok := fun k_ => ((((w.heap.size ≤ k_)) ∧ (some k_ ≠ (u6 : Value).ownBlock ∧ (k_ ≠ gb356 ∧ (k_ ≠ gb364 ∧ k_ ≠ g)))) ∧ some k_ ≠ (.slice Ao54 y384.length co54 : Value).ownBlock)) (pk HO_365002) (fun k_ hk_ => (⟨hk_, hk_.1.2.2.2.2⟩ : _ ∧ k_ ≠ g))) hk (fun _ h => h.2)) (fun _ h => h.1)); replace BK356 := am (KeepBut.blk hk (pkC BK356) NB356_0.out (by simp)); replace BK364 := am (KeepBut.blk hk (pkC BK364) NB364_0.out (by simp)); replace HO386 := am (Kd.R_mono (Kd.R_keep (IsS65.apart (pkS65 HI0) (pk HO386) (by decide)) hk (fun _ h => h.2)) (fun _ h => h.1)); replace HK := am (ktk (pkK HK) hk); replace HB := am (hb); replace HI0 := am (hi); (try clear hb); (try clear hb2); (try clear hk); (try clear hi)) | ((with_reducible refine gate_builtin (b := .append) (xs := #[.tmp 36, .tmp 40]) rfl ?_); at_builtin; refine Kd.R_append (Kd.int .i64) w.heap.size rfl (.tmp 36) (.tmp 40) 24 3 (.int .i64 0) 8 rfl Tryd.underlying24 info3 rfl (by decide) (by omega) u6 x6_4 t387 [.int .i64 t387] (fun k_ => (w.heap.size ≤ k_) ∧ some k_ ≠ (.slice Ao54 y384.length co54 : Value).ownBlock) (fun _ => False) rfl rfl ?aP (fun _ hk => hk.elim) ?aF ?aO (Below.refl _ _) ?aS ?aL ?_; (case aP => exact rfl); (case aF => exact (fun k_ hk => ⟨(Nat.le_trans (keep_size (pkK HK)) hk), Kd.fresh' (Kd.R_lt (pk HO386)) k_ hk⟩)); (case aO => exact (pk HO_6)); (case aS => exact (keep_size (pkK HK))); (case aL => have := LMc51.out; omega); intro v391 w56 ho hb hg hat; rw [← Ny390.out] at ho; have HO392 := am (ho); replace HO_365002 := am (Kd.V_afterv (ok := (fun k_ => (w.heap.size ≤ k_) ∧ some k_ ≠ (.slice Ao54 y384.length co54 : Value).ownBlock ∧ k_ ≠ gb356 ∧ k_ ≠ gb364 ∧ k_ ≠ g)) (by (with_reducible repeat (first | apply Kd.V_alloc | apply Kd.V_drewN | apply Kd.V_drew)); exact Kd.V_mono HO_365002.out (fun _ hk => ⟨⟨hk.1.1, ⟨hk.2, ⟨hk.1.2.2.1, ⟨hk.1.2.2.2.1, hk.1.2.2.2.2⟩⟩⟩⟩, hk.1.2.1⟩)) hg hat); replace BK356 := am (blk_grown (pkC BK356) hg (Kd.R_ne HO_6.out BK356.out (by decide))); replace BK364 := am (blk_grown (pkC BK364) hg (Kd.R_ne HO_6.out BK364.out (by decide))); replace HI0 := am (IsS65.grown (pkS65 HI0) hg (IsS65.own_ne HI0.out HO_6.out (by decide))); replace HO386 := am (Kd.R_after (ok := (fun k_ => (w.heap.size ≤ k_))) (by (with_reducible repeat (first | apply Kd.R_alloc | apply Kd.R_drewN | apply Kd.R_drew)); exact Kd.R_mono HO386.out (fun _ hk => ⟨hk.1.1, hk.2⟩)) hg hat); replace HB := am (below_weaken (pkBS65 HB) HL.out hb); replace HK := am (KeepBut.trans (pkK HK) (KeepBut.of_grown hg g) (Kd.R_base2 HO_6.out)); clear HO_6 ho hb hg hat))
           go_roundg k4
           case measure => have := HJ3.out; have := HJ16.out; have := HJ33.out; have := HK4.out; omega
           case rel => exact ⟨(y390), (wrap64 (x7_4 - 1)), (t388), (t389), (by first | rfl | (simp; done) | (simp [*]; done)), H', ⟨by have := HJ3.out; have := HJ16.out; have := HJ33.out; have := HK4.out; omega⟩, ⟨by (with_reducible repeat (first | apply Kd.R_alloc | apply Kd.R_drewN | apply Kd.R_drew)); exact Kd.R_mono HO392.out (fun _ hk => hk.1)⟩, ⟨by (with_reducible repeat (first | apply Kd.V_alloc | apply Kd.V_drewN | apply Kd.V_drew)); exact Kd.V_mono HO_365002.out (fun _ hk => ⟨hk.1.1, ⟨hk.2, ⟨hk.1.2.2.1, ⟨hk.1.2.2.2.1, hk.1.2.2.2.2⟩⟩⟩⟩)⟩, ⟨pkC BK356⟩, ⟨pkC BK364⟩, ⟨pkS65 HI0⟩, ⟨pkK HK⟩, ⟨pkBS65 HB⟩⟩
          ·rw [if_neg c51] at H
           exact absurd H (by simp)
         ·rw [if_neg c49] at H
          have c49b0 : decide (0 < x7_4) = false := decide_eq_false c49
          clear c49
          replace H := Option.bind_eq_some_iff.mp H
          obtain ⟨⟨t393, t394, t395⟩, A570, H⟩ := H
          try dsimp only at H
          have A57 := am A570
          clear A570
          have HC58 := am H
          clear H
          go_upto_block 2 with (first | (go_at_call 52; (with_reducible refine (spec_l1Cur_pick.calls g s0_0 x1001_4 x1002_4 24 t393 t394 t395 w0 _ ?side1 ?side2 A57.out).mono ?_); (case side1 => exact pkS65 HI0); (case side2 => exact pkBS65 HB); rintro e w59 ⟨rfl, hi, hb, hk⟩; replace HO_6 := am (Kd.R_mono (Kd.R_keep (IsS65.apart (pkS65 HI0) (pk HO_6) (by decide)) hk (fun _ h => h.2)) (fun _ h => h.1)); replace HO_365002 := am (Kd.V_mono (Kd.V_keep (Kd.V_mono (ok := fun k_ => (((w.heap.size ≤ k_)) ∧ (some k_ ≠ (u6 : Value).ownBlock ∧ (k_ ≠ gb356 ∧ (k_ ≠ gb364 ∧ k_ ≠ g))))) (pk HO_365002) (fun k_ hk_ => (⟨hk_, hk_.2.2.2.2⟩ : _ ∧ k_ ≠ g))) hk (fun _ h => h.2)) (fun _ h => h.1)); replace BK356 := am (KeepBut.blk hk (pkC BK356) NB356_0.out (by simp)); replace BK364 := am (KeepBut.blk hk (pkC BK364) NB364_0.out (by simp)); replace HK := am (ktk (pkK HK) hk); replace HB := am (hb); replace HI0 := am (hi); (try clear hb); (try clear hb2); (try clear hk); (try clear hi)))
          (try simp only [Act.put, List.setIfInBounds_toArray, List.set_cons_zero, List.set_cons_succ])
          go_cut [6] (fun v6 wc => ∃ (kq : Nat) (x6_57 : List Int) (x1001_57 : Int) (x1002_57 : Int), Aside0 (spec_l1Cur_groups9.j4 kq x6_57 s0_0 x1001_57 x1002_57 x365000_33 x365001_33 x365002_33 = some (r1, r2, r3, r4, r5, r6, r7)) ∧ Aside0 (kq ≤ k4) ∧ Aside0 (Kd.R (Kd.int .i64) 3 wc w.heap.size (fun k_ => (w.heap.size ≤ k_)) v6 x6_57) ∧ Aside0 (Kd.V (Kd.int .i64) 3 wc w.heap.size (fun k_ => (w.heap.size ≤ k_) ∧ some k_ ≠ (v6 : Value).ownBlock ∧ k_ ≠ gb356 ∧ k_ ≠ gb364 ∧ k_ ≠ g) u365002 x365002_33) ∧ Aside0 (wc.heap[gb356]? = some (.cells #[.int .i64 0, .bool false, (.slice none 0 0)] 26 (0, 0))) ∧ Aside0 (wc.heap[gb364]? = some (.cells #[.int .i64 x365000_33, .bool x365001_33, u365002] 26 (0, 0))) ∧ Aside0 (IsS65 w0 wc g s0_0 x1001_57 x1002_57) ∧ Aside0 (KeepBut w wc g none) ∧ Aside0 (Below w0.heap.size w0 wc))
          case first =>
           have H := HC58.out
           clear HC58
           by_cases c60 : t393 = 0
           ·rw [if_pos c60] at H
            have c60b0 : (t393 == 0) = true := beq_iff_eq.mpr c60
            have c60b1 : (t393 != 0) = false := bne_eq_false_iff_eq.mpr c60
            clear c60
            (first | rw [c60b0] | (simp only [i64_w, i32_w]; rw [c60b0]) | rw [c60b1] | skip)
            obtain ⟨y396, hy396⟩ : ∃ y_ : List Int, y_ = (([0, (-1), 24, 4611686018427387904] : List Int)) := ⟨_, rfl⟩
            replace H : ((spec_l1Cur_among.f s0_0 t394 t395 y396).bind fun bt399 => (if x6_4.length < 17592186044416 then (spec_l1Cur_groups9.j4 k4 (x6_4 ++ [bt399.1]) s0_0 bt399.2.1 bt399.2.2 x365000_33 x365001_33 x365002_33) else (none))) = some (r1, r2, r3, r4, r5, r6, r7) := by first | (rw [hy396]; with_reducible exact H) | (have H2_ := (Option.bind_some _ _).symm.trans H; rw [hy396]; with_reducible exact H2_) | (have H2_ := (Option.bind_some _ _).symm.trans H; with_reducible exact H2_) | with_reducible exact H | (rw [hy396]; exact H) | exact H
            have Ny396 := am hy396
            clear hy396
            replace H := Option.bind_eq_some_iff.mp H
            obtain ⟨⟨t399, t400, t401⟩, A610, H⟩ := H
            try dsimp only at H
            have A61 := am A610
            clear A610
            by_cases c62 : x6_4.length < 17592186044416
            ·rw [if_pos c62] at H
             have LMc62 := am c62
             clear c62
             obtain ⟨y402, hy402⟩ : ∃ y_ : List Int, y_ = (x6_4 ++ [t399]) := ⟨_, rfl⟩
             replace H : (spec_l1Cur_groups9.j4 k4 y402 s0_0 t400 t401 x365000_33 x365001_33 x365002_33) = some (r1, r2, r3, r4, r5, r6, r7) := by first | (rw [hy402]; with_reducible exact H) | (have H2_ := (Option.bind_some _ _).symm.trans H; rw [hy402]; with_reducible exact H2_) | (have H2_ := (Option.bind_some _ _).symm.trans H; with_reducible exact H2_) | with_reducible exact H | (rw [hy402]; exact H) | exact H
             have Ny402 := am hy402
             clear hy402
             have H' := am H
             clear H
             go_wp2_with (first | ((with_reducible refine gate_dst (N := 48) rfl ?_); refine Kd.R_lit (Kd.int .i64) _ 3 ?hg (N := 48) ?hd (xs := ([0, (-1), 24, 4611686018427387904] : List Int)) (inner := [.int .i64 0, .int .i64 (-1), .int .i64 24, .int .i64 4611686018427387904]) (ok := fun _ => True) (okp := fun _ => True) ?hr ?hp (fun _ hk => hk) trivial (Below.refl _ _) (Nat.le_refl _) (by simp) ?_; (case hd => rfl); (case hg => rfl); (case hr => first | (go_simp; done) | (go_simp; rfl)); (case hp => exact (Reps.one (show Kd.M (Kd.int .i64) _ _ _ 0 [.int .i64 0] from rfl) (Reps.one (show Kd.M (Kd.int .i64) _ _ _ (-1) [.int .i64 (-1)] from rfl) (Reps.one (show Kd.M (Kd.int .i64) _ _ _ 24 [.int .i64 24] from rfl) (Reps.one (show Kd.M (Kd.int .i64) _ _ _ 4611686018427387904 [.int .i64 4611686018427387904] from rfl) (Reps.none _ _)))))); intro v397 w63 ho64 hb hg_ hnew_; clear hg_ hnew_; (first | rw [← Ny396.out] at ho64 | (simp only [Int.reduceToNat] at ho64; rw [← Ny396.out] at ho64)); have HO398 := am (Kd.R_lower (Kd.R_new' (Kd.R_newM (M := fun k_ => (w.heap.size ≤ k_)) ho64 (keep_size (pkK HK)) (fun k_ h_ => h_)) (Kd.R_lt (pk HO_6))) (keep_size (pkK HK))); replace HO_6 := am (Kd.R_elder' (pk HO_6) (Kd.R_base ho64) hb); replace HO_365002 := am (Kd.V_elder' (pk HO_365002) (Kd.R_base ho64) hb); replace BK356 := am (blk_below (pkC BK356) hb); replace BK364 := am (blk_below (pkC BK364) hb); replace HI0 := am (IsS65.below (pkS65 HI0) hb); replace HK := am (ktb (pkK HK) hb); replace HB := am (below_step (pkBS65 HB) hb); clear hb ho64; obtain ⟨Ao65, co65, eo65⟩ := Kd.R_slice HO398.out; subst eo65) | (go_at_call 51; (with_reducible refine (spec_l1Cur_among.calls g s0_0 t394 t395 _ _ y396 t399 t400 t401 w0 _ ?side1 ?side2 ?side3 ?side4 ?side5 A61.out).mono ?_); (case side1 => exact pkS65 HI0); (case side2 => exact pkBS65 HB); (case side3 => repeat (first | exact (Kd.R_reads' HO398.out).2.2 | (with_reducible refine Kd.C_alloc ?_ _) | (with_reducible refine Kd.C_drewN ?_ _) | (with_reducible refine Kd.C_drew ?_))); (case side4 => exact (Kd.R_reads' HO398.out).2.1); (case side5 => exact far_slice (IsS65.own_ne HI0.out HO398.out (by decide))); rintro e w66 ⟨rfl, hi, hb, hk⟩; replace HO_6 := am (Kd.R_mono (Kd.R_keep (IsS65.apart (pkS65 HI0) (pk HO_6) (by decide)) hk (fun _ h => h.2)) (fun _ h => h.1)); replace HO_365002 := am (Kd.V_mono (Kd.V_keep (Kd.V_mono (ok := fun k_ => ((((w.heap.size ≤ k_)) ∧ (some k_ ≠ (u6 : Value).ownBlock ∧ (k_ ≠ gb356 ∧ (k_ ≠ gb364 ∧ k_ ≠ g)))) ∧ some k_ ≠ (.slice Ao65 y396.length co65 : Value).ownBlock)) (pk HO_365002) (fun k_ hk_ => (⟨hk_, hk_.1.2.2.2.2⟩ : _ ∧ k_ ≠ g))) hk (fun _ h => h.2)) (fun _ h => h.1)); replace BK356 := am (KeepBut.blk hk (pkC BK356) NB356_0.out (by simp)); replace BK364 := am (KeepBut.blk hk (pkC BK364) NB364_0.out (by simp)); replace HO398 := am (Kd.R_mono (Kd.R_keep (IsS65.apart (pkS65 HI0) (pk HO398) (by decide)) hk (fun _ h => h.2)) (fun _ h => h.1)); replace HK := am (ktk (pkK HK) hk); replace HB := am (hb); replace HI0 := am (hi); (try clear hb); (try clear hb2); (try clear hk); (try clear hi)) | ((with_reducible refine gate_builtin (b := .append) (xs := #[.tmp 46, .tmp 50]) rfl ?_); at_builtin; refine Kd.R_append (Kd.int .i64) w.heap.size rfl (.tmp 46) (.tmp 50) 24 3 (.int .i64 0) 8 rfl Tryd.underlying24 info3 rfl (by decide) (by omega) u6 x6_4 t399 [.int .i64 t399] (fun k_ => (w.heap.size ≤ k_) ∧ some k_ ≠ (.slice Ao65 y396.length co65 : Value).ownBlock) (fun _ => False) rfl rfl ?aP (fun _ hk => hk.elim) ?aF ?aO (Below.refl _ _) ?aS ?aL ?_; (case aP => exact rfl); (case aF => exact (fun k_ hk => ⟨(Nat.le_trans (keep_size (pkK HK)) hk), Kd.fresh' (Kd.R_lt (pk HO398)) k_ hk⟩)); (case aO => exact (pk HO_6)); (case aS => exact (keep_size (pkK HK))); (case aL => have := LMc62.out; omega); intro v403 w67 ho hb hg hat; rw [← Ny402.out] at ho; have HO404 := am (ho); replace HO_365002 := am (Kd.V_afterv (ok := (fun k_ => (w.heap.size ≤ k_) ∧ some k_ ≠ (.slice Ao65 y396.length co65 : Value).ownBlock ∧ k_ ≠ gb356 ∧ k_ ≠ gb364 ∧ k_ ≠ g)) (by (with_reducible repeat (first | apply Kd.V_alloc | apply Kd.V_drewN | apply Kd.V_drew)); exact Kd.V_mono HO_365002.out (fun _ hk => ⟨⟨hk.1.1, ⟨hk.2, ⟨hk.1.2.2.1, ⟨hk.1.2.2.2.1, hk.1.2.2.2.2⟩⟩⟩⟩, hk.1.2.1⟩)) hg hat); replace BK356 := am (blk_grown (pkC BK356) hg (Kd.R_ne HO_6.out BK356.out (by decide))); replace BK364 := am (blk_grown (pkC BK364) hg (Kd.R_ne HO_6.out BK364.out (by decide))); replace HI0 := am (IsS65.grown (pkS65 HI0) hg (IsS65.own_ne HI0.out HO_6.out (by decide))); replace HO398 := am (Kd.R_after (ok := (fun k_ => (w.heap.size ≤ k_))) (by (with_reducible repeat (first | apply Kd.R_alloc | apply Kd.R_drewN | apply Kd.R_drew)); exact Kd.R_mono HO398.out (fun _ hk => ⟨hk.1.1, hk.2⟩)) hg hat); replace HB := am (below_weaken (pkBS65 HB) HL.out hb); replace HK := am (KeepBut.trans (pkK HK) (KeepBut.of_grown hg g) (Kd.R_base2 HO_6.out)); clear HO_6 ho hb hg hat))
             go_meet
             case rel => exact ⟨_, (y402), (t400), (t401), H', ⟨by have := HJ3.out; have := HJ16.out; have := HJ33.out; have := HK4.out; first | omega | exact Nat.le_refl _⟩, ⟨by (with_reducible repeat (first | apply Kd.R_alloc | apply Kd.R_drewN | apply Kd.R_drew)); exact Kd.R_mono HO404.out (fun _ hk => hk.1)⟩, ⟨by (with_reducible repeat (first | apply Kd.V_alloc | apply Kd.V_drewN | apply Kd.V_drew)); exact Kd.V_mono HO_365002.out (fun _ hk => ⟨hk.1.1, ⟨hk.2, ⟨hk.1.2.2.1, ⟨hk.1.2.2.2.1, hk.1.2.2.2.2⟩⟩⟩⟩)⟩, ⟨pkC BK356⟩, ⟨pkC BK364⟩, ⟨pkS65 HI0⟩, ⟨pkK HK⟩, ⟨pkBS65 HB⟩⟩
            ·rw [if_neg c62] at H
             exact absurd H (by simp)
           ·rw [if_neg c60] at H
            have c60b0 : (t393 == 0) = false := beq_eq_false_iff_ne.mpr c60
            have c60b1 : (t393 != 0) = true := bne_iff_ne.mpr c60
            (first | rw [c60b0] | (simp only [i64_w, i32_w]; rw [c60b0]) | rw [c60b1] | skip)
            by_cases c68 : t393 = 1
            ·rw [if_pos c68] at H
             have c68b0 : (t393 == 1) = true := beq_iff_eq.mpr c68
             have c68b1 : (t393 != 1) = false := bne_eq_false_iff_eq.mpr c68
             clear c68
             obtain ⟨y405, hy405⟩ : ∃ y_ : List Int, y_ = (([] : List Int)) := ⟨_, rfl⟩
             replace H : (spec_l1Cur_groups9.j4 k4 y405 s0_0 t394 t395 x365000_33 x365001_33 x365002_33) = some (r1, r2, r3, r4, r5, r6, r7) := by first | (rw [hy405]; with_reducible exact H) | (have H2_ := (Option.bind_some _ _).symm.trans H; rw [hy405]; with_reducible exact H2_) | (have H2_ := (Option.bind_some _ _).symm.trans H; with_reducible exact H2_) | with_reducible exact H | (rw [hy405]; exact H) | exact H
             have Ny405 := am hy405
             clear hy405
             have H' := am H
             clear H
             go_wp2_with (first | ((with_reducible refine gate_dst (N := 54) rfl ?_); refine Kd.R_lit (Kd.int .i64) _ 3 ?hg (N := 54) ?hd (xs := ([] : List Int)) (inner := []) (ok := fun _ => True) (okp := fun _ => True) ?hr ?hp (fun _ hk => hk) trivial (Below.refl _ _) (Nat.le_refl _) (by simp) ?_; (case hd => rfl); (case hg => rfl); (case hr => first | (go_simp; done) | (go_simp; rfl)); (case hp => exact (Reps.none _ _)); intro v406 w69 ho70 hb hg_ hnew_; clear hg_ hnew_; (first | rw [← Ny405.out] at ho70 | (simp only [Int.reduceToNat] at ho70; rw [← Ny405.out] at ho70)); have HO407 := am (Kd.R_lower (Kd.R_new' (Kd.R_newM (M := fun k_ => (w.heap.size ≤ k_)) ho70 (keep_size (pkK HK)) (fun k_ h_ => h_)) (Kd.R_lt (pk HO_6))) (keep_size (pkK HK))); replace HO_6 := am (Kd.R_elder' (pk HO_6) (Kd.R_base ho70) hb); replace HO_365002 := am (Kd.V_elder' (pk HO_365002) (Kd.R_base ho70) hb); replace BK356 := am (blk_below (pkC BK356) hb); replace BK364 := am (blk_below (pkC BK364) hb); replace HI0 := am (IsS65.below (pkS65 HI0) hb); replace HK := am (ktb (pkK HK) hb); replace HB := am (below_step (pkBS65 HB) hb); clear hb ho70))
             go_meet
             case rel => exact ⟨_, (y405), (t394), (t395), H', ⟨by have := HJ3.out; have := HJ16.out; have := HJ33.out; have := HK4.out; first | omega | exact Nat.le_refl _⟩, ⟨by (with_reducible repeat (first | apply Kd.R_alloc | apply Kd.R_drewN | apply Kd.R_drew)); exact Kd.R_mono HO407.out (fun _ hk => hk.1.1)⟩, ⟨by (with_reducible repeat (first | apply Kd.V_alloc | apply Kd.V_drewN | apply Kd.V_drew)); exact Kd.V_mono HO_365002.out (fun _ hk => ⟨hk.1.1, ⟨hk.2, ⟨hk.1.2.2.1, ⟨hk.1.2.2.2.1, hk.1.2.2.2.2⟩⟩⟩⟩)⟩, ⟨pkC BK356⟩, ⟨pkC BK364⟩, ⟨pkS65 HI0⟩, ⟨pkK HK⟩, ⟨pkBS65 HB⟩⟩
            ·rw [if_neg c68] at H
             have c68b0 : (t393 == 1) = false := beq_eq_false_iff_ne.mpr c68
             have c68b1 : (t393 != 1) = true := bne_iff_ne.mpr c68
             have H' := am H
             clear H
             go_wp2
             go_meet
             case rel => exact ⟨_, (x6_4), (t394), (t395), H', ⟨by have := HJ3.out; have := HJ16.out; have := HJ33.out; have := HK4.out; first | omega | exact Nat.le_refl _⟩, ⟨by (with_reducible repeat (first | apply Kd.R_alloc | apply Kd.R_drewN | apply Kd.R_drew)); exact HO_6.out⟩, ⟨by (with_reducible repeat (first | apply Kd.V_alloc | apply Kd.V_drewN | apply Kd.V_drew)); exact HO_365002.out⟩, ⟨pkC BK356⟩, ⟨pkC BK364⟩, ⟨pkS65 HI0⟩, ⟨pkK HK⟩, ⟨pkBS65 HB⟩⟩
          case rest =>
           clear HC58
           try clear c1
           try clear c2
           try clear p2
           try clear c3
           try clear c4
           try clear c5
           try clear c6
           try clear p6
           try clear c8
           try clear c9
           try clear c13
           try clear c14
           try clear c15
           try clear c18
           try clear c18b0
           try clear c18b1
           try clear c20
           try clear c22
           try clear c23
           try clear c27
           try clear c28
           try clear c31
           try clear c32
           try clear c35
           try clear c37
           try clear c38
           try clear c39
           try clear c40
           try clear c49
           try clear c49b0
           try clear c50
           try clear c51
           try clear c52
           try clear c60
           try clear c60b0
           try clear c60b1
           try clear c62
           try clear p64
           try clear c68
           try clear c68b0
           try clear c68b1
           try clear hcz10_0
           try clear hcz10_1
           try clear hcz10_2
           try clear hcz16_0
           try clear hcz16_1
           try clear hcz16_2
           try clear hcz24_0
           try clear hcz24_1
           try clear hcz24_2
           try clear hcz29_0
           try clear hcz29_1
           try clear hcz29_2
           try clear hcz33_0
           try clear hcz33_1
           try clear hcz33_2
           try clear hcz41_0
           try clear hcz41_1
           try clear hcz41_2
           try clear hfz10_0
           try clear hfz10_1
           try clear hfz10_2
           try clear hfz16_0
           try clear hfz16_1
           try clear hfz16_2
           try clear hfz24_0
           try clear hfz24_1
           try clear hfz24_2
           try clear hfz29_0
           try clear hfz29_1
           try clear hfz29_2
           try clear hfz33_0
           try clear hfz33_1
           try clear hfz33_2
           try clear hfz41_0
           try clear hfz41_1
           try clear hfz41_2
           try clear p2
           obtain ⟨kq, x6_57, x1001_57, x1002_57, HA, HJ57, HO_6, HO_365002, BK356, BK364, HI0, HK, HB⟩ := hcut
           cases kq with
           | zero => exact absurd HA.out (by simp [spec_l1Cur_groups9.j4])
           | succ kj57 =>
            have H := HA.out
            clear HA
            simp only [spec_l1Cur_groups9.j4] at H
            obtain ⟨y408, hy408⟩ : ∃ y_ : List Int, y_ = (([1, 0, 2, 3, 4611686018427387904, (-1)] : List Int)) := ⟨_, rfl⟩
            replace H : ((spec_l1Cur_pick.f s0_0 x1001_57 x1002_57 24).bind fun bt411 => (if 0 ≤ (wrap64 (4 + (wrap64 (Int.tdiv bt411.1 11)))) then (if (wrap64 (4 + (wrap64 (Int.tdiv bt411.1 11)))) ≤ (y408.length : Int) then ((spec_l1Cur_among.f s0_0 bt411.2.1 bt411.2.2 (y408.take ((wrap64 (4 + (wrap64 (Int.tdiv bt411.1 11)))) : Int).toNat)).bind fun bt418 => (some (x365000_33, x365001_33, x365002_33, x6_57, bt418.1, bt418.2.1, bt418.2.2))) else (none)) else (none))) = some (r1, r2, r3, r4, r5, r6, r7) := by first | (rw [hy408]; with_reducible exact H) | (have H2_ := (Option.bind_some _ _).symm.trans H; rw [hy408]; with_reducible exact H2_) | (have H2_ := (Option.bind_some _ _).symm.trans H; with_reducible exact H2_) | with_reducible exact H | (rw [hy408]; exact H) | exact H
            have Ny408 := am hy408
            clear hy408
            replace H := Option.bind_eq_some_iff.mp H
            obtain ⟨⟨t411, t412, t413⟩, A710, H⟩ := H
            try dsimp only at H
            have A71 := am A710
            clear A710
            obtain ⟨ji72, hji72⟩ : ∃ j_ : Int, (wrap64 (4 + (wrap64 (Int.tdiv t411 11)))) = j_ := ⟨_, rfl⟩
            replace H : (if 0 ≤ (ji72) then (if (ji72) ≤ (y408.length : Int) then ((spec_l1Cur_among.f s0_0 t412 t413 (y408.take ((ji72) : Int).toNat)).bind fun bt418 => (some (x365000_33, x365001_33, x365002_33, x6_57, bt418.1, bt418.2.1, bt418.2.2))) else (none)) else (none)) = some (r1, r2, r3, r4, r5, r6, r7) := by first | (rw [hji72] at H; exact H) | (simp only [hji72] at H ⊢; exact H)
            (try rw [hji72] at A71)
            have hji72w : (IntKind.i64.wrap (4 + (wrap64 (Int.tdiv t411 11)))) = ji72 := (i64_w _).trans hji72
            by_cases c73 : 0 ≤ (ji72)
            ·rw [if_pos c73] at H
             have c73b0 := eq_true c73
             have c73b1 : decide (0 ≤ (ji72)) = true := decide_eq_true c73
             clear c73
             by_cases c74 : (ji72) ≤ (y408.length : Int)
             ·rw [if_pos c74] at H
              have c74b0 := eq_true c74
              have c74b1 : decide ((ji72) ≤ (y408.length : Int)) = true := decide_eq_true c74
              clear c74
              obtain ⟨y414, hy414⟩ : ∃ y_ : List Int, y_ = (y408.take ((ji72) : Int).toNat) := ⟨_, rfl⟩
              replace H : ((spec_l1Cur_among.f s0_0 t412 t413 y414).bind fun bt418 => (some (x365000_33, x365001_33, x365002_33, x6_57, bt418.1, bt418.2.1, bt418.2.2))) = some (r1, r2, r3, r4, r5, r6, r7) := by first | (rw [hy414]; with_reducible exact H) | (have H2_ := (Option.bind_some _ _).symm.trans H; rw [hy414]; with_reducible exact H2_) | (have H2_ := (Option.bind_some _ _).symm.trans H; with_reducible exact H2_) | with_reducible exact H | (rw [hy414]; exact H) | exact H
              have Ny414 := am hy414
              clear hy414
              replace H := Option.bind_eq_some_iff.mp H
              obtain ⟨⟨t418, t419, t420⟩, A750, H⟩ := H
              try dsimp only at H
              have A75 := am A750
              clear A750
              simp only [Option.some.injEq, Prod.mk.injEq] at H
              obtain ⟨rfl, rfl, rfl, rfl, rfl, rfl, rfl⟩ := H
              try go_wp2
              replace HO_6 := am (Kd.R_drew HO_6.out)
              replace HO_365002 := am (Kd.V_drew HO_365002.out)
              replace BK356 := am (blk_drew BK356.out)
              replace BK364 := am (blk_drew BK364.out)
              replace HI0 := am (IsS65.drew HI0.out)
              replace HK := am (keep_drew HK.out)
              replace HB := am (below_drew1 HB.out)
              refine start_ (n := 13) (S := fun w' => w'.cell? ⟨gb364, 0, none⟩ = some (.int .i64 x365000_33) ∧ w'.cell? ⟨gb364, 1, none⟩ = some (.bool x365001_33) ∧ w'.cell? ⟨gb364, 2, none⟩ = some (u365002)) (ds := []) #[false, false, false, false, false, false, false, false, false, false, false, false, false] (by kernel_rfl) rfl rfl ⟨(blk_cell BK364.out 0).trans rfl, (blk_cell BK364.out 1).trans rfl, (blk_cell BK364.out 2).trans rfl⟩ (fun hHeld => ?_); refine with_tabW spec_l1Cur_groups9.tab16 spec_l1Cur_groups9.bits16 (fun HT_ HW_ => ?_)
              generalize wc.drew = w76 at HO_6 HO_365002 BK356 BK364 HI0 HK HB hHeld ⊢
              refine pi_ (i := 1) (N := some 56) (v := ?_) (a' := ?_) (bm 13 2) rfl rfl HT_ (by kernel_rfl) (fun _ _ _ h => h) (Or.inl ⟨by rfl, ?_⟩) ?_ ?_
              rotate_left
              ·intro w'
               go_simp
               with_reducible rfl
              rotate_left
              ·simp only [Act.put, pp_]
               rfl
              refine pi_ (i := 2) (N := some 57) (v := ?_) (a' := ?_) (bm 13 6) rfl rfl HT_ (by kernel_rfl) (fun _ _ _ h => h) (Or.inl ⟨by rfl, ?_⟩) ?_ ?_
              rotate_left
              ·intro w'
               go_simp
               with_reducible rfl
              rotate_left
              ·simp only [Act.put, pp_]
               rfl
              refine pi_ (i := 4) (N := some 59) (v := ?_) (a' := ?_) (bm 13 22) rfl rfl HT_ (by kernel_rfl) (fun _ _ _ h => h) (Or.inl ⟨by rfl, ?_⟩) ?_ ?_
              rotate_left
              ·intro w'
               go_simp
               with_reducible rfl
              rotate_left
              ·simp only [Act.put, pp_]
               rfl
              refine take_ (i := 0) (N := some 55) (v := ?_) (a' := ?_) (bm 13 23) rfl rfl (take_ofW HT_.out HW_.out (by kernel_rfl)) (fun _ _ _ h => h) (Or.inl ⟨by rfl, ?_⟩) hHeld ?_ ?_
              rotate_left
              ·rintro w' ⟨s0, s1, s2⟩
               go_simp
               with_reducible rfl
              rotate_left
              ·simp only [Act.put, pp_]
               rfl
              refine join_ (σ := Value) 5 (bm 13 255) (fun s_ => [(58, s_), (60, .int .i64 t411), (61, .int .i64 (wrap64 (Int.tdiv t411 11))), (62, .int .i64 ji72)]) (fun s_ w' => (w'.cell? ⟨gb364, 0, none⟩ = some (.int .i64 x365000_33) ∧ w'.cell? ⟨gb364, 1, none⟩ = some (.bool x365001_33) ∧ w'.cell? ⟨gb364, 2, none⟩ = some (u365002)) ∧ (Kd.R (Kd.int .i64) 3 w' w.heap.size (fun k_ => (w.heap.size ≤ k_) ∧ some k_ ≠ (u6 : Value).ownBlock) s_ y408) ∧ (Kd.V (Kd.int .i64) 3 w' w.heap.size (fun k_ => (w.heap.size ≤ k_) ∧ some k_ ≠ (s_ : Value).ownBlock ∧ some k_ ≠ (u6 : Value).ownBlock ∧ k_ ≠ g ∧ k_ ≠ gb356 ∧ k_ ≠ gb364) u365002 x365002_33) ∧ (Kd.R (Kd.int .i64) 3 w' w.heap.size (fun k_ => (w.heap.size ≤ k_) ∧ some k_ ≠ (s_ : Value).ownBlock) u6 x6_57) ∧ (w'.heap[gb356]? = some (.cells #[.int .i64 0, .bool false, .slice none 0 0] 26 (0, 0))) ∧ (w'.heap[gb364]? = some (.cells #[.int .i64 x365000_33, .bool x365001_33, u365002] 26 (0, 0))) ∧ (IsS65 w0 w' g s0_0 t412 t413) ∧ (KeepBut w w' g none) ∧ (Below w0.heap.size w0 w')) ?_ ?_
              rotate_left
              ·intro hCont
               refine two_ (i := 3) (j := 5) (Ni := some 58) (Nj := some 60) (bm 13 31) (bm 13 55) rfl rfl rfl rfl (two_of HT_.out (by kernel_rfl)) (by decide) (by decide) (fun K hK => ?_) (fun K hK => ?_)
               ·skip
                refine Kd.R_lit_step (Kd.int .i64) _ 3 ?hg (N := 58) ?hd (xs := ([1, 0, 2, 3, 4611686018427387904, (-1)] : List Int)) (inner := [.int .i64 1, .int .i64 0, .int .i64 2, .int .i64 3, .int .i64 4611686018427387904, .int .i64 (-1)]) (ok := fun _ => True) (okp := fun _ => True) ?hr ?hp (fun _ hk => hk) trivial (Below.refl _ _) (Nat.le_refl _) (by simp) ?_; (case hd => rfl); (case hg => rfl); (case hr => first | (go_simp; done) | (go_simp; rfl)); (case hp => exact (Reps.one (show Kd.M (Kd.int .i64) _ _ _ 1 [.int .i64 1] from rfl) (Reps.one (show Kd.M (Kd.int .i64) _ _ _ 0 [.int .i64 0] from rfl) (Reps.one (show Kd.M (Kd.int .i64) _ _ _ 2 [.int .i64 2] from rfl) (Reps.one (show Kd.M (Kd.int .i64) _ _ _ 3 [.int .i64 3] from rfl) (Reps.one (show Kd.M (Kd.int .i64) _ _ _ 4611686018427387904 [.int .i64 4611686018427387904] from rfl) (Reps.one (show Kd.M (Kd.int .i64) _ _ _ (-1) [.int .i64 (-1)] from rfl) (Reps.none _ _))))))))
                intro v409 w77 ho78 hb hg_ hnew_
                clear hg_ hnew_
                (first | rw [← Ny408.out] at ho78 | (simp only [Int.reduceToNat] at ho78; rw [← Ny408.out] at ho78))
                have HO410 := am (Kd.R_lower (Kd.R_new' (Kd.R_newM (M := fun k_ => (w.heap.size ≤ k_)) ho78 (keep_size (pkK HK)) (fun k_ h_ => h_)) (Kd.R_lt (pk HO_6))) (keep_size (pkK HK)))
                replace HO_6 := am (Kd.R_elder' (pk HO_6) (Kd.R_base ho78) hb)
                replace HO_365002 := am (Kd.V_elder' (pk HO_365002) (Kd.R_base ho78) hb)
                replace BK356 := am (blk_below (pkC BK356) hb)
                replace BK364 := am (blk_below (pkC BK364) hb)
                replace HI0 := am (IsS65.below (pkS65 HI0) hb)
                replace HK := am (ktb (pkK HK) hb)
                replace HB := am (below_step (pkBS65 HB) hb)
                clear hb ho78
                refine hK.out _ _ ⟨(blk_cell BK364.out 0).trans rfl, (blk_cell BK364.out 1).trans rfl, (blk_cell BK364.out 2).trans rfl⟩ (fun hHeld => ?_)
                clear hK K
                refine norm_ (a' := ?_) ?_ ?_
                rotate_left
                ·show Act.put _ (some 58) _ = _
                 simp only [Act.put, pp_]
                 rfl
                refine one_ (i := 5) (N := some 60) (bm 13 63) rfl rfl (one_of HT_.out (by kernel_rfl)) (by decide) (fun K hK => ?_)
                refine goes_ Tryd.func52 (by kernel_rfl) rfl #[.pointer (some ⟨g, 0, none⟩), .int .i64 24] (by rfl) rfl rfl (by (try simp only [List.map_toArray, List.map_cons, List.map_nil]); first | done | rfl | (simp only [List.length_drop, List.length_take]; rfl)) ?_
                with_reducible refine (spec_l1Cur_pick.calls g s0_0 x1001_57 x1002_57 24 t411 t412 t413 w0 _ ?side1 ?side2 A71.out).mono ?_
                (case side1 => exact pkS65 HI0)
                (case side2 => exact pkBS65 HB)
                rintro e w79 ⟨rfl, hi, hb, hk⟩
                refine ⟨_, rfl, ?_⟩
                replace HO_6 := am (Kd.R_mono (Kd.R_keep (IsS65.apart (pkS65 HI0) (pk HO_6) (by decide)) hk (fun _ h => h.2)) (fun _ h => h.1))
                replace HO_365002 := am (Kd.V_mono (Kd.V_keep (Kd.V_mono (ok := fun k_ => ((((w.heap.size ≤ k_)) ∧ (some k_ ≠ (u6 : Value).ownBlock ∧ (k_ ≠ gb356 ∧ (k_ ≠ gb364 ∧ k_ ≠ g)))) ∧ some k_ ≠ (v409 : Value).ownBlock)) (pk HO_365002) (fun k_ hk_ => (⟨hk_, hk_.1.2.2.2.2⟩ : _ ∧ k_ ≠ g))) hk (fun _ h => h.2)) (fun _ h => h.1))
                replace BK356 := am (KeepBut.blk hk (pkC BK356) NB356_0.out (by simp))
                replace BK364 := am (KeepBut.blk hk (pkC BK364) NB364_0.out (by simp))
                replace HO410 := am (Kd.R_mono (Kd.R_keep (IsS65.apart (pkS65 HI0) (pk HO410) (by decide)) hk (fun _ h => h.2)) (fun _ h => h.1))
                replace HK := am (ktk (pkK HK) hk)
                replace HB := am (hb)
                replace HI0 := am (hi)
                (try clear hb)
                (try clear hb2)
                (try clear hk)
                (try clear hi)
                refine hK.out _ _ ⟨(blk_cell BK364.out 0).trans rfl, (blk_cell BK364.out 1).trans rfl, (blk_cell BK364.out 2).trans rfl⟩ (fun hHeld => ?_)
                clear hK K
                refine norm_ (a' := ?_) ?_ ?_
                rotate_left
                ·show Act.put _ (some 60) _ = _
                 simp only [Act.put, pp_]
                 rfl
                refine pi_ (i := 6) (N := some 61) (v := ?_) (a' := ?_) (bm 13 127) rfl rfl HT_ (by kernel_rfl) (fun _ _ _ h => h) (Or.inl ⟨by rfl, ?_⟩) ?_ ?_
                rotate_left
                ·intro w'
                 go_simp
                 with_reducible rfl
                rotate_left
                ·simp only [Act.put, pp_]
                 rfl
                refine pi_ (i := 7) (N := some 62) (v := ?_) (a' := ?_) (bm 13 255) rfl rfl HT_ (by kernel_rfl) (fun _ _ _ h => h) (Or.inl ⟨by rfl, ?_⟩) ?_ ?_
                rotate_left
                ·intro w'
                 go_simp
                 with_reducible rfl
                rotate_left
                ·simp only [Act.put, pp_]
                 rfl
                exact norm_ (by simp only [putAll, Act.put, List.setIfInBounds_toArray, List.set_cons_zero, List.set_cons_succ]) (hCont (v409) _ ⟨hHeld, (by (with_reducible repeat (first | apply Kd.R_alloc | apply Kd.R_drewN | apply Kd.R_drew)); exact Kd.R_mono HO410.out (fun _ hk => ⟨hk.1.1, hk.2⟩)), (by (with_reducible repeat (first | apply Kd.V_alloc | apply Kd.V_drewN | apply Kd.V_drew)); exact Kd.V_mono HO_365002.out (fun _ hk => ⟨hk.1.1, ⟨hk.2, ⟨hk.1.2.1, ⟨hk.1.2.2.2.2, ⟨hk.1.2.2.1, hk.1.2.2.2.1⟩⟩⟩⟩⟩)), (pk HO_6), (pkC BK356), (pkC BK364), (pkS65 HI0), (pkK HK), (pkBS65 HB)⟩)
               ·skip
                refine goes_ Tryd.func52 (by kernel_rfl) rfl #[.pointer (some ⟨g, 0, none⟩), .int .i64 24] (by rfl) rfl rfl (by (try simp only [List.map_toArray, List.map_cons, List.map_nil]); first | done | rfl | (simp only [List.length_drop, List.length_take]; rfl)) ?_
                with_reducible refine (spec_l1Cur_pick.calls g s0_0 x1001_57 x1002_57 24 t411 t412 t413 w0 _ ?side1 ?side2 A71.out).mono ?_
                (case side1 => exact pkS65 HI0)
                (case side2 => exact pkBS65 HB)
                rintro e w77 ⟨rfl, hi, hb, hk⟩
                refine ⟨_, rfl, ?_⟩
                replace HO_6 := am (Kd.R_mono (Kd.R_keep (IsS65.apart (pkS65 HI0) (pk HO_6) (by decide)) hk (fun _ h => h.2)) (fun _ h => h.1))
                replace HO_365002 := am (Kd.V_mono (Kd.V_keep (Kd.V_mono (ok := fun k_ => (((w.heap.size ≤ k_)) ∧ (some k_ ≠ (u6 : Value).ownBlock ∧ (k_ ≠ gb356 ∧ (k_ ≠ gb364 ∧ k_ ≠ g))))) (pk HO_365002) (fun k_ hk_ => (⟨hk_, hk_.2.2.2.2⟩ : _ ∧ k_ ≠ g))) hk (fun _ h => h.2)) (fun _ h => h.1))
                replace BK356 := am (KeepBut.blk hk (pkC BK356) NB356_0.out (by simp))
                replace BK364 := am (KeepBut.blk hk (pkC BK364) NB364_0.out (by simp))
                replace HK := am (ktk (pkK HK) hk)
                replace HB := am (hb)
                replace HI0 := am (hi)
                (try clear hb)
                (try clear hb2)
                (try clear hk)
                (try clear hi)
                refine hK.out _ _ ⟨(blk_cell BK364.out 0).trans rfl, (blk_cell BK364.out 1).trans rfl, (blk_cell BK364.out 2).trans rfl⟩ (fun hHeld => ?_)
                clear hK K
                refine norm_ (a' := ?_) ?_ ?_
                rotate_left
                ·show Act.put _ (some 60) _ = _
                 simp only [Act.put, pp_]
                 rfl
                refine pi_ (i := 6) (N := some 61) (v := ?_) (a' := ?_) (bm 13 119) rfl rfl HT_ (by kernel_rfl) (fun _ _ _ h => h) (Or.inl ⟨by rfl, ?_⟩) ?_ ?_
                rotate_left
                ·intro w'
                 go_simp
                 with_reducible rfl
                rotate_left
                ·simp only [Act.put, pp_]
                 rfl
                refine pi_ (i := 7) (N := some 62) (v := ?_) (a' := ?_) (bm 13 247) rfl rfl HT_ (by kernel_rfl) (fun _ _ _ h => h) (Or.inl ⟨by rfl, ?_⟩) ?_ ?_
                rotate_left
                ·intro w'
                 go_simp
                 with_reducible rfl
                rotate_left
                ·simp only [Act.put, pp_]
                 rfl
                refine one_ (i := 3) (N := some 58) (bm 13 255) rfl rfl (one_of HT_.out (by kernel_rfl)) (by decide) (fun K hK => ?_)
                refine Kd.R_lit_step (Kd.int .i64) _ 3 ?hg (N := 58) ?hd (xs := ([1, 0, 2, 3, 4611686018427387904, (-1)] : List Int)) (inner := [.int .i64 1, .int .i64 0, .int .i64 2, .int .i64 3, .int .i64 4611686018427387904, .int .i64 (-1)]) (ok := fun _ => True) (okp := fun _ => True) ?hr ?hp (fun _ hk => hk) trivial (Below.refl _ _) (Nat.le_refl _) (by simp) ?_; (case hd => rfl); (case hg => rfl); (case hr => first | (go_simp; done) | (go_simp; rfl)); (case hp => exact (Reps.one (show Kd.M (Kd.int .i64) _ _ _ 1 [.int .i64 1] from rfl) (Reps.one (show Kd.M (Kd.int .i64) _ _ _ 0 [.int .i64 0] from rfl) (Reps.one (show Kd.M (Kd.int .i64) _ _ _ 2 [.int .i64 2] from rfl) (Reps.one (show Kd.M (Kd.int .i64) _ _ _ 3 [.int .i64 3] from rfl) (Reps.one (show Kd.M (Kd.int .i64) _ _ _ 4611686018427387904 [.int .i64 4611686018427387904] from rfl) (Reps.one (show Kd.M (Kd.int .i64) _ _ _ (-1) [.int .i64 (-1)] from rfl) (Reps.none _ _))))))))
                intro v409 w78 ho79 hb hg_ hnew_
                clear hg_ hnew_
                (first | rw [← Ny408.out] at ho79 | (simp only [Int.reduceToNat] at ho79; rw [← Ny408.out] at ho79))
                have HO410 := am (Kd.R_lower (Kd.R_new' (Kd.R_newM (M := fun k_ => (w.heap.size ≤ k_)) ho79 (keep_size (pkK HK)) (fun k_ h_ => h_)) (Kd.R_lt (pk HO_6))) (keep_size (pkK HK)))
                replace HO_6 := am (Kd.R_elder' (pk HO_6) (Kd.R_base ho79) hb)
                replace HO_365002 := am (Kd.V_elder' (pk HO_365002) (Kd.R_base ho79) hb)
                replace BK356 := am (blk_below (pkC BK356) hb)
                replace BK364 := am (blk_below (pkC BK364) hb)
                replace HI0 := am (IsS65.below (pkS65 HI0) hb)
                replace HK := am (ktb (pkK HK) hb)
                replace HB := am (below_step (pkBS65 HB) hb)
                clear hb ho79
                refine hK.out _ _ ⟨(blk_cell BK364.out 0).trans rfl, (blk_cell BK364.out 1).trans rfl, (blk_cell BK364.out 2).trans rfl⟩ (fun hHeld => ?_)
                clear hK K
                refine norm_ (a' := ?_) ?_ ?_
                rotate_left
                ·show Act.put _ (some 58) _ = _
                 simp only [Act.put, pp_]
                 rfl
                exact norm_ (by simp only [putAll, Act.put, List.setIfInBounds_toArray, List.set_cons_zero, List.set_cons_succ]) (hCont (v409) _ ⟨hHeld, (by (with_reducible repeat (first | apply Kd.R_alloc | apply Kd.R_drewN | apply Kd.R_drew)); exact Kd.R_mono HO410.out (fun _ hk => ⟨hk.1.1, hk.2⟩)), (by (with_reducible repeat (first | apply Kd.V_alloc | apply Kd.V_drewN | apply Kd.V_drew)); exact Kd.V_mono HO_365002.out (fun _ hk => ⟨hk.1.1, ⟨hk.2, ⟨hk.1.2.1, ⟨hk.1.2.2.2.2, ⟨hk.1.2.2.1, hk.1.2.2.2.1⟩⟩⟩⟩⟩)), (pk HO_6), (pkC BK356), (pkC BK364), (pkS65 HI0), (pkK HK), (pkBS65 HB)⟩)
              rintro v409 w80 ⟨hS_, h0_, h1_, h2_, h3_, h4_, h5_, h6_, h7_⟩
              have n0_ : Aside0 (Kd.R (Kd.int .i64) 3 w80 w.heap.size (fun k_ => (w.heap.size ≤ k_) ∧ some k_ ≠ (u6 : Value).ownBlock) v409 y408) := ⟨h0_⟩
              have n1_ : Aside0 (Kd.V (Kd.int .i64) 3 w80 w.heap.size (fun k_ => (w.heap.size ≤ k_) ∧ some k_ ≠ (v409 : Value).ownBlock ∧ some k_ ≠ (u6 : Value).ownBlock ∧ k_ ≠ g ∧ k_ ≠ gb356 ∧ k_ ≠ gb364) u365002 x365002_33) := ⟨h1_⟩
              have n2_ : Aside0 (Kd.R (Kd.int .i64) 3 w80 w.heap.size (fun k_ => (w.heap.size ≤ k_) ∧ some k_ ≠ (v409 : Value).ownBlock) u6 x6_57) := ⟨h2_⟩
              have n3_ : Aside0 (w80.heap[gb356]? = some (.cells #[.int .i64 0, .bool false, .slice none 0 0] 26 (0, 0))) := ⟨h3_⟩
              have n4_ : Aside0 (w80.heap[gb364]? = some (.cells #[.int .i64 x365000_33, .bool x365001_33, u365002] 26 (0, 0))) := ⟨h4_⟩
              have n5_ : Aside0 (IsS65 w0 w80 g s0_0 t412 t413) := ⟨h5_⟩
              have n6_ : Aside0 (KeepBut w w80 g none) := ⟨h6_⟩
              have n7_ : Aside0 (Below w0.heap.size w0 w80) := ⟨h7_⟩
              clear HO_6 HO_365002 BK356 BK364 HI0 HK HB h0_ h1_ h2_ h3_ h4_ h5_ h6_ h7_
              have HO410 := n0_
              have HO_365002 := n1_
              have HO_6 := n2_
              have BK356 := n3_
              have BK364 := n4_
              have HI0 := n5_
              have HK := n6_
              have HB := n7_
              clear n0_ n1_ n2_ n3_ n4_ n5_ n6_ n7_
              have hHeld : w80.cell? ⟨gb364, 0, none⟩ = some (.int .i64 x365000_33) ∧ w80.cell? ⟨gb364, 1, none⟩ = some (.bool x365001_33) ∧ w80.cell? ⟨gb364, 2, none⟩ = some (u365002) := hS_
              obtain ⟨Ao82, co82, eo82⟩ := Kd.R_slice HO410.out
              (first | subst eo82 | (injection eo82 with f1_ f2_ f3_; have f4_ := f1_.symm; have f5_ := f3_.symm; clear f1_ f2_ f3_; subst f4_; subst f5_))
              have q81 : ((ji72) : Int) ≤ ((y408.length : Int) : Int) := of_decide_eq_true (by first | (with_reducible assumption) | assumption)
              obtain ⟨i081, hi081, _, hsz81, _⟩ := info_parts info3
              have hroom81 : y408.length ≤ co82 := (Kd.R_reads' HO410.out).2.1
              have hC81 : Kd.C (Kd.int .i64) _ Ao82 y408.length y408 := (Kd.R_reads' HO410.out).2.2
              have hcut81 := cut_to (P := Tryd.prog) 24 3 .i64 Tryd.underlying24 hi081 Ao82 y408.length co82 (ji72) (of_decide_eq_true (by first | (with_reducible assumption) | assumption)) q81 hroom81
              have hr81 := Kd.C_take (m := ((ji72) : Int).toNat) hC81 (by omega)
              have hy81 : y414.length = ((ji72) : Int).toNat := (by rw [Ny414.out, List.length_take]; omega)
              rw [← Ny414.out] at hr81
              rw [← hy81] at hcut81
              have HR417 := am hr81
              have HC417 := am (show y414.length ≤ co82 from by omega)
              clear hr81 hC81 hroom81 hi081 hsz81
              have KY81 := am hy81
              clear hy81
              have KL81 := am (show ((ji72) : Int).toNat ≤ y408.length from by omega)
              replace q81 := eq_true q81
              refine norm_ (a' := ?_) ?_ ?_
              rotate_left
              ·simp only [putAll, Act.put, List.setIfInBounds_toArray, List.set_cons_zero, List.set_cons_succ]
               rfl
              refine pi_ (i := 8) (N := some 63) (v := ?_) (a' := ?_) (bm 13 511) rfl rfl HT_ (by kernel_rfl) (fun _ _ _ h => h) (Or.inl ⟨by rfl, ?_⟩) ?_ ?_
              rotate_left
              ·intro w'
               go_simp
               with_reducible rfl
              rotate_left
              ·simp only [Act.put, pp_]
               rfl
              refine one_ (i := 9) (N := some 64) (bm 13 1023) rfl rfl (one_of HT_.out (by kernel_rfl)) (by decide) (fun K hK => ?_)
              refine goes_ Tryd.func51 (by kernel_rfl) rfl #[.pointer (some ⟨g, 0, none⟩), .slice Ao82 y414.length co82] (by rfl) rfl rfl (by (try simp only [List.map_toArray, List.map_cons, List.map_nil]); first | done | rfl | (simp only [List.length_drop, List.length_take]; rfl)) ?_
              with_reducible refine (spec_l1Cur_among.calls g s0_0 t412 t413 _ _ y414 t418 t419 t420 w0 _ ?side1 ?side2 ?side3 ?side4 ?side5 A75.out).mono ?_
              (case side1 => exact pkS65 HI0)
              (case side2 => exact pkBS65 HB)
              (case side3 => repeat (first | exact (by repeat (first | (with_reducible exact HR417.out) | (with_reducible refine Kd.C_alloc ?_ _) | (with_reducible refine Kd.C_drewN ?_ _) | (with_reducible refine Kd.C_drew ?_) | exact HR417.out)) | (with_reducible refine Kd.C_alloc ?_ _) | (with_reducible refine Kd.C_drewN ?_ _) | (with_reducible refine Kd.C_drew ?_)))
              (case side4 => exact HC417.out)
              (case side5 => exact fun ad he_ hn_ hb_ => (IsS65.own_ne HI0.out HO410.out (by decide)) (by subst hb_; first | (rw [he_]; rfl) | (cases he_; rfl) | (simp_all [Value.ownBlock])))
              rintro e w83 ⟨rfl, hi, hb, hk⟩
              refine ⟨_, rfl, ?_⟩
              replace HO_6 := am (Kd.R_mono (Kd.R_keep (IsS65.apart (pkS65 HI0) (pk HO_6) (by decide)) hk (fun _ h => h.2)) (fun _ h => h.1))
              replace HO_365002 := am (Kd.V_mono (Kd.V_keep (Kd.V_mono (ok := fun k_ => (((w.heap.size ≤ k_)) ∧ (some k_ ≠ (.slice Ao82 y408.length co82 : Value).ownBlock ∧ (some k_ ≠ (u6 : Value).ownBlock ∧ (k_ ≠ g ∧ (k_ ≠ gb356 ∧ k_ ≠ gb364)))))) (pk HO_365002) (fun k_ hk_ => (⟨hk_, hk_.2.2.2.1⟩ : _ ∧ k_ ≠ g))) hk (fun _ h => h.2)) (fun _ h => h.1))
              replace BK356 := am (KeepBut.blk hk (pkC BK356) NB356_0.out (by simp))
              replace BK364 := am (KeepBut.blk hk (pkC BK364) NB364_0.out (by simp))
              replace HO410 := am (Kd.R_mono (Kd.R_keep (IsS65.apart (pkS65 HI0) (pk HO410) (by decide)) hk (fun _ h => h.2)) (fun _ h => h.1))
              replace HK := am (ktk (pkK HK) hk)
              replace HB := am (hb)
              replace HI0 := am (hi)
              (try clear hb)
              (try clear hb2)
              (try clear hk)
              (try clear hi)
              obtain ⟨Ao86, co86, eo86⟩ := Kd.V_slice HO_365002.out
              (first | subst eo86 | (injection eo86 with f1_ f2_ f3_; have f4_ := f1_.symm; have f5_ := f3_.symm; clear f1_ f2_ f3_; subst f4_; subst f5_))
              refine hK.out _ _ ⟨(blk_cell BK364.out 0).trans rfl, (blk_cell BK364.out 1).trans rfl, (blk_cell BK364.out 2).trans rfl⟩ (fun hHeld => ?_)
              clear hK K
              refine norm_ (a' := ?_) ?_ ?_
              rotate_left
              ·show Act.put _ (some 64) _ = _
               simp only [Act.put, pp_]
               rfl
              refine one_ (i := 10) (N := none) (bm 13 2047) rfl rfl (one_of HT_.out (by kernel_rfl)) (by decide) (fun K hK => ?_)
              have hs84 : w83.cell? ⟨gb356, 0, none⟩ = some (.int .i64 0) := (blk_cell BK356.out 0).trans rfl
              have hfs84 := blk_frozen BK356.out 0
              have hns84_1 := NB364_356.out
              have hms84_1 := NB356_364.out
              have hs85 : w83.cell? ⟨gb356, 1, none⟩ = some (.bool false) := (blk_cell BK356.out 1).trans rfl
              have hfs85 := blk_frozen BK356.out 1
              have hns85_1 := NB364_356.out
              have hms85_1 := NB356_364.out
              have hs87 : w83.cell? ⟨gb356, 2, none⟩ = some (.slice none 0 0) := (blk_cell BK356.out 2).trans rfl
              have hfs87 := blk_frozen BK356.out 2
              have hns87_1 := NB364_356.out
              have hms87_1 := NB356_364.out
              refine skip_ (w1 := ?_) (by rfl) rfl ?_ ?_
              rotate_left
              ·go_simp
               rfl
              refine hK.out _ _ ⟨((cell_far (p := ⟨gb356, _, none⟩) NB364_356.out _).trans (((cell_far (p := ⟨gb356, _, none⟩) NB364_356.out _).trans (((cell_far (p := ⟨gb356, _, none⟩) NB364_356.out _).trans (hHeld.1)))))), ((cell_far (p := ⟨gb356, _, none⟩) NB364_356.out _).trans (((cell_far (p := ⟨gb356, _, none⟩) NB364_356.out _).trans (((cell_far (p := ⟨gb356, _, none⟩) NB364_356.out _).trans (hHeld.2.1)))))), ((cell_far (p := ⟨gb356, _, none⟩) NB364_356.out _).trans (((cell_far (p := ⟨gb356, _, none⟩) NB364_356.out _).trans (((cell_far (p := ⟨gb356, _, none⟩) NB364_356.out _).trans (hHeld.2.2))))))⟩ (fun hHeld => ?_)
              clear hK K
              refine pi_ (i := 11) (N := some 3) (v := ?_) (a' := ?_) (bm 13 4095) rfl rfl HT_ (by kernel_rfl) (fun _ _ _ h => h) (Or.inl ⟨by rfl, ?_⟩) ?_ ?_
              rotate_left
              ·intro w'
               go_simp
               with_reducible rfl
              rotate_left
              ·simp only [Act.put, pp_]
               rfl
              refine pi_ (i := 12) (N := some 4) (v := ?_) (a' := ?_) (bm 13 8191) rfl rfl HT_ (by kernel_rfl) (fun _ _ _ h => h) (Or.inl ⟨by rfl, ?_⟩) ?_ ?_
              rotate_left
              ·intro w'
               go_simp
               with_reducible rfl
              rotate_left
              ·simp only [Act.put, pp_]
               rfl
              refine done_ (done_of HT_.out (by kernel_rfl)) ?_
              try go_wp2
              refine bodyPost_ret (results_ctt rfl _ _ gb356 26 #[.int .i64 x365000_33, .bool x365001_33, .slice Ao86 x365002_33.length co86] (0, 0) _ rfl (by (with_reducible repeat (first | refine blk_drewN ?_ _ | refine blk_drew ?_ | refine blk_alloc ?_ _)); refine blk_put (cs := #[.int .i64 x365000_33, .bool x365001_33, .slice none 0 0]) ?_ 2 _ rfl; (with_reducible repeat (first | refine blk_drewN ?_ _ | refine blk_drew ?_ | refine blk_alloc ?_ _)); refine blk_put (cs := #[.int .i64 x365000_33, .bool false, .slice none 0 0]) ?_ 1 _ rfl; (with_reducible repeat (first | refine blk_drewN ?_ _ | refine blk_drew ?_ | refine blk_alloc ?_ _)); refine blk_put (cs := #[.int .i64 0, .bool false, .slice none 0 0]) ?_ 0 _ rfl; (with_reducible repeat (first | refine blk_drewN ?_ _ | refine blk_drew ?_ | refine blk_alloc ?_ _)); exact BK356.out) Tryd.underlying26 rfl (by kernel_rfl)) rfl ?_
              exact ⟨_, _, by first | rfl | (simp [errW_none, errW_some] <;> rfl) | (simp only [← hji72]; first | rfl | (simp [errW_none, errW_some] <;> rfl)) | (simp [*, errW_none, errW_some] <;> rfl), by (with_reducible repeat (first | apply Kd.V_alloc | apply Kd.V_drewN | apply Kd.V_drew)); exact Kd.V_mono (Kd.V_far (p := ⟨gb356, 2, none⟩) (Kd.V_far (p := ⟨gb356, 1, none⟩) (Kd.V_far (p := ⟨gb356, 0, none⟩) (Kd.V_mono HO_365002.out (fun k_ hk => (⟨hk, hk.2.2.2.2.1⟩ : _ ∧ k_ ≠ gb356))) (fun _ hk => hk.2) (.int .i64 x365000_33)) (fun _ hk => hk.2) (.bool x365001_33)) (fun _ hk => hk.2) (.slice Ao86 x365002_33.length co86)) (fun _ hk => ⟨hk.1.1, hk.1.2.2.1⟩), by (with_reducible repeat (first | apply Kd.R_alloc | apply Kd.R_drewN | apply Kd.R_drew)); exact Kd.R_mono (Kd.R_far (p := ⟨gb356, 2, none⟩) (Kd.R_far (p := ⟨gb356, 1, none⟩) (Kd.R_far (p := ⟨gb356, 0, none⟩) (Kd.R_types HO_6.out BK356.out (by decide)) (fun _ hk => hk.2) (.int .i64 x365000_33)) (fun _ hk => hk.2) (.bool x365001_33)) (fun _ hk => hk.2) (.slice Ao86 x365002_33.length co86)) (fun _ hk => hk.1.1), pkS65 HI0, pkBS65 HB, pkK HK⟩
             ·rw [if_neg c74] at H
              exact absurd H (by simp)
            ·rw [if_neg c73] at H
             exact absurd H (by simp)

end Go.Proofs.YtnoipklaebadeaaDoor.PFnPlacings
