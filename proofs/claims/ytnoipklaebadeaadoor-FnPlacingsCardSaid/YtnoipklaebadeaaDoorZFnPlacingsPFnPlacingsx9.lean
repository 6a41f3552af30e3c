import Derived.Test.YtnoipklaebadeaaDoorZFnPlacingsPFnPlacingsx0
import Derived.Test.YtnoipklaebadeaaDoorZFnPlacingsPFnPlacingsx1
import Derived.Test.YtnoipklaebadeaaDoorZFnPlacingsPFnPlacingsx4
import Derived.Test.YtnoipklaebadeaaDoorZFnPlacingsPFnPlacingsx6
import Derived.Test.YtnoipklaebadeaaDoorZFnPlacingsPFnPlacingsx8
namespace Go.Proofs.YtnoipklaebadeaaDoor.PFnPlacings
open Go.RowKit Go.Proofs.YtnoipklaebadeaaDoorW.PrintWords Go.Proofs.YtnoipklaebadeaaDoorW.PrintLast Go.Proofs.YtnoipklaebadeaaDoorW.PrintMore
attribute [local go_sem] max2_int min2_int max_two min_two max_three min_three max_four min_four   -- for this text's walks alone
set_option linter.unusedVariables false
set_option linter.unusedSimpArgs false

/-! ### spec_l1Cur_sparse3: function 50 -/
mutual
def spec_l1Cur_sparse3.l0 : Nat → Int → List Int → Int → Int → Int → Bool → List Int → Option (Int × Bool × List Int × Int × Int)
 | 0, _, _, _, _, _, _, _ => none
 | k + 1, x4, x1000, x1001, x1002, x334000, x334001, x334002 => if x4 > 0 then ((spec_l2Row.f k x334000 x334001 x334002).bind fun t347 => (spec_l1Cur_sparse3.j1 k x4 t347 x1000 x1001 x1002 x334000 x334001 x334002)) else (spec_l1Cur_sparse3.j1 k x4 false x1000 x1001 x1002 x334000 x334001 x334002)
def spec_l1Cur_sparse3.j1 : Nat → Int → Bool → List Int → Int → Int → Int → Bool → List Int → Option (Int × Bool × List Int × Int × Int)
 | 0, _, _, _, _, _, _, _, _ => none
 | k + 1, x4, x18, x1000, x1001, x1002, x334000, x334001, x334002 => if x18 = true then ((spec_l1Cur_pick.f x1000 x1001 x1002 x334000).bind fun bt348 => ((spec_l2With.f k x334000 x334001 x334002 bt348.1).bind fun bt351 => (spec_l1Cur_sparse3.l0 k (wrap64 (x4 - 1)) x1000 bt348.2.1 bt348.2.2 bt351.1 bt351.2.1 bt351.2.2))) else (some (x334000, x334001, x334002, x1001, x1002))
end
def spec_l1Cur_sparse3.f (k : Nat) (s0_0 : List Int) (s0_1 : Int) (s0_2 : Int) : Option (Int × Bool × List Int × Int × Int) := (spec_l1Cur_freeRow.f s0_0 s0_1 s0_2).bind fun bt326 => ((spec_l1Cur_one.f s0_0 bt326.2.2.2.1 bt326.2.2.2.2 4).bind fun bt334 => (if bt334.1 = true then ((spec_l1Cur_row.f k s0_0 bt334.2.1 bt334.2.2).bind fun bt337 => (some (bt337.1, bt337.2.1, bt337.2.2.1, bt337.2.2.2.1, bt337.2.2.2.2))) else ((spec_l1Cur_pick.f s0_0 bt334.2.1 bt334.2.2 4).bind fun bt344 => (spec_l1Cur_sparse3.l0 k bt344.1 s0_0 bt344.2.1 bt344.2.2 bt326.1 bt326.2.1 bt326.2.2.1))))
set_option maxHeartbeats 8000000 in
set_option maxRecDepth 100000 in
theorem spec_l1Cur_sparse3.calls (k : Nat) (g : Nat) (s0_0 : List Int) (s0_1 : Int) (s0_2 : Int) (r1 : Int) (r2 : Bool) (r3 : List Int) (r4 : Int) (r5 : Int) (w0 w : World) (hI : IsS65 w0 w g s0_0 s0_1 s0_2) (hB : Below w0.heap.size w0 w) (h : spec_l1Cur_sparse3.f k s0_0 s0_1 s0_2 = some (r1, r2, r3, r4, r5)) :
  Calls Tryd.prog 50 #[.pointer (some ⟨g, 0, none⟩)] w fun e w' => ∃ v2_ : Value, e = .returned (.agg #[.int .i64 r1, .bool r2, v2_]) ∧ Kd.V (Kd.int .i64) 3 w' w.heap.size (fun k_ => (w.heap.size ≤ k_)) v2_ r3 ∧ IsS65 w0 w' g s0_0 r4 r5 ∧ Below w0.heap.size w0 w' ∧ KeepBut w w' g none := by
 have hu26 := Tryd.underlying26
 have HI0 := am hI
 have HK := am (KeepBut.refl w g none)
 have HL := am hB.size
 clear hI
 have HW0 := am hB.size
 have HB := am hB
 clear hB
 have H : ((spec_l1Cur_freeRow.f s0_0 s0_1 s0_2).bind fun bt326 => ((spec_l1Cur_one.f s0_0 bt326.2.2.2.1 bt326.2.2.2.2 4).bind fun bt334 => (if bt334.1 = true then ((spec_l1Cur_row.f k s0_0 bt334.2.1 bt334.2.2).bind fun bt337 => (some (bt337.1, bt337.2.1, bt337.2.2.1, bt337.2.2.2.1, bt337.2.2.2.2))) else ((spec_l1Cur_pick.f s0_0 bt334.2.1 bt334.2.2 4).bind fun bt344 => (spec_l1Cur_sparse3.l0 k bt344.1 s0_0 bt344.2.1 bt344.2.2 bt326.1 bt326.2.1 bt326.2.2.1))))) = some (r1, r2, r3, r4, r5) := h
 clear h
 replace H := Option.bind_eq_some_iff.mp H
 obtain ⟨⟨t326, t327, t328, t331, t332⟩, A20, H⟩ := H
 try dsimp only at H
 have A2 := am A20
 clear A20
 replace H := Option.bind_eq_some_iff.mp H
 obtain ⟨⟨t334, t335, t336⟩, A30, H⟩ := H
 try dsimp only at H
 have A3 := am A30
 clear A30
 by_cases c4 : t334 = true
 ·subst c4
  rw [if_pos rfl] at H
  replace H := Option.bind_eq_some_iff.mp H
  obtain ⟨⟨t337, t338, t339, t342, t343⟩, A50, H⟩ := H
  try dsimp only at H
  have A5 := am A50
  clear A50
  simp only [Option.some.injEq, Prod.mk.injEq] at H
  obtain ⟨rfl, rfl, rfl, rfl, rfl⟩ := H
  go_enter Tryd.func50, Tryd.ntmps50
  go_wp2_with (first | ((with_reducible refine gate_dst (N := 2) rfl ?_); refine box_event ?hg (N := 2) ?hd (cs := #[.int .i64 0, .bool false, .slice none 0 0]) (t := 26) ?hr ?_; (case hd => rfl); (case hg => rfl); (case hr => first | (go_simp; done) | (go_simp; rfl)); intro gb325 hg w6 hbox hb; have BK325 := am (hbox); have GW325 := am ((by rw [hg]; exact (keep_size (pkK HK)) : w.heap.size ≤ gb325)); have GE325 := am ((Nat.le_trans HW0.out (by rw [hg]; exact (keep_size (pkK HK)) : w.heap.size ≤ gb325) : w0.heap.size ≤ gb325)); have NB0_325 := am ((by rw [hg]; exact Nat.ne_of_lt (IsS65.lt (show IsS65 w0 _ g s0_0 s0_1 s0_2 from pkS65 HI0)) : g ≠ gb325)); have NB325_0 := am ((by rw [hg]; exact Nat.ne_of_gt (IsS65.lt (show IsS65 w0 _ g s0_0 s0_1 s0_2 from pkS65 HI0)) : gb325 ≠ g)); replace HI0 := am (IsS65.below (pkS65 HI0) hb); replace HK := am (ktb (pkK HK) hb); replace HB := am (below_step (pkBS65 HB) hb); clear hb hbox hg) | (go_at_call 60; (with_reducible refine (spec_l1Cur_freeRow.calls g s0_0 s0_1 s0_2 t326 t327 t328 t331 t332 w0 _ ?side1 ?side2 A2.out).mono ?_); (case side1 => exact pkS65 HI0); (case side2 => exact pkBS65 HB); rintro e w7 ⟨v329, rfl, ho0, hi, hb, hk⟩; have HO330 := am (Kd.R_lower (Kd.R_newM (M := fun k_ => (w.heap.size ≤ k_)) ho0 (keep_size (pkK HK)) (fun k_ h_ => h_)) (keep_size (pkK HK))); replace BK325 := am (KeepBut.blk hk (pkC BK325) NB325_0.out (by simp)); replace HK := am (ktk (pkK HK) hk); replace HB := am (hb); replace HI0 := am (hi)) | ((with_reducible refine gate_dst (N := 3) rfl ?_); refine box_event ?hg (N := 3) ?hd (cs := #[.int .i64 0, .bool false, .slice none 0 0]) (t := 26) ?hr ?_; (case hd => rfl); (case hg => rfl); (case hr => first | (go_simp; done) | (go_simp; rfl)); intro gb333 hg w8 hbox hb; have BK333 := am (hbox); have GW333 := am ((by rw [hg]; exact (keep_size (pkK HK)) : w.heap.size ≤ gb333)); have GE333 := am ((Nat.le_trans HW0.out (by rw [hg]; exact (keep_size (pkK HK)) : w.heap.size ≤ gb333) : w0.heap.size ≤ gb333)); have NB325_333 := am ((by rw [hg]; exact Nat.ne_of_lt (blk_lt (pkC BK325)) : gb325 ≠ gb333)); have NB333_325 := am ((by rw [hg]; exact Nat.ne_of_gt (blk_lt (pkC BK325)) : gb333 ≠ gb325)); have NB0_333 := am ((by rw [hg]; exact Nat.ne_of_lt (IsS65.lt (show IsS65 w0 _ g s0_0 t331 t332 from pkS65 HI0)) : g ≠ gb333)); have NB333_0 := am ((by rw [hg]; exact Nat.ne_of_gt (IsS65.lt (show IsS65 w0 _ g s0_0 t331 t332 from pkS65 HI0)) : gb333 ≠ g)); replace HO330 := am (Kd.R_below (pk HO330) hb); replace HI0 := am (IsS65.below (pkS65 HI0) hb); replace BK325 := am (blk_below (pkC BK325) hb); replace HK := am (ktb (pkK HK) hb); replace HB := am (below_step (pkBS65 HB) hb); clear hb hbox hg; have hnb9 := NB333_325.out; have hnc9 := NB325_333.out; have hnb10 := NB333_0.out; have hnc10 := NB0_333.out; obtain ⟨hcz11_0, hcz11_1, hcz11_2⟩ := bc3 BK333.out; obtain ⟨hfz11_0, hfz11_1, hfz11_2⟩ := bf3 BK333.out; obtain ⟨Ao12, co12, eo12⟩ := Kd.R_slice HO330.out; subst eo12) | (go_at_call 38; (with_reducible refine (spec_l1Cur_one.calls g s0_0 t331 t332 4 true t335 t336 w0 _ ?side1 ?side2 A3.out).mono ?_); (case side1 => exact pkS65 HI0); (case side2 => exact pkBS65 HB); rintro e w13 ⟨rfl, hi, hb, hk⟩; replace BK325 := am (KeepBut.blk hk (g' := gb325) (o := .cells #[.int .i64 0, .bool false, .slice none 0 0] 26 (0, 0)) (by (with_reducible repeat (first | refine blk_drewN ?_ _ | refine blk_drew ?_ | refine blk_alloc ?_ _)); refine blk_far ?_ NB325_333.out _; (with_reducible repeat (first | refine blk_drewN ?_ _ | refine blk_drew ?_ | refine blk_alloc ?_ _)); refine blk_far ?_ NB325_333.out _; (with_reducible repeat (first | refine blk_drewN ?_ _ | refine blk_drew ?_ | refine blk_alloc ?_ _)); refine blk_far ?_ NB325_333.out _; (with_reducible repeat (first | refine blk_drewN ?_ _ | refine blk_drew ?_ | refine blk_alloc ?_ _)); exact BK325.out) NB325_0.out (by simp)); replace HO330 := am (Kd.R_mono (Kd.R_keep (IsS65.apart (show IsS65 w0 _ g s0_0 t331 t332 from pkS65 HI0) (by (with_reducible repeat (first | apply Kd.R_alloc | apply Kd.R_drewN | apply Kd.R_drew)); exact (Kd.R_mono (Kd.R_far (p := ⟨gb333, 2, none⟩) (Kd.R_far (p := ⟨gb333, 1, none⟩) (Kd.R_far (p := ⟨gb333, 0, none⟩) (Kd.R_types HO330.out BK333.out (by decide)) (fun _ hk => hk.2) (.int .i64 t326)) (fun _ hk => hk.2) (.bool t327)) (fun _ hk => hk.2) (.slice Ao12 t328.length co12)) (fun _ h_ => h_.1))) (by decide)) hk (fun _ h => h.2)) (fun _ h => h.1)); replace BK333 := am (KeepBut.blk hk (g' := gb333) (o := .cells #[.int .i64 t326, .bool t327, .slice Ao12 t328.length co12] 26 (0, 0)) (by (with_reducible repeat (first | refine blk_drewN ?_ _ | refine blk_drew ?_ | refine blk_alloc ?_ _)); refine blk_put (cs := #[.int .i64 t326, .bool t327, .slice none 0 0]) ?_ 2 _ rfl; (with_reducible repeat (first | refine blk_drewN ?_ _ | refine blk_drew ?_ | refine blk_alloc ?_ _)); refine blk_put (cs := #[.int .i64 t326, .bool false, .slice none 0 0]) ?_ 1 _ rfl; (with_reducible repeat (first | refine blk_drewN ?_ _ | refine blk_drew ?_ | refine blk_alloc ?_ _)); refine blk_put (cs := #[.int .i64 0, .bool false, .slice none 0 0]) ?_ 0 _ rfl; (with_reducible repeat (first | refine blk_drewN ?_ _ | refine blk_drew ?_ | refine blk_alloc ?_ _)); exact BK333.out) NB333_0.out (by simp)); replace HK := am (ktk (pkK HK) hk); replace HB := am (hb); replace HI0 := am (hi); (try clear hb); (try clear hb2); (try clear hk); (try clear hi)) | (go_at_call 61; (with_reducible refine (spec_l1Cur_row.calls k g s0_0 t335 t336 t337 t338 t339 t342 t343 w0 _ ?side1 ?side2 A5.out).mono ?_); (case side1 => exact pkS65 HI0); (case side2 => exact pkBS65 HB); rintro e w14 ⟨v340, rfl, ho0, hi, hb, hk⟩; have HO341 := am (Kd.R_lower (Kd.R_new' (Kd.R_newM (M := fun k_ => (w.heap.size ≤ k_)) ho0 (keep_size (pkK HK)) (fun k_ h_ => h_)) (Kd.R_lt (pk HO330))) (keep_size (pkK HK))); replace BK325 := am (KeepBut.blk hk (pkC BK325) NB325_0.out (by simp)); replace HO330 := am (Kd.R_mono (Kd.R_told (Kd.R_oldK (IsS65.apart (show IsS65 w0 _ g s0_0 t335 t336 from pkS65 HI0) (pk HO330) (by decide)) hk) (Kd.R_base ho0)) (fun _ h_ => h_.1)); replace BK333 := am (KeepBut.blk hk (pkC BK333) NB333_0.out (by simp)); replace HK := am (ktk (pkK HK) hk); replace HB := am (hb); replace HI0 := am (hi); have hnb15 := NB325_0.out; have hnc15 := NB0_325.out; obtain ⟨hcz16_0, hcz16_1, hcz16_2⟩ := bc3 BK325.out; obtain ⟨hfz16_0, hfz16_1, hfz16_2⟩ := bf3 BK325.out; obtain ⟨Ao17, co17, eo17⟩ := Kd.R_slice HO341.out; subst eo17))
  refine bodyPost_ret (results_cell_row rfl _ _ gb325 26 #[.int .i64 t337, .bool t338, .slice Ao17 t339.length co17] (0, 0) _ rfl (by (with_reducible repeat (first | refine blk_drewN ?_ _ | refine blk_drew ?_ | refine blk_alloc ?_ _)); refine blk_put (cs := #[.int .i64 t337, .bool t338, .slice none 0 0]) ?_ 2 _ rfl; (with_reducible repeat (first | refine blk_drewN ?_ _ | refine blk_drew ?_ | refine blk_alloc ?_ _)); refine blk_put (cs := #[.int .i64 t337, .bool false, .slice none 0 0]) ?_ 1 _ rfl; (with_reducible repeat (first | refine blk_drewN ?_ _ | refine blk_drew ?_ | refine blk_alloc ?_ _)); refine blk_put (cs := #[.int .i64 0, .bool false, .slice none 0 0]) ?_ 0 _ rfl; (with_reducible repeat (first | refine blk_drewN ?_ _ | refine blk_drew ?_ | refine blk_alloc ?_ _)); exact BK325.out) Tryd.underlying26 rfl (by kernel_rfl)) rfl ?_
  exact ⟨_, by first | rfl | (simp [*]; done), Kd.R_V (by (with_reducible repeat (first | apply Kd.R_alloc | apply Kd.R_drewN | apply Kd.R_drew)); exact Kd.R_mono (Kd.R_far (p := ⟨gb325, 2, none⟩) (Kd.R_far (p := ⟨gb325, 1, none⟩) (Kd.R_far (p := ⟨gb325, 0, none⟩) (Kd.R_types HO341.out BK325.out (by decide)) (fun _ hk => hk.2) (.int .i64 t337)) (fun _ hk => hk.2) (.bool t338)) (fun _ hk => hk.2) (.slice Ao17 t339.length co17)) (fun _ hk => hk.1.1.1)), pkS65 HI0, pkBS65 HB, pkK HK⟩
 ·replace c4 := Bool.eq_false_iff.mpr c4
  subst c4
  rw [if_neg (show ¬ (false = true) by decide)] at H
  replace H := Option.bind_eq_some_iff.mp H
  obtain ⟨⟨t344, t345, t346⟩, A180, H⟩ := H
  try dsimp only at H
  have A18 := am A180
  clear A180
  have H' := am H
  clear H
  go_enter Tryd.func50, Tryd.ntmps50
  go_wp2_with (first | ((with_reducible refine gate_dst (N := 2) rfl ?_); refine box_event ?hg (N := 2) ?hd (cs := #[.int .i64 0, .bool false, .slice none 0 0]) (t := 26) ?hr ?_; (case hd => rfl); (case hg => rfl); (case hr => first | (go_simp; done) | (go_simp; rfl)); intro gb325 hg w19 hbox hb; have BK325 := am (hbox); have GW325 := am ((by rw [hg]; exact (keep_size (pkK HK)) : w.heap.size ≤ gb325)); have GE325 := am ((Nat.le_trans HW0.out (by rw [hg]; exact (keep_size (pkK HK)) : w.heap.size ≤ gb325) : w0.heap.size ≤ gb325)); have NB0_325 := am ((by rw [hg]; exact Nat.ne_of_lt (IsS65.lt (show IsS65 w0 _ g s0_0 s0_1 s0_2 from pkS65 HI0)) : g ≠ gb325)); have NB325_0 := am ((by rw [hg]; exact Nat.ne_of_gt (IsS65.lt (show IsS65 w0 _ g s0_0 s0_1 s0_2 from pkS65 HI0)) : gb325 ≠ g)); replace HI0 := am (IsS65.below (pkS65 HI0) hb); replace HK := am (ktb (pkK HK) hb); replace HB := am (below_step (pkBS65 HB) hb); clear hb hbox hg) | (go_at_call 60; (with_reducible refine (spec_l1Cur_freeRow.calls g s0_0 s0_1 s0_2 t326 t327 t328 t331 t332 w0 _ ?side1 ?side2 A2.out).mono ?_); (case side1 => exact pkS65 HI0); (case side2 => exact pkBS65 HB); rintro e w20 ⟨v329, rfl, ho0, hi, hb, hk⟩; have HO330 := am (Kd.R_lower (Kd.R_newM (M := fun k_ => (w.heap.size ≤ k_)) ho0 (keep_size (pkK HK)) (fun k_ h_ => h_)) (keep_size (pkK HK))); replace BK325 := am (KeepBut.blk hk (pkC BK325) NB325_0.out (by simp)); replace HK := am (ktk (pkK HK) hk); replace HB := am (hb); replace HI0 := am (hi)) | ((with_reducible refine gate_dst (N := 3) rfl ?_); refine box_event ?hg (N := 3) ?hd (cs := #[.int .i64 0, .bool false, .slice none 0 0]) (t := 26) ?hr ?_; (case hd => rfl); (case hg => rfl); (case hr => first | (go_simp; done) | (go_simp; rfl)); intro gb333 hg w21 hbox hb; have BK333 := am (hbox); have GW333 := am ((by rw [hg]; exact (keep_size (pkK HK)) : w.heap.size ≤ gb333)); have GE333 := am ((Nat.le_trans HW0.out (by rw [hg]; exact (keep_size (pkK HK)) : w.heap.size ≤ gb333) : w0.heap.size ≤ gb333)); have NB325_333 := am ((by rw [hg]; exact Nat.ne_of_lt (blk_lt (pkC BK325)) : gb325 ≠ gb333)); have NB333_325 := am ((by rw [hg]; exact Nat.ne_of_gt (blk_lt (pkC BK325)) : gb333 ≠ gb325)); have NB0_333 := am ((by rw [hg]; exact Nat.ne_of_lt (IsS65.lt (show IsS65 w0 _ g s0_0 t331 t332 from pkS65 HI0)) : g ≠ gb333)); have NB333_0 := am ((by rw [hg]; exact Nat.ne_of_gt (IsS65.lt (show IsS65 w0 _ g s0_0 t331 t332 from pkS65 HI0)) : gb333 ≠ g)); replace HO330 := am (Kd.R_below (pk HO330) hb); replace HI0 := am (IsS65.below (pkS65 HI0) hb); replace BK325 := am (blk_below (pkC BK325) hb); replace HK := am (ktb (pkK HK) hb); replace HB := am (below_step (pkBS65 HB) hb); clear hb hbox hg; have hnb22 := NB333_325.out; have hnc22 := NB325_333.out; have hnb23 := NB333_0.out; have hnc23 := NB0_333.out; obtain ⟨hcz24_0, hcz24_1, hcz24_2⟩ := bc3 BK333.out; obtain ⟨hfz24_0, hfz24_1, hfz24_2⟩ := bf3 BK333.out; obtain ⟨Ao25, co25, eo25⟩ := Kd.R_slice HO330.out; subst eo25) | (go_at_call 38; (with_reducible refine (spec_l1Cur_one.calls g s0_0 t331 t332 4 false t335 t336 w0 _ ?side1 ?side2 A3.out).mono ?_); (case side1 => exact pkS65 HI0); (case side2 => exact pkBS65 HB); rintro e w26 ⟨rfl, hi, hb, hk⟩; replace BK325 := am (KeepBut.blk hk (g' := gb325) (o := .cells #[.int .i64 0, .bool false, .slice none 0 0] 26 (0, 0)) (by (with_reducible repeat (first | refine blk_drewN ?_ _ | refine blk_drew ?_ | refine blk_alloc ?_ _)); refine blk_far ?_ NB325_333.out _; (with_reducible repeat (first | refine blk_drewN ?_ _ | refine blk_drew ?_ | refine blk_alloc ?_ _)); refine blk_far ?_ NB325_333.out _; (with_reducible repeat (first | refine blk_drewN ?_ _ | refine blk_drew ?_ | refine blk_alloc ?_ _)); refine blk_far ?_ NB325_333.out _; (with_reducible repeat (first | refine blk_drewN ?_ _ | refine blk_drew ?_ | refine blk_alloc ?_ _)); exact BK325.out) NB325_0.out (by simp)); replace HO330 := am (Kd.R_mono (Kd.R_keep (IsS65.apart (show IsS65 w0 _ g s0_0 t331 t332 from pkS65 HI0) (by (with_reducible repeat (first | apply Kd.R_alloc | apply Kd.R_drewN | apply Kd.R_drew)); exact (Kd.R_mono (Kd.R_far (p := ⟨gb333, 2, none⟩) (Kd.R_far (p := ⟨gb333, 1, none⟩) (Kd.R_far (p := ⟨gb333, 0, none⟩) (Kd.R_types HO330.out BK333.out (by decide)) (fun _ hk => hk.2) (.int .i64 t326)) (fun _ hk => hk.2) (.bool t327)) (fun _ hk => hk.2) (.slice Ao25 t328.length co25)) (fun _ h_ => h_.1))) (by decide)) hk (fun _ h => h.2)) (fun _ h => h.1)); replace BK333 := am (KeepBut.blk hk (g' := gb333) (o := .cells #[.int .i64 t326, .bool t327, .slice Ao25 t328.length co25] 26 (0, 0)) (by (with_reducible repeat (first | refine blk_drewN ?_ _ | refine blk_drew ?_ | refine blk_alloc ?_ _)); refine blk_put (cs := #[.int .i64 t326, .bool t327, .slice none 0 0]) ?_ 2 _ rfl; (with_reducible repeat (first | refine blk_drewN ?_ _ | refine blk_drew ?_ | refine blk_alloc ?_ _)); refine blk_put (cs := #[.int .i64 t326, .bool false, .slice none 0 0]) ?_ 1 _ rfl; (with_reducible repeat (first | refine blk_drewN ?_ _ | refine blk_drew ?_ | refine blk_alloc ?_ _)); refine blk_put (cs := #[.int .i64 0, .bool false, .slice none 0 0]) ?_ 0 _ rfl; (with_reducible repeat (first | refine blk_drewN ?_ _ | refine blk_drew ?_ | refine blk_alloc ?_ _)); exact BK333.out) NB333_0.out (by simp)); replace HK := am (ktk (pkK HK) hk); replace HB := am (hb); replace HI0 := am (hi); (try clear hb); (try clear hb2); (try clear hk); (try clear hi)) | (go_at_call 52; (with_reducible refine (spec_l1Cur_pick.calls g s0_0 t335 t336 4 t344 t345 t346 w0 _ ?side1 ?side2 A18.out).mono ?_); (case side1 => exact pkS65 HI0); (case side2 => exact pkBS65 HB); rintro e w27 ⟨rfl, hi, hb, hk⟩; replace BK325 := am (KeepBut.blk hk (pkC BK325) NB325_0.out (by simp)); replace HO330 := am (Kd.R_mono (Kd.R_keep (IsS65.apart (show IsS65 w0 _ g s0_0 t335 t336 from pkS65 HI0) (pk HO330) (by decide)) hk (fun _ h => h.2)) (fun _ h => h.1)); replace BK333 := am (KeepBut.blk hk (pkC BK333) NB333_0.out (by simp)); replace HK := am (ktk (pkK HK) hk); replace HB := am (hb); replace HI0 := am (hi); (try clear hb); (try clear hb2); (try clear hk); (try clear hi)))
  go_loopg [4] k (fun kq v4 w' => ∃ (x4_1 : Int) (x1001_1 : Int) (x1002_1 : Int) (x334000_1 : Int) (x334001_1 : Bool) (x334002_1 : List Int) (u334002 : Value), v4 = .int .i64 x4_1 ∧ Aside0 (spec_l1Cur_sparse3.l0 kq x4_1 s0_0 x1001_1 x1002_1 x334000_1 x334001_1 x334002_1 = some (r1, r2, r3, r4, r5)) ∧ Aside0 (kq ≤ k) ∧ Aside0 (Kd.V (Kd.int .i64) 3 w' w.heap.size (fun k_ => (w.heap.size ≤ k_) ∧ k_ ≠ gb325 ∧ k_ ≠ gb333 ∧ k_ ≠ g) u334002 x334002_1) ∧ Aside0 (w'.heap[gb325]? = some (.cells #[.int .i64 0, .bool false, (.slice none 0 0)] 26 (0, 0))) ∧ Aside0 (w'.heap[gb333]? = some (.cells #[.int .i64 x334000_1, .bool x334001_1, u334002] 26 (0, 0))) ∧ Aside0 (IsS65 w0 w' g s0_0 x1001_1 x1002_1) ∧ Aside0 (KeepBut w w' g none) ∧ Aside0 (Below w0.heap.size w0 w'))
  case atStart => exact ⟨(t344), (t345), (t346), (t326), (t327), (t328), (.slice Ao25 t328.length co25), (by first | rfl | (simp; done) | (simp [*]; done)), H', ⟨Nat.le_refl _⟩, ⟨Kd.R_V (by (with_reducible repeat (first | apply Kd.R_alloc | apply Kd.R_drewN | apply Kd.R_drew)); exact Kd.R_mono (IsS65.apart HI0.out (Kd.R_types (Kd.R_types HO330.out BK325.out (by decide)) BK333.out (by decide)) (by decide)) (fun _ hk => ⟨hk.1.1.1.1, ⟨hk.1.1.2, ⟨hk.1.2, hk.2⟩⟩⟩))⟩, ⟨pkC BK325⟩, ⟨pkC BK333⟩, ⟨pkS65 HI0⟩, ⟨pkK HK⟩, ⟨pkBS65 HB⟩⟩
  case round =>
   clear H'
   try clear c1
   try clear c2
   try clear p2
   try clear c3
   try clear c4
   try clear c5
   try clear c6
   try clear c9
   try clear c10
   try clear c15
   try clear c22
   try clear c23
   try clear hcz11_0
   try clear hcz11_1
   try clear hcz11_2
   try clear hcz16_0
   try clear hcz16_1
   try clear hcz16_2
   try clear hcz24_0
   try clear hcz24_1
   try clear hcz24_2
   try clear hfz11_0
   try clear hfz11_1
   try clear hfz11_2
   try clear hfz16_0
   try clear hfz16_1
   try clear hfz16_2
   try clear hfz24_0
   try clear hfz24_1
   try clear hfz24_2
   obtain ⟨x4_1, x1001_1, x1002_1, x334000_1, x334001_1, x334002_1, u334002, rfl, HA, HK1, HO_334002, BK325, BK333, HI0, HK, HB⟩ := hrel
   cases gk with
   | zero => exact absurd HA.out (by simp [spec_l1Cur_sparse3.l0])
   | succ k1 =>
    have H := HA.out
    clear HA
    simp only [spec_l1Cur_sparse3.l0] at H
    have HC28 := am H
    clear H
    go_upto_region 5 with (fail)
    go_cut [18] (fun v18 wc => ∃ (kq : Nat) (x18_27 : Bool), v18 = .bool x18_27 ∧ Aside0 (spec_l1Cur_sparse3.j1 kq x4_1 x18_27 s0_0 x1001_1 x1002_1 x334000_1 x334001_1 x334002_1 = some (r1, r2, r3, r4, r5)) ∧ Aside0 (kq ≤ k1) ∧ Aside0 (Kd.V (Kd.int .i64) 3 wc w.heap.size (fun k_ => (w.heap.size ≤ k_) ∧ k_ ≠ gb325 ∧ k_ ≠ gb333 ∧ k_ ≠ g) u334002 x334002_1) ∧ Aside0 (wc.heap[gb325]? = some (.cells #[.int .i64 0, .bool false, (.slice none 0 0)] 26 (0, 0))) ∧ Aside0 (wc.heap[gb333]? = some (.cells #[.int .i64 x334000_1, .bool x334001_1, u334002] 26 (0, 0))) ∧ Aside0 (IsS65 w0 wc g s0_0 x1001_1 x1002_1) ∧ Aside0 (KeepBut w wc g none) ∧ Aside0 (Below w0.heap.size w0 wc))
    case first =>
     have H := HC28.out
     clear HC28
     by_cases c29 : x4_1 > 0
     ·rw [if_pos c29] at H
      have c29b0 : decide (0 < x4_1) = true := decide_eq_true c29
      clear c29
      (first | rw [c29b0] | (simp only [i64_w, i32_w]; rw [c29b0]) | rw [c29b1] | skip)
      replace H := Option.bind_eq_some_iff.mp H
      obtain ⟨t347, A300, H⟩ := H
      try dsimp only at H
      have A30 := am A300
      clear A300
      have H' := am H
      clear H
      have hnb31 := NB333_325.out
      have hnc31 := NB325_333.out
      have hnb32 := NB333_0.out
      have hnc32 := NB0_333.out
      obtain ⟨hcz33_0, hcz33_1, hcz33_2⟩ := bc3 BK333.out
      obtain ⟨hfz33_0, hfz33_1, hfz33_2⟩ := bf3 BK333.out
      obtain ⟨Ao34, co34, eo34⟩ := Kd.V_slice HO_334002.out
      subst eo34
      go_wp2_with (first | (go_at_call 45; (with_reducible refine (spec_l2Row.calls k1 x334000_1 x334001_1 _ _ x334002_1 t347 _ ?side1 ?side2 A30.out).mono ?_); (case side1 => repeat (first | exact (Kd.V_reads' HO_334002.out).2.2 | (with_reducible refine Kd.C_alloc ?_ _) | (with_reducible refine Kd.C_drewN ?_ _) | (with_reducible refine Kd.C_drew ?_))); (case side2 => exact (Kd.V_reads' HO_334002.out).2.1); rintro e w35 ⟨rfl, hb⟩; replace HO_334002 := am (Kd.V_below (pk HO_334002) hb); replace BK325 := am (blk_below (pkC BK325) hb); replace BK333 := am (blk_below (pkC BK333) hb); replace HI0 := am (IsS65.below (pkS65 HI0) hb); replace HK := am (ktb (pkK HK) hb); replace HB := am (below_step (pkBS65 HB) hb); (try clear hb); (try clear hb2); (try clear hk); (try clear hi)))
      go_meet
      case rel => exact ⟨_, (t347), (by first | rfl | (simp; done) | (simp [*]; done)), H', ⟨by have := HK1.out; first | omega | exact Nat.le_refl _⟩, ⟨by (with_reducible repeat (first | apply Kd.V_alloc | apply Kd.V_drewN | apply Kd.V_drew)); exact HO_334002.out⟩, ⟨pkC BK325⟩, ⟨pkC BK333⟩, ⟨pkS65 HI0⟩, ⟨pkK HK⟩, ⟨pkBS65 HB⟩⟩
     ·rw [if_neg c29] at H
      have c29b0 : decide (0 < x4_1) = false := decide_eq_false c29
      clear c29
      (first | rw [c29b0] | (simp only [i64_w, i32_w]; rw [c29b0]) | rw [c29b1] | skip)
      have H' := am H
      clear H
      go_wp2
      go_meet
      case rel => exact ⟨_, (false), (by first | rfl | (simp; done) | (simp [*]; done)), H', ⟨by have := HK1.out; first | omega | exact Nat.le_refl _⟩, ⟨by (with_reducible repeat (first | apply Kd.V_alloc | apply Kd.V_drewN | apply Kd.V_drew)); exact HO_334002.out⟩, ⟨pkC BK325⟩, ⟨pkC BK333⟩, ⟨pkS65 HI0⟩, ⟨pkK HK⟩, ⟨pkBS65 HB⟩⟩
    case rest =>
     clear HC28
     try clear c1
     try clear c2
     try clear p2
     try clear c3
     try clear c4
     try clear c5
     try clear c6
     try clear c9
     try clear c10
     try clear c15
     try clear c22
     try clear c23
     try clear c29
     try clear c29b0
     try clear c29b1
     try clear c31
     try clear c32
     try clear hcz11_0
     try clear hcz11_1
     try clear hcz11_2
     try clear hcz16_0
     try clear hcz16_1
     try clear hcz16_2
     try clear hcz24_0
     try clear hcz24_1
     try clear hcz24_2
     try clear hcz33_0
     try clear hcz33_1
     try clear hcz33_2
     try clear hfz11_0
     try clear hfz11_1
     try clear hfz11_2
     try clear hfz16_0
     try clear hfz16_1
     try clear hfz16_2
     try clear hfz24_0
     try clear hfz24_1
     try clear hfz24_2
     try clear hfz33_0
     try clear hfz33_1
     try clear hfz33_2
     try clear p2
     obtain ⟨kq, x18_27, rfl, HA, HJ27, HO_334002, BK325, BK333, HI0, HK, HB⟩ := hcut
     cases kq with
     | zero => exact absurd HA.out (by simp [spec_l1Cur_sparse3.j1])
     | succ kj27 =>
      have H := HA.out
      clear HA
      simp only [spec_l1Cur_sparse3.j1] at H
      by_cases c36 : x18_27 = true
      ·subst c36
       rw [if_pos rfl] at H
       replace H := Option.bind_eq_some_iff.mp H
       obtain ⟨⟨t348, t349, t350⟩, A370, H⟩ := H
       try dsimp only at H
       have A37 := am A370
       clear A370
       replace H := Option.bind_eq_some_iff.mp H
       obtain ⟨⟨t351, t352, t353⟩, A380, H⟩ := H
       try dsimp only at H
       have A38 := am A380
       clear A380
       have H' := am H
       clear H
       try go_wp2
       replace HO_334002 := am (Kd.V_drew HO_334002.out)
       replace BK325 := am (blk_drew BK325.out)
       replace BK333 := am (blk_drew BK333.out)
       replace HI0 := am (IsS65.drew HI0.out)
       replace HK := am (keep_drew HK.out)
       replace HB := am (below_drew1 HB.out)
       refine start_ (n := 7) (S := fun w' => w'.cell? ⟨gb333, 0, none⟩ = some (.int .i64 x334000_1) ∧ w'.cell? ⟨gb333, 1, none⟩ = some (.bool x334001_1) ∧ w'.cell? ⟨gb333, 2, none⟩ = some (u334002)) (ds := [6]) #[false, false, false, false, false, false, false] (by kernel_rfl) rfl rfl ⟨(blk_cell BK333.out 0).trans rfl, (blk_cell BK333.out 1).trans rfl, (blk_cell BK333.out 2).trans rfl⟩ (fun hHeld => ?_)
       generalize wc.drew = w39 at HO_334002 BK325 BK333 HI0 HK HB hHeld ⊢
       refine pure_ (i := 1) (N := some 22) (v := ?_) (a' := ?_) (bm 7 2) rfl rfl (by kernel_rfl) (fun _ _ _ h => h) (Or.inl ⟨by rfl, ?_⟩) ?_ ?_
       rotate_left
       ·intro w'
        go_simp
        with_reducible rfl
       rotate_left
       ·simp only [Act.put, pp_]
        rfl
       refine pure_ (i := 2) (N := some 23) (v := ?_) (a' := ?_) (bm 7 6) rfl rfl (by kernel_rfl) (fun _ _ _ h => h) (Or.inl ⟨by rfl, ?_⟩) ?_ ?_
       rotate_left
       ·intro w'
        go_simp
        with_reducible rfl
       rotate_left
       ·simp only [Act.put, pp_]
        rfl
       refine take_ (i := 0) (N := some 21) (v := ?_) (a' := ?_) (bm 7 7) rfl rfl (by kernel_rfl) (fun _ _ _ h => h) (Or.inl ⟨by rfl, ?_⟩) hHeld ?_ ?_
       rotate_left
       ·rintro w' ⟨s0, s1, s2⟩
        go_simp
        with_reducible rfl
       rotate_left
       ·simp only [Act.put, pp_]
        rfl
       refine take_ (i := 3) (N := some 24) (v := ?_) (a' := ?_) (bm 7 15) rfl rfl (by kernel_rfl) (fun _ _ _ h => h) (Or.inl ⟨by rfl, ?_⟩) hHeld ?_ ?_
       rotate_left
       ·rintro w' ⟨s0, s1, s2⟩
        go_simp
        with_reducible rfl
       rotate_left
       ·simp only [Act.put, pp_]
        rfl
       refine one_ (i := 4) (N := some 25) (bm 7 31) rfl rfl (by kernel_rfl) (by decide) (fun K hK => ?_)
       refine goes_ Tryd.func52 (by kernel_rfl) rfl #[.pointer (some ⟨g, 0, none⟩), .int .i64 x334000_1] (by rfl) rfl rfl (by (try simp only [List.map_toArray, List.map_cons, List.map_nil]); first | done | rfl | (simp only [List.length_drop, List.length_take]; rfl)) ?_
       with_reducible refine (spec_l1Cur_pick.calls g s0_0 x1001_1 x1002_1 x334000_1 t348 t349 t350 w0 _ ?side1 ?side2 A37.out).mono ?_
       (case side1 => exact pkS65 HI0)
       (case side2 => exact pkBS65 HB)
       rintro e w40 ⟨rfl, hi, hb, hk⟩
       refine ⟨_, rfl, ?_⟩
       replace HO_334002 := am (Kd.V_mono (Kd.V_keep (Kd.V_mono (ok := fun k_ => (((w.heap.size ≤ k_)) ∧ (k_ ≠ gb325 ∧ (k_ ≠ gb333 ∧ k_ ≠ g)))) (pk HO_334002) (fun k_ hk_ => (⟨hk_, hk_.2.2.2⟩ : _ ∧ k_ ≠ g))) hk (fun _ h => h.2)) (fun _ h => h.1))
       replace BK325 := am (KeepBut.blk hk (pkC BK325) NB325_0.out (by simp))
       replace BK333 := am (KeepBut.blk hk (pkC BK333) NB333_0.out (by simp))
       replace HK := am (ktk (pkK HK) hk)
       replace HB := am (hb)
       replace HI0 := am (hi)
       (try clear hb)
       (try clear hb2)
       (try clear hk)
       (try clear hi)
       obtain ⟨Ao41, co41, eo41⟩ := Kd.V_slice HO_334002.out
       (first | subst eo41 | (injection eo41 with f1_ f2_ f3_; have f4_ := f1_.symm; have f5_ := f3_.symm; clear f1_ f2_ f3_; subst f4_; subst f5_))
       refine hK.out _ _ ⟨(blk_cell BK333.out 0).trans rfl, (blk_cell BK333.out 1).trans rfl, (blk_cell BK333.out 2).trans rfl⟩ (fun hHeld => ?_)
       clear hK K
       refine norm_ (a' := ?_) ?_ ?_
       rotate_left
       ·show Act.put _ (some 25) _ = _
        simp only [Act.put, pp_]
        rfl
       refine one_ (i := 5) (N := some 26) (bm 7 63) rfl rfl (by kernel_rfl) (by decide) (fun K hK => ?_)
       refine goes_ Tryd.func30 (by kernel_rfl) rfl #[.agg #[.int .i64 x334000_1, .bool x334001_1, .slice Ao41 x334002_1.length co41], .int .i64 t348] (by rfl) rfl rfl (by (try simp only [List.map_toArray, List.map_cons, List.map_nil]); first | done | rfl | (simp only [List.length_drop, List.length_take]; rfl)) ?_
       with_reducible refine (spec_l2With.calls kj27 x334000_1 x334001_1 _ _ x334002_1 t348 t351 t352 t353 _ ?side1 ?side2 A38.out).mono ?_
       (case side1 => repeat (first | exact (Kd.V_reads' HO_334002.out).2.2 | (with_reducible refine Kd.C_alloc ?_ _) | (with_reducible refine Kd.C_drewN ?_ _) | (with_reducible refine Kd.C_drew ?_)))
       (case side2 => exact (Kd.V_reads' HO_334002.out).2.1)
       rintro e w42 ⟨v354, rfl, ho0, hb⟩
       refine ⟨_, rfl, ?_⟩
       have HO355 := am (Kd.V_lower (Kd.V_mono (ok' := fun k_ => (w.heap.size ≤ k_) ∧ k_ ≠ gb325 ∧ k_ ≠ gb333 ∧ k_ ≠ g) ho0 (fun k_ hk_ => ⟨(Nat.le_trans (keep_size (pkK HK)) hk_), (Kd.freshB (pkC BK325) k_ hk_), (Kd.freshB (pkC BK333) k_ hk_), (IsS65.fresh (pkS65 HI0) k_ hk_)⟩)) (keep_size (pkK HK)))
       replace HO_334002 := am (Kd.V_below (pk HO_334002) hb)
       replace BK325 := am (blk_below (pkC BK325) hb)
       replace BK333 := am (blk_below (pkC BK333) hb)
       replace HI0 := am (IsS65.below (pkS65 HI0) hb)
       replace HK := am (ktb (pkK HK) hb)
       replace HB := am (below_step (pkBS65 HB) hb)
       (try clear hb)
       (try clear hb2)
       (try clear hk)
       (try clear hi)
       (try clear ho0)
       obtain ⟨Ao45, co45, eo45⟩ := Kd.V_slice HO355.out
       (first | subst eo45 | (injection eo45 with f1_ f2_ f3_; have f4_ := f1_.symm; have f5_ := f3_.symm; clear f1_ f2_ f3_; subst f4_; subst f5_))
       refine hK.out _ _ ⟨(blk_cell BK333.out 0).trans rfl, (blk_cell BK333.out 1).trans rfl, (blk_cell BK333.out 2).trans rfl⟩ (fun hHeld => ?_)
       clear hK K
       refine norm_ (a' := ?_) ?_ ?_
       rotate_left
       ·show Act.put _ (some 26) _ = _
        simp only [Act.put, pp_]
        rfl
       refine last_ (i := 6) (N := none) (bm 7 127) rfl rfl (by kernel_rfl) (by decide) (fun K hK => ?_)
       have hs43 : w42.cell? ⟨gb333, 0, none⟩ = some (.int .i64 x334000_1) := (blk_cell BK333.out 0).trans rfl
       have hfs43 := blk_frozen BK333.out 0
       have hns43_0 := NB325_333.out
       have hms43_0 := NB333_325.out
       have hs44 : w42.cell? ⟨gb333, 1, none⟩ = some (.bool x334001_1) := (blk_cell BK333.out 1).trans rfl
       have hfs44 := blk_frozen BK333.out 1
       have hns44_0 := NB325_333.out
       have hms44_0 := NB333_325.out
       have hs46 : w42.cell? ⟨gb333, 2, none⟩ = some (.slice Ao41 x334002_1.length co41) := (blk_cell BK333.out 2).trans rfl
       have hfs46 := blk_frozen BK333.out 2
       have hns46_0 := NB325_333.out
       have hms46_0 := NB333_325.out
       refine skip_ (w1 := ?_) (by rfl) rfl ?_ ?_
       rotate_left
       ·go_simp
        rfl
       refine hK.out _ _ ?_
       clear hK K
       refine done_ (by kernel_rfl) ?_
       try go_wp2
       go_roundg kj27
       case measure => have := HK1.out; have := HJ27.out; omega
       case rel => exact ⟨(wrap64 (x4_1 - 1)), (t349), (t350), (t351), (t352), (t353), (.slice Ao45 t353.length co45), (by first | rfl | (simp; done) | (simp [*]; done)), H', ⟨by have := HK1.out; have := HJ27.out; omega⟩, ⟨by (with_reducible repeat (first | apply Kd.V_alloc | apply Kd.V_drewN | apply Kd.V_drew)); exact Kd.V_mono (Kd.V_far (p := ⟨gb333, 2, none⟩) (Kd.V_far (p := ⟨gb333, 1, none⟩) (Kd.V_far (p := ⟨gb333, 0, none⟩) (Kd.V_mono HO355.out (fun k_ hk => (⟨hk, hk.2.2.1⟩ : _ ∧ k_ ≠ gb333))) (fun _ hk => hk.2) (.int .i64 t351)) (fun _ hk => hk.2) (.bool t352)) (fun _ hk => hk.2) (.slice Ao45 t353.length co45)) (fun _ hk => ⟨hk.1.1, ⟨hk.1.2.1, ⟨hk.1.2.2.1, hk.1.2.2.2⟩⟩⟩)⟩, ⟨by (with_reducible repeat (first | refine blk_drewN ?_ _ | refine blk_drew ?_ | refine blk_alloc ?_ _)); refine blk_far ?_ NB325_333.out _; (with_reducible repeat (first | refine blk_drewN ?_ _ | refine blk_drew ?_ | refine blk_alloc ?_ _)); refine blk_far ?_ NB325_333.out _; (with_reducible repeat (first | refine blk_drewN ?_ _ | refine blk_drew ?_ | refine blk_alloc ?_ _)); refine blk_far ?_ NB325_333.out _; (with_reducible repeat (first | refine blk_drewN ?_ _ | refine blk_drew ?_ | refine blk_alloc ?_ _)); exact BK325.out⟩, ⟨by (with_reducible repeat (first | refine blk_drewN ?_ _ | refine blk_drew ?_ | refine blk_alloc ?_ _)); refine blk_put (cs := #[.int .i64 t351, .bool t352, .slice Ao41 x334002_1.length co41]) ?_ 2 _ rfl; (with_reducible repeat (first | refine blk_drewN ?_ _ | refine blk_drew ?_ | refine blk_alloc ?_ _)); refine blk_put (cs := #[.int .i64 t351, .bool x334001_1, .slice Ao41 x334002_1.length co41]) ?_ 1 _ rfl; (with_reducible repeat (first | refine blk_drewN ?_ _ | refine blk_drew ?_ | refine blk_alloc ?_ _)); refine blk_put (cs := #[.int .i64 x334000_1, .bool x334001_1, .slice Ao41 x334002_1.length co41]) ?_ 0 _ rfl; (with_reducible repeat (first | refine blk_drewN ?_ _ | refine blk_drew ?_ | refine blk_alloc ?_ _)); exact BK333.out⟩, ⟨pkS65 HI0⟩, ⟨pkK HK⟩, ⟨pkBS65 HB⟩⟩
      ·replace c36 := Bool.eq_false_iff.mpr c36
       subst c36
       rw [if_neg (show ¬ (false = true) by decide)] at H
       simp only [Option.some.injEq, Prod.mk.injEq] at H
       obtain ⟨rfl, rfl, rfl, rfl, rfl⟩ := H
       have hnb47 := NB333_325.out
       have hnc47 := NB325_333.out
       have hnb48 := NB333_0.out
       have hnc48 := NB0_333.out
       obtain ⟨hcz49_0, hcz49_1, hcz49_2⟩ := bc3 BK333.out
       obtain ⟨hfz49_0, hfz49_1, hfz49_2⟩ := bf3 BK333.out
       have hnb50 := NB325_0.out
       have hnc50 := NB0_325.out
       obtain ⟨hcz51_0, hcz51_1, hcz51_2⟩ := bc3 BK325.out
       obtain ⟨hfz51_0, hfz51_1, hfz51_2⟩ := bf3 BK325.out
       obtain ⟨Ao52, co52, eo52⟩ := Kd.V_slice HO_334002.out
       subst eo52
       go_wp2
       refine bodyPost_ret (results_cell_row rfl _ _ gb325 26 #[.int .i64 x334000_1, .bool x334001_1, .slice Ao52 x334002_1.length co52] (0, 0) _ rfl (by (with_reducible repeat (first | refine blk_drewN ?_ _ | refine blk_drew ?_ | refine blk_alloc ?_ _)); refine blk_put (cs := #[.int .i64 x334000_1, .bool x334001_1, .slice none 0 0]) ?_ 2 _ rfl; (with_reducible repeat (first | refine blk_drewN ?_ _ | refine blk_drew ?_ | refine blk_alloc ?_ _)); refine blk_put (cs := #[.int .i64 x334000_1, .bool false, .slice none 0 0]) ?_ 1 _ rfl; (with_reducible repeat (first | refine blk_drewN ?_ _ | refine blk_drew ?_ | refine blk_alloc ?_ _)); refine blk_put (cs := #[.int .i64 0, .bool false, .slice none 0 0]) ?_ 0 _ rfl; (with_reducible repeat (first | refine blk_drewN ?_ _ | refine blk_drew ?_ | refine blk_alloc ?_ _)); exact BK325.out) Tryd.underlying26 rfl (by kernel_rfl)) rfl ?_
       exact ⟨_, by first | rfl | (simp [*]; done), by (with_reducible repeat (first | apply Kd.V_alloc | apply Kd.V_drewN | apply Kd.V_drew)); exact Kd.V_mono (Kd.V_far (p := ⟨gb325, 2, none⟩) (Kd.V_far (p := ⟨gb325, 1, none⟩) (Kd.V_far (p := ⟨gb325, 0, none⟩) (Kd.V_mono HO_334002.out (fun k_ hk => (⟨hk, hk.2.1⟩ : _ ∧ k_ ≠ gb325))) (fun _ hk => hk.2) (.int .i64 x334000_1)) (fun _ hk => hk.2) (.bool x334001_1)) (fun _ hk => hk.2) (.slice Ao52 x334002_1.length co52)) (fun _ hk => hk.1.1), pkS65 HI0, pkBS65 HB, pkK HK⟩

end Go.Proofs.YtnoipklaebadeaaDoor.PFnPlacings
