import Derived.Test.YtnoipklaebadeaaDoorZFnPlacingsPFnPlacingsx0
import Derived.Test.YtnoipklaebadeaaDoorZFnPlacingsPFnPlacingsx1
import Derived.Test.YtnoipklaebadeaaDoorZFnPlacingsPFnPlacingsx4
import Derived.Test.YtnoipklaebadeaaDoorZFnPlacingsPFnPlacingsx6
import Derived.Test.YtnoipklaebadeaaDoorZFnPlacingsPFnPlacingsx10
namespace Go.Proofs.YtnoipklaebadeaaDoor.PFnPlacings
open Go.RowKit Go.Proofs.YtnoipklaebadeaaDoorW.PrintWords Go.Proofs.YtnoipklaebadeaaDoorW.PrintLast Go.Proofs.YtnoipklaebadeaaDoorW.PrintMore
attribute [local go_sem] max2_int min2_int max_two min_two max_three min_three max_four min_four   -- for this text's walks alone
set_option linter.unusedVariables false
set_option linter.unusedSimpArgs false

/-! ### spec_l1Most: function 53 -/
def spec_l1Most.f (a0 : Int) (a1 : Int) : Option (Int) := if a0 > a1 then (some a0) else (some a1)
set_option maxHeartbeats 8000000 in
set_option maxRecDepth 100000 in
theorem spec_l1Most.calls (a0 : Int) (a1 : Int) (r : Int) (w : World) (h : spec_l1Most.f a0 a1 = some r) :
  Calls Tryd.prog 53 #[.int .i64 a0, .int .i64 a1] w fun e w' => e = .returned (.int .i64 r) ∧ Drawn0 w w' := by
 have H : (if a0 > a1 then (some a0) else (some a1)) = some r := h
 clear h
 by_cases c3 : a0 > a1
 ·rw [if_pos c3] at H
  have c3b0 : decide (a1 < a0) = true := decide_eq_true c3
  clear c3
  obtain rfl := Option.some.inj H
  go_enter Tryd.func53, Tryd.ntmps53
  go_wp2
  go_ret
  exact ⟨by first | rfl | (simp; done) | (simp [*]; done), by repeat (first | exact Drawn0.refl _ | apply Drawn0.step)⟩
 ·rw [if_neg c3] at H
  have c3b0 : decide (a1 < a0) = false := decide_eq_false c3
  clear c3
  obtain rfl := Option.some.inj H
  go_enter Tryd.func53, Tryd.ntmps53
  go_wp2
  go_ret
  exact ⟨by first | rfl | (simp; done) | (simp [*]; done), by repeat (first | exact Drawn0.refl _ | apply Drawn0.step)⟩

/-! ### spec_l1Cur_seat: function 39 -/
def spec_l1Cur_seat.f (s0_0 : List Int) (s0_1 : Int) (s0_2 : Int) (a1_0 : Int) (a1_1 : Bool) (l1_2 : List Int) : Option (Int × Int × Int) := (spec_l1Cur_one.f s0_0 s0_1 s0_2 30).bind fun bt448 => (if bt448.1 = true then ((spec_l1Cur_among.f s0_0 bt448.2.1 bt448.2.2 (([(-1), 0, a1_0, 4611686018427387904] : List Int))).bind fun bt454 => (some (bt454.1, bt454.2.1, bt454.2.2))) else ((spec_l1Least.f a1_0 24).bind fun t457 => ((spec_l1Most.f t457 1).bind fun t458 => ((spec_l1Cur_pick.f s0_0 bt448.2.1 bt448.2.2 t458).bind fun bt459 => (some (bt459.1, bt459.2.1, bt459.2.2))))))
set_option maxHeartbeats 8000000 in
set_option maxRecDepth 100000 in
theorem spec_l1Cur_seat.calls (g : Nat) (s0_0 : List Int) (s0_1 : Int) (s0_2 : Int) (a1_0 : Int) (a1_1 : Bool) (A1_2 : Option Addr) (c1_2 : Nat) (l1_2 : List Int) (r1 : Int) (r2 : Int) (r3 : Int) (w0 w : World) (hI : IsS65 w0 w g s0_0 s0_1 s0_2) (hB : Below w0.heap.size w0 w) (hr1_2 : Kd.C (Kd.int .i64) w A1_2 l1_2.length l1_2) (hc1_2 : l1_2.length ≤ c1_2) (hf1_2 : ∀ ad, A1_2 = some ad → 0 < l1_2.length → ad.block ≠ g) (h : spec_l1Cur_seat.f s0_0 s0_1 s0_2 a1_0 a1_1 l1_2 = some (r1, r2, r3)) :
  Calls Tryd.prog 39 #[.pointer (some ⟨g, 0, none⟩), .agg #[.int .i64 a1_0, .bool a1_1, .slice A1_2 l1_2.length c1_2]] w fun e w' => e = .returned (.int .i64 r1) ∧ IsS65 w0 w' g s0_0 r2 r3 ∧ Below w0.heap.size w0 w' ∧ KeepBut w w' g none := by
 have hu26 := Tryd.underlying26
 have HR1_2 := am hr1_2
 have HC1_2 := am hc1_2
 clear hr1_2 hc1_2
 have HI0 := am hI
 have HK := am (KeepBut.refl w g none)
 have HL := am hB.size
 clear hI
 have HW0 := am hB.size
 have HB := am hB
 clear hB
 have H : ((spec_l1Cur_one.f s0_0 s0_1 s0_2 30).bind fun bt448 => (if bt448.1 = true then ((spec_l1Cur_among.f s0_0 bt448.2.1 bt448.2.2 (([(-1), 0, a1_0, 4611686018427387904] : List Int))).bind fun bt454 => (some (bt454.1, bt454.2.1, bt454.2.2))) else ((spec_l1Least.f a1_0 24).bind fun t457 => ((spec_l1Most.f t457 1).bind fun t458 => ((spec_l1Cur_pick.f s0_0 bt448.2.1 bt448.2.2 t458).bind fun bt459 => (some (bt459.1, bt459.2.1, bt459.2.2))))))) = some (r1, r2, r3) := h
 clear h
 replace H := Option.bind_eq_some_iff.mp H
 obtain ⟨⟨t448, t449, t450⟩, A30, H⟩ := H
 try dsimp only at H
 have A3 := am A30
 clear A30
 by_cases c4 : t448 = true
 ·subst c4
  rw [if_pos rfl] at H
  obtain ⟨y451, hy451⟩ : ∃ y_ : List Int, y_ = (([(-1), 0, a1_0, 4611686018427387904] : List Int)) := ⟨_, rfl⟩
  replace H : ((spec_l1Cur_among.f s0_0 t449 t450 y451).bind fun bt454 => (some (bt454.1, bt454.2.1, bt454.2.2))) = some (r1, r2, r3) := by first | (rw [hy451]; with_reducible exact H) | (have H2_ := (Option.bind_some _ _).symm.trans H; rw [hy451]; with_reducible exact H2_) | (have H2_ := (Option.bind_some _ _).symm.trans H; with_reducible exact H2_) | with_reducible exact H | (rw [hy451]; exact H) | exact H
  have Ny451 := am hy451
  clear hy451
  replace H := Option.bind_eq_some_iff.mp H
  obtain ⟨⟨t454, t455, t456⟩, A50, H⟩ := H
  try dsimp only at H
  have A5 := am A50
  clear A50
  simp only [Option.some.injEq, Prod.mk.injEq] at H
  obtain ⟨rfl, rfl, rfl⟩ := H
  go_enter Tryd.func39, Tryd.ntmps39
  go_wp2_with (first | ((with_reducible refine gate_dst (N := 3) rfl ?_); refine box_event ?hg (N := 3) ?hd (cs := #[.int .i64 a1_0, .bool a1_1, .slice A1_2 l1_2.length c1_2]) (t := 26) ?hr ?_; (case hd => rfl); (case hg => rfl); (case hr => first | (go_simp; done) | (go_simp; rfl)); intro gb447 hg w6 hbox hb; have BK447 := am (hbox); have GW447 := am ((by rw [hg]; exact (keep_size (pkK HK)) : w.heap.size ≤ gb447)); have GE447 := am ((Nat.le_trans HW0.out (by rw [hg]; exact (keep_size (pkK HK)) : w.heap.size ≤ gb447) : w0.heap.size ≤ gb447)); have NB0_447 := am ((by rw [hg]; exact Nat.ne_of_lt (IsS65.lt (pkS65 HI0)) : g ≠ gb447)); have NB447_0 := am ((by rw [hg]; exact Nat.ne_of_gt (IsS65.lt (pkS65 HI0)) : gb447 ≠ g)); replace HI0 := am (IsS65.below (pkS65 HI0) hb); replace HK := am (ktb (pkK HK) hb); replace HB := am (below_step (pkBS65 HB) hb); clear hb hbox hg) | (go_at_call 38; (with_reducible refine (spec_l1Cur_one.calls g s0_0 s0_1 s0_2 30 true t449 t450 w0 _ ?side1 ?side2 A3.out).mono ?_); (case side1 => exact pkS65 HI0); (case side2 => exact pkBS65 HB); rintro e w7 ⟨rfl, hi, hb, hk⟩; replace BK447 := am (KeepBut.blk hk (pkC BK447) NB447_0.out (by simp)); replace HK := am (ktk (pkK HK) hk); replace HB := am (hb); replace HI0 := am (hi); (try clear hb); (try clear hb2); (try clear hk); (try clear hi); have hnb8 := NB447_0.out; have hnc8 := NB0_447.out; obtain ⟨hcz9_0, hcz9_1, hcz9_2⟩ := bc3 BK447.out; obtain ⟨hfz9_0, hfz9_1, hfz9_2⟩ := bf3 BK447.out) | ((with_reducible refine gate_dst (N := 10) rfl ?_); refine Kd.R_lit (Kd.int .i64) _ 3 ?hg (N := 10) ?hd (xs := ([(-1), 0, a1_0, 4611686018427387904] : List Int)) (inner := [.int .i64 (-1), .int .i64 0, .int .i64 a1_0, .int .i64 4611686018427387904]) (ok := fun _ => True) (okp := fun _ => True) ?hr ?hp (fun _ hk => hk) trivial (Below.refl _ _) (Nat.le_refl _) (by simp) ?_; (case hd => rfl); (case hg => rfl); (case hr => first | (go_simp; done) | (go_simp; rfl)); (case hp => exact (Reps.one (show Kd.M (Kd.int .i64) _ _ _ (-1) [.int .i64 (-1)] from rfl) (Reps.one (show Kd.M (Kd.int .i64) _ _ _ 0 [.int .i64 0] from rfl) (Reps.one (show Kd.M (Kd.int .i64) _ _ _ a1_0 [.int .i64 a1_0] from rfl) (Reps.one (show Kd.M (Kd.int .i64) _ _ _ 4611686018427387904 [.int .i64 4611686018427387904] from rfl) (Reps.none _ _)))))); intro v452 w10 ho11 hb hg_ hnew_; clear hg_ hnew_; (first | rw [← Ny451.out] at ho11 | (simp only [Int.reduceToNat] at ho11; rw [← Ny451.out] at ho11)); have HO453 := am (Kd.R_lower ho11 (keep_size (pkK HK))); replace HI0 := am (IsS65.below (pkS65 HI0) hb); replace BK447 := am (blk_below (pkC BK447) hb); replace HK := am (ktb (pkK HK) hb); replace HB := am (below_step (pkBS65 HB) hb); clear hb ho11; obtain ⟨Ao12, co12, eo12⟩ := Kd.R_slice HO453.out; subst eo12) | (go_at_call 51; (with_reducible refine (spec_l1Cur_among.calls g s0_0 t449 t450 _ _ y451 t454 t455 t456 w0 _ ?side1 ?side2 ?side3 ?side4 ?side5 A5.out).mono ?_); (case side1 => exact pkS65 HI0); (case side2 => exact pkBS65 HB); (case side3 => repeat (first | exact (Kd.R_reads' HO453.out).2.2 | (with_reducible refine Kd.C_alloc ?_ _) | (with_reducible refine Kd.C_drewN ?_ _) | (with_reducible refine Kd.C_drew ?_))); (case side4 => exact (Kd.R_reads' HO453.out).2.1); (case side5 => exact far_slice (IsS65.own_ne HI0.out HO453.out (by decide))); rintro e w13 ⟨rfl, hi, hb, hk⟩; replace BK447 := am (KeepBut.blk hk (pkC BK447) NB447_0.out (by simp)); replace HO453 := am (Kd.R_mono (Kd.R_keep (IsS65.apart (pkS65 HI0) (pk HO453) (by decide)) hk (fun _ h => h.2)) (fun _ h => h.1)); replace HK := am (ktk (pkK HK) hk); replace HB := am (hb); replace HI0 := am (hi); (try clear hb); (try clear hb2); (try clear hk); (try clear hi)))
  go_ret
  exact ⟨by first | rfl | (simp [*]; done), pkS65 HI0, pkBS65 HB, pkK HK⟩
 ·replace c4 := Bool.eq_false_iff.mpr c4
  subst c4
  rw [if_neg (show ¬ (false = true) by decide)] at H
  replace H := Option.bind_eq_some_iff.mp H
  obtain ⟨t457, A140, H⟩ := H
  try dsimp only at H
  have A14 := am A140
  clear A140
  replace H := Option.bind_eq_some_iff.mp H
  obtain ⟨t458, A150, H⟩ := H
  try dsimp only at H
  have A15 := am A150
  clear A150
  replace H := Option.bind_eq_some_iff.mp H
  obtain ⟨⟨t459, t460, t461⟩, A160, H⟩ := H
  try dsimp only at H
  have A16 := am A160
  clear A160
  simp only [Option.some.injEq, Prod.mk.injEq] at H
  obtain ⟨rfl, rfl, rfl⟩ := H
  go_enter Tryd.func39, Tryd.ntmps39
  go_wp2_with (first | ((with_reducible refine gate_dst (N := 3) rfl ?_); refine box_event ?hg (N := 3) ?hd (cs := #[.int .i64 a1_0, .bool a1_1, .slice A1_2 l1_2.length c1_2]) (t := 26) ?hr ?_; (case hd => rfl); (case hg => rfl); (case hr => first | (go_simp; done) | (go_simp; rfl)); intro gb447 hg w17 hbox hb; have BK447 := am (hbox); have GW447 := am ((by rw [hg]; exact (keep_size (pkK HK)) : w.heap.size ≤ gb447)); have GE447 := am ((Nat.le_trans HW0.out (by rw [hg]; exact (keep_size (pkK HK)) : w.heap.size ≤ gb447) : w0.heap.size ≤ gb447)); have NB0_447 := am ((by rw [hg]; exact Nat.ne_of_lt (IsS65.lt (pkS65 HI0)) : g ≠ gb447)); have NB447_0 := am ((by rw [hg]; exact Nat.ne_of_gt (IsS65.lt (pkS65 HI0)) : gb447 ≠ g)); replace HI0 := am (IsS65.below (pkS65 HI0) hb); replace HK := am (ktb (pkK HK) hb); replace HB := am (below_step (pkBS65 HB) hb); clear hb hbox hg) | (go_at_call 38; (with_reducible refine (spec_l1Cur_one.calls g s0_0 s0_1 s0_2 30 false t449 t450 w0 _ ?side1 ?side2 A3.out).mono ?_); (case side1 => exact pkS65 HI0); (case side2 => exact pkBS65 HB); rintro e w18 ⟨rfl, hi, hb, hk⟩; replace BK447 := am (KeepBut.blk hk (pkC BK447) NB447_0.out (by simp)); replace HK := am (ktk (pkK HK) hk); replace HB := am (hb); replace HI0 := am (hi); (try clear hb); (try clear hb2); (try clear hk); (try clear hi); have hnb19 := NB447_0.out; have hnc19 := NB0_447.out; obtain ⟨hcz20_0, hcz20_1, hcz20_2⟩ := bc3 BK447.out; obtain ⟨hfz20_0, hfz20_1, hfz20_2⟩ := bf3 BK447.out) | ((with_reducible refine gate_callee (f := 54) rfl ?_); refine goesL_ (some 15) rfl rfl Tryd.func54 (by kernel_rfl) rfl #[.int .i64 a1_0, .int .i64 24] rfl (by (try simp only [List.map_toArray, List.map_cons, List.map_nil]); first | done | rfl | (simp only [List.length_drop, List.length_take]; rfl)) ?_; (with_reducible refine (spec_l1Least.calls a1_0 24 t457 _ A14.out).mono ?_); rintro e w' ⟨rfl, ⟨nd, rfl⟩⟩; refine ⟨_, rfl, ?_⟩) | ((with_reducible refine gate_callee (f := 53) rfl ?_); refine goesL_ (some 16) rfl rfl Tryd.func53 (by kernel_rfl) rfl #[.int .i64 t457, .int .i64 1] rfl (by (try simp only [List.map_toArray, List.map_cons, List.map_nil]); first | done | rfl | (simp only [List.length_drop, List.length_take]; rfl)) ?_; (with_reducible refine (spec_l1Most.calls t457 1 t458 _ A15.out).mono ?_); rintro e w' ⟨rfl, ⟨nd, rfl⟩⟩; refine ⟨_, rfl, ?_⟩) | (go_at_call 52; (with_reducible refine (spec_l1Cur_pick.calls g s0_0 t449 t450 t458 t459 t460 t461 w0 _ ?side1 ?side2 A16.out).mono ?_); (case side1 => exact pkS65 HI0); (case side2 => exact pkBS65 HB); rintro e w21 ⟨rfl, hi, hb, hk⟩; replace BK447 := am (KeepBut.blk hk (pkC BK447) NB447_0.out (by simp)); replace HK := am (ktk (pkK HK) hk); replace HB := am (hb); replace HI0 := am (hi); (try clear hb); (try clear hb2); (try clear hk); (try clear hi)))
  go_ret
  exact ⟨by first | rfl | (simp [*]; done), pkS65 HI0, pkBS65 HB, pkK HK⟩

/-! ### spec_DrawIsPlacing: function 21 -/
mutual
def spec_DrawIsPlacing.j0 : Nat → List Int → Int → List Int → Bool → List Int → Int → Int → Int → Bool → List Int → Option (Int × Bool × List Int × List Int × Int × List Int)
 | 0, _, _, _, _, _, _, _, _, _, _ => none
 | k + 1, x8, x9, x10, x34, x464000, x464001, x464002, x476000, x476001, x476002 => if x34 = true then (some (x476000, x476001, x476002, x8, x9, x10)) else (spec_DrawIsPlacing.l0 k x8 x9 (([] : List Int)) 0 x464000 x464001 x464002 x476000 x476001 x476002)
def spec_DrawIsPlacing.l0 : Nat → List Int → Int → List Int → Int → List Int → Int → Int → Int → Bool → List Int → Option (Int × Bool × List Int × List Int × Int × List Int)
 | 0, _, _, _, _, _, _, _, _, _, _ => none
 | k + 1, x8, x9, x12, x13, x464000, x464001, x464002, x476000, x476001, x476002 => if x13 < (x8.length : Int) then ((spec_l1Cur_seat.f x464000 x464001 x464002 x476000 x476001 x476002).bind fun bt486 => (if x12.length < 17592186044416 then (spec_DrawIsPlacing.l0 k x8 x9 (x12 ++ [bt486.1]) (wrap64 (x13 + 1)) x464000 bt486.2.1 bt486.2.2 x476000 x476001 x476002) else (none))) else (some (x476000, x476001, x476002, x8, x9, x12))
end
def spec_DrawIsPlacing.f (k : Nat) (l0 : List Int) : Option (Int × Bool × List Int × List Int × Int × List Int) := (spec_l1Cur_groups9.f k l0 0 0).bind fun bt464 => ((spec_FirstPlacing.f k bt464.1 bt464.2.1 bt464.2.2.1 bt464.2.2.2.1 bt464.2.2.2.2.1).bind fun bt476 => (if bt476.2 = true then ((spec_l1Cur_one.f l0 bt464.2.2.2.2.2.1 bt464.2.2.2.2.2.2 2).bind fun bt480 => (spec_DrawIsPlacing.j0 k bt464.2.2.2.1 bt464.2.2.2.2.1 bt476.1 bt480.1 l0 bt480.2.1 bt480.2.2 bt464.1 bt464.2.1 bt464.2.2.1)) else (spec_DrawIsPlacing.j0 k bt464.2.2.2.1 bt464.2.2.2.2.1 bt476.1 false l0 bt464.2.2.2.2.2.1 bt464.2.2.2.2.2.2 bt464.1 bt464.2.1 bt464.2.2.1)))
set_option maxHeartbeats 8000000 in
set_option maxRecDepth 100000 in
theorem spec_DrawIsPlacing.calls (k : Nat) (A0 : Option Addr) (c0 : Nat) (l0 : List Int) (r1 : Int) (r2 : Bool) (r3 : List Int) (r4 : List Int) (r5 : Int) (r6 : List Int) (w : World) (hr0 : Kd.C (Kd.int .u8) w A0 l0.length l0) (hc0 : l0.length ≤ c0) (h : spec_DrawIsPlacing.f k l0 = some (r1, r2, r3, r4, r5, r6)) :
  Calls Tryd.prog 21 #[.slice A0 l0.length c0] w fun e w' => ∃ v2_ v3_ v5_ : Value, e = .returned (.tuple #[.agg #[.int .i64 r1, .bool r2, v2_], v3_, .int .i64 r5, v5_]) ∧ Kd.V (Kd.int .i64) 3 w' w.heap.size (fun k_ => (w.heap.size ≤ k_) ∧ some k_ ≠ (v3_ : Value).ownBlock) v2_ r3 ∧ Kd.R (Kd.int .i64) 3 w' w.heap.size (fun k_ => (w.heap.size ≤ k_)) v3_ r4 ∧ Kd.V (Kd.int .i64) 3 w' w.heap.size (fun k_ => (w.heap.size ≤ k_) ∧ some k_ ≠ (v3_ : Value).ownBlock) v5_ r6 ∧ Below w.heap.size w w' := by
 have hu26 := Tryd.underlying26
 have hu65 := Tryd.underlying65
 have HR0 := am hr0
 have HC0 := am hc0
 clear hr0 hc0
 have HB := am (Below.refl w.heap.size w)
 have H : ((spec_l1Cur_groups9.f k l0 0 0).bind fun bt464 => ((spec_FirstPlacing.f k bt464.1 bt464.2.1 bt464.2.2.1 bt464.2.2.2.1 bt464.2.2.2.2.1).bind fun bt476 => (if bt476.2 = true then ((spec_l1Cur_one.f l0 bt464.2.2.2.2.2.1 bt464.2.2.2.2.2.2 2).bind fun bt480 => (spec_DrawIsPlacing.j0 k bt464.2.2.2.1 bt464.2.2.2.2.1 bt476.1 bt480.1 l0 bt480.2.1 bt480.2.2 bt464.1 bt464.2.1 bt464.2.2.1)) else (spec_DrawIsPlacing.j0 k bt464.2.2.2.1 bt464.2.2.2.2.1 bt476.1 false l0 bt464.2.2.2.2.2.1 bt464.2.2.2.2.2.2 bt464.1 bt464.2.1 bt464.2.2.1)))) = some (r1, r2, r3, r4, r5, r6) := h
 clear h
 replace H := Option.bind_eq_some_iff.mp H
 obtain ⟨⟨t464, t465, t466, t469, t472, t473, t474⟩, A20, H⟩ := H
 try dsimp only at H
 have A2 := am A20
 clear A20
 replace H := Option.bind_eq_some_iff.mp H
 obtain ⟨⟨t476, t479⟩, A30, H⟩ := H
 try dsimp only at H
 have A3 := am A30
 clear A30
 have HC4 := am H
 clear H
 go_enter Tryd.func21, Tryd.ntmps21
 go_upto_region 4 with (first | ((with_reducible refine gate_dst (N := 2) rfl ?_); refine box_event ?hg (N := 2) ?hd (cs := #[.int .i64 0, .bool false, .slice none 0 0]) (t := 26) ?hr ?_; (case hd => rfl); (case hg => rfl); (case hr => first | (go_simp; done) | (go_simp; rfl)); intro gb462 hg w5 hbox hb; have BK462 := am (hbox); have GW462 := am ((by rw [hg]; exact (below_size (pkB HB)) : w.heap.size ≤ gb462)); have GE462 := am ((by rw [hg]; exact (below_size (pkB HB)) : w.heap.size ≤ gb462)); replace HB := am (below_step (pkB HB) hb); clear hb hbox hg) | ((with_reducible refine gate_dst (N := 16) rfl ?_); refine box_event ?hg (N := 16) ?hd (cs := #[.slice A0 l0.length c0, .int .i64 0, .int .u64 0]) (t := 65) ?hr ?_; (case hd => rfl); (case hg => rfl); (case hr => first | (go_simp; done) | (go_simp; rfl)); intro gb463 hg w6 hbox hb; have BK463 := am (hbox); have GW463 := am ((by rw [hg]; exact (below_size (pkB HB)) : w.heap.size ≤ gb463)); have GE463 := am ((by rw [hg]; exact (below_size (pkB HB)) : w.heap.size ≤ gb463)); have NB462_463 := am ((by rw [hg]; exact Nat.ne_of_lt (blk_lt (pkC BK462)) : gb462 ≠ gb463)); have NB463_462 := am ((by rw [hg]; exact Nat.ne_of_gt (blk_lt (pkC BK462)) : gb463 ≠ gb462)); replace BK462 := am (blk_below (pkC BK462) hb); replace HB := am (below_step (pkB HB) hb); clear hb hbox hg) | (go_at_call 37; (with_reducible refine (spec_l1Cur_groups9.calls k gb463 l0 0 0 t464 t465 t466 t469 t472 t473 t474 w _ ?side1 ?side2 A2.out).mono ?_); (case side1 => exact ⟨_, _, (pkC BK463), GE463.out, HR0.out⟩); (case side2 => exact pkB HB); rintro e w7 ⟨v467, v470, rfl, ho0, ho1, hi, hb, hk⟩; have HO468 := am (Kd.V_lower (Kd.V_mono (ok' := fun k_ => (w.heap.size ≤ k_) ∧ some k_ ≠ (v470 : Value).ownBlock ∧ k_ ≠ gb462 ∧ k_ ≠ gb463) ho0 (fun k_ hk_ => ⟨(Nat.le_trans (below_size (pkB HB)) hk_.1), hk_.2, (Kd.freshB (pkC BK462) k_ hk_.1), (IsS65.fresh (by exact ⟨_, _, (pkC BK463), GE463.out, HR0.out⟩) k_ hk_.1)⟩)) (below_size (pkB HB))); have HO471 := am (Kd.R_lower (Kd.R_newM (M := fun k_ => (w.heap.size ≤ k_)) (Kd.R_mono (ok' := fun k_ => True) ho1 (fun _ hk_ => trivial)) (below_size (pkB HB)) (fun k_ h_ => h_)) (below_size (pkB HB))); have HI463 := am (hi); replace BK462 := am (KeepBut.blk hk (pkC BK462) NB462_463.out (by simp)); replace HB := am (hb); (try clear ho1)) | ((with_reducible refine gate_dst (N := 7) rfl ?_); refine box_event ?hg (N := 7) ?hd (cs := #[.int .i64 0, .bool false, .slice none 0 0]) (t := 26) ?hr ?_; (case hd => rfl); (case hg => rfl); (case hr => first | (go_simp; done) | (go_simp; rfl)); intro gb475 hg w8 hbox hb; have BK475 := am (hbox); have GW475 := am ((by rw [hg]; exact (below_size (pkBS65 HB)) : w.heap.size ≤ gb475)); have GE475 := am ((by rw [hg]; exact (below_size (pkBS65 HB)) : w.heap.size ≤ gb475)); have NB462_475 := am ((by rw [hg]; exact Nat.ne_of_lt (blk_lt (pkC BK462)) : gb462 ≠ gb475)); have NB475_462 := am ((by rw [hg]; exact Nat.ne_of_gt (blk_lt (pkC BK462)) : gb475 ≠ gb462)); have NB463_475 := am ((by rw [hg]; exact Nat.ne_of_lt (IsS65.lt (show IsS65 w _ gb463 l0 t473 t474 from pkS65 HI463)) : gb463 ≠ gb475)); have NB475_463 := am ((by rw [hg]; exact Nat.ne_of_gt (IsS65.lt (show IsS65 w _ gb463 l0 t473 t474 from pkS65 HI463)) : gb475 ≠ gb463)); replace HO468 := am (Kd.V_below (Kd.V_elderB (pk HO468) gb475 (Nat.le_of_eq hg.symm)) hb); replace HO471 := am (Kd.R_below (pk HO471) hb); replace BK462 := am (blk_below (pkC BK462) hb); replace HI463 := am (IsS65.below (pkS65 HI463) hb); replace HB := am (below_step (pkBS65 HB) hb); clear hb hbox hg; have hnb9 := NB475_462.out; have hnc9 := NB462_475.out; have hnb10 := NB475_463.out; have hnc10 := NB463_475.out; obtain ⟨hcz11_0, hcz11_1, hcz11_2⟩ := bc3 BK475.out; obtain ⟨hfz11_0, hfz11_1, hfz11_2⟩ := bf3 BK475.out; obtain ⟨Ao12, co12, eo12⟩ := Kd.V_slice HO468.out; subst eo12; obtain ⟨Ao13, co13, eo13⟩ := Kd.R_slice HO471.out; subst eo13) | (go_at_call 15; (with_reducible refine (spec_FirstPlacing.calls k t464 t465 _ _ t466 _ _ t469 t472 t476 t479 _ ?side1 ?side2 ?side3 ?side4 A3.out).mono ?_); (case side1 => refine (Kd.V_reads' (e := 3) (base := w.heap.size) (ok := fun k_ => (((w.heap.size ≤ k_) ∧ (some k_ ≠ (.slice Ao13 t469.length co13 : Value).ownBlock ∧ (k_ ≠ gb462 ∧ k_ ≠ gb463))) ∧ k_ ≠ gb475)) (n := t466.length) (c := co12) ?_).2.2; exact (by (with_reducible repeat (first | apply Kd.V_alloc | apply Kd.V_drewN | apply Kd.V_drew)); exact (Kd.V_mono (Kd.V_far (p := ⟨gb475, 2, none⟩) (Kd.V_far (p := ⟨gb475, 1, none⟩) (Kd.V_far (p := ⟨gb475, 0, none⟩) (Kd.V_mono HO468.out (fun k_ hk => (⟨hk, hk.2⟩ : _ ∧ k_ ≠ gb475))) (fun _ hk => hk.2) (.int .i64 t464)) (fun _ hk => hk.2) (.bool t465)) (fun _ hk => hk.2) (.slice Ao12 t466.length co12)) (fun _ h_ => h_.1)))); (case side2 => exact (Kd.V_reads' HO468.out).2.1); (case side3 => refine (Kd.R_reads' (e := 3) (base := w.heap.size) (ok := fun k_ => ((w.heap.size ≤ k_) ∧ True)) (n := t469.length) (c := co13) ?_).2.2; exact (by (with_reducible repeat (first | apply Kd.R_alloc | apply Kd.R_drewN | apply Kd.R_drew)); exact (Kd.R_mono (Kd.R_far (p := ⟨gb475, 2, none⟩) (Kd.R_far (p := ⟨gb475, 1, none⟩) (Kd.R_far (p := ⟨gb475, 0, none⟩) (Kd.R_types HO471.out BK475.out (by decide)) (fun _ hk => hk.2) (.int .i64 t464)) (fun _ hk => hk.2) (.bool t465)) (fun _ hk => hk.2) (.slice Ao12 t466.length co12)) (fun _ h_ => h_.1)))); (case side4 => exact (Kd.R_reads' HO471.out).2.1); rintro e w14 ⟨v477, rfl, ho0, hb⟩; have HO478 := am (Kd.V_lower (Kd.V_mono (ok' := fun k_ => (w.heap.size ≤ k_) ∧ some k_ ≠ (.slice Ao13 t469.length co13 : Value).ownBlock ∧ k_ ≠ gb462 ∧ k_ ≠ gb475 ∧ k_ ≠ gb463) ho0 (fun k_ hk_ => ⟨(Nat.le_trans (below_size (pkBS65 HB)) hk_), (Kd.fresh' (Kd.R_lt (by (with_reducible repeat (first | apply Kd.R_alloc | apply Kd.R_drewN | apply Kd.R_drew)); exact (Kd.R_mono (Kd.R_far (p := ⟨gb475, 2, none⟩) (Kd.R_far (p := ⟨gb475, 1, none⟩) (Kd.R_far (p := ⟨gb475, 0, none⟩) (Kd.R_types HO471.out BK475.out (by decide)) (fun _ hk => hk.2) (.int .i64 t464)) (fun _ hk => hk.2) (.bool t465)) (fun _ hk => hk.2) (.slice Ao12 t466.length co12)) (fun _ h_ => h_.1)))) k_ hk_), (Kd.freshB (g := gb462) (o := .cells #[.int .i64 0, .bool false, .slice none 0 0] 26 (0, 0)) (by (with_reducible repeat (first | refine blk_drewN ?_ _ | refine blk_drew ?_ | refine blk_alloc ?_ _)); refine blk_far ?_ NB462_475.out _; (with_reducible repeat (first | refine blk_drewN ?_ _ | refine blk_drew ?_ | refine blk_alloc ?_ _)); refine blk_far ?_ NB462_475.out _; (with_reducible repeat (first | refine blk_drewN ?_ _ | refine blk_drew ?_ | refine blk_alloc ?_ _)); refine blk_far ?_ NB462_475.out _; (with_reducible repeat (first | refine blk_drewN ?_ _ | refine blk_drew ?_ | refine blk_alloc ?_ _)); exact BK462.out) k_ hk_), (Kd.freshB (g := gb475) (o := .cells #[.int .i64 t464, .bool t465, .slice Ao12 t466.length co12] 26 (0, 0)) (by (with_reducible repeat (first | refine blk_drewN ?_ _ | refine blk_drew ?_ | refine blk_alloc ?_ _)); refine blk_put (cs := #[.int .i64 t464, .bool t465, .slice none 0 0]) ?_ 2 _ rfl; (with_reducible repeat (first | refine blk_drewN ?_ _ | refine blk_drew ?_ | refine blk_alloc ?_ _)); refine blk_put (cs := #[.int .i64 t464, .bool false, .slice none 0 0]) ?_ 1 _ rfl; (with_reducible repeat (first | refine blk_drewN ?_ _ | refine blk_drew ?_ | refine blk_alloc ?_ _)); refine blk_put (cs := #[.int .i64 0, .bool false, .slice none 0 0]) ?_ 0 _ rfl; (with_reducible repeat (first | refine blk_drewN ?_ _ | refine blk_drew ?_ | refine blk_alloc ?_ _)); exact BK475.out) k_ hk_), (IsS65.fresh (pkS65 HI463) k_ hk_)⟩)) (below_size (pkBS65 HB))); replace HO468 := am (Kd.V_below (by (with_reducible repeat (first | apply Kd.V_alloc | apply Kd.V_drewN | apply Kd.V_drew)); exact (Kd.V_mono (Kd.V_far (p := ⟨gb475, 2, none⟩) (Kd.V_far (p := ⟨gb475, 1, none⟩) (Kd.V_far (p := ⟨gb475, 0, none⟩) (Kd.V_mono HO468.out (fun k_ hk => (⟨hk, hk.2⟩ : _ ∧ k_ ≠ gb475))) (fun _ hk => hk.2) (.int .i64 t464)) (fun _ hk => hk.2) (.bool t465)) (fun _ hk => hk.2) (.slice Ao12 t466.length co12)) (fun _ h_ => h_.1))) hb); replace HO471 := am (Kd.R_below (by (with_reducible repeat (first | apply Kd.R_alloc | apply Kd.R_drewN | apply Kd.R_drew)); exact (Kd.R_mono (Kd.R_far (p := ⟨gb475, 2, none⟩) (Kd.R_far (p := ⟨gb475, 1, none⟩) (Kd.R_far (p := ⟨gb475, 0, none⟩) (Kd.R_types HO471.out BK475.out (by decide)) (fun _ hk => hk.2) (.int .i64 t464)) (fun _ hk => hk.2) (.bool t465)) (fun _ hk => hk.2) (.slice Ao12 t466.length co12)) (fun _ h_ => h_.1))) hb); replace BK462 := am (blk_below (g := gb462) (o := .cells #[.int .i64 0, .bool false, .slice none 0 0] 26 (0, 0)) (by (with_reducible repeat (first | refine blk_drewN ?_ _ | refine blk_drew ?_ | refine blk_alloc ?_ _)); refine blk_far ?_ NB462_475.out _; (with_reducible repeat (first | refine blk_drewN ?_ _ | refine blk_drew ?_ | refine blk_alloc ?_ _)); refine blk_far ?_ NB462_475.out _; (with_reducible repeat (first | refine blk_drewN ?_ _ | refine blk_drew ?_ | refine blk_alloc ?_ _)); refine blk_far ?_ NB462_475.out _; (with_reducible repeat (first | refine blk_drewN ?_ _ | refine blk_drew ?_ | refine blk_alloc ?_ _)); exact BK462.out) hb); replace HI463 := am (IsS65.below (show IsS65 w (((w8.setCell ⟨gb475, 0, none⟩ (.int .i64 t464)).setCell ⟨gb475, 1, none⟩ (.bool t465)).setCell ⟨gb475, 2, none⟩ (.slice Ao12 t466.length co12)) gb463 l0 t473 t474 from pkS65 HI463) hb); replace BK475 := am (blk_below (g := gb475) (o := .cells #[.int .i64 t464, .bool t465, .slice Ao12 t466.length co12] 26 (0, 0)) (by (with_reducible repeat (first | refine blk_drewN ?_ _ | refine blk_drew ?_ | refine blk_alloc ?_ _)); refine blk_put (cs := #[.int .i64 t464, .bool t465, .slice none 0 0]) ?_ 2 _ rfl; (with_reducible repeat (first | refine blk_drewN ?_ _ | refine blk_drew ?_ | refine blk_alloc ?_ _)); refine blk_put (cs := #[.int .i64 t464, .bool false, .slice none 0 0]) ?_ 1 _ rfl; (with_reducible repeat (first | refine blk_drewN ?_ _ | refine blk_drew ?_ | refine blk_alloc ?_ _)); refine blk_put (cs := #[.int .i64 0, .bool false, .slice none 0 0]) ?_ 0 _ rfl; (with_reducible repeat (first | refine blk_drewN ?_ _ | refine blk_drew ?_ | refine blk_alloc ?_ _)); exact BK475.out) hb); replace HB := am (below_step (pkBS65 HB) hb)))
 (try simp only [Act.put, List.setIfInBounds_toArray, List.set_cons_zero, List.set_cons_succ])
 go_cut [34] (fun v34 wc => ∃ (kq : Nat) (x34_3 : Bool) (x464001_3 : Int) (x464002_3 : Int), v34 = .bool x34_3 ∧ Aside0 (spec_DrawIsPlacing.j0 kq t469 t472 t476 x34_3 l0 x464001_3 x464002_3 t464 t465 t466 = some (r1, r2, r3, r4, r5, r6)) ∧ Aside0 (kq ≤ k) ∧ Aside0 (Kd.R (Kd.int .i64) 3 wc w.heap.size (fun k_ => (w.heap.size ≤ k_)) (.slice Ao13 t469.length co13) t469) ∧ Aside0 (Kd.V (Kd.int .i64) 3 wc w.heap.size (fun k_ => (w.heap.size ≤ k_) ∧ some k_ ≠ ((.slice Ao13 t469.length co13) : Value).ownBlock ∧ k_ ≠ gb462 ∧ k_ ≠ gb475 ∧ k_ ≠ gb463) v477 t476) ∧ Aside0 (Kd.V (Kd.int .i64) 3 wc w.heap.size (fun k_ => (w.heap.size ≤ k_) ∧ some k_ ≠ ((.slice Ao13 t469.length co13) : Value).ownBlock ∧ k_ ≠ gb462 ∧ k_ ≠ gb475 ∧ k_ ≠ gb463) (.slice Ao12 t466.length co12) t466) ∧ Aside0 (wc.heap[gb462]? = some (.cells #[.int .i64 0, .bool false, (.slice none 0 0)] 26 (0, 0))) ∧ Aside0 (wc.heap[gb475]? = some (.cells #[.int .i64 t464, .bool t465, (.slice Ao12 t466.length co12)] 26 (0, 0))) ∧ Aside0 (IsS65 w wc gb463 l0 x464001_3 x464002_3) ∧ Aside0 (Below w.heap.size w wc))
 case first =>
  have H := HC4.out
  clear HC4
  by_cases c15 : t479 = true
  ·subst c15
   rw [if_pos rfl] at H
   replace H := Option.bind_eq_some_iff.mp H
   obtain ⟨⟨t480, t481, t482⟩, A160, H⟩ := H
   try dsimp only at H
   have A16 := am A160
   clear A160
   have H' := am H
   clear H
   go_wp2_with (first | (go_at_call 38; (with_reducible refine (spec_l1Cur_one.calls gb463 l0 t473 t474 2 t480 t481 t482 w _ ?side1 ?side2 A16.out).mono ?_); (case side1 => exact pkS65 HI463); (case side2 => exact pkBS65 HB); rintro e w17 ⟨rfl, hi, hb, hk⟩; replace BK462 := am (KeepBut.blk hk (pkC BK462) NB462_463.out (by simp)); replace HO468 := am (Kd.V_mono (Kd.V_keep (Kd.V_mono (ok := fun k_ => ((((w.heap.size ≤ k_)) ∧ (some k_ ≠ (.slice Ao13 t469.length co13 : Value).ownBlock ∧ (k_ ≠ gb462 ∧ k_ ≠ gb463))) ∧ k_ ≠ gb475)) (pk HO468) (fun k_ hk_ => (⟨hk_, hk_.1.2.2.2⟩ : _ ∧ k_ ≠ gb463))) hk (fun _ h => h.2)) (fun _ h => h.1)); replace HO471 := am (Kd.R_mono (Kd.R_keep (IsS65.apart (show IsS65 w _ gb463 l0 t473 t474 from pkS65 HI463) (pk HO471) (by decide)) hk (fun _ h => h.2)) (fun _ h => h.1)); replace BK475 := am (KeepBut.blk hk (pkC BK475) NB475_463.out (by simp)); replace HO478 := am (Kd.V_mono (Kd.V_keep (Kd.V_mono (ok := fun k_ => (((w.heap.size ≤ k_)) ∧ (some k_ ≠ (.slice Ao13 t469.length co13 : Value).ownBlock ∧ (k_ ≠ gb462 ∧ (k_ ≠ gb475 ∧ k_ ≠ gb463))))) (pk HO478) (fun k_ hk_ => (⟨hk_, hk_.2.2.2.2⟩ : _ ∧ k_ ≠ gb463))) hk (fun _ h => h.2)) (fun _ h => h.1)); replace HB := am (hb); replace HI463 := am (hi); (try clear hb); (try clear hb2); (try clear hk); (try clear hi)))
   go_meet
   case rel => exact ⟨_, (t480), (t481), (t482), (by first | rfl | (simp; done) | (simp [*]; done)), H', ⟨by first | omega | exact Nat.le_refl _⟩, ⟨by (with_reducible repeat (first | apply Kd.R_alloc | apply Kd.R_drewN | apply Kd.R_drew)); exact Kd.R_mono HO471.out (fun _ hk => hk.1)⟩, ⟨by (with_reducible repeat (first | apply Kd.V_alloc | apply Kd.V_drewN | apply Kd.V_drew)); exact HO478.out⟩, ⟨by (with_reducible repeat (first | apply Kd.V_alloc | apply Kd.V_drewN | apply Kd.V_drew)); exact Kd.V_mono HO468.out (fun _ hk => ⟨hk.1.1, ⟨hk.1.2.1, ⟨hk.1.2.2.1, ⟨hk.2, hk.1.2.2.2⟩⟩⟩⟩)⟩, ⟨pkC BK462⟩, ⟨pkC BK475⟩, ⟨pkS65 HI463⟩, ⟨pkBS65 HB⟩⟩
  ·replace c15 := Bool.eq_false_iff.mpr c15
   subst c15
   rw [if_neg (show ¬ (false = true) by decide)] at H
   have H' := am H
   clear H
   go_wp2
   go_meet
   case rel => exact ⟨_, (false), (t473), (t474), (by first | rfl | (simp; done) | (simp [*]; done)), H', ⟨by first | omega | exact Nat.le_refl _⟩, ⟨by (with_reducible repeat (first | apply Kd.R_alloc | apply Kd.R_drewN | apply Kd.R_drew)); exact Kd.R_mono HO471.out (fun _ hk => hk.1)⟩, ⟨by (with_reducible repeat (first | apply Kd.V_alloc | apply Kd.V_drewN | apply Kd.V_drew)); exact HO478.out⟩, ⟨by (with_reducible repeat (first | apply Kd.V_alloc | apply Kd.V_drewN | apply Kd.V_drew)); exact Kd.V_mono HO468.out (fun _ hk => ⟨hk.1.1, ⟨hk.1.2.1, ⟨hk.1.2.2.1, ⟨hk.2, hk.1.2.2.2⟩⟩⟩⟩)⟩, ⟨pkC BK462⟩, ⟨pkC BK475⟩, ⟨pkS65 HI463⟩, ⟨pkBS65 HB⟩⟩
 case rest =>
  clear HC4
  try clear c1
  try clear c2
  try clear p2
  try clear c3
  try clear c9
  try clear c10
  try clear c15
  try clear hcz11_0
  try clear hcz11_1
  try clear hcz11_2
  try clear hfz11_0
  try clear hfz11_1
  try clear hfz11_2
  obtain ⟨kq, x34_3, x464001_3, x464002_3, rfl, HA, HJ3, HO_8, HO_10, HO_476002, BK462, BK475, HI463, HB⟩ := hcut
  cases kq with
  | zero => exact absurd HA.out (by simp [spec_DrawIsPlacing.j0])
  | succ kj3 =>
   have H := HA.out
   clear HA
   simp only [spec_DrawIsPlacing.j0] at H
   by_cases c18 : x34_3 = true
   ·subst c18
    rw [if_pos rfl] at H
    simp only [Option.some.injEq, Prod.mk.injEq] at H
    obtain ⟨rfl, rfl, rfl, rfl, rfl, rfl⟩ := H
    have hnb19 := NB475_462.out
    have hnc19 := NB462_475.out
    have hnb20 := NB475_463.out
    have hnc20 := NB463_475.out
    obtain ⟨hcz21_0, hcz21_1, hcz21_2⟩ := bc3 BK475.out
    obtain ⟨hfz21_0, hfz21_1, hfz21_2⟩ := bf3 BK475.out
    have hnb22 := NB462_463.out
    have hnc22 := NB463_462.out
    obtain ⟨hcz23_0, hcz23_1, hcz23_2⟩ := bc3 BK462.out
    obtain ⟨hfz23_0, hfz23_1, hfz23_2⟩ := bf3 BK462.out
    go_wp2
    refine bodyPost_ret (results_list (rs := [.cell 2 26, .tmp 3, .tmp 4, .tmp 5]) rfl (by simp) (.cell gb462 26 #[.int .i64 t464, .bool t465, .slice Ao12 t466.length co12] (0, 0) _ rfl (by (with_reducible repeat (first | refine blk_drewN ?_ _ | refine blk_drew ?_ | refine blk_alloc ?_ _)); refine blk_put (cs := #[.int .i64 t464, .bool t465, .slice none 0 0]) ?_ 2 _ rfl; (with_reducible repeat (first | refine blk_drewN ?_ _ | refine blk_drew ?_ | refine blk_alloc ?_ _)); refine blk_put (cs := #[.int .i64 t464, .bool false, .slice none 0 0]) ?_ 1 _ rfl; (with_reducible repeat (first | refine blk_drewN ?_ _ | refine blk_drew ?_ | refine blk_alloc ?_ _)); refine blk_put (cs := #[.int .i64 0, .bool false, .slice none 0 0]) ?_ 0 _ rfl; (with_reducible repeat (first | refine blk_drewN ?_ _ | refine blk_drew ?_ | refine blk_alloc ?_ _)); exact BK462.out) Tryd.underlying26 rfl (by kernel_rfl) (.tmp (.tmp (.tmp .nil))))) rfl ?_
    exact ⟨_, _, _, by first | rfl | (simp [*]; done), by (with_reducible repeat (first | apply Kd.V_alloc | apply Kd.V_drewN | apply Kd.V_drew)); exact Kd.V_mono (Kd.V_far (p := ⟨gb462, 2, none⟩) (Kd.V_far (p := ⟨gb462, 1, none⟩) (Kd.V_far (p := ⟨gb462, 0, none⟩) (Kd.V_mono HO_476002.out (fun k_ hk => (⟨hk, hk.2.2.1⟩ : _ ∧ k_ ≠ gb462))) (fun _ hk => hk.2) (.int .i64 t464)) (fun _ hk => hk.2) (.bool t465)) (fun _ hk => hk.2) (.slice Ao12 t466.length co12)) (fun _ hk => ⟨hk.1.1, hk.1.2.1⟩), by (with_reducible repeat (first | apply Kd.R_alloc | apply Kd.R_drewN | apply Kd.R_drew)); exact Kd.R_mono (Kd.R_far (p := ⟨gb462, 2, none⟩) (Kd.R_far (p := ⟨gb462, 1, none⟩) (Kd.R_far (p := ⟨gb462, 0, none⟩) (Kd.R_types HO_8.out BK462.out (by decide)) (fun _ hk => hk.2) (.int .i64 t464)) (fun _ hk => hk.2) (.bool t465)) (fun _ hk => hk.2) (.slice Ao12 t466.length co12)) (fun _ hk => hk.1), by (with_reducible repeat (first | apply Kd.V_alloc | apply Kd.V_drewN | apply Kd.V_drew)); exact Kd.V_mono (Kd.V_far (p := ⟨gb462, 2, none⟩) (Kd.V_far (p := ⟨gb462, 1, none⟩) (Kd.V_far (p := ⟨gb462, 0, none⟩) (Kd.V_mono HO_10.out (fun k_ hk => (⟨hk, hk.2.2.1⟩ : _ ∧ k_ ≠ gb462))) (fun _ hk => hk.2) (.int .i64 t464)) (fun _ hk => hk.2) (.bool t465)) (fun _ hk => hk.2) (.slice Ao12 t466.length co12)) (fun _ hk => ⟨hk.1.1, hk.1.2.1⟩), pkBS65 HB⟩
   ·replace c18 := Bool.eq_false_iff.mpr c18
    subst c18
    rw [if_neg (show ¬ (false = true) by decide)] at H
    obtain ⟨y483, hy483⟩ : ∃ y_ : List Int, y_ = (([] : List Int)) := ⟨_, rfl⟩
    replace H : (spec_DrawIsPlacing.l0 kj3 t469 t472 y483 0 l0 x464001_3 x464002_3 t464 t465 t466) = some (r1, r2, r3, r4, r5, r6) := by first | (rw [hy483]; with_reducible exact H) | (have H2_ := (Option.bind_some _ _).symm.trans H; rw [hy483]; with_reducible exact H2_) | (have H2_ := (Option.bind_some _ _).symm.trans H; with_reducible exact H2_) | with_reducible exact H | (rw [hy483]; exact H) | exact H
    have Ny483 := am hy483
    clear hy483
    have H' := am H
    clear H
    go_wp2_with (first | ((with_reducible refine gate_dst (N := 39) rfl ?_); refine Kd.R_lit (Kd.int .i64) _ 3 ?hg (N := 39) ?hd (xs := ([] : List Int)) (inner := []) (ok := fun _ => True) (okp := fun _ => True) ?hr ?hp (fun _ hk => hk) trivial (Below.refl _ _) (Nat.le_refl _) (by simp) ?_; (case hd => rfl); (case hg => rfl); (case hr => first | (go_simp; done) | (go_simp; rfl)); (case hp => exact (Reps.none _ _)); intro v484 w24 ho25 hb hg_ hnew_; clear hg_ hnew_; (first | rw [← Ny483.out] at ho25 | (simp only [Int.reduceToNat] at ho25; rw [← Ny483.out] at ho25)); have HO485 := am (Kd.R_lower (Kd.R_new' (Kd.R_newM (M := fun k_ => (w.heap.size ≤ k_)) ho25 (below_size (pkBS65 HB)) (fun k_ h_ => h_)) (Kd.R_lt (pk HO_8))) (below_size (pkBS65 HB))); replace HO_8 := am (Kd.R_elder' (pk HO_8) (Kd.R_base ho25) hb); replace HO_10 := am (Kd.V_elder' (pk HO_10) (Kd.R_base ho25) hb); replace HO_476002 := am (Kd.V_elder' (pk HO_476002) (Kd.R_base ho25) hb); replace BK462 := am (blk_below (pkC BK462) hb); replace BK475 := am (blk_below (pkC BK475) hb); replace HI463 := am (IsS65.below (pkS65 HI463) hb); replace HB := am (below_step (pkBS65 HB) hb); clear hb ho25))
    go_loopg [12, 13] kj3 (fun kq v12 v13 w' => ∃ (x12_2 : List Int) (x13_2 : Int) (x464001_2 : Int) (x464002_2 : Int), v13 = .int .i64 x13_2 ∧ Aside0 (spec_DrawIsPlacing.l0 kq t469 t472 x12_2 x13_2 l0 x464001_2 x464002_2 t464 t465 t466 = some (r1, r2, r3, r4, r5, r6)) ∧ Aside0 (kq ≤ kj3) ∧ Aside0 (Kd.R (Kd.int .i64) 3 w' w.heap.size (fun k_ => (w.heap.size ≤ k_) ∧ some k_ ≠ (v12 : Value).ownBlock) (.slice Ao13 t469.length co13) t469) ∧ Aside0 (Kd.R (Kd.int .i64) 3 w' w.heap.size (fun k_ => (w.heap.size ≤ k_) ∧ some k_ ≠ ((.slice Ao13 t469.length co13) : Value).ownBlock) v12 x12_2) ∧ Aside0 (Kd.V (Kd.int .i64) 3 w' w.heap.size (fun k_ => (w.heap.size ≤ k_) ∧ some k_ ≠ ((.slice Ao13 t469.length co13) : Value).ownBlock ∧ some k_ ≠ (v12 : Value).ownBlock ∧ k_ ≠ gb462 ∧ k_ ≠ gb475 ∧ k_ ≠ gb463) (.slice Ao12 t466.length co12) t466) ∧ Aside0 (w'.heap[gb462]? = some (.cells #[.int .i64 0, .bool false, (.slice none 0 0)] 26 (0, 0))) ∧ Aside0 (w'.heap[gb475]? = some (.cells #[.int .i64 t464, .bool t465, (.slice Ao12 t466.length co12)] 26 (0, 0))) ∧ Aside0 (IsS65 w w' gb463 l0 x464001_2 x464002_2) ∧ Aside0 (Below w.heap.size w w'))
    case atStart => exact ⟨(y483), (0), (x464001_3), (x464002_3), (by first | rfl | (simp; done) | (simp [*]; done)), H', ⟨Nat.le_refl _⟩, ⟨by (with_reducible repeat (first | apply Kd.R_alloc | apply Kd.R_drewN | apply Kd.R_drew)); exact HO_8.out⟩, ⟨by (with_reducible repeat (first | apply Kd.R_alloc | apply Kd.R_drewN | apply Kd.R_drew)); exact Kd.R_mono HO485.out (fun _ hk => ⟨hk.1.1, hk.2⟩)⟩, ⟨by (with_reducible repeat (first | apply Kd.V_alloc | apply Kd.V_drewN | apply Kd.V_drew)); exact Kd.V_mono HO_476002.out (fun _ hk => ⟨hk.1.1, ⟨hk.1.2.1, ⟨hk.2, ⟨hk.1.2.2.1, ⟨hk.1.2.2.2.1, hk.1.2.2.2.2⟩⟩⟩⟩⟩)⟩, ⟨pkC BK462⟩, ⟨pkC BK475⟩, ⟨pkS65 HI463⟩, ⟨pkBS65 HB⟩⟩
    case round =>
     clear H'
     try clear c1
     try clear c2
     try clear p2
     try clear c3
     try clear c9
     try clear c10
     try clear c15
     try clear c18
     try clear c19
     try clear c20
     try clear c21
     try clear c22
     try clear hcz11_0
     try clear hcz11_1
     try clear hcz11_2
     try clear hcz21_0
     try clear hcz21_1
     try clear hcz21_2
     try clear hcz23_0
     try clear hcz23_1
     try clear hcz23_2
     try clear hfz11_0
     try clear hfz11_1
     try clear hfz11_2
     try clear hfz21_0
     try clear hfz21_1
     try clear hfz21_2
     try clear hfz23_0
     try clear hfz23_1
     try clear hfz23_2
     try clear p2
     obtain ⟨x12_2, x13_2, x464001_2, x464002_2, rfl, HA, HK2, HO_8, HO_12, HO_476002, BK462, BK475, HI463, HB⟩ := hrel
     cases gk with
     | zero => exact absurd HA.out (by simp [spec_DrawIsPlacing.l0])
     | succ k2 =>
      have H := HA.out
      clear HA
      simp only [spec_DrawIsPlacing.l0] at H
      by_cases c26 : x13_2 < (t469.length : Int)
      ·rw [if_pos c26] at H
       have c26b0 : decide (x13_2 < (t469.length : Int)) = true := decide_eq_true c26
       clear c26
       replace H := Option.bind_eq_some_iff.mp H
       obtain ⟨⟨t486, t487, t488⟩, A270, H⟩ := H
       try dsimp only at H
       have A27 := am A270
       clear A270
       by_cases c28 : x12_2.length < 17592186044416
       ·rw [if_pos c28] at H
        have LMc28 := am c28
        clear c28
        obtain ⟨y489, hy489⟩ : ∃ y_ : List Int, y_ = (x12_2 ++ [t486]) := ⟨_, rfl⟩
        replace H : (spec_DrawIsPlacing.l0 k2 t469 t472 y489 (wrap64 (x13_2 + 1)) l0 t487 t488 t464 t465 t466) = some (r1, r2, r3, r4, r5, r6) := by first | (rw [hy489]; with_reducible exact H) | (have H2_ := (Option.bind_some _ _).symm.trans H; rw [hy489]; with_reducible exact H2_) | (have H2_ := (Option.bind_some _ _).symm.trans H; with_reducible exact H2_) | with_reducible exact H | (rw [hy489]; exact H) | exact H
        have Ny489 := am hy489
        clear hy489
        have H' := am H
        clear H
        have hnb29 := NB475_462.out
        have hnc29 := NB462_475.out
        have hnb30 := NB475_463.out
        have hnc30 := NB463_475.out
        obtain ⟨hcz31_0, hcz31_1, hcz31_2⟩ := bc3 BK475.out
        obtain ⟨hfz31_0, hfz31_1, hfz31_2⟩ := bf3 BK475.out
        go_wp2_with (first | (go_at_call 39; (with_reducible refine (spec_l1Cur_seat.calls gb463 l0 x464001_2 x464002_2 t464 t465 _ _ t466 t486 t487 t488 w _ ?side1 ?side2 ?side3 ?side4 ?side5 A27.out).mono ?_); (case side1 => exact pkS65 HI463); (case side2 => exact pkBS65 HB); (case side3 => repeat (first | exact (Kd.V_reads' HO_476002.out).2.2 | (with_reducible refine Kd.C_alloc ?_ _) | (with_reducible refine Kd.C_drewN ?_ _) | (with_reducible refine Kd.C_drew ?_))); (case side4 => exact (Kd.V_reads' HO_476002.out).2.1); (case side5 => exact Kd.V_farst rfl HO_476002.out (fun k_ hk_ => hk_.2.2.2.2.2) (IsS65.lt HI463.out)); rintro e w32 ⟨rfl, hi, hb, hk⟩; replace HO_8 := am (Kd.R_mono (Kd.R_keep (IsS65.apart (show IsS65 w _ gb463 l0 x464001_2 x464002_2 from pkS65 HI463) (pk HO_8) (by decide)) hk (fun _ h => h.2)) (fun _ h => h.1)); replace HO_12 := am (Kd.R_mono (Kd.R_keep (IsS65.apart (show IsS65 w _ gb463 l0 x464001_2 x464002_2 from pkS65 HI463) (pk HO_12) (by decide)) hk (fun _ h => h.2)) (fun _ h => h.1)); replace HO_476002 := am (Kd.V_mono (Kd.V_keep (Kd.V_mono (ok := fun k_ => (((w.heap.size ≤ k_)) ∧ (some k_ ≠ (.slice Ao13 t469.length co13 : Value).ownBlock ∧ (some k_ ≠ (u12 : Value).ownBlock ∧ (k_ ≠ gb462 ∧ (k_ ≠ gb475 ∧ k_ ≠ gb463)))))) (pk HO_476002) (fun k_ hk_ => (⟨hk_, hk_.2.2.2.2.2⟩ : _ ∧ k_ ≠ gb463))) hk (fun _ h => h.2)) (fun _ h => h.1)); replace BK462 := am (KeepBut.blk hk (pkC BK462) NB462_463.out (by simp)); replace BK475 := am (KeepBut.blk hk (pkC BK475) NB475_463.out (by simp)); replace HB := am (hb); replace HI463 := am (hi); (try clear hb); (try clear hb2); (try clear hk); (try clear hi)) | ((with_reducible refine gate_builtin (b := .append) (xs := #[.tmp 46, .tmp 50]) rfl ?_); at_builtin; refine Kd.R_append (Kd.int .i64) (w0 := w) w.heap.size rfl (.tmp 46) (.tmp 50) 24 3 (.int .i64 0) 8 rfl Tryd.underlying24 info3 rfl (by decide) (by omega) u12 x12_2 t486 [.int .i64 t486] (fun k_ => (w.heap.size ≤ k_) ∧ some k_ ≠ (.slice Ao13 t469.length co13 : Value).ownBlock) (fun _ => False) rfl rfl ?aP (fun _ hk => hk.elim) ?aF ?aO ?aB ?aS ?aL ?_; (case aP => exact rfl); (case aB => exact (pkBS65 HB)); (case aF => exact (fun k_ hk => ⟨(Nat.le_trans (below_size (pkBS65 HB)) hk), Kd.fresh' (Kd.R_lt (pk HO_8)) k_ hk⟩)); (case aO => exact (pk HO_12)); (case aS => exact (below_size (pkBS65 HB))); (case aL => have := LMc28.out; omega); intro v490 w33 ho hb hg hat; rw [← Ny489.out] at ho; have HO491 := am (ho); replace HO_8 := am (Kd.R_after (ok := (fun k_ => (w.heap.size ≤ k_))) (pk HO_8) hg hat); replace HO_476002 := am (Kd.V_afterv (ok := (fun k_ => (w.heap.size ≤ k_) ∧ some k_ ≠ (.slice Ao13 t469.length co13 : Value).ownBlock ∧ k_ ≠ gb462 ∧ k_ ≠ gb475 ∧ k_ ≠ gb463)) (by (with_reducible repeat (first | apply Kd.V_alloc | apply Kd.V_drewN | apply Kd.V_drew)); exact Kd.V_mono HO_476002.out (fun _ hk => ⟨⟨hk.1, ⟨hk.2.1, ⟨hk.2.2.2.1, ⟨hk.2.2.2.2.1, hk.2.2.2.2.2⟩⟩⟩⟩, hk.2.2.1⟩)) hg hat); replace BK462 := am (blk_grown (pkC BK462) hg (Kd.R_ne HO_12.out BK462.out (by decide))); replace BK475 := am (blk_grown (pkC BK475) hg (Kd.R_ne HO_12.out BK475.out (by decide))); replace HI463 := am (IsS65.grown (pkS65 HI463) hg (IsS65.own_ne HI463.out HO_12.out (by decide))); replace HB := am (hb); clear HO_12 ho hb hg hat))
        go_roundg k2
        case measure => have := HJ3.out; have := HK2.out; omega
        case rel => exact ⟨(y489), (wrap64 (x13_2 + 1)), (t487), (t488), (by first | rfl | (simp; done) | (simp [*]; done)), H', ⟨by have := HJ3.out; have := HK2.out; omega⟩, ⟨by (with_reducible repeat (first | apply Kd.R_alloc | apply Kd.R_drewN | apply Kd.R_drew)); exact HO_8.out⟩, ⟨by (with_reducible repeat (first | apply Kd.R_alloc | apply Kd.R_drewN | apply Kd.R_drew)); exact HO491.out⟩, ⟨by (with_reducible repeat (first | apply Kd.V_alloc | apply Kd.V_drewN | apply Kd.V_drew)); exact Kd.V_mono HO_476002.out (fun _ hk => ⟨hk.1.1, ⟨hk.1.2.1, ⟨hk.2, ⟨hk.1.2.2.1, ⟨hk.1.2.2.2.1, hk.1.2.2.2.2⟩⟩⟩⟩⟩)⟩, ⟨pkC BK462⟩, ⟨pkC BK475⟩, ⟨pkS65 HI463⟩, ⟨pkBS65 HB⟩⟩
       ·rw [if_neg c28] at H
        exact absurd H (by simp)
      ·rw [if_neg c26] at H
       have c26b0 : decide (x13_2 < (t469.length : Int)) = false := decide_eq_false c26
       clear c26
       simp only [Option.some.injEq, Prod.mk.injEq] at H
       obtain ⟨rfl, rfl, rfl, rfl, rfl, rfl⟩ := H
       have hnb34 := NB475_462.out
       have hnc34 := NB462_475.out
       have hnb35 := NB475_463.out
       have hnc35 := NB463_475.out
       obtain ⟨hcz36_0, hcz36_1, hcz36_2⟩ := bc3 BK475.out
       obtain ⟨hfz36_0, hfz36_1, hfz36_2⟩ := bf3 BK475.out
       have hnb37 := NB462_463.out
       have hnc37 := NB463_462.out
       obtain ⟨hcz38_0, hcz38_1, hcz38_2⟩ := bc3 BK462.out
       obtain ⟨hfz38_0, hfz38_1, hfz38_2⟩ := bf3 BK462.out
       go_wp2
       refine bodyPost_ret (results_list (rs := [.cell 2 26, .tmp 3, .tmp 4, .tmp 5]) rfl (by simp) (.cell gb462 26 #[.int .i64 t464, .bool t465, .slice Ao12 t466.length co12] (0, 0) _ rfl (by (with_reducible repeat (first | refine blk_drewN ?_ _ | refine blk_drew ?_ | refine blk_alloc ?_ _)); refine blk_put (cs := #[.int .i64 t464, .bool t465, .slice none 0 0]) ?_ 2 _ rfl; (with_reducible repeat (first | refine blk_drewN ?_ _ | refine blk_drew ?_ | refine blk_alloc ?_ _)); refine blk_put (cs := #[.int .i64 t464, .bool false, .slice none 0 0]) ?_ 1 _ rfl; (with_reducible repeat (first | refine blk_drewN ?_ _ | refine blk_drew ?_ | refine blk_alloc ?_ _)); refine blk_put (cs := #[.int .i64 0, .bool false, .slice none 0 0]) ?_ 0 _ rfl; (with_reducible repeat (first | refine blk_drewN ?_ _ | refine blk_drew ?_ | refine blk_alloc ?_ _)); exact BK462.out) Tryd.underlying26 rfl (by kernel_rfl) (.tmp (.tmp (.tmp .nil))))) rfl ?_
       exact ⟨_, _, _, by first | rfl | (simp [*]; done), by (with_reducible repeat (first | apply Kd.V_alloc | apply Kd.V_drewN | apply Kd.V_drew)); exact Kd.V_mono (Kd.V_far (p := ⟨gb462, 2, none⟩) (Kd.V_far (p := ⟨gb462, 1, none⟩) (Kd.V_far (p := ⟨gb462, 0, none⟩) (Kd.V_mono HO_476002.out (fun k_ hk => (⟨hk, hk.2.2.2.1⟩ : _ ∧ k_ ≠ gb462))) (fun _ hk => hk.2) (.int .i64 t464)) (fun _ hk => hk.2) (.bool t465)) (fun _ hk => hk.2) (.slice Ao12 t466.length co12)) (fun _ hk => ⟨hk.1.1, hk.1.2.1⟩), by (with_reducible repeat (first | apply Kd.R_alloc | apply Kd.R_drewN | apply Kd.R_drew)); exact Kd.R_mono (Kd.R_far (p := ⟨gb462, 2, none⟩) (Kd.R_far (p := ⟨gb462, 1, none⟩) (Kd.R_far (p := ⟨gb462, 0, none⟩) (Kd.R_types HO_8.out BK462.out (by decide)) (fun _ hk => hk.2) (.int .i64 t464)) (fun _ hk => hk.2) (.bool t465)) (fun _ hk => hk.2) (.slice Ao12 t466.length co12)) (fun _ hk => hk.1.1), Kd.R_V (by (with_reducible repeat (first | apply Kd.R_alloc | apply Kd.R_drewN | apply Kd.R_drew)); exact Kd.R_mono (Kd.R_far (p := ⟨gb462, 2, none⟩) (Kd.R_far (p := ⟨gb462, 1, none⟩) (Kd.R_far (p := ⟨gb462, 0, none⟩) (Kd.R_types HO_12.out BK462.out (by decide)) (fun _ hk => hk.2) (.int .i64 t464)) (fun _ hk => hk.2) (.bool t465)) (fun _ hk => hk.2) (.slice Ao12 t466.length co12)) (fun _ hk => ⟨hk.1.1, hk.1.2⟩)), pkBS65 HB⟩

/-! ### spec_DrawPlaceRow: function 5 -/
def spec_DrawPlaceRow.f (k : Nat) (l0 : List Int) : Option (Int × Bool × List Int × List Int × Int × List Int) := (spec_DrawIsPlacing.f k l0).bind fun bt493 => (some (bt493.1, bt493.2.1, bt493.2.2.1, bt493.2.2.2.1, bt493.2.2.2.2.1, bt493.2.2.2.2.2))
set_option maxHeartbeats 8000000 in
set_option maxRecDepth 100000 in
theorem spec_DrawPlaceRow.calls (k : Nat) (A0 : Option Addr) (c0 : Nat) (l0 : List Int) (r1 : Int) (r2 : Bool) (r3 : List Int) (r4 : List Int) (r5 : Int) (r6 : List Int) (w : World) (hr0 : Kd.C (Kd.int .u8) w A0 l0.length l0) (hc0 : l0.length ≤ c0) (h : spec_DrawPlaceRow.f k l0 = some (r1, r2, r3, r4, r5, r6)) :
  Calls Tryd.prog 5 #[.slice A0 l0.length c0] w fun e w' => ∃ v2_ v3_ v5_ : Value, e = .returned (.tuple #[.agg #[.int .i64 r1, .bool r2, v2_], v3_, .int .i64 r5, v5_]) ∧ Kd.V (Kd.int .i64) 3 w' w.heap.size (fun k_ => (w.heap.size ≤ k_) ∧ some k_ ≠ (v3_ : Value).ownBlock) v2_ r3 ∧ Kd.R (Kd.int .i64) 3 w' w.heap.size (fun k_ => (w.heap.size ≤ k_)) v3_ r4 ∧ Kd.V (Kd.int .i64) 3 w' w.heap.size (fun k_ => (w.heap.size ≤ k_) ∧ some k_ ≠ (v3_ : Value).ownBlock) v5_ r6 ∧ Below w.heap.size w w' := by
 have hu26 := Tryd.underlying26
 have HR0 := am hr0
 have HC0 := am hc0
 clear hr0 hc0
 have HB := am (Below.refl w.heap.size w)
 have H : ((spec_DrawIsPlacing.f k l0).bind fun bt493 => (some (bt493.1, bt493.2.1, bt493.2.2.1, bt493.2.2.2.1, bt493.2.2.2.2.1, bt493.2.2.2.2.2))) = some (r1, r2, r3, r4, r5, r6) := h
 clear h
 replace H := Option.bind_eq_some_iff.mp H
 obtain ⟨⟨t493, t494, t495, t498, t501, t502⟩, A20, H⟩ := H
 try dsimp only at H
 have A2 := am A20
 clear A20
 simp only [Option.some.injEq, Prod.mk.injEq] at H
 obtain ⟨rfl, rfl, rfl, rfl, rfl, rfl⟩ := H
 go_enter Tryd.func5, Tryd.ntmps5
 go_wp2_with (first | ((with_reducible refine gate_dst (N := 2) rfl ?_); refine box_event ?hg (N := 2) ?hd (cs := #[.int .i64 0, .bool false, .slice none 0 0]) (t := 26) ?hr ?_; (case hd => rfl); (case hg => rfl); (case hr => first | (go_simp; done) | (go_simp; rfl)); intro gb492 hg w3 hbox hb; have BK492 := am (hbox); have GW492 := am ((by rw [hg]; exact (below_size (pkB HB)) : w.heap.size ≤ gb492)); have GE492 := am ((by rw [hg]; exact (below_size (pkB HB)) : w.heap.size ≤ gb492)); replace HB := am (below_step (pkB HB) hb); clear hb hbox hg) | (go_at_call 21; (with_reducible refine (spec_DrawIsPlacing.calls k _ _ l0 t493 t494 t495 t498 t501 t502 _ ?side1 ?side2 A2.out).mono ?_); (case side1 => repeat (first | exact (Kd.C_below HR0.out HB.out) | (with_reducible refine Kd.C_alloc ?_ _) | (with_reducible refine Kd.C_drewN ?_ _) | (with_reducible refine Kd.C_drew ?_))); (case side2 => exact HC0.out); rintro e w4 ⟨v496, v499, v503, rfl, ho0, ho1, ho2, hb⟩; have HO497 := am (Kd.V_lower (Kd.V_mono (ok' := fun k_ => (w.heap.size ≤ k_) ∧ some k_ ≠ (v499 : Value).ownBlock ∧ k_ ≠ gb492) ho0 (fun k_ hk_ => ⟨(Nat.le_trans (below_size (pkB HB)) hk_.1), hk_.2, (Kd.freshB (pkC BK492) k_ hk_.1)⟩)) (below_size (pkB HB))); have HO500 := am (Kd.R_lower (Kd.R_newM (M := fun k_ => (w.heap.size ≤ k_)) (Kd.R_mono (ok' := fun k_ => True) ho1 (fun _ hk_ => trivial)) (below_size (pkB HB)) (fun k_ h_ => h_)) (below_size (pkB HB))); have HO504 := am (Kd.V_lower (Kd.V_mono (ok' := fun k_ => (w.heap.size ≤ k_) ∧ some k_ ≠ (v499 : Value).ownBlock ∧ k_ ≠ gb492) ho2 (fun k_ hk_ => ⟨(Nat.le_trans (below_size (pkB HB)) hk_.1), hk_.2, (Kd.freshB (pkC BK492) k_ hk_.1)⟩)) (below_size (pkB HB))); replace BK492 := am (blk_below (pkC BK492) hb); replace HB := am (below_step (pkB HB) hb); (try clear ho1); (try clear ho2); obtain ⟨hcz5_0, hcz5_1, hcz5_2⟩ := bc3 BK492.out; obtain ⟨hfz5_0, hfz5_1, hfz5_2⟩ := bf3 BK492.out; obtain ⟨Ao6, co6, eo6⟩ := Kd.V_slice HO497.out; subst eo6))
 refine bodyPost_ret (results_list (rs := [.cell 2 26, .tmp 3, .tmp 4, .tmp 5]) rfl (by simp) (.cell gb492 26 #[.int .i64 t493, .bool t494, .slice Ao6 t495.length co6] (0, 0) _ rfl (by (with_reducible repeat (first | refine blk_drewN ?_ _ | refine blk_drew ?_ | refine blk_alloc ?_ _)); refine blk_put (cs := #[.int .i64 t493, .bool t494, .slice none 0 0]) ?_ 2 _ rfl; (with_reducible repeat (first | refine blk_drewN ?_ _ | refine blk_drew ?_ | refine blk_alloc ?_ _)); refine blk_put (cs := #[.int .i64 t493, .bool false, .slice none 0 0]) ?_ 1 _ rfl; (with_reducible repeat (first | refine blk_drewN ?_ _ | refine blk_drew ?_ | refine blk_alloc ?_ _)); refine blk_put (cs := #[.int .i64 0, .bool false, .slice none 0 0]) ?_ 0 _ rfl; (with_reducible repeat (first | refine blk_drewN ?_ _ | refine blk_drew ?_ | refine blk_alloc ?_ _)); exact BK492.out) Tryd.underlying26 rfl (by kernel_rfl) (.tmp (.tmp (.tmp .nil))))) rfl ?_
 exact ⟨_, _, _, by first | rfl | (simp [*]; done), by (with_reducible repeat (first | apply Kd.V_alloc | apply Kd.V_drewN | apply Kd.V_drew)); exact Kd.V_mono (Kd.V_far (p := ⟨gb492, 2, none⟩) (Kd.V_far (p := ⟨gb492, 1, none⟩) (Kd.V_far (p := ⟨gb492, 0, none⟩) (Kd.V_mono HO497.out (fun k_ hk => (⟨hk, hk.2.2⟩ : _ ∧ k_ ≠ gb492))) (fun _ hk => hk.2) (.int .i64 t493)) (fun _ hk => hk.2) (.bool t494)) (fun _ hk => hk.2) (.slice Ao6 t495.length co6)) (fun _ hk => ⟨hk.1.1, hk.1.2.1⟩), by (with_reducible repeat (first | apply Kd.R_alloc | apply Kd.R_drewN | apply Kd.R_drew)); exact Kd.R_mono (Kd.R_far (p := ⟨gb492, 2, none⟩) (Kd.R_far (p := ⟨gb492, 1, none⟩) (Kd.R_far (p := ⟨gb492, 0, none⟩) (Kd.R_types HO500.out BK492.out (by decide)) (fun _ hk => hk.2) (.int .i64 t493)) (fun _ hk => hk.2) (.bool t494)) (fun _ hk => hk.2) (.slice Ao6 t495.length co6)) (fun _ hk => hk.1.1), by (with_reducible repeat (first | apply Kd.V_alloc | apply Kd.V_drewN | apply Kd.V_drew)); exact Kd.V_mono (Kd.V_far (p := ⟨gb492, 2, none⟩) (Kd.V_far (p := ⟨gb492, 1, none⟩) (Kd.V_far (p := ⟨gb492, 0, none⟩) (Kd.V_mono HO504.out (fun k_ hk => (⟨hk, hk.2.2⟩ : _ ∧ k_ ≠ gb492))) (fun _ hk => hk.2) (.int .i64 t493)) (fun _ hk => hk.2) (.bool t494)) (fun _ hk => hk.2) (.slice Ao6 t495.length co6)) (fun _ hk => ⟨hk.1.1, hk.1.2.1⟩), pkB HB⟩

/-! ### impl_Row_bench: function 24 -/
def impl_Row_bench.f (a0_0 : Int) (a0_1 : Bool) (l0_2 : List Int) : Option (Int × Bool) := some (a0_0, a0_1)
set_option maxHeartbeats 8000000 in
set_option maxRecDepth 100000 in
theorem impl_Row_bench.calls (a0_0 : Int) (a0_1 : Bool) (A0_2 : Option Addr) (c0_2 : Nat) (l0_2 : List Int) (r1 : Int) (r2 : Bool) (w : World) (hr0_2 : Kd.C (Kd.int .i64) w A0_2 l0_2.length l0_2) (hc0_2 : l0_2.length ≤ c0_2) (h : impl_Row_bench.f a0_0 a0_1 l0_2 = some (r1, r2)) :
  Calls Tryd.prog 24 #[.agg #[.int .i64 a0_0, .bool a0_1, .slice A0_2 l0_2.length c0_2]] w fun e w' => e = .returned (.agg #[.int .i64 r1, .bool r2]) ∧ Below w.heap.size w w' := by
 have hu26 := Tryd.underlying26
 have hu50 := Tryd.underlying50
 have HR0_2 := am hr0_2
 have HC0_2 := am hc0_2
 clear hr0_2 hc0_2
 have HB := am (Below.refl w.heap.size w)
 have H : (some (a0_0, a0_1)) = some (r1, r2) := h
 clear h
 simp only [Option.some.injEq, Prod.mk.injEq] at H
 obtain ⟨rfl, rfl⟩ := H
 go_enter Tryd.func24, Tryd.ntmps24
 go_wp2_with (first | ((with_reducible refine gate_dst (N := 1) rfl ?_); refine box_event ?hg (N := 1) ?hd (cs := #[.int .i64 a0_0, .bool a0_1, .slice A0_2 l0_2.length c0_2]) (t := 26) ?hr ?_; (case hd => rfl); (case hg => rfl); (case hr => first | (go_simp; done) | (go_simp; rfl)); intro gb505 hg w2 hbox hb; have BK505 := am (hbox); have GW505 := am ((by rw [hg]; exact (below_size (pkB HB)) : w.heap.size ≤ gb505)); have GE505 := am ((by rw [hg]; exact (below_size (pkB HB)) : w.heap.size ≤ gb505)); replace HB := am (below_step (pkB HB) hb); clear hb hbox hg) | ((with_reducible refine gate_dst (N := 2) rfl ?_); refine box_event ?hg (N := 2) ?hd (cs := #[.int .i64 0, .bool false]) (t := 50) ?hr ?_; (case hd => rfl); (case hg => rfl); (case hr => first | (go_simp; done) | (go_simp; rfl)); intro gb506 hg w3 hbox hb; have BK506 := am (hbox); have GW506 := am ((by rw [hg]; exact (below_size (pkB HB)) : w.heap.size ≤ gb506)); have GE506 := am ((by rw [hg]; exact (below_size (pkB HB)) : w.heap.size ≤ gb506)); have NB505_506 := am ((by rw [hg]; exact Nat.ne_of_lt (blk_lt (pkC BK505)) : gb505 ≠ gb506)); have NB506_505 := am ((by rw [hg]; exact Nat.ne_of_gt (blk_lt (pkC BK505)) : gb506 ≠ gb505)); replace BK505 := am (blk_below (pkC BK505) hb); replace HB := am (below_step (pkB HB) hb); clear hb hbox hg; have hnb4 := NB505_506.out; have hnc4 := NB506_505.out; obtain ⟨hcz5_0, hcz5_1, hcz5_2⟩ := bc3 BK505.out; obtain ⟨hfz5_0, hfz5_1, hfz5_2⟩ := bf3 BK505.out; have hcz6_0 : w3.cell? ⟨gb506, 0, none⟩ = some (.int .i64 0) := (blk_cell BK506.out 0).trans rfl; have hcz6_1 : w3.cell? ⟨gb506, 1, none⟩ = some (.bool false) := (blk_cell BK506.out 1).trans rfl; have hfz6_0 := blk_frozen BK506.out 0; have hfz6_1 := blk_frozen BK506.out 1))
 refine bodyPost_ret (results_cell_row rfl _ _ gb506 50 #[.int .i64 a0_0, .bool a0_1] (0, 0) _ rfl (by (with_reducible repeat (first | refine blk_drewN ?_ _ | refine blk_drew ?_ | refine blk_alloc ?_ _)); refine blk_put (cs := #[.int .i64 a0_0, .bool false]) ?_ 1 _ rfl; (with_reducible repeat (first | refine blk_drewN ?_ _ | refine blk_drew ?_ | refine blk_alloc ?_ _)); refine blk_put (cs := #[.int .i64 0, .bool false]) ?_ 0 _ rfl; (with_reducible repeat (first | refine blk_drewN ?_ _ | refine blk_drew ?_ | refine blk_alloc ?_ _)); exact BK506.out) Tryd.underlying50 rfl (by kernel_rfl)) rfl ?_
 exact ⟨by first | rfl | (simp [*]; done), pkB HB⟩

/-! ### impl_within: function 41 -/
def impl_within.f (a0 : Int) (a1 : Int) (a2 : Int) : Option (Bool) := if a0 ≥ a1 then (some (decide (a0 ≤ a2))) else (some false)
set_option maxHeartbeats 8000000 in
set_option maxRecDepth 100000 in
theorem impl_within.calls (a0 : Int) (a1 : Int) (a2 : Int) (r : Bool) (w : World) (h : impl_within.f a0 a1 a2 = some r) :
  Calls Tryd.prog 41 #[.int .i64 a0, .int .i64 a1, .int .i64 a2] w fun e w' => e = .returned (.bool r) ∧ Drawn0 w w' := by
 have H : (if a0 ≥ a1 then (some (decide (a0 ≤ a2))) else (some false)) = some r := h
 clear h
 by_cases c4 : a0 ≥ a1
 ·rw [if_pos c4] at H
  have c4b0 : decide (a1 ≤ a0) = true := decide_eq_true c4
  clear c4
  obtain rfl := Option.some.inj H
  go_enter Tryd.func41, Tryd.ntmps41
  go_wp2
  go_ret
  exact ⟨by first | rfl | (simp; done) | (simp [*]; done), by repeat (first | exact Drawn0.refl _ | apply Drawn0.step)⟩
 ·rw [if_neg c4] at H
  have c4b0 : decide (a1 ≤ a0) = false := decide_eq_false c4
  clear c4
  obtain rfl := Option.some.inj H
  go_enter Tryd.func41, Tryd.ntmps41
  go_wp2
  go_ret
  exact ⟨by first | rfl | (simp; done) | (simp [*]; done), by repeat (first | exact Drawn0.refl _ | apply Drawn0.step)⟩

/-! ### impl_allWithin: function 63 -/
def impl_allWithin.l0 : Nat → Int → Int → List Int → Int → Int → Option (Bool)
 | 0, _, _, _, _, _ => none
 | k + 1, x1, x2, x9, x10, x11 => if x11 < x10 then (if 0 ≤ x11 then (if x11 < (x9.length : Int) then ((impl_within.f (rd x9 x11) x1 x2).bind fun t508 => (if t508 = true then (impl_allWithin.l0 k x1 x2 x9 x10 (wrap64 (x11 + 1))) else (some false))) else (none)) else (none)) else (some true)
def impl_allWithin.f (k : Nat) (l0 : List Int) (a1 : Int) (a2 : Int) : Option (Bool) := impl_allWithin.l0 k a1 a2 l0 (l0.length : Int) 0
set_option maxHeartbeats 8000000 in
set_option maxRecDepth 100000 in
theorem impl_allWithin.calls (k : Nat) (A0 : Option Addr) (c0 : Nat) (l0 : List Int) (a1 : Int) (a2 : Int) (r : Bool) (w : World) (hr0 : Kd.C (Kd.int .i64) w A0 l0.length l0) (hc0 : l0.length ≤ c0) (h : impl_allWithin.f k l0 a1 a2 = some r) :
  Calls Tryd.prog 63 #[.slice A0 l0.length c0, .int .i64 a1, .int .i64 a2] w fun e w' => e = .returned (.bool r) ∧ Drawn0 w w' := by
 have HR0 := am hr0
 have HC0 := am hc0
 clear hr0 hc0
 have H : (impl_allWithin.l0 k a1 a2 l0 (l0.length : Int) 0) = some r := h
 clear h
 have H' := am H
 clear H
 go_enter Tryd.func63, Tryd.ntmps63
 go_wp2
 go_loopg [11] k (fun kq v11 w' => ∃ (x11_1 : Int), v11 = .int .i64 x11_1 ∧ Aside0 (impl_allWithin.l0 kq a1 a2 l0 (l0.length : Int) x11_1 = some r) ∧ Aside0 (kq ≤ k) ∧ Drawn0 w w')
 case atStart => exact ⟨(0), (by first | rfl | (simp; done) | (simp [*]; done)), H', ⟨Nat.le_refl _⟩, by repeat (first | exact Drawn0.refl _ | apply Drawn0.step)⟩
 case round =>
  clear H'
  try clear p2
  obtain ⟨x11_1, rfl, HA, HK1, ⟨m1, rfl⟩⟩ := hrel
  cases gk with
  | zero => exact absurd HA.out (by simp [impl_allWithin.l0])
  | succ k1 =>
   have H := HA.out
   clear HA
   simp only [impl_allWithin.l0] at H
   by_cases c4 : x11_1 < (l0.length : Int)
   ·rw [if_pos c4] at H
    have c4b0 : decide (x11_1 < (l0.length : Int)) = true := decide_eq_true c4
    clear c4
    by_cases c5 : 0 ≤ x11_1
    ·rw [if_pos c5] at H
     have c5b0 : decide (0 ≤ x11_1) = true := decide_eq_true c5
     clear c5
     by_cases c6 : x11_1 < (l0.length : Int)
     ·rw [if_pos c6] at H
      have c6b0 : decide (x11_1 < (l0.length : Int)) = true := decide_eq_true c6
      clear c6
      replace H := Option.bind_eq_some_iff.mp H
      obtain ⟨t508, A70, H⟩ := H
      try dsimp only at H
      have A7 := am A70
      clear A70
      by_cases c8 : t508 = true
      ·subst c8
       rw [if_pos rfl] at H
       have H' := am H
       clear H
       have p507 : 0 ≤ (x11_1 : Int) := of_decide_eq_true (by first | (with_reducible assumption) | assumption)
       have q507 : x11_1 < (l0.length : Int) := of_decide_eq_true (by first | (with_reducible assumption) | assumption)
       obtain ⟨ad507, e507, hx507_0⟩ := Kd.at_int HR0.out x11_1 p507 q507
       cases e507
       replace p507 := eq_true p507
       replace q507 := eq_true q507
       go_wp2_with (first | ((with_reducible refine gate_callee (f := 41) rfl ?_); refine goesL_ (some 18) rfl rfl Tryd.func41 (by kernel_rfl) rfl #[.int .i64 (rd l0 x11_1), .int .i64 a1, .int .i64 a2] rfl (by (try simp only [List.map_toArray, List.map_cons, List.map_nil]); first | done | rfl | (simp only [List.length_drop, List.length_take]; rfl)) ?_; (with_reducible refine (impl_within.calls (rd l0 x11_1) a1 a2 true _ A7.out).mono ?_); rintro e w' ⟨rfl, ⟨nd, rfl⟩⟩; refine ⟨_, rfl, ?_⟩))
       go_roundg k1
       case measure => have := HK1.out; omega
       case rel => exact ⟨(wrap64 (x11_1 + 1)), (by first | rfl | (simp; done) | (simp [*]; done)), H', ⟨by have := HK1.out; omega⟩, by repeat (first | exact Drawn0.refl _ | apply Drawn0.step)⟩
      ·replace c8 := Bool.eq_false_iff.mpr c8
       subst c8
       rw [if_neg (show ¬ (false = true) by decide)] at H
       obtain rfl := Option.some.inj H
       have p507 : 0 ≤ (x11_1 : Int) := of_decide_eq_true (by first | (with_reducible assumption) | assumption)
       have q507 : x11_1 < (l0.length : Int) := of_decide_eq_true (by first | (with_reducible assumption) | assumption)
       obtain ⟨ad507, e507, hx507_0⟩ := Kd.at_int HR0.out x11_1 p507 q507
       cases e507
       replace p507 := eq_true p507
       replace q507 := eq_true q507
       go_wp2_with (first | ((with_reducible refine gate_callee (f := 41) rfl ?_); refine goesL_ (some 18) rfl rfl Tryd.func41 (by kernel_rfl) rfl #[.int .i64 (rd l0 x11_1), .int .i64 a1, .int .i64 a2] rfl (by (try simp only [List.map_toArray, List.map_cons, List.map_nil]); first | done | rfl | (simp only [List.length_drop, List.length_take]; rfl)) ?_; (with_reducible refine (impl_within.calls (rd l0 x11_1) a1 a2 false _ A7.out).mono ?_); rintro e w' ⟨rfl, ⟨nd, rfl⟩⟩; refine ⟨_, rfl, ?_⟩))
       go_ret
       exact ⟨by first | rfl | (simp; done) | (simp [*]; done), by repeat (first | exact Drawn0.refl _ | apply Drawn0.step)⟩
     ·rw [if_neg c6] at H
      exact absurd H (by simp)
    ·rw [if_neg c5] at H
     exact absurd H (by simp)
   ·rw [if_neg c4] at H
    have c4b0 : decide (x11_1 < (l0.length : Int)) = false := decide_eq_false c4
    clear c4
    obtain rfl := Option.some.inj H
    go_wp2
    go_ret
    exact ⟨by first | rfl | (simp; done) | (simp [*]; done), by repeat (first | exact Drawn0.refl _ | apply Drawn0.step)⟩

/-! ### impl_bench_has: function 55 -/
def impl_bench_has.f (k : Nat) (a0_0 : Int) (a0_1 : Bool) (l1 : List Int) : Option (Bool) := (impl_allWithin.f k l1 0 (wrap64 (a0_0 - 1))).bind fun t510 => (some t510)
set_option maxHeartbeats 8000000 in
set_option maxRecDepth 100000 in
theorem impl_bench_has.calls (k : Nat) (a0_0 : Int) (a0_1 : Bool) (A1 : Option Addr) (c1 : Nat) (l1 : List Int) (r : Bool) (w : World) (hr1 : Kd.C (Kd.int .i64) w A1 l1.length l1) (hc1 : l1.length ≤ c1) (h : impl_bench_has.f k a0_0 a0_1 l1 = some r) :
  Calls Tryd.prog 55 #[.agg #[.int .i64 a0_0, .bool a0_1], .slice A1 l1.length c1] w fun e w' => e = .returned (.bool r) ∧ Below w.heap.size w w' := by
 have hu50 := Tryd.underlying50
 have HR1 := am hr1
 have HC1 := am hc1
 clear hr1 hc1
 have HB := am (Below.refl w.heap.size w)
 have H : ((impl_allWithin.f k l1 0 (wrap64 (a0_0 - 1))).bind fun t510 => (some t510)) = some r := h
 clear h
 replace H := Option.bind_eq_some_iff.mp H
 obtain ⟨t510, A30, H⟩ := H
 try dsimp only at H
 have A3 := am A30
 clear A30
 obtain rfl := Option.some.inj H
 go_enter Tryd.func55, Tryd.ntmps55
 go_wp2_with (first | ((with_reducible refine gate_dst (N := 2) rfl ?_); refine box_event ?hg (N := 2) ?hd (cs := #[.int .i64 a0_0, .bool a0_1]) (t := 50) ?hr ?_; (case hd => rfl); (case hg => rfl); (case hr => first | (go_simp; done) | (go_simp; rfl)); intro gb509 hg w4 hbox hb; have BK509 := am (hbox); have GW509 := am ((by rw [hg]; exact (below_size (pkB HB)) : w.heap.size ≤ gb509)); have GE509 := am ((by rw [hg]; exact (below_size (pkB HB)) : w.heap.size ≤ gb509)); replace HB := am (below_step (pkB HB) hb); clear hb hbox hg; have hcz5_0 : w4.cell? ⟨gb509, 0, none⟩ = some (.int .i64 a0_0) := (blk_cell BK509.out 0).trans rfl; have hcz5_1 : w4.cell? ⟨gb509, 1, none⟩ = some (.bool a0_1) := (blk_cell BK509.out 1).trans rfl; have hfz5_0 := blk_frozen BK509.out 0; have hfz5_1 := blk_frozen BK509.out 1) | ((with_reducible refine gate_callee (f := 63) rfl ?_); refine goesL_ (some 9) rfl rfl Tryd.func63 (by kernel_rfl) rfl #[.slice A1 l1.length c1, .int .i64 0, .int .i64 (wrap64 (a0_0 - 1))] rfl (by (try simp only [List.map_toArray, List.map_cons, List.map_nil]); first | done | rfl | (simp only [List.length_drop, List.length_take]; rfl)) ?_; (with_reducible refine (impl_allWithin.calls k _ _ l1 0 (wrap64 (a0_0 - 1)) t510 _ ?side1 ?side2 A3.out).mono ?_); (case side1 => repeat (first | exact (Kd.C_below HR1.out HB.out) | (with_reducible refine Kd.C_alloc ?_ _) | (with_reducible refine Kd.C_drewN ?_ _) | (with_reducible refine Kd.C_drew ?_))); (case side2 => exact HC1.out); rintro e w' ⟨rfl, ⟨nd, rfl⟩⟩; refine ⟨_, rfl, ?_⟩))
 go_ret
 exact ⟨by first | rfl | (simp [*]; done), pkB HB⟩

/-! ### impl_bench_valid: function 56 -/
def impl_bench_valid.f (a0_0 : Int) (a0_1 : Bool) : Option (Bool) := (impl_within.f a0_0 2 24).bind fun t512 => (if t512 = true then (if a0_1 = true then (some (decide (a0_0 ≥ 3))) else (some true)) else (some false))
set_option maxHeartbeats 8000000 in
set_option maxRecDepth 100000 in
theorem impl_bench_valid.calls (a0_0 : Int) (a0_1 : Bool) (r : Bool) (w : World) (h : impl_bench_valid.f a0_0 a0_1 = some r) :
  Calls Tryd.prog 56 #[.agg #[.int .i64 a0_0, .bool a0_1]] w fun e w' => e = .returned (.bool r) ∧ Below w.heap.size w w' := by
 have hu50 := Tryd.underlying50
 have HB := am (Below.refl w.heap.size w)
 have H : ((impl_within.f a0_0 2 24).bind fun t512 => (if t512 = true then (if a0_1 = true then (some (decide (a0_0 ≥ 3))) else (some true)) else (some false))) = some r := h
 clear h
 replace H := Option.bind_eq_some_iff.mp H
 obtain ⟨t512, A20, H⟩ := H
 try dsimp only at H
 have A2 := am A20
 clear A20
 by_cases c3 : t512 = true
 ·subst c3
  rw [if_pos rfl] at H
  by_cases c4 : a0_1 = true
  ·subst c4
   rw [if_pos rfl] at H
   obtain rfl := Option.some.inj H
   go_enter Tryd.func56, Tryd.ntmps56
   go_wp2_with (first | ((with_reducible refine gate_dst (N := 1) rfl ?_); refine box_event ?hg (N := 1) ?hd (cs := #[.int .i64 a0_0, .bool true]) (t := 50) ?hr ?_; (case hd => rfl); (case hg => rfl); (case hr => first | (go_simp; done) | (go_simp; rfl)); intro gb511 hg w5 hbox hb; have BK511 := am (hbox); have GW511 := am ((by rw [hg]; exact (below_size (pkB HB)) : w.heap.size ≤ gb511)); have GE511 := am ((by rw [hg]; exact (below_size (pkB HB)) : w.heap.size ≤ gb511)); replace HB := am (below_step (pkB HB) hb); clear hb hbox hg; have hcz6_0 : w5.cell? ⟨gb511, 0, none⟩ = some (.int .i64 a0_0) := (blk_cell BK511.out 0).trans rfl; have hcz6_1 : w5.cell? ⟨gb511, 1, none⟩ = some (.bool true) := (blk_cell BK511.out 1).trans rfl; have hfz6_0 := blk_frozen BK511.out 0; have hfz6_1 := blk_frozen BK511.out 1) | ((with_reducible refine gate_callee (f := 41) rfl ?_); refine goesL_ (some 5) rfl rfl Tryd.func41 (by kernel_rfl) rfl #[.int .i64 a0_0, .int .i64 2, .int .i64 24] rfl (by (try simp only [List.map_toArray, List.map_cons, List.map_nil]); first | done | rfl | (simp only [List.length_drop, List.length_take]; rfl)) ?_; (with_reducible refine (impl_within.calls a0_0 2 24 true _ A2.out).mono ?_); rintro e w' ⟨rfl, ⟨nd, rfl⟩⟩; refine ⟨_, rfl, ?_⟩))
   go_ret
   exact ⟨by first | rfl | (simp [*]; done), pkB HB⟩
  ·replace c4 := Bool.eq_false_iff.mpr c4
   subst c4
   rw [if_neg (show ¬ (false = true) by decide)] at H
   obtain rfl := Option.some.inj H
   go_enter Tryd.func56, Tryd.ntmps56
   go_wp2_with (first | ((with_reducible refine gate_dst (N := 1) rfl ?_); refine box_event ?hg (N := 1) ?hd (cs := #[.int .i64 a0_0, .bool false]) (t := 50) ?hr ?_; (case hd => rfl); (case hg => rfl); (case hr => first | (go_simp; done) | (go_simp; rfl)); intro gb511 hg w7 hbox hb; have BK511 := am (hbox); have GW511 := am ((by rw [hg]; exact (below_size (pkB HB)) : w.heap.size ≤ gb511)); have GE511 := am ((by rw [hg]; exact (below_size (pkB HB)) : w.heap.size ≤ gb511)); replace HB := am (below_step (pkB HB) hb); clear hb hbox hg; have hcz8_0 : w7.cell? ⟨gb511, 0, none⟩ = some (.int .i64 a0_0) := (blk_cell BK511.out 0).trans rfl; have hcz8_1 : w7.cell? ⟨gb511, 1, none⟩ = some (.bool false) := (blk_cell BK511.out 1).trans rfl; have hfz8_0 := blk_frozen BK511.out 0; have hfz8_1 := blk_frozen BK511.out 1) | ((with_reducible refine gate_callee (f := 41) rfl ?_); refine goesL_ (some 5) rfl rfl Tryd.func41 (by kernel_rfl) rfl #[.int .i64 a0_0, .int .i64 2, .int .i64 24] rfl (by (try simp only [List.map_toArray, List.map_cons, List.map_nil]); first | done | rfl | (simp only [List.length_drop, List.length_take]; rfl)) ?_; (with_reducible refine (impl_within.calls a0_0 2 24 true _ A2.out).mono ?_); rintro e w' ⟨rfl, ⟨nd, rfl⟩⟩; refine ⟨_, rfl, ?_⟩))
   go_ret
   exact ⟨by first | rfl | (simp [*]; done), pkB HB⟩
 ·replace c3 := Bool.eq_false_iff.mpr c3
  subst c3
  rw [if_neg (show ¬ (false = true) by decide)] at H
  obtain rfl := Option.some.inj H
  go_enter Tryd.func56, Tryd.ntmps56
  go_wp2_with (first | ((with_reducible refine gate_dst (N := 1) rfl ?_); refine box_event ?hg (N := 1) ?hd (cs := #[.int .i64 a0_0, .bool a0_1]) (t := 50) ?hr ?_; (case hd => rfl); (case hg => rfl); (case hr => first | (go_simp; done) | (go_simp; rfl)); intro gb511 hg w9 hbox hb; have BK511 := am (hbox); have GW511 := am ((by rw [hg]; exact (below_size (pkB HB)) : w.heap.size ≤ gb511)); have GE511 := am ((by rw [hg]; exact (below_size (pkB HB)) : w.heap.size ≤ gb511)); replace HB := am (below_step (pkB HB) hb); clear hb hbox hg; have hcz10_0 : w9.cell? ⟨gb511, 0, none⟩ = some (.int .i64 a0_0) := (blk_cell BK511.out 0).trans rfl; have hcz10_1 : w9.cell? ⟨gb511, 1, none⟩ = some (.bool a0_1) := (blk_cell BK511.out 1).trans rfl; have hfz10_0 := blk_frozen BK511.out 0; have hfz10_1 := blk_frozen BK511.out 1) | ((with_reducible refine gate_callee (f := 41) rfl ?_); refine goesL_ (some 5) rfl rfl Tryd.func41 (by kernel_rfl) rfl #[.int .i64 a0_0, .int .i64 2, .int .i64 24] rfl (by (try simp only [List.map_toArray, List.map_cons, List.map_nil]); first | done | rfl | (simp only [List.length_drop, List.length_take]; rfl)) ?_; (with_reducible refine (impl_within.calls a0_0 2 24 false _ A2.out).mono ?_); rintro e w' ⟨rfl, ⟨nd, rfl⟩⟩; refine ⟨_, rfl, ?_⟩))
  go_ret
  exact ⟨by first | rfl | (simp [*]; done), pkB HB⟩

end Go.Proofs.YtnoipklaebadeaaDoor.PFnPlacings
