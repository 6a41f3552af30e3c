import Derived.Test.YtnoipklaebadeaaDoorZFnPlacingsPFnPlacingsx0
import Derived.Test.YtnoipklaebadeaaDoorZFnPlacingsPFnPlacingsx1
import Derived.Test.YtnoipklaebadeaaDoorZFnPlacingsPFnPlacingsx2
namespace Go.Proofs.YtnoipklaebadeaaDoor.PFnPlacings
open Go.RowKit Go.Proofs.YtnoipklaebadeaaDoorW.PrintWords Go.Proofs.YtnoipklaebadeaaDoorW.PrintLast Go.Proofs.YtnoipklaebadeaaDoorW.PrintMore
attribute [local go_sem] max2_int min2_int max_two min_two max_three min_three max_four min_four   -- for this text's walks alone
set_option linter.unusedVariables false
set_option linter.unusedSimpArgs false

/-! ### spec_l9Place: function 34 -/
mutual
def spec_l9Place.l0 : Nat → List Int → Int → List Int → Bool → Int → Int → Bool → List Int → List Int → Int → Option (List Int × Int)
 | 0, _, _, _, _, _, _, _, _, _, _ => none
 | k + 1, x1, x2, x3, x4, x13, x129000, x129001, x129002, x130000, x130001 => if x13 < x129000 then (if x4 = true then (spec_l9Place.j1 k x1 x2 x3 x4 x13 (!(decide (x130001 > 0))) x129000 x129001 x129002 x130000 x130001) else (spec_l9Place.j1 k x1 x2 x3 x4 x13 (!false) x129000 x129001 x129002 x130000 x130001)) else (spec_l9Place.j1 k x1 x2 x3 x4 x13 false x129000 x129001 x129002 x130000 x130001)
def spec_l9Place.j1 : Nat → List Int → Int → List Int → Bool → Int → Bool → Int → Bool → List Int → List Int → Int → Option (List Int × Int)
 | 0, _, _, _, _, _, _, _, _, _, _, _ => none
 | k + 1, x1, x2, x3, x4, x13, x41, x129000, x129001, x129002, x130000, x130001 => if x41 = true then ((spec_l9Fits.f k x129000 x129001 x129002 x1 x2 x3 x13).bind fun t131 => (if t131 = true then ((spec_l1Own.f x3).bind fun t132 => ((some (([x13] : List Int) : List Int)).bind fun y135 => (if t132.length + y135.length < 17592186044416 then ((spec_l9Place.f k x129000 x129001 x129002 x1 x2 (t132 ++ y135) x4 x130000 x130001).bind fun bt141 => (spec_l9Place.l0 k x1 x2 x3 x4 (wrap64 (x13 + 1)) x129000 x129001 x129002 bt141.1 bt141.2)) else (none)))) else (spec_l9Place.l0 k x1 x2 x3 x4 (wrap64 (x13 + 1)) x129000 x129001 x129002 x130000 x130001))) else (some (x130000, x130001))
def spec_l9Place.f : Nat → Int → Bool → List Int → List Int → Int → List Int → Bool → List Int → Int → Option (List Int × Int)
 | 0, _, _, _, _, _, _, _, _, _ => none
 | k + 1, a0_0, a0_1, l0_2, l1, a2, l3, a4, l5_0, a5_1 => if (l3.length : Int) = (l1.length : Int) then (if a5_1 = 0 then (some (l3, wrap64 (a5_1 + 1))) else (some (l5_0, wrap64 (a5_1 + 1)))) else (spec_l9Place.l0 k l1 a2 l3 a4 0 a0_0 a0_1 l0_2 l5_0 a5_1)
end
def spec_l9Place.T10 : Bool × List (List Nat × List Nat) := (true, [([], []), ([], []), ([], []), ([], []), ([3], [3]), ([], []), ([5], [5]), ([4, 6, 4], [4, 6]), ([], []), ([], []), ([0, 1, 2, 7, 8, 9, 7], [0, 1, 2, 7, 8, 9]), ([10, 10, 0, 1, 2, 3, 4, 5, 6, 7, 8, 9, 10], [10])])
def spec_l9Place.B10 : List Nat := [0, 0, 0, 0, 8, 0, 32, 120, 0, 0, 1023, 2047]
theorem spec_l9Place.tab10 : rtab .any (opsOf Tryd.f34 10) = spec_l9Place.T10 := by kernel_rfl
theorem spec_l9Place.bits10 : waitsOk spec_l9Place.T10.2 spec_l9Place.B10 = true := by kernel_rfl
set_option maxHeartbeats 8000000 in
set_option maxRecDepth 100000 in
theorem spec_l9Place.calls (k : Nat) : ∀ (a0_0 : Int) (a0_1 : Bool) (A0_2 : Option Addr) (c0_2 : Nat) (l0_2 : List Int) (A1 : Option Addr) (c1 : Nat) (l1 : List Int) (a2 : Int) (P3_ : Nat → Prop) (u9000_ : Value) (l3 : List Int) (a4 : Bool) (P5_0_ : Nat → Prop) (A5_0 : Option Addr) (c5_0 : Nat) (l5_0 : List Int) (a5_1 : Int) (r1 : List Int) (r2 : Int) (w0 w : World) (hB : Below w0.heap.size w0 w) (hr0_2 : ∀ W_, Kept w W_ (fun k_ => P3_ k_) → Kd.C (Kd.int .i64) W_ A0_2 l0_2.length l0_2) (hc0_2 : l0_2.length ≤ c0_2) (hr1 : ∀ W_, Kept w W_ (fun k_ => P3_ k_) → Kd.C (Kd.int .i64) W_ A1 l1.length l1) (hc1 : l1.length ≤ c1) (ho3 : Kd.R (Kd.int .i64) 3 w w0.heap.size P3_ u9000_ l3) (hs5_0 : Kd.V (Kd.int .i64) 3 w w0.heap.size (fun k_ => P5_0_ k_ ∧ some k_ ≠ (u9000_ : Value).ownBlock) (.slice A5_0 l5_0.length c5_0) l5_0) (h : spec_l9Place.f k a0_0 a0_1 l0_2 l1 a2 l3 a4 l5_0 a5_1 = some (r1, r2)),
  Calls Tryd.prog 34 #[.agg #[.int .i64 a0_0, .bool a0_1, .slice A0_2 l0_2.length c0_2], .slice A1 l1.length c1, .int .i64 a2, u9000_, .bool a4, .agg #[.slice A5_0 l5_0.length c5_0, .int .i64 a5_1]] w fun e w' => ∃ v0_ : Value, e = .returned (.agg #[v0_, .int .i64 r2]) ∧ Kd.V (Kd.int .i64) 3 w' w0.heap.size (fun k_ => ((P3_ k_ ∨ P5_0_ k_) ∨ w.heap.size ≤ k_)) v0_ r1 ∧ Below w0.heap.size w0 w' ∧ Kept w w' (fun k_ => P3_ k_) := by
 induction k using Nat.strongRecOn with
 | _ k ih =>
 intro a0_0 a0_1 A0_2 c0_2 l0_2 A1 c1 l1 a2 P3_ u9000_ l3 a4 P5_0_ A5_0 c5_0 l5_0 a5_1 r1 r2 w0 w hB hr0_2 hc0_2 hr1 hc1 ho3 hs5_0 h
 cases k with
 | zero => exact absurd h (by simp [spec_l9Place.f])
 | succ k =>
 simp only [spec_l9Place.f] at h
 have hu26 := Tryd.underlying26
 have hu60 := Tryd.underlying60
 have HR0_2 := am hr0_2
 have HC0_2 := am hc0_2
 clear hr0_2 hc0_2
 have HR1 := am hr1
 have HC1 := am hc1
 clear hr1 hc1
 have HO3 := am (show Kd.R (Kd.int .i64) 3 w w0.heap.size (fun k_ => (P3_ k_ ∨ w.heap.size ≤ k_)) u9000_ l3 from Kd.R_mono ho3 (fun k_ hk => (.inl hk)))
 have HO5_0 := am (show Kd.V (Kd.int .i64) 3 w w0.heap.size (fun k_ => ((P3_ k_ ∨ P5_0_ k_) ∨ w.heap.size ≤ k_) ∧ some k_ ≠ (u9000_ : Value).ownBlock) (.slice A5_0 l5_0.length c5_0) l5_0 from Kd.V_mono hs5_0 (fun k_ hk => ⟨.inl (.inr hk.1), hk.2⟩))
 have HK := am (Kept.refl w (fun k_ => P3_ k_))
 have HW0 := am hB.size
 have HB := am hB
 clear hB
 have H : (if (l3.length : Int) = (l1.length : Int) then (if a5_1 = 0 then (some (l3, wrap64 (a5_1 + 1))) else (some (l5_0, wrap64 (a5_1 + 1)))) else (spec_l9Place.l0 k l1 a2 l3 a4 0 a0_0 a0_1 l0_2 l5_0 a5_1)) = some (r1, r2) := h
 clear h
 by_cases c7 : (l3.length : Int) = (l1.length : Int)
 ·rw [if_pos c7] at H
  have c7b0 : ((l3.length : Int) == (l1.length : Int)) = true := beq_iff_eq.mpr c7
  have c7b1 : ((l3.length : Int) != (l1.length : Int)) = false := bne_eq_false_iff_eq.mpr c7
  have c7b2 : (l3.length == l1.length) = true := by first | simpa using c7 | (simp at c7 ⊢; omega)
  clear c7
  by_cases c8 : a5_1 = 0
  ·rw [if_pos c8] at H
   have c8b0 : (a5_1 == 0) = true := beq_iff_eq.mpr c8
   have c8b1 : (a5_1 != 0) = false := bne_eq_false_iff_eq.mpr c8
   clear c8
   simp only [Option.some.injEq, Prod.mk.injEq] at H
   obtain ⟨rfl, rfl⟩ := H
   go_enter Tryd.func34, Tryd.ntmps34
   go_wp2_with (first | ((with_reducible refine gate_dst (N := 6) rfl ?_); refine box_event ?hg (N := 6) ?hd (cs := #[.int .i64 a0_0, .bool a0_1, .slice A0_2 l0_2.length c0_2]) (t := 26) ?hr ?_; (case hd => rfl); (case hg => rfl); (case hr => first | (go_simp; done) | (go_simp; rfl)); intro gb128 hg w9 hbox hb; have BK128 := am (hbox); have GW128 := am ((by rw [hg]; exact (by first | exact HK.out.1 | exact (show Kept w _ (fun k_ => P3_ k_) from pkT HK).1) : w.heap.size ≤ gb128)); have GE128 := am ((by rw [hg]; exact (below_size (pkB HB)) : w0.heap.size ≤ gb128)); replace HO3 := am (Kd.R_below (pk HO3) hb); replace HO5_0 := am (Kd.V_below (Kd.V_elderB (pk HO5_0) gb128 (Nat.le_of_eq hg.symm)) hb); replace HK := am (Kept.below (S := (fun k_ => P3_ k_)) (pkT HK) hb); replace HB := am (below_step (pkB HB) hb); clear hb hbox hg) | ((with_reducible refine gate_dst (N := 11) rfl ?_); refine box_event ?hg (N := 11) ?hd (cs := #[.slice A5_0 l5_0.length c5_0, .int .i64 a5_1]) (t := 60) ?hr ?_; (case hd => rfl); (case hg => rfl); (case hr => first | (go_simp; done) | (go_simp; rfl)); intro gb129 hg w10 hbox hb; have BK129 := am (hbox); have GW129 := am ((by rw [hg]; exact (by first | exact HK.out.1 | exact (show Kept w _ (fun k_ => P3_ k_) from pkT HK).1) : w.heap.size ≤ gb129)); have GE129 := am ((by rw [hg]; exact (below_size (pkB HB)) : w0.heap.size ≤ gb129)); have NB128_129 := am ((by rw [hg]; exact Nat.ne_of_lt (blk_lt (pkC BK128)) : gb128 ≠ gb129)); have NB129_128 := am ((by rw [hg]; exact Nat.ne_of_gt (blk_lt (pkC BK128)) : gb129 ≠ gb128)); replace HO3 := am (Kd.R_below (pk HO3) hb); replace HO5_0 := am (Kd.V_below (Kd.V_elderB (pk HO5_0) gb129 (Nat.le_of_eq hg.symm)) hb); replace BK128 := am (blk_below (pkC BK128) hb); replace HK := am (Kept.below (S := (fun k_ => P3_ k_)) (pkT HK) hb); replace HB := am (below_step (pkB HB) hb); clear hb hbox hg) | ((with_reducible refine gate_dst (N := 12) rfl ?_); refine box_event ?hg (N := 12) ?hd (cs := #[.slice none 0 0, .int .i64 0]) (t := 60) ?hr ?_; (case hd => rfl); (case hg => rfl); (case hr => first | (go_simp; done) | (go_simp; rfl)); intro gb130 hg w11 hbox hb; have BK130 := am (hbox); have GW130 := am ((by rw [hg]; exact (by first | exact HK.out.1 | exact (show Kept w _ (fun k_ => P3_ k_) from pkT HK).1) : w.heap.size ≤ gb130)); have GE130 := am ((by rw [hg]; exact (below_size (pkB HB)) : w0.heap.size ≤ gb130)); have NB128_130 := am ((by rw [hg]; exact Nat.ne_of_lt (blk_lt (pkC BK128)) : gb128 ≠ gb130)); have NB130_128 := am ((by rw [hg]; exact Nat.ne_of_gt (blk_lt (pkC BK128)) : gb130 ≠ gb128)); have NB129_130 := am ((by rw [hg]; exact Nat.ne_of_lt (blk_lt (pkC BK129)) : gb129 ≠ gb130)); have NB130_129 := am ((by rw [hg]; exact Nat.ne_of_gt (blk_lt (pkC BK129)) : gb130 ≠ gb129)); replace HO3 := am (Kd.R_below (pk HO3) hb); replace HO5_0 := am (Kd.V_below (Kd.V_elderB (pk HO5_0) gb130 (Nat.le_of_eq hg.symm)) hb); replace BK128 := am (blk_below (pkC BK128) hb); replace BK129 := am (blk_below (pkC BK129) hb); replace HK := am (Kept.below (S := (fun k_ => P3_ k_)) (pkT HK) hb); replace HB := am (below_step (pkB HB) hb); clear hb hbox hg; obtain ⟨Ao12, co12, eo12⟩ := Kd.R_slice HO3.out; subst eo12; have hnb13 := NB129_128.out; have hnc13 := NB128_129.out; have hnb14 := NB129_130.out; have hnc14 := NB130_129.out; have hcz15_0 : w11.cell? ⟨gb129, 0, none⟩ = some (.slice A5_0 l5_0.length c5_0) := (blk_cell BK129.out 0).trans rfl; have hcz15_1 : w11.cell? ⟨gb129, 1, none⟩ = some (.int .i64 a5_1) := (blk_cell BK129.out 1).trans rfl; have hfz15_0 := blk_frozen BK129.out 0; have hfz15_1 := blk_frozen BK129.out 1; have hnb16 := NB130_128.out; have hnc16 := NB128_130.out; have hcz17_0 : w11.cell? ⟨gb130, 0, none⟩ = some (.slice none 0 0) := (blk_cell BK130.out 0).trans rfl; have hcz17_1 : w11.cell? ⟨gb130, 1, none⟩ = some (.int .i64 0) := (blk_cell BK130.out 1).trans rfl; have hfz17_0 := blk_frozen BK130.out 0; have hfz17_1 := blk_frozen BK130.out 1))
   refine bodyPost_ret (results_cell_row rfl _ _ gb130 60 #[.slice Ao12 l3.length co12, .int .i64 (wrap64 (a5_1 + 1))] (0, 0) _ rfl (by (with_reducible repeat (first | refine blk_drewN ?_ _ | refine blk_drew ?_ | refine blk_alloc ?_ _)); refine blk_put (cs := #[.slice Ao12 l3.length co12, .int .i64 0]) ?_ 1 _ rfl; (with_reducible repeat (first | refine blk_drewN ?_ _ | refine blk_drew ?_ | refine blk_alloc ?_ _)); refine blk_put (cs := #[.slice none 0 0, .int .i64 0]) ?_ 0 _ rfl; (with_reducible repeat (first | refine blk_drewN ?_ _ | refine blk_drew ?_ | refine blk_alloc ?_ _)); refine blk_far ?_ NB130_129.out _; (with_reducible repeat (first | refine blk_drewN ?_ _ | refine blk_drew ?_ | refine blk_alloc ?_ _)); refine blk_far ?_ NB130_129.out _; (with_reducible repeat (first | refine blk_drewN ?_ _ | refine blk_drew ?_ | refine blk_alloc ?_ _)); exact BK130.out) Tryd.underlying60 rfl (by kernel_rfl)) rfl ?_
   exact ⟨_, by first | rfl | (simp [errW_none, errW_some] <;> rfl) | (simp [*, errW_none, errW_some] <;> rfl), Kd.V_mono (Kd.R_V (Kd.R_mono (Kd.R_far (p := ⟨gb130, 1, none⟩) (Kd.R_far (p := ⟨gb130, 0, none⟩) (Kd.R_far (p := ⟨gb129, 1, none⟩) (Kd.R_far (p := ⟨gb129, 0, none⟩) (Kd.R_types (Kd.R_types HO3.out BK129.out (by decide)) BK130.out (by decide)) (fun _ hk => hk.1.2) (.slice Ao12 l3.length co12)) (fun _ hk => hk.1.2) (.int .i64 (wrap64 (a5_1 + 1)))) (fun _ hk => hk.2) (.slice Ao12 l3.length co12)) (fun _ hk => hk.2) (.int .i64 (wrap64 (a5_1 + 1)))) (fun _ hk => hk.1.1))) (fun k_ hk => by first | exact ⟨(Or.imp_left (fun h_ => (.inl h_)) (hk.1)), hk.2⟩ | exact (Or.imp_left (fun h_ => (.inl h_)) (hk))), pkB HB, pkT HK⟩
  ·rw [if_neg c8] at H
   have c8b0 : (a5_1 == 0) = false := beq_eq_false_iff_ne.mpr c8
   have c8b1 : (a5_1 != 0) = true := bne_iff_ne.mpr c8
   simp only [Option.some.injEq, Prod.mk.injEq] at H
   obtain ⟨rfl, rfl⟩ := H
   go_enter Tryd.func34, Tryd.ntmps34
   go_wp2_with (first | ((with_reducible refine gate_dst (N := 6) rfl ?_); refine box_event ?hg (N := 6) ?hd (cs := #[.int .i64 a0_0, .bool a0_1, .slice A0_2 l0_2.length c0_2]) (t := 26) ?hr ?_; (case hd => rfl); (case hg => rfl); (case hr => first | (go_simp; done) | (go_simp; rfl)); intro gb128 hg w18 hbox hb; have BK128 := am (hbox); have GW128 := am ((by rw [hg]; exact (by first | exact HK.out.1 | exact (show Kept w _ (fun k_ => P3_ k_) from pkT HK).1) : w.heap.size ≤ gb128)); have GE128 := am ((by rw [hg]; exact (below_size (pkB HB)) : w0.heap.size ≤ gb128)); replace HO3 := am (Kd.R_below (pk HO3) hb); replace HO5_0 := am (Kd.V_below (Kd.V_elderB (pk HO5_0) gb128 (Nat.le_of_eq hg.symm)) hb); replace HK := am (Kept.below (S := (fun k_ => P3_ k_)) (pkT HK) hb); replace HB := am (below_step (pkB HB) hb); clear hb hbox hg) | ((with_reducible refine gate_dst (N := 11) rfl ?_); refine box_event ?hg (N := 11) ?hd (cs := #[.slice A5_0 l5_0.length c5_0, .int .i64 a5_1]) (t := 60) ?hr ?_; (case hd => rfl); (case hg => rfl); (case hr => first | (go_simp; done) | (go_simp; rfl)); intro gb129 hg w19 hbox hb; have BK129 := am (hbox); have GW129 := am ((by rw [hg]; exact (by first | exact HK.out.1 | exact (show Kept w _ (fun k_ => P3_ k_) from pkT HK).1) : w.heap.size ≤ gb129)); have GE129 := am ((by rw [hg]; exact (below_size (pkB HB)) : w0.heap.size ≤ gb129)); have NB128_129 := am ((by rw [hg]; exact Nat.ne_of_lt (blk_lt (pkC BK128)) : gb128 ≠ gb129)); have NB129_128 := am ((by rw [hg]; exact Nat.ne_of_gt (blk_lt (pkC BK128)) : gb129 ≠ gb128)); replace HO3 := am (Kd.R_below (pk HO3) hb); replace HO5_0 := am (Kd.V_below (Kd.V_elderB (pk HO5_0) gb129 (Nat.le_of_eq hg.symm)) hb); replace BK128 := am (blk_below (pkC BK128) hb); replace HK := am (Kept.below (S := (fun k_ => P3_ k_)) (pkT HK) hb); replace HB := am (below_step (pkB HB) hb); clear hb hbox hg) | ((with_reducible refine gate_dst (N := 12) rfl ?_); refine box_event ?hg (N := 12) ?hd (cs := #[.slice none 0 0, .int .i64 0]) (t := 60) ?hr ?_; (case hd => rfl); (case hg => rfl); (case hr => first | (go_simp; done) | (go_simp; rfl)); intro gb130 hg w20 hbox hb; have BK130 := am (hbox); have GW130 := am ((by rw [hg]; exact (by first | exact HK.out.1 | exact (show Kept w _ (fun k_ => P3_ k_) from pkT HK).1) : w.heap.size ≤ gb130)); have GE130 := am ((by rw [hg]; exact (below_size (pkB HB)) : w0.heap.size ≤ gb130)); have NB128_130 := am ((by rw [hg]; exact Nat.ne_of_lt (blk_lt (pkC BK128)) : gb128 ≠ gb130)); have NB130_128 := am ((by rw [hg]; exact Nat.ne_of_gt (blk_lt (pkC BK128)) : gb130 ≠ gb128)); have NB129_130 := am ((by rw [hg]; exact Nat.ne_of_lt (blk_lt (pkC BK129)) : gb129 ≠ gb130)); have NB130_129 := am ((by rw [hg]; exact Nat.ne_of_gt (blk_lt (pkC BK129)) : gb130 ≠ gb129)); replace HO3 := am (Kd.R_below (pk HO3) hb); replace HO5_0 := am (Kd.V_below (Kd.V_elderB (pk HO5_0) gb130 (Nat.le_of_eq hg.symm)) hb); replace BK128 := am (blk_below (pkC BK128) hb); replace BK129 := am (blk_below (pkC BK129) hb); replace HK := am (Kept.below (S := (fun k_ => P3_ k_)) (pkT HK) hb); replace HB := am (below_step (pkB HB) hb); clear hb hbox hg; obtain ⟨Ao21, co21, eo21⟩ := Kd.R_slice HO3.out; subst eo21; have hnb22 := NB129_128.out; have hnc22 := NB128_129.out; have hnb23 := NB129_130.out; have hnc23 := NB130_129.out; have hcz24_0 : w20.cell? ⟨gb129, 0, none⟩ = some (.slice A5_0 l5_0.length c5_0) := (blk_cell BK129.out 0).trans rfl; have hcz24_1 : w20.cell? ⟨gb129, 1, none⟩ = some (.int .i64 a5_1) := (blk_cell BK129.out 1).trans rfl; have hfz24_0 := blk_frozen BK129.out 0; have hfz24_1 := blk_frozen BK129.out 1; have hnb25 := NB130_128.out; have hnc25 := NB128_130.out; have hcz26_0 : w20.cell? ⟨gb130, 0, none⟩ = some (.slice none 0 0) := (blk_cell BK130.out 0).trans rfl; have hcz26_1 : w20.cell? ⟨gb130, 1, none⟩ = some (.int .i64 0) := (blk_cell BK130.out 1).trans rfl; have hfz26_0 := blk_frozen BK130.out 0; have hfz26_1 := blk_frozen BK130.out 1))
   refine bodyPost_ret (results_cell_row rfl _ _ gb130 60 #[.slice A5_0 l5_0.length c5_0, .int .i64 (wrap64 (a5_1 + 1))] (0, 0) _ rfl (by (with_reducible repeat (first | refine blk_drewN ?_ _ | refine blk_drew ?_ | refine blk_alloc ?_ _)); refine blk_put (cs := #[.slice A5_0 l5_0.length c5_0, .int .i64 0]) ?_ 1 _ rfl; (with_reducible repeat (first | refine blk_drewN ?_ _ | refine blk_drew ?_ | refine blk_alloc ?_ _)); refine blk_put (cs := #[.slice none 0 0, .int .i64 0]) ?_ 0 _ rfl; (with_reducible repeat (first | refine blk_drewN ?_ _ | refine blk_drew ?_ | refine blk_alloc ?_ _)); refine blk_far ?_ NB130_129.out _; (with_reducible repeat (first | refine blk_drewN ?_ _ | refine blk_drew ?_ | refine blk_alloc ?_ _)); exact BK130.out) Tryd.underlying60 rfl (by kernel_rfl)) rfl ?_
   exact ⟨_, by first | rfl | (simp [errW_none, errW_some] <;> rfl) | (simp [*, errW_none, errW_some] <;> rfl), by (with_reducible repeat (first | apply Kd.V_alloc | apply Kd.V_drewN | apply Kd.V_drew)); exact Kd.V_mono (Kd.V_far (p := ⟨gb130, 1, none⟩) (Kd.V_far (p := ⟨gb130, 0, none⟩) (Kd.V_far (p := ⟨gb129, 1, none⟩) (Kd.V_mono (Kd.V_mono HO5_0.out (fun k_ hk => (⟨hk, hk.1.2⟩ : _ ∧ k_ ≠ gb129))) (fun k_ hk => (⟨hk, hk.1.2⟩ : _ ∧ k_ ≠ gb130))) (fun _ hk => hk.1.2) (.int .i64 (wrap64 (a5_1 + 1)))) (fun _ hk => hk.2) (.slice A5_0 l5_0.length c5_0)) (fun _ hk => hk.2) (.int .i64 (wrap64 (a5_1 + 1)))) (fun _ hk => hk.1.1.1.1.1.1), pkB HB, pkT HK⟩
 ·rw [if_neg c7] at H
  have c7b0 : ((l3.length : Int) == (l1.length : Int)) = false := beq_eq_false_iff_ne.mpr c7
  have c7b1 : ((l3.length : Int) != (l1.length : Int)) = true := bne_iff_ne.mpr c7
  have c7b2 : (l3.length == l1.length) = false := by first | simpa using c7 | (simp at c7 ⊢; omega)
  have H' := am H
  clear H
  go_enter Tryd.func34, Tryd.ntmps34
  go_wp2_with (first | ((with_reducible refine gate_dst (N := 6) rfl ?_); refine box_event ?hg (N := 6) ?hd (cs := #[.int .i64 a0_0, .bool a0_1, .slice A0_2 l0_2.length c0_2]) (t := 26) ?hr ?_; (case hd => rfl); (case hg => rfl); (case hr => first | (go_simp; done) | (go_simp; rfl)); intro gb128 hg w27 hbox hb; have BK128 := am (hbox); have GW128 := am ((by rw [hg]; exact (by first | exact HK.out.1 | exact (show Kept w _ (fun k_ => P3_ k_) from pkT HK).1) : w.heap.size ≤ gb128)); have GE128 := am ((by rw [hg]; exact (below_size (pkB HB)) : w0.heap.size ≤ gb128)); replace HO3 := am (Kd.R_below (pk HO3) hb); replace HO5_0 := am (Kd.V_below (Kd.V_elderB (pk HO5_0) gb128 (Nat.le_of_eq hg.symm)) hb); replace HK := am (Kept.below (S := (fun k_ => P3_ k_)) (pkT HK) hb); replace HB := am (below_step (pkB HB) hb); clear hb hbox hg) | ((with_reducible refine gate_dst (N := 11) rfl ?_); refine box_event ?hg (N := 11) ?hd (cs := #[.slice A5_0 l5_0.length c5_0, .int .i64 a5_1]) (t := 60) ?hr ?_; (case hd => rfl); (case hg => rfl); (case hr => first | (go_simp; done) | (go_simp; rfl)); intro gb129 hg w28 hbox hb; have BK129 := am (hbox); have GW129 := am ((by rw [hg]; exact (by first | exact HK.out.1 | exact (show Kept w _ (fun k_ => P3_ k_) from pkT HK).1) : w.heap.size ≤ gb129)); have GE129 := am ((by rw [hg]; exact (below_size (pkB HB)) : w0.heap.size ≤ gb129)); have NB128_129 := am ((by rw [hg]; exact Nat.ne_of_lt (blk_lt (pkC BK128)) : gb128 ≠ gb129)); have NB129_128 := am ((by rw [hg]; exact Nat.ne_of_gt (blk_lt (pkC BK128)) : gb129 ≠ gb128)); replace HO3 := am (Kd.R_below (pk HO3) hb); replace HO5_0 := am (Kd.V_below (Kd.V_elderB (pk HO5_0) gb129 (Nat.le_of_eq hg.symm)) hb); replace BK128 := am (blk_below (pkC BK128) hb); replace HK := am (Kept.below (S := (fun k_ => P3_ k_)) (pkT HK) hb); replace HB := am (below_step (pkB HB) hb); clear hb hbox hg) | ((with_reducible refine gate_dst (N := 12) rfl ?_); refine box_event ?hg (N := 12) ?hd (cs := #[.slice none 0 0, .int .i64 0]) (t := 60) ?hr ?_; (case hd => rfl); (case hg => rfl); (case hr => first | (go_simp; done) | (go_simp; rfl)); intro gb130 hg w29 hbox hb; have BK130 := am (hbox); have GW130 := am ((by rw [hg]; exact (by first | exact HK.out.1 | exact (show Kept w _ (fun k_ => P3_ k_) from pkT HK).1) : w.heap.size ≤ gb130)); have GE130 := am ((by rw [hg]; exact (below_size (pkB HB)) : w0.heap.size ≤ gb130)); have NB128_130 := am ((by rw [hg]; exact Nat.ne_of_lt (blk_lt (pkC BK128)) : gb128 ≠ gb130)); have NB130_128 := am ((by rw [hg]; exact Nat.ne_of_gt (blk_lt (pkC BK128)) : gb130 ≠ gb128)); have NB129_130 := am ((by rw [hg]; exact Nat.ne_of_lt (blk_lt (pkC BK129)) : gb129 ≠ gb130)); have NB130_129 := am ((by rw [hg]; exact Nat.ne_of_gt (blk_lt (pkC BK129)) : gb130 ≠ gb129)); replace HO3 := am (Kd.R_below (pk HO3) hb); replace HO5_0 := am (Kd.V_below (Kd.V_elderB (pk HO5_0) gb130 (Nat.le_of_eq hg.symm)) hb); replace BK128 := am (blk_below (pkC BK128) hb); replace BK129 := am (blk_below (pkC BK129) hb); replace HK := am (Kept.below (S := (fun k_ => P3_ k_)) (pkT HK) hb); replace HB := am (below_step (pkB HB) hb); clear hb hbox hg; obtain ⟨Ao30, co30, eo30⟩ := Kd.R_slice HO3.out; subst eo30))
  go_loopg [13] k (fun kq v13 w' => ∃ (x13_1 : Int) (x130000_1 : List Int) (x130001_1 : Int) (u130000 : Value), v13 = .int .i64 x13_1 ∧ Aside0 (spec_l9Place.l0 kq l1 a2 l3 a4 x13_1 a0_0 a0_1 l0_2 x130000_1 x130001_1 = some (r1, r2)) ∧ Aside0 (kq ≤ k) ∧ Aside0 (Kd.R (Kd.int .i64) 3 w' w0.heap.size (fun k_ => (P3_ k_ ∨ w.heap.size ≤ k_)) (.slice Ao30 l3.length co30) l3) ∧ Aside0 (Kd.V (Kd.int .i64) 3 w' w0.heap.size (fun k_ => ((P3_ k_ ∨ P5_0_ k_) ∨ w.heap.size ≤ k_) ∧ some k_ ≠ ((.slice Ao30 l3.length co30) : Value).ownBlock ∧ k_ ≠ gb128 ∧ k_ ≠ gb129 ∧ k_ ≠ gb130) u130000 x130000_1) ∧ Aside0 (w'.heap[gb128]? = some (.cells #[.int .i64 a0_0, .bool a0_1, (.slice A0_2 l0_2.length c0_2)] 26 (0, 0))) ∧ Aside0 (w'.heap[gb129]? = some (.cells #[u130000, .int .i64 x130001_1] 60 (0, 0))) ∧ Aside0 (w'.heap[gb130]? = some (.cells #[(.slice none 0 0), .int .i64 0] 60 (0, 0))) ∧ Aside0 (Kept w w' (fun k_ => P3_ k_)) ∧ Aside0 (Below w0.heap.size w0 w'))
  case atStart => exact ⟨(0), (l5_0), (a5_1), (.slice A5_0 l5_0.length c5_0), (by first | rfl | (simp; done) | (simp [*]; done)), H', ⟨Nat.le_refl _⟩, ⟨by (with_reducible repeat (first | apply Kd.R_alloc | apply Kd.R_drewN | apply Kd.R_drew)); exact HO3.out⟩, ⟨by (with_reducible repeat (first | apply Kd.V_alloc | apply Kd.V_drewN | apply Kd.V_drew)); exact Kd.V_mono HO5_0.out (fun _ hk => ⟨hk.1.1.1.1, ⟨hk.1.1.1.2, ⟨hk.1.1.2, ⟨hk.1.2, hk.2⟩⟩⟩⟩)⟩, ⟨pkC BK128⟩, ⟨pkC BK129⟩, ⟨pkC BK130⟩, ⟨pkT HK⟩, ⟨pkB HB⟩⟩
  case round =>
   clear H'
   try clear c1
   try clear c2
   try clear p2
   try clear c3
   try clear c5
   try clear p6
   try clear c7
   try clear c7b0
   try clear c7b1
   try clear c7b2
   try clear c8
   try clear c8b0
   try clear c8b1
   try clear c13
   try clear c14
   try clear c16
   try clear c22
   try clear c23
   try clear c25
   try clear hcz15_0
   try clear hcz15_1
   try clear hcz17_0
   try clear hcz17_1
   try clear hcz24_0
   try clear hcz24_1
   try clear hcz26_0
   try clear hcz26_1
   try clear hfz15_0
   try clear hfz15_1
   try clear hfz17_0
   try clear hfz17_1
   try clear hfz24_0
   try clear hfz24_1
   try clear hfz26_0
   try clear hfz26_1
   obtain ⟨x13_1, x130000_1, x130001_1, u130000, rfl, HA, HK1, HO_3, HO_130000, BK128, BK129, BK130, HK, HB⟩ := hrel
   cases gk with
   | zero => exact absurd HA.out (by simp [spec_l9Place.l0])
   | succ k1 =>
    have H := HA.out
    clear HA
    simp only [spec_l9Place.l0] at H
    have HC31 := am H
    clear H
    go_upto_region 7 with (fail)
    go_cut [41] (fun v41 wc => ∃ (kq : Nat) (x41_30 : Bool), v41 = .bool x41_30 ∧ Aside0 (spec_l9Place.j1 kq l1 a2 l3 a4 x13_1 x41_30 a0_0 a0_1 l0_2 x130000_1 x130001_1 = some (r1, r2)) ∧ Aside0 (kq ≤ k1) ∧ Aside0 (Kd.R (Kd.int .i64) 3 wc w0.heap.size (fun k_ => (P3_ k_ ∨ w.heap.size ≤ k_)) (.slice Ao30 l3.length co30) l3) ∧ Aside0 (Kd.V (Kd.int .i64) 3 wc w0.heap.size (fun k_ => ((P3_ k_ ∨ P5_0_ k_) ∨ w.heap.size ≤ k_) ∧ some k_ ≠ ((.slice Ao30 l3.length co30) : Value).ownBlock ∧ k_ ≠ gb128 ∧ k_ ≠ gb129 ∧ k_ ≠ gb130) u130000 x130000_1) ∧ Aside0 (wc.heap[gb128]? = some (.cells #[.int .i64 a0_0, .bool a0_1, (.slice A0_2 l0_2.length c0_2)] 26 (0, 0))) ∧ Aside0 (wc.heap[gb129]? = some (.cells #[u130000, .int .i64 x130001_1] 60 (0, 0))) ∧ Aside0 (wc.heap[gb130]? = some (.cells #[(.slice none 0 0), .int .i64 0] 60 (0, 0))) ∧ Aside0 (Kept w wc (fun k_ => P3_ k_)) ∧ Aside0 (Below w0.heap.size w0 wc))
    case first =>
     have H := HC31.out
     clear HC31
     by_cases c32 : x13_1 < a0_0
     ·rw [if_pos c32] at H
      have c32b0 : decide (x13_1 < a0_0) = true := decide_eq_true c32
      clear c32
      (first | rw [c32b0] | (simp only [i64_w, i32_w]; rw [c32b0]) | rw [c32b1] | skip)
      by_cases c33 : a4 = true
      ·subst c33
       rw [if_pos rfl] at H
       have H' := am H
       clear H
       have hnb34 := NB128_129.out
       have hnc34 := NB129_128.out
       have hnb35 := NB128_130.out
       have hnc35 := NB130_128.out
       obtain ⟨hcz36_0, hcz36_1, hcz36_2⟩ := bc3 BK128.out
       obtain ⟨hfz36_0, hfz36_1, hfz36_2⟩ := bf3 BK128.out
       have hnb37 := NB129_130.out
       have hnc37 := NB130_129.out
       have hcz38_0 : wr.cell? ⟨gb129, 0, none⟩ = some (u130000) := (blk_cell BK129.out 0).trans rfl
       have hcz38_1 : wr.cell? ⟨gb129, 1, none⟩ = some (.int .i64 x130001_1) := (blk_cell BK129.out 1).trans rfl
       have hfz38_0 := blk_frozen BK129.out 0
       have hfz38_1 := blk_frozen BK129.out 1
       go_wp2
       go_meet
       case rel => exact ⟨_, (!(decide (x130001_1 > 0))), (by first | rfl | (simp; done) | (simp [*]; done)), H', ⟨by have := HK1.out; first | omega | exact Nat.le_refl _⟩, ⟨by (with_reducible repeat (first | apply Kd.R_alloc | apply Kd.R_drewN | apply Kd.R_drew)); exact HO_3.out⟩, ⟨by (with_reducible repeat (first | apply Kd.V_alloc | apply Kd.V_drewN | apply Kd.V_drew)); exact HO_130000.out⟩, ⟨pkC BK128⟩, ⟨pkC BK129⟩, ⟨pkC BK130⟩, ⟨pkT HK⟩, ⟨pkB HB⟩⟩
      ·replace c33 := Bool.eq_false_iff.mpr c33
       subst c33
       rw [if_neg (show ¬ (false = true) by decide)] at H
       have H' := am H
       clear H
       have hnb39 := NB128_129.out
       have hnc39 := NB129_128.out
       have hnb40 := NB128_130.out
       have hnc40 := NB130_128.out
       obtain ⟨hcz41_0, hcz41_1, hcz41_2⟩ := bc3 BK128.out
       obtain ⟨hfz41_0, hfz41_1, hfz41_2⟩ := bf3 BK128.out
       go_wp2
       go_meet
       case rel => exact ⟨_, (!false), (by first | rfl | (simp; done) | (simp [*]; done)), H', ⟨by have := HK1.out; first | omega | exact Nat.le_refl _⟩, ⟨by (with_reducible repeat (first | apply Kd.R_alloc | apply Kd.R_drewN | apply Kd.R_drew)); exact HO_3.out⟩, ⟨by (with_reducible repeat (first | apply Kd.V_alloc | apply Kd.V_drewN | apply Kd.V_drew)); exact HO_130000.out⟩, ⟨pkC BK128⟩, ⟨pkC BK129⟩, ⟨pkC BK130⟩, ⟨pkT HK⟩, ⟨pkB HB⟩⟩
     ·rw [if_neg c32] at H
      have c32b0 : decide (x13_1 < a0_0) = false := decide_eq_false c32
      clear c32
      (first | rw [c32b0] | (simp only [i64_w, i32_w]; rw [c32b0]) | rw [c32b1] | skip)
      have H' := am H
      clear H
      have hnb42 := NB128_129.out
      have hnc42 := NB129_128.out
      have hnb43 := NB128_130.out
      have hnc43 := NB130_128.out
      obtain ⟨hcz44_0, hcz44_1, hcz44_2⟩ := bc3 BK128.out
      obtain ⟨hfz44_0, hfz44_1, hfz44_2⟩ := bf3 BK128.out
      go_wp2
      go_meet
      case rel => exact ⟨_, (false), (by first | rfl | (simp; done) | (simp [*]; done)), H', ⟨by have := HK1.out; first | omega | exact Nat.le_refl _⟩, ⟨by (with_reducible repeat (first | apply Kd.R_alloc | apply Kd.R_drewN | apply Kd.R_drew)); exact HO_3.out⟩, ⟨by (with_reducible repeat (first | apply Kd.V_alloc | apply Kd.V_drewN | apply Kd.V_drew)); exact HO_130000.out⟩, ⟨pkC BK128⟩, ⟨pkC BK129⟩, ⟨pkC BK130⟩, ⟨pkT HK⟩, ⟨pkB HB⟩⟩
    case rest =>
     clear HC31
     try clear c1
     try clear c2
     try clear p2
     try clear c3
     try clear c4
     try clear c5
     try clear p6
     try clear c7
     try clear c7b0
     try clear c7b1
     try clear c7b2
     try clear c8
     try clear c8b0
     try clear c8b1
     try clear c13
     try clear c14
     try clear c16
     try clear c22
     try clear c23
     try clear c25
     try clear c32
     try clear c32b0
     try clear c32b1
     try clear c33
     try clear c34
     try clear c35
     try clear c37
     try clear c39
     try clear c40
     try clear c42
     try clear c43
     try clear hcz15_0
     try clear hcz15_1
     try clear hcz17_0
     try clear hcz17_1
     try clear hcz24_0
     try clear hcz24_1
     try clear hcz26_0
     try clear hcz26_1
     try clear hcz36_0
     try clear hcz36_1
     try clear hcz36_2
     try clear hcz38_0
     try clear hcz38_1
     try clear hcz41_0
     try clear hcz41_1
     try clear hcz41_2
     try clear hcz44_0
     try clear hcz44_1
     try clear hcz44_2
     try clear hfz15_0
     try clear hfz15_1
     try clear hfz17_0
     try clear hfz17_1
     try clear hfz24_0
     try clear hfz24_1
     try clear hfz26_0
     try clear hfz26_1
     try clear hfz36_0
     try clear hfz36_1
     try clear hfz36_2
     try clear hfz38_0
     try clear hfz38_1
     try clear hfz41_0
     try clear hfz41_1
     try clear hfz41_2
     try clear hfz44_0
     try clear hfz44_1
     try clear hfz44_2
     try clear p2
     try clear p6
     obtain ⟨kq, x41_30, rfl, HA, HJ30, HO_3, HO_130000, BK128, BK129, BK130, HK, HB⟩ := hcut
     cases kq with
     | zero => exact absurd HA.out (by simp [spec_l9Place.j1])
     | succ kj30 =>
      have H := HA.out
      clear HA
      simp only [spec_l9Place.j1] at H
      by_cases c45 : x41_30 = true
      ·subst c45
       rw [if_pos rfl] at H
       replace H := Option.bind_eq_some_iff.mp H
       obtain ⟨t131, A460, H⟩ := H
       try dsimp only at H
       have A46 := am A460
       clear A460
       by_cases c47 : t131 = true
       ·subst c47
        rw [if_pos rfl] at H
        replace H := Option.bind_eq_some_iff.mp H
        obtain ⟨t132, A480, H⟩ := H
        try dsimp only at H
        have A48 := am A480
        clear A480
        obtain ⟨y135, hy135⟩ : ∃ y_ : List Int, y_ = (([x13_1] : List Int)) := ⟨_, rfl⟩
        replace H : (if t132.length + y135.length < 17592186044416 then ((spec_l9Place.f kj30 a0_0 a0_1 l0_2 l1 a2 (t132 ++ y135) a4 x130000_1 x130001_1).bind fun bt141 => (spec_l9Place.l0 kj30 l1 a2 l3 a4 (wrap64 (x13_1 + 1)) a0_0 a0_1 l0_2 bt141.1 bt141.2)) else (none)) = some (r1, r2) := by first | (rw [hy135]; with_reducible exact H) | (have H2_ := (Option.bind_some _ _).symm.trans H; rw [hy135]; with_reducible exact H2_) | (have H2_ := (Option.bind_some _ _).symm.trans H; with_reducible exact H2_) | with_reducible exact H | (rw [hy135]; exact H) | exact H
        have Ny135 := am hy135
        clear hy135
        by_cases c49 : t132.length + y135.length < 17592186044416
        ·rw [if_pos c49] at H
         have LMc49 := am c49
         clear c49
         obtain ⟨y138, hy138⟩ : ∃ y_ : List Int, y_ = (t132 ++ y135) := ⟨_, rfl⟩
         replace H : ((spec_l9Place.f kj30 a0_0 a0_1 l0_2 l1 a2 y138 a4 x130000_1 x130001_1).bind fun bt141 => (spec_l9Place.l0 kj30 l1 a2 l3 a4 (wrap64 (x13_1 + 1)) a0_0 a0_1 l0_2 bt141.1 bt141.2)) = some (r1, r2) := by first | (rw [hy138]; with_reducible exact H) | (have H2_ := (Option.bind_some _ _).symm.trans H; rw [hy138]; with_reducible exact H2_) | (have H2_ := (Option.bind_some _ _).symm.trans H; with_reducible exact H2_) | with_reducible exact H | (rw [hy138]; exact H) | exact H
         have Ny138 := am hy138
         clear hy138
         replace H := Option.bind_eq_some_iff.mp H
         obtain ⟨⟨t141, t144⟩, A500, H⟩ := H
         try dsimp only at H
         have A50 := am A500
         clear A500
         have H' := am H
         clear H
         have hnb51 := NB128_129.out
         have hnc51 := NB129_128.out
         have hnb52 := NB128_130.out
         have hnc52 := NB130_128.out
         obtain ⟨hcz53_0, hcz53_1, hcz53_2⟩ := bc3 BK128.out
         obtain ⟨hfz53_0, hfz53_1, hfz53_2⟩ := bf3 BK128.out
         try go_wp2_with (first | ((with_reducible refine gate_callee (f := 47) rfl ?_); refine goesL_ (some 49) rfl rfl Tryd.func47 (by kernel_rfl) rfl #[.agg #[.int .i64 a0_0, .bool a0_1, .slice A0_2 l0_2.length c0_2], .slice A1 l1.length c1, .int .i64 a2, .slice Ao30 l3.length co30, .int .i64 x13_1] rfl (by first | rfl | (simp only [List.map_toArray, List.map_cons, List.map_nil, List.length_drop, List.length_take]; first | done | rfl)) ?_; (with_reducible refine (spec_l9Fits.calls kj30 a0_0 a0_1 _ _ l0_2 _ _ l1 a2 _ _ l3 x13_1 true _ ?side1 ?side2 ?side3 ?side4 ?side5 ?side6 A46.out).mono ?_); (case side1 => exact Kd.C_kept_now HR0_2.out (pkT HK)); (case side2 => exact HC0_2.out); (case side3 => exact Kd.C_kept_now HR1.out (pkT HK)); (case side4 => exact HC1.out); (case side5 => repeat (first | exact (Kd.R_reads' HO_3.out).2.2 | (with_reducible refine Kd.C_alloc ?_ _) | (with_reducible refine Kd.C_drewN ?_ _) | (with_reducible refine Kd.C_drew ?_))); (case side6 => exact (Kd.R_reads' HO_3.out).2.1); rintro e w54 ⟨rfl, hb⟩; refine ⟨_, rfl, ?_⟩; replace HO_3 := am (Kd.R_below (pk HO_3) hb); replace HO_130000 := am (Kd.V_below (pk HO_130000) hb); replace BK128 := am (blk_below (pkC BK128) hb); replace BK129 := am (blk_below (pkC BK129) hb); replace BK130 := am (blk_below (pkC BK130) hb); replace HK := am (Kept.below (S := (fun k_ => P3_ k_)) (pkT HK) hb); replace HB := am (below_step (pkB HB) hb); (try clear hb); (try clear hb2); (try clear hk); (try clear hi); obtain ⟨Ao55, co55, eo55⟩ := Kd.V_slice HO_130000.out; subst eo55))
         replace HO_3 := am (Kd.R_drew HO_3.out)
         replace HO_130000 := am (Kd.V_drew HO_130000.out)
         replace BK128 := am (blk_drew BK128.out)
         replace BK129 := am (blk_drew BK129.out)
         replace BK130 := am (blk_drew BK130.out)
         replace HK := am (Kept.drew HK.out)
         replace HB := am (below_drew1 HB.out)
         refine start_ (n := 12) (S := fun w' => w'.cell? ⟨gb128, 0, none⟩ = some (.int .i64 a0_0) ∧ w'.cell? ⟨gb128, 1, none⟩ = some (.bool a0_1) ∧ w'.cell? ⟨gb128, 2, none⟩ = some (.slice A0_2 l0_2.length c0_2) ∧ w'.cell? ⟨gb129, 0, none⟩ = some (.slice Ao55 x130000_1.length co55) ∧ w'.cell? ⟨gb129, 1, none⟩ = some (.int .i64 x130001_1)) (ds := [11]) #[false, false, false, false, false, false, false, false, false, false, false, false] (by kernel_rfl) rfl rfl ⟨(blk_cell BK128.out 0).trans rfl, (blk_cell BK128.out 1).trans rfl, (blk_cell BK128.out 2).trans rfl, (blk_cell BK129.out 0).trans rfl, (blk_cell BK129.out 1).trans rfl⟩ (fun hHeld => ?_); refine with_tabW spec_l9Place.tab10 spec_l9Place.bits10 (fun HT_ HW_ => ?_)
         generalize w54.drew = w56 at HO_3 HO_130000 BK128 BK129 BK130 HK HB hHeld ⊢
         refine pi_ (i := 1) (N := some 51) (v := ?_) (a' := ?_) (bm 12 2) rfl rfl HT_ (by kernel_rfl) (fun _ _ _ h => h) (Or.inl ⟨by rfl, ?_⟩) ?_ ?_
         rotate_left
         ·intro w'
          go_simp
          with_reducible rfl
         rotate_left
         ·simp only [Act.put, pp_]
          rfl
         refine pi_ (i := 2) (N := some 52) (v := ?_) (a' := ?_) (bm 12 6) rfl rfl HT_ (by kernel_rfl) (fun _ _ _ h => h) (Or.inl ⟨by rfl, ?_⟩) ?_ ?_
         rotate_left
         ·intro w'
          go_simp
          with_reducible rfl
         rotate_left
         ·simp only [Act.put, pp_]
          rfl
         refine pi_ (i := 3) (N := some 53) (v := ?_) (a' := ?_) (bm 12 14) rfl rfl HT_ (by kernel_rfl) (fun _ _ _ h => h) (Or.inl ⟨by rfl, ?_⟩) ?_ ?_
         rotate_left
         ·intro w'
          go_simp
          with_reducible rfl
         rotate_left
         ·simp only [Act.put, pp_]
          rfl
         refine pi_ (i := 5) (N := some 55) (v := ?_) (a' := ?_) (bm 12 46) rfl rfl HT_ (by kernel_rfl) (fun _ _ _ h => h) (Or.inl ⟨by rfl, ?_⟩) ?_ ?_
         rotate_left
         ·intro w'
          go_simp
          with_reducible rfl
         rotate_left
         ·simp only [Act.put, pp_]
          rfl
         refine pi_ (i := 8) (N := some 58) (v := ?_) (a' := ?_) (bm 12 302) rfl rfl HT_ (by kernel_rfl) (fun _ _ _ h => h) (Or.inl ⟨by rfl, ?_⟩) ?_ ?_
         rotate_left
         ·intro w'
          go_simp
          with_reducible rfl
         rotate_left
         ·simp only [Act.put, pp_]
          rfl
         refine take_ (i := 0) (N := some 50) (v := ?_) (a' := ?_) (bm 12 303) rfl rfl (take_ofW HT_.out HW_.out (by kernel_rfl)) (fun _ _ _ h => h) (Or.inl ⟨by rfl, ?_⟩) hHeld ?_ ?_
         rotate_left
         ·rintro w' ⟨s0, s1, s2, s3, s4⟩
          go_simp
          with_reducible rfl
         rotate_left
         ·simp only [Act.put, pp_]
          rfl
         refine take_ (i := 9) (N := some 59) (v := ?_) (a' := ?_) (bm 12 815) rfl rfl (take_ofW HT_.out HW_.out (by kernel_rfl)) (fun _ _ _ h => h) (Or.inl ⟨by rfl, ?_⟩) hHeld ?_ ?_
         rotate_left
         ·rintro w' ⟨s0, s1, s2, s3, s4⟩
          go_simp
          with_reducible rfl
         rotate_left
         ·simp only [Act.put, pp_]
          rfl
         refine join_ (σ := Value × Value) 3 (bm 12 895) (fun s_ => [(54, s_.1), (56, s_.2)]) (fun s_ w' => (w'.cell? ⟨gb128, 0, none⟩ = some (.int .i64 a0_0) ∧ w'.cell? ⟨gb128, 1, none⟩ = some (.bool a0_1) ∧ w'.cell? ⟨gb128, 2, none⟩ = some (.slice A0_2 l0_2.length c0_2) ∧ w'.cell? ⟨gb129, 0, none⟩ = some (.slice Ao55 x130000_1.length co55) ∧ w'.cell? ⟨gb129, 1, none⟩ = some (.int .i64 x130001_1)) ∧ (Kd.R (Kd.int .i64) 3 w' w0.heap.size (fun k_ => (P3_ k_ ∨ w.heap.size ≤ k_) ∧ some k_ ≠ (s_.2 : Value).ownBlock ∧ some k_ ≠ (.slice Ao30 l3.length co30 : Value).ownBlock) s_.1 t132) ∧ (Kd.R (Kd.int .i64) 3 w' w0.heap.size (fun k_ => (P3_ k_ ∨ w.heap.size ≤ k_) ∧ some k_ ≠ (s_.1 : Value).ownBlock ∧ some k_ ≠ (.slice Ao30 l3.length co30 : Value).ownBlock) s_.2 y135) ∧ (Kd.V (Kd.int .i64) 3 w' w0.heap.size (fun k_ => ((P3_ k_ ∨ P5_0_ k_) ∨ w.heap.size ≤ k_) ∧ some k_ ≠ (s_.1 : Value).ownBlock ∧ some k_ ≠ (s_.2 : Value).ownBlock ∧ some k_ ≠ (.slice Ao30 l3.length co30 : Value).ownBlock ∧ k_ ≠ gb128 ∧ k_ ≠ gb129 ∧ k_ ≠ gb130) (.slice Ao55 x130000_1.length co55) x130000_1) ∧ (Kd.R (Kd.int .i64) 3 w' w0.heap.size (fun k_ => (P3_ k_ ∨ w.heap.size ≤ k_) ∧ some k_ ≠ (s_.1 : Value).ownBlock ∧ some k_ ≠ (s_.2 : Value).ownBlock) (.slice Ao30 l3.length co30) l3) ∧ (w'.heap[gb128]? = some (.cells #[.int .i64 a0_0, .bool a0_1, .slice A0_2 l0_2.length c0_2] 26 (0, 0))) ∧ (w'.heap[gb129]? = some (.cells #[.slice Ao55 x130000_1.length co55, .int .i64 x130001_1] 60 (0, 0))) ∧ (w'.heap[gb130]? = some (.cells #[.slice none 0 0, .int .i64 0] 60 (0, 0))) ∧ (Kept w w' (fun k_ => P3_ k_)) ∧ (Below w0.heap.size w0 w')) ?_ ?_
         rotate_left
         ·intro hCont
          refine two_ (i := 4) (j := 6) (Ni := some 54) (Nj := some 56) (bm 12 831) (bm 12 879) rfl rfl rfl rfl (two_of HT_.out (by kernel_rfl)) (by decide) (by decide) (fun K hK => ?_) (fun K hK => ?_)
          ·skip
           refine goes_ Tryd.func29 (by kernel_rfl) rfl #[.slice Ao30 l3.length co30] (by rfl) rfl rfl (by first | rfl | (simp only [List.map_toArray, List.map_cons, List.map_nil, List.length_drop, List.length_take]; first | done | rfl)) ?_
           with_reducible refine (spec_l1Own.calls _ _ l3 t132 _ ?side1 ?side2 A48.out).mono ?_
           (case side1 => repeat (first | exact (Kd.R_reads' HO_3.out).2.2 | (with_reducible refine Kd.C_alloc ?_ _) | (with_reducible refine Kd.C_drewN ?_ _) | (with_reducible refine Kd.C_drew ?_)))
           (case side2 => exact (Kd.R_reads' HO_3.out).2.1)
           rintro e w57 ⟨v133, rfl, ho0, hb⟩
           refine ⟨_, rfl, ?_⟩
           have HO134 := am (Kd.R_lower (Kd.R_new' (Kd.R_newM (M := fun k_ => (P3_ k_ ∨ w.heap.size ≤ k_)) ho0 (by first | exact HK.out.1 | exact (show Kept w _ (fun k_ => P3_ k_) from pkT HK).1) (fun k_ h_ => .inr h_)) (Kd.R_lt (pk HO_3))) (below_size (pkB HB)))
           replace HO_3 := am (Kd.R_elder' (pk HO_3) (Kd.R_base ho0) hb)
           replace HO_130000 := am (Kd.V_elder' (pk HO_130000) (Kd.R_base ho0) hb)
           replace BK128 := am (blk_below (pkC BK128) hb)
           replace BK129 := am (blk_below (pkC BK129) hb)
           replace BK130 := am (blk_below (pkC BK130) hb)
           replace HK := am (Kept.below (S := (fun k_ => P3_ k_)) (pkT HK) hb)
           replace HB := am (below_step (pkB HB) hb)
           (try clear hb)
           (try clear hb2)
           (try clear hk)
           (try clear hi)
           (try clear ho0)
           refine hK.out _ _ ⟨(blk_cell BK128.out 0).trans rfl, (blk_cell BK128.out 1).trans rfl, (blk_cell BK128.out 2).trans rfl, (blk_cell BK129.out 0).trans rfl, (blk_cell BK129.out 1).trans rfl⟩ (fun hHeld => ?_)
           clear hK K
           refine norm_ (a' := ?_) ?_ ?_
           rotate_left
           ·show Act.put _ (some 54) _ = _
            simp only [Act.put, pp_]
            rfl
           refine one_ (i := 6) (N := some 56) (bm 12 895) rfl rfl (one_of HT_.out (by kernel_rfl)) (by decide) (fun K hK => ?_)
           refine Kd.R_lit_step (Kd.int .i64) _ 3 ?hg (N := 56) ?hd (xs := ([x13_1] : List Int)) (inner := [.int .i64 x13_1]) (ok := fun _ => True) (okp := fun _ => True) ?hr ?hp (fun _ hk => hk) trivial (Below.refl _ _) (Nat.le_refl _) (by simp) ?_; (case hd => rfl); (case hg => rfl); (case hr => first | (go_simp; done) | (go_simp; rfl)); (case hp => exact (Reps.one (show Kd.M (Kd.int .i64) _ _ _ x13_1 [.int .i64 x13_1] from rfl) (Reps.none _ _)))
           intro v136 w58 ho59 hb hg_ hnew_
           clear hg_ hnew_
           (first | rw [← Ny135.out] at ho59 | (simp only [Int.reduceToNat] at ho59; rw [← Ny135.out] at ho59))
           have HO137 := am (Kd.R_lower (Kd.R_new' (Kd.R_new' (Kd.R_newM (M := fun k_ => (P3_ k_ ∨ w.heap.size ≤ k_)) ho59 (by first | exact HK.out.1 | exact (show Kept w _ (fun k_ => P3_ k_) from pkT HK).1) (fun k_ h_ => .inr h_)) (Kd.R_lt (pk HO_3))) (Kd.R_lt (pk HO134))) (below_size (pkB HB)))
           replace HO_3 := am (Kd.R_elder' (pk HO_3) (Kd.R_base ho59) hb)
           replace HO_130000 := am (Kd.V_elder' (pk HO_130000) (Kd.R_base ho59) hb)
           replace HO134 := am (Kd.R_elder' (pk HO134) (Kd.R_base ho59) hb)
           replace BK128 := am (blk_below (pkC BK128) hb)
           replace BK129 := am (blk_below (pkC BK129) hb)
           replace BK130 := am (blk_below (pkC BK130) hb)
           replace HK := am (Kept.below (S := (fun k_ => P3_ k_)) (pkT HK) hb)
           replace HB := am (below_step (pkB HB) hb)
           clear hb ho59
           refine hK.out _ _ ⟨(blk_cell BK128.out 0).trans rfl, (blk_cell BK128.out 1).trans rfl, (blk_cell BK128.out 2).trans rfl, (blk_cell BK129.out 0).trans rfl, (blk_cell BK129.out 1).trans rfl⟩ (fun hHeld => ?_)
           clear hK K
           refine norm_ (a' := ?_) ?_ ?_
           rotate_left
           ·show Act.put _ (some 56) _ = _
            simp only [Act.put, pp_]
            rfl
           exact norm_ (by simp only [putAll, Act.put, List.setIfInBounds_toArray, List.set_cons_zero, List.set_cons_succ]) (hCont (v133, v136) _ ⟨hHeld, (Kd.R_mono HO134.out (fun _ hk => ⟨hk.1.1.1, ⟨hk.2, hk.1.2⟩⟩)), (Kd.R_mono HO137.out (fun _ hk => ⟨hk.1.1.1, ⟨hk.2, hk.1.2⟩⟩)), (by (with_reducible repeat (first | apply Kd.V_alloc | apply Kd.V_drewN | apply Kd.V_drew)); exact Kd.V_mono HO_130000.out (fun _ hk => ⟨hk.1.1.1, ⟨hk.1.2, ⟨hk.2, ⟨hk.1.1.2.1, ⟨hk.1.1.2.2.1, ⟨hk.1.1.2.2.2.1, hk.1.1.2.2.2.2⟩⟩⟩⟩⟩⟩)), (Kd.R_mono HO_3.out (fun _ hk => ⟨hk.1.1, ⟨hk.1.2, hk.2⟩⟩)), (pkC BK128), (pkC BK129), (pkC BK130), (pkT HK), (pkB HB)⟩)
          ·skip
           refine Kd.R_lit_step (Kd.int .i64) _ 3 ?hg (N := 56) ?hd (xs := ([x13_1] : List Int)) (inner := [.int .i64 x13_1]) (ok := fun _ => True) (okp := fun _ => True) ?hr ?hp (fun _ hk => hk) trivial (Below.refl _ _) (Nat.le_refl _) (by simp) ?_; (case hd => rfl); (case hg => rfl); (case hr => first | (go_simp; done) | (go_simp; rfl)); (case hp => exact (Reps.one (show Kd.M (Kd.int .i64) _ _ _ x13_1 [.int .i64 x13_1] from rfl) (Reps.none _ _)))
           intro v136 w57 ho58 hb hg_ hnew_
           clear hg_ hnew_
           (first | rw [← Ny135.out] at ho58 | (simp only [Int.reduceToNat] at ho58; rw [← Ny135.out] at ho58))
           have HO137 := am (Kd.R_lower (Kd.R_new' (Kd.R_newM (M := fun k_ => (P3_ k_ ∨ w.heap.size ≤ k_)) ho58 (by first | exact HK.out.1 | exact (show Kept w _ (fun k_ => P3_ k_) from pkT HK).1) (fun k_ h_ => .inr h_)) (Kd.R_lt (pk HO_3))) (below_size (pkB HB)))
           replace HO_3 := am (Kd.R_elder' (pk HO_3) (Kd.R_base ho58) hb)
           replace HO_130000 := am (Kd.V_elder' (pk HO_130000) (Kd.R_base ho58) hb)
           replace BK128 := am (blk_below (pkC BK128) hb)
           replace BK129 := am (blk_below (pkC BK129) hb)
           replace BK130 := am (blk_below (pkC BK130) hb)
           replace HK := am (Kept.below (S := (fun k_ => P3_ k_)) (pkT HK) hb)
           replace HB := am (below_step (pkB HB) hb)
           clear hb ho58
           refine hK.out _ _ ⟨(blk_cell BK128.out 0).trans rfl, (blk_cell BK128.out 1).trans rfl, (blk_cell BK128.out 2).trans rfl, (blk_cell BK129.out 0).trans rfl, (blk_cell BK129.out 1).trans rfl⟩ (fun hHeld => ?_)
           clear hK K
           refine norm_ (a' := ?_) ?_ ?_
           rotate_left
           ·show Act.put _ (some 56) _ = _
            simp only [Act.put, pp_]
            rfl
           refine one_ (i := 4) (N := some 54) (bm 12 895) rfl rfl (one_of HT_.out (by kernel_rfl)) (by decide) (fun K hK => ?_)
           refine goes_ Tryd.func29 (by kernel_rfl) rfl #[.slice Ao30 l3.length co30] (by rfl) rfl rfl (by first | rfl | (simp only [List.map_toArray, List.map_cons, List.map_nil, List.length_drop, List.length_take]; first | done | rfl)) ?_
           with_reducible refine (spec_l1Own.calls _ _ l3 t132 _ ?side1 ?side2 A48.out).mono ?_
           (case side1 => repeat (first | exact (Kd.R_reads' HO_3.out).2.2 | (with_reducible refine Kd.C_alloc ?_ _) | (with_reducible refine Kd.C_drewN ?_ _) | (with_reducible refine Kd.C_drew ?_)))
           (case side2 => exact (Kd.R_reads' HO_3.out).2.1)
           rintro e w59 ⟨v133, rfl, ho0, hb⟩
           refine ⟨_, rfl, ?_⟩
           have HO134 := am (Kd.R_lower (Kd.R_new' (Kd.R_new' (Kd.R_newM (M := fun k_ => (P3_ k_ ∨ w.heap.size ≤ k_)) ho0 (by first | exact HK.out.1 | exact (show Kept w _ (fun k_ => P3_ k_) from pkT HK).1) (fun k_ h_ => .inr h_)) (Kd.R_lt (pk HO_3))) (Kd.R_lt (pk HO137))) (below_size (pkB HB)))
           replace HO_3 := am (Kd.R_elder' (pk HO_3) (Kd.R_base ho0) hb)
           replace HO_130000 := am (Kd.V_elder' (pk HO_130000) (Kd.R_base ho0) hb)
           replace HO137 := am (Kd.R_elder' (pk HO137) (Kd.R_base ho0) hb)
           replace BK128 := am (blk_below (pkC BK128) hb)
           replace BK129 := am (blk_below (pkC BK129) hb)
           replace BK130 := am (blk_below (pkC BK130) hb)
           replace HK := am (Kept.below (S := (fun k_ => P3_ k_)) (pkT HK) hb)
           replace HB := am (below_step (pkB HB) hb)
           (try clear hb)
           (try clear hb2)
           (try clear hk)
           (try clear hi)
           (try clear ho0)
           refine hK.out _ _ ⟨(blk_cell BK128.out 0).trans rfl, (blk_cell BK128.out 1).trans rfl, (blk_cell BK128.out 2).trans rfl, (blk_cell BK129.out 0).trans rfl, (blk_cell BK129.out 1).trans rfl⟩ (fun hHeld => ?_)
           clear hK K
           refine norm_ (a' := ?_) ?_ ?_
           rotate_left
           ·show Act.put _ (some 54) _ = _
            simp only [Act.put, pp_]
            rfl
           exact norm_ (by simp only [putAll, Act.put, List.setIfInBounds_toArray, List.set_cons_zero, List.set_cons_succ]) (hCont (v133, v136) _ ⟨hHeld, (Kd.R_mono HO134.out (fun _ hk => ⟨hk.1.1.1, ⟨hk.2, hk.1.2⟩⟩)), (Kd.R_mono HO137.out (fun _ hk => ⟨hk.1.1.1, ⟨hk.2, hk.1.2⟩⟩)), (by (with_reducible repeat (first | apply Kd.V_alloc | apply Kd.V_drewN | apply Kd.V_drew)); exact Kd.V_mono HO_130000.out (fun _ hk => ⟨hk.1.1.1, ⟨hk.2, ⟨hk.1.2, ⟨hk.1.1.2.1, ⟨hk.1.1.2.2.1, ⟨hk.1.1.2.2.2.1, hk.1.1.2.2.2.2⟩⟩⟩⟩⟩⟩)), (Kd.R_mono HO_3.out (fun _ hk => ⟨hk.1.1, ⟨hk.2, hk.1.2⟩⟩)), (pkC BK128), (pkC BK129), (pkC BK130), (pkT HK), (pkB HB)⟩)
         rintro ⟨v133, v136⟩ w60 ⟨hS_, h0_, h1_, h2_, h3_, h4_, h5_, h6_, h7_, h8_⟩
         have n0_ : Aside0 (Kd.R (Kd.int .i64) 3 w60 w0.heap.size (fun k_ => (P3_ k_ ∨ w.heap.size ≤ k_) ∧ some k_ ≠ (v136 : Value).ownBlock ∧ some k_ ≠ (.slice Ao30 l3.length co30 : Value).ownBlock) v133 t132) := ⟨h0_⟩
         have n1_ : Aside0 (Kd.R (Kd.int .i64) 3 w60 w0.heap.size (fun k_ => (P3_ k_ ∨ w.heap.size ≤ k_) ∧ some k_ ≠ (v133 : Value).ownBlock ∧ some k_ ≠ (.slice Ao30 l3.length co30 : Value).ownBlock) v136 y135) := ⟨h1_⟩
         have n2_ : Aside0 (Kd.V (Kd.int .i64) 3 w60 w0.heap.size (fun k_ => ((P3_ k_ ∨ P5_0_ k_) ∨ w.heap.size ≤ k_) ∧ some k_ ≠ (v133 : Value).ownBlock ∧ some k_ ≠ (v136 : Value).ownBlock ∧ some k_ ≠ (.slice Ao30 l3.length co30 : Value).ownBlock ∧ k_ ≠ gb128 ∧ k_ ≠ gb129 ∧ k_ ≠ gb130) (.slice Ao55 x130000_1.length co55) x130000_1) := ⟨h2_⟩
         have n3_ : Aside0 (Kd.R (Kd.int .i64) 3 w60 w0.heap.size (fun k_ => (P3_ k_ ∨ w.heap.size ≤ k_) ∧ some k_ ≠ (v133 : Value).ownBlock ∧ some k_ ≠ (v136 : Value).ownBlock) (.slice Ao30 l3.length co30) l3) := ⟨h3_⟩
         have n4_ : Aside0 (w60.heap[gb128]? = some (.cells #[.int .i64 a0_0, .bool a0_1, .slice A0_2 l0_2.length c0_2] 26 (0, 0))) := ⟨h4_⟩
         have n5_ : Aside0 (w60.heap[gb129]? = some (.cells #[.slice Ao55 x130000_1.length co55, .int .i64 x130001_1] 60 (0, 0))) := ⟨h5_⟩
         have n6_ : Aside0 (w60.heap[gb130]? = some (.cells #[.slice none 0 0, .int .i64 0] 60 (0, 0))) := ⟨h6_⟩
         have n7_ : Aside0 (Kept w w60 (fun k_ => P3_ k_)) := ⟨h7_⟩
         have n8_ : Aside0 (Below w0.heap.size w0 w60) := ⟨h8_⟩
         clear HO_3 HO_130000 BK128 BK129 BK130 HK HB h0_ h1_ h2_ h3_ h4_ h5_ h6_ h7_ h8_
         have HO134 := n0_
         have HO137 := n1_
         have HO_130000 := n2_
         have HO_3 := n3_
         have BK128 := n4_
         have BK129 := n5_
         have BK130 := n6_
         have HK := n7_
         have HB := n8_
         clear n0_ n1_ n2_ n3_ n4_ n5_ n6_ n7_ n8_
         have hHeld : w60.cell? ⟨gb128, 0, none⟩ = some (.int .i64 a0_0) ∧ w60.cell? ⟨gb128, 1, none⟩ = some (.bool a0_1) ∧ w60.cell? ⟨gb128, 2, none⟩ = some (.slice A0_2 l0_2.length c0_2) ∧ w60.cell? ⟨gb129, 0, none⟩ = some (.slice Ao55 x130000_1.length co55) ∧ w60.cell? ⟨gb129, 1, none⟩ = some (.int .i64 x130001_1) := hS_
         obtain ⟨Ao62, co62, eo62⟩ := Kd.R_slice HO137.out
         (first | subst eo62 | (injection eo62 with f1_ f2_ f3_; have f4_ := f1_.symm; have f5_ := f3_.symm; clear f1_ f2_ f3_; subst f4_; subst f5_))
         refine norm_ (a' := ?_) ?_ ?_
         rotate_left
         ·simp only [putAll, Act.put, List.setIfInBounds_toArray, List.set_cons_zero, List.set_cons_succ]
          rfl
         refine one_ (i := 7) (N := some 57) (bm 12 1023) rfl rfl (one_of HT_.out (by kernel_rfl)) (by decide) (fun K hK => ?_)
         refine Kd.R_append_rows_step (Kd.int .i64) (w0 := w0) w0.heap.size (by rfl) (.tmp 54) (.tmp 56) 24 3 (.int .i64 0) 8 rfl Tryd.underlying24 info3 rfl (by decide) (by omega) v133 t132 y135 _ _ _ (fun k_ => (P3_ k_ ∨ w.heap.size ≤ k_) ∧ some k_ ≠ (.slice Ao30 l3.length co30 : Value).ownBlock ∧ some k_ ≠ (.slice Ao62 y135.length co62 : Value).ownBlock) (fun _ => False) rfl rfl ?aO ?aR (fun _ _ h => h) (fun _ h => h.elim) ?aF ?aB ?aS ?aL ?_
         (case aR => repeat (first | exact (Kd.R_reads' HO137.out).2.2 | (with_reducible refine Kd.C_alloc ?_ _) | (with_reducible refine Kd.C_drewN ?_ _) | (with_reducible refine Kd.C_drew ?_)))
         (case aB => exact (pkB HB))
         (case aF => exact (fun k_ hk => ⟨(.inr (Nat.le_trans (by first | exact HK.out.1 | exact (show Kept w _ (fun k_ => P3_ k_) from pkT HK).1) hk)), Kd.fresh' (Kd.R_lt (pk HO_3)) k_ hk, Kd.fresh' (Kd.R_lt (pk HO137)) k_ hk⟩))
         (case aO => exact (Kd.R_mono HO134.out (fun _ hk => ⟨hk.1, ⟨hk.2.2, hk.2.1⟩⟩)))
         (case aS => exact (below_size (pkB HB)))
         (case aL => have := LMc49.out; omega)
         intro v139 w61 ho hb hg hat
         rw [← Ny138.out] at ho
         have HO140 := am (ho)
         replace HO_3 := am (Kd.R_after (ok := (fun k_ => (P3_ k_ ∨ w.heap.size ≤ k_) ∧ some k_ ≠ (.slice Ao62 y135.length co62 : Value).ownBlock)) (Kd.R_mono HO_3.out (fun _ hk => ⟨⟨hk.1, hk.2.2⟩, hk.2.1⟩)) hg hat)
         replace HO_130000 := am (Kd.V_afterv (ok := (fun k_ => ((P3_ k_ ∨ P5_0_ k_) ∨ w.heap.size ≤ k_) ∧ some k_ ≠ (.slice Ao30 l3.length co30 : Value).ownBlock ∧ some k_ ≠ (.slice Ao62 y135.length co62 : Value).ownBlock ∧ k_ ≠ gb128 ∧ k_ ≠ gb129 ∧ k_ ≠ gb130)) (by (with_reducible repeat (first | apply Kd.V_alloc | apply Kd.V_drewN | apply Kd.V_drew)); exact Kd.V_mono HO_130000.out (fun _ hk => ⟨⟨hk.1, ⟨hk.2.2.2.1, ⟨hk.2.2.1, ⟨hk.2.2.2.2.1, ⟨hk.2.2.2.2.2.1, hk.2.2.2.2.2.2⟩⟩⟩⟩⟩, hk.2.1⟩)) hg hat)
         replace BK128 := am (blk_grown (pkC BK128) hg (Kd.R_ne HO134.out BK128.out (by decide)))
         replace BK129 := am (blk_grown (pkC BK129) hg (Kd.R_ne HO134.out BK129.out (by decide)))
         replace BK130 := am (blk_grown (pkC BK130) hg (Kd.R_ne HO134.out BK130.out (by decide)))
         replace HO137 := am (Kd.R_after (ok := (fun k_ => (P3_ k_ ∨ w.heap.size ≤ k_) ∧ some k_ ≠ (.slice Ao30 l3.length co30 : Value).ownBlock)) (Kd.R_mono HO137.out (fun _ hk => ⟨⟨hk.1, hk.2.2⟩, hk.2.1⟩)) hg hat)
         replace HB := am (hb)
         replace HK := am (Kept.of_grown (S := (fun k_ => P3_ k_)) hg (pkT HK) (fun k_ e_ => (HO134.out.1 k_ e_).1))
         clear HO134 ho hb hg hat
         obtain ⟨Ao63, co63, eo63⟩ := Kd.R_slice HO140.out
         (first | subst eo63 | (injection eo63 with f1_ f2_ f3_; have f4_ := f1_.symm; have f5_ := f3_.symm; clear f1_ f2_ f3_; subst f4_; subst f5_))
         refine hK.out _ _ ⟨(blk_cell BK128.out 0).trans rfl, (blk_cell BK128.out 1).trans rfl, (blk_cell BK128.out 2).trans rfl, (blk_cell BK129.out 0).trans rfl, (blk_cell BK129.out 1).trans rfl⟩ (fun hHeld => ?_)
         clear hK K
         refine norm_ (a' := ?_) ?_ ?_
         rotate_left
         ·show Act.put _ (some 57) _ = _
          simp only [Act.put, pp_]
          rfl
         refine one_ (i := 10) (N := some 60) (bm 12 2047) rfl rfl (one_of HT_.out (by kernel_rfl)) (by decide) (fun K hK => ?_)
         refine goes_ Tryd.func34 (by kernel_rfl) rfl #[.agg #[.int .i64 a0_0, .bool a0_1, .slice A0_2 l0_2.length c0_2], .slice A1 l1.length c1, .int .i64 a2, .slice Ao63 y138.length co63, .bool a4, .agg #[.slice Ao55 x130000_1.length co55, .int .i64 x130001_1]] (by rfl) rfl rfl (by first | rfl | (simp only [List.map_toArray, List.map_cons, List.map_nil, List.length_drop, List.length_take]; first | done | rfl)) ?_
         with_reducible refine (ih kj30 (by have := HK1.out; have := HJ30.out; omega) a0_0 a0_1 _ _ l0_2 _ _ l1 a2 (fun k_ => some k_ = (.slice Ao63 y138.length co63 : Value).ownBlock) (.slice Ao63 y138.length co63) y138 a4 (fun k_ => ((((P3_ k_ ∨ P5_0_ k_) ∨ w.heap.size ≤ k_) ∧ (some k_ ≠ (.slice Ao30 l3.length co30 : Value).ownBlock ∧ (some k_ ≠ (.slice Ao62 y135.length co62 : Value).ownBlock ∧ (k_ ≠ gb128 ∧ (k_ ≠ gb129 ∧ k_ ≠ gb130))))) ∧ some k_ ≠ (.slice Ao63 y138.length co63 : Value).ownBlock)) _ _ x130000_1 x130001_1 t141 t144 w0 _ ?side1 ?side2 ?side3 ?side4 ?side5 ?side6 ?side7 A50.out).mono ?_
         (case side1 => exact pkB HB)
         (case side2 => exact Kd.C_kept_call HR0_2.out (pkT HK) (fun k_ hs_ => (fun e_ => (HO140.out.1 k_ e_.symm).1) hs_))
         (case side3 => exact HC0_2.out)
         (case side4 => exact Kd.C_kept_call HR1.out (pkT HK) (fun k_ hs_ => (fun e_ => (HO140.out.1 k_ e_.symm).1) hs_))
         (case side5 => exact HC1.out)
         (case side6 => exact Kd.R_tight rfl HO140.out)
         (case side7 => exact Kd.V_mono HO_130000.out (fun k_ hk_ => ⟨hk_, hk_.2⟩))
         rintro e w64 ⟨v142, rfl, ho0, hb, hkp⟩
         refine ⟨_, rfl, ?_⟩
         have HO143 := am (Kd.V_mono (ok' := fun k_ => ((P3_ k_ ∨ P5_0_ k_) ∨ w.heap.size ≤ k_) ∧ some k_ ≠ (.slice Ao30 l3.length co30 : Value).ownBlock ∧ some k_ ≠ (.slice Ao62 y135.length co62 : Value).ownBlock ∧ k_ ≠ gb128 ∧ k_ ≠ gb129 ∧ k_ ≠ gb130) ho0 (fun k_ hk_ => ⟨Or.elim hk_ (fun hs_ => Or.elim hs_ (fun hs_ => (Or.imp_left (fun h_ => (.inl h_)) ((HO140.out.1 k_ (hs_).symm).1))) (fun hs_ => hs_.1.1)) (fun hn_ => (.inr (Nat.le_trans (by first | exact HK.out.1 | exact (show Kept w _ (fun k_ => P3_ k_) from pkT HK).1) hn_))), Or.elim hk_ (fun hs_ => Or.elim hs_ (fun hs_ => fun e_ => ((HO_3.out.1 k_ e_.symm).2) hs_) (fun hs_ => hs_.1.2.1)) (fun hn_ => (Kd.fresh' (Kd.R_lt (pk HO_3)) k_ hn_)), Or.elim hk_ (fun hs_ => Or.elim hs_ (fun hs_ => fun e_ => ((HO137.out.1 k_ e_.symm).2) hs_) (fun hs_ => hs_.1.2.2.1)) (fun hn_ => (Kd.fresh' (Kd.R_lt (pk HO137)) k_ hn_)), Or.elim hk_ (fun hs_ => Or.elim hs_ (fun hs_ => fun e_ => (Kd.R_ne HO140.out BK128.out (by decide)) (by rw [← e_]; exact hs_)) (fun hs_ => hs_.1.2.2.2.1)) (fun hn_ => (Kd.freshB (pkC BK128) k_ hn_)), Or.elim hk_ (fun hs_ => Or.elim hs_ (fun hs_ => fun e_ => (Kd.R_ne HO140.out BK129.out (by decide)) (by rw [← e_]; exact hs_)) (fun hs_ => hs_.1.2.2.2.2.1)) (fun hn_ => (Kd.freshB (pkC BK129) k_ hn_)), Or.elim hk_ (fun hs_ => Or.elim hs_ (fun hs_ => fun e_ => (Kd.R_ne HO140.out BK130.out (by decide)) (by rw [← e_]; exact hs_)) (fun hs_ => hs_.1.2.2.2.2.2)) (fun hn_ => (Kd.freshB (pkC BK130) k_ hn_))⟩))
         replace HO_3 := am (Kd.R_mono (ok' := fun k_ => (P3_ k_ ∨ w.heap.size ≤ k_) ∧ some k_ ≠ (.slice Ao62 y135.length co62 : Value).ownBlock) (Kd.R_keptB HO_3.out hkp (fun k_ hk_ hs_ => (hk_.2) hs_)) (fun k_ hk_ => ⟨hk_.1.1.1, hk_.1.1.2⟩))
         replace HO_130000 := am (Kd.V_mono (ok' := fun k_ => ((P3_ k_ ∨ P5_0_ k_) ∨ w.heap.size ≤ k_) ∧ some k_ ≠ (.slice Ao30 l3.length co30 : Value).ownBlock ∧ some k_ ≠ (.slice Ao62 y135.length co62 : Value).ownBlock ∧ k_ ≠ gb128 ∧ k_ ≠ gb129 ∧ k_ ≠ gb130) (Kd.V_keptB HO_130000.out hkp (fun k_ hk_ hs_ => (hk_.2) hs_)) (fun k_ hk_ => ⟨hk_.1.1.1, hk_.1.1.2.1, hk_.1.1.2.2.1, hk_.1.1.2.2.2.1, hk_.1.1.2.2.2.2.1, hk_.1.1.2.2.2.2.2⟩))
         replace BK128 := am (blk_kept (pkC BK128) hkp (fun hs_ => (fun e_ => (Kd.R_ne HO140.out BK128.out (by decide)) e_) hs_))
         replace BK129 := am (blk_kept (pkC BK129) hkp (fun hs_ => (fun e_ => (Kd.R_ne HO140.out BK129.out (by decide)) e_) hs_))
         replace BK130 := am (blk_kept (pkC BK130) hkp (fun hs_ => (fun e_ => (Kd.R_ne HO140.out BK130.out (by decide)) e_) hs_))
         replace HO137 := am (Kd.R_mono (ok' := fun k_ => (P3_ k_ ∨ w.heap.size ≤ k_) ∧ some k_ ≠ (.slice Ao30 l3.length co30 : Value).ownBlock) (Kd.R_keptB HO137.out hkp (fun k_ hk_ hs_ => (hk_.2) hs_)) (fun k_ hk_ => ⟨hk_.1.1.1, hk_.1.1.2⟩))
         replace HK := am (Kept.then_ (S := (fun k_ => P3_ k_)) (pkT HK) hkp (fun k_ hs_ => (fun e_ => (HO140.out.1 k_ e_.symm).1) hs_))
         replace HB := am (hb)
         clear HO140
         (try clear hb)
         (try clear hkp)
         (try clear ho0)
         obtain ⟨Ao65, co65, eo65⟩ := Kd.V_slice HO143.out
         (first | subst eo65 | (injection eo65 with f1_ f2_ f3_; have f4_ := f1_.symm; have f5_ := f3_.symm; clear f1_ f2_ f3_; subst f4_; subst f5_))
         refine hK.out _ _ ⟨(blk_cell BK128.out 0).trans rfl, (blk_cell BK128.out 1).trans rfl, (blk_cell BK128.out 2).trans rfl, (blk_cell BK129.out 0).trans rfl, (blk_cell BK129.out 1).trans rfl⟩ (fun hHeld => ?_)
         clear hK K
         refine norm_ (a' := ?_) ?_ ?_
         rotate_left
         ·show Act.put _ (some 60) _ = _
          simp only [Act.put, pp_]
          rfl
         refine last_ (i := 11) (N := none) (bm 12 4095) rfl rfl (one_of HT_.out (by kernel_rfl)) (by decide) (fun K hK => ?_)
         have hs66 : w64.cell? ⟨gb129, 0, none⟩ = some (.slice Ao55 x130000_1.length co55) := (blk_cell BK129.out 0).trans rfl
         have hfs66 := blk_frozen BK129.out 0
         have hns66_0 := NB128_129.out
         have hns66_2 := NB130_129.out
         have hms66_0 := NB129_128.out
         have hms66_2 := NB129_130.out
         have hs67 : w64.cell? ⟨gb129, 1, none⟩ = some (.int .i64 x130001_1) := (blk_cell BK129.out 1).trans rfl
         have hfs67 := blk_frozen BK129.out 1
         have hns67_0 := NB128_129.out
         have hns67_2 := NB130_129.out
         have hms67_0 := NB129_128.out
         have hms67_2 := NB129_130.out
         refine skip_ (w1 := ?_) (by rfl) rfl ?_ ?_
         rotate_left
         ·go_simp
          rfl
         refine hK.out _ _ ?_
         clear hK K
         refine done_ (done_of HT_.out (by kernel_rfl)) ?_
         try go_wp2
         go_roundg kj30
         case measure => have := HK1.out; have := HJ30.out; omega
         case rel => exact ⟨(wrap64 (x13_1 + 1)), (t141), (t144), (.slice Ao65 t141.length co65), (by first | rfl | (simp; done) | (simp [*]; done)), H', ⟨by have := HK1.out; have := HJ30.out; omega⟩, ⟨Kd.R_mono (Kd.R_far (p := ⟨gb129, 1, none⟩) (Kd.R_far (p := ⟨gb129, 0, none⟩) (Kd.R_types HO_3.out BK129.out (by decide)) (fun _ hk => hk.2) (.slice Ao65 t141.length co65)) (fun _ hk => hk.2) (.int .i64 t144)) (fun _ hk => hk.1.1)⟩, ⟨by (with_reducible repeat (first | apply Kd.V_alloc | apply Kd.V_drewN | apply Kd.V_drew)); exact Kd.V_mono (Kd.V_far (p := ⟨gb129, 1, none⟩) (Kd.V_far (p := ⟨gb129, 0, none⟩) (Kd.V_mono HO143.out (fun k_ hk => (⟨hk, hk.2.2.2.2.1⟩ : _ ∧ k_ ≠ gb129))) (fun _ hk => hk.2) (.slice Ao65 t141.length co65)) (fun _ hk => hk.2) (.int .i64 t144)) (fun _ hk => ⟨hk.1.1, ⟨hk.1.2.1, ⟨hk.1.2.2.2.1, ⟨hk.1.2.2.2.2.1, hk.1.2.2.2.2.2⟩⟩⟩⟩)⟩, ⟨by (with_reducible repeat (first | refine blk_drewN ?_ _ | refine blk_drew ?_ | refine blk_alloc ?_ _)); refine blk_far ?_ NB128_129.out _; (with_reducible repeat (first | refine blk_drewN ?_ _ | refine blk_drew ?_ | refine blk_alloc ?_ _)); refine blk_far ?_ NB128_129.out _; (with_reducible repeat (first | refine blk_drewN ?_ _ | refine blk_drew ?_ | refine blk_alloc ?_ _)); exact BK128.out⟩, ⟨by (with_reducible repeat (first | refine blk_drewN ?_ _ | refine blk_drew ?_ | refine blk_alloc ?_ _)); refine blk_put (cs := #[.slice Ao65 t141.length co65, .int .i64 x130001_1]) ?_ 1 _ rfl; (with_reducible repeat (first | refine blk_drewN ?_ _ | refine blk_drew ?_ | refine blk_alloc ?_ _)); refine blk_put (cs := #[.slice Ao55 x130000_1.length co55, .int .i64 x130001_1]) ?_ 0 _ rfl; (with_reducible repeat (first | refine blk_drewN ?_ _ | refine blk_drew ?_ | refine blk_alloc ?_ _)); exact BK129.out⟩, ⟨by (with_reducible repeat (first | refine blk_drewN ?_ _ | refine blk_drew ?_ | refine blk_alloc ?_ _)); refine blk_far ?_ NB130_129.out _; (with_reducible repeat (first | refine blk_drewN ?_ _ | refine blk_drew ?_ | refine blk_alloc ?_ _)); refine blk_far ?_ NB130_129.out _; (with_reducible repeat (first | refine blk_drewN ?_ _ | refine blk_drew ?_ | refine blk_alloc ?_ _)); exact BK130.out⟩, ⟨pkT HK⟩, ⟨pkB HB⟩⟩
        ·rw [if_neg c49] at H
         exact absurd H (by simp)
       ·replace c47 := Bool.eq_false_iff.mpr c47
        subst c47
        rw [if_neg (show ¬ (false = true) by decide)] at H
        have H' := am H
        clear H
        have hnb68 := NB128_129.out
        have hnc68 := NB129_128.out
        have hnb69 := NB128_130.out
        have hnc69 := NB130_128.out
        obtain ⟨hcz70_0, hcz70_1, hcz70_2⟩ := bc3 BK128.out
        obtain ⟨hfz70_0, hfz70_1, hfz70_2⟩ := bf3 BK128.out
        go_wp2_with (first | ((with_reducible refine gate_callee (f := 47) rfl ?_); refine goesL_ (some 49) rfl rfl Tryd.func47 (by kernel_rfl) rfl #[.agg #[.int .i64 a0_0, .bool a0_1, .slice A0_2 l0_2.length c0_2], .slice A1 l1.length c1, .int .i64 a2, .slice Ao30 l3.length co30, .int .i64 x13_1] rfl (by first | rfl | (simp only [List.map_toArray, List.map_cons, List.map_nil, List.length_drop, List.length_take]; first | done | rfl)) ?_; (with_reducible refine (spec_l9Fits.calls kj30 a0_0 a0_1 _ _ l0_2 _ _ l1 a2 _ _ l3 x13_1 false _ ?side1 ?side2 ?side3 ?side4 ?side5 ?side6 A46.out).mono ?_); (case side1 => exact Kd.C_kept_now HR0_2.out (pkT HK)); (case side2 => exact HC0_2.out); (case side3 => exact Kd.C_kept_now HR1.out (pkT HK)); (case side4 => exact HC1.out); (case side5 => repeat (first | exact (Kd.R_reads' HO_3.out).2.2 | (with_reducible refine Kd.C_alloc ?_ _) | (with_reducible refine Kd.C_drewN ?_ _) | (with_reducible refine Kd.C_drew ?_))); (case side6 => exact (Kd.R_reads' HO_3.out).2.1); rintro e w71 ⟨rfl, hb⟩; refine ⟨_, rfl, ?_⟩; replace HO_3 := am (Kd.R_below (pk HO_3) hb); replace HO_130000 := am (Kd.V_below (pk HO_130000) hb); replace BK128 := am (blk_below (pkC BK128) hb); replace BK129 := am (blk_below (pkC BK129) hb); replace BK130 := am (blk_below (pkC BK130) hb); replace HK := am (Kept.below (S := (fun k_ => P3_ k_)) (pkT HK) hb); replace HB := am (below_step (pkB HB) hb); (try clear hb); (try clear hb2); (try clear hk); (try clear hi)))
        go_roundg kj30
        case measure => have := HK1.out; have := HJ30.out; omega
        case rel => exact ⟨(wrap64 (x13_1 + 1)), (x130000_1), (x130001_1), (u130000), (by first | rfl | (simp; done) | (simp [*]; done)), H', ⟨by have := HK1.out; have := HJ30.out; omega⟩, ⟨by (with_reducible repeat (first | apply Kd.R_alloc | apply Kd.R_drewN | apply Kd.R_drew)); exact HO_3.out⟩, ⟨by (with_reducible repeat (first | apply Kd.V_alloc | apply Kd.V_drewN | apply Kd.V_drew)); exact HO_130000.out⟩, ⟨pkC BK128⟩, ⟨pkC BK129⟩, ⟨pkC BK130⟩, ⟨pkT HK⟩, ⟨pkB HB⟩⟩
      ·replace c45 := Bool.eq_false_iff.mpr c45
       subst c45
       rw [if_neg (show ¬ (false = true) by decide)] at H
       simp only [Option.some.injEq, Prod.mk.injEq] at H
       obtain ⟨rfl, rfl⟩ := H
       have hnb72 := NB129_128.out
       have hnc72 := NB128_129.out
       have hnb73 := NB129_130.out
       have hnc73 := NB130_129.out
       have hcz74_0 : wc.cell? ⟨gb129, 0, none⟩ = some (u130000) := (blk_cell BK129.out 0).trans rfl
       have hcz74_1 : wc.cell? ⟨gb129, 1, none⟩ = some (.int .i64 x130001_1) := (blk_cell BK129.out 1).trans rfl
       have hfz74_0 := blk_frozen BK129.out 0
       have hfz74_1 := blk_frozen BK129.out 1
       obtain ⟨Ao75, co75, eo75⟩ := Kd.V_slice HO_130000.out
       subst eo75
       have hnb76 := NB130_128.out
       have hnc76 := NB128_130.out
       have hcz77_0 : wc.cell? ⟨gb130, 0, none⟩ = some (.slice none 0 0) := (blk_cell BK130.out 0).trans rfl
       have hcz77_1 : wc.cell? ⟨gb130, 1, none⟩ = some (.int .i64 0) := (blk_cell BK130.out 1).trans rfl
       have hfz77_0 := blk_frozen BK130.out 0
       have hfz77_1 := blk_frozen BK130.out 1
       go_wp2
       refine bodyPost_ret (results_cell_row rfl _ _ gb130 60 #[.slice Ao75 x130000_1.length co75, .int .i64 x130001_1] (0, 0) _ rfl (by (with_reducible repeat (first | refine blk_drewN ?_ _ | refine blk_drew ?_ | refine blk_alloc ?_ _)); refine blk_put (cs := #[.slice Ao75 x130000_1.length co75, .int .i64 0]) ?_ 1 _ rfl; (with_reducible repeat (first | refine blk_drewN ?_ _ | refine blk_drew ?_ | refine blk_alloc ?_ _)); refine blk_put (cs := #[.slice none 0 0, .int .i64 0]) ?_ 0 _ rfl; (with_reducible repeat (first | refine blk_drewN ?_ _ | refine blk_drew ?_ | refine blk_alloc ?_ _)); exact BK130.out) Tryd.underlying60 rfl (by kernel_rfl)) rfl ?_
       exact ⟨_, by first | rfl | (simp [errW_none, errW_some] <;> rfl) | (simp [*, errW_none, errW_some] <;> rfl), by (with_reducible repeat (first | apply Kd.V_alloc | apply Kd.V_drewN | apply Kd.V_drew)); exact Kd.V_mono (Kd.V_far (p := ⟨gb130, 1, none⟩) (Kd.V_far (p := ⟨gb130, 0, none⟩) (Kd.V_mono HO_130000.out (fun k_ hk => (⟨hk, hk.2.2.2.2⟩ : _ ∧ k_ ≠ gb130))) (fun _ hk => hk.2) (.slice Ao75 x130000_1.length co75)) (fun _ hk => hk.2) (.int .i64 x130001_1)) (fun _ hk => hk.1.1), pkB HB, pkT HK⟩

end Go.Proofs.YtnoipklaebadeaaDoor.PFnPlacings
