import Derived.Test.YtnoipklaebadeaaDoorZFnPlacingsPFnPlacingsx0
import Derived.Test.YtnoipklaebadeaaDoorZFnPlacingsPFnPlacingsx1
import Derived.Test.YtnoipklaebadeaaDoorZFnPlacingsPFnPlacingsx4
import Derived.Test.YtnoipklaebadeaaDoorZFnPlacingsPFnPlacingsx6
import Derived.Test.YtnoipklaebadeaaDoorZFnPlacingsPFnPlacingsx14
namespace Go.Proofs.YtnoipklaebadeaaDoor.PFnPlacings
open Go.RowKit Go.Proofs.YtnoipklaebadeaaDoorW.PrintWords Go.Proofs.YtnoipklaebadeaaDoorW.PrintLast Go.Proofs.YtnoipklaebadeaaDoorW.PrintMore
attribute [local go_sem] max2_int min2_int max_two min_two max_three min_three max_four min_four   -- for this text's walks alone
set_option linter.unusedVariables false
set_option linter.unusedSimpArgs false

/-! ### spec_PlaceRow: function 7 -/
mutual
def spec_PlaceRow.j0 : Nat → List Int → List Int → Bool → Int → Bool → List Int → Option (Int × Bool × List Int × Bool)
 | 0, _, _, _, _, _, _ => none
 | k + 1, x1, x3, x25, x569000, x569001, x569002 => if x25 = true then (some (0, false, ([] : List Int), false)) else ((spec_l1Own.f x569002).bind fun t572 => ((spec_l2Made.f x569000 x569001 x569002 t572).bind fun bt575 => (spec_PlaceRow.l0 k x1 x3 0 bt575.1 bt575.2.1 bt575.2.2)))
def spec_PlaceRow.l0 : Nat → List Int → List Int → Int → Int → Bool → List Int → Option (Int × Bool × List Int × Bool)
 | 0, _, _, _, _, _, _ => none
 | k + 1, x1, x3, x11, x581000, x581001, x581002 => if x11 < (x1.length : Int) then (spec_PlaceRow.l1 k x1 x3 x11 0 x581000 x581001 x581002) else (some (x581000, x581001, x581002, true))
def spec_PlaceRow.l1 : Nat → List Int → List Int → Int → Int → Int → Bool → List Int → Option (Int × Bool × List Int × Bool)
 | 0, _, _, _, _, _, _, _ => none
 | k + 1, x1, x3, x11, x12, x581000, x581001, x581002 => if 0 ≤ x11 then (if x11 < (x1.length : Int) then (if x12 < (rd x1 x11) then (if x11 < (x3.length : Int) then ((spec_l2With.f k x581000 x581001 x581002 (wrap64 ((rd x3 x11) + x12))).bind fun bt583 => (spec_PlaceRow.l1 k x1 x3 x11 (wrap64 (x12 + 1)) bt583.1 bt583.2.1 bt583.2.2)) else (none)) else (spec_PlaceRow.l0 k x1 x3 (wrap64 (x11 + 1)) x581000 x581001 x581002)) else (none)) else (none)
end
def spec_PlaceRow.f (k : Nat) (a0_0 : Int) (a0_1 : Bool) (l0_2 : List Int) (l1 : List Int) (a2 : Int) (l3 : List Int) : Option (Int × Bool × List Int × Bool) := (spec_l9Groups.f k a0_0 a0_1 l0_2 l1 a2).bind fun t570 => (if t570 = true then ((spec_l9Placing.f k a0_0 a0_1 l0_2 l1 a2 l3).bind fun t571 => (spec_PlaceRow.j0 k l1 l3 (!t571) a0_0 a0_1 l0_2)) else (spec_PlaceRow.j0 k l1 l3 true a0_0 a0_1 l0_2))
def spec_PlaceRow.T10 : Bool × List (List Nat × List Nat) := (true, [([], []), ([], []), ([], []), ([1, 2], [1, 2]), ([3], [3]), ([], []), ([4, 5], [4, 5]), ([0, 6], [0, 6]), ([7, 7, 0, 1, 2, 3, 4, 5, 6, 7], [7])])
def spec_PlaceRow.B10 : List Nat := [0, 0, 0, 6, 14, 0, 62, 127, 255]
theorem spec_PlaceRow.tab10 : rtab .any (opsOf Tryd.f7 10) = spec_PlaceRow.T10 := by kernel_rfl
theorem spec_PlaceRow.bits10 : waitsOk spec_PlaceRow.T10.2 spec_PlaceRow.B10 = true := by kernel_rfl
set_option maxHeartbeats 8000000 in
set_option maxRecDepth 100000 in
theorem spec_PlaceRow.calls (k : Nat) (a0_0 : Int) (a0_1 : Bool) (A0_2 : Option Addr) (c0_2 : Nat) (l0_2 : List Int) (A1 : Option Addr) (c1 : Nat) (l1 : List Int) (a2 : Int) (A3 : Option Addr) (c3 : Nat) (l3 : List Int) (r1 : Int) (r2 : Bool) (r3 : List Int) (r4 : Bool) (w : World) (hr0_2 : Kd.C (Kd.int .i64) w A0_2 l0_2.length l0_2) (hc0_2 : l0_2.length ≤ c0_2) (hr1 : Kd.C (Kd.int .i64) w A1 l1.length l1) (hc1 : l1.length ≤ c1) (hr3 : Kd.C (Kd.int .i64) w A3 l3.length l3) (hc3 : l3.length ≤ c3) (h : spec_PlaceRow.f k a0_0 a0_1 l0_2 l1 a2 l3 = some (r1, r2, r3, r4)) :
  Calls Tryd.prog 7 #[.agg #[.int .i64 a0_0, .bool a0_1, .slice A0_2 l0_2.length c0_2], .slice A1 l1.length c1, .int .i64 a2, .slice A3 l3.length c3] w fun e w' => ∃ v2_ : Value, e = .returned (.tuple #[.agg #[.int .i64 r1, .bool r2, v2_], .bool r4]) ∧ Kd.V (Kd.int .i64) 3 w' w.heap.size (fun k_ => (w.heap.size ≤ k_)) v2_ r3 ∧ Below w.heap.size w w' := by
 have hu26 := Tryd.underlying26
 have HR0_2 := am hr0_2
 have HC0_2 := am hc0_2
 clear hr0_2 hc0_2
 have HR1 := am hr1
 have HC1 := am hc1
 clear hr1 hc1
 have HR3 := am hr3
 have HC3 := am hc3
 clear hr3 hc3
 have HB := am (Below.refl w.heap.size w)
 have H : ((spec_l9Groups.f k a0_0 a0_1 l0_2 l1 a2).bind fun t570 => (if t570 = true then ((spec_l9Placing.f k a0_0 a0_1 l0_2 l1 a2 l3).bind fun t571 => (spec_PlaceRow.j0 k l1 l3 (!t571) a0_0 a0_1 l0_2)) else (spec_PlaceRow.j0 k l1 l3 true a0_0 a0_1 l0_2))) = some (r1, r2, r3, r4) := h
 clear h
 have HC5 := am H
 clear H
 go_enter Tryd.func7, Tryd.ntmps7
 go_upto_region 1 with (first | ((with_reducible refine gate_dst (N := 4) rfl ?_); refine box_event ?hg (N := 4) ?hd (cs := #[.int .i64 a0_0, .bool a0_1, .slice A0_2 l0_2.length c0_2]) (t := 26) ?hr ?_; (case hd => rfl); (case hg => rfl); (case hr => first | (go_simp; done) | (go_simp; rfl)); intro gb568 hg w6 hbox hb; have BK568 := am (hbox); have GW568 := am ((by rw [hg]; exact (below_size (pkB HB)) : w.heap.size ≤ gb568)); have GE568 := am ((by rw [hg]; exact (below_size (pkB HB)) : w.heap.size ≤ gb568)); replace HB := am (below_step (pkB HB) hb); clear hb hbox hg) | ((with_reducible refine gate_dst (N := 8) rfl ?_); refine box_event ?hg (N := 8) ?hd (cs := #[.int .i64 0, .bool false, .slice none 0 0]) (t := 26) ?hr ?_; (case hd => rfl); (case hg => rfl); (case hr => first | (go_simp; done) | (go_simp; rfl)); intro gb569 hg w7 hbox hb; have BK569 := am (hbox); have GW569 := am ((by rw [hg]; exact (below_size (pkB HB)) : w.heap.size ≤ gb569)); have GE569 := am ((by rw [hg]; exact (below_size (pkB HB)) : w.heap.size ≤ gb569)); have NB568_569 := am ((by rw [hg]; exact Nat.ne_of_lt (blk_lt (pkC BK568)) : gb568 ≠ gb569)); have NB569_568 := am ((by rw [hg]; exact Nat.ne_of_gt (blk_lt (pkC BK568)) : gb569 ≠ gb568)); replace BK568 := am (blk_below (pkC BK568) hb); replace HB := am (below_step (pkB HB) hb); clear hb hbox hg))
 (try simp only [Act.put, List.setIfInBounds_toArray, List.set_cons_zero, List.set_cons_succ])
 go_cut [25] (fun v25 wc => ∃ (kq : Nat) (x25_4 : Bool), v25 = .bool x25_4 ∧ Aside0 (spec_PlaceRow.j0 kq l1 l3 x25_4 a0_0 a0_1 l0_2 = some (r1, r2, r3, r4)) ∧ Aside0 (kq ≤ k) ∧ Aside0 (wc.heap[gb568]? = some (.cells #[.int .i64 a0_0, .bool a0_1, (.slice A0_2 l0_2.length c0_2)] 26 (0, 0))) ∧ Aside0 (wc.heap[gb569]? = some (.cells #[.int .i64 0, .bool false, (.slice none 0 0)] 26 (0, 0))) ∧ Aside0 (Below w.heap.size w wc))
 case first =>
  have H := HC5.out
  clear HC5
  replace H := Option.bind_eq_some_iff.mp H
  obtain ⟨t570, A80, H⟩ := H
  try dsimp only at H
  have A8 := am A80
  clear A80
  by_cases c9 : t570 = true
  ·subst c9
   rw [if_pos rfl] at H
   replace H := Option.bind_eq_some_iff.mp H
   obtain ⟨t571, A100, H⟩ := H
   try dsimp only at H
   have A10 := am A100
   clear A100
   have H' := am H
   clear H
   have hnb11 := NB568_569.out
   have hnc11 := NB569_568.out
   obtain ⟨hcz12_0, hcz12_1, hcz12_2⟩ := bc3 BK568.out
   obtain ⟨hfz12_0, hfz12_1, hfz12_2⟩ := bf3 BK568.out
   go_wp2_with (first | (go_at_call 26; (with_reducible refine (spec_l9Groups.calls k a0_0 a0_1 _ _ l0_2 _ _ l1 a2 true _ ?side1 ?side2 ?side3 ?side4 A8.out).mono ?_); (case side1 => repeat (first | exact (Kd.C_below HR0_2.out HB.out) | (with_reducible refine Kd.C_alloc ?_ _) | (with_reducible refine Kd.C_drewN ?_ _) | (with_reducible refine Kd.C_drew ?_))); (case side2 => exact HC0_2.out); (case side3 => repeat (first | exact (Kd.C_below HR1.out HB.out) | (with_reducible refine Kd.C_alloc ?_ _) | (with_reducible refine Kd.C_drewN ?_ _) | (with_reducible refine Kd.C_drew ?_))); (case side4 => exact HC1.out); rintro e w13 ⟨rfl, hb⟩; replace BK568 := am (blk_below (pkC BK568) hb); replace BK569 := am (blk_below (pkC BK569) hb); replace HB := am (below_step (pkB HB) hb); (try clear hb); (try clear hb2); (try clear hk); (try clear hi); obtain ⟨hcz14_0, hcz14_1, hcz14_2⟩ := bc3 BK568.out; obtain ⟨hfz14_0, hfz14_1, hfz14_2⟩ := bf3 BK568.out) | (go_at_call 27; (with_reducible refine (spec_l9Placing.calls k a0_0 a0_1 _ _ l0_2 _ _ l1 a2 _ _ l3 t571 _ ?side1 ?side2 ?side3 ?side4 ?side5 ?side6 A10.out).mono ?_); (case side1 => repeat (first | exact (Kd.C_below HR0_2.out HB.out) | (with_reducible refine Kd.C_alloc ?_ _) | (with_reducible refine Kd.C_drewN ?_ _) | (with_reducible refine Kd.C_drew ?_))); (case side2 => exact HC0_2.out); (case side3 => repeat (first | exact (Kd.C_below HR1.out HB.out) | (with_reducible refine Kd.C_alloc ?_ _) | (with_reducible refine Kd.C_drewN ?_ _) | (with_reducible refine Kd.C_drew ?_))); (case side4 => exact HC1.out); (case side5 => repeat (first | exact (Kd.C_below HR3.out HB.out) | (with_reducible refine Kd.C_alloc ?_ _) | (with_reducible refine Kd.C_drewN ?_ _) | (with_reducible refine Kd.C_drew ?_))); (case side6 => exact HC3.out); rintro e w15 ⟨rfl, hb⟩; replace BK568 := am (blk_below (pkC BK568) hb); replace BK569 := am (blk_below (pkC BK569) hb); replace HB := am (below_step (pkB HB) hb); (try clear hb); (try clear hb2); (try clear hk); (try clear hi)))
   go_meet
   case rel => exact ⟨_, (!t571), (by first | rfl | (simp; done) | (simp [*]; done)), H', ⟨by first | omega | exact Nat.le_refl _⟩, ⟨pkC BK568⟩, ⟨pkC BK569⟩, ⟨pkB HB⟩⟩
  ·replace c9 := Bool.eq_false_iff.mpr c9
   subst c9
   rw [if_neg (show ¬ (false = true) by decide)] at H
   have H' := am H
   clear H
   have hnb16 := NB568_569.out
   have hnc16 := NB569_568.out
   obtain ⟨hcz17_0, hcz17_1, hcz17_2⟩ := bc3 BK568.out
   obtain ⟨hfz17_0, hfz17_1, hfz17_2⟩ := bf3 BK568.out
   go_wp2_with (first | (go_at_call 26; (with_reducible refine (spec_l9Groups.calls k a0_0 a0_1 _ _ l0_2 _ _ l1 a2 false _ ?side1 ?side2 ?side3 ?side4 A8.out).mono ?_); (case side1 => repeat (first | exact (Kd.C_below HR0_2.out HB.out) | (with_reducible refine Kd.C_alloc ?_ _) | (with_reducible refine Kd.C_drewN ?_ _) | (with_reducible refine Kd.C_drew ?_))); (case side2 => exact HC0_2.out); (case side3 => repeat (first | exact (Kd.C_below HR1.out HB.out) | (with_reducible refine Kd.C_alloc ?_ _) | (with_reducible refine Kd.C_drewN ?_ _) | (with_reducible refine Kd.C_drew ?_))); (case side4 => exact HC1.out); rintro e w18 ⟨rfl, hb⟩; replace BK568 := am (blk_below (pkC BK568) hb); replace BK569 := am (blk_below (pkC BK569) hb); replace HB := am (below_step (pkB HB) hb); (try clear hb); (try clear hb2); (try clear hk); (try clear hi)))
   go_meet
   case rel => exact ⟨_, (true), (by first | rfl | (simp; done) | (simp [*]; done)), H', ⟨by first | omega | exact Nat.le_refl _⟩, ⟨pkC BK568⟩, ⟨pkC BK569⟩, ⟨pkB HB⟩⟩
 case rest =>
  clear HC5
  try clear c1
  try clear c2
  try clear p2
  try clear c3
  try clear c7
  try clear c9
  try clear c11
  try clear c16
  try clear hcz12_0
  try clear hcz12_1
  try clear hcz12_2
  try clear hcz14_0
  try clear hcz14_1
  try clear hcz14_2
  try clear hcz17_0
  try clear hcz17_1
  try clear hcz17_2
  try clear hfz12_0
  try clear hfz12_1
  try clear hfz12_2
  try clear hfz14_0
  try clear hfz14_1
  try clear hfz14_2
  try clear hfz17_0
  try clear hfz17_1
  try clear hfz17_2
  obtain ⟨kq, x25_4, rfl, HA, HJ4, BK568, BK569, HB⟩ := hcut
  cases kq with
  | zero => exact absurd HA.out (by simp [spec_PlaceRow.j0])
  | succ kj4 =>
   have H := HA.out
   clear HA
   simp only [spec_PlaceRow.j0] at H
   by_cases c19 : x25_4 = true
   ·subst c19
    rw [if_pos rfl] at H
    simp only [Option.some.injEq, Prod.mk.injEq] at H
    obtain ⟨rfl, rfl, rfl, rfl⟩ := H
    have hnb20 := NB569_568.out
    have hnc20 := NB568_569.out
    obtain ⟨hcz21_0, hcz21_1, hcz21_2⟩ := bc3 BK569.out
    obtain ⟨hfz21_0, hfz21_1, hfz21_2⟩ := bf3 BK569.out
    go_wp2
    refine bodyPost_ret (results_ct rfl _ _ gb569 26 #[.int .i64 0, .bool false, .slice none 0 0] (0, 0) _ rfl (by (with_reducible repeat (first | refine blk_drewN ?_ _ | refine blk_drew ?_ | refine blk_alloc ?_ _)); refine blk_put (cs := #[.int .i64 0, .bool false, .slice none 0 0]) ?_ 2 _ rfl; (with_reducible repeat (first | refine blk_drewN ?_ _ | refine blk_drew ?_ | refine blk_alloc ?_ _)); refine blk_put (cs := #[.int .i64 0, .bool false, .slice none 0 0]) ?_ 1 _ rfl; (with_reducible repeat (first | refine blk_drewN ?_ _ | refine blk_drew ?_ | refine blk_alloc ?_ _)); refine blk_put (cs := #[.int .i64 0, .bool false, .slice none 0 0]) ?_ 0 _ rfl; (with_reducible repeat (first | refine blk_drewN ?_ _ | refine blk_drew ?_ | refine blk_alloc ?_ _)); exact BK569.out) Tryd.underlying26 rfl (by kernel_rfl)) rfl ?_
    exact ⟨_, by first | rfl | (simp [*]; done), (Kd.R_V (Kd.R_nil _ _ _ 0 _)), pkB HB⟩
   ·replace c19 := Bool.eq_false_iff.mpr c19
    subst c19
    rw [if_neg (show ¬ (false = true) by decide)] at H
    replace H := Option.bind_eq_some_iff.mp H
    obtain ⟨t572, A220, H⟩ := H
    try dsimp only at H
    have A22 := am A220
    clear A220
    replace H := Option.bind_eq_some_iff.mp H
    obtain ⟨⟨t575, t576, t577⟩, A230, H⟩ := H
    try dsimp only at H
    have A23 := am A230
    clear A230
    have H' := am H
    clear H
    try go_wp2
    replace BK568 := am (blk_drew BK568.out)
    replace BK569 := am (blk_drew BK569.out)
    replace HB := am (below_drew1 HB.out)
    refine start_ (n := 7) (S := fun w' => w'.cell? ⟨gb568, 0, none⟩ = some (.int .i64 a0_0) ∧ w'.cell? ⟨gb568, 1, none⟩ = some (.bool a0_1) ∧ w'.cell? ⟨gb568, 2, none⟩ = some (.slice A0_2 l0_2.length c0_2)) (ds := []) #[false, false, false, false, false, false, false] (by kernel_rfl) rfl rfl ⟨(blk_cell BK568.out 0).trans rfl, (blk_cell BK568.out 1).trans rfl, (blk_cell BK568.out 2).trans rfl⟩ (fun hHeld => ?_)
    generalize wc.drew = w24 at BK568 BK569 HB hHeld ⊢
    refine pure_ (i := 1) (N := some 28) (v := ?_) (a' := ?_) (bm 7 2) rfl rfl (by kernel_rfl) (fun _ _ _ h => h) (Or.inl ⟨by rfl, ?_⟩) ?_ ?_
    rotate_left
    ·intro w'
     go_simp
     with_reducible rfl
    rotate_left
    ·simp only [Act.put, pp_]
     rfl
    refine take_ (i := 0) (N := some 27) (v := ?_) (a' := ?_) (bm 7 3) rfl rfl (by kernel_rfl) (fun _ _ _ h => h) (Or.inl ⟨by rfl, ?_⟩) hHeld ?_ ?_
    rotate_left
    ·rintro w' ⟨s0, s1, s2⟩
     go_simp
     with_reducible rfl
    rotate_left
    ·simp only [Act.put, pp_]
     rfl
    refine take_ (i := 2) (N := some 29) (v := ?_) (a' := ?_) (bm 7 7) rfl rfl (by kernel_rfl) (fun _ _ _ h => h) (Or.inl ⟨by rfl, ?_⟩) hHeld ?_ ?_
    rotate_left
    ·rintro w' ⟨s0, s1, s2⟩
     go_simp
     with_reducible rfl
    rotate_left
    ·simp only [Act.put, pp_]
     rfl
    refine join_ (σ := Value × Value × Nat) 1 (bm 7 63) (fun s_ => [(30, s_.1), (31, .agg #[.int .i64 t575, .bool t576, s_.2.1]), (10, .pointer (some ⟨s_.2.2, 0, none⟩))]) (fun s_ w' => (w'.cell? ⟨gb568, 0, none⟩ = some (.int .i64 a0_0) ∧ w'.cell? ⟨gb568, 1, none⟩ = some (.bool a0_1) ∧ w'.cell? ⟨gb568, 2, none⟩ = some (.slice A0_2 l0_2.length c0_2)) ∧ (Kd.R (Kd.int .i64) 3 w' w.heap.size (fun k_ => (w.heap.size ≤ k_)) s_.1 t572) ∧ (Kd.V (Kd.int .i64) 3 w' w.heap.size (fun k_ => (w.heap.size ≤ k_) ∧ k_ ≠ gb568 ∧ k_ ≠ gb569 ∧ k_ ≠ s_.2.2) s_.2.1 t577) ∧ (w'.heap[gb568]? = some (.cells #[.int .i64 a0_0, .bool a0_1, .slice A0_2 l0_2.length c0_2] 26 (0, 0))) ∧ (w'.heap[gb569]? = some (.cells #[.int .i64 0, .bool false, .slice none 0 0] 26 (0, 0))) ∧ (w'.heap[s_.2.2]? = some (.cells #[.int .i64 0, .bool false, .slice none 0 0] 26 (0, 0))) ∧ (w.heap.size ≤ s_.2.2) ∧ (w.heap.size ≤ s_.2.2) ∧ (gb568 ≠ s_.2.2) ∧ (s_.2.2 ≠ gb568) ∧ (gb569 ≠ s_.2.2) ∧ (s_.2.2 ≠ gb569) ∧ (Below w.heap.size w w')) ?_ ?_
    rotate_left
    ·intro hCont
     refine two_ (i := 3) (j := 5) (Ni := some 30) (Nj := some 10) (bm 7 15) (bm 7 39) rfl rfl rfl rfl (by kernel_rfl) (by decide) (by decide) (fun K hK => ?_) (fun K hK => ?_)
     ·skip
      refine goes_ Tryd.func29 (by kernel_rfl) rfl #[.slice A0_2 l0_2.length c0_2] (by rfl) rfl rfl (by (try simp only [List.map_toArray, List.map_cons, List.map_nil]); first | done | rfl | (simp only [List.length_drop, List.length_take]; rfl)) ?_
      with_reducible refine (spec_l1Own.calls _ _ l0_2 t572 _ ?side1 ?side2 A22.out).mono ?_
      (case side1 => repeat (first | exact (Kd.C_below HR0_2.out HB.out) | (with_reducible refine Kd.C_alloc ?_ _) | (with_reducible refine Kd.C_drewN ?_ _) | (with_reducible refine Kd.C_drew ?_)))
      (case side2 => exact HC0_2.out)
      rintro e w25 ⟨v573, rfl, ho0, hb⟩
      refine ⟨_, rfl, ?_⟩
      have HO574 := am (Kd.R_lower (Kd.R_newM (M := fun k_ => (w.heap.size ≤ k_)) ho0 (below_size (pkB HB)) (fun k_ h_ => h_)) (below_size (pkB HB)))
      replace BK568 := am (blk_below (pkC BK568) hb)
      replace BK569 := am (blk_below (pkC BK569) hb)
      replace HB := am (below_step (pkB HB) hb)
      (try clear hb)
      (try clear hb2)
      (try clear hk)
      (try clear hi)
      (try clear ho0)
      obtain ⟨Ao26, co26, eo26⟩ := Kd.R_slice HO574.out
      (first | subst eo26 | (injection eo26 with f1_ f2_ f3_; have f4_ := f1_.symm; have f5_ := f3_.symm; clear f1_ f2_ f3_; subst f4_; subst f5_))
      refine hK.out _ _ ⟨(blk_cell BK568.out 0).trans rfl, (blk_cell BK568.out 1).trans rfl, (blk_cell BK568.out 2).trans rfl⟩ (fun hHeld => ?_)
      clear hK K
      refine norm_ (a' := ?_) ?_ ?_
      rotate_left
      ·show Act.put _ (some 30) _ = _
       simp only [Act.put, pp_]
       rfl
      refine two_ (i := 4) (j := 5) (Ni := some 31) (Nj := some 10) (bm 7 31) (bm 7 47) rfl rfl rfl rfl (by kernel_rfl) (by decide) (by decide) (fun K hK => ?_) (fun K hK => ?_)
      ·skip
       refine goes_ Tryd.func28 (by kernel_rfl) rfl #[.agg #[.int .i64 a0_0, .bool a0_1, .slice A0_2 l0_2.length c0_2], .slice Ao26 t572.length co26] (by rfl) rfl rfl (by (try simp only [List.map_toArray, List.map_cons, List.map_nil]); first | done | rfl | (simp only [List.length_drop, List.length_take]; rfl)) ?_
       with_reducible refine (spec_l2Made.calls a0_0 a0_1 _ _ l0_2 (fun k_ => some k_ = (.slice Ao26 t572.length co26 : Value).ownBlock) _ _ t572 t575 t576 t577 _ ?side1 ?side2 ?side3 A23.out).mono ?_
       (case side1 => repeat (first | exact (Kd.C_below HR0_2.out HB.out) | (with_reducible refine Kd.C_alloc ?_ _) | (with_reducible refine Kd.C_drewN ?_ _) | (with_reducible refine Kd.C_drew ?_)))
       (case side2 => exact HC0_2.out)
       (case side3 => exact Kd.R_V (Kd.R_tight rfl (Kd.R_types (Kd.R_types (HO574.out) BK568.out (by decide)) BK569.out (by decide))))
       rintro e w27 ⟨v578, rfl, ho0, hb⟩
       refine ⟨_, rfl, ?_⟩
       have HO579 := am (Kd.V_lower (Kd.V_mono (ok' := fun k_ => (w.heap.size ≤ k_) ∧ k_ ≠ gb568 ∧ k_ ≠ gb569) ho0 (fun k_ hk_ => ⟨Or.elim hk_ (fun hs_ => ((Kd.R_types (Kd.R_types (HO574.out) BK568.out (by decide)) BK569.out (by decide)).1 k_ hs_.symm).1.1.1) (fun hn_ => (Nat.le_trans (below_size (pkB HB)) hn_)), Or.elim hk_ (fun hs_ => ((Kd.R_types (Kd.R_types (HO574.out) BK568.out (by decide)) BK569.out (by decide)).1 k_ hs_.symm).1.2) (fun hn_ => (Kd.freshB (pkC BK568) k_ hn_)), Or.elim hk_ (fun hs_ => ((Kd.R_types (Kd.R_types (HO574.out) BK568.out (by decide)) BK569.out (by decide)).1 k_ hs_.symm).2) (fun hn_ => (Kd.freshB (pkC BK569) k_ hn_))⟩)) (below_size (pkB HB)))
       replace HO574 := am (Kd.R_below (pk HO574) hb)
       replace BK568 := am (blk_below (pkC BK568) hb)
       replace BK569 := am (blk_below (pkC BK569) hb)
       replace HB := am (below_step (pkB HB) hb)
       (try clear hb)
       (try clear hb2)
       (try clear hk)
       (try clear hi)
       (try clear ho0)
       refine hK.out _ _ ⟨(blk_cell BK568.out 0).trans rfl, (blk_cell BK568.out 1).trans rfl, (blk_cell BK568.out 2).trans rfl⟩ (fun hHeld => ?_)
       clear hK K
       refine norm_ (a' := ?_) ?_ ?_
       rotate_left
       ·show Act.put _ (some 31) _ = _
        simp only [Act.put, pp_]
        rfl
       refine one_ (i := 5) (N := some 10) (bm 7 63) rfl rfl (by kernel_rfl) (by decide) (fun K hK => ?_)
       refine box_step ?hg (N := 10) ?hd (cs := #[.int .i64 0, .bool false, .slice none 0 0]) (t := 26) ?hr ?_; (case hd => rfl); (case hg => rfl); (case hr => first | (go_simp; done) | (go_simp; rfl))
       intro gb580 hg w28 hbox hb
       have BK580 := am (hbox)
       have GW580 := am ((by rw [hg]; exact (below_size (pkB HB)) : w.heap.size ≤ gb580))
       have GE580 := am ((by rw [hg]; exact (below_size (pkB HB)) : w.heap.size ≤ gb580))
       have NB568_580 := am ((by rw [hg]; exact Nat.ne_of_lt (blk_lt (pkC BK568)) : gb568 ≠ gb580))
       have NB580_568 := am ((by rw [hg]; exact Nat.ne_of_gt (blk_lt (pkC BK568)) : gb580 ≠ gb568))
       have NB569_580 := am ((by rw [hg]; exact Nat.ne_of_lt (blk_lt (pkC BK569)) : gb569 ≠ gb580))
       have NB580_569 := am ((by rw [hg]; exact Nat.ne_of_gt (blk_lt (pkC BK569)) : gb580 ≠ gb569))
       replace HO574 := am (Kd.R_below (pk HO574) hb)
       replace HO579 := am (Kd.V_below (Kd.V_elderB (pk HO579) gb580 (Nat.le_of_eq hg.symm)) hb)
       replace BK568 := am (blk_below (pkC BK568) hb)
       replace BK569 := am (blk_below (pkC BK569) hb)
       replace HB := am (below_step (pkB HB) hb)
       clear hb hbox hg
       refine hK.out _ _ ⟨(blk_cell BK568.out 0).trans rfl, (blk_cell BK568.out 1).trans rfl, (blk_cell BK568.out 2).trans rfl⟩ (fun hHeld => ?_)
       clear hK K
       refine norm_ (a' := ?_) ?_ ?_
       rotate_left
       ·show Act.put _ (some 10) _ = _
        simp only [Act.put, pp_]
        rfl
       exact norm_ (by simp only [putAll, Act.put, List.setIfInBounds_toArray, List.set_cons_zero, List.set_cons_succ]) (hCont (.slice Ao26 t572.length co26, v578, gb580) _ ⟨hHeld, (by (with_reducible repeat (first | apply Kd.R_alloc | apply Kd.R_drewN | apply Kd.R_drew)); exact Kd.R_mono HO574.out (fun _ hk => hk.1)), (by (with_reducible repeat (first | apply Kd.V_alloc | apply Kd.V_drewN | apply Kd.V_drew)); exact Kd.V_mono HO579.out (fun _ hk => ⟨hk.1.1, ⟨hk.1.2.1, ⟨hk.1.2.2, hk.2⟩⟩⟩)), (pkC BK568), (pkC BK569), (pkC BK580), GW580.out, GE580.out, NB568_580.out, NB580_568.out, NB569_580.out, NB580_569.out, (pkB HB)⟩)
      ·skip
       refine box_step ?hg (N := 10) ?hd (cs := #[.int .i64 0, .bool false, .slice none 0 0]) (t := 26) ?hr ?_; (case hd => rfl); (case hg => rfl); (case hr => first | (go_simp; done) | (go_simp; rfl))
       intro gb580 hg w26 hbox hb
       have BK580 := am (hbox)
       have GW580 := am ((by rw [hg]; exact (below_size (pkB HB)) : w.heap.size ≤ gb580))
       have GE580 := am ((by rw [hg]; exact (below_size (pkB HB)) : w.heap.size ≤ gb580))
       have NB568_580 := am ((by rw [hg]; exact Nat.ne_of_lt (blk_lt (pkC BK568)) : gb568 ≠ gb580))
       have NB580_568 := am ((by rw [hg]; exact Nat.ne_of_gt (blk_lt (pkC BK568)) : gb580 ≠ gb568))
       have NB569_580 := am ((by rw [hg]; exact Nat.ne_of_lt (blk_lt (pkC BK569)) : gb569 ≠ gb580))
       have NB580_569 := am ((by rw [hg]; exact Nat.ne_of_gt (blk_lt (pkC BK569)) : gb580 ≠ gb569))
       replace HO574 := am (Kd.R_below (pk HO574) hb)
       replace BK568 := am (blk_below (pkC BK568) hb)
       replace BK569 := am (blk_below (pkC BK569) hb)
       replace HB := am (below_step (pkB HB) hb)
       clear hb hbox hg
       obtain ⟨Ao27, co27, eo27⟩ := Kd.R_slice HO574.out
       (first | subst eo27 | (injection eo27 with f1_ f2_ f3_; have f4_ := f1_.symm; have f5_ := f3_.symm; clear f1_ f2_ f3_; subst f4_; subst f5_))
       refine hK.out _ _ ⟨(blk_cell BK568.out 0).trans rfl, (blk_cell BK568.out 1).trans rfl, (blk_cell BK568.out 2).trans rfl⟩ (fun hHeld => ?_)
       clear hK K
       refine norm_ (a' := ?_) ?_ ?_
       rotate_left
       ·show Act.put _ (some 10) _ = _
        simp only [Act.put, pp_]
        rfl
       refine one_ (i := 4) (N := some 31) (bm 7 63) rfl rfl (by kernel_rfl) (by decide) (fun K hK => ?_)
       refine goes_ Tryd.func28 (by kernel_rfl) rfl #[.agg #[.int .i64 a0_0, .bool a0_1, .slice A0_2 l0_2.length c0_2], .slice Ao27 t572.length co27] (by rfl) rfl rfl (by (try simp only [List.map_toArray, List.map_cons, List.map_nil]); first | done | rfl | (simp only [List.length_drop, List.length_take]; rfl)) ?_
       with_reducible refine (spec_l2Made.calls a0_0 a0_1 _ _ l0_2 (fun k_ => some k_ = (.slice Ao27 t572.length co27 : Value).ownBlock) _ _ t572 t575 t576 t577 _ ?side1 ?side2 ?side3 A23.out).mono ?_
       (case side1 => repeat (first | exact (Kd.C_below HR0_2.out HB.out) | (with_reducible refine Kd.C_alloc ?_ _) | (with_reducible refine Kd.C_drewN ?_ _) | (with_reducible refine Kd.C_drew ?_)))
       (case side2 => exact HC0_2.out)
       (case side3 => exact Kd.R_V (Kd.R_tight rfl (Kd.R_types (Kd.R_types (Kd.R_types (HO574.out) BK568.out (by decide)) BK569.out (by decide)) BK580.out (by decide))))
       rintro e w28 ⟨v578, rfl, ho0, hb⟩
       refine ⟨_, rfl, ?_⟩
       have HO579 := am (Kd.V_lower (Kd.V_mono (ok' := fun k_ => (w.heap.size ≤ k_) ∧ k_ ≠ gb568 ∧ k_ ≠ gb569 ∧ k_ ≠ gb580) ho0 (fun k_ hk_ => ⟨Or.elim hk_ (fun hs_ => ((Kd.R_types (Kd.R_types (Kd.R_types (HO574.out) BK568.out (by decide)) BK569.out (by decide)) BK580.out (by decide)).1 k_ hs_.symm).1.1.1.1) (fun hn_ => (Nat.le_trans (below_size (pkB HB)) hn_)), Or.elim hk_ (fun hs_ => ((Kd.R_types (Kd.R_types (Kd.R_types (HO574.out) BK568.out (by decide)) BK569.out (by decide)) BK580.out (by decide)).1 k_ hs_.symm).1.1.2) (fun hn_ => (Kd.freshB (pkC BK568) k_ hn_)), Or.elim hk_ (fun hs_ => ((Kd.R_types (Kd.R_types (Kd.R_types (HO574.out) BK568.out (by decide)) BK569.out (by decide)) BK580.out (by decide)).1 k_ hs_.symm).1.2) (fun hn_ => (Kd.freshB (pkC BK569) k_ hn_)), Or.elim hk_ (fun hs_ => ((Kd.R_types (Kd.R_types (Kd.R_types (HO574.out) BK568.out (by decide)) BK569.out (by decide)) BK580.out (by decide)).1 k_ hs_.symm).2) (fun hn_ => (Kd.freshB (pkC BK580) k_ hn_))⟩)) (below_size (pkB HB)))
       replace HO574 := am (Kd.R_below (pk HO574) hb)
       replace BK568 := am (blk_below (pkC BK568) hb)
       replace BK569 := am (blk_below (pkC BK569) hb)
       replace BK580 := am (blk_below (pkC BK580) hb)
       replace HB := am (below_step (pkB HB) hb)
       (try clear hb)
       (try clear hb2)
       (try clear hk)
       (try clear hi)
       (try clear ho0)
       refine hK.out _ _ ⟨(blk_cell BK568.out 0).trans rfl, (blk_cell BK568.out 1).trans rfl, (blk_cell BK568.out 2).trans rfl⟩ (fun hHeld => ?_)
       clear hK K
       refine norm_ (a' := ?_) ?_ ?_
       rotate_left
       ·show Act.put _ (some 31) _ = _
        simp only [Act.put, pp_]
        rfl
       exact norm_ (by simp only [putAll, Act.put, List.setIfInBounds_toArray, List.set_cons_zero, List.set_cons_succ]) (hCont (.slice Ao27 t572.length co27, v578, gb580) _ ⟨hHeld, (by (with_reducible repeat (first | apply Kd.R_alloc | apply Kd.R_drewN | apply Kd.R_drew)); exact Kd.R_mono HO574.out (fun _ hk => hk.1)), (pk HO579), (pkC BK568), (pkC BK569), (pkC BK580), GW580.out, GE580.out, NB568_580.out, NB580_568.out, NB569_580.out, NB580_569.out, (pkB HB)⟩)
     ·skip
      refine box_step ?hg (N := 10) ?hd (cs := #[.int .i64 0, .bool false, .slice none 0 0]) (t := 26) ?hr ?_; (case hd => rfl); (case hg => rfl); (case hr => first | (go_simp; done) | (go_simp; rfl))
      intro gb580 hg w25 hbox hb
      have BK580 := am (hbox)
      have GW580 := am ((by rw [hg]; exact (below_size (pkB HB)) : w.heap.size ≤ gb580))
      have GE580 := am ((by rw [hg]; exact (below_size (pkB HB)) : w.heap.size ≤ gb580))
      have NB568_580 := am ((by rw [hg]; exact Nat.ne_of_lt (blk_lt (pkC BK568)) : gb568 ≠ gb580))
      have NB580_568 := am ((by rw [hg]; exact Nat.ne_of_gt (blk_lt (pkC BK568)) : gb580 ≠ gb568))
      have NB569_580 := am ((by rw [hg]; exact Nat.ne_of_lt (blk_lt (pkC BK569)) : gb569 ≠ gb580))
      have NB580_569 := am ((by rw [hg]; exact Nat.ne_of_gt (blk_lt (pkC BK569)) : gb580 ≠ gb569))
      replace BK568 := am (blk_below (pkC BK568) hb)
      replace BK569 := am (blk_below (pkC BK569) hb)
      replace HB := am (below_step (pkB HB) hb)
      clear hb hbox hg
      refine hK.out _ _ ⟨(blk_cell BK568.out 0).trans rfl, (blk_cell BK568.out 1).trans rfl, (blk_cell BK568.out 2).trans rfl⟩ (fun hHeld => ?_)
      clear hK K
      refine norm_ (a' := ?_) ?_ ?_
      rotate_left
      ·show Act.put _ (some 10) _ = _
       simp only [Act.put, pp_]
       rfl
      refine one_ (i := 3) (N := some 30) (bm 7 47) rfl rfl (by kernel_rfl) (by decide) (fun K hK => ?_)
      refine goes_ Tryd.func29 (by kernel_rfl) rfl #[.slice A0_2 l0_2.length c0_2] (by rfl) rfl rfl (by (try simp only [List.map_toArray, List.map_cons, List.map_nil]); first | done | rfl | (simp only [List.length_drop, List.length_take]; rfl)) ?_
      with_reducible refine (spec_l1Own.calls _ _ l0_2 t572 _ ?side1 ?side2 A22.out).mono ?_
      (case side1 => repeat (first | exact (Kd.C_below HR0_2.out HB.out) | (with_reducible refine Kd.C_alloc ?_ _) | (with_reducible refine Kd.C_drewN ?_ _) | (with_reducible refine Kd.C_drew ?_)))
      (case side2 => exact HC0_2.out)
      rintro e w26 ⟨v573, rfl, ho0, hb⟩
      refine ⟨_, rfl, ?_⟩
      have HO574 := am (Kd.R_lower (Kd.R_newM (M := fun k_ => (w.heap.size ≤ k_)) ho0 (below_size (pkB HB)) (fun k_ h_ => h_)) (below_size (pkB HB)))
      replace BK568 := am (blk_below (pkC BK568) hb)
      replace BK569 := am (blk_below (pkC BK569) hb)
      replace BK580 := am (blk_below (pkC BK580) hb)
      replace HB := am (below_step (pkB HB) hb)
      (try clear hb)
      (try clear hb2)
      (try clear hk)
      (try clear hi)
      (try clear ho0)
      obtain ⟨Ao27, co27, eo27⟩ := Kd.R_slice HO574.out
      (first | subst eo27 | (injection eo27 with f1_ f2_ f3_; have f4_ := f1_.symm; have f5_ := f3_.symm; clear f1_ f2_ f3_; subst f4_; subst f5_))
      refine hK.out _ _ ⟨(blk_cell BK568.out 0).trans rfl, (blk_cell BK568.out 1).trans rfl, (blk_cell BK568.out 2).trans rfl⟩ (fun hHeld => ?_)
      clear hK K
      refine norm_ (a' := ?_) ?_ ?_
      rotate_left
      ·show Act.put _ (some 30) _ = _
       simp only [Act.put, pp_]
       rfl
      refine one_ (i := 4) (N := some 31) (bm 7 63) rfl rfl (by kernel_rfl) (by decide) (fun K hK => ?_)
      refine goes_ Tryd.func28 (by kernel_rfl) rfl #[.agg #[.int .i64 a0_0, .bool a0_1, .slice A0_2 l0_2.length c0_2], .slice Ao27 t572.length co27] (by rfl) rfl rfl (by (try simp only [List.map_toArray, List.map_cons, List.map_nil]); first | done | rfl | (simp only [List.length_drop, List.length_take]; rfl)) ?_
      with_reducible refine (spec_l2Made.calls a0_0 a0_1 _ _ l0_2 (fun k_ => some k_ = (.slice Ao27 t572.length co27 : Value).ownBlock) _ _ t572 t575 t576 t577 _ ?side1 ?side2 ?side3 A23.out).mono ?_
      (case side1 => repeat (first | exact (Kd.C_below HR0_2.out HB.out) | (with_reducible refine Kd.C_alloc ?_ _) | (with_reducible refine Kd.C_drewN ?_ _) | (with_reducible refine Kd.C_drew ?_)))
      (case side2 => exact HC0_2.out)
      (case side3 => exact Kd.R_V (Kd.R_tight rfl (Kd.R_types (Kd.R_types (Kd.R_types (HO574.out) BK568.out (by decide)) BK569.out (by decide)) BK580.out (by decide))))
      rintro e w28 ⟨v578, rfl, ho0, hb⟩
      refine ⟨_, rfl, ?_⟩
      have HO579 := am (Kd.V_lower (Kd.V_mono (ok' := fun k_ => (w.heap.size ≤ k_) ∧ k_ ≠ gb568 ∧ k_ ≠ gb569 ∧ k_ ≠ gb580) ho0 (fun k_ hk_ => ⟨Or.elim hk_ (fun hs_ => ((Kd.R_types (Kd.R_types (Kd.R_types (HO574.out) BK568.out (by decide)) BK569.out (by decide)) BK580.out (by decide)).1 k_ hs_.symm).1.1.1.1) (fun hn_ => (Nat.le_trans (below_size (pkB HB)) hn_)), Or.elim hk_ (fun hs_ => ((Kd.R_types (Kd.R_types (Kd.R_types (HO574.out) BK568.out (by decide)) BK569.out (by decide)) BK580.out (by decide)).1 k_ hs_.symm).1.1.2) (fun hn_ => (Kd.freshB (pkC BK568) k_ hn_)), Or.elim hk_ (fun hs_ => ((Kd.R_types (Kd.R_types (Kd.R_types (HO574.out) BK568.out (by decide)) BK569.out (by decide)) BK580.out (by decide)).1 k_ hs_.symm).1.2) (fun hn_ => (Kd.freshB (pkC BK569) k_ hn_)), Or.elim hk_ (fun hs_ => ((Kd.R_types (Kd.R_types (Kd.R_types (HO574.out) BK568.out (by decide)) BK569.out (by decide)) BK580.out (by decide)).1 k_ hs_.symm).2) (fun hn_ => (Kd.freshB (pkC BK580) k_ hn_))⟩)) (below_size (pkB HB)))
      replace HO574 := am (Kd.R_below (pk HO574) hb)
      replace BK568 := am (blk_below (pkC BK568) hb)
      replace BK569 := am (blk_below (pkC BK569) hb)
      replace BK580 := am (blk_below (pkC BK580) hb)
      replace HB := am (below_step (pkB HB) hb)
      (try clear hb)
      (try clear hb2)
      (try clear hk)
      (try clear hi)
      (try clear ho0)
      refine hK.out _ _ ⟨(blk_cell BK568.out 0).trans rfl, (blk_cell BK568.out 1).trans rfl, (blk_cell BK568.out 2).trans rfl⟩ (fun hHeld => ?_)
      clear hK K
      refine norm_ (a' := ?_) ?_ ?_
      rotate_left
      ·show Act.put _ (some 31) _ = _
       simp only [Act.put, pp_]
       rfl
      exact norm_ (by simp only [putAll, Act.put, List.setIfInBounds_toArray, List.set_cons_zero, List.set_cons_succ]) (hCont (.slice Ao27 t572.length co27, v578, gb580) _ ⟨hHeld, (by (with_reducible repeat (first | apply Kd.R_alloc | apply Kd.R_drewN | apply Kd.R_drew)); exact Kd.R_mono HO574.out (fun _ hk => hk.1)), (pk HO579), (pkC BK568), (pkC BK569), (pkC BK580), GW580.out, GE580.out, NB568_580.out, NB580_568.out, NB569_580.out, NB580_569.out, (pkB HB)⟩)
    rintro ⟨v573, v578, gb580⟩ w29 ⟨hS_, h0_, h1_, h2_, h3_, h4_, h5_, h6_, h7_, h8_, h9_, h10_, h11_⟩
    have n0_ : Aside0 (Kd.R (Kd.int .i64) 3 w29 w.heap.size (fun k_ => (w.heap.size ≤ k_)) v573 t572) := ⟨h0_⟩
    have n1_ : Aside0 (Kd.V (Kd.int .i64) 3 w29 w.heap.size (fun k_ => (w.heap.size ≤ k_) ∧ k_ ≠ gb568 ∧ k_ ≠ gb569 ∧ k_ ≠ gb580) v578 t577) := ⟨h1_⟩
    have n2_ : Aside0 (w29.heap[gb568]? = some (.cells #[.int .i64 a0_0, .bool a0_1, .slice A0_2 l0_2.length c0_2] 26 (0, 0))) := ⟨h2_⟩
    have n3_ : Aside0 (w29.heap[gb569]? = some (.cells #[.int .i64 0, .bool false, .slice none 0 0] 26 (0, 0))) := ⟨h3_⟩
    have n4_ : Aside0 (w29.heap[gb580]? = some (.cells #[.int .i64 0, .bool false, .slice none 0 0] 26 (0, 0))) := ⟨h4_⟩
    have n5_ : Aside0 (w.heap.size ≤ gb580) := ⟨h5_⟩
    have n6_ : Aside0 (w.heap.size ≤ gb580) := ⟨h6_⟩
    have n7_ : Aside0 (gb568 ≠ gb580) := ⟨h7_⟩
    have n8_ : Aside0 (gb580 ≠ gb568) := ⟨h8_⟩
    have n9_ : Aside0 (gb569 ≠ gb580) := ⟨h9_⟩
    have n10_ : Aside0 (gb580 ≠ gb569) := ⟨h10_⟩
    have n11_ : Aside0 (Below w.heap.size w w29) := ⟨h11_⟩
    clear BK568 BK569 HB h0_ h1_ h2_ h3_ h4_ h5_ h6_ h7_ h8_ h9_ h10_ h11_
    have HO574 := n0_
    have HO579 := n1_
    have BK568 := n2_
    have BK569 := n3_
    have BK580 := n4_
    have GW580 := n5_
    have GE580 := n6_
    have NB568_580 := n7_
    have NB580_568 := n8_
    have NB569_580 := n9_
    have NB580_569 := n10_
    have HB := n11_
    clear n0_ n1_ n2_ n3_ n4_ n5_ n6_ n7_ n8_ n9_ n10_ n11_
    have hHeld : w29.cell? ⟨gb568, 0, none⟩ = some (.int .i64 a0_0) ∧ w29.cell? ⟨gb568, 1, none⟩ = some (.bool a0_1) ∧ w29.cell? ⟨gb568, 2, none⟩ = some (.slice A0_2 l0_2.length c0_2) := hS_
    obtain ⟨Ao32, co32, eo32⟩ := Kd.V_slice HO579.out
    (first | subst eo32 | (injection eo32 with f1_ f2_ f3_; have f4_ := f1_.symm; have f5_ := f3_.symm; clear f1_ f2_ f3_; subst f4_; subst f5_))
    refine norm_ (a' := ?_) ?_ ?_
    rotate_left
    ·simp only [putAll, Act.put, List.setIfInBounds_toArray, List.set_cons_zero, List.set_cons_succ]
     rfl
    refine one_ (i := 6) (N := none) (bm 7 127) rfl rfl (by kernel_rfl) (by decide) (fun K hK => ?_)
    have hs30 : w29.cell? ⟨gb580, 0, none⟩ = some (.int .i64 0) := (blk_cell BK580.out 0).trans rfl
    have hfs30 := blk_frozen BK580.out 0
    have hns30_0 := NB568_580.out
    have hns30_1 := NB569_580.out
    have hms30_0 := NB580_568.out
    have hms30_1 := NB580_569.out
    have hs31 : w29.cell? ⟨gb580, 1, none⟩ = some (.bool false) := (blk_cell BK580.out 1).trans rfl
    have hfs31 := blk_frozen BK580.out 1
    have hns31_0 := NB568_580.out
    have hns31_1 := NB569_580.out
    have hms31_0 := NB580_568.out
    have hms31_1 := NB580_569.out
    have hs33 : w29.cell? ⟨gb580, 2, none⟩ = some (.slice none 0 0) := (blk_cell BK580.out 2).trans rfl
    have hfs33 := blk_frozen BK580.out 2
    have hns33_0 := NB568_580.out
    have hns33_1 := NB569_580.out
    have hms33_0 := NB580_568.out
    have hms33_1 := NB580_569.out
    refine skip_ (w1 := ?_) (by rfl) rfl ?_ ?_
    rotate_left
    ·go_simp
     rfl
    refine hK.out _ _ ⟨((cell_far (p := ⟨gb580, _, none⟩) NB568_580.out _).trans (((cell_far (p := ⟨gb580, _, none⟩) NB568_580.out _).trans (((cell_far (p := ⟨gb580, _, none⟩) NB568_580.out _).trans (hHeld.1)))))), ((cell_far (p := ⟨gb580, _, none⟩) NB568_580.out _).trans (((cell_far (p := ⟨gb580, _, none⟩) NB568_580.out _).trans (((cell_far (p := ⟨gb580, _, none⟩) NB568_580.out _).trans (hHeld.2.1)))))), ((cell_far (p := ⟨gb580, _, none⟩) NB568_580.out _).trans (((cell_far (p := ⟨gb580, _, none⟩) NB568_580.out _).trans (((cell_far (p := ⟨gb580, _, none⟩) NB568_580.out _).trans (hHeld.2.2))))))⟩ (fun hHeld => ?_)
    clear hK K
    refine done_ (by kernel_rfl) ?_
    try go_wp2
    go_loopg [11] kj4 (fun kq v11 w' => ∃ (x11_2 : Int) (x581000_2 : Int) (x581001_2 : Bool) (x581002_2 : List Int) (u581002 : Value), v11 = .int .i64 x11_2 ∧ Aside0 (spec_PlaceRow.l0 kq l1 l3 x11_2 x581000_2 x581001_2 x581002_2 = some (r1, r2, r3, r4)) ∧ Aside0 (kq ≤ kj4) ∧ Aside0 (Kd.V (Kd.int .i64) 3 w' w.heap.size (fun k_ => (w.heap.size ≤ k_) ∧ k_ ≠ gb568 ∧ k_ ≠ gb569 ∧ k_ ≠ gb580) u581002 x581002_2) ∧ Aside0 (w'.heap[gb568]? = some (.cells #[.int .i64 a0_0, .bool a0_1, (.slice A0_2 l0_2.length c0_2)] 26 (0, 0))) ∧ Aside0 (w'.heap[gb569]? = some (.cells #[.int .i64 0, .bool false, (.slice none 0 0)] 26 (0, 0))) ∧ Aside0 (w'.heap[gb580]? = some (.cells #[.int .i64 x581000_2, .bool x581001_2, u581002] 26 (0, 0))) ∧ Aside0 (Below w.heap.size w w'))
    case atStart => exact ⟨(0), (t575), (t576), (t577), (.slice Ao32 t577.length co32), (by first | rfl | (simp; done) | (simp [*]; done)), H', ⟨Nat.le_refl _⟩, ⟨by (with_reducible repeat (first | apply Kd.V_alloc | apply Kd.V_drewN | apply Kd.V_drew)); exact Kd.V_mono (Kd.V_far (p := ⟨gb580, 2, none⟩) (Kd.V_far (p := ⟨gb580, 1, none⟩) (Kd.V_far (p := ⟨gb580, 0, none⟩) (Kd.V_mono HO579.out (fun k_ hk => (⟨hk, hk.2.2.2⟩ : _ ∧ k_ ≠ gb580))) (fun _ hk => hk.2) (.int .i64 t575)) (fun _ hk => hk.2) (.bool t576)) (fun _ hk => hk.2) (.slice Ao32 t577.length co32)) (fun _ hk => ⟨hk.1.1, ⟨hk.1.2.1, ⟨hk.1.2.2.1, hk.1.2.2.2⟩⟩⟩)⟩, ⟨by (with_reducible repeat (first | refine blk_drewN ?_ _ | refine blk_drew ?_ | refine blk_alloc ?_ _)); refine blk_far ?_ NB568_580.out _; (with_reducible repeat (first | refine blk_drewN ?_ _ | refine blk_drew ?_ | refine blk_alloc ?_ _)); refine blk_far ?_ NB568_580.out _; (with_reducible repeat (first | refine blk_drewN ?_ _ | refine blk_drew ?_ | refine blk_alloc ?_ _)); refine blk_far ?_ NB568_580.out _; (with_reducible repeat (first | refine blk_drewN ?_ _ | refine blk_drew ?_ | refine blk_alloc ?_ _)); exact BK568.out⟩, ⟨by (with_reducible repeat (first | refine blk_drewN ?_ _ | refine blk_drew ?_ | refine blk_alloc ?_ _)); refine blk_far ?_ NB569_580.out _; (with_reducible repeat (first | refine blk_drewN ?_ _ | refine blk_drew ?_ | refine blk_alloc ?_ _)); refine blk_far ?_ NB569_580.out _; (with_reducible repeat (first | refine blk_drewN ?_ _ | refine blk_drew ?_ | refine blk_alloc ?_ _)); refine blk_far ?_ NB569_580.out _; (with_reducible repeat (first | refine blk_drewN ?_ _ | refine blk_drew ?_ | refine blk_alloc ?_ _)); exact BK569.out⟩, ⟨by (with_reducible repeat (first | refine blk_drewN ?_ _ | refine blk_drew ?_ | refine blk_alloc ?_ _)); refine blk_put (cs := #[.int .i64 t575, .bool t576, .slice none 0 0]) ?_ 2 _ rfl; (with_reducible repeat (first | refine blk_drewN ?_ _ | refine blk_drew ?_ | refine blk_alloc ?_ _)); refine blk_put (cs := #[.int .i64 t575, .bool false, .slice none 0 0]) ?_ 1 _ rfl; (with_reducible repeat (first | refine blk_drewN ?_ _ | refine blk_drew ?_ | refine blk_alloc ?_ _)); refine blk_put (cs := #[.int .i64 0, .bool false, .slice none 0 0]) ?_ 0 _ rfl; (with_reducible repeat (first | refine blk_drewN ?_ _ | refine blk_drew ?_ | refine blk_alloc ?_ _)); exact BK580.out⟩, ⟨pkB HB⟩⟩
    case round =>
     clear H'
     try clear c1
     try clear c2
     try clear p2
     try clear c3
     try clear c7
     try clear c9
     try clear c11
     try clear c16
     try clear c19
     try clear c20
     try clear c26
     try clear c28
     try clear c29
     try clear hcz12_0
     try clear hcz12_1
     try clear hcz12_2
     try clear hcz14_0
     try clear hcz14_1
     try clear hcz14_2
     try clear hcz17_0
     try clear hcz17_1
     try clear hcz17_2
     try clear hcz21_0
     try clear hcz21_1
     try clear hcz21_2
     try clear hfz12_0
     try clear hfz12_1
     try clear hfz12_2
     try clear hfz14_0
     try clear hfz14_1
     try clear hfz14_2
     try clear hfz17_0
     try clear hfz17_1
     try clear hfz17_2
     try clear hfz21_0
     try clear hfz21_1
     try clear hfz21_2
     try clear p2
     obtain ⟨x11_2, x581000_2, x581001_2, x581002_2, u581002, rfl, HA, HK2, HO_581002, BK568, BK569, BK580, HB⟩ := hrel
     cases gk with
     | zero => exact absurd HA.out (by simp [spec_PlaceRow.l0])
     | succ k2 =>
      have H := HA.out
      clear HA
      simp only [spec_PlaceRow.l0] at H
      by_cases c34 : x11_2 < (l1.length : Int)
      ·rw [if_pos c34] at H
       have c34b0 : decide (x11_2 < (l1.length : Int)) = true := decide_eq_true c34
       clear c34
       have H' := am H
       clear H
       go_wp2
       go_loopg [12] k2 (fun kq v12 w' => ∃ (x12_3 : Int) (x581000_3 : Int) (x581001_3 : Bool) (x581002_3 : List Int) (u581002 : Value), v12 = .int .i64 x12_3 ∧ Aside0 (spec_PlaceRow.l1 kq l1 l3 x11_2 x12_3 x581000_3 x581001_3 x581002_3 = some (r1, r2, r3, r4)) ∧ Aside0 (kq ≤ k2) ∧ Aside0 (Kd.V (Kd.int .i64) 3 w' w.heap.size (fun k_ => (w.heap.size ≤ k_) ∧ k_ ≠ gb568 ∧ k_ ≠ gb569 ∧ k_ ≠ gb580) u581002 x581002_3) ∧ Aside0 (w'.heap[gb568]? = some (.cells #[.int .i64 a0_0, .bool a0_1, (.slice A0_2 l0_2.length c0_2)] 26 (0, 0))) ∧ Aside0 (w'.heap[gb569]? = some (.cells #[.int .i64 0, .bool false, (.slice none 0 0)] 26 (0, 0))) ∧ Aside0 (w'.heap[gb580]? = some (.cells #[.int .i64 x581000_3, .bool x581001_3, u581002] 26 (0, 0))) ∧ Aside0 (Below w.heap.size w w'))
       case atStart => exact ⟨(0), (x581000_2), (x581001_2), (x581002_2), (u581002), (by first | rfl | (simp; done) | (simp [*]; done)), H', ⟨Nat.le_refl _⟩, ⟨by (with_reducible repeat (first | apply Kd.V_alloc | apply Kd.V_drewN | apply Kd.V_drew)); exact HO_581002.out⟩, ⟨pkC BK568⟩, ⟨pkC BK569⟩, ⟨pkC BK580⟩, ⟨pkB HB⟩⟩
       case round =>
        clear H'
        try clear c1
        try clear c2
        try clear p2
        try clear c3
        try clear c7
        try clear c9
        try clear c11
        try clear c16
        try clear c19
        try clear c20
        try clear c26
        try clear c28
        try clear c29
        try clear c34
        try clear c34b0
        try clear hcz12_0
        try clear hcz12_1
        try clear hcz12_2
        try clear hcz14_0
        try clear hcz14_1
        try clear hcz14_2
        try clear hcz17_0
        try clear hcz17_1
        try clear hcz17_2
        try clear hcz21_0
        try clear hcz21_1
        try clear hcz21_2
        try clear hfz12_0
        try clear hfz12_1
        try clear hfz12_2
        try clear hfz14_0
        try clear hfz14_1
        try clear hfz14_2
        try clear hfz17_0
        try clear hfz17_1
        try clear hfz17_2
        try clear hfz21_0
        try clear hfz21_1
        try clear hfz21_2
        try clear p2
        obtain ⟨x12_3, x581000_3, x581001_3, x581002_3, u581002, rfl, HA, HK3, HO_581002, BK568, BK569, BK580, HB⟩ := hrel
        cases gk with
        | zero => exact absurd HA.out (by simp [spec_PlaceRow.l1])
        | succ k3 =>
         have H := HA.out
         clear HA
         simp only [spec_PlaceRow.l1] at H
         by_cases c35 : 0 ≤ x11_2
         ·rw [if_pos c35] at H
          have c35b0 : decide (0 ≤ x11_2) = true := decide_eq_true c35
          clear c35
          by_cases c36 : x11_2 < (l1.length : Int)
          ·rw [if_pos c36] at H
           have c36b0 : decide (x11_2 < (l1.length : Int)) = true := decide_eq_true c36
           clear c36
           by_cases c37 : x12_3 < (rd l1 x11_2)
           ·rw [if_pos c37] at H
            have c37b0 : decide (x12_3 < (rd l1 x11_2)) = true := decide_eq_true c37
            clear c37
            by_cases c38 : x11_2 < (l3.length : Int)
            ·rw [if_pos c38] at H
             have c38b0 : decide (x11_2 < (l3.length : Int)) = true := decide_eq_true c38
             clear c38
             replace H := Option.bind_eq_some_iff.mp H
             obtain ⟨⟨t583, t584, t585⟩, A390, H⟩ := H
             try dsimp only at H
             have A39 := am A390
             clear A390
             have H' := am H
             clear H
             have p581 : 0 ≤ (x11_2 : Int) := of_decide_eq_true (by first | (with_reducible assumption) | assumption)
             have q581 : x11_2 < (l1.length : Int) := of_decide_eq_true (by first | (with_reducible assumption) | assumption)
             obtain ⟨ad581, e581, hx581_0⟩ := Kd.at_int HR1.out x11_2 p581 q581
             cases e581
             (try replace hx581_0 := (HB.out.cell (World.block_lt_of_cell? w _ hx581_0)).trans hx581_0)
             replace p581 := eq_true p581
             replace q581 := eq_true q581
             try go_wp2
             replace HO_581002 := am (Kd.V_drew HO_581002.out)
             replace BK568 := am (blk_drew BK568.out)
             replace BK569 := am (blk_drew BK569.out)
             replace BK580 := am (blk_drew BK580.out)
             replace HB := am (below_drew1 HB.out)
             have p582 : 0 ≤ (x11_2 : Int) := of_decide_eq_true (by first | (with_reducible assumption) | assumption)
             have q582 : x11_2 < (l3.length : Int) := of_decide_eq_true (by first | (with_reducible assumption) | assumption)
             obtain ⟨ad582, e582, hx582_0⟩ := Kd.at_int HR3.out x11_2 p582 q582
             have hw582_0 := hx582_0
             cases e582
             (try replace hx582_0 := (HB.out.cell (World.block_lt_of_cell? w _ hx582_0)).trans hx582_0)
             replace p582 := eq_true p582
             replace q582 := eq_true q582
             obtain ⟨Ao41, co41, eo41⟩ := Kd.V_slice HO_581002.out
             (first | subst eo41 | (injection eo41 with f1_ f2_ f3_; have f4_ := f1_.symm; have f5_ := f3_.symm; clear f1_ f2_ f3_; subst f4_; subst f5_))
             refine start_ (n := 9) (S := fun w' => w'.cell? ⟨gb580, 0, none⟩ = some (.int .i64 x581000_3) ∧ w'.cell? ⟨gb580, 1, none⟩ = some (.bool x581001_3) ∧ w'.cell? ⟨gb580, 2, none⟩ = some (.slice Ao41 x581002_3.length co41) ∧ w'.cell? (ad582.add (x11_2).toNat) = some (.int .i64 (rd l3 x11_2))) (ds := [8]) #[false, false, false, false, false, false, false, false, false] (by kernel_rfl) rfl rfl ⟨(blk_cell BK580.out 0).trans rfl, (blk_cell BK580.out 1).trans rfl, (blk_cell BK580.out 2).trans rfl, ((HB.out.cell (World.block_lt_of_cell? w _ hw582_0)).trans hw582_0)⟩ (fun hHeld => ?_); refine with_tabW spec_PlaceRow.tab10 spec_PlaceRow.bits10 (fun HT_ HW_ => ?_)
             generalize wr.drew = w40 at HO_581002 BK568 BK569 BK580 HB hx582_0 hHeld ⊢
             refine pi_ (i := 1) (N := some 47) (v := ?_) (a' := ?_) (bm 9 2) rfl rfl HT_ (by kernel_rfl) (fun _ _ _ h => h) (Or.inl ⟨by rfl, ?_⟩) ?_ ?_
             rotate_left
             ·intro w'
              go_simp
              with_reducible rfl
             rotate_left
             ·simp only [Act.put, pp_]
              rfl
             refine pi_ (i := 2) (N := some 48) (v := ?_) (a' := ?_) (bm 9 6) rfl rfl HT_ (by kernel_rfl) (fun _ _ _ h => h) (Or.inl ⟨by rfl, ?_⟩) ?_ ?_
             rotate_left
             ·intro w'
              go_simp
              with_reducible rfl
             rotate_left
             ·simp only [Act.put, pp_]
              rfl
             refine pi_ (i := 3) (N := some 49) (v := ?_) (a' := ?_) (bm 9 14) rfl rfl HT_ (by kernel_rfl) (fun _ _ _ h => h) (Or.inl ⟨by rfl, ?_⟩) ?_ ?_
             rotate_left
             ·intro w'
              go_simp
              with_reducible rfl
             rotate_left
             ·simp only [Act.put, pp_]
              rfl
             refine pi_ (i := 5) (N := some 51) (v := ?_) (a' := ?_) (bm 9 46) rfl rfl HT_ (by kernel_rfl) (fun _ _ _ h => h) (Or.inl ⟨by rfl, ?_⟩) ?_ ?_
             rotate_left
             ·intro w'
              go_simp
              with_reducible rfl
             rotate_left
             ·simp only [Act.put, pp_]
              rfl
             refine take_ (i := 0) (N := some 46) (v := ?_) (a' := ?_) (bm 9 47) rfl rfl (take_ofW HT_.out HW_.out (by kernel_rfl)) (fun _ _ _ h => h) (Or.inl ⟨by rfl, ?_⟩) hHeld ?_ ?_
             rotate_left
             ·rintro w' ⟨s0, s1, s2, s3⟩
              go_simp
              with_reducible rfl
             rotate_left
             ·simp only [Act.put, pp_]
              rfl
             refine take_ (i := 4) (N := some 50) (v := ?_) (a' := ?_) (bm 9 63) rfl rfl (take_ofW HT_.out HW_.out (by kernel_rfl)) (fun _ _ _ h => h) (Or.inl ⟨by rfl, ?_⟩) hHeld ?_ ?_
             rotate_left
             ·rintro w' ⟨s0, s1, s2, s3⟩
              go_simp
              with_reducible rfl
             rotate_left
             ·simp only [Act.put, pp_]
              rfl
             refine pi_ (i := 6) (N := some 52) (v := ?_) (a' := ?_) (bm 9 127) rfl rfl HT_ (by kernel_rfl) (fun _ _ _ h => h) (Or.inl ⟨by rfl, ?_⟩) ?_ ?_
             rotate_left
             ·intro w'
              go_simp
              with_reducible rfl
             rotate_left
             ·simp only [Act.put, pp_]
              rfl
             refine one_ (i := 7) (N := some 53) (bm 9 255) rfl rfl (one_of HT_.out (by kernel_rfl)) (by decide) (fun K hK => ?_)
             refine goes_ Tryd.func30 (by kernel_rfl) rfl #[.agg #[.int .i64 x581000_3, .bool x581001_3, .slice Ao41 x581002_3.length co41], .int .i64 (wrap64 ((rd l3 x11_2) + x12_3))] (by rfl) rfl rfl (by (try simp only [List.map_toArray, List.map_cons, List.map_nil]); first | done | rfl | (simp only [List.length_drop, List.length_take]; rfl)) ?_
             with_reducible refine (spec_l2With.calls k3 x581000_3 x581001_3 _ _ x581002_3 (wrap64 ((rd l3 x11_2) + x12_3)) t583 t584 t585 _ ?side1 ?side2 A39.out).mono ?_
             (case side1 => repeat (first | exact (Kd.V_reads' HO_581002.out).2.2 | (with_reducible refine Kd.C_alloc ?_ _) | (with_reducible refine Kd.C_drewN ?_ _) | (with_reducible refine Kd.C_drew ?_)))
             (case side2 => exact (Kd.V_reads' HO_581002.out).2.1)
             rintro e w42 ⟨v586, rfl, ho0, hb⟩
             refine ⟨_, rfl, ?_⟩
             have HO587 := am (Kd.V_lower (Kd.V_mono (ok' := fun k_ => (w.heap.size ≤ k_) ∧ k_ ≠ gb568 ∧ k_ ≠ gb569 ∧ k_ ≠ gb580) ho0 (fun k_ hk_ => ⟨(Nat.le_trans (below_size (pkB HB)) hk_), (Kd.freshB (pkC BK568) k_ hk_), (Kd.freshB (pkC BK569) k_ hk_), (Kd.freshB (pkC BK580) k_ hk_)⟩)) (below_size (pkB HB)))
             replace HO_581002 := am (Kd.V_below (pk HO_581002) hb)
             replace BK568 := am (blk_below (pkC BK568) hb)
             replace BK569 := am (blk_below (pkC BK569) hb)
             replace BK580 := am (blk_below (pkC BK580) hb)
             replace HB := am (below_step (pkB HB) hb)
             (try clear hb)
             (try clear hb2)
             (try clear hk)
             (try clear hi)
             (try clear ho0)
             obtain ⟨Ao45, co45, eo45⟩ := Kd.V_slice HO587.out
             (first | subst eo45 | (injection eo45 with f1_ f2_ f3_; have f4_ := f1_.symm; have f5_ := f3_.symm; clear f1_ f2_ f3_; subst f4_; subst f5_))
             refine hK.out _ _ ⟨(blk_cell BK580.out 0).trans rfl, (blk_cell BK580.out 1).trans rfl, (blk_cell BK580.out 2).trans rfl, ((HB.out.cell (World.block_lt_of_cell? w _ hw582_0)).trans hw582_0)⟩ (fun hHeld => ?_)
             clear hK K
             refine norm_ (a' := ?_) ?_ ?_
             rotate_left
             ·show Act.put _ (some 53) _ = _
              simp only [Act.put, pp_]
              rfl
             refine last_ (i := 8) (N := none) (bm 9 511) rfl rfl (one_of HT_.out (by kernel_rfl)) (by decide) (fun K hK => ?_)
             have hs43 : w42.cell? ⟨gb580, 0, none⟩ = some (.int .i64 x581000_3) := (blk_cell BK580.out 0).trans rfl
             have hfs43 := blk_frozen BK580.out 0
             have hns43_0 := NB568_580.out
             have hns43_1 := NB569_580.out
             have hms43_0 := NB580_568.out
             have hms43_1 := NB580_569.out
             have hs44 : w42.cell? ⟨gb580, 1, none⟩ = some (.bool x581001_3) := (blk_cell BK580.out 1).trans rfl
             have hfs44 := blk_frozen BK580.out 1
             have hns44_0 := NB568_580.out
             have hns44_1 := NB569_580.out
             have hms44_0 := NB580_568.out
             have hms44_1 := NB580_569.out
             have hs46 : w42.cell? ⟨gb580, 2, none⟩ = some (.slice Ao41 x581002_3.length co41) := (blk_cell BK580.out 2).trans rfl
             have hfs46 := blk_frozen BK580.out 2
             have hns46_0 := NB568_580.out
             have hns46_1 := NB569_580.out
             have hms46_0 := NB580_568.out
             have hms46_1 := NB580_569.out
             refine skip_ (w1 := ?_) (by rfl) rfl ?_ ?_
             rotate_left
             ·go_simp
              rfl
             refine hK.out _ _ ?_
             clear hK K
             refine done_ (done_of HT_.out (by kernel_rfl)) ?_
             try go_wp2
             go_roundg k3
             case measure => have := HJ4.out; have := HK2.out; have := HK3.out; omega
             case rel => exact ⟨(wrap64 (x12_3 + 1)), (t583), (t584), (t585), (.slice Ao45 t585.length co45), (by first | rfl | (simp; done) | (simp [*]; done)), H', ⟨by have := HJ4.out; have := HK2.out; have := HK3.out; omega⟩, ⟨by (with_reducible repeat (first | apply Kd.V_alloc | apply Kd.V_drewN | apply Kd.V_drew)); exact Kd.V_mono (Kd.V_far (p := ⟨gb580, 2, none⟩) (Kd.V_far (p := ⟨gb580, 1, none⟩) (Kd.V_far (p := ⟨gb580, 0, none⟩) (Kd.V_mono HO587.out (fun k_ hk => (⟨hk, hk.2.2.2⟩ : _ ∧ k_ ≠ gb580))) (fun _ hk => hk.2) (.int .i64 t583)) (fun _ hk => hk.2) (.bool t584)) (fun _ hk => hk.2) (.slice Ao45 t585.length co45)) (fun _ hk => ⟨hk.1.1, ⟨hk.1.2.1, ⟨hk.1.2.2.1, hk.1.2.2.2⟩⟩⟩)⟩, ⟨by (with_reducible repeat (first | refine blk_drewN ?_ _ | refine blk_drew ?_ | refine blk_alloc ?_ _)); refine blk_far ?_ NB568_580.out _; (with_reducible repeat (first | refine blk_drewN ?_ _ | refine blk_drew ?_ | refine blk_alloc ?_ _)); refine blk_far ?_ NB568_580.out _; (with_reducible repeat (first | refine blk_drewN ?_ _ | refine blk_drew ?_ | refine blk_alloc ?_ _)); refine blk_far ?_ NB568_580.out _; (with_reducible repeat (first | refine blk_drewN ?_ _ | refine blk_drew ?_ | refine blk_alloc ?_ _)); exact BK568.out⟩, ⟨by (with_reducible repeat (first | refine blk_drewN ?_ _ | refine blk_drew ?_ | refine blk_alloc ?_ _)); refine blk_far ?_ NB569_580.out _; (with_reducible repeat (first | refine blk_drewN ?_ _ | refine blk_drew ?_ | refine blk_alloc ?_ _)); refine blk_far ?_ NB569_580.out _; (with_reducible repeat (first | refine blk_drewN ?_ _ | refine blk_drew ?_ | refine blk_alloc ?_ _)); refine blk_far ?_ NB569_580.out _; (with_reducible repeat (first | refine blk_drewN ?_ _ | refine blk_drew ?_ | refine blk_alloc ?_ _)); exact BK569.out⟩, ⟨by (with_reducible repeat (first | refine blk_drewN ?_ _ | refine blk_drew ?_ | refine blk_alloc ?_ _)); refine blk_put (cs := #[.int .i64 t583, .bool t584, .slice Ao41 x581002_3.length co41]) ?_ 2 _ rfl; (with_reducible repeat (first | refine blk_drewN ?_ _ | refine blk_drew ?_ | refine blk_alloc ?_ _)); refine blk_put (cs := #[.int .i64 t583, .bool x581001_3, .slice Ao41 x581002_3.length co41]) ?_ 1 _ rfl; (with_reducible repeat (first | refine blk_drewN ?_ _ | refine blk_drew ?_ | refine blk_alloc ?_ _)); refine blk_put (cs := #[.int .i64 x581000_3, .bool x581001_3, .slice Ao41 x581002_3.length co41]) ?_ 0 _ rfl; (with_reducible repeat (first | refine blk_drewN ?_ _ | refine blk_drew ?_ | refine blk_alloc ?_ _)); exact BK580.out⟩, ⟨pkB HB⟩⟩
            ·rw [if_neg c38] at H
             exact absurd H (by simp)
           ·rw [if_neg c37] at H
            have c37b0 : decide (x12_3 < (rd l1 x11_2)) = false := decide_eq_false c37
            clear c37
            have H' := am H
            clear H
            have p581 : 0 ≤ (x11_2 : Int) := of_decide_eq_true (by first | (with_reducible assumption) | assumption)
            have q581 : x11_2 < (l1.length : Int) := of_decide_eq_true (by first | (with_reducible assumption) | assumption)
            obtain ⟨ad581, e581, hx581_0⟩ := Kd.at_int HR1.out x11_2 p581 q581
            cases e581
            (try replace hx581_0 := (HB.out.cell (World.block_lt_of_cell? w _ hx581_0)).trans hx581_0)
            replace p581 := eq_true p581
            replace q581 := eq_true q581
            go_wp2
            go_roundg k3
            case measure => have := HJ4.out; have := HK2.out; have := HK3.out; omega
            case rel => exact ⟨(wrap64 (x11_2 + 1)), (x581000_3), (x581001_3), (x581002_3), (u581002), (by first | rfl | (simp; done) | (simp [*]; done)), H', ⟨by have := HJ4.out; have := HK2.out; have := HK3.out; omega⟩, ⟨by (with_reducible repeat (first | apply Kd.V_alloc | apply Kd.V_drewN | apply Kd.V_drew)); exact HO_581002.out⟩, ⟨pkC BK568⟩, ⟨pkC BK569⟩, ⟨pkC BK580⟩, ⟨pkB HB⟩⟩
          ·rw [if_neg c36] at H
           exact absurd H (by simp)
         ·rw [if_neg c35] at H
          exact absurd H (by simp)
      ·rw [if_neg c34] at H
       have c34b0 : decide (x11_2 < (l1.length : Int)) = false := decide_eq_false c34
       clear c34
       simp only [Option.some.injEq, Prod.mk.injEq] at H
       obtain ⟨rfl, rfl, rfl, rfl⟩ := H
       have hnb47 := NB580_568.out
       have hnc47 := NB568_580.out
       have hnb48 := NB580_569.out
       have hnc48 := NB569_580.out
       obtain ⟨hcz49_0, hcz49_1, hcz49_2⟩ := bc3 BK580.out
       obtain ⟨hfz49_0, hfz49_1, hfz49_2⟩ := bf3 BK580.out
       have hnb50 := NB569_568.out
       have hnc50 := NB568_569.out
       obtain ⟨hcz51_0, hcz51_1, hcz51_2⟩ := bc3 BK569.out
       obtain ⟨hfz51_0, hfz51_1, hfz51_2⟩ := bf3 BK569.out
       obtain ⟨Ao52, co52, eo52⟩ := Kd.V_slice HO_581002.out
       subst eo52
       go_wp2
       refine bodyPost_ret (results_ct rfl _ _ gb569 26 #[.int .i64 x581000_2, .bool x581001_2, .slice Ao52 x581002_2.length co52] (0, 0) _ rfl (by (with_reducible repeat (first | refine blk_drewN ?_ _ | refine blk_drew ?_ | refine blk_alloc ?_ _)); refine blk_put (cs := #[.int .i64 x581000_2, .bool x581001_2, .slice none 0 0]) ?_ 2 _ rfl; (with_reducible repeat (first | refine blk_drewN ?_ _ | refine blk_drew ?_ | refine blk_alloc ?_ _)); refine blk_put (cs := #[.int .i64 x581000_2, .bool false, .slice none 0 0]) ?_ 1 _ rfl; (with_reducible repeat (first | refine blk_drewN ?_ _ | refine blk_drew ?_ | refine blk_alloc ?_ _)); refine blk_put (cs := #[.int .i64 0, .bool false, .slice none 0 0]) ?_ 0 _ rfl; (with_reducible repeat (first | refine blk_drewN ?_ _ | refine blk_drew ?_ | refine blk_alloc ?_ _)); exact BK569.out) Tryd.underlying26 rfl (by kernel_rfl)) rfl ?_
       exact ⟨_, by first | rfl | (simp [*]; done), by (with_reducible repeat (first | apply Kd.V_alloc | apply Kd.V_drewN | apply Kd.V_drew)); exact Kd.V_mono (Kd.V_far (p := ⟨gb569, 2, none⟩) (Kd.V_far (p := ⟨gb569, 1, none⟩) (Kd.V_far (p := ⟨gb569, 0, none⟩) (Kd.V_mono HO_581002.out (fun k_ hk => (⟨hk, hk.2.2.1⟩ : _ ∧ k_ ≠ gb569))) (fun _ hk => hk.2) (.int .i64 x581000_2)) (fun _ hk => hk.2) (.bool x581001_2)) (fun _ hk => hk.2) (.slice Ao52 x581002_2.length co52)) (fun _ hk => hk.1.1), pkB HB⟩

end Go.Proofs.YtnoipklaebadeaaDoor.PFnPlacings
