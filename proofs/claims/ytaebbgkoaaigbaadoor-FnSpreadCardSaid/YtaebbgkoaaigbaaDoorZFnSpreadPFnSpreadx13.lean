import Derived.Test.YtaebbgkoaaigbaaDoorZFnSpreadPFnSpreadx0
import Derived.Test.YtaebbgkoaaigbaaDoorZFnSpreadPFnSpreadx1
import Derived.Test.YtaebbgkoaaigbaaDoorZFnSpreadPFnSpreadx3
import Derived.Test.YtaebbgkoaaigbaaDoorZFnSpreadPFnSpreadx5
import Derived.Test.YtaebbgkoaaigbaaDoorZFnSpreadPFnSpreadx10
import Derived.Test.YtaebbgkoaaigbaaDoorZFnSpreadPFnSpreadx12
namespace Go.Proofs.YtaebbgkoaaigbaaDoor.PFnSpread
open Go.RowKit Go.Proofs.YtaebbgkoaaigbaaDoorW.PrintWords Go.Proofs.YtaebbgkoaaigbaaDoorW.PrintLast Go.Proofs.YtaebbgkoaaigbaaDoorW.PrintMore
attribute [local go_sem] max2_int min2_int max_two min_two max_three min_three max_four min_four   -- for this text's walks alone
set_option linter.unusedVariables false
set_option linter.unusedSimpArgs false

/-! ### spec_l3After: function 37 -/
def spec_l3After.l0 : Nat → Int → Int → Bool → List Int → Option (Int × Bool × List Int)
 | 0, _, _, _, _ => none
 | k + 1, x1, x514000, x514001, x514002 => if x1 > 0 then ((spec_l3Polite.f k x514000 x514001 x514002).bind fun t514 => (if 0 < (t514.length : Int) then ((spec_l2With.f k x514000 x514001 x514002 (rd t514 0)).bind fun bt518 => (spec_l3After.l0 k (wrap64 (x1 - 1)) bt518.1 bt518.2.1 bt518.2.2)) else (none))) else (some (x514000, x514001, x514002))
def spec_l3After.f (k : Nat) (a0_0 : Int) (a0_1 : Bool) (l0_2 : List Int) (a1 : Int) : Option (Int × Bool × List Int) := (spec_l1Own.f l0_2).bind fun t505 => ((spec_l2Made.f a0_0 a0_1 l0_2 t505).bind fun bt508 => (spec_l3After.l0 k a1 bt508.1 bt508.2.1 bt508.2.2))
set_option maxHeartbeats 8000000 in
set_option maxRecDepth 100000 in
theorem spec_l3After.calls (k : Nat) (a0_0 : Int) (a0_1 : Bool) (A0_2 : Option Addr) (c0_2 : Nat) (l0_2 : List Int) (a1 : Int) (r1 : Int) (r2 : Bool) (r3 : List Int) (w : World) (hr0_2 : Kd.C (Kd.int .i64) w A0_2 l0_2.length l0_2) (hc0_2 : l0_2.length ≤ c0_2) (h : spec_l3After.f k a0_0 a0_1 l0_2 a1 = some (r1, r2, r3)) :
  Calls Tryd.prog 37 #[.agg #[.int .i64 a0_0, .bool a0_1, .slice A0_2 l0_2.length c0_2], .int .i64 a1] w fun e w' => ∃ v2_ : Value, e = .returned (.agg #[.int .i64 r1, .bool r2, v2_]) ∧ Kd.V (Kd.int .i64) 3 w' w.heap.size (fun k_ => (w.heap.size ≤ k_)) v2_ r3 ∧ Below w.heap.size w w' := by
 have hu26 := Tryd.underlying26
 have HR0_2 := Aside0.mk hr0_2
 have HC0_2 := Aside0.mk hc0_2
 clear hr0_2 hc0_2
 have HB := Aside0.mk (Below.refl w.heap.size w)
 have H : ((spec_l1Own.f l0_2).bind fun t505 => ((spec_l2Made.f a0_0 a0_1 l0_2 t505).bind fun bt508 => (spec_l3After.l0 k a1 bt508.1 bt508.2.1 bt508.2.2))) = some (r1, r2, r3) := h
 clear h
 replace H := Option.bind_eq_some_iff.mp H
 obtain ⟨t505, A30, H⟩ := H
 try dsimp only at H
 have A3 := Aside0.mk A30
 clear A30
 replace H := Option.bind_eq_some_iff.mp H
 obtain ⟨⟨t508, t509, t510⟩, A40, H⟩ := H
 try dsimp only at H
 have A4 := Aside0.mk A40
 clear A40
 have H' := Aside0.mk H
 clear H
 go_enter Tryd.func37, Tryd.ntmps37
 try go_wp2_with (first | ((with_reducible refine gate_dst (N := 2) rfl ?_); refine box_event ?hg (N := 2) ?hd (cs := #[.int .i64 a0_0, .bool a0_1, .slice A0_2 l0_2.length c0_2]) (t := 26) ?hr ?_; (case hd => rfl); (case hg => rfl); (case hr => first | (go_simp; done) | (go_simp; rfl)); intro gb503 hg w5 hbox hb; have n0_ := Aside0.mk (below_step HB.out hb); have n1_ := Aside0.mk (hbox); have n2_ := Aside0.mk ((by rw [hg]; exact (below_size HB.out) : w.heap.size ≤ gb503)); have n3_ := Aside0.mk ((by rw [hg]; exact (below_size HB.out) : w.heap.size ≤ gb503)); clear HB; have HB := n0_; have BK503 := n1_; have GW503 := n2_; have GE503 := n3_; clear n0_ n1_ n2_ n3_ hb hbox hg) | ((with_reducible refine gate_dst (N := 4) rfl ?_); refine box_event ?hg (N := 4) ?hd (cs := #[.int .i64 0, .bool false, .slice none 0 0]) (t := 26) ?hr ?_; (case hd => rfl); (case hg => rfl); (case hr => first | (go_simp; done) | (go_simp; rfl)); intro gb504 hg w6 hbox hb; have n0_ := Aside0.mk (blk_below BK503.out hb); have n1_ := Aside0.mk (below_step HB.out hb); have n2_ := Aside0.mk (hbox); have n3_ := Aside0.mk ((by rw [hg]; exact (below_size HB.out) : w.heap.size ≤ gb504)); have n4_ := Aside0.mk ((by rw [hg]; exact (below_size HB.out) : w.heap.size ≤ gb504)); have n5_ := Aside0.mk ((by rw [hg]; exact Nat.ne_of_lt (blk_lt BK503.out) : gb503 ≠ gb504)); have n6_ := Aside0.mk ((by rw [hg]; exact Nat.ne_of_gt (blk_lt BK503.out) : gb504 ≠ gb503)); clear BK503 HB; have BK503 := n0_; have HB := n1_; have BK504 := n2_; have GW504 := n3_; have GE504 := n4_; have NB503_504 := n5_; have NB504_503 := n6_; clear n0_ n1_ n2_ n3_ n4_ n5_ n6_ hb hbox hg))
 have n0_ := Aside0.mk (blk_drew BK503.out)
 have n1_ := Aside0.mk (blk_drew BK504.out)
 have n2_ := Aside0.mk (below_drew1 HB.out)
 clear BK503 BK504 HB
 have BK503 := n0_
 have BK504 := n1_
 have HB := n2_
 clear n0_ n1_ n2_
 refine start_ (n := 7) (S := fun w' => w'.cell? ⟨gb503, 0, none⟩ = some (.int .i64 a0_0) ∧ w'.cell? ⟨gb503, 1, none⟩ = some (.bool a0_1) ∧ w'.cell? ⟨gb503, 2, none⟩ = some (.slice A0_2 l0_2.length c0_2)) (ds := []) #[false, false, false, false, false, false, false] (by kernel_rfl) rfl rfl ⟨(blk_cell BK503.out 0).trans rfl, (blk_cell BK503.out 1).trans rfl, (blk_cell BK503.out 2).trans rfl⟩ (fun hHeld => ?_)
 generalize w6.drew = w7 at BK503 BK504 HB hHeld ⊢
 refine pure_ (i := 1) (N := some 7) (v := ?_) (a' := ?_) (bm 7 2) rfl rfl (by kernel_rfl) (fun _ _ _ h => h) (Or.inl ⟨by rfl, ?_⟩) ?_ ?_
 rotate_left
 ·intro w'
  go_simp
  with_reducible rfl
 rotate_left
 ·simp only [Act.put, pp_]
  rfl
 refine take_ (i := 0) (N := some 6) (v := ?_) (a' := ?_) (bm 7 3) rfl rfl (by kernel_rfl) (fun _ _ _ h => h) (Or.inl ⟨by rfl, ?_⟩) hHeld ?_ ?_
 rotate_left
 ·rintro w' ⟨s0, s1, s2⟩
  go_simp
  with_reducible rfl
 rotate_left
 ·simp only [Act.put, pp_]
  rfl
 refine take_ (i := 2) (N := some 8) (v := ?_) (a' := ?_) (bm 7 7) rfl rfl (by kernel_rfl) (fun _ _ _ h => h) (Or.inl ⟨by rfl, ?_⟩) hHeld ?_ ?_
 rotate_left
 ·rintro w' ⟨s0, s1, s2⟩
  go_simp
  with_reducible rfl
 rotate_left
 ·simp only [Act.put, pp_]
  rfl
 refine join_ (σ := Value × Value × Nat) 1 (bm 7 63) (fun s_ => [(9, s_.1), (10, .agg #[.int .i64 t508, .bool t509, s_.2.1]), (5, .pointer (some ⟨s_.2.2, 0, none⟩))]) (fun s_ w' => (w'.cell? ⟨gb503, 0, none⟩ = some (.int .i64 a0_0) ∧ w'.cell? ⟨gb503, 1, none⟩ = some (.bool a0_1) ∧ w'.cell? ⟨gb503, 2, none⟩ = some (.slice A0_2 l0_2.length c0_2)) ∧ (Kd.R (Kd.int .i64) 3 w' w.heap.size (fun k_ => (w.heap.size ≤ k_)) s_.1 t505) ∧ (Kd.V (Kd.int .i64) 3 w' w.heap.size (fun k_ => (w.heap.size ≤ k_) ∧ k_ ≠ gb503 ∧ k_ ≠ gb504 ∧ k_ ≠ s_.2.2) s_.2.1 t510) ∧ (w'.heap[gb503]? = some (.cells #[.int .i64 a0_0, .bool a0_1, .slice A0_2 l0_2.length c0_2] 26 (0, 0))) ∧ (w'.heap[gb504]? = some (.cells #[.int .i64 0, .bool false, .slice none 0 0] 26 (0, 0))) ∧ (w'.heap[s_.2.2]? = some (.cells #[.int .i64 0, .bool false, .slice none 0 0] 26 (0, 0))) ∧ (w.heap.size ≤ s_.2.2) ∧ (w.heap.size ≤ s_.2.2) ∧ (gb503 ≠ s_.2.2) ∧ (s_.2.2 ≠ gb503) ∧ (gb504 ≠ s_.2.2) ∧ (s_.2.2 ≠ gb504) ∧ (Below w.heap.size w w')) ?_ ?_
 rotate_left
 ·intro hCont
  refine two_ (i := 3) (j := 5) (Ni := some 9) (Nj := some 5) (bm 7 15) (bm 7 39) rfl rfl rfl rfl (by kernel_rfl) (by decide) (by decide) (fun K hK => ?_) (fun K hK => ?_)
  ·skip
   refine goes_ Tryd.func62 (by kernel_rfl) rfl #[.slice A0_2 l0_2.length c0_2] (by rfl) rfl rfl (by first | rfl | (simp only [List.map_toArray, List.map_cons, List.map_nil, List.length_drop, List.length_take]; first | done | rfl)) ?_
   with_reducible refine (spec_l1Own.calls _ _ l0_2 t505 _ ?side1 ?side2 A3.out).mono ?_
   (case side1 => exact (Kd.C_below HR0_2.out HB.out))
   (case side2 => exact HC0_2.out)
   rintro e w8 ⟨v506, rfl, ho0, hb⟩
   refine ⟨_, rfl, ?_⟩
   have n0_ := Aside0.mk (Kd.R_lower (Kd.R_newM (M := fun k_ => (w.heap.size ≤ k_)) ho0 (below_size HB.out) (fun k_ h_ => h_)) (below_size HB.out))
   have n1_ := Aside0.mk (blk_below BK503.out hb)
   have n2_ := Aside0.mk (blk_below BK504.out hb)
   have n3_ := Aside0.mk (below_step HB.out hb)
   clear BK503 BK504 HB
   have HO507 := n0_
   have BK503 := n1_
   have BK504 := n2_
   have HB := n3_
   clear n0_ n1_ n2_ n3_
   (try clear hb)
   (try clear hb2)
   (try clear hk)
   (try clear hi)
   (try clear ho0)
   obtain ⟨Ao9, co9, eo9⟩ := Kd.R_slice HO507.out
   (first | subst eo9 | (injection eo9 with f1_ f2_ f3_; have f4_ := f1_.symm; have f5_ := f3_.symm; clear f1_ f2_ f3_; subst f4_; subst f5_))
   refine hK.out _ _ ⟨(blk_cell BK503.out 0).trans rfl, (blk_cell BK503.out 1).trans rfl, (blk_cell BK503.out 2).trans rfl⟩ (fun hHeld => ?_)
   clear hK K
   refine norm_ (a' := ?_) ?_ ?_
   rotate_left
   ·show Act.put _ (some 9) _ = _
    simp only [Act.put, pp_]
    rfl
   refine two_ (i := 4) (j := 5) (Ni := some 10) (Nj := some 5) (bm 7 31) (bm 7 47) rfl rfl rfl rfl (by kernel_rfl) (by decide) (by decide) (fun K hK => ?_) (fun K hK => ?_)
   ·skip
    refine goes_ Tryd.func61 (by kernel_rfl) rfl #[.agg #[.int .i64 a0_0, .bool a0_1, .slice A0_2 l0_2.length c0_2], .slice Ao9 t505.length co9] (by rfl) rfl rfl (by first | rfl | (simp only [List.map_toArray, List.map_cons, List.map_nil, List.length_drop, List.length_take]; first | done | rfl)) ?_
    with_reducible refine (spec_l2Made.calls a0_0 a0_1 _ _ l0_2 (fun k_ => some k_ = (.slice Ao9 t505.length co9 : Value).ownBlock) _ _ t505 t508 t509 t510 _ ?side1 ?side2 ?side3 A4.out).mono ?_
    (case side1 => exact (Kd.C_below HR0_2.out HB.out))
    (case side2 => exact HC0_2.out)
    (case side3 => exact Kd.R_V (Kd.R_tight rfl (Kd.R_types (Kd.R_types HO507.out BK503.out (by decide)) BK504.out (by decide))))
    rintro e w10 ⟨v511, rfl, ho0, hb⟩
    refine ⟨_, rfl, ?_⟩
    have n0_ := Aside0.mk (Kd.R_below HO507.out hb)
    have n1_ := Aside0.mk (Kd.V_lower (Kd.V_mono (ok' := fun k_ => (w.heap.size ≤ k_) ∧ k_ ≠ gb503 ∧ k_ ≠ gb504) ho0 (fun k_ hk_ => ⟨Or.elim hk_ (fun hs_ => ((Kd.R_types (Kd.R_types HO507.out BK503.out (by decide)) BK504.out (by decide)).1 k_ hs_.symm).1.1.1) (fun hn_ => (Nat.le_trans (below_size HB.out) hn_)), Or.elim hk_ (fun hs_ => ((Kd.R_types (Kd.R_types HO507.out BK503.out (by decide)) BK504.out (by decide)).1 k_ hs_.symm).1.2) (fun hn_ => (Kd.freshB BK503.out k_ hn_)), Or.elim hk_ (fun hs_ => ((Kd.R_types (Kd.R_types HO507.out BK503.out (by decide)) BK504.out (by decide)).1 k_ hs_.symm).2) (fun hn_ => (Kd.freshB BK504.out k_ hn_))⟩)) (below_size HB.out))
    have n2_ := Aside0.mk (blk_below BK503.out hb)
    have n3_ := Aside0.mk (blk_below BK504.out hb)
    have n4_ := Aside0.mk (below_step HB.out hb)
    clear HO507 BK503 BK504 HB
    have HO507 := n0_
    have HO512 := n1_
    have BK503 := n2_
    have BK504 := n3_
    have HB := n4_
    clear n0_ n1_ n2_ n3_ n4_
    (try clear hb)
    (try clear hb2)
    (try clear hk)
    (try clear hi)
    (try clear ho0)
    refine hK.out _ _ ⟨(blk_cell BK503.out 0).trans rfl, (blk_cell BK503.out 1).trans rfl, (blk_cell BK503.out 2).trans rfl⟩ (fun hHeld => ?_)
    clear hK K
    refine norm_ (a' := ?_) ?_ ?_
    rotate_left
    ·show Act.put _ (some 10) _ = _
     simp only [Act.put, pp_]
     rfl
    refine one_ (i := 5) (N := some 5) (bm 7 63) rfl rfl (by kernel_rfl) (by decide) (fun K hK => ?_)
    refine box_step ?hg (N := 5) ?hd (cs := #[.int .i64 0, .bool false, .slice none 0 0]) (t := 26) ?hr ?_; (case hd => rfl); (case hg => rfl); (case hr => first | (go_simp; done) | (go_simp; rfl))
    intro gb513 hg w11 hbox hb
    have n0_ := Aside0.mk (Kd.R_below HO507.out hb)
    have n1_ := Aside0.mk (Kd.V_below (Kd.V_elderB HO512.out gb513 (Nat.le_of_eq hg.symm)) hb)
    have n2_ := Aside0.mk (blk_below BK503.out hb)
    have n3_ := Aside0.mk (blk_below BK504.out hb)
    have n4_ := Aside0.mk (below_step HB.out hb)
    have n5_ := Aside0.mk (hbox)
    have n6_ := Aside0.mk ((by rw [hg]; exact (below_size HB.out) : w.heap.size ≤ gb513))
    have n7_ := Aside0.mk ((by rw [hg]; exact (below_size HB.out) : w.heap.size ≤ gb513))
    have n8_ := Aside0.mk ((by rw [hg]; exact Nat.ne_of_lt (blk_lt BK503.out) : gb503 ≠ gb513))
    have n9_ := Aside0.mk ((by rw [hg]; exact Nat.ne_of_gt (blk_lt BK503.out) : gb513 ≠ gb503))
    have n10_ := Aside0.mk ((by rw [hg]; exact Nat.ne_of_lt (blk_lt BK504.out) : gb504 ≠ gb513))
    have n11_ := Aside0.mk ((by rw [hg]; exact Nat.ne_of_gt (blk_lt BK504.out) : gb513 ≠ gb504))
    clear HO507 HO512 BK503 BK504 HB
    have HO507 := n0_
    have HO512 := n1_
    have BK503 := n2_
    have BK504 := n3_
    have HB := n4_
    have BK513 := n5_
    have GW513 := n6_
    have GE513 := n7_
    have NB503_513 := n8_
    have NB513_503 := n9_
    have NB504_513 := n10_
    have NB513_504 := n11_
    clear n0_ n1_ n2_ n3_ n4_ n5_ n6_ n7_ n8_ n9_ n10_ n11_ hb hbox hg
    refine hK.out _ _ ⟨(blk_cell BK503.out 0).trans rfl, (blk_cell BK503.out 1).trans rfl, (blk_cell BK503.out 2).trans rfl⟩ (fun hHeld => ?_)
    clear hK K
    refine norm_ (a' := ?_) ?_ ?_
    rotate_left
    ·show Act.put _ (some 5) _ = _
     simp only [Act.put, pp_]
     rfl
    exact norm_ (by simp only [putAll, Act.put, List.setIfInBounds_toArray, List.set_cons_zero, List.set_cons_succ]) (hCont (.slice Ao9 t505.length co9, v511, gb513) _ ⟨hHeld, (Kd.R_mono HO507.out (fun _ hk => hk.1)), (by (with_reducible repeat (first | apply Kd.V_alloc | apply Kd.V_drewN | apply Kd.V_drew)); exact Kd.V_mono HO512.out (fun _ hk => ⟨hk.1.1, ⟨hk.1.2.1, ⟨hk.1.2.2, hk.2⟩⟩⟩)), BK503.out, BK504.out, BK513.out, GW513.out, GE513.out, NB503_513.out, NB513_503.out, NB504_513.out, NB513_504.out, HB.out⟩)
   ·skip
    refine box_step ?hg (N := 5) ?hd (cs := #[.int .i64 0, .bool false, .slice none 0 0]) (t := 26) ?hr ?_; (case hd => rfl); (case hg => rfl); (case hr => first | (go_simp; done) | (go_simp; rfl))
    intro gb513 hg w9 hbox hb
    have n0_ := Aside0.mk (Kd.R_below HO507.out hb)
    have n1_ := Aside0.mk (blk_below BK503.out hb)
    have n2_ := Aside0.mk (blk_below BK504.out hb)
    have n3_ := Aside0.mk (below_step HB.out hb)
    have n4_ := Aside0.mk (hbox)
    have n5_ := Aside0.mk ((by rw [hg]; exact (below_size HB.out) : w.heap.size ≤ gb513))
    have n6_ := Aside0.mk ((by rw [hg]; exact (below_size HB.out) : w.heap.size ≤ gb513))
    have n7_ := Aside0.mk ((by rw [hg]; exact Nat.ne_of_lt (blk_lt BK503.out) : gb503 ≠ gb513))
    have n8_ := Aside0.mk ((by rw [hg]; exact Nat.ne_of_gt (blk_lt BK503.out) : gb513 ≠ gb503))
    have n9_ := Aside0.mk ((by rw [hg]; exact Nat.ne_of_lt (blk_lt BK504.out) : gb504 ≠ gb513))
    have n10_ := Aside0.mk ((by rw [hg]; exact Nat.ne_of_gt (blk_lt BK504.out) : gb513 ≠ gb504))
    clear HO507 BK503 BK504 HB
    have HO507 := n0_
    have BK503 := n1_
    have BK504 := n2_
    have HB := n3_
    have BK513 := n4_
    have GW513 := n5_
    have GE513 := n6_
    have NB503_513 := n7_
    have NB513_503 := n8_
    have NB504_513 := n9_
    have NB513_504 := n10_
    clear n0_ n1_ n2_ n3_ n4_ n5_ n6_ n7_ n8_ n9_ n10_ hb hbox hg
    obtain ⟨Ao10, co10, eo10⟩ := Kd.R_slice HO507.out
    (first | subst eo10 | (injection eo10 with f1_ f2_ f3_; have f4_ := f1_.symm; have f5_ := f3_.symm; clear f1_ f2_ f3_; subst f4_; subst f5_))
    refine hK.out _ _ ⟨(blk_cell BK503.out 0).trans rfl, (blk_cell BK503.out 1).trans rfl, (blk_cell BK503.out 2).trans rfl⟩ (fun hHeld => ?_)
    clear hK K
    refine norm_ (a' := ?_) ?_ ?_
    rotate_left
    ·show Act.put _ (some 5) _ = _
     simp only [Act.put, pp_]
     rfl
    refine one_ (i := 4) (N := some 10) (bm 7 63) rfl rfl (by kernel_rfl) (by decide) (fun K hK => ?_)
    refine goes_ Tryd.func61 (by kernel_rfl) rfl #[.agg #[.int .i64 a0_0, .bool a0_1, .slice A0_2 l0_2.length c0_2], .slice Ao10 t505.length co10] (by rfl) rfl rfl (by first | rfl | (simp only [List.map_toArray, List.map_cons, List.map_nil, List.length_drop, List.length_take]; first | done | rfl)) ?_
    with_reducible refine (spec_l2Made.calls a0_0 a0_1 _ _ l0_2 (fun k_ => some k_ = (.slice Ao10 t505.length co10 : Value).ownBlock) _ _ t505 t508 t509 t510 _ ?side1 ?side2 ?side3 A4.out).mono ?_
    (case side1 => exact (Kd.C_below HR0_2.out HB.out))
    (case side2 => exact HC0_2.out)
    (case side3 => exact Kd.R_V (Kd.R_tight rfl (Kd.R_types (Kd.R_types (Kd.R_types HO507.out BK503.out (by decide)) BK504.out (by decide)) BK513.out (by decide))))
    rintro e w11 ⟨v511, rfl, ho0, hb⟩
    refine ⟨_, rfl, ?_⟩
    have n0_ := Aside0.mk (Kd.R_below HO507.out hb)
    have n1_ := Aside0.mk (Kd.V_lower (Kd.V_mono (ok' := fun k_ => (w.heap.size ≤ k_) ∧ k_ ≠ gb503 ∧ k_ ≠ gb504 ∧ k_ ≠ gb513) ho0 (fun k_ hk_ => ⟨Or.elim hk_ (fun hs_ => ((Kd.R_types (Kd.R_types (Kd.R_types HO507.out BK503.out (by decide)) BK504.out (by decide)) BK513.out (by decide)).1 k_ hs_.symm).1.1.1.1) (fun hn_ => (Nat.le_trans (below_size HB.out) hn_)), Or.elim hk_ (fun hs_ => ((Kd.R_types (Kd.R_types (Kd.R_types HO507.out BK503.out (by decide)) BK504.out (by decide)) BK513.out (by decide)).1 k_ hs_.symm).1.1.2) (fun hn_ => (Kd.freshB BK503.out k_ hn_)), Or.elim hk_ (fun hs_ => ((Kd.R_types (Kd.R_types (Kd.R_types HO507.out BK503.out (by decide)) BK504.out (by decide)) BK513.out (by decide)).1 k_ hs_.symm).1.2) (fun hn_ => (Kd.freshB BK504.out k_ hn_)), Or.elim hk_ (fun hs_ => ((Kd.R_types (Kd.R_types (Kd.R_types HO507.out BK503.out (by decide)) BK504.out (by decide)) BK513.out (by decide)).1 k_ hs_.symm).2) (fun hn_ => (Kd.freshB BK513.out k_ hn_))⟩)) (below_size HB.out))
    have n2_ := Aside0.mk (blk_below BK503.out hb)
    have n3_ := Aside0.mk (blk_below BK504.out hb)
    have n4_ := Aside0.mk (blk_below BK513.out hb)
    have n5_ := Aside0.mk (below_step HB.out hb)
    clear HO507 BK503 BK504 BK513 HB
    have HO507 := n0_
    have HO512 := n1_
    have BK503 := n2_
    have BK504 := n3_
    have BK513 := n4_
    have HB := n5_
    clear n0_ n1_ n2_ n3_ n4_ n5_
    (try clear hb)
    (try clear hb2)
    (try clear hk)
    (try clear hi)
    (try clear ho0)
    refine hK.out _ _ ⟨(blk_cell BK503.out 0).trans rfl, (blk_cell BK503.out 1).trans rfl, (blk_cell BK503.out 2).trans rfl⟩ (fun hHeld => ?_)
    clear hK K
    refine norm_ (a' := ?_) ?_ ?_
    rotate_left
    ·show Act.put _ (some 10) _ = _
     simp only [Act.put, pp_]
     rfl
    exact norm_ (by simp only [putAll, Act.put, List.setIfInBounds_toArray, List.set_cons_zero, List.set_cons_succ]) (hCont (.slice Ao10 t505.length co10, v511, gb513) _ ⟨hHeld, (Kd.R_mono HO507.out (fun _ hk => hk.1)), HO512.out, BK503.out, BK504.out, BK513.out, GW513.out, GE513.out, NB503_513.out, NB513_503.out, NB504_513.out, NB513_504.out, HB.out⟩)
  ·skip
   refine box_step ?hg (N := 5) ?hd (cs := #[.int .i64 0, .bool false, .slice none 0 0]) (t := 26) ?hr ?_; (case hd => rfl); (case hg => rfl); (case hr => first | (go_simp; done) | (go_simp; rfl))
   intro gb513 hg w8 hbox hb
   have n0_ := Aside0.mk (blk_below BK503.out hb)
   have n1_ := Aside0.mk (blk_below BK504.out hb)
   have n2_ := Aside0.mk (below_step HB.out hb)
   have n3_ := Aside0.mk (hbox)
   have n4_ := Aside0.mk ((by rw [hg]; exact (below_size HB.out) : w.heap.size ≤ gb513))
   have n5_ := Aside0.mk ((by rw [hg]; exact (below_size HB.out) : w.heap.size ≤ gb513))
   have n6_ := Aside0.mk ((by rw [hg]; exact Nat.ne_of_lt (blk_lt BK503.out) : gb503 ≠ gb513))
   have n7_ := Aside0.mk ((by rw [hg]; exact Nat.ne_of_gt (blk_lt BK503.out) : gb513 ≠ gb503))
   have n8_ := Aside0.mk ((by rw [hg]; exact Nat.ne_of_lt (blk_lt BK504.out) : gb504 ≠ gb513))
   have n9_ := Aside0.mk ((by rw [hg]; exact Nat.ne_of_gt (blk_lt BK504.out) : gb513 ≠ gb504))
   clear BK503 BK504 HB
   have BK503 := n0_
   have BK504 := n1_
   have HB := n2_
   have BK513 := n3_
   have GW513 := n4_
   have GE513 := n5_
   have NB503_513 := n6_
   have NB513_503 := n7_
   have NB504_513 := n8_
   have NB513_504 := n9_
   clear n0_ n1_ n2_ n3_ n4_ n5_ n6_ n7_ n8_ n9_ hb hbox hg
   refine hK.out _ _ ⟨(blk_cell BK503.out 0).trans rfl, (blk_cell BK503.out 1).trans rfl, (blk_cell BK503.out 2).trans rfl⟩ (fun hHeld => ?_)
   clear hK K
   refine norm_ (a' := ?_) ?_ ?_
   rotate_left
   ·show Act.put _ (some 5) _ = _
    simp only [Act.put, pp_]
    rfl
   refine one_ (i := 3) (N := some 9) (bm 7 47) rfl rfl (by kernel_rfl) (by decide) (fun K hK => ?_)
   refine goes_ Tryd.func62 (by kernel_rfl) rfl #[.slice A0_2 l0_2.length c0_2] (by rfl) rfl rfl (by first | rfl | (simp only [List.map_toArray, List.map_cons, List.map_nil, List.length_drop, List.length_take]; first | done | rfl)) ?_
   with_reducible refine (spec_l1Own.calls _ _ l0_2 t505 _ ?side1 ?side2 A3.out).mono ?_
   (case side1 => exact (Kd.C_below HR0_2.out HB.out))
   (case side2 => exact HC0_2.out)
   rintro e w9 ⟨v506, rfl, ho0, hb⟩
   refine ⟨_, rfl, ?_⟩
   have n0_ := Aside0.mk (Kd.R_lower (Kd.R_newM (M := fun k_ => (w.heap.size ≤ k_)) ho0 (below_size HB.out) (fun k_ h_ => h_)) (below_size HB.out))
   have n1_ := Aside0.mk (blk_below BK503.out hb)
   have n2_ := Aside0.mk (blk_below BK504.out hb)
   have n3_ := Aside0.mk (blk_below BK513.out hb)
   have n4_ := Aside0.mk (below_step HB.out hb)
   clear BK503 BK504 BK513 HB
   have HO507 := n0_
   have BK503 := n1_
   have BK504 := n2_
   have BK513 := n3_
   have HB := n4_
   clear n0_ n1_ n2_ n3_ n4_
   (try clear hb)
   (try clear hb2)
   (try clear hk)
   (try clear hi)
   (try clear ho0)
   obtain ⟨Ao10, co10, eo10⟩ := Kd.R_slice HO507.out
   (first | subst eo10 | (injection eo10 with f1_ f2_ f3_; have f4_ := f1_.symm; have f5_ := f3_.symm; clear f1_ f2_ f3_; subst f4_; subst f5_))
   refine hK.out _ _ ⟨(blk_cell BK503.out 0).trans rfl, (blk_cell BK503.out 1).trans rfl, (blk_cell BK503.out 2).trans rfl⟩ (fun hHeld => ?_)
   clear hK K
   refine norm_ (a' := ?_) ?_ ?_
   rotate_left
   ·show Act.put _ (some 9) _ = _
    simp only [Act.put, pp_]
    rfl
   refine one_ (i := 4) (N := some 10) (bm 7 63) rfl rfl (by kernel_rfl) (by decide) (fun K hK => ?_)
   refine goes_ Tryd.func61 (by kernel_rfl) rfl #[.agg #[.int .i64 a0_0, .bool a0_1, .slice A0_2 l0_2.length c0_2], .slice Ao10 t505.length co10] (by rfl) rfl rfl (by first | rfl | (simp only [List.map_toArray, List.map_cons, List.map_nil, List.length_drop, List.length_take]; first | done | rfl)) ?_
   with_reducible refine (spec_l2Made.calls a0_0 a0_1 _ _ l0_2 (fun k_ => some k_ = (.slice Ao10 t505.length co10 : Value).ownBlock) _ _ t505 t508 t509 t510 _ ?side1 ?side2 ?side3 A4.out).mono ?_
   (case side1 => exact (Kd.C_below HR0_2.out HB.out))
   (case side2 => exact HC0_2.out)
   (case side3 => exact Kd.R_V (Kd.R_tight rfl (Kd.R_types (Kd.R_types (Kd.R_types HO507.out BK503.out (by decide)) BK504.out (by decide)) BK513.out (by decide))))
   rintro e w11 ⟨v511, rfl, ho0, hb⟩
   refine ⟨_, rfl, ?_⟩
   have n0_ := Aside0.mk (Kd.R_below HO507.out hb)
   have n1_ := Aside0.mk (Kd.V_lower (Kd.V_mono (ok' := fun k_ => (w.heap.size ≤ k_) ∧ k_ ≠ gb503 ∧ k_ ≠ gb504 ∧ k_ ≠ gb513) ho0 (fun k_ hk_ => ⟨Or.elim hk_ (fun hs_ => ((Kd.R_types (Kd.R_types (Kd.R_types HO507.out BK503.out (by decide)) BK504.out (by decide)) BK513.out (by decide)).1 k_ hs_.symm).1.1.1.1) (fun hn_ => (Nat.le_trans (below_size HB.out) hn_)), Or.elim hk_ (fun hs_ => ((Kd.R_types (Kd.R_types (Kd.R_types HO507.out BK503.out (by decide)) BK504.out (by decide)) BK513.out (by decide)).1 k_ hs_.symm).1.1.2) (fun hn_ => (Kd.freshB BK503.out k_ hn_)), Or.elim hk_ (fun hs_ => ((Kd.R_types (Kd.R_types (Kd.R_types HO507.out BK503.out (by decide)) BK504.out (by decide)) BK513.out (by decide)).1 k_ hs_.symm).1.2) (fun hn_ => (Kd.freshB BK504.out k_ hn_)), Or.elim hk_ (fun hs_ => ((Kd.R_types (Kd.R_types (Kd.R_types HO507.out BK503.out (by decide)) BK504.out (by decide)) BK513.out (by decide)).1 k_ hs_.symm).2) (fun hn_ => (Kd.freshB BK513.out k_ hn_))⟩)) (below_size HB.out))
   have n2_ := Aside0.mk (blk_below BK503.out hb)
   have n3_ := Aside0.mk (blk_below BK504.out hb)
   have n4_ := Aside0.mk (blk_below BK513.out hb)
   have n5_ := Aside0.mk (below_step HB.out hb)
   clear HO507 BK503 BK504 BK513 HB
   have HO507 := n0_
   have HO512 := n1_
   have BK503 := n2_
   have BK504 := n3_
   have BK513 := n4_
   have HB := n5_
   clear n0_ n1_ n2_ n3_ n4_ n5_
   (try clear hb)
   (try clear hb2)
   (try clear hk)
   (try clear hi)
   (try clear ho0)
   refine hK.out _ _ ⟨(blk_cell BK503.out 0).trans rfl, (blk_cell BK503.out 1).trans rfl, (blk_cell BK503.out 2).trans rfl⟩ (fun hHeld => ?_)
   clear hK K
   refine norm_ (a' := ?_) ?_ ?_
   rotate_left
   ·show Act.put _ (some 10) _ = _
    simp only [Act.put, pp_]
    rfl
   exact norm_ (by simp only [putAll, Act.put, List.setIfInBounds_toArray, List.set_cons_zero, List.set_cons_succ]) (hCont (.slice Ao10 t505.length co10, v511, gb513) _ ⟨hHeld, (by (with_reducible repeat (first | apply Kd.R_alloc | apply Kd.R_drewN | apply Kd.R_drew)); exact Kd.R_mono HO507.out (fun _ hk => hk.1)), (by (with_reducible repeat (first | apply Kd.V_alloc | apply Kd.V_drewN | apply Kd.V_drew)); exact HO512.out), (by first | (with_reducible exact BK503.out) | ((with_reducible repeat (first | refine blk_drewN ?_ _ | refine blk_drew ?_ | refine blk_alloc ?_ _)); exact BK503.out)), (by first | (with_reducible exact BK504.out) | ((with_reducible repeat (first | refine blk_drewN ?_ _ | refine blk_drew ?_ | refine blk_alloc ?_ _)); exact BK504.out)), (by first | (with_reducible exact BK513.out) | ((with_reducible repeat (first | refine blk_drewN ?_ _ | refine blk_drew ?_ | refine blk_alloc ?_ _)); exact BK513.out)), GW513.out, GE513.out, NB503_513.out, NB513_503.out, NB504_513.out, NB513_504.out, (by repeat (first | (with_reducible first | exact HB.out | apply below_alloc | apply pw_below_drewN | apply below_drew1 | refine below_set ?_ GE503.out | refine below_set ?_ GE504.out | refine below_set ?_ GE513.out) | exact HB.out))⟩)
 rintro ⟨v506, v511, gb513⟩ w12 ⟨hS_, h0_, h1_, h2_, h3_, h4_, h5_, h6_, h7_, h8_, h9_, h10_, h11_⟩
 have n0_ : Aside0 (Kd.R (Kd.int .i64) 3 w12 w.heap.size (fun k_ => (w.heap.size ≤ k_)) v506 t505) := ⟨h0_⟩
 have n1_ : Aside0 (Kd.V (Kd.int .i64) 3 w12 w.heap.size (fun k_ => (w.heap.size ≤ k_) ∧ k_ ≠ gb503 ∧ k_ ≠ gb504 ∧ k_ ≠ gb513) v511 t510) := ⟨h1_⟩
 have n2_ : Aside0 (w12.heap[gb503]? = some (.cells #[.int .i64 a0_0, .bool a0_1, .slice A0_2 l0_2.length c0_2] 26 (0, 0))) := ⟨h2_⟩
 have n3_ : Aside0 (w12.heap[gb504]? = some (.cells #[.int .i64 0, .bool false, .slice none 0 0] 26 (0, 0))) := ⟨h3_⟩
 have n4_ : Aside0 (w12.heap[gb513]? = some (.cells #[.int .i64 0, .bool false, .slice none 0 0] 26 (0, 0))) := ⟨h4_⟩
 have n5_ : Aside0 (w.heap.size ≤ gb513) := ⟨h5_⟩
 have n6_ : Aside0 (w.heap.size ≤ gb513) := ⟨h6_⟩
 have n7_ : Aside0 (gb503 ≠ gb513) := ⟨h7_⟩
 have n8_ : Aside0 (gb513 ≠ gb503) := ⟨h8_⟩
 have n9_ : Aside0 (gb504 ≠ gb513) := ⟨h9_⟩
 have n10_ : Aside0 (gb513 ≠ gb504) := ⟨h10_⟩
 have n11_ : Aside0 (Below w.heap.size w w12) := ⟨h11_⟩
 clear BK503 BK504 HB h0_ h1_ h2_ h3_ h4_ h5_ h6_ h7_ h8_ h9_ h10_ h11_
 have HO507 := n0_
 have HO512 := n1_
 have BK503 := n2_
 have BK504 := n3_
 have BK513 := n4_
 have GW513 := n5_
 have GE513 := n6_
 have NB503_513 := n7_
 have NB513_503 := n8_
 have NB504_513 := n9_
 have NB513_504 := n10_
 have HB := n11_
 clear n0_ n1_ n2_ n3_ n4_ n5_ n6_ n7_ n8_ n9_ n10_ n11_
 have hHeld : w12.cell? ⟨gb503, 0, none⟩ = some (.int .i64 a0_0) ∧ w12.cell? ⟨gb503, 1, none⟩ = some (.bool a0_1) ∧ w12.cell? ⟨gb503, 2, none⟩ = some (.slice A0_2 l0_2.length c0_2) := hS_
 obtain ⟨Ao15, co15, eo15⟩ := Kd.V_slice HO512.out
 (first | subst eo15 | (injection eo15 with f1_ f2_ f3_; have f4_ := f1_.symm; have f5_ := f3_.symm; clear f1_ f2_ f3_; subst f4_; subst f5_))
 refine norm_ (a' := ?_) ?_ ?_
 rotate_left
 ·simp only [putAll, Act.put, List.setIfInBounds_toArray, List.set_cons_zero, List.set_cons_succ]
  rfl
 refine one_ (i := 6) (N := none) (bm 7 127) rfl rfl (by kernel_rfl) (by decide) (fun K hK => ?_)
 have hs13 : w12.cell? ⟨gb513, 0, none⟩ = some (.int .i64 0) := (blk_cell BK513.out 0).trans rfl
 have hfs13 := blk_frozen BK513.out 0
 have hns13_0 := NB503_513.out
 have hns13_1 := NB504_513.out
 have hms13_0 := NB513_503.out
 have hms13_1 := NB513_504.out
 have hs14 : w12.cell? ⟨gb513, 1, none⟩ = some (.bool false) := (blk_cell BK513.out 1).trans rfl
 have hfs14 := blk_frozen BK513.out 1
 have hns14_0 := NB503_513.out
 have hns14_1 := NB504_513.out
 have hms14_0 := NB513_503.out
 have hms14_1 := NB513_504.out
 have hs16 : w12.cell? ⟨gb513, 2, none⟩ = some (.slice none 0 0) := (blk_cell BK513.out 2).trans rfl
 have hfs16 := blk_frozen BK513.out 2
 have hns16_0 := NB503_513.out
 have hns16_1 := NB504_513.out
 have hms16_0 := NB513_503.out
 have hms16_1 := NB513_504.out
 refine skip_ (w1 := ?_) (by rfl) rfl ?_ ?_
 rotate_left
 ·go_simp
  rfl
 refine hK.out _ _ ⟨((cell_far (p := ⟨gb513, _, none⟩) NB503_513.out _).trans (((cell_far (p := ⟨gb513, _, none⟩) NB503_513.out _).trans (((cell_far (p := ⟨gb513, _, none⟩) NB503_513.out _).trans (hHeld.1)))))), ((cell_far (p := ⟨gb513, _, none⟩) NB503_513.out _).trans (((cell_far (p := ⟨gb513, _, none⟩) NB503_513.out _).trans (((cell_far (p := ⟨gb513, _, none⟩) NB503_513.out _).trans (hHeld.2.1)))))), ((cell_far (p := ⟨gb513, _, none⟩) NB503_513.out _).trans (((cell_far (p := ⟨gb513, _, none⟩) NB503_513.out _).trans (((cell_far (p := ⟨gb513, _, none⟩) NB503_513.out _).trans (hHeld.2.2))))))⟩ (fun hHeld => ?_)
 clear hK K
 refine done_ (by kernel_rfl) ?_
 try go_wp2
 go_loopg [1] k (fun kq v1 w' => ∃ (x1_1 : Int) (x514000_1 : Int) (x514001_1 : Bool) (x514002_1 : List Int) (u514002 : Value), v1 = .int .i64 x1_1 ∧ Aside0 (spec_l3After.l0 kq x1_1 x514000_1 x514001_1 x514002_1 = some (r1, r2, r3)) ∧ Aside0 (kq ≤ k) ∧ Aside0 (Kd.V (Kd.int .i64) 3 w' w.heap.size (fun k_ => (w.heap.size ≤ k_) ∧ k_ ≠ gb503 ∧ k_ ≠ gb504 ∧ k_ ≠ gb513) u514002 x514002_1) ∧ Aside0 (w'.heap[gb503]? = some (.cells #[.int .i64 a0_0, .bool a0_1, (.slice A0_2 l0_2.length c0_2)] 26 (0, 0))) ∧ Aside0 (w'.heap[gb504]? = some (.cells #[.int .i64 0, .bool false, (.slice none 0 0)] 26 (0, 0))) ∧ Aside0 (w'.heap[gb513]? = some (.cells #[.int .i64 x514000_1, .bool x514001_1, u514002] 26 (0, 0))) ∧ Aside0 (Below w.heap.size w w'))
 case atStart => exact ⟨(a1), (t508), (t509), (t510), (.slice Ao15 t510.length co15), (by first | rfl | (simp; done) | (simp [*]; done)), H', ⟨Nat.le_refl _⟩, ⟨by (with_reducible repeat (first | apply Kd.V_alloc | apply Kd.V_drewN | apply Kd.V_drew)); exact Kd.V_mono (Kd.V_far (p := ⟨gb513, 2, none⟩) (Kd.V_far (p := ⟨gb513, 1, none⟩) (Kd.V_far (p := ⟨gb513, 0, none⟩) (Kd.V_mono HO512.out (fun k_ hk => (⟨hk, hk.2.2.2⟩ : _ ∧ k_ ≠ gb513))) (fun _ hk => hk.2) (.int .i64 t508)) (fun _ hk => hk.2) (.bool t509)) (fun _ hk => hk.2) (.slice Ao15 t510.length co15)) (fun _ hk => ⟨hk.1.1, ⟨hk.1.2.1, ⟨hk.1.2.2.1, hk.1.2.2.2⟩⟩⟩)⟩, ⟨by (with_reducible repeat (first | refine blk_drewN ?_ _ | refine blk_drew ?_ | refine blk_alloc ?_ _)); refine blk_far ?_ NB503_513.out _; (with_reducible repeat (first | refine blk_drewN ?_ _ | refine blk_drew ?_ | refine blk_alloc ?_ _)); refine blk_far ?_ NB503_513.out _; (with_reducible repeat (first | refine blk_drewN ?_ _ | refine blk_drew ?_ | refine blk_alloc ?_ _)); refine blk_far ?_ NB503_513.out _; (with_reducible repeat (first | refine blk_drewN ?_ _ | refine blk_drew ?_ | refine blk_alloc ?_ _)); exact BK503.out⟩, ⟨by (with_reducible repeat (first | refine blk_drewN ?_ _ | refine blk_drew ?_ | refine blk_alloc ?_ _)); refine blk_far ?_ NB504_513.out _; (with_reducible repeat (first | refine blk_drewN ?_ _ | refine blk_drew ?_ | refine blk_alloc ?_ _)); refine blk_far ?_ NB504_513.out _; (with_reducible repeat (first | refine blk_drewN ?_ _ | refine blk_drew ?_ | refine blk_alloc ?_ _)); refine blk_far ?_ NB504_513.out _; (with_reducible repeat (first | refine blk_drewN ?_ _ | refine blk_drew ?_ | refine blk_alloc ?_ _)); exact BK504.out⟩, ⟨by (with_reducible repeat (first | refine blk_drewN ?_ _ | refine blk_drew ?_ | refine blk_alloc ?_ _)); refine blk_put (cs := #[.int .i64 t508, .bool t509, .slice none 0 0]) ?_ 2 _ rfl; (with_reducible repeat (first | refine blk_drewN ?_ _ | refine blk_drew ?_ | refine blk_alloc ?_ _)); refine blk_put (cs := #[.int .i64 t508, .bool false, .slice none 0 0]) ?_ 1 _ rfl; (with_reducible repeat (first | refine blk_drewN ?_ _ | refine blk_drew ?_ | refine blk_alloc ?_ _)); refine blk_put (cs := #[.int .i64 0, .bool false, .slice none 0 0]) ?_ 0 _ rfl; (with_reducible repeat (first | refine blk_drewN ?_ _ | refine blk_drew ?_ | refine blk_alloc ?_ _)); exact BK513.out⟩, ⟨by repeat (first | (with_reducible first | exact HB.out | apply below_alloc | apply pw_below_drewN | apply below_drew1 | refine below_set ?_ GE503.out | refine below_set ?_ GE504.out | refine below_set ?_ GE513.out) | exact HB.out)⟩⟩
 case round =>
  clear H'
  try clear p2
  try clear c3
  try clear c6
  obtain ⟨x1_1, x514000_1, x514001_1, x514002_1, u514002, rfl, HA, HK1, HO_514002, BK503, BK504, BK513, HB⟩ := hrel
  cases gk with
  | zero => exact absurd HA.out (by simp [spec_l3After.l0])
  | succ k1 =>
   have H := HA.out
   clear HA
   simp only [spec_l3After.l0] at H
   by_cases c17 : x1_1 > 0
   ·rw [if_pos c17] at H
    have c17b0 : decide (0 < x1_1) = true := decide_eq_true c17
    clear c17
    replace H := Option.bind_eq_some_iff.mp H
    obtain ⟨t514, A180, H⟩ := H
    try dsimp only at H
    have A18 := Aside0.mk A180
    clear A180
    by_cases c19 : 0 < (t514.length : Int)
    ·rw [if_pos c19] at H
     have c19b0 : decide (0 < (t514.length : Int)) = true := decide_eq_true c19
     have c19b1 : decide (0 < t514.length) = true := decide_eq_true (by omega)
     clear c19
     replace H := Option.bind_eq_some_iff.mp H
     obtain ⟨⟨t518, t519, t520⟩, A200, H⟩ := H
     try dsimp only at H
     have A20 := Aside0.mk A200
     clear A200
     have H' := Aside0.mk H
     clear H
     try go_wp2
     have n0_ := Aside0.mk (Kd.V_drew HO_514002.out)
     have n1_ := Aside0.mk (blk_drew BK503.out)
     have n2_ := Aside0.mk (blk_drew BK504.out)
     have n3_ := Aside0.mk (blk_drew BK513.out)
     have n4_ := Aside0.mk (below_drew1 HB.out)
     clear HO_514002 BK503 BK504 BK513 HB
     have HO_514002 := n0_
     have BK503 := n1_
     have BK504 := n2_
     have BK513 := n3_
     have HB := n4_
     clear n0_ n1_ n2_ n3_ n4_
     obtain ⟨Ao22, co22, eo22⟩ := Kd.V_slice HO_514002.out
     (first | subst eo22 | (injection eo22 with f1_ f2_ f3_; have f4_ := f1_.symm; have f5_ := f3_.symm; clear f1_ f2_ f3_; subst f4_; subst f5_))
     refine start_ (n := 7) (S := fun w' => w'.cell? ⟨gb513, 0, none⟩ = some (.int .i64 x514000_1) ∧ w'.cell? ⟨gb513, 1, none⟩ = some (.bool x514001_1) ∧ w'.cell? ⟨gb513, 2, none⟩ = some (.slice Ao22 x514002_1.length co22)) (ds := [6]) #[false, false, false, false, false, false, false] (by kernel_rfl) rfl rfl ⟨(blk_cell BK513.out 0).trans rfl, (blk_cell BK513.out 1).trans rfl, (blk_cell BK513.out 2).trans rfl⟩ (fun hHeld => ?_)
     generalize wr.drew = w21 at HO_514002 BK503 BK504 BK513 HB hHeld ⊢
     refine take_ (i := 0) (N := some 15) (v := ?_) (a' := ?_) (bm 7 1) rfl rfl (by kernel_rfl) (fun _ _ _ h => h) (Or.inl ⟨by rfl, ?_⟩) hHeld ?_ ?_
     rotate_left
     ·rintro w' ⟨s0, s1, s2⟩
      go_simp
      with_reducible rfl
     rotate_left
     ·simp only [Act.put, pp_]
      rfl
     refine take_ (i := 1) (N := some 16) (v := ?_) (a' := ?_) (bm 7 3) rfl rfl (by kernel_rfl) (fun _ _ _ h => h) (Or.inl ⟨by rfl, ?_⟩) hHeld ?_ ?_
     rotate_left
     ·rintro w' ⟨s0, s1, s2⟩
      go_simp
      with_reducible rfl
     rotate_left
     ·simp only [Act.put, pp_]
      rfl
     refine one_ (i := 2) (N := some 17) (bm 7 7) rfl rfl (by kernel_rfl) (by decide) (fun K hK => ?_)
     refine goes_ Tryd.func57 (by kernel_rfl) rfl #[.agg #[.int .i64 x514000_1, .bool x514001_1, .slice Ao22 x514002_1.length co22]] (by rfl) rfl rfl (by first | rfl | (simp only [List.map_toArray, List.map_cons, List.map_nil, List.length_drop, List.length_take]; first | done | rfl)) ?_
     with_reducible refine (spec_l3Polite.calls k1 x514000_1 x514001_1 _ _ x514002_1 t514 _ ?side1 ?side2 A18.out).mono ?_
     (case side1 => repeat (first | exact (Kd.V_reads' HO_514002.out).2.2 | (with_reducible refine Kd.C_alloc ?_ _) | (with_reducible refine Kd.C_drewN ?_ _) | (with_reducible refine Kd.C_drew ?_)))
     (case side2 => exact (Kd.V_reads' HO_514002.out).2.1)
     rintro e w23 ⟨v515, rfl, ho0, hb⟩
     refine ⟨_, rfl, ?_⟩
     have n0_ := Aside0.mk (Kd.V_elder' HO_514002.out (Kd.R_base ho0) hb)
     have n1_ := Aside0.mk (Kd.R_lower (Kd.R_newM (M := fun k_ => (w.heap.size ≤ k_)) ho0 (below_size HB.out) (fun k_ h_ => h_)) (below_size HB.out))
     have n2_ := Aside0.mk (blk_below BK503.out hb)
     have n3_ := Aside0.mk (blk_below BK504.out hb)
     have n4_ := Aside0.mk (blk_below BK513.out hb)
     have n5_ := Aside0.mk (below_step HB.out hb)
     clear HO_514002 BK503 BK504 BK513 HB
     have HO_514002 := n0_
     have HO516 := n1_
     have BK503 := n2_
     have BK504 := n3_
     have BK513 := n4_
     have HB := n5_
     clear n0_ n1_ n2_ n3_ n4_ n5_
     (try clear hb)
     (try clear hb2)
     (try clear hk)
     (try clear hi)
     (try clear ho0)
     obtain ⟨Ao24, co24, eo24⟩ := Kd.R_slice HO516.out
     (first | subst eo24 | (injection eo24 with f1_ f2_ f3_; have f4_ := f1_.symm; have f5_ := f3_.symm; clear f1_ f2_ f3_; subst f4_; subst f5_))
     have p517 : 0 ≤ (0 : Int) := (by omega)
     have q517 : 0 < (t514.length : Int) := of_decide_eq_true (by first | (with_reducible assumption) | assumption)
     obtain ⟨ad517, e517, hx517_0⟩ := Kd.at_int (Kd.R_reads' HO516.out).2.2 0 p517 q517
     cases e517
     have qi517 : (0 < t514.length) = True := eq_true (by omega)
     (try rw [show ((0 : Int)).toNat = 0 from rfl] at hx517_0)
     (try rw [Addr.add_zero'] at hx517_0)
     replace p517 := eq_true p517
     replace q517 := eq_true q517
     refine hK.out _ _ ⟨(blk_cell BK513.out 0).trans rfl, (blk_cell BK513.out 1).trans rfl, (blk_cell BK513.out 2).trans rfl⟩ (fun hHeld => ?_)
     clear hK K
     refine norm_ (a' := ?_) ?_ ?_
     rotate_left
     ·show Act.put _ (some 17) _ = _
      simp only [Act.put, pp_]
      rfl
     refine pure_ (i := 3) (N := some 18) (v := ?_) (a' := ?_) (bm 7 15) rfl rfl (by kernel_rfl) (fun _ _ _ h => h) (Or.inl ⟨by rfl, ?_⟩) ?_ ?_
     rotate_left
     ·intro w'
      go_simp
      with_reducible rfl
     rotate_left
     ·simp only [Act.put, pp_]
      rfl
     refine one_ (i := 4) (N := some 19) (bm 7 31) rfl rfl (by kernel_rfl) (by decide) (fun K hK => ?_)
     refine value_ (w1 := ?_) (v := ?_) (by rfl) rfl ?_ ?_
     rotate_left 2
     ·go_simp
      constructor
      ·rfl
      ·rfl
     refine hK.out _ _ ⟨hHeld.1, hHeld.2.1, hHeld.2.2⟩ (fun hHeld => ?_)
     clear hK K
     refine norm_ (a' := ?_) ?_ ?_
     rotate_left
     ·show Act.put _ (some 19) _ = _
      simp only [Act.put, pp_]
      rfl
     refine one_ (i := 5) (N := some 20) (bm 7 63) rfl rfl (by kernel_rfl) (by decide) (fun K hK => ?_)
     refine goes_ Tryd.func58 (by kernel_rfl) rfl #[.agg #[.int .i64 x514000_1, .bool x514001_1, .slice Ao22 x514002_1.length co22], .int .i64 (rd t514 0)] (by rfl) rfl rfl (by first | rfl | (simp only [List.map_toArray, List.map_cons, List.map_nil, List.length_drop, List.length_take]; first | done | rfl)) ?_
     with_reducible refine (spec_l2With.calls k1 x514000_1 x514001_1 _ _ x514002_1 (rd t514 0) t518 t519 t520 _ ?side1 ?side2 A20.out).mono ?_
     (case side1 => repeat (first | exact (Kd.V_reads' HO_514002.out).2.2 | (with_reducible refine Kd.C_alloc ?_ _) | (with_reducible refine Kd.C_drewN ?_ _) | (with_reducible refine Kd.C_drew ?_)))
     (case side2 => exact (Kd.V_reads' HO_514002.out).2.1)
     rintro e w25 ⟨v521, rfl, ho0, hb⟩
     refine ⟨_, rfl, ?_⟩
     have n0_ := Aside0.mk (Kd.V_below HO_514002.out hb)
     have n1_ := Aside0.mk (Kd.R_below HO516.out hb)
     have n2_ := Aside0.mk (Kd.V_lower (Kd.V_mono (ok' := fun k_ => (w.heap.size ≤ k_) ∧ some k_ ≠ (.slice (some ad517) t514.length co24 : Value).ownBlock ∧ k_ ≠ gb503 ∧ k_ ≠ gb504 ∧ k_ ≠ gb513) ho0 (fun k_ hk_ => ⟨(Nat.le_trans (below_size HB.out) hk_), (Kd.fresh' (Kd.R_lt HO516.out) k_ hk_), (Kd.freshB BK503.out k_ hk_), (Kd.freshB BK504.out k_ hk_), (Kd.freshB BK513.out k_ hk_)⟩)) (below_size HB.out))
     have n3_ := Aside0.mk (blk_below BK503.out hb)
     have n4_ := Aside0.mk (blk_below BK504.out hb)
     have n5_ := Aside0.mk (blk_below BK513.out hb)
     have n6_ := Aside0.mk (below_step (by repeat (first | (with_reducible first | exact HB.out | apply below_alloc | apply pw_below_drewN | apply below_drew1 | refine below_set ?_ GE503.out | refine below_set ?_ GE504.out | refine below_set ?_ GE513.out) | exact HB.out)) hb)
     clear HO_514002 HO516 BK503 BK504 BK513 HB
     have HO_514002 := n0_
     have HO516 := n1_
     have HO522 := n2_
     have BK503 := n3_
     have BK504 := n4_
     have BK513 := n5_
     have HB := n6_
     clear n0_ n1_ n2_ n3_ n4_ n5_ n6_
     (try clear hb)
     (try clear hb2)
     (try clear hk)
     (try clear hi)
     (try clear ho0)
     obtain ⟨Ao28, co28, eo28⟩ := Kd.V_slice HO522.out
     (first | subst eo28 | (injection eo28 with f1_ f2_ f3_; have f4_ := f1_.symm; have f5_ := f3_.symm; clear f1_ f2_ f3_; subst f4_; subst f5_))
     refine hK.out _ _ ⟨(blk_cell BK513.out 0).trans rfl, (blk_cell BK513.out 1).trans rfl, (blk_cell BK513.out 2).trans rfl⟩ (fun hHeld => ?_)
     clear hK K
     refine norm_ (a' := ?_) ?_ ?_
     rotate_left
     ·show Act.put _ (some 20) _ = _
      simp only [Act.put, pp_]
      rfl
     refine last_ (i := 6) (N := none) (bm 7 127) rfl rfl (by kernel_rfl) (by decide) (fun K hK => ?_)
     have hs26 : w25.cell? ⟨gb513, 0, none⟩ = some (.int .i64 x514000_1) := (blk_cell BK513.out 0).trans rfl
     have hfs26 := blk_frozen BK513.out 0
     have hns26_0 := NB503_513.out
     have hns26_1 := NB504_513.out
     have hms26_0 := NB513_503.out
     have hms26_1 := NB513_504.out
     have hs27 : w25.cell? ⟨gb513, 1, none⟩ = some (.bool x514001_1) := (blk_cell BK513.out 1).trans rfl
     have hfs27 := blk_frozen BK513.out 1
     have hns27_0 := NB503_513.out
     have hns27_1 := NB504_513.out
     have hms27_0 := NB513_503.out
     have hms27_1 := NB513_504.out
     have hs29 : w25.cell? ⟨gb513, 2, none⟩ = some (.slice Ao22 x514002_1.length co22) := (blk_cell BK513.out 2).trans rfl
     have hfs29 := blk_frozen BK513.out 2
     have hns29_0 := NB503_513.out
     have hns29_1 := NB504_513.out
     have hms29_0 := NB513_503.out
     have hms29_1 := NB513_504.out
     refine skip_ (w1 := ?_) (by rfl) rfl ?_ ?_
     rotate_left
     ·go_simp
      rfl
     refine hK.out _ _ ?_
     clear hK K
     refine done_ (by kernel_rfl) ?_
     try go_wp2
     go_roundg k1
     case measure => have := HK1.out; omega
     case rel => exact ⟨(wrap64 (x1_1 - 1)), (t518), (t519), (t520), (.slice Ao28 t520.length co28), (by first | rfl | (simp; done) | (simp [*]; done)), H', ⟨by have := HK1.out; omega⟩, ⟨by (with_reducible repeat (first | apply Kd.V_alloc | apply Kd.V_drewN | apply Kd.V_drew)); exact Kd.V_mono (Kd.V_far (p := ⟨gb513, 2, none⟩) (Kd.V_far (p := ⟨gb513, 1, none⟩) (Kd.V_far (p := ⟨gb513, 0, none⟩) (Kd.V_mono HO522.out (fun k_ hk => (⟨hk, hk.2.2.2.2⟩ : _ ∧ k_ ≠ gb513))) (fun _ hk => hk.2) (.int .i64 t518)) (fun _ hk => hk.2) (.bool t519)) (fun _ hk => hk.2) (.slice Ao28 t520.length co28)) (fun _ hk => ⟨hk.1.1, ⟨hk.1.2.2.1, ⟨hk.1.2.2.2.1, hk.1.2.2.2.2⟩⟩⟩)⟩, ⟨by (with_reducible repeat (first | refine blk_drewN ?_ _ | refine blk_drew ?_ | refine blk_alloc ?_ _)); refine blk_far ?_ NB503_513.out _; (with_reducible repeat (first | refine blk_drewN ?_ _ | refine blk_drew ?_ | refine blk_alloc ?_ _)); refine blk_far ?_ NB503_513.out _; (with_reducible repeat (first | refine blk_drewN ?_ _ | refine blk_drew ?_ | refine blk_alloc ?_ _)); refine blk_far ?_ NB503_513.out _; (with_reducible repeat (first | refine blk_drewN ?_ _ | refine blk_drew ?_ | refine blk_alloc ?_ _)); exact BK503.out⟩, ⟨by (with_reducible repeat (first | refine blk_drewN ?_ _ | refine blk_drew ?_ | refine blk_alloc ?_ _)); refine blk_far ?_ NB504_513.out _; (with_reducible repeat (first | refine blk_drewN ?_ _ | refine blk_drew ?_ | refine blk_alloc ?_ _)); refine blk_far ?_ NB504_513.out _; (with_reducible repeat (first | refine blk_drewN ?_ _ | refine blk_drew ?_ | refine blk_alloc ?_ _)); refine blk_far ?_ NB504_513.out _; (with_reducible repeat (first | refine blk_drewN ?_ _ | refine blk_drew ?_ | refine blk_alloc ?_ _)); exact BK504.out⟩, ⟨by (with_reducible repeat (first | refine blk_drewN ?_ _ | refine blk_drew ?_ | refine blk_alloc ?_ _)); refine blk_put (cs := #[.int .i64 t518, .bool t519, .slice Ao22 x514002_1.length co22]) ?_ 2 _ rfl; (with_reducible repeat (first | refine blk_drewN ?_ _ | refine blk_drew ?_ | refine blk_alloc ?_ _)); refine blk_put (cs := #[.int .i64 t518, .bool x514001_1, .slice Ao22 x514002_1.length co22]) ?_ 1 _ rfl; (with_reducible repeat (first | refine blk_drewN ?_ _ | refine blk_drew ?_ | refine blk_alloc ?_ _)); refine blk_put (cs := #[.int .i64 x514000_1, .bool x514001_1, .slice Ao22 x514002_1.length co22]) ?_ 0 _ rfl; (with_reducible repeat (first | refine blk_drewN ?_ _ | refine blk_drew ?_ | refine blk_alloc ?_ _)); exact BK513.out⟩, ⟨by repeat (first | (with_reducible first | exact HB.out | apply below_alloc | apply pw_below_drewN | apply below_drew1 | refine below_set ?_ GE503.out | refine below_set ?_ GE504.out | refine below_set ?_ GE513.out) | exact HB.out)⟩⟩
    ·rw [if_neg c19] at H
     exact absurd H (by simp)
   ·rw [if_neg c17] at H
    have c17b0 : decide (0 < x1_1) = false := decide_eq_false c17
    clear c17
    simp only [Option.some.injEq, Prod.mk.injEq] at H
    obtain ⟨rfl, rfl, rfl⟩ := H
    have hnb30 := NB513_503.out
    have hnc30 := NB503_513.out
    have hnb31 := NB513_504.out
    have hnc31 := NB504_513.out
    have hcz32_0 : wr.cell? ⟨gb513, 0, none⟩ = some (.int .i64 x514000_1) := (blk_cell BK513.out 0).trans rfl
    have hcz32_1 : wr.cell? ⟨gb513, 1, none⟩ = some (.bool x514001_1) := (blk_cell BK513.out 1).trans rfl
    have hcz32_2 : wr.cell? ⟨gb513, 2, none⟩ = some (u514002) := (blk_cell BK513.out 2).trans rfl
    have hfz32_0 := blk_frozen BK513.out 0
    have hfz32_1 := blk_frozen BK513.out 1
    have hfz32_2 := blk_frozen BK513.out 2
    have hnb33 := NB504_503.out
    have hnc33 := NB503_504.out
    have hcz34_0 : wr.cell? ⟨gb504, 0, none⟩ = some (.int .i64 0) := (blk_cell BK504.out 0).trans rfl
    have hcz34_1 : wr.cell? ⟨gb504, 1, none⟩ = some (.bool false) := (blk_cell BK504.out 1).trans rfl
    have hcz34_2 : wr.cell? ⟨gb504, 2, none⟩ = some (.slice none 0 0) := (blk_cell BK504.out 2).trans rfl
    have hfz34_0 := blk_frozen BK504.out 0
    have hfz34_1 := blk_frozen BK504.out 1
    have hfz34_2 := blk_frozen BK504.out 2
    obtain ⟨Ao35, co35, eo35⟩ := Kd.V_slice HO_514002.out
    subst eo35
    go_wp2
    refine bodyPost_ret (results_cell_row rfl _ _ gb504 26 #[.int .i64 x514000_1, .bool x514001_1, .slice Ao35 x514002_1.length co35] (0, 0) _ rfl (by (with_reducible repeat (first | refine blk_drewN ?_ _ | refine blk_drew ?_ | refine blk_alloc ?_ _)); refine blk_put (cs := #[.int .i64 x514000_1, .bool x514001_1, .slice none 0 0]) ?_ 2 _ rfl; (with_reducible repeat (first | refine blk_drewN ?_ _ | refine blk_drew ?_ | refine blk_alloc ?_ _)); refine blk_put (cs := #[.int .i64 x514000_1, .bool false, .slice none 0 0]) ?_ 1 _ rfl; (with_reducible repeat (first | refine blk_drewN ?_ _ | refine blk_drew ?_ | refine blk_alloc ?_ _)); refine blk_put (cs := #[.int .i64 0, .bool false, .slice none 0 0]) ?_ 0 _ rfl; (with_reducible repeat (first | refine blk_drewN ?_ _ | refine blk_drew ?_ | refine blk_alloc ?_ _)); exact BK504.out) Tryd.underlying26 rfl (by kernel_rfl)) rfl ?_
    exact ⟨_, by first | rfl | (simp [errW_none, errW_some] <;> rfl) | (simp [*, errW_none, errW_some] <;> rfl), by (with_reducible repeat (first | apply Kd.V_alloc | apply Kd.V_drewN | apply Kd.V_drew)); exact Kd.V_mono (Kd.V_far (p := ⟨gb504, 2, none⟩) (Kd.V_far (p := ⟨gb504, 1, none⟩) (Kd.V_far (p := ⟨gb504, 0, none⟩) (Kd.V_mono HO_514002.out (fun k_ hk => (⟨hk, hk.2.2.1⟩ : _ ∧ k_ ≠ gb504))) (fun _ hk => hk.2) (.int .i64 x514000_1)) (fun _ hk => hk.2) (.bool x514001_1)) (fun _ hk => hk.2) (.slice Ao35 x514002_1.length co35)) (fun _ hk => hk.1.1), by repeat (first | (with_reducible first | exact HB.out | apply below_alloc | apply pw_below_drewN | apply below_drew1 | refine below_set ?_ GE503.out | refine below_set ?_ GE504.out | refine below_set ?_ GE513.out) | exact HB.out)⟩

/-! ### spec_PoliteSpread: function 8 -/
def spec_PoliteSpread.j0 : Nat → Int → Bool → Int → Bool → List Int → Option (Int × Bool)
 | 0, _, _, _, _, _ => none
 | k + 1, x1, x17, x524000, x524001, x524002 => if x17 = true then (some (0, false)) else ((spec_l3After.f k x524000 x524001 x524002 x1).bind fun bt525 => ((spec_l3Least.f k bt525.1 bt525.2.1 bt525.2.2).bind fun t530 => (some (t530, true))))
def spec_PoliteSpread.f (k : Nat) (a0_0 : Int) (a0_1 : Bool) (l0_2 : List Int) (a1 : Int) : Option (Int × Bool) := (spec_l3Ask.f k a0_0 a0_1 l0_2 a1).bind fun t524 => (if t524 = true then (spec_PoliteSpread.j0 k a1 (decide ((wrap64 ((l0_2.length : Int) + a1)) < 2)) a0_0 a0_1 l0_2) else (spec_PoliteSpread.j0 k a1 true a0_0 a0_1 l0_2))
set_option maxHeartbeats 8000000 in
set_option maxRecDepth 100000 in
theorem spec_PoliteSpread.calls (k : Nat) (a0_0 : Int) (a0_1 : Bool) (A0_2 : Option Addr) (c0_2 : Nat) (l0_2 : List Int) (a1 : Int) (r1 : Int) (r2 : Bool) (w : World) (hr0_2 : Kd.C (Kd.int .i64) w A0_2 l0_2.length l0_2) (hc0_2 : l0_2.length ≤ c0_2) (h : spec_PoliteSpread.f k a0_0 a0_1 l0_2 a1 = some (r1, r2)) :
  Calls Tryd.prog 8 #[.agg #[.int .i64 a0_0, .bool a0_1, .slice A0_2 l0_2.length c0_2], .int .i64 a1] w fun e w' => e = .returned (.tuple #[.int .i64 r1, .bool r2]) ∧ Below w.heap.size w w' := by
 have hu26 := Tryd.underlying26
 have HR0_2 := Aside0.mk hr0_2
 have HC0_2 := Aside0.mk hc0_2
 clear hr0_2 hc0_2
 have HB := Aside0.mk (Below.refl w.heap.size w)
 have H : ((spec_l3Ask.f k a0_0 a0_1 l0_2 a1).bind fun t524 => (if t524 = true then (spec_PoliteSpread.j0 k a1 (decide ((wrap64 ((l0_2.length : Int) + a1)) < 2)) a0_0 a0_1 l0_2) else (spec_PoliteSpread.j0 k a1 true a0_0 a0_1 l0_2))) = some (r1, r2) := h
 clear h
 have HC3 := Aside0.mk H
 clear H
 go_enter Tryd.func8, Tryd.ntmps8
 go_upto_region 1 with (first | ((with_reducible refine gate_dst (N := 2) rfl ?_); (try (refine gate_guard (by rfl) ?_; dsimp only)); refine box_event ?hg (N := 2) ?hd (cs := #[.int .i64 a0_0, .bool a0_1, .slice A0_2 l0_2.length c0_2]) (t := 26) ?hr ?_; (case hd => rfl); (case hg => rfl); (case hr => first | (go_simp; done) | (go_simp; rfl)); intro gb523 hg w4 hbox hb; have n0_ := Aside0.mk (below_step HB.out hb); have n1_ := Aside0.mk (hbox); have n2_ := Aside0.mk ((by rw [hg]; exact (below_size HB.out) : w.heap.size ≤ gb523)); have n3_ := Aside0.mk ((by rw [hg]; exact (below_size HB.out) : w.heap.size ≤ gb523)); clear HB; have HB := n0_; have BK523 := n1_; have GW523 := n2_; have GE523 := n3_; clear n0_ n1_ n2_ n3_ hb hbox hg))
 (try simp only [Act.put, List.setIfInBounds_toArray, List.set_cons_zero, List.set_cons_succ])
 go_cut [17] (fun v17 wc => ∃ (kq : Nat) (x17_2 : Bool), v17 = .bool x17_2 ∧ Aside0 (spec_PoliteSpread.j0 kq a1 x17_2 a0_0 a0_1 l0_2 = some (r1, r2)) ∧ Aside0 (kq ≤ k) ∧ Aside0 (wc.heap[gb523]? = some (.cells #[.int .i64 a0_0, .bool a0_1, (.slice A0_2 l0_2.length c0_2)] 26 (0, 0))) ∧ Aside0 (Below w.heap.size w wc))
 case first =>
  have H := HC3.out
  clear HC3
  replace H := Option.bind_eq_some_iff.mp H
  obtain ⟨t524, A50, H⟩ := H
  try dsimp only at H
  have A5 := Aside0.mk A50
  clear A50
  by_cases c6 : t524 = true
  ·subst c6
   rw [if_pos rfl] at H
   have H' := Aside0.mk H
   clear H
   have hcz7_0 : w4.cell? ⟨gb523, 0, none⟩ = some (.int .i64 a0_0) := (blk_cell BK523.out 0).trans rfl
   have hcz7_1 : w4.cell? ⟨gb523, 1, none⟩ = some (.bool a0_1) := (blk_cell BK523.out 1).trans rfl
   have hcz7_2 : w4.cell? ⟨gb523, 2, none⟩ = some (.slice A0_2 l0_2.length c0_2) := (blk_cell BK523.out 2).trans rfl
   have hfz7_0 := blk_frozen BK523.out 0
   have hfz7_1 := blk_frozen BK523.out 1
   have hfz7_2 := blk_frozen BK523.out 2
   go_wp2_with (first | (go_at_call 35; (with_reducible refine (spec_l3Ask.calls k a0_0 a0_1 _ _ l0_2 a1 true _ ?side1 ?side2 A5.out).mono ?_); (case side1 => exact (Kd.C_below HR0_2.out HB.out)); (case side2 => exact HC0_2.out); rintro e w8 ⟨rfl, hb⟩; have n0_ := Aside0.mk (blk_below BK523.out hb); have n1_ := Aside0.mk (below_step HB.out hb); clear BK523 HB; have BK523 := n0_; have HB := n1_; clear n0_ n1_; (try clear hb); (try clear hb2); (try clear hk); (try clear hi); have hcz9_0 : w8.cell? ⟨gb523, 0, none⟩ = some (.int .i64 a0_0) := (blk_cell BK523.out 0).trans rfl; have hcz9_1 : w8.cell? ⟨gb523, 1, none⟩ = some (.bool a0_1) := (blk_cell BK523.out 1).trans rfl; have hcz9_2 : w8.cell? ⟨gb523, 2, none⟩ = some (.slice A0_2 l0_2.length c0_2) := (blk_cell BK523.out 2).trans rfl; have hfz9_0 := blk_frozen BK523.out 0; have hfz9_1 := blk_frozen BK523.out 1; have hfz9_2 := blk_frozen BK523.out 2))
   go_meet
   case rel => exact ⟨_, (decide ((wrap64 ((l0_2.length : Int) + a1)) < 2)), (by first | rfl | (simp; done) | (simp [*]; done)), H', ⟨by first | omega | exact Nat.le_refl _⟩, ⟨BK523.out⟩, ⟨HB.out⟩⟩
  ·replace c6 := Bool.eq_false_iff.mpr c6
   subst c6
   rw [if_neg (show ¬ (false = true) by decide)] at H
   have H' := Aside0.mk H
   clear H
   have hcz10_0 : w4.cell? ⟨gb523, 0, none⟩ = some (.int .i64 a0_0) := (blk_cell BK523.out 0).trans rfl
   have hcz10_1 : w4.cell? ⟨gb523, 1, none⟩ = some (.bool a0_1) := (blk_cell BK523.out 1).trans rfl
   have hcz10_2 : w4.cell? ⟨gb523, 2, none⟩ = some (.slice A0_2 l0_2.length c0_2) := (blk_cell BK523.out 2).trans rfl
   have hfz10_0 := blk_frozen BK523.out 0
   have hfz10_1 := blk_frozen BK523.out 1
   have hfz10_2 := blk_frozen BK523.out 2
   go_wp2_with (first | (go_at_call 35; (with_reducible refine (spec_l3Ask.calls k a0_0 a0_1 _ _ l0_2 a1 false _ ?side1 ?side2 A5.out).mono ?_); (case side1 => exact (Kd.C_below HR0_2.out HB.out)); (case side2 => exact HC0_2.out); rintro e w11 ⟨rfl, hb⟩; have n0_ := Aside0.mk (blk_below BK523.out hb); have n1_ := Aside0.mk (below_step HB.out hb); clear BK523 HB; have BK523 := n0_; have HB := n1_; clear n0_ n1_; (try clear hb); (try clear hb2); (try clear hk); (try clear hi)))
   go_meet
   case rel => exact ⟨_, (true), (by first | rfl | (simp; done) | (simp [*]; done)), H', ⟨by first | omega | exact Nat.le_refl _⟩, ⟨BK523.out⟩, ⟨HB.out⟩⟩
 case rest =>
  clear HC3
  try clear p2
  try clear c3
  try clear c6
  try clear p6
  try clear c8
  try clear hcz10_0
  try clear hcz10_1
  try clear hcz10_2
  try clear hcz7_0
  try clear hcz7_1
  try clear hcz7_2
  try clear hcz9_0
  try clear hcz9_1
  try clear hcz9_2
  try clear hfz10_0
  try clear hfz10_1
  try clear hfz10_2
  try clear hfz7_0
  try clear hfz7_1
  try clear hfz7_2
  try clear hfz9_0
  try clear hfz9_1
  try clear hfz9_2
  obtain ⟨kq, x17_2, rfl, HA, HJ2, BK523, HB⟩ := hcut
  cases kq with
  | zero => exact absurd HA.out (by simp [spec_PoliteSpread.j0])
  | succ kj2 =>
   have H := HA.out
   clear HA
   simp only [spec_PoliteSpread.j0] at H
   by_cases c12 : x17_2 = true
   ·subst c12
    rw [if_pos rfl] at H
    simp only [Option.some.injEq, Prod.mk.injEq] at H
    obtain ⟨rfl, rfl⟩ := H
    go_wp2
    go_ret2
    exact ⟨by first | rfl | (simp [*]; done), HB.out⟩
   ·replace c12 := Bool.eq_false_iff.mpr c12
    subst c12
    rw [if_neg (show ¬ (false = true) by decide)] at H
    replace H := Option.bind_eq_some_iff.mp H
    obtain ⟨⟨t525, t526, t527⟩, A130, H⟩ := H
    try dsimp only at H
    have A13 := Aside0.mk A130
    clear A130
    replace H := Option.bind_eq_some_iff.mp H
    obtain ⟨t530, A140, H⟩ := H
    try dsimp only at H
    have A14 := Aside0.mk A140
    clear A140
    simp only [Option.some.injEq, Prod.mk.injEq] at H
    obtain ⟨rfl, rfl⟩ := H
    have hcz15_0 : wc.cell? ⟨gb523, 0, none⟩ = some (.int .i64 a0_0) := (blk_cell BK523.out 0).trans rfl
    have hcz15_1 : wc.cell? ⟨gb523, 1, none⟩ = some (.bool a0_1) := (blk_cell BK523.out 1).trans rfl
    have hcz15_2 : wc.cell? ⟨gb523, 2, none⟩ = some (.slice A0_2 l0_2.length c0_2) := (blk_cell BK523.out 2).trans rfl
    have hfz15_0 := blk_frozen BK523.out 0
    have hfz15_1 := blk_frozen BK523.out 1
    have hfz15_2 := blk_frozen BK523.out 2
    go_wp2_with (first | (go_at_call 37; (with_reducible refine (spec_l3After.calls kj2 a0_0 a0_1 _ _ l0_2 a1 t525 t526 t527 _ ?side1 ?side2 A13.out).mono ?_); (case side1 => exact (Kd.C_below HR0_2.out HB.out)); (case side2 => exact HC0_2.out); rintro e w16 ⟨v528, rfl, ho0, hb⟩; have HO529 := Aside0.mk (Kd.V_lower (Kd.V_mono (ok' := fun k_ => k_ ≠ gb523) ho0 (fun k_ hk_ => (Kd.freshB BK523.out k_ hk_))) (below_size HB.out)); replace BK523 := Aside0.mk (blk_below BK523.out hb); replace HB := Aside0.mk (below_step HB.out hb); obtain ⟨Ao17, co17, eo17⟩ := Kd.V_slice HO529.out; subst eo17) | (go_at_call 36; (with_reducible refine (spec_l3Least.calls kj2 t525 t526 _ _ t527 t530 _ ?side1 ?side2 A14.out).mono ?_); (case side1 => repeat (first | exact (Kd.V_reads' HO529.out).2.2 | (with_reducible refine Kd.C_alloc ?_ _) | (with_reducible refine Kd.C_drewN ?_ _) | (with_reducible refine Kd.C_drew ?_))); (case side2 => exact (Kd.V_reads' HO529.out).2.1); rintro e w18 ⟨rfl, hb⟩; replace HO529 := Aside0.mk (Kd.V_below HO529.out hb); replace BK523 := Aside0.mk (blk_below BK523.out hb); replace HB := Aside0.mk (below_step HB.out hb); (try clear hb); (try clear hb2); (try clear hk); (try clear hi)))
    go_ret2
    exact ⟨by first | rfl | (simp [*]; done), HB.out⟩

end Go.Proofs.YtaebbgkoaaigbaaDoor.PFnSpread
