/- Proved: each Go function named here, called, comes to the answer of the Lean function beside it. Conditions: those that stand in each theorem. (Printed by this session's own turned copy of a printing program.) -/
import Derived.Test.YtaebbgkoaaigbaaDoorZFnPolitePFnPolitex0
import Derived.Test.YtaebbgkoaaigbaaDoorZFnPolitePFnPolitex4
import Derived.Test.YtaebbgkoaaigbaaDoorZFnPolitePFnPolitex8
import Derived.Test.YtaebbgkoaaigbaaDoorZFnPolitePFnPolitex12
namespace Go.Proofs.YtaebbgkoaaigbaaDoor.PFnPolite
open Go.RowKit Go.Proofs.YtaebbgkoaaigbaaDoorW.PrintWords Go.Proofs.YtaebbgkoaaigbaaDoorW.PrintLast Go.Proofs.YtaebbgkoaaigbaaDoorW.PrintMore
attribute [local go_sem] max2_int min2_int max_two min_two max_three min_three max_four min_four   -- for this text's walks alone
set_option linter.unusedVariables false
set_option linter.unusedSimpArgs false

/-! ### spec_SettleRow: function 29 -/
def spec_SettleRow.f (k : Nat) (a0_0 : Int) (a0_1 : Bool) (l0_2 : List Int) : Option (Int × Bool × List Int × Int × Bool) := (spec_l2Row.f k a0_0 a0_1 l0_2).bind fun t575 => (if t575 = true then ((spec_l1Own.f l0_2).bind fun t576 => ((spec_l2Made.f a0_0 a0_1 l0_2 t576).bind fun bt579 => ((spec_l3Settle.f k bt579.1 bt579.2.1 bt579.2.2).bind fun bt584 => (some (bt584.1, bt584.2.1, bt584.2.2.1, bt584.2.2.2, true))))) else (some (0, false, ([] : List Int), 0, false)))
def spec_SettleRow.T3 : Bool × List (List Nat × List Nat) := (true, [([], []), ([], []), ([1], [1]), ([2], [2]), ([0, 3, 3], [0, 3]), ([4, 4], [4]), ([5], [5]), ([6], [6]), ([6], [6]), ([], []), ([9, 7, 5, 0, 1, 2, 3, 4, 5, 6, 7, 9], [7, 9]), ([8, 10, 0, 1, 2, 3, 4, 5, 6, 7, 8, 9, 10], [8])])
def spec_SettleRow.B3 : List Nat := [0, 0, 2, 6, 15, 31, 63, 127, 127, 0, 767, 2047]
theorem spec_SettleRow.tab3 : rtab .any (opsOf Tryd.f29 3) = spec_SettleRow.T3 := by kernel_rfl
theorem spec_SettleRow.bits3 : waitsOk spec_SettleRow.T3.2 spec_SettleRow.B3 = true := by kernel_rfl
set_option maxHeartbeats 8000000 in
set_option maxRecDepth 100000 in
theorem spec_SettleRow.calls (k : Nat) (a0_0 : Int) (a0_1 : Bool) (A0_2 : Option Addr) (c0_2 : Nat) (l0_2 : List Int) (r1 : Int) (r2 : Bool) (r3 : List Int) (r4 : Int) (r5 : Bool) (w : World) (hr0_2 : Kd.C (Kd.int .i64) w A0_2 l0_2.length l0_2) (hc0_2 : l0_2.length ≤ c0_2) (h : spec_SettleRow.f k a0_0 a0_1 l0_2 = some (r1, r2, r3, r4, r5)) :
  Calls Tryd.prog 29 #[.agg #[.int .i64 a0_0, .bool a0_1, .slice A0_2 l0_2.length c0_2]] w fun e w' => ∃ v2_ : Value, e = .returned (.tuple #[.agg #[.int .i64 r1, .bool r2, v2_], .int .i64 r4, .bool r5]) ∧ Kd.V (Kd.int .i64) 3 w' w.heap.size (fun k_ => (w.heap.size ≤ k_)) v2_ r3 ∧ Below w.heap.size w w' := by
 have hu26 := Tryd.underlying26
 have HR0_2 := Aside0.mk hr0_2
 have HC0_2 := Aside0.mk hc0_2
 clear hr0_2 hc0_2
 have HB := Aside0.mk (Below.refl w.heap.size w)
 have H : ((spec_l2Row.f k a0_0 a0_1 l0_2).bind fun t575 => (if t575 = true then ((spec_l1Own.f l0_2).bind fun t576 => ((spec_l2Made.f a0_0 a0_1 l0_2 t576).bind fun bt579 => ((spec_l3Settle.f k bt579.1 bt579.2.1 bt579.2.2).bind fun bt584 => (some (bt584.1, bt584.2.1, bt584.2.2.1, bt584.2.2.2, true))))) else (some (0, false, ([] : List Int), 0, false)))) = some (r1, r2, r3, r4, r5) := h
 clear h
 replace H := Option.bind_eq_some_iff.mp H
 obtain ⟨t575, A20, H⟩ := H
 try dsimp only at H
 have A2 := Aside0.mk A20
 clear A20
 by_cases c3 : t575 = true
 ·subst c3
  rw [if_pos rfl] at H
  replace H := Option.bind_eq_some_iff.mp H
  obtain ⟨t576, A40, H⟩ := H
  try dsimp only at H
  have A4 := Aside0.mk A40
  clear A40
  replace H := Option.bind_eq_some_iff.mp H
  obtain ⟨⟨t579, t580, t581⟩, A50, H⟩ := H
  try dsimp only at H
  have A5 := Aside0.mk A50
  clear A50
  replace H := Option.bind_eq_some_iff.mp H
  obtain ⟨⟨t584, t585, t586, t589⟩, A60, H⟩ := H
  try dsimp only at H
  have A6 := Aside0.mk A60
  clear A60
  simp only [Option.some.injEq, Prod.mk.injEq] at H
  obtain ⟨rfl, rfl, rfl, rfl, rfl⟩ := H
  go_enter Tryd.func29, Tryd.ntmps29
  try go_wp2_with (first | ((with_reducible refine gate_dst (N := 1) rfl ?_); refine box_event ?hg (N := 1) ?hd (cs := #[.int .i64 a0_0, .bool a0_1, .slice A0_2 l0_2.length c0_2]) (t := 26) ?hr ?_; (case hd => rfl); (case hg => rfl); (case hr => first | (go_simp; done) | (go_simp; rfl)); intro gb573 hg w7 hbox hb; have n0_ := Aside0.mk (below_step HB.out hb); have n1_ := Aside0.mk (hbox); have n2_ := Aside0.mk ((by rw [hg]; exact (below_size HB.out) : w.heap.size ≤ gb573)); have n3_ := Aside0.mk ((by rw [hg]; exact (below_size HB.out) : w.heap.size ≤ gb573)); clear HB; have HB := n0_; have BK573 := n1_; have GW573 := n2_; have GE573 := n3_; clear n0_ n1_ n2_ n3_ hb hbox hg) | ((with_reducible refine gate_dst (N := 2) rfl ?_); refine box_event ?hg (N := 2) ?hd (cs := #[.int .i64 0, .bool false, .slice none 0 0]) (t := 26) ?hr ?_; (case hd => rfl); (case hg => rfl); (case hr => first | (go_simp; done) | (go_simp; rfl)); intro gb574 hg w8 hbox hb; have n0_ := Aside0.mk (blk_below BK573.out hb); have n1_ := Aside0.mk (below_step HB.out hb); have n2_ := Aside0.mk (hbox); have n3_ := Aside0.mk ((by rw [hg]; exact (below_size HB.out) : w.heap.size ≤ gb574)); have n4_ := Aside0.mk ((by rw [hg]; exact (below_size HB.out) : w.heap.size ≤ gb574)); have n5_ := Aside0.mk ((by rw [hg]; exact Nat.ne_of_lt (blk_lt BK573.out) : gb573 ≠ gb574)); have n6_ := Aside0.mk ((by rw [hg]; exact Nat.ne_of_gt (blk_lt BK573.out) : gb574 ≠ gb573)); clear BK573 HB; have BK573 := n0_; have HB := n1_; have BK574 := n2_; have GW574 := n3_; have GE574 := n4_; have NB573_574 := n5_; have NB574_573 := n6_; clear n0_ n1_ n2_ n3_ n4_ n5_ n6_ hb hbox hg; have hnb9 := NB573_574.out; have hnc9 := NB574_573.out; have hcz10_0 : w8.cell? ⟨gb573, 0, none⟩ = some (.int .i64 a0_0) := (blk_cell BK573.out 0).trans rfl; have hcz10_1 : w8.cell? ⟨gb573, 1, none⟩ = some (.bool a0_1) := (blk_cell BK573.out 1).trans rfl; have hcz10_2 : w8.cell? ⟨gb573, 2, none⟩ = some (.slice A0_2 l0_2.length c0_2) := (blk_cell BK573.out 2).trans rfl; have hfz10_0 := blk_frozen BK573.out 0; have hfz10_1 := blk_frozen BK573.out 1; have hfz10_2 := blk_frozen BK573.out 2) | ((with_reducible refine gate_callee (f := 47) rfl ?_); refine goesL_ (some 8) rfl rfl Tryd.func47 (by kernel_rfl) rfl #[.agg #[.int .i64 a0_0, .bool a0_1, .slice A0_2 l0_2.length c0_2]] rfl (by first | rfl | (simp only [List.map_toArray, List.map_cons, List.map_nil, List.length_drop, List.length_take]; first | done | rfl)) ?_; (with_reducible refine (spec_l2Row.calls k a0_0 a0_1 _ _ l0_2 true _ ?side1 ?side2 A2.out).mono ?_); (case side1 => exact (Kd.C_below HR0_2.out HB.out)); (case side2 => exact HC0_2.out); rintro e w11 ⟨rfl, hb⟩; refine ⟨_, rfl, ?_⟩; have n0_ := Aside0.mk (blk_below BK573.out hb); have n1_ := Aside0.mk (blk_below BK574.out hb); have n2_ := Aside0.mk (below_step HB.out hb); clear BK573 BK574 HB; have BK573 := n0_; have BK574 := n1_; have HB := n2_; clear n0_ n1_ n2_; (try clear hb); (try clear hb2); (try clear hk); (try clear hi)))
  have n0_ := Aside0.mk (blk_drew BK573.out)
  have n1_ := Aside0.mk (blk_drew BK574.out)
  have n2_ := Aside0.mk (below_drew1 HB.out)
  clear BK573 BK574 HB
  have BK573 := n0_
  have BK574 := n1_
  have HB := n2_
  clear n0_ n1_ n2_
  refine start_ (n := 12) (S := fun w' => w'.cell? ⟨gb573, 0, none⟩ = some (.int .i64 a0_0) ∧ w'.cell? ⟨gb573, 1, none⟩ = some (.bool a0_1) ∧ w'.cell? ⟨gb573, 2, none⟩ = some (.slice A0_2 l0_2.length c0_2)) (ds := []) #[false, false, false, false, false, false, false, false, false, false, false, false] (by kernel_rfl) rfl rfl ⟨(blk_cell BK573.out 0).trans rfl, (blk_cell BK573.out 1).trans rfl, (blk_cell BK573.out 2).trans rfl⟩ (fun hHeld => ?_); refine with_tabW spec_SettleRow.tab3 spec_SettleRow.bits3 (fun HT_ HW_ => ?_)
  generalize w11.drew = w12 at BK573 BK574 HB hHeld ⊢
  refine pure_ (i := 1) (N := some 13) (v := ?_) (a' := ?_) #[false, true, false, false, false, false, false, false, false, false, false, false] rfl rfl (any_of HT_.out (by kernel_rfl)) (fun _ _ _ h => h) (Or.inl ⟨by rfl, ?_⟩) ?_ ?_
  rotate_left
  ·intro w'
   go_simp
   with_reducible rfl
  rotate_left
  ·simp only [Act.put, List.setIfInBounds_toArray, List.set_cons_zero, List.set_cons_succ, i64_w, i32_w]
   rfl
  refine take_ (i := 0) (N := some 12) (v := ?_) (a' := ?_) #[true, true, false, false, false, false, false, false, false, false, false, false] rfl rfl (take_ofW HT_.out HW_.out (by kernel_rfl)) (fun _ _ _ h => h) (Or.inl ⟨by rfl, ?_⟩) hHeld ?_ ?_
  rotate_left
  ·rintro w' ⟨s0, s1, s2⟩
   go_simp
   with_reducible rfl
  rotate_left
  ·simp only [Act.put, List.setIfInBounds_toArray, List.set_cons_zero, List.set_cons_succ, i64_w, i32_w]
   rfl
  refine take_ (i := 2) (N := some 14) (v := ?_) (a' := ?_) #[true, true, true, false, false, false, false, false, false, false, false, false] rfl rfl (take_ofW HT_.out HW_.out (by kernel_rfl)) (fun _ _ _ h => h) (Or.inl ⟨by rfl, ?_⟩) hHeld ?_ ?_
  rotate_left
  ·rintro w' ⟨s0, s1, s2⟩
   go_simp
   with_reducible rfl
  rotate_left
  ·simp only [Act.put, List.setIfInBounds_toArray, List.set_cons_zero, List.set_cons_succ, i64_w, i32_w]
   rfl
  refine join_ (σ := Value × Value × Value × Nat) 2 #[true, true, true, true, true, true, true, true, true, true, false, false] (fun s_ => [(15, s_.1), (16, .agg #[.int .i64 t579, .bool t580, s_.2.1]), (17, .tuple #[.agg #[.int .i64 t584, .bool t585, s_.2.2.1], .int .i64 t589]), (5, .pointer (some ⟨s_.2.2.2, 0, none⟩)), (11, .tuple #[.agg #[.int .i64 t584, .bool t585, s_.2.2.1], .int .i64 t589]), (18, .agg #[.int .i64 t584, .bool t585, s_.2.2.1]), (19, .int .i64 t589)]) (fun s_ w' => (w'.cell? ⟨gb573, 0, none⟩ = some (.int .i64 a0_0) ∧ w'.cell? ⟨gb573, 1, none⟩ = some (.bool a0_1) ∧ w'.cell? ⟨gb573, 2, none⟩ = some (.slice A0_2 l0_2.length c0_2)) ∧ (Kd.R (Kd.int .i64) 3 w' w.heap.size (fun k_ => (w.heap.size ≤ k_)) s_.1 t576) ∧ (Kd.V (Kd.int .i64) 3 w' w.heap.size (fun k_ => (w.heap.size ≤ k_) ∧ k_ ≠ gb573 ∧ k_ ≠ gb574 ∧ k_ ≠ s_.2.2.2) s_.2.1 t581) ∧ (Kd.V (Kd.int .i64) 3 w' w.heap.size (fun k_ => (w.heap.size ≤ k_) ∧ k_ ≠ gb573 ∧ k_ ≠ gb574 ∧ k_ ≠ s_.2.2.2) s_.2.2.1 t586) ∧ (w'.heap[gb573]? = some (.cells #[.int .i64 a0_0, .bool a0_1, .slice A0_2 l0_2.length c0_2] 26 (0, 0))) ∧ (w'.heap[gb574]? = some (.cells #[.int .i64 0, .bool false, .slice none 0 0] 26 (0, 0))) ∧ (w'.heap[s_.2.2.2]? = some (.cells #[.int .i64 0, .bool false, .slice none 0 0] 26 (0, 0))) ∧ (w.heap.size ≤ s_.2.2.2) ∧ (w.heap.size ≤ s_.2.2.2) ∧ (gb573 ≠ s_.2.2.2) ∧ (s_.2.2.2 ≠ gb573) ∧ (gb574 ≠ s_.2.2.2) ∧ (s_.2.2.2 ≠ gb574) ∧ (Below w.heap.size w w')) ?_ ?_
  rotate_left
  ·intro hCont
   refine two_ (i := 3) (j := 9) (Ni := some 15) (Nj := some 5) #[true, true, true, true, false, false, false, false, false, false, false, false] #[true, true, true, false, false, false, false, false, false, true, false, false] rfl rfl rfl rfl (two_of HT_.out (by kernel_rfl)) (by decide) (by decide) (fun K hK => ?_) (fun K hK => ?_)
   ·skip
    refine goes_ Tryd.func62 (by kernel_rfl) rfl #[.slice A0_2 l0_2.length c0_2] (by rfl) rfl rfl (by first | rfl | (simp only [List.map_toArray, List.map_cons, List.map_nil, List.length_drop, List.length_take]; first | done | rfl)) ?_
    with_reducible refine (spec_l1Own.calls _ _ l0_2 t576 _ ?side1 ?side2 A4.out).mono ?_
    (case side1 => exact (Kd.C_below HR0_2.out HB.out))
    (case side2 => exact HC0_2.out)
    rintro e w13 ⟨v577, rfl, ho0, hb⟩
    refine ⟨_, rfl, ?_⟩
    have n0_ := Aside0.mk (Kd.R_lower (Kd.R_newM (M := fun k_ => (w.heap.size ≤ k_)) ho0 (below_size HB.out) (fun k_ h_ => h_)) (below_size HB.out))
    have n1_ := Aside0.mk (blk_below BK573.out hb)
    have n2_ := Aside0.mk (blk_below BK574.out hb)
    have n3_ := Aside0.mk (below_step HB.out hb)
    clear BK573 BK574 HB
    have HO578 := n0_
    have BK573 := n1_
    have BK574 := n2_
    have HB := n3_
    clear n0_ n1_ n2_ n3_
    (try clear hb)
    (try clear hb2)
    (try clear hk)
    (try clear hi)
    (try clear ho0)
    obtain ⟨Ao14, co14, eo14⟩ := Kd.R_slice HO578.out
    (first | subst eo14 | (injection eo14 with f1_ f2_ f3_; have f4_ := f1_.symm; have f5_ := f3_.symm; clear f1_ f2_ f3_; subst f4_; subst f5_))
    refine hK.out _ _ ⟨(blk_cell BK573.out 0).trans rfl, (blk_cell BK573.out 1).trans rfl, (blk_cell BK573.out 2).trans rfl⟩ (fun hHeld => ?_)
    clear hK K
    refine norm_ (a' := ?_) ?_ ?_
    rotate_left
    ·show Act.put _ (some 15) _ = _
     simp only [Act.put, List.setIfInBounds_toArray, List.set_cons_zero, List.set_cons_succ, i64_w, i32_w]
     rfl
    refine two_ (i := 4) (j := 9) (Ni := some 16) (Nj := some 5) #[true, true, true, true, true, false, false, false, false, false, false, false] #[true, true, true, true, false, false, false, false, false, true, false, false] rfl rfl rfl rfl (two_of HT_.out (by kernel_rfl)) (by decide) (by decide) (fun K hK => ?_) (fun K hK => ?_)
    ·skip
     refine goes_ Tryd.func61 (by kernel_rfl) rfl #[.agg #[.int .i64 a0_0, .bool a0_1, .slice A0_2 l0_2.length c0_2], .slice Ao14 t576.length co14] (by rfl) rfl rfl (by first | rfl | (simp only [List.map_toArray, List.map_cons, List.map_nil, List.length_drop, List.length_take]; first | done | rfl)) ?_
     with_reducible refine (spec_l2Made.calls a0_0 a0_1 _ _ l0_2 (fun k_ => some k_ = (.slice Ao14 t576.length co14 : Value).ownBlock) _ _ t576 t579 t580 t581 _ ?side1 ?side2 ?side3 A5.out).mono ?_
     (case side1 => exact (Kd.C_below HR0_2.out HB.out))
     (case side2 => exact HC0_2.out)
     (case side3 => exact Kd.R_V (Kd.R_tight rfl (Kd.R_types (Kd.R_types HO578.out BK573.out (by decide)) BK574.out (by decide))))
     rintro e w15 ⟨v582, rfl, ho0, hb⟩
     refine ⟨_, rfl, ?_⟩
     have n0_ := Aside0.mk (Kd.R_below HO578.out hb)
     have n1_ := Aside0.mk (Kd.V_lower (Kd.V_mono (ok' := fun k_ => (w.heap.size ≤ k_) ∧ k_ ≠ gb573 ∧ k_ ≠ gb574) ho0 (fun k_ hk_ => ⟨Or.elim hk_ (fun hs_ => ((Kd.R_types (Kd.R_types HO578.out BK573.out (by decide)) BK574.out (by decide)).1 k_ hs_.symm).1.1.1) (fun hn_ => (Nat.le_trans (below_size HB.out) hn_)), Or.elim hk_ (fun hs_ => ((Kd.R_types (Kd.R_types HO578.out BK573.out (by decide)) BK574.out (by decide)).1 k_ hs_.symm).1.2) (fun hn_ => (Kd.freshB BK573.out k_ hn_)), Or.elim hk_ (fun hs_ => ((Kd.R_types (Kd.R_types HO578.out BK573.out (by decide)) BK574.out (by decide)).1 k_ hs_.symm).2) (fun hn_ => (Kd.freshB BK574.out k_ hn_))⟩)) (below_size HB.out))
     have n2_ := Aside0.mk (blk_below BK573.out hb)
     have n3_ := Aside0.mk (blk_below BK574.out hb)
     have n4_ := Aside0.mk (below_step HB.out hb)
     clear HO578 BK573 BK574 HB
     have HO578 := n0_
     have HO583 := n1_
     have BK573 := n2_
     have BK574 := n3_
     have HB := n4_
     clear n0_ n1_ n2_ n3_ n4_
     (try clear hb)
     (try clear hb2)
     (try clear hk)
     (try clear hi)
     (try clear ho0)
     obtain ⟨Ao16, co16, eo16⟩ := Kd.V_slice HO583.out
     (first | subst eo16 | (injection eo16 with f1_ f2_ f3_; have f4_ := f1_.symm; have f5_ := f3_.symm; clear f1_ f2_ f3_; subst f4_; subst f5_))
     refine hK.out _ _ ⟨(blk_cell BK573.out 0).trans rfl, (blk_cell BK573.out 1).trans rfl, (blk_cell BK573.out 2).trans rfl⟩ (fun hHeld => ?_)
     clear hK K
     refine norm_ (a' := ?_) ?_ ?_
     rotate_left
     ·show Act.put _ (some 16) _ = _
      simp only [Act.put, List.setIfInBounds_toArray, List.set_cons_zero, List.set_cons_succ, i64_w, i32_w]
      rfl
     refine two_ (i := 5) (j := 9) (Ni := some 17) (Nj := some 5) #[true, true, true, true, true, true, false, false, false, false, false, false] #[true, true, true, true, true, false, false, false, false, true, false, false] rfl rfl rfl rfl (two_of HT_.out (by kernel_rfl)) (by decide) (by decide) (fun K hK => ?_) (fun K hK => ?_)
     ·skip
      refine goes_ Tryd.func60 (by kernel_rfl) rfl #[.agg #[.int .i64 t579, .bool t580, .slice Ao16 t581.length co16]] (by rfl) rfl rfl (by first | rfl | (simp only [List.map_toArray, List.map_cons, List.map_nil, List.length_drop, List.length_take]; first | done | rfl)) ?_
      with_reducible refine (spec_l3Settle.calls k t579 t580 (fun k_ => ((w.heap.size ≤ k_) ∧ (k_ ≠ gb573 ∧ k_ ≠ gb574))) _ _ t581 t584 t585 t586 t589 _ ?side1 A6.out).mono ?_
      (case side1 => exact HO583.out)
      rintro e w17 ⟨v587, rfl, ho0, hb⟩
      refine ⟨_, rfl, ?_⟩
      have n0_ := Aside0.mk (Kd.R_below HO578.out hb)
      have n1_ := Aside0.mk (Kd.V_below HO583.out hb)
      have n2_ := Aside0.mk (Kd.V_lower (Kd.V_mono (ok' := fun k_ => (w.heap.size ≤ k_) ∧ k_ ≠ gb573 ∧ k_ ≠ gb574) ho0 (fun k_ hk_ => ⟨Or.elim hk_ (fun hs_ => hs_.1) (fun hn_ => (Nat.le_trans (below_size HB.out) hn_)), Or.elim hk_ (fun hs_ => hs_.2.1) (fun hn_ => (Kd.freshB BK573.out k_ hn_)), Or.elim hk_ (fun hs_ => hs_.2.2) (fun hn_ => (Kd.freshB BK574.out k_ hn_))⟩)) (below_size HB.out))
      have n3_ := Aside0.mk (blk_below BK573.out hb)
      have n4_ := Aside0.mk (blk_below BK574.out hb)
      have n5_ := Aside0.mk (below_step HB.out hb)
      clear HO578 HO583 BK573 BK574 HB
      have HO578 := n0_
      have HO583 := n1_
      have HO588 := n2_
      have BK573 := n3_
      have BK574 := n4_
      have HB := n5_
      clear n0_ n1_ n2_ n3_ n4_ n5_
      (try clear hb)
      (try clear hb2)
      (try clear hk)
      (try clear hi)
      (try clear ho0)
      refine hK.out _ _ ⟨(blk_cell BK573.out 0).trans rfl, (blk_cell BK573.out 1).trans rfl, (blk_cell BK573.out 2).trans rfl⟩ (fun hHeld => ?_)
      clear hK K
      refine norm_ (a' := ?_) ?_ ?_
      rotate_left
      ·show Act.put _ (some 17) _ = _
       simp only [Act.put, List.setIfInBounds_toArray, List.set_cons_zero, List.set_cons_succ, i64_w, i32_w]
       rfl
      refine pure_ (i := 6) (N := some 11) (v := ?_) (a' := ?_) #[true, true, true, true, true, true, true, false, false, false, false, false] rfl rfl (any_of HT_.out (by kernel_rfl)) (fun _ _ _ h => h) (Or.inl ⟨by rfl, ?_⟩) ?_ ?_
      rotate_left
      ·intro w'
       go_simp
       with_reducible rfl
      rotate_left
      ·simp only [Act.put, List.setIfInBounds_toArray, List.set_cons_zero, List.set_cons_succ, i64_w, i32_w]
       rfl
      refine pure_ (i := 7) (N := some 18) (v := ?_) (a' := ?_) #[true, true, true, true, true, true, true, true, false, false, false, false] rfl rfl (any_of HT_.out (by kernel_rfl)) (fun _ _ _ h => h) (Or.inl ⟨by rfl, ?_⟩) ?_ ?_
      rotate_left
      ·intro w'
       go_simp
       with_reducible rfl
      rotate_left
      ·simp only [Act.put, List.setIfInBounds_toArray, List.set_cons_zero, List.set_cons_succ, i64_w, i32_w]
       rfl
      refine pure_ (i := 8) (N := some 19) (v := ?_) (a' := ?_) #[true, true, true, true, true, true, true, true, true, false, false, false] rfl rfl (any_of HT_.out (by kernel_rfl)) (fun _ _ _ h => h) (Or.inl ⟨by rfl, ?_⟩) ?_ ?_
      rotate_left
      ·intro w'
       go_simp
       with_reducible rfl
      rotate_left
      ·simp only [Act.put, List.setIfInBounds_toArray, List.set_cons_zero, List.set_cons_succ, i64_w, i32_w]
       rfl
      refine one_ (i := 9) (N := some 5) #[true, true, true, true, true, true, true, true, true, true, false, false] rfl rfl (one_of HT_.out (by kernel_rfl)) (by decide) (fun K hK => ?_)
      refine box_step ?hg (N := 5) ?hd (cs := #[.int .i64 0, .bool false, .slice none 0 0]) (t := 26) ?hr ?_; (case hd => rfl); (case hg => rfl); (case hr => first | (go_simp; done) | (go_simp; rfl))
      intro gb590 hg w18 hbox hb
      have n0_ := Aside0.mk (Kd.R_below HO578.out hb)
      have n1_ := Aside0.mk (Kd.V_below (Kd.V_elderB HO583.out gb590 (Nat.le_of_eq hg.symm)) hb)
      have n2_ := Aside0.mk (Kd.V_below (Kd.V_elderB HO588.out gb590 (Nat.le_of_eq hg.symm)) hb)
      have n3_ := Aside0.mk (blk_below BK573.out hb)
      have n4_ := Aside0.mk (blk_below BK574.out hb)
      have n5_ := Aside0.mk (below_step HB.out hb)
      have n6_ := Aside0.mk (hbox)
      have n7_ := Aside0.mk ((by rw [hg]; exact (below_size HB.out) : w.heap.size ≤ gb590))
      have n8_ := Aside0.mk ((by rw [hg]; exact (below_size HB.out) : w.heap.size ≤ gb590))
      have n9_ := Aside0.mk ((by rw [hg]; exact Nat.ne_of_lt (blk_lt BK573.out) : gb573 ≠ gb590))
      have n10_ := Aside0.mk ((by rw [hg]; exact Nat.ne_of_gt (blk_lt BK573.out) : gb590 ≠ gb573))
      have n11_ := Aside0.mk ((by rw [hg]; exact Nat.ne_of_lt (blk_lt BK574.out) : gb574 ≠ gb590))
      have n12_ := Aside0.mk ((by rw [hg]; exact Nat.ne_of_gt (blk_lt BK574.out) : gb590 ≠ gb574))
      clear HO578 HO583 HO588 BK573 BK574 HB
      have HO578 := n0_
      have HO583 := n1_
      have HO588 := n2_
      have BK573 := n3_
      have BK574 := n4_
      have HB := n5_
      have BK590 := n6_
      have GW590 := n7_
      have GE590 := n8_
      have NB573_590 := n9_
      have NB590_573 := n10_
      have NB574_590 := n11_
      have NB590_574 := n12_
      clear n0_ n1_ n2_ n3_ n4_ n5_ n6_ n7_ n8_ n9_ n10_ n11_ n12_ hb hbox hg
      refine hK.out _ _ ⟨(blk_cell BK573.out 0).trans rfl, (blk_cell BK573.out 1).trans rfl, (blk_cell BK573.out 2).trans rfl⟩ (fun hHeld => ?_)
      clear hK K
      refine norm_ (a' := ?_) ?_ ?_
      rotate_left
      ·show Act.put _ (some 5) _ = _
       simp only [Act.put, List.setIfInBounds_toArray, List.set_cons_zero, List.set_cons_succ, i64_w, i32_w]
       rfl
      exact norm_ (by simp only [putAll, Act.put, List.setIfInBounds_toArray, List.set_cons_zero, List.set_cons_succ]) (hCont (.slice Ao14 t576.length co14, .slice Ao16 t581.length co16, v587, gb590) _ ⟨hHeld, (Kd.R_mono HO578.out (fun _ hk => hk.1)), (by (with_reducible repeat (first | apply Kd.V_alloc | apply Kd.V_drewN | apply Kd.V_drew)); exact Kd.V_mono HO583.out (fun _ hk => ⟨hk.1.1, ⟨hk.1.2.1, ⟨hk.1.2.2, hk.2⟩⟩⟩)), (by (with_reducible repeat (first | apply Kd.V_alloc | apply Kd.V_drewN | apply Kd.V_drew)); exact Kd.V_mono HO588.out (fun _ hk => ⟨hk.1.1, ⟨hk.1.2.1, ⟨hk.1.2.2, hk.2⟩⟩⟩)), BK573.out, BK574.out, BK590.out, GW590.out, GE590.out, NB573_590.out, NB590_573.out, NB574_590.out, NB590_574.out, HB.out⟩)
     ·skip
      refine box_step ?hg (N := 5) ?hd (cs := #[.int .i64 0, .bool false, .slice none 0 0]) (t := 26) ?hr ?_; (case hd => rfl); (case hg => rfl); (case hr => first | (go_simp; done) | (go_simp; rfl))
      intro gb590 hg w16 hbox hb
      have n0_ := Aside0.mk (Kd.R_below HO578.out hb)
      have n1_ := Aside0.mk (Kd.V_below (Kd.V_elderB HO583.out gb590 (Nat.le_of_eq hg.symm)) hb)
      have n2_ := Aside0.mk (blk_below BK573.out hb)
      have n3_ := Aside0.mk (blk_below BK574.out hb)
      have n4_ := Aside0.mk (below_step HB.out hb)
      have n5_ := Aside0.mk (hbox)
      have n6_ := Aside0.mk ((by rw [hg]; exact (below_size HB.out) : w.heap.size ≤ gb590))
      have n7_ := Aside0.mk ((by rw [hg]; exact (below_size HB.out) : w.heap.size ≤ gb590))
      have n8_ := Aside0.mk ((by rw [hg]; exact Nat.ne_of_lt (blk_lt BK573.out) : gb573 ≠ gb590))
      have n9_ := Aside0.mk ((by rw [hg]; exact Nat.ne_of_gt (blk_lt BK573.out) : gb590 ≠ gb573))
      have n10_ := Aside0.mk ((by rw [hg]; exact Nat.ne_of_lt (blk_lt BK574.out) : gb574 ≠ gb590))
      have n11_ := Aside0.mk ((by rw [hg]; exact Nat.ne_of_gt (blk_lt BK574.out) : gb590 ≠ gb574))
      clear HO578 HO583 BK573 BK574 HB
      have HO578 := n0_
      have HO583 := n1_
      have BK573 := n2_
      have BK574 := n3_
      have HB := n4_
      have BK590 := n5_
      have GW590 := n6_
      have GE590 := n7_
      have NB573_590 := n8_
      have NB590_573 := n9_
      have NB574_590 := n10_
      have NB590_574 := n11_
      clear n0_ n1_ n2_ n3_ n4_ n5_ n6_ n7_ n8_ n9_ n10_ n11_ hb hbox hg
      obtain ⟨Ao17, co17, eo17⟩ := Kd.V_slice HO583.out
      (first | subst eo17 | (injection eo17 with f1_ f2_ f3_; have f4_ := f1_.symm; have f5_ := f3_.symm; clear f1_ f2_ f3_; subst f4_; subst f5_))
      refine hK.out _ _ ⟨(blk_cell BK573.out 0).trans rfl, (blk_cell BK573.out 1).trans rfl, (blk_cell BK573.out 2).trans rfl⟩ (fun hHeld => ?_)
      clear hK K
      refine norm_ (a' := ?_) ?_ ?_
      rotate_left
      ·show Act.put _ (some 5) _ = _
       simp only [Act.put, List.setIfInBounds_toArray, List.set_cons_zero, List.set_cons_succ, i64_w, i32_w]
       rfl
      refine one_ (i := 5) (N := some 17) #[true, true, true, true, true, true, false, false, false, true, false, false] rfl rfl (one_of HT_.out (by kernel_rfl)) (by decide) (fun K hK => ?_)
      refine goes_ Tryd.func60 (by kernel_rfl) rfl #[.agg #[.int .i64 t579, .bool t580, .slice Ao17 t581.length co17]] (by rfl) rfl rfl (by first | rfl | (simp only [List.map_toArray, List.map_cons, List.map_nil, List.length_drop, List.length_take]; first | done | rfl)) ?_
      with_reducible refine (spec_l3Settle.calls k t579 t580 (fun k_ => (((w.heap.size ≤ k_) ∧ (k_ ≠ gb573 ∧ k_ ≠ gb574)) ∧ k_ ≠ gb590)) _ _ t581 t584 t585 t586 t589 _ ?side1 A6.out).mono ?_
      (case side1 => exact HO583.out)
      rintro e w18 ⟨v587, rfl, ho0, hb⟩
      refine ⟨_, rfl, ?_⟩
      have n0_ := Aside0.mk (Kd.R_below HO578.out hb)
      have n1_ := Aside0.mk (Kd.V_below HO583.out hb)
      have n2_ := Aside0.mk (Kd.V_lower (Kd.V_mono (ok' := fun k_ => (w.heap.size ≤ k_) ∧ k_ ≠ gb573 ∧ k_ ≠ gb574 ∧ k_ ≠ gb590) ho0 (fun k_ hk_ => ⟨Or.elim hk_ (fun hs_ => hs_.1.1) (fun hn_ => (Nat.le_trans (below_size HB.out) hn_)), Or.elim hk_ (fun hs_ => hs_.1.2.1) (fun hn_ => (Kd.freshB BK573.out k_ hn_)), Or.elim hk_ (fun hs_ => hs_.1.2.2) (fun hn_ => (Kd.freshB BK574.out k_ hn_)), Or.elim hk_ (fun hs_ => hs_.2) (fun hn_ => (Kd.freshB BK590.out k_ hn_))⟩)) (below_size HB.out))
      have n3_ := Aside0.mk (blk_below BK573.out hb)
      have n4_ := Aside0.mk (blk_below BK574.out hb)
      have n5_ := Aside0.mk (blk_below BK590.out hb)
      have n6_ := Aside0.mk (below_step HB.out hb)
      clear HO578 HO583 BK573 BK574 BK590 HB
      have HO578 := n0_
      have HO583 := n1_
      have HO588 := n2_
      have BK573 := n3_
      have BK574 := n4_
      have BK590 := n5_
      have HB := n6_
      clear n0_ n1_ n2_ n3_ n4_ n5_ n6_
      (try clear hb)
      (try clear hb2)
      (try clear hk)
      (try clear hi)
      (try clear ho0)
      refine hK.out _ _ ⟨(blk_cell BK573.out 0).trans rfl, (blk_cell BK573.out 1).trans rfl, (blk_cell BK573.out 2).trans rfl⟩ (fun hHeld => ?_)
      clear hK K
      refine norm_ (a' := ?_) ?_ ?_
      rotate_left
      ·show Act.put _ (some 17) _ = _
       simp only [Act.put, List.setIfInBounds_toArray, List.set_cons_zero, List.set_cons_succ, i64_w, i32_w]
       rfl
      refine pure_ (i := 6) (N := some 11) (v := ?_) (a' := ?_) #[true, true, true, true, true, true, true, false, false, true, false, false] rfl rfl (any_of HT_.out (by kernel_rfl)) (fun _ _ _ h => h) (Or.inl ⟨by rfl, ?_⟩) ?_ ?_
      rotate_left
      ·intro w'
       go_simp
       with_reducible rfl
      rotate_left
      ·simp only [Act.put, List.setIfInBounds_toArray, List.set_cons_zero, List.set_cons_succ, i64_w, i32_w]
       rfl
      refine pure_ (i := 7) (N := some 18) (v := ?_) (a' := ?_) #[true, true, true, true, true, true, true, true, false, true, false, false] rfl rfl (any_of HT_.out (by kernel_rfl)) (fun _ _ _ h => h) (Or.inl ⟨by rfl, ?_⟩) ?_ ?_
      rotate_left
      ·intro w'
       go_simp
       with_reducible rfl
      rotate_left
      ·simp only [Act.put, List.setIfInBounds_toArray, List.set_cons_zero, List.set_cons_succ, i64_w, i32_w]
       rfl
      refine pure_ (i := 8) (N := some 19) (v := ?_) (a' := ?_) #[true, true, true, true, true, true, true, true, true, true, false, false] rfl rfl (any_of HT_.out (by kernel_rfl)) (fun _ _ _ h => h) (Or.inl ⟨by rfl, ?_⟩) ?_ ?_
      rotate_left
      ·intro w'
       go_simp
       with_reducible rfl
      rotate_left
      ·simp only [Act.put, List.setIfInBounds_toArray, List.set_cons_zero, List.set_cons_succ, i64_w, i32_w]
       rfl
      exact norm_ (by simp only [putAll, Act.put, List.setIfInBounds_toArray, List.set_cons_zero, List.set_cons_succ]) (hCont (.slice Ao14 t576.length co14, .slice Ao17 t581.length co17, v587, gb590) _ ⟨hHeld, (Kd.R_mono HO578.out (fun _ hk => hk.1)), (by (with_reducible repeat (first | apply Kd.V_alloc | apply Kd.V_drewN | apply Kd.V_drew)); exact Kd.V_mono HO583.out (fun _ hk => ⟨hk.1.1, ⟨hk.1.2.1, ⟨hk.1.2.2, hk.2⟩⟩⟩)), HO588.out, BK573.out, BK574.out, BK590.out, GW590.out, GE590.out, NB573_590.out, NB590_573.out, NB574_590.out, NB590_574.out, HB.out⟩)
    ·skip
     refine box_step ?hg (N := 5) ?hd (cs := #[.int .i64 0, .bool false, .slice none 0 0]) (t := 26) ?hr ?_; (case hd => rfl); (case hg => rfl); (case hr => first | (go_simp; done) | (go_simp; rfl))
     intro gb590 hg w14 hbox hb
     have n0_ := Aside0.mk (Kd.R_below HO578.out hb)
     have n1_ := Aside0.mk (blk_below BK573.out hb)
     have n2_ := Aside0.mk (blk_below BK574.out hb)
     have n3_ := Aside0.mk (below_step HB.out hb)
     have n4_ := Aside0.mk (hbox)
     have n5_ := Aside0.mk ((by rw [hg]; exact (below_size HB.out) : w.heap.size ≤ gb590))
     have n6_ := Aside0.mk ((by rw [hg]; exact (below_size HB.out) : w.heap.size ≤ gb590))
     have n7_ := Aside0.mk ((by rw [hg]; exact Nat.ne_of_lt (blk_lt BK573.out) : gb573 ≠ gb590))
     have n8_ := Aside0.mk ((by rw [hg]; exact Nat.ne_of_gt (blk_lt BK573.out) : gb590 ≠ gb573))
     have n9_ := Aside0.mk ((by rw [hg]; exact Nat.ne_of_lt (blk_lt BK574.out) : gb574 ≠ gb590))
     have n10_ := Aside0.mk ((by rw [hg]; exact Nat.ne_of_gt (blk_lt BK574.out) : gb590 ≠ gb574))
     clear HO578 BK573 BK574 HB
     have HO578 := n0_
     have BK573 := n1_
     have BK574 := n2_
     have HB := n3_
     have BK590 := n4_
     have GW590 := n5_
     have GE590 := n6_
     have NB573_590 := n7_
     have NB590_573 := n8_
     have NB574_590 := n9_
     have NB590_574 := n10_
     clear n0_ n1_ n2_ n3_ n4_ n5_ n6_ n7_ n8_ n9_ n10_ hb hbox hg
     obtain ⟨Ao15, co15, eo15⟩ := Kd.R_slice HO578.out
     (first | subst eo15 | (injection eo15 with f1_ f2_ f3_; have f4_ := f1_.symm; have f5_ := f3_.symm; clear f1_ f2_ f3_; subst f4_; subst f5_))
     refine hK.out _ _ ⟨(blk_cell BK573.out 0).trans rfl, (blk_cell BK573.out 1).trans rfl, (blk_cell BK573.out 2).trans rfl⟩ (fun hHeld => ?_)
     clear hK K
     refine norm_ (a' := ?_) ?_ ?_
     rotate_left
     ·show Act.put _ (some 5) _ = _
      simp only [Act.put, List.setIfInBounds_toArray, List.set_cons_zero, List.set_cons_succ, i64_w, i32_w]
      rfl
     refine one_ (i := 4) (N := some 16) #[true, true, true, true, true, false, false, false, false, true, false, false] rfl rfl (one_of HT_.out (by kernel_rfl)) (by decide) (fun K hK => ?_)
     refine goes_ Tryd.func61 (by kernel_rfl) rfl #[.agg #[.int .i64 a0_0, .bool a0_1, .slice A0_2 l0_2.length c0_2], .slice Ao15 t576.length co15] (by rfl) rfl rfl (by first | rfl | (simp only [List.map_toArray, List.map_cons, List.map_nil, List.length_drop, List.length_take]; first | done | rfl)) ?_
     with_reducible refine (spec_l2Made.calls a0_0 a0_1 _ _ l0_2 (fun k_ => some k_ = (.slice Ao15 t576.length co15 : Value).ownBlock) _ _ t576 t579 t580 t581 _ ?side1 ?side2 ?side3 A5.out).mono ?_
     (case side1 => exact (Kd.C_below HR0_2.out HB.out))
     (case side2 => exact HC0_2.out)
     (case side3 => exact Kd.R_V (Kd.R_tight rfl (Kd.R_types (Kd.R_types (Kd.R_types HO578.out BK573.out (by decide)) BK574.out (by decide)) BK590.out (by decide))))
     rintro e w16 ⟨v582, rfl, ho0, hb⟩
     refine ⟨_, rfl, ?_⟩
     have n0_ := Aside0.mk (Kd.R_below HO578.out hb)
     have n1_ := Aside0.mk (Kd.V_lower (Kd.V_mono (ok' := fun k_ => (w.heap.size ≤ k_) ∧ k_ ≠ gb573 ∧ k_ ≠ gb574 ∧ k_ ≠ gb590) ho0 (fun k_ hk_ => ⟨Or.elim hk_ (fun hs_ => ((Kd.R_types (Kd.R_types (Kd.R_types HO578.out BK573.out (by decide)) BK574.out (by decide)) BK590.out (by decide)).1 k_ hs_.symm).1.1.1.1) (fun hn_ => (Nat.le_trans (below_size HB.out) hn_)), Or.elim hk_ (fun hs_ => ((Kd.R_types (Kd.R_types (Kd.R_types HO578.out BK573.out (by decide)) BK574.out (by decide)) BK590.out (by decide)).1 k_ hs_.symm).1.1.2) (fun hn_ => (Kd.freshB BK573.out k_ hn_)), Or.elim hk_ (fun hs_ => ((Kd.R_types (Kd.R_types (Kd.R_types HO578.out BK573.out (by decide)) BK574.out (by decide)) BK590.out (by decide)).1 k_ hs_.symm).1.2) (fun hn_ => (Kd.freshB BK574.out k_ hn_)), Or.elim hk_ (fun hs_ => ((Kd.R_types (Kd.R_types (Kd.R_types HO578.out BK573.out (by decide)) BK574.out (by decide)) BK590.out (by decide)).1 k_ hs_.symm).2) (fun hn_ => (Kd.freshB BK590.out k_ hn_))⟩)) (below_size HB.out))
     have n2_ := Aside0.mk (blk_below BK573.out hb)
     have n3_ := Aside0.mk (blk_below BK574.out hb)
     have n4_ := Aside0.mk (blk_below BK590.out hb)
     have n5_ := Aside0.mk (below_step HB.out hb)
     clear HO578 BK573 BK574 BK590 HB
     have HO578 := n0_
     have HO583 := n1_
     have BK573 := n2_
     have BK574 := n3_
     have BK590 := n4_
     have HB := n5_
     clear n0_ n1_ n2_ n3_ n4_ n5_
     (try clear hb)
     (try clear hb2)
     (try clear hk)
     (try clear hi)
     (try clear ho0)
     obtain ⟨Ao17, co17, eo17⟩ := Kd.V_slice HO583.out
     (first | subst eo17 | (injection eo17 with f1_ f2_ f3_; have f4_ := f1_.symm; have f5_ := f3_.symm; clear f1_ f2_ f3_; subst f4_; subst f5_))
     refine hK.out _ _ ⟨(blk_cell BK573.out 0).trans rfl, (blk_cell BK573.out 1).trans rfl, (blk_cell BK573.out 2).trans rfl⟩ (fun hHeld => ?_)
     clear hK K
     refine norm_ (a' := ?_) ?_ ?_
     rotate_left
     ·show Act.put _ (some 16) _ = _
      simp only [Act.put, List.setIfInBounds_toArray, List.set_cons_zero, List.set_cons_succ, i64_w, i32_w]
      rfl
     refine one_ (i := 5) (N := some 17) #[true, true, true, true, true, true, false, false, false, true, false, false] rfl rfl (one_of HT_.out (by kernel_rfl)) (by decide) (fun K hK => ?_)
     refine goes_ Tryd.func60 (by kernel_rfl) rfl #[.agg #[.int .i64 t579, .bool t580, .slice Ao17 t581.length co17]] (by rfl) rfl rfl (by first | rfl | (simp only [List.map_toArray, List.map_cons, List.map_nil, List.length_drop, List.length_take]; first | done | rfl)) ?_
     with_reducible refine (spec_l3Settle.calls k t579 t580 (fun k_ => ((w.heap.size ≤ k_) ∧ (k_ ≠ gb573 ∧ (k_ ≠ gb574 ∧ k_ ≠ gb590)))) _ _ t581 t584 t585 t586 t589 _ ?side1 A6.out).mono ?_
     (case side1 => exact HO583.out)
     rintro e w18 ⟨v587, rfl, ho0, hb⟩
     refine ⟨_, rfl, ?_⟩
     have n0_ := Aside0.mk (Kd.R_below HO578.out hb)
     have n1_ := Aside0.mk (Kd.V_below HO583.out hb)
     have n2_ := Aside0.mk (Kd.V_lower (Kd.V_mono (ok' := fun k_ => (w.heap.size ≤ k_) ∧ k_ ≠ gb573 ∧ k_ ≠ gb574 ∧ k_ ≠ gb590) ho0 (fun k_ hk_ => ⟨Or.elim hk_ (fun hs_ => hs_.1) (fun hn_ => (Nat.le_trans (below_size HB.out) hn_)), Or.elim hk_ (fun hs_ => hs_.2.1) (fun hn_ => (Kd.freshB BK573.out k_ hn_)), Or.elim hk_ (fun hs_ => hs_.2.2.1) (fun hn_ => (Kd.freshB BK574.out k_ hn_)), Or.elim hk_ (fun hs_ => hs_.2.2.2) (fun hn_ => (Kd.freshB BK590.out k_ hn_))⟩)) (below_size HB.out))
     have n3_ := Aside0.mk (blk_below BK573.out hb)
     have n4_ := Aside0.mk (blk_below BK574.out hb)
     have n5_ := Aside0.mk (blk_below BK590.out hb)
     have n6_ := Aside0.mk (below_step HB.out hb)
     clear HO578 HO583 BK573 BK574 BK590 HB
     have HO578 := n0_
     have HO583 := n1_
     have HO588 := n2_
     have BK573 := n3_
     have BK574 := n4_
     have BK590 := n5_
     have HB := n6_
     clear n0_ n1_ n2_ n3_ n4_ n5_ n6_
     (try clear hb)
     (try clear hb2)
     (try clear hk)
     (try clear hi)
     (try clear ho0)
     refine hK.out _ _ ⟨(blk_cell BK573.out 0).trans rfl, (blk_cell BK573.out 1).trans rfl, (blk_cell BK573.out 2).trans rfl⟩ (fun hHeld => ?_)
     clear hK K
     refine norm_ (a' := ?_) ?_ ?_
     rotate_left
     ·show Act.put _ (some 17) _ = _
      simp only [Act.put, List.setIfInBounds_toArray, List.set_cons_zero, List.set_cons_succ, i64_w, i32_w]
      rfl
     refine pure_ (i := 6) (N := some 11) (v := ?_) (a' := ?_) #[true, true, true, true, true, true, true, false, false, true, false, false] rfl rfl (any_of HT_.out (by kernel_rfl)) (fun _ _ _ h => h) (Or.inl ⟨by rfl, ?_⟩) ?_ ?_
     rotate_left
     ·intro w'
      go_simp
      with_reducible rfl
     rotate_left
     ·simp only [Act.put, List.setIfInBounds_toArray, List.set_cons_zero, List.set_cons_succ, i64_w, i32_w]
      rfl
     refine pure_ (i := 7) (N := some 18) (v := ?_) (a' := ?_) #[true, true, true, true, true, true, true, true, false, true, false, false] rfl rfl (any_of HT_.out (by kernel_rfl)) (fun _ _ _ h => h) (Or.inl ⟨by rfl, ?_⟩) ?_ ?_
     rotate_left
     ·intro w'
      go_simp
      with_reducible rfl
     rotate_left
     ·simp only [Act.put, List.setIfInBounds_toArray, List.set_cons_zero, List.set_cons_succ, i64_w, i32_w]
      rfl
     refine pure_ (i := 8) (N := some 19) (v := ?_) (a' := ?_) #[true, true, true, true, true, true, true, true, true, true, false, false] rfl rfl (any_of HT_.out (by kernel_rfl)) (fun _ _ _ h => h) (Or.inl ⟨by rfl, ?_⟩) ?_ ?_
     rotate_left
     ·intro w'
      go_simp
      with_reducible rfl
     rotate_left
     ·simp only [Act.put, List.setIfInBounds_toArray, List.set_cons_zero, List.set_cons_succ, i64_w, i32_w]
      rfl
     exact norm_ (by simp only [putAll, Act.put, List.setIfInBounds_toArray, List.set_cons_zero, List.set_cons_succ]) (hCont (.slice Ao15 t576.length co15, .slice Ao17 t581.length co17, v587, gb590) _ ⟨hHeld, (Kd.R_mono HO578.out (fun _ hk => hk.1)), HO583.out, HO588.out, BK573.out, BK574.out, BK590.out, GW590.out, GE590.out, NB573_590.out, NB590_573.out, NB574_590.out, NB590_574.out, HB.out⟩)
   ·skip
    refine box_step ?hg (N := 5) ?hd (cs := #[.int .i64 0, .bool false, .slice none 0 0]) (t := 26) ?hr ?_; (case hd => rfl); (case hg => rfl); (case hr => first | (go_simp; done) | (go_simp; rfl))
    intro gb590 hg w13 hbox hb
    have n0_ := Aside0.mk (blk_below BK573.out hb)
    have n1_ := Aside0.mk (blk_below BK574.out hb)
    have n2_ := Aside0.mk (below_step HB.out hb)
    have n3_ := Aside0.mk (hbox)
    have n4_ := Aside0.mk ((by rw [hg]; exact (below_size HB.out) : w.heap.size ≤ gb590))
    have n5_ := Aside0.mk ((by rw [hg]; exact (below_size HB.out) : w.heap.size ≤ gb590))
    have n6_ := Aside0.mk ((by rw [hg]; exact Nat.ne_of_lt (blk_lt BK573.out) : gb573 ≠ gb590))
    have n7_ := Aside0.mk ((by rw [hg]; exact Nat.ne_of_gt (blk_lt BK573.out) : gb590 ≠ gb573))
    have n8_ := Aside0.mk ((by rw [hg]; exact Nat.ne_of_lt (blk_lt BK574.out) : gb574 ≠ gb590))
    have n9_ := Aside0.mk ((by rw [hg]; exact Nat.ne_of_gt (blk_lt BK574.out) : gb590 ≠ gb574))
    clear BK573 BK574 HB
    have BK573 := n0_
    have BK574 := n1_
    have HB := n2_
    have BK590 := n3_
    have GW590 := n4_
    have GE590 := n5_
    have NB573_590 := n6_
    have NB590_573 := n7_
    have NB574_590 := n8_
    have NB590_574 := n9_
    clear n0_ n1_ n2_ n3_ n4_ n5_ n6_ n7_ n8_ n9_ hb hbox hg
    refine hK.out _ _ ⟨(blk_cell BK573.out 0).trans rfl, (blk_cell BK573.out 1).trans rfl, (blk_cell BK573.out 2).trans rfl⟩ (fun hHeld => ?_)
    clear hK K
    refine norm_ (a' := ?_) ?_ ?_
    rotate_left
    ·show Act.put _ (some 5) _ = _
     simp only [Act.put, List.setIfInBounds_toArray, List.set_cons_zero, List.set_cons_succ, i64_w, i32_w]
     rfl
    refine one_ (i := 3) (N := some 15) #[true, true, true, true, false, false, false, false, false, true, false, false] rfl rfl (one_of HT_.out (by kernel_rfl)) (by decide) (fun K hK => ?_)
    refine goes_ Tryd.func62 (by kernel_rfl) rfl #[.slice A0_2 l0_2.length c0_2] (by rfl) rfl rfl (by first | rfl | (simp only [List.map_toArray, List.map_cons, List.map_nil, List.length_drop, List.length_take]; first | done | rfl)) ?_
    with_reducible refine (spec_l1Own.calls _ _ l0_2 t576 _ ?side1 ?side2 A4.out).mono ?_
    (case side1 => exact (Kd.C_below HR0_2.out HB.out))
    (case side2 => exact HC0_2.out)
    rintro e w14 ⟨v577, rfl, ho0, hb⟩
    refine ⟨_, rfl, ?_⟩
    have n0_ := Aside0.mk (Kd.R_lower (Kd.R_newM (M := fun k_ => (w.heap.size ≤ k_)) ho0 (below_size HB.out) (fun k_ h_ => h_)) (below_size HB.out))
    have n1_ := Aside0.mk (blk_below BK573.out hb)
    have n2_ := Aside0.mk (blk_below BK574.out hb)
    have n3_ := Aside0.mk (blk_below BK590.out hb)
    have n4_ := Aside0.mk (below_step HB.out hb)
    clear BK573 BK574 BK590 HB
    have HO578 := n0_
    have BK573 := n1_
    have BK574 := n2_
    have BK590 := n3_
    have HB := n4_
    clear n0_ n1_ n2_ n3_ n4_
    (try clear hb)
    (try clear hb2)
    (try clear hk)
    (try clear hi)
    (try clear ho0)
    obtain ⟨Ao15, co15, eo15⟩ := Kd.R_slice HO578.out
    (first | subst eo15 | (injection eo15 with f1_ f2_ f3_; have f4_ := f1_.symm; have f5_ := f3_.symm; clear f1_ f2_ f3_; subst f4_; subst f5_))
    refine hK.out _ _ ⟨(blk_cell BK573.out 0).trans rfl, (blk_cell BK573.out 1).trans rfl, (blk_cell BK573.out 2).trans rfl⟩ (fun hHeld => ?_)
    clear hK K
    refine norm_ (a' := ?_) ?_ ?_
    rotate_left
    ·show Act.put _ (some 15) _ = _
     simp only [Act.put, List.setIfInBounds_toArray, List.set_cons_zero, List.set_cons_succ, i64_w, i32_w]
     rfl
    refine one_ (i := 4) (N := some 16) #[true, true, true, true, true, false, false, false, false, true, false, false] rfl rfl (one_of HT_.out (by kernel_rfl)) (by decide) (fun K hK => ?_)
    refine goes_ Tryd.func61 (by kernel_rfl) rfl #[.agg #[.int .i64 a0_0, .bool a0_1, .slice A0_2 l0_2.length c0_2], .slice Ao15 t576.length co15] (by rfl) rfl rfl (by first | rfl | (simp only [List.map_toArray, List.map_cons, List.map_nil, List.length_drop, List.length_take]; first | done | rfl)) ?_
    with_reducible refine (spec_l2Made.calls a0_0 a0_1 _ _ l0_2 (fun k_ => some k_ = (.slice Ao15 t576.length co15 : Value).ownBlock) _ _ t576 t579 t580 t581 _ ?side1 ?side2 ?side3 A5.out).mono ?_
    (case side1 => exact (Kd.C_below HR0_2.out HB.out))
    (case side2 => exact HC0_2.out)
    (case side3 => exact Kd.R_V (Kd.R_tight rfl (Kd.R_types (Kd.R_types (Kd.R_types HO578.out BK573.out (by decide)) BK574.out (by decide)) BK590.out (by decide))))
    rintro e w16 ⟨v582, rfl, ho0, hb⟩
    refine ⟨_, rfl, ?_⟩
    have n0_ := Aside0.mk (Kd.R_below HO578.out hb)
    have n1_ := Aside0.mk (Kd.V_lower (Kd.V_mono (ok' := fun k_ => (w.heap.size ≤ k_) ∧ k_ ≠ gb573 ∧ k_ ≠ gb574 ∧ k_ ≠ gb590) ho0 (fun k_ hk_ => ⟨Or.elim hk_ (fun hs_ => ((Kd.R_types (Kd.R_types (Kd.R_types HO578.out BK573.out (by decide)) BK574.out (by decide)) BK590.out (by decide)).1 k_ hs_.symm).1.1.1.1) (fun hn_ => (Nat.le_trans (below_size HB.out) hn_)), Or.elim hk_ (fun hs_ => ((Kd.R_types (Kd.R_types (Kd.R_types HO578.out BK573.out (by decide)) BK574.out (by decide)) BK590.out (by decide)).1 k_ hs_.symm).1.1.2) (fun hn_ => (Kd.freshB BK573.out k_ hn_)), Or.elim hk_ (fun hs_ => ((Kd.R_types (Kd.R_types (Kd.R_types HO578.out BK573.out (by decide)) BK574.out (by decide)) BK590.out (by decide)).1 k_ hs_.symm).1.2) (fun hn_ => (Kd.freshB BK574.out k_ hn_)), Or.elim hk_ (fun hs_ => ((Kd.R_types (Kd.R_types (Kd.R_types HO578.out BK573.out (by decide)) BK574.out (by decide)) BK590.out (by decide)).1 k_ hs_.symm).2) (fun hn_ => (Kd.freshB BK590.out k_ hn_))⟩)) (below_size HB.out))
    have n2_ := Aside0.mk (blk_below BK573.out hb)
    have n3_ := Aside0.mk (blk_below BK574.out hb)
    have n4_ := Aside0.mk (blk_below BK590.out hb)
    have n5_ := Aside0.mk (below_step HB.out hb)
    clear HO578 BK573 BK574 BK590 HB
    have HO578 := n0_
    have HO583 := n1_
    have BK573 := n2_
    have BK574 := n3_
    have BK590 := n4_
    have HB := n5_
    clear n0_ n1_ n2_ n3_ n4_ n5_
    (try clear hb)
    (try clear hb2)
    (try clear hk)
    (try clear hi)
    (try clear ho0)
    obtain ⟨Ao17, co17, eo17⟩ := Kd.V_slice HO583.out
    (first | subst eo17 | (injection eo17 with f1_ f2_ f3_; have f4_ := f1_.symm; have f5_ := f3_.symm; clear f1_ f2_ f3_; subst f4_; subst f5_))
    refine hK.out _ _ ⟨(blk_cell BK573.out 0).trans rfl, (blk_cell BK573.out 1).trans rfl, (blk_cell BK573.out 2).trans rfl⟩ (fun hHeld => ?_)
    clear hK K
    refine norm_ (a' := ?_) ?_ ?_
    rotate_left
    ·show Act.put _ (some 16) _ = _
     simp only [Act.put, List.setIfInBounds_toArray, List.set_cons_zero, List.set_cons_succ, i64_w, i32_w]
     rfl
    refine one_ (i := 5) (N := some 17) #[true, true, true, true, true, true, false, false, false, true, false, false] rfl rfl (one_of HT_.out (by kernel_rfl)) (by decide) (fun K hK => ?_)
    refine goes_ Tryd.func60 (by kernel_rfl) rfl #[.agg #[.int .i64 t579, .bool t580, .slice Ao17 t581.length co17]] (by rfl) rfl rfl (by first | rfl | (simp only [List.map_toArray, List.map_cons, List.map_nil, List.length_drop, List.length_take]; first | done | rfl)) ?_
    with_reducible refine (spec_l3Settle.calls k t579 t580 (fun k_ => ((w.heap.size ≤ k_) ∧ (k_ ≠ gb573 ∧ (k_ ≠ gb574 ∧ k_ ≠ gb590)))) _ _ t581 t584 t585 t586 t589 _ ?side1 A6.out).mono ?_
    (case side1 => exact HO583.out)
    rintro e w18 ⟨v587, rfl, ho0, hb⟩
    refine ⟨_, rfl, ?_⟩
    have n0_ := Aside0.mk (Kd.R_below HO578.out hb)
    have n1_ := Aside0.mk (Kd.V_below HO583.out hb)
    have n2_ := Aside0.mk (Kd.V_lower (Kd.V_mono (ok' := fun k_ => (w.heap.size ≤ k_) ∧ k_ ≠ gb573 ∧ k_ ≠ gb574 ∧ k_ ≠ gb590) ho0 (fun k_ hk_ => ⟨Or.elim hk_ (fun hs_ => hs_.1) (fun hn_ => (Nat.le_trans (below_size HB.out) hn_)), Or.elim hk_ (fun hs_ => hs_.2.1) (fun hn_ => (Kd.freshB BK573.out k_ hn_)), Or.elim hk_ (fun hs_ => hs_.2.2.1) (fun hn_ => (Kd.freshB BK574.out k_ hn_)), Or.elim hk_ (fun hs_ => hs_.2.2.2) (fun hn_ => (Kd.freshB BK590.out k_ hn_))⟩)) (below_size HB.out))
    have n3_ := Aside0.mk (blk_below BK573.out hb)
    have n4_ := Aside0.mk (blk_below BK574.out hb)
    have n5_ := Aside0.mk (blk_below BK590.out hb)
    have n6_ := Aside0.mk (below_step HB.out hb)
    clear HO578 HO583 BK573 BK574 BK590 HB
    have HO578 := n0_
    have HO583 := n1_
    have HO588 := n2_
    have BK573 := n3_
    have BK574 := n4_
    have BK590 := n5_
    have HB := n6_
    clear n0_ n1_ n2_ n3_ n4_ n5_ n6_
    (try clear hb)
    (try clear hb2)
    (try clear hk)
    (try clear hi)
    (try clear ho0)
    refine hK.out _ _ ⟨(blk_cell BK573.out 0).trans rfl, (blk_cell BK573.out 1).trans rfl, (blk_cell BK573.out 2).trans rfl⟩ (fun hHeld => ?_)
    clear hK K
    refine norm_ (a' := ?_) ?_ ?_
    rotate_left
    ·show Act.put _ (some 17) _ = _
     simp only [Act.put, List.setIfInBounds_toArray, List.set_cons_zero, List.set_cons_succ, i64_w, i32_w]
     rfl
    refine pure_ (i := 6) (N := some 11) (v := ?_) (a' := ?_) #[true, true, true, true, true, true, true, false, false, true, false, false] rfl rfl (any_of HT_.out (by kernel_rfl)) (fun _ _ _ h => h) (Or.inl ⟨by rfl, ?_⟩) ?_ ?_
    rotate_left
    ·intro w'
     go_simp
     with_reducible rfl
    rotate_left
    ·simp only [Act.put, List.setIfInBounds_toArray, List.set_cons_zero, List.set_cons_succ, i64_w, i32_w]
     rfl
    refine pure_ (i := 7) (N := some 18) (v := ?_) (a' := ?_) #[true, true, true, true, true, true, true, true, false, true, false, false] rfl rfl (any_of HT_.out (by kernel_rfl)) (fun _ _ _ h => h) (Or.inl ⟨by rfl, ?_⟩) ?_ ?_
    rotate_left
    ·intro w'
     go_simp
     with_reducible rfl
    rotate_left
    ·simp only [Act.put, List.setIfInBounds_toArray, List.set_cons_zero, List.set_cons_succ, i64_w, i32_w]
     rfl
    refine pure_ (i := 8) (N := some 19) (v := ?_) (a' := ?_) #[true, true, true, true, true, true, true, true, true, true, false, false] rfl rfl (any_of HT_.out (by kernel_rfl)) (fun _ _ _ h => h) (Or.inl ⟨by rfl, ?_⟩) ?_ ?_
    rotate_left
    ·intro w'
     go_simp
     with_reducible rfl
    rotate_left
    ·simp only [Act.put, List.setIfInBounds_toArray, List.set_cons_zero, List.set_cons_succ, i64_w, i32_w]
     rfl
    exact norm_ (by simp only [putAll, Act.put, List.setIfInBounds_toArray, List.set_cons_zero, List.set_cons_succ]) (hCont (.slice Ao15 t576.length co15, .slice Ao17 t581.length co17, v587, gb590) _ ⟨hHeld, (by (with_reducible repeat (first | apply Kd.R_alloc | apply Kd.R_drewN | apply Kd.R_drew)); exact Kd.R_mono HO578.out (fun _ hk => hk.1)), (by (with_reducible repeat (first | apply Kd.V_alloc | apply Kd.V_drewN | apply Kd.V_drew)); exact HO583.out), (by (with_reducible repeat (first | apply Kd.V_alloc | apply Kd.V_drewN | apply Kd.V_drew)); exact HO588.out), (by first | (with_reducible exact BK573.out) | ((with_reducible repeat (first | refine blk_drewN ?_ _ | refine blk_drew ?_ | refine blk_alloc ?_ _)); exact BK573.out)), (by first | (with_reducible exact BK574.out) | ((with_reducible repeat (first | refine blk_drewN ?_ _ | refine blk_drew ?_ | refine blk_alloc ?_ _)); exact BK574.out)), (by first | (with_reducible exact BK590.out) | ((with_reducible repeat (first | refine blk_drewN ?_ _ | refine blk_drew ?_ | refine blk_alloc ?_ _)); exact BK590.out)), GW590.out, GE590.out, NB573_590.out, NB590_573.out, NB574_590.out, NB590_574.out, (by repeat (first | (with_reducible first | exact HB.out | apply below_alloc | apply pw_below_drewN | apply below_drew1 | refine below_set ?_ GE573.out | refine below_set ?_ GE574.out | refine below_set ?_ GE590.out) | exact HB.out))⟩)
  rintro ⟨v577, v582, v587, gb590⟩ w19 ⟨hS_, h0_, h1_, h2_, h3_, h4_, h5_, h6_, h7_, h8_, h9_, h10_, h11_, h12_⟩
  have n0_ : Aside0 (Kd.R (Kd.int .i64) 3 w19 w.heap.size (fun k_ => (w.heap.size ≤ k_)) v577 t576) := ⟨h0_⟩
  have n1_ : Aside0 (Kd.V (Kd.int .i64) 3 w19 w.heap.size (fun k_ => (w.heap.size ≤ k_) ∧ k_ ≠ gb573 ∧ k_ ≠ gb574 ∧ k_ ≠ gb590) v582 t581) := ⟨h1_⟩
  have n2_ : Aside0 (Kd.V (Kd.int .i64) 3 w19 w.heap.size (fun k_ => (w.heap.size ≤ k_) ∧ k_ ≠ gb573 ∧ k_ ≠ gb574 ∧ k_ ≠ gb590) v587 t586) := ⟨h2_⟩
  have n3_ : Aside0 (w19.heap[gb573]? = some (.cells #[.int .i64 a0_0, .bool a0_1, .slice A0_2 l0_2.length c0_2] 26 (0, 0))) := ⟨h3_⟩
  have n4_ : Aside0 (w19.heap[gb574]? = some (.cells #[.int .i64 0, .bool false, .slice none 0 0] 26 (0, 0))) := ⟨h4_⟩
  have n5_ : Aside0 (w19.heap[gb590]? = some (.cells #[.int .i64 0, .bool false, .slice none 0 0] 26 (0, 0))) := ⟨h5_⟩
  have n6_ : Aside0 (w.heap.size ≤ gb590) := ⟨h6_⟩
  have n7_ : Aside0 (w.heap.size ≤ gb590) := ⟨h7_⟩
  have n8_ : Aside0 (gb573 ≠ gb590) := ⟨h8_⟩
  have n9_ : Aside0 (gb590 ≠ gb573) := ⟨h9_⟩
  have n10_ : Aside0 (gb574 ≠ gb590) := ⟨h10_⟩
  have n11_ : Aside0 (gb590 ≠ gb574) := ⟨h11_⟩
  have n12_ : Aside0 (Below w.heap.size w w19) := ⟨h12_⟩
  clear BK573 BK574 HB h0_ h1_ h2_ h3_ h4_ h5_ h6_ h7_ h8_ h9_ h10_ h11_ h12_
  have HO578 := n0_
  have HO583 := n1_
  have HO588 := n2_
  have BK573 := n3_
  have BK574 := n4_
  have BK590 := n5_
  have GW590 := n6_
  have GE590 := n7_
  have NB573_590 := n8_
  have NB590_573 := n9_
  have NB574_590 := n10_
  have NB590_574 := n11_
  have HB := n12_
  clear n0_ n1_ n2_ n3_ n4_ n5_ n6_ n7_ n8_ n9_ n10_ n11_ n12_
  have hHeld : w19.cell? ⟨gb573, 0, none⟩ = some (.int .i64 a0_0) ∧ w19.cell? ⟨gb573, 1, none⟩ = some (.bool a0_1) ∧ w19.cell? ⟨gb573, 2, none⟩ = some (.slice A0_2 l0_2.length c0_2) := hS_
  obtain ⟨Ao22, co22, eo22⟩ := Kd.V_slice HO588.out
  (first | subst eo22 | (injection eo22 with f1_ f2_ f3_; have f4_ := f1_.symm; have f5_ := f3_.symm; clear f1_ f2_ f3_; subst f4_; subst f5_))
  refine norm_ (a' := ?_) ?_ ?_
  rotate_left
  ·simp only [putAll, Act.put, List.setIfInBounds_toArray, List.set_cons_zero, List.set_cons_succ]
   rfl
  refine one_ (i := 10) (N := none) #[true, true, true, true, true, true, true, true, true, true, true, false] rfl rfl (one_of HT_.out (by kernel_rfl)) (by decide) (fun K hK => ?_)
  have hs20 : w19.cell? ⟨gb590, 0, none⟩ = some (.int .i64 0) := (blk_cell BK590.out 0).trans rfl
  have hfs20 := blk_frozen BK590.out 0
  have hns20_0 := NB573_590.out
  have hns20_1 := NB574_590.out
  have hms20_0 := NB590_573.out
  have hms20_1 := NB590_574.out
  have hs21 : w19.cell? ⟨gb590, 1, none⟩ = some (.bool false) := (blk_cell BK590.out 1).trans rfl
  have hfs21 := blk_frozen BK590.out 1
  have hns21_0 := NB573_590.out
  have hns21_1 := NB574_590.out
  have hms21_0 := NB590_573.out
  have hms21_1 := NB590_574.out
  have hs23 : w19.cell? ⟨gb590, 2, none⟩ = some (.slice none 0 0) := (blk_cell BK590.out 2).trans rfl
  have hfs23 := blk_frozen BK590.out 2
  have hns23_0 := NB573_590.out
  have hns23_1 := NB574_590.out
  have hms23_0 := NB590_573.out
  have hms23_1 := NB590_574.out
  refine skip_ (w1 := ?_) (by rfl) rfl ?_ ?_
  rotate_left
  ·go_simp
   rfl
  refine hK.out _ _ ⟨((cell_far (p := ⟨gb590, _, none⟩) NB573_590.out _).trans (((cell_far (p := ⟨gb590, _, none⟩) NB573_590.out _).trans (((cell_far (p := ⟨gb590, _, none⟩) NB573_590.out _).trans (hHeld.1)))))), ((cell_far (p := ⟨gb590, _, none⟩) NB573_590.out _).trans (((cell_far (p := ⟨gb590, _, none⟩) NB573_590.out _).trans (((cell_far (p := ⟨gb590, _, none⟩) NB573_590.out _).trans (hHeld.2.1)))))), ((cell_far (p := ⟨gb590, _, none⟩) NB573_590.out _).trans (((cell_far (p := ⟨gb590, _, none⟩) NB573_590.out _).trans (((cell_far (p := ⟨gb590, _, none⟩) NB573_590.out _).trans (hHeld.2.2))))))⟩ (fun hHeld => ?_)
  clear hK K
  refine pure_ (i := 11) (N := some 6) (v := ?_) (a' := ?_) #[true, true, true, true, true, true, true, true, true, true, true, true] rfl rfl (any_of HT_.out (by kernel_rfl)) (fun _ _ _ h => h) (Or.inl ⟨by rfl, ?_⟩) ?_ ?_
  rotate_left
  ·intro w'
   go_simp
   with_reducible rfl
  rotate_left
  ·simp only [Act.put, List.setIfInBounds_toArray, List.set_cons_zero, List.set_cons_succ, i64_w, i32_w]
   rfl
  refine done_ (done_of HT_.out (by kernel_rfl)) ?_
  have hnb24 := NB590_573.out
  have hnc24 := NB573_590.out
  have hnb25 := NB590_574.out
  have hnc25 := NB574_590.out
  have hcz26_0 : w19.cell? ⟨gb590, 0, none⟩ = some (.int .i64 0) := (blk_cell BK590.out 0).trans rfl
  have hcz26_1 : w19.cell? ⟨gb590, 1, none⟩ = some (.bool false) := (blk_cell BK590.out 1).trans rfl
  have hcz26_2 : w19.cell? ⟨gb590, 2, none⟩ = some (.slice none 0 0) := (blk_cell BK590.out 2).trans rfl
  have hfz26_0 := blk_frozen BK590.out 0
  have hfz26_1 := blk_frozen BK590.out 1
  have hfz26_2 := blk_frozen BK590.out 2
  have hcz27_0 : w19.cell? ⟨gb574, 0, none⟩ = some (.int .i64 0) := (blk_cell BK574.out 0).trans rfl
  have hcz27_1 : w19.cell? ⟨gb574, 1, none⟩ = some (.bool false) := (blk_cell BK574.out 1).trans rfl
  have hcz27_2 : w19.cell? ⟨gb574, 2, none⟩ = some (.slice none 0 0) := (blk_cell BK574.out 2).trans rfl
  have hfz27_0 := blk_frozen BK574.out 0
  have hfz27_1 := blk_frozen BK574.out 1
  have hfz27_2 := blk_frozen BK574.out 2
  try go_wp2
  refine bodyPost_ret (results_ctt rfl _ _ gb574 26 #[.int .i64 t584, .bool t585, .slice Ao22 t586.length co22] (0, 0) _ rfl (by (with_reducible repeat (first | refine blk_drewN ?_ _ | refine blk_drew ?_ | refine blk_alloc ?_ _)); refine blk_put (cs := #[.int .i64 t584, .bool t585, .slice none 0 0]) ?_ 2 _ rfl; (with_reducible repeat (first | refine blk_drewN ?_ _ | refine blk_drew ?_ | refine blk_alloc ?_ _)); refine blk_put (cs := #[.int .i64 t584, .bool false, .slice none 0 0]) ?_ 1 _ rfl; (with_reducible repeat (first | refine blk_drewN ?_ _ | refine blk_drew ?_ | refine blk_alloc ?_ _)); refine blk_put (cs := #[.int .i64 0, .bool false, .slice none 0 0]) ?_ 0 _ rfl; (with_reducible repeat (first | refine blk_drewN ?_ _ | refine blk_drew ?_ | refine blk_alloc ?_ _)); refine blk_far ?_ NB574_590.out _; (with_reducible repeat (first | refine blk_drewN ?_ _ | refine blk_drew ?_ | refine blk_alloc ?_ _)); refine blk_far ?_ NB574_590.out _; (with_reducible repeat (first | refine blk_drewN ?_ _ | refine blk_drew ?_ | refine blk_alloc ?_ _)); refine blk_far ?_ NB574_590.out _; (with_reducible repeat (first | refine blk_drewN ?_ _ | refine blk_drew ?_ | refine blk_alloc ?_ _)); exact BK574.out) Tryd.underlying26 rfl (by kernel_rfl)) rfl ?_
  exact ⟨_, by first | rfl | (simp [errW_none, errW_some] <;> rfl) | (simp [*, errW_none, errW_some] <;> rfl), by (with_reducible repeat (first | apply Kd.V_alloc | apply Kd.V_drewN | apply Kd.V_drew)); exact Kd.V_mono (Kd.V_far (p := ⟨gb574, 2, none⟩) (Kd.V_far (p := ⟨gb574, 1, none⟩) (Kd.V_far (p := ⟨gb574, 0, none⟩) (Kd.V_far (p := ⟨gb590, 2, none⟩) (Kd.V_far (p := ⟨gb590, 1, none⟩) (Kd.V_far (p := ⟨gb590, 0, none⟩) (Kd.V_mono (Kd.V_mono HO588.out (fun k_ hk => (⟨hk, hk.2.2.2⟩ : _ ∧ k_ ≠ gb590))) (fun k_ hk => (⟨hk, hk.1.2.2.1⟩ : _ ∧ k_ ≠ gb574))) (fun _ hk => hk.1.2) (.int .i64 t584)) (fun _ hk => hk.1.2) (.bool t585)) (fun _ hk => hk.1.2) (.slice Ao22 t586.length co22)) (fun _ hk => hk.2) (.int .i64 t584)) (fun _ hk => hk.2) (.bool t585)) (fun _ hk => hk.2) (.slice Ao22 t586.length co22)) (fun _ hk => hk.1.1.1), by repeat (first | (with_reducible first | exact HB.out | apply below_alloc | apply pw_below_drewN | apply below_drew1 | refine below_set ?_ GE573.out | refine below_set ?_ GE574.out | refine below_set ?_ GE590.out) | exact HB.out)⟩
 ·replace c3 := Bool.eq_false_iff.mpr c3
  subst c3
  rw [if_neg (show ¬ (false = true) by decide)] at H
  simp only [Option.some.injEq, Prod.mk.injEq] at H
  obtain ⟨rfl, rfl, rfl, rfl, rfl⟩ := H
  go_enter Tryd.func29, Tryd.ntmps29
  go_wp2_with (first | ((with_reducible refine gate_dst (N := 1) rfl ?_); refine box_event ?hg (N := 1) ?hd (cs := #[.int .i64 a0_0, .bool a0_1, .slice A0_2 l0_2.length c0_2]) (t := 26) ?hr ?_; (case hd => rfl); (case hg => rfl); (case hr => first | (go_simp; done) | (go_simp; rfl)); intro gb573 hg w28 hbox hb; have n0_ := Aside0.mk (below_step (by repeat (first | (with_reducible first | exact HB.out | apply below_alloc | apply pw_below_drewN | apply below_drew1) | exact HB.out)) hb); have n1_ := Aside0.mk (hbox); have n2_ := Aside0.mk ((by rw [hg]; exact (below_size (by repeat (first | (with_reducible first | exact HB.out | apply below_alloc | apply pw_below_drewN | apply below_drew1) | exact HB.out))) : w.heap.size ≤ gb573)); have n3_ := Aside0.mk ((by rw [hg]; exact (below_size (by repeat (first | (with_reducible first | exact HB.out | apply below_alloc | apply pw_below_drewN | apply below_drew1) | exact HB.out))) : w.heap.size ≤ gb573)); clear HB; have HB := n0_; have BK573 := n1_; have GW573 := n2_; have GE573 := n3_; clear n0_ n1_ n2_ n3_ hb hbox hg) | ((with_reducible refine gate_dst (N := 2) rfl ?_); refine box_event ?hg (N := 2) ?hd (cs := #[.int .i64 0, .bool false, .slice none 0 0]) (t := 26) ?hr ?_; (case hd => rfl); (case hg => rfl); (case hr => first | (go_simp; done) | (go_simp; rfl)); intro gb574 hg w29 hbox hb; have n0_ := Aside0.mk (blk_below (by first | (with_reducible exact BK573.out) | ((with_reducible repeat (first | refine blk_drewN ?_ _ | refine blk_drew ?_ | refine blk_alloc ?_ _)); exact BK573.out)) hb); have n1_ := Aside0.mk (below_step (by repeat (first | (with_reducible first | exact HB.out | apply below_alloc | apply pw_below_drewN | apply below_drew1 | refine below_set ?_ GE573.out) | exact HB.out)) hb); have n2_ := Aside0.mk (hbox); have n3_ := Aside0.mk ((by rw [hg]; exact (below_size (by repeat (first | (with_reducible first | exact HB.out | apply below_alloc | apply pw_below_drewN | apply below_drew1 | refine below_set ?_ GE573.out) | exact HB.out))) : w.heap.size ≤ gb574)); have n4_ := Aside0.mk ((by rw [hg]; exact (below_size (by repeat (first | (with_reducible first | exact HB.out | apply below_alloc | apply pw_below_drewN | apply below_drew1 | refine below_set ?_ GE573.out) | exact HB.out))) : w.heap.size ≤ gb574)); have n5_ := Aside0.mk ((by rw [hg]; exact Nat.ne_of_lt (blk_lt (by first | (with_reducible exact BK573.out) | ((with_reducible repeat (first | refine blk_drewN ?_ _ | refine blk_drew ?_ | refine blk_alloc ?_ _)); exact BK573.out))) : gb573 ≠ gb574)); have n6_ := Aside0.mk ((by rw [hg]; exact Nat.ne_of_gt (blk_lt (by first | (with_reducible exact BK573.out) | ((with_reducible repeat (first | refine blk_drewN ?_ _ | refine blk_drew ?_ | refine blk_alloc ?_ _)); exact BK573.out))) : gb574 ≠ gb573)); clear BK573 HB; have BK573 := n0_; have HB := n1_; have BK574 := n2_; have GW574 := n3_; have GE574 := n4_; have NB573_574 := n5_; have NB574_573 := n6_; clear n0_ n1_ n2_ n3_ n4_ n5_ n6_ hb hbox hg; have hnb30 := NB573_574.out; have hnc30 := NB574_573.out; have hcz31_0 : w29.cell? ⟨gb573, 0, none⟩ = some (.int .i64 a0_0) := (blk_cell BK573.out 0).trans rfl; have hcz31_1 : w29.cell? ⟨gb573, 1, none⟩ = some (.bool a0_1) := (blk_cell BK573.out 1).trans rfl; have hcz31_2 : w29.cell? ⟨gb573, 2, none⟩ = some (.slice A0_2 l0_2.length c0_2) := (blk_cell BK573.out 2).trans rfl; have hfz31_0 := blk_frozen BK573.out 0; have hfz31_1 := blk_frozen BK573.out 1; have hfz31_2 := blk_frozen BK573.out 2) | ((with_reducible refine gate_callee (f := 47) rfl ?_); refine goesL_ (some 8) rfl rfl Tryd.func47 (by kernel_rfl) rfl #[.agg #[.int .i64 a0_0, .bool a0_1, .slice A0_2 l0_2.length c0_2]] rfl (by first | rfl | (simp only [List.map_toArray, List.map_cons, List.map_nil, List.length_drop, List.length_take]; first | done | rfl)) ?_; (with_reducible refine (spec_l2Row.calls k a0_0 a0_1 _ _ l0_2 false _ ?side1 ?side2 A2.out).mono ?_); (case side1 => exact (Kd.C_below HR0_2.out HB.out)); (case side2 => exact HC0_2.out); rintro e w32 ⟨rfl, hb⟩; refine ⟨_, rfl, ?_⟩; have n0_ := Aside0.mk (blk_below (by first | (with_reducible exact BK573.out) | ((with_reducible repeat (first | refine blk_drewN ?_ _ | refine blk_drew ?_ | refine blk_alloc ?_ _)); exact BK573.out)) hb); have n1_ := Aside0.mk (blk_below (by first | (with_reducible exact BK574.out) | ((with_reducible repeat (first | refine blk_drewN ?_ _ | refine blk_drew ?_ | refine blk_alloc ?_ _)); exact BK574.out)) hb); have n2_ := Aside0.mk (below_step (by repeat (first | (with_reducible first | exact HB.out | apply below_alloc | apply pw_below_drewN | apply below_drew1 | refine below_set ?_ GE573.out | refine below_set ?_ GE574.out) | exact HB.out)) hb); clear BK573 BK574 HB; have BK573 := n0_; have BK574 := n1_; have HB := n2_; clear n0_ n1_ n2_; (try clear hb); (try clear hb2); (try clear hk); (try clear hi); have hcz33_0 : w32.cell? ⟨gb574, 0, none⟩ = some (.int .i64 0) := (blk_cell BK574.out 0).trans rfl; have hcz33_1 : w32.cell? ⟨gb574, 1, none⟩ = some (.bool false) := (blk_cell BK574.out 1).trans rfl; have hcz33_2 : w32.cell? ⟨gb574, 2, none⟩ = some (.slice none 0 0) := (blk_cell BK574.out 2).trans rfl; have hfz33_0 := blk_frozen BK574.out 0; have hfz33_1 := blk_frozen BK574.out 1; have hfz33_2 := blk_frozen BK574.out 2))
  refine bodyPost_ret (results_ctt rfl _ _ gb574 26 #[.int .i64 0, .bool false, .slice none 0 0] (0, 0) _ rfl (by (with_reducible repeat (first | refine blk_drewN ?_ _ | refine blk_drew ?_ | refine blk_alloc ?_ _)); refine blk_put (cs := #[.int .i64 0, .bool false, .slice none 0 0]) ?_ 2 _ rfl; (with_reducible repeat (first | refine blk_drewN ?_ _ | refine blk_drew ?_ | refine blk_alloc ?_ _)); refine blk_put (cs := #[.int .i64 0, .bool false, .slice none 0 0]) ?_ 1 _ rfl; (with_reducible repeat (first | refine blk_drewN ?_ _ | refine blk_drew ?_ | refine blk_alloc ?_ _)); refine blk_put (cs := #[.int .i64 0, .bool false, .slice none 0 0]) ?_ 0 _ rfl; (with_reducible repeat (first | refine blk_drewN ?_ _ | refine blk_drew ?_ | refine blk_alloc ?_ _)); exact BK574.out) Tryd.underlying26 rfl (by kernel_rfl)) rfl ?_
  exact ⟨_, by first | rfl | (simp [errW_none, errW_some] <;> rfl) | (simp [*, errW_none, errW_some] <;> rfl), (Kd.R_V (Kd.R_nil _ _ _ 0 _)), by repeat (first | (with_reducible first | exact HB.out | apply below_alloc | apply pw_below_drewN | apply below_drew1 | refine below_set ?_ GE573.out | refine below_set ?_ GE574.out) | exact HB.out)⟩

/-! ### impl_set_has: function 65 -/
def impl_set_has.f (a0 : Int) (a1 : Int) : Option (Bool) := if 0 ≤ a1 then (some ((Go.bits .and .u32 (shr .u32 a0 a1) 1) == 1)) else (none)
set_option maxHeartbeats 8000000 in
set_option maxRecDepth 100000 in
theorem impl_set_has.calls (a0 : Int) (a1 : Int) (r : Bool) (w : World) (h : impl_set_has.f a0 a1 = some r) :
  Calls Tryd.prog 65 #[.int .u32 a0, .int .i64 a1] w fun e w' => e = .returned (.bool r) ∧ Drawn0 w w' := by
 have H : (if 0 ≤ a1 then (some ((Go.bits .and .u32 (shr .u32 a0 a1) 1) == 1)) else (none)) = some r := h
 clear h
 by_cases c3 : 0 ≤ a1
 ·rw [if_pos c3] at H
  have c3b0 := eq_true c3
  have c3b1 : decide (0 ≤ a1) = true := decide_eq_true c3
  clear c3
  obtain ⟨ji4, hji4⟩ : ∃ j_ : Int, (shr .u32 a0 a1) = j_ := ⟨_, rfl⟩
  replace H : (some ((Go.bits .and .u32 (ji4) 1) == 1)) = some r := by first | (rw [hji4] at H; exact H) | (simp only [hji4] at H ⊢; exact H)
  have hji4_ : (a0 / 2 ^ min a1.toNat 32) = ji4 := hji4
  have hji4z : a1 ≤ 32 → (a0 / 2 ^ a1.toNat) = ji4 := shr_small hji4
  obtain rfl := Option.some.inj H
  go_enter Tryd.func65, Tryd.ntmps65
  go_wp2
  go_ret
  exact ⟨by first | rfl | (simp; done) | (simp only [← hji4] <;> (first | rfl | simp)) | (simp [*]; done), by repeat (first | exact Drawn0.refl _ | apply Drawn0.step)⟩
 ·rw [if_neg c3] at H
  exact absurd H (by simp)

end Go.Proofs.YtaebbgkoaaigbaaDoor.PFnPolite
