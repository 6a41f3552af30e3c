import Derived.Test.YtaebbgkoaaigbaaDoorZFnSpreadPFnSpreadx0
import Derived.Test.YtaebbgkoaaigbaaDoorZFnSpreadPFnSpreadx6
import Derived.Test.YtaebbgkoaaigbaaDoorZFnSpreadPFnSpreadx7
import Derived.Test.YtaebbgkoaaigbaaDoorZFnSpreadPFnSpreadx8
namespace Go.Proofs.YtaebbgkoaaigbaaDoor.PFnSpread
open Go.RowKit Go.Proofs.YtaebbgkoaaigbaaDoorW.PrintWords Go.Proofs.YtaebbgkoaaigbaaDoorW.PrintLast Go.Proofs.YtaebbgkoaaigbaaDoorW.PrintMore
attribute [local go_sem] max2_int min2_int max_two min_two max_three min_three max_four min_four   -- for this text's walks alone
set_option linter.unusedVariables false
set_option linter.unusedSimpArgs false

/-! ### impl_FarnessOf: function 18 -/
def impl_FarnessOf.f (k : Nat) (a0_0 : Int) (a0_1 : Bool) (l0_2 : List Int) : Option (List Int × Bool) := (impl_IsRow.f k a0_0 a0_1 l0_2).bind fun t593 => (if t593 = true then ((impl_Row_bench.f a0_0 a0_1 l0_2).bind fun bt594 => ((impl_Row_taken.f k a0_0 a0_1 l0_2).bind fun t596 => ((impl_bench_farness.f k bt594.1 bt594.2 t596).bind fun t597 => (some (t597, true))))) else (some (([] : List Int), false)))
set_option maxHeartbeats 8000000 in
set_option maxRecDepth 100000 in
theorem impl_FarnessOf.calls (k : Nat) (a0_0 : Int) (a0_1 : Bool) (A0_2 : Option Addr) (c0_2 : Nat) (l0_2 : List Int) (r1 : List Int) (r2 : Bool) (w : World) (hr0_2 : Kd.C (Kd.int .i64) w A0_2 l0_2.length l0_2) (hc0_2 : l0_2.length ≤ c0_2) (hrT : GT w) (h : impl_FarnessOf.f k a0_0 a0_1 l0_2 = some (r1, r2)) :
  Calls Tryd.prog 18 #[.agg #[.int .i64 a0_0, .bool a0_1, .slice A0_2 l0_2.length c0_2]] w fun e w' => ∃ v0_ : Value, e = .returned (.tuple #[v0_, .bool r2]) ∧ Kd.R (Kd.int .i64) 3 w' w.heap.size (fun _ => True) v0_ r1 ∧ Below w.heap.size w w' := by
 have hu26 := Tryd.underlying26
 have HR0_2 := Aside0.mk hr0_2
 have HC0_2 := Aside0.mk hc0_2
 clear hr0_2 hc0_2
 have HRT := Aside0.mk hrT
 clear hrT
 have HB := Aside0.mk (Below.refl w.heap.size w)
 have H : ((impl_IsRow.f k a0_0 a0_1 l0_2).bind fun t593 => (if t593 = true then ((impl_Row_bench.f a0_0 a0_1 l0_2).bind fun bt594 => ((impl_Row_taken.f k a0_0 a0_1 l0_2).bind fun t596 => ((impl_bench_farness.f k bt594.1 bt594.2 t596).bind fun t597 => (some (t597, true))))) else (some (([] : List Int), false)))) = some (r1, r2) := h
 clear h
 replace H := Option.bind_eq_some_iff.mp H
 obtain ⟨t593, A20, H⟩ := H
 try dsimp only at H
 have A2 := Aside0.mk A20
 clear A20
 by_cases c3 : t593 = true
 ·subst c3
  rw [if_pos rfl] at H
  replace H := Option.bind_eq_some_iff.mp H
  obtain ⟨⟨t594, t595⟩, A40, H⟩ := H
  try dsimp only at H
  have A4 := Aside0.mk A40
  clear A40
  replace H := Option.bind_eq_some_iff.mp H
  obtain ⟨t596, A50, H⟩ := H
  try dsimp only at H
  have A5 := Aside0.mk A50
  clear A50
  replace H := Option.bind_eq_some_iff.mp H
  obtain ⟨t597, A60, H⟩ := H
  try dsimp only at H
  have A6 := Aside0.mk A60
  clear A60
  simp only [Option.some.injEq, Prod.mk.injEq] at H
  obtain ⟨rfl, rfl⟩ := H
  go_enter Tryd.func18, Tryd.ntmps18
  try go_wp2_with (first | ((with_reducible refine gate_dst (N := 1) rfl ?_); refine box_event ?hg (N := 1) ?hd (cs := #[.int .i64 a0_0, .bool a0_1, .slice A0_2 l0_2.length c0_2]) (t := 26) ?hr ?_; (case hd => rfl); (case hg => rfl); (case hr => first | (go_simp; done) | (go_simp; rfl)); intro gb592 hg w7 hbox hb; have n0_ := Aside0.mk (below_step HB.out hb); have n1_ := Aside0.mk (hbox); have n2_ := Aside0.mk ((by rw [hg]; exact (below_size HB.out) : w.heap.size ≤ gb592)); have n3_ := Aside0.mk ((by rw [hg]; exact (below_size HB.out) : w.heap.size ≤ gb592)); clear HB; have HB := n0_; have BK592 := n1_; have GW592 := n2_; have GE592 := n3_; clear n0_ n1_ n2_ n3_ hb hbox hg; have hcz8_0 : w7.cell? ⟨gb592, 0, none⟩ = some (.int .i64 a0_0) := (blk_cell BK592.out 0).trans rfl; have hcz8_1 : w7.cell? ⟨gb592, 1, none⟩ = some (.bool a0_1) := (blk_cell BK592.out 1).trans rfl; have hcz8_2 : w7.cell? ⟨gb592, 2, none⟩ = some (.slice A0_2 l0_2.length c0_2) := (blk_cell BK592.out 2).trans rfl; have hfz8_0 := blk_frozen BK592.out 0; have hfz8_1 := blk_frozen BK592.out 1; have hfz8_2 := blk_frozen BK592.out 2) | ((with_reducible refine gate_callee (f := 38) rfl ?_); refine goesL_ (some 5) rfl rfl Tryd.func38 (by kernel_rfl) rfl #[.agg #[.int .i64 a0_0, .bool a0_1, .slice A0_2 l0_2.length c0_2]] rfl (by first | rfl | (simp only [List.map_toArray, List.map_cons, List.map_nil, List.length_drop, List.length_take]; first | done | rfl)) ?_; (with_reducible refine (impl_IsRow.calls k a0_0 a0_1 _ _ l0_2 true _ ?side1 ?side2 A2.out).mono ?_); (case side1 => exact (Kd.C_below HR0_2.out HB.out)); (case side2 => exact HC0_2.out); rintro e w9 ⟨rfl, hb⟩; refine ⟨_, rfl, ?_⟩; have n0_ := Aside0.mk (blk_below BK592.out hb); have n1_ := Aside0.mk (below_step HB.out hb); clear BK592 HB; have BK592 := n0_; have HB := n1_; clear n0_ n1_; (try clear hb); (try clear hb2); (try clear hk); (try clear hi)))
  have n0_ := Aside0.mk (blk_drew BK592.out)
  have n1_ := Aside0.mk (below_drew1 HB.out)
  clear BK592 HB
  have BK592 := n0_
  have HB := n1_
  clear n0_ n1_
  refine start_ (n := 7) (S := fun w' => w'.cell? ⟨gb592, 0, none⟩ = some (.int .i64 a0_0) ∧ w'.cell? ⟨gb592, 1, none⟩ = some (.bool a0_1) ∧ w'.cell? ⟨gb592, 2, none⟩ = some (.slice A0_2 l0_2.length c0_2)) (ds := []) #[false, false, false, false, false, false, false] (by kernel_rfl) rfl rfl ⟨(blk_cell BK592.out 0).trans rfl, (blk_cell BK592.out 1).trans rfl, (blk_cell BK592.out 2).trans rfl⟩ (fun hHeld => ?_)
  generalize w9.drew = w10 at BK592 HB hHeld ⊢
  refine take_ (i := 0) (N := some 7) (v := ?_) (a' := ?_) (bm 7 1) rfl rfl (by kernel_rfl) (fun _ _ _ h => h) (Or.inl ⟨by rfl, ?_⟩) hHeld ?_ ?_
  rotate_left
  ·rintro w' ⟨s0, s1, s2⟩
   go_simp
   with_reducible rfl
  rotate_left
  ·simp only [Act.put, pp_]
   rfl
  refine take_ (i := 2) (N := some 9) (v := ?_) (a' := ?_) (bm 7 5) rfl rfl (by kernel_rfl) (fun _ _ _ h => h) (Or.inl ⟨by rfl, ?_⟩) hHeld ?_ ?_
  rotate_left
  ·rintro w' ⟨s0, s1, s2⟩
   go_simp
   with_reducible rfl
  rotate_left
  ·simp only [Act.put, pp_]
   rfl
  refine one_ (i := 1) (N := some 8) (bm 7 7) rfl rfl (by kernel_rfl) (by decide) (fun K hK => ?_)
  refine goes_ Tryd.func42 (by kernel_rfl) rfl #[.agg #[.int .i64 a0_0, .bool a0_1, .slice A0_2 l0_2.length c0_2]] (by rfl) rfl rfl (by first | rfl | (simp only [List.map_toArray, List.map_cons, List.map_nil, List.length_drop, List.length_take]; first | done | rfl)) ?_
  with_reducible refine (impl_Row_bench.calls a0_0 a0_1 _ _ l0_2 t594 t595 _ ?side1 ?side2 A4.out).mono ?_
  (case side1 => exact (Kd.C_below HR0_2.out HB.out))
  (case side2 => exact HC0_2.out)
  rintro e w11 ⟨rfl, hb⟩
  refine ⟨_, rfl, ?_⟩
  have n0_ := Aside0.mk (blk_below BK592.out hb)
  have n1_ := Aside0.mk (below_step HB.out hb)
  clear BK592 HB
  have BK592 := n0_
  have HB := n1_
  clear n0_ n1_
  (try clear hb)
  (try clear hb2)
  (try clear hk)
  (try clear hi)
  refine hK.out _ _ ⟨(blk_cell BK592.out 0).trans rfl, (blk_cell BK592.out 1).trans rfl, (blk_cell BK592.out 2).trans rfl⟩ (fun hHeld => ?_)
  clear hK K
  refine norm_ (a' := ?_) ?_ ?_
  rotate_left
  ·show Act.put _ (some 8) _ = _
   simp only [Act.put, pp_]
   rfl
  refine one_ (i := 3) (N := some 10) (bm 7 15) rfl rfl (by kernel_rfl) (by decide) (fun K hK => ?_)
  refine goes_ Tryd.func44 (by kernel_rfl) rfl #[.agg #[.int .i64 a0_0, .bool a0_1, .slice A0_2 l0_2.length c0_2]] (by rfl) rfl rfl (by first | rfl | (simp only [List.map_toArray, List.map_cons, List.map_nil, List.length_drop, List.length_take]; first | done | rfl)) ?_
  with_reducible refine (impl_Row_taken.calls k a0_0 a0_1 _ _ l0_2 t596 _ ?side1 ?side2 A5.out).mono ?_
  (case side1 => exact (Kd.C_below HR0_2.out HB.out))
  (case side2 => exact HC0_2.out)
  rintro e w12 ⟨rfl, hb⟩
  refine ⟨_, rfl, ?_⟩
  have n0_ := Aside0.mk (blk_below BK592.out hb)
  have n1_ := Aside0.mk (below_step HB.out hb)
  clear BK592 HB
  have BK592 := n0_
  have HB := n1_
  clear n0_ n1_
  (try clear hb)
  (try clear hb2)
  (try clear hk)
  (try clear hi)
  refine hK.out _ _ ⟨(blk_cell BK592.out 0).trans rfl, (blk_cell BK592.out 1).trans rfl, (blk_cell BK592.out 2).trans rfl⟩ (fun hHeld => ?_)
  clear hK K
  refine norm_ (a' := ?_) ?_ ?_
  rotate_left
  ·show Act.put _ (some 10) _ = _
   simp only [Act.put, pp_]
   rfl
  refine one_ (i := 4) (N := some 11) (bm 7 31) rfl rfl (by kernel_rfl) (by decide) (fun K hK => ?_)
  refine goes_ Tryd.func48 (by kernel_rfl) rfl #[.agg #[.int .i64 t594, .bool t595], .int .u32 t596] (by rfl) rfl rfl (by first | rfl | (simp only [List.map_toArray, List.map_cons, List.map_nil, List.length_drop, List.length_take]; first | done | rfl)) ?_
  with_reducible refine (impl_bench_farness.calls k t594 t595 t596 t597 _ ?side1 A6.out).mono ?_
  (case side1 => exact GT.below HRT.out HB.out)
  rintro e w13 ⟨v598, rfl, ho0, hb⟩
  refine ⟨_, rfl, ?_⟩
  have n0_ := Aside0.mk (Kd.R_lower ho0 (below_size HB.out))
  have n1_ := Aside0.mk (blk_below BK592.out hb)
  have n2_ := Aside0.mk (below_step HB.out hb)
  clear BK592 HB
  have HO599 := n0_
  have BK592 := n1_
  have HB := n2_
  clear n0_ n1_ n2_
  (try clear hb)
  (try clear hb2)
  (try clear hk)
  (try clear hi)
  (try clear ho0)
  refine hK.out _ _ ⟨(blk_cell BK592.out 0).trans rfl, (blk_cell BK592.out 1).trans rfl, (blk_cell BK592.out 2).trans rfl⟩ (fun hHeld => ?_)
  clear hK K
  refine norm_ (a' := ?_) ?_ ?_
  rotate_left
  ·show Act.put _ (some 11) _ = _
   simp only [Act.put, pp_]
   rfl
  refine pure_ (i := 5) (N := some 2) (v := ?_) (a' := ?_) (bm 7 63) rfl rfl (by kernel_rfl) (fun _ _ _ h => h) (Or.inl ⟨by rfl, ?_⟩) ?_ ?_
  rotate_left
  ·intro w'
   go_simp
   with_reducible rfl
  rotate_left
  ·simp only [Act.put, pp_]
   rfl
  refine pure_ (i := 6) (N := some 3) (v := ?_) (a' := ?_) (bm 7 127) rfl rfl (by kernel_rfl) (fun _ _ _ h => h) (Or.inl ⟨by rfl, ?_⟩) ?_ ?_
  rotate_left
  ·intro w'
   go_simp
   with_reducible rfl
  rotate_left
  ·simp only [Act.put, pp_]
   rfl
  refine done_ (by kernel_rfl) ?_
  try go_wp2
  go_ret2
  exact ⟨_, by first | rfl | (simp [errW_none, errW_some] <;> rfl) | (simp [*, errW_none, errW_some] <;> rfl), by (with_reducible repeat (first | apply Kd.R_alloc | apply Kd.R_drewN | apply Kd.R_drew)); exact HO599.out, HB.out⟩
 ·replace c3 := Bool.eq_false_iff.mpr c3
  subst c3
  rw [if_neg (show ¬ (false = true) by decide)] at H
  simp only [Option.some.injEq, Prod.mk.injEq] at H
  obtain ⟨rfl, rfl⟩ := H
  go_enter Tryd.func18, Tryd.ntmps18
  go_wp2_with (first | ((with_reducible refine gate_dst (N := 1) rfl ?_); refine box_event ?hg (N := 1) ?hd (cs := #[.int .i64 a0_0, .bool a0_1, .slice A0_2 l0_2.length c0_2]) (t := 26) ?hr ?_; (case hd => rfl); (case hg => rfl); (case hr => first | (go_simp; done) | (go_simp; rfl)); intro gb592 hg w14 hbox hb; have n0_ := Aside0.mk (below_step HB.out hb); have n1_ := Aside0.mk (hbox); have n2_ := Aside0.mk ((by rw [hg]; exact (below_size HB.out) : w.heap.size ≤ gb592)); have n3_ := Aside0.mk ((by rw [hg]; exact (below_size HB.out) : w.heap.size ≤ gb592)); clear HB; have HB := n0_; have BK592 := n1_; have GW592 := n2_; have GE592 := n3_; clear n0_ n1_ n2_ n3_ hb hbox hg; have hcz15_0 : w14.cell? ⟨gb592, 0, none⟩ = some (.int .i64 a0_0) := (blk_cell BK592.out 0).trans rfl; have hcz15_1 : w14.cell? ⟨gb592, 1, none⟩ = some (.bool a0_1) := (blk_cell BK592.out 1).trans rfl; have hcz15_2 : w14.cell? ⟨gb592, 2, none⟩ = some (.slice A0_2 l0_2.length c0_2) := (blk_cell BK592.out 2).trans rfl; have hfz15_0 := blk_frozen BK592.out 0; have hfz15_1 := blk_frozen BK592.out 1; have hfz15_2 := blk_frozen BK592.out 2) | ((with_reducible refine gate_callee (f := 38) rfl ?_); refine goesL_ (some 5) rfl rfl Tryd.func38 (by kernel_rfl) rfl #[.agg #[.int .i64 a0_0, .bool a0_1, .slice A0_2 l0_2.length c0_2]] rfl (by first | rfl | (simp only [List.map_toArray, List.map_cons, List.map_nil, List.length_drop, List.length_take]; first | done | rfl)) ?_; (with_reducible refine (impl_IsRow.calls k a0_0 a0_1 _ _ l0_2 false _ ?side1 ?side2 A2.out).mono ?_); (case side1 => exact (Kd.C_below HR0_2.out HB.out)); (case side2 => exact HC0_2.out); rintro e w16 ⟨rfl, hb⟩; refine ⟨_, rfl, ?_⟩; have n0_ := Aside0.mk (blk_below BK592.out hb); have n1_ := Aside0.mk (below_step HB.out hb); clear BK592 HB; have BK592 := n0_; have HB := n1_; clear n0_ n1_; (try clear hb); (try clear hb2); (try clear hk); (try clear hi)))
  go_ret2
  exact ⟨_, by first | rfl | (simp [errW_none, errW_some] <;> rfl) | (simp [*, errW_none, errW_some] <;> rfl), by first | exact Kd.R_nil _ _ _ _ _ | exact Kd.N_nil _ _ _ _ _ | exact Kd.V_nil _ _ _ _ _ | exact Kd.Q_nil _ _ _ _ _ | exact Kd.S_nil _ _ _ _ _, HB.out⟩

/-! ### impl_newSpacing: function 49 -/
/-- A spacing lies in a block. -/
def SpW (w : World) (g : Nat) (s : Int) (r : Bool) (A : Option Addr) (n c : Nat) (d : Int) (Aw : Option Addr) (nw cw mb : Nat) : Prop :=
 w.heap[g]? = some (.cells #[.int .i64 s, .bool r, .slice A n c, .int .i64 d, .slice Aw nw cw, .map (some mb)] 91 (0, 0))
theorem SpW.cell {w : World} {g : Nat} {s : Int} {r : Bool} {A : Option Addr} {n c : Nat} {d : Int} {Aw : Option Addr} {nw cw mb : Nat} (h : SpW w g s r A n c d Aw nw cw mb) :
  w.cell? ⟨g, 0, none⟩ = some (.int .i64 s) ∧ w.cell? ⟨g, 1, none⟩ = some (.bool r) ∧ w.cell? ⟨g, 2, none⟩ = some (.slice A n c) ∧ w.cell? ⟨g, 3, none⟩ = some (.int .i64 d) ∧ w.cell? ⟨g, 4, none⟩ = some (.slice Aw nw cw) ∧ w.cell? ⟨g, 5, none⟩ = some (.map (some mb)) :=
 ⟨blk_cell h 0, blk_cell h 1, blk_cell h 2, blk_cell h 3, blk_cell h 4, blk_cell h 5⟩
theorem SpW.below {w w1 : World} {g : Nat} {s : Int} {r : Bool} {A : Option Addr} {n c : Nat} {d : Int} {Aw : Option Addr} {nw cw mb : Nat} (h : SpW w g s r A n c d Aw nw cw mb) (hb : Below w.heap.size w w1) : SpW w1 g s r A n c d Aw nw cw mb := by
 unfold SpW at h ⊢
 have hl : g < w.heap.size := (Array.getElem?_eq_some_iff.1 h).1
 rw [hb.block g hl]; exact h
theorem keep_c {w w1 : World} {g i : Nat} {v : Value} (h : w.cell? ⟨g, i, none⟩ = some v) (hb : Below w.heap.size w w1) : w1.cell? ⟨g, i, none⟩ = some v := (hb.cell (World.block_lt_of_cell? w _ h)).trans h
/-- What newSpacing hands back. -/
def NewSp (s : Int) (r : Bool) (A : Option Addr) (n c : Nat) (d : Int) (Aw : Option Addr) (nw cw : Nat) (w : World) (e : Ending) (w' : World) : Prop :=
 ∃ g mb, e = .returned (.pointer (some ⟨g, 0, none⟩)) ∧ SpW w' g s r A n c (mn d 25) Aw nw cw mb ∧ w'.heap[mb]? = some (.map #[] 0) ∧ w.heap.size ≤ g ∧ w.heap.size ≤ mb ∧ mb < g ∧ g < w'.heap.size ∧ Below w.heap.size w w'
set_option maxHeartbeats 8000000 in
set_option maxRecDepth 100000 in
theorem impl_newSpacing.calls (s : Int) (r : Bool) (A : Option Addr) (n c : Nat) (d : Int) (Aw : Option Addr) (nw cw : Nat) (w : World) :
  Calls Tryd.prog 49 #[.agg #[.int .i64 s, .bool r, .slice A n c], .int .i64 d, .slice Aw nw cw] w (NewSp s r A n c d Aw nw cw w) := by
 have hu28 := Tryd.underlying26
 have hu66 := Tryd.underlying91
 have hmm := @run_makeMap Tryd.prog
 have HB := Aside0.mk (Below.refl w.heap.size w)
 by_cases hd : d < 25
 ·have hm : mn d 25 = d := by unfold mn; split <;> omega
  go_enter Tryd.func49, Tryd.ntmps49
  go_wp2
  go_ret
  refine ⟨w.heap.size + 1 + 1, w.heap.size + 1, rfl, ?_, ?_, ?_, ?_, ?_, ?_, ?_⟩
  ·rw [hm]; show (((w.heap.push _).push _).push _)[w.heap.size + 1 + 1]? = _; rw [Array.getElem?_push, if_pos (by simp)]
  ·show (((w.heap.push _).push _).push _)[w.heap.size + 1]? = _; rw [Array.getElem?_push, if_neg (by simp), Array.getElem?_push, if_pos (by simp)]
  ·omega
  ·omega
  ·omega
  ·show w.heap.size + 1 + 1 < (((w.heap.push _).push _).push _).size; simp
  ·repeat (first | (with_reducible first | exact HB.out | apply below_alloc | apply pw_below_drewN | apply below_drew1) | exact HB.out)
 ·have hm : mn d 25 = 25 := by unfold mn; split <;> omega
  by_cases h25 : d = 25
  ·subst h25
   go_enter Tryd.func49, Tryd.ntmps49
   go_wp2
   go_ret
   refine ⟨w.heap.size + 1 + 1, w.heap.size + 1, rfl, ?_, ?_, ?_, ?_, ?_, ?_, ?_⟩
   ·rw [hm]; show (((w.heap.push _).push _).push _)[w.heap.size + 1 + 1]? = _; rw [Array.getElem?_push, if_pos (by simp)]
   ·show (((w.heap.push _).push _).push _)[w.heap.size + 1]? = _; rw [Array.getElem?_push, if_neg (by simp), Array.getElem?_push, if_pos (by simp)]
   ·omega
   ·omega
   ·omega
   ·show w.heap.size + 1 + 1 < (((w.heap.push _).push _).push _).size; simp
   ·repeat (first | (with_reducible first | exact HB.out | apply below_alloc | apply pw_below_drewN | apply below_drew1) | exact HB.out)
  ·have hd2 : 25 < d := by omega
   clear hd h25
   go_enter Tryd.func49, Tryd.ntmps49
   go_wp2
   go_ret
   refine ⟨w.heap.size + 1 + 1, w.heap.size + 1, rfl, ?_, ?_, ?_, ?_, ?_, ?_, ?_⟩
   ·rw [hm]; show (((w.heap.push _).push _).push _)[w.heap.size + 1 + 1]? = _; rw [Array.getElem?_push, if_pos (by simp)]
   ·show (((w.heap.push _).push _).push _)[w.heap.size + 1]? = _; rw [Array.getElem?_push, if_neg (by simp), Array.getElem?_push, if_pos (by simp)]
   ·omega
   ·omega
   ·omega
   ·show w.heap.size + 1 + 1 < (((w.heap.push _).push _).push _).size; simp
   ·repeat (first | (with_reducible first | exact HB.out | apply below_alloc | apply pw_below_drewN | apply below_drew1) | exact HB.out)


/-! ### impl_set_has: function 65 -/
def impl_set_has.f (a0 : Int) (a1 : Int) : Option (Bool) := if 0 ≤ a1 then (some ((Go.bits .and .u32 (shr .u32 a0 a1) 1) == 1)) else (none)
set_option maxHeartbeats 8000000 in
set_option maxRecDepth 100000 in
theorem impl_set_has.calls (a0 : Int) (a1 : Int) (r : Bool) (w : World) (h : impl_set_has.f a0 a1 = some r) :
  Calls Tryd.prog 65 #[.int .u32 a0, .int .i64 a1] w fun e w' => e = .returned (.bool r) ∧ Drawn0 w w' := by
 have H : (if 0 ≤ a1 then (some ((Go.bits .and .u32 (shr .u32 a0 a1) 1) == 1)) else (none)) = some r := h
 clear h
 by_cases c3 : 0 ≤ a1
 ·rw [if_pos c3] at H
  have c3b0 := eq_true c3
  have c3b1 : decide (0 ≤ a1) = true := decide_eq_true c3
  clear c3
  obtain ⟨ji4, hji4⟩ : ∃ j_ : Int, (shr .u32 a0 a1) = j_ := ⟨_, rfl⟩
  replace H : (some ((Go.bits .and .u32 (ji4) 1) == 1)) = some r := by first | (rw [hji4] at H; exact H) | (simp only [hji4] at H ⊢; exact H)
  have hji4_ : (a0 / 2 ^ min a1.toNat 32) = ji4 := hji4
  have hji4z : a1 ≤ 32 → (a0 / 2 ^ a1.toNat) = ji4 := shr_small hji4
  obtain rfl := Option.some.inj H
  go_enter Tryd.func65, Tryd.ntmps65
  go_wp2
  go_ret
  exact ⟨by first | rfl | (simp; done) | (simp only [← hji4] <;> (first | rfl | simp)) | (simp [*]; done), by repeat (first | exact Drawn0.refl _ | apply Drawn0.step)⟩
 ·rw [if_neg c3] at H
  exact absurd H (by simp)

/-! ### impl_spacing_can: function 90 -/
def impl_spacing_can.f (k : Nat) (s : Int) (r : Bool) (l : List Int) (d p : Int) : Option Bool := (impl_Row_taken.f k s r l).bind fun T => (impl_bench_nearest.f k s r p T).bind fun q => (impl_set_has.f T p).bind fun t => some (!t && (!q.2.2 || decide (q.2.1 ≥ d)))
theorem impl_spacing_can.mono : ∀ a0 a1 a2 a3 a4 k, LeO (impl_spacing_can.f k a0 a1 a2 a3 a4) (impl_spacing_can.f (k + 1) a0 a1 a2 a3 a4) := by
 intro a0 a1 a2 a3 a4 k
 unfold impl_spacing_can.f
 repeat' first
   | (with_reducible exact impl_Row_taken.mono _ _ _ _)
   | (with_reducible exact impl_bench_nearest.mono _ _ _ _ _)
   | (with_reducible exact LeO.refl _)
   | (with_reducible exact LeO.none _)
   | (with_reducible refine LeO.ite ?_ ?_)
   | (with_reducible refine LeO.bind ?_ (fun _ => ?_))
   | exact impl_Row_taken.mono _ _ _ _
   | exact impl_bench_nearest.mono _ _ _ _ _
   | exact LeO.none _
   | refine LeO.ite ?_ ?_
   | refine LeO.bind ?_ (fun _ => ?_)
set_option maxHeartbeats 8000000 in
set_option maxRecDepth 100000 in
theorem impl_spacing_can.calls (k : Nat) (g : Nat) (s : Int) (r : Bool) (A : Option Addr) (c : Nat) (l : List Int) (d : Int) (Aw : Option Addr) (nw cw mb : Nat) (p : Int) (res : Bool) (w : World) (hT : GT w) (hS : SpW w g s r A l.length c d Aw nw cw mb) (hr : Kd.C (Kd.int .i64) w A l.length l) (hc : l.length ≤ c) (h : impl_spacing_can.f k s r l d p = some res) :
  Calls Tryd.prog 90 #[.pointer (some ⟨g, 0, none⟩), .int .i64 p] w fun e w' => e = .returned (.bool res) ∧ Below w.heap.size w w' := by
 have hu28 := Tryd.underlying26
 unfold impl_spacing_can.f at h
 replace h := Option.bind_eq_some_iff.mp h
 obtain ⟨T, A10, h⟩ := h
 replace h := Option.bind_eq_some_iff.mp h
 obtain ⟨⟨q1, q2, q3⟩, A20, h⟩ := h
 replace h := Option.bind_eq_some_iff.mp h
 obtain ⟨t, A30, h⟩ := h
 have A1 := Aside0.mk A10
 have A2 := Aside0.mk A20
 have A3 := Aside0.mk A30
 clear A10 A20 A30
 have HC := Aside0.mk hc
 have HR := Aside0.mk hr
 have HS := Aside0.mk hS
 have HTT := Aside0.mk hT
 have HB := Aside0.mk (Below.refl w.heap.size w)
 obtain ⟨c0, c1, c2, c3, _, _⟩ := hS.cell
 clear hc hr hS hT
 obtain rfl := Option.some.inj h
 clear h
 go_enter Tryd.func90, Tryd.ntmps90
 go_wp2
 go_region_held3 (fun w' => Aside0 (Below w.heap.size w w') ∧ w'.cell? ⟨g, 0, none⟩ = some (.int .i64 s) ∧ w'.cell? ⟨g, 1, none⟩ = some (.bool r) ∧ w'.cell? ⟨g, 2, none⟩ = some (.slice A l.length c)) ((refine ⟨?_, ?_, ?_, ?_⟩ <;> (first | assumption | exact keep_c c0 (below_drew1 (‹Aside0 (Below w.heap.size w _)›).out) | exact keep_c c1 (below_drew1 (‹Aside0 (Below w.heap.size w _)›).out) | exact keep_c c2 (below_drew1 (‹Aside0 (Below w.heap.size w _)›).out) | exact ⟨below_drew1 (‹Aside0 (Below w.heap.size w _)›).out⟩ | exact keep_c c0 (‹Aside0 (Below w.heap.size w _)›).out | exact keep_c c1 (‹Aside0 (Below w.heap.size w _)›).out | exact keep_c c2 (‹Aside0 (Below w.heap.size w _)›).out))) ((first | (go_at_call 42; refine (impl_Row_bench.calls _ _ _ _ l _ _ _ (Kd.C_below HR.out (‹Aside0 (Below w.heap.size w _) ∧ _›).1.out) HC.out rfl).mono ?_; rintro e w' ⟨rfl, hb⟩; have HBn := Aside0.mk (below_step (‹Aside0 (Below w.heap.size w _) ∧ _›).1.out hb); clear hb) | (go_at_call 44; refine (impl_Row_taken.calls k _ _ _ _ l T _ (Kd.C_below HR.out (‹Aside0 (Below w.heap.size w _) ∧ _›).1.out) HC.out A1.out).mono ?_; rintro e w' ⟨rfl, hb⟩; have HBn := Aside0.mk (below_step (‹Aside0 (Below w.heap.size w _) ∧ _›).1.out hb); clear hb) | (go_at_call 78; refine (impl_bench_nearest.calls k s r p T q1 q2 q3 _ (GT.below HTT.out (‹Aside0 (Below w.heap.size w _) ∧ _›).1.out) A2.out).mono ?_; rintro e w' ⟨rfl, hb⟩; have HBn := Aside0.mk (below_step (‹Aside0 (Below w.heap.size w _) ∧ _›).1.out hb); clear hb)))
 all_goals (
  have HBm := ‹Aside0 (Below w.heap.size w _)›
  have d0 := keep_c c0 HBm.out
  have d1 := keep_c c1 HBm.out
  have d2 := keep_c c2 HBm.out
  have d3 := keep_c c3 HBm.out
  cases t <;> cases q3 <;>
  ((go_wp2_with (first | (go_at_call 44; refine (impl_Row_taken.calls k _ _ _ _ l T _ (Kd.C_below HR.out HBm.out) HC.out A1.out).mono ?_; rintro e w' ⟨rfl, hb⟩; have HBn := Aside0.mk (below_step HBm.out hb); have e3 := keep_c c3 HBn.out; clear hb) | (go_at_call 65; refine (impl_set_has.calls T p _ _ A3.out).mono ?_; rintro e w' ⟨rfl, ⟨nd, rfl⟩⟩)));
   go_ret;
   exact ⟨by first | rfl | (simp; done) | (simp [*]; done), by repeat (first | (with_reducible first | exact (‹Aside0 (Below w.heap.size w _)›).out | apply below_alloc | apply pw_below_drewN | apply below_drew1) | exact (‹Aside0 (Below w.heap.size w _)›).out)⟩))


end Go.Proofs.YtaebbgkoaaigbaaDoor.PFnSpread
