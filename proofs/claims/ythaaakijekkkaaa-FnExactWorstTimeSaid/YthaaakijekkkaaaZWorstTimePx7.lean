/- Proved: each Go function named here, called, comes to the answer of the Lean function beside it. Conditions: those that stand in each theorem. (Printed by this session's own turned copy of a printing program.) -/
import Derived.Test.YthaaakijekkkaaaZWorstTimePx0
import Derived.Test.YthaaakijekkkaaaZWorstTimePx1
import Derived.Test.YthaaakijekkkaaaZWorstTimePx4
import Derived.Test.YthaaakijekkkaaaZWorstTimePx6
namespace Go.Proofs.Ythaaakijekkkaaa.PFnExactWorstTime
open Go.RowKit Go.Proofs.YthaaakijekkkaaaW.PrintWords Go.Proofs.YthaaakijekkkaaaW.PrintLast Go.Proofs.YthaaakijekkkaaaW.PrintMore
attribute [local go_sem] max2_int min2_int max_two min_two max_three min_three max_four min_four   -- for this text's walks alone
set_option linter.unusedVariables false
set_option linter.unusedSimpArgs false

attribute [local go_sem high] eqArr40
/-! ### impl_WorstTime: function 38 -/
def impl_WorstTime.f (k : Nat) (n s : Int) : Option (Int × List Int × Bool) := (impl_enterings.f visWorst k n s (0, [])).bind fun o => some (o.1.1, o.1.2, o.2)
def impl_WorstTime.T3 : Bool × List (List Nat × List Nat) := (true, [([], []), ([], []), ([], []), ([0, 0], [0]), ([1, 3, 0, 1, 3], [1]), ([2, 4, 0, 1, 2, 3, 4], [2])])
def impl_WorstTime.B3 : List Nat := [0, 0, 0, 1, 11, 31]
theorem impl_WorstTime.tab3 : rtab .any (opsOf Try.f38 3) = impl_WorstTime.T3 := by kernel_rfl
theorem impl_WorstTime.bits3 : waitsOk impl_WorstTime.T3.2 impl_WorstTime.B3 = true := by kernel_rfl
set_option maxHeartbeats 8000000 in
set_option maxRecDepth 100000 in
theorem impl_WorstTime.calls (k : Nat) (a0 a1 : Int) (r1 : Int) (r2 : List Int) (r3 : Bool) (w : World) (h : impl_WorstTime.f k a0 a1 = some (r1, r2, r3)) :
    Calls Try.prog 38 #[.int .i64 a0, .int .i64 a1] w fun e w' => ∃ v1_ : Value, e = .returned (.tuple #[.int .i64 r1, v1_, .bool r3]) ∧ Kd.R (Kd.int .i64) 3 w' w.heap.size (fun _ => True) v1_ r2 ∧ Below w.heap.size w w' := by
  have hdyn60 : ∀ (args : Array Value) (w : World), (callFunc 60 args).run Try.prog w = .ok (.enter 60 args) w := fun args w => enters_ Try.func60 rfl rfl args w
  have hmf : ∀ (fn : Fn) (first cap : Array Value) (w : World), (Instr.makeFunc fn first cap).run Try.prog w = .ok (.func fn first cap) w := fun _ _ _ _ => rfl
  have HB := Aside0.mk (Below.refl w.heap.size w)
  unfold impl_WorstTime.f at h
  replace h := Option.bind_eq_some_iff.mp h
  obtain ⟨⟨o1, ob⟩, A10, H⟩ := h
  have A2 := Aside0.mk A10
  clear A10
  simp only [Option.some.injEq, Prod.mk.injEq] at H
  obtain ⟨rfl, rfl, rfl⟩ := H
  go_enter Try.func38, Try.ntmps38
  go_wp2_with (first | ((with_reducible refine gate_dst (N := 7) rfl ?_); refine box_event ?hg (N := 7) ?hd (cs := #[.int .i64 0]) (t := 3) ?hr ?_; (case hd => rfl); (case hg => rfl); (case hr => first | (go_simp; done) | (go_simp; rfl)); intro gw hg_ w5_ hbox hb; have Ggw := Aside0.mk (show w.heap.size ≤ gw by rw [hg_]; exact below_size HB.out);  have n0_ := Aside0.mk (below_step HB.out hb); have BW := Aside0.mk hbox;  clear HB; have HB := n0_; clear n0_; clear hbox hb hg_) | ((with_reducible refine gate_dst (N := 8) rfl ?_); refine box_event ?hg (N := 8) ?hd (cs := #[.slice none 0 0]) (t := 24) ?hr ?_; (case hd => rfl); (case hg => rfl); (case hr => first | (go_simp; done) | (go_simp; rfl)); intro gf hg_ w6_ hbox hb; have Ggf := Aside0.mk (show w.heap.size ≤ gf by rw [hg_]; exact below_size HB.out); have NBWBF := Aside0.mk (show gw ≠ gf by have h_ := blk_lt BW.out; omega);  have n0_ := Aside0.mk (below_step HB.out hb); have BF := Aside0.mk hbox; have m_ := Aside0.mk (blk_below BW.out hb); clear BW; have BW := m_; clear m_;  clear HB; have HB := n0_; clear n0_; clear hbox hb hg_) | ((with_reducible refine gate_store (t := 3) (p := 7) rfl ?_); have c0_ := (blk_cell BW.out 0).trans rfl; have f0_ := blk_frozen BW.out 0;  refine store_event (t := 3) (p := 7) (v := ?vow7_) (w1 := (w6_.setCell ⟨gw, 0, none⟩ (.int .i64 0))) ?hg ?ho ?hn ?hr ?_; (case ho => rfl); (case hg => rfl); (case hn => rfl); (case hr => first | (go_simp; done) | (go_simp; rfl)); intro w7_ hw; have n0_ := Aside0.mk (show Below w.heap.size w w7_ by rw [hw]; exact (below_set HB.out Ggw.out)); have m_ := Aside0.mk (show w7_.heap[gf]? = some (.cells #[.slice none 0 0] 24 (0, 0)) by rw [hw]; exact (blk_far BF.out (Ne.symm NBWBF.out) _)); clear BF; have BF := m_; clear m_;  have m_ := Aside0.mk (show w7_.heap[gw]? = some (.cells #[.int .i64 0] 3 (0, 0)) by rw [hw]; exact (blk_set BW.out 0 _)); clear BW; have BW := m_; clear m_;  clear HB; (try clear c0_); (try clear f0_); (try clear c1_); (try clear f1_); clear hw; have HB := n0_; clear n0_; skip) | ((with_reducible refine gate_store (t := 24) (p := 8) rfl ?_); have c0_ := (blk_cell BF.out 0).trans rfl; have f0_ := blk_frozen BF.out 0;  refine store_event (t := 24) (p := 8) (v := ?vow8_) (w1 := (w7_.setCell ⟨gf, 0, none⟩ (.slice none 0 0))) ?hg ?ho ?hn ?hr ?_; (case ho => rfl); (case hg => rfl); (case hn => rfl); (case hr => first | (go_simp; done) | (go_simp; rfl)); intro w8_ hw; have n0_ := Aside0.mk (show Below w.heap.size w w8_ by rw [hw]; exact (below_set HB.out Ggf.out)); have m_ := Aside0.mk (show w8_.heap[gw]? = some (.cells #[.int .i64 0] 3 (0, 0)) by rw [hw]; exact (blk_far BW.out NBWBF.out _)); clear BW; have BW := m_; clear m_;  have m_ := Aside0.mk (show w8_.heap[gf]? = some (.cells #[.slice none 0 0] 24 (0, 0)) by rw [hw]; exact (blk_set BF.out 0 _)); clear BF; have BF := m_; clear m_;  clear HB; (try clear c0_); (try clear f0_); (try clear c1_); (try clear f1_); clear hw; have HB := n0_; clear n0_; skip) | (go_at_call 57; (refine (impl_enterings.calls (impl_WorstTime_1.vis w gw gf NBWBF.out Ggw.out Ggf.out) hdyn60 k a0 a1 (0, []) o1 ob _ (fun k_ => k_ = gw ∨ k_ = gf ∨ some k_ = (Value.slice none 0 0).ownBlock) ⟨.slice none 0 0, rfl, BW.out, BF.out, Kd.R_nil _ _ _ _ _⟩ HB.out A2.out).mono ?_); rintro e w9_ ⟨F2, rfl, hV2, hF2, hK2, hB2⟩; obtain ⟨vo, hF3, hw2, hf2, hR2⟩ := hV2; clear BW BF HB; have HB := Aside0.mk hB2; have BW := Aside0.mk hw2; have BF := Aside0.mk hf2; have RO := Aside0.mk hR2; clear hF3 hw2 hf2 hR2 hF2 hK2 hB2))
  refine start_ (n := 6) (S := fun w' => w'.cell? ⟨gw, 0, none⟩ = some (.int .i64 o1.1) ∧ w'.cell? ⟨gf, 0, none⟩ = some vo) (ds := []) #[false, false, false, false, false, false] (by kernel_rfl) rfl rfl ⟨(blk_cell (blk_drew BW.out) 0).trans rfl, (blk_cell (blk_drew BF.out) 0).trans rfl⟩ (fun hHeld => ?_)
  refine with_tabW impl_WorstTime.tab3 impl_WorstTime.bits3 (fun HT_ HW_ => ?_)
  have n0_ := Aside0.mk (below_drew1 HB.out)
  have n1_ := Aside0.mk (Kd.R_drew RO.out)
  clear HB RO BW BF
  have HB := n0_
  have RO := n1_
  clear n0_ n1_
  generalize World.drew _ = w11 at HB RO hHeld ⊢
  refine pure_ (i := 2) (N := some 16) (v := ?_) (a' := ?_) #[false, false, true, false, false, false] rfl rfl (any_of HT_.out (by kernel_rfl)) (fun _ _ _ h => h) (Or.inl ⟨by rfl, ?_⟩) ?_ ?_
  rotate_left
  · intro w'
    go_simp
    with_reducible rfl
  rotate_left
  · simp only [Act.put, List.setIfInBounds_toArray, List.set_cons_zero, List.set_cons_succ, i64_w, i32_w]
    rfl
  refine take_ (i := 0) (N := some 14) (v := ?_) (a' := ?_) #[true, false, true, false, false, false] rfl rfl (take_ofW HT_.out HW_.out (by kernel_rfl)) (fun _ _ _ h => h) (Or.inl ⟨by rfl, ?_⟩) hHeld ?_ ?_
  rotate_left
  · rintro w' ⟨s0, s1⟩
    go_simp
    with_reducible rfl
  rotate_left
  · simp only [Act.put, List.setIfInBounds_toArray, List.set_cons_zero, List.set_cons_succ, i64_w, i32_w]
    rfl
  refine pure_ (i := 3) (N := some 4) (v := ?_) (a' := ?_) #[true, false, true, true, false, false] rfl rfl (any_of HT_.out (by kernel_rfl)) (fun _ _ _ h => h) (Or.inl ⟨by rfl, ?_⟩) ?_ ?_
  rotate_left
  · intro w'
    go_simp
    with_reducible rfl
  rotate_left
  · simp only [Act.put, List.setIfInBounds_toArray, List.set_cons_zero, List.set_cons_succ, i64_w, i32_w]
    rfl
  refine take_ (i := 1) (N := some 15) (v := ?_) (a' := ?_) #[true, true, true, true, false, false] rfl rfl (take_ofW HT_.out HW_.out (by kernel_rfl)) (fun _ _ _ h => h) (Or.inl ⟨by rfl, ?_⟩) hHeld ?_ ?_
  rotate_left
  · rintro w' ⟨s0, s1⟩
    go_simp
    with_reducible rfl
  rotate_left
  · simp only [Act.put, List.setIfInBounds_toArray, List.set_cons_zero, List.set_cons_succ, i64_w, i32_w]
    rfl
  refine pure_ (i := 4) (N := some 5) (v := ?_) (a' := ?_) #[true, true, true, true, true, false] rfl rfl (any_of HT_.out (by kernel_rfl)) (fun _ _ _ h => h) (Or.inl ⟨by rfl, ?_⟩) ?_ ?_
  rotate_left
  · intro w'
    go_simp
    with_reducible rfl
  rotate_left
  · simp only [Act.put, List.setIfInBounds_toArray, List.set_cons_zero, List.set_cons_succ, i64_w, i32_w]
    rfl
  refine pure_ (i := 5) (N := some 6) (v := ?_) (a' := ?_) #[true, true, true, true, true, true] rfl rfl (any_of HT_.out (by kernel_rfl)) (fun _ _ _ h => h) (Or.inl ⟨by rfl, ?_⟩) ?_ ?_
  rotate_left
  · intro w'
    go_simp
    with_reducible rfl
  rotate_left
  · simp only [Act.put, List.setIfInBounds_toArray, List.set_cons_zero, List.set_cons_succ, i64_w, i32_w]
    rfl
  refine done_ (done_of HT_.out (by kernel_rfl)) ?_

  try go_wp2
  go_ret3
  exact ⟨_, rfl, Kd.R_mono RO.out (fun _ _ => trivial), HB.out⟩


/-! ### laws_FnExactWorstTime: function 11 -/
mutual
def laws_FnExactWorstTime.j0 : Nat → Int → Int → Int → List Int → Bool → List Int → Bool → Option (Bool)
  | 0, _, _, _, _, _, _, _ => none
  | k + 1, x0, x1, x5, x6, x7, x9, x43 => if x43 = true then (some false) else ((laws_markIntS.f k x9 1).bind fun bt308 => ((laws_heldIntS.f k bt308.2 1).bind fun t310 => (if t310 < 0 then (some false) else (if t310 = bt308.1 then ((impl_WorstTime.f k x0 x1).bind fun bt311 => (if bt311.1 = x5 then ((laws_eqIntS.f k bt311.2.1 x6).bind fun t316 => (if t316 = true then (laws_FnExactWorstTime.j1 k bt308.2 bt308.1 (bt311.2.2 != x7)) else (laws_FnExactWorstTime.j1 k bt308.2 bt308.1 true))) else (laws_FnExactWorstTime.j1 k bt308.2 bt308.1 true))) else (some false)))))
def laws_FnExactWorstTime.j1 : Nat → List Int → Int → Bool → Option (Bool)
  | 0, _, _, _ => none
  | k + 1, x9, x11, x75 => if x75 = true then (some false) else ((laws_heldIntS.f k x9 1).bind fun t317 => (if t317 < 0 then (some false) else (if t317 = x11 then (some true) else (some false))))
end
def laws_FnExactWorstTime.f (k : Nat) (a0 : Int) (a1 : Int) : Option (Bool) := (spec_WorstTime.f k a0 a1).bind fun bt297 => ((impl_WorstTime.f k a0 a1).bind fun bt302 => (if bt302.1 = bt297.1 then ((laws_eqIntS.f k bt302.2.1 bt297.2.1).bind fun t307 => (if t307 = true then (laws_FnExactWorstTime.j0 k a0 a1 bt297.1 bt297.2.1 bt297.2.2 bt302.2.1 (bt302.2.2 != bt297.2.2)) else (laws_FnExactWorstTime.j0 k a0 a1 bt297.1 bt297.2.1 bt297.2.2 bt302.2.1 true))) else (laws_FnExactWorstTime.j0 k a0 a1 bt297.1 bt297.2.1 bt297.2.2 bt302.2.1 true)))
theorem laws_FnExactWorstTime.j0_no (k : Nat) (y0 : Int) (y1 : Int) (y2 : Int) (y3 : List Int) (y4 : Bool) (y5 : List Int) (r : Bool) (h : laws_FnExactWorstTime.j0 k y0 y1 y2 y3 y4 y5 true = some r) : false = r := by
  cases k with
  | zero => exact absurd h (by simp [laws_FnExactWorstTime.j0])
  | succ k => simp only [laws_FnExactWorstTime.j0] at h; first | (rw [if_pos rfl] at h; exact Option.some.inj h) | (rw [if_pos trivial] at h; exact Option.some.inj h)
theorem laws_FnExactWorstTime.j1_no (k : Nat) (y0 : List Int) (y1 : Int) (r : Bool) (h : laws_FnExactWorstTime.j1 k y0 y1 true = some r) : false = r := by
  cases k with
  | zero => exact absurd h (by simp [laws_FnExactWorstTime.j1])
  | succ k => simp only [laws_FnExactWorstTime.j1] at h; first | (rw [if_pos rfl] at h; exact Option.some.inj h) | (rw [if_pos trivial] at h; exact Option.some.inj h)
set_option maxHeartbeats 8000000 in
set_option maxRecDepth 100000 in
theorem laws_FnExactWorstTime.calls (k : Nat) (a0 : Int) (a1 : Int) (r : Bool) (w : World) (hr1_ : r = true) (h : laws_FnExactWorstTime.f k a0 a1 = some r) :
    Calls Try.prog 11 #[.int .i64 a0, .int .i64 a1] w fun e w' => e = .returned (.bool r) ∧ Below w.heap.size w w' := by
  have HRV := Aside0.mk hr1_
  clear hr1_
  have HB := Aside0.mk (Below.refl w.heap.size w)
  have H : ((spec_WorstTime.f k a0 a1).bind fun bt297 => ((impl_WorstTime.f k a0 a1).bind fun bt302 => (if bt302.1 = bt297.1 then ((laws_eqIntS.f k bt302.2.1 bt297.2.1).bind fun t307 => (if t307 = true then (laws_FnExactWorstTime.j0 k a0 a1 bt297.1 bt297.2.1 bt297.2.2 bt302.2.1 (bt302.2.2 != bt297.2.2)) else (laws_FnExactWorstTime.j0 k a0 a1 bt297.1 bt297.2.1 bt297.2.2 bt302.2.1 true))) else (laws_FnExactWorstTime.j0 k a0 a1 bt297.1 bt297.2.1 bt297.2.2 bt302.2.1 true)))) = some r := h
  clear h
  replace H := Option.bind_eq_some_iff.mp H
  obtain ⟨⟨t297, t298, t301⟩, A30, H⟩ := H
  replace H : ((impl_WorstTime.f k a0 a1).bind fun bt302 => (if bt302.1 = t297 then ((laws_eqIntS.f k bt302.2.1 t298).bind fun t307 => (if t307 = true then (laws_FnExactWorstTime.j0 k a0 a1 t297 t298 t301 bt302.2.1 (bt302.2.2 != t301)) else (laws_FnExactWorstTime.j0 k a0 a1 t297 t298 t301 bt302.2.1 true))) else (laws_FnExactWorstTime.j0 k a0 a1 t297 t298 t301 bt302.2.1 true))) = some r := H
  have A3 := Aside0.mk A30
  clear A30
  replace H := Option.bind_eq_some_iff.mp H
  obtain ⟨⟨t302, t303, t304⟩, A40, H⟩ := H
  replace H : (if t302 = t297 then ((laws_eqIntS.f k t303 t298).bind fun t307 => (if t307 = true then (laws_FnExactWorstTime.j0 k a0 a1 t297 t298 t301 t303 (t304 != t301)) else (laws_FnExactWorstTime.j0 k a0 a1 t297 t298 t301 t303 true))) else (laws_FnExactWorstTime.j0 k a0 a1 t297 t298 t301 t303 true)) = some r := H
  have A4 := Aside0.mk A40
  clear A40
  have HC5 := Aside0.mk H
  clear H
  go_enter Try.func11, Try.ntmps11
  go_upto_region 3 with (first | ((with_reducible refine gate_callee (f := 37) rfl ?_); refine goesL_ (some 19) rfl rfl Try.func37 (by kernel_rfl) rfl #[.int .i64 a0, .int .i64 a1] rfl (by (try simp only [List.map_toArray, List.map_cons, List.map_nil]); first | done | rfl | (simp only [List.length_drop, List.length_take]; rfl)) ?_; (with_reducible refine (spec_WorstTime.calls k a0 a1 t297 t298 t301 _ A3.out).mono ?_); rintro e w6 ⟨v299, rfl, ho0, hb⟩; refine ⟨_, rfl, ?_⟩; have n0_ := Aside0.mk (Kd.V_lower (Kd.V_mono (ok' := fun k_ => True) ho0 (fun k_ hk_ => trivial)) (below_size (by repeat (first | (with_reducible first | exact HB.out | apply below_alloc | apply pw_below_drewN | apply below_drew1) | exact HB.out)))); have n1_ := Aside0.mk (below_step (by repeat (first | (with_reducible first | exact HB.out | apply below_alloc | apply pw_below_drewN | apply below_drew1) | exact HB.out)) hb); clear HB; have HO300 := n0_; have HB := n1_; clear n0_ n1_; (try clear hb); (try clear hb2); (try clear hk); (try clear hi); (try clear ho0)) | ((with_reducible refine gate_callee (f := 38) rfl ?_); refine goesL_ (some 26) rfl rfl Try.func38 (by kernel_rfl) rfl #[.int .i64 a0, .int .i64 a1] rfl (by (try simp only [List.map_toArray, List.map_cons, List.map_nil]); first | done | rfl | (simp only [List.length_drop, List.length_take]; rfl)) ?_; (with_reducible refine (impl_WorstTime.calls k a0 a1 t302 t303 t304 _ A4.out).mono ?_); rintro e w7 ⟨v305, rfl, ho0, hb⟩; refine ⟨_, rfl, ?_⟩; have n0_ := Aside0.mk (Kd.V_elder' (by (with_reducible repeat (first | apply Kd.V_alloc | apply Kd.V_drewN | apply Kd.V_drew)); exact HO300.out) (Kd.R_base ho0) hb); have n1_ := Aside0.mk (Kd.R_lower ho0 (below_size (by repeat (first | (with_reducible first | exact HB.out | apply below_alloc | apply pw_below_drewN | apply below_drew1) | exact HB.out)))); have n2_ := Aside0.mk (below_step (by repeat (first | (with_reducible first | exact HB.out | apply below_alloc | apply pw_below_drewN | apply below_drew1) | exact HB.out)) hb); clear HO300; clear HB; have HO300 := n0_; have HO306 := n1_; have HB := n2_; clear n0_ n1_ n2_; (try clear hb); (try clear hb2); (try clear hk); (try clear hi); (try clear ho0)))
  (try simp only [Act.put, List.setIfInBounds_toArray, List.set_cons_zero, List.set_cons_succ])
  go_cut [43] (fun v43 wc => ∃ (kq : Nat) (x43_4 : Bool), v43 = .bool x43_4 ∧ Aside0 (laws_FnExactWorstTime.j0 kq a0 a1 t297 t298 t301 t303 x43_4 = some r) ∧ Aside0 (kq ≤ k) ∧ Aside0 (Kd.V (Kd.int .i64) 3 wc w.heap.size (fun k_ => some k_ ≠ (v305 : Value).ownBlock) v299 t298) ∧ Aside0 (Kd.R (Kd.int .i64) 3 wc w.heap.size (fun _ => True) v305 t303) ∧ Aside0 (Below w.heap.size w wc))
  case first =>
    have H := HC5.out
    clear HC5
    by_cases c8 : t302 = t297
    · rw [if_pos c8] at H
      have c8b0 : (t302 == t297) = true := beq_iff_eq.mpr c8
      have c8b1 : (t302 != t297) = false := bne_eq_false_iff_eq.mpr c8
      clear c8
      (first | rw [c8b0] | (simp only [i64_w, i32_w]; rw [c8b0]) | rw [c8b1] | skip)
      replace H := Option.bind_eq_some_iff.mp H
      obtain ⟨t307, A90, H⟩ := H
      replace H : (if t307 = true then (laws_FnExactWorstTime.j0 k a0 a1 t297 t298 t301 t303 (t304 != t301)) else (laws_FnExactWorstTime.j0 k a0 a1 t297 t298 t301 t303 true)) = some r := H
      have A9 := Aside0.mk A90
      clear A90
      by_cases c10 : t307 = true
      · subst c10
        have H1 : (laws_FnExactWorstTime.j0 k a0 a1 t297 t298 t301 t303 (t304 != t301)) = some r := by rw [if_pos rfl] at H; exact H
        clear H
        have H := H1
        clear H1
        have H' := Aside0.mk H
        clear H
        obtain ⟨Ao11, co11, eo11⟩ := Kd.R_slice HO306.out
        subst eo11
        obtain ⟨Ao12, co12, eo12⟩ := Kd.V_slice HO300.out
        subst eo12
        go_wp2_with (first | (go_at_call 16; (with_reducible refine (laws_eqIntS.calls k _ _ t303 _ _ t298 true _ ?side1 ?side2 ?side3 ?side4 A9.out).mono ?_); (case side1 => repeat (first | exact (Kd.R_reads' HO306.out).2.2 | (with_reducible refine Kd.C_alloc ?_ _) | (with_reducible refine Kd.C_drewN ?_ _) | (with_reducible refine Kd.C_drew ?_))); (case side2 => exact (Kd.R_reads' HO306.out).2.1); (case side3 => repeat (first | exact (Kd.V_reads' HO300.out).2.2 | (with_reducible refine Kd.C_alloc ?_ _) | (with_reducible refine Kd.C_drewN ?_ _) | (with_reducible refine Kd.C_drew ?_))); (case side4 => exact (Kd.V_reads' HO300.out).2.1); rintro e w' ⟨rfl, ⟨nd, rfl⟩⟩))
        go_meet
        case rel => exact ⟨_, ((t304 != t301)), (by first | rfl | (simp; done) | (simp [*]; done)), H', ⟨by first | omega | exact Nat.le_refl _⟩, ⟨by (with_reducible repeat (first | apply Kd.V_alloc | apply Kd.V_drewN | apply Kd.V_drew)); exact Kd.V_mono HO300.out (fun _ hk => hk.2)⟩, ⟨by (with_reducible repeat (first | apply Kd.R_alloc | apply Kd.R_drewN | apply Kd.R_drew)); exact HO306.out⟩, ⟨by repeat (first | (with_reducible first | exact HB.out | apply below_alloc | apply pw_below_drewN | apply below_drew1) | exact HB.out)⟩⟩
      · replace c10 := Bool.eq_false_iff.mpr c10
        subst c10
        have H1 : (laws_FnExactWorstTime.j0 k a0 a1 t297 t298 t301 t303 true) = some r := by rw [if_neg (show ¬ (false = true) by decide)] at H; exact H
        clear H
        have H := H1
        clear H1
        exact absurd ((laws_FnExactWorstTime.j0_no _ _ _ _ _ _ _ _ H).trans HRV.out) (by decide)
    · rw [if_neg c8] at H
      have c8b0 : (t302 == t297) = false := beq_eq_false_iff_ne.mpr c8
      have c8b1 : (t302 != t297) = true := bne_iff_ne.mpr c8
      (first | rw [c8b0] | (simp only [i64_w, i32_w]; rw [c8b0]) | rw [c8b1] | skip)
      exact absurd ((laws_FnExactWorstTime.j0_no _ _ _ _ _ _ _ _ H).trans HRV.out) (by decide)
  case rest =>
    clear HC5
    try clear c1
    try clear p2
    try clear c3
    try clear c8
    try clear c8b0
    try clear c8b1
    try clear c10
    try clear c11
    obtain ⟨kq, x43_4, rfl, HA, HJ4, HO_6, HO_9, HB⟩ := hcut
    cases kq with
    | zero => exact absurd HA.out (by simp [laws_FnExactWorstTime.j0])
    | succ kj4 =>
      have H := HA.out
      clear HA
      simp only [laws_FnExactWorstTime.j0] at H
      by_cases c13 : x43_4 = true
      · subst c13
        have H1 : (some false) = some r := by rw [if_pos rfl] at H; exact H
        clear H
        have H := H1
        clear H1
        exact absurd ((Option.some.inj H).trans HRV.out) (by decide)
      · replace c13 := Bool.eq_false_iff.mpr c13
        subst c13
        have H1 : ((laws_markIntS.f kj4 t303 1).bind fun bt308 => ((laws_heldIntS.f kj4 bt308.2 1).bind fun t310 => (if t310 < 0 then (some false) else (if t310 = bt308.1 then ((impl_WorstTime.f kj4 a0 a1).bind fun bt311 => (if bt311.1 = t297 then ((laws_eqIntS.f kj4 bt311.2.1 t298).bind fun t316 => (if t316 = true then (laws_FnExactWorstTime.j1 kj4 bt308.2 bt308.1 (bt311.2.2 != t301)) else (laws_FnExactWorstTime.j1 kj4 bt308.2 bt308.1 true))) else (laws_FnExactWorstTime.j1 kj4 bt308.2 bt308.1 true))) else (some false))))) = some r := by rw [if_neg (show ¬ (false = true) by decide)] at H; exact H
        clear H
        have H := H1
        clear H1
        replace H := Option.bind_eq_some_iff.mp H
        obtain ⟨⟨t308, t309⟩, A140, H⟩ := H
        replace H : ((laws_heldIntS.f kj4 t309 1).bind fun t310 => (if t310 < 0 then (some false) else (if t310 = t308 then ((impl_WorstTime.f kj4 a0 a1).bind fun bt311 => (if bt311.1 = t297 then ((laws_eqIntS.f kj4 bt311.2.1 t298).bind fun t316 => (if t316 = true then (laws_FnExactWorstTime.j1 kj4 t309 t308 (bt311.2.2 != t301)) else (laws_FnExactWorstTime.j1 kj4 t309 t308 true))) else (laws_FnExactWorstTime.j1 kj4 t309 t308 true))) else (some false)))) = some r := H
        have A14 := Aside0.mk A140
        clear A140
        replace H := Option.bind_eq_some_iff.mp H
        obtain ⟨t310, A150, H⟩ := H
        replace H : (if t310 < 0 then (some false) else (if t310 = t308 then ((impl_WorstTime.f kj4 a0 a1).bind fun bt311 => (if bt311.1 = t297 then ((laws_eqIntS.f kj4 bt311.2.1 t298).bind fun t316 => (if t316 = true then (laws_FnExactWorstTime.j1 kj4 t309 t308 (bt311.2.2 != t301)) else (laws_FnExactWorstTime.j1 kj4 t309 t308 true))) else (laws_FnExactWorstTime.j1 kj4 t309 t308 true))) else (some false))) = some r := H
        have A15 := Aside0.mk A150
        clear A150
        by_cases c16 : t310 < 0
        · rw [if_pos c16] at H
          have c16b0 : decide (t310 < 0) = true := decide_eq_true c16
          clear c16
          exact absurd ((Option.some.inj H).trans HRV.out) (by decide)
        · rw [if_neg c16] at H
          have c16b0 : decide (t310 < 0) = false := decide_eq_false c16
          clear c16
          by_cases c17 : t310 = t308
          · rw [if_pos c17] at H
            have c17b0 : (t310 == t308) = true := beq_iff_eq.mpr c17
            have c17b1 : (t310 != t308) = false := bne_eq_false_iff_eq.mpr c17
            clear c17
            replace H := Option.bind_eq_some_iff.mp H
            obtain ⟨⟨t311, t312, t313⟩, A180, H⟩ := H
            replace H : (if t311 = t297 then ((laws_eqIntS.f kj4 t312 t298).bind fun t316 => (if t316 = true then (laws_FnExactWorstTime.j1 kj4 t309 t308 (t313 != t301)) else (laws_FnExactWorstTime.j1 kj4 t309 t308 true))) else (laws_FnExactWorstTime.j1 kj4 t309 t308 true)) = some r := H
            have A18 := Aside0.mk A180
            clear A180
            have HC19 := Aside0.mk H
            clear H
            obtain ⟨Ao20, co20, eo20⟩ := Kd.R_slice HO_9.out
            subst eo20
            go_upto_region 14 with (first | ((with_reducible refine gate_callee (f := 19) rfl ?_); refine goesL_ (some 46) rfl rfl Try.func19 (by kernel_rfl) rfl #[.slice Ao20 t303.length co20, .int .i64 1] rfl (by (try simp only [List.map_toArray, List.map_cons, List.map_nil]); first | done | rfl | (simp only [List.length_drop, List.length_take]; rfl)) ?_; (with_reducible refine (laws_markIntS.calls kj4 (fun k_ => some k_ = (.slice Ao20 t303.length co20 : Value).ownBlock) (.slice Ao20 t303.length co20) t303 1 t308 t309 w _ ?side1 ?side2 A14.out).mono ?_); (case side1 => repeat (first | (with_reducible first | exact HB.out | apply below_alloc | apply pw_below_drewN | apply below_drew1) | exact HB.out)); (case side2 => exact Kd.R_tight rfl HO_9.out); rintro e w21 ⟨rfl, hy0, hb, hkp⟩; refine ⟨_, rfl, ?_⟩; have n0_ := Aside0.mk (Kd.V_mono (ok' := fun k_ => some k_ ≠ (.slice Ao20 t303.length co20 : Value).ownBlock) (Kd.V_keptB (HO_6.out) hkp (fun k_ hk_ hs_ => (hk_) hs_)) (fun k_ hk_ => hk_.1)); have n1_ := Aside0.mk (Kd.R_reok rfl hy0 (fun k_ e_ => HO_9.out.1 k_ e_)); have n2_ := Aside0.mk (hb); clear HO_6; clear HO_9; clear HB; have HO_6 := n0_; have HO_9 := n1_; have HB := n2_; clear n0_ n1_ n2_; (try clear hb); (try clear hkp); (try clear hy0)) | ((with_reducible refine gate_callee (f := 20) rfl ?_); refine goesL_ (some 49) rfl rfl Try.func20 (by kernel_rfl) rfl #[.slice Ao20 t309.length co20, .int .i64 1] rfl (by (try simp only [List.map_toArray, List.map_cons, List.map_nil]); first | done | (rw [show t309.length = t303.length from (Kd.R_reads' HO_9.out).1.symm] <;> rfl) | rfl | (simp only [List.length_drop, List.length_take]; rfl)) ?_; (with_reducible refine (laws_heldIntS.calls kj4 _ _ t309 1 t310 _ ?side1 ?side2 A15.out).mono ?_); (case side1 => repeat (first | exact (Kd.R_reads' HO_9.out).2.2 | (with_reducible refine Kd.C_alloc ?_ _) | (with_reducible refine Kd.C_drewN ?_ _) | (with_reducible refine Kd.C_drew ?_))); (case side2 => rw [show t309.length = t303.length from (Kd.R_reads' HO_9.out).1.symm]; exact (Kd.R_reads' HO_9.out).2.1); rintro e w' ⟨rfl, ⟨nd, rfl⟩⟩; refine ⟨_, rfl, ?_⟩) | ((with_reducible refine gate_callee (f := 38) rfl ?_); refine goesL_ (some 58) rfl rfl Try.func38 (by kernel_rfl) rfl #[.int .i64 a0, .int .i64 a1] rfl (by (try simp only [List.map_toArray, List.map_cons, List.map_nil]); first | done | rfl | (simp only [List.length_drop, List.length_take]; rfl)) ?_; (with_reducible refine (impl_WorstTime.calls kj4 a0 a1 t311 t312 t313 _ A18.out).mono ?_); rintro e w22 ⟨v314, rfl, ho0, hb⟩; refine ⟨_, rfl, ?_⟩; have n0_ := Aside0.mk (Kd.V_elder' (by (with_reducible repeat (first | apply Kd.V_alloc | apply Kd.V_drewN | apply Kd.V_drew)); exact HO_6.out) (Kd.R_base ho0) hb); have n1_ := Aside0.mk (Kd.R_elder' (by (with_reducible repeat (first | apply Kd.R_alloc | apply Kd.R_drewN | apply Kd.R_drew)); exact HO_9.out) (Kd.R_base ho0) hb); have n2_ := Aside0.mk (Kd.R_lower (Kd.R_new' ho0 (Kd.R_lt (by (with_reducible repeat (first | apply Kd.R_alloc | apply Kd.R_drewN | apply Kd.R_drew)); exact HO_9.out))) (below_size (by repeat (first | (with_reducible first | exact HB.out | apply below_alloc | apply pw_below_drewN | apply below_drew1) | exact HB.out)))); have n3_ := Aside0.mk (below_step (by repeat (first | (with_reducible first | exact HB.out | apply below_alloc | apply pw_below_drewN | apply below_drew1) | exact HB.out)) hb); clear HO_6; clear HO_9; clear HB; have HO_6 := n0_; have HO_9 := n1_; have HO315 := n2_; have HB := n3_; clear n0_ n1_ n2_ n3_; (try clear hb); (try clear hb2); (try clear hk); (try clear hi); (try clear ho0)))
            (try simp only [Act.put, List.setIfInBounds_toArray, List.set_cons_zero, List.set_cons_succ])
            go_cut [75] (fun v75 wc => ∃ (kq : Nat) (x75_18 : Bool), v75 = .bool x75_18 ∧ Aside0 (laws_FnExactWorstTime.j1 kq t309 t308 x75_18 = some r) ∧ Aside0 (kq ≤ kj4) ∧ Aside0 (Kd.R (Kd.int .i64) 3 wc w.heap.size (fun _ => True) (.slice Ao20 t303.length co20) t309) ∧ Aside0 (Below w.heap.size w wc))
            case first =>
              have H := HC19.out
              clear HC19
              by_cases c23 : t311 = t297
              · rw [if_pos c23] at H
                have c23b0 : (t311 == t297) = true := beq_iff_eq.mpr c23
                have c23b1 : (t311 != t297) = false := bne_eq_false_iff_eq.mpr c23
                clear c23
                (first | rw [c23b0] | (simp only [i64_w, i32_w]; rw [c23b0]) | rw [c23b1] | skip)
                replace H := Option.bind_eq_some_iff.mp H
                obtain ⟨t316, A240, H⟩ := H
                replace H : (if t316 = true then (laws_FnExactWorstTime.j1 kj4 t309 t308 (t313 != t301)) else (laws_FnExactWorstTime.j1 kj4 t309 t308 true)) = some r := H
                have A24 := Aside0.mk A240
                clear A240
                by_cases c25 : t316 = true
                · subst c25
                  have H1 : (laws_FnExactWorstTime.j1 kj4 t309 t308 (t313 != t301)) = some r := by rw [if_pos rfl] at H; exact H
                  clear H
                  have H := H1
                  clear H1
                  have H' := Aside0.mk H
                  clear H
                  obtain ⟨Ao26, co26, eo26⟩ := Kd.R_slice HO315.out
                  subst eo26
                  obtain ⟨Ao27, co27, eo27⟩ := Kd.V_slice HO_6.out
                  subst eo27
                  go_wp2_with (first | (go_at_call 16; (with_reducible refine (laws_eqIntS.calls kj4 _ _ t312 _ _ t298 true _ ?side1 ?side2 ?side3 ?side4 A24.out).mono ?_); (case side1 => repeat (first | exact (Kd.R_reads' HO315.out).2.2 | (with_reducible refine Kd.C_alloc ?_ _) | (with_reducible refine Kd.C_drewN ?_ _) | (with_reducible refine Kd.C_drew ?_))); (case side2 => exact (Kd.R_reads' HO315.out).2.1); (case side3 => repeat (first | exact (Kd.V_reads' HO_6.out).2.2 | (with_reducible refine Kd.C_alloc ?_ _) | (with_reducible refine Kd.C_drewN ?_ _) | (with_reducible refine Kd.C_drew ?_))); (case side4 => exact (Kd.V_reads' HO_6.out).2.1); rintro e w' ⟨rfl, ⟨nd, rfl⟩⟩))
                  go_meet
                  case rel => exact ⟨_, ((t313 != t301)), (by first | rfl | (simp; done) | (simp [*]; done)), H', ⟨by have := HJ4.out; first | omega | exact Nat.le_refl _⟩, ⟨by (with_reducible repeat (first | apply Kd.R_alloc | apply Kd.R_drewN | apply Kd.R_drew)); exact Kd.R_mono HO_9.out (fun _ hk => trivial)⟩, ⟨by repeat (first | (with_reducible first | exact HB.out | apply below_alloc | apply pw_below_drewN | apply below_drew1) | exact HB.out)⟩⟩
                · replace c25 := Bool.eq_false_iff.mpr c25
                  subst c25
                  have H1 : (laws_FnExactWorstTime.j1 kj4 t309 t308 true) = some r := by rw [if_neg (show ¬ (false = true) by decide)] at H; exact H
                  clear H
                  have H := H1
                  clear H1
                  exact absurd ((laws_FnExactWorstTime.j1_no _ _ _ _ H).trans HRV.out) (by decide)
              · rw [if_neg c23] at H
                have c23b0 : (t311 == t297) = false := beq_eq_false_iff_ne.mpr c23
                have c23b1 : (t311 != t297) = true := bne_iff_ne.mpr c23
                (first | rw [c23b0] | (simp only [i64_w, i32_w]; rw [c23b0]) | rw [c23b1] | skip)
                exact absurd ((laws_FnExactWorstTime.j1_no _ _ _ _ H).trans HRV.out) (by decide)
            case rest =>
              clear HC19
              try clear c1
              try clear c2
              try clear p2
              try clear c3
              try clear c8
              try clear c8b0
              try clear c8b1
              try clear c10
              try clear c11
              try clear c13
              try clear c16
              try clear c16b0
              try clear c17
              try clear c17b0
              try clear c17b1
              try clear c19
              try clear c20
              try clear c23
              try clear c23b0
              try clear c23b1
              try clear c25
              try clear p2
              obtain ⟨kq, x75_18, rfl, HA, HJ18, HO_9, HB⟩ := hcut
              have hl9_18 := (Kd.R_reads' HO_9.out).1
              rw [hl9_18] at HO_9
              (try simp only [hl9_18])
              cases kq with
              | zero => exact absurd HA.out (by simp [laws_FnExactWorstTime.j1])
              | succ kj18 =>
                have H := HA.out
                clear HA
                simp only [laws_FnExactWorstTime.j1] at H
                by_cases c28 : x75_18 = true
                · subst c28
                  have H1 : (some false) = some r := by rw [if_pos rfl] at H; exact H
                  clear H
                  have H := H1
                  clear H1
                  exact absurd ((Option.some.inj H).trans HRV.out) (by decide)
                · replace c28 := Bool.eq_false_iff.mpr c28
                  subst c28
                  have H1 : ((laws_heldIntS.f kj18 t309 1).bind fun t317 => (if t317 < 0 then (some false) else (if t317 = t308 then (some true) else (some false)))) = some r := by rw [if_neg (show ¬ (false = true) by decide)] at H; exact H
                  clear H
                  have H := H1
                  clear H1
                  replace H := Option.bind_eq_some_iff.mp H
                  obtain ⟨t317, A290, H⟩ := H
                  replace H : (if t317 < 0 then (some false) else (if t317 = t308 then (some true) else (some false))) = some r := H
                  have A29 := Aside0.mk A290
                  clear A290
                  by_cases c30 : t317 < 0
                  · rw [if_pos c30] at H
                    have c30b0 : decide (t317 < 0) = true := decide_eq_true c30
                    clear c30
                    exact absurd ((Option.some.inj H).trans HRV.out) (by decide)
                  · rw [if_neg c30] at H
                    have c30b0 : decide (t317 < 0) = false := decide_eq_false c30
                    clear c30
                    by_cases c31 : t317 = t308
                    · rw [if_pos c31] at H
                      have c31b0 : (t317 == t308) = true := beq_iff_eq.mpr c31
                      have c31b1 : (t317 != t308) = false := bne_eq_false_iff_eq.mpr c31
                      clear c31
                      obtain rfl := Option.some.inj H
                      go_wp2_with (first | ((with_reducible refine gate_callee (f := 20) rfl ?_); refine goesL_ (some 78) rfl rfl Try.func20 (by kernel_rfl) rfl #[.slice Ao20 t309.length co20, .int .i64 1] rfl (by (try simp only [List.map_toArray, List.map_cons, List.map_nil]); first | done | rfl | (simp only [List.length_drop, List.length_take]; rfl)) ?_; (with_reducible refine (laws_heldIntS.calls kj18 _ _ t309 1 t317 _ ?side1 ?side2 A29.out).mono ?_); (case side1 => repeat (first | exact (Kd.R_reads' HO_9.out).2.2 | (with_reducible refine Kd.C_alloc ?_ _) | (with_reducible refine Kd.C_drewN ?_ _) | (with_reducible refine Kd.C_drew ?_))); (case side2 => exact (Kd.R_reads' HO_9.out).2.1); rintro e w' ⟨rfl, ⟨nd, rfl⟩⟩; refine ⟨_, rfl, ?_⟩))
                      go_ret
                      exact ⟨by first | rfl | (simp [errW_none, errW_some] <;> rfl) | (simp [*, errW_none, errW_some] <;> rfl), by repeat (first | (with_reducible first | exact HB.out | apply below_alloc | apply pw_below_drewN | apply below_drew1) | exact HB.out)⟩
                    · rw [if_neg c31] at H
                      have c31b0 : (t317 == t308) = false := beq_eq_false_iff_ne.mpr c31
                      have c31b1 : (t317 != t308) = true := bne_iff_ne.mpr c31
                      exact absurd ((Option.some.inj H).trans HRV.out) (by decide)
          · rw [if_neg c17] at H
            have c17b0 : (t310 == t308) = false := beq_eq_false_iff_ne.mpr c17
            have c17b1 : (t310 != t308) = true := bne_iff_ne.mpr c17
            exact absurd ((Option.some.inj H).trans HRV.out) (by decide)

/-- THE ONE PURE STATEMENT of laws_FnExactWorstTime: yours. -/
def laws_FnExactWorstTime.Pure : Prop := ∀ (a0 : Int) (a1 : Int), (Lit.int .i64 a0).wf = true → (Lit.int .i64 a1).wf = true → ∃ k, laws_FnExactWorstTime.f k a0 a1 = some true
theorem laws_FnExactWorstTime.walk (P : laws_FnExactWorstTime.Pure) (a0 : Int) (a1 : Int) (w : World) (w0 : (Lit.int .i64 a0).wf = true) (w1 : (Lit.int .i64 a1).wf = true) :
    Calls Try.prog 11 #[.int .i64 a0, .int .i64 a1] w fun e w' => e = .returned (.bool true) ∧ Below w.heap.size w w' := by
  obtain ⟨k, h⟩ := P a0 a1 w0 w1
  refine (laws_FnExactWorstTime.calls k a0 a1 true w rfl h).mono ?_
  rintro e w' ⟨rfl, hd⟩
  exact ⟨rfl, hd⟩

end Go.Proofs.Ythaaakijekkkaaa.PFnExactWorstTime
