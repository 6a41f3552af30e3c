/- Proved: each Go function named here, called, comes to the answer of the Lean function beside it. Conditions: those that stand in each theorem. (Printed by this session's own turned copy of a printing program.) -/
import Derived.Test.YthaaakijekkkaaaZMeanTimePx0
import Derived.Test.YthaaakijekkkaaaZMeanTimePx4
import Derived.Test.YthaaakijekkkaaaZMeanTimePx5
namespace Go.Proofs.Ythaaakijekkkaaa.PFnExactMeanTime
open Go.RowKit Go.Proofs.YthaaakijekkkaaaW.PrintWords Go.Proofs.YthaaakijekkkaaaW.PrintLast Go.Proofs.YthaaakijekkkaaaW.PrintMore
attribute [local go_sem] max2_int min2_int max_two min_two max_three min_three max_four min_four   -- for this text's walks alone
set_option linter.unusedVariables false
set_option linter.unusedSimpArgs false

attribute [local go_sem high] eqArr40
/-! ### impl_boarding_time: function 49 -/
def impl_boarding_time.f (l0_0 : List Int) (l0_1 : List Int) (l0_2 : List Int) (l0_3 : List (List Int)) : Option (Int) := some (wrap64 ((l0_3.length : Int) - 1))
set_option maxHeartbeats 8000000 in
set_option maxRecDepth 100000 in
theorem impl_boarding_time.calls (A0_0 : Option Addr) (c0_0 : Nat) (l0_0 : List Int) (A0_1 : Option Addr) (c0_1 : Nat) (l0_1 : List Int) (A0_2 : Option Addr) (c0_2 : Nat) (l0_2 : List Int) (A0_3 : Option Addr) (c0_3 : Nat) (l0_3 : List (List Int)) (r : Int) (w : World) (hr0_0 : Kd.C (Kd.int .i64) w A0_0 l0_0.length l0_0) (hc0_0 : l0_0.length ≤ c0_0) (hr0_1 : Kd.C (Kd.int .i64) w A0_1 l0_1.length l0_1) (hc0_1 : l0_1.length ≤ c0_1) (hr0_2 : Kd.C (Kd.int .i64) w A0_2 l0_2.length l0_2) (hc0_2 : l0_2.length ≤ c0_2) (hr0_3 : Kd.C (Kd.slice 3 (Kd.int .i64)) w A0_3 l0_3.length l0_3) (hc0_3 : l0_3.length ≤ c0_3) (h : impl_boarding_time.f l0_0 l0_1 l0_2 l0_3 = some r) :
    Calls Try.prog 49 #[.agg #[.slice A0_0 l0_0.length c0_0, .slice A0_1 l0_1.length c0_1, .slice A0_2 l0_2.length c0_2, .slice A0_3 l0_3.length c0_3]] w fun e w' => e = .returned (.int .i64 r) ∧ Below w.heap.size w w' := by
  have hu54 := Try.underlying54
  have HR0_0 := Aside0.mk hr0_0
  have HC0_0 := Aside0.mk hc0_0
  clear hr0_0 hc0_0
  have HR0_1 := Aside0.mk hr0_1
  have HC0_1 := Aside0.mk hc0_1
  clear hr0_1 hc0_1
  have HR0_2 := Aside0.mk hr0_2
  have HC0_2 := Aside0.mk hc0_2
  clear hr0_2 hc0_2
  have HR0_3 := Aside0.mk hr0_3
  have HC0_3 := Aside0.mk hc0_3
  clear hr0_3 hc0_3
  have HB := Aside0.mk (Below.refl w.heap.size w)
  have H : (some (wrap64 ((l0_3.length : Int) - 1))) = some r := h
  clear h
  obtain rfl := Option.some.inj H
  go_enter Try.func49, Try.ntmps49
  go_wp2_with (first | ((with_reducible refine gate_dst (N := 1) rfl ?_); refine box_event ?hg (N := 1) ?hd (cs := #[.slice A0_0 l0_0.length c0_0, .slice A0_1 l0_1.length c0_1, .slice A0_2 l0_2.length c0_2, .slice A0_3 l0_3.length c0_3]) (t := 54) ?hr ?_; (case hd => rfl); (case hg => rfl); (case hr => first | (go_simp; done) | (go_simp; rfl)); intro gb289 hg w2 hbox hb; have n0_ := Aside0.mk (below_step (by repeat (first | (with_reducible first | exact HB.out | apply below_alloc | apply pw_below_drewN | apply below_drew1) | exact HB.out)) hb); have n1_ := Aside0.mk (hbox); have n2_ := Aside0.mk ((by rw [hg]; exact (below_size (by repeat (first | (with_reducible first | exact HB.out | apply below_alloc | apply pw_below_drewN | apply below_drew1) | exact HB.out))) : w.heap.size ≤ gb289)); have n3_ := Aside0.mk ((by rw [hg]; exact (below_size (by repeat (first | (with_reducible first | exact HB.out | apply below_alloc | apply pw_below_drewN | apply below_drew1) | exact HB.out))) : w.heap.size ≤ gb289)); clear HB; have HB := n0_; have BK289 := n1_; have GW289 := n2_; have GE289 := n3_; clear n0_ n1_ n2_ n3_; clear hb hbox hg; have hcz3_0 : w2.cell? ⟨gb289, 0, none⟩ = some (.slice A0_0 l0_0.length c0_0) := (blk_cell BK289.out 0).trans rfl; have hcz3_1 : w2.cell? ⟨gb289, 1, none⟩ = some (.slice A0_1 l0_1.length c0_1) := (blk_cell BK289.out 1).trans rfl; have hcz3_2 : w2.cell? ⟨gb289, 2, none⟩ = some (.slice A0_2 l0_2.length c0_2) := (blk_cell BK289.out 2).trans rfl; have hcz3_3 : w2.cell? ⟨gb289, 3, none⟩ = some (.slice A0_3 l0_3.length c0_3) := (blk_cell BK289.out 3).trans rfl; have hfz3_0 := blk_frozen BK289.out 0; have hfz3_1 := blk_frozen BK289.out 1; have hfz3_2 := blk_frozen BK289.out 2; have hfz3_3 := blk_frozen BK289.out 3))
  go_ret
  exact ⟨by first | rfl | (simp [errW_none, errW_some] <;> rfl) | (simp [*, errW_none, errW_some] <;> rfl), by repeat (first | (with_reducible first | exact HB.out | apply below_alloc | apply pw_below_drewN | apply below_drew1 | refine below_set ?_ GE289.out) | exact HB.out)⟩

/-! ### slices_Index_int_int: function 77 -/
def slices_Index_int_int.l0 : Nat → List Int → Int → Int → Int → Option (Int)
  | 0, _, _, _, _ => none
  | k + 1, x0, x1, x7, x8 => if x8 < x7 then (if 0 ≤ x8 then (if x8 < (x0.length : Int) then (if x1 = (rd x0 x8) then (some x8) else (slices_Index_int_int.l0 k x0 x1 x7 (wrap64 (x8 + 1)))) else (none)) else (none)) else (some (-1))
def slices_Index_int_int.f (k : Nat) (l0 : List Int) (a1 : Int) : Option (Int) := slices_Index_int_int.l0 k l0 a1 (l0.length : Int) 0
set_option maxHeartbeats 8000000 in
set_option maxRecDepth 100000 in
theorem slices_Index_int_int.calls (k : Nat) (A0 : Option Addr) (c0 : Nat) (l0 : List Int) (a1 : Int) (r : Int) (w : World) (hr0 : Kd.C (Kd.int .i64) w A0 l0.length l0) (hc0 : l0.length ≤ c0) (h : slices_Index_int_int.f k l0 a1 = some r) :
    Calls Try.prog 77 #[.slice A0 l0.length c0, .int .i64 a1] w fun e w' => e = .returned (.int .i64 r) ∧ Drawn0 w w' := by
  have HR0 := Aside0.mk hr0
  have HC0 := Aside0.mk hc0
  clear hr0 hc0
  have H : (slices_Index_int_int.l0 k l0 a1 (l0.length : Int) 0) = some r := h
  clear h
  have H' := Aside0.mk H
  clear H
  go_enter Try.func77, Try.ntmps77
  go_wp2
  go_loopg [8] k (fun kq v8 w' => ∃ (x8_1 : Int), v8 = .int .i64 x8_1 ∧ Aside0 (slices_Index_int_int.l0 kq l0 a1 (l0.length : Int) x8_1 = some r) ∧ Aside0 (kq ≤ k) ∧ Drawn0 w w')
  case atStart => exact ⟨(0), (by first | rfl | (simp; done) | (simp [*]; done)), H', ⟨Nat.le_refl _⟩, by repeat (first | exact Drawn0.refl _ | apply Drawn0.step)⟩
  case round =>
    clear H'
    try clear p2
    obtain ⟨x8_1, rfl, HA, HK1, ⟨m1, rfl⟩⟩ := hrel
    cases gk with
    | zero => exact absurd HA.out (by simp [slices_Index_int_int.l0])
    | succ k1 =>
      have H := HA.out
      clear HA
      simp only [slices_Index_int_int.l0] at H
      by_cases c3 : x8_1 < (l0.length : Int)
      · rw [if_pos c3] at H
        have c3b0 : decide (x8_1 < (l0.length : Int)) = true := decide_eq_true c3
        clear c3
        by_cases c4 : 0 ≤ x8_1
        · rw [if_pos c4] at H
          have c4b0 : decide (0 ≤ x8_1) = true := decide_eq_true c4
          clear c4
          by_cases c5 : x8_1 < (l0.length : Int)
          · rw [if_pos c5] at H
            have c5b0 : decide (x8_1 < (l0.length : Int)) = true := decide_eq_true c5
            clear c5
            by_cases c6 : a1 = (rd l0 x8_1)
            · rw [if_pos c6] at H
              have c6b0 : (a1 == (rd l0 x8_1)) = true := beq_iff_eq.mpr c6
              have c6b1 : (a1 != (rd l0 x8_1)) = false := bne_eq_false_iff_eq.mpr c6
              clear c6
              obtain rfl := Option.some.inj H
              have p290 : 0 ≤ (x8_1 : Int) := of_decide_eq_true (by first | (with_reducible assumption) | assumption)
              have q290 : x8_1 < (l0.length : Int) := of_decide_eq_true (by first | (with_reducible assumption) | assumption)
              obtain ⟨ad290, e290, hx290_0⟩ := Kd.at_int HR0.out x8_1 p290 q290
              cases e290
              replace p290 := eq_true p290
              replace q290 := eq_true q290
              go_wp2
              go_ret
              exact ⟨by first | rfl | (simp; done) | (simp [*]; done), by repeat (first | exact Drawn0.refl _ | apply Drawn0.step)⟩
            · rw [if_neg c6] at H
              have c6b0 : (a1 == (rd l0 x8_1)) = false := beq_eq_false_iff_ne.mpr c6
              have c6b1 : (a1 != (rd l0 x8_1)) = true := bne_iff_ne.mpr c6
              have H' := Aside0.mk H
              clear H
              have p290 : 0 ≤ (x8_1 : Int) := of_decide_eq_true (by first | (with_reducible assumption) | assumption)
              have q290 : x8_1 < (l0.length : Int) := of_decide_eq_true (by first | (with_reducible assumption) | assumption)
              obtain ⟨ad290, e290, hx290_0⟩ := Kd.at_int HR0.out x8_1 p290 q290
              cases e290
              replace p290 := eq_true p290
              replace q290 := eq_true q290
              go_wp2
              go_roundg k1
              case measure => have := HK1.out; omega
              case rel => exact ⟨(wrap64 (x8_1 + 1)), (by first | rfl | (simp; done) | (simp [*]; done)), H', ⟨by have := HK1.out; omega⟩, by repeat (first | exact Drawn0.refl _ | apply Drawn0.step)⟩
          · rw [if_neg c5] at H
            exact absurd H (by simp)
        · rw [if_neg c4] at H
          exact absurd H (by simp)
      · rw [if_neg c3] at H
        have c3b0 : decide (x8_1 < (l0.length : Int)) = false := decide_eq_false c3
        clear c3
        obtain rfl := Option.some.inj H
        go_wp2
        go_ret
        exact ⟨by first | rfl | (simp; done) | (simp [*]; done), by repeat (first | exact Drawn0.refl _ | apply Drawn0.step)⟩

/-! ### slices_Contains_int_int: function 73 -/
def slices_Contains_int_int.f (k : Nat) (l0 : List Int) (a1 : Int) : Option (Bool) := (slices_Index_int_int.f k l0 a1).bind fun t291 => (some (decide (t291 ≥ 0)))
set_option maxHeartbeats 8000000 in
set_option maxRecDepth 100000 in
theorem slices_Contains_int_int.calls (k : Nat) (A0 : Option Addr) (c0 : Nat) (l0 : List Int) (a1 : Int) (r : Bool) (w : World) (hr0 : Kd.C (Kd.int .i64) w A0 l0.length l0) (hc0 : l0.length ≤ c0) (h : slices_Contains_int_int.f k l0 a1 = some r) :
    Calls Try.prog 73 #[.slice A0 l0.length c0, .int .i64 a1] w fun e w' => e = .returned (.bool r) ∧ Drawn0 w w' := by
  have HR0 := Aside0.mk hr0
  have HC0 := Aside0.mk hc0
  clear hr0 hc0
  have H : ((slices_Index_int_int.f k l0 a1).bind fun t291 => (some (decide (t291 ≥ 0)))) = some r := h
  clear h
  replace H := Option.bind_eq_some_iff.mp H
  obtain ⟨t291, A30, H⟩ := H
  replace H : (some (decide (t291 ≥ 0))) = some r := H
  have A3 := Aside0.mk A30
  clear A30
  obtain rfl := Option.some.inj H
  go_enter Try.func73, Try.ntmps73
  go_wp2_with (first | ((with_reducible refine gate_callee (f := 77) rfl ?_); refine goesL_ (some 7) rfl rfl Try.func77 (by kernel_rfl) rfl #[.slice A0 l0.length c0, .int .i64 a1] rfl (by (try simp only [List.map_toArray, List.map_cons, List.map_nil]); first | done | rfl | (simp only [List.length_drop, List.length_take]; rfl)) ?_; (with_reducible refine (slices_Index_int_int.calls k _ _ l0 a1 t291 _ ?side1 ?side2 A3.out).mono ?_); (case side1 => repeat (first | exact HR0.out | (with_reducible refine Kd.C_alloc ?_ _) | (with_reducible refine Kd.C_drewN ?_ _) | (with_reducible refine Kd.C_drew ?_))); (case side2 => exact HC0.out); rintro e w' ⟨rfl, ⟨nd, rfl⟩⟩; refine ⟨_, rfl, ?_⟩))
  go_ret
  exact ⟨by first | rfl | (simp; done) | (simp [*]; done), by repeat (first | exact Drawn0.refl _ | apply Drawn0.step)⟩

/-! ### impl_enterings_1: function 72 -/
theorem own_front {w : World} {base : Nat} {e : TypeId} {size g n m cap : Nat} {xs ys : List Value} (h : w.ownsRow base e size (.slice (some ⟨g, 0, none⟩) (n + m) cap) (n + m) (xs ++ ys)) (hx : xs.length = n * size) : w.ownsRow base e size (.slice (some ⟨g, 0, none⟩) n cap) n xs := by
  obtain ⟨h1, h2⟩ := h
  rcases h2 with ⟨h0, _⟩ | ⟨g', cap', cur, hv, hbg, hg, hnc, hcm, hcs, htake⟩
  · cases h0
  · cases hv
    refine ⟨hx, .inr ⟨g, cap, cur, rfl, hbg, hg, by omega, hcm, hcs, ?_⟩⟩
    have h3 : (cur.toList.take ((n + m) * size)).take (n * size) = (xs ++ ys).take (n * size) := by rw [htake]
    rw [List.take_take, Nat.min_eq_left (Nat.mul_le_mul_right _ (by omega)), ← hx, List.take_left] at h3
    exact hx ▸ h3
/-- An append that leaves what was there: the elder slice is told on, in its own array or in the one that was left. -/
theorem run_append_keep {P : Program} (w : World) (base : Nat) (t ty e : TypeId) (i : TypeInfo) (z : Value) (size bytes : Nat) (ht : P.underlying t = some (.slice e)) (hi : P.info? e = some i) (hz : i.zero = some z)
    (hsize : i.size = size) (hby : i.bytes = bytes) (hzs : z.cells.size = size) (hsz : 0 < size)
    (v : Value) (n : Nat) (xs : List Value) (hown : w.ownsRow base e size v n xs)
    (a : Addr) (m c : Nat) (news : List Value) (hl : news.length = m * size) (hnews : ∀ j u, news[j]? = some u → w.cell? (a.add j) = some u) (h1 : ∀ u ∈ news, u.oneCell' = true)
    (h63 : n + m ≤ maxLen) (hbytes : ((n + m) + (n + m) / 4 + 192) * bytes ≤ 281474976710656) (hbase : base ≤ w.heap.size) :
    ∃ v' w', (Builtin.append_ #[t, t] ty #[v, .slice (some a) m c]).run P w = .ok v' w' ∧ w'.ownsRow base e size v' (n + m) (xs ++ news) ∧ w.grownBy w' v.ownBlock ∧ w'.ownsRow base e size v n xs ∧
      (∀ k, v.ownBlock = some k → v'.ownBlock = some k ∨ w'.heap[k]? = w.heap[k]?) := by
  obtain ⟨v', w', hr, ho, hg, _⟩ := run_append_own_wide (P := P) w base t ty e i z size bytes ht hi hz hsize hby hzs hsz v n xs hown a m c news hl hnews h1 h63 hbytes hbase
  refine ⟨v', w', hr, ho, hg, ?_⟩
  rcases hown.2 with ⟨rfl, rfl⟩ | ⟨g, cap, cur, rfl, hbg, hgc, hnc, hcm, hcs, htake⟩
  · exact ⟨⟨hown.1, .inl ⟨rfl, rfl⟩⟩, fun k hk => by simp [Value.ownBlock] at hk⟩
  · by_cases hroom : n + m ≤ cap
    · obtain ⟨w2, hr2, ho2, _⟩ := run_append_own_spare (P := P) w base t ty e i size ht hi hsize g n cap xs hown a m c news hl hnews h1 hroom
      rw [hr] at hr2
      injection hr2 with hv hw
      subst hv hw
      exact ⟨own_front ho2 hown.1, fun k hk => .inl hk⟩
    · have hr2 := run_append_grow (P := P) w t ty e i z ht hi hz ⟨g, 0, none⟩ n cap xs (by rw [hsize]; exact hown.1) (fun j u hu => by
        have := hown.cellAt j (by
          have := (List.getElem?_eq_some_iff.1 hu).1
          rw [hown.1] at this; exact this)
        rw [add_plain]
        rw [this]; exact hu) a m c news (by rw [hsize]; exact hl) hnews (by omega) (by simp only [maxLen] at h63; omega) (by rw [hby]; exact growslice_fits_wide (by omega) hbytes)
      rw [hr] at hr2
      injection hr2 with hv hw
      have hk : w'.heap[g]? = w.heap[g]? := by rw [hw]; exact heap_alloc_old w.drew _ (blk_lt hgc)
      exact ⟨⟨hown.1, .inr ⟨g, cap, cur, rfl, hbg, hk.trans hgc, hnc, hcm, hcs, htake⟩⟩, fun k hk2 => .inr (by
        simp only [Value.ownBlock, Option.some.injEq] at hk2
        subst hk2; exact hk)⟩
section
variable {P : Program} {md : Region.Mode} {ops : Array Oper} {Q : Exit → Act → World → Prop} {α : Type}
/-- R_append_step, and the elder slice is told on. -/
theorem Kd.R_append_keep {o : Oper} {a : Act} {Kc : Act → World → Prop} (d : Kd α) {w0 W : World} (base : Nat) (hw : Region.wanted o (yielded ops a.tmps) = true) (s x : Operand) (t e : TypeId) (z : Value) (bytes : Nat)
    (ho : o.op = .call { callee := .builtin .append, args := #[s, x], argTypes := #[t, t] })
    (ht : P.underlying t = some (.slice e)) (hinfo : (P.info? e).map (fun i => (i.zero, i.size, i.bytes)) = some (some z, d.sz, bytes)) (hz : z.cells.size = d.sz) (hs0 : 0 < d.sz)
    (v : Value) (xs : List α) (p : α) (cs : List Value) (ok okp : Nat → Prop) (ad : Addr) (cx : Nat) (hs : a.eval s = v) (hx : a.eval x = .slice (some ad) 1 cx) (hcell : ∀ j u, cs[j]? = some u → W.cell? (ad.add j) = some u) (hp : d.M W base okp p cs) (hokp : ∀ k, okp k → ok k ∧ some k ≠ v.ownBlock) (hfresh : ∀ k, W.heap.size ≤ k → ok k)
    (HO : d.R e W base ok v xs) (HB : Below base w0 W) (hbase : base ≤ W.heap.size) (hl : xs.length ≤ 1000000) (hby : bytes ≤ 64)
    (h : ∀ v1 w1, d.R e w1 base ok v1 (xs ++ [p]) → d.R e w1 base ok v xs → Below base w0 w1 → W.grownBy w1 v.ownBlock → (v1.ownBlock = v.ownBlock ∨ ∃ b, v1.ownBlock = some b ∧ W.heap.size ≤ b) → Kc (a.put o.dst v1) w1) :
    if Region.wanted o (yielded ops a.tmps) = true then Oper.wp P o a W Kc Q else Kc (a.put o.dst undef) W := by
  obtain ⟨h0, inner, hown, hr⟩ := HO
  obtain ⟨i0, hi, hzz⟩ := Option.map_eq_some_iff.1 hinfo
  simp only [Prod.mk.injEq] at hzz
  obtain ⟨hz0, hz1, hz2⟩ := hzz
  have hcl : cs.length = d.sz := d.K_len (d.K_of_M hp)
  have hbt : ((xs.length + 1) + (xs.length + 1) / 4 + 192) * bytes ≤ 281474976710656 := Nat.le_trans (Nat.mul_le_mul_left _ hby) (by omega)
  rw [if_pos hw]
  obtain ⟨v1, w1, hrun, hown1, hg, hold, hat⟩ := run_append_keep (P := P) W base t o.type e i0 z d.sz bytes ht hi hz0 hz1 hz2 hz hs0 v xs.length inner hown ad 1 cx cs (by rw [hcl]; omega) hcell (d.K_one (d.K_of_M hp)) (by simp only [maxLen]; omega) hbt hbase
  obtain ⟨v2, w2, hrun2, _, _, _, hat2⟩ := run_append_own_at (P := P) W base t o.type e i0 z d.sz bytes ht hi hz0 hz1 hz2 hz hs0 v xs.length inner hown ad 1 cx cs (by rw [hcl]; omega) hcell (d.K_one (d.K_of_M hp)) (by simp only [maxLen]; omega) (Nat.le_trans (Nat.mul_le_mul_left _ hby) (by omega)) hbase
  rw [hrun] at hrun2
  injection hrun2 with hv2 hw2
  subst hv2 hw2
  unfold Oper.wp execOp
  simp only [ho, resolve, invoke, builtin, Sem.run_bind, Sem.run_pure, Result.andThen_ok, List.map_toArray, List.map_cons, List.map_nil, hs, hx, hrun]
  have hat' : v1.ownBlock = v.ownBlock ∨ ∃ b, v1.ownBlock = some b ∧ W.heap.size ≤ b := by
    rcases hat2 with hat2 | hat2
    · exact .inl hat2
    · exact .inr ⟨_, hat2, Nat.le_refl _⟩
  refine h v1 w1 (Kd.R_appended h0 hr hp hokp hfresh hown1 hg hat') ⟨h0, inner, hold, hr.imp_ (fun q c hq => ?_)⟩ (HB.grown hg hbase (own_base hown)) hg hat'
  exact d.M_mono (fun k hk => hk.1) (d.M_move (fun k hk => hg.block k hk.2.2.1 hk.1.2) (d.M_bound hq))
end
def impl_enterings_1.T1 : Bool × List (List Nat × List Nat) := (true, [([], []), ([], []), ([], []), ([], []), ([], []), ([2, 3, 4], [2, 3, 4]), ([5, 5], [5]), ([0, 1, 6, 6], [0, 1, 6])])
def impl_enterings_1.B1 : List Nat := [0, 0, 0, 0, 0, 28, 60, 127]
theorem impl_enterings_1.tab1 : rtab .any (opsOf Try.f72 1) = impl_enterings_1.T1 := by kernel_rfl
theorem impl_enterings_1.bits1 : waitsOk impl_enterings_1.T1.2 impl_enterings_1.B1 = true := by kernel_rfl
def impl_enterings_1.T6 : Bool × List (List Nat × List Nat) := (true, [([], []), ([], []), ([], []), ([2], [2]), ([1, 3], [1, 3]), ([0, 4, 4], [0, 4])])
def impl_enterings_1.B6 : List Nat := [0, 0, 0, 4, 14, 31]
theorem impl_enterings_1.tab6 : rtab .any (opsOf Try.f72 6) = impl_enterings_1.T6 := by kernel_rfl
theorem impl_enterings_1.bits6 : waitsOk impl_enterings_1.T6.2 impl_enterings_1.B6 = true := by kernel_rfl
mutual
def impl_enterings_1.l0 {σ : Type} (vis : List Int → Int → σ → σ) : Nat → List Int → Int → Int → Int → Int → σ → Option σ
  | 0, _, _, _, _, _, _ => none
  | k + 1, x0, n, s, x19, x20, st => if x20 < x19 then ((slices_Contains_int_int.f k x0 x20).bind fun b => (if b = true then (impl_enterings_1.l0 vis k x0 n s x19 (wrap64 (x20 + 1)) st) else (if x0.length ≤ 1000 then ((impl_enterings_1.f vis k (x0 ++ [x20]) n s st).bind fun o => impl_enterings_1.l0 vis k x0 n s x19 (wrap64 (x20 + 1)) o) else none))) else (some st)
def impl_enterings_1.f {σ : Type} (vis : List Int → Int → σ → σ) : Nat → List Int → Int → Int → σ → Option σ
  | 0, _, _, _, _ => none
  | k + 1, l0, n, s, st => if (l0.length : Int) = n then ((impl_board.f k n s l0).bind fun b => (impl_boarding_time.f b.1 b.2.1 b.2.2.1 b.2.2.2).bind fun t => if 1 ≤ l0.length ∧ l0.length ≤ 1000 then some (vis l0 t st) else none) else (impl_enterings_1.l0 vis k l0 n s n 0 st)
end
section
variable {P : Program} {md : Mode} {ops : Array Oper} {Q : Exit → Act → World → Prop}
theorem goesD_ {oi : Oper} {N : Option Tmp} {a : Act} {w : World} {K : Act → World → Prop} {f : FuncId} {ax : Array Operand} {ts : Array TypeId} {s : Operand} {cap : Array Value} (hdyn : ∀ (args : Array Value) (w : World), (callFunc f args).run P w = .ok (.enter f args) w) (args all : Array Value) (hall : args ++ cap = all)
    (hw : Region.wanted oi (yielded ops a.tmps) = true) (hN : oi.dst = N) (hop : oi.op = .call { callee := .value s, args := ax, argTypes := ts }) (hs : a.eval s = .func (.func f) #[] cap) (hargs : ax.map a.eval = args)
    (h : Calls P f all w fun e w' => ∃ v, e = .returned v ∧ K (a.put N v) w') : if Region.wanted oi (yielded ops a.tmps) = true then Oper.wp P oi a w K Q else K (a.put N undef) w := by
  subst hall
  refine call_ f (args ++ cap) hw hN ?_ h
  have he := hdyn (args ++ cap) w
  unfold execOp
  simp [hop, resolve, Deferred.ofValue, invoke, hs, hargs, he]
end
/-- What a visitor that keeps a state s (in the blocks F) does with an order and its time. -/
structure VisE {σ : Type} (n : Nat) (caps : Array Value) (w0 : World) (VI : World → (Nat → Prop) → σ → Prop) (vis : List Int → Int → σ → σ) : Prop where
  frame : ∀ {w w' : World} {F : Nat → Prop} {s : σ}, VI w F s → (∀ k, F k → w'.heap[k]? = w.heap[k]?) → VI w' F s
  lt : ∀ {w : World} {F : Nat → Prop} {s : σ}, VI w F s → ∀ k, F k → k < w.heap.size
  call : ∀ {w : World} {F : Nat → Prop} {s : σ} {v : Value} {l : List Int} {t : Int}, VI w F s → Below w0.heap.size w0 w → Kd.R (Kd.int .i64) 3 w w0.heap.size (fun k => ¬ F k) v l → 1 ≤ l.length → l.length ≤ 1000 →
    Calls Try.prog n (#[v, .int .i64 t] ++ caps) w fun e w' => ∃ F' : Nat → Prop, e = .returned (.tuple #[]) ∧ VI w' F' (vis l t s) ∧ (∀ k, F' k → F k ∨ w.heap.size ≤ k) ∧ Kept w w' F ∧ Below w0.heap.size w0 w'
/-- What the literal's variables hold. -/
structure EnEnv (nv : Nat) (caps : Array Value) (e1 e2 e3 e4 : Nat) (a1 a3 : Int) (w : World) : Prop where
  b1 : w.heap[e1]? = some (.cells #[.int .i64 a1] 3 (0, 0))
  b2 : w.heap[e2]? = some (.cells #[.func (.func nv) #[] caps] 63 (0, 0))
  b3 : w.heap[e3]? = some (.cells #[.int .i64 a3] 3 (0, 0))
  b4 : w.heap[e4]? = some (.cells #[.func (.func 72) #[] #[.pointer (some ⟨e1, 0, none⟩), .pointer (some ⟨e2, 0, none⟩), .pointer (some ⟨e3, 0, none⟩), .pointer (some ⟨e4, 0, none⟩)]] 72 (0, 0))
def EnE (e1 e2 e3 e4 k : Nat) : Prop := k = e1 ∨ k = e2 ∨ k = e3 ∨ k = e4
section
variable {nv : Nat} {caps : Array Value} {e1 e2 e3 e4 : Nat} {a1 a3 : Int} {w w' : World}
theorem EnEnv.cells (h : EnEnv nv caps e1 e2 e3 e4 a1 a3 w) : w.cell? ⟨e1, 0, none⟩ = some (.int .i64 a1) ∧ w.cell? ⟨e2, 0, none⟩ = some (.func (.func nv) #[] caps) ∧ w.cell? ⟨e3, 0, none⟩ = some (.int .i64 a3) ∧ w.cell? ⟨e4, 0, none⟩ = some (.func (.func 72) #[] #[.pointer (some ⟨e1, 0, none⟩), .pointer (some ⟨e2, 0, none⟩), .pointer (some ⟨e3, 0, none⟩), .pointer (some ⟨e4, 0, none⟩)]) :=
  ⟨(blk_cell h.b1 0).trans rfl, (blk_cell h.b2 0).trans rfl, (blk_cell h.b3 0).trans rfl, (blk_cell h.b4 0).trans rfl⟩
theorem EnEnv.lt (h : EnEnv nv caps e1 e2 e3 e4 a1 a3 w) : ∀ k, EnE e1 e2 e3 e4 k → k < w.heap.size := by
  rintro k (rfl | rfl | rfl | rfl)
  · exact blk_lt h.b1
  · exact blk_lt h.b2
  · exact blk_lt h.b3
  · exact blk_lt h.b4
theorem EnEnv.move (h : EnEnv nv caps e1 e2 e3 e4 a1 a3 w) (hm : ∀ k, EnE e1 e2 e3 e4 k → w'.heap[k]? = w.heap[k]?) : EnEnv nv caps e1 e2 e3 e4 a1 a3 w' :=
  ⟨(hm _ (.inl rfl)).trans h.b1, (hm _ (.inr (.inl rfl))).trans h.b2, (hm _ (.inr (.inr (.inl rfl)))).trans h.b3, (hm _ (.inr (.inr (.inr rfl)))).trans h.b4⟩
theorem EnEnv.below (h : EnEnv nv caps e1 e2 e3 e4 a1 a3 w) (hb : Below w.heap.size w w') : EnEnv nv caps e1 e2 e3 e4 a1 a3 w' := h.move fun k hk => hb.block k (h.lt k hk)
variable {σ : Type} {w0 u : World} {VI : World → (Nat → Prop) → σ → Prop} {vis : List Int → Int → σ → σ} {F S F0 : Nat → Prop} {s : σ} {v : Value} {l : List Int} {ok : Nat → Prop}
/-- Where nothing but new blocks turns up, all is as it was. -/
theorem enstep (V : VisE nv caps w0 VI vis) (EN : Aside0 (EnEnv nv caps e1 e2 e3 e4 a1 a3 w)) (VV : Aside0 (VI w F s)) (KK : Aside0 (Kept u w S)) (RR : Aside0 (Kd.R (Kd.int .i64) 3 w w0.heap.size ok v l)) (HB : Aside0 (Below w0.heap.size w0 w)) (hb : Below w.heap.size w w') :
    Aside0 (EnEnv nv caps e1 e2 e3 e4 a1 a3 w') ∧ Aside0 (VI w' F s) ∧ Aside0 (Kept u w' S) ∧ Aside0 (Kd.R (Kd.int .i64) 3 w' w0.heap.size ok v l) ∧ Aside0 (Below w0.heap.size w0 w') :=
  ⟨⟨EN.out.below hb⟩, ⟨V.frame VV.out (fun k hk => hb.block k (V.lt VV.out k hk))⟩, ⟨KK.out.below hb⟩, ⟨Kd.R_below RR.out hb⟩, ⟨below_step HB.out hb⟩⟩
/-- Behind an append to the list, where it lies or anew. -/
theorem enapp (V : VisE nv caps w0 VI vis) (EN : Aside0 (EnEnv nv caps e1 e2 e3 e4 a1 a3 w)) (VV : Aside0 (VI w F s)) (KK : Aside0 (Kept u w (fun k => F0 k ∨ some k = v.ownBlock)))
    (RR : Aside0 (Kd.R (Kd.int .i64) 3 w w0.heap.size (fun k => ¬ F k ∧ ¬ EnE e1 e2 e3 e4 k) v l)) (hg : w.grownBy w' v.ownBlock) :
    Aside0 (EnEnv nv caps e1 e2 e3 e4 a1 a3 w') ∧ Aside0 (VI w' F s) ∧ Aside0 (Kept u w' (fun k => F0 k ∨ some k = v.ownBlock)) :=
  ⟨⟨EN.out.move fun k hk => hg.block k (EN.out.lt k hk) (fun he => (RR.out.1 k he.symm).2 hk)⟩, ⟨V.frame VV.out (fun k hk => hg.block k (V.lt VV.out k hk) (fun he => (RR.out.1 k he.symm).1 hk))⟩, ⟨KK.out.of_grown hg (fun k hk => .inl (.inr hk.symm))⟩⟩
theorem own_same {base n n1 : Nat} {e : TypeId} {xs ys zs : List Value} {v v1 : Value} (h : w.ownsRow base e 1 v n xs) (hm : w.ownsRow base e 1 v1 n1 zs) (h1 : w'.ownsRow base e 1 v1 n1 (xs ++ ys)) (he : v1.ownBlock = v.ownBlock) : w'.ownsRow base e 1 v n xs := by
  obtain ⟨hx, h2⟩ := h
  rcases h2 with ⟨rfl, hn⟩ | ⟨g, cap, cur, rfl, hbg, hg, hnc, hcm, hcs, htake⟩
  · exact ⟨hx, .inl ⟨rfl, hn⟩⟩
  · obtain ⟨hx1, h3⟩ := h1
    obtain ⟨_, h4⟩ := hm
    rcases h3 with ⟨rfl, _⟩ | ⟨g1, cap1, cur1, rfl, hbg1, hg1, hnc1, hcm1, hcs1, htake1⟩
    · simp [Value.ownBlock] at he
    · have e1 : g1 = g := by simpa [Value.ownBlock] using he
      subst e1
      rcases h4 with ⟨h5, _⟩ | ⟨g2, cap2, cur2, h5, _, hg2, _, _, hcs2, _⟩
      · cases h5
      · injection h5 with h5 h6 h7
        injection h5 with h5
        injection h5 with h5
        subst h5 h7
        rw [hg] at hg2
        injection hg2 with hg2
        injection hg2 with hg2
        subst hg2
        refine ⟨hx, .inr ⟨g1, cap, cur1, rfl, hbg, hg1, hnc, hcm, by omega, ?_⟩⟩
        have hl : xs.length + ys.length = n1 * 1 := by rw [← List.length_append]; exact hx1
        have h3 : (cur1.toList.take (n1 * 1)).take (n * 1) = (xs ++ ys).take (n * 1) := by rw [htake1]
        rw [List.take_take, Nat.min_eq_left (by omega), ← hx, List.take_left] at h3
        exact hx ▸ h3
/-- Behind a call that was handed the longer list. -/
theorem enback {W W1 W2 : World} {F2 F1 : Nat → Prop} {v1 : Value} {x : Int} {s2 : σ} (V : VisE nv caps w0 VI vis) (EN : Aside0 (EnEnv nv caps e1 e2 e3 e4 a1 a3 W1)) (V2 : VI W2 F2 s2) (VV : Aside0 (VI W1 F1 s)) (KK : Aside0 (Kept u W1 (fun k => F0 k ∨ some k = v.ownBlock)))
    (hFE : ∀ k, F1 k → ¬ EnE e1 e2 e3 e4 k) (hF0 : ∀ k, F1 k → F0 k ∨ u.heap.size ≤ k) (huW : u.heap.size ≤ W.heap.size)
    (RR : Kd.R (Kd.int .i64) 3 W1 w0.heap.size (fun k => ¬ F1 k ∧ ¬ EnE e1 e2 e3 e4 k) v l) (R1 : Kd.R (Kd.int .i64) 3 W1 w0.heap.size (fun k => ¬ F1 k ∧ ¬ EnE e1 e2 e3 e4 k) v1 (l ++ [x]))
    (R2 : Kd.R (Kd.int .i64) 3 W2 w0.heap.size (fun k => ¬ F2 k ∧ ¬ EnE e1 e2 e3 e4 k) v1 (l ++ [x])) (hK : Kept W1 W2 (fun k => F1 k ∨ some k = v1.ownBlock)) (hF2 : ∀ k, F2 k → F1 k ∨ W1.heap.size ≤ k)
    (hat : v1.ownBlock = v.ownBlock ∨ ∃ b, v1.ownBlock = some b ∧ W.heap.size ≤ b) :
    Aside0 (EnEnv nv caps e1 e2 e3 e4 a1 a3 W2) ∧ Aside0 (VI W2 F2 s2) ∧ Aside0 (Kept u W2 (fun k => F0 k ∨ some k = v.ownBlock)) ∧ Aside0 (Kd.R (Kd.int .i64) 3 W2 w0.heap.size (fun k => ¬ F2 k ∧ ¬ EnE e1 e2 e3 e4 k) v l) ∧ (∀ k, F2 k → ¬ EnE e1 e2 e3 e4 k) ∧ (∀ k, F2 k → F0 k ∨ u.heap.size ≤ k) := by
  have hvk : ∀ k, v.ownBlock = some k → k < W1.heap.size := Kd.R_lt RR
  have hF2v : ∀ k, v.ownBlock = some k → ¬ F2 k := fun k hk h2 => (hF2 k h2).elim (fun h => (RR.1 k hk).1 h) (fun h => by have := hvk k hk; omega)
  refine ⟨⟨EN.out.move fun k hk => hK.2 k (EN.out.lt k hk) (fun h => h.elim (fun h1 => hFE k h1 hk) (fun h1 => (R1.1 k h1.symm).2 hk))⟩, ⟨V2⟩, ⟨KK.out.then_ hK (fun k hk => hk.elim (fun h1 => (hF0 k h1).imp (fun h => .inl h) id) (fun h1 => ?_))⟩, ⟨?_⟩, fun k hk => (hF2 k hk).elim (hFE k) (fun h h1 => by have := EN.out.lt k h1; omega), fun k hk => (hF2 k hk).elim (hF0 k) (fun h => .inr (by have := KK.out.1; omega))⟩
  · rcases hat with h | ⟨b, hb, hbW⟩
    · exact .inl (.inr (h1.trans h))
    · rw [hb] at h1; injection h1 with h1; subst h1; exact .inr (by omega)
  · obtain ⟨hk0, inner, hown, hr⟩ := RR
    obtain ⟨hk1, inner1, hown1, hr1⟩ := R2
    have e1 : inner = encs (Value.int .i64) l := Kd.reps_encs hr
    have e2' : inner1 = encs (Value.int .i64) l ++ [.int .i64 x] := by have := Kd.reps_encs hr1; simpa [encs] using this
    subst e1 e2'
    have hown2 : W2.ownsRow w0.heap.size 3 1 v l.length (encs (Value.int .i64) l) := by
      by_cases he : v1.ownBlock = v.ownBlock
      · obtain ⟨_, inner3, hown3, _⟩ := R1
        exact own_same hown hown3 hown1 he
      · rcases hat with h | ⟨b, hb, hbW⟩
        · exact absurd h he
        · rcases hown.2 with ⟨rfl, hn⟩ | ⟨g, cap, cur, rfl, hbg, hg, hnc, hcm, hcs, htake⟩
          · exact ⟨hown.1, .inl ⟨rfl, hn⟩⟩
          · exact ⟨hown.1, .inr ⟨g, cap, cur, rfl, hbg, (hK.2 g (blk_lt hg) (fun h => h.elim (hk0 g rfl).1 (fun h1 => he h1.symm))).trans hg, hnc, hcm, hcs, htake⟩⟩
    exact ⟨fun k hk => ⟨hF2v k hk, (hk0 k hk).2⟩, _, hown2, Kd.reps_scalar l⟩
end
theorem envis {σ : Type} {nv : Nat} {caps : Array Value} {e1 e2 e3 e4 : Nat} {a1 a3 : Int} {VI : World → (Nat → Prop) → σ → Prop} {w0 u w w2 : World} {F0 F F2 : Nat → Prop} {v : Value} {l : List Int} {s' : σ}
    (EN : Aside0 (EnEnv nv caps e1 e2 e3 e4 a1 a3 w)) (hFE : ∀ k, F k → ¬ EnE e1 e2 e3 e4 k) (KK : Aside0 (Kept u w (fun k => F0 k ∨ some k = v.ownBlock))) (hF0 : ∀ k, F k → F0 k ∨ u.heap.size ≤ k) (RR : Aside0 (Kd.R (Kd.int .i64) 3 w w0.heap.size (fun k => ¬ F k ∧ ¬ EnE e1 e2 e3 e4 k) v l))
    (h1 : VI w2 F2 s') (h2 : ∀ k, F2 k → F k ∨ w.heap.size ≤ k) (h3 : Kept w w2 F) (h4 : Below w0.heap.size w0 w2) :
    (∀ k, F2 k → F0 k ∨ u.heap.size ≤ k) ∧ (∀ k, F2 k → ¬ EnE e1 e2 e3 e4 k) ∧ Kept u w2 (fun k => F0 k ∨ some k = v.ownBlock) ∧ Kd.R (Kd.int .i64) 3 w2 w0.heap.size (fun k => ¬ F2 k ∧ ¬ EnE e1 e2 e3 e4 k) v l := by
  refine ⟨fun k hk => (h2 k hk).elim (hF0 k) (fun h => .inr (Nat.le_trans KK.out.1 h)), fun k hk he => (h2 k hk).elim (fun h => hFE k h he) (fun h => by have := EN.out.lt k he; omega), KK.out.then_ h3 (fun k hk => (hF0 k hk).imp (fun h => .inl h) id), ?_⟩
  obtain ⟨hk0, inner, hown, hr⟩ := RR.out
  have e1 : inner = encs (Value.int .i64) l := Kd.reps_encs hr
  subst e1
  refine ⟨fun k hk => ⟨fun h => (h2 k h).elim (hk0 k hk).1 (fun h => ?_), (hk0 k hk).2⟩, _, ?_, Kd.reps_scalar l⟩
  · have := Kd.R_lt RR.out k hk; omega
  · rcases hown.2 with ⟨rfl, hn⟩ | ⟨g, cap, cur, rfl, hbg, hg, hnc, hcm, hcs, htake⟩
    · exact ⟨hown.1, .inl ⟨rfl, hn⟩⟩
    · exact ⟨hown.1, .inr ⟨g, cap, cur, rfl, hbg, (h3.2 g (blk_lt hg) (hk0 g rfl).1).trans hg, hnc, hcm, hcs, htake⟩⟩
/-- What a visit leaves behind. -/
def EnPost {σ : Type} (VI : World → (Nat → Prop) → σ → Prop) (w0 w : World) (F : Nat → Prop) (e1 e2 e3 e4 : Nat) (v : Value) (l : List Int) (s' : σ) (e : Ending) (w' : World) : Prop :=
  ∃ F' : Nat → Prop, e = .returned (.tuple #[]) ∧ VI w' F' s' ∧ (∀ k, F' k → F k ∨ w.heap.size ≤ k) ∧ (∀ k, F' k → ¬ EnE e1 e2 e3 e4 k) ∧ Kept w w' (fun k => F k ∨ some k = v.ownBlock) ∧ Below w0.heap.size w0 w' ∧ Kd.R (Kd.int .i64) 3 w' w0.heap.size (fun k => ¬ F' k ∧ ¬ EnE e1 e2 e3 e4 k) v l
set_option maxHeartbeats 8000000 in
set_option maxRecDepth 100000 in
theorem impl_enterings_1.calls {σ : Type} {nv : Nat} {caps : Array Value} {w0 : World} {VI : World → (Nat → Prop) → σ → Prop} {vis : List Int → Int → σ → σ} (V : VisE nv caps w0 VI vis) (hdyn : ∀ (args : Array Value) (w : World), (callFunc nv args).run Try.prog w = .ok (.enter nv args) w) (e1 e2 e3 e4 : Nat) (a1 a3 : Int) (k : Nat) :
    ∀ (v : Value) (l0 : List Int) (s : σ) (s' : σ) (w : World) (F : Nat → Prop), EnEnv nv caps e1 e2 e3 e4 a1 a3 w → VI w F s → (∀ k_, F k_ → ¬ EnE e1 e2 e3 e4 k_) → Below w0.heap.size w0 w → Kd.R (Kd.int .i64) 3 w w0.heap.size (fun k_ => ¬ F k_ ∧ ¬ EnE e1 e2 e3 e4 k_) v l0 → impl_enterings_1.f vis k l0 a1 a3 s = some s' →
    Calls Try.prog 72 #[v, .pointer (some ⟨e1, 0, none⟩), .pointer (some ⟨e2, 0, none⟩), .pointer (some ⟨e3, 0, none⟩), .pointer (some ⟨e4, 0, none⟩)] w (EnPost VI w0 w F e1 e2 e3 e4 v l0 s') := by
  induction k using Nat.strongRecOn with
  | _ k ih =>
  intro v l0 s s' w F henv hV hFE hB ho h
  cases k with
  | zero => exact absurd h (by simp [impl_enterings_1.f])
  | succ k =>
  simp only [impl_enterings_1.f] at h
  obtain ⟨A0, c0, rfl⟩ := Kd.R_slice ho
  have EN := Aside0.mk henv
  have VV := Aside0.mk hV
  have HB := Aside0.mk hB
  have RR := Aside0.mk ho
  have KK := Aside0.mk (Kept.refl w (fun k_ => F k_ ∨ some k_ = (Value.slice A0 l0.length c0).ownBlock))
  have FE := Aside0.mk hFE
  have HH := Aside0.mk h
  clear henv hV hB ho hFE h
  have hdyn72 : ∀ (args : Array Value) (w : World), (callFunc 72 args).run Try.prog w = .ok (.enter 72 args) w := fun args w => enters_ Try.func72 rfl rfl args w
  by_cases c8 : (l0.length : Int) = a1
  · have H := HH.out
    rw [if_pos c8] at H
    have c8b0 : ((l0.length : Int) == a1) = true := beq_iff_eq.mpr c8
    have c8b1 : ((l0.length : Int) != a1) = false := bne_eq_false_iff_eq.mpr c8
    have c8b2 : decide ((l0.length : Int) = a1) = true := decide_eq_true c8
    clear c8 HH
    replace H := Option.bind_eq_some_iff.mp H
    obtain ⟨⟨b1, b2, b3, b4⟩, A10, H⟩ := H
    have AB := Aside0.mk A10
    replace H := Option.bind_eq_some_iff.mp H
    obtain ⟨tm, A20, H⟩ := H
    have AT := Aside0.mk A20
    clear A10 A20
    by_cases cl : 1 ≤ l0.length ∧ l0.length ≤ 1000
    · rw [if_pos cl] at H
      obtain rfl := Option.some.inj H
      have HL := Aside0.mk cl
      clear cl H
      have FF := Aside0.mk (show ∀ k_, F k_ → F k_ ∨ w.heap.size ≤ k_ from fun _ h_ => .inl h_)
      have hq := EN.out.cells
      obtain ⟨q1, q2, q3, q4⟩ := hq
      go_enter Try.func72, Try.ntmps72
      go_wp2
      clear q1 q2 q3 q4
      refine start_ (n := 8) (S := fun w' => w'.cell? ⟨e2, 0, none⟩ = some (.func (.func nv) #[] caps) ∧ w'.cell? ⟨e1, 0, none⟩ = some (.int .i64 a1) ∧ w'.cell? ⟨e3, 0, none⟩ = some (.int .i64 a3)) (ds := [7]) #[false, false, false, false, false, false, false, false] (by kernel_rfl) rfl rfl ⟨((EN.out.below (below_drew1 (Below.refl _ _))).cells).2.1, ((EN.out.below (below_drew1 (Below.refl _ _))).cells).1, ((EN.out.below (below_drew1 (Below.refl _ _))).cells).2.2.1⟩ (fun hHeld => ?_)
      refine with_tabW impl_enterings_1.tab1 impl_enterings_1.bits1 (fun HT_ HW_ => ?_)
      obtain ⟨EN, VV, KK, RR, HB⟩ := enstep V EN VV KK RR HB (below_drew1 (Below.refl _ _))
      generalize World.drew _ = w2 at EN VV KK RR HB hHeld ⊢
      refine pure_ (i := 1) (N := some 12) (v := ?_) (a' := ?_) #[false, true, false, false, false, false, false, false] rfl rfl (any_of HT_.out (by kernel_rfl)) (fun _ _ _ h => h) (Or.inl ⟨by rfl, ?_⟩) ?_ ?_
      rotate_left
      · intro w'
        go_simp
        with_reducible rfl
      rotate_left
      · simp only [Act.put, List.setIfInBounds_toArray, List.set_cons_zero, List.set_cons_succ, i64_w, i32_w]
        rfl
      refine pure_ (i := 4) (N := some 15) (v := ?_) (a' := ?_) #[false, true, false, false, true, false, false, false] rfl rfl (any_of HT_.out (by kernel_rfl)) (fun _ _ _ h => h) (Or.inl ⟨by rfl, ?_⟩) ?_ ?_
      rotate_left
      · intro w'
        go_simp
        with_reducible rfl
      rotate_left
      · simp only [Act.put, List.setIfInBounds_toArray, List.set_cons_zero, List.set_cons_succ, i64_w, i32_w]
        rfl
      refine take_ (i := 0) (N := some 11) (v := ?_) (a' := ?_) #[true, true, false, false, true, false, false, false] rfl rfl (take_ofW HT_.out HW_.out (by kernel_rfl)) (fun _ _ _ h => h) (Or.inl ⟨by rfl, ?_⟩) hHeld ?_ ?_
      rotate_left
      · rintro w' ⟨s0, s1, s2⟩
        go_simp
        with_reducible rfl
      rotate_left
      · simp only [Act.put, List.setIfInBounds_toArray, List.set_cons_zero, List.set_cons_succ, i64_w, i32_w]
        rfl
      refine take_ (i := 2) (N := some 13) (v := ?_) (a' := ?_) #[true, true, true, false, true, false, false, false] rfl rfl (take_ofW HT_.out HW_.out (by kernel_rfl)) (fun _ _ _ h => h) (Or.inl ⟨by rfl, ?_⟩) hHeld ?_ ?_
      rotate_left
      · rintro w' ⟨s0, s1, s2⟩
        go_simp
        with_reducible rfl
      rotate_left
      · simp only [Act.put, List.setIfInBounds_toArray, List.set_cons_zero, List.set_cons_succ, i64_w, i32_w]
        rfl
      refine take_ (i := 3) (N := some 14) (v := ?_) (a' := ?_) #[true, true, true, true, true, false, false, false] rfl rfl (take_ofW HT_.out HW_.out (by kernel_rfl)) (fun _ _ _ h => h) (Or.inl ⟨by rfl, ?_⟩) hHeld ?_ ?_
      rotate_left
      · rintro w' ⟨s0, s1, s2⟩
        go_simp
        with_reducible rfl
      rotate_left
      · simp only [Act.put, List.setIfInBounds_toArray, List.set_cons_zero, List.set_cons_succ, i64_w, i32_w]
        rfl
      refine one_ (i := 5) (N := some 16) #[true, true, true, true, true, true, false, false] rfl rfl (one_of HT_.out (by kernel_rfl)) (by decide) (fun K hK => ?_)
      refine goes_ Try.func48 (by kernel_rfl) rfl #[.int .i64 a1, .int .i64 a3, .slice A0 l0.length c0] (by rfl) rfl rfl (by (try simp only [List.map_toArray, List.map_cons, List.map_nil]); first | done | rfl) ?_
      with_reducible refine (impl_board.calls k a1 a3 _ _ l0 b1 b2 b3 b4 _ (Kd.R_reads' RR.out).2.2 (Kd.R_reads' RR.out).2.1 AB.out).mono ?_
      rintro e w3 ⟨v0_, v1_, v2_, v3_, rfl, h0_, h1_, h2_, h3_, hb⟩
      refine ⟨_, rfl, ?_⟩
      obtain ⟨EN, VV, KK, RR, HB⟩ := enstep V EN VV KK RR HB hb
      clear hb
      obtain ⟨B0, d0, rfl⟩ := Kd.R_slice h0_
      obtain ⟨B1, d1, rfl⟩ := Kd.R_slice h1_
      obtain ⟨B2, d2, rfl⟩ := Kd.R_slice h2_
      obtain ⟨B3, d3, rfl⟩ := Kd.S_slice h3_
      have O0 := Aside0.mk h0_
      have O1 := Aside0.mk h1_
      have O2 := Aside0.mk h2_
      have O3 := Aside0.mk h3_
      clear h0_ h1_ h2_ h3_
      refine hK.out _ _ ⟨(EN.out.cells).2.1, (EN.out.cells).1, (EN.out.cells).2.2.1⟩ (fun hHeld => ?_)
      clear hK K
      refine norm_ (a' := ?_) ?_ ?_
      rotate_left
      · show Act.put _ (some 16) _ = _
        simp only [Act.put, List.setIfInBounds_toArray, List.set_cons_zero, List.set_cons_succ, i64_w, i32_w]
        rfl
      refine one_ (i := 6) (N := some 17) #[true, true, true, true, true, true, true, false] rfl rfl (one_of HT_.out (by kernel_rfl)) (by decide) (fun K hK => ?_)
      refine goes_ Try.func49 (by kernel_rfl) rfl #[.agg #[.slice B0 b1.length d0, .slice B1 b2.length d1, .slice B2 b3.length d2, .slice B3 b4.length d3]] (by rfl) rfl rfl (by (try simp only [List.map_toArray, List.map_cons, List.map_nil]); first | done | rfl) ?_
      with_reducible refine (impl_boarding_time.calls _ _ b1 _ _ b2 _ _ b3 _ _ b4 tm _ (Kd.R_reads' O0.out).2.2 (Kd.R_reads' O0.out).2.1 (Kd.R_reads' O1.out).2.2 (Kd.R_reads' O1.out).2.1 (Kd.R_reads' O2.out).2.2 (Kd.R_reads' O2.out).2.1 (Kd.S_reads' O3.out).2.2 (Kd.S_reads' O3.out).2.1 AT.out).mono ?_
      rintro e w4 ⟨rfl, hb⟩
      refine ⟨_, rfl, ?_⟩
      obtain ⟨EN, VV, KK, RR, HB⟩ := enstep V EN VV KK RR HB hb
      clear hb O0 O1 O2 O3
      refine hK.out _ _ ⟨(EN.out.cells).2.1, (EN.out.cells).1, (EN.out.cells).2.2.1⟩ (fun hHeld => ?_)
      clear hK K
      refine norm_ (a' := ?_) ?_ ?_
      rotate_left
      · show Act.put _ (some 17) _ = _
        simp only [Act.put, List.setIfInBounds_toArray, List.set_cons_zero, List.set_cons_succ, i64_w, i32_w]
        rfl
      refine last_ (i := 7) (N := some 18) #[true, true, true, true, true, true, true, true] rfl rfl (one_of HT_.out (by kernel_rfl)) (by decide) (fun K hK => ?_)
      refine goesD_ hdyn (cap := caps) #[.slice A0 l0.length c0, .int .i64 tm] (#[.slice A0 l0.length c0, .int .i64 tm] ++ caps) rfl (by rfl) rfl rfl (by rfl) (by (try simp only [List.map_toArray, List.map_cons, List.map_nil]); first | done | rfl) ?_
      with_reducible refine (V.call VV.out HB.out (Kd.R_mono RR.out (fun _ h_ => h_.1)) HL.out.1 HL.out.2).mono ?_
      rintro e w5 ⟨F2, rfl, h1, h2, h3, h4⟩
      refine ⟨_, rfl, ?_⟩
      obtain ⟨hh1, hh2, hh3, hh4⟩ := envis EN FE.out KK FF.out RR h1 h2 h3 h4
      have V2 := Aside0.mk h1
      have FF2 := Aside0.mk hh1
      have FE2 := Aside0.mk hh2
      have KK2 := Aside0.mk hh3
      have RR2 := Aside0.mk hh4
      have HB2 := Aside0.mk h4
      clear h1 h2 h3 h4 hh1 hh2 hh3 hh4 EN VV KK RR HB FE FF
      refine hK.out _ _ ?_
      clear hK K
      refine norm_ (a' := ?_) ?_ ?_
      rotate_left
      · show Act.put _ (some 18) _ = _
        simp only [Act.put, List.setIfInBounds_toArray, List.set_cons_zero, List.set_cons_succ, i64_w, i32_w]
        rfl
      refine done_ (done_of HT_.out (by kernel_rfl)) ?_

      try go_wp2
      go_end0
      exact ⟨F2, rfl, V2.out, FF2.out, FE2.out, KK2.out, HB2.out, RR2.out⟩
    · rw [if_neg cl] at H
      exact absurd H (by simp)
  · have H := HH.out
    rw [if_neg c8] at H
    have c8b0 : ((l0.length : Int) == a1) = false := beq_eq_false_iff_ne.mpr c8
    have c8b1 : ((l0.length : Int) != a1) = true := bne_iff_ne.mpr c8
    have c8b2 : decide ((l0.length : Int) = a1) = false := decide_eq_false c8
    have H' := Aside0.mk H
    clear H HH
    have hq := EN.out.cells
    obtain ⟨q1, q2, q3, q4⟩ := hq
    go_enter Try.func72, Try.ntmps72
    go_wp2
    clear q1 q2 q3 q4
    go_loopg [20] k (fun kq v20 w' => ∃ (x : Int) (F1 : Nat → Prop) (s1 : σ), v20 = .int .i64 x ∧ Aside0 (impl_enterings_1.l0 vis kq l0 a1 a3 a1 x s1 = some s') ∧ Aside0 (kq ≤ k) ∧ Aside0 (EnEnv nv caps e1 e2 e3 e4 a1 a3 w') ∧ Aside0 (VI w' F1 s1) ∧ Aside0 (∀ k_, F1 k_ → ¬ EnE e1 e2 e3 e4 k_) ∧ Aside0 (∀ k_, F1 k_ → F k_ ∨ w.heap.size ≤ k_) ∧ Aside0 (Kept w w' (fun k_ => F k_ ∨ some k_ = (Value.slice A0 l0.length c0).ownBlock)) ∧ Aside0 (Kd.R (Kd.int .i64) 3 w' w0.heap.size (fun k_ => ¬ F1 k_ ∧ ¬ EnE e1 e2 e3 e4 k_) (.slice A0 l0.length c0) l0) ∧ Aside0 (Below w0.heap.size w0 w'))
    case atStart => exact ⟨0, F, s, rfl, H', ⟨Nat.le_refl _⟩, EN, VV, FE, ⟨fun _ h_ => .inl h_⟩, KK, RR, HB⟩
    case round =>
      clear H' EN VV FE KK RR HB
      clear c8 c8b0 c8b1 c8b2
      obtain ⟨x, F1, s1, rfl, HA, HK1, EN, VV, FE, FF, KK, RR, HB⟩ := hrel
      cases gk with
      | zero => exact absurd HA.out (by simp [impl_enterings_1.l0])
      | succ k1 =>
        have H := HA.out
        clear HA
        simp only [impl_enterings_1.l0] at H
        by_cases c9 : x < a1
        · rw [if_pos c9] at H
          have c9b0 : decide (x < a1) = true := decide_eq_true c9
          clear c9
          replace H := Option.bind_eq_some_iff.mp H
          obtain ⟨tb, A120, H⟩ := H
          have AC := Aside0.mk A120
          clear A120
          cases tb with
          | true =>
            rw [if_pos rfl] at H
            have H' := Aside0.mk H
            clear H
            go_wp2_with (go_at_call 73; (with_reducible refine (slices_Contains_int_int.calls k1 _ _ l0 x true _ (Kd.R_reads' RR.out).2.2 (Kd.R_reads' RR.out).2.1 AC.out).mono ?_); rintro e w3 ⟨rfl, ⟨nd, rfl⟩⟩)
            obtain ⟨EN, VV, KK, RR, HB⟩ := enstep V EN VV KK RR HB (pw_below_drewN (Below.refl _ _) nd)
            go_roundg k1
            case measure => have := HK1.out; omega
            case rel => exact ⟨(wrap64 (x + 1)), F1, s1, (by first | rfl | (simp; done) | (simp [*]; done)), H', ⟨by have := HK1.out; omega⟩, EN, VV, FE, FF, KK, RR, HB⟩
          | false =>
            rw [if_neg (show ¬ (false = true) by decide)] at H
            by_cases cl : l0.length ≤ 1000
            · rw [if_pos cl] at H
              have HL := Aside0.mk cl
              clear cl
              replace H := Option.bind_eq_some_iff.mp H
              obtain ⟨s2, A160, H⟩ := H
              have AF := Aside0.mk A160
              clear A160
              have H' := Aside0.mk H
              clear H
              go_wp2_with (go_at_call 73; (with_reducible refine (slices_Contains_int_int.calls k1 _ _ l0 x false _ (Kd.R_reads' RR.out).2.2 (Kd.R_reads' RR.out).2.1 AC.out).mono ?_); rintro e w3 ⟨rfl, ⟨nd, rfl⟩⟩)
              obtain ⟨EN, VV, KK, RR, HB⟩ := enstep V EN VV KK RR HB (pw_below_drewN (Below.refl _ _) nd)
              refine start_ (n := 6) (S := fun w' => w'.cell? ⟨e4, 0, none⟩ = some (.func (.func 72) #[] #[.pointer (some ⟨e1, 0, none⟩), .pointer (some ⟨e2, 0, none⟩), .pointer (some ⟨e3, 0, none⟩), .pointer (some ⟨e4, 0, none⟩)])) (ds := []) #[false, false, false, false, false, false] (by kernel_rfl) rfl rfl (((EN.out.below (below_drew1 (Below.refl _ _))).cells).2.2.2) (fun hHeld => ?_)
              refine with_tabW impl_enterings_1.tab6 impl_enterings_1.bits6 (fun HT_ HW_ => ?_)
              obtain ⟨EN, VV, KK, RR, HB⟩ := enstep V EN VV KK RR HB (below_drew1 (Below.refl _ _))
              generalize World.drew _ = w2 at EN VV KK RR HB hHeld ⊢
              refine pure_ (i := 1) (N := some 28) (v := ?_) (a' := ?_) #[false, true, false, false, false, false] rfl rfl (any_of HT_.out (by kernel_rfl)) (fun _ _ _ h => h) (Or.inl ⟨by rfl, ?_⟩) ?_ ?_
              rotate_left
              · intro w'
                go_simp
                with_reducible rfl
              rotate_left
              · simp only [Act.put, List.setIfInBounds_toArray, List.set_cons_zero, List.set_cons_succ, i64_w, i32_w]
                rfl
              refine pure_ (i := 2) (N := some 29) (v := ?_) (a' := ?_) #[false, true, true, false, false, false] rfl rfl (any_of HT_.out (by kernel_rfl)) (fun _ _ _ h => h) (Or.inl ⟨by rfl, ?_⟩) ?_ ?_
              rotate_left
              · intro w'
                go_simp
                with_reducible rfl
              rotate_left
              · simp only [Act.put, List.setIfInBounds_toArray, List.set_cons_zero, List.set_cons_succ, i64_w, i32_w]
                rfl
              refine take_ (i := 0) (N := some 27) (v := ?_) (a' := ?_) #[true, true, true, false, false, false] rfl rfl (take_ofW HT_.out HW_.out (by kernel_rfl)) (fun _ _ _ h => h) (Or.inl ⟨by rfl, ?_⟩) hHeld ?_ ?_
              rotate_left
              · intro w' s0
                go_simp
                with_reducible rfl
              rotate_left
              · simp only [Act.put, List.setIfInBounds_toArray, List.set_cons_zero, List.set_cons_succ, i64_w, i32_w]
                rfl
              refine one_ (i := 3) (N := some 30) #[true, true, true, true, false, false] rfl rfl (one_of HT_.out (by kernel_rfl)) (by decide) (fun K hK => ?_)
              refine value_ (w1 := w2.alloc (.cells #[.int .i64 x] 3 (0, 0))) (v := .slice (some ⟨w2.heap.size, 0, none⟩) 1 1) (by rfl) rfl ?_ ?_
              · first | (go_simp; done) | (go_simp; rfl)
              have hbx := below_alloc (Below.refl w2.heap.size w2) (.cells #[.int .i64 x] 3 (0, 0))
              have hcx : (w2.alloc (.cells #[.int .i64 x] 3 (0, 0))).cell? ⟨w2.heap.size, 0, none⟩ = some (.int .i64 x) := (blk_cell (blk_new w2 (.cells #[.int .i64 x] 3 (0, 0))) 0).trans rfl
              obtain ⟨EN, VV, KK, RR, HB⟩ := enstep V EN VV KK RR HB hbx
              clear hbx
              have HCX := Aside0.mk hcx
              clear hcx
              generalize w2.heap.size = gx at HCX ⊢
              generalize World.alloc _ _ = w6 at EN VV KK RR HB HCX hHeld ⊢
              refine hK.out _ _ ((EN.out.cells).2.2.2) (fun hHeld => ?_)
              clear hK K
              refine norm_ (a' := ?_) ?_ ?_
              rotate_left
              · show Act.put _ (some 30) _ = _
                simp only [Act.put, List.setIfInBounds_toArray, List.set_cons_zero, List.set_cons_succ, i64_w, i32_w]
                rfl
              refine one_ (i := 4) (N := some 31) #[true, true, true, true, true, false] rfl rfl (one_of HT_.out (by kernel_rfl)) (by decide) (fun K hK => ?_)
              refine Kd.R_append_keep (Kd.int .i64) (w0 := w0) (W := w6) w0.heap.size (by rfl) (.tmp 28) (.tmp 30) 24 3 (.int .i64 0) 8 (by rfl) Try.underlying24 (by kernel_rfl) rfl (by decide) (.slice A0 l0.length c0) l0 x [.int .i64 x] (fun k_ => ¬ F1 k_ ∧ ¬ EnE e1 e2 e3 e4 k_) (fun _ => False) ⟨gx, 0, none⟩ 1 (by rfl) (by rfl) (fun j u hj => by cases j with | zero => (simp at hj; subst hj; exact HCX.out) | succ j => simp at hj) rfl (fun _ h_ => h_.elim) (fun k_ hk_ => ⟨fun h_ => by have := V.lt VV.out k_ h_; omega, fun h_ => by have := EN.out.lt k_ h_; omega⟩) RR.out HB.out HB.out.size (by have := HL.out; omega) (by decide) ?_
              intro v1 w7 ho1 hoE hb7 hg7 hat7
              have HG := Aside0.mk (show w.heap.size ≤ w6.heap.size from KK.out.1)
              obtain ⟨EN, VV, KK⟩ := enapp V EN VV KK RR hg7
              have RR7 := Aside0.mk hoE
              have R1 := Aside0.mk ho1
              have HAT := Aside0.mk hat7
              clear RR HB
              have RR := RR7
              have HB := Aside0.mk hb7
              clear RR7 ho1 hoE hb7 hg7 hat7 HCX
              refine hK.out _ _ ((EN.out.cells).2.2.2) (fun hHeld => ?_)
              clear hK K
              refine norm_ (a' := ?_) ?_ ?_
              rotate_left
              · show Act.put _ (some 31) _ = _
                simp only [Act.put, List.setIfInBounds_toArray, List.set_cons_zero, List.set_cons_succ, i64_w, i32_w]
                rfl
              refine one_ (i := 5) (N := some 32) #[true, true, true, true, true, true] rfl rfl (one_of HT_.out (by kernel_rfl)) (by decide) (fun K hK => ?_)
              refine goesD_ hdyn72 (cap := #[.pointer (some ⟨e1, 0, none⟩), .pointer (some ⟨e2, 0, none⟩), .pointer (some ⟨e3, 0, none⟩), .pointer (some ⟨e4, 0, none⟩)]) #[v1] #[v1, .pointer (some ⟨e1, 0, none⟩), .pointer (some ⟨e2, 0, none⟩), .pointer (some ⟨e3, 0, none⟩), .pointer (some ⟨e4, 0, none⟩)] rfl (by rfl) rfl rfl (by rfl) (by (try simp only [List.map_toArray, List.map_cons, List.map_nil]); first | done | rfl) ?_
              with_reducible refine (ih k1 (by have := HK1.out; omega) v1 (l0 ++ [x]) s1 s2 w7 F1 EN.out VV.out FE.out HB.out R1.out AF.out).mono ?_
              rintro e w8 hpost
              obtain ⟨F2, rfl, hV2, hF2, hFE2, hK2, hB2, hR2⟩ := hpost
              refine ⟨_, rfl, ?_⟩
              have hh_ := enback V EN hV2 VV KK FE.out FF.out HG.out RR.out R1.out hR2 hK2 hF2 HAT.out
              clear EN VV KK RR HB FE FF R1 HAT
              obtain ⟨EN, VV, KK, RR, hFE3, hFF3⟩ := hh_
              have FE := Aside0.mk hFE3
              have FF := Aside0.mk hFF3
              have HB := Aside0.mk hB2
              clear hV2 hF2 hFE2 hK2 hB2 hR2 hFE3 hFF3
              refine hK.out _ _ ((EN.out.cells).2.2.2) (fun hHeld => ?_)
              clear hK K
              refine norm_ (a' := ?_) ?_ ?_
              rotate_left
              · show Act.put _ (some 32) _ = _
                simp only [Act.put, List.setIfInBounds_toArray, List.set_cons_zero, List.set_cons_succ, i64_w, i32_w]
                rfl
              refine done_ (done_of HT_.out (by kernel_rfl)) ?_

              try go_wp2
              go_roundg k1
              case measure => have := HK1.out; omega
              case rel => exact ⟨(wrap64 (x + 1)), F2, s2, (by first | rfl | (simp; done) | (simp [*]; done)), H', ⟨by have := HK1.out; omega⟩, EN, VV, FE, FF, KK, RR, HB⟩
            · rw [if_neg cl] at H
              exact absurd H (by simp)
        · rw [if_neg c9] at H
          have c9b0 : decide (x < a1) = false := decide_eq_false c9
          clear c9
          obtain rfl := Option.some.inj H
          clear H
          go_wp2
          go_end0
          exact ⟨F1, rfl, VV.out, FF.out, FE.out, KK.out, HB.out, RR.out⟩


/-! ### impl_enterings: function 57 -/
theorem below_of_drawn {w w' : World} (h : Drawn0 w w') : Below w.heap.size w w' := by
  obtain ⟨n, h⟩ := h.out
  rw [h]; exact pw_below_drewN (Below.refl _ _) n
def impl_enterings.f {σ : Type} (vis : List Int → Int → σ → σ) (k : Nat) (n s : Int) (st : σ) : Option (σ × Bool) := (impl_within.f n 1 6).bind fun b => if b = true then ((impl_within.f s 1 5).bind fun b => if b = true then ((impl_enterings_1.f vis k [] n s st).bind fun o => some (o, true)) else some (st, false)) else some (st, false)
def EnEnd {σ : Type} (VI : World → (Nat → Prop) → σ → Prop) (w0 w : World) (F : Nat → Prop) (s' : σ) (b : Bool) (e : Ending) (w' : World) : Prop :=
  ∃ F' : Nat → Prop, e = .returned (.bool b) ∧ VI w' F' s' ∧ (∀ k, F' k → F k ∨ w.heap.size ≤ k) ∧ Kept w w' F ∧ Below w0.heap.size w0 w'
set_option maxHeartbeats 8000000 in
set_option maxRecDepth 100000 in
theorem impl_enterings.calls {σ : Type} {nv : Nat} {caps : Array Value} {w0 : World} {VI : World → (Nat → Prop) → σ → Prop} {vis : List Int → Int → σ → σ} (V : VisE nv caps w0 VI vis) (hdyn : ∀ (args : Array Value) (w : World), (callFunc nv args).run Try.prog w = .ok (.enter nv args) w) (k : Nat) (n s : Int) (st : σ) (s' : σ) (b : Bool) (w : World) (F : Nat → Prop)
    (hV : VI w F st) (hB : Below w0.heap.size w0 w) (h : impl_enterings.f vis k n s st = some (s', b)) :
    Calls Try.prog 57 #[.int .i64 n, .int .i64 s, .func (.func nv) #[] caps] w (EnEnd VI w0 w F s' b) := by
  have hmf : ∀ (fn : Fn) (first cap : Array Value) (w : World), (Instr.makeFunc fn first cap).run Try.prog w = .ok (.func fn first cap) w := fun _ _ _ _ => rfl
  have VV0 := Aside0.mk hV
  have HB1 := Aside0.mk hB
  have HB := Aside0.mk (Below.refl w.heap.size w)
  unfold impl_enterings.f at h
  replace h := Option.bind_eq_some_iff.mp h
  obtain ⟨b1, A10, h⟩ := h
  have A1 := Aside0.mk A10
  clear A10 hV hB
  have fin : ∀ {w6 : World}, Below w.heap.size w w6 → EnEnd VI w0 w F st false (.returned (.bool false)) w6 := fun hb =>
    ⟨F, rfl, V.frame VV0.out (fun k_ hk_ => hb.block k_ (V.lt VV0.out k_ hk_)), fun _ h_ => .inl h_, Kept.of_below hb F, below_step HB1.out hb⟩
  have FIN := Aside0.mk (@fin)
  clear fin
  cases b1 with
  | false =>
    rw [if_neg (show ¬ (false = true) by decide)] at h
    simp only [Option.some.injEq, Prod.mk.injEq] at h
    obtain ⟨rfl, rfl⟩ := h
    go_enter Try.func57, Try.ntmps57
    go_wp2_with (first | ((with_reducible refine gate_dst (N := 3) rfl ?_); refine box_event ?hg (N := 3) ?hd (cs := #[.int .i64 n]) (t := 3) ?hr ?_; (case hd => rfl); (case hg => rfl); (case hr => first | (go_simp; done) | (go_simp; rfl)); intro e1 hg_ w_e1 hbox hb; have Ge1 := Aside0.mk (show w.heap.size ≤ e1 by rw [hg_]; exact below_size HB.out); have n0_ := Aside0.mk (below_step HB.out hb); have B1 := Aside0.mk hbox;  clear HB; have HB := n0_; clear n0_; clear hbox hb hg_) | ((with_reducible refine gate_dst (N := 4) rfl ?_); refine box_event ?hg (N := 4) ?hd (cs := #[.int .i64 s]) (t := 3) ?hr ?_; (case hd => rfl); (case hg => rfl); (case hr => first | (go_simp; done) | (go_simp; rfl)); intro e3 hg_ w_e3 hbox hb; have Ge3 := Aside0.mk (show w.heap.size ≤ e3 by rw [hg_]; exact below_size HB.out); have n0_ := Aside0.mk (below_step HB.out hb); have B3 := Aside0.mk hbox; have m_ := Aside0.mk (blk_below B1.out hb); clear B1; have B1 := m_; clear m_;  clear HB; have HB := n0_; clear n0_; clear hbox hb hg_) | ((with_reducible refine gate_dst (N := 5) rfl ?_); refine box_event ?hg (N := 5) ?hd (cs := #[.func (.func nv) #[] caps]) (t := 63) ?hr ?_; (case hd => rfl); (case hg => rfl); (case hr => first | (go_simp; done) | (go_simp; rfl)); intro e2 hg_ w_e2 hbox hb; have Ge2 := Aside0.mk (show w.heap.size ≤ e2 by rw [hg_]; exact below_size HB.out); have n0_ := Aside0.mk (below_step HB.out hb); have B2 := Aside0.mk hbox; have m_ := Aside0.mk (blk_below B1.out hb); clear B1; have B1 := m_; clear m_; have m_ := Aside0.mk (blk_below B3.out hb); clear B3; have B3 := m_; clear m_;  clear HB; have HB := n0_; clear n0_; clear hbox hb hg_; have q1_ : w_e2.cell? ⟨e1, 0, none⟩ = some (.int .i64 n) := (blk_cell B1.out 0).trans rfl) | (go_at_call 52; (with_reducible refine (impl_within.calls n 1 6 false _ A1.out).mono ?_); rintro e w6 ⟨rfl, hd_⟩; have hb := below_of_drawn hd_; have n0_ := Aside0.mk (below_step HB.out hb); have n1_ := Aside0.mk (blk_below B1.out hb); have n2_ := Aside0.mk (blk_below B2.out hb); have n3_ := Aside0.mk (blk_below B3.out hb); clear HB B1 B2 B3 hd_ hb; (try clear q1_); have HB := n0_; have B1 := n1_; have B2 := n2_; have B3 := n3_; clear n0_ n1_ n2_ n3_; have q3_ : w6.cell? ⟨e3, 0, none⟩ = some (.int .i64 s) := (blk_cell B3.out 0).trans rfl))
    go_ret
    exact FIN.out HB.out
  | true =>
    rw [if_pos rfl] at h
    replace h := Option.bind_eq_some_iff.mp h
    obtain ⟨b2, A20, h⟩ := h
    have A2 := Aside0.mk A20
    clear A20
    cases b2 with
    | false =>
      rw [if_neg (show ¬ (false = true) by decide)] at h
      simp only [Option.some.injEq, Prod.mk.injEq] at h
      obtain ⟨rfl, rfl⟩ := h
      go_enter Try.func57, Try.ntmps57
      go_wp2_with (first | ((with_reducible refine gate_dst (N := 3) rfl ?_); refine box_event ?hg (N := 3) ?hd (cs := #[.int .i64 n]) (t := 3) ?hr ?_; (case hd => rfl); (case hg => rfl); (case hr => first | (go_simp; done) | (go_simp; rfl)); intro e1 hg_ w_e1 hbox hb; have Ge1 := Aside0.mk (show w.heap.size ≤ e1 by rw [hg_]; exact below_size HB.out); have n0_ := Aside0.mk (below_step HB.out hb); have B1 := Aside0.mk hbox;  clear HB; have HB := n0_; clear n0_; clear hbox hb hg_) | ((with_reducible refine gate_dst (N := 4) rfl ?_); refine box_event ?hg (N := 4) ?hd (cs := #[.int .i64 s]) (t := 3) ?hr ?_; (case hd => rfl); (case hg => rfl); (case hr => first | (go_simp; done) | (go_simp; rfl)); intro e3 hg_ w_e3 hbox hb; have Ge3 := Aside0.mk (show w.heap.size ≤ e3 by rw [hg_]; exact below_size HB.out); have n0_ := Aside0.mk (below_step HB.out hb); have B3 := Aside0.mk hbox; have m_ := Aside0.mk (blk_below B1.out hb); clear B1; have B1 := m_; clear m_;  clear HB; have HB := n0_; clear n0_; clear hbox hb hg_) | ((with_reducible refine gate_dst (N := 5) rfl ?_); refine box_event ?hg (N := 5) ?hd (cs := #[.func (.func nv) #[] caps]) (t := 63) ?hr ?_; (case hd => rfl); (case hg => rfl); (case hr => first | (go_simp; done) | (go_simp; rfl)); intro e2 hg_ w_e2 hbox hb; have Ge2 := Aside0.mk (show w.heap.size ≤ e2 by rw [hg_]; exact below_size HB.out); have n0_ := Aside0.mk (below_step HB.out hb); have B2 := Aside0.mk hbox; have m_ := Aside0.mk (blk_below B1.out hb); clear B1; have B1 := m_; clear m_; have m_ := Aside0.mk (blk_below B3.out hb); clear B3; have B3 := m_; clear m_;  clear HB; have HB := n0_; clear n0_; clear hbox hb hg_; have q1_ : w_e2.cell? ⟨e1, 0, none⟩ = some (.int .i64 n) := (blk_cell B1.out 0).trans rfl) | (go_at_call 52; (with_reducible refine (impl_within.calls n 1 6 true _ A1.out).mono ?_); rintro e w6 ⟨rfl, hd_⟩; have hb := below_of_drawn hd_; have n0_ := Aside0.mk (below_step HB.out hb); have n1_ := Aside0.mk (blk_below B1.out hb); have n2_ := Aside0.mk (blk_below B2.out hb); have n3_ := Aside0.mk (blk_below B3.out hb); clear HB B1 B2 B3 hd_ hb; (try clear q1_); have HB := n0_; have B1 := n1_; have B2 := n2_; have B3 := n3_; clear n0_ n1_ n2_ n3_; have q3_ : w6.cell? ⟨e3, 0, none⟩ = some (.int .i64 s) := (blk_cell B3.out 0).trans rfl) | (go_at_call 52; (with_reducible refine (impl_within.calls s 1 5 false _ A2.out).mono ?_); rintro e w7 ⟨rfl, hd_⟩; have hb := below_of_drawn hd_; have n0_ := Aside0.mk (below_step HB.out hb); have n1_ := Aside0.mk (blk_below B1.out hb); have n2_ := Aside0.mk (blk_below B2.out hb); have n3_ := Aside0.mk (blk_below B3.out hb); clear HB B1 B2 B3 hd_ hb; (try clear q1_); have HB := n0_; have B1 := n1_; have B2 := n2_; have B3 := n3_; clear n0_ n1_ n2_ n3_; (try clear q3_)))
      go_ret
      exact FIN.out HB.out
    | true =>
      rw [if_pos rfl] at h
      replace h := Option.bind_eq_some_iff.mp h
      obtain ⟨s1, A30, h⟩ := h
      simp only [Option.some.injEq, Prod.mk.injEq] at h
      obtain ⟨rfl, rfl⟩ := h
      have AF := Aside0.mk A30
      clear A30
      go_enter Try.func57, Try.ntmps57
      go_wp2_with (first | ((with_reducible refine gate_dst (N := 3) rfl ?_); refine box_event ?hg (N := 3) ?hd (cs := #[.int .i64 n]) (t := 3) ?hr ?_; (case hd => rfl); (case hg => rfl); (case hr => first | (go_simp; done) | (go_simp; rfl)); intro e1 hg_ w_e1 hbox hb; have Ge1 := Aside0.mk (show w.heap.size ≤ e1 by rw [hg_]; exact below_size HB.out); have n0_ := Aside0.mk (below_step HB.out hb); have B1 := Aside0.mk hbox;  clear HB; have HB := n0_; clear n0_; clear hbox hb hg_) | ((with_reducible refine gate_dst (N := 4) rfl ?_); refine box_event ?hg (N := 4) ?hd (cs := #[.int .i64 s]) (t := 3) ?hr ?_; (case hd => rfl); (case hg => rfl); (case hr => first | (go_simp; done) | (go_simp; rfl)); intro e3 hg_ w_e3 hbox hb; have Ge3 := Aside0.mk (show w.heap.size ≤ e3 by rw [hg_]; exact below_size HB.out); have n0_ := Aside0.mk (below_step HB.out hb); have B3 := Aside0.mk hbox; have m_ := Aside0.mk (blk_below B1.out hb); clear B1; have B1 := m_; clear m_;  clear HB; have HB := n0_; clear n0_; clear hbox hb hg_) | ((with_reducible refine gate_dst (N := 5) rfl ?_); refine box_event ?hg (N := 5) ?hd (cs := #[.func (.func nv) #[] caps]) (t := 63) ?hr ?_; (case hd => rfl); (case hg => rfl); (case hr => first | (go_simp; done) | (go_simp; rfl)); intro e2 hg_ w_e2 hbox hb; have Ge2 := Aside0.mk (show w.heap.size ≤ e2 by rw [hg_]; exact below_size HB.out); have n0_ := Aside0.mk (below_step HB.out hb); have B2 := Aside0.mk hbox; have m_ := Aside0.mk (blk_below B1.out hb); clear B1; have B1 := m_; clear m_; have m_ := Aside0.mk (blk_below B3.out hb); clear B3; have B3 := m_; clear m_;  clear HB; have HB := n0_; clear n0_; clear hbox hb hg_; have q1_ : w_e2.cell? ⟨e1, 0, none⟩ = some (.int .i64 n) := (blk_cell B1.out 0).trans rfl) | (go_at_call 52; (with_reducible refine (impl_within.calls n 1 6 true _ A1.out).mono ?_); rintro e w6 ⟨rfl, hd_⟩; have hb := below_of_drawn hd_; have n0_ := Aside0.mk (below_step HB.out hb); have n1_ := Aside0.mk (blk_below B1.out hb); have n2_ := Aside0.mk (blk_below B2.out hb); have n3_ := Aside0.mk (blk_below B3.out hb); clear HB B1 B2 B3 hd_ hb; (try clear q1_); have HB := n0_; have B1 := n1_; have B2 := n2_; have B3 := n3_; clear n0_ n1_ n2_ n3_; have q3_ : w6.cell? ⟨e3, 0, none⟩ = some (.int .i64 s) := (blk_cell B3.out 0).trans rfl) | (go_at_call 52; (with_reducible refine (impl_within.calls s 1 5 true _ A2.out).mono ?_); rintro e w7 ⟨rfl, hd_⟩; have hb := below_of_drawn hd_; have n0_ := Aside0.mk (below_step HB.out hb); have n1_ := Aside0.mk (blk_below B1.out hb); have n2_ := Aside0.mk (blk_below B2.out hb); have n3_ := Aside0.mk (blk_below B3.out hb); clear HB B1 B2 B3 hd_ hb; (try clear q1_); have HB := n0_; have B1 := n1_; have B2 := n2_; have B3 := n3_; clear n0_ n1_ n2_ n3_; (try clear q3_)) | (go_at_call 72; have hEN := Aside0.mk (show EnEnv nv caps e1 e2 e3 w7.heap.size n s (w7.alloc (.cells #[.func (.func 72) #[] #[.pointer (some ⟨e1, 0, none⟩), .pointer (some ⟨e2, 0, none⟩), .pointer (some ⟨e3, 0, none⟩), .pointer (some ⟨w7.heap.size, 0, none⟩)]] 72 (0, 0))) from ⟨blk_alloc B1.out _, blk_alloc B2.out _, blk_alloc B3.out _, blk_new _ _⟩); have hBO := Aside0.mk (show Below w.heap.size w (w7.alloc (.cells #[.func (.func 72) #[] #[.pointer (some ⟨e1, 0, none⟩), .pointer (some ⟨e2, 0, none⟩), .pointer (some ⟨e3, 0, none⟩), .pointer (some ⟨w7.heap.size, 0, none⟩)]] 72 (0, 0))) from below_alloc HB.out _); have hG4 := Aside0.mk (below_size HB.out); refine (impl_enterings_1.calls V hdyn e1 e2 e3 w7.heap.size n s k (.slice none 0 0) [] st s1 _ F hEN.out (V.frame VV0.out (fun k_ hk_ => hBO.out.block k_ (V.lt VV0.out k_ hk_))) (fun k_ hk_ he_ => by (have h1_ := V.lt VV0.out k_ hk_; have h2_ := Ge1.out; have h3_ := Ge2.out; have h4_ := Ge3.out; have h5_ := hG4.out; rcases he_ with h_ | h_ | h_ | h_ <;> omega)) (below_step HB1.out hBO.out) (Kd.R_nil _ _ _ _ _) AF.out).mono ?_; rintro e w9 ⟨F2, rfl, hV2, hF2, hFE2, hK2, hB2, hR2⟩; have V2 := Aside0.mk hV2; have FW := Aside0.mk (show ∀ k_, F2 k_ → F k_ ∨ w.heap.size ≤ k_ from fun k_ hk_ => (hF2 k_ hk_).imp id (fun h_ => Nat.le_trans hBO.out.size h_)); have KK2 := Aside0.mk (show Kept w w9 F from (Kept.of_below hBO.out F).then_ hK2 (fun k_ hk_ => hk_.elim .inl (fun h_ => by simp [Value.ownBlock] at h_))); have HB2 := Aside0.mk hB2; clear hV2 hF2 hFE2 hK2 hB2 hR2 hEN hBO hG4 B1 B2 B3 HB))
      go_ret
      exact ⟨F2, rfl, V2.out, FW.out, KK2.out, HB2.out⟩


/-! ### impl_MeanTime_1: function 58 -/
/-- The visitor that sums up. -/
def visMean (_ : List Int) (t : Int) (st : Int × Int) : Int × Int := (wrap64 (st.1 + t), wrap64 (st.2 + 1))
def VIMean (gs gc : Nat) (w : World) (F : Nat → Prop) (st : Int × Int) : Prop := F = (fun k => k = gs ∨ k = gc) ∧ w.heap[gs]? = some (.cells #[.int .i64 st.1] 3 (0, 0)) ∧ w.heap[gc]? = some (.cells #[.int .i64 st.2] 3 (0, 0))
set_option maxHeartbeats 8000000 in
theorem impl_MeanTime_1.calls (gs gc : Nat) (hne : gs ≠ gc) (c d t : Int) (v : Value) (w : World) (hs : w.heap[gs]? = some (.cells #[.int .i64 c] 3 (0, 0))) (hc : w.heap[gc]? = some (.cells #[.int .i64 d] 3 (0, 0))) :
    Calls Try.prog 58 #[v, .int .i64 t, .pointer (some ⟨gs, 0, none⟩), .pointer (some ⟨gc, 0, none⟩)] w fun e w' => e = .returned (.tuple #[]) ∧ ∃ w2, Below w.heap.size w w2 ∧ w' = (w2.setCell ⟨gs, 0, none⟩ (.int .i64 (wrap64 (c + t)))).setCell ⟨gc, 0, none⟩ (.int .i64 (wrap64 (d + 1))) := by
  have q1_ : w.cell? ⟨gs, 0, none⟩ = some (.int .i64 c) := (blk_cell hs 0).trans rfl
  have q2_ : w.cell? ⟨gc, 0, none⟩ = some (.int .i64 d) := (blk_cell hc 0).trans rfl
  have f1_ := blk_frozen hs 0
  have f2_ := blk_frozen hc 0
  have n1_ : ¬ gc = gs := Ne.symm hne
  clear hs hc
  go_enter Try.func58, Try.ntmps58
  go_region
  all_goals (try go_wp2)
  all_goals go_end0
  all_goals exact ⟨rfl, _, below_drew1 (Below.refl _ _), rfl⟩
theorem impl_MeanTime_1.vis (w0 : World) (gs gc : Nat) (hne : gs ≠ gc) (h1 : w0.heap.size ≤ gs) (h2 : w0.heap.size ≤ gc) : VisE 58 #[.pointer (some ⟨gs, 0, none⟩), .pointer (some ⟨gc, 0, none⟩)] w0 (VIMean gs gc) visMean where
  frame := fun h hk => by obtain ⟨rfl, hs, hc⟩ := h; exact ⟨rfl, (hk gs (.inl rfl)).trans hs, (hk gc (.inr rfl)).trans hc⟩
  lt := fun h k hk => by obtain ⟨rfl, hs, hc⟩ := h; rcases hk with rfl | rfl; exact blk_lt hs; exact blk_lt hc
  call := fun {w F s v l t} h hB _ _ _ => by
    obtain ⟨rfl, hs, hc⟩ := h
    refine (impl_MeanTime_1.calls gs gc hne s.1 s.2 t v w hs hc).mono ?_
    rintro e w' ⟨rfl, w2, hb, rfl⟩
    have hs2 := blk_below hs hb
    have hc2 := blk_below hc hb
    exact ⟨_, rfl, ⟨rfl, blk_far (blk_set hs2 0 _) hne _, blk_set (blk_far hc2 (Ne.symm hne) _) 0 _⟩, fun k hk => .inl hk,
      Kept.setCell (S := fun k => k = gs ∨ k = gc) (Kept.setCell (S := fun k => k = gs ∨ k = gc) (Kept.of_below hb _) (p := ⟨gs, 0, none⟩) (.inl (.inl rfl)) _) (p := ⟨gc, 0, none⟩) (.inl (.inr rfl)) _, below_set (below_set (below_step hB hb) h1) h2⟩


/-! ### impl_divisor: function 74 -/
def impl_divisor.l0 : Nat → Int → Int → Option (Int)
  | 0, _, _ => none
  | k + 1, x0, x1 => if x1 = 0 then (some x0) else (impl_divisor.l0 k x1 (Int.tmod x0 x1))
def impl_divisor.f (k : Nat) (a0 : Int) (a1 : Int) : Option (Int) := impl_divisor.l0 k a0 a1
set_option maxHeartbeats 8000000 in
set_option maxRecDepth 100000 in
theorem impl_divisor.calls (k : Nat) (a0 : Int) (a1 : Int) (r : Int) (w : World) (h : impl_divisor.f k a0 a1 = some r) :
    Calls Try.prog 74 #[.int .i64 a0, .int .i64 a1] w fun e w' => e = .returned (.int .i64 r) ∧ Drawn0 w w' := by
  have H : (impl_divisor.l0 k a0 a1) = some r := h
  clear h
  have H' := Aside0.mk H
  clear H
  go_enter Try.func74, Try.ntmps74
  go_wp2
  repeat (go_quiet (fail); try go_wp2)
  go_loopg [0, 1] k (fun kq v0 v1 w' => ∃ (x0_1 : Int) (x1_1 : Int), v0 = .int .i64 x0_1 ∧ v1 = .int .i64 x1_1 ∧ Aside0 (impl_divisor.l0 kq x0_1 x1_1 = some r) ∧ Aside0 (kq ≤ k) ∧ Drawn0 w w')
  case atStart => exact ⟨(a0), (a1), (by first | rfl | (simp; done) | (simp [*]; done)), (by first | rfl | (simp; done) | (simp [*]; done)), H', ⟨Nat.le_refl _⟩, by repeat (first | exact Drawn0.refl _ | apply Drawn0.step)⟩
  case round =>
    clear H'
    try clear p2
    obtain ⟨x0_1, x1_1, rfl, rfl, HA, HK1, ⟨m1, rfl⟩⟩ := hrel
    cases gk with
    | zero => exact absurd HA.out (by simp [impl_divisor.l0])
    | succ k1 =>
      have H := HA.out
      clear HA
      simp only [impl_divisor.l0] at H
      by_cases c3 : x1_1 = 0
      · rw [if_pos c3] at H
        have c3b0 : (x1_1 == 0) = true := beq_iff_eq.mpr c3
        have c3b1 : (x1_1 != 0) = false := bne_eq_false_iff_eq.mpr c3
        clear c3
        obtain rfl := Option.some.inj H
        go_wp2
        repeat (go_quiet (fail); try go_wp2)
        go_ret
        exact ⟨by first | rfl | (simp; done) | (simp [*]; done), by repeat (first | exact Drawn0.refl _ | apply Drawn0.step)⟩
      · rw [if_neg c3] at H
        have c3b0 : (x1_1 == 0) = false := beq_eq_false_iff_ne.mpr c3
        have c3b1 : (x1_1 != 0) = true := bne_iff_ne.mpr c3
        have H' := Aside0.mk H
        clear H
        go_wp2
        repeat (go_quiet (fail); try go_wp2)
        go_roundg k1
        case measure => have := HK1.out; omega
        case rel => exact ⟨(x1_1), (Int.tmod x0_1 x1_1), (by first | rfl | (simp; done) | (simp [*]; done)), (by first | rfl | (simp; done) | (simp [*]; done)), H', ⟨by have := HK1.out; omega⟩, by repeat (first | exact Drawn0.refl _ | apply Drawn0.step)⟩

end Go.Proofs.Ythaaakijekkkaaa.PFnExactMeanTime
