/- Proved: each Go function named here, called, comes to the answer of the Lean function beside it. Conditions: those that stand in each theorem. (Printed by this session's own turned copy of a printing program.) -/
import Derived.Test.YthaaakijekkkaaaZSwapGainPx0
import Derived.Test.YthaaakijekkkaaaZSwapGainPx4
namespace Go.Proofs.Ythaaakijekkkaaa.PFnExactSwapGain
open Go.RowKit Go.Proofs.YthaaakijekkkaaaW.PrintWords Go.Proofs.YthaaakijekkkaaaW.PrintLast Go.Proofs.YthaaakijekkkaaaW.PrintMore
attribute [local go_sem] max2_int min2_int max_two min_two max_three min_three max_four min_four   -- for this text's walks alone
set_option linter.unusedVariables false
set_option linter.unusedSimpArgs false

attribute [local go_sem high] eqArr40
/-! ### slices_Repeat_int_int: function 68 -/
def slices_Repeat_int_int.f (l0 : List Int) (a1 : Int) : Option (List Int) := if l0.length = 1 ∧ 1 ≤ a1 ∧ a1 ≤ 10 then some (List.replicate a1.toNat (l0.getD 0 0)) else none
theorem slices_Repeat_int_int.mul (n : Nat) (h1 : 1 ≤ n) (h2 : n ≤ 10) : bits_Mul.f 1 (n : Int) = some (0, (n : Int)) := by
  have hn : n = 1 ∨ n = 2 ∨ n = 3 ∨ n = 4 ∨ n = 5 ∨ n = 6 ∨ n = 7 ∨ n = 8 ∨ n = 9 ∨ n = 10 := by omega
  rcases hn with rfl | rfl | rfl | rfl | rfl | rfl | rfl | rfl | rfl | rfl <;> rfl
theorem slices_Repeat_int_int.spl (m s cap : Nat) (u : Value) (T : List Value) (hT : T.length = cap - m) (hs : s ≤ T.length) :
    splice (List.replicate m u ++ T) m (List.replicate s u) = List.replicate (m + s) u ++ T.drop s := by
  unfold splice
  rw [List.take_append_of_le_length (by simp), List.take_of_length_le (by simp), List.length_replicate, ← List.append_assoc, List.replicate_append_replicate, List.drop_append, List.drop_eq_nil_of_le (by simp)]
  simp
theorem slices_Repeat_int_int.blk {W : World} {base n : Nat} {v : Value} (h : Kd.R (Kd.int .i64) 3 W base (fun _ => True) v (List.replicate n 0)) (hn : 1 ≤ n) :
    ∃ (g cap : Nat) (L : List Value), v = .slice (some ⟨g, 0, none⟩) n cap ∧ L.length = cap ∧ base ≤ g ∧ W.heap[g]? = some (.cells L.toArray 3 (0, 0)) ∧ n ≤ cap ∧ cap ≤ maxLen := by
  have ho := Kd.own_of_R h
  simp only [List.length_replicate] at ho
  rcases ho.2 with ⟨_, h0⟩ | ⟨g, cap, cur, hv, hb, hh, hnc, hcm, hcs, _⟩
  · omega
  · exact ⟨g, cap, cur.toList, hv, by simpa using hcs, hb, by simpa using hh, hnc, hcm⟩
theorem slices_Repeat_int_int.one {W : World} {ad : Addr} {u : Value} (h : W.cell? (ad.add 0) = some u) : ∀ (j : Nat) (v : Value), [u][j]? = some v → W.cell? (ad.add j) = some v := by
  intro j v hj
  cases j with
  | zero => obtain rfl : u = v := by simpa using hj
            exact h
  | succ j => simp at hj
theorem slices_Repeat_int_int.cel {W : World} {g m s : Nat} {u : Value} {T : List Value} (h : W.heap[g]? = some (.cells (List.replicate m u ++ T).toArray 3 (0, 0))) (hs : s ≤ m) : ∀ (j : Nat) (v : Value), (List.replicate s u)[j]? = some v → W.cell? ((⟨g, 0, none⟩ : Addr).add j) = some v := by
  intro j v hj
  obtain ⟨h1, h2⟩ := List.getElem?_eq_some_iff.1 hj
  rw [List.length_replicate] at h1
  rw [List.getElem_replicate] at h2
  subst h2
  rw [show (⟨g, 0, none⟩ : Addr).add j = ⟨g, j, none⟩ from by simp [Addr.add]; intro h; exact h.symm]
  rw [cell_of_row W g _ _ 3 (0, 0) h]
  rw [List.getElem?_toArray, List.getElem?_append_left (by simp; omega), List.getElem?_replicate, if_pos (by omega)]
theorem slices_Repeat_int_int.wr (m s : Nat) (h : m + s ≤ 10) : Value.int .i64 (wrap64 ((m : Int) + (s : Int))) = .int .i64 ((m + s : Nat) : Int) := by
  rw [show wrap64 ((m : Int) + (s : Int)) = ((m + s : Nat) : Int) from by unfold wrap64; omega]
theorem slices_Repeat_int_int.shut {W : World} {base g m n cap : Nat} {x : Int} {T : List Value} (h : W.heap[g]? = some (.cells (List.replicate m (Value.int .i64 x) ++ T).toArray 3 (0, 0))) (hT : T.length = cap - m) (hm : m = n) (hn : n ≤ cap) (hc : cap ≤ maxLen) (hb : base ≤ g) :
    Kd.R (Kd.int .i64) 3 W base (fun _ => True) (.slice (some ⟨g, 0, none⟩) n cap) (List.replicate n x) := by
  subst hm
  refine Kd.R_of_own ⟨by simp [encs], .inr ⟨g, cap, _, by simp, hb, h, by simpa using hn, hc, by simp; omega, ?_⟩⟩ (fun _ _ => trivial)
  simp [encs]
set_option maxHeartbeats 1000000 in
set_option maxRecDepth 100000 in
theorem slices_Repeat_int_int.calls (A0 : Option Addr) (c0 : Nat) (l0 : List Int) (a1 : Int) (r : List Int) (w : World) (hr0 : Kd.C (Kd.int .i64) w A0 l0.length l0) (hc0 : l0.length ≤ c0) (h : slices_Repeat_int_int.f l0 a1 = some r) :
    Calls Try.prog 68 #[.slice A0 l0.length c0, .int .i64 a1] w fun e w' => ∃ v0_ : Value, e = .returned (v0_) ∧ Kd.R (Kd.int .i64) 3 w' w.heap.size (fun _ => True) v0_ r ∧ Below w.heap.size w w' := by
  unfold slices_Repeat_int_int.f at h
  split at h
  case isFalse => cases h
  rename_i hc
  obtain ⟨h1, h2, h3⟩ := hc
  obtain rfl := Option.some.inj h
  clear h
  obtain ⟨x, rfl⟩ : ∃ x, l0 = [x] := List.length_eq_one_iff.1 h1
  obtain ⟨n, rfl⟩ := Int.eq_ofNat_of_zero_le (show 0 ≤ a1 by omega)
  simp only [Int.toNat_natCast, List.length_singleton, List.getD_cons_zero] at *
  have hm := Aside0.mk (slices_Repeat_int_int.mul n (by omega) (by omega))
  obtain ⟨ad, ead, hx⟩ := Kd.at_int hr0 0 (by omega) (by simp)
  cases ead
  have HX := Aside0.mk (show w.cell? (ad.add 0) = some (.int .i64 x) from hx)
  clear hr0 h1 hx
  have n0 : 1 ≤ n := by omega
  have n1 : n ≤ 10 := by omega
  have t0 : decide ((n : Int) < 0) = false := decide_eq_false (by omega)
  have t1 : (9223372036854775807 < (n : Int)) = False := eq_false (by omega)
  have info : (Try.prog.info? 3).map (·.size) = some 1 := by kernel_rfl
  go_enter Try.func68, Try.ntmps68
  go_wp2_with (first | (go_at_call 76; refine (bits_Mul.calls 1 (n : Int) 0 (n : Int) _ hm.out).mono ?_; rintro e w' ⟨rfl, ⟨nd, rfl⟩⟩) | ((with_reducible refine gate_dst (N := 30) rfl ?_); refine Kd.R_make (Kd.int .i64) _ 3 rfl (N := 30) rfl 24 _ _ rfl (n : Int) rfl rfl Try.underlying24 (.int .i64 0) 8 info3 rfl (by decide) (by omega) 0 (ok := fun _ => True) (okp := fun _ => True) rfl (fun _ hk => hk) trivial (by omega) (by simp; omega) (Below.refl _ _) (Nat.le_refl _) ?_; intro v1 w4 ho5 hb hg_ hnew_; clear hg_ hnew_; simp only [Int.toNat_natCast] at ho5; obtain ⟨g, cap, L, rfl, hL, hbg, hgr, hnc, hcm⟩ := slices_Repeat_int_int.blk ho5 n0; have HB := Aside0.mk (below_step (by repeat (first | (with_reducible first | exact Below.refl _ _ | apply below_alloc | apply pw_below_drewN | apply below_drew1) | exact Below.refl _ _)) hb : Below w.heap.size w w4); have HG := Aside0.mk hgr; have HL := Aside0.mk hL; have HBG := Aside0.mk (show w.heap.size ≤ g from by simpa using hbg); have HX4 := Aside0.mk ((HB.out.cell (World.block_lt_of_cell? w _ HX.out)).trans HX.out); have HCM := Aside0.mk hcm; clear hgr hL hbg hb ho5 hcm) | ((with_reducible refine gate_builtin (b := .copy) (xs := #[.tmp 31, .tmp 32]) rfl ?_); refine wpList_copy_splice (by rfl) (.tmp 31) (.tmp 32) 24 24 (by rfl) 3 Try.underlying24 info (some ⟨g, 0, none⟩) (some ad) n cap 1 c0 (by rfl) (by rfl) g 0 L 3 HG.out [Value.int .i64 x] ?q1 ?q2 ?q3 ?q4 w.heap.size w HB.out HBG.out ?_; (case q1 => exact (Nat.min_eq_left n0).symm); (case q2 => exact fun _ => ⟨rfl, ad, rfl, slices_Repeat_int_int.one HX4.out⟩); (case q3 => have := HL.out; simp only [List.length_singleton]; omega); (case q4 => simp [Value.oneCell']); intro w5 HG2 hB2; clear HB; have HB := Aside0.mk hB2; clear hB2))
  go_loopg [8] (n + 1) (fun kq v8 w' => ∃ (m : Nat) (T : List Value), v8 = .int .i64 (m : Int) ∧ 1 ≤ m ∧ m ≤ n ∧ Aside0 (n - m < kq) ∧ Aside0 (T.length = cap - m) ∧ Aside0 (w'.heap[g]? = some (.cells (List.replicate m (Value.int .i64 x) ++ T).toArray 3 (0, 0))) ∧ Aside0 (Below w.heap.size w w'))
  case atStart => exact ⟨1, L.drop 1, rfl, Nat.le_refl _, n0, ⟨by omega⟩, ⟨by have := HL.out; simp; omega⟩, ⟨by have := HG2.out; simpa [splice] using this⟩, HB⟩
  case round =>
    obtain ⟨m, T, rfl, hm1, hm2, HK, HT, HG3, HB3⟩ := hrel
    cases gk with
    | zero => exact absurd HK.out (by omega)
    | succ k1 =>
      by_cases hmn : m < n
      · have b1 : decide ((m : Int) < (n : Int)) = true := decide_eq_true (by omega)
        have b2 : decide (m < n) = true := decide_eq_true hmn
        have b3 : (0 : Int) ≤ (m : Int) := by omega
        have b4 : (m : Int) ≤ (n : Int) := by omega
        have b5 : (m : Int) ≤ (cap : Int) := by omega
        have b6 : (n : Int) ≤ (cap : Int) := by omega
        have b7 : ((m : Int) == (cap : Int)) = false := beq_eq_false_iff_ne.mpr (by omega)
        have b8 : ¬ m = cap := by omega
        have b9 : ¬ cap = m := by omega
        go_wp2
        refine start_ (n := 10) (S := fun w' => True) (ds := []) #[false, false, false, false, false, false, false, false, false, false] (by kernel_rfl) rfl rfl trivial (fun hHeld => ?_)
        refine pure_ (i := 0) (N := some 38) (v := ?_) (a' := ?_) #[true, false, false, false, false, false, false, false, false, false] rfl rfl (by kernel_rfl) (fun _ _ _ h => h) (Or.inl ⟨by rfl, ?_⟩) ?_ ?_
        rotate_left
        · intro w'
          go_simp
          with_reducible rfl
        rotate_left
        · simp only [Act.put, List.setIfInBounds_toArray, List.set_cons_zero, List.set_cons_succ, i64_w, i32_w]
          rfl
        refine pure_ (i := 1) (N := some 39) (v := ?_) (a' := ?_) #[true, true, false, false, false, false, false, false, false, false] rfl rfl (by kernel_rfl) (fun _ _ _ h => h) (Or.inl ⟨by rfl, ?_⟩) ?_ ?_
        rotate_left
        · intro w'
          go_simp
          with_reducible rfl
        rotate_left
        · simp only [Act.put, List.setIfInBounds_toArray, List.set_cons_zero, List.set_cons_succ, i64_w, i32_w]
          rfl
        refine pure_ (i := 2) (N := some 40) (v := ?_) (a' := ?_) #[true, true, true, false, false, false, false, false, false, false] rfl rfl (by kernel_rfl) (fun _ _ _ h => h) (Or.inl ⟨by rfl, ?_⟩) ?_ ?_
        rotate_left
        · intro w'
          go_simp
          with_reducible rfl
        rotate_left
        · simp only [Act.put, List.setIfInBounds_toArray, List.set_cons_zero, List.set_cons_succ, i64_w, i32_w]
          rfl
        refine pure_ (i := 3) (N := some 41) (v := ?_) (a' := ?_) #[true, true, true, true, false, false, false, false, false, false] rfl rfl (by kernel_rfl) (fun _ _ _ h => h) (Or.inl ⟨by rfl, ?_⟩) ?_ ?_
        rotate_left
        · intro w'
          go_simp
          with_reducible rfl
        rotate_left
        · simp only [Act.put, List.setIfInBounds_toArray, List.set_cons_zero, List.set_cons_succ, i64_w, i32_w]
          rfl
        refine pure_ (i := 4) (N := some 42) (v := ?_) (a' := ?_) #[true, true, true, true, true, false, false, false, false, false] rfl rfl (by kernel_rfl) (fun _ _ _ h => h) (Or.inl ⟨by rfl, ?_⟩) ?_ ?_
        rotate_left
        · intro w'
          go_simp
          with_reducible rfl
        rotate_left
        · simp only [Act.put, List.setIfInBounds_toArray, List.set_cons_zero, List.set_cons_succ, i64_w, i32_w]
          rfl
        refine pure_ (i := 5) (N := some 43) (v := ?_) (a' := ?_) #[true, true, true, true, true, true, false, false, false, false] rfl rfl (by kernel_rfl) (fun _ _ _ h => h) (Or.inl ⟨by rfl, ?_⟩) ?_ ?_
        rotate_left
        · intro w'
          go_simp
          with_reducible rfl
        rotate_left
        · simp only [Act.put, List.setIfInBounds_toArray, List.set_cons_zero, List.set_cons_succ, i64_w, i32_w]
          rfl
        refine pure_ (i := 6) (N := some 44) (v := ?_) (a' := ?_) #[true, true, true, true, true, true, true, false, false, false] rfl rfl (by kernel_rfl) (fun _ _ _ h => h) (Or.inl ⟨by rfl, ?_⟩) ?_ ?_
        rotate_left
        · intro w'
          go_simp
          with_reducible rfl
        rotate_left
        · simp only [Act.put, List.setIfInBounds_toArray, List.set_cons_zero, List.set_cons_succ, i64_w, i32_w]
          rfl
        refine one_ (i := 7) (N := some 45) #[true, true, true, true, true, true, true, true, false, false] rfl rfl (by kernel_rfl) (by decide) (fun K hK => ?_)
        refine step_copy_splice (by rfl) (.tmp 41) (.tmp 44) 24 24 (by rfl) 3 Try.underlying24 info (some ⟨g, m, none⟩) (some ⟨g, 0, none⟩) (n - m) (cap - m) m cap (by rfl) (by rfl) g m (List.replicate m (Value.int .i64 x) ++ T) 3 HG3.out (List.replicate (Nat.min m (n - m)) (Value.int .i64 x)) ?q1 ?q2 ?q3 ?q4 w.heap.size w (below_drew1 HB3.out) HBG.out ?_
        (case q1 => exact List.length_replicate)
        (case q2 => exact fun _ => ⟨rfl, ⟨g, 0, none⟩, rfl, slices_Repeat_int_int.cel (by exact HG3.out) (Nat.min_le_left _ _)⟩)
        (case q3 => have := HT.out; have h_ : Nat.min m (n - m) ≤ n - m := Nat.min_le_right m (n - m); simp only [List.length_append, List.length_replicate]; omega)
        (case q4 => intro v hv; rw [List.eq_of_mem_replicate hv]; rfl)
        intro w6 HG6 hB6
        refine hK.out _ _ trivial (fun hHeld => ?_)
        clear hK K
        refine norm_ (a' := ?_) ?_ ?_
        rotate_left
        · show Act.put _ (some 45) _ = _
          simp only [Act.put, List.setIfInBounds_toArray, List.set_cons_zero, List.set_cons_succ, i64_w, i32_w]
          rfl
        refine pure_ (i := 8) (N := some 46) (v := ?_) (a' := ?_) #[true, true, true, true, true, true, true, true, true, false] rfl rfl (by kernel_rfl) (fun _ _ _ h => h) (Or.inl ⟨by rfl, ?_⟩) ?_ ?_
        rotate_left
        · intro w'
          go_simp
          with_reducible rfl
        rotate_left
        · simp only [Act.put, List.setIfInBounds_toArray, List.set_cons_zero, List.set_cons_succ, i64_w, i32_w]
          rfl
        refine pure_ (i := 9) (N := some 8) (v := ?_) (a' := ?_) #[true, true, true, true, true, true, true, true, true, true] rfl rfl (by kernel_rfl) (fun _ _ _ h => h) (Or.inl ⟨by rfl, ?_⟩) ?_ ?_
        rotate_left
        · intro w'
          go_simp
          with_reducible rfl
        rotate_left
        · simp only [Act.put, List.setIfInBounds_toArray, List.set_cons_zero, List.set_cons_succ, i64_w, i32_w]
          rfl
        refine done_ (by kernel_rfl) ?_
        have hmin : 1 ≤ Nat.min m (n - m) := Nat.le_min.2 ⟨hm1, by omega⟩
        have hmin2 : Nat.min m (n - m) ≤ n - m := Nat.min_le_right m (n - m)
        have HG7 := Aside0.mk HG6.out
        have HB7 := Aside0.mk hB6
        clear HG6 hB6
        go_wp2
        go_roundg k1
        case measure => omega
        case rel => exact ⟨m + Nat.min m (n - m), T.drop (Nat.min m (n - m)), by rw [slices_Repeat_int_int.wr _ _ (by omega)], by omega, by omega, ⟨by have := HK.out; omega⟩, ⟨by have := HT.out; rw [List.length_drop]; omega⟩, ⟨by have h_ := HG7.out; rw [slices_Repeat_int_int.spl m _ cap _ T HT.out (by have := HT.out; omega)] at h_; exact h_⟩, HB7⟩
      · have b1 : decide ((m : Int) < (n : Int)) = false := decide_eq_false (by omega)
        have b2 : decide (m < n) = false := decide_eq_false hmn
        go_wp2
        go_ret
        exact ⟨_, rfl, slices_Repeat_int_int.shut HG3.out HT.out (by omega) hnc HCM.out HBG.out, HB3.out⟩


end Go.Proofs.Ythaaakijekkkaaa.PFnExactSwapGain
