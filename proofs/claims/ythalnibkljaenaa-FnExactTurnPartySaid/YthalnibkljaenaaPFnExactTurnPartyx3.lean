/- Proved: each Go function named here, called, comes to the answer of the Lean function beside it. Conditions: those that stand in each theorem. (Printed by this session's own turned copy of a printing program.) -/
import Derived.Test.YthalnibkljaenaaPFnExactTurnPartyx0
import Derived.Test.YthalnibkljaenaaPFnExactTurnPartyx2
namespace Go.Proofs.Ythalnibkljaenaa.PFnExactTurnParty
open Go.RowKit Go.Proofs.YthalnibkljaenaaW.PrintWords Go.Proofs.YthalnibkljaenaaW.PrintLast Go.Proofs.YthalnibkljaenaaW.PrintMore
attribute [local go_sem] max2_int min2_int max_two min_two max_three min_three max_four min_four   -- for this text's walks alone
set_option linter.unusedVariables false
set_option linter.unusedSimpArgs false

/-! ### slices_Concat_int_int: function 30 -/
def slices_Concat_int_int.f (l0 : List (List Int)) : Option (List Int) := if l0.flatten.length ≤ 1000000000 ∧ l0.length ≤ 1000000000 then some l0.flatten else none
theorem slices_Concat_int_int.take (l : List (List Int)) (i : Nat) (h : i < l.length) : (l.take (i + 1)).flatten = (l.take i).flatten ++ rd_L1 l (i : Int) := by
  rw [List.take_succ_eq_append_getElem h, List.flatten_append]
  unfold rd_L1
  simp [h]
theorem slices_Concat_int_int.le (l : List (List Int)) (i : Nat) : (l.take i).flatten.length ≤ l.flatten.length := by
  conv => rhs; rw [← List.take_append_drop i l, List.flatten_append, List.length_append]
  omega
set_option maxHeartbeats 8000000 in
set_option maxRecDepth 100000 in
theorem slices_Concat_int_int.calls (A0 : Option Addr) (c0 : Nat) (l0 : List (List Int)) (r : List Int) (w : World) (hr0 : Kd.C (Kd.slice 3 (Kd.int .i64)) w A0 l0.length l0) (hc0 : l0.length ≤ c0) (h : slices_Concat_int_int.f l0 = some r) :
    Calls Try.prog 30 #[.slice A0 l0.length c0] w fun e w' => ∃ v0_ : Value, e = .returned (v0_) ∧ Kd.R (Kd.int .i64) 3 w' w.heap.size (fun _ => True) v0_ r ∧ Below w.heap.size w w' := by
  unfold slices_Concat_int_int.f at h
  split at h
  case isFalse => cases h
  rename_i hc
  obtain ⟨hm0, hm1⟩ := hc
  obtain rfl := Option.some.inj h
  have HR0 := Aside0.mk hr0
  have HM0 := Aside0.mk hm0
  have HM1 := Aside0.mk hm1
  have HB := Aside0.mk (Below.refl w.heap.size w)
  clear h hr0 hc0 hm0 hm1
  go_enter Try.func30, Try.ntmps30
  go_wp2
  go_loopg [3, 11] (l0.length + 1) (fun kq v3 v11 w' => ∃ (i : Nat), v3 = .int .i64 (((l0.take i).flatten.length : Nat) : Int) ∧ v11 = .int .i64 (i : Int) ∧ Aside0 (i ≤ l0.length) ∧ Aside0 (l0.length - i < kq) ∧ Aside0 (Below w.heap.size w w'))
  case atStart => exact ⟨0, by simp, rfl, ⟨Nat.zero_le _⟩, ⟨by omega⟩, HB⟩
  case round =>
    clear HB
    obtain ⟨i, rfl, rfl, HI, HK, HB⟩ := hrel
    cases gk with
    | zero => exact absurd HK.out (by omega)
    | succ k1 =>
      by_cases hi : i < l0.length
      · have b1 : decide ((i : Int) < (l0.length : Int)) = true := decide_eq_true (by omega)
        have b2 : decide (i < l0.length) = true := decide_eq_true hi
        obtain ⟨ad, A1, c1, e1, hx, hl, hin⟩ := at_L1 HR0.out (i : Int) (by omega) (by omega)
        cases e1
        simp only [Int.toNat_natCast] at hx
        replace hx := (HB.out.cell (World.block_lt_of_cell? w _ hx)).trans hx
        have ht := slices_Concat_int_int.take l0 i hi
        have hle := slices_Concat_int_int.le l0 (i + 1)
        have hlen : (l0.take (i + 1)).flatten.length = (l0.take i).flatten.length + (rd_L1 l0 (i : Int)).length := by rw [ht, List.length_append]
        have HL := Aside0.mk hlen
        obtain ⟨m, hm⟩ : ∃ m, m = (l0.take i).flatten.length := ⟨_, rfl⟩
        obtain ⟨q, hq⟩ : ∃ q, q = (rd_L1 l0 (i : Int)).length := ⟨_, rfl⟩
        have hb : m + q ≤ 1000000000 := by have := HM0.out; omega
        have HL2 := Aside0.mk (show (l0.take (i + 1)).flatten.length = m + q by omega)
        clear ht hle hlen hl hin
        rw [← hm]
        rw [← hq] at hx
        have Hm := Aside0.mk hm
        have Hq := Aside0.mk hq
        clear hm hq
        have p0 : (i : Int) < (l0.length : Int) := by omega
        have p1 : 0 ≤ (i : Int) := by omega
        have p2 : (i : Int) ≤ 1000000000 := by have := HM1.out; omega
        have p3 : 0 ≤ (m : Int) := by omega
        have p4 : (m : Int) + (q : Int) ≤ 1000000000 := by omega
        have p5 : decide ((m : Int) + (q : Int) < 0) = false := decide_eq_false (by omega)
        go_wp2
        go_roundg k1
        case measure => omega
        case rel => exact ⟨i + 1, by rw [HL2.out]; first | rfl | (simp; done), by first | rfl | (simp; done), ⟨by omega⟩, ⟨by have := HK.out; omega⟩, HB⟩
      · have b1 : decide ((i : Int) < (l0.length : Int)) = false := decide_eq_false (by omega)
        have b2 : decide (i < l0.length) = false := decide_eq_false hi
        have e : i = l0.length := by have := HI.out; omega
        subst e
        rw [List.take_length]
        obtain ⟨N, hN⟩ : ∃ N, N = l0.flatten.length := ⟨_, rfl⟩
        rw [← hN]
        have HN := Aside0.mk (show N ≤ 1000000000 by rw [hN]; exact HM0.out)
        clear hN
        go_wp2_with (first | (go_at_call 39; refine (slices_Grow_int_int.calls N _ HN.out).mono ?_; rintro e w4 ⟨v, rfl, ho, hb⟩; have HO := Aside0.mk (Kd.R_lower ho (below_size HB.out)); have HB2 := Aside0.mk (below_step HB.out hb); clear ho hb))
        go_loopg [6, 27] (l0.length + 1) (fun kq v6 v27 w' => ∃ (i : Nat), v27 = .int .i64 (i : Int) ∧ Aside0 (i ≤ l0.length) ∧ Aside0 (l0.length - i < kq) ∧ Aside0 (Kd.R (Kd.int .i64) 3 w' w.heap.size (fun _ => True) v6 (l0.take i).flatten) ∧ Aside0 (Below w.heap.size w w'))
        case atStart => exact ⟨0, rfl, ⟨Nat.zero_le _⟩, ⟨by omega⟩, ⟨by simpa using HO.out⟩, HB2⟩
        case round =>
          clear HB HO HB2 b1 b2 hi HI HK
          obtain ⟨i, rfl, HI, HK2, HO, HB⟩ := hrel
          cases gk with
          | zero => exact absurd HK2.out (by omega)
          | succ k2 =>
            by_cases hi : i < l0.length
            · have b1 : decide ((i : Int) < (l0.length : Int)) = true := decide_eq_true (by omega)
              have b2 : decide (i < l0.length) = true := decide_eq_true hi
              obtain ⟨ad, A1, c1, e1, hx, hl, hin⟩ := at_L1 HR0.out (i : Int) (by omega) (by omega)
              cases e1
              simp only [Int.toNat_natCast] at hx
              replace hx := (HB.out.cell (World.block_lt_of_cell? w _ hx)).trans hx
              have HT := Aside0.mk (slices_Concat_int_int.take l0 i hi)
              have hle := slices_Concat_int_int.le l0 (i + 1)
              have HLE := Aside0.mk (show (l0.take i).flatten.length + (rd_L1 l0 (i : Int)).length ≤ 1000000000 by have := HM0.out; rw [HT.out, List.length_append] at hle; omega)
              have HIN := Aside0.mk hin
              have HL := Aside0.mk hl
              clear hle hl hin
              have p0 : (i : Int) < (l0.length : Int) := by omega
              have p1 : 0 ≤ (i : Int) := by omega
              have p2 : (i : Int) ≤ 1000000000 := by have := HM1.out; omega
              go_wp2_with (first | ((with_reducible refine gate_builtin (b := .append) (xs := #[.tmp 31, .tmp 32]) rfl ?_); at_builtin; refine Kd.R_append_rows (Kd.int .i64) (w0 := w) w.heap.size rfl (.tmp 31) (.tmp 32) 22 3 (.int .i64 0) 8 rfl Try.underlying22 info3 rfl (by decide) (by omega) u6 (l0.take i).flatten (rd_L1 l0 (i : Int)) _ _ _ (fun _ => True) (fun _ => False) rfl rfl ?aO ?aR (fun _ _ h => h) (fun _ h => h.elim) ?aF ?aB ?aS ?aL ?_; (case aR => exact Kd.C_below HIN.out HB.out); (case aB => exact HB.out); (case aF => exact (fun _ _ => trivial)); (case aO => exact HO.out); (case aS => exact below_size HB.out); (case aL => have := HLE.out; omega); intro v1 w5 ho hb hg hat; have HO2 := Aside0.mk ho; have HB2 := Aside0.mk hb; clear ho hb hg hat))
              go_roundg k2
              case measure => omega
              case rel => exact ⟨i + 1, by first | rfl | (simp; done), ⟨by omega⟩, ⟨by have := HK2.out; omega⟩, ⟨by rw [HT.out]; exact HO2.out⟩, HB2⟩
            · have b1 : decide ((i : Int) < (l0.length : Int)) = false := decide_eq_false (by omega)
              have b2 : decide (i < l0.length) = false := decide_eq_false hi
              have e : i = l0.length := by have := HI.out; omega
              subst e
              go_wp2
              go_ret
              exact ⟨_, rfl, by have h_ := HO.out; rw [List.take_length] at h_; exact h_, HB.out⟩


/-! ### impl_TurnParty: function 15 -/
def impl_TurnParty.f (k : Nat) (a0 : Int) (l1 : List Int) (a2 : Int) : Option (List Int × Bool) := (impl_isCouples.f a0 true).bind fun t131 => (if t131 = true then ((impl_isOrder.f k l1 (wrap64 (2 * a0))).bind fun t132 => (if t132 = true then ((impl_within.f a2 0 (wrap64 ((wrap64 (2 * a0)) - 1))).bind fun t133 => (if t133 = true then (if 0 ≤ (wrap64 ((l1.length : Int) - a2)) then (if (wrap64 ((l1.length : Int) - a2)) ≤ (l1.length : Int) then ((slices_Concat_int_int.f (([(l1.drop ((wrap64 ((l1.length : Int) - a2)) : Int).toNat), (l1.take ((wrap64 ((l1.length : Int) - a2)) : Int).toNat)] : List (List Int)))).bind fun t147 => (some (t147, true))) else (none)) else (none)) else (some (([] : List Int), false)))) else (some (([] : List Int), false)))) else (some (([] : List Int), false)))
theorem impl_TurnParty.mono : ∀ a0 a1 a2 k, LeO (impl_TurnParty.f k a0 a1 a2) (impl_TurnParty.f (k + 1) a0 a1 a2) := by
  intro a0 a1 a2 k
  unfold impl_TurnParty.f
  repeat' first
      | (with_reducible exact impl_isOrder.mono _ _ _)
      | (with_reducible exact LeO.refl _)
      | (with_reducible exact LeO.none _)
      | (with_reducible refine LeO.ite ?_ ?_)
      | (with_reducible refine LeO.bind ?_ (fun _ => ?_))
      | exact impl_isOrder.mono _ _ _
      | exact LeO.none _
      | refine LeO.ite ?_ ?_
      | refine LeO.bind ?_ (fun _ => ?_)
def impl_TurnParty.T4 : Bool × List (List Nat × List Nat) := (true, [([], []), ([], []), ([], []), ([1, 2], [1, 2]), ([0, 3], [0, 3]), ([], []), ([], []), ([], []), ([6, 7], [6, 7]), ([5, 8], [5, 8]), ([4, 9], [4, 9]), ([10], [10]), ([11, 11, 0, 1, 2, 3, 4, 5, 6, 7, 8, 9, 10, 11], [11]), ([12, 0, 1, 2, 3, 4, 5, 6, 7, 8, 9, 10, 11, 12], [])])
def impl_TurnParty.B4 : List Nat := [0, 0, 0, 6, 15, 0, 0, 0, 192, 480, 1023, 2047, 4095, 8191]
theorem impl_TurnParty.tab4 : rtab .any (opsOf Try.f15 4) = impl_TurnParty.T4 := by kernel_rfl
theorem impl_TurnParty.bits4 : waitsOk impl_TurnParty.T4.2 impl_TurnParty.B4 = true := by kernel_rfl
set_option maxHeartbeats 8000000 in
set_option maxRecDepth 100000 in
theorem impl_TurnParty.calls (k : Nat) (a0 : Int) (P1_ : Nat → Prop) (A1 : Option Addr) (c1 : Nat) (l1 : List Int) (a2 : Int) (r1 : List Int) (r2 : Bool) (w : World) (hs1 : Kd.V (Kd.int .i64) 3 w w.heap.size (fun k_ => P1_ k_) (.slice A1 l1.length c1) l1) (h : impl_TurnParty.f k a0 l1 a2 = some (r1, r2)) :
    Calls Try.prog 15 #[.int .i64 a0, .slice A1 l1.length c1, .int .i64 a2] w fun e w' => ∃ v0_ : Value, e = .returned (.tuple #[v0_, .bool r2]) ∧ Kd.R (Kd.int .i64) 3 w' w.heap.size (fun k_ => (w.heap.size ≤ k_)) v0_ r1 ∧ Below w.heap.size w w' := by
  have HO1 := Aside0.mk (show Kd.V (Kd.int .i64) 3 w w.heap.size (fun k_ => (P1_ k_ ∨ w.heap.size ≤ k_)) (.slice A1 l1.length c1) l1 from Kd.V_mono hs1 (fun k_ hk => .inl hk))
  have HB := Aside0.mk (Below.refl w.heap.size w)
  have H : ((impl_isCouples.f a0 true).bind fun t131 => (if t131 = true then ((impl_isOrder.f k l1 (wrap64 (2 * a0))).bind fun t132 => (if t132 = true then ((impl_within.f a2 0 (wrap64 ((wrap64 (2 * a0)) - 1))).bind fun t133 => (if t133 = true then (if 0 ≤ (wrap64 ((l1.length : Int) - a2)) then (if (wrap64 ((l1.length : Int) - a2)) ≤ (l1.length : Int) then ((slices_Concat_int_int.f (([(l1.drop ((wrap64 ((l1.length : Int) - a2)) : Int).toNat), (l1.take ((wrap64 ((l1.length : Int) - a2)) : Int).toNat)] : List (List Int)))).bind fun t147 => (some (t147, true))) else (none)) else (none)) else (some (([] : List Int), false)))) else (some (([] : List Int), false)))) else (some (([] : List Int), false)))) = some (r1, r2) := h
  clear h
  replace H := Option.bind_eq_some_iff.mp H
  obtain ⟨t131, A40, H⟩ := H
  replace H : (if t131 = true then ((impl_isOrder.f k l1 (wrap64 (2 * a0))).bind fun t132 => (if t132 = true then ((impl_within.f a2 0 (wrap64 ((wrap64 (2 * a0)) - 1))).bind fun t133 => (if t133 = true then (if 0 ≤ (wrap64 ((l1.length : Int) - a2)) then (if (wrap64 ((l1.length : Int) - a2)) ≤ (l1.length : Int) then ((slices_Concat_int_int.f (([(l1.drop ((wrap64 ((l1.length : Int) - a2)) : Int).toNat), (l1.take ((wrap64 ((l1.length : Int) - a2)) : Int).toNat)] : List (List Int)))).bind fun t147 => (some (t147, true))) else (none)) else (none)) else (some (([] : List Int), false)))) else (some (([] : List Int), false)))) else (some (([] : List Int), false))) = some (r1, r2) := H
  have A4 := Aside0.mk A40
  clear A40
  by_cases c5 : t131 = true
  · subst c5
    have H1 : ((impl_isOrder.f k l1 (wrap64 (2 * a0))).bind fun t132 => (if t132 = true then ((impl_within.f a2 0 (wrap64 ((wrap64 (2 * a0)) - 1))).bind fun t133 => (if t133 = true then (if 0 ≤ (wrap64 ((l1.length : Int) - a2)) then (if (wrap64 ((l1.length : Int) - a2)) ≤ (l1.length : Int) then ((slices_Concat_int_int.f (([(l1.drop ((wrap64 ((l1.length : Int) - a2)) : Int).toNat), (l1.take ((wrap64 ((l1.length : Int) - a2)) : Int).toNat)] : List (List Int)))).bind fun t147 => (some (t147, true))) else (none)) else (none)) else (some (([] : List Int), false)))) else (some (([] : List Int), false)))) = some (r1, r2) := by rw [if_pos rfl] at H; exact H
    clear H
    have H := H1
    clear H1
    replace H := Option.bind_eq_some_iff.mp H
    obtain ⟨t132, A60, H⟩ := H
    replace H : (if t132 = true then ((impl_within.f a2 0 (wrap64 ((wrap64 (2 * a0)) - 1))).bind fun t133 => (if t133 = true then (if 0 ≤ (wrap64 ((l1.length : Int) - a2)) then (if (wrap64 ((l1.length : Int) - a2)) ≤ (l1.length : Int) then ((slices_Concat_int_int.f (([(l1.drop ((wrap64 ((l1.length : Int) - a2)) : Int).toNat), (l1.take ((wrap64 ((l1.length : Int) - a2)) : Int).toNat)] : List (List Int)))).bind fun t147 => (some (t147, true))) else (none)) else (none)) else (some (([] : List Int), false)))) else (some (([] : List Int), false))) = some (r1, r2) := H
    have A6 := Aside0.mk A60
    clear A60
    by_cases c7 : t132 = true
    · subst c7
      have H1 : ((impl_within.f a2 0 (wrap64 ((wrap64 (2 * a0)) - 1))).bind fun t133 => (if t133 = true then (if 0 ≤ (wrap64 ((l1.length : Int) - a2)) then (if (wrap64 ((l1.length : Int) - a2)) ≤ (l1.length : Int) then ((slices_Concat_int_int.f (([(l1.drop ((wrap64 ((l1.length : Int) - a2)) : Int).toNat), (l1.take ((wrap64 ((l1.length : Int) - a2)) : Int).toNat)] : List (List Int)))).bind fun t147 => (some (t147, true))) else (none)) else (none)) else (some (([] : List Int), false)))) = some (r1, r2) := by rw [if_pos rfl] at H; exact H
      clear H
      have H := H1
      clear H1
      replace H := Option.bind_eq_some_iff.mp H
      obtain ⟨t133, A80, H⟩ := H
      replace H : (if t133 = true then (if 0 ≤ (wrap64 ((l1.length : Int) - a2)) then (if (wrap64 ((l1.length : Int) - a2)) ≤ (l1.length : Int) then ((slices_Concat_int_int.f (([(l1.drop ((wrap64 ((l1.length : Int) - a2)) : Int).toNat), (l1.take ((wrap64 ((l1.length : Int) - a2)) : Int).toNat)] : List (List Int)))).bind fun t147 => (some (t147, true))) else (none)) else (none)) else (some (([] : List Int), false))) = some (r1, r2) := H
      have A8 := Aside0.mk A80
      clear A80
      by_cases c9 : t133 = true
      · subst c9
        have H1 : (if 0 ≤ (wrap64 ((l1.length : Int) - a2)) then (if (wrap64 ((l1.length : Int) - a2)) ≤ (l1.length : Int) then ((slices_Concat_int_int.f (([(l1.drop ((wrap64 ((l1.length : Int) - a2)) : Int).toNat), (l1.take ((wrap64 ((l1.length : Int) - a2)) : Int).toNat)] : List (List Int)))).bind fun t147 => (some (t147, true))) else (none)) else (none)) = some (r1, r2) := by rw [if_pos rfl] at H; exact H
        clear H
        have H := H1
        clear H1
        obtain ⟨ji10, hji10⟩ : ∃ j_ : Int, (wrap64 ((l1.length : Int) - a2)) = j_ := ⟨_, rfl⟩
        replace H : (if 0 ≤ (ji10) then (if (ji10) ≤ (l1.length : Int) then ((slices_Concat_int_int.f (([(l1.drop ((ji10) : Int).toNat), (l1.take ((ji10) : Int).toNat)] : List (List Int)))).bind fun t147 => (some (t147, true))) else (none)) else (none)) = some (r1, r2) := by first | (rw [hji10] at H; exact H) | (simp only [hji10] at H ⊢; exact H)
        (try rw [hji10] at A4)
        (try rw [hji10] at A6)
        (try rw [hji10] at A8)
        have hji10w : (IntKind.i64.wrap ((l1.length : Int) - a2)) = ji10 := (i64_w _).trans hji10
        by_cases c11 : 0 ≤ (ji10)
        · rw [if_pos c11] at H
          have c11b0 := eq_true c11
          have c11b1 : decide (0 ≤ (ji10)) = true := decide_eq_true c11
          clear c11
          by_cases c12 : (ji10) ≤ (l1.length : Int)
          · rw [if_pos c12] at H
            have c12b0 := eq_true c12
            have c12b1 : decide ((ji10) ≤ (l1.length : Int)) = true := decide_eq_true c12
            clear c12
            obtain ⟨y134, hy134⟩ : ∃ y_ : List Int, y_ = (l1.drop ((ji10) : Int).toNat) := ⟨_, rfl⟩
            replace H : ((slices_Concat_int_int.f (([y134, (l1.take ((ji10) : Int).toNat)] : List (List Int)))).bind fun t147 => (some (t147, true))) = some (r1, r2) := by first | (rw [hy134]; with_reducible exact H) | (have H2_ := (Option.bind_some _ _).symm.trans H; rw [hy134]; with_reducible exact H2_) | (have H2_ := (Option.bind_some _ _).symm.trans H; with_reducible exact H2_) | with_reducible exact H | (rw [hy134]; exact H) | exact H
            have Ny134 := Aside0.mk hy134
            clear hy134
            have c13b0 := eq_true (of_decide_eq_true (by first | (with_reducible assumption) | assumption) : 0 ≤ (ji10))
            have c14b0 := eq_true (of_decide_eq_true (by first | (with_reducible assumption) | assumption) : (ji10) ≤ (l1.length : Int))
            obtain ⟨y139, hy139⟩ : ∃ y_ : List Int, y_ = (l1.take ((ji10) : Int).toNat) := ⟨_, rfl⟩
            replace H : ((slices_Concat_int_int.f (([y134, y139] : List (List Int)))).bind fun t147 => (some (t147, true))) = some (r1, r2) := by first | (rw [hy139]; with_reducible exact H) | (have H2_ := (Option.bind_some _ _).symm.trans H; rw [hy139]; with_reducible exact H2_) | (have H2_ := (Option.bind_some _ _).symm.trans H; with_reducible exact H2_) | with_reducible exact H | (rw [hy139]; exact H) | exact H
            have Ny139 := Aside0.mk hy139
            clear hy139
            obtain ⟨y144, hy144⟩ : ∃ y_ : List (List Int), y_ = (([y134, y139] : List (List Int))) := ⟨_, rfl⟩
            replace H : ((slices_Concat_int_int.f y144).bind fun t147 => (some (t147, true))) = some (r1, r2) := by first | (rw [hy144]; with_reducible exact H) | (have H2_ := (Option.bind_some _ _).symm.trans H; rw [hy144]; with_reducible exact H2_) | (have H2_ := (Option.bind_some _ _).symm.trans H; with_reducible exact H2_) | with_reducible exact H | (rw [hy144]; exact H) | exact H
            have Ny144 := Aside0.mk hy144
            clear hy144
            replace H := Option.bind_eq_some_iff.mp H
            obtain ⟨t147, A150, H⟩ := H
            replace H : (some (t147, true)) = some (r1, r2) := H
            have A15 := Aside0.mk A150
            clear A150
            simp only [Option.some.injEq, Prod.mk.injEq] at H
            obtain ⟨rfl, rfl⟩ := H
            go_enter Try.func15, Try.ntmps15
            try go_wp2_with (first | ((with_reducible refine gate_callee (f := 18) rfl ?_); refine goesL_ (some 10) rfl rfl Try.func18 (by kernel_rfl) rfl #[.int .i64 a0, .bool true] rfl (by (try simp only [List.map_toArray, List.map_cons, List.map_nil]); first | done | rfl | (simp only [List.length_drop, List.length_take]; rfl)) ?_; (with_reducible refine (impl_isCouples.calls a0 true true _ A4.out).mono ?_); rintro e w' ⟨rfl, ⟨nda_, rfl⟩⟩; refine ⟨_, rfl, ?_⟩) | (go_at_call 28; (with_reducible refine (impl_isOrder.calls k _ _ l1 (wrap64 (2 * a0)) true _ ?side1 ?side2 A6.out).mono ?_); (case side1 => repeat (first | exact (Kd.V_reads' HO1.out).2.2 | (with_reducible refine Kd.C_alloc ?_ _) | (with_reducible refine Kd.C_drewN ?_ _) | (with_reducible refine Kd.C_drew ?_))); (case side2 => exact (Kd.V_reads' HO1.out).2.1); rintro e w' ⟨rfl, ⟨ndb_, rfl⟩⟩) | (go_at_call 29; (with_reducible refine (impl_within.calls a2 0 (wrap64 ((wrap64 (2 * a0)) - 1)) true _ A8.out).mono ?_); rintro e w' ⟨rfl, ⟨ndc_, rfl⟩⟩))
            have n0_ := Aside0.mk (Kd.V_drewN HO1.out (nda_ + ndb_ + ndc_))
            have n1_ := Aside0.mk (pw_below_drewN HB.out (nda_ + ndb_ + ndc_))
            clear HO1 HB
            have HO1 := n0_
            have HB := n1_
            clear n0_ n1_
            generalize w.drewN (nda_ + ndb_ + ndc_) = wq_ at HO1 HB ⊢
            have n0_ := Aside0.mk (Kd.V_drew HO1.out)
            have n1_ := Aside0.mk (below_drew1 HB.out)
            clear HO1
            clear HB
            have HO1 := n0_
            have HB := n1_
            clear n0_ n1_
            have q17 : ((ji10) : Int) ≤ ((l1.length : Int) : Int) := of_decide_eq_true (by first | (with_reducible assumption) | assumption)
            obtain ⟨i017, hi017, _, hsz17, _⟩ := info_parts info3
            have hroom17 : l1.length ≤ c1 := (Kd.V_reads' HO1.out).2.1
            have hC17 : Kd.F (Kd.int .i64) _ _ A1 l1.length l1 := (Kd.V_at (base := w.heap.size) HO1.out).2.2
            have q017 : (0 : Int) ≤ ((ji10) : Int) := of_decide_eq_true (by first | (with_reducible assumption) | assumption)
            have hcut17 := cut_from (P := Try.prog) 22 3 .i64 Try.underlying22 hi017 1 hsz17 A1 l1.length c1 (ji10) q017 q17
            have hr17 := Kd.F_cut (m := ((ji10) : Int).toNat) (c := c1) hC17 (by omega) hroom17
            obtain ⟨A17, hA17⟩ : ∃ az_, az_ = (if c1 = ((ji10) : Int).toNat then A1 else (A1 : Option Addr).map (·.add (((ji10) : Int).toNat * 1))) := ⟨_, rfl⟩
            obtain ⟨c17, hc17⟩ : ∃ cz_, cz_ = c1 - ((ji10) : Int).toNat := ⟨_, rfl⟩
            have hy17 : y134.length = l1.length - ((ji10) : Int).toNat := (by rw [Ny134.out, List.length_drop] <;> omega)
            rw [show (l1).drop ((ji10) : Int).toNat = y134 from Ny134.out.symm] at hr17
            replace hr17 : Kd.F (Kd.int .i64) _ _ A17 y134.length y134 := (by rw [hA17]; exact hr17)
            rw [← hy17, ← hA17, ← hc17] at hcut17
            have HO138 := Aside0.mk (show Kd.V (Kd.int .i64) 3 _ w.heap.size _ (.slice A17 y134.length c17) y134 from Kd.V_mk (by rw [hy17, hc17]; exact Nat.sub_le_sub_right hroom17 _) hr17)
            have HC138 := Aside0.mk (show y134.length ≤ c17 from by rw [hy17, hc17]; exact Nat.sub_le_sub_right hroom17 _)
            clear hr17 hC17 hroom17 hi017 hsz17 hc17
            have KY17 := Aside0.mk hy17
            have KA17 := Aside0.mk hA17
            clear hy17 hA17
            replace q17 := eq_true q17
            have q18 : ((ji10) : Int) ≤ ((l1.length : Int) : Int) := of_decide_eq_true (by first | (with_reducible assumption) | assumption)
            obtain ⟨i018, hi018, _, hsz18, _⟩ := info_parts info3
            have hroom18 : l1.length ≤ c1 := (Kd.V_reads' HO1.out).2.1
            have hC18 : Kd.F (Kd.int .i64) _ _ A1 l1.length l1 := (Kd.V_at (base := w.heap.size) HO1.out).2.2
            have hcut18 := cut_to (P := Try.prog) 22 3 .i64 Try.underlying22 hi018 A1 l1.length c1 (ji10) (of_decide_eq_true (by first | (with_reducible assumption) | assumption)) q18 hroom18
            have hr18 := Kd.F_take (m := ((ji10) : Int).toNat) hC18 (by omega)
            have hy18 : y139.length = ((ji10) : Int).toNat := (by rw [Ny139.out, List.length_take]; omega)
            rw [← Ny139.out] at hr18
            rw [← hy18] at hcut18
            have HO143 := Aside0.mk (show Kd.V (Kd.int .i64) 3 _ w.heap.size _ (.slice A1 y139.length c1) y139 from Kd.V_mk (by omega) hr18)
            have HC143 := Aside0.mk (show y139.length ≤ c1 from by omega)
            clear hr18 hC18 hroom18 hi018 hsz18
            have KY18 := Aside0.mk hy18
            clear hy18
            replace q18 := eq_true q18
            refine start_ (n := 14) (S := fun w' => True) (ds := []) #[false, false, false, false, false, false, false, false, false, false, false, false, false, false] (by kernel_rfl) rfl rfl trivial (fun hHeld => ?_); refine with_tabW impl_TurnParty.tab4 impl_TurnParty.bits4 (fun HT_ HW_ => ?_)
            generalize wq_.drew = w16 at HO1 HB HO138 HO143 hHeld ⊢
            refine pure_ (i := 0) (N := some 29) (v := ?_) (a' := ?_) #[true, false, false, false, false, false, false, false, false, false, false, false, false, false] rfl rfl (any_of HT_.out (by kernel_rfl)) (fun _ _ _ h => h) (Or.inl ⟨by rfl, ?_⟩) ?_ ?_
            rotate_left
            · intro w'
              go_simp
              with_reducible rfl
            rotate_left
            · simp only [Act.put, List.setIfInBounds_toArray, List.set_cons_zero, List.set_cons_succ, i64_w, i32_w]
              rfl
            refine pure_ (i := 1) (N := some 30) (v := ?_) (a' := ?_) #[true, true, false, false, false, false, false, false, false, false, false, false, false, false] rfl rfl (any_of HT_.out (by kernel_rfl)) (fun _ _ _ h => h) (Or.inl ⟨by rfl, ?_⟩) ?_ ?_
            rotate_left
            · intro w'
              go_simp
              with_reducible rfl
            rotate_left
            · simp only [Act.put, List.setIfInBounds_toArray, List.set_cons_zero, List.set_cons_succ, i64_w, i32_w]
              rfl
            refine pure_ (i := 2) (N := some 31) (v := ?_) (a' := ?_) #[true, true, true, false, false, false, false, false, false, false, false, false, false, false] rfl rfl (any_of HT_.out (by kernel_rfl)) (fun _ _ _ h => h) (Or.inl ⟨by rfl, ?_⟩) ?_ ?_
            rotate_left
            · intro w'
              go_simp
              with_reducible rfl
            rotate_left
            · simp only [Act.put, List.setIfInBounds_toArray, List.set_cons_zero, List.set_cons_succ, i64_w, i32_w]
              rfl
            refine pure_ (i := 3) (N := some 32) (v := ?_) (a' := ?_) #[true, true, true, true, false, false, false, false, false, false, false, false, false, false] rfl rfl (any_of HT_.out (by kernel_rfl)) (fun _ _ _ h => h) (Or.inl ⟨by rfl, ?_⟩) ?_ ?_
            rotate_left
            · intro w'
              go_simp
              with_reducible rfl
            rotate_left
            · simp only [Act.put, List.setIfInBounds_toArray, List.set_cons_zero, List.set_cons_succ, i64_w, i32_w]
              rfl
            refine pure_ (i := 4) (N := some 33) (v := ?_) (a' := ?_) #[true, true, true, true, true, false, false, false, false, false, false, false, false, false] rfl rfl (any_of HT_.out (by kernel_rfl)) (fun _ _ _ h => h) (Or.inl ⟨by rfl, ?_⟩) ?_ ?_
            rotate_left
            · intro w'
              go_simp
              with_reducible rfl
            rotate_left
            · simp only [Act.put, List.setIfInBounds_toArray, List.set_cons_zero, List.set_cons_succ, i64_w, i32_w]
              rfl
            refine pure_ (i := 5) (N := some 34) (v := ?_) (a' := ?_) #[true, true, true, true, true, true, false, false, false, false, false, false, false, false] rfl rfl (any_of HT_.out (by kernel_rfl)) (fun _ _ _ h => h) (Or.inl ⟨by rfl, ?_⟩) ?_ ?_
            rotate_left
            · intro w'
              go_simp
              with_reducible rfl
            rotate_left
            · simp only [Act.put, List.setIfInBounds_toArray, List.set_cons_zero, List.set_cons_succ, i64_w, i32_w]
              rfl
            refine pure_ (i := 6) (N := some 35) (v := ?_) (a' := ?_) #[true, true, true, true, true, true, true, false, false, false, false, false, false, false] rfl rfl (any_of HT_.out (by kernel_rfl)) (fun _ _ _ h => h) (Or.inl ⟨by rfl, ?_⟩) ?_ ?_
            rotate_left
            · intro w'
              go_simp
              with_reducible rfl
            rotate_left
            · simp only [Act.put, List.setIfInBounds_toArray, List.set_cons_zero, List.set_cons_succ, i64_w, i32_w]
              rfl
            refine pure_ (i := 7) (N := some 36) (v := ?_) (a' := ?_) #[true, true, true, true, true, true, true, true, false, false, false, false, false, false] rfl rfl (any_of HT_.out (by kernel_rfl)) (fun _ _ _ h => h) (Or.inl ⟨by rfl, ?_⟩) ?_ ?_
            rotate_left
            · intro w'
              go_simp
              with_reducible rfl
            rotate_left
            · simp only [Act.put, List.setIfInBounds_toArray, List.set_cons_zero, List.set_cons_succ, i64_w, i32_w]
              rfl
            refine pure_ (i := 8) (N := some 37) (v := ?_) (a' := ?_) #[true, true, true, true, true, true, true, true, true, false, false, false, false, false] rfl rfl (any_of HT_.out (by kernel_rfl)) (fun _ _ _ h => h) (Or.inl ⟨by rfl, ?_⟩) ?_ ?_
            rotate_left
            · intro w'
              go_simp
              with_reducible rfl
            rotate_left
            · simp only [Act.put, List.setIfInBounds_toArray, List.set_cons_zero, List.set_cons_succ, i64_w, i32_w]
              rfl
            refine pure_ (i := 9) (N := some 38) (v := ?_) (a' := ?_) #[true, true, true, true, true, true, true, true, true, true, false, false, false, false] rfl rfl (any_of HT_.out (by kernel_rfl)) (fun _ _ _ h => h) (Or.inl ⟨by rfl, ?_⟩) ?_ ?_
            rotate_left
            · intro w'
              go_simp
              with_reducible rfl
            rotate_left
            · simp only [Act.put, List.setIfInBounds_toArray, List.set_cons_zero, List.set_cons_succ, i64_w, i32_w]
              rfl
            refine one_ (i := 10) (N := some 39) #[true, true, true, true, true, true, true, true, true, true, true, false, false, false] rfl rfl (one_of HT_.out (by kernel_rfl)) (by decide) (fun K hK => ?_)
            refine Kd.N_lit_step (Kd.slice 3 (Kd.int .i64)) _ 22 ?hg (N' := 39) ?hd (xs := ([y134, y139] : List (List Int))) (inner := [.slice A17 y134.length c17, .slice A1 y139.length c1]) (ok := (fun k_ => (P1_ k_ ∨ w.heap.size ≤ k_))) (okp := (fun k_ => (P1_ k_ ∨ w.heap.size ≤ k_))) ?hr ?hp (fun _ hk => hk) ((show ∀ k_, w16.heap.size ≤ k_ → (fun k_ => (P1_ k_ ∨ w.heap.size ≤ k_)) k_ from fun k_ hk => (.inr (Nat.le_trans (below_size (by repeat (first | (with_reducible first | exact HB.out | apply below_alloc | apply pw_below_drewN | apply below_drew1) | exact HB.out))) hk))) _ (Nat.le_refl _)) (Below.refl _ _) (Nat.le_refl _) (by simp) ?_; (case hd => rfl); (case hg => rfl); (case hr => first | (go_simp; done) | (go_simp; rfl)); (case hp => exact (Reps.one (show Kd.FK (Kd.slice 3 (Kd.int .i64)) _ _ y134 [.slice A17 y134.length c17] from (Kd.FK_slice_mk (Kd.V_reads' (Kd.V_mono (ok' := (fun k_ => (P1_ k_ ∨ w.heap.size ≤ k_))) (HO138.out) (fun k_ hk => hk))).2.1 (Kd.V_F (Kd.V_mono (ok' := (fun k_ => (P1_ k_ ∨ w.heap.size ≤ k_))) (HO138.out) (fun k_ hk => hk))))) (Reps.one (show Kd.FK (Kd.slice 3 (Kd.int .i64)) _ _ y139 [.slice A1 y139.length c1] from (Kd.FK_slice_mk (Kd.V_reads' (Kd.V_mono (ok' := (fun k_ => (P1_ k_ ∨ w.heap.size ≤ k_))) (HO143.out) (fun k_ hk => hk))).2.1 (Kd.V_F (Kd.V_mono (ok' := (fun k_ => (P1_ k_ ∨ w.heap.size ≤ k_))) (HO143.out) (fun k_ hk => hk))))) (Reps.none _ _))))
            intro v145 w19 ho20 hb hg_ hnew_
            clear hg_ hnew_
            (first | rw [← Ny144.out] at ho20 | (simp only [Int.reduceToNat] at ho20; rw [← Ny144.out] at ho20))
            have n0_ := Aside0.mk (Kd.V_elder' (by (with_reducible repeat (first | apply Kd.V_alloc | apply Kd.V_drewN | apply Kd.V_drew)); exact HO1.out) (Kd.N_base ho20) hb)
            have n1_ := Aside0.mk (Kd.V_elder' (by (with_reducible repeat (first | apply Kd.V_alloc | apply Kd.V_drewN | apply Kd.V_drew)); exact HO138.out) (Kd.N_base ho20) hb)
            have n2_ := Aside0.mk (Kd.V_elder' (by (with_reducible repeat (first | apply Kd.V_alloc | apply Kd.V_drewN | apply Kd.V_drew)); exact HO143.out) (Kd.N_base ho20) hb)
            have n3_ := Aside0.mk (Kd.N_lower ho20 (below_size (by repeat (first | (with_reducible first | exact HB.out | apply below_alloc | apply pw_below_drewN | apply below_drew1) | exact HB.out))))
            have n4_ := Aside0.mk (below_step (by repeat (first | (with_reducible first | exact HB.out | apply below_alloc | apply pw_below_drewN | apply below_drew1) | exact HB.out)) hb)
            clear HO1
            clear HO138
            clear HO143
            clear HB
            have HO1 := n0_
            have HO138 := n1_
            have HO143 := n2_
            have HO146 := n3_
            have HB := n4_
            clear n0_ n1_ n2_ n3_ n4_
            clear hb ho20
            obtain ⟨Ao21, co21, eo21⟩ := Kd.N_slice HO146.out
            (first | subst eo21 | (injection eo21 with f1_ f2_ f3_; have f4_ := f1_.symm; have f5_ := f3_.symm; clear f1_ f2_ f3_; subst f4_; subst f5_))
            refine hK.out _ _ trivial (fun hHeld => ?_)
            clear hK K
            refine norm_ (a' := ?_) ?_ ?_
            rotate_left
            · show Act.put _ (some 39) _ = _
              simp only [Act.put, List.setIfInBounds_toArray, List.set_cons_zero, List.set_cons_succ, i64_w, i32_w]
              rfl
            refine one_ (i := 11) (N := some 40) #[true, true, true, true, true, true, true, true, true, true, true, true, false, false] rfl rfl (one_of HT_.out (by kernel_rfl)) (by decide) (fun K hK => ?_)
            refine goes_ Try.func30 (by kernel_rfl) rfl #[.slice Ao21 y144.length co21] (by rfl) rfl rfl (by (try simp only [List.map_toArray, List.map_cons, List.map_nil]); first | done | rfl | (simp only [List.length_drop, List.length_take]; rfl)) ?_
            with_reducible refine (slices_Concat_int_int.calls _ _ y144 t147 _ ?side1 ?side2 A15.out).mono ?_
            (case side1 => repeat (first | exact (Kd.N_reads' HO146.out).2.2 | (with_reducible refine Kd.C_alloc ?_ _) | (with_reducible refine Kd.C_drewN ?_ _) | (with_reducible refine Kd.C_drew ?_)))
            (case side2 => exact (Kd.N_reads' HO146.out).2.1)
            rintro e w22 ⟨v148, rfl, ho0, hb⟩
            refine ⟨_, rfl, ?_⟩
            have n0_ := Aside0.mk (Kd.V_elder' (by (with_reducible repeat (first | apply Kd.V_alloc | apply Kd.V_drewN | apply Kd.V_drew)); exact HO1.out) (Kd.R_base ho0) hb)
            have n1_ := Aside0.mk (Kd.V_elder' (by (with_reducible repeat (first | apply Kd.V_alloc | apply Kd.V_drewN | apply Kd.V_drew)); exact HO138.out) (Kd.R_base ho0) hb)
            have n2_ := Aside0.mk (Kd.V_elder' (by (with_reducible repeat (first | apply Kd.V_alloc | apply Kd.V_drewN | apply Kd.V_drew)); exact HO143.out) (Kd.R_base ho0) hb)
            have n3_ := Aside0.mk (Kd.N_elder' (by (with_reducible repeat (first | apply Kd.N_alloc | apply Kd.N_drewN | apply Kd.N_drew)); exact HO146.out) (Kd.R_base ho0) hb)
            have n4_ := Aside0.mk (Kd.R_lower (Kd.R_newM (M := fun k_ => (w.heap.size ≤ k_)) ho0 (below_size (by repeat (first | (with_reducible first | exact HB.out | apply below_alloc | apply pw_below_drewN | apply below_drew1) | exact HB.out))) (fun k_ h_ => h_)) (below_size (by repeat (first | (with_reducible first | exact HB.out | apply below_alloc | apply pw_below_drewN | apply below_drew1) | exact HB.out))))
            have n5_ := Aside0.mk (below_step (by repeat (first | (with_reducible first | exact HB.out | apply below_alloc | apply pw_below_drewN | apply below_drew1) | exact HB.out)) hb)
            clear HO1
            clear HO138
            clear HO143
            clear HO146
            clear HB
            have HO1 := n0_
            have HO138 := n1_
            have HO143 := n2_
            have HO146 := n3_
            have HO149 := n4_
            have HB := n5_
            clear n0_ n1_ n2_ n3_ n4_ n5_
            (try clear hb)
            (try clear hb2)
            (try clear hk)
            (try clear hi)
            (try clear ho0)
            refine hK.out _ _ trivial (fun hHeld => ?_)
            clear hK K
            refine norm_ (a' := ?_) ?_ ?_
            rotate_left
            · show Act.put _ (some 40) _ = _
              simp only [Act.put, List.setIfInBounds_toArray, List.set_cons_zero, List.set_cons_succ, i64_w, i32_w]
              rfl
            refine pure_ (i := 12) (N := some 6) (v := ?_) (a' := ?_) #[true, true, true, true, true, true, true, true, true, true, true, true, true, false] rfl rfl (any_of HT_.out (by kernel_rfl)) (fun _ _ _ h => h) (Or.inl ⟨by rfl, ?_⟩) ?_ ?_
            rotate_left
            · intro w'
              go_simp
              with_reducible rfl
            rotate_left
            · simp only [Act.put, List.setIfInBounds_toArray, List.set_cons_zero, List.set_cons_succ, i64_w, i32_w]
              rfl
            refine pure_ (i := 13) (N := some 7) (v := ?_) (a' := ?_) #[true, true, true, true, true, true, true, true, true, true, true, true, true, true] rfl rfl (any_of HT_.out (by kernel_rfl)) (fun _ _ _ h => h) (Or.inl ⟨by rfl, ?_⟩) ?_ ?_
            rotate_left
            · intro w'
              go_simp
              with_reducible rfl
            rotate_left
            · simp only [Act.put, List.setIfInBounds_toArray, List.set_cons_zero, List.set_cons_succ, i64_w, i32_w]
              rfl
            refine done_ (done_of HT_.out (by kernel_rfl)) ?_
            try go_wp2
            go_ret2
            exact ⟨_, by first | rfl | (simp [errW_none, errW_some] <;> rfl) | (simp only [← hji10]; first | rfl | (simp [errW_none, errW_some] <;> rfl)) | (simp [*, errW_none, errW_some] <;> rfl), by (with_reducible repeat (first | apply Kd.R_alloc | apply Kd.R_drewN | apply Kd.R_drew)); exact Kd.R_mono HO149.out (fun _ hk => hk.1), by repeat (first | (with_reducible first | exact HB.out | apply below_alloc | apply pw_below_drewN | apply below_drew1) | exact HB.out)⟩
          · rw [if_neg c12] at H
            exact absurd H (by simp)
        · rw [if_neg c11] at H
          exact absurd H (by simp)
      · replace c9 := Bool.eq_false_iff.mpr c9
        subst c9
        have H1 : (some (([] : List Int), false)) = some (r1, r2) := by rw [if_neg (show ¬ (false = true) by decide)] at H; exact H
        clear H
        have H := H1
        clear H1
        simp only [Option.some.injEq, Prod.mk.injEq] at H
        obtain ⟨rfl, rfl⟩ := H
        go_enter Try.func15, Try.ntmps15
        go_wp2_with (first | ((with_reducible refine gate_callee (f := 18) rfl ?_); refine goesL_ (some 10) rfl rfl Try.func18 (by kernel_rfl) rfl #[.int .i64 a0, .bool true] rfl (by (try simp only [List.map_toArray, List.map_cons, List.map_nil]); first | done | rfl | (simp only [List.length_drop, List.length_take]; rfl)) ?_; (with_reducible refine (impl_isCouples.calls a0 true true _ A4.out).mono ?_); rintro e w' ⟨rfl, ⟨nd, rfl⟩⟩; refine ⟨_, rfl, ?_⟩) | (go_at_call 28; (with_reducible refine (impl_isOrder.calls k _ _ l1 (wrap64 (2 * a0)) true _ ?side1 ?side2 A6.out).mono ?_); (case side1 => repeat (first | exact (Kd.V_reads' HO1.out).2.2 | (with_reducible refine Kd.C_alloc ?_ _) | (with_reducible refine Kd.C_drewN ?_ _) | (with_reducible refine Kd.C_drew ?_))); (case side2 => exact (Kd.V_reads' HO1.out).2.1); rintro e w' ⟨rfl, ⟨nd, rfl⟩⟩) | (go_at_call 29; (with_reducible refine (impl_within.calls a2 0 (wrap64 ((wrap64 (2 * a0)) - 1)) false _ A8.out).mono ?_); rintro e w' ⟨rfl, ⟨nd, rfl⟩⟩))
        go_ret2
        exact ⟨_, by first | rfl | (simp [errW_none, errW_some] <;> rfl) | (simp [*, errW_none, errW_some] <;> rfl), by first | exact Kd.R_nil _ _ _ _ _ | exact Kd.N_nil _ _ _ _ _ | exact Kd.V_nil _ _ _ _ _ | exact Kd.Q_nil _ _ _ _ _ | exact Kd.S_nil _ _ _ _ _, by repeat (first | (with_reducible first | exact HB.out | apply below_alloc | apply pw_below_drewN | apply below_drew1) | exact HB.out)⟩
    · replace c7 := Bool.eq_false_iff.mpr c7
      subst c7
      have H1 : (some (([] : List Int), false)) = some (r1, r2) := by rw [if_neg (show ¬ (false = true) by decide)] at H; exact H
      clear H
      have H := H1
      clear H1
      simp only [Option.some.injEq, Prod.mk.injEq] at H
      obtain ⟨rfl, rfl⟩ := H
      go_enter Try.func15, Try.ntmps15
      go_wp2_with (first | ((with_reducible refine gate_callee (f := 18) rfl ?_); refine goesL_ (some 10) rfl rfl Try.func18 (by kernel_rfl) rfl #[.int .i64 a0, .bool true] rfl (by (try simp only [List.map_toArray, List.map_cons, List.map_nil]); first | done | rfl | (simp only [List.length_drop, List.length_take]; rfl)) ?_; (with_reducible refine (impl_isCouples.calls a0 true true _ A4.out).mono ?_); rintro e w' ⟨rfl, ⟨nd, rfl⟩⟩; refine ⟨_, rfl, ?_⟩) | (go_at_call 28; (with_reducible refine (impl_isOrder.calls k _ _ l1 (wrap64 (2 * a0)) false _ ?side1 ?side2 A6.out).mono ?_); (case side1 => repeat (first | exact (Kd.V_reads' HO1.out).2.2 | (with_reducible refine Kd.C_alloc ?_ _) | (with_reducible refine Kd.C_drewN ?_ _) | (with_reducible refine Kd.C_drew ?_))); (case side2 => exact (Kd.V_reads' HO1.out).2.1); rintro e w' ⟨rfl, ⟨nd, rfl⟩⟩))
      go_ret2
      exact ⟨_, by first | rfl | (simp [errW_none, errW_some] <;> rfl) | (simp [*, errW_none, errW_some] <;> rfl), by first | exact Kd.R_nil _ _ _ _ _ | exact Kd.N_nil _ _ _ _ _ | exact Kd.V_nil _ _ _ _ _ | exact Kd.Q_nil _ _ _ _ _ | exact Kd.S_nil _ _ _ _ _, by repeat (first | (with_reducible first | exact HB.out | apply below_alloc | apply pw_below_drewN | apply below_drew1) | exact HB.out)⟩
  · replace c5 := Bool.eq_false_iff.mpr c5
    subst c5
    have H1 : (some (([] : List Int), false)) = some (r1, r2) := by rw [if_neg (show ¬ (false = true) by decide)] at H; exact H
    clear H
    have H := H1
    clear H1
    simp only [Option.some.injEq, Prod.mk.injEq] at H
    obtain ⟨rfl, rfl⟩ := H
    go_enter Try.func15, Try.ntmps15
    go_wp2_with (first | ((with_reducible refine gate_callee (f := 18) rfl ?_); refine goesL_ (some 10) rfl rfl Try.func18 (by kernel_rfl) rfl #[.int .i64 a0, .bool true] rfl (by (try simp only [List.map_toArray, List.map_cons, List.map_nil]); first | done | rfl | (simp only [List.length_drop, List.length_take]; rfl)) ?_; (with_reducible refine (impl_isCouples.calls a0 true false _ A4.out).mono ?_); rintro e w' ⟨rfl, ⟨nd, rfl⟩⟩; refine ⟨_, rfl, ?_⟩))
    go_ret2
    exact ⟨_, by first | rfl | (simp [errW_none, errW_some] <;> rfl) | (simp [*, errW_none, errW_some] <;> rfl), by first | exact Kd.R_nil _ _ _ _ _ | exact Kd.N_nil _ _ _ _ _ | exact Kd.V_nil _ _ _ _ _ | exact Kd.Q_nil _ _ _ _ _ | exact Kd.S_nil _ _ _ _ _, by repeat (first | (with_reducible first | exact HB.out | apply below_alloc | apply pw_below_drewN | apply below_drew1) | exact HB.out)⟩

end Go.Proofs.Ythalnibkljaenaa.PFnExactTurnParty
