import Derived.Test.YtnoipklaebadeaaDoorZFnPlacingsPFnPlacingsx0
import Derived.Test.YtnoipklaebadeaaDoorZFnPlacingsPFnPlacingsx11
import Derived.Test.YtnoipklaebadeaaDoorZFnPlacingsPFnPlacingsx12
namespace Go.Proofs.YtnoipklaebadeaaDoor.PFnPlacings
open Go.RowKit Go.Proofs.YtnoipklaebadeaaDoorW.PrintWords Go.Proofs.YtnoipklaebadeaaDoorW.PrintLast Go.Proofs.YtnoipklaebadeaaDoorW.PrintMore
attribute [local go_sem] max2_int min2_int max_two min_two max_three min_three max_four min_four   -- for this text's walks alone
set_option linter.unusedVariables false
set_option linter.unusedSimpArgs false

/-! ### impl_Row_group: function 43 -/
mutual
def impl_Row_group.j0 : Nat → Int → Int → Int → Int → Bool → Int → Bool → List Int → Option (Int × Bool)
 | 0, _, _, _, _, _, _, _, _ => none
 | k + 1, x1, x2, x3, x4, x29, x533000, x533001, x533002 => if x29 = true then (some (0, false)) else (if 0 ≤ x2 then (if 0 ≤ x4 then (impl_Row_group.l0 k x1 (shl .u32 (((shl .u32 1 x2) - 1) % 4294967296) x4) (shl .u32 (((shl .u32 1 x2) - 1) % 4294967296) x4) (mn x3 x533000) 0) else (none)) else (none))
def impl_Row_group.l0 : Nat → Int → Int → Int → Int → Int → Option (Int × Bool)
 | 0, _, _, _, _, _ => none
 | k + 1, x1, x12, x13, x40, x41 => if x41 < x40 then (impl_Row_group.l0 k x1 x12 (Go.bits .or .u32 x13 (Go.bits .or .u32 ((x13 * 2) % 4294967296) (x13 / 2))) x40 (wrap64 (x41 + 1))) else (some (x12, ((Go.bits .and .u32 x13 x1) == 0)))
end
def impl_Row_group.f (k : Nat) (a0_0 : Int) (a0_1 : Bool) (l0_2 : List Int) (a1 : Int) (a2 : Int) (a3 : Int) (a4 : Int) : Option (Int × Bool) := if a2 > a0_0 then (impl_Row_group.j0 k a1 a2 a3 a4 true a0_0 a0_1 l0_2) else (if a4 < 0 then (impl_Row_group.j0 k a1 a2 a3 a4 true a0_0 a0_1 l0_2) else (impl_Row_group.j0 k a1 a2 a3 a4 (decide ((wrap64 (a4 + a2)) > a0_0)) a0_0 a0_1 l0_2))
set_option maxHeartbeats 8000000 in
set_option maxRecDepth 100000 in
theorem impl_Row_group.calls (k : Nat) (a0_0 : Int) (a0_1 : Bool) (A0_2 : Option Addr) (c0_2 : Nat) (l0_2 : List Int) (a1 : Int) (a2 : Int) (a3 : Int) (a4 : Int) (r1 : Int) (r2 : Bool) (w : World) (hr0_2 : Kd.C (Kd.int .i64) w A0_2 l0_2.length l0_2) (hc0_2 : l0_2.length ≤ c0_2) (h : impl_Row_group.f k a0_0 a0_1 l0_2 a1 a2 a3 a4 = some (r1, r2)) :
  Calls Tryd.prog 43 #[.agg #[.int .i64 a0_0, .bool a0_1, .slice A0_2 l0_2.length c0_2], .int .u32 a1, .int .i64 a2, .int .i64 a3, .int .i64 a4] w fun e w' => e = .returned (.tuple #[.int .u32 r1, .bool r2]) ∧ Below w.heap.size w w' := by
 have hu26 := Tryd.underlying26
 have HR0_2 := am hr0_2
 have HC0_2 := am hc0_2
 clear hr0_2 hc0_2
 have HB := am (Below.refl w.heap.size w)
 have H : (if a2 > a0_0 then (impl_Row_group.j0 k a1 a2 a3 a4 true a0_0 a0_1 l0_2) else (if a4 < 0 then (impl_Row_group.j0 k a1 a2 a3 a4 true a0_0 a0_1 l0_2) else (impl_Row_group.j0 k a1 a2 a3 a4 (decide ((wrap64 (a4 + a2)) > a0_0)) a0_0 a0_1 l0_2))) = some (r1, r2) := h
 clear h
 have HC6 := am H
 clear H
 go_enter Tryd.func43, Tryd.ntmps43
 go_upto_region 1 with (first | ((with_reducible refine gate_dst (N := 5) rfl ?_); refine box_event ?hg (N := 5) ?hd (cs := #[.int .i64 a0_0, .bool a0_1, .slice A0_2 l0_2.length c0_2]) (t := 26) ?hr ?_; (case hd => rfl); (case hg => rfl); (case hr => first | (go_simp; done) | (go_simp; rfl)); intro gb532 hg w7 hbox hb; have BK532 := am (hbox); have GW532 := am ((by rw [hg]; exact (below_size (pkB HB)) : w.heap.size ≤ gb532)); have GE532 := am ((by rw [hg]; exact (below_size (pkB HB)) : w.heap.size ≤ gb532)); replace HB := am (below_step (pkB HB) hb); clear hb hbox hg))
 repeat (go_quiet (first | ((with_reducible refine gate_dst (N := 5) rfl ?_); refine box_event ?hg (N := 5) ?hd (cs := #[.int .i64 a0_0, .bool a0_1, .slice A0_2 l0_2.length c0_2]) (t := 26) ?hr ?_; (case hd => rfl); (case hg => rfl); (case hr => first | (go_simp; done) | (go_simp; rfl)); intro gb532 hg w7 hbox hb; have BK532 := am (hbox); have GW532 := am ((by rw [hg]; exact (below_size (pkB HB)) : w.heap.size ≤ gb532)); have GE532 := am ((by rw [hg]; exact (below_size (pkB HB)) : w.heap.size ≤ gb532)); replace HB := am (below_step (pkB HB) hb); clear hb hbox hg)); go_upto_region 1 with (first | ((with_reducible refine gate_dst (N := 5) rfl ?_); refine box_event ?hg (N := 5) ?hd (cs := #[.int .i64 a0_0, .bool a0_1, .slice A0_2 l0_2.length c0_2]) (t := 26) ?hr ?_; (case hd => rfl); (case hg => rfl); (case hr => first | (go_simp; done) | (go_simp; rfl)); intro gb532 hg w7 hbox hb; have BK532 := am (hbox); have GW532 := am ((by rw [hg]; exact (below_size (pkB HB)) : w.heap.size ≤ gb532)); have GE532 := am ((by rw [hg]; exact (below_size (pkB HB)) : w.heap.size ≤ gb532)); replace HB := am (below_step (pkB HB) hb); clear hb hbox hg)))
 (try simp only [Act.put, List.setIfInBounds_toArray, List.set_cons_zero, List.set_cons_succ])
 go_cut [29] (fun v29 wc => ∃ (kq : Nat) (x29_5 : Bool), v29 = .bool x29_5 ∧ Aside0 (impl_Row_group.j0 kq a1 a2 a3 a4 x29_5 a0_0 a0_1 l0_2 = some (r1, r2)) ∧ Aside0 (kq ≤ k) ∧ Aside0 (wc.heap[gb532]? = some (.cells #[.int .i64 a0_0, .bool a0_1, (.slice A0_2 l0_2.length c0_2)] 26 (0, 0))) ∧ Aside0 (Below w.heap.size w wc))
 case first =>
  have H := HC6.out
  clear HC6
  by_cases c8 : a2 > a0_0
  ·rw [if_pos c8] at H
   have c8b0 : decide (a0_0 < a2) = true := decide_eq_true c8
   clear c8
   (first | rw [c8b0] | (simp only [i64_w, i32_w]; rw [c8b0]) | rw [c8b1] | skip)
   have H' := am H
   clear H
   obtain ⟨hcz9_0, hcz9_1, hcz9_2⟩ := bc3 BK532.out
   obtain ⟨hfz9_0, hfz9_1, hfz9_2⟩ := bf3 BK532.out
   go_wp2
   repeat (go_quiet (fail); try go_wp2)
   go_meet
   case rel => exact ⟨_, (true), (by first | rfl | (simp; done) | (simp [*]; done)), H', ⟨by first | omega | exact Nat.le_refl _⟩, ⟨pkC BK532⟩, ⟨pkB HB⟩⟩
  ·rw [if_neg c8] at H
   have c8b0 : decide (a0_0 < a2) = false := decide_eq_false c8
   clear c8
   (first | rw [c8b0] | (simp only [i64_w, i32_w]; rw [c8b0]) | rw [c8b1] | skip)
   by_cases c10 : a4 < 0
   ·rw [if_pos c10] at H
    have c10b0 : decide (a4 < 0) = true := decide_eq_true c10
    clear c10
    have H' := am H
    clear H
    obtain ⟨hcz11_0, hcz11_1, hcz11_2⟩ := bc3 BK532.out
    obtain ⟨hfz11_0, hfz11_1, hfz11_2⟩ := bf3 BK532.out
    go_wp2
    repeat (go_quiet (fail); try go_wp2)
    go_meet
    case rel => exact ⟨_, (true), (by first | rfl | (simp; done) | (simp [*]; done)), H', ⟨by first | omega | exact Nat.le_refl _⟩, ⟨pkC BK532⟩, ⟨pkB HB⟩⟩
   ·rw [if_neg c10] at H
    have c10b0 : decide (a4 < 0) = false := decide_eq_false c10
    clear c10
    have H' := am H
    clear H
    obtain ⟨hcz12_0, hcz12_1, hcz12_2⟩ := bc3 BK532.out
    obtain ⟨hfz12_0, hfz12_1, hfz12_2⟩ := bf3 BK532.out
    go_wp2
    repeat (go_quiet (fail); try go_wp2)
    go_meet
    case rel => exact ⟨_, (decide ((wrap64 (a4 + a2)) > a0_0)), (by first | rfl | (simp; done) | (simp [*]; done)), H', ⟨by first | omega | exact Nat.le_refl _⟩, ⟨pkC BK532⟩, ⟨pkB HB⟩⟩
 case rest =>
  clear HC6
  try clear c1
  try clear p2
  try clear c4
  try clear p6
  try clear c8
  try clear c8b0
  try clear c8b1
  try clear c10
  try clear c10b0
  try clear hcz11_0
  try clear hcz11_1
  try clear hcz11_2
  try clear hcz12_0
  try clear hcz12_1
  try clear hcz12_2
  try clear hcz9_0
  try clear hcz9_1
  try clear hcz9_2
  try clear hfz11_0
  try clear hfz11_1
  try clear hfz11_2
  try clear hfz12_0
  try clear hfz12_1
  try clear hfz12_2
  try clear hfz9_0
  try clear hfz9_1
  try clear hfz9_2
  obtain ⟨kq, x29_5, rfl, HA, HJ5, BK532, HB⟩ := hcut
  cases kq with
  | zero => exact absurd HA.out (by simp [impl_Row_group.j0])
  | succ kj5 =>
   have H := HA.out
   clear HA
   simp only [impl_Row_group.j0] at H
   by_cases c13 : x29_5 = true
   ·subst c13
    rw [if_pos rfl] at H
    simp only [Option.some.injEq, Prod.mk.injEq] at H
    obtain ⟨rfl, rfl⟩ := H
    go_wp2
    repeat (go_quiet (fail); try go_wp2)
    go_ret2
    exact ⟨by first | rfl | (simp [*]; done), pkB HB⟩
   ·replace c13 := Bool.eq_false_iff.mpr c13
    subst c13
    rw [if_neg (show ¬ (false = true) by decide)] at H
    by_cases c14 : 0 ≤ a2
    ·rw [if_pos c14] at H
     have c14b0 := eq_true c14
     have c14b1 : decide (0 ≤ a2) = true := decide_eq_true c14
     clear c14
     obtain ⟨ji15, hji15⟩ : ∃ j_ : Int, (shl .u32 1 a2) = j_ := ⟨_, rfl⟩
     replace H : (if 0 ≤ a4 then (impl_Row_group.l0 kj5 a1 (shl .u32 (((ji15) - 1) % 4294967296) a4) (shl .u32 (((ji15) - 1) % 4294967296) a4) (mn a3 a0_0) 0) else (none)) = some (r1, r2) := by first | (rw [hji15] at H; exact H) | (simp only [hji15] at H ⊢; exact H)
     have hji15_ : (IntKind.u32.wrap (1 * 2 ^ min a2.toNat 32)) = ji15 := hji15
     have hji15z : a2 ≤ 32 → (IntKind.u32.wrap (1 * 2 ^ a2.toNat)) = ji15 := shl_small hji15
     have hji15u : (IntKind.u32.wrap (2 ^ min a2.toNat 32)) = ji15 := by have h_ := hji15_; rw [Int.one_mul] at h_; exact h_
     have hji15v : a2 ≤ 32 → (IntKind.u32.wrap (2 ^ a2.toNat)) = ji15 := fun hle_ => by have h_ := hji15z hle_; rw [Int.one_mul] at h_; exact h_
     by_cases c16 : 0 ≤ a4
     ·rw [if_pos c16] at H
      have c16b0 := eq_true c16
      have c16b1 : decide (0 ≤ a4) = true := decide_eq_true c16
      clear c16
      obtain ⟨ji17, hji17⟩ : ∃ j_ : Int, (shl .u32 (((ji15) - 1) % 4294967296) a4) = j_ := ⟨_, rfl⟩
      replace H : (impl_Row_group.l0 kj5 a1 ji17 ji17 (mn a3 a0_0) 0) = some (r1, r2) := by first | (rw [hji17] at H; exact H) | (simp only [hji17] at H ⊢; exact H)
      have hji17_ : (IntKind.u32.wrap ((((ji15) - 1) % 4294967296) * 2 ^ min a4.toNat 32)) = ji17 := hji17
      have hji17z : a4 ≤ 32 → (IntKind.u32.wrap ((((ji15) - 1) % 4294967296) * 2 ^ a4.toNat)) = ji17 := shl_small hji17
      obtain ⟨ji18, hji18⟩ : ∃ j_ : Int, (mn a3 a0_0) = j_ := ⟨_, rfl⟩
      replace H : (impl_Row_group.l0 kj5 a1 ji17 ji17 ji18 0) = some (r1, r2) := by first | (rw [hji18] at H; exact H) | (simp only [hji18] at H ⊢; exact H)
      have hji18_ : (if a0_0 < a3 then a0_0 else a3) = ji18 := hji18
      have H' := am H
      clear H
      obtain ⟨hcz19_0, hcz19_1, hcz19_2⟩ := bc3 BK532.out
      obtain ⟨hfz19_0, hfz19_1, hfz19_2⟩ := bf3 BK532.out
      go_wp2
      repeat (go_quiet (fail); try go_wp2)
      go_loopg [13, 41] kj5 (fun kq v13 v41 w' => ∃ (x13_2 : Int) (x41_2 : Int), v13 = .int .u32 x13_2 ∧ v41 = .int .i64 x41_2 ∧ Aside0 (impl_Row_group.l0 kq a1 ji17 x13_2 ji18 x41_2 = some (r1, r2)) ∧ Aside0 (kq ≤ kj5) ∧ Aside0 (w'.heap[gb532]? = some (.cells #[.int .i64 a0_0, .bool a0_1, (.slice A0_2 l0_2.length c0_2)] 26 (0, 0))) ∧ Aside0 (Below w.heap.size w w'))
      case atStart => exact ⟨(ji17), (0), (by first | rfl | (simp; done) | (simp only [← hji17] <;> (first | rfl | simp)) | (simp [*]; done)), (by first | rfl | (simp; done) | (simp [*]; done)), H', ⟨Nat.le_refl _⟩, ⟨pkC BK532⟩, ⟨pkB HB⟩⟩
      case round =>
       clear H'
       try clear c1
       try clear p2
       try clear c4
       try clear p6
       try clear c8
       try clear c8b0
       try clear c8b1
       try clear c10
       try clear c10b0
       try clear c13
       try clear c14
       try clear c14b0
       try clear c14b1
       try clear c16
       try clear c16b0
       try clear c16b1
       try clear hcz11_0
       try clear hcz11_1
       try clear hcz11_2
       try clear hcz12_0
       try clear hcz12_1
       try clear hcz12_2
       try clear hcz19_0
       try clear hcz19_1
       try clear hcz19_2
       try clear hcz9_0
       try clear hcz9_1
       try clear hcz9_2
       try clear hfz11_0
       try clear hfz11_1
       try clear hfz11_2
       try clear hfz12_0
       try clear hfz12_1
       try clear hfz12_2
       try clear hfz19_0
       try clear hfz19_1
       try clear hfz19_2
       try clear hfz9_0
       try clear hfz9_1
       try clear hfz9_2
       try clear p2
       try clear p6
       obtain ⟨x13_2, x41_2, rfl, rfl, HA, HK2, BK532, HB⟩ := hrel
       cases gk with
       | zero => exact absurd HA.out (by simp [impl_Row_group.l0])
       | succ k2 =>
        have H := HA.out
        clear HA
        simp only [impl_Row_group.l0] at H
        by_cases c20 : x41_2 < ji18
        ·rw [if_pos c20] at H
         have c20b0 : decide (x41_2 < ji18) = true := decide_eq_true c20
         clear c20
         have H' := am H
         clear H
         go_wp2
         repeat (go_quiet (fail); try go_wp2)
         go_roundg k2
         case measure => have := HJ5.out; have := HK2.out; omega
         case rel => exact ⟨(Go.bits .or .u32 x13_2 (Go.bits .or .u32 ((x13_2 * 2) % 4294967296) (x13_2 / 2))), (wrap64 (x41_2 + 1)), (by first | rfl | (simp; done) | (simp [*]; done)), (by first | rfl | (simp; done) | (simp [*]; done)), H', ⟨by have := HJ5.out; have := HK2.out; omega⟩, ⟨pkC BK532⟩, ⟨pkB HB⟩⟩
        ·rw [if_neg c20] at H
         have c20b0 : decide (x41_2 < ji18) = false := decide_eq_false c20
         clear c20
         simp only [Option.some.injEq, Prod.mk.injEq] at H
         obtain ⟨rfl, rfl⟩ := H
         go_wp2
         repeat (go_quiet (fail); try go_wp2)
         go_ret2
         exact ⟨by first | rfl | (simp [errW_none, errW_some] <;> rfl) | (simp only [← hji15, ← hji17, ← hji18]; first | rfl | (simp [errW_none, errW_some] <;> rfl)) | (simp [*, errW_none, errW_some] <;> rfl), pkB HB⟩
     ·rw [if_neg c16] at H
      exact absurd H (by simp)
    ·rw [if_neg c14] at H
     exact absurd H (by simp)

/-! ### impl_Row_placed: function 23 -/
def impl_Row_placed.l0 : Nat → List Int → Int → Int → List Int → Int → Int → Int → Bool → List Int → Option (Int × Bool)
 | 0, _, _, _, _, _, _, _, _, _ => none
 | k + 1, x1, x2, x10, x22, x23, x24, x534000, x534001, x534002 => if x24 < x23 then (if 0 ≤ x24 then (if x24 < (x22.length : Int) then ((impl_within.f (rd x22 x24) 0 (wrap64 (x534000 - 1))).bind fun t536 => (if t536 = true then (if x24 < (x1.length : Int) then ((impl_Row_group.f k x534000 x534001 x534002 x10 (rd x1 x24) x2 (rd x22 x24)).bind fun bt538 => (if bt538.2 = true then (impl_Row_placed.l0 k x1 x2 (Go.bits .or .u32 x10 bt538.1) x22 x23 (wrap64 (x24 + 1)) x534000 x534001 x534002) else (some (0, false)))) else (none)) else (some (0, false)))) else (none)) else (none)) else (some (x10, true))
def impl_Row_placed.f (k : Nat) (a0_0 : Int) (a0_1 : Bool) (l0_2 : List Int) (l1 : List Int) (a2 : Int) (l3 : List Int) : Option (Int × Bool) := if (l3.length : Int) = (l1.length : Int) then ((impl_Row_taken.f k a0_0 a0_1 l0_2).bind fun t534 => (impl_Row_placed.l0 k l1 a2 t534 l3 (l3.length : Int) 0 a0_0 a0_1 l0_2)) else (some (0, false))
def impl_Row_placed.T9 : Bool × List (List Nat × List Nat) := (true, [([], []), ([], []), ([], []), ([], []), ([2, 3], [2, 3]), ([4], [4]), ([], []), ([], []), ([0, 1, 5, 6, 7], [0, 1, 5, 6, 7]), ([8], [8]), ([9], [9]), ([9], [9]), ([10, 8, 0, 1, 2, 3, 4, 5, 6, 7, 8, 9, 10], [10]), ([11, 12, 0, 1, 2, 3, 4, 5, 6, 7, 8, 9, 10, 11, 12], [11])])
def impl_Row_placed.B9 : List Nat := [0, 0, 0, 0, 12, 28, 0, 0, 255, 511, 1023, 1023, 2047, 8191]
theorem impl_Row_placed.tab9 : rtab .any (opsOf Tryd.f23 9) = impl_Row_placed.T9 := by kernel_rfl
theorem impl_Row_placed.bits9 : waitsOk impl_Row_placed.T9.2 impl_Row_placed.B9 = true := by kernel_rfl
set_option maxHeartbeats 8000000 in
set_option maxRecDepth 100000 in
theorem impl_Row_placed.calls (k : Nat) (a0_0 : Int) (a0_1 : Bool) (A0_2 : Option Addr) (c0_2 : Nat) (l0_2 : List Int) (A1 : Option Addr) (c1 : Nat) (l1 : List Int) (a2 : Int) (A3 : Option Addr) (c3 : Nat) (l3 : List Int) (r1 : Int) (r2 : Bool) (w : World) (hr0_2 : Kd.C (Kd.int .i64) w A0_2 l0_2.length l0_2) (hc0_2 : l0_2.length ≤ c0_2) (hr1 : Kd.C (Kd.int .i64) w A1 l1.length l1) (hc1 : l1.length ≤ c1) (hr3 : Kd.C (Kd.int .i64) w A3 l3.length l3) (hc3 : l3.length ≤ c3) (h : impl_Row_placed.f k a0_0 a0_1 l0_2 l1 a2 l3 = some (r1, r2)) :
  Calls Tryd.prog 23 #[.agg #[.int .i64 a0_0, .bool a0_1, .slice A0_2 l0_2.length c0_2], .slice A1 l1.length c1, .int .i64 a2, .slice A3 l3.length c3] w fun e w' => e = .returned (.tuple #[.int .u32 r1, .bool r2]) ∧ Below w.heap.size w w' := by
 have hu26 := Tryd.underlying26
 have HR0_2 := am hr0_2
 have HC0_2 := am hc0_2
 clear hr0_2 hc0_2
 have HR1 := am hr1
 have HC1 := am hc1
 clear hr1 hc1
 have HR3 := am hr3
 have HC3 := am hc3
 clear hr3 hc3
 have HB := am (Below.refl w.heap.size w)
 have H : (if (l3.length : Int) = (l1.length : Int) then ((impl_Row_taken.f k a0_0 a0_1 l0_2).bind fun t534 => (impl_Row_placed.l0 k l1 a2 t534 l3 (l3.length : Int) 0 a0_0 a0_1 l0_2)) else (some (0, false))) = some (r1, r2) := h
 clear h
 by_cases c5 : (l3.length : Int) = (l1.length : Int)
 ·rw [if_pos c5] at H
  have c5b0 : ((l3.length : Int) == (l1.length : Int)) = true := beq_iff_eq.mpr c5
  have c5b1 : ((l3.length : Int) != (l1.length : Int)) = false := bne_eq_false_iff_eq.mpr c5
  have c5b2 : (l3.length == l1.length) = true := by first | simpa using c5 | (simp at c5 ⊢; omega)
  clear c5
  replace H := Option.bind_eq_some_iff.mp H
  obtain ⟨t534, A60, H⟩ := H
  try dsimp only at H
  have A6 := am A60
  clear A60
  have H' := am H
  clear H
  go_enter Tryd.func23, Tryd.ntmps23
  go_wp2_with (first | ((with_reducible refine gate_dst (N := 4) rfl ?_); refine box_event ?hg (N := 4) ?hd (cs := #[.int .i64 a0_0, .bool a0_1, .slice A0_2 l0_2.length c0_2]) (t := 26) ?hr ?_; (case hd => rfl); (case hg => rfl); (case hr => first | (go_simp; done) | (go_simp; rfl)); intro gb533 hg w7 hbox hb; have BK533 := am (hbox); have GW533 := am ((by rw [hg]; exact (below_size (pkB HB)) : w.heap.size ≤ gb533)); have GE533 := am ((by rw [hg]; exact (below_size (pkB HB)) : w.heap.size ≤ gb533)); replace HB := am (below_step (pkB HB) hb); clear hb hbox hg; obtain ⟨hcz8_0, hcz8_1, hcz8_2⟩ := bc3 BK533.out; obtain ⟨hfz8_0, hfz8_1, hfz8_2⟩ := bf3 BK533.out) | (go_at_call 42; (with_reducible refine (impl_Row_taken.calls k a0_0 a0_1 _ _ l0_2 t534 _ ?side1 ?side2 A6.out).mono ?_); (case side1 => repeat (first | exact (Kd.C_below HR0_2.out HB.out) | (with_reducible refine Kd.C_alloc ?_ _) | (with_reducible refine Kd.C_drewN ?_ _) | (with_reducible refine Kd.C_drew ?_))); (case side2 => exact HC0_2.out); rintro e w9 ⟨rfl, hb⟩; replace BK533 := am (blk_below (pkC BK533) hb); replace HB := am (below_step (pkB HB) hb); (try clear hb); (try clear hb2); (try clear hk); (try clear hi)))
  go_loopg [10, 24] k (fun kq v10 v24 w' => ∃ (x10_1 : Int) (x24_1 : Int), v10 = .int .u32 x10_1 ∧ v24 = .int .i64 x24_1 ∧ Aside0 (impl_Row_placed.l0 kq l1 a2 x10_1 l3 (l3.length : Int) x24_1 a0_0 a0_1 l0_2 = some (r1, r2)) ∧ Aside0 (kq ≤ k) ∧ Aside0 (w'.heap[gb533]? = some (.cells #[.int .i64 a0_0, .bool a0_1, (.slice A0_2 l0_2.length c0_2)] 26 (0, 0))) ∧ Aside0 (Below w.heap.size w w'))
  case atStart => exact ⟨(t534), (0), (by first | rfl | (simp; done) | (simp [*]; done)), (by first | rfl | (simp; done) | (simp [*]; done)), H', ⟨Nat.le_refl _⟩, ⟨pkC BK533⟩, ⟨pkB HB⟩⟩
  case round =>
   clear H'
   try clear c1
   try clear c2
   try clear p2
   try clear c3
   try clear c4
   try clear c5
   try clear c5b0
   try clear c5b1
   try clear c5b2
   try clear hcz8_0
   try clear hcz8_1
   try clear hcz8_2
   try clear hfz8_0
   try clear hfz8_1
   try clear hfz8_2
   obtain ⟨x10_1, x24_1, rfl, rfl, HA, HK1, BK533, HB⟩ := hrel
   cases gk with
   | zero => exact absurd HA.out (by simp [impl_Row_placed.l0])
   | succ k1 =>
    have H := HA.out
    clear HA
    simp only [impl_Row_placed.l0] at H
    by_cases c10 : x24_1 < (l3.length : Int)
    ·rw [if_pos c10] at H
     have c10b0 : decide (x24_1 < (l3.length : Int)) = true := decide_eq_true c10
     clear c10
     by_cases c11 : 0 ≤ x24_1
     ·rw [if_pos c11] at H
      have c11b0 : decide (0 ≤ x24_1) = true := decide_eq_true c11
      clear c11
      by_cases c12 : x24_1 < (l3.length : Int)
      ·rw [if_pos c12] at H
       have c12b0 : decide (x24_1 < (l3.length : Int)) = true := decide_eq_true c12
       clear c12
       replace H := Option.bind_eq_some_iff.mp H
       obtain ⟨t536, A130, H⟩ := H
       try dsimp only at H
       have A13 := am A130
       clear A130
       by_cases c14 : t536 = true
       ·subst c14
        rw [if_pos rfl] at H
        by_cases c15 : x24_1 < (l1.length : Int)
        ·rw [if_pos c15] at H
         have c15b0 : decide (x24_1 < (l1.length : Int)) = true := decide_eq_true c15
         clear c15
         replace H := Option.bind_eq_some_iff.mp H
         obtain ⟨⟨t538, t539⟩, A160, H⟩ := H
         try dsimp only at H
         have A16 := am A160
         clear A160
         by_cases c17 : t539 = true
         ·subst c17
          rw [if_pos rfl] at H
          have H' := am H
          clear H
          have p535 : 0 ≤ (x24_1 : Int) := of_decide_eq_true (by first | (with_reducible assumption) | assumption)
          have q535 : x24_1 < (l3.length : Int) := of_decide_eq_true (by first | (with_reducible assumption) | assumption)
          obtain ⟨ad535, e535, hx535_0⟩ := Kd.at_int HR3.out x24_1 p535 q535
          cases e535
          (try replace hx535_0 := (HB.out.cell (World.block_lt_of_cell? w _ hx535_0)).trans hx535_0)
          replace p535 := eq_true p535
          replace q535 := eq_true q535
          obtain ⟨hcz18_0, hcz18_1, hcz18_2⟩ := bc3 BK533.out
          obtain ⟨hfz18_0, hfz18_1, hfz18_2⟩ := bf3 BK533.out
          try go_wp2_with (first | ((with_reducible refine gate_callee (f := 41) rfl ?_); refine goesL_ (some 33) rfl rfl Tryd.func41 (by kernel_rfl) rfl #[.int .i64 (rd l3 x24_1), .int .i64 0, .int .i64 (wrap64 (a0_0 - 1))] rfl (by (try simp only [List.map_toArray, List.map_cons, List.map_nil]); first | done | rfl | (simp only [List.length_drop, List.length_take]; rfl)) ?_; (with_reducible refine (impl_within.calls (rd l3 x24_1) 0 (wrap64 (a0_0 - 1)) true _ A13.out).mono ?_); rintro e w' ⟨rfl, ⟨nd, rfl⟩⟩; refine ⟨_, rfl, ?_⟩))
          (try (rw [drewN_self wr]; generalize hq_ : World.drewN wr _ = wr; have n0_ : Aside0 (wr.heap[gb533]? = some (.cells #[.int .i64 a0_0, .bool a0_1, .slice A0_2 l0_2.length c0_2] 26 (0, 0))) := ⟨by rw [← hq_]; exact (pkC BK533)⟩; have n1_ : Aside0 (Below w.heap.size w wr) := ⟨by rw [← hq_]; exact (pkB HB)⟩; clear BK533 HB hq_; have BK533 := n0_; have HB := n1_; clear n0_ n1_))
          (try (have hcu533_0 : wr.cell? ⟨gb533, 0, none⟩ = some (.int .i64 a0_0) := (blk_cell BK533.out 0).trans rfl))
          (try (have hcu533_1 : wr.cell? ⟨gb533, 1, none⟩ = some (.bool a0_1) := (blk_cell BK533.out 1).trans rfl))
          (try (have hcu533_2 : wr.cell? ⟨gb533, 2, none⟩ = some (.slice A0_2 l0_2.length c0_2) := (blk_cell BK533.out 2).trans rfl))
          replace BK533 := am (blk_drew BK533.out)
          replace HB := am (below_drew1 HB.out)
          have p537 : 0 ≤ (x24_1 : Int) := of_decide_eq_true (by first | (with_reducible assumption) | assumption)
          have q537 : x24_1 < (l1.length : Int) := of_decide_eq_true (by first | (with_reducible assumption) | assumption)
          obtain ⟨ad537, e537, hx537_0⟩ := Kd.at_int HR1.out x24_1 p537 q537
          have hw537_0 := hx537_0
          cases e537
          (try replace hx537_0 := (HB.out.cell (World.block_lt_of_cell? w _ hx537_0)).trans hx537_0)
          replace p537 := eq_true p537
          replace q537 := eq_true q537
          refine start_ (n := 14) (S := fun w' => w'.cell? ⟨gb533, 0, none⟩ = some (.int .i64 a0_0) ∧ w'.cell? ⟨gb533, 1, none⟩ = some (.bool a0_1) ∧ w'.cell? ⟨gb533, 2, none⟩ = some (.slice A0_2 l0_2.length c0_2) ∧ w'.cell? (ad537.add (x24_1).toNat) = some (.int .i64 (rd l1 x24_1))) (ds := []) #[false, false, false, false, false, false, false, false, false, false, false, false, false, false] (by kernel_rfl) rfl rfl ⟨(blk_cell BK533.out 0).trans rfl, (blk_cell BK533.out 1).trans rfl, (blk_cell BK533.out 2).trans rfl, ((HB.out.cell (World.block_lt_of_cell? w _ hw537_0)).trans hw537_0)⟩ (fun hHeld => ?_); refine with_tabW impl_Row_placed.tab9 impl_Row_placed.bits9 (fun HT_ HW_ => ?_)
          generalize wr.drew = w19 at BK533 HB hx537_0 hHeld ⊢
          refine pi_ (i := 1) (N := some 37) (v := ?_) (a' := ?_) (bm 14 2) rfl rfl HT_ (by kernel_rfl) (fun _ _ _ h => h) (Or.inl ⟨by rfl, ?_⟩) ?_ ?_
          rotate_left
          ·intro w'
           go_simp
           with_reducible rfl
          rotate_left
          ·simp only [Act.put, pp_]
           rfl
          refine pi_ (i := 2) (N := some 38) (v := ?_) (a' := ?_) (bm 14 6) rfl rfl HT_ (by kernel_rfl) (fun _ _ _ h => h) (Or.inl ⟨by rfl, ?_⟩) ?_ ?_
          rotate_left
          ·intro w'
           go_simp
           with_reducible rfl
          rotate_left
          ·simp only [Act.put, pp_]
           rfl
          refine pi_ (i := 3) (N := some 39) (v := ?_) (a' := ?_) (bm 14 14) rfl rfl HT_ (by kernel_rfl) (fun _ _ _ h => h) (Or.inl ⟨by rfl, ?_⟩) ?_ ?_
          rotate_left
          ·intro w'
           go_simp
           with_reducible rfl
          rotate_left
          ·simp only [Act.put, pp_]
           rfl
          refine pi_ (i := 4) (N := some 40) (v := ?_) (a' := ?_) (bm 14 30) rfl rfl HT_ (by kernel_rfl) (fun _ _ _ h => h) (Or.inl ⟨by rfl, ?_⟩) ?_ ?_
          rotate_left
          ·intro w'
           go_simp
           with_reducible rfl
          rotate_left
          ·simp only [Act.put, pp_]
           rfl
          refine pi_ (i := 6) (N := some 42) (v := ?_) (a' := ?_) (bm 14 94) rfl rfl HT_ (by kernel_rfl) (fun _ _ _ h => h) (Or.inl ⟨by rfl, ?_⟩) ?_ ?_
          rotate_left
          ·intro w'
           go_simp
           with_reducible rfl
          rotate_left
          ·simp only [Act.put, pp_]
           rfl
          refine pi_ (i := 7) (N := some 43) (v := ?_) (a' := ?_) (bm 14 222) rfl rfl HT_ (by kernel_rfl) (fun _ _ _ h => h) (Or.inl ⟨by rfl, ?_⟩) ?_ ?_
          rotate_left
          ·intro w'
           go_simp
           with_reducible rfl
          rotate_left
          ·simp only [Act.put, pp_]
           rfl
          refine take_ (i := 0) (N := some 36) (v := ?_) (a' := ?_) (bm 14 223) rfl rfl (take_ofW HT_.out HW_.out (by kernel_rfl)) (fun _ _ _ h => h) (Or.inl ⟨by rfl, ?_⟩) hHeld ?_ ?_
          rotate_left
          ·rintro w' ⟨s0, s1, s2, s3⟩
           go_simp
           with_reducible rfl
          rotate_left
          ·simp only [Act.put, pp_]
           rfl
          refine take_ (i := 5) (N := some 41) (v := ?_) (a' := ?_) (bm 14 255) rfl rfl (take_ofW HT_.out HW_.out (by kernel_rfl)) (fun _ _ _ h => h) (Or.inl ⟨by rfl, ?_⟩) hHeld ?_ ?_
          rotate_left
          ·rintro w' ⟨s0, s1, s2, s3⟩
           go_simp
           with_reducible rfl
          rotate_left
          ·simp only [Act.put, pp_]
           rfl
          refine one_ (i := 8) (N := some 44) (bm 14 511) rfl rfl (one_of HT_.out (by kernel_rfl)) (by decide) (fun K hK => ?_)
          refine goes_ Tryd.func43 (by kernel_rfl) rfl #[.agg #[.int .i64 a0_0, .bool a0_1, .slice A0_2 l0_2.length c0_2], .int .u32 x10_1, .int .i64 (rd l1 x24_1), .int .i64 a2, .int .i64 (rd l3 x24_1)] (by rfl) rfl rfl (by (try simp only [List.map_toArray, List.map_cons, List.map_nil]); first | done | rfl | (simp only [List.length_drop, List.length_take]; rfl)) ?_
          with_reducible refine (impl_Row_group.calls k1 a0_0 a0_1 _ _ l0_2 x10_1 (rd l1 x24_1) a2 (rd l3 x24_1) t538 true _ ?side1 ?side2 A16.out).mono ?_
          (case side1 => repeat (first | exact (Kd.C_below HR0_2.out HB.out) | (with_reducible refine Kd.C_alloc ?_ _) | (with_reducible refine Kd.C_drewN ?_ _) | (with_reducible refine Kd.C_drew ?_)))
          (case side2 => exact HC0_2.out)
          rintro e w20 ⟨rfl, hb⟩
          refine ⟨_, rfl, ?_⟩
          replace BK533 := am (blk_below (pkC BK533) hb)
          replace HB := am (below_step (pkB HB) hb)
          (try clear hb)
          (try clear hb2)
          (try clear hk)
          (try clear hi)
          refine hK.out _ _ ⟨(blk_cell BK533.out 0).trans rfl, (blk_cell BK533.out 1).trans rfl, (blk_cell BK533.out 2).trans rfl, ((HB.out.cell (World.block_lt_of_cell? w _ hw537_0)).trans hw537_0)⟩ (fun hHeld => ?_)
          clear hK K
          refine norm_ (a' := ?_) ?_ ?_
          rotate_left
          ·show Act.put _ (some 44) _ = _
           simp only [Act.put, pp_]
           rfl
          refine pi_ (i := 9) (N := some 35) (v := ?_) (a' := ?_) (bm 14 1023) rfl rfl HT_ (by kernel_rfl) (fun _ _ _ h => h) (Or.inl ⟨by rfl, ?_⟩) ?_ ?_
          rotate_left
          ·intro w'
           go_simp
           with_reducible rfl
          rotate_left
          ·simp only [Act.put, pp_]
           rfl
          refine pi_ (i := 10) (N := some 45) (v := ?_) (a' := ?_) (bm 14 2047) rfl rfl HT_ (by kernel_rfl) (fun _ _ _ h => h) (Or.inl ⟨by rfl, ?_⟩) ?_ ?_
          rotate_left
          ·intro w'
           go_simp
           with_reducible rfl
          rotate_left
          ·simp only [Act.put, pp_]
           rfl
          refine pi_ (i := 11) (N := some 46) (v := ?_) (a' := ?_) (bm 14 4095) rfl rfl HT_ (by kernel_rfl) (fun _ _ _ h => h) (Or.inl ⟨by rfl, ?_⟩) ?_ ?_
          rotate_left
          ·intro w'
           go_simp
           with_reducible rfl
          rotate_left
          ·simp only [Act.put, pp_]
           rfl
          refine pi_ (i := 12) (N := some 13) (v := ?_) (a' := ?_) (bm 14 8191) rfl rfl HT_ (by kernel_rfl) (fun _ _ _ h => h) (Or.inl ⟨by rfl, ?_⟩) ?_ ?_
          rotate_left
          ·intro w'
           go_simp
           with_reducible rfl
          rotate_left
          ·simp only [Act.put, pp_]
           rfl
          refine pi_ (i := 13) (N := some 14) (v := ?_) (a' := ?_) (bm 14 16383) rfl rfl HT_ (by kernel_rfl) (fun _ _ _ h => h) (Or.inl ⟨by rfl, ?_⟩) ?_ ?_
          rotate_left
          ·intro w'
           go_simp
           with_reducible rfl
          rotate_left
          ·simp only [Act.put, pp_]
           rfl
          refine done_ (done_of HT_.out (by kernel_rfl)) ?_
          try go_wp2
          go_roundg k1
          case measure => have := HK1.out; omega
          case rel => exact ⟨(Go.bits .or .u32 x10_1 t538), (wrap64 (x24_1 + 1)), (by first | rfl | (simp; done) | (simp [*]; done)), (by first | rfl | (simp; done) | (simp [*]; done)), H', ⟨by have := HK1.out; omega⟩, ⟨pkC BK533⟩, ⟨pkB HB⟩⟩
         ·replace c17 := Bool.eq_false_iff.mpr c17
          subst c17
          rw [if_neg (show ¬ (false = true) by decide)] at H
          simp only [Option.some.injEq, Prod.mk.injEq] at H
          obtain ⟨rfl, rfl⟩ := H
          have p535 : 0 ≤ (x24_1 : Int) := of_decide_eq_true (by first | (with_reducible assumption) | assumption)
          have q535 : x24_1 < (l3.length : Int) := of_decide_eq_true (by first | (with_reducible assumption) | assumption)
          obtain ⟨ad535, e535, hx535_0⟩ := Kd.at_int HR3.out x24_1 p535 q535
          cases e535
          (try replace hx535_0 := (HB.out.cell (World.block_lt_of_cell? w _ hx535_0)).trans hx535_0)
          replace p535 := eq_true p535
          replace q535 := eq_true q535
          obtain ⟨hcz21_0, hcz21_1, hcz21_2⟩ := bc3 BK533.out
          obtain ⟨hfz21_0, hfz21_1, hfz21_2⟩ := bf3 BK533.out
          try go_wp2_with (first | ((with_reducible refine gate_callee (f := 41) rfl ?_); refine goesL_ (some 33) rfl rfl Tryd.func41 (by kernel_rfl) rfl #[.int .i64 (rd l3 x24_1), .int .i64 0, .int .i64 (wrap64 (a0_0 - 1))] rfl (by (try simp only [List.map_toArray, List.map_cons, List.map_nil]); first | done | rfl | (simp only [List.length_drop, List.length_take]; rfl)) ?_; (with_reducible refine (impl_within.calls (rd l3 x24_1) 0 (wrap64 (a0_0 - 1)) true _ A13.out).mono ?_); rintro e w' ⟨rfl, ⟨nd, rfl⟩⟩; refine ⟨_, rfl, ?_⟩))
          (try (rw [drewN_self wr]; generalize hq_ : World.drewN wr _ = wr; have n0_ : Aside0 (wr.heap[gb533]? = some (.cells #[.int .i64 a0_0, .bool a0_1, .slice A0_2 l0_2.length c0_2] 26 (0, 0))) := ⟨by rw [← hq_]; exact (pkC BK533)⟩; have n1_ : Aside0 (Below w.heap.size w wr) := ⟨by rw [← hq_]; exact (pkB HB)⟩; clear BK533 HB hq_; have BK533 := n0_; have HB := n1_; clear n0_ n1_))
          (try (have hcu533_0 : wr.cell? ⟨gb533, 0, none⟩ = some (.int .i64 a0_0) := (blk_cell BK533.out 0).trans rfl))
          (try (have hcu533_1 : wr.cell? ⟨gb533, 1, none⟩ = some (.bool a0_1) := (blk_cell BK533.out 1).trans rfl))
          (try (have hcu533_2 : wr.cell? ⟨gb533, 2, none⟩ = some (.slice A0_2 l0_2.length c0_2) := (blk_cell BK533.out 2).trans rfl))
          replace BK533 := am (blk_drew BK533.out)
          replace HB := am (below_drew1 HB.out)
          have p537 : 0 ≤ (x24_1 : Int) := of_decide_eq_true (by first | (with_reducible assumption) | assumption)
          have q537 : x24_1 < (l1.length : Int) := of_decide_eq_true (by first | (with_reducible assumption) | assumption)
          obtain ⟨ad537, e537, hx537_0⟩ := Kd.at_int HR1.out x24_1 p537 q537
          have hw537_0 := hx537_0
          cases e537
          (try replace hx537_0 := (HB.out.cell (World.block_lt_of_cell? w _ hx537_0)).trans hx537_0)
          replace p537 := eq_true p537
          replace q537 := eq_true q537
          refine start_ (n := 14) (S := fun w' => w'.cell? ⟨gb533, 0, none⟩ = some (.int .i64 a0_0) ∧ w'.cell? ⟨gb533, 1, none⟩ = some (.bool a0_1) ∧ w'.cell? ⟨gb533, 2, none⟩ = some (.slice A0_2 l0_2.length c0_2) ∧ w'.cell? (ad537.add (x24_1).toNat) = some (.int .i64 (rd l1 x24_1))) (ds := []) #[false, false, false, false, false, false, false, false, false, false, false, false, false, false] (by kernel_rfl) rfl rfl ⟨(blk_cell BK533.out 0).trans rfl, (blk_cell BK533.out 1).trans rfl, (blk_cell BK533.out 2).trans rfl, ((HB.out.cell (World.block_lt_of_cell? w _ hw537_0)).trans hw537_0)⟩ (fun hHeld => ?_); refine with_tabW impl_Row_placed.tab9 impl_Row_placed.bits9 (fun HT_ HW_ => ?_)
          generalize wr.drew = w22 at BK533 HB hx537_0 hHeld ⊢
          refine pi_ (i := 1) (N := some 37) (v := ?_) (a' := ?_) (bm 14 2) rfl rfl HT_ (by kernel_rfl) (fun _ _ _ h => h) (Or.inl ⟨by rfl, ?_⟩) ?_ ?_
          rotate_left
          ·intro w'
           go_simp
           with_reducible rfl
          rotate_left
          ·simp only [Act.put, pp_]
           rfl
          refine pi_ (i := 2) (N := some 38) (v := ?_) (a' := ?_) (bm 14 6) rfl rfl HT_ (by kernel_rfl) (fun _ _ _ h => h) (Or.inl ⟨by rfl, ?_⟩) ?_ ?_
          rotate_left
          ·intro w'
           go_simp
           with_reducible rfl
          rotate_left
          ·simp only [Act.put, pp_]
           rfl
          refine pi_ (i := 3) (N := some 39) (v := ?_) (a' := ?_) (bm 14 14) rfl rfl HT_ (by kernel_rfl) (fun _ _ _ h => h) (Or.inl ⟨by rfl, ?_⟩) ?_ ?_
          rotate_left
          ·intro w'
           go_simp
           with_reducible rfl
          rotate_left
          ·simp only [Act.put, pp_]
           rfl
          refine pi_ (i := 4) (N := some 40) (v := ?_) (a' := ?_) (bm 14 30) rfl rfl HT_ (by kernel_rfl) (fun _ _ _ h => h) (Or.inl ⟨by rfl, ?_⟩) ?_ ?_
          rotate_left
          ·intro w'
           go_simp
           with_reducible rfl
          rotate_left
          ·simp only [Act.put, pp_]
           rfl
          refine pi_ (i := 6) (N := some 42) (v := ?_) (a' := ?_) (bm 14 94) rfl rfl HT_ (by kernel_rfl) (fun _ _ _ h => h) (Or.inl ⟨by rfl, ?_⟩) ?_ ?_
          rotate_left
          ·intro w'
           go_simp
           with_reducible rfl
          rotate_left
          ·simp only [Act.put, pp_]
           rfl
          refine pi_ (i := 7) (N := some 43) (v := ?_) (a' := ?_) (bm 14 222) rfl rfl HT_ (by kernel_rfl) (fun _ _ _ h => h) (Or.inl ⟨by rfl, ?_⟩) ?_ ?_
          rotate_left
          ·intro w'
           go_simp
           with_reducible rfl
          rotate_left
          ·simp only [Act.put, pp_]
           rfl
          refine take_ (i := 0) (N := some 36) (v := ?_) (a' := ?_) (bm 14 223) rfl rfl (take_ofW HT_.out HW_.out (by kernel_rfl)) (fun _ _ _ h => h) (Or.inl ⟨by rfl, ?_⟩) hHeld ?_ ?_
          rotate_left
          ·rintro w' ⟨s0, s1, s2, s3⟩
           go_simp
           with_reducible rfl
          rotate_left
          ·simp only [Act.put, pp_]
           rfl
          refine take_ (i := 5) (N := some 41) (v := ?_) (a' := ?_) (bm 14 255) rfl rfl (take_ofW HT_.out HW_.out (by kernel_rfl)) (fun _ _ _ h => h) (Or.inl ⟨by rfl, ?_⟩) hHeld ?_ ?_
          rotate_left
          ·rintro w' ⟨s0, s1, s2, s3⟩
           go_simp
           with_reducible rfl
          rotate_left
          ·simp only [Act.put, pp_]
           rfl
          refine one_ (i := 8) (N := some 44) (bm 14 511) rfl rfl (one_of HT_.out (by kernel_rfl)) (by decide) (fun K hK => ?_)
          refine goes_ Tryd.func43 (by kernel_rfl) rfl #[.agg #[.int .i64 a0_0, .bool a0_1, .slice A0_2 l0_2.length c0_2], .int .u32 x10_1, .int .i64 (rd l1 x24_1), .int .i64 a2, .int .i64 (rd l3 x24_1)] (by rfl) rfl rfl (by (try simp only [List.map_toArray, List.map_cons, List.map_nil]); first | done | rfl | (simp only [List.length_drop, List.length_take]; rfl)) ?_
          with_reducible refine (impl_Row_group.calls k1 a0_0 a0_1 _ _ l0_2 x10_1 (rd l1 x24_1) a2 (rd l3 x24_1) t538 false _ ?side1 ?side2 A16.out).mono ?_
          (case side1 => repeat (first | exact (Kd.C_below HR0_2.out HB.out) | (with_reducible refine Kd.C_alloc ?_ _) | (with_reducible refine Kd.C_drewN ?_ _) | (with_reducible refine Kd.C_drew ?_)))
          (case side2 => exact HC0_2.out)
          rintro e w23 ⟨rfl, hb⟩
          refine ⟨_, rfl, ?_⟩
          replace BK533 := am (blk_below (pkC BK533) hb)
          replace HB := am (below_step (pkB HB) hb)
          (try clear hb)
          (try clear hb2)
          (try clear hk)
          (try clear hi)
          refine hK.out _ _ ⟨(blk_cell BK533.out 0).trans rfl, (blk_cell BK533.out 1).trans rfl, (blk_cell BK533.out 2).trans rfl, ((HB.out.cell (World.block_lt_of_cell? w _ hw537_0)).trans hw537_0)⟩ (fun hHeld => ?_)
          clear hK K
          refine norm_ (a' := ?_) ?_ ?_
          rotate_left
          ·show Act.put _ (some 44) _ = _
           simp only [Act.put, pp_]
           rfl
          refine pi_ (i := 9) (N := some 35) (v := ?_) (a' := ?_) (bm 14 1023) rfl rfl HT_ (by kernel_rfl) (fun _ _ _ h => h) (Or.inl ⟨by rfl, ?_⟩) ?_ ?_
          rotate_left
          ·intro w'
           go_simp
           with_reducible rfl
          rotate_left
          ·simp only [Act.put, pp_]
           rfl
          refine pi_ (i := 10) (N := some 45) (v := ?_) (a' := ?_) (bm 14 2047) rfl rfl HT_ (by kernel_rfl) (fun _ _ _ h => h) (Or.inl ⟨by rfl, ?_⟩) ?_ ?_
          rotate_left
          ·intro w'
           go_simp
           with_reducible rfl
          rotate_left
          ·simp only [Act.put, pp_]
           rfl
          refine pi_ (i := 11) (N := some 46) (v := ?_) (a' := ?_) (bm 14 4095) rfl rfl HT_ (by kernel_rfl) (fun _ _ _ h => h) (Or.inl ⟨by rfl, ?_⟩) ?_ ?_
          rotate_left
          ·intro w'
           go_simp
           with_reducible rfl
          rotate_left
          ·simp only [Act.put, pp_]
           rfl
          refine pi_ (i := 12) (N := some 13) (v := ?_) (a' := ?_) (bm 14 8191) rfl rfl HT_ (by kernel_rfl) (fun _ _ _ h => h) (Or.inl ⟨by rfl, ?_⟩) ?_ ?_
          rotate_left
          ·intro w'
           go_simp
           with_reducible rfl
          rotate_left
          ·simp only [Act.put, pp_]
           rfl
          refine pi_ (i := 13) (N := some 14) (v := ?_) (a' := ?_) (bm 14 16383) rfl rfl HT_ (by kernel_rfl) (fun _ _ _ h => h) (Or.inl ⟨by rfl, ?_⟩) ?_ ?_
          rotate_left
          ·intro w'
           go_simp
           with_reducible rfl
          rotate_left
          ·simp only [Act.put, pp_]
           rfl
          refine done_ (done_of HT_.out (by kernel_rfl)) ?_
          try go_wp2
          go_ret2
          exact ⟨by first | rfl | (simp [*]; done), pkB HB⟩
        ·rw [if_neg c15] at H
         exact absurd H (by simp)
       ·replace c14 := Bool.eq_false_iff.mpr c14
        subst c14
        rw [if_neg (show ¬ (false = true) by decide)] at H
        simp only [Option.some.injEq, Prod.mk.injEq] at H
        obtain ⟨rfl, rfl⟩ := H
        have p535 : 0 ≤ (x24_1 : Int) := of_decide_eq_true (by first | (with_reducible assumption) | assumption)
        have q535 : x24_1 < (l3.length : Int) := of_decide_eq_true (by first | (with_reducible assumption) | assumption)
        obtain ⟨ad535, e535, hx535_0⟩ := Kd.at_int HR3.out x24_1 p535 q535
        cases e535
        (try replace hx535_0 := (HB.out.cell (World.block_lt_of_cell? w _ hx535_0)).trans hx535_0)
        replace p535 := eq_true p535
        replace q535 := eq_true q535
        obtain ⟨hcz24_0, hcz24_1, hcz24_2⟩ := bc3 BK533.out
        obtain ⟨hfz24_0, hfz24_1, hfz24_2⟩ := bf3 BK533.out
        go_wp2_with (first | ((with_reducible refine gate_callee (f := 41) rfl ?_); refine goesL_ (some 33) rfl rfl Tryd.func41 (by kernel_rfl) rfl #[.int .i64 (rd l3 x24_1), .int .i64 0, .int .i64 (wrap64 (a0_0 - 1))] rfl (by (try simp only [List.map_toArray, List.map_cons, List.map_nil]); first | done | rfl | (simp only [List.length_drop, List.length_take]; rfl)) ?_; (with_reducible refine (impl_within.calls (rd l3 x24_1) 0 (wrap64 (a0_0 - 1)) false _ A13.out).mono ?_); rintro e w' ⟨rfl, ⟨nd, rfl⟩⟩; refine ⟨_, rfl, ?_⟩))
        go_ret2
        exact ⟨by first | rfl | (simp [*]; done), pkB HB⟩
      ·rw [if_neg c12] at H
       exact absurd H (by simp)
     ·rw [if_neg c11] at H
      exact absurd H (by simp)
    ·rw [if_neg c10] at H
     have c10b0 : decide (x24_1 < (l3.length : Int)) = false := decide_eq_false c10
     clear c10
     simp only [Option.some.injEq, Prod.mk.injEq] at H
     obtain ⟨rfl, rfl⟩ := H
     go_wp2
     go_ret2
     exact ⟨by first | rfl | (simp [*]; done), pkB HB⟩
 ·rw [if_neg c5] at H
  have c5b0 : ((l3.length : Int) == (l1.length : Int)) = false := beq_eq_false_iff_ne.mpr c5
  have c5b1 : ((l3.length : Int) != (l1.length : Int)) = true := bne_iff_ne.mpr c5
  have c5b2 : (l3.length == l1.length) = false := by first | simpa using c5 | (simp at c5 ⊢; omega)
  simp only [Option.some.injEq, Prod.mk.injEq] at H
  obtain ⟨rfl, rfl⟩ := H
  go_enter Tryd.func23, Tryd.ntmps23
  go_wp2_with (first | ((with_reducible refine gate_dst (N := 4) rfl ?_); refine box_event ?hg (N := 4) ?hd (cs := #[.int .i64 a0_0, .bool a0_1, .slice A0_2 l0_2.length c0_2]) (t := 26) ?hr ?_; (case hd => rfl); (case hg => rfl); (case hr => first | (go_simp; done) | (go_simp; rfl)); intro gb533 hg w25 hbox hb; have BK533 := am (hbox); have GW533 := am ((by rw [hg]; exact (below_size (pkB HB)) : w.heap.size ≤ gb533)); have GE533 := am ((by rw [hg]; exact (below_size (pkB HB)) : w.heap.size ≤ gb533)); replace HB := am (below_step (pkB HB) hb); clear hb hbox hg))
  go_ret2
  exact ⟨by first | rfl | (simp [*]; done), pkB HB⟩

/-! ### bits_TrailingZeros32: function 58 -/

end Go.Proofs.YtnoipklaebadeaaDoor.PFnPlacings
