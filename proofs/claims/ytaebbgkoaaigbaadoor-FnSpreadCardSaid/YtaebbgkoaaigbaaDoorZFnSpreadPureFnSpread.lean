/- Proved: the law FnSpread answers true for every code. -/
import Derived.Test.YtaebbgkoaaigbaaDoorZFnSpreadPFnSpreadx18
namespace Go.Proofs.YtaebbgkoaaigbaaDoor.Pure
open Go.RowKit Go.Proofs.YtaebbgkoaaigbaaDoor.PFnSpread Go.Proofs.YtaebbgkoaaigbaaDoorW.PrintWords Go.Proofs.YtaebbgkoaaigbaaDoorW.PrintLast Go.Proofs.YtaebbgkoaaigbaaDoorW.PrintMore
set_option linter.unusedVariables false

theorem Ev.pos {α : Type} {c : Prop} [Decidable c] {f g : Nat → Option α} {r : α} (h : c) (k : Ev f r) : Ev (fun m => if c then f m else g m) r :=
 Ev.congr (fun _ => if_pos h) k
theorem Ev.neg {α : Type} {c : Prop} [Decidable c] {f g : Nat → Option α} {r : α} (h : ¬ c) (k : Ev g r) : Ev (fun m => if c then f m else g m) r :=
 Ev.congr (fun _ => if_neg h) k
theorem Ev.bindc {α β : Type} {x : Option α} {f : Nat → α → Option β} {a : α} {r : β} (h : x = some a) (k : Ev (fun n => f n a) r) : Ev (fun n => x.bind (f n)) r := by
 subst h; exact k
theorem Ev.succ {α : Type} {g : Nat → Option α} {r : α} (k : Ev (fun n => g (n + 1)) r) : Ev g r := Ev.step (fun _ => rfl) k
theorem w64 {n : Int} (h0 : -9223372036854775808 ≤ n) (h1 : n < 9223372036854775808) : wrap64 n = n := by unfold wrap64; omega
theorem rd_nat (l : List Int) (i : Nat) (h : i < l.length) : rd l (i : Int) = l[i] := by
 unfold rd; rw [Int.toNat_natCast, List.getD_eq_getElem?_getD, List.getElem?_eq_getElem h]; rfl
/-- a loop that ends early, with one answer, where P fails -/
theorem ev_all {α : Type} (L : Nat → Nat → Option α) (n : Nat) (P : Nat → Prop) (rEnd : α)
  (hend : Ev (fun k => L k n) rEnd) (hgood : ∀ i, i < n → P i → ∀ r, Ev (fun k => L k (i + 1)) r → Ev (fun k => L k i) r)
  (i : Nat) (hi : i ≤ n) (h : ∀ j, i ≤ j → j < n → P j) : Ev (fun k => L k i) rEnd := by
 obtain ⟨d, hd⟩ : ∃ d, i + d = n := ⟨n - i, by omega⟩
 induction d generalizing i with
 | zero => rw [show i = n by omega]; exact hend
 | succ d ih => exact hgood i (by omega) (h i (by omega) (by omega)) _ (ih (i + 1) (by omega) (fun j h1 h2 => h j (by omega) h2) (by omega))
theorem ev_bad {α : Type} (L : Nat → Nat → Option α) (n : Nat) (P : Nat → Prop) (rBad : α)
  (hgood : ∀ i, i < n → P i → ∀ r, Ev (fun k => L k (i + 1)) r → Ev (fun k => L k i) r) (hbad : ∀ i, i < n → ¬ P i → Ev (fun k => L k i) rBad)
  (i : Nat) (h : ∃ j, i ≤ j ∧ j < n ∧ ¬ P j) : Ev (fun k => L k i) rBad := by
 obtain ⟨j, h1, h2, h3⟩ := h
 obtain ⟨d, hd⟩ : ∃ d, i + d = j := ⟨j - i, by omega⟩
 induction d generalizing i with
 | zero => rw [show i = j by omega]; exact hbad j h2 h3
 | succ d ih =>
  by_cases hp : P i
  ·exact hgood i (by omega) hp _ (ih (i + 1) (by omega) (by omega))
  ·exact hbad i (by omega) hp
theorem ev_dec {α : Type} (L : Nat → Nat → Option α) (n : Nat) (P : Nat → Prop) [DecidablePred P] (f : Bool → α)
  (hend : Ev (fun k => L k n) (f true)) (hgood : ∀ i, i < n → P i → ∀ r, Ev (fun k => L k (i + 1)) r → Ev (fun k => L k i) r)
  (hbad : ∀ i, i < n → ¬ P i → Ev (fun k => L k i) (f false)) (b : Bool) (hb : b = true ↔ ∀ j, j < n → P j) : Ev (fun k => L k 0) (f b) := by
 cases b with
 | true => exact ev_all L n P (f true) hend hgood 0 (by omega) (fun j _ h => hb.mp rfl j h)
 | false =>
  refine ev_bad L n P (f false) hgood hbad 0 ?_
  by_cases h : ∀ j, j < n → P j
  ·exact absurd (hb.mpr h) (by decide)
  ·have : ∃ j, ¬ (j < n → P j) := Classical.not_forall.mp h
   obtain ⟨j, hj⟩ := this
   exact ⟨j, by omega, Decidable.byContradiction (fun c => hj (fun h2 => absurd h2 c)), fun c => hj (fun _ => c)⟩
theorem within_eq (a b c : Int) : impl_within.f a b c = some (decide (b ≤ a ∧ a ≤ c)) := by
 unfold impl_within.f
 by_cases h : a ≥ b
 ·rw [if_pos h]; simp [show b ≤ a from h]
 ·rw [if_neg h]; simp [show ¬ b ≤ a from h]
theorem l1In_eq (a b c : Int) : spec_l1In.f a b c = some (decide (b ≤ a ∧ a ≤ c)) := by
 unfold spec_l1In.f
 by_cases h : a ≥ b
 ·rw [if_pos h]; simp [show b ≤ a from h]
 ·rw [if_neg h]; simp [show ¬ b ≤ a from h]
theorem has_loop (l : List Int) (x : Int) (hl : l.length ≤ 35184372088832) : ∀ (d i : Nat), i + d = l.length → Ev (fun k => spec_l1Has.l0 k l x (i : Int)) (decide (x ∈ l.drop i)) := by
 intro d
 induction d with
 | zero =>
  intro i hi
  refine Ev.succ ?_
  simp only [spec_l1Has.l0.eq_2]
  rw [List.drop_of_length_le (by omega)]
  exact Ev.neg (by omega) (Ev.now _)
 | succ d ih =>
  intro i hi
  refine Ev.succ ?_
  simp only [spec_l1Has.l0.eq_2]
  refine Ev.pos (by omega) (Ev.pos (by omega) ?_)
  have hd : l.drop i = l[i] :: l.drop (i + 1) := (List.drop_eq_getElem_cons (by omega))
  rw [rd_nat l i (by omega)]
  by_cases e : l[i] = x
  ·rw [show decide (x ∈ l.drop i) = true by rw [hd]; simp [e]]
   exact Ev.pos e (Ev.now _)
  ·refine Ev.neg e ?_
   rw [w64 (by omega) (by omega)]
   have := ih (i + 1) (by omega)
   rw [show decide (x ∈ l.drop i) = decide (x ∈ l.drop (i + 1)) by rw [hd]; simp only [List.mem_cons, Ne.symm e, false_or]]
   exact this
theorem has_ev (l : List Int) (x : Int) (hl : l.length ≤ 35184372088832) : Ev (fun k => spec_l1Has.f k l x) (decide (x ∈ l)) := has_loop l x hl l.length 0 (by omega)
theorem allWithin_loop (l : List Int) (lo hi : Int) (hl : l.length ≤ 35184372088832) : ∀ (d i : Nat), i + d = l.length → Ev (fun k => impl_allWithin.l0 k lo hi l (l.length : Int) (i : Int)) (decide (∀ x ∈ l.drop i, lo ≤ x ∧ x ≤ hi)) := by
 intro d
 induction d with
 | zero =>
  intro i hi
  refine Ev.succ ?_
  simp only [impl_allWithin.l0.eq_2]
  rw [List.drop_of_length_le (by omega)]
  exact Ev.neg (by omega) (by simp; exact Ev.now _)
 | succ d ih =>
  intro i hi'
  refine Ev.succ ?_
  simp only [impl_allWithin.l0.eq_2]
  refine Ev.pos (by omega) (Ev.pos (by omega) (Ev.pos (by omega) (Ev.bindc (within_eq _ _ _) ?_)))
  have hd : l.drop i = l[i] :: l.drop (i + 1) := (List.drop_eq_getElem_cons (by omega))
  rw [rd_nat l i (by omega)]
  by_cases e : lo ≤ l[i] ∧ l[i] ≤ hi
  ·refine Ev.pos (decide_eq_true e) ?_
   rw [w64 (by omega) (by omega)]
   have e1 : (∀ x ∈ l.drop i, lo ≤ x ∧ x ≤ hi) ↔ (∀ x ∈ l.drop (i + 1), lo ≤ x ∧ x ≤ hi) := by rw [hd]; simp only [List.mem_cons, forall_eq_or_imp, e, true_and]
   rw [decide_eq_decide.mpr e1]
   exact ih (i + 1) (by omega)
  ·rw [show decide (∀ x ∈ l.drop i, lo ≤ x ∧ x ≤ hi) = false by rw [hd]; simp only [List.mem_cons, forall_eq_or_imp, decide_eq_false_iff_not]; exact fun h => e h.1]
   exact Ev.neg (by simpa using e) (Ev.now _)
theorem allWithin_ev (l : List Int) (lo hi : Int) (hl : l.length ≤ 35184372088832) : Ev (fun k => impl_allWithin.f k l lo hi) (decide (∀ x ∈ l, lo ≤ x ∧ x ≤ hi)) := allWithin_loop l lo hi hl l.length 0 (by omega)
def pc : Nat → Nat → Nat
 | 0, _ => 0
 | k + 1, n => n % 2 + pc k (n / 2)
theorem pc_add (a b n : Nat) : pc (a + b) n = pc a n + pc b (n / 2 ^ a) := by
 induction a generalizing n with
 | zero => simp [pc]
 | succ a ih =>
  rw [show a + 1 + b = (a + b) + 1 by omega]
  simp only [pc]
  rw [ih, Nat.div_div_eq_div_mul, Nat.pow_succ, Nat.mul_comm 2 (2 ^ a)]
  omega
theorem pc_mod (k n : Nat) : pc k (n % 2 ^ k) = pc k n := by
 induction k generalizing n with
 | zero => rfl
 | succ k ih =>
  simp only [pc]
  rw [show n % 2 ^ (k + 1) % 2 = n % 2 by rw [Nat.pow_succ]; exact Nat.mod_mul_left_mod n (2 ^ k) 2]
  rw [show n % 2 ^ (k + 1) / 2 = (n / 2) % 2 ^ k by rw [Nat.pow_succ, Nat.mul_comm]; exact Nat.mod_mul_right_div_self n 2 (2 ^ k)]
  rw [ih]
theorem pc_le (k n : Nat) : pc k n ≤ k := by
 induction k generalizing n with
 | zero => exact Nat.le_refl _
 | succ k ih => have := ih (n / 2); simp only [pc]; omega
theorem u32_nat (a b : Nat) (ha : a < 4294967296) (hb : b < 4294967296) : Go.bits .and .u32 (a : Int) (b : Int) = ((a &&& b : Nat) : Int) ∧ Go.bits .or .u32 (a : Int) (b : Int) = ((a ||| b : Nat) : Int) :=
 bits_nat .u32 32 (by decide) (fun n h0 h1 => by rw [IntKind.wrap_u32]; omega) a b (by omega) (by omega)
theorem pc_count (k n : Nat) : pc k n = (List.range k).countP (fun i => n.testBit i) := by
 induction k generalizing n with
 | zero => rfl
 | succ k ih =>
  rw [List.range_succ_eq_map, List.countP_cons, List.countP_map]
  simp only [pc]
  rw [ih, Nat.add_comm]
  congr 1
  ·apply List.countP_congr
   intro i _
   simp [Nat.testBit_succ]
  ·rw [Nat.testBit_zero]
   by_cases h : n % 2 = 1
   ·simp [h]
   ·have : n % 2 = 0 := by omega
    simp [this]
def onesTab : ByteArray := ⟨#[0, 1, 1, 2, 1, 2, 2, 3, 1, 2, 2, 3, 2, 3, 3, 4, 1, 2, 2, 3, 2, 3, 3, 4, 2, 3, 3, 4, 3, 4, 4, 5, 1, 2, 2, 3, 2, 3, 3, 4, 2, 3, 3, 4, 3, 4, 4, 5, 2, 3, 3, 4, 3, 4, 4, 5, 3, 4, 4, 5, 4, 5, 5, 6, 1, 2, 2, 3, 2, 3, 3, 4, 2, 3, 3, 4, 3, 4, 4, 5, 2, 3, 3, 4, 3, 4, 4, 5, 3, 4, 4, 5, 4, 5, 5, 6, 2, 3, 3, 4, 3, 4, 4, 5, 3, 4, 4, 5, 4, 5, 5, 6, 3, 4, 4, 5, 4, 5, 5, 6, 4, 5, 5, 6, 5, 6, 6, 7, 1, 2, 2, 3, 2, 3, 3, 4, 2, 3, 3, 4, 3, 4, 4, 5, 2, 3, 3, 4, 3, 4, 4, 5, 3, 4, 4, 5, 4, 5, 5, 6, 2, 3, 3, 4, 3, 4, 4, 5, 3, 4, 4, 5, 4, 5, 5, 6, 3, 4, 4, 5, 4, 5, 5, 6, 4, 5, 5, 6, 5, 6, 6, 7, 2, 3, 3, 4, 3, 4, 4, 5, 3, 4, 4, 5, 4, 5, 5, 6, 3, 4, 4, 5, 4, 5, 5, 6, 4, 5, 5, 6, 5, 6, 6, 7, 3, 4, 4, 5, 4, 5, 5, 6, 4, 5, 5, 6, 5, 6, 6, 7, 4, 5, 5, 6, 5, 6, 6, 7, 5, 6, 6, 7, 6, 7, 7, 8]⟩
theorem onesTab_pc : ∀ i : Fin 256, bt onesTab ((i.val : Nat) : Int) = ((pc 8 i.val : Nat) : Int) := by decide +kernel
theorem onesTab_at (n : Nat) (h : n < 256) : bt onesTab (n : Int) = ((pc 8 n : Nat) : Int) := onesTab_pc ⟨n, h⟩
theorem u32_byte (n : Nat) (h : n < 4294967296) : Go.bits .and .u32 (n : Int) 255 = ((n % 256 : Nat) : Int) := by
 have := (u32_nat n 255 h (by omega)).1
 rw [show ((255 : Nat) : Int) = 255 from rfl] at this
 rw [this, show 255 = 2 ^ 8 - 1 from rfl, Nat.and_two_pow_sub_one_eq_mod]
theorem ones_tab (a0 : Int) : bits_OnesCount32.f a0 = if 0 ≤ (a0 / 16777216) then (if (a0 / 16777216) < 256 then (if 0 ≤ (Go.bits .and .u32 (a0 / 65536) 255) then (if (Go.bits .and .u32 (a0 / 65536) 255) < 256 then (if 0 ≤ (Go.bits .and .u32 (a0 / 256) 255) then (if (Go.bits .and .u32 (a0 / 256) 255) < 256 then (if 0 ≤ (Go.bits .and .u32 a0 255) then (if (Go.bits .and .u32 a0 255) < 256 then (some ((((((bt onesTab (a0 / 16777216)) + (bt onesTab (Go.bits .and .u32 (a0 / 65536) 255))) % 256) + (bt onesTab (Go.bits .and .u32 (a0 / 256) 255))) % 256 + (bt onesTab (Go.bits .and .u32 a0 255))) % 256)) else (none)) else (none)) else (none)) else (none)) else (none)) else (none)) else (none)) else (none) := rfl
theorem ones_eq (n : Nat) (h : n < 4294967296) : bits_OnesCount32.f (n : Int) = some ((pc 32 n : Nat) : Int) := by
 have e1 : (n : Int) / 16777216 = ((n / 16777216 : Nat) : Int) := by omega
 have e2 : (n : Int) / 65536 = ((n / 65536 : Nat) : Int) := by omega
 have e3 : (n : Int) / 256 = ((n / 256 : Nat) : Int) := by omega
 rw [ones_tab, e1, e2, e3, u32_byte _ (by omega), u32_byte _ (by omega), u32_byte _ (by omega)]
 rw [onesTab_at _ (by omega), onesTab_at _ (by omega), onesTab_at _ (by omega), onesTab_at _ (by omega)]
 rw [if_pos (Int.natCast_nonneg _), if_pos (by omega), if_pos (Int.natCast_nonneg _), if_pos (by omega), if_pos (Int.natCast_nonneg _), if_pos (by omega), if_pos (Int.natCast_nonneg _), if_pos (by omega)]
 have p4 : pc 32 n = pc 8 (n % 256) + pc 8 (n / 256 % 256) + pc 8 (n / 65536 % 256) + pc 8 (n / 16777216) := by
  have a0 : pc 32 n = pc 8 n + (pc 8 (n / 256) + (pc 8 (n / 256 / 256) + pc 8 (n / 256 / 256 / 256))) := by
   rw [show pc 32 n = pc (8 + (8 + (8 + 8))) n from rfl, pc_add, pc_add, pc_add]
  have a1 : pc 8 (n % 256) = pc 8 n := pc_mod 8 n
  have a2 : pc 8 (n / 256 % 256) = pc 8 (n / 256) := pc_mod 8 (n / 256)
  have a3 : pc 8 (n / 65536 % 256) = pc 8 (n / 65536) := pc_mod 8 (n / 65536)
  rw [show n / 256 / 256 / 256 = n / 16777216 by omega, show n / 256 / 256 = n / 65536 by omega] at a0
  rw [a0, a1, a2, a3]; omega
 rw [p4]
 have b1 := pc_le 8 (n % 256)
 have b2 := pc_le 8 (n / 256 % 256)
 have b3 := pc_le 8 (n / 65536 % 256)
 have b4 := pc_le 8 (n / 16777216)
 refine congrArg some ?_
 generalize pc 8 (n % 256) = c1 at *
 generalize pc 8 (n / 256 % 256) = c2 at *
 generalize pc 8 (n / 65536 % 256) = c3 at *
 generalize h4 : pc 8 (n / 16777216) = c4 at *
 have : n / 16777216 % 256 = n / 16777216 := by omega
 omega
/-- the set of some seats -/
def setN (l : List Int) : Nat := l.foldl (fun s p => s ||| 2 ^ p.toNat) 0
theorem foldl_or_bit (l : List Int) (s j : Nat) : (l.foldl (fun s p => s ||| 2 ^ p.toNat) s).testBit j = (s.testBit j || decide (∃ p ∈ l, p.toNat = j)) := by
 induction l generalizing s with
 | nil => simp
 | cons p l ih =>
  rw [List.foldl_cons, ih, Nat.testBit_or, Nat.testBit_two_pow]
  simp only [List.mem_cons, exists_eq_or_imp, Bool.decide_or, Bool.or_assoc]
theorem setN_bit (l : List Int) (j : Nat) : (setN l).testBit j = decide (∃ p ∈ l, p.toNat = j) := by
 unfold setN; rw [foldl_or_bit]; simp
theorem setN_lt (l : List Int) (h : ∀ x ∈ l, 0 ≤ x ∧ x < 32) : setN l < 4294967296 := by
 refine Nat.lt_pow_two_of_testBit (n := 32) _ (fun j hj => ?_)
 rw [setN_bit]
 simp only [decide_eq_false_iff_not, not_exists, not_and]
 intro x hx e
 have := h x hx
 omega
theorem setN_take (l : List Int) (i : Nat) (h : i < l.length) : setN (l.take (i + 1)) = setN (l.take i) ||| 2 ^ (l[i]).toNat := by
 unfold setN
 rw [List.take_succ_eq_append_getElem h, List.foldl_append]
 rfl
theorem two_pow_lt32 (p : Int) (h0 : 0 ≤ p) (h1 : p < 32) : 2 ^ p.toNat < 4294967296 := Nat.pow_lt_pow_right (m := p.toNat) (n := 32) (by decide) (by omega)
theorem shl_u32_one (p : Int) (h0 : 0 ≤ p) (h1 : p < 32) : shl .u32 1 p = ((2 ^ p.toNat : Nat) : Int) := by
 unfold shl
 rw [Nat.min_eq_left (by simp [IntKind.bits]; omega), IntKind.wrap_u32]
 have e : (1 * 2 ^ p.toNat : Int) = ((2 ^ p.toNat : Nat) : Int) := by rw [Int.one_mul]; push_cast; rfl
 rw [e]; exact Int.emod_eq_of_lt (Int.natCast_nonneg _) (Int.ofNat_lt.mpr (two_pow_lt32 p h0 h1))
theorem setOf_loop (l : List Int) (h : ∀ x ∈ l, 0 ≤ x ∧ x < 32) (hl : l.length ≤ 35184372088832) : ∀ (d i : Nat), i + d = l.length → Ev (fun k => impl_setOf.l0 k (setN (l.take i) : Int) l (l.length : Int) (i : Int)) (setN l : Int) := by
 intro d
 induction d with
 | zero =>
  intro i hi
  refine Ev.succ ?_
  simp only [impl_setOf.l0.eq_2]
  rw [List.take_of_length_le (by omega)]
  exact Ev.neg (by omega) (Ev.now _)
 | succ d ih =>
  intro i hi
  refine Ev.succ ?_
  simp only [impl_setOf.l0.eq_2]
  have hx := h (l[i]) (List.getElem_mem (by omega))
  rw [rd_nat l i (by omega)]
  refine Ev.pos (by omega) (Ev.pos (by omega) (Ev.pos (by omega) (Ev.pos hx.1 ?_)))
  rw [w64 (by omega) (by omega), shl_u32_one _ hx.1 hx.2]
  rw [(u32_nat _ _ (setN_lt _ (fun x hx => h x (List.mem_of_mem_take hx))) (two_pow_lt32 _ hx.1 hx.2)).2, ← setN_take l i (by omega)]
  exact ih (i + 1) (by omega)
theorem setOf_ev (l : List Int) (h : ∀ x ∈ l, 0 ≤ x ∧ x < 32) (hl : l.length ≤ 35184372088832) : Ev (fun k => impl_setOf.f k l) (setN l : Int) := setOf_loop l h hl l.length 0 (by omega)
theorem count_eq (n : Nat) (h : n < 4294967296) : impl_set_count.f (n : Int) = some ((pc 32 n : Nat) : Int) := by
 unfold impl_set_count.f; rw [ones_eq n h]; rfl
/-- a list that has each number less than n once -/
def IsOrd (l : List Int) (n : Int) : Prop := (l.length : Int) = n ∧ ∀ i : Nat, (i : Int) < n → (i : Int) ∈ l
theorem ph_len : ∀ (n : Nat) (l : List Int), (∀ i : Nat, i < n → (i : Int) ∈ l) → n ≤ l.length := by
 intro n
 induction n with
 | zero => intro l _; omega
 | succ n ih =>
  intro l h
  have hm := h n (by omega)
  have := ih (l.erase (n : Int)) (fun i hi => (List.mem_erase_of_ne (by omega)).mpr (h i (by omega)))
  rw [List.length_erase_of_mem hm] at this
  have : 0 < l.length := List.length_pos_of_mem hm
  omega
theorem ph_nodup_len : ∀ (m : Nat) (l : List Int), l.Nodup → (∀ x ∈ l, 0 ≤ x ∧ x < (m : Int)) → l.length ≤ m := by
 intro m
 induction m with
 | zero =>
  intro l _ h
  cases l with
  | nil => simp
  | cons x l => have := h x (by simp); omega
 | succ m ih =>
  intro l hn h
  by_cases hm : (m : Int) ∈ l
  ·have := ih (l.erase (m : Int)) (hn.erase _) (fun x hx => by
    have h1 := h x (List.mem_of_mem_erase hx)
    have h2 : x ≠ (m : Int) := fun e => by subst e; exact (List.Nodup.not_mem_erase hn) hx
    omega)
   rw [List.length_erase_of_mem hm] at this
   omega
  ·have := ih l hn (fun x hx => by
    have h1 := h x hx
    have h2 : x ≠ (m : Int) := fun e => by subst e; exact hm hx
    omega)
   omega
instance (l : List Int) (n : Int) : Decidable (IsOrd l n) := decidable_of_iff ((l.length : Int) = n ∧ ∀ i : Fin l.length, (i.val : Int) ∈ l) (by
 unfold IsOrd
 constructor
 ·rintro ⟨h1, h2⟩; exact ⟨h1, fun i hi => h2 ⟨i, by omega⟩⟩
 ·rintro ⟨h1, h2⟩; exact ⟨h1, fun i => h2 i.val (by have := i.isLt; omega)⟩)
theorem getD_lt (l : List Int) (i : Nat) (h : i < l.length) : l.getD i 0 = l[i] := by rw [List.getD_eq_getElem?_getD, List.getElem?_eq_getElem h]; rfl
theorem rd_getD (l : List Int) (i : Nat) : rd l (i : Int) = l.getD i 0 := by unfold rd; rw [Int.toNat_natCast]
theorem exists_bool (p : Prop) : ∃ b : Bool, b = true ↔ p := by
 by_cases h : p
 ·exact ⟨true, by simp [h]⟩
 ·exact ⟨false, by simp [h]⟩
/-- a valid row -/
def IsRw (s : Int) (r : Bool) (l : List Int) : Prop := (2 ≤ s ∧ s ≤ 24) ∧ (r = true → 3 ≤ s) ∧ (∀ x ∈ l, 0 ≤ x ∧ x < s) ∧ l.Pairwise (· < ·)
def rwP (l : List Int) (hi : Int) (i : Nat) : Prop := (0 ≤ l.getD i 0 ∧ l.getD i 0 ≤ hi) ∧ (0 < i → l.getD (i - 1) 0 < l.getD i 0)
instance (l : List Int) (hi : Int) (i : Nat) : Decidable (rwP l hi i) := by unfold rwP; infer_instance
theorem rwP_all (l : List Int) (hi : Int) : (∀ i, i < l.length → rwP l hi i) ↔ (∀ x ∈ l, 0 ≤ x ∧ x ≤ hi) ∧ l.Pairwise (· < ·) := by
 constructor
 ·intro h
  refine ⟨fun x hx => ?_, ?_⟩
  ·obtain ⟨i, hi', rfl⟩ := List.mem_iff_getElem.mp hx
   have := (h i hi').1
   rw [getD_lt l i hi'] at this
   exact this
  ·rw [List.pairwise_iff_getElem]
   intro i j hi' hj hij
   obtain ⟨d, hd⟩ : ∃ d, i + 1 + d = j := ⟨j - i - 1, by omega⟩
   induction d generalizing j with
   | zero =>
    have := (h j hj).2 (by omega)
    rw [getD_lt l j hj, show j - 1 = i by omega, getD_lt l i hi'] at this
    exact this
   | succ d ih =>
    have h1 := ih (j - 1) (by omega) (by omega) (by omega)
    have h2 := (h j hj).2 (by omega)
    rw [getD_lt l j hj, getD_lt l (j - 1) (by omega)] at h2
    omega
 ·rintro ⟨h1, h2⟩ i hi'
  refine ⟨?_, fun h0 => ?_⟩
  ·rw [getD_lt l i hi']; exact h1 _ (List.getElem_mem _)
  ·rw [getD_lt l i hi', getD_lt l (i - 1) (by omega)]
   exact (List.pairwise_iff_getElem.mp h2) (i - 1) i (by omega) hi' (by omega)
theorem rising_ev (l : List Int) (hi : Int) (hl : l.length ≤ 35184372088832) (b : Bool) (hb : b = true ↔ ∀ i, i < l.length → rwP l hi i) : Ev (fun k => spec_l1Rising.f k l 0 hi) b := by
 unfold spec_l1Rising.f
 refine ev_dec (fun k i => spec_l1Rising.l0 k l 0 hi (i : Int)) l.length (rwP l hi) id ?_ ?_ ?_ b hb
 ·refine Ev.succ ?_
  simp only [spec_l1Rising.l0.eq_2]
  exact Ev.neg (by omega) (Ev.now _)
 ·intro i hi' hp r h
  refine Ev.succ ?_
  simp only [spec_l1Rising.l0.eq_2]
  rw [rd_getD, w64 (n := (i : Int) + 1) (by omega) (by omega), w64 (n := (i : Int) - 1) (by omega) (by omega)]
  refine Ev.pos (by omega) (Ev.pos (by omega) (Ev.bindc (l1In_eq _ _ _) (Ev.pos (decide_eq_true hp.1) ?_)))
  by_cases h0 : (i : Int) > 0
  ·have := hp.2 (by omega)
   rw [show (i : Int) - 1 = ((i - 1 : Nat) : Int) by omega, rd_getD]
   exact Ev.pos h0 (Ev.pos (by omega) (Ev.pos (by omega) (Ev.neg (by omega) h)))
  ·exact Ev.neg h0 h
 ·intro i hi' hp
  refine Ev.succ ?_
  simp only [spec_l1Rising.l0.eq_2]
  rw [rd_getD, w64 (n := (i : Int) - 1) (by omega) (by omega)]
  refine Ev.pos (by omega) (Ev.pos (by omega) (Ev.bindc (l1In_eq _ _ _) ?_))
  by_cases h1 : 0 ≤ l.getD i 0 ∧ l.getD i 0 ≤ hi
  ·have h2 : ¬ (0 < i → l.getD (i - 1) 0 < l.getD i 0) := fun h => hp ⟨h1, h⟩
   have h0 : 0 < i := Decidable.byContradiction (fun c => h2 (fun h => absurd h c))
   have h3 : ¬ l.getD (i - 1) 0 < l.getD i 0 := fun h => h2 (fun _ => h)
   rw [show (i : Int) - 1 = ((i - 1 : Nat) : Int) by omega, rd_getD]
   exact Ev.pos (decide_eq_true h1) (Ev.pos (by omega) (Ev.pos (by omega) (Ev.pos (by omega) (Ev.pos (by omega) (Ev.now _)))))
  ·exact Ev.neg (by simpa using h1) (Ev.now _)
theorem l2Row_ev (s : Int) (r : Bool) (l : List Int) (hl : l.length ≤ 35184372088832) (b : Bool) (hb : b = true ↔ IsRw s r l) : Ev (fun k => spec_l2Row.f k s r l) b := by
 unfold spec_l2Row.f
 have hno : ¬ IsRw s r l → b = false := fun h => by
  cases b with
  | false => rfl
  | true => exact absurd (hb.mp rfl) h
 refine Ev.bindc (l1In_eq _ _ _) ?_
 by_cases hs : 2 ≤ s ∧ s ≤ 24
 ·refine Ev.pos (decide_eq_true hs) ?_
  rw [w64 (by omega) (by omega)]
  have main : (r = true → 3 ≤ s) → (b = true ↔ ∀ i, i < l.length → rwP l (s - 1) i) := by
   intro h3
   rw [hb, rwP_all]
   unfold IsRw
   constructor
   ·rintro ⟨_, _, h4, h5⟩; exact ⟨fun x hx => by have := h4 x hx; omega, h5⟩
   ·rintro ⟨h4, h5⟩; exact ⟨hs, h3, fun x hx => by have := h4 x hx; omega, h5⟩
  by_cases hr : r = true
  ·refine Ev.pos hr ?_
   by_cases h3 : s > 2
   ·exact Ev.pos h3 (Ev.bind (f := fun _ t => some t) (rising_ev l (s - 1) hl b (main (fun _ => by omega))) (Ev.now _))
   ·rw [hno (fun h => h3 (by have := h.2.1 hr; omega))]
    exact Ev.neg h3 (Ev.now _)
  ·exact Ev.neg hr (Ev.bind (f := fun _ t => some t) (rising_ev l (s - 1) hl b (main (fun h => absurd h hr))) (Ev.now _))
 ·rw [hno (fun h => hs h.1)]
  exact Ev.neg (by simpa using hs) (Ev.now _)
theorem bench_has1 (s : Int) (r : Bool) (x : Int) : Ev (fun k => impl_bench_has.f k s r [x]) (decide (0 ≤ x ∧ x ≤ wrap64 (s - 1))) := by
 unfold impl_bench_has.f
 refine Ev.bind (f := fun _ t => some t) (allWithin_ev [x] 0 _ (by simp)) ?_
 simp only [List.mem_singleton, forall_eq]
 exact Ev.now _
theorem bench_valid_eq (s : Int) (r : Bool) (b : Bool) (hb : b = true ↔ (2 ≤ s ∧ s ≤ 24) ∧ (r = true → 3 ≤ s)) : impl_bench_valid.f s r = some b := by
 unfold impl_bench_valid.f
 rw [within_eq, Option.bind_some]
 by_cases hs : 2 ≤ s ∧ s ≤ 24
 ·rw [if_pos (decide_eq_true hs)]
  cases r with
  | true => rw [if_pos rfl]; congr 1; rw [Bool.eq_iff_iff, hb]; simp only [decide_eq_true_eq]; exact ⟨fun h => ⟨hs, fun _ => h⟩, fun h => h.2 (by trivial)⟩
  | false => rw [if_neg (by decide)]; congr 1; rw [Bool.eq_iff_iff, hb]; simp [hs]
 ·rw [if_neg (by simpa using hs)]; congr 1; rw [Bool.eq_iff_iff, hb]; simp only [Bool.false_eq_true, false_iff]; exact fun h => hs h.1
theorem isRow_ev (s : Int) (r : Bool) (l : List Int) (hl : l.length ≤ 35184372088832) (b : Bool) (hb : b = true ↔ IsRw s r l) : Ev (fun k => impl_IsRow.f k s r l) b := by
 unfold impl_IsRow.f
 obtain ⟨v, hv⟩ := exists_bool ((2 ≤ s ∧ s ≤ 24) ∧ (r = true → 3 ≤ s))
 obtain ⟨c, hc⟩ := exists_bool (∀ i, i < l.length → rwP l (wrap64 (s - 1)) i)
 have hbc : b = (if c = true then v else false) := by
  rw [Bool.eq_iff_iff, hb]
  unfold IsRw
  constructor
  ·rintro ⟨h1, h2, h3, h4⟩
   have hcc : c = true := by
    rw [hc, rwP_all, w64 (by omega) (by omega)]
    exact ⟨fun x hx => by have := h3 x hx; omega, h4⟩
   rw [if_pos hcc, hv]; exact ⟨h1, h2⟩
  ·intro h
   by_cases hcc : c = true
   ·rw [if_pos hcc, hv] at h
    rw [hc, rwP_all, w64 (by omega) (by omega)] at hcc
    exact ⟨h.1, h.2, fun x hx => by have := hcc.1 x hx; omega, hcc.2⟩
   ·rw [if_neg hcc] at h; cases h
 rw [hbc]
 refine ev_dec (fun k i => impl_IsRow.l0 k l (l.length : Int) (i : Int) s r l) l.length (rwP l (wrap64 (s - 1))) (fun c => if c = true then v else false) ?_ ?_ ?_ c hc
 ·refine Ev.succ ?_
  simp only [impl_IsRow.l0.eq_2]
  exact Ev.neg (by omega) (Ev.bindc rfl (Ev.bindc (bench_valid_eq s r v hv) (Ev.now _)))
 ·intro i hi' hp q h
  refine Ev.succ ?_
  simp only [impl_IsRow.l0.eq_2]
  rw [rd_getD, w64 (n := (i : Int) + 1) (by omega) (by omega), w64 (n := (i : Int) - 1) (by omega) (by omega)]
  refine Ev.pos (by omega) (Ev.pos (by omega) (Ev.pos (by omega) (Ev.bindc rfl (Ev.bind (bench_has1 s r _) (Ev.pos (decide_eq_true hp.1) ?_)))))
  by_cases h0 : (i : Int) > 0
  ·have := hp.2 (by omega)
   rw [show (i : Int) - 1 = ((i - 1 : Nat) : Int) by omega, rd_getD]
   exact Ev.pos h0 (Ev.pos (by omega) (Ev.pos (by omega) (Ev.neg (by omega) h)))
  ·exact Ev.neg h0 h
 ·intro i hi' hp
  refine Ev.succ ?_
  simp only [impl_IsRow.l0.eq_2]
  rw [rd_getD, w64 (n := (i : Int) - 1) (by omega) (by omega)]
  refine Ev.pos (by omega) (Ev.pos (by omega) (Ev.pos (by omega) (Ev.bindc rfl (Ev.bind (bench_has1 s r _) ?_))))
  by_cases h1 : 0 ≤ l.getD i 0 ∧ l.getD i 0 ≤ wrap64 (s - 1)
  ·have h2 : ¬ (0 < i → l.getD (i - 1) 0 < l.getD i 0) := fun h => hp ⟨h1, h⟩
   have h0 : 0 < i := Decidable.byContradiction (fun c => h2 (fun h => absurd h c))
   have h3 : ¬ l.getD (i - 1) 0 < l.getD i 0 := fun h => h2 (fun _ => h)
   rw [show (i : Int) - 1 = ((i - 1 : Nat) : Int) by omega, rd_getD]
   exact Ev.pos (decide_eq_true h1) (Ev.pos (by omega) (Ev.pos (by omega) (Ev.pos (by omega) (Ev.pos (by omega) (Ev.now _)))))
  ·exact Ev.neg (by simpa using h1) (Ev.now _)
/-- the gap of two seats -/
def gp (s : Int) (r : Bool) (p q : Int) : Int := if r = true then mn (mx (p - q) (q - p)) (s - mx (p - q) (q - p)) else mx (p - q) (q - p)
theorem mx_le {a b c : Int} (h1 : a ≤ c) (h2 : b ≤ c) : mx a b ≤ c := by unfold mx; split <;> omega
theorem le_mx {a b : Int} : a ≤ mx a b ∧ b ≤ mx a b := by unfold mx; split <;> omega
theorem l2Gap_eq (s : Int) (r : Bool) (l : List Int) (p q : Int) (hs : 0 ≤ s ∧ s ≤ 100) (hp : 0 ≤ p ∧ p < 100) (hq : 0 ≤ q ∧ q < 100) : spec_l2Gap.f s r l p q = some (gp s r p q) := by
 unfold spec_l2Gap.f spec_l1Most.f gp
 have e : (if p - q > q - p then some (p - q) else some (q - p)) = some (mx (p - q) (q - p)) := by
  unfold mx; split <;> split <;> first | rfl | (congr 1; omega)
 have h1 : mx (p - q) (q - p) ≤ 100 := mx_le (by omega) (by omega)
 have h2 := @le_mx (p - q) (q - p)
 rw [w64 (n := p - q) (by omega) (by omega), w64 (n := q - p) (by omega) (by omega), e, Option.bind_some]
 cases r with
 | true =>
  rw [if_pos rfl, if_pos rfl]
  unfold spec_l1Least.f
  rw [w64 (by omega) (by omega)]
  unfold mn
  split <;> split <;> first | rfl | (simp only [Option.bind_some]; congr 1; omega)
 | false => rw [if_neg (by decide), if_neg (by decide)]
theorem bench_gap_eq (s : Int) (r : Bool) (p q : Int) (hs : 0 ≤ s ∧ s ≤ 100) (hp : 0 ≤ p ∧ p < 100) (hq : 0 ≤ q ∧ q < 100) : impl_bench_gap.f s r p q = some (gp s r p q) := by
 unfold impl_bench_gap.f gp
 have h1 : mx (p - q) (q - p) ≤ 100 := mx_le (by omega) (by omega)
 have h2 := @le_mx (p - q) (q - p)
 rw [w64 (n := p - q) (by omega) (by omega), w64 (n := q - p) (by omega) (by omega), w64 (n := s - mx (p - q) (q - p)) (by omega) (by omega)]
 cases r with
 | true => rw [if_pos rfl, if_pos rfl]
 | false => rw [if_neg (by decide), if_neg (by decide)]
theorem gp_comm (s : Int) (r : Bool) (p q : Int) : gp s r p q = gp s r q p := by
 unfold gp
 rw [show mx (p - q) (q - p) = mx (q - p) (p - q) by unfold mx; split <;> split <;> omega]
theorem gp_self (s : Int) (r : Bool) (p : Int) (hs : 0 ≤ s) : gp s r p p = 0 := by
 unfold gp mx mn; cases r <;> simp <;> omega
/-- the set of the numbers below n that meet R -/
def bld (R : Nat → Bool) : Nat → Nat
 | 0 => 0
 | n + 1 => if R n = true then bld R n ||| 2 ^ n else bld R n
theorem bld_bit (R : Nat → Bool) (n j : Nat) : (bld R n).testBit j = (decide (j < n) && R j) := by
 induction n with
 | zero => simp [bld]
 | succ n ih =>
  unfold bld
  by_cases h : R n = true
  ·rw [if_pos h, Nat.testBit_or, ih, Nat.testBit_two_pow]
   by_cases e : n = j
   ·subst e; simp [h]
   ·have : (j < n + 1) ↔ (j < n) := by omega
    simp [e, this]
  ·rw [if_neg h, ih]
   by_cases e : n = j
   ·subst e; simp [h]
   ·have : (j < n + 1) ↔ (j < n) := by omega
    simp [this]
theorem bld_lt (R : Nat → Bool) (n : Nat) (h : n ≤ 32) : bld R n < 4294967296 := by
 refine Nat.lt_pow_two_of_testBit (n := 32) _ (fun j hj => ?_)
 rw [bld_bit]
 simp; omega
theorem or_pow_u32 (a : Nat) (p : Nat) (ha : a < 4294967296) (hp : p < 32) : Go.bits .or .u32 (a : Int) (shl .u32 1 (p : Int)) = ((a ||| 2 ^ p : Nat) : Int) := by
 rw [shl_u32_one _ (by omega) (by omega), Int.toNat_natCast, (u32_nat _ _ ha (by have := two_pow_lt32 (p : Int) (by omega) (by omega); rwa [Int.toNat_natCast] at this)).2]
/-- the first seat of a list with the least gap, and this gap -/
def nstStep (s : Int) (r : Bool) (p : Int) (st : Int × Int) (q : Int) : Int × Int := if st.1 < 0 then (q, gp s r p q) else if gp s r p q < st.2 then (q, gp s r p q) else st
def nst (s : Int) (r : Bool) (p : Int) (l : List Int) : Int × Int := l.foldl (nstStep s r p) (-1, -1)
theorem l2Nearest_ev (s : Int) (r : Bool) (tk l : List Int) (p : Int) (hl : l.length ≤ 35184372088832) (hs : 0 ≤ s ∧ s ≤ 100) (hp : 0 ≤ p ∧ p < 100) (hr : ∀ x ∈ l, 0 ≤ x ∧ x < 100) : Ev (fun k => spec_l2Nearest.f k s r tk l p) (nst s r p l) := by
 unfold spec_l2Nearest.f
 have key : ∀ d i (st : Int × Int), i + d = l.length → Ev (fun k => spec_l2Nearest.l0 k l p st.1 st.2 (i : Int) s r tk) ((l.drop i).foldl (nstStep s r p) st) := by
  intro d
  induction d with
  | zero =>
   intro i st hi
   refine Ev.succ ?_
   simp only [spec_l2Nearest.l0.eq_2]
   rw [List.drop_of_length_le (by omega)]
   exact Ev.neg (by omega) (Ev.now _)
  | succ d ih =>
   intro i st hi
   refine Ev.succ ?_
   simp only [spec_l2Nearest.l0.eq_2]
   have hx := hr l[i] (List.getElem_mem (by omega))
   rw [rd_nat l i (by omega), w64 (n := (i : Int) + 1) (by omega) (by omega)]
   refine Ev.pos (by omega) (Ev.pos (by omega) (Ev.bindc (l2Gap_eq s r tk p l[i] hs hp (by omega)) ?_))
   rw [List.drop_eq_getElem_cons (by omega), List.foldl_cons]
   have := ih (i + 1) (nstStep s r p st l[i]) (by omega)
   unfold nstStep at this ⊢
   by_cases h1 : st.1 < 0
   ·rw [if_pos h1] at this ⊢; exact Ev.pos h1 this
   ·rw [if_neg h1] at this ⊢
    refine Ev.neg h1 ?_
    by_cases h2 : gp s r p l[i] < st.2
    ·rw [if_pos h2] at this ⊢; exact Ev.pos h2 this
    ·rw [if_neg h2] at this ⊢; exact Ev.neg h2 this
 exact key l.length 0 (-1, -1) (by omega)
theorem nst_go (s : Int) (r : Bool) (p : Int) : ∀ (l : List Int) (st : Int × Int), 0 ≤ st.1 → (∀ x ∈ l, 0 ≤ x) → let f := l.foldl (nstStep s r p) st
  0 ≤ f.1 ∧ f.2 ≤ st.2 ∧ (∀ q ∈ l, f.2 ≤ gp s r p q) ∧ (f = st ∨ (f.1 ∈ l ∧ f.2 = gp s r p f.1)) := by
 intro l
 induction l with
 | nil => intro st h _; exact ⟨h, Int.le_refl _, by simp, .inl rfl⟩
 | cons q l ih =>
  intro st h hl
  have hq := hl q (by simp)
  have hl' : ∀ x ∈ l, 0 ≤ x := fun x hx => hl x (List.mem_cons_of_mem _ hx)
  simp only [List.foldl_cons]
  by_cases h2 : gp s r p q < st.2
  ·have e : nstStep s r p st q = (q, gp s r p q) := by unfold nstStep; rw [if_neg (by omega), if_pos h2]
   rw [e]
   obtain ⟨a, b, c, d⟩ := ih (q, gp s r p q) hq hl'
   refine ⟨a, by simp only at b; omega, fun x hx => ?_, ?_⟩
   ·rcases List.mem_cons.mp hx with rfl | hx
    ·exact b
    ·exact c x hx
   ·rcases d with d | d
    ·exact .inr ⟨by rw [d]; simp, by rw [d]⟩
    ·exact .inr ⟨List.mem_cons_of_mem _ d.1, d.2⟩
  ·have e : nstStep s r p st q = st := by unfold nstStep; rw [if_neg (by omega), if_neg h2]
   rw [e]
   obtain ⟨a, b, c, d⟩ := ih st h hl'
   refine ⟨a, b, fun x hx => ?_, ?_⟩
   ·rcases List.mem_cons.mp hx with rfl | hx
    ·omega
    ·exact c x hx
   ·rcases d with d | d
    ·exact .inl d
    ·exact .inr ⟨List.mem_cons_of_mem _ d.1, d.2⟩
theorem nst_cons (s : Int) (r : Bool) (p x : Int) (l : List Int) (hr : ∀ y ∈ x :: l, 0 ≤ y) : (nst s r p (x :: l)).1 ∈ x :: l ∧ (nst s r p (x :: l)).2 = gp s r p (nst s r p (x :: l)).1 ∧ ∀ q ∈ x :: l, (nst s r p (x :: l)).2 ≤ gp s r p q := by
 have e : nst s r p (x :: l) = l.foldl (nstStep s r p) (x, gp s r p x) := by
  unfold nst; rw [List.foldl_cons]; congr 1
 rw [e]
 obtain ⟨a, b, c, d⟩ := nst_go s r p l (x, gp s r p x) (hr x (by simp)) (fun y hy => hr y (List.mem_cons_of_mem _ hy))
 refine ⟨?_, ?_, ?_⟩
 ·rcases d with d | d
  ·rw [d]; simp
  ·exact List.mem_cons_of_mem _ d.1
 ·rcases d with d | d
  ·rw [d]
  ·exact d.2
 ·intro q hq
  rcases List.mem_cons.mp hq with rfl | hq
  ·exact b
  ·exact c q hq
theorem gp_nonneg (s : Int) (r : Bool) (p q : Int) (hp : 0 ≤ p ∧ p ≤ s) (hq : 0 ≤ q ∧ q ≤ s) : 0 ≤ gp s r p q := by
 unfold gp mx mn; cases r <;> simp only [Bool.false_eq_true, if_false, if_true] <;> split <;> (try split) <;> omega
theorem nst_nil (s : Int) (r : Bool) (p : Int) : nst s r p [] = (-1, -1) := rfl
theorem land_rec (x y : Nat) : x &&& y = 2 * ((x / 2) &&& (y / 2)) + (x % 2) * (y % 2) := by
 have hd : (x % 2) * (y % 2) < 2 := by
  rcases Nat.mod_two_eq_zero_or_one x with h | h <;> rcases Nat.mod_two_eq_zero_or_one y with h2 | h2 <;> rw [h, h2] <;> decide
 refine Nat.eq_of_testBit_eq (fun j => ?_)
 cases j with
 | zero =>
  rw [Nat.testBit_and, Nat.testBit_zero, Nat.testBit_zero, Nat.testBit_zero]
  rcases Nat.mod_two_eq_zero_or_one x with h | h <;> rcases Nat.mod_two_eq_zero_or_one y with h2 | h2 <;> rw [h, h2] <;> simp <;> omega
 | succ j =>
  rw [Nat.testBit_and, Nat.testBit_succ, Nat.testBit_succ, Nat.testBit_succ]
  rw [show (2 * ((x / 2) &&& (y / 2)) + (x % 2) * (y % 2)) / 2 = (x / 2) &&& (y / 2) by omega, Nat.testBit_and]
/-- the place of the lowest bit -/
def low : Nat → Nat → Nat
 | 0, _ => 0
 | k + 1, n => if n % 2 = 1 then 0 else low k (n / 2) + 1
theorem neg_land (k : Nat) : ∀ n, 0 < n → n < 2 ^ k → (n &&& (2 ^ k - n)) = 2 ^ (low k n) ∧ low k n < k ∧ n.testBit (low k n) = true := by
 induction k with
 | zero => intro n h1 h2; simp at h2; omega
 | succ k ih =>
  intro n h1 h2
  have hp : 2 ^ (k + 1) = 2 * 2 ^ k := by rw [Nat.pow_succ]; omega
  rw [land_rec]
  unfold low
  by_cases ho : n % 2 = 1
  ·rw [if_pos ho]
   have e1 : (2 ^ (k + 1) - n) / 2 = 2 ^ k - (n / 2 + 1) := by omega
   have e2 : (2 ^ (k + 1) - n) % 2 = 1 := by omega
   have hz : (n / 2) &&& (2 ^ k - (n / 2 + 1)) = 0 := by
    refine Nat.eq_of_testBit_eq (fun j => ?_)
    rw [Nat.testBit_and, Nat.testBit_two_pow_sub_succ (by omega), Nat.zero_testBit]
    cases (n / 2).testBit j <;> simp
   rw [e1, e2, hz, ho]
   exact ⟨rfl, by omega, by rw [Nat.testBit_zero]; simpa using ho⟩
  ·rw [if_neg ho]
   have e0 : n % 2 = 0 := by omega
   have e1 : (2 ^ (k + 1) - n) / 2 = 2 ^ k - n / 2 := by omega
   obtain ⟨a, b, c⟩ := ih (n / 2) (by omega) (by omega)
   rw [e1, e0, a, Nat.zero_mul, Nat.add_zero]
   exact ⟨by rw [Nat.pow_succ]; omega, by omega, by rw [Nat.testBit_succ]; exact c⟩
/-- the places of all bits, in order -/
def lst : Nat → Nat → Nat → List Nat
 | 0, _, _ => []
 | k + 1, off, n => if n % 2 = 1 then off :: lst k (off + 1) (n / 2) else lst k (off + 1) (n / 2)
theorem lst_zero (k off : Nat) : lst k off 0 = [] := by
 induction k generalizing off with
 | zero => rfl
 | succ k ih => unfold lst; rw [if_neg (by decide)]; exact ih _
theorem lst_len (k off n : Nat) : (lst k off n).length ≤ k := by
 induction k generalizing off n with
 | zero => exact Nat.le_refl _
 | succ k ih =>
  have := ih (off + 1) (n / 2)
  unfold lst; split
  ·rw [List.length_cons]; omega
  ·omega
theorem lst_step (k : Nat) : ∀ n off, 0 < n → n < 2 ^ k → lst k off n = (off + low k n) :: lst k off (n &&& (n - 1)) ∧ n &&& (n - 1) < n := by
 induction k with
 | zero => intro n off h1 h2; simp at h2; omega
 | succ k ih =>
  intro n off h1 h2
  have hp : 2 ^ (k + 1) = 2 * 2 ^ k := by rw [Nat.pow_succ]; omega
  rw [land_rec n (n - 1)]
  by_cases ho : n % 2 = 1
  ·have e1 : (n - 1) / 2 = n / 2 := by omega
   have e2 : (n - 1) % 2 = 0 := by omega
   rw [e1, e2, Nat.and_self]
   simp only [Nat.mul_zero, Nat.add_zero]
   have l1 : lst (k + 1) off n = off :: lst k (off + 1) (n / 2) := if_pos ho
   have l2 : lst (k + 1) off (2 * (n / 2)) = lst k (off + 1) (n / 2) := by
    rw [show lst (k + 1) off (2 * (n / 2)) = lst k (off + 1) (2 * (n / 2) / 2) from if_neg (by omega), show 2 * (n / 2) / 2 = n / 2 by omega]
   have l3 : low (k + 1) n = 0 := if_pos ho
   rw [l1, l2, l3]
   exact ⟨rfl, by omega⟩
  ·have e0 : n % 2 = 0 := by omega
   have e1 : (n - 1) / 2 = n / 2 - 1 := by omega
   obtain ⟨a, b⟩ := ih (n / 2) (off + 1) (by omega) (by omega)
   rw [e1, e0]
   simp only [Nat.zero_mul, Nat.add_zero]
   have l1 : lst (k + 1) off n = lst k (off + 1) (n / 2) := if_neg ho
   have l2 : lst (k + 1) off (2 * (n / 2 &&& (n / 2 - 1))) = lst k (off + 1) (n / 2 &&& (n / 2 - 1)) := by
    rw [show lst (k + 1) off (2 * (n / 2 &&& (n / 2 - 1))) = lst k (off + 1) (2 * (n / 2 &&& (n / 2 - 1)) / 2) from if_neg (by omega), Nat.mul_div_cancel_left _ (by decide)]
   have l3 : low (k + 1) n = low k (n / 2) + 1 := if_neg ho
   rw [l1, l2, l3, a]
   exact ⟨by congr 1; omega, by omega⟩
theorem lst_mem (k : Nat) : ∀ n off x, x ∈ lst k off n ↔ off ≤ x ∧ x < off + k ∧ n.testBit (x - off) = true := by
 induction k with
 | zero => intro n off x; simp only [lst, List.not_mem_nil, false_iff]; omega
 | succ k ih =>
  intro n off x
  have hh : x ∈ lst (k + 1) off n ↔ (x = off ∧ n % 2 = 1) ∨ x ∈ lst k (off + 1) (n / 2) := by
   rw [show lst (k + 1) off n = if n % 2 = 1 then off :: lst k (off + 1) (n / 2) else lst k (off + 1) (n / 2) from rfl]
   split
   ·rename_i h; simp [h]
   ·rename_i h; simp [h]
  rw [hh, ih]
  constructor
  ·rintro (⟨rfl, h⟩ | ⟨h1, h2, h3⟩)
   ·exact ⟨Nat.le_refl _, by omega, by rw [Nat.sub_self, Nat.testBit_zero]; simpa using h⟩
   ·refine ⟨by omega, by omega, ?_⟩
    rw [show x - off = (x - (off + 1)) + 1 by omega, Nat.testBit_succ]; exact h3
  ·rintro ⟨h1, h2, h3⟩
   rcases Nat.eq_or_lt_of_le h1 with e | e
   ·subst e; rw [Nat.sub_self, Nat.testBit_zero] at h3; exact .inl ⟨rfl, by simpa using h3⟩
   ·refine .inr ⟨by omega, by omega, ?_⟩
    rw [show x - off = (x - (off + 1)) + 1 by omega, Nat.testBit_succ] at h3; exact h3
theorem lst_sorted (k : Nat) : ∀ n off, (lst k off n).Pairwise (· < ·) := by
 induction k with
 | zero => intro n off; exact List.Pairwise.nil
 | succ k ih =>
  intro n off
  unfold lst
  split
  ·refine List.pairwise_cons.mpr ⟨fun x hx => ?_, ih _ _⟩
   have := (lst_mem k _ _ x).mp hx; omega
  ·exact ih _ _
/-- the seats of a set -/
def listN (n : Nat) : List Int := (lst 32 0 n).map (fun x : Nat => (x : Int))
theorem listN_mem (n : Nat) (x : Int) : x ∈ listN n ↔ (0 ≤ x ∧ x < 32) ∧ n.testBit x.toNat = true := by
 unfold listN
 rw [List.mem_map]
 constructor
 ·rintro ⟨y, hy, rfl⟩
  have := (lst_mem 32 n 0 y).mp hy
  exact ⟨by omega, by rw [Int.toNat_natCast]; simpa using this.2.2⟩
 ·rintro ⟨h1, h2⟩
  exact ⟨x.toNat, (lst_mem 32 n 0 _).mpr ⟨by omega, by omega, by simpa using h2⟩, by omega⟩
theorem listN_sorted (n : Nat) : (listN n).Pairwise (· < ·) := by
 unfold listN
 rw [List.pairwise_map]
 exact (lst_sorted 32 n 0).imp (fun h => by omega)
theorem listN_len (n : Nat) : (listN n).length ≤ 32 := by unfold listN; rw [List.length_map]; exact lst_len _ _ _
theorem sorted_ext : ∀ (l m : List Int), l.Pairwise (· < ·) → m.Pairwise (· < ·) → (∀ x, x ∈ l ↔ x ∈ m) → l = m := by
 intro l
 induction l with
 | nil =>
  intro m _ _ h
  cases m with
  | nil => rfl
  | cons y m => exact absurd ((h y).mpr (by simp)) (by simp)
 | cons x l ih =>
  intro m hl hm h
  cases m with
  | nil => exact absurd ((h x).mp (by simp)) (by simp)
  | cons y m =>
   obtain ⟨h1, h2⟩ := List.pairwise_cons.mp hl
   obtain ⟨h3, h4⟩ := List.pairwise_cons.mp hm
   have e : x = y := by
    have ha := (h x).mp (by simp)
    have hb := (h y).mpr (by simp)
    rcases List.mem_cons.mp ha with e | ha
    ·exact e
    ·rcases List.mem_cons.mp hb with e | hb
     ·exact e.symm
     ·have := h1 y hb; have := h3 x ha; omega
   subst e
   refine congrArg (x :: ·) (ih m h2 h4 (fun z => ?_))
   constructor
   ·intro hz
    rcases List.mem_cons.mp ((h z).mp (List.mem_cons_of_mem _ hz)) with e | hz'
    ·have := h1 z hz; omega
    ·exact hz'
   ·intro hz
    rcases List.mem_cons.mp ((h z).mpr (List.mem_cons_of_mem _ hz)) with e | hz'
    ·have := h3 z hz; omega
    ·exact hz'
theorem listN_setN (l : List Int) (h : ∀ x ∈ l, 0 ≤ x ∧ x < 32) (hs : l.Pairwise (· < ·)) : listN (setN l) = l := by
 refine sorted_ext _ _ (listN_sorted _) hs (fun x => ?_)
 rw [listN_mem, setN_bit, decide_eq_true_eq]
 constructor
 ·rintro ⟨h1, p, hp, e⟩
  have := h p hp
  rw [show x = p by omega]; exact hp
 ·intro hx; exact ⟨h x hx, x, hx, rfl⟩
theorem listN_bld (R : Nat → Bool) (n : Nat) (hn : n ≤ 32) : listN (bld R n) = ((List.range n).filter R).map (fun x : Nat => (x : Int)) := by
 refine sorted_ext _ _ (listN_sorted _) ?_ (fun x => ?_)
 ·rw [List.pairwise_map]
  have h0 : (List.range n).Pairwise (· < ·) := List.pairwise_lt_range
  exact (h0.filter R).imp (fun h => by omega)
 ·rw [listN_mem, bld_bit, List.mem_map]
  simp only [Bool.and_eq_true, decide_eq_true_eq, List.mem_filter, List.mem_range]
  constructor
  ·rintro ⟨h1, h2, h3⟩; exact ⟨x.toNat, ⟨h2, h3⟩, by omega⟩
  ·rintro ⟨y, ⟨h1, h2⟩, rfl⟩; exact ⟨by omega, by rw [Int.toNat_natCast]; exact h1, by rw [Int.toNat_natCast]; exact h2⟩
theorem tz_tab : ∀ i : Fin 32, ((2 ^ i.val * 125613361 % 4294967296) / 134217728 < 32) ∧ TZ.getD ((2 ^ i.val * 125613361 % 4294967296) / 134217728) 0 = ((i.val : Nat) : Int) := by decide +kernel
theorem neg_u32 (n : Nat) (h0 : 0 < n) (h : n < 4294967296) : Go.bits .and .u32 (n : Int) ((-(n : Int)) % 4294967296) = ((2 ^ (low 32 n) : Nat) : Int) := by
 have e : (-(n : Int)) % 4294967296 = ((4294967296 - n : Nat) : Int) := by omega
 rw [e, (u32_nat n (4294967296 - n) h (by omega)).1]
 have := (neg_land 32 n h0 h).1
 rw [show (2 : Nat) ^ 32 = 4294967296 from rfl] at this
 rw [this]
theorem tz_eq (n : Nat) (h0 : 0 < n) (h : n < 4294967296) : bits_TrailingZeros32.f (n : Int) = some ((low 32 n : Nat) : Int) := by
 unfold bits_TrailingZeros32.f
 have hl := (neg_land 32 n h0 h).2.1
 obtain ⟨t1, t2⟩ := tz_tab ⟨low 32 n, hl⟩
 simp only at t1 t2
 have e : tzi (n : Int) = (((2 ^ (low 32 n) * 125613361 % 4294967296) / 134217728 : Nat) : Int) := by
  unfold tzi
  rw [neg_u32 n h0 h]
  generalize 2 ^ (low 32 n) = t
  omega
 rw [if_neg (by omega), e, if_pos (by omega), if_pos (by omega)]
 unfold rd
 rw [Int.toNat_natCast, t2]
theorem list_ev (n : Nat) (h : n < 4294967296) : Ev (fun k => impl_set_list.f k (n : Int)) (listN n) := by
 unfold impl_set_list.f
 have key : ∀ m (n : Nat) (acc : List Int), n ≤ m → n < 4294967296 → acc.length + (lst 32 0 n).length ≤ 64 → Ev (fun k => impl_set_list.l0 k (n : Int) acc) (acc ++ (lst 32 0 n).map (fun x : Nat => (x : Int))) := by
  intro m
  induction m with
  | zero =>
   intro n acc hm _ _
   refine Ev.succ ?_
   simp only [impl_set_list.l0.eq_2]
   rw [show n = 0 by omega, lst_zero, List.map_nil, List.append_nil]
   exact Ev.pos rfl (Ev.now _)
  | succ m ih =>
   intro n acc hm hn hl
   refine Ev.succ ?_
   simp only [impl_set_list.l0.eq_2]
   by_cases h0 : n = 0
   ·subst h0
    rw [lst_zero, List.map_nil, List.append_nil]
    exact Ev.pos rfl (Ev.now _)
   ·obtain ⟨s1, s2⟩ := lst_step 32 n 0 (by omega) hn
    rw [Nat.zero_add] at s1
    refine Ev.neg (by omega) (Ev.bindc (tz_eq n (by omega) hn) (Ev.pos (by omega) ?_))
    rw [show ((n : Int) - 1) % 4294967296 = ((n - 1 : Nat) : Int) by omega, (u32_nat n (n - 1) hn (by omega)).1]
    rw [s1, List.length_cons] at hl
    have := ih (n &&& (n - 1)) (acc ++ [((low 32 n : Nat) : Int)]) (by omega) (by omega) (by rw [List.length_append, List.length_singleton]; omega)
    rw [s1, List.map_cons]
    rw [List.append_assoc, List.singleton_append] at this
    exact this
 have := key n n [] (Nat.le_refl _) h (by have := lst_len 32 0 n; simp; omega)
 simpa [listN] using this
/-- how far a seat is from all taken ones -/
def farN (s : Int) (r : Bool) (l : List Int) (q : Nat) : Int := if l = [] then s else (nst s r (q : Int) l).2
theorem gp_le (s : Int) (r : Bool) (p q : Int) (hp : 0 ≤ p ∧ p < s) (hq : 0 ≤ q ∧ q < s) : gp s r p q ≤ s := by
 unfold gp mx mn; cases r <;> simp only [Bool.false_eq_true, if_false, if_true] <;> split <;> (try split) <;> omega
theorem gp_pos (s : Int) (r : Bool) (p q : Int) (hp : 0 ≤ p ∧ p < s) (hq : 0 ≤ q ∧ q < s) (hne : p ≠ q) : 1 ≤ gp s r p q := by
 unfold gp mx mn; cases r <;> simp only [Bool.false_eq_true, if_false, if_true] <;> split <;> (try split) <;> omega
theorem farN_at (s : Int) (r : Bool) (l : List Int) (q : Nat) (hl : ∀ x ∈ l, 0 ≤ x ∧ x < s) (h : l ≠ []) : ∃ x ∈ l, farN s r l q = gp s r (q : Int) x ∧ ∀ y ∈ l, farN s r l q ≤ gp s r (q : Int) y := by
 cases l with
 | nil => exact absurd rfl h
 | cons x l =>
  obtain ⟨a, b, c⟩ := nst_cons s r (q : Int) x l (fun y hy => (hl y hy).1)
  have e : farN s r (x :: l) q = (nst s r (q : Int) (x :: l)).2 := if_neg (by simp)
  rw [e]
  exact ⟨_, a, b, c⟩
theorem farN_range (s : Int) (r : Bool) (l : List Int) (q : Nat) (hs : 0 ≤ s) (hl : ∀ x ∈ l, 0 ≤ x ∧ x < s) (hq : (q : Int) < s) : 0 ≤ farN s r l q ∧ farN s r l q ≤ s := by
 by_cases h : l = []
 ·rw [show farN s r l q = s from if_pos h]; omega
 ·obtain ⟨x, hx, e, _⟩ := farN_at s r l q hl h
  have := hl x hx
  rw [e]
  exact ⟨gp_nonneg s r _ _ (by omega) (by omega), gp_le s r _ _ (by omega) this⟩
theorem farN_free (s : Int) (r : Bool) (l : List Int) (q : Nat) (hs : 1 ≤ s) (hl : ∀ x ∈ l, 0 ≤ x ∧ x < s) (hq : (q : Int) < s) (hn : ¬ (q : Int) ∈ l) : 1 ≤ farN s r l q := by
 by_cases h : l = []
 ·rw [show farN s r l q = s from if_pos h]; omega
 ·obtain ⟨x, hx, e, _⟩ := farN_at s r l q hl h
  have := hl x hx
  rw [e]
  exact gp_pos s r _ _ (by omega) this (fun c => hn (by rw [c]; exact hx))
theorem farN_taken (s : Int) (r : Bool) (l : List Int) (q : Nat) (hs : 0 ≤ s) (hl : ∀ x ∈ l, 0 ≤ x ∧ x < s) (hn : (q : Int) ∈ l) : farN s r l q ≤ 0 := by
 obtain ⟨x, hx, e, c⟩ := farN_at s r l q hl (by intro h; rw [h] at hn; simp at hn)
 have := c _ hn
 rw [gp_self s r _ hs] at this
 exact this
theorem l3Far_ev (s : Int) (r : Bool) (l : List Int) (q : Nat) (hlen : l.length ≤ 35184372088832) (hs : 0 ≤ s ∧ s ≤ 100) (hl : ∀ x ∈ l, 0 ≤ x ∧ x < s) (hq : (q : Int) < s) : Ev (fun k => spec_l3Far.f k s r l (q : Int)) (farN s r l q) := by
 unfold spec_l3Far.f
 by_cases h : l = []
 ·rw [show farN s r l q = s from if_pos h, h]
  exact Ev.pos rfl (Ev.now _)
 ·rw [show farN s r l q = (nst s r (q : Int) l).2 from if_neg h]
  refine Ev.neg (fun c => h (List.length_eq_zero_iff.mp (by omega))) ?_
  refine Ev.bind (a := (nst s r (q : Int) l).2) ?_ (Ev.now _)
  unfold spec_l2Farthest.f
  exact Ev.bind (f := fun _ t => some t.2) (l2Nearest_ev s r l l (q : Int) hlen hs (by omega) (fun x hx => by have := hl x hx; omega)) (Ev.now _)
/-- the nearest taken seat, as the library tells it -/
def nearOf (s : Int) (r : Bool) (l : List Int) (p : Int) : Int × Int × Bool := if l = [] then (0, 0, false) else ((nst s r p l).1, (nst s r p l).2, true)
theorem nearL_ev (s : Int) (r : Bool) (l : List Int) (p : Int) (hlen : l.length ≤ 35184372088832) (hs : 0 ≤ s ∧ s ≤ 100) (hp : 0 ≤ p ∧ p < s) (hl : ∀ x ∈ l, 0 ≤ x ∧ x < s) : Ev (fun k => impl_bench_nearest.l0 k p 0 (-1) l (l.length : Int) 0 s r) (nearOf s r l p) := by
 have key : ∀ d i (st : Int × Int), i + d = l.length → 0 ≤ st.1 → 0 ≤ st.2 → Ev (fun k => impl_bench_nearest.l0 k p st.1 st.2 l (l.length : Int) (i : Int) s r) (((l.drop i).foldl (nstStep s r p) st).1, ((l.drop i).foldl (nstStep s r p) st).2, true) := by
  intro d
  induction d with
  | zero =>
   intro i st hi h1 h2
   refine Ev.succ ?_
   simp only [impl_bench_nearest.l0.eq_2]
   rw [List.drop_of_length_le (by omega)]
   refine Ev.neg (by omega) ?_
   rw [show mx 0 st.2 = st.2 by unfold mx; split <;> omega, show decide (st.2 ≥ 0) = true by simpa using h2]
   exact Ev.now _
  | succ d ih =>
   intro i st hi h1 h2
   refine Ev.succ ?_
   simp only [impl_bench_nearest.l0.eq_2]
   have hx := hl l[i] (List.getElem_mem (by omega))
   rw [rd_nat l i (by omega), w64 (n := (i : Int) + 1) (by omega) (by omega)]
   refine Ev.pos (by omega) (Ev.pos (by omega) (Ev.pos (by omega) (Ev.bindc (bench_gap_eq s r p l[i] hs (by omega) (by omega)) ?_)))
   rw [List.drop_eq_getElem_cons (by omega), List.foldl_cons]
   refine Ev.neg (by omega) ?_
   have hg := gp_nonneg s r p l[i] (by omega) (by omega)
   have := ih (i + 1) (nstStep s r p st l[i]) (by omega)
   unfold nstStep at this ⊢
   rw [if_neg (by omega)] at this ⊢
   by_cases h3 : gp s r p l[i] < st.2
   ·rw [if_pos h3] at this ⊢; exact Ev.pos h3 (this (by simp only; omega) (by simp only; omega))
   ·rw [if_neg h3] at this ⊢; exact Ev.neg h3 (this h1 h2)
 unfold nearOf
 cases l with
 | nil =>
  refine Ev.succ ?_
  simp only [impl_bench_nearest.l0.eq_2]
  exact Ev.neg (by decide) (Ev.now _)
 | cons x l =>
  rw [if_neg (by simp)]
  refine Ev.succ ?_
  simp only [impl_bench_nearest.l0.eq_2]
  have hx := hl x (by simp)
  have hg := gp_nonneg s r p x (by omega) (by omega)
  refine Ev.pos (by rw [List.length_cons]; omega) (Ev.pos (by omega) (Ev.pos (by rw [List.length_cons]; omega) (Ev.bindc (bench_gap_eq s r p x hs (by omega) (by omega)) (Ev.pos (by decide) ?_))))
  have e : nst s r p (x :: l) = l.foldl (nstStep s r p) (x, gp s r p x) := by
   unfold nst; rw [List.foldl_cons]; congr 1
  rw [e]
  have := key l.length 1 (x, gp s r p x) (by simp; omega) (by simp only; omega) (by simpa using hg)
  rw [show (x :: l).drop 1 = l from rfl] at this
  rw [show rd (x :: l) 0 = x from rfl, show wrap64 (0 + 1) = ((1 : Nat) : Int) from w64 (n := 1) (by decide) (by decide)]
  exact this
theorem nearest_ev (s : Int) (r : Bool) (T : Nat) (p : Int) (hT : T < 4294967296) (hs : 0 ≤ s ∧ s ≤ 100) (hp : 0 ≤ p ∧ p < s) (hl : ∀ x ∈ listN T, 0 ≤ x ∧ x < s) : Ev (fun k => impl_bench_nearest.f k s r p (T : Int)) (nearOf s r (listN T) p) := by
 unfold impl_bench_nearest.f
 have := listN_len T
 exact Ev.bind (list_ev T hT) (nearL_ev s r _ p (by omega) hs hp hl)
theorem farness_ev (s : Nat) (r : Bool) (T : Nat) (hT : T < 4294967296) (hs : s ≤ 24) (hl : ∀ x ∈ listN T, 0 ≤ x ∧ x < (s : Int)) : Ev (fun k => impl_bench_farness.f k (s : Int) r (T : Int)) ((List.range s).map (farN (s : Int) r (listN T))) := by
 unfold impl_bench_farness.f
 have key : ∀ d i, i + d = s → Ev (fun k => impl_bench_farness.l0 k (T : Int) ((List.range i).map (farN (s : Int) r (listN T))) (s : Int) (i : Int) (s : Int) r) ((List.range s).map (farN (s : Int) r (listN T))) := by
  intro d
  induction d with
  | zero =>
   intro i hi
   refine Ev.succ ?_
   simp only [impl_bench_farness.l0.eq_2]
   rw [show i = s by omega]
   exact Ev.neg (by omega) (Ev.now _)
  | succ d ih =>
   intro i hi
   refine Ev.succ ?_
   simp only [impl_bench_farness.l0.eq_2]
   refine Ev.pos (by omega) (Ev.bind (nearest_ev (s : Int) r T (i : Int) hT (by omega) (by omega) hl) ?_)
   rw [w64 (n := (i : Int) + 1) (by omega) (by omega)]
   have h := ih (i + 1) (by omega)
   rw [List.range_succ, List.map_append, List.map_singleton] at h
   by_cases e : listN T = []
   ·have e1 : nearOf (s : Int) r (listN T) (i : Int) = (0, 0, false) := if_pos e
    have e2 : farN (s : Int) r (listN T) i = (s : Int) := if_pos e
    rw [e1]
    rw [e2] at h
    exact Ev.neg (by simp) (Ev.pos (by rw [List.length_map, List.length_range]; omega) h)
   ·have e1 : nearOf (s : Int) r (listN T) (i : Int) = ((nst (s : Int) r (i : Int) (listN T)).1, (nst (s : Int) r (i : Int) (listN T)).2, true) := if_neg e
    have e2 : farN (s : Int) r (listN T) i = (nst (s : Int) r (i : Int) (listN T)).2 := if_neg e
    rw [e1]
    rw [e2] at h
    exact Ev.pos rfl (Ev.pos (by rw [List.length_map, List.length_range]; omega) h)
 exact key s 0 (by omega)
theorem l3All_ev (s : Nat) (r : Bool) (l : List Int) (hlen : l.length ≤ 35184372088832) (hs : s ≤ 24) (hl : ∀ x ∈ l, 0 ≤ x ∧ x < (s : Int)) : Ev (fun k => spec_l3All.f k (s : Int) r l) ((List.range s).map (farN (s : Int) r l)) := by
 unfold spec_l3All.f
 have key : ∀ d i, i + d = s → Ev (fun k => spec_l3All.l0 k ((List.range i).map (farN (s : Int) r l)) (i : Int) (s : Int) r l) ((List.range s).map (farN (s : Int) r l)) := by
  intro d
  induction d with
  | zero =>
   intro i hi
   refine Ev.succ ?_
   simp only [spec_l3All.l0.eq_2]
   rw [show i = s by omega]
   exact Ev.neg (by omega) (Ev.now _)
  | succ d ih =>
   intro i hi
   refine Ev.succ ?_
   simp only [spec_l3All.l0.eq_2]
   refine Ev.pos (by omega) (Ev.bind (l3Far_ev (s : Int) r l i hlen (by omega) hl (by omega)) ?_)
   rw [w64 (n := (i : Int) + 1) (by omega) (by omega)]
   have h := ih (i + 1) (by omega)
   rw [List.range_succ, List.map_append, List.map_singleton] at h
   exact Ev.pos (by rw [List.length_map, List.length_range]; omega) h
 exact key s 0 (by omega)
/-- the greatest of the first i numbers -/
def mxL (f : Nat → Int) : Nat → Int
 | 0 => 0
 | i + 1 => if mxL f i > f i then mxL f i else f i
theorem mxL_nonneg (f : Nat → Int) (i : Nat) : (∀ j, j < i → 0 ≤ f j) → 0 ≤ mxL f i := by
 induction i with
 | zero => intro _; exact Int.le_refl _
 | succ i ih =>
  intro h
  have := ih (fun j hj => h j (by omega)); have := h i (by omega)
  unfold mxL; split <;> omega
theorem mxL_ge (f : Nat → Int) (i : Nat) : ∀ j, j < i → f j ≤ mxL f i := by
 induction i with
 | zero => intro j hj; omega
 | succ i ih =>
  intro j hj
  unfold mxL
  by_cases e : j = i
  ·subst e; split <;> omega
  ·have := ih j (by omega); split <;> omega
theorem mxL_at (f : Nat → Int) (i : Nat) : 0 < mxL f i → ∃ j, j < i ∧ f j = mxL f i := by
 induction i with
 | zero => intro h; exact absurd h (by simp [mxL])
 | succ i ih =>
  intro h
  unfold mxL at h ⊢
  by_cases c : mxL f i > f i
  ·rw [if_pos c] at h ⊢
   obtain ⟨j, hj, e⟩ := ih h
   exact ⟨j, by omega, e⟩
  ·rw [if_neg c]; exact ⟨i, by omega, rfl⟩
def best (f : Nat → Int) (m : Int) (q : Nat) : Bool := decide (f q = m) && decide (0 < m)
/-- the seats that are farthest -/
def poL (f : Nat → Int) (n : Nat) : List Int := ((List.range n).filter (best f (mxL f n))).map (fun x : Nat => (x : Int))
theorem getD_mapR (f : Nat → Int) (s i : Nat) (h : i < s) : rd ((List.range s).map f) (i : Int) = f i := by
 rw [rd_nat _ i (by rw [List.length_map, List.length_range]; exact h), List.getElem_map, List.getElem_range]
theorem l3Polite_ev (s : Nat) (r : Bool) (l : List Int) (hlen : l.length ≤ 35184372088832) (hs : s ≤ 24) (hl : ∀ x ∈ l, 0 ≤ x ∧ x < (s : Int)) : Ev (fun k => spec_l3Polite.f k (s : Int) r l) (poL (farN (s : Int) r l) s) := by
 unfold spec_l3Polite.f
 refine Ev.bind (l3All_ev s r l hlen hs hl) ?_
 generalize hf : farN (s : Int) r l = f
 have hlm : ((List.range s).map f).length = s := by rw [List.length_map, List.length_range]
 have k1 : ∀ d i, i + d = s → Ev (fun k => spec_l3Polite.l1 k (((List.range i).filter (best f (mxL f s))).map (fun x : Nat => (x : Int))) ((List.range s).map f) (mxL f s) (i : Int) (s : Int) r l) (poL f s) := by
  intro d
  induction d with
  | zero =>
   intro i hi
   refine Ev.succ ?_
   simp only [spec_l3Polite.l1.eq_2]
   refine Ev.neg (by omega) (Ev.succ ?_)
   simp only [spec_l3Polite.j2.eq_2]
   rw [show i = s by omega]
   exact Ev.neg (by simp) (Ev.now _)
  | succ d ih =>
   intro i hi
   refine Ev.succ ?_
   simp only [spec_l3Polite.l1.eq_2]
   refine Ev.pos (by omega) (Ev.succ ?_)
   simp only [spec_l3Polite.j2.eq_2]
   have hlen2 : ∀ i, (((List.range i).filter (best f (mxL f s))).map (fun x : Nat => (x : Int))).length ≤ i := fun i => by
    rw [List.length_map]
    exact Nat.le_trans (List.length_filter_le _ _) (by rw [List.length_range]; exact Nat.le_refl _)
   by_cases hm : mxL f s > 0
   ·rw [show decide (mxL f s > 0) = true by simpa using hm, getD_mapR f s i (by omega), w64 (n := (i : Int) + 1) (by omega) (by omega), hlm]
    refine Ev.pos rfl (Ev.pos (by omega) (Ev.pos (by omega) ?_))
    have h := ih (i + 1) (by omega)
    rw [List.range_succ, List.filter_append, List.map_append] at h
    by_cases he : f i = mxL f s
    ·have hb : best f (mxL f s) i = true := by unfold best; simp [he, hm]
     rw [List.filter_cons_of_pos hb, List.filter_nil, List.map_singleton] at h
     exact Ev.pos he (Ev.pos (by have := hlen2 i; omega) h)
    ·have hb : ¬ best f (mxL f s) i = true := by unfold best; simp [he]
     rw [List.filter_cons_of_neg hb, List.filter_nil, List.map_nil, List.append_nil] at h
     exact Ev.neg he h
   ·rw [show decide (mxL f s > 0) = false by simpa using hm]
    have e0 : ∀ n, (List.range n).filter (best f (mxL f s)) = [] := fun n => by
     rw [List.filter_eq_nil_iff]; intro x _; unfold best; simp; omega
    rw [poL, e0 i, e0 s]
    exact Ev.neg (by simp) (Ev.now _)
 have k0 : ∀ d i, i + d = s → Ev (fun k => spec_l3Polite.l0 k [] ((List.range s).map f) (mxL f i) (i : Int) (s : Int) r l) (poL f s) := by
  intro d
  induction d with
  | zero =>
   intro i hi
   refine Ev.succ ?_
   simp only [spec_l3Polite.l0.eq_2]
   rw [show i = s by omega]
   exact Ev.neg (by omega) (k1 s 0 (by omega))
  | succ d ih =>
   intro i hi
   refine Ev.succ ?_
   simp only [spec_l3Polite.l0.eq_2]
   rw [getD_mapR f s i (by omega), w64 (n := (i : Int) + 1) (by omega) (by omega), hlm]
   have h := ih (i + 1) (by omega)
   refine Ev.pos (by omega) (Ev.pos (by omega) (Ev.pos (by omega) (Ev.bindc (a := mxL f (i + 1)) ?_ h)))
   show (if mxL f i > f i then some (mxL f i) else some (f i)) = some (if mxL f i > f i then mxL f i else f i)
   split <;> rfl
 exact k0 s 0 (by omega)
theorem bld_none (R : Nat → Bool) (n : Nat) (h : ∀ j, j < n → R j = false) : bld R n = 0 := by
 induction n with
 | zero => rfl
 | succ n ih =>
  unfold bld
  rw [if_neg (by rw [h n (by omega)]; decide)]
  exact ih (fun j hj => h j (by omega))
theorem polite_ev (s : Nat) (r : Bool) (T : Nat) (hT : T < 4294967296) (hs : s ≤ 24) (hl : ∀ x ∈ listN T, 0 ≤ x ∧ x < (s : Int)) :
  Ev (fun k => impl_bench_polite.f k (s : Int) r (T : Int)) (((bld (best (farN (s : Int) r (listN T)) (mxL (farN (s : Int) r (listN T)) s)) s : Nat) : Int), mxL (farN (s : Int) r (listN T)) s) := by
 unfold impl_bench_polite.f
 refine Ev.bind (farness_ev s r T hT hs hl) ?_
 have hn0 : ∀ j, j < s → 0 ≤ farN (s : Int) r (listN T) j := fun j hj => (farN_range (s : Int) r (listN T) j (by omega) hl (by omega)).1
 revert hn0
 generalize farN (s : Int) r (listN T) = f
 intro hn0
 have hlm : ((List.range s).map f).length = s := by rw [List.length_map, List.length_range]
 rw [hlm]
 have key : ∀ d i, i + d = s → Ev (fun k => impl_bench_polite.l0 k ((bld (best f (mxL f i)) i : Nat) : Int) (mxL f i) ((List.range s).map f) (s : Int) (i : Int)) (((bld (best f (mxL f s)) s : Nat) : Int), mxL f s) := by
  intro d
  induction d with
  | zero =>
   intro i hi
   refine Ev.succ ?_
   simp only [impl_bench_polite.l0.eq_2]
   rw [show i = s by omega]
   exact Ev.neg (by omega) (Ev.now _)
  | succ d ih =>
   intro i hi
   refine Ev.succ ?_
   simp only [impl_bench_polite.l0.eq_2]
   have h := ih (i + 1) (by omega)
   have hm := mxL_nonneg f i (fun j hj => hn0 j (by omega))
   have hf0 := hn0 i (by omega)
   have hmg := mxL_ge f i
   rw [getD_mapR f s i (by omega), hlm]
   refine Ev.pos (by omega) (Ev.pos (by omega) (Ev.pos (by omega) ?_))
   have hor := or_pow_u32 (bld (best f (mxL f i)) i) i (bld_lt _ _ (by omega)) (by omega)
   have hor0 := or_pow_u32 0 i (by decide) (by omega)
   by_cases c1 : f i = 0 ∨ f i < mxL f i
   ·have e1 : mxL f (i + 1) = mxL f i := by
     conv => lhs; unfold mxL
     split <;> omega
    have e2 : bld (best f (mxL f i)) (i + 1) = bld (best f (mxL f i)) i := by
     have hb : ¬ best f (mxL f i) i = true := by unfold best; simp; intro e; omega
     exact if_neg hb
    rw [e1, e2] at h
    have h2 : Ev (fun k => impl_bench_polite.j1 k ((bld (best f (mxL f i)) i : Nat) : Int) (mxL f i) (i : Int) (f i) ((List.range s).map f) (s : Int) (i : Int) true) (((bld (best f (mxL f s)) s : Nat) : Int), mxL f s) := by
     refine Ev.succ ?_
     simp only [impl_bench_polite.j1.eq_2]
     rw [w64 (n := (i : Int) + 1) (by omega) (by omega)]
     exact Ev.pos trivial h
    by_cases c0 : f i = 0
    ·exact Ev.pos c0 h2
    ·rw [show decide (f i < mxL f i) = true by simp; omega]
     exact Ev.neg c0 h2
   ·refine Ev.neg (by omega) ?_
    rw [show decide (f i < mxL f i) = false by simp; omega]
    refine Ev.succ ?_
    simp only [impl_bench_polite.j1.eq_2]
    rw [w64 (n := (i : Int) + 1) (by omega) (by omega)]
    refine Ev.neg (by simp) ?_
    have hb : best f (f i) i = true := by unfold best; simp; omega
    by_cases c2 : f i > mxL f i
    ·have e1 : mxL f (i + 1) = f i := by
      conv => lhs; unfold mxL
      split <;> omega
     have e0 : bld (best f (f i)) i = 0 := bld_none _ _ (fun j hj => by
      have := hmg j hj
      unfold best; simp; intro e; omega)
     have e2 : bld (best f (f i)) (i + 1) = 0 ||| 2 ^ i := by
      rw [show bld (best f (f i)) (i + 1) = bld (best f (f i)) i ||| 2 ^ i from if_pos hb, e0]
     rw [e1, e2] at h
     refine Ev.pos c2 (Ev.pos (by omega) ?_)
     rw [show (0 : Int) = ((0 : Nat) : Int) from rfl, hor0]
     exact h
    ·have e : f i = mxL f i := by omega
     have e1 : mxL f (i + 1) = mxL f i := by
      conv => lhs; unfold mxL
      split <;> omega
     rw [e] at hb
     have e2 : bld (best f (mxL f i)) (i + 1) = bld (best f (mxL f i)) i ||| 2 ^ i := if_pos hb
     rw [e1, e2] at h
     refine Ev.neg c2 (Ev.pos (by omega) ?_)
     rw [hor]
     exact h
 exact key s 0 (by omega)
/-- how many of a set's seats meet R, by a list of its seats -/
theorem count_single (n : Nat) (x : Int) (hx : 0 ≤ x ∧ x < (n : Int)) (R : Int → Bool) : (List.range n).countP (fun i : Nat => decide ((i : Int) = x) && R (i : Int)) = if R x = true then 1 else 0 := by
 induction n with
 | zero => omega
 | succ n ih =>
  rw [List.range_succ, List.countP_append, List.countP_singleton]
  by_cases e : (n : Int) = x
  ·have h0 : (List.range n).countP (fun i : Nat => decide ((i : Int) = x) && R (i : Int)) = 0 := by
    rw [List.countP_eq_zero]
    intro i hi
    have := List.mem_range.mp hi
    simp; intro h; omega
   rw [h0, e]; simp
  ·rw [ih (by omega)]; simp [e]
theorem count_list (n : Nat) (R : Int → Bool) : ∀ (l : List Int), l.Nodup → (∀ x ∈ l, 0 ≤ x ∧ x < (n : Int)) → (List.range n).countP (fun i : Nat => decide ((i : Int) ∈ l) && R (i : Int)) = l.countP R := by
 intro l
 induction l with
 | nil => intro _ _; simp
 | cons x l ih =>
  intro hn hr
  have hx : x ∉ l := (List.nodup_cons.mp hn).1
  have e : (List.range n).countP (fun i : Nat => decide ((i : Int) ∈ x :: l) && R (i : Int)) = (List.range n).countP (fun i : Nat => decide ((i : Int) ∈ l) && R (i : Int)) + (List.range n).countP (fun i : Nat => decide ((i : Int) = x) && R (i : Int)) := by
   generalize List.range n = L
   induction L with
   | nil => rfl
   | cons i L ihL =>
    simp only [List.countP_cons, ihL]
    by_cases e : (i : Int) = x
    ·have : ¬ (i : Int) ∈ l := e ▸ hx
     simp only [e, List.mem_cons, hx, true_or, decide_true, Bool.true_and, decide_false, Bool.false_and]
     simp; omega
    ·simp only [List.mem_cons, e, false_or, decide_false, Bool.false_and]
     simp; omega
  rw [e, ih (List.nodup_cons.mp hn).2 (fun y hy => hr y (List.mem_cons_of_mem _ hy)), count_single n x (hr x (by simp)) R, List.countP_cons]
theorem pairwise_nodup {l : List Int} (h : l.Pairwise (· < ·)) : l.Nodup := h.imp (fun h => by omega)
/-- the seats of one set that are not in another one -/
def lessN (a b : Nat) : Nat := (BitVec.ofNat 32 a &&& ~~~(BitVec.ofNat 32 b)).toNat
theorem lessN_lt (a b : Nat) : lessN a b < 4294967296 := (BitVec.ofNat 32 a &&& ~~~(BitVec.ofNat 32 b)).isLt
theorem lessN_bit (a b j : Nat) (ha : a < 4294967296) (hb : b < 4294967296) : (lessN a b).testBit j = (a.testBit j && !b.testBit j) := by
 unfold lessN
 rw [BitVec.testBit_toNat, BitVec.getLsbD_and, BitVec.getLsbD_not, BitVec.getLsbD_ofNat, BitVec.getLsbD_ofNat]
 by_cases h : j < 32
 ·simp [h]
 ·have : a.testBit j = false := Nat.testBit_lt_two_pow (Nat.lt_of_lt_of_le ha (Nat.pow_le_pow_right (n := 2) (i := 32) (by decide) (by omega)))
  simp [h, this]
theorem u32_andNot (a b : Nat) : Go.bits .andNot .u32 (a : Int) (b : Int) = ((lessN a b : Nat) : Int) := by
 unfold Go.bits lessN
 have e1 : BitVec.ofInt IntKind.u32.bits (a : Int) = BitVec.ofNat 32 a := BitVec.ofInt_natCast 32 a
 have e2 : BitVec.ofInt IntKind.u32.bits (b : Int) = BitVec.ofNat 32 b := BitVec.ofInt_natCast 32 b
 simp only [e1, e2]
 rw [IntKind.wrap_u32]
 have := (BitVec.ofNat 32 a &&& ~~~(BitVec.ofNat 32 b)).isLt
 exact Int.emod_eq_of_lt (Int.natCast_nonneg _) (Int.ofNat_lt.mpr this)
theorem has_bit (x i : Nat) (hx : x < 4294967296) : impl_set_has.f (x : Int) (i : Int) = some (x.testBit i) := by
 unfold impl_set_has.f
 rw [if_pos (by omega)]
 refine congrArg some ?_
 unfold shr
 rw [Int.toNat_natCast]
 have e : ((x : Int) / 2 ^ min i IntKind.u32.bits) = ((x / 2 ^ min i 32 : Nat) : Int) := by push_cast; rfl
 have hlt : x / 2 ^ min i 32 < 4294967296 := Nat.lt_of_le_of_lt (Nat.div_le_self _ _) hx
 have h1 := (u32_nat (x / 2 ^ min i 32) 1 hlt (by omega)).1
 rw [show ((1 : Nat) : Int) = 1 from rfl] at h1
 rw [e, h1, Nat.and_one_is_mod, Nat.testBit_eq_decide_div_mod_eq, Bool.eq_iff_iff]
 simp only [beq_iff_eq, decide_eq_true_eq]
 by_cases h : i ≤ 32
 ·rw [Nat.min_eq_left h]; omega
 ·have e1 : x / 2 ^ min i 32 = 0 := by rw [Nat.min_eq_right (by omega)]; exact Nat.div_eq_of_lt hx
  have e2 : x / 2 ^ i = 0 := Nat.div_eq_of_lt (Nat.lt_of_lt_of_le hx (Nat.pow_le_pow_right (n := 2) (i := 32) (by decide) (by omega)))
  rw [e1, e2]; decide
theorem rw_len {s : Int} {r : Bool} {l : List Int} (h : IsRw s r l) : l.length ≤ 24 := by
 have := ph_nodup_len s.toNat l (pairwise_nodup h.2.2.2) (fun x hx => by have := h.2.2.1 x hx; omega)
 have := h.1; omega
theorem countP_split (a b : Nat → Bool) (L : List Nat) : L.countP (fun i => a i && b i) + L.countP (fun i => a i && !b i) = L.countP a := by
 induction L with
 | nil => rfl
 | cons x L ih =>
  simp only [List.countP_cons]
  cases a x <;> cases b x <;> simp <;> omega
theorem range_lt_count : ∀ s : Fin 33, (List.range 32).countP (fun i => decide (i < s.val)) = s.val := by decide
theorem all_bit (s j : Nat) : (2 ^ s - 1).testBit j = decide (j < s) := Nat.testBit_two_pow_sub_one s j
theorem all_lt (s : Nat) (h : s ≤ 31) : 2 ^ s - 1 < 4294967296 := by
 have : 2 ^ s < 2 ^ 32 := Nat.pow_lt_pow_right (by decide) (by omega)
 have : (2 : Nat) ^ 32 = 4294967296 := rfl
 omega
/-- the free seats -/
def freeN (s : Nat) (l : List Int) : Nat := lessN (2 ^ s - 1) (setN l)
theorem freeN_count (s : Nat) (l : List Int) (hs : s ≤ 31) (hn : l.Nodup) (hl : ∀ x ∈ l, 0 ≤ x ∧ x < (s : Int)) : pc 32 (freeN s l) + l.length = s := by
 rw [pc_count]
 unfold freeN
 have h32 : ∀ x ∈ l, 0 ≤ x ∧ x < 32 := fun x hx => by have := hl x hx; omega
 have e1 : (List.range 32).countP (fun i => (lessN (2 ^ s - 1) (setN l)).testBit i) = (List.range 32).countP (fun i => decide (i < s) && !decide ((i : Int) ∈ l)) := by
  refine List.countP_congr (fun i _ => ?_)
  rw [lessN_bit _ _ _ (all_lt s hs) (setN_lt l h32), all_bit, setN_bit]
  have : (∃ p ∈ l, p.toNat = i) ↔ (i : Int) ∈ l := by
   constructor
   ·rintro ⟨p, hp, e⟩; have := h32 p hp; rw [show (i : Int) = p by omega]; exact hp
   ·intro h; exact ⟨_, h, by omega⟩
  simp only [this]
 have e2 : (List.range 32).countP (fun i : Nat => decide (i < s) && decide ((i : Int) ∈ l)) = l.length := by
  have := count_list 32 (fun _ => true) l hn h32
  rw [List.countP_true] at this
  rw [← this]
  refine List.countP_congr (fun i _ => ?_)
  simp only [Bool.and_eq_true, decide_eq_true_eq, and_true]
  exact ⟨fun h => h.2, fun h => ⟨by have := hl _ h; omega, h⟩⟩
 have e3 := countP_split (fun i => decide (i < s)) (fun i => decide ((i : Int) ∈ l)) (List.range 32)
 have e4 := range_lt_count ⟨s, by omega⟩
 simp only at e4
 rw [e2, e4] at e3
 rw [e1]; omega
theorem bench_all_eq (s : Nat) (r : Bool) (hs : s ≤ 31) : impl_bench_all.f (s : Int) r = some (((2 ^ s - 1 : Nat) : Int)) := by
 unfold impl_bench_all.f
 have h := all_lt s hs
 have hp : 0 < 2 ^ s := Nat.two_pow_pos s
 rw [if_pos (by omega), shl_u32_one _ (by omega) (by omega), Int.toNat_natCast]
 congr 1
 generalize 2 ^ s = t at h hp ⊢
 omega
theorem row_free_ev (s : Nat) (r : Bool) (l : List Int) (hs : s ≤ 31) (hlen : l.length ≤ 35184372088832) (hl : ∀ x ∈ l, 0 ≤ x ∧ x < (s : Int)) : Ev (fun k => impl_Row_free.f k (s : Int) r l) ((freeN s l : Nat) : Int) := by
 unfold impl_Row_free.f
 have h32 : ∀ x ∈ l, 0 ≤ x ∧ x < 32 := fun x hx => by have := hl x hx; omega
 refine Ev.bindc rfl (Ev.bindc (bench_all_eq s r hs) (Ev.bind (a := ((setN l : Nat) : Int)) ?_ ?_))
 ·unfold impl_Row_taken.f
  exact Ev.bind (f := fun _ t => some t) (setOf_ev l h32 hlen) (Ev.now _)
 ·rw [u32_andNot]; exact Ev.now _
/-- a seat put in its place -/
def putL : List Int → Int → List Int
 | [], p => [p]
 | x :: l, p => if x < p then x :: putL l p else p :: x :: l
theorem putL_mem (l : List Int) (p x : Int) : x ∈ putL l p ↔ x = p ∨ x ∈ l := by
 induction l with
 | nil => simp [putL]
 | cons y l ih =>
  unfold putL
  split
  ·rw [List.mem_cons, ih, List.mem_cons]
   constructor
   ·rintro (h | h | h)
    ·exact .inr (.inl h)
    ·exact .inl h
    ·exact .inr (.inr h)
   ·rintro (h | h | h)
    ·exact .inr (.inl h)
    ·exact .inl h
    ·exact .inr (.inr h)
  ·rw [List.mem_cons]
theorem putL_len (l : List Int) (p : Int) : (putL l p).length = l.length + 1 := by
 induction l with
 | nil => rfl
 | cons y l ih => unfold putL; split <;> simp [ih]
theorem putL_sorted (l : List Int) (p : Int) (hp : p ∉ l) (hs : l.Pairwise (· < ·)) : (putL l p).Pairwise (· < ·) := by
 induction l with
 | nil => simp [putL]
 | cons y l ih =>
  obtain ⟨h1, h2⟩ := List.pairwise_cons.mp hs
  have hy : p ≠ y := fun e => hp (by rw [e]; simp)
  have hl : p ∉ l := fun e => hp (List.mem_cons_of_mem _ e)
  unfold putL
  split
  ·rename_i hlt
   refine List.pairwise_cons.mpr ⟨fun x hx => ?_, ih hl h2⟩
   rcases (putL_mem l p x).mp hx with e | e
   ·rw [e]; exact hlt
   ·exact h1 x e
  ·rename_i hlt
   refine List.pairwise_cons.mpr ⟨fun x hx => ?_, hs⟩
   rcases List.mem_cons.mp hx with e | e
   ·rw [e]; omega
   ·have := h1 x e; omega
theorem putL_set (l : List Int) (p : Int) : setN (putL l p) = setN l ||| 2 ^ p.toNat := by
 refine Nat.eq_of_testBit_eq (fun j => ?_)
 rw [Nat.testBit_or, setN_bit, setN_bit, Nat.testBit_two_pow]
 rw [Bool.eq_iff_iff]
 simp only [Bool.or_eq_true, decide_eq_true_eq]
 constructor
 ·rintro ⟨x, hx, e⟩
  rcases (putL_mem l p x).mp hx with h | h
  ·subst h; exact .inr e
  ·exact .inl ⟨x, h, e⟩
 ·rintro (⟨x, hx, e⟩ | e)
  ·exact ⟨x, (putL_mem l p x).mpr (.inr hx), e⟩
  ·exact ⟨p, (putL_mem l p p).mpr (.inl rfl), e⟩
theorem l1Put_ev (l : List Int) (p : Int) (hp : p ∉ l) (hl : l.length ≤ 35184372) : Ev (fun k => spec_l1Put.f k l p) (putL l p) := by
 unfold spec_l1Put.f
 have key : ∀ d i, i + d = l.length → Ev (fun k => spec_l1Put.l0 k l p (i : Int)) (l.take i ++ putL (l.drop i) p) := by
  intro d
  induction d with
  | zero =>
   intro i hi
   refine Ev.succ ?_
   simp only [spec_l1Put.l0.eq_2, Option.bind_some, List.nil_append, Int.toNat_natCast]
   have ht : (l.take i).length ≤ l.length := by rw [List.length_take]; omega
   have hd : (l.drop i).length ≤ l.length := by rw [List.length_drop]; omega
   rw [List.drop_of_length_le (show l.length ≤ i by omega)] at hd ⊢
   refine Ev.neg (by omega) (Ev.pos (by omega) (Ev.pos (by omega) (Ev.pos (by rw [List.length_nil]; omega) (Ev.pos (by rw [List.length_singleton]; omega) (Ev.pos (by rw [List.length_append, List.length_singleton, List.length_nil]; omega) ?_)))))
   rw [List.append_nil]
   exact Ev.now _
  | succ d ih =>
   intro i hi
   refine Ev.succ ?_
   simp only [spec_l1Put.l0.eq_2, Option.bind_some, List.nil_append, Int.toNat_natCast]
   have ht : (l.take i).length ≤ l.length := by rw [List.length_take]; omega
   have hd : (l.drop i).length ≤ l.length := by rw [List.length_drop]; omega
   have hne : l[i] ≠ p := fun e => hp (by rw [← e]; exact List.getElem_mem (by omega))
   rw [rd_nat l i (by omega), w64 (n := (i : Int) + 1) (by omega) (by omega)]
   have h := ih (i + 1) (by omega)
   rw [List.take_succ_eq_append_getElem (by omega)] at h
   rw [show l.drop i = l[i] :: l.drop (i + 1) from List.drop_eq_getElem_cons (by omega)]
   unfold putL
   refine Ev.pos (by omega) (Ev.pos (by omega) ?_)
   by_cases c : l[i] < p
   ·rw [if_pos c]
    refine Ev.pos c ?_
    rw [List.append_assoc, List.singleton_append] at h
    exact h
   ·rw [if_neg c]
    refine Ev.neg c (Ev.neg hne (Ev.pos (by omega) (Ev.pos (by rw [List.length_nil]; omega) (Ev.pos (by rw [List.length_singleton]; omega) (Ev.pos (by rw [List.length_append, List.length_singleton, List.length_cons, List.length_drop]; omega) ?_)))))
    rw [List.append_assoc, List.singleton_append]
    exact Ev.now _
 have := key l.length 0 (by omega)
 simpa using this
theorem l1Own_eq (l : List Int) (h : l.length < 17592186044416) : spec_l1Own.f l = some l := by
 unfold spec_l1Own.f
 rw [Option.bind_some, if_pos (by simpa using h), List.nil_append]
theorem l2With_ev (s : Int) (r : Bool) (l : List Int) (p : Int) (hp : p ∉ l) (hl : l.length ≤ 35184372) : Ev (fun k => spec_l2With.f k s r l p) (s, r, putL l p) := by
 unfold spec_l2With.f
 exact Ev.bindc (l1Own_eq l (by omega)) (Ev.bind (f := fun k t => (spec_l2Made.f s r l t).bind fun bt => some (bt.1, bt.2.1, bt.2.2)) (l1Put_ev l p hp hl) (Ev.bindc rfl (Ev.now _)))
/-- the head of the farthest seats -/
def heN (s : Nat) (r : Bool) (l : List Int) : Int := rd (poL (farN (s : Int) r l) s) 0
/-- the row after some polite newcomers -/
def aft (s : Nat) (r : Bool) : Nat → List Int → List Int
 | 0, l => l
 | c + 1, l => aft s r c (putL l (heN s r l))
theorem free_at (s : Nat) (l : List Int) (h : l.length < s) : ∃ q, q < s ∧ ¬ (q : Int) ∈ l := by
 by_cases c : ∀ i : Nat, i < s → (i : Int) ∈ l
 ·have := ph_len s l c; omega
 ·obtain ⟨q, hq⟩ := Classical.not_forall.mp c
  exact ⟨q, Decidable.byContradiction (fun hc => hq (fun h2 => absurd h2 hc)), fun hc => hq (fun _ => hc)⟩
theorem mx_pos (s : Nat) (r : Bool) (l : List Int) (hw : IsRw (s : Int) r l) (h : l.length < s) : 1 ≤ mxL (farN (s : Int) r l) s := by
 obtain ⟨q, hq, hn⟩ := free_at s l h
 have h1 := farN_free (s : Int) r l q (by omega) hw.2.2.1 (by omega) hn
 have h2 := mxL_ge (farN (s : Int) r l) s q hq
 omega
theorem poL_ne (s : Nat) (r : Bool) (l : List Int) (hw : IsRw (s : Int) r l) (h : l.length < s) : 0 < (poL (farN (s : Int) r l) s).length := by
 have hm := mx_pos s r l hw h
 obtain ⟨j, hj, e⟩ := mxL_at (farN (s : Int) r l) s (by omega)
 refine List.length_pos_of_mem (a := (j : Int)) ?_
 unfold poL
 rw [List.mem_map]
 refine ⟨j, List.mem_filter.mpr ⟨List.mem_range.mpr hj, ?_⟩, rfl⟩
 unfold best
 rw [e]
 generalize mxL (farN (s : Int) r l) s = m at hm
 simp; omega
theorem heN_ok (s : Nat) (r : Bool) (l : List Int) (hw : IsRw (s : Int) r l) (h : l.length < s) : (0 ≤ heN s r l ∧ heN s r l < (s : Int)) ∧ heN s r l ∉ l := by
 have hp := poL_ne s r l hw h
 have hm := mx_pos s r l hw h
 have hh : heN s r l ∈ poL (farN (s : Int) r l) s := by
  have e : heN s r l = (poL (farN (s : Int) r l) s)[0] := rd_nat _ 0 hp
  rw [e]
  exact List.getElem_mem _
 generalize heN s r l = p at hh
 unfold poL at hh
 obtain ⟨j, hj, rfl⟩ := List.mem_map.mp hh
 obtain ⟨h1, h2⟩ := List.mem_filter.mp hj
 have h1 := List.mem_range.mp h1
 unfold best at h2
 simp only [Bool.and_eq_true, decide_eq_true_eq] at h2
 refine ⟨⟨by omega, by omega⟩, fun hc => ?_⟩
 have := farN_taken (s : Int) r l j (by omega) hw.2.2.1 hc
 omega
theorem put_rw (s : Nat) (r : Bool) (l : List Int) (hw : IsRw (s : Int) r l) (h : l.length < s) : IsRw (s : Int) r (putL l (heN s r l)) := by
 obtain ⟨h1, h2⟩ := heN_ok s r l hw h
 refine ⟨hw.1, hw.2.1, fun x hx => ?_, putL_sorted _ _ h2 hw.2.2.2⟩
 rcases (putL_mem _ _ _).mp hx with e | e
 ·rw [e]; exact h1
 ·exact hw.2.2.1 x e
theorem aft_rw (s : Nat) (r : Bool) : ∀ c l, IsRw (s : Int) r l → l.length + c ≤ s → IsRw (s : Int) r (aft s r c l) ∧ (aft s r c l).length = l.length + c := by
 intro c
 induction c with
 | zero => intro l hw _; exact ⟨hw, rfl⟩
 | succ c ih =>
  intro l hw hc
  have := ih (putL l (heN s r l)) (put_rw s r l hw (by omega)) (by rw [putL_len]; omega)
  rw [putL_len] at this
  exact ⟨this.1, by rw [show aft s r (c + 1) l = aft s r c (putL l (heN s r l)) from rfl, this.2]; omega⟩
theorem l3After_loop (s : Nat) (r : Bool) : ∀ c l, IsRw (s : Int) r l → l.length + c ≤ s → Ev (fun k => spec_l3After.l0 k (c : Int) (s : Int) r l) ((s : Int), r, aft s r c l) := by
 intro c
 induction c with
 | zero =>
  intro l _ _
  refine Ev.succ ?_
  simp only [spec_l3After.l0.eq_2]
  exact Ev.neg (by omega) (Ev.now _)
 | succ c ih =>
  intro l hw hc
  have hs := hw.1
  refine Ev.succ ?_
  simp only [spec_l3After.l0.eq_2]
  have hok := heN_ok s r l hw (by omega)
  refine Ev.pos (by omega) (Ev.bind (l3Polite_ev s r l (by omega) (by omega) hw.2.2.1) (Ev.pos (by have := poL_ne s r l hw (by omega); omega) ?_))
  refine Ev.bind (l2With_ev (s : Int) r l (heN s r l) hok.2 (by omega)) ?_
  rw [w64 (by omega) (by omega), show ((c + 1 : Nat) : Int) - 1 = (c : Int) by omega]
  exact ih (putL l (heN s r l)) (put_rw s r l hw (by omega)) (by rw [putL_len]; omega)
theorem l3After_ev (s : Nat) (r : Bool) (c : Nat) (l : List Int) (hw : IsRw (s : Int) r l) (hc : l.length + c ≤ s) : Ev (fun k => spec_l3After.f k (s : Int) r l (c : Int)) ((s : Int), r, aft s r c l) := by
 unfold spec_l3After.f
 have hs := hw.1
 exact Ev.bindc (l1Own_eq l (by omega)) (Ev.bindc rfl (l3After_loop s r c l hw hc))
theorem rd_low (n : Nat) (h0 : 0 < n) (h : n < 4294967296) : rd (listN n) 0 = ((low 32 n : Nat) : Int) ∧ 0 < (listN n).length := by
 unfold listN
 rw [(lst_step 32 n 0 h0 h).1, List.map_cons, Nat.zero_add]
 exact ⟨rfl, by simp⟩
theorem newcomers_loop (s : Nat) (r : Bool) : ∀ c l (acc : List Int), IsRw (s : Int) r l → l.length + c ≤ s → acc.length + c ≤ 1000 → ∃ A, Ev (fun k => impl_bench_newcomers.l0 k ((setN l : Nat) : Int) 1 ((acc.length + c : Nat) : Int) acc (s : Int) r) (((setN (aft s r c l) : Nat) : Int), A) := by
 intro c
 induction c with
 | zero =>
  intro l acc _ _ _
  refine ⟨acc, Ev.succ ?_⟩
  simp only [impl_bench_newcomers.l0.eq_2]
  exact Ev.neg (by omega) (Ev.now _)
 | succ c ih =>
  intro l acc hw hc ha
  have hs := hw.1
  have h32 : ∀ x ∈ l, 0 ≤ x ∧ x < 32 := fun x hx => by have := hw.2.2.1 x hx; omega
  have hL : listN (setN l) = l := listN_setN l h32 hw.2.2.2
  have hT := setN_lt l h32
  obtain ⟨A, hA⟩ := ih (putL l (heN s r l)) (acc ++ [heN s r l]) (put_rw s r l hw (by omega)) (by rw [putL_len]; omega) (by rw [List.length_append, List.length_singleton]; omega)
  refine ⟨A, Ev.succ ?_⟩
  simp only [impl_bench_newcomers.l0.eq_2]
  have hp := polite_ev s r (setN l) hT (by omega) (by rw [hL]; exact hw.2.2.1)
  rw [hL] at hp
  have hm := mx_pos s r l hw (by omega)
  have hB : listN (bld (best (farN (s : Int) r l) (mxL (farN (s : Int) r l) s)) s) = poL (farN (s : Int) r l) s := listN_bld _ s (by omega)
  have hBlt : bld (best (farN (s : Int) r l) (mxL (farN (s : Int) r l) s)) s < 4294967296 := bld_lt _ _ (by omega)
  have hne := poL_ne s r l hw (by omega)
  refine Ev.pos (by omega) (Ev.bind hp ?_)
  generalize hBe : bld (best (farN (s : Int) r l) (mxL (farN (s : Int) r l) s)) s = B at hB hBlt
  have hB0 : 0 < B := by
   rcases Nat.eq_zero_or_pos B with e | e
   ·rw [← hB, e, show listN 0 = [] by unfold listN; rw [lst_zero]; rfl] at hne
    simp at hne
   ·exact e
  obtain ⟨q1, q2⟩ := rd_low B hB0 hBlt
  have hhe : heN s r l = ((low 32 B : Nat) : Int) := by unfold heN; rw [← hB]; exact q1
  have hlow := (neg_land 32 B hB0 hBlt).2.1
  have h2l : 2 ^ low 32 B < 4294967296 := Nat.pow_lt_pow_right (m := low 32 B) (n := 32) (by decide) hlow
  refine Ev.neg (by simp only; omega) (Ev.neg (by simp only; omega) (Ev.bind (list_ev B hBlt) (Ev.pos (by omega) (Ev.pos (by omega) ?_))))
  simp only
  rw [neg_u32 B hB0 hBlt, (u32_nat _ _ hT h2l).2, q1]
  rw [hhe, putL_set, Int.toNat_natCast, List.length_append, List.length_singleton] at hA
  rw [show aft s r (c + 1) l = aft s r c (putL l (heN s r l)) from rfl, hhe]
  rw [show acc.length + (c + 1) = acc.length + 1 + c by omega]
  exact hA
theorem after_impl (s : Nat) (r : Bool) (c : Nat) (l : List Int) (hw : IsRw (s : Int) r l) (hc : l.length + c ≤ s) : Ev (fun k => impl_AfterPolite.j0 k (c : Int) false (s : Int) r l) ((s : Int), r, aft s r c l, true) := by
 have hs := hw.1
 have h32 : ∀ x ∈ l, 0 ≤ x ∧ x < 32 := fun x hx => by have := hw.2.2.1 x hx; omega
 refine Ev.succ ?_
 simp only [impl_AfterPolite.j0.eq_2]
 obtain ⟨A, hA⟩ := newcomers_loop s r c l [] hw hc (by simp; omega)
 rw [List.length_nil, Nat.zero_add] at hA
 refine Ev.neg (by simp) (Ev.bindc rfl (Ev.bind (a := ((setN l : Nat) : Int)) ?_ (Ev.bind (a := (((setN (aft s r c l) : Nat) : Int), A)) ?_ (Ev.bindc rfl (Ev.bind (a := ((s : Int), r, aft s r c l)) ?_ (Ev.now _))))))
 ·unfold impl_Row_taken.f
  exact Ev.bind (f := fun _ t => some t) (setOf_ev l h32 (by omega)) (Ev.now _)
 ·unfold impl_bench_newcomers.f
  exact hA
 ·unfold impl_bench_row.f
  obtain ⟨h1, h2⟩ := aft_rw s r c l hw hc
  have h32' : ∀ x ∈ aft s r c l, 0 ≤ x ∧ x < 32 := fun x hx => by have := h1.2.2.1 x hx; omega
  have := list_ev (setN (aft s r c l)) (setN_lt _ h32')
  rw [listN_setN _ h32' h1.2.2.2] at this
  exact Ev.bind (f := fun _ t => some ((s : Int), r, t)) this (Ev.now _)
theorem AfterPolite_ev (s : Nat) (r : Bool) (a : Int) (l : List Int) (hw : IsRw (s : Int) r l) (b : Bool) (hb : b = true ↔ 0 ≤ a ∧ a ≤ (s : Int) - (l.length : Int)) (q : Int × Bool × List Int × Bool) (hq : Ev (fun k => impl_AfterPolite.j0 k a (!b) (s : Int) r l) q) : Ev (fun k => impl_AfterPolite.f k (s : Int) r l a) q := by
 have hs := hw.1
 have hlen := rw_len hw
 unfold impl_AfterPolite.f
 refine Ev.bind (isRow_ev (s : Int) r l (by omega) true (by simp [hw])) (Ev.pos rfl ?_)
 refine Ev.bind (row_free_ev s r l (by omega) (by omega) hw.2.2.1) ?_
 have hf : freeN s l < 4294967296 := lessN_lt _ _
 have hc := freeN_count s l (by omega) (pairwise_nodup hw.2.2.2) hw.2.2.1
 refine Ev.bindc (count_eq _ hf) (Ev.bindc (within_eq _ _ _) ?_)
 have e : decide (0 ≤ a ∧ a ≤ ((pc 32 (freeN s l) : Nat) : Int)) = b := by
  rw [Bool.eq_iff_iff, hb, decide_eq_true_eq]
  constructor <;> intro h <;> omega
 rw [e]; exact hq
theorem l3Ask_ev (s : Nat) (r : Bool) (a : Int) (l : List Int) (hw : IsRw (s : Int) r l) (b : Bool) (hb : b = true ↔ 0 ≤ a ∧ a ≤ (s : Int) - (l.length : Int)) : Ev (fun k => spec_l3Ask.f k (s : Int) r l a) b := by
 have hs := hw.1
 have hlen := rw_len hw
 unfold spec_l3Ask.f
 refine Ev.bind (l2Row_ev (s : Int) r l (by omega) true (by simp [hw])) (Ev.pos rfl (Ev.bindc (l1In_eq _ _ _) ?_))
 rw [w64 (by omega) (by omega)]
 have e : decide (0 ≤ a ∧ a ≤ (s : Int) - (l.length : Int)) = b := by
  rw [Bool.eq_iff_iff, hb, decide_eq_true_eq]
 rw [e]; exact Ev.now _
/-- the least gap of a seat to some others -/
def lgIn (s : Int) (r : Bool) (x : Int) : List Int → Int → Int
 | [], a => a
 | y :: m, a => lgIn s r x m (mn a (gp s r x y))
def lgOut (s : Int) (r : Bool) (l : List Int) : Nat → Nat → Int → Int
 | 0, _, a => a
 | d + 1, i, a => lgOut s r l d (i + 1) (lgIn s r (l.getD i 0) (l.take i) a)
def leastN (s : Int) (r : Bool) (l : List Int) : Int := lgOut s r l l.length 0 s
theorem l1Least_eq (a b : Int) : spec_l1Least.f a b = some (mn a b) := by
 unfold spec_l1Least.f mn
 split <;> split <;> first | rfl | (congr 1; omega)
theorem l3Least_ev (s : Int) (r : Bool) (l : List Int) (hlen : l.length ≤ 1000) (hs : 0 ≤ s ∧ s ≤ 100) (hl : ∀ x ∈ l, 0 ≤ x ∧ x < s) : Ev (fun k => spec_l3Least.f k s r l) (leastN s r l) := by
 unfold spec_l3Least.f leastN
 have k1 : ∀ (i : Nat) (q : Int), i < l.length → ∀ d j a, j + d = i → Ev (fun k => spec_l3Least.l0 k (lgIn s r (l.getD i 0) ((l.take i).drop j) a) ((i + 1 : Nat) : Int) s r l) q → Ev (fun k => spec_l3Least.l1 k a (i : Int) (j : Int) s r l) q := by
  intro i q hi d
  induction d with
  | zero =>
   intro j a hj hq
   refine Ev.succ ?_
   simp only [spec_l3Least.l1.eq_2]
   rw [w64 (n := (i : Int) + 1) (by omega) (by omega)]
   rw [List.drop_of_length_le (by rw [List.length_take]; omega)] at hq
   exact Ev.neg (by omega) hq
  | succ d ih =>
   intro j a hj hq
   refine Ev.succ ?_
   simp only [spec_l3Least.l1.eq_2]
   have hx := hl l[i] (List.getElem_mem (by omega))
   have hy := hl l[j] (List.getElem_mem (by omega))
   rw [rd_nat l i (by omega), rd_nat l j (by omega), w64 (n := (j : Int) + 1) (by omega) (by omega)]
   have hd : (l.take i).drop j = l[j] :: (l.take i).drop (j + 1) := by
    rw [List.drop_eq_getElem_cons (by rw [List.length_take]; omega), List.getElem_take]
   rw [hd, getD_lt l i hi] at hq
   refine Ev.pos (by omega) (Ev.pos (by omega) (Ev.pos (by omega) (Ev.pos (by omega) (Ev.pos (by omega) (Ev.bindc (l2Gap_eq _ _ _ _ _ hs (by omega) (by omega)) (Ev.bindc (l1Least_eq _ _) (ih (j + 1) _ (by omega) ?_)))))))
   rw [getD_lt l i hi]
   exact hq
 have k0 : ∀ d i a, i + d = l.length → Ev (fun k => spec_l3Least.l0 k a (i : Int) s r l) (lgOut s r l d i a) := by
  intro d
  induction d with
  | zero =>
   intro i a hi
   refine Ev.succ ?_
   simp only [spec_l3Least.l0.eq_2]
   exact Ev.neg (by omega) (Ev.now _)
  | succ d ih =>
   intro i a hi
   refine Ev.succ ?_
   simp only [spec_l3Least.l0.eq_2]
   exact Ev.pos (by omega) (k1 i _ (by omega) i 0 a (by omega) (ih (i + 1) _ (by omega)))
 exact k0 l.length 0 s (by omega)
theorem leastGap_ev (s : Int) (r : Bool) (l : List Int) (hlen : l.length ≤ 1000) (hs : 0 ≤ s ∧ s ≤ 100) (hl : ∀ x ∈ l, 0 ≤ x ∧ x < s) : Ev (fun k => impl_bench_leastGap.f k s r l) (if (l.length : Int) < 2 then (0, false) else (leastN s r l, true)) := by
 unfold impl_bench_leastGap.f leastN
 have k1 : ∀ (i : Nat) (q : Int × Bool), i < l.length → ∀ d j a, j + d = i → Ev (fun k => impl_bench_leastGap.l0 k l (lgIn s r (l.getD i 0) ((l.take i).drop j) a) l (l.length : Int) ((i + 1 : Nat) : Int) s r) q →
   Ev (fun k => impl_bench_leastGap.l1 k l a l[i]! l (l.length : Int) (i : Int) (l.take i) ((l.take i).length : Int) (j : Int) s r) q := by
  intro i q hi d
  have hgi : l[i]! = l[i] := by simp [hi]
  rw [hgi]
  have htl : (l.take i).length = i := by rw [List.length_take]; omega
  induction d with
  | zero =>
   intro j a hj hq
   refine Ev.succ ?_
   simp only [impl_bench_leastGap.l1.eq_2]
   rw [w64 (n := (i : Int) + 1) (by omega) (by omega)]
   rw [List.drop_of_length_le (by omega)] at hq
   exact Ev.neg (by omega) hq
  | succ d ih =>
   intro j a hj hq
   refine Ev.succ ?_
   simp only [impl_bench_leastGap.l1.eq_2]
   have hx := hl l[i] (List.getElem_mem (by omega))
   have hy := hl l[j] (List.getElem_mem (by omega))
   have hr : rd (l.take i) (j : Int) = l[j] := by rw [rd_nat _ j (by omega), List.getElem_take]
   rw [hr, w64 (n := (j : Int) + 1) (by omega) (by omega)]
   have hd : (l.take i).drop j = l[j] :: (l.take i).drop (j + 1) := by
    rw [List.drop_eq_getElem_cons (by omega), List.getElem_take]
   rw [hd, getD_lt l i hi] at hq
   refine Ev.pos (by omega) (Ev.pos (by omega) (Ev.pos (by omega) (Ev.bindc (bench_gap_eq _ _ _ _ hs (by omega) (by omega)) (ih (j + 1) _ (by omega) ?_))))
   rw [getD_lt l i hi]
   exact hq
 have k0 : ∀ d i a, i + d = l.length → Ev (fun k => impl_bench_leastGap.l0 k l a l (l.length : Int) (i : Int) s r) (if (l.length : Int) < 2 then (0, false) else (lgOut s r l d i a, true)) := by
  intro d
  induction d with
  | zero =>
   intro i a hi
   refine Ev.succ ?_
   simp only [impl_bench_leastGap.l0.eq_2]
   refine Ev.neg (by omega) ?_
   by_cases c : (l.length : Int) < 2
   ·simp only [if_pos c]; exact Ev.now _
   ·simp only [if_neg c]; exact Ev.now _
  | succ d ih =>
   intro i a hi
   refine Ev.succ ?_
   simp only [impl_bench_leastGap.l0.eq_2]
   rw [rd_nat l i (by omega), Int.toNat_natCast]
   have := k1 i _ (by omega) i 0 a (by omega) (ih (i + 1) _ (by omega))
   rw [show l[i]! = l[i] by rw [getElem!_pos l i (by omega)]] at this
   exact Ev.pos (by omega) (Ev.pos (by omega) (Ev.pos (by omega) (Ev.pos (by omega) this)))
 exact k0 l.length 0 s (by omega)
theorem LeastGap_ev (s : Int) (r : Bool) (l : List Int) (hw : IsRw s r l) : Ev (fun k => impl_LeastGap.f k s r l) (if (l.length : Int) < 2 then (0, false) else (leastN s r l, true)) := by
 have hs := hw.1
 have hlen := rw_len hw
 unfold impl_LeastGap.f
 refine Ev.bind (isRow_ev s r l (by omega) true (by simp [hw])) (Ev.pos rfl (Ev.bindc rfl (Ev.bind (leastGap_ev s r l (by omega) (by omega) hw.2.2.1) (Ev.now _))))
theorem free_of_mx (s : Nat) (r : Bool) (l : List Int) (hw : IsRw (s : Int) r l) (h : 0 < mxL (farN (s : Int) r l) s) : l.length < s := by
 obtain ⟨j, hj, hm⟩ := mxL_at _ _ h
 have hn : ¬ (j : Int) ∈ l := fun hc => by
  have := farN_taken (s : Int) r l j (by omega) hw.2.2.1 hc
  omega
 have := ph_nodup_len s ((j : Int) :: l) (List.nodup_cons.mpr ⟨hn, pairwise_nodup hw.2.2.2⟩) (fun x hx => by
  rcases List.mem_cons.mp hx with e | e
  ·rw [e]; omega
  ·exact hw.2.2.1 x e)
 rw [List.length_cons] at this
 omega
theorem heN_far (s : Nat) (r : Bool) (l : List Int) (hw : IsRw (s : Int) r l) (h : l.length < s) : farN (s : Int) r l (heN s r l).toNat = mxL (farN (s : Int) r l) s := by
 have hne := poL_ne s r l hw h
 have hm : heN s r l ∈ poL (farN (s : Int) r l) s := by
  unfold heN
  have e := rd_nat (poL (farN (s : Int) r l) s) 0 hne
  rw [show ((0 : Nat) : Int) = 0 from rfl] at e
  rw [e]; exact List.getElem_mem hne
 unfold poL at hm
 obtain ⟨q, hq, e⟩ := List.mem_map.mp hm
 have hb := (List.mem_filter.mp hq).2
 unfold best at hb
 rw [Bool.and_eq_true, decide_eq_true_eq] at hb
 rw [← e, Int.toNat_natCast]
 exact hb.1
theorem mx_nonneg (s : Nat) (r : Bool) (l : List Int) (hw : IsRw (s : Int) r l) : 0 ≤ mxL (farN (s : Int) r l) s := mxL_nonneg _ _ (fun j hj => (farN_range (s : Int) r l j (by omega) hw.2.2.1 (by omega)).1)
/-- the seats that newcomers take, one by one -/
def ordL (s : Nat) (r : Bool) : Nat → List Int → List Int
 | 0, _ => []
 | c + 1, l => if l.length < s then heN s r l :: ordL s r c (putL l (heN s r l)) else []
theorem ordL_len (s : Nat) (r : Bool) : ∀ c l, IsRw (s : Int) r l → s ≤ l.length + c → (ordL s r c l).length + l.length = s := by
 intro c
 induction c with
 | zero =>
  intro l hw hc
  have hl := ph_nodup_len s l (pairwise_nodup hw.2.2.2) hw.2.2.1
  simp only [ordL, List.length_nil]; omega
 | succ c ih =>
  intro l hw hc
  have hl := ph_nodup_len s l (pairwise_nodup hw.2.2.2) hw.2.2.1
  unfold ordL
  by_cases h : l.length < s
  ·have := ih (putL l (heN s r l)) (put_rw s r l hw h) (by rw [putL_len]; omega)
   rw [putL_len] at this
   rw [if_pos h, List.length_cons]; omega
  ·rw [if_neg h, List.length_nil]; omega
theorem farN_put (s : Nat) (r : Bool) (l : List Int) (x : Int) (hw : IsRw (s : Int) r l) (hx : 0 ≤ x ∧ x < (s : Int)) (q : Nat) (hq : q < s) : farN (s : Int) r (putL l x) q ≤ farN (s : Int) r l q := by
 have hm : ∀ y ∈ putL l x, 0 ≤ y ∧ y < (s : Int) := fun y hy => by
  rcases (putL_mem l x y).mp hy with rfl | h
  ·exact hx
  ·exact hw.2.2.1 y h
 by_cases h : l = []
 ·rw [show farN (s : Int) r l q = s from if_pos h]
  exact (farN_range (s : Int) r (putL l x) q (by omega) hm (by omega)).2
 ·obtain ⟨y, hy, e, _⟩ := farN_at (s : Int) r l q hw.2.2.1 h
  rw [e]
  have hy2 : y ∈ putL l x := (putL_mem l x y).mpr (.inr hy)
  obtain ⟨_, _, _, h2⟩ := farN_at (s : Int) r (putL l x) q hm (fun c => by rw [c] at hy2; cases hy2)
  exact h2 y hy2
theorem mx_put (s : Nat) (r : Bool) (l : List Int) (x : Int) (hw : IsRw (s : Int) r l) (hx : 0 ≤ x ∧ x < (s : Int)) : mxL (farN (s : Int) r (putL l x)) s ≤ mxL (farN (s : Int) r l) s := by
 by_cases h : 0 < mxL (farN (s : Int) r (putL l x)) s
 ·obtain ⟨j, hj, e⟩ := mxL_at _ _ h
  have h1 := farN_put s r l x hw hx j hj
  have h2 := mxL_ge (farN (s : Int) r l) s j hj
  omega
 ·have := mx_nonneg s r l hw; omega
theorem settle_full (s : Nat) (r : Bool) (l : List Int) (hw : IsRw (s : Int) r l) (acc : List Int) (h0 : ¬ 0 < mxL (farN (s : Int) r l) s) (far : Int) (hfar : 1 ≤ far) : Ev (fun k => impl_bench_newcomers.l0 k ((setN l : Nat) : Int) far 24 acc (s : Int) r) (((setN l : Nat) : Int), acc) := by
 have hs := hw.1
 have h32 : ∀ x ∈ l, 0 ≤ x ∧ x < 32 := fun x hx => by have := hw.2.2.1 x hx; omega
 have hL : listN (setN l) = l := listN_setN l h32 hw.2.2.2
 have hp := polite_ev s r (setN l) (setN_lt l h32) (by omega) (by rw [hL]; exact hw.2.2.1)
 rw [hL] at hp
 refine Ev.succ ?_
 simp only [impl_bench_newcomers.l0.eq_2]
 by_cases h24 : (acc.length : Int) < 24
 ·refine Ev.pos h24 (Ev.bind hp ?_)
  simp only
  by_cases hB : ((bld (best (farN (s : Int) r l) (mxL (farN (s : Int) r l) s)) s : Nat) : Int) = 0
  ·exact Ev.pos hB (Ev.now _)
  ·exact Ev.neg hB (Ev.pos (by omega) (Ev.now _))
 ·exact Ev.neg h24 (Ev.now _)
theorem order_impl (s : Nat) (r : Bool) : ∀ c l (acc : List Int), IsRw (s : Int) r l → s ≤ l.length + c → acc.length ≤ l.length → ∃ T : Int, Ev (fun k => impl_bench_newcomers.l0 k ((setN l : Nat) : Int) 1 24 acc (s : Int) r) (T, acc ++ ordL s r c l) := by
 intro c
 induction c with
 | zero =>
  intro l acc hw hc ha
  refine ⟨((setN l : Nat) : Int), ?_⟩
  rw [show ordL s r 0 l = [] from rfl, List.append_nil]
  exact settle_full s r l hw acc (fun h => by have := free_of_mx s r l hw h; omega) 1 (by omega)
 | succ c ih =>
  intro l acc hw hc ha
  have hs := hw.1
  have h32 : ∀ x ∈ l, 0 ≤ x ∧ x < 32 := fun x hx => by have := hw.2.2.1 x hx; omega
  have hL : listN (setN l) = l := listN_setN l h32 hw.2.2.2
  have hT := setN_lt l h32
  have hl := ph_nodup_len s l (pairwise_nodup hw.2.2.2) hw.2.2.1
  have hp := polite_ev s r (setN l) hT (by omega) (by rw [hL]; exact hw.2.2.1)
  rw [hL] at hp
  by_cases hlt : l.length < s
  ·have hmx := mx_pos s r l hw hlt
   obtain ⟨T, hA⟩ := ih (putL l (heN s r l)) (acc ++ [heN s r l]) (put_rw s r l hw hlt) (by rw [putL_len]; omega) (by rw [putL_len, List.length_append, List.length_singleton]; omega)
   refine ⟨T, Ev.succ ?_⟩
   simp only [impl_bench_newcomers.l0.eq_2, ordL]
   rw [if_pos hlt]
   have hB : listN (bld (best (farN (s : Int) r l) (mxL (farN (s : Int) r l) s)) s) = poL (farN (s : Int) r l) s := listN_bld _ s (by omega)
   have hBlt : bld (best (farN (s : Int) r l) (mxL (farN (s : Int) r l) s)) s < 4294967296 := bld_lt _ _ (by omega)
   have hne := poL_ne s r l hw hlt
   refine Ev.pos (by omega) (Ev.bind hp ?_)
   generalize hBe : bld (best (farN (s : Int) r l) (mxL (farN (s : Int) r l) s)) s = B at hB hBlt
   have hB0 : 0 < B := by
    rcases Nat.eq_zero_or_pos B with e | e
    ·rw [← hB, e, show listN 0 = [] by unfold listN; rw [lst_zero]; rfl] at hne
     simp at hne
    ·exact e
   obtain ⟨q1, q2⟩ := rd_low B hB0 hBlt
   have hhe : heN s r l = ((low 32 B : Nat) : Int) := by unfold heN; rw [← hB]; exact q1
   have hlow := (neg_land 32 B hB0 hBlt).2.1
   have h2l : 2 ^ low 32 B < 4294967296 := Nat.pow_lt_pow_right (m := low 32 B) (n := 32) (by decide) hlow
   refine Ev.neg (by simp only; omega) (Ev.neg (by simp only; omega) (Ev.bind (list_ev B hBlt) (Ev.pos (by omega) (Ev.pos (by omega) ?_))))
   simp only
   rw [neg_u32 B hB0 hBlt, (u32_nat _ _ hT h2l).2, q1]
   rw [hhe, putL_set, Int.toNat_natCast, List.append_assoc, List.singleton_append] at hA
   rw [hhe]
   exact hA
  ·refine ⟨((setN l : Nat) : Int), ?_⟩
   rw [show ordL s r (c + 1) l = [] by unfold ordL; rw [if_neg hlt], List.append_nil]
   exact settle_full s r l hw acc (fun h => hlt (free_of_mx s r l hw h)) 1 (by omega)
/-- may a seat be chosen as far as those taken go -/
def canB (s : Int) (r : Bool) (tk : List Int) (d p : Int) : Bool := !decide (p ∈ tk) && (decide (tk = []) || decide (d ≤ (nst s r p tk).2))
theorem mn25 (g d : Int) (h : g ≤ 24) : (g < mn d 25 ↔ g < d) := by unfold mn; split <;> omega
theorem nst_le (s : Int) (r : Bool) (p : Int) (tk : List Int) (hs : 0 ≤ s ∧ s ≤ 24) (hp : 0 ≤ p ∧ p < s) (hl : ∀ x ∈ tk, 0 ≤ x ∧ x < s) : (nst s r p tk).2 ≤ 24 := by
 cases tk with
 | nil => rw [nst_nil]; omega
 | cons a l =>
  obtain ⟨h1, h2, _⟩ := nst_cons s r p a l (fun y hy => (hl y hy).1)
  have := gp_le s r p (nst s r p (a :: l)).1 hp (hl _ h1)
  omega
theorem can_ev (s : Int) (r : Bool) (tk : List Int) (d p : Int) (hs : 0 ≤ s ∧ s ≤ 24) (hp : 0 ≤ p ∧ p < s) (hl : ∀ x ∈ tk, 0 ≤ x ∧ x < s) (hsort : tk.Pairwise (· < ·)) (ht : tk.length ≤ 35184372088832) :
  Ev (fun k => impl_spacing_can.f k s r tk (mn d 25) p) (canB s r tk d p) := by
 have h32 : ∀ x ∈ tk, 0 ≤ x ∧ x < 32 := fun x hx => by have := hl x hx; omega
 have hT := setN_lt tk h32
 have hls := listN_setN tk h32 hsort
 unfold impl_spacing_can.f impl_Row_taken.f
 refine Ev.bind (a := ((setN tk : Nat) : Int)) (Ev.bind (f := fun _ t => some t) (setOf_ev tk h32 ht) (Ev.now _)) ?_
 have hn := nearest_ev s r (setN tk) p hT (by omega) hp (by rw [hls]; exact hl)
 rw [hls] at hn
 refine Ev.bind hn ?_
 have hh := has_bit (setN tk) p.toNat hT
 rw [Int.toNat_of_nonneg hp.1] at hh
 refine Ev.bindc hh ?_
 have hbit : (setN tk).testBit p.toNat = decide (p ∈ tk) := by
  rw [setN_bit, Bool.eq_iff_iff, decide_eq_true_eq, decide_eq_true_eq]
  constructor
  ·rintro ⟨q, hq, e⟩
   have := hl q hq
   rwa [show p = q by omega]
  ·intro h; exact ⟨p, h, rfl⟩
 rw [hbit]
 have e : (!decide (p ∈ tk) && (!(nearOf s r tk p).2.2 || decide ((nearOf s r tk p).2.1 ≥ mn d 25))) = canB s r tk d p := by
  unfold canB nearOf
  by_cases c : tk = []
  ·simp [c]
  ·rw [if_neg c]
   have h1 := nst_le s r p tk hs hp hl
   have h2 := mn25 (nst s r p tk).2 d h1
   simp only [c, decide_false, Bool.not_true, Bool.false_or]
   rw [show decide ((nst s r p tk).2 ≥ mn d 25) = decide (d ≤ (nst s r p tk).2) from by rw [Bool.eq_iff_iff, decide_eq_true_eq, decide_eq_true_eq]; omega]
 rw [e]
 exact Ev.now _
/-- choices of m of the open places of [b - e, b), gaps at least D -/
def cn (o : Nat → Bool) (D b : Nat) : Nat → Nat → Nat
 | 0, _ => 1
 | _ + 1, 0 => 0
 | m + 1, e + 1 => (if o (b - (e + 1)) then cn o D b m (e + 1 - D) else 0) + cn o D b (m + 1) e
termination_by m e => (m, e)
theorem cn_0 (o : Nat → Bool) (D b e : Nat) : cn o D b 0 e = 1 := by unfold cn; rfl
theorem cn_s0 (o : Nat → Bool) (D b m : Nat) : cn o D b (m + 1) 0 = 0 := by unfold cn; rfl
theorem cn_ss (o : Nat → Bool) (D b m e : Nat) : cn o D b (m + 1) (e + 1) = (if o (b - (e + 1)) then cn o D b m (e + 1 - D) else 0) + cn o D b (m + 1) e := by rw [cn]
theorem cn_le (o : Nat → Bool) (D b : Nat) (hD : 1 ≤ D) : ∀ m e, cn o D b m e ≤ 2 ^ e := by
 intro m
 induction m with
 | zero => intro e; rw [cn_0]; exact Nat.one_le_two_pow
 | succ m ihm =>
  intro e
  induction e with
  | zero => rw [cn_s0]; exact Nat.zero_le _
  | succ e ihe =>
   rw [cn_ss]
   have h1 := ihm (e + 1 - D)
   have h2 : 2 ^ (e + 1 - D) ≤ 2 ^ e := Nat.pow_le_pow_right (by omega) (by omega)
   rw [Nat.pow_succ]
   split <;> omega
theorem gp_lt (s : Int) (r : Bool) (p q : Int) (hp : 0 ≤ p ∧ p < s) (hq : 0 ≤ q ∧ q < s) : gp s r p q ≤ s - 1 := by
 unfold gp mx mn; cases r <;> simp only [Bool.false_eq_true, if_false, if_true] <;> split <;> (try split) <;> omega
/-- the first place behind which nothing may be chosen -/
def bpN (r : Bool) (s D f : Nat) : Nat := if r = true then (if f + s - D + 1 < s then f + s - D + 1 else s) else s
def rgs (o : Nat → Bool) (r : Bool) (s D m : Nat) : Nat → Nat
 | 0 => 0
 | e + 1 => (if o (s - (e + 1)) then cn o D (bpN r s D (s - (e + 1))) m (bpN r s D (s - (e + 1)) - (s - (e + 1) + D)) else 0) + rgs o r s D m e
theorem rgs_s (o : Nat → Bool) (r : Bool) (s D m e : Nat) : rgs o r s D m (e + 1) = (if o (s - (e + 1)) then cn o D (bpN r s D (s - (e + 1))) m (bpN r s D (s - (e + 1)) - (s - (e + 1) + D)) else 0) + rgs o r s D m e := rfl
theorem bpN_le (r : Bool) (s D f : Nat) : bpN r s D f ≤ s := by unfold bpN; split <;> (try split) <;> omega
theorem cn24 (o : Nat → Bool) (D b m e : Nat) (hD : 1 ≤ D) (he : e ≤ 24) : cn o D b m e ≤ 16777216 := Nat.le_trans (cn_le o D b hD m e) (Nat.pow_le_pow_right (n := 2) (by decide) he)
theorem rgs_le (o : Nat → Bool) (r : Bool) (s D m : Nat) (hs : s ≤ 24) (hD : 1 ≤ D) : ∀ e, rgs o r s D m e ≤ e * 16777216 := by
 intro e
 induction e with
 | zero => exact Nat.le_refl _
 | succ e ih =>
  rw [rgs_s]
  have h1 := cn24 o D (bpN r s D (s - (e + 1))) m (bpN r s D (s - (e + 1)) - (s - (e + 1) + D)) hD (by have := bpN_le r s D (s - (e + 1)); omega)
  split <;> omega
theorem rgs_line (o : Nat → Bool) (s D m : Nat) : ∀ e, e ≤ s → rgs o false s D m e = cn o D s (m + 1) e := by
 intro e
 induction e with
 | zero => intro _; rw [cn_s0]; rfl
 | succ e ih =>
  intro he
  rw [cn_ss, ← ih (by omega), rgs_s]
  have hb : bpN false s D (s - (e + 1)) = s := by unfold bpN; rw [if_neg (by decide)]
  rw [hb, show s - (s - (e + 1) + D) = e + 1 - D by omega]
/-- the numbers of choices -/
def totN (o : Nat → Bool) (r : Bool) (s D : Nat) : Nat → Nat
 | 0 => 1
 | m + 1 => rgs o r s D m s
theorem gapD (s g d : Int) (D : Nat) (hs : s ≤ 24) (hg : g ≤ s - 1) (hD : (D : Int) = if d < s then d else s) : g ≥ mn d 25 ↔ (D : Int) ≤ g := by
 have := mn25 g d (by omega)
 split at hD <;> omega
theorem follows_ev (s : Int) (r : Bool) (tk : List Int) (d : Int) (sn : Nat) (hsn : s = (sn : Int)) (hs : 2 ≤ sn ∧ sn ≤ 24) (hl : ∀ x ∈ tk, 0 ≤ x ∧ x < s) (hsort : tk.Pairwise (· < ·)) (ht : tk.length ≤ 35184372088832) (D : Nat) (hD1 : 1 ≤ D) (hD : (D : Int) = if d < s then d else s)
  (f la p : Nat) (hf : f ≤ la) (hla : la < p) (hp : p < sn) : Ev (fun k => impl_spacing_follows.f k s r tk (mn d 25) (f : Int) (la : Int) (p : Int)) (canB s r tk d (p : Int) && decide (la + D ≤ p ∧ p < bpN r sn D f)) := by
 subst hsn
 unfold impl_spacing_follows.f
 refine Ev.bind (can_ev (sn : Int) r tk d (p : Int) (by omega) (by omega) hl hsort ht) ?_
 cases hc : canB (sn : Int) r tk d (p : Int) with
 | false => exact Ev.neg (by decide) (Ev.now _)
 | true =>
  have g1 := gp_lt (sn : Int) r (la : Int) (p : Int) (by omega) (by omega)
  have g2 := gp_lt (sn : Int) r (f : Int) (p : Int) (by omega) (by omega)
  have e1 := gapD (sn : Int) _ d D (by omega) g1 hD
  have e2 := gapD (sn : Int) _ d D (by omega) g2 hD
  have key : ((D : Int) ≤ gp (sn : Int) r (la : Int) (p : Int) ∧ (D : Int) ≤ gp (sn : Int) r (f : Int) (p : Int)) ↔ (la + D ≤ p ∧ p < bpN r sn D f) := by
   have hDs : D ≤ sn := by split at hD <;> omega
   unfold gp bpN
   have m1 : mx ((la : Int) - (p : Int)) ((p : Int) - (la : Int)) = (p : Int) - la := by unfold mx; split <;> omega
   have m2 : mx ((f : Int) - (p : Int)) ((p : Int) - (f : Int)) = (p : Int) - f := by unfold mx; split <;> omega
   rw [m1, m2]
   cases r with
   | true => simp only [if_true]; unfold mn; split <;> split <;> split <;> omega
   | false => simp only [Bool.false_eq_true, if_false]; omega
  refine Ev.pos rfl (Ev.neg (by omega) (Ev.pos (by omega) (Ev.bindc (bench_gap_eq (sn : Int) r (la : Int) (p : Int) (by omega) (by omega) (by omega)) ?_)))
  rw [Bool.true_and]
  by_cases c : gp (sn : Int) r (la : Int) (p : Int) ≥ mn d 25
  ·refine Ev.pos c (Ev.bindc (bench_gap_eq (sn : Int) r (f : Int) (p : Int) (by omega) (by omega) (by omega)) ?_)
   rw [show decide (gp (sn : Int) r (f : Int) (p : Int) ≥ mn d 25) = decide (la + D ≤ p ∧ p < bpN r sn D f) from by
    rw [Bool.eq_iff_iff, decide_eq_true_eq, decide_eq_true_eq]
    exact ⟨fun h => key.mp ⟨e1.mp c, e2.mp h⟩, fun h => e2.mpr (key.mpr h).2⟩]
   exact Ev.now _
  ·rw [decide_eq_false (fun h => c (e1.mpr (key.mpr h).1))]
   exact Ev.neg c (Ev.now _)
def mxN (a b : Nat) : Nat := if a < b then b else a
theorem cn_skip (o : Nat → Bool) (D B m p a : Nat) (h : ¬ (o p = true ∧ a ≤ p ∧ p < B)) : cn o D B (m + 1) (B - mxN p a) = cn o D B (m + 1) (B - mxN (p + 1) a) := by
 by_cases c1 : p < a
 ·have e : mxN p a = mxN (p + 1) a := by unfold mxN; split <;> split <;> omega
  rw [e]
 ·by_cases c2 : B ≤ p
  ·rw [show B - mxN p a = 0 by unfold mxN; split <;> omega, show B - mxN (p + 1) a = 0 by unfold mxN; split <;> omega]
  ·obtain ⟨e', he'⟩ : ∃ e', B - mxN p a = e' + 1 := ⟨B - p - 1, by unfold mxN; split <;> omega⟩
   have h2 : B - mxN (p + 1) a = e' := by unfold mxN at he' ⊢; split at he' <;> split <;> omega
   have h3 : B - (e' + 1) = p := by unfold mxN at he'; split at he' <;> omega
   have h4 : ¬ (o p = true) := fun h5 => h ⟨h5, by omega, by omega⟩
   rw [he', h2, cn_ss, h3, if_neg h4, Nat.zero_add]
theorem cn_take (o : Nat → Bool) (D B m p a : Nat) (h : o p = true ∧ a ≤ p ∧ p < B) : cn o D B (m + 1) (B - mxN p a) = cn o D B m (B - (p + D)) + cn o D B (m + 1) (B - mxN (p + 1) a) := by
 obtain ⟨e', he'⟩ : ∃ e', B - mxN p a = e' + 1 := ⟨B - p - 1, by unfold mxN; split <;> omega⟩
 have h2 : B - mxN (p + 1) a = e' := by unfold mxN at he' ⊢; split at he' <;> split <;> omega
 have h3 : B - (e' + 1) = p := by unfold mxN at he'; split at he' <;> omega
 rw [he', h2, cn_ss, h3, if_pos h.1, show e' + 1 - D = B - (p + D) by omega]
section
variable {s : Int} {r : Bool} {tk : List Int} {d : Int} {sn D : Nat}
theorem count_in (hsn : s = (sn : Int)) (hs : 2 ≤ sn ∧ sn ≤ 24) (hl : ∀ x ∈ tk, 0 ≤ x ∧ x < s) (hsort : tk.Pairwise (· < ·)) (ht : tk.length ≤ 35184372088832) (hD1 : 1 ≤ D) (hD : (D : Int) = if d < s then d else s) :
  ∀ (m f la : Nat), m ≤ 30 → f ≤ la → la < sn → Ev (fun k => impl_spacing_count.f k s r tk (mn d 25) (f : Int) (la : Int) (m : Int)) ((cn (fun p : Nat => canB s r tk d (p : Int)) D (bpN r sn D f) m (bpN r sn D f - (la + D)) : Nat) : Int) := by
 intro m
 induction m with
 | zero =>
  intro f la _ _ _
  refine Ev.succ ?_
  simp only [impl_spacing_count.f.eq_2]
  rw [cn_0]
  exact Ev.pos rfl (Ev.now _)
 | succ m ihm =>
  intro f la hm hf hla
  have hB := bpN_le r sn D f
  generalize hO : (fun p : Nat => canB s r tk d (p : Int)) = o at ihm ⊢
  have lp : ∀ n p acc, la + 1 ≤ p → p + n = sn → acc + cn o D (bpN r sn D f) (m + 1) (bpN r sn D f - mxN p (la + D)) < 1099511627776 → Ev (fun k => impl_spacing_count.l0 k s r tk (mn d 25) (f : Int) (la : Int) ((m + 1 : Nat) : Int) (p : Int) (acc : Int)) ((acc + cn o D (bpN r sn D f) (m + 1) (bpN r sn D f - mxN p (la + D)) : Nat) : Int) := by
   intro n
   induction n with
   | zero =>
    intro p acc h1 h2 h3
    refine Ev.succ ?_
    simp only [impl_spacing_count.l0.eq_2]
    rw [show bpN r sn D f - mxN p (la + D) = 0 by unfold mxN; split <;> omega, cn_s0, Nat.add_zero]
    exact Ev.neg (by omega) (Ev.now _)
   | succ n ih =>
    intro p acc h1 h2 h3
    refine Ev.succ ?_
    simp only [impl_spacing_count.l0.eq_2]
    have hfo := follows_ev s r tk d sn hsn hs hl hsort ht D hD1 hD f la p hf (by omega) (by omega)
    have hop : canB s r tk d (p : Int) = o p := by rw [← hO]
    rw [hop] at hfo
    refine Ev.pos (by omega) (Ev.bind hfo ?_)
    by_cases c : o p = true ∧ la + D ≤ p ∧ p < bpN r sn D f
    ·have ht2 := cn_take o D (bpN r sn D f) m p (la + D) c
     rw [c.1, decide_eq_true c.2]
     have hh : impl_spacing_head.f (f : Int) (p : Int) = some (f : Int) := by unfold impl_spacing_head.f; rw [if_neg (by omega)]
     have hi := ihm f p (by omega) (by omega) (by omega)
     refine Ev.pos rfl (Ev.bindc hh ?_)
     rw [w64 (n := ((m + 1 : Nat) : Int) - 1) (by omega) (by omega), show ((m + 1 : Nat) : Int) - 1 = (m : Int) by omega]
     refine Ev.bind hi ?_
     rw [ht2] at h3 ⊢
     have nxt := ih (p + 1) (acc + cn o D (bpN r sn D f) m (bpN r sn D f - (p + D))) (by omega) (by omega) (by omega)
     rw [w64 (n := (p : Int) + 1) (by omega) (by omega), w64 (n := (acc : Int) + _) (by omega) (by omega)]
     rw [Nat.add_assoc] at nxt
     rw [show (acc : Int) + ((cn o D (bpN r sn D f) m (bpN r sn D f - (p + D)) : Nat) : Int) = ((acc + cn o D (bpN r sn D f) m (bpN r sn D f - (p + D)) : Nat) : Int) by omega]
     exact nxt
    ·have hk := cn_skip o D (bpN r sn D f) m p (la + D) c
     have hv : (o p && decide (la + D ≤ p ∧ p < bpN r sn D f)) = false := by
      cases ho : o p with
      | false => rfl
      | true => rw [Bool.true_and]; exact decide_eq_false (fun h => c ⟨ho, h⟩)
     rw [hv]
     rw [hk] at h3 ⊢
     rw [w64 (n := (p : Int) + 1) (by omega) (by omega)]
     exact Ev.neg (by decide) (ih (p + 1) acc (by omega) (by omega) h3)
  refine Ev.succ ?_
  simp only [impl_spacing_count.f.eq_2]
  have hb := cn24 o D (bpN r sn D f) (m + 1) (bpN r sn D f - mxN (la + 1) (la + D)) hD1 (by omega)
  have h0 := lp (sn - (la + 1)) (la + 1) 0 (by omega) (by omega) (by omega)
  have hmx : mxN (la + 1) (la + D) = la + D := by unfold mxN; split <;> omega
  rw [hmx, Nat.zero_add] at h0
  refine Ev.neg (by omega) (Ev.pos (by omega) ?_)
  rw [w64 (n := (la : Int) + 1) (by omega) (by omega)]
  exact h0
theorem count_top (hsn : s = (sn : Int)) (hs : 2 ≤ sn ∧ sn ≤ 24) (hl : ∀ x ∈ tk, 0 ≤ x ∧ x < s) (hsort : tk.Pairwise (· < ·)) (ht : tk.length ≤ 35184372088832) (hD1 : 1 ≤ D) (hD : (D : Int) = if d < s then d else s) (m : Nat) (hm : m ≤ 30) :
  Ev (fun k => impl_spacing_count.f k s r tk (mn d 25) (-1) (-1) (m : Int)) ((totN (fun p : Nat => canB s r tk d (p : Int)) r sn D m : Nat) : Int) := by
 cases m with
 | zero =>
  refine Ev.succ ?_
  simp only [impl_spacing_count.f.eq_2]
  exact Ev.pos rfl (Ev.now _)
 | succ m =>
  have hci := fun p (hp : p < sn) => count_in (r := r) hsn hs hl hsort ht hD1 hD m p p (by omega) (Nat.le_refl _) hp
  generalize hO : (fun p : Nat => canB s r tk d (p : Int)) = o at hci ⊢
  have lp : ∀ n p acc, p + n = sn → acc + rgs o r sn D m n < 1099511627776 → Ev (fun k => impl_spacing_count.l0 k s r tk (mn d 25) (-1) (-1) ((m + 1 : Nat) : Int) (p : Int) (acc : Int)) ((acc + rgs o r sn D m n : Nat) : Int) := by
   intro n
   induction n with
   | zero =>
    intro p acc h2 h3
    refine Ev.succ ?_
    simp only [impl_spacing_count.l0.eq_2]
    exact Ev.neg (by omega) (Ev.now _)
   | succ n ih =>
    intro p acc h2 h3
    refine Ev.succ ?_
    simp only [impl_spacing_count.l0.eq_2]
    have hop : canB s r tk d (p : Int) = o p := by rw [← hO]
    have hfo : Ev (fun k => impl_spacing_follows.f k s r tk (mn d 25) (-1) (-1) (p : Int)) (o p) := by
     unfold impl_spacing_follows.f
     refine Ev.bind (can_ev s r tk d (p : Int) (by omega) (by omega) hl hsort ht) ?_
     rw [hop]
     cases o p with
     | false => exact Ev.neg (by decide) (Ev.now _)
     | true => exact Ev.pos rfl (Ev.pos (by omega) (Ev.now _))
    refine Ev.pos (by omega) (Ev.bind hfo ?_)
    have hps : sn - (n + 1) = p := by omega
    rw [rgs_s, hps] at h3 ⊢
    rw [w64 (n := (p : Int) + 1) (by omega) (by omega)]
    cases ho : o p with
    | false =>
     rw [ho] at h3
     rw [if_neg (by decide), Nat.zero_add] at h3 ⊢
     exact Ev.neg (by decide) (ih (p + 1) acc (by omega) h3)
    | true =>
     rw [ho] at h3
     rw [if_pos rfl] at h3 ⊢
     have hh : impl_spacing_head.f (-1) (p : Int) = some (p : Int) := by unfold impl_spacing_head.f; rw [if_pos (by omega)]
     refine Ev.pos rfl (Ev.bindc hh ?_)
     rw [w64 (n := ((m + 1 : Nat) : Int) - 1) (by omega) (by omega), show ((m + 1 : Nat) : Int) - 1 = (m : Int) by omega]
     refine Ev.bind (hci p (by omega)) ?_
     have nxt := ih (p + 1) (acc + cn o D (bpN r sn D p) m (bpN r sn D p - (p + D))) (by omega) (by omega)
     rw [w64 (n := (acc : Int) + _) (by omega) (by omega)]
     rw [Nat.add_assoc] at nxt
     rw [show (acc : Int) + ((cn o D (bpN r sn D p) m (bpN r sn D p - (p + D)) : Nat) : Int) = ((acc + cn o D (bpN r sn D p) m (bpN r sn D p - (p + D)) : Nat) : Int) by omega]
     exact nxt
  refine Ev.succ ?_
  simp only [impl_spacing_count.f.eq_2]
  have hb := rgs_le o r sn D m hs.2 hD1 sn
  have h0 : Ev (fun k => impl_spacing_count.l0 k s r tk (mn d 25) (-1) (-1) ((m + 1 : Nat) : Int) 0 0) ((0 + rgs o r sn D m sn : Nat) : Int) := lp sn 0 0 (by omega) (by omega)
  rw [Nat.zero_add] at h0
  refine Ev.neg (by omega) (Ev.pos (by omega) ?_)
  rw [show wrap64 (-1 + 1) = 0 from by unfold wrap64; omega]
  exact h0
end
theorem within24a (m : Int) : impl_within.f m 1 24 = some (decide (1 ≤ m ∧ m ≤ 24)) := by
 unfold impl_within.f
 by_cases c : m ≥ 1
 ·rw [if_pos c]; congr 1; rw [Bool.eq_iff_iff, decide_eq_true_eq, decide_eq_true_eq]; omega
 ·rw [if_neg c, decide_eq_false (by omega)]
section
variable {s : Int} {r : Bool} {tk : List Int} {mm sn : Nat} {T : Nat → Nat}
theorem gs_dn (hs : sn ≤ 24) (q : Nat) (hq : 1 ≤ q) (c2 : ∀ x : Nat, 1 ≤ x → x ≤ sn → Ev (fun k => impl_spacing_count.f k s r tk (mn (x : Int) 25) (-1) (-1) (mm : Int)) ((T x : Nat) : Int)) (hq3 : 0 < T q) (h0 : ∀ x : Nat, q < x → x ≤ sn → ¬ 0 < T x) :
  ∀ n x : Nat, q + n = x → x ≤ sn → Ev (fun k => impl_GreatestSpread.l0 k s r tk (mm : Int) (x : Int)) ((q : Int), true) := by
 intro n
 induction n with
 | zero =>
  intro x h3 h4
  obtain rfl : q = x := by omega
  refine Ev.succ ?_
  simp only [impl_GreatestSpread.l0.eq_2]
  exact Ev.pos (by omega) (Ev.bind (c2 q hq h4) (Ev.pos (by omega) (Ev.now _)))
 | succ n ih =>
  intro x h3 h4
  have h5 := h0 x (by omega) h4
  refine Ev.succ ?_
  simp only [impl_GreatestSpread.l0.eq_2]
  have hx := ih (x - 1) (by omega) (by omega)
  rw [w64 (n := (x : Int) - 1) (by omega) (by omega), show (x : Int) - 1 = ((x - 1 : Nat) : Int) by omega]
  exact Ev.pos (by omega) (Ev.bind (c2 x (by omega) h4) (Ev.neg (by omega) hx))
end
/-- the numbers below N that are not in a list -/
def restL (N : Nat) (b : List Int) : List Int := ((List.range N).filter (fun j : Nat => !decide ((j : Int) ∈ b))).map (fun j : Nat => (j : Int))
theorem restL_len (N : Nat) (b : List Int) : (restL N b).length ≤ N := by
 unfold restL; rw [List.length_map]; have := List.length_filter_le (fun j : Nat => !decide ((j : Int) ∈ b)) (List.range N); rw [List.length_range] at this; exact this
theorem restL_succ (s : Nat) (b : List Int) : restL (s + 1) b = restL s b ++ (if (s : Int) ∈ b then [] else [(s : Int)]) := by
 unfold restL
 rw [List.range_succ, List.filter_append, List.map_append]
 congr 1
 by_cases c : (s : Int) ∈ b
 ·rw [if_pos c]; simp [c]
 ·rw [if_neg c]; simp [c]
theorem l2Is_ev (s : Int) (r : Bool) (l : List Int) (p : Int) (hl : l.length ≤ 35184372088832) : Ev (fun k => spec_l2Is.f k s r l p) (decide (p ∈ l)) := by
 unfold spec_l2Is.f
 exact Ev.bind (f := fun _ t => some t) (has_ev l p hl) (Ev.now _)
theorem l2Free_loop (n : Nat) (r : Bool) (l : List Int) (hN : n ≤ 100) (hl : l.length ≤ 35184372088832) : ∀ d s, s + d = n → Ev (fun k => spec_l2Free.l0 k (restL s l) (s : Int) (n : Int) r l) (restL n l) := by
 intro d
 induction d with
 | zero =>
  intro s hs
  obtain rfl : s = n := by omega
  refine Ev.succ ?_
  simp only [spec_l2Free.l0.eq_2]
  exact Ev.neg (by omega) (Ev.now _)
 | succ d ih =>
  intro s hs
  refine Ev.succ ?_
  simp only [spec_l2Free.l0.eq_2]
  have hlen := restL_len s l
  have h1 := ih (s + 1) (by omega)
  rw [restL_succ] at h1
  refine Ev.pos (by omega) (Ev.bind (l2Is_ev (n : Int) r l (s : Int) hl) ?_)
  rw [w64 (by omega) (by omega)]
  by_cases c : (s : Int) ∈ l
  ·rw [if_pos c, List.append_nil] at h1
   exact Ev.pos (decide_eq_true c) h1
  ·rw [if_neg c] at h1
   exact Ev.neg (by simpa using c) (Ev.pos (by omega) h1)
theorem l2Free_ev (n : Nat) (r : Bool) (l : List Int) (hN : n ≤ 100) (hl : l.length ≤ 35184372088832) : Ev (fun k => spec_l2Free.f k (n : Int) r l) (restL n l) := by
 unfold spec_l2Free.f
 exact l2Free_loop n r l hN hl n 0 (by omega)
/-- a list of bytes -/
def Bytes8 (l : List Int) : Prop := ∀ x ∈ l, 0 ≤ x ∧ x ≤ 255
theorem and255 (x : Int) (h0 : 0 ≤ x) (h1 : x < 4294967296) : 0 ≤ Go.bits .and .u64 x 255 ∧ Go.bits .and .u64 x 255 ≤ 255 := by
 have h := (bits_nat .u64 64 (by decide) (fun n h0 h1 => by rw [IntKind.wrap_u64]; omega) x.toNat 255 (by omega) (by omega)).1
 rw [Int.toNat_of_nonneg h0] at h
 rw [show (255 : Int) = ((255 : Nat) : Int) from rfl, h]
 have := Nat.and_le_right (n := x.toNat) (m := 255)
 omega
theorem u64_range (x : Int) : 0 ≤ IntKind.u64.wrap x ∧ IntKind.u64.wrap x < 18446744073709551616 := by
 rw [IntKind.wrap_u64]; omega
theorem next_ok (s : List Int) (hs : Bytes8 s) (hl : s.length ≤ 1000000) (p st : Int) (h0 : 0 ≤ p) (h1 : p ≤ 1000000) :
  ∃ v q, spec_l1Cur_next.f s p st = some (v, p + 1, q) ∧ 0 ≤ v ∧ v ≤ 255 := by
 unfold spec_l1Cur_next.f
 have hw : wrap64 (p + 1) = p + 1 := w64 (by omega) (by omega)
 rw [hw]
 have hand : ∀ y : Int, 0 ≤ wrap64 (Go.bits .and .u64 (IntKind.u64.wrap y / 1099511627776) 255) ∧ wrap64 (Go.bits .and .u64 (IntKind.u64.wrap y / 1099511627776) 255) ≤ 255 := fun y => by
  have h := u64_range y
  have := and255 (IntKind.u64.wrap y / 1099511627776) (by omega) (by omega)
  rw [w64 (by omega) (by omega)]; exact this
 by_cases c : p < (s.length : Int)
 ·rw [if_pos c, if_pos h0]
  have hm : rd s p ∈ s := by
   obtain ⟨n, rfl⟩ : ∃ n : Nat, p = (n : Int) := ⟨p.toNat, by omega⟩
   rw [rd_nat s n (by omega)]; exact List.getElem_mem _
  have hv := hs _ hm
  by_cases d : p + 1 ≤ (s.length : Int)
  ·rw [if_pos d]; exact ⟨_, _, rfl, by rw [w64 (by omega) (by omega)]; exact hv⟩
  ·rw [if_neg d]; exact ⟨_, _, rfl, hand _⟩
 ·rw [if_neg c]
  by_cases d : p + 1 ≤ (s.length : Int)
  ·rw [if_pos d]; exact ⟨_, _, rfl, by omega, by omega⟩
  ·rw [if_neg d]; exact ⟨_, _, rfl, hand _⟩
theorem pick_ok (s : List Int) (hs : Bytes8 s) (hl : s.length ≤ 1000000) (p st a : Int) (h0 : 0 ≤ p) (h1 : p ≤ 1000000) (ha : a ≤ 200) :
  ∃ v p' q, spec_l1Cur_pick.f s p st a = some (v, p', q) ∧ 0 ≤ v ∧ (v < a ∨ v = 0) ∧ p ≤ p' ∧ p' ≤ p + 1 := by
 unfold spec_l1Cur_pick.f
 by_cases c : a ≤ 1
 ·rw [if_pos c]; exact ⟨_, _, _, rfl, by omega, .inr rfl, by omega, by omega⟩
 ·rw [if_neg c]
  obtain ⟨v, q, e, hv0, hv1⟩ := next_ok s hs hl p st h0 h1
  rw [e]
  simp only [Option.bind_some]
  rw [if_neg (by omega), if_neg (by omega)]
  refine ⟨_, _, _, rfl, Int.tmod_nonneg _ hv0, .inl ?_, by omega, by omega⟩
  exact Int.tmod_lt_of_pos _ (by omega)
theorem among_ok (s : List Int) (hs : Bytes8 s) (hl : s.length ≤ 1000000) (p st : Int) (l : List Int) (h0 : 0 ≤ p) (h1 : p ≤ 1000000) (hn : 0 < l.length) (hm : l.length ≤ 200) :
  ∃ v p' q, spec_l1Cur_among.f s p st l = some (v, p', q) ∧ v ∈ l ∧ p ≤ p' ∧ p' ≤ p + 1 := by
 unfold spec_l1Cur_among.f
 obtain ⟨v, p', q, e, hv0, hv1, hp0, hp1⟩ := pick_ok s hs hl p st (l.length : Int) h0 h1 (by omega)
 rw [e]
 simp only [Option.bind_some]
 have hv : v < (l.length : Int) := by omega
 rw [if_pos hv0, if_pos hv]
 refine ⟨_, _, _, rfl, ?_, hp0, hp1⟩
 obtain ⟨n, rfl⟩ : ∃ n : Nat, v = (n : Int) := ⟨v.toNat, by omega⟩
 rw [rd_nat l n (by omega)]; exact List.getElem_mem _
theorem taken_ev (S : Int) (r : Bool) (l : List Int) (h32 : ∀ x ∈ l, 0 ≤ x ∧ x < 32) (hL : l.length ≤ 1000) : Ev (fun k => impl_Row_taken.f k S r l) ((setN l : Nat) : Int) := by
 unfold impl_Row_taken.f
 exact Ev.bind (f := fun _ t => some t) (setOf_ev l h32 (by omega)) (Ev.now _)
theorem vInts_refl (l : List Int) (hL : l.length ≤ 1000000) : Ev (fun k => laws_vInts.f k l l) true := by
 have key : ∀ n i, i + n = l.length → Ev (fun k => laws_vInts.l0 k l l (i : Int)) true := by
  intro n
  induction n with
  | zero =>
   intro i hi
   refine Ev.succ ?_
   simp only [laws_vInts.l0.eq_2]
   exact Ev.neg (by omega) (Ev.now _)
  | succ n ih =>
   intro i hi
   refine Ev.succ ?_
   simp only [laws_vInts.l0.eq_2]
   rw [w64 (n := (i : Int) + 1) (by omega) (by omega)]
   exact Ev.pos (by omega) (Ev.pos (by omega) (Ev.pos (by omega) (Ev.pos trivial (ih (i + 1) (by omega)))))
 unfold laws_vInts.f
 exact Ev.pos rfl (key l.length 0 (by omega))
theorem vRow_refl (S : Int) (r : Bool) (l : List Int) (hL : l.length ≤ 1000000) : Ev (fun k => laws_vRow.f k S r l S r l) true := by
 unfold laws_vRow.f
 exact Ev.pos rfl (Ev.pos (by simp) (Ev.bind (vInts_refl l hL) (Ev.now _)))
theorem vHas_mem (l : List Int) (x : Int) (hL : l.length ≤ 1000000) (hx : x ∈ l) : Ev (fun k => laws_vHas.f k l x) true := by
 have key : ∀ n i, i + n = l.length → x ∈ l.drop i → Ev (fun k => laws_vHas.l0 k l x (i : Int)) true := by
  intro n
  induction n with
  | zero => intro i hi h; rw [List.drop_eq_nil_of_le (by omega)] at h; cases h
  | succ n ih =>
   intro i hi h
   refine Ev.succ ?_
   simp only [laws_vHas.l0.eq_2]
   rw [rd_nat l i (by omega), w64 (n := (i : Int) + 1) (by omega) (by omega)]
   refine Ev.pos (by omega) (Ev.pos (by omega) ?_)
   by_cases c : l[i] = x
   ·exact Ev.pos c (Ev.now _)
   ·refine Ev.neg c (ih (i + 1) (by omega) ?_)
    rw [List.drop_eq_getElem_cons (by omega)] at h
    rcases List.mem_cons.mp h with e | e
    ·exact absurd e.symm c
    ·exact e
 unfold laws_vHas.f
 exact key l.length 0 (by omega) hx
theorem vCut_ok (l : List Int) (hs : Bytes8 l) (hl : l.length ≤ 65536) : ∃ c, laws_vCut.f l 1 = some c ∧ Bytes8 c ∧ c.length ≤ 65537 := by
 unfold laws_vCut.f
 by_cases c : (1 : Int) > (l.length : Int)
 ·have h0 : l = [] := List.length_eq_zero_iff.mp (by omega)
  subst h0
  exact ⟨[0], rfl, fun x hx => by simp at hx; omega, by simp⟩
 ·rw [if_neg c]
  simp only [Option.bind_some, List.nil_append, List.length_nil]
  rw [if_pos (by omega), if_pos (by omega), if_pos (by simp only [List.length_drop]; omega), if_pos (by simp only [List.length_drop]; omega)]
  refine ⟨_, rfl, fun x hx => ?_, by simp only [List.length_append, List.length_drop, List.length_singleton]; omega⟩
  rcases List.mem_append.mp hx with h | h
  ·exact hs x (List.mem_of_mem_drop h)
  ·simp at h; omega
theorem one_ok (s : List Int) (hs : Bytes8 s) (hl : s.length ≤ 1000000) (p st a : Int) (h0 : 0 ≤ p) (h1 : p ≤ 1000000) (ha : a ≤ 200) :
  ∃ b p' q, spec_l1Cur_one.f s p st a = some (b, p', q) ∧ p ≤ p' ∧ p' ≤ p + 1 := by
 obtain ⟨v, p', q, e, _, _, h2, h3⟩ := pick_ok s hs hl p st a h0 h1 ha
 refine ⟨v == 0, p', q, ?_, h2, h3⟩
 unfold spec_l1Cur_one.f
 rw [e]; rfl
theorem seats_ok (s : List Int) (hs : Bytes8 s) (hl : s.length ≤ 1000000) (p st : Int) (h0 : 0 ≤ p) (h1 : p ≤ 900000) :
  ∃ v p' q, spec_l1Cur_seats.f s p st = some (v, p', q) ∧ p ≤ p' ∧ p' ≤ p + 2 := by
 obtain ⟨b, p1, q1, e1, h2, h3⟩ := one_ok s hs hl p st 40 h0 (by omega) (by decide)
 unfold spec_l1Cur_seats.f
 rw [e1]
 simp only [Option.bind_some]
 by_cases c : b = true
 ·obtain ⟨v, p2, q2, e2, _, h4, h5⟩ := among_ok s hs hl p1 q1 [1, 2, 24, 25, 0, (-1), 4611686018427387904] (by omega) (by omega) (by decide) (by decide)
  rw [if_pos c, e2]
  exact ⟨v, p2, q2, rfl, by omega, by omega⟩
 ·obtain ⟨v, p2, q2, e2, _, h4, h5⟩ := among_ok s hs hl p1 q1 [6, 8, 5, 10, 7, 3, 12, 4, 20, 24] (by omega) (by omega) (by decide) (by decide)
  rw [if_neg c, e2]
  exact ⟨v, p2, q2, rfl, by omega, by omega⟩
theorem freeRow_ok (s : List Int) (hs : Bytes8 s) (hl : s.length ≤ 1000000) (p st : Int) (h0 : 0 ≤ p) (h1 : p ≤ 800000) :
  ∃ v b p' q, spec_l1Cur_freeRow.f s p st = some (v, b, ([] : List Int), p', q) ∧ p ≤ p' ∧ p' ≤ p + 4 := by
 obtain ⟨v, p1, q1, e1, h2, h3⟩ := seats_ok s hs hl p st h0 (by omega)
 obtain ⟨b, p2, q2, e2, h4, h5⟩ := one_ok s hs hl p1 q1 2 (by omega) (by omega) (by decide)
 obtain ⟨b3, p3, q3, e3, h6, h7⟩ := one_ok s hs hl p2 q2 4 (by omega) (by omega) (by decide)
 unfold spec_l1Cur_freeRow.f
 rw [e1]
 simp only [Option.bind_some]
 rw [e2]
 simp only [Option.bind_some]
 by_cases c : b = true
 ·rw [if_pos c]
  by_cases c2 : v = 2
  ·rw [if_pos c2, e3]
   simp only [Option.bind_some]
   by_cases c3 : b3 = true
   ·rw [if_pos c3]; exact ⟨_, _, _, _, rfl, by omega, by omega⟩
   ·rw [if_neg c3]; exact ⟨_, _, _, _, rfl, by omega, by omega⟩
  ·rw [if_neg c2]; exact ⟨_, _, _, _, rfl, by omega, by omega⟩
 ·rw [if_neg c]; exact ⟨_, _, _, _, rfl, by omega, by omega⟩
theorem row3_ok (s : List Int) (hs : Bytes8 s) (hl : s.length ≤ 1000000) (p st : Int) (h0 : 0 ≤ p) (h1 : p ≤ 800000) (S : Int) (R : Bool) (l : List Int) (hL : l.length ≤ 30) :
  ∃ q : Int × Bool × List Int × Int × Int, Ev (fun k => spec_l1Cur_row.j3 k s p st S R l) q ∧ q.2.2.1.length ≤ 31 ∧ p ≤ q.2.2.2.1 ∧ q.2.2.2.1 ≤ p + 2 := by
 obtain ⟨b, p1, q1, e1, h2, h3⟩ := one_ok s hs hl p st 40 h0 (by omega) (by decide)
 obtain ⟨v, p2, q2, e2, _, h4, h5⟩ := among_ok s hs hl p1 q1 [(-1), 0, S, 4611686018427387904] (by omega) (by omega) (by simp) (by simp)
 by_cases c : b = true
 ·refine ⟨(S, R, l ++ [v], p2, q2), Ev.succ ?_, ?_⟩
  ·simp only [spec_l1Cur_row.j3.eq_2]
   exact Ev.bindc e1 (Ev.pos c (Ev.bindc e2 (Ev.pos (by omega) (Ev.now _))))
  ·simp only [List.length_append, List.length_singleton]; omega
 ·refine ⟨(S, R, l, p1, q1), Ev.succ ?_, ?_⟩
  ·simp only [spec_l1Cur_row.j3.eq_2]
   exact Ev.bindc e1 (Ev.neg c (Ev.now _))
  ·simp only; omega
theorem OtherSeats_some (S : Int) (R : Bool) (l : List Int) (h : IsRw S R l) : ∃ q : Int × Bool × List Int × Bool, Ev (fun k => spec_OtherSeats.f k S R l) q ∧ q.2.2.1.length ≤ 24 := by
 have hlen := rw_len h
 obtain ⟨m, rfl⟩ : ∃ m : Nat, S = (m : Int) := ⟨S.toNat, by have := h.1; omega⟩
 have hs := h.1
 refine ⟨((m : Int), R, restL m l, true), ?_, ?_⟩
 ·unfold spec_OtherSeats.f
  exact Ev.bind (l2Row_ev _ R l (by omega) true ⟨fun _ => h, fun _ => rfl⟩) (Ev.pos rfl (Ev.bind (l2Free_ev m R l (by omega) (by omega)) (Ev.bindc rfl (Ev.now _))))
 ·have := restL_len m l
  simp only; omega
theorem row2_ok (s : List Int) (hs : Bytes8 s) (hl : s.length ≤ 1000000) (p st : Int) (h0 : 0 ≤ p) (h1 : p ≤ 800000) (S : Int) (R : Bool) (l : List Int) (hL : l.length ≤ 30) (b : Bool) (hb : b = true → IsRw S R l) :
  ∃ q : Int × Bool × List Int × Int × Int, Ev (fun k => spec_l1Cur_row.j2 k b s p st S R l) q ∧ q.2.2.1.length ≤ 31 ∧ p ≤ q.2.2.2.1 ∧ q.2.2.2.1 ≤ p + 2 := by
 by_cases c : b = true
 ·obtain ⟨q, hq, hq2⟩ := OtherSeats_some S R l (hb c)
  obtain ⟨r, hr, hr2⟩ := row3_ok s hs hl p st h0 h1 q.1 q.2.1 q.2.2.1 (by omega)
  refine ⟨r, Ev.succ ?_, hr2⟩
  simp only [spec_l1Cur_row.j2.eq_2]
  exact Ev.pos c (Ev.bind hq hr)
 ·obtain ⟨r, hr, hr2⟩ := row3_ok s hs hl p st h0 h1 S R l hL
  refine ⟨r, Ev.succ ?_, hr2⟩
  simp only [spec_l1Cur_row.j2.eq_2]
  exact Ev.neg c hr
theorem row1f_ok (s : List Int) (hs : Bytes8 s) (hl : s.length ≤ 1000000) (p st : Int) (h0 : 0 ≤ p) (h1 : p ≤ 700000) (x4 x5 S : Int) (R : Bool) (l : List Int) (hL : l.length ≤ 30) :
  ∃ q : Int × Bool × List Int × Int × Int, Ev (fun k => spec_l1Cur_row.j1 k x4 x5 false s p st S R l) q ∧ q.2.2.1.length ≤ 31 ∧ p ≤ q.2.2.2.1 ∧ q.2.2.2.1 ≤ p + 3 := by
 obtain ⟨b, p1, q1, e1, h2, h3⟩ := one_ok s hs hl p st 6 h0 (by omega) (by decide)
 by_cases c : b = true
 ·obtain ⟨t, ht⟩ := exists_bool (IsRw S R l)
  obtain ⟨r, hr, hr2, hr3, hr4⟩ := row2_ok s hs hl p1 q1 (by omega) (by omega) S R l hL t ht.mp
  refine ⟨r, Ev.succ ?_, hr2, by omega, by omega⟩
  simp only [spec_l1Cur_row.j1.eq_2]
  exact Ev.neg (by decide) (Ev.bindc e1 (Ev.pos c (Ev.bind (l2Row_ev S R l (by omega) t ht) hr)))
 ·obtain ⟨r, hr, hr2, hr3, hr4⟩ := row2_ok s hs hl p1 q1 (by omega) (by omega) S R l hL false (fun h => by cases h)
  refine ⟨r, Ev.succ ?_, hr2, by omega, by omega⟩
  simp only [spec_l1Cur_row.j1.eq_2]
  exact Ev.neg (by decide) (Ev.bindc e1 (Ev.neg c hr))
theorem row0_ok (s : List Int) (hs : Bytes8 s) (hl : s.length ≤ 1000000) (x4 S : Int) (R : Bool) (h4 : x4 ≤ 200) : ∀ (n i : Nat) (l : List Int) (p st : Int), i + n = 25 → l.length ≤ i → 0 ≤ p → p ≤ 600000 - n →
  ∃ q : Int × Bool × List Int × Int × Int, Ev (fun k => spec_l1Cur_row.l0 k x4 (i : Int) s p st S R l) q ∧ q.2.2.1.length ≤ 31 ∧ p ≤ q.2.2.2.1 ∧ q.2.2.2.1 ≤ p + n + 3 := by
 intro n
 induction n with
 | zero =>
  intro i l p st hi hL h0 h1
  obtain ⟨r, hr, hr2, hr3, hr5⟩ := row1f_ok s hs hl p st h0 (by omega) x4 (i : Int) S R l (by omega)
  refine ⟨r, Ev.succ ?_, hr2, by omega, by omega⟩
  simp only [spec_l1Cur_row.l0.eq_2]
  by_cases c : (i : Int) < S
  ·rw [show decide ((i : Int) < 25) = false by simp; omega]
   exact Ev.pos c hr
  ·exact Ev.neg c hr
 | succ n ih =>
  intro i l p st hi hL h0 h1
  by_cases c : (i : Int) < S
  ·obtain ⟨b, p1, q1, e1, h2, h3⟩ := one_ok s hs hl p st x4 h0 (by omega) h4
   by_cases cb : b = true
   ·obtain ⟨r, hr, hr2, hr3, hr5⟩ := ih (i + 1) (l ++ [(i : Int)]) p1 q1 (by omega) (by simp; omega) (by omega) (by omega)
    refine ⟨r, Ev.succ ?_, hr2, by omega, by omega⟩
    simp only [spec_l1Cur_row.l0.eq_2]
    rw [show decide ((i : Int) < 25) = true by simp; omega]
    refine Ev.pos c (Ev.succ ?_)
    simp only [spec_l1Cur_row.j1.eq_2]
    rw [w64 (n := (i : Int) + 1) (by omega) (by omega)]
    exact Ev.pos trivial (Ev.bindc e1 (Ev.pos cb (Ev.pos (by omega) hr)))
   ·obtain ⟨r, hr, hr2, hr3, hr5⟩ := ih (i + 1) l p1 q1 (by omega) (by omega) (by omega) (by omega)
    refine ⟨r, Ev.succ ?_, hr2, by omega, by omega⟩
    simp only [spec_l1Cur_row.l0.eq_2]
    rw [show decide ((i : Int) < 25) = true by simp; omega]
    refine Ev.pos c (Ev.succ ?_)
    simp only [spec_l1Cur_row.j1.eq_2]
    rw [w64 (n := (i : Int) + 1) (by omega) (by omega)]
    exact Ev.pos trivial (Ev.bindc e1 (Ev.neg cb hr))
  ·obtain ⟨r, hr, hr2, hr3, hr5⟩ := row1f_ok s hs hl p st h0 (by omega) x4 (i : Int) S R l (by omega)
   refine ⟨r, Ev.succ ?_, hr2, by omega, by omega⟩
   simp only [spec_l1Cur_row.l0.eq_2]
   exact Ev.neg c hr
theorem row_ok (s : List Int) (hs : Bytes8 s) (hl : s.length ≤ 1000000) (p st : Int) (h0 : 0 ≤ p) (h1 : p ≤ 500000) :
  ∃ q : Int × Bool × List Int × Int × Int, Ev (fun k => spec_l1Cur_row.f k s p st) q ∧ q.2.2.1.length ≤ 31 ∧ p ≤ q.2.2.2.1 ∧ q.2.2.2.1 ≤ p + 40 := by
 obtain ⟨v, b, p1, q1, e1, h2, h3⟩ := freeRow_ok s hs hl p st h0 (by omega)
 obtain ⟨x, p2, q2, e2, hx, h4, h5⟩ := among_ok s hs hl p1 q1 [3, 2, 5] (by omega) (by omega) (by decide) (by decide)
 obtain ⟨r, hr, hr2, hr3, hr4⟩ := row0_ok s hs hl x v b (by simp only [List.mem_cons, List.not_mem_nil, or_false] at hx; omega) 25 0 [] p2 q2 (by omega) (by simp) (by omega) (by omega)
 refine ⟨r, ?_, hr2, by omega, by omega⟩
 unfold spec_l1Cur_row.f
 exact Ev.bindc e1 (Ev.bindc e2 hr)
theorem put_some (l : List Int) (x : Int) (hl : l.length ≤ 1000) : ∃ l' : List Int, Ev (fun k => spec_l1Put.f k l x) l' ∧ l'.length ≤ l.length + 1 := by
 have key : ∀ n i, i + n = l.length → ∃ l' : List Int, Ev (fun k => spec_l1Put.l0 k l x (i : Int)) l' ∧ l'.length ≤ l.length + 1 := by
  intro n
  induction n with
  | zero =>
   intro i hi
   refine ⟨(([] ++ l.take ((i : Int)).toNat) ++ [x]) ++ l.drop ((i : Int)).toNat, Ev.succ ?_, ?_⟩
   ·simp only [spec_l1Put.l0.eq_2]
    refine Ev.neg (by omega) (Ev.bindc rfl (Ev.pos (by omega) (Ev.pos (by omega) (Ev.bindc rfl (Ev.pos ?_ (Ev.bindc rfl (Ev.bindc rfl (Ev.pos ?_ (Ev.bindc rfl (Ev.bindc rfl (Ev.pos ?_ (Ev.now _)))))))))))) <;> (simp only [List.length_append, List.length_take, List.length_drop, List.length_singleton, List.length_nil]; omega)
   ·simp only [List.length_append, List.length_take, List.length_drop, List.length_singleton, List.length_nil]; omega
  | succ n ih =>
   intro i hi
   by_cases c1 : rd l (i : Int) < x
   ·obtain ⟨l', h1, h2⟩ := ih (i + 1) (by omega)
    refine ⟨l', Ev.succ ?_, h2⟩
    simp only [spec_l1Put.l0.eq_2]
    rw [w64 (n := (i : Int) + 1) (by omega) (by omega)]
    exact Ev.pos (by omega) (Ev.pos (by omega) (Ev.pos c1 h1))
   ·by_cases c2 : rd l (i : Int) = x
    ·refine ⟨l, Ev.succ ?_, by omega⟩
     simp only [spec_l1Put.l0.eq_2]
     exact Ev.pos (by omega) (Ev.pos (by omega) (Ev.neg c1 (Ev.pos c2 (Ev.now _))))
    ·refine ⟨(([] ++ l.take ((i : Int)).toNat) ++ [x]) ++ l.drop ((i : Int)).toNat, Ev.succ ?_, ?_⟩
     ·simp only [spec_l1Put.l0.eq_2]
      refine Ev.pos (by omega) (Ev.pos (by omega) (Ev.neg c1 (Ev.neg c2 (Ev.bindc rfl (Ev.pos (by omega) (Ev.bindc rfl (Ev.pos ?_ (Ev.bindc rfl (Ev.bindc rfl (Ev.pos ?_ (Ev.bindc rfl (Ev.bindc rfl (Ev.pos ?_ (Ev.now _)))))))))))))) <;> (simp only [List.length_append, List.length_take, List.length_drop, List.length_singleton, List.length_nil]; omega)
     ·simp only [List.length_append, List.length_take, List.length_drop, List.length_singleton, List.length_nil]; omega
 exact key l.length 0 (by omega)
theorem with_some (S : Int) (R : Bool) (l : List Int) (x : Int) (hl : l.length ≤ 1000) : ∃ l' : List Int, Ev (fun k => spec_l2With.f k S R l x) (S, R, l') ∧ l'.length ≤ l.length + 1 := by
 obtain ⟨l', h1, h2⟩ := put_some l x hl
 refine ⟨l', ?_, h2⟩
 unfold spec_l2With.f
 exact Ev.bindc (l1Own_eq l (by omega)) (Ev.bind h1 (Ev.bindc rfl (Ev.now _)))
theorem sparse0_ok (s : List Int) (hs : Bytes8 s) (hl : s.length ≤ 1000000) (S : Int) (R : Bool) : ∀ (n : Nat) (l : List Int) (p st : Int), l.length + n ≤ 30 → 0 ≤ p → p ≤ 600000 - n →
  ∃ q : Int × Bool × List Int × Int × Int, Ev (fun k => spec_l1Cur_sparse3.l0 k (n : Int) s p st S R l) q ∧ q.2.2.1.length ≤ 31 ∧ p ≤ q.2.2.2.1 ∧ q.2.2.2.1 ≤ p + n := by
 intro n
 induction n with
 | zero =>
  intro l p st hL h0 h1
  refine ⟨(S, R, l, p, st), Ev.succ ?_, by simp only; omega, by simp, by simp⟩
  simp only [spec_l1Cur_sparse3.l0.eq_2]
  refine Ev.neg (by omega) (Ev.succ ?_)
  simp only [spec_l1Cur_sparse3.j1.eq_2]
  exact Ev.neg (by decide) (Ev.now _)
 | succ n ih =>
  intro l p st hL h0 h1
  obtain ⟨t, ht⟩ := exists_bool (IsRw S R l)
  cases t with
  | true =>
   have hw := (ht.mp rfl).1
   obtain ⟨v, p1, q1, e1, _, _, h2, h3⟩ := pick_ok s hs hl p st S h0 (by omega) (by omega)
   obtain ⟨l', h4, h5⟩ := with_some S R l v (by omega)
   obtain ⟨r, hr, hr2, hr3, hr4⟩ := ih l' p1 q1 (by omega) (by omega) (by omega)
   refine ⟨r, Ev.succ ?_, hr2, by omega, by omega⟩
   simp only [spec_l1Cur_sparse3.l0.eq_2]
   refine Ev.pos (by omega) (Ev.bind (l2Row_ev S R l (by omega) true ht) (Ev.succ ?_))
   simp only [spec_l1Cur_sparse3.j1.eq_2]
   rw [w64 (n := ((n + 1 : Nat) : Int) - 1) (by omega) (by omega), show ((n + 1 : Nat) : Int) - 1 = (n : Int) by omega]
   exact Ev.pos trivial (Ev.bindc e1 (Ev.bind h4 hr))
  | false =>
   refine ⟨(S, R, l, p, st), Ev.succ ?_, by simp only; omega, by simp, by simp only; omega⟩
   simp only [spec_l1Cur_sparse3.l0.eq_2]
   refine Ev.pos (by omega) (Ev.bind (l2Row_ev S R l (by omega) false ht) (Ev.succ ?_))
   simp only [spec_l1Cur_sparse3.j1.eq_2]
   exact Ev.neg (by decide) (Ev.now _)
theorem sparse_ok (s : List Int) (hs : Bytes8 s) (hl : s.length ≤ 1000000) (p st : Int) (h0 : 0 ≤ p) (h1 : p ≤ 400000) :
  ∃ q : Int × Bool × List Int × Int × Int, Ev (fun k => spec_l1Cur_sparse3.f k s p st) q ∧ q.2.2.1.length ≤ 31 ∧ p ≤ q.2.2.2.1 ∧ q.2.2.2.1 ≤ p + 60 := by
 obtain ⟨v, b, p1, q1, e1, h2, h3⟩ := freeRow_ok s hs hl p st h0 (by omega)
 obtain ⟨b2, p2, q2, e2, h4, h5⟩ := one_ok s hs hl p1 q1 4 (by omega) (by omega) (by decide)
 by_cases c : b2 = true
 ·obtain ⟨r, hr, hr2, hr3, hr4⟩ := row_ok s hs hl p2 q2 (by omega) (by omega)
  refine ⟨(r.1, r.2.1, r.2.2.1, r.2.2.2.1, r.2.2.2.2), ?_, hr2, by simp only; omega, by simp only; omega⟩
  unfold spec_l1Cur_sparse3.f
  exact Ev.bindc e1 (Ev.bindc e2 (Ev.pos c (Ev.bind hr (Ev.now _))))
 ·obtain ⟨x, p3, q3, e3, hx0, hx1, h6, h7⟩ := pick_ok s hs hl p2 q2 4 (by omega) (by omega) (by decide)
  obtain ⟨m, rfl⟩ : ∃ m : Nat, x = (m : Int) := ⟨x.toNat, by omega⟩
  obtain ⟨r, hr, hr2, hr3, hr4⟩ := sparse0_ok s hs hl v b m [] p3 q3 (by simp; omega) (by omega) (by omega)
  refine ⟨r, ?_, hr2, by omega, by omega⟩
  unfold spec_l1Cur_sparse3.f
  exact Ev.bindc e1 (Ev.bindc e2 (Ev.neg c (Ev.bindc e3 hr)))
/-- choices exist where they are counted -/
theorem cn_pos (o : Nat → Bool) (D b : Nat) : ∀ e m, e ≤ b → (0 < cn o D b m e ↔ ∃ L : List Nat, L.length = m ∧ (∀ x ∈ L, b - e ≤ x ∧ x < b ∧ o x = true) ∧ L.Pairwise (fun x y => x + D ≤ y)) := by
 intro e
 induction e using Nat.strongRecOn with
 | _ e ih =>
  intro m he
  cases m with
  | zero =>
   rw [cn_0]
   exact ⟨fun _ => ⟨[], rfl, by simp, List.Pairwise.nil⟩, fun _ => by decide⟩
  | succ m =>
   cases e with
   | zero =>
    rw [cn_s0]
    refine ⟨fun h => by omega, ?_⟩
    rintro ⟨L, h1, h2, _⟩
    cases L with
    | nil => simp at h1
    | cons x L => have := h2 x (by simp); omega
   | succ e =>
    rw [cn_ss]
    have i1 := ih (e + 1 - D)
    have i2 := ih e (by omega) (m + 1) (by omega)
    constructor
    ·intro h
     by_cases hc : 0 < cn o D b (m + 1) e
     ·obtain ⟨L, h1, h2, h3⟩ := i2.mp hc
      exact ⟨L, h1, fun x hx => by have := h2 x hx; exact ⟨by omega, this.2⟩, h3⟩
     ·by_cases ho : o (b - (e + 1)) = true
      ·rw [if_pos ho] at h
       by_cases hD : D = 0
       ·subst hD
        have h0 : 0 < cn o 0 b m (e + 1 - 0) := by omega
        have hex : ∃ L : List Nat, L.length = m + 1 ∧ (∀ x ∈ L, b - (e + 1) ≤ x ∧ x < b ∧ o x = true) ∧ L.Pairwise (fun x y => x + 0 ≤ y) :=
         ⟨List.replicate (m + 1) (b - (e + 1)), List.length_replicate, fun x hx => by
          rw [List.mem_replicate] at hx
          obtain ⟨_, rfl⟩ := hx
          exact ⟨Nat.le_refl _, by omega, ho⟩, by rw [List.pairwise_replicate]; right; omega⟩
        exact hex
       ·obtain ⟨L, h1, h2, h3⟩ := (i1 (by omega) m (by omega)).mp (by omega)
        refine ⟨(b - (e + 1)) :: L, by rw [List.length_cons, h1], fun x hx => ?_, List.pairwise_cons.mpr ⟨fun y hy => ?_, h3⟩⟩
        ·rcases List.mem_cons.mp hx with rfl | hx
         ·exact ⟨Nat.le_refl _, by omega, ho⟩
         ·have := h2 x hx; exact ⟨by omega, this.2⟩
        ·have := h2 y hy; omega
      ·rw [if_neg ho] at h; omega
    ·rintro ⟨L, h1, h2, h3⟩
     cases L with
     | nil => simp at h1
     | cons x L =>
      rw [List.length_cons] at h1
      obtain ⟨h4, h5⟩ := List.pairwise_cons.mp h3
      have hx := h2 x (by simp)
      by_cases hxe : x = b - (e + 1)
      ·rw [if_pos (by rw [← hxe]; exact hx.2.2)]
       by_cases hD : D = 0
       ·subst hD
        have : 0 < cn o 0 b m (e + 1) := by
         have key : ∀ m, 0 < cn o 0 b m (e + 1) := by
          intro m
          induction m with
          | zero => rw [cn_0]; decide
          | succ m ihm => rw [cn_ss, if_pos (by rw [← hxe]; exact hx.2.2), show e + 1 - 0 = e + 1 by omega]; omega
         exact key m
        rw [show e + 1 - 0 = e + 1 by omega]; omega
       ·have : 0 < cn o D b m (e + 1 - D) := (i1 (by omega) m (by omega)).mpr ⟨L, by omega, fun y hy => by
         have a1 := h2 y (by simp [hy]); have a2 := h4 y hy; exact ⟨by omega, a1.2⟩, h5⟩
        omega
      ·have : 0 < cn o D b (m + 1) e := i2.mpr ⟨x :: L, by rw [List.length_cons, h1], fun y hy => by
        have a1 := h2 y hy
        rcases List.mem_cons.mp hy with rfl | hy
        ·exact ⟨by omega, a1.2⟩
        ·have a2 := h4 y hy; exact ⟨by omega, a1.2⟩, h3⟩
       omega
theorem rgs_pos (o : Nat → Bool) (r : Bool) (s D m : Nat) : ∀ e, e ≤ s → (0 < rgs o r s D m e ↔ ∃ f, s - e ≤ f ∧ f < s ∧ o f = true ∧ 0 < cn o D (bpN r s D f) m (bpN r s D f - (f + D))) := by
 intro e
 induction e with
 | zero =>
  intro _
  refine ⟨fun h => absurd h (by simp [rgs]), ?_⟩
  rintro ⟨f, h1, h2, _⟩; omega
 | succ e ih =>
  intro he
  rw [rgs_s]
  have i2 := ih (by omega)
  constructor
  ·intro h
   by_cases hc : 0 < rgs o r s D m e
   ·obtain ⟨f, h1, h2, h3⟩ := i2.mp hc
    exact ⟨f, by omega, h2, h3⟩
   ·by_cases ho : o (s - (e + 1)) = true
    ·rw [if_pos ho] at h
     exact ⟨s - (e + 1), Nat.le_refl _, by omega, ho, by omega⟩
    ·rw [if_neg ho] at h; omega
  ·rintro ⟨f, h1, h2, h3, h4⟩
   by_cases hf : f = s - (e + 1)
   ·subst hf; rw [if_pos h3]; omega
   ·have := i2.mpr ⟨f, by omega, h2, h3, h4⟩; omega
theorem gp_tri (s : Int) (r : Bool) (a b c : Int) (ha : 0 ≤ a ∧ a < s) (hb : 0 ≤ b ∧ b < s) (hc : 0 ≤ c ∧ c < s) : gp s r a c ≤ gp s r a b + gp s r b c := by
 unfold gp mx mn
 cases r <;> simp only [Bool.false_eq_true, if_false, if_true] <;> (repeat' split) <;> omega
theorem gp_sorted (s : Int) (r : Bool) (x y d : Int) (h : x ≤ y) : d ≤ gp s r x y ↔ d ≤ y - x ∧ (r = true → d ≤ s - (y - x)) := by
 unfold gp
 have hm : mx (x - y) (y - x) = y - x := by unfold mx; split <;> omega
 rw [hm]
 cases r with
 | false => simp
 | true => simp only [if_true, true_implies]; unfold mn; split <;> omega
/-- the seats of a choice: k open ones, gaps at least d -/
def Chosen (s : Nat) (r : Bool) (T : List Int) (d k : Nat) (C : List Int) : Prop := C.length = k ∧ (∀ x ∈ C, (0 ≤ x ∧ x < (s : Int)) ∧ canB (s : Int) r T (d : Int) x = true) ∧ C.Pairwise (fun x y => (d : Int) ≤ gp (s : Int) r x y)
theorem tot_some (s : Nat) (r : Bool) (T : List Int) (d k : Nat) (hd : 1 ≤ d ∧ d ≤ s) (h : 0 < totN (fun p : Nat => canB (s : Int) r T (d : Int) (p : Int)) r s d (k + 1)) : ∃ C, Chosen s r T d (k + 1) C := by
 obtain ⟨f, _, h2, h3, h4⟩ := (rgs_pos _ r s d k s (Nat.le_refl _)).mp h
 have hb := bpN_le r s d f
 obtain ⟨L, l1, l2, l3⟩ := (cn_pos _ d (bpN r s d f) _ k (by omega)).mp h4
 have hbp : ∀ y, y < bpN r s d f → r = true → y < f + s - d + 1 := fun y hy hr => by
  unfold bpN at hy
  rw [if_pos hr] at hy
  split at hy <;> omega
 refine ⟨((f :: L).map (fun x : Nat => (x : Int))), by rw [List.length_map, List.length_cons, l1], ?_, ?_⟩
 ·intro x hx
  obtain ⟨y, hy, rfl⟩ := List.mem_map.mp hx
  rcases List.mem_cons.mp hy with rfl | hy
  ·exact ⟨by omega, h3⟩
  ·have := l2 y hy; exact ⟨by omega, this.2.2⟩
 ·rw [List.pairwise_map, List.pairwise_cons]
  constructor
  ·intro y hy
   have a := l2 y hy
   refine (gp_sorted (s : Int) r (f : Int) (y : Int) (d : Int) (by omega)).mpr ⟨by omega, fun hr => ?_⟩
   have := hbp y a.2.1 hr; omega
  ·have hall : ∀ x ∈ L, f + d ≤ x ∧ x < bpN r s d f := fun x hx => by have := l2 x hx; omega
   have key : ∀ M : List Nat, (∀ x ∈ M, f + d ≤ x ∧ x < bpN r s d f) → M.Pairwise (fun x y => x + d ≤ y) → M.Pairwise (fun a b : Nat => (d : Int) ≤ gp (s : Int) r (a : Int) (b : Int)) := by
    intro M
    induction M with
    | nil => intro _ _; exact List.Pairwise.nil
    | cons x M ih =>
     intro hM hp
     obtain ⟨p1, p2⟩ := List.pairwise_cons.mp hp
     refine List.pairwise_cons.mpr ⟨fun y hy => ?_, ih (fun z hz => hM z (by simp [hz])) p2⟩
     have a1 := hM x (by simp)
     have a2 := hM y (by simp [hy])
     have a3 := p1 y hy
     refine (gp_sorted (s : Int) r (x : Int) (y : Int) (d : Int) (by omega)).mpr ⟨by omega, fun hr => ?_⟩
     have := hbp y a2.2 hr; omega
   exact key L hall l3
/-- the sorted places of a list -/
def srt (s : Nat) (C : List Int) : List Nat := (List.range s).filter (fun q : Nat => decide ((q : Int) ∈ C))
theorem srt_len (s : Nat) (C : List Int) (hs : s ≤ 24) (hn : C.Nodup) (hC : ∀ x ∈ C, 0 ≤ x ∧ x < (s : Int)) : (srt s C).length = C.length := by
 have h := count_list s (fun _ => true) C hn hC
 rw [List.countP_true] at h
 unfold srt
 rw [← h, List.countP_eq_length_filter]
 refine congrArg List.length (List.filter_congr (fun x _ => ?_))
 simp
theorem tot_of (s : Nat) (r : Bool) (T : List Int) (d k : Nat) (hs : s ≤ 24) (hd : 1 ≤ d ∧ d ≤ s) (C : List Int) (h : Chosen s r T d (k + 1) C) : 0 < totN (fun p : Nat => canB (s : Int) r T (d : Int) (p : Int)) r s d (k + 1) := by
 obtain ⟨h1, h2, h3⟩ := h
 have hn : C.Nodup := h3.imp (fun {a b} hab => by
  rintro rfl
  rw [gp_self (s : Int) r a (by omega)] at hab
  omega)
 have hC : ∀ x ∈ C, 0 ≤ x ∧ x < (s : Int) := fun x hx => (h2 x hx).1
 have hlen := srt_len s C hs hn hC
 have hsrt : (srt s C).Pairwise (· < ·) := by
  unfold srt
  have h0 : (List.range s).Pairwise (· < ·) := List.pairwise_lt_range
  exact h0.filter _
 have hmem : ∀ x ∈ srt s C, x < s ∧ (x : Int) ∈ C := fun x hx => by
  unfold srt at hx
  obtain ⟨a, b⟩ := List.mem_filter.mp hx
  exact ⟨List.mem_range.mp a, of_decide_eq_true b⟩
 have hgap : ∀ x ∈ srt s C, ∀ y ∈ srt s C, x < y → (d : Int) ≤ gp (s : Int) r (x : Int) (y : Int) := by
  intro x hx y hy hxy
  have a := (hmem x hx).2
  have b := (hmem y hy).2
  obtain ⟨i, hi, ei⟩ := List.mem_iff_getElem.mp a
  obtain ⟨j, hj, ej⟩ := List.mem_iff_getElem.mp b
  rcases Nat.lt_trichotomy i j with c | c | c
  ·have := List.pairwise_iff_getElem.mp h3 i j hi hj c
   rwa [ei, ej] at this
  ·subst c; rw [ei] at ej; omega
  ·have := List.pairwise_iff_getElem.mp h3 j i hj hi c
   rw [ei, ej, gp_comm] at this
   exact this
 generalize hSe : srt s C = S at hlen hsrt hmem hgap
 cases S with
 | nil => rw [List.length_nil] at hlen; omega
 | cons f L =>
  rw [List.length_cons] at hlen
  obtain ⟨p1, p2⟩ := List.pairwise_cons.mp hsrt
  have hf := hmem f (by simp)
  show 0 < rgs _ r s d k s
  refine (rgs_pos _ r s d k s (Nat.le_refl _)).mpr ⟨f, by omega, hf.1, (h2 _ hf.2).2, ?_⟩
  refine (cn_pos _ d (bpN r s d f) _ k (by omega)).mpr ⟨L, by omega, fun x hx => ?_, ?_⟩
  ·have a := hmem x (by simp [hx])
   have b := p1 x hx
   have c := (gp_sorted (s : Int) r (f : Int) (x : Int) (d : Int) (by omega)).mp (hgap f (by simp) x (by simp [hx]) b)
   have hbx : x < bpN r s d f := by
    unfold bpN
    split
    ·rename_i hr
     have := c.2 hr
     split <;> omega
    ·omega
   exact ⟨by omega, hbx, (h2 _ a.2).2⟩
  ·have key : ∀ M : List Nat, (∀ x ∈ M, x ∈ f :: L) → M.Pairwise (· < ·) → M.Pairwise (fun x y => x + d ≤ y) := by
    intro M
    induction M with
    | nil => intro _ _; exact List.Pairwise.nil
    | cons x M ih =>
     intro hM hp
     obtain ⟨q1, q2⟩ := List.pairwise_cons.mp hp
     refine List.pairwise_cons.mpr ⟨fun y hy => ?_, ih (fun z hz => hM z (by simp [hz])) q2⟩
     have b := q1 y hy
     have c := (gp_sorted (s : Int) r (x : Int) (y : Int) (d : Int) (by omega)).mp (hgap x (hM x (by simp)) y (hM y (by simp [hy])) b)
     omega
   exact key L (fun x hx => by simp [hx]) p2
theorem php (P : Int → Int → Prop) : ∀ (G C : List Int), (∀ c ∈ C, ∃ g ∈ G, P c g) → C.Pairwise (fun x y => ∀ g, ¬ (P x g ∧ P y g)) → C.length ≤ G.length := by
 classical
 intro G
 induction G with
 | nil =>
  intro C h _
  cases C with
  | nil => simp
  | cons c C => obtain ⟨g, hg, _⟩ := h c (by simp); cases hg
 | cons g G ih =>
  intro C h hp
  have h1 : (C.filter (fun c => decide (P c g))).length ≤ 1 := by
   have hq := hp.filter (fun c => decide (P c g))
   generalize hM : C.filter (fun c => decide (P c g)) = M at hq
   have hMP : ∀ c ∈ M, P c g := fun c hc => by rw [← hM] at hc; exact of_decide_eq_true (List.mem_filter.mp hc).2
   match M, hq, hMP with
   | [], _, _ => simp
   | [a], _, _ => simp
   | a :: b :: M, hq, hMP =>
    exact absurd ⟨hMP a (by simp), hMP b (by simp)⟩ ((List.pairwise_cons.mp hq).1 b (by simp) g)
  have h2 := ih (C.filter (fun c => !decide (P c g))) (fun c hc => by
   obtain ⟨c1, c2⟩ := List.mem_filter.mp hc
   obtain ⟨g', hg', hP⟩ := h c c1
   rcases List.mem_cons.mp hg' with rfl | hg'
   ·simp [hP] at c2
   ·exact ⟨g', hg', hP⟩) (hp.filter _)
  have h3 : C.length = (C.filter (fun c => decide (P c g))).length + (C.filter (fun c => !decide (P c g))).length := by
   clear h hp h1 h2 ih
   induction C with
   | nil => rfl
   | cons c C ihc =>
    by_cases c1 : P c g
    ·simp only [List.filter_cons, c1, decide_true, if_true, Bool.not_true, Bool.false_eq_true, if_false, List.length_cons]; omega
    ·simp only [List.filter_cons, c1, decide_false, Bool.false_eq_true, if_false, Bool.not_false, if_true, List.length_cons]; omega
  rw [List.length_cons]
  omega
theorem aft_succ (s : Nat) (r : Bool) : ∀ c l, aft s r (c + 1) l = putL (aft s r c l) (heN s r (aft s r c l)) := by
 intro c
 induction c with
 | zero => intro l; rfl
 | succ c ih => intro l; exact ih (putL l (heN s r l))
theorem ord_get (s : Nat) (r : Bool) : ∀ i N l, i < N → l.length + i < s → (ordL s r N l).getD i 0 = heN s r (aft s r i l) := by
 intro i
 induction i with
 | zero =>
  intro N l hN hl
  obtain ⟨N, rfl⟩ : ∃ n, N = n + 1 := ⟨N - 1, by omega⟩
  unfold ordL
  rw [if_pos (by omega)]; rfl
 | succ i ih =>
  intro N l hN hl
  obtain ⟨N, rfl⟩ : ∃ n, N = n + 1 := ⟨N - 1, by omega⟩
  have := ih N (putL l (heN s r l)) (by omega) (by rw [putL_len]; omega)
  conv => lhs; unfold ordL
  rw [if_pos (by omega), List.getD_cons_succ]
  exact this
theorem aft_mem (s : Nat) (r : Bool) (l : List Int) : ∀ i x, x ∈ aft s r i l ↔ x ∈ l ∨ ∃ j, j < i ∧ x = heN s r (aft s r j l) := by
 intro i
 induction i with
 | zero => intro x; exact ⟨fun h => .inl h, fun h => h.resolve_right (by rintro ⟨j, hj, _⟩; omega)⟩
 | succ i ih =>
  intro x
  rw [aft_succ, putL_mem, ih x]
  constructor
  ·rintro (h | h | ⟨j, hj, e⟩)
   ·exact .inr ⟨i, by omega, h⟩
   ·exact .inl h
   ·exact .inr ⟨j, by omega, e⟩
  ·rintro (h | ⟨j, hj, e⟩)
   ·exact .inr (.inl h)
   ·by_cases c : j = i
    ·subst c; exact .inl e
    ·exact .inr (.inr ⟨j, by omega, e⟩)
theorem far_down (s : Nat) (r : Bool) (l : List Int) (hw : IsRw (s : Int) r l) (i : Nat) : ∀ j, l.length + (i + j) ≤ s → (∀ q, q < s → farN (s : Int) r (aft s r (i + j) l) q ≤ farN (s : Int) r (aft s r i l) q) ∧ mxL (farN (s : Int) r (aft s r (i + j) l)) s ≤ mxL (farN (s : Int) r (aft s r i l)) s := by
 intro j
 induction j with
 | zero => intro _; exact ⟨fun q _ => Int.le_refl _, Int.le_refl _⟩
 | succ j ih =>
  intro hl
  obtain ⟨i1, i2⟩ := ih (by omega)
  obtain ⟨w1, w2⟩ := aft_rw s r (i + j) l hw (by omega)
  have hok := heN_ok s r _ w1 (by omega)
  rw [show i + (j + 1) = (i + j) + 1 by omega, aft_succ]
  exact ⟨fun q hq => Int.le_trans (farN_put s r _ _ w1 hok.1 q hq) (i1 q hq), Int.le_trans (mx_put s r _ _ w1 hok.1) i2⟩
theorem far_told (s : Nat) (r : Bool) (l : List Int) (hw : IsRw (s : Int) r l) : Ev (fun k => impl_FarnessOf.f k (s : Int) r l) ((List.range s).map (farN (s : Int) r l), true) := by
 have hs := hw.1
 have hl := ph_nodup_len s l (pairwise_nodup hw.2.2.2) hw.2.2.1
 have h32 : ∀ x ∈ l, 0 ≤ x ∧ x < 32 := fun x hx => by have := hw.2.2.1 x hx; omega
 have hL : listN (setN l) = l := listN_setN l h32 hw.2.2.2
 unfold impl_FarnessOf.f
 have := farness_ev s r (setN l) (setN_lt l h32) (by omega) (by rw [hL]; exact hw.2.2.1)
 rw [hL] at this
 exact Ev.bind (isRow_ev (s : Int) r l (by omega) true ⟨fun _ => hw, fun _ => rfl⟩) (Ev.pos rfl (Ev.bindc rfl (Ev.bind (taken_ev (s : Int) r l h32 (by omega)) (Ev.bind this (Ev.now _)))))
theorem order_told (s : Nat) (r : Bool) (l : List Int) (hw : IsRw (s : Int) r l) : Ev (fun k => impl_PoliteOrder.f k (s : Int) r l) (ordL s r s l, true) := by
 have hs := hw.1
 have hl := ph_nodup_len s l (pairwise_nodup hw.2.2.2) hw.2.2.1
 have h32 : ∀ x ∈ l, 0 ≤ x ∧ x < 32 := fun x hx => by have := hw.2.2.1 x hx; omega
 unfold impl_PoliteOrder.f
 obtain ⟨T, hT2⟩ := order_impl s r s l [] hw (by omega) (by simp)
 rw [List.nil_append] at hT2
 exact Ev.bind (isRow_ev (s : Int) r l (by omega) true ⟨fun _ => hw, fun _ => rfl⟩) (Ev.pos rfl (Ev.bindc rfl (Ev.bind (taken_ev (s : Int) r l h32 (by omega)) (Ev.bind (a := (T, ordL s r s l)) hT2 (Ev.now _)))))
theorem after_told (s : Nat) (r : Bool) (c : Nat) (l : List Int) (hw : IsRw (s : Int) r l) (hc : l.length + c ≤ s) : Ev (fun k => impl_AfterPolite.f k (s : Int) r l (c : Int)) ((s : Int), r, aft s r c l, true) :=
 AfterPolite_ev s r (c : Int) l hw true ⟨fun _ => by omega, fun _ => rfl⟩ _ (after_impl s r c l hw hc)
/-- the greatest spread against the last newcomer's farness -/
theorem great_ev (s : Nat) (r : Bool) (l : List Int) (hw : IsRw (s : Int) r l) (m : Nat) (hm : l.length + (m + 1) ≤ s) :
  ∃ q : Nat, Ev (fun k => impl_GreatestSpread.f k (s : Int) r l ((m + 1 : Nat) : Int)) ((q : Int), true) ∧ (q : Int) ≤ 2 * mxL (farN (s : Int) r (aft s r m l)) s ∧ mxL (farN (s : Int) r (aft s r m l)) s ≤ (q : Int) := by
 have hs := hw.1
 have hlen := rw_len hw
 obtain ⟨w1, w2⟩ := aft_rw s r m l hw (by omega)
 have hF1 := mx_pos s r _ w1 (by omega)
 have hFs : mxL (farN (s : Int) r (aft s r m l)) s ≤ (s : Int) := by
  obtain ⟨j, hj, e⟩ := mxL_at _ _ (show 0 < mxL (farN (s : Int) r (aft s r m l)) s by omega)
  rw [← e]
  exact (farN_range (s : Int) r _ j (by omega) w1.2.2.1 (by omega)).2
 obtain ⟨F, hF⟩ : ∃ F : Nat, mxL (farN (s : Int) r (aft s r m l)) s = (F : Int) := ⟨(mxL (farN (s : Int) r (aft s r m l)) s).toNat, by omega⟩
 rw [hF] at hF1 hFs ⊢
 have hDD : ∀ x : Nat, 1 ≤ x → x ≤ s → ((x : Nat) : Int) = if (x : Int) < (s : Int) then (x : Int) else (s : Int) := fun x _ _ => by split <;> omega
 have c2 := fun (x : Nat) (h3 : 1 ≤ x) (h4 : x ≤ s) => count_top (r := r) (s := (s : Int)) (tk := l) (d := (x : Int)) rfl (by omega) hw.2.2.1 hw.2.2.2 (by omega) h3 (hDD x h3 h4) (m + 1) (by omega)
 -- the newcomers are a choice at their last one's farness
 have hwA : ∀ i, i ≤ m → IsRw (s : Int) r (aft s r i l) ∧ (aft s r i l).length = l.length + i := fun i hi => aft_rw s r i l hw (by omega)
 have hG : ∀ i, i ≤ m → ((0 ≤ heN s r (aft s r i l) ∧ heN s r (aft s r i l) < (s : Int)) ∧ heN s r (aft s r i l) ∉ aft s r i l) ∧ (F : Int) ≤ farN (s : Int) r (aft s r i l) (heN s r (aft s r i l)).toNat := by
  intro i hi
  obtain ⟨v1, v2⟩ := hwA i hi
  refine ⟨heN_ok s r _ v1 (by omega), ?_⟩
  rw [heN_far s r _ v1 (by omega), ← hF]
  have := (far_down s r l hw i (m - i) (by omega)).2
  rwa [show i + (m - i) = m by omega] at this
 have hch : Chosen s r l F (m + 1) ((List.range (m + 1)).map (fun i => heN s r (aft s r i l))) := by
  refine ⟨by rw [List.length_map, List.length_range], ?_, ?_⟩
  ·intro x hx
   obtain ⟨i, hi, rfl⟩ := List.mem_map.mp hx
   have hi2 := List.mem_range.mp hi
   obtain ⟨⟨a1, a2⟩, a3⟩ := hG i (by omega)
   refine ⟨a1, ?_⟩
   have hnl : heN s r (aft s r i l) ∉ l := fun hc => a2 ((aft_mem s r l i _).mpr (.inl hc))
   unfold canB
   rw [decide_eq_false hnl]
   by_cases h0 : l = []
   ·rw [decide_eq_true h0]; rfl
   ·have h5 := (far_down s r l hw 0 i (by omega)).1 (heN s r (aft s r i l)).toNat (by omega)
    rw [Nat.zero_add] at h5
    have h6 : farN (s : Int) r (aft s r 0 l) (heN s r (aft s r i l)).toNat = (nst (s : Int) r (heN s r (aft s r i l)) l).2 := by
     show farN (s : Int) r l _ = _
     unfold farN
     rw [if_neg h0, Int.toNat_of_nonneg a1.1]
    rw [decide_eq_true (show (F : Int) ≤ (nst (s : Int) r (heN s r (aft s r i l)) l).2 by omega)]
    simp
  ·rw [List.pairwise_map]
   have h0 : (List.range (m + 1)).Pairwise (· < ·) := List.pairwise_lt_range
   refine h0.imp_of_mem (fun {a b} ha hb hab => ?_)
   have hb2 := List.mem_range.mp hb
   obtain ⟨⟨b1, b2⟩, b3⟩ := hG b (by omega)
   have hmem : heN s r (aft s r a l) ∈ aft s r b l := (aft_mem s r l b _).mpr (.inr ⟨a, hab, rfl⟩)
   obtain ⟨v1, v2⟩ := hwA b (by omega)
   obtain ⟨_, _, _, h7⟩ := farN_at (s : Int) r (aft s r b l) (heN s r (aft s r b l)).toNat v1.2.2.1 (fun e => by rw [e] at hmem; cases hmem)
   have h8 := h7 _ hmem
   rw [Int.toNat_of_nonneg b1.1] at h8
   rw [gp_comm]
   omega
 have hTF := tot_of s r l F m (by omega) (by omega) _ hch
 -- the greatest d
 have hex : ∃ q : Nat, F ≤ q ∧ q ≤ s ∧ 0 < totN (fun p : Nat => canB (s : Int) r l (q : Int) (p : Int)) r s q (m + 1) ∧ ∀ x : Nat, q < x → x ≤ s → ¬ 0 < totN (fun p : Nat => canB (s : Int) r l (x : Int) (p : Int)) r s x (m + 1) := by
  have key : ∀ n, ∀ x, x + n = s → F ≤ x → (∀ y : Nat, x < y → y ≤ s → ¬ 0 < totN (fun p : Nat => canB (s : Int) r l (y : Int) (p : Int)) r s y (m + 1)) ∨ ∃ q : Nat, F ≤ q ∧ q ≤ s ∧ 0 < totN (fun p : Nat => canB (s : Int) r l (q : Int) (p : Int)) r s q (m + 1) ∧ ∀ y : Nat, q < y → y ≤ s → ¬ 0 < totN (fun p : Nat => canB (s : Int) r l (y : Int) (p : Int)) r s y (m + 1) := by
   intro n
   induction n with
   | zero => intro x hx _; exact .inl (fun y h1 h2 => by omega)
   | succ n ih =>
    intro x hx hFx
    rcases ih (x + 1) (by omega) (by omega) with h | h
    ·by_cases c : 0 < totN (fun p : Nat => canB (s : Int) r l ((x + 1 : Nat) : Int) (p : Int)) r s (x + 1) (m + 1)
     ·exact .inr ⟨x + 1, by omega, by omega, c, h⟩
     ·refine .inl (fun y h1 h2 => ?_)
      by_cases e : y = x + 1
      ·subst e; exact c
      ·exact h y (by omega) h2
    ·exact .inr h
  rcases key (s - F) F (by omega) (Nat.le_refl _) with h | h
  ·exact ⟨F, Nat.le_refl _, by omega, hTF, h⟩
  ·exact h
 obtain ⟨q, q1, q2, q3, q4⟩ := hex
 refine ⟨q, ?_, ?_, by omega⟩
 ·have h7 := gs_dn (s := (s : Int)) (r := r) (tk := l) (mm := m + 1) (sn := s) (T := fun x : Nat => totN (fun p : Nat => canB (s : Int) r l (x : Int) (p : Int)) r s x (m + 1)) (by omega) q (by omega) c2 q3 q4 (s - q) s (by omega) (Nat.le_refl _)
  unfold impl_GreatestSpread.f
  have e2 := within24a ((m + 1 : Nat) : Int)
  rw [decide_eq_true (by omega)] at e2
  exact Ev.bind (isRow_ev (s : Int) r l (by omega) true ⟨fun _ => hw, fun _ => rfl⟩) (Ev.pos rfl (Ev.bindc e2 (Ev.pos rfl h7)))
 ·obtain ⟨C, d1, d2, d3⟩ := tot_some s r l q m (by omega) q3
  by_cases hB : aft s r m l = []
  ·have : farN (s : Int) r (aft s r m l) 0 = s := by rw [hB]; rfl
   have h9 := mxL_ge (farN (s : Int) r (aft s r m l)) s 0 (by omega)
   omega
  ·have hnear : ∀ c ∈ C, ∃ b ∈ aft s r m l, gp (s : Int) r c b ≤ (F : Int) := by
    intro c hc
    have hc0 := (d2 c hc).1
    obtain ⟨b, hb, e, _⟩ := farN_at (s : Int) r (aft s r m l) c.toNat w1.2.2.1 hB
    have h9 := mxL_ge (farN (s : Int) r (aft s r m l)) s c.toNat (by omega)
    rw [Int.toNat_of_nonneg hc0.1] at e
    exact ⟨b, hb, by omega⟩
   by_cases hT : ∃ c ∈ C, ∃ b ∈ l, gp (s : Int) r c b ≤ (F : Int)
   ·obtain ⟨c, hc, b, hb, hg⟩ := hT
    have h10 := (d2 c hc).2
    unfold canB at h10
    have hne : l ≠ [] := fun e => by rw [e] at hb; cases hb
    rw [Bool.and_eq_true, Bool.or_eq_true, decide_eq_true_eq, decide_eq_true_eq] at h10
    have h11 := h10.2.resolve_left hne
    obtain ⟨_, _, h12, h13⟩ := farN_at (s : Int) r l c.toNat hw.2.2.1 hne
    have h14 : farN (s : Int) r l c.toNat = (nst (s : Int) r c l).2 := by unfold farN; rw [if_neg hne, Int.toNat_of_nonneg (d2 c hc).1.1]
    have h15 := h13 b hb
    rw [Int.toNat_of_nonneg (d2 c hc).1.1] at h15
    omega
   ·by_cases h20 : (q : Int) ≤ 2 * (F : Int)
    ·exact h20
    ·exfalso
     have h21 := php (fun c g => (gp (s : Int) r c g ≤ (F : Int) ∧ (0 ≤ g ∧ g < (s : Int)))) ((List.range m).map (fun i => heN s r (aft s r i l))) C (fun c hc => by
      obtain ⟨b, hb, hg⟩ := hnear c hc
      rcases (aft_mem s r l m b).mp hb with h | ⟨j, hj, e⟩
      ·exact absurd ⟨c, hc, b, h, hg⟩ hT
      ·exact ⟨b, List.mem_map.mpr ⟨j, List.mem_range.mpr hj, e.symm⟩, hg, w1.2.2.1 b hb⟩) (d3.imp_of_mem (fun {x y} hx hy hxy => by
      rintro g ⟨⟨g1, g2⟩, ⟨g3, _⟩⟩
      have t := gp_tri (s : Int) r x g y (d2 x hx).1 g2 (d2 y hy).1
      rw [gp_comm (s : Int) r g y] at t
      omega))
     rw [List.length_map, List.length_range, d1] at h21
     omega
theorem sl0_ev (al od : List Int) (hal : al.length ≤ 1000) (m : Nat) (hm : m ≤ od.length) (ho : od.length ≤ 1000) (h : ∀ i, i < m → od.getD i 0 ∈ al) : Ev (fun k => laws_FnSpread.l0 k (m : Int) al od 0) true := by
 have key : ∀ n i, i + n = m → Ev (fun k => laws_FnSpread.l0 k (m : Int) al od (i : Int)) true := by
  intro n
  induction n with
  | zero =>
   intro i hi
   refine Ev.succ ?_
   simp only [laws_FnSpread.l0]
   exact Ev.neg (by omega) (Ev.now _)
  | succ n ih =>
   intro i hi
   have h1 := h i (by omega)
   refine Ev.succ ?_
   simp only [laws_FnSpread.l0]
   rw [w64 (n := (i : Int) + 1) (by omega) (by omega)]
   have e : rd od (i : Int) = od.getD i 0 := by unfold rd; rw [Int.toNat_natCast]
   rw [e]
   exact Ev.pos (by omega) (Ev.pos (by omega) (Ev.bind (vHas_mem al _ (by omega) h1) (Ev.pos rfl (ih (i + 1) (by omega)))))
 exact key m 0 (by omega)
theorem sg_ev (s : Nat) (r : Bool) (l : List Int) (hw : IsRw (s : Int) r l) (m : Nat) (hm : l.length + m ≤ s) : Ev (fun k => laws_FnSpread.g k (s : Int) r l (m : Int) (aft s r m l)) true := by
 have hs := hw.1
 have hlen := rw_len hw
 obtain ⟨w1, w2⟩ := aft_rw s r m l hw hm
 have hol := ordL_len s r s l hw (by omega)
 have hget : ∀ i, i < m → (ordL s r s l).getD i 0 = heN s r (aft s r i l) := fun i hi => ord_get s r i s l (by omega) (by omega)
 unfold laws_FnSpread.g
 refine Ev.bind (order_told s r l hw) (Ev.pos ⟨rfl, by rw [w64 (by omega) (by omega)]; omega⟩ (Ev.bind (sl0_ev _ _ (by omega) m (by simp only; omega) (by simp only; omega) (fun i hi => ?_)) ?_))
 ·rw [hget i hi]; exact (aft_mem s r l m _).mpr (.inr ⟨i, hi, rfl⟩)
 ·by_cases h1 : (m : Int) < 1
  ·exact Ev.pos h1 (Ev.now _)
  ·refine Ev.neg h1 ?_
   obtain ⟨m, rfl⟩ : ∃ n, m = n + 1 := ⟨m - 1, by omega⟩
   unfold laws_FnSpread.h
   rw [w64 (by omega) (by omega), show ((m + 1 : Nat) : Int) - 1 = (m : Int) by omega]
   obtain ⟨v1, v2⟩ := aft_rw s r m l hw (by omega)
   obtain ⟨q, g1, g2, g3⟩ := great_ev s r l hw m (by omega)
   have hok := heN_ok s r _ v1 (by omega)
   have hfar := heN_far s r _ v1 (by omega)
   have e1 : rd (ordL s r s l) (m : Int) = heN s r (aft s r m l) := by
    unfold rd; rw [Int.toNat_natCast]; exact hget m (by omega)
   have e2 : rd ((List.range s).map (farN (s : Int) r (aft s r m l))) (heN s r (aft s r m l)) = mxL (farN (s : Int) r (aft s r m l)) s := by
    have := getD_mapR (farN (s : Int) r (aft s r m l)) s (heN s r (aft s r m l)).toNat (by omega)
    rw [Int.toNat_of_nonneg hok.1.1, hfar] at this
    exact this
   have hFs : mxL (farN (s : Int) r (aft s r m l)) s ≤ (s : Int) := by
    by_cases c : 0 < mxL (farN (s : Int) r (aft s r m l)) s
    ·obtain ⟨j, hj, e⟩ := mxL_at _ _ c
     rw [← e]
     exact (farN_range (s : Int) r _ j (by omega) v1.2.2.1 (by omega)).2
    ·omega
   have hF0 := mx_nonneg s r _ v1
   refine Ev.bind (after_told s r m l hw (by omega)) (Ev.bind (far_told s r _ v1) (Ev.bind g1 (Ev.pos ?_ (Ev.now _))))
   simp only
   rw [e1, e2, List.length_map, List.length_range, w64 (by omega) (by omega)]
   exact ⟨trivial, trivial, trivial, by omega, by omega, hok.1.1, hok.1.2, g2, .inr g3⟩
theorem FnSpread : laws_FnSpread.Pure := by
 intro l0 hm hy hwf
 have hb8 : Bytes8 l0 := fun x hx => by
  have := hwf x hx
  simp [Lit.wf, IntKind.min, IntKind.max, IntKind.bits, IntKind.signed] at this; omega
 suffices h : Ev (fun k => laws_FnSpread.f k l0) true by
  obtain ⟨K, hK⟩ := h
  exact ⟨K, hK K (Nat.le_refl _)⟩
 unfold laws_FnSpread.f
 by_cases hbig : (l0.length : Int) > 65536
 ·exact Ev.bindc (a := true) (by unfold laws_vBig.f; rw [decide_eq_true hbig]) (Ev.pos rfl (Ev.now _))
 refine Ev.bindc (a := false) (by unfold laws_vBig.f; rw [decide_eq_false hbig]) (Ev.neg (by decide) ?_)
 have hdr : ∃ q : Int × Bool × List Int × Int, Ev (fun k => spec_DrawPoliteSpread.f k l0) q ∧ q.2.2.1.length ≤ 1000 := by
  obtain ⟨t, ht, ht2, t3, t4⟩ := sparse_ok l0 hb8 (by omega) 0 0 (by omega) (by omega)
  obtain ⟨v, p1, q1, e1, hv0, hv1, p2, p3⟩ := pick_ok l0 hb8 (by omega) t.2.2.2.1 t.2.2.2.2 24 (by omega) (by omega) (by decide)
  have hd0 : 0 ≤ Int.tdiv v 8 := Int.tdiv_nonneg hv0 (by decide)
  have hd1 : Int.tdiv v 8 ≤ 2 := by
   rw [Int.tdiv_eq_ediv_of_nonneg hv0]; omega
  have hw1 : wrap64 (6 + wrap64 (Int.tdiv v 8)) = 6 + Int.tdiv v 8 := by rw [w64 (n := Int.tdiv v 8) (by omega) (by omega), w64 (by omega) (by omega)]
  obtain ⟨x, p4, q4, e4, _, _, _⟩ := among_ok l0 hb8 (by omega) p1 q1 (([1, 2, 3, 0, 4, 6, 24, 25, (-1)] : List Int).take (6 + Int.tdiv v 8).toNat) (by omega) (by omega) (by rw [List.length_take]; simp; omega) (by rw [List.length_take]; simp; omega)
  refine ⟨(t.1, t.2.1, t.2.2.1, x), ?_, by simp only; omega⟩
  unfold spec_DrawPoliteSpread.f
  refine Ev.bind (a := (t.1, t.2.1, t.2.2.1, x)) ?_ (Ev.now _)
  unfold spec_DrawAfterPolite.f
  refine Ev.bind ht (Ev.bindc rfl (Ev.bindc e1 ?_))
  simp only
  rw [hw1]
  refine Ev.pos (by omega) (Ev.pos (by simp; omega) (Ev.bindc e4 (Ev.now _)))
 obtain ⟨⟨S, R, l, a⟩, hd, hdl⟩ := hdr
 simp only at hdl
 obtain ⟨c1, hc1, hc8, hcl⟩ := vCut_ok l0 hb8 (by omega)
 obtain ⟨t, ht, ht2, _, _⟩ := sparse_ok c1 hc8 (by omega) 0 0 (by omega) (by omega)
 have hd2 : Ev (fun k => spec_DrawLeastGap.f k c1) (t.1, t.2.1, t.2.2.1) := by
  unfold spec_DrawLeastGap.f
  refine Ev.bind (a := (t.1, t.2.1, t.2.2.1)) ?_ (Ev.now _)
  unfold spec_DrawSettleRow.f
  exact Ev.bind ht (Ev.now _)
 -- the least gap of the other row
 have hlg : ∃ lg : Int × Bool, Ev (fun k => impl_LeastGap.f k t.1 t.2.1 t.2.2.1) lg ∧ Ev (fun k => spec_LeastGap.f k t.1 t.2.1 t.2.2.1) lg := by
  obtain ⟨b, hb⟩ := exists_bool (IsRw t.1 t.2.1 t.2.2.1)
  cases b with
  | false =>
   have hn : ¬ IsRw t.1 t.2.1 t.2.2.1 := fun h => by have := hb.mpr h; cases this
   refine ⟨(0, false), ?_, ?_⟩
   ·unfold impl_LeastGap.f; exact Ev.bind (isRow_ev _ _ _ (by omega) false hb) (Ev.neg (by decide) (Ev.now _))
   ·unfold spec_LeastGap.f; exact Ev.bind (l2Row_ev _ _ _ (by omega) false hb) (Ev.neg (by decide) (Ev.now _))
  | true =>
   have hw := hb.mp rfl
   have hs := hw.1
   refine ⟨_, LeastGap_ev _ _ _ hw, ?_⟩
   unfold spec_LeastGap.f
   refine Ev.bind (l2Row_ev _ _ _ (by omega) true hb) (Ev.pos rfl ?_)
   by_cases c : (t.2.2.1.length : Int) < 2
   ·rw [if_pos c]; exact Ev.pos c (Ev.now _)
   ·rw [if_neg c]; exact Ev.neg c (Ev.bind (l3Least_ev _ _ _ (by omega) (by omega) hw.2.2.1) (Ev.now _))
 obtain ⟨lg, hlg1, hlg2⟩ := hlg
 have main : ∃ (sp : Int × Bool) (af : Int × Bool × List Int × Bool), Ev (fun k => impl_PoliteSpread.f k S R l a) sp ∧ Ev (fun k => spec_PoliteSpread.f k S R l a) sp ∧ Ev (fun k => impl_AfterPolite.f k S R l a) af ∧ Ev (fun k => spec_AfterPolite.f k S R l a) af ∧ (sp.2 = true → af.2.2.2 = true) ∧ af.2.2.1.length ≤ 1000 ∧
   Ev (fun k => if af.2.2.2 = true then ((laws_FnSpread.q k sp.1 sp.2 af.1 af.2.1 af.2.2.1).bind fun _ => laws_FnSpread.g k S R l a af.2.2.1) else some true) true := by
  obtain ⟨b, hb⟩ := exists_bool (IsRw S R l)
  have hL : l.length ≤ 35184372088832 := by omega
  have none_case : (∀ q, q = ((0 : Int), false) → Ev (fun k => impl_PoliteSpread.f k S R l a) q ∧ Ev (fun k => spec_PoliteSpread.f k S R l a) q) → Ev (fun k => impl_AfterPolite.f k S R l a) (0, false, [], false) → Ev (fun k => spec_AfterPolite.f k S R l a) (0, false, [], false) →
    ∃ (sp : Int × Bool) (af : Int × Bool × List Int × Bool), Ev (fun k => impl_PoliteSpread.f k S R l a) sp ∧ Ev (fun k => spec_PoliteSpread.f k S R l a) sp ∧ Ev (fun k => impl_AfterPolite.f k S R l a) af ∧ Ev (fun k => spec_AfterPolite.f k S R l a) af ∧ (sp.2 = true → af.2.2.2 = true) ∧ af.2.2.1.length ≤ 1000 ∧
     Ev (fun k => if af.2.2.2 = true then ((laws_FnSpread.q k sp.1 sp.2 af.1 af.2.1 af.2.2.1).bind fun _ => laws_FnSpread.g k S R l a af.2.2.1) else some true) true := fun h1 h2 h3 =>
   ⟨(0, false), (0, false, [], false), (h1 _ rfl).1, (h1 _ rfl).2, h2, h3, (fun h => by cases h), by simp, Ev.neg (by decide) (Ev.now _)⟩
  have j0n : Ev (fun k => spec_PoliteSpread.j0 k a true S R l) ((0 : Int), false) := by
   refine Ev.succ ?_
   simp only [spec_PoliteSpread.j0.eq_2]
   exact Ev.pos trivial (Ev.now _)
  have j0a : Ev (fun k => impl_AfterPolite.j0 k a true S R l) (0, false, ([] : List Int), false) := by
   refine Ev.succ ?_
   simp only [impl_AfterPolite.j0.eq_2]
   exact Ev.pos trivial (Ev.now _)
  cases b with
  | false =>
   have a1 : Ev (fun k => impl_AfterPolite.f k S R l a) (0, false, [], false) := by unfold impl_AfterPolite.f; exact Ev.bind (isRow_ev S R l hL false hb) (Ev.neg (by decide) j0a)
   have ask : Ev (fun k => spec_l3Ask.f k S R l a) false := by unfold spec_l3Ask.f; exact Ev.bind (l2Row_ev S R l hL false hb) (Ev.neg (by decide) (Ev.now _))
   refine none_case (fun q hq => ?_) a1 ?_
   ·subst hq
    refine ⟨?_, ?_⟩
    ·unfold impl_PoliteSpread.f; exact Ev.bind a1 (Ev.neg (by decide) (Ev.now _))
    ·unfold spec_PoliteSpread.f; exact Ev.bind ask (Ev.neg (by decide) j0n)
   ·unfold spec_AfterPolite.f; exact Ev.bind ask (Ev.neg (by decide) (Ev.now _))
  | true =>
   have hw := hb.mp rfl
   have hs := hw.1
   obtain ⟨s, rfl⟩ : ∃ m : Nat, S = (m : Int) := ⟨S.toNat, by omega⟩
   have hlen := rw_len hw
   obtain ⟨b2, hb2⟩ := exists_bool (0 ≤ a ∧ a ≤ (s : Int) - (l.length : Int))
   cases b2 with
   | false =>
    have a1 : Ev (fun k => impl_AfterPolite.f k (s : Int) R l a) (0, false, [], false) := AfterPolite_ev s R a l hw false hb2 _ j0a
    refine none_case (fun q hq => ?_) a1 ?_
    ·subst hq
     refine ⟨?_, ?_⟩
     ·unfold impl_PoliteSpread.f; exact Ev.bind a1 (Ev.neg (by decide) (Ev.now _))
     ·unfold spec_PoliteSpread.f; exact Ev.bind (l3Ask_ev s R a l hw false hb2) (Ev.neg (by decide) j0n)
    ·unfold spec_AfterPolite.f; exact Ev.bind (l3Ask_ev s R a l hw false hb2) (Ev.neg (by decide) (Ev.now _))
   | true =>
    have h2 := hb2.mp rfl
    obtain ⟨c, rfl⟩ : ∃ c : Nat, a = (c : Int) := ⟨a.toNat, by omega⟩
    obtain ⟨w1, w2⟩ := aft_rw s R c l hw (by omega)
    have a1 := after_told s R c l hw (by omega)
    have hl1 := LeastGap_ev (s : Int) R _ w1
    refine ⟨if ((aft s R c l).length : Int) < 2 then (0, false) else (leastN (s : Int) R (aft s R c l), true), ((s : Int), R, aft s R c l, true), ?_, ?_, a1, ?_, fun _ => rfl, by simp only; omega, ?_⟩
    ·unfold impl_PoliteSpread.f
     exact Ev.bind a1 (Ev.pos rfl (Ev.bind hl1 (Ev.now _)))
    ·unfold spec_PoliteSpread.f
     refine Ev.bind (l3Ask_ev s R _ l hw true hb2) (Ev.pos rfl (Ev.succ ?_))
     simp only [spec_PoliteSpread.j0.eq_2]
     rw [w64 (by omega) (by omega)]
     by_cases c2 : (l.length : Int) + (c : Int) < 2
     ·rw [if_pos (by omega)]
      exact Ev.pos (by simpa using c2) (Ev.now _)
     ·rw [if_neg (by omega)]
      exact Ev.neg (by simpa using c2) (Ev.bind (l3After_ev s R c l hw (by omega)) (Ev.bind (l3Least_ev (s : Int) R (aft s R c l) (by omega) (by omega) w1.2.2.1) (Ev.now _)))
    ·unfold spec_AfterPolite.f
     exact Ev.bind (l3Ask_ev s R _ l hw true hb2) (Ev.pos rfl (Ev.bind (l3After_ev s R c l hw (by omega)) (Ev.now _)))
    ·refine Ev.pos rfl (Ev.bind (a := true) ?_ (sg_ev s R l hw c (by omega)))
     unfold laws_FnSpread.q
     by_cases c2 : ((aft s R c l).length : Int) < 2
     ·rw [if_pos c2]; exact Ev.neg (by decide) (Ev.now _)
     ·rw [if_neg c2] at hl1 ⊢
      exact Ev.pos rfl (Ev.bind hl1 (Ev.pos rfl (Ev.now _)))
 obtain ⟨sp, af, m1, m2, m3, m4, m5, m6, m7⟩ := main
 refine Ev.bind hd (Ev.bind m1 (Ev.bind m2 (Ev.bind m3 (Ev.bind m4 (Ev.bindc hc1 (Ev.bind hd2 (Ev.bind hlg1 (Ev.bind hlg2 (Ev.pos ⟨rfl, rfl, rfl, m5⟩ ?_)))))))))
 exact Ev.bind (vRow_refl af.1 af.2.1 af.2.2.1 (by omega)) (Ev.pos rfl m7)

end Go.Proofs.YtaebbgkoaaigbaaDoor.Pure
