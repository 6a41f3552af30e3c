/- Proved: the rows of the travelers in the aisle, as the program returns them, are the reference's, for all arguments. Conditions: those of the statement. -/
import Derived.Test.YthaaakijekkkaaaZAisleAtPx7
namespace Go.Proofs.Ythaaakijekkkaaa.Pure
open Go.RowKit Go.Proofs.Ythaaakijekkkaaa.PFnExactAisleAt Go.Proofs.YthaaakijekkkaaaW.PrintWords Go.Proofs.YthaaakijekkkaaaW.PrintLast Go.Proofs.YthaaakijekkkaaaW.PrintMore
set_option linter.unusedVariables false

theorem Ev.pos {α : Type} {c : Prop} [Decidable c] {f g : Nat → Option α} {r : α} (h : c) (k : Ev f r) : Ev (fun m => if c then f m else g m) r :=
  Ev.congr (fun _ => if_pos h) k
theorem Ev.neg {α : Type} {c : Prop} [Decidable c] {f g : Nat → Option α} {r : α} (h : ¬ c) (k : Ev g r) : Ev (fun m => if c then f m else g m) r :=
  Ev.congr (fun _ => if_neg h) k
theorem Ev.bindc {α β : Type} {x : Option α} {f : Nat → α → Option β} {a : α} {r : β} (h : x = some a) (k : Ev (fun n => f n a) r) : Ev (fun n => x.bind (f n)) r := by
  subst h; exact k
theorem Ev.succ {α : Type} {g : Nat → Option α} {r : α} (k : Ev (fun n => g (n + 1)) r) : Ev g r := Ev.step (fun _ => rfl) k
theorem w64 {n : Int} (h0 : -9223372036854775808 ≤ n) (h1 : n < 9223372036854775808) : wrap64 n = n := by unfold wrap64; omega
theorem rd_nat (l : List Int) (i : Nat) (h : i < l.length) : rd l (i : Int) = l[i] := by
  unfold rd; rw [Int.toNat_natCast, List.getD_eq_getElem?_getD, List.getElem?_eq_getElem h]; rfl
/-- a loop that ends early, with one answer, where P fails -/
theorem ev_all {α : Type} (L : Nat → Nat → Option α) (n : Nat) (P : Nat → Prop) (rEnd : α)
    (hend : Ev (fun k => L k n) rEnd) (hgood : ∀ i, i < n → P i → ∀ r, Ev (fun k => L k (i + 1)) r → Ev (fun k => L k i) r)
    (i : Nat) (hi : i ≤ n) (h : ∀ j, i ≤ j → j < n → P j) : Ev (fun k => L k i) rEnd := by
  obtain ⟨d, hd⟩ : ∃ d, i + d = n := ⟨n - i, by omega⟩
  induction d generalizing i with
  | zero => rw [show i = n by omega]; exact hend
  | succ d ih => exact hgood i (by omega) (h i (by omega) (by omega)) _ (ih (i + 1) (by omega) (fun j h1 h2 => h j (by omega) h2) (by omega))
theorem toIntS_loop (l : List Int) (hl : l.length ≤ 35184372088832) : ∀ (d i : Nat) (acc : List Int), i + d = l.length → acc.length = l.length → (∀ j, j < i → acc[j]? = l[j]?) → Ev (fun k => laws_toIntS.l0 k l acc (i : Int)) l := by
  intro d
  induction d with
  | zero =>
    intro i acc hi ha hj
    refine Ev.succ ?_
    simp only [laws_toIntS.l0.eq_2]
    refine Ev.neg (by omega) ?_
    have : acc = l := List.ext_getElem? (fun j => by
      by_cases h : j < i
      · exact hj j h
      · rw [List.getElem?_eq_none (by omega), List.getElem?_eq_none (by omega)])
    rw [this]; exact Ev.now _
  | succ d ih =>
    intro i acc hi ha hj
    refine Ev.succ ?_
    simp only [laws_toIntS.l0.eq_2]
    refine Ev.pos (by omega) (Ev.pos (by omega) (Ev.pos (by omega) ?_))
    rw [w64 (by omega) (by omega)]
    refine ih (i + 1) _ (by omega) (by simpa using ha) ?_
    intro j h
    rw [Int.toNat_natCast, List.getElem?_set]
    by_cases e : i = j
    · subst e
      rw [if_pos rfl, if_pos (by omega), rd_nat l i (by omega), List.getElem?_eq_getElem]
    · rw [if_neg e]; exact hj j (by omega)
theorem toIntS_ev (l : List Int) (hl : l.length ≤ 35184372088832) : Ev (fun k => laws_toIntS.f k l) l := by
  unfold laws_toIntS.f
  refine Ev.pos (by omega) (Ev.pos (by omega) ?_)
  exact toIntS_loop l hl l.length 0 _ (by omega) (by simp) (fun j h => by omega)
theorem eqIntS_loop (l : List Int) (hl : l.length ≤ 35184372088832) : ∀ (d i : Nat), i + d = l.length → Ev (fun k => laws_eqIntS.l0 k l l (i : Int)) true := by
  intro d
  induction d with
  | zero =>
    intro i hi
    refine Ev.succ ?_
    simp only [laws_eqIntS.l0.eq_2]
    exact Ev.neg (by omega) (Ev.now _)
  | succ d ih =>
    intro i hi
    refine Ev.succ ?_
    simp only [laws_eqIntS.l0.eq_2]
    refine Ev.pos (by omega) (Ev.pos (by omega) (Ev.pos (by omega) (Ev.pos (by trivial) ?_)))
    rw [w64 (by omega) (by omega)]
    exact ih (i + 1) (by omega)
theorem eqIntS_ev (l : List Int) (hl : l.length ≤ 35184372088832) : Ev (fun k => laws_eqIntS.f k l l) true := by
  unfold laws_eqIntS.f
  exact Ev.pos rfl (eqIntS_loop l hl l.length 0 (by omega))
theorem within_eq (a b c : Int) : impl_within.f a b c = some (decide (b ≤ a ∧ a ≤ c)) := by
  unfold impl_within.f
  by_cases h : a ≥ b
  · rw [if_pos h]; simp [show b ≤ a from h]
  · rw [if_neg h]; simp [show ¬ b ≤ a from h]
theorem l1In_eq (a b c : Int) : spec_l1In.f a b c = some (decide (b ≤ a ∧ a ≤ c)) := by
  unfold spec_l1In.f
  by_cases h : a ≥ b
  · rw [if_pos h]; simp [show b ≤ a from h]
  · rw [if_neg h]; simp [show ¬ b ≤ a from h]
theorem allWithin_loop (l : List Int) (lo hi : Int) (hl : l.length ≤ 35184372088832) : ∀ (d i : Nat), i + d = l.length → Ev (fun k => impl_allWithin.l0 k lo hi l (l.length : Int) (i : Int)) (decide (∀ x ∈ l.drop i, lo ≤ x ∧ x ≤ hi)) := by
  intro d
  induction d with
  | zero =>
    intro i hi
    refine Ev.succ ?_
    simp only [impl_allWithin.l0.eq_2]
    rw [List.drop_of_length_le (by omega)]
    exact Ev.neg (by omega) (by simp; exact Ev.now _)
  | succ d ih =>
    intro i hi'
    refine Ev.succ ?_
    simp only [impl_allWithin.l0.eq_2]
    refine Ev.pos (by omega) (Ev.pos (by omega) (Ev.pos (by omega) (Ev.bindc (within_eq _ _ _) ?_)))
    have hd : l.drop i = l[i] :: l.drop (i + 1) := (List.drop_eq_getElem_cons (by omega))
    rw [rd_nat l i (by omega)]
    by_cases e : lo ≤ l[i] ∧ l[i] ≤ hi
    · refine Ev.pos (decide_eq_true e) ?_
      rw [w64 (by omega) (by omega)]
      have e1 : (∀ x ∈ l.drop i, lo ≤ x ∧ x ≤ hi) ↔ (∀ x ∈ l.drop (i + 1), lo ≤ x ∧ x ≤ hi) := by rw [hd]; simp only [List.mem_cons, forall_eq_or_imp, e, true_and]
      rw [decide_eq_decide.mpr e1]
      exact ih (i + 1) (by omega)
    · rw [show decide (∀ x ∈ l.drop i, lo ≤ x ∧ x ≤ hi) = false by rw [hd]; simp only [List.mem_cons, forall_eq_or_imp, decide_eq_false_iff_not]; exact fun h => e h.1]
      exact Ev.neg (by simpa using e) (Ev.now _)
theorem allWithin_ev (l : List Int) (lo hi : Int) (hl : l.length ≤ 35184372088832) : Ev (fun k => impl_allWithin.f k l lo hi) (decide (∀ x ∈ l, lo ≤ x ∧ x ≤ hi)) := allWithin_loop l lo hi hl l.length 0 (by omega)
theorem has_loop (l : List Int) (x : Int) (hl : l.length ≤ 35184372088832) : ∀ (d i : Nat), i + d = l.length → Ev (fun k => spec_l1Has.l0 k l x (i : Int)) (decide (x ∈ l.drop i)) := by
  intro d
  induction d with
  | zero =>
    intro i hi
    refine Ev.succ ?_
    simp only [spec_l1Has.l0.eq_2]
    rw [List.drop_of_length_le (by omega)]
    exact Ev.neg (by omega) (Ev.now _)
  | succ d ih =>
    intro i hi
    refine Ev.succ ?_
    simp only [spec_l1Has.l0.eq_2]
    refine Ev.pos (by omega) (Ev.pos (by omega) ?_)
    have hd : l.drop i = l[i] :: l.drop (i + 1) := (List.drop_eq_getElem_cons (by omega))
    rw [rd_nat l i (by omega)]
    by_cases e : l[i] = x
    · rw [show decide (x ∈ l.drop i) = true by rw [hd]; simp [e]]
      exact Ev.pos e (Ev.now _)
    · refine Ev.neg e ?_
      rw [w64 (by omega) (by omega)]
      have := ih (i + 1) (by omega)
      rw [show decide (x ∈ l.drop i) = decide (x ∈ l.drop (i + 1)) by rw [hd]; simp only [List.mem_cons, Ne.symm e, false_or]]
      exact this
theorem has_ev (l : List Int) (x : Int) (hl : l.length ≤ 35184372088832) : Ev (fun k => spec_l1Has.f k l x) (decide (x ∈ l)) := has_loop l x hl l.length 0 (by omega)
def pc : Nat → Nat → Nat
  | 0, _ => 0
  | k + 1, n => n % 2 + pc k (n / 2)
theorem pc_add (a b n : Nat) : pc (a + b) n = pc a n + pc b (n / 2 ^ a) := by
  induction a generalizing n with
  | zero => simp [pc]
  | succ a ih =>
    rw [show a + 1 + b = (a + b) + 1 by omega]
    simp only [pc]
    rw [ih, Nat.div_div_eq_div_mul, Nat.pow_succ, Nat.mul_comm 2 (2 ^ a)]
    omega
theorem pc_mod (k n : Nat) : pc k (n % 2 ^ k) = pc k n := by
  induction k generalizing n with
  | zero => rfl
  | succ k ih =>
    simp only [pc]
    rw [show n % 2 ^ (k + 1) % 2 = n % 2 by rw [Nat.pow_succ]; exact Nat.mod_mul_left_mod n (2 ^ k) 2]
    rw [show n % 2 ^ (k + 1) / 2 = (n / 2) % 2 ^ k by rw [Nat.pow_succ, Nat.mul_comm]; exact Nat.mod_mul_right_div_self n 2 (2 ^ k)]
    rw [ih]
theorem pc_le (k n : Nat) : pc k n ≤ k := by
  induction k generalizing n with
  | zero => exact Nat.le_refl _
  | succ k ih => have := ih (n / 2); simp only [pc]; omega
theorem u32_nat (a b : Nat) (ha : a < 4294967296) (hb : b < 4294967296) : Go.bits .and .u32 (a : Int) (b : Int) = ((a &&& b : Nat) : Int) ∧ Go.bits .or .u32 (a : Int) (b : Int) = ((a ||| b : Nat) : Int) :=
  bits_nat .u32 32 (by decide) (fun n h0 h1 => by rw [IntKind.wrap_u32]; omega) a b (by omega) (by omega)
theorem pc_count (k n : Nat) : pc k n = (List.range k).countP (fun i => n.testBit i) := by
  induction k generalizing n with
  | zero => rfl
  | succ k ih =>
    rw [List.range_succ_eq_map, List.countP_cons, List.countP_map]
    simp only [pc]
    rw [ih, Nat.add_comm]
    congr 1
    · apply List.countP_congr
      intro i _
      simp [Nat.testBit_succ]
    · rw [Nat.testBit_zero]
      by_cases h : n % 2 = 1
      · simp [h]
      · have : n % 2 = 0 := by omega
        simp [this]
def onesTab : ByteArray := ⟨#[0, 1, 1, 2, 1, 2, 2, 3, 1, 2, 2, 3, 2, 3, 3, 4, 1, 2, 2, 3, 2, 3, 3, 4, 2, 3, 3, 4, 3, 4, 4, 5, 1, 2, 2, 3, 2, 3, 3, 4, 2, 3, 3, 4, 3, 4, 4, 5, 2, 3, 3, 4, 3, 4, 4, 5, 3, 4, 4, 5, 4, 5, 5, 6, 1, 2, 2, 3, 2, 3, 3, 4, 2, 3, 3, 4, 3, 4, 4, 5, 2, 3, 3, 4, 3, 4, 4, 5, 3, 4, 4, 5, 4, 5, 5, 6, 2, 3, 3, 4, 3, 4, 4, 5, 3, 4, 4, 5, 4, 5, 5, 6, 3, 4, 4, 5, 4, 5, 5, 6, 4, 5, 5, 6, 5, 6, 6, 7, 1, 2, 2, 3, 2, 3, 3, 4, 2, 3, 3, 4, 3, 4, 4, 5, 2, 3, 3, 4, 3, 4, 4, 5, 3, 4, 4, 5, 4, 5, 5, 6, 2, 3, 3, 4, 3, 4, 4, 5, 3, 4, 4, 5, 4, 5, 5, 6, 3, 4, 4, 5, 4, 5, 5, 6, 4, 5, 5, 6, 5, 6, 6, 7, 2, 3, 3, 4, 3, 4, 4, 5, 3, 4, 4, 5, 4, 5, 5, 6, 3, 4, 4, 5, 4, 5, 5, 6, 4, 5, 5, 6, 5, 6, 6, 7, 3, 4, 4, 5, 4, 5, 5, 6, 4, 5, 5, 6, 5, 6, 6, 7, 4, 5, 5, 6, 5, 6, 6, 7, 5, 6, 6, 7, 6, 7, 7, 8]⟩
theorem onesTab_pc : ∀ i : Fin 256, bt onesTab ((i.val : Nat) : Int) = ((pc 8 i.val : Nat) : Int) := by decide +kernel
theorem onesTab_at (n : Nat) (h : n < 256) : bt onesTab (n : Int) = ((pc 8 n : Nat) : Int) := onesTab_pc ⟨n, h⟩
theorem u32_byte (n : Nat) (h : n < 4294967296) : Go.bits .and .u32 (n : Int) 255 = ((n % 256 : Nat) : Int) := by
  have := (u32_nat n 255 h (by omega)).1
  rw [show ((255 : Nat) : Int) = 255 from rfl] at this
  rw [this, show 255 = 2 ^ 8 - 1 from rfl, Nat.and_two_pow_sub_one_eq_mod]
theorem ones_tab (a0 : Int) : bits_OnesCount32.f a0 = if 0 ≤ (a0 / 16777216) then (if (a0 / 16777216) < 256 then (if 0 ≤ (Go.bits .and .u32 (a0 / 65536) 255) then (if (Go.bits .and .u32 (a0 / 65536) 255) < 256 then (if 0 ≤ (Go.bits .and .u32 (a0 / 256) 255) then (if (Go.bits .and .u32 (a0 / 256) 255) < 256 then (if 0 ≤ (Go.bits .and .u32 a0 255) then (if (Go.bits .and .u32 a0 255) < 256 then (some ((((((bt onesTab (a0 / 16777216)) + (bt onesTab (Go.bits .and .u32 (a0 / 65536) 255))) % 256) + (bt onesTab (Go.bits .and .u32 (a0 / 256) 255))) % 256 + (bt onesTab (Go.bits .and .u32 a0 255))) % 256)) else (none)) else (none)) else (none)) else (none)) else (none)) else (none)) else (none)) else (none) := rfl
theorem ones_eq (n : Nat) (h : n < 4294967296) : bits_OnesCount32.f (n : Int) = some ((pc 32 n : Nat) : Int) := by
  have e1 : (n : Int) / 16777216 = ((n / 16777216 : Nat) : Int) := by omega
  have e2 : (n : Int) / 65536 = ((n / 65536 : Nat) : Int) := by omega
  have e3 : (n : Int) / 256 = ((n / 256 : Nat) : Int) := by omega
  rw [ones_tab, e1, e2, e3, u32_byte _ (by omega), u32_byte _ (by omega), u32_byte _ (by omega)]
  rw [onesTab_at _ (by omega), onesTab_at _ (by omega), onesTab_at _ (by omega), onesTab_at _ (by omega)]
  rw [if_pos (Int.natCast_nonneg _), if_pos (by omega), if_pos (Int.natCast_nonneg _), if_pos (by omega), if_pos (Int.natCast_nonneg _), if_pos (by omega), if_pos (Int.natCast_nonneg _), if_pos (by omega)]
  have p4 : pc 32 n = pc 8 (n % 256) + pc 8 (n / 256 % 256) + pc 8 (n / 65536 % 256) + pc 8 (n / 16777216) := by
    have a0 : pc 32 n = pc 8 n + (pc 8 (n / 256) + (pc 8 (n / 256 / 256) + pc 8 (n / 256 / 256 / 256))) := by
      rw [show pc 32 n = pc (8 + (8 + (8 + 8))) n from rfl, pc_add, pc_add, pc_add]
    have a1 : pc 8 (n % 256) = pc 8 n := pc_mod 8 n
    have a2 : pc 8 (n / 256 % 256) = pc 8 (n / 256) := pc_mod 8 (n / 256)
    have a3 : pc 8 (n / 65536 % 256) = pc 8 (n / 65536) := pc_mod 8 (n / 65536)
    rw [show n / 256 / 256 / 256 = n / 16777216 by omega, show n / 256 / 256 = n / 65536 by omega] at a0
    rw [a0, a1, a2, a3]; omega
  rw [p4]
  have b1 := pc_le 8 (n % 256)
  have b2 := pc_le 8 (n / 256 % 256)
  have b3 := pc_le 8 (n / 65536 % 256)
  have b4 := pc_le 8 (n / 16777216)
  refine congrArg some ?_
  generalize pc 8 (n % 256) = c1 at *
  generalize pc 8 (n / 256 % 256) = c2 at *
  generalize pc 8 (n / 65536 % 256) = c3 at *
  generalize h4 : pc 8 (n / 16777216) = c4 at *
  have : n / 16777216 % 256 = n / 16777216 := by omega
  omega
/-- the set of some seats -/
def setN (l : List Int) : Nat := l.foldl (fun s p => s ||| 2 ^ p.toNat) 0
theorem foldl_or_bit (l : List Int) (s j : Nat) : (l.foldl (fun s p => s ||| 2 ^ p.toNat) s).testBit j = (s.testBit j || decide (∃ p ∈ l, p.toNat = j)) := by
  induction l generalizing s with
  | nil => simp
  | cons p l ih =>
    rw [List.foldl_cons, ih, Nat.testBit_or, Nat.testBit_two_pow]
    simp only [List.mem_cons, exists_eq_or_imp, Bool.decide_or, Bool.or_assoc]
theorem setN_bit (l : List Int) (j : Nat) : (setN l).testBit j = decide (∃ p ∈ l, p.toNat = j) := by
  unfold setN; rw [foldl_or_bit]; simp
theorem setN_lt (l : List Int) (h : ∀ x ∈ l, 0 ≤ x ∧ x < 32) : setN l < 4294967296 := by
  refine Nat.lt_pow_two_of_testBit (n := 32) _ (fun j hj => ?_)
  rw [setN_bit]
  simp only [decide_eq_false_iff_not, not_exists, not_and]
  intro x hx e
  have := h x hx
  omega
theorem setN_take (l : List Int) (i : Nat) (h : i < l.length) : setN (l.take (i + 1)) = setN (l.take i) ||| 2 ^ (l[i]).toNat := by
  unfold setN
  rw [List.take_succ_eq_append_getElem h, List.foldl_append]
  rfl
theorem two_pow_lt32 (p : Int) (h0 : 0 ≤ p) (h1 : p < 32) : 2 ^ p.toNat < 4294967296 := Nat.pow_lt_pow_right (m := p.toNat) (n := 32) (by decide) (by omega)
theorem shl_u32_one (p : Int) (h0 : 0 ≤ p) (h1 : p < 32) : shl .u32 1 p = ((2 ^ p.toNat : Nat) : Int) := by
  unfold shl
  rw [Nat.min_eq_left (by simp [IntKind.bits]; omega), IntKind.wrap_u32]
  have e : (1 * 2 ^ p.toNat : Int) = ((2 ^ p.toNat : Nat) : Int) := by rw [Int.one_mul]; push_cast; rfl
  rw [e]; exact Int.emod_eq_of_lt (Int.natCast_nonneg _) (Int.ofNat_lt.mpr (two_pow_lt32 p h0 h1))
theorem setOf_loop (l : List Int) (h : ∀ x ∈ l, 0 ≤ x ∧ x < 32) (hl : l.length ≤ 35184372088832) : ∀ (d i : Nat), i + d = l.length → Ev (fun k => impl_setOf.l0 k (setN (l.take i) : Int) l (l.length : Int) (i : Int)) (setN l : Int) := by
  intro d
  induction d with
  | zero =>
    intro i hi
    refine Ev.succ ?_
    simp only [impl_setOf.l0.eq_2]
    rw [List.take_of_length_le (by omega)]
    exact Ev.neg (by omega) (Ev.now _)
  | succ d ih =>
    intro i hi
    refine Ev.succ ?_
    simp only [impl_setOf.l0.eq_2]
    have hx := h (l[i]) (List.getElem_mem (by omega))
    rw [rd_nat l i (by omega)]
    refine Ev.pos (by omega) (Ev.pos (by omega) (Ev.pos (by omega) (Ev.pos hx.1 ?_)))
    rw [w64 (by omega) (by omega), shl_u32_one _ hx.1 hx.2]
    rw [(u32_nat _ _ (setN_lt _ (fun x hx => h x (List.mem_of_mem_take hx))) (two_pow_lt32 _ hx.1 hx.2)).2, ← setN_take l i (by omega)]
    exact ih (i + 1) (by omega)
theorem setOf_ev (l : List Int) (h : ∀ x ∈ l, 0 ≤ x ∧ x < 32) (hl : l.length ≤ 35184372088832) : Ev (fun k => impl_setOf.f k l) (setN l : Int) := setOf_loop l h hl l.length 0 (by omega)
theorem count_eq (n : Nat) (h : n < 4294967296) : impl_set_count.f (n : Int) = some ((pc 32 n : Nat) : Int) := by
  unfold impl_set_count.f; rw [ones_eq n h]; rfl
/-- a list that has each number less than n once -/
def IsOrd (l : List Int) (n : Int) : Prop := (l.length : Int) = n ∧ ∀ i : Nat, (i : Int) < n → (i : Int) ∈ l
theorem ph_len : ∀ (n : Nat) (l : List Int), (∀ i : Nat, i < n → (i : Int) ∈ l) → n ≤ l.length := by
  intro n
  induction n with
  | zero => intro l _; omega
  | succ n ih =>
    intro l h
    have hm := h n (by omega)
    have := ih (l.erase (n : Int)) (fun i hi => (List.mem_erase_of_ne (by omega)).mpr (h i (by omega)))
    rw [List.length_erase_of_mem hm] at this
    have : 0 < l.length := List.length_pos_of_mem hm
    omega
theorem ph_range : ∀ (n : Nat) (l : List Int), l.length = n → (∀ i : Nat, i < n → (i : Int) ∈ l) → ∀ x ∈ l, 0 ≤ x ∧ x < (n : Int) := by
  intro n
  induction n with
  | zero => intro l hl _ x hx; rw [List.length_eq_zero_iff.mp hl] at hx; cases hx
  | succ n ih =>
    intro l hl h x hx
    have hm := h n (by omega)
    by_cases e : x = (n : Int)
    · omega
    · have := ih (l.erase (n : Int)) (by rw [List.length_erase_of_mem hm]; omega) (fun i hi => (List.mem_erase_of_ne (by omega)).mpr (h i (by omega))) x ((List.mem_erase_of_ne e).mpr hx)
      omega
theorem ph_nodup_len : ∀ (m : Nat) (l : List Int), l.Nodup → (∀ x ∈ l, 0 ≤ x ∧ x < (m : Int)) → l.length ≤ m := by
  intro m
  induction m with
  | zero =>
    intro l _ h
    cases l with
    | nil => simp
    | cons x l => have := h x (by simp); omega
  | succ m ih =>
    intro l hn h
    by_cases hm : (m : Int) ∈ l
    · have := ih (l.erase (m : Int)) (hn.erase _) (fun x hx => by
        have h1 := h x (List.mem_of_mem_erase hx)
        have h2 : x ≠ (m : Int) := fun e => by subst e; exact (List.Nodup.not_mem_erase hn) hx
        omega)
      rw [List.length_erase_of_mem hm] at this
      omega
    · have := ih l hn (fun x hx => by
        have h1 := h x hx
        have h2 : x ≠ (m : Int) := fun e => by subst e; exact hm hx
        omega)
      omega
theorem ord_range {l : List Int} {n : Int} (h : IsOrd l n) : ∀ x ∈ l, 0 ≤ x ∧ x < n := by
  obtain ⟨h1, h2⟩ := h
  have := ph_range l.length l rfl (fun i hi => h2 i (by omega))
  intro x hx; have := this x hx; omega
theorem ord_of_nodup {l : List Int} {n : Int} (hl : (l.length : Int) = n) (hn : l.Nodup) (hr : ∀ x ∈ l, 0 ≤ x ∧ x < n) : IsOrd l n := by
  refine ⟨hl, fun i hi => ?_⟩
  by_cases hm : (i : Int) ∈ l
  · exact hm
  · have := ph_nodup_len l.length ((i : Int) :: l) (List.nodup_cons.mpr ⟨hm, hn⟩) (fun x hx => by
      rcases List.mem_cons.mp hx with rfl | hx
      · omega
      · have := hr x hx; omega)
    rw [List.length_cons] at this; omega
theorem ord_nodup : ∀ (n : Nat) (l : List Int), l.length = n → (∀ i : Nat, i < n → (i : Int) ∈ l) → l.Nodup := by
  intro n
  induction n with
  | zero => intro l hl _; rw [List.length_eq_zero_iff.mp hl]; exact List.nodup_nil
  | succ n ih =>
    intro l hl h
    have hm := h n (by omega)
    have hl' : (l.erase (n : Int)).length = n := by rw [List.length_erase_of_mem hm]; omega
    have h' : ∀ i : Nat, i < n → (i : Int) ∈ l.erase (n : Int) := fun i hi => (List.mem_erase_of_ne (by omega)).mpr (h i (by omega))
    have hn : (n : Int) ∉ l.erase (n : Int) := fun hc => by have := ph_range n _ hl' h' _ hc; omega
    exact (List.perm_cons_erase hm).nodup_iff.mpr (List.nodup_cons.mpr ⟨hn, ih _ hl' h'⟩)
theorem isOrd_nodup {l : List Int} {n : Int} (h : IsOrd l n) : l.Nodup := ord_nodup l.length l rfl (fun i hi => h.2 i (by have := h.1; omega))
instance (l : List Int) (n : Int) : Decidable (IsOrd l n) := decidable_of_iff ((l.length : Int) = n ∧ ∀ i : Fin l.length, (i.val : Int) ∈ l) (by
  unfold IsOrd
  constructor
  · rintro ⟨h1, h2⟩; exact ⟨h1, fun i hi => h2 ⟨i, by omega⟩⟩
  · rintro ⟨h1, h2⟩; exact ⟨h1, fun i => h2 i.val (by have := i.isLt; omega)⟩)
theorem pc_full (n : Nat) (hn : n ≤ 32) (l : List Int) (hr : ∀ x ∈ l, 0 ≤ x ∧ x < (n : Int)) : pc 32 (setN l) = n ↔ ∀ i : Nat, i < n → (i : Int) ∈ l := by
  have e : pc 32 (setN l) = (List.range n).countP (fun i : Nat => decide ((i : Int) ∈ l)) := by
    rw [pc_count]
    have h1 : (List.range 32).countP (fun i => (setN l).testBit i) = (List.range 32).countP (fun i : Nat => decide ((i : Int) ∈ l)) := by
      apply List.countP_congr
      intro i _
      rw [setN_bit]
      simp only [decide_eq_true_eq]
      constructor
      · rintro ⟨p, hp, e⟩; have := hr p hp; rw [show (i : Int) = p by omega]; exact hp
      · intro h; exact ⟨_, h, by omega⟩
    rw [h1, show 32 = n + (32 - n) by omega, List.range_add, List.countP_append, List.countP_map]
    rw [show List.countP ((fun i : Nat => decide ((i : Int) ∈ l)) ∘ fun x => n + x) (List.range (32 - n)) = 0 by
      rw [List.countP_eq_zero]
      intro i _
      simp only [Function.comp, decide_eq_true_eq]
      intro h
      have := hr _ h
      omega]
    rfl
  rw [e]
  constructor
  · intro h i hi
    have h2 := (List.countP_eq_length (p := fun i : Nat => decide ((i : Int) ∈ l)) (l := List.range n)).mp (by rw [h, List.length_range])
    have := h2 i (List.mem_range.mpr hi)
    simpa using this
  · intro h
    rw [(List.countP_eq_length (p := fun i : Nat => decide ((i : Int) ∈ l)) (l := List.range n)).mpr (fun i hi => by simpa using h i (List.mem_range.mp hi)), List.length_range]
theorem isOrder_ev (l : List Int) (n : Int) (h0 : 0 ≤ n) (h1 : n ≤ 32) (hl : l.length ≤ 35184372088832) : Ev (fun k => impl_isOrder.f k l n) (decide (IsOrd l n)) := by
  unfold impl_isOrder.f
  by_cases hn : (l.length : Int) = n
  · refine Ev.pos hn (Ev.bind (allWithin_ev l 0 _ hl) ?_)
    rw [w64 (by omega) (by omega)]
    by_cases hw : ∀ x ∈ l, 0 ≤ x ∧ x ≤ n - 1
    · refine Ev.pos (decide_eq_true hw) ?_
      have hw32 : ∀ x ∈ l, 0 ≤ x ∧ x < 32 := fun x hx => by have := hw x hx; omega
      refine Ev.bind (setOf_ev l hw32 hl) (Ev.bindc (count_eq _ (setN_lt l hw32)) ?_)
      have hp := pc_full n.toNat (by omega) l (fun x hx => by have := hw x hx; omega)
      rw [show ((((pc 32 (setN l) : Nat) : Int) == n)) = decide (IsOrd l n) by
        rw [Bool.eq_iff_iff]
        simp only [beq_iff_eq, decide_eq_true_eq]
        unfold IsOrd
        constructor
        · intro h; exact ⟨hn, fun i hi => hp.mp (by omega) i (by omega)⟩
        · rintro ⟨_, h⟩; have := hp.mpr (fun i hi => h i (by omega)); omega]
      exact Ev.now _
    · refine Ev.neg (by simpa using hw) ?_
      rw [show decide (IsOrd l n) = false by
        simp only [decide_eq_false_iff_not]
        intro h; exact hw (fun x hx => by have := ord_range h x hx; omega)]
      exact Ev.now _
  · refine Ev.neg hn ?_
    rw [show decide (IsOrd l n) = false by simp only [decide_eq_false_iff_not]; intro h; exact hn h.1]
    exact Ev.now _
theorem l7Order_loop (l : List Int) (n : Int) (hn0 : 0 ≤ n) (hn : n ≤ 1000) (hl : l.length ≤ 35184372088832) : ∀ (d i : Nat), i + d = l.length → (l.take i).Nodup → (∀ x ∈ l.take i, 0 ≤ x ∧ x < n) → Ev (fun k => spec_l7Order.l0 k n l (i : Int)) (decide (IsOrd l n)) := by
  intro d
  induction d with
  | zero =>
    intro i hi hnd hr
    refine Ev.succ ?_
    simp only [spec_l7Order.l0.eq_2]
    rw [List.take_of_length_le (by omega)] at hnd hr
    rw [show decide (IsOrd l n) = ((l.length : Int) == n) by
      rw [Bool.eq_iff_iff]; simp only [beq_iff_eq, decide_eq_true_eq]
      exact ⟨fun h => h.1, fun h => ord_of_nodup h hnd hr⟩]
    exact Ev.neg (by omega) (Ev.now _)
  | succ d ih =>
    intro i hi hnd hr
    refine Ev.succ ?_
    simp only [spec_l7Order.l0.eq_2]
    rw [rd_nat l i (by omega), w64 (n := n - 1) (by omega) (by omega), Int.toNat_natCast]
    refine Ev.pos (by omega) (Ev.pos (by omega) (Ev.bindc (l1In_eq _ _ _) ?_))
    have hmem : l[i] ∈ l := List.getElem_mem (by omega)
    by_cases hw : 0 ≤ l[i] ∧ l[i] ≤ n - 1
    · refine Ev.pos (decide_eq_true hw) (Ev.pos (by omega) (Ev.bind (has_ev (l.take i) l[i] (by rw [List.length_take]; omega)) ?_))
      have ht : l.take (i + 1) = l.take i ++ [l[i]] := List.take_succ_eq_append_getElem (by omega)
      by_cases hm : l[i] ∈ l.take i
      · refine Ev.pos (decide_eq_true hm) ?_
        rw [show decide (IsOrd l n) = false by
          simp only [decide_eq_false_iff_not]
          intro h
          have h1 := isOrd_nodup h
          rw [← List.take_append_drop (i + 1) l, ht] at h1
          have h2 := (List.nodup_append.mp (List.nodup_append.mp h1).1).2.2
          exact h2 _ hm _ (List.mem_singleton.mpr rfl) rfl]
        exact Ev.now _
      · refine Ev.neg (by simpa using hm) ?_
        rw [w64 (n := (i : Int) + 1) (by omega) (by omega)]
        refine ih (i + 1) (by omega) ?_ ?_
        · rw [ht]; exact List.nodup_append.mpr ⟨hnd, by simp, fun a ha b hb => by rw [List.mem_singleton.mp hb]; exact fun e => hm (e ▸ ha)⟩
        · intro x hx
          rw [ht] at hx
          rcases List.mem_append.mp hx with hx | hx
          · exact hr x hx
          · rw [List.mem_singleton.mp hx]; omega
    · refine Ev.neg (by simpa using hw) ?_
      rw [show decide (IsOrd l n) = false by
        simp only [decide_eq_false_iff_not]
        intro h; have := ord_range h _ hmem; omega]
      exact Ev.now _
theorem l7Order_ev (l : List Int) (n : Int) (hn0 : 0 ≤ n) (hn : n ≤ 1000) (hl : l.length ≤ 35184372088832) : Ev (fun k => spec_l7Order.f k n l) (decide (IsOrd l n)) :=
  l7Order_loop l n hn0 hn hl l.length 0 (by omega) (by simp) (by simp)
/-! boarding: who stands where; one traveler's act, a unit, all units -/
structure BC where
  ai : List Int
  at_ : List Int
  sw : List Int
  en : List Int
  sa : List Int
  wa : List Int
theorem rd_set (l : List Int) (i j : Nat) (v : Int) (hi : i < l.length) : rd (l.set i v) (j : Int) = if i = j then v else rd l (j : Int) := by
  unfold rd
  simp only [Int.toNat_natCast, List.getD_eq_getElem?_getD, List.getElem?_set]
  by_cases e : i = j
  · rw [if_pos e, if_pos e, if_pos (by omega)]; rfl
  · rw [if_neg e, if_neg e]
def act (c : BC) (r : Nat) (t s : Int) : BC :=
  if rd c.sa r > 0 then c
  else if rd c.at_ r < 0 then
    if rd c.ai 0 < 0 then { c with ai := c.ai.set 0 r, at_ := c.at_.set r 0, en := c.en.set r t } else c
  else if rd c.at_ r = r then
    if rd c.sw r + 1 = s then { c with sw := c.sw.set r (rd c.sw r + 1), sa := c.sa.set r t, ai := c.ai.set r (-1) }
    else { c with sw := c.sw.set r (rd c.sw r + 1) }
  else if rd c.ai (rd c.at_ r + 1) < 0 then
    { c with ai := (c.ai.set (rd c.at_ r).toNat (-1)).set (rd c.at_ r + 1).toNat r, at_ := c.at_.set r (rd c.at_ r + 1) }
  else { c with wa := c.wa.set r (wrap64 (rd c.wa r + 1)) }
structure BW (n : Nat) (s : Int) (c : BC) : Prop where
  lai : c.ai.length = n
  lat : c.at_.length = n
  lsw : c.sw.length = n
  len : c.en.length = n
  lsa : c.sa.length = n
  lwa : c.wa.length = n
  lo : ∀ r : Nat, r < n → -1 ≤ rd c.at_ r
  hi : ∀ r : Nat, r < n → rd c.at_ r ≤ r
  sn : ∀ r : Nat, r < n → 0 ≤ rd c.sa r
  s0 : ∀ r : Nat, r < n → 0 ≤ rd c.sw r
  s1 : ∀ r : Nat, r < n → rd c.sa r = 0 → rd c.sw r < s
  occ : ∀ q : Nat, q < n → 0 ≤ rd c.ai q → ∃ r : Nat, r < n ∧ rd c.sa r = 0 ∧ rd c.at_ r = q
theorem act_spec {n : Nat} {s : Int} {c : BC} (h : BW n s c) (r : Nat) (hr : r < n) (t : Int) (hs : s ≤ 5) (hn : n ≤ 10) :
    spec_l7Act.f c.ai c.at_ c.sw c.en c.sa c.wa r t s = some ((act c r t s).ai, (act c r t s).at_, (act c r t s).sw, (act c r t s).en, (act c r t s).sa, (act c r t s).wa) := by
  have h1 := h.lo r hr
  have h2 := h.hi r hr
  have h3 := h.sn r hr
  have h4 := h.s0 r hr
  have h5 := h.s1 r hr
  have := h.lai; have := h.lat; have := h.lsw; have := h.len; have := h.lsa; have := h.lwa
  unfold spec_l7Act.f act
  rw [if_pos (by omega), if_pos (by omega), if_pos (by omega)]
  by_cases c1 : rd c.sa r > 0
  · rw [if_pos c1, if_pos c1]
  · rw [if_neg c1, if_neg c1]
    have h6 := h5 (by omega)
    by_cases c2 : rd c.at_ r < 0
    · rw [if_pos c2, if_pos c2, if_pos (by omega)]
      by_cases c3 : rd c.ai 0 < 0
      · rw [if_pos c3, if_pos c3, if_pos (by omega)]; rfl
      · rw [if_neg c3, if_neg c3]
    · rw [if_neg c2, if_neg c2]
      by_cases c3 : rd c.at_ r = r
      · rw [if_pos c3, if_pos c3, if_pos (by omega)]
        simp only [Option.bind_some, Int.toNat_natCast]
        rw [rd_set _ _ _ _ (by omega), if_pos rfl, w64 (by omega) (by omega)]
        by_cases c4 : rd c.sw r + 1 = s
        · rw [if_pos c4, if_pos c4, if_pos (by omega), if_pos (by omega), c3]; rfl
        · rw [if_neg c4, if_neg c4]
      · rw [if_neg c3, if_neg c3, w64 (n := rd c.at_ r + 1) (by omega) (by omega), if_pos (by omega), if_pos (by omega)]
        by_cases c4 : rd c.ai (rd c.at_ r + 1) < 0
        · rw [if_pos c4, if_pos c4, if_pos (by omega), if_pos (by omega)]; rfl
        · rw [if_neg c4, if_neg c4, if_pos (by omega)]; rfl
theorem act_wf {n : Nat} {s : Int} {c : BC} (h : BW n s c) (r : Nat) (hr : r < n) (t : Int) (ht : 1 ≤ t) : BW n s (act c r t s) := by
  have h1 := h.lo r hr
  have h2 := h.hi r hr
  have h3 := h.sn r hr
  have h4 := h.s0 r hr
  have h5 := h.s1 r hr
  obtain ⟨a1, a2, a3, a4, a5, a6, lo, hi, sn, s0, s1, occ⟩ := h
  unfold act
  by_cases c1 : rd c.sa r > 0
  · rw [if_pos c1]; exact ⟨a1, a2, a3, a4, a5, a6, lo, hi, sn, s0, s1, occ⟩
  · rw [if_neg c1]
    have h6 := h5 (by omega)
    by_cases c2 : rd c.at_ r < 0
    · rw [if_pos c2]
      by_cases c3 : rd c.ai 0 < 0
      · rw [if_pos c3]
        refine ⟨by simpa using a1, by simpa using a2, a3, by simpa using a4, a5, a6, ?_, ?_, sn, s0, s1, ?_⟩
        · intro q hq; dsimp only; rw [rd_set _ _ _ _ (by omega)]; split
          · omega
          · exact lo q hq
        · intro q hq; dsimp only; rw [rd_set _ _ _ _ (by omega)]; split
          · omega
          · exact hi q hq
        · intro q hq; dsimp only; rw [rd_set _ _ _ _ (by omega)]
          intro hx
          by_cases e : 0 = q
          · refine ⟨r, hr, by omega, ?_⟩
            rw [rd_set _ _ _ _ (by omega), if_pos rfl]; omega
          · rw [if_neg e] at hx
            obtain ⟨x, x1, x2, x3⟩ := occ q hq hx
            refine ⟨x, x1, x2, ?_⟩
            rw [rd_set _ _ _ _ (by omega), if_neg (by rintro rfl; omega)]; exact x3
      · rw [if_neg c3]; exact ⟨a1, a2, a3, a4, a5, a6, lo, hi, sn, s0, s1, occ⟩
    · rw [if_neg c2]
      by_cases c3 : rd c.at_ r = r
      · rw [if_pos c3]
        by_cases c4 : rd c.sw r + 1 = s
        · rw [if_pos c4]
          refine ⟨by simpa using a1, a2, by simpa using a3, a4, by simpa using a5, a6, lo, hi, ?_, ?_, ?_, ?_⟩
          · intro q hq; dsimp only; rw [rd_set _ _ _ _ (by omega)]; split
            · omega
            · exact sn q hq
          · intro q hq; dsimp only; rw [rd_set _ _ _ _ (by omega)]; split
            · omega
            · exact s0 q hq
          · intro q hq; dsimp only; rw [rd_set _ _ _ _ (by omega), rd_set _ _ _ _ (by omega)]
            by_cases e : r = q
            · rw [if_pos e, if_pos e]; omega
            · rw [if_neg e, if_neg e]; exact s1 q hq
          · intro q hq; dsimp only; rw [rd_set _ _ _ _ (by omega)]
            intro hx
            by_cases e : r = q
            · rw [if_pos e] at hx; omega
            · rw [if_neg e] at hx
              obtain ⟨x, x1, x2, x3⟩ := occ q hq hx
              refine ⟨x, x1, ?_, x3⟩
              rw [rd_set _ _ _ _ (by omega), if_neg (by rintro rfl; omega)]; exact x2
        · rw [if_neg c4]
          refine ⟨a1, a2, by simpa using a3, a4, a5, a6, lo, hi, sn, ?_, ?_, occ⟩
          · intro q hq; dsimp only; rw [rd_set _ _ _ _ (by omega)]; split
            · omega
            · exact s0 q hq
          · intro q hq hz; dsimp only; rw [rd_set _ _ _ _ (by omega)]; split
            · omega
            · exact s1 q hq hz
      · rw [if_neg c3]
        obtain ⟨p, hp⟩ := Int.eq_ofNat_of_zero_le (show 0 ≤ rd c.at_ r by omega)
        rw [hp] at h1 h2 c3 ⊢
        rw [show ((p : Int) + 1) = ((p + 1 : Nat) : Int) by omega, Int.toNat_natCast, Int.toNat_natCast]
        by_cases c4 : rd c.ai ((p + 1 : Nat) : Int) < 0
        · rw [if_pos c4]
          refine ⟨by simpa using a1, by simpa using a2, a3, a4, a5, a6, ?_, ?_, sn, s0, s1, ?_⟩
          · intro q hq; dsimp only; rw [rd_set _ _ _ _ (by omega)]; split
            · omega
            · exact lo q hq
          · intro q hq; dsimp only; rw [rd_set _ _ _ _ (by omega)]; split
            · omega
            · exact hi q hq
          · intro q hq; dsimp only; rw [rd_set _ _ _ _ (by simp; omega), rd_set _ _ _ _ (by omega)]
            intro hx
            by_cases e : p + 1 = q
            · refine ⟨r, hr, by omega, ?_⟩
              rw [rd_set _ _ _ _ (by omega), if_pos rfl]; omega
            · rw [if_neg e] at hx
              by_cases e2 : p = q
              · rw [if_pos e2] at hx; omega
              · rw [if_neg e2] at hx
                obtain ⟨x, x1, x2, x3⟩ := occ q hq hx
                refine ⟨x, x1, x2, ?_⟩
                rw [rd_set _ _ _ _ (by omega), if_neg (by rintro rfl; omega)]; exact x3
        · rw [if_neg c4]
          exact ⟨a1, a2, a3, a4, a5, by simpa using a6, lo, hi, sn, s0, s1, occ⟩
theorem rd_ext {a b : List Int} {n : Nat} (ha : a.length = n) (hb : b.length = n) (h : ∀ i : Nat, i < n → rd a i = rd b i) : a = b := by
  refine List.ext_getElem (by omega) (fun i h1 h2 => ?_)
  have := h i (by omega)
  rwa [rd_nat a i h1, rd_nat b i h2] at this
def plOf (n : Nat) (c : BC) : List Int := (List.range n).map fun (i : Nat) => if rd c.sa (i : Int) > 0 then (n : Int) else rd c.at_ (i : Int)
theorem plOf_len (n : Nat) (c : BC) : (plOf n c).length = n := by simp [plOf]
theorem plOf_rd (n : Nat) (c : BC) (r : Nat) (hr : r < n) : rd (plOf n c) (r : Int) = if rd c.sa (r : Int) > 0 then (n : Int) else rd c.at_ (r : Int) := by
  rw [rd_nat _ _ (by rw [plOf_len]; exact hr)]; simp [plOf]
def zc (l : List Int) : Nat := l.countP (fun x => x == 0)
theorem zc_set : ∀ (l : List Int) (i : Nat) (v : Int), i < l.length → rd l (i : Int) = 0 → v ≠ 0 → zc (l.set i v) + 1 = zc l := by
  intro l
  induction l with
  | nil => intro i v h; simp at h
  | cons a l ih =>
    intro i v hi h0 hv
    cases i with
    | zero =>
      obtain rfl : a = 0 := by simpa [rd] using h0
      simp [zc, hv]
    | succ i =>
      have := ih i v (by simpa using hi) (by simpa [rd, show ((i : Int) + 1).toNat = i + 1 by omega] using h0) hv
      simp only [zc, List.set_cons_succ, List.countP_cons] at this ⊢
      omega
theorem zc_pos (l : List Int) : 0 < zc l ↔ (0 : Int) ∈ l := by
  unfold zc; rw [List.countP_pos_iff]; simp
theorem l1_act {n : Nat} {s : Int} {order : List Int} {c : BC} (h : BW n s c) (j r : Nat) (hr : r < n) (hj : j < order.length) (hol : order.length ≤ 10) (hrd : rd order (j : Int) = (r : Int)) (t : Int) (ht : 1 ≤ t) (hs : s ≤ 5) (hn : n ≤ 10) (ax : List (List Int)) (k : Nat) :
    impl_board.l1 (k + 1) (n : Int) s order (plOf n c) c.sw c.ai ((zc c.sa : Nat) : Int) t order (order.length : Int) (j : Int) c.sa c.en c.wa ax =
    impl_board.l1 k (n : Int) s order (plOf n (act c r t s)) (act c r t s).sw (act c r t s).ai ((zc (act c r t s).sa : Nat) : Int) t order (order.length : Int) ((j + 1 : Nat) : Int) (act c r t s).sa (act c r t s).en (act c r t s).wa ax := by
  have h1 := h.lo r hr
  have h2 := h.hi r hr
  have h3 := h.sn r hr
  have h4 := h.s0 r hr
  have h5 := h.s1 r hr
  have l1 := h.lai; have l2 := h.lat; have l3 := h.lsw; have l4 := h.len; have l5 := h.lsa; have l6 := h.lwa
  have lp := plOf_len n c
  have hp := plOf_rd n c r hr
  rw [impl_board.l1.eq_2, hrd, hp, w64 (n := (j : Int) + 1) (by omega) (by omega), if_pos (by omega), if_pos (by omega), if_pos (by omega), if_pos (by omega), if_pos (by omega)]
  rw [show ((j : Int) + 1) = ((j + 1 : Nat) : Int) by omega]
  unfold act
  by_cases c1 : rd c.sa r > 0
  · rw [if_pos c1, if_pos rfl, if_pos c1]
  · rw [if_neg c1, if_neg c1, if_neg (by omega)]
    have h6 := h5 (by omega)
    by_cases c2 : rd c.at_ r < 0
    · rw [if_neg (show ¬ rd c.at_ r = r by omega), if_pos c2]
      rw [show wrap64 (rd c.at_ r + 1) = 0 by unfold wrap64; omega, if_pos (by omega), if_pos (by omega)]
      by_cases c3 : rd c.ai 0 < 0
      · rw [if_pos c3, if_pos c3, if_pos (by omega), if_pos (by omega)]
        simp only [Int.toNat_natCast]
        have e : plOf n { c with ai := c.ai.set 0 (r : Int), at_ := c.at_.set r 0, en := c.en.set r t } = (plOf n c).set r 0 := by
          refine rd_ext (plOf_len _ _) (by simpa using lp) (fun i hi => ?_)
          rw [plOf_rd _ _ _ hi, rd_set _ _ _ _ (by omega)]
          dsimp only
          rw [rd_set _ _ _ _ (by omega), plOf_rd _ _ _ hi]
          by_cases e : r = i
          · subst e; rw [if_neg c1, if_pos rfl, if_pos rfl]
          · rw [if_neg e, if_neg e]
        rw [e]; rfl
      · rw [if_neg c3, if_neg c3, if_neg (by omega), if_pos c2]
    · by_cases c3 : rd c.at_ r = r
      · rw [if_pos c3, if_neg c2, if_pos c3, if_pos (by omega)]
        simp only [Option.bind_some, Int.toNat_natCast]
        rw [rd_set _ _ _ _ (by omega), if_pos rfl, w64 (n := rd c.sw r + 1) (by omega) (by omega)]
        by_cases c4 : rd c.sw r + 1 = s
        · rw [if_pos c4, if_pos c4, c3, if_pos (by omega), if_pos (by omega), if_pos (by omega)]
          have e : plOf n { c with sw := c.sw.set r (rd c.sw r + 1), sa := c.sa.set r t, ai := c.ai.set r (-1) } = (plOf n c).set r n := by
            refine rd_ext (plOf_len _ _) (by simpa using lp) (fun i hi => ?_)
            rw [plOf_rd _ _ _ hi, rd_set _ _ _ _ (by omega)]
            dsimp only
            rw [rd_set _ _ _ _ (by omega), plOf_rd _ _ _ hi]
            by_cases e : r = i
            · subst e; rw [if_pos rfl, if_pos (by omega), if_pos rfl]
            · rw [if_neg e, if_neg e]
          rw [e]
          have hz := zc_set c.sa r t (by omega) (by omega) (by omega)
          have hle : zc c.sa ≤ c.sa.length := List.countP_le_length
          rw [w64 (by omega) (by omega), show ((zc c.sa : Nat) : Int) - 1 = ((zc (c.sa.set r t) : Nat) : Int) by omega]
          rfl
        · rw [if_neg c4, if_neg c4]; rfl
      · rw [if_neg c3, if_neg c2, if_neg c3, w64 (n := rd c.at_ r + 1) (by omega) (by omega), if_pos (by omega), if_pos (by omega)]
        by_cases c4 : rd c.ai (rd c.at_ r + 1) < 0
        · rw [if_pos c4, if_pos c4, if_neg c2, if_pos (by omega), if_pos (by omega)]
          have e : plOf n { c with ai := (c.ai.set (rd c.at_ r).toNat (-1)).set (rd c.at_ r + 1).toNat (r : Int), at_ := c.at_.set r (rd c.at_ r + 1) } = (plOf n c).set r (rd c.at_ r + 1) := by
            refine rd_ext (plOf_len _ _) (by simpa using lp) (fun i hi => ?_)
            rw [plOf_rd _ _ _ hi, rd_set _ _ _ _ (by omega)]
            dsimp only
            rw [rd_set _ _ _ _ (by omega), plOf_rd _ _ _ hi]
            by_cases e : r = i
            · subst e; rw [if_neg c1, if_pos rfl, if_pos rfl]
            · rw [if_neg e, if_neg e]
          rw [e]; rfl
        · rw [if_neg c4, if_neg c4, if_pos (by omega), if_pos (by omega), if_neg c2]; rfl
/-! the units: each brings somebody on, as long as somebody stands -/
def phi (s : Int) (c : BC) (r : Nat) : Nat := if rd c.sa (r : Int) > 0 then 0 else ((r : Int) - rd c.at_ (r : Int)).toNat + (s - rd c.sw (r : Int)).toNat
def Phi (n : Nat) (s : Int) (c : BC) : Nat := ((List.range n).map (phi s c)).sum
theorem sum_same (f g : Nat → Nat) : ∀ (n : Nat), (∀ i, i < n → f i = g i) → ((List.range n).map f).sum = ((List.range n).map g).sum := by
  intro n h
  rw [List.map_congr_left (fun i hi => h i (List.mem_range.mp hi))]
theorem sum_one (f g : Nat → Nat) (r : Nat) (hfg : ∀ i, i ≠ r → f i = g i) (hr : f r < g r) : ∀ (n : Nat), r < n → ((List.range n).map f).sum < ((List.range n).map g).sum := by
  intro n
  induction n with
  | zero => intro h; omega
  | succ n ih =>
    intro h
    simp only [List.range_succ, List.map_append, List.sum_append, List.map_cons, List.map_nil, List.sum_cons, List.sum_nil]
    by_cases e : r = n
    · subst e
      rw [sum_same f g r (fun i hi => hfg i (by omega))]; omega
    · have := ih (by omega)
      rw [hfg n (fun h => e h.symm)]; omega
def Blk (c : BC) (r : Nat) : Prop := rd c.sa (r : Int) > 0 ∨ (rd c.at_ (r : Int) < 0 ∧ ¬ rd c.ai 0 < 0) ∨ (¬ rd c.at_ (r : Int) < 0 ∧ rd c.at_ (r : Int) ≠ (r : Int) ∧ ¬ rd c.ai (rd c.at_ (r : Int) + 1) < 0)
def Same (a b : BC) : Prop := a.ai = b.ai ∧ a.at_ = b.at_ ∧ a.sw = b.sw ∧ a.sa = b.sa
theorem Same.Blk {a b : BC} (h : Same a b) {r : Nat} (hb : Blk a r) : Blk b r := by
  obtain ⟨h1, h2, h3, h4⟩ := h; unfold Pure.Blk at hb ⊢; rw [← h1, ← h2, ← h4]; exact hb
theorem Same.Phi {a b : BC} (h : Same a b) (n : Nat) (s : Int) : Phi n s a = Phi n s b := by
  obtain ⟨h1, h2, h3, h4⟩ := h; unfold Pure.Phi; refine sum_same _ _ n (fun i _ => ?_); unfold phi; rw [h2, h3, h4]
theorem act_eff {n : Nat} {s : Int} {c : BC} (h : BW n s c) (r : Nat) (hr : r < n) (t : Int) (ht : 1 ≤ t) : (Same (act c r t s) c ∧ Blk c r) ∨ Phi n s (act c r t s) < Phi n s c := by
  have h1 := h.lo r hr
  have h2 := h.hi r hr
  have h3 := h.sn r hr
  have h4 := h.s0 r hr
  have h5 := h.s1 r hr
  have l1 := h.lai; have l2 := h.lat; have l3 := h.lsw; have l4 := h.len; have l5 := h.lsa; have l6 := h.lwa
  unfold act
  by_cases c1 : rd c.sa r > 0
  · rw [if_pos c1]; exact .inl ⟨⟨rfl, rfl, rfl, rfl⟩, .inl c1⟩
  · rw [if_neg c1]
    have h6 := h5 (by omega)
    by_cases c2 : rd c.at_ r < 0
    · rw [if_pos c2]
      by_cases c3 : rd c.ai 0 < 0
      · rw [if_pos c3]
        refine .inr (sum_one _ _ r (fun i hi => ?_) ?_ n hr)
        · unfold phi; dsimp only; rw [rd_set _ _ _ _ (by omega), if_neg (Ne.symm hi)]
        · unfold phi; dsimp only; rw [rd_set _ _ _ _ (by omega), if_pos rfl, if_neg c1, if_neg c1]; omega
      · rw [if_neg c3]; exact .inl ⟨⟨rfl, rfl, rfl, rfl⟩, .inr (.inl ⟨c2, c3⟩)⟩
    · rw [if_neg c2]
      by_cases c3 : rd c.at_ r = r
      · rw [if_pos c3]
        by_cases c4 : rd c.sw r + 1 = s
        · rw [if_pos c4]
          refine .inr (sum_one _ _ r (fun i hi => ?_) ?_ n hr)
          · unfold phi; dsimp only; rw [rd_set _ _ _ _ (by omega), if_neg (Ne.symm hi), rd_set _ _ _ _ (by omega), if_neg (Ne.symm hi)]
          · unfold phi; dsimp only; rw [rd_set _ _ _ _ (by omega), if_pos rfl, if_pos (by omega), if_neg c1]; omega
        · rw [if_neg c4]
          refine .inr (sum_one _ _ r (fun i hi => ?_) ?_ n hr)
          · unfold phi; dsimp only; rw [rd_set _ _ _ _ (by omega), if_neg (Ne.symm hi)]
          · unfold phi; dsimp only; rw [rd_set _ _ _ _ (by omega), if_pos rfl, if_neg c1, if_neg c1]; omega
      · rw [if_neg c3]
        by_cases c4 : rd c.ai (rd c.at_ r + 1) < 0
        · rw [if_pos c4]
          refine .inr (sum_one _ _ r (fun i hi => ?_) ?_ n hr)
          · unfold phi; dsimp only; rw [rd_set _ _ _ _ (by omega), if_neg (Ne.symm hi)]
          · unfold phi; dsimp only; rw [rd_set _ _ _ _ (by omega), if_pos rfl, if_neg c1, if_neg c1]; omega
        · rw [if_neg c4]; exact .inl ⟨⟨rfl, rfl, rfl, rfl⟩, .inr (.inr ⟨c2, c3, c4⟩)⟩
def unitOf (l : List Int) (t s : Int) (c : BC) : BC := l.foldl (fun c x => act c x.toNat t s) c
theorem unit_eff {n : Nat} {s t : Int} (ht : 1 ≤ t) : ∀ (l : List Int) (c : BC), BW n s c → (∀ x ∈ l, 0 ≤ x ∧ x < (n : Int)) →
    BW n s (unitOf l t s c) ∧ ((Same (unitOf l t s c) c ∧ ∀ x ∈ l, Blk c x.toNat) ∨ Phi n s (unitOf l t s c) < Phi n s c) := by
  intro l
  induction l with
  | nil => intro c h _; exact ⟨h, .inl ⟨⟨rfl, rfl, rfl, rfl⟩, by simp⟩⟩
  | cons x l ih =>
    intro c h hx
    have hx0 := hx x (by simp)
    have hw := act_wf h x.toNat (by omega) t ht
    obtain ⟨i1, i2⟩ := ih (act c x.toNat t s) hw (fun y hy => hx y (by simp [hy]))
    refine ⟨i1, ?_⟩
    show (Same (unitOf l t s (act c x.toNat t s)) c ∧ _) ∨ Phi n s (unitOf l t s (act c x.toNat t s)) < _
    rcases act_eff h x.toNat (by omega) t ht with ⟨e1, e2⟩ | e
    · rcases i2 with ⟨j1, j2⟩ | j
      · refine .inl ⟨⟨j1.1.trans e1.1, j1.2.1.trans e1.2.1, j1.2.2.1.trans e1.2.2.1, j1.2.2.2.trans e1.2.2.2⟩, ?_⟩
        intro y hy
        rcases List.mem_cons.mp hy with rfl | hy
        · exact e2
        · exact e1.Blk (j2 y hy)
      · rw [e1.Phi] at j; exact .inr j
    · rcases i2 with ⟨j1, j2⟩ | j
      · rw [j1.Phi]; exact .inr e
      · exact .inr (by omega)
theorem no_stand {n : Nat} {s : Int} {c : BC} (h : BW n s c) (hb : ∀ r : Nat, r < n → Blk c r) : ∀ (d p : Nat), n ≤ p + d → ¬ ∃ r : Nat, r < n ∧ rd c.sa r = 0 ∧ rd c.at_ r = (p : Int) := by
  intro d
  induction d with
  | zero => rintro p hp ⟨r, h1, h2, h3⟩; have := h.hi r h1; omega
  | succ d ih =>
    rintro p hp ⟨r, h1, h2, h3⟩
    have h4 := h.hi r h1
    rcases hb r h1 with e | ⟨e, _⟩ | ⟨_, e1, e2⟩
    · omega
    · omega
    · rw [h3] at e1 e2
      obtain ⟨x, x1, x2, x3⟩ := h.occ (p + 1) (by omega) (by rw [show ((p + 1 : Nat) : Int) = (p : Int) + 1 by omega]; omega)
      exact ih (p + 1) (by omega) ⟨x, x1, x2, x3⟩
theorem goes_on {n : Nat} {s : Int} {c : BC} (h : BW n s c) (hb : ∀ r : Nat, r < n → Blk c r) : ∀ r : Nat, r < n → rd c.sa r ≠ 0 := by
  intro r hr h0
  by_cases hp : rd c.at_ r < 0
  · rcases hb r hr with e | ⟨_, e⟩ | ⟨e, _⟩
    · omega
    · obtain ⟨x, x1, x2, x3⟩ := h.occ 0 (by omega) (by show 0 ≤ rd c.ai 0; omega)
      exact no_stand h hb n 0 (by omega) ⟨x, x1, x2, x3⟩
    · omega
  · exact no_stand h hb n (rd c.at_ r).toNat (by omega) ⟨r, hr, h0, by omega⟩
theorem unit_less {n : Nat} {s t : Int} {c : BC} {l : List Int} (ht : 1 ≤ t) (h : BW n s c) (hl : IsOrd l n) (h0 : ¬ ∀ r : Nat, r < n → rd c.sa r ≠ 0) : Phi n s (unitOf l t s c) < Phi n s c := by
  rcases (unit_eff ht l c h (ord_range hl)).2 with ⟨_, e⟩ | e
  · refine absurd (goes_on h (fun r hr => ?_)) h0
    have := e r (hl.2 r (by omega)); simpa using this
  · exact e
/-! the whole of it: the states behind each unit, and what both programs come to -/
def bstart (n : Nat) : BC := ⟨List.replicate n (-1), List.replicate n (-1), List.replicate n 0, List.replicate n 0, List.replicate n 0, List.replicate n 0⟩
theorem rd_rep (n : Nat) (v : Int) (r : Nat) (hr : r < n) : rd (List.replicate n v) (r : Int) = v := by
  rw [rd_nat _ _ (by simpa using hr)]; simp
theorem bstart_wf (n : Nat) (s : Int) (hs : 1 ≤ s) : BW n s (bstart n) := by
  unfold bstart
  refine ⟨by simp, by simp, by simp, by simp, by simp, by simp, ?_, ?_, ?_, ?_, ?_, ?_⟩ <;> intro r hr
  · rw [rd_rep _ _ _ hr]; omega
  · rw [rd_rep _ _ _ hr]; omega
  · rw [rd_rep _ _ _ hr]; omega
  · rw [rd_rep _ _ _ hr]; omega
  · intro _; rw [rd_rep _ _ _ hr]; omega
  · rw [rd_rep _ _ _ hr]; intro h; omega
def traj (n : Nat) (order : List Int) (s : Int) : Nat → BC
  | 0 => bstart n
  | u + 1 => unitOf order ((u + 1 : Nat) : Int) s (traj n order s u)
theorem traj_wf {n : Nat} {order : List Int} {s : Int} (hs : 1 ≤ s) (ho : IsOrd order n) : ∀ u, BW n s (traj n order s u)
  | 0 => bstart_wf n s hs
  | u + 1 => (unit_eff (by omega) order _ (traj_wf hs ho u) (ord_range ho)).1
def Done (n : Nat) (c : BC) : Prop := ∀ r : Nat, r < n → rd c.sa (r : Int) ≠ 0
theorem done_mem {n : Nat} {c : BC} (hl : c.sa.length = n) : Done n c ↔ ¬ (0 : Int) ∈ c.sa := by
  constructor
  · intro h hm
    obtain ⟨i, hi, he⟩ := List.getElem_of_mem hm
    exact h i (by omega) (by rw [rd_nat _ _ hi]; exact he)
  · intro h r hr he
    rw [rd_nat _ _ (by omega)] at he
    exact h (he ▸ List.getElem_mem (by omega))
theorem sum_le (f : Nat → Nat) (B : Nat) : ∀ n : Nat, (∀ i, i < n → f i ≤ B) → ((List.range n).map f).sum ≤ n * B := by
  intro n
  induction n with
  | zero => intro _; simp
  | succ n ih =>
    intro h
    simp only [List.range_succ, List.map_append, List.sum_append, List.map_cons, List.map_nil, List.sum_cons, List.sum_nil]
    have := ih (fun i hi => h i (by omega)); have := h n (by omega)
    rw [Nat.succ_mul]; omega
theorem phi_start (n : Nat) (s : Int) (hn : n ≤ 10) (hs : 1 ≤ s) (hs5 : s ≤ 5) : Phi n s (bstart n) ≤ 160 := by
  have := sum_le (phi s (bstart n)) 16 n (fun i hi => by
    unfold phi bstart; dsimp only
    rw [rd_rep _ _ _ hi, rd_rep _ _ _ hi]
    rw [if_neg (by omega)]; omega)
  unfold Phi
  have : n * 16 ≤ 10 * 16 := Nat.mul_le_mul_right 16 hn
  omega
theorem phi_traj {n : Nat} {order : List Int} {s : Int} (hn : n ≤ 10) (hs : 1 ≤ s) (hs5 : s ≤ 5) (ho : IsOrd order n) : ∀ u, (∀ i, i < u → ¬ Done n (traj n order s i)) → Phi n s (traj n order s u) + u ≤ 160 := by
  intro u
  induction u with
  | zero => intro _; have := phi_start n s hn hs hs5; exact this
  | succ u ih =>
    intro h
    have h1 := ih (fun i hi => h i (by omega))
    have h2 := unit_less (t := ((u + 1 : Nat) : Int)) (by omega) (traj_wf hs ho u) ho (h u (by omega))
    have h3 : Phi n s (traj n order s (u + 1)) < Phi n s (traj n order s u) := h2
    omega
theorem least_done {n : Nat} {order : List Int} {s : Int} (hn : n ≤ 10) (hs : 1 ≤ s) (hs5 : s ≤ 5) (ho : IsOrd order n) :
    ∃ T, T ≤ 160 ∧ Done n (traj n order s T) ∧ ∀ u, u < T → ¬ Done n (traj n order s u) := by
  have key : ∀ d u, u + d = 161 → (∀ i, i < u → ¬ Done n (traj n order s i)) → ∃ T, T ≤ 160 ∧ Done n (traj n order s T) ∧ ∀ u, u < T → ¬ Done n (traj n order s u) := by
    intro d
    induction d with
    | zero => intro u hu h; have := phi_traj hn hs hs5 ho u h; omega
    | succ d ih =>
      intro u hu h
      by_cases hd : Done n (traj n order s u)
      · exact ⟨u, by omega, hd, h⟩
      · refine ih (u + 1) (by omega) (fun i hi => ?_)
        by_cases e : i = u
        · rw [e]; exact hd
        · exact h i (by omega)
  exact key 161 0 (by omega) (fun i hi => by omega)
abbrev BT := List Int × List Int × List Int × List Int × List Int × List Int
def BC.t (c : BC) : BT := (c.ai, c.at_, c.sw, c.en, c.sa, c.wa)
theorem run_unit {n : Nat} {order : List Int} {s : Int} (hn : n ≤ 10) (hs5 : s ≤ 5) (ho : IsOrd order n) (t : Int) (u : Nat) (hu : u ≤ 200) (r : BT) (c' : BC)
    (hk : Ev (fun k => spec_l7Run.l0 k (n : Int) s order t (((u + 1) + 1 : Nat) : Int) c'.ai c'.at_ c'.sw c'.en c'.sa c'.wa) r) :
    ∀ (d j : Nat) (c : BC), j + d = order.length → BW n s c → unitOf (order.drop j) ((u + 1 : Nat) : Int) s c = c' →
      Ev (fun k => spec_l7Run.l1 k (n : Int) s order t ((u + 1 : Nat) : Int) (j : Int) c.ai c.at_ c.sw c.en c.sa c.wa) r := by
  have hol := ho.1
  intro d
  induction d with
  | zero =>
    intro j c hj hc he
    rw [List.drop_of_length_le (by omega)] at he
    obtain rfl : c = c' := he
    refine Ev.succ ?_
    simp only [spec_l7Run.l1.eq_2]
    refine Ev.neg (by omega) ?_
    rw [w64 (by omega) (by omega)]
    exact hk
  | succ d ih =>
    intro j c hj hc he
    have hx := ord_range ho order[j] (List.getElem_mem (by omega))
    obtain ⟨q, hq⟩ := Int.eq_ofNat_of_zero_le hx.1
    rw [List.drop_eq_getElem_cons (by omega)] at he
    refine Ev.succ ?_
    simp only [spec_l7Run.l1.eq_2]
    refine Ev.pos (by omega) (Ev.pos (by omega) (Ev.pos (by omega) ?_))
    rw [rd_nat order j (by omega), hq]
    refine Ev.bindc (act_spec hc q (by omega) ((u + 1 : Nat) : Int) hs5 hn) ?_
    rw [w64 (by omega) (by omega)]
    refine ih (j + 1) (act c q ((u + 1 : Nat) : Int) s) (by omega) (act_wf hc q (by omega) _ (by omega)) ?_
    rw [← he, hq]; rfl
theorem run_ev {n : Nat} {order : List Int} {s : Int} (hn : n ≤ 10) (hs : 1 ≤ s) (hs5 : s ≤ 5) (ho : IsOrd order n) {T : Nat} (hT : T ≤ 160) (hd : Done n (traj n order s T)) (hu : ∀ u, u < T → ¬ Done n (traj n order s u)) (t : Int) :
    ∀ (d u : Nat), u + d = T → (0 ≤ t → (u : Int) ≤ t) → Ev (fun k => spec_l7Run.l0 k (n : Int) s order t ((u + 1 : Nat) : Int) (traj n order s u).ai (traj n order s u).at_ (traj n order s u).sw (traj n order s u).en (traj n order s u).sa (traj n order s u).wa) (traj n order s (if t < 0 then T else min t.toNat T)).t := by
  intro d
  induction d with
  | zero =>
    intro u hj ht
    obtain rfl : u = T := by omega
    have hw := traj_wf hs ho u
    have hm := (done_mem hw.lsa).mp hd
    have hx := has_ev (traj n order s u).sa 0 (by have := hw.lsa; omega)
    rw [show decide ((0 : Int) ∈ (traj n order s u).sa) = false from decide_eq_false hm] at hx
    refine Ev.succ ?_
    simp only [spec_l7Run.l0.eq_2]
    by_cases c1 : t < 0
    · rw [if_pos c1]
      refine Ev.pos c1 (Ev.bind hx (Ev.succ ?_))
      simp only [spec_l7Run.j1.eq_2]
      exact Ev.neg (by decide) (Ev.now _)
    · rw [if_neg c1, show min t.toNat u = u by have := ht (by omega); omega]
      refine Ev.neg c1 ?_
      by_cases c2 : ((u + 1 : Nat) : Int) ≤ t
      · refine Ev.pos c2 (Ev.bind hx (Ev.succ ?_))
        simp only [spec_l7Run.j1.eq_2]
        exact Ev.neg (by decide) (Ev.now _)
      · refine Ev.neg c2 (Ev.succ ?_)
        simp only [spec_l7Run.j1.eq_2]
        exact Ev.neg (by decide) (Ev.now _)
  | succ d ih =>
    intro u hj ht
    have hw := traj_wf hs ho u
    have hm : (0 : Int) ∈ (traj n order s u).sa := Classical.byContradiction fun h => hu u (by omega) ((done_mem hw.lsa).mpr h)
    have hx := has_ev (traj n order s u).sa 0 (by have := hw.lsa; omega)
    rw [show decide ((0 : Int) ∈ (traj n order s u).sa) = true from decide_eq_true hm] at hx
    refine Ev.succ ?_
    simp only [spec_l7Run.l0.eq_2]
    have go : (0 ≤ t → ((u + 1 : Nat) : Int) ≤ t) → Ev (fun k => spec_l7Run.j1 k (n : Int) s order t ((u + 1 : Nat) : Int) true (traj n order s u).ai (traj n order s u).at_ (traj n order s u).sw (traj n order s u).en (traj n order s u).sa (traj n order s u).wa) (traj n order s (if t < 0 then T else min t.toNat T)).t := by
      intro h
      refine Ev.succ ?_
      simp only [spec_l7Run.j1.eq_2]
      refine Ev.pos (by trivial) ?_
      exact run_unit hn hs5 ho t u (by omega) _ (traj n order s (u + 1)) (ih (u + 1) (by omega) h) order.length 0 _ (by omega) hw rfl
    by_cases c1 : t < 0
    · exact Ev.pos c1 (Ev.bind hx (go (fun h => by omega)))
    · refine Ev.neg c1 ?_
      by_cases c2 : ((u + 1 : Nat) : Int) ≤ t
      · exact Ev.pos c2 (Ev.bind hx (go (fun _ => c2)))
      · refine Ev.neg c2 (Ev.succ ?_)
        simp only [spec_l7Run.j1.eq_2]
        rw [if_neg c1, show min t.toNat T = u by have := ht (by omega); omega]
        exact Ev.neg (by decide) (Ev.now _)
theorem start_loop (n : Nat) (hn : n ≤ 10) (a b c d : List Int) : ∀ (m i : Nat), i + m = n → Ev (fun k => spec_l7Start.l0 k (n : Int) (i : Int) (List.replicate i (-1)) (List.replicate i (-1)) a b c d) (List.replicate n (-1), List.replicate n (-1), a, b, c, d) := by
  intro m
  induction m with
  | zero =>
    intro i hi
    refine Ev.succ ?_
    simp only [spec_l7Start.l0.eq_2]
    rw [show i = n by omega]
    exact Ev.neg (by omega) (Ev.now _)
  | succ m ih =>
    intro i hi
    refine Ev.succ ?_
    simp only [spec_l7Start.l0.eq_2]
    refine Ev.pos (by omega) (Ev.pos (by simp; omega) (Ev.pos (by simp; omega) ?_))
    rw [w64 (by omega) (by omega), ← List.replicate_succ']
    exact ih (i + 1) (by omega)
theorem l7Run_ev {n : Nat} {order : List Int} {s : Int} (hn : n ≤ 10) (hs : 1 ≤ s) (hs5 : s ≤ 5) (ho : IsOrd order n) {T : Nat} (hT : T ≤ 160) (hd : Done n (traj n order s T)) (hu : ∀ u, u < T → ¬ Done n (traj n order s u)) (t : Int) :
    Ev (fun k => spec_l7Run.f k (n : Int) s order t) (traj n order s (if t < 0 then T else min t.toNat T)).t := by
  unfold spec_l7Run.f
  refine Ev.bind (a := (bstart n).t) ?_ (run_ev hn hs hs5 ho hT hd hu t T 0 (by omega) (fun h => h))
  unfold spec_l7Start.f
  exact Ev.pos (by omega) (Ev.pos (by omega) (start_loop n hn _ _ _ _ n 0 (by omega)))
abbrev BO := List Int × List Int × List Int × List (List Int)
def aisles (n : Nat) (order : List Int) (s : Int) (u : Nat) : List (List Int) := (List.range (u + 1)).map fun i => (traj n order s i).ai
theorem board_unit {n : Nat} {order : List Int} {s : Int} (hn : n ≤ 10) (hs5 : s ≤ 5) (ho : IsOrd order n) (u : Nat) (hu : u ≤ 200) (r : BO) (c' : BC) (hc'l : c'.ai.length = n) (ax : List (List Int)) (hax : ax.length ≤ 300)
    (hk : Ev (fun k => impl_board.l0 k (n : Int) s order (plOf n c') c'.sw c'.ai ((zc c'.sa : Nat) : Int) (((u + 1) + 1 : Nat) : Int) c'.sa c'.en c'.wa (ax ++ [c'.ai])) r) :
    ∀ (d j : Nat) (c : BC), j + d = order.length → BW n s c → unitOf (order.drop j) ((u + 1 : Nat) : Int) s c = c' →
      Ev (fun k => impl_board.l1 k (n : Int) s order (plOf n c) c.sw c.ai ((zc c.sa : Nat) : Int) ((u + 1 : Nat) : Int) order (order.length : Int) (j : Int) c.sa c.en c.wa ax) r := by
  have hol := ho.1
  intro d
  induction d with
  | zero =>
    intro j c hj hc he
    rw [List.drop_of_length_le (by omega)] at he
    obtain rfl : c = c' := he
    refine Ev.succ ?_
    simp only [impl_board.l1.eq_2]
    refine Ev.neg (by omega) (Ev.bindc (a := c.ai) (by unfold slices_Clone_int_int.f; rw [if_pos (by omega)]) (Ev.pos (by omega) ?_))
    rw [w64 (by omega) (by omega)]
    exact hk
  | succ d ih =>
    intro j c hj hc he
    have hx := ord_range ho order[j] (List.getElem_mem (by omega))
    obtain ⟨q, hq⟩ := Int.eq_ofNat_of_zero_le hx.1
    rw [List.drop_eq_getElem_cons (by omega)] at he
    refine Ev.step (fun k => l1_act hc j q (by omega) (by omega) (by omega) (by rw [rd_nat order j (by omega), hq]) ((u + 1 : Nat) : Int) (by omega) hs5 hn ax k) ?_
    refine ih (j + 1) (act c q ((u + 1 : Nat) : Int) s) (by omega) (act_wf hc q (by omega) _ (by omega)) ?_
    rw [← he, hq]; rfl
theorem board_loop {n : Nat} {order : List Int} {s : Int} (hn : n ≤ 10) (hs : 1 ≤ s) (hs5 : s ≤ 5) (ho : IsOrd order n) {T : Nat} (hT : T ≤ 160) (hd : Done n (traj n order s T)) (hu : ∀ u, u < T → ¬ Done n (traj n order s u)) :
    ∀ (d u : Nat), u + d = T → Ev (fun k => impl_board.l0 k (n : Int) s order (plOf n (traj n order s u)) (traj n order s u).sw (traj n order s u).ai ((zc (traj n order s u).sa : Nat) : Int) ((u + 1 : Nat) : Int) (traj n order s u).sa (traj n order s u).en (traj n order s u).wa (aisles n order s u))
      ((traj n order s T).sa, (traj n order s T).en, (traj n order s T).wa, aisles n order s T) := by
  intro d
  induction d with
  | zero =>
    intro u hj
    obtain rfl : u = T := by omega
    have hm := (done_mem (traj_wf hs ho u).lsa).mp hd
    refine Ev.succ ?_
    simp only [impl_board.l0.eq_2]
    have := mt (zc_pos (traj n order s u).sa).mp hm
    exact Ev.neg (by omega) (Ev.now _)
  | succ d ih =>
    intro u hj
    have hw := traj_wf hs ho u
    have hm : (0 : Int) ∈ (traj n order s u).sa := Classical.byContradiction fun h => hu u (by omega) ((done_mem hw.lsa).mpr h)
    have hz := (zc_pos (traj n order s u).sa).mpr hm
    refine Ev.succ ?_
    simp only [impl_board.l0.eq_2]
    refine Ev.pos (by omega) ?_
    refine board_unit hn hs5 ho u (by omega) _ (traj n order s (u + 1)) (traj_wf hs ho (u + 1)).lai (aisles n order s u) (by simp [aisles]; omega) ?_ order.length 0 _ (by omega) hw rfl
    have := ih (u + 1) (by omega)
    rw [show aisles n order s (u + 1) = aisles n order s u ++ [(traj n order s (u + 1)).ai] by unfold aisles; rw [List.range_succ, List.map_append]; rfl] at this
    exact this
theorem board_ev {n : Nat} {order : List Int} {s : Int} (hn1 : 1 ≤ n) (hn : n ≤ 10) (hs : 1 ≤ s) (hs5 : s ≤ 5) (ho : IsOrd order n) {T : Nat} (hT : T ≤ 160) (hd : Done n (traj n order s T)) (hu : ∀ u, u < T → ¬ Done n (traj n order s u)) :
    Ev (fun k => impl_board.f k (n : Int) s order) ((traj n order s T).sa, (traj n order s T).en, (traj n order s T).wa, aisles n order s T) := by
  have hr : slices_Repeat_int_int.f [(-1)] (n : Int) = some (List.replicate n (-1)) := by
    unfold slices_Repeat_int_int.f; rw [if_pos (by simp; omega)]; rfl
  unfold impl_board.f
  refine Ev.pos (by omega) (Ev.pos (by omega) (Ev.bindc hr (Ev.bindc hr (Ev.bindc (a := List.replicate n (-1)) (by unfold slices_Clone_int_int.f; rw [if_pos (by simp; omega)]) (Ev.pos (by simp) ?_)))))
  have hp : plOf n (bstart n) = List.replicate n (-1) := rd_ext (plOf_len _ _) (by simp) (fun i hi => by
    rw [plOf_rd _ _ _ hi]; unfold bstart; dsimp only; rw [rd_rep _ _ _ hi, rd_rep _ _ _ hi, if_neg (by omega)])
  have hz : zc (bstart n).sa = n := by unfold zc bstart; simp [List.countP_replicate]
  have := board_loop hn hs hs5 ho hT hd hu T 0 (by omega)
  have e0 : traj n order s 0 = bstart n := rfl
  rw [e0, hp, hz] at this
  exact this
/-! asking, and the time -/
def BValid (n s : Int) (l : List Int) : Prop := 1 ≤ n ∧ n ≤ 10 ∧ 1 ≤ s ∧ s ≤ 5 ∧ IsOrd l n
theorem l7Ask_ev (n s : Int) (l : List Int) (hl : l.length ≤ 35184372088832) [Decidable (BValid n s l)] : Ev (fun k => spec_l7Ask.f k n s l) (decide (BValid n s l)) := by
  unfold spec_l7Ask.f
  have hr : spec_l7Rows.f n s = some (decide (1 ≤ n ∧ n ≤ 10) && decide (1 ≤ s ∧ s ≤ 5)) := by
    unfold spec_l7Rows.f
    rw [l1In_eq, Option.bind_some]
    by_cases h : 1 ≤ n ∧ n ≤ 10
    · rw [if_pos (decide_eq_true h), l1In_eq]; simp [h]
    · rw [if_neg (by simpa using h)]; simp [h]
  refine Ev.bindc hr ?_
  by_cases h : (1 ≤ n ∧ n ≤ 10) ∧ (1 ≤ s ∧ s ≤ 5)
  · refine Ev.pos (by simp [h.1, h.2]) (Ev.bind (l7Order_ev l n (by omega) (by omega) hl) ?_)
    rw [show decide (BValid n s l) = decide (IsOrd l n) by
      rw [Bool.eq_iff_iff]; simp only [decide_eq_true_eq]; unfold BValid; constructor
      · exact fun h => h.2.2.2.2
      · exact fun h2 => ⟨h.1.1, h.1.2, h.2.1, h.2.2, h2⟩]
    exact Ev.now _
  · refine Ev.neg (by simpa using fun h1 h2 h3 => by omega) ?_
    rw [show decide (BValid n s l) = false by
      simp only [decide_eq_false_iff_not]; unfold BValid; exact fun h2 => h ⟨⟨h2.1, h2.2.1⟩, h2.2.2.1, h2.2.2.2.1⟩]
    exact Ev.now _
theorem isBoarding_ev (n s : Int) (l : List Int) (hl : l.length ≤ 35184372088832) [Decidable (BValid n s l)] : Ev (fun k => impl_isBoarding.f k n s l) (decide (BValid n s l)) := by
  unfold impl_isBoarding.f
  have hp : impl_isPlaneRows.f n = some (decide (1 ≤ n ∧ n ≤ 10)) := by unfold impl_isPlaneRows.f; rw [within_eq]; rfl
  refine Ev.bindc hp ?_
  by_cases h : 1 ≤ n ∧ n ≤ 10
  · refine Ev.pos (decide_eq_true h) (Ev.bindc (within_eq _ _ _) ?_)
    by_cases h2 : 1 ≤ s ∧ s ≤ 5
    · refine Ev.pos (decide_eq_true h2) (Ev.bind (isOrder_ev l n (by omega) (by omega) hl) ?_)
      rw [show decide (BValid n s l) = decide (IsOrd l n) by
        rw [Bool.eq_iff_iff]; simp only [decide_eq_true_eq]; unfold BValid; constructor
        · exact fun h => h.2.2.2.2
        · exact fun h3 => ⟨h.1, h.2, h2.1, h2.2, h3⟩]
      exact Ev.now _
    · refine Ev.neg (by simpa using h2) ?_
      rw [show decide (BValid n s l) = false by
        simp only [decide_eq_false_iff_not]; unfold BValid; exact fun h3 => h2 ⟨h3.2.2.1, h3.2.2.2.1⟩]
      exact Ev.now _
  · refine Ev.neg (by simpa using h) ?_
    rw [show decide (BValid n s l) = false by
      simp only [decide_eq_false_iff_not]; unfold BValid; exact fun h3 => h ⟨h3.1, h3.2.1⟩]
    exact Ev.now _
instance (n s : Int) (l : List Int) : Decidable (BValid n s l) := by unfold BValid; infer_instance
theorem mark_loop (l : List Int) (a : Int) (h0 : 0 ≤ a) (h1 : a ≤ 1000000000) (hl : l.length ≤ 35184372088832) : ∀ (d i : Nat) (acc : List Int), i + d = l.length → acc.length = l.length → (∀ j, j < i → acc[j]? = some (a + (j : Int))) → Ev (fun k => laws_markIntS.l0 k acc (a + (i : Int)) (i : Int)) (a + (l.length : Int), (List.range l.length).map (fun j : Nat => a + (j : Int))) := by
  intro d
  induction d with
  | zero =>
    intro i acc hi ha hj
    refine Ev.succ ?_
    simp only [laws_markIntS.l0.eq_2]
    have : acc = (List.range l.length).map (fun j : Nat => a + (j : Int)) := List.ext_getElem? (fun j => by
      by_cases h : j < i
      · rw [hj j h, List.getElem?_map, List.getElem?_range (by omega)]; rfl
      · rw [List.getElem?_eq_none (by omega), List.getElem?_eq_none (by rw [List.length_map, List.length_range]; omega)])
    rw [show (i : Int) = (l.length : Int) by omega, ← this]
    exact Ev.neg (by omega) (Ev.now _)
  | succ d ih =>
    intro i acc hi ha hj
    refine Ev.succ ?_
    simp only [laws_markIntS.l0.eq_2]
    refine Ev.pos (by omega) (Ev.pos (by omega) ?_)
    rw [w64 (n := (i : Int) + 1) (by omega) (by omega), w64 (by omega) (by omega)]
    rw [show a + (i : Int) + 1 = a + ((i + 1 : Nat) : Int) by omega]
    refine ih (i + 1) _ (by omega) (by simpa using ha) ?_
    intro j h
    rw [Int.toNat_natCast, List.getElem?_set]
    by_cases e : i = j
    · subst e
      rw [if_pos rfl, if_pos (by omega)]
    · rw [if_neg e]; exact hj j (by omega)
theorem mark_ev (l : List Int) (a : Int) (h0 : 0 ≤ a) (h1 : a ≤ 1000000000) (hl : l.length ≤ 35184372088832) : Ev (fun k => laws_markIntS.f k l a) (a + (l.length : Int), (List.range l.length).map (fun j : Nat => a + (j : Int))) := by
  have := mark_loop l a h0 h1 hl l.length 0 l (by omega) rfl (fun j h => by omega)
  simp only [Int.natCast_zero, Int.add_zero] at this
  exact this
theorem held_loop (a : Int) (h0 : 0 ≤ a) (h1 : a ≤ 1000000000) (n : Nat) (hl : n ≤ 35184372088832) : ∀ (d i : Nat), i + d = n → Ev (fun k => laws_heldIntS.l0 k ((List.range n).map (fun j : Nat => a + (j : Int))) (a + (i : Int)) (i : Int)) (a + (n : Int)) := by
  intro d
  have hlen : ((List.range n).map (fun j : Nat => a + (j : Int))).length = n := by rw [List.length_map, List.length_range]
  induction d with
  | zero =>
    intro i hi
    refine Ev.succ ?_
    simp only [laws_heldIntS.l0.eq_2]
    rw [show (i : Int) = (n : Int) by omega]
    exact Ev.neg (by omega) (Ev.now _)
  | succ d ih =>
    intro i hi
    refine Ev.succ ?_
    simp only [laws_heldIntS.l0.eq_2]
    rw [rd_nat _ i (by omega), List.getElem_map, List.getElem_range]
    refine Ev.pos (by omega) (Ev.pos (by omega) (Ev.pos rfl ?_))
    rw [w64 (n := (i : Int) + 1) (by omega) (by omega), w64 (by omega) (by omega)]
    rw [show a + (i : Int) + 1 = a + ((i + 1 : Nat) : Int) by omega]
    exact ih (i + 1) (by omega)
theorem held_ev (a : Int) (h0 : 0 ≤ a) (h1 : a ≤ 1000000000) (n : Nat) (hl : n ≤ 35184372088832) : Ev (fun k => laws_heldIntS.f k ((List.range n).map (fun j : Nat => a + (j : Int))) a) (a + (n : Int)) := by
  have := held_loop a h0 h1 n hl n 0 (by omega)
  simp only [Int.natCast_zero, Int.add_zero] at this
  exact this
theorem aisles_get (n : Nat) (order : List Int) (s : Int) (T i : Nat) (hi : i ≤ T) : rd_L1 (aisles n order s T) (i : Int) = (traj n order s i).ai := by
  unfold rd_L1 aisles
  rw [Int.toNat_natCast, List.getD_eq_getElem?_getD, List.getElem?_map, List.getElem?_range (by omega)]; rfl
theorem mn_eq (a b : Int) : mn a b = min a b := by unfold mn; split <;> omega
theorem times_key (n s : Int) (l : List Int) (t : Int) (hL : l.length ≤ 35184372088832) : ∃ r : List Int × Bool, r.1.length ≤ 13 ∧ Ev (fun k => spec_AisleAt.f k n s l t) r ∧ Ev (fun k => impl_AisleAt.f k n s l t) r := by
  by_cases hv : BValid n s l
  · by_cases ht : t < 0
    · refine ⟨([], false), by simp, ?_, ?_⟩
      · unfold spec_AisleAt.f
        exact Ev.bind (l7Ask_ev _ _ l hL) (Ev.pos (decide_eq_true hv) (Ev.pos ht (Ev.now _)))
      · unfold impl_AisleAt.f
        refine Ev.bind (isBoarding_ev _ _ l hL) (Ev.pos (decide_eq_true hv) (Ev.succ ?_))
        simp only [impl_AisleAt.j0.eq_2]
        exact Ev.pos (decide_eq_true ht) (Ev.now _)
    · obtain ⟨h1, h2, h3, h4, ho⟩ := id hv
      obtain ⟨m, rfl⟩ := Int.eq_ofNat_of_zero_le (show 0 ≤ n by omega)
      obtain ⟨T, hT, hd, hu⟩ := least_done (n := m) (by omega) h3 h4 ho
      have hr := l7Run_ev (n := m) (by omega) h3 h4 ho hT hd hu t
      rw [if_neg ht] at hr
      have hmin : min t.toNat T ≤ T := Nat.min_le_right _ _
      refine ⟨((traj m l s (min t.toNat T)).ai, true), by have := (traj_wf h3 ho (min t.toNat T)).lai; show (traj m l s (min t.toNat T)).ai.length ≤ 13; omega, ?_, ?_⟩
      · unfold spec_AisleAt.f
        exact Ev.bind (l7Ask_ev _ _ l hL) (Ev.pos (decide_eq_true hv) (Ev.neg ht (Ev.bind hr (Ev.now _))))
      · unfold impl_AisleAt.f
        refine Ev.bind (isBoarding_ev _ _ l hL) (Ev.pos (decide_eq_true hv) (Ev.succ ?_))
        simp only [impl_AisleAt.j0.eq_2]
        have hl : (aisles m l s T).length = T + 1 := by simp [aisles]
        refine Ev.neg (by simpa using ht) (Ev.bind (board_ev (by omega) (by omega) h3 h4 ho hT hd hu) (Ev.bindc (a := (T : Int)) ?_ ?_))
        · unfold impl_boarding_time.f
          dsimp only
          rw [hl, w64 (by omega) (by omega)]
          simp
        · have e : mn t (T : Int) = ((min t.toNat T : Nat) : Int) := by rw [mn_eq]; omega
          rw [e]
          refine Ev.pos (by omega) (Ev.pos (by dsimp only; rw [hl]; omega) ?_)
          rw [aisles_get m l s T _ hmin]
          exact Ev.now _
  · refine ⟨([], false), by simp, ?_, ?_⟩
    · unfold spec_AisleAt.f
      exact Ev.bind (l7Ask_ev _ _ l hL) (Ev.neg (by simpa using hv) (Ev.now _))
    · unfold impl_AisleAt.f
      refine Ev.bind (isBoarding_ev _ _ l hL) (Ev.neg (by simpa using hv) (Ev.succ ?_))
      simp only [impl_AisleAt.j0.eq_2]
      exact Ev.pos (by trivial) (Ev.now _)
theorem FnExactAisleAt : laws_FnExactAisleAt.Pure := by
  intro n s l t _ _ _ hl _ _
  refine Ev.rounds (g := fun m => laws_FnExactAisleAt.f m n s l t) ?_
  unfold laws_FnExactAisleAt.f
  by_cases hb : (l.length : Int) > 1048576
  · exact Ev.pos hb (Ev.now _)
  · have hL : l.length ≤ 35184372088832 := by omega
    obtain ⟨r, hr, h, h'⟩ := times_key n s l t hL
    have hr2 : r.1.length ≤ 35184372088832 := by omega
    have hi := toIntS_ev l hL
    refine Ev.neg hb (Ev.bind hi (Ev.bind h (Ev.bind hi (Ev.bind h' (Ev.bind (eqIntS_ev r.1 hr2) (Ev.pos rfl (Ev.succ ?_)))))))
    simp only [laws_FnExactAisleAt.j0.eq_2]
    refine Ev.neg (by simp) (Ev.bind hi (Ev.bind (eqIntS_ev l hL) (Ev.pos (by trivial) (Ev.bind (mark_ev l 1 (by omega) (by omega) hL) (Ev.neg (by omega) (Ev.bind (eqIntS_ev r.1 hr2) (Ev.pos rfl (Ev.succ ?_))))))))
    simp only [laws_FnExactAisleAt.j1.eq_2]
    refine Ev.neg (by simp) (Ev.bind (mark_ev r.1 1 (by omega) (by omega) hr2) (Ev.bind (held_ev 1 (by omega) (by omega) r.1.length hr2) (Ev.neg (by omega) (Ev.pos rfl (Ev.bind hi (Ev.bind h' (Ev.bind (eqIntS_ev r.1 hr2) (Ev.pos rfl (Ev.succ ?_)))))))))
    simp only [laws_FnExactAisleAt.j2.eq_2]
    exact Ev.neg (by simp) (Ev.bind (held_ev 1 (by omega) (by omega) r.1.length hr2) (Ev.neg (by omega) (Ev.pos rfl (Ev.now _))))

end Go.Proofs.Ythaaakijekkkaaa.Pure
