/- Proved: parties are counted by the couples that sit together, the first one apart has none, and turning changes nothing, as the statement says. Conditions: those of the statement. -/
import Derived.Test.YtaadhdlcdbaipaaZFnCouplesPFnCouplesx12
namespace Go.Proofs.Ytaadhdlcdbaipaa.Pure
open Go.RowKit Go.Proofs.Ytaadhdlcdbaipaa.PFnCouples Go.Proofs.YtaadhdlcdbaipaaW.PrintWords Go.Proofs.YtaadhdlcdbaipaaW.PrintLast Go.Proofs.YtaadhdlcdbaipaaW.PrintMore
set_option linter.unusedVariables false

theorem Ev.pos {α : Type} {c : Prop} [Decidable c] {f g : Nat → Option α} {r : α} (h : c) (k : Ev f r) : Ev (fun m => if c then f m else g m) r :=
  Ev.congr (fun _ => if_pos h) k
theorem Ev.neg {α : Type} {c : Prop} [Decidable c] {f g : Nat → Option α} {r : α} (h : ¬ c) (k : Ev g r) : Ev (fun m => if c then f m else g m) r :=
  Ev.congr (fun _ => if_neg h) k
theorem Ev.bindc {α β : Type} {x : Option α} {f : Nat → α → Option β} {a : α} {r : β} (h : x = some a) (k : Ev (fun n => f n a) r) : Ev (fun n => x.bind (f n)) r := by
  subst h; exact k
theorem Ev.succ {α : Type} {g : Nat → Option α} {r : α} (k : Ev (fun n => g (n + 1)) r) : Ev g r := Ev.step (fun _ => rfl) k
theorem Ev.unique {α : Type} {g : Nat → Option α} {r q : α} (h : Ev g r) (k : Ev g q) : r = q := by
  obtain ⟨K, hK⟩ := h; obtain ⟨L, hL⟩ := k
  have := (hK (max K L) (Nat.le_max_left _ _)).symm.trans (hL (max K L) (Nat.le_max_right _ _))
  exact Option.some.inj this
theorem w64 {n : Int} (h0 : -9223372036854775808 ≤ n) (h1 : n < 9223372036854775808) : wrap64 n = n := by unfold wrap64; omega
theorem rd_nat (l : List Int) (i : Nat) (h : i < l.length) : rd l (i : Int) = l[i] := by
  unfold rd; rw [Int.toNat_natCast, List.getD_eq_getElem?_getD, List.getElem?_eq_getElem h]; rfl
theorem within_eq (a b c : Int) : impl_within.f a b c = some (decide (b ≤ a ∧ a ≤ c)) := by
  unfold impl_within.f
  by_cases h : a ≥ b
  · rw [if_pos h]; simp [show b ≤ a from h]
  · rw [if_neg h]; simp [show ¬ b ≤ a from h]
theorem l1In_eq (a b c : Int) : spec_l1In.f a b c = some (decide (b ≤ a ∧ a ≤ c)) := by
  unfold spec_l1In.f
  by_cases h : a ≥ b
  · rw [if_pos h]; simp [show b ≤ a from h]
  · rw [if_neg h]; simp [show ¬ b ≤ a from h]
theorem has_loop (l : List Int) (x : Int) (hl : l.length ≤ 35184372088832) : ∀ (d i : Nat), i + d = l.length → Ev (fun k => spec_l1Has.l0 k l x (i : Int)) (decide (x ∈ l.drop i)) := by
  intro d
  induction d with
  | zero =>
    intro i hi
    refine Ev.succ ?_
    simp only [spec_l1Has.l0.eq_2]
    rw [List.drop_of_length_le (by omega)]
    exact Ev.neg (by omega) (Ev.now _)
  | succ d ih =>
    intro i hi
    refine Ev.succ ?_
    simp only [spec_l1Has.l0.eq_2]
    refine Ev.pos (by omega) (Ev.pos (by omega) ?_)
    have hd : l.drop i = l[i] :: l.drop (i + 1) := (List.drop_eq_getElem_cons (by omega))
    rw [rd_nat l i (by omega)]
    by_cases e : l[i] = x
    · rw [show decide (x ∈ l.drop i) = true by rw [hd]; simp [e]]
      exact Ev.pos e (Ev.now _)
    · refine Ev.neg e ?_
      rw [w64 (by omega) (by omega)]
      have := ih (i + 1) (by omega)
      rw [show decide (x ∈ l.drop i) = decide (x ∈ l.drop (i + 1)) by rw [hd]; simp only [List.mem_cons, Ne.symm e, false_or]]
      exact this
theorem has_ev (l : List Int) (x : Int) (hl : l.length ≤ 35184372088832) : Ev (fun k => spec_l1Has.f k l x) (decide (x ∈ l)) := has_loop l x hl l.length 0 (by omega)
theorem allWithin_loop (l : List Int) (lo hi : Int) (hl : l.length ≤ 35184372088832) : ∀ (d i : Nat), i + d = l.length → Ev (fun k => impl_allWithin.l0 k lo hi l (l.length : Int) (i : Int)) (decide (∀ x ∈ l.drop i, lo ≤ x ∧ x ≤ hi)) := by
  intro d
  induction d with
  | zero =>
    intro i hi
    refine Ev.succ ?_
    simp only [impl_allWithin.l0.eq_2]
    rw [List.drop_of_length_le (by omega)]
    exact Ev.neg (by omega) (by simp; exact Ev.now _)
  | succ d ih =>
    intro i hi'
    refine Ev.succ ?_
    simp only [impl_allWithin.l0.eq_2]
    refine Ev.pos (by omega) (Ev.pos (by omega) (Ev.pos (by omega) (Ev.bindc (within_eq _ _ _) ?_)))
    have hd : l.drop i = l[i] :: l.drop (i + 1) := (List.drop_eq_getElem_cons (by omega))
    rw [rd_nat l i (by omega)]
    by_cases e : lo ≤ l[i] ∧ l[i] ≤ hi
    · refine Ev.pos (decide_eq_true e) ?_
      rw [w64 (by omega) (by omega)]
      have e1 : (∀ x ∈ l.drop i, lo ≤ x ∧ x ≤ hi) ↔ (∀ x ∈ l.drop (i + 1), lo ≤ x ∧ x ≤ hi) := by rw [hd]; simp only [List.mem_cons, forall_eq_or_imp, e, true_and]
      rw [decide_eq_decide.mpr e1]
      exact ih (i + 1) (by omega)
    · rw [show decide (∀ x ∈ l.drop i, lo ≤ x ∧ x ≤ hi) = false by rw [hd]; simp only [List.mem_cons, forall_eq_or_imp, decide_eq_false_iff_not]; exact fun h => e h.1]
      exact Ev.neg (by simpa using e) (Ev.now _)
theorem allWithin_ev (l : List Int) (lo hi : Int) (hl : l.length ≤ 35184372088832) : Ev (fun k => impl_allWithin.f k l lo hi) (decide (∀ x ∈ l, lo ≤ x ∧ x ≤ hi)) := allWithin_loop l lo hi hl l.length 0 (by omega)
def pc : Nat → Nat → Nat
  | 0, _ => 0
  | k + 1, n => n % 2 + pc k (n / 2)
theorem pc_add (a b n : Nat) : pc (a + b) n = pc a n + pc b (n / 2 ^ a) := by
  induction a generalizing n with
  | zero => simp [pc]
  | succ a ih =>
    rw [show a + 1 + b = (a + b) + 1 by omega]
    simp only [pc]
    rw [ih, Nat.div_div_eq_div_mul, Nat.pow_succ, Nat.mul_comm 2 (2 ^ a)]
    omega
theorem pc_mod (k n : Nat) : pc k (n % 2 ^ k) = pc k n := by
  induction k generalizing n with
  | zero => rfl
  | succ k ih =>
    simp only [pc]
    rw [show n % 2 ^ (k + 1) % 2 = n % 2 by rw [Nat.pow_succ]; exact Nat.mod_mul_left_mod n (2 ^ k) 2]
    rw [show n % 2 ^ (k + 1) / 2 = (n / 2) % 2 ^ k by rw [Nat.pow_succ, Nat.mul_comm]; exact Nat.mod_mul_right_div_self n 2 (2 ^ k)]
    rw [ih]
theorem pc_le (k n : Nat) : pc k n ≤ k := by
  induction k generalizing n with
  | zero => exact Nat.le_refl _
  | succ k ih => have := ih (n / 2); simp only [pc]; omega
theorem u32_nat (a b : Nat) (ha : a < 4294967296) (hb : b < 4294967296) : Go.bits .and .u32 (a : Int) (b : Int) = ((a &&& b : Nat) : Int) ∧ Go.bits .or .u32 (a : Int) (b : Int) = ((a ||| b : Nat) : Int) :=
  bits_nat .u32 32 (by decide) (fun n h0 h1 => by rw [IntKind.wrap_u32]; omega) a b (by omega) (by omega)
theorem pc_count (k n : Nat) : pc k n = (List.range k).countP (fun i => n.testBit i) := by
  induction k generalizing n with
  | zero => rfl
  | succ k ih =>
    rw [List.range_succ_eq_map, List.countP_cons, List.countP_map]
    simp only [pc]
    rw [ih, Nat.add_comm]
    congr 1
    · apply List.countP_congr
      intro i _
      simp [Nat.testBit_succ]
    · rw [Nat.testBit_zero]
      by_cases h : n % 2 = 1
      · simp [h]
      · have : n % 2 = 0 := by omega
        simp [this]
def onesTab : ByteArray := ⟨#[0, 1, 1, 2, 1, 2, 2, 3, 1, 2, 2, 3, 2, 3, 3, 4, 1, 2, 2, 3, 2, 3, 3, 4, 2, 3, 3, 4, 3, 4, 4, 5, 1, 2, 2, 3, 2, 3, 3, 4, 2, 3, 3, 4, 3, 4, 4, 5, 2, 3, 3, 4, 3, 4, 4, 5, 3, 4, 4, 5, 4, 5, 5, 6, 1, 2, 2, 3, 2, 3, 3, 4, 2, 3, 3, 4, 3, 4, 4, 5, 2, 3, 3, 4, 3, 4, 4, 5, 3, 4, 4, 5, 4, 5, 5, 6, 2, 3, 3, 4, 3, 4, 4, 5, 3, 4, 4, 5, 4, 5, 5, 6, 3, 4, 4, 5, 4, 5, 5, 6, 4, 5, 5, 6, 5, 6, 6, 7, 1, 2, 2, 3, 2, 3, 3, 4, 2, 3, 3, 4, 3, 4, 4, 5, 2, 3, 3, 4, 3, 4, 4, 5, 3, 4, 4, 5, 4, 5, 5, 6, 2, 3, 3, 4, 3, 4, 4, 5, 3, 4, 4, 5, 4, 5, 5, 6, 3, 4, 4, 5, 4, 5, 5, 6, 4, 5, 5, 6, 5, 6, 6, 7, 2, 3, 3, 4, 3, 4, 4, 5, 3, 4, 4, 5, 4, 5, 5, 6, 3, 4, 4, 5, 4, 5, 5, 6, 4, 5, 5, 6, 5, 6, 6, 7, 3, 4, 4, 5, 4, 5, 5, 6, 4, 5, 5, 6, 5, 6, 6, 7, 4, 5, 5, 6, 5, 6, 6, 7, 5, 6, 6, 7, 6, 7, 7, 8]⟩
theorem onesTab_pc : ∀ i : Fin 256, bt onesTab ((i.val : Nat) : Int) = ((pc 8 i.val : Nat) : Int) := by decide +kernel
theorem onesTab_at (n : Nat) (h : n < 256) : bt onesTab (n : Int) = ((pc 8 n : Nat) : Int) := onesTab_pc ⟨n, h⟩
theorem u32_byte (n : Nat) (h : n < 4294967296) : Go.bits .and .u32 (n : Int) 255 = ((n % 256 : Nat) : Int) := by
  have := (u32_nat n 255 h (by omega)).1
  rw [show ((255 : Nat) : Int) = 255 from rfl] at this
  rw [this, show 255 = 2 ^ 8 - 1 from rfl, Nat.and_two_pow_sub_one_eq_mod]
theorem ones_tab (a0 : Int) : bits_OnesCount32.f a0 = if 0 ≤ (a0 / 16777216) then (if (a0 / 16777216) < 256 then (if 0 ≤ (Go.bits .and .u32 (a0 / 65536) 255) then (if (Go.bits .and .u32 (a0 / 65536) 255) < 256 then (if 0 ≤ (Go.bits .and .u32 (a0 / 256) 255) then (if (Go.bits .and .u32 (a0 / 256) 255) < 256 then (if 0 ≤ (Go.bits .and .u32 a0 255) then (if (Go.bits .and .u32 a0 255) < 256 then (some ((((((bt onesTab (a0 / 16777216)) + (bt onesTab (Go.bits .and .u32 (a0 / 65536) 255))) % 256) + (bt onesTab (Go.bits .and .u32 (a0 / 256) 255))) % 256 + (bt onesTab (Go.bits .and .u32 a0 255))) % 256)) else (none)) else (none)) else (none)) else (none)) else (none)) else (none)) else (none)) else (none) := rfl
theorem ones_eq (n : Nat) (h : n < 4294967296) : bits_OnesCount32.f (n : Int) = some ((pc 32 n : Nat) : Int) := by
  have e1 : (n : Int) / 16777216 = ((n / 16777216 : Nat) : Int) := by omega
  have e2 : (n : Int) / 65536 = ((n / 65536 : Nat) : Int) := by omega
  have e3 : (n : Int) / 256 = ((n / 256 : Nat) : Int) := by omega
  rw [ones_tab, e1, e2, e3, u32_byte _ (by omega), u32_byte _ (by omega), u32_byte _ (by omega)]
  rw [onesTab_at _ (by omega), onesTab_at _ (by omega), onesTab_at _ (by omega), onesTab_at _ (by omega)]
  rw [if_pos (Int.natCast_nonneg _), if_pos (by omega), if_pos (Int.natCast_nonneg _), if_pos (by omega), if_pos (Int.natCast_nonneg _), if_pos (by omega), if_pos (Int.natCast_nonneg _), if_pos (by omega)]
  have p4 : pc 32 n = pc 8 (n % 256) + pc 8 (n / 256 % 256) + pc 8 (n / 65536 % 256) + pc 8 (n / 16777216) := by
    have a0 : pc 32 n = pc 8 n + (pc 8 (n / 256) + (pc 8 (n / 256 / 256) + pc 8 (n / 256 / 256 / 256))) := by
      rw [show pc 32 n = pc (8 + (8 + (8 + 8))) n from rfl, pc_add, pc_add, pc_add]
    have a1 : pc 8 (n % 256) = pc 8 n := pc_mod 8 n
    have a2 : pc 8 (n / 256 % 256) = pc 8 (n / 256) := pc_mod 8 (n / 256)
    have a3 : pc 8 (n / 65536 % 256) = pc 8 (n / 65536) := pc_mod 8 (n / 65536)
    rw [show n / 256 / 256 / 256 = n / 16777216 by omega, show n / 256 / 256 = n / 65536 by omega] at a0
    rw [a0, a1, a2, a3]; omega
  rw [p4]
  have b1 := pc_le 8 (n % 256)
  have b2 := pc_le 8 (n / 256 % 256)
  have b3 := pc_le 8 (n / 65536 % 256)
  have b4 := pc_le 8 (n / 16777216)
  refine congrArg some ?_
  generalize pc 8 (n % 256) = c1 at *
  generalize pc 8 (n / 256 % 256) = c2 at *
  generalize pc 8 (n / 65536 % 256) = c3 at *
  generalize h4 : pc 8 (n / 16777216) = c4 at *
  have : n / 16777216 % 256 = n / 16777216 := by omega
  omega
/-- the set of some seats -/
def setN (l : List Int) : Nat := l.foldl (fun s p => s ||| 2 ^ p.toNat) 0
theorem foldl_or_bit (l : List Int) (s j : Nat) : (l.foldl (fun s p => s ||| 2 ^ p.toNat) s).testBit j = (s.testBit j || decide (∃ p ∈ l, p.toNat = j)) := by
  induction l generalizing s with
  | nil => simp
  | cons p l ih =>
    rw [List.foldl_cons, ih, Nat.testBit_or, Nat.testBit_two_pow]
    simp only [List.mem_cons, exists_eq_or_imp, Bool.decide_or, Bool.or_assoc]
theorem setN_bit (l : List Int) (j : Nat) : (setN l).testBit j = decide (∃ p ∈ l, p.toNat = j) := by
  unfold setN; rw [foldl_or_bit]; simp
theorem setN_lt (l : List Int) (h : ∀ x ∈ l, 0 ≤ x ∧ x < 32) : setN l < 4294967296 := by
  refine Nat.lt_pow_two_of_testBit (n := 32) _ (fun j hj => ?_)
  rw [setN_bit]
  simp only [decide_eq_false_iff_not, not_exists, not_and]
  intro x hx e
  have := h x hx
  omega
theorem setN_take (l : List Int) (i : Nat) (h : i < l.length) : setN (l.take (i + 1)) = setN (l.take i) ||| 2 ^ (l[i]).toNat := by
  unfold setN
  rw [List.take_succ_eq_append_getElem h, List.foldl_append]
  rfl
theorem two_pow_lt32 (p : Int) (h0 : 0 ≤ p) (h1 : p < 32) : 2 ^ p.toNat < 4294967296 := Nat.pow_lt_pow_right (m := p.toNat) (n := 32) (by decide) (by omega)
theorem shl_u32_one (p : Int) (h0 : 0 ≤ p) (h1 : p < 32) : shl .u32 1 p = ((2 ^ p.toNat : Nat) : Int) := by
  unfold shl
  rw [Nat.min_eq_left (by simp [IntKind.bits]; omega), IntKind.wrap_u32]
  have e : (1 * 2 ^ p.toNat : Int) = ((2 ^ p.toNat : Nat) : Int) := by rw [Int.one_mul]; push_cast; rfl
  rw [e]; exact Int.emod_eq_of_lt (Int.natCast_nonneg _) (Int.ofNat_lt.mpr (two_pow_lt32 p h0 h1))
theorem setOf_loop (l : List Int) (h : ∀ x ∈ l, 0 ≤ x ∧ x < 32) (hl : l.length ≤ 35184372088832) : ∀ (d i : Nat), i + d = l.length → Ev (fun k => impl_setOf.l0 k (setN (l.take i) : Int) l (l.length : Int) (i : Int)) (setN l : Int) := by
  intro d
  induction d with
  | zero =>
    intro i hi
    refine Ev.succ ?_
    simp only [impl_setOf.l0.eq_2]
    rw [List.take_of_length_le (by omega)]
    exact Ev.neg (by omega) (Ev.now _)
  | succ d ih =>
    intro i hi
    refine Ev.succ ?_
    simp only [impl_setOf.l0.eq_2]
    have hx := h (l[i]) (List.getElem_mem (by omega))
    rw [rd_nat l i (by omega)]
    refine Ev.pos (by omega) (Ev.pos (by omega) (Ev.pos (by omega) (Ev.pos hx.1 ?_)))
    rw [w64 (by omega) (by omega), shl_u32_one _ hx.1 hx.2]
    rw [(u32_nat _ _ (setN_lt _ (fun x hx => h x (List.mem_of_mem_take hx))) (two_pow_lt32 _ hx.1 hx.2)).2, ← setN_take l i (by omega)]
    exact ih (i + 1) (by omega)
theorem setOf_ev (l : List Int) (h : ∀ x ∈ l, 0 ≤ x ∧ x < 32) (hl : l.length ≤ 35184372088832) : Ev (fun k => impl_setOf.f k l) (setN l : Int) := setOf_loop l h hl l.length 0 (by omega)
theorem count_eq (n : Nat) (h : n < 4294967296) : impl_set_count.f (n : Int) = some ((pc 32 n : Nat) : Int) := by
  unfold impl_set_count.f; rw [ones_eq n h]; rfl
/-- a list that has each number less than n once -/
def IsOrd (l : List Int) (n : Int) : Prop := (l.length : Int) = n ∧ ∀ i : Nat, (i : Int) < n → (i : Int) ∈ l
theorem ph_range : ∀ (n : Nat) (l : List Int), l.length = n → (∀ i : Nat, i < n → (i : Int) ∈ l) → ∀ x ∈ l, 0 ≤ x ∧ x < (n : Int) := by
  intro n
  induction n with
  | zero => intro l hl _ x hx; rw [List.length_eq_zero_iff.mp hl] at hx; cases hx
  | succ n ih =>
    intro l hl h x hx
    have hm := h n (by omega)
    by_cases e : x = (n : Int)
    · omega
    · have := ih (l.erase (n : Int)) (by rw [List.length_erase_of_mem hm]; omega) (fun i hi => (List.mem_erase_of_ne (by omega)).mpr (h i (by omega))) x ((List.mem_erase_of_ne e).mpr hx)
      omega
theorem ph_nodup_len : ∀ (m : Nat) (l : List Int), l.Nodup → (∀ x ∈ l, 0 ≤ x ∧ x < (m : Int)) → l.length ≤ m := by
  intro m
  induction m with
  | zero =>
    intro l _ h
    cases l with
    | nil => simp
    | cons x l => have := h x (by simp); omega
  | succ m ih =>
    intro l hn h
    by_cases hm : (m : Int) ∈ l
    · have := ih (l.erase (m : Int)) (hn.erase _) (fun x hx => by
        have h1 := h x (List.mem_of_mem_erase hx)
        have h2 : x ≠ (m : Int) := fun e => by subst e; exact (List.Nodup.not_mem_erase hn) hx
        omega)
      rw [List.length_erase_of_mem hm] at this
      omega
    · have := ih l hn (fun x hx => by
        have h1 := h x hx
        have h2 : x ≠ (m : Int) := fun e => by subst e; exact hm hx
        omega)
      omega
theorem ord_range {l : List Int} {n : Int} (h : IsOrd l n) : ∀ x ∈ l, 0 ≤ x ∧ x < n := by
  obtain ⟨h1, h2⟩ := h
  have := ph_range l.length l rfl (fun i hi => h2 i (by omega))
  intro x hx; have := this x hx; omega
theorem ord_nodup : ∀ (n : Nat) (l : List Int), l.length = n → (∀ i : Nat, i < n → (i : Int) ∈ l) → l.Nodup := by
  intro n
  induction n with
  | zero => intro l hl _; rw [List.length_eq_zero_iff.mp hl]; exact List.nodup_nil
  | succ n ih =>
    intro l hl h
    have hm := h n (by omega)
    have hl' : (l.erase (n : Int)).length = n := by rw [List.length_erase_of_mem hm]; omega
    have h' : ∀ i : Nat, i < n → (i : Int) ∈ l.erase (n : Int) := fun i hi => (List.mem_erase_of_ne (by omega)).mpr (h i (by omega))
    have hn : (n : Int) ∉ l.erase (n : Int) := fun hc => by have := ph_range n _ hl' h' _ hc; omega
    exact (List.perm_cons_erase hm).nodup_iff.mpr (List.nodup_cons.mpr ⟨hn, ih _ hl' h'⟩)
theorem isOrd_nodup {l : List Int} {n : Int} (h : IsOrd l n) : l.Nodup := ord_nodup l.length l rfl (fun i hi => h.2 i (by have := h.1; omega))
instance (l : List Int) (n : Int) : Decidable (IsOrd l n) := decidable_of_iff ((l.length : Int) = n ∧ ∀ i : Fin l.length, (i.val : Int) ∈ l) (by
  unfold IsOrd
  constructor
  · rintro ⟨h1, h2⟩; exact ⟨h1, fun i hi => h2 ⟨i, by omega⟩⟩
  · rintro ⟨h1, h2⟩; exact ⟨h1, fun i => h2 i.val (by have := i.isLt; omega)⟩)
theorem l4Order_loop (l : List Int) (n : Int) (hn0 : 0 ≤ n) (hn : n ≤ 1000) (hl : l.length ≤ 35184372088832) : ∀ (d i : Nat), (i : Int) + d = n → (∀ j : Nat, j < i → (j : Int) ∈ l) → Ev (fun k => spec_l4Order.l0 k l n (i : Int)) (decide (IsOrd l n)) := by
  intro d
  induction d with
  | zero =>
    intro i hi hj
    refine Ev.succ ?_
    simp only [spec_l4Order.l0.eq_2]
    rw [show decide (IsOrd l n) = ((l.length : Int) == n) by
      rw [Bool.eq_iff_iff]; simp only [beq_iff_eq, decide_eq_true_eq]
      exact ⟨fun h => h.1, fun h => ⟨h, fun j h => hj j (by omega)⟩⟩]
    exact Ev.neg (by omega) (Ev.now _)
  | succ d ih =>
    intro i hi hj
    refine Ev.succ ?_
    simp only [spec_l4Order.l0.eq_2]
    refine Ev.pos (by omega) (Ev.bind (has_ev l i hl) ?_)
    by_cases hm : (i : Int) ∈ l
    · refine Ev.pos (decide_eq_true hm) ?_
      rw [w64 (by omega) (by omega)]
      refine ih (i + 1) (by omega) ?_
      intro j hj'
      by_cases e : j = i
      · rw [e]; exact hm
      · exact hj j (by omega)
    · refine Ev.neg (by simpa using hm) ?_
      rw [show decide (IsOrd l n) = false by
        simp only [decide_eq_false_iff_not]
        intro h; exact hm (h.2 i (by omega))]
      exact Ev.now _
theorem l4Order_ev (l : List Int) (n : Int) (hn0 : 0 ≤ n) (hn : n ≤ 1000) (hl : l.length ≤ 35184372088832) : Ev (fun k => spec_l4Order.f k l n) (decide (IsOrd l n)) :=
  l4Order_loop l n hn0 hn hl n.toNat 0 (by omega) (fun j h => by omega)
theorem pc_full (n : Nat) (hn : n ≤ 32) (l : List Int) (hr : ∀ x ∈ l, 0 ≤ x ∧ x < (n : Int)) : pc 32 (setN l) = n ↔ ∀ i : Nat, i < n → (i : Int) ∈ l := by
  have e : pc 32 (setN l) = (List.range n).countP (fun i : Nat => decide ((i : Int) ∈ l)) := by
    rw [pc_count]
    have h1 : (List.range 32).countP (fun i => (setN l).testBit i) = (List.range 32).countP (fun i : Nat => decide ((i : Int) ∈ l)) := by
      apply List.countP_congr
      intro i _
      rw [setN_bit]
      simp only [decide_eq_true_eq]
      constructor
      · rintro ⟨p, hp, e⟩; have := hr p hp; rw [show (i : Int) = p by omega]; exact hp
      · intro h; exact ⟨_, h, by omega⟩
    rw [h1, show 32 = n + (32 - n) by omega, List.range_add, List.countP_append, List.countP_map]
    rw [show List.countP ((fun i : Nat => decide ((i : Int) ∈ l)) ∘ fun x => n + x) (List.range (32 - n)) = 0 by
      rw [List.countP_eq_zero]
      intro i _
      simp only [Function.comp, decide_eq_true_eq]
      intro h
      have := hr _ h
      omega]
    rfl
  rw [e]
  constructor
  · intro h i hi
    have h2 := (List.countP_eq_length (p := fun i : Nat => decide ((i : Int) ∈ l)) (l := List.range n)).mp (by rw [h, List.length_range])
    have := h2 i (List.mem_range.mpr hi)
    simpa using this
  · intro h
    rw [(List.countP_eq_length (p := fun i : Nat => decide ((i : Int) ∈ l)) (l := List.range n)).mpr (fun i hi => by simpa using h i (List.mem_range.mp hi)), List.length_range]
theorem isOrder_ev (l : List Int) (n : Int) (h0 : 0 ≤ n) (h1 : n ≤ 32) (hl : l.length ≤ 35184372088832) : Ev (fun k => impl_isOrder.f k l n) (decide (IsOrd l n)) := by
  unfold impl_isOrder.f
  by_cases hn : (l.length : Int) = n
  · refine Ev.pos hn (Ev.bind (allWithin_ev l 0 _ hl) ?_)
    rw [w64 (by omega) (by omega)]
    by_cases hw : ∀ x ∈ l, 0 ≤ x ∧ x ≤ n - 1
    · refine Ev.pos (decide_eq_true hw) ?_
      have hw32 : ∀ x ∈ l, 0 ≤ x ∧ x < 32 := fun x hx => by have := hw x hx; omega
      refine Ev.bind (setOf_ev l hw32 hl) (Ev.bindc (count_eq _ (setN_lt l hw32)) ?_)
      have hp := pc_full n.toNat (by omega) l (fun x hx => by have := hw x hx; omega)
      rw [show ((((pc 32 (setN l) : Nat) : Int) == n)) = decide (IsOrd l n) by
        rw [Bool.eq_iff_iff]
        simp only [beq_iff_eq, decide_eq_true_eq]
        unfold IsOrd
        constructor
        · intro h; exact ⟨hn, fun i hi => hp.mp (by omega) i (by omega)⟩
        · rintro ⟨_, h⟩; have := hp.mpr (fun i hi => h i (by omega)); omega]
      exact Ev.now _
    · refine Ev.neg (by simpa using hw) ?_
      rw [show decide (IsOrd l n) = false by
        simp only [decide_eq_false_iff_not]
        intro h; exact hw (fun x hx => by have := ord_range h x hx; omega)]
      exact Ev.now _
  · refine Ev.neg hn ?_
    rw [show decide (IsOrd l n) = false by simp only [decide_eq_false_iff_not]; intro h; exact hn h.1]
    exact Ev.now _
theorem fact_loop (n : Int) (hn : n ≤ 4611686018427387904) : ∀ (d : Nat) (i acc : Int), 0 ≤ i → i ≤ 4611686018427387905 → n + 1 - i ≤ d → ∃ r, Ev (fun k => impl_factorial.l0 k n acc i) r ∧ Ev (fun k => spec_l8Orders.l0 k n acc i) r := by
  intro d
  induction d with
  | zero =>
    intro i acc h0 h1 hd
    refine ⟨acc, Ev.succ ?_, Ev.succ ?_⟩
    · simp only [impl_factorial.l0.eq_2]; exact Ev.neg (by omega) (Ev.now _)
    · simp only [spec_l8Orders.l0.eq_2]; exact Ev.neg (by omega) (Ev.now _)
  | succ d ih =>
    intro i acc h0 h1 hd
    by_cases hi : i ≤ n
    · obtain ⟨r, h, h'⟩ := ih (i + 1) (wrap64 (acc * i)) (by omega) (by omega) (by omega)
      refine ⟨r, Ev.succ ?_, Ev.succ ?_⟩
      · simp only [impl_factorial.l0.eq_2]; refine Ev.pos hi ?_; rw [w64 (n := i + 1) (by omega) (by omega)]; exact h
      · simp only [spec_l8Orders.l0.eq_2]; refine Ev.pos hi ?_; rw [w64 (n := i + 1) (by omega) (by omega)]; exact h'
    · refine ⟨acc, Ev.succ ?_, Ev.succ ?_⟩
      · simp only [impl_factorial.l0.eq_2]; exact Ev.neg hi (Ev.now _)
      · simp only [spec_l8Orders.l0.eq_2]; exact Ev.neg hi (Ev.now _)
theorem fact_ev (n : Int) (hn : n ≤ 4611686018427387904) : ∃ r, Ev (fun k => impl_factorial.f k n) r ∧ Ev (fun k => spec_l8Orders.f k n) r :=
  fact_loop n hn (n + 1).toNat 2 1 (by omega) (by omega) (by omega)
theorem l8Couples_eq (k : Int) (ring : Bool) : spec_l8Couples.f k ring = some (decide (1 ≤ k ∧ k ≤ 6) && (!ring || decide (k > 1))) := by
  unfold spec_l8Couples.f
  rw [l1In_eq]
  by_cases h : 1 ≤ k ∧ k ≤ 6
  · simp only [Option.bind_some, h, decide_true, if_true, and_self]; cases ring <;> simp
  · simp only [Option.bind_some, h, decide_false, Bool.false_eq_true, if_false, Bool.false_and]
theorem isCouples_eq (k : Int) (ring : Bool) : impl_isCouples.f k ring = some (decide (1 ≤ k ∧ k ≤ 6) && (!ring || decide (k > 1))) := by
  unfold impl_isCouples.f
  rw [within_eq]
  have e : decide (k ≥ 2) = decide (k > 1) := decide_eq_decide.mpr (by omega)
  by_cases h : 1 ≤ k ∧ k ≤ 6
  · simp only [Option.bind_some, h, decide_true, if_true, and_self]; cases ring <;> simp [e]
  · simp only [Option.bind_some, h, decide_false, Bool.false_eq_true, if_false, Bool.false_and]
theorem fam_j1 (l : List Int) (hl : l.length ≤ 1048576) (ring : Bool) (p w : Int) (b : Bool) :
    ∃ r, Ev (fun k => spec_FamilyCount.j1 k l ring p w b) r ∧ Ev (fun k => impl_FamilyCount.j1 k ring p w (l.length : Int) b) r := by
  cases b with
  | true => exact ⟨(0, false), Ev.succ (by simp only [spec_FamilyCount.j1.eq_2]; exact Ev.pos (by trivial) (Ev.now _)), Ev.succ (by simp only [impl_FamilyCount.j1.eq_2]; exact Ev.pos (by trivial) (Ev.now _))⟩
  | false =>
    cases ring with
    | true =>
      by_cases h1 : (l.length : Int) = 1
      · exact ⟨(w, true), Ev.succ (by simp only [spec_FamilyCount.j1.eq_2]; exact Ev.neg (by decide) (Ev.pos (by trivial) (Ev.pos h1 (Ev.now _)))), Ev.succ (by simp only [impl_FamilyCount.j1.eq_2]; exact Ev.neg (by decide) (Ev.pos (by trivial) (Ev.pos h1 (Ev.now _))))⟩
      · obtain ⟨r, h, h'⟩ := fact_ev (wrap64 ((l.length : Int) - 1)) (by rw [w64 (by omega) (by omega)]; omega)
        refine ⟨(wrap64 ((wrap64 (w * p)) * r), true), Ev.succ ?_, Ev.succ ?_⟩
        · simp only [spec_FamilyCount.j1.eq_2]; exact Ev.neg (by decide) (Ev.pos (by trivial) (Ev.neg h1 (Ev.bind h' (Ev.now _))))
        · simp only [impl_FamilyCount.j1.eq_2]; exact Ev.neg (by decide) (Ev.pos (by trivial) (Ev.neg h1 (Ev.bind h (Ev.now _))))
    | false =>
      obtain ⟨r, h, h'⟩ := fact_ev (l.length : Int) (by omega)
      refine ⟨(wrap64 (w * r), true), Ev.succ ?_, Ev.succ ?_⟩
      · simp only [spec_FamilyCount.j1.eq_2]; exact Ev.neg (by decide) (Ev.neg (by decide) (Ev.bind h' (Ev.now _)))
      · simp only [impl_FamilyCount.j1.eq_2]; exact Ev.neg (by decide) (Ev.neg (by decide) (Ev.bind h (Ev.now _)))
theorem fam_l0 (l : List Int) (hl : l.length ≤ 1048576) (ring : Bool) : ∀ (d i : Nat) (p w : Int), i + d = l.length →
    ∃ r, Ev (fun k => spec_FamilyCount.l0 k l ring p w (i : Int)) r ∧ Ev (fun k => impl_FamilyCount.l0 k l ring p w l (l.length : Int) (i : Int)) r := by
  intro d
  induction d with
  | zero =>
    intro i p w hi
    have hlt : ¬ ((i : Int) < (l.length : Int)) := by omega
    by_cases h0 : (l.length : Int) = 0
    · obtain ⟨r, h, h'⟩ := fam_j1 l hl ring p w true
      refine ⟨r, Ev.succ ?_, Ev.succ ?_⟩
      · simp only [spec_FamilyCount.l0.eq_2]; exact Ev.neg hlt (Ev.pos h0 h)
      · simp only [impl_FamilyCount.l0.eq_2]; exact Ev.neg hlt (Ev.pos h0 h')
    · by_cases hr : ring = true
      · obtain ⟨r, h, h'⟩ := fam_j1 l hl ring p w (decide (p < 3))
        refine ⟨r, Ev.succ ?_, Ev.succ ?_⟩
        · simp only [spec_FamilyCount.l0.eq_2]; exact Ev.neg hlt (Ev.neg h0 (Ev.pos hr h))
        · simp only [impl_FamilyCount.l0.eq_2]; exact Ev.neg hlt (Ev.neg h0 (Ev.pos hr h'))
      · obtain ⟨r, h, h'⟩ := fam_j1 l hl ring p w false
        refine ⟨r, Ev.succ ?_, Ev.succ ?_⟩
        · simp only [spec_FamilyCount.l0.eq_2]; exact Ev.neg hlt (Ev.neg h0 (Ev.neg hr h))
        · simp only [impl_FamilyCount.l0.eq_2]; exact Ev.neg hlt (Ev.neg h0 (Ev.neg hr h'))
  | succ d ih =>
    intro i p w hi
    have hlt : ((i : Int) < (l.length : Int)) := by omega
    have h0 : (0 : Int) ≤ i := by omega
    by_cases hw : 1 ≤ rd l (i : Int) ∧ rd l (i : Int) ≤ 12
    · by_cases hp : (wrap64 (p + (rd l (i : Int)))) > 12
      · refine ⟨(0, false), Ev.succ ?_, Ev.succ ?_⟩
        · simp only [spec_FamilyCount.l0.eq_2]; exact Ev.pos hlt (Ev.pos h0 (Ev.bindc (l1In_eq _ _ _) (Ev.pos (decide_eq_true hw) (Ev.pos hp (Ev.now _)))))
        · simp only [impl_FamilyCount.l0.eq_2]; exact Ev.pos hlt (Ev.pos h0 (Ev.pos hlt (Ev.bindc (within_eq _ _ _) (Ev.pos (decide_eq_true hw) (Ev.pos hp (Ev.now _))))))
      · obtain ⟨q, hq, hq'⟩ := fact_ev (rd l (i : Int)) (by omega)
        obtain ⟨r, h, h'⟩ := ih (i + 1) (wrap64 (p + (rd l (i : Int)))) (wrap64 (w * q)) (by omega)
        have e : wrap64 ((i : Int) + 1) = ((i + 1 : Nat) : Int) := by rw [w64 (by omega) (by omega)]; omega
        refine ⟨r, Ev.succ ?_, Ev.succ ?_⟩
        · simp only [spec_FamilyCount.l0.eq_2, e]; exact Ev.pos hlt (Ev.pos h0 (Ev.bindc (l1In_eq _ _ _) (Ev.pos (decide_eq_true hw) (Ev.neg hp (Ev.bind hq' h)))))
        · simp only [impl_FamilyCount.l0.eq_2, e]; exact Ev.pos hlt (Ev.pos h0 (Ev.pos hlt (Ev.bindc (within_eq _ _ _) (Ev.pos (decide_eq_true hw) (Ev.neg hp (Ev.bind hq h'))))))
    · have hd : ¬ (decide (1 ≤ rd l (i : Int) ∧ rd l (i : Int) ≤ 12) = true) := by simpa using hw
      refine ⟨(0, false), Ev.succ ?_, Ev.succ ?_⟩
      · simp only [spec_FamilyCount.l0.eq_2]; exact Ev.pos hlt (Ev.pos h0 (Ev.bindc (l1In_eq _ _ _) (Ev.neg hd (Ev.now _))))
      · simp only [impl_FamilyCount.l0.eq_2]; exact Ev.pos hlt (Ev.pos h0 (Ev.pos hlt (Ev.bindc (within_eq _ _ _) (Ev.neg hd (Ev.now _)))))
/-- a list of bytes -/
def Bytes8 (l : List Int) : Prop := ∀ x ∈ l, 0 ≤ x ∧ x ≤ 255
theorem and255 (x : Int) (h0 : 0 ≤ x) (h1 : x < 4294967296) : 0 ≤ Go.bits .and .u64 x 255 ∧ Go.bits .and .u64 x 255 ≤ 255 := by
  have h := (bits_nat .u64 64 (by decide) (fun n h0 h1 => by rw [IntKind.wrap_u64]; omega) x.toNat 255 (by omega) (by omega)).1
  rw [Int.toNat_of_nonneg h0] at h
  rw [show (255 : Int) = ((255 : Nat) : Int) from rfl, h]
  have := Nat.and_le_right (n := x.toNat) (m := 255)
  omega
theorem u64_range (x : Int) : 0 ≤ IntKind.u64.wrap x ∧ IntKind.u64.wrap x < 18446744073709551616 := by
  rw [IntKind.wrap_u64]; omega
theorem next_ok (s : List Int) (hs : Bytes8 s) (hl : s.length ≤ 1000000) (p st : Int) (h0 : 0 ≤ p) (h1 : p ≤ 1000000) :
    ∃ v q, spec_l1Cur_next.f s p st = some (v, p + 1, q) ∧ 0 ≤ v ∧ v ≤ 255 := by
  unfold spec_l1Cur_next.f
  have hw : wrap64 (p + 1) = p + 1 := w64 (by omega) (by omega)
  rw [hw]
  have hand : ∀ y : Int, 0 ≤ wrap64 (Go.bits .and .u64 (IntKind.u64.wrap y / 1099511627776) 255) ∧ wrap64 (Go.bits .and .u64 (IntKind.u64.wrap y / 1099511627776) 255) ≤ 255 := fun y => by
    have h := u64_range y
    have := and255 (IntKind.u64.wrap y / 1099511627776) (by omega) (by omega)
    rw [w64 (by omega) (by omega)]; exact this
  by_cases c : p < (s.length : Int)
  · rw [if_pos c, if_pos h0]
    have hm : rd s p ∈ s := by
      obtain ⟨n, rfl⟩ : ∃ n : Nat, p = (n : Int) := ⟨p.toNat, by omega⟩
      rw [rd_nat s n (by omega)]; exact List.getElem_mem _
    have hv := hs _ hm
    by_cases d : p + 1 ≤ (s.length : Int)
    · rw [if_pos d]; exact ⟨_, _, rfl, by rw [w64 (by omega) (by omega)]; exact hv⟩
    · rw [if_neg d]; exact ⟨_, _, rfl, hand _⟩
  · rw [if_neg c]
    by_cases d : p + 1 ≤ (s.length : Int)
    · rw [if_pos d]; exact ⟨_, _, rfl, by omega, by omega⟩
    · rw [if_neg d]; exact ⟨_, _, rfl, hand _⟩
theorem pick_ok (s : List Int) (hs : Bytes8 s) (hl : s.length ≤ 1000000) (p st a : Int) (h0 : 0 ≤ p) (h1 : p ≤ 1000000) (ha : a ≤ 200) :
    ∃ v p' q, spec_l1Cur_pick.f s p st a = some (v, p', q) ∧ 0 ≤ v ∧ (v < a ∨ v = 0) ∧ p ≤ p' ∧ p' ≤ p + 1 := by
  unfold spec_l1Cur_pick.f
  by_cases c : a ≤ 1
  · rw [if_pos c]; exact ⟨_, _, _, rfl, by omega, .inr rfl, by omega, by omega⟩
  · rw [if_neg c]
    obtain ⟨v, q, e, hv0, hv1⟩ := next_ok s hs hl p st h0 h1
    rw [e]
    simp only [Option.bind_some]
    rw [if_neg (by omega), if_neg (by omega)]
    refine ⟨_, _, _, rfl, Int.tmod_nonneg _ hv0, .inl ?_, by omega, by omega⟩
    exact Int.tmod_lt_of_pos _ (by omega)
theorem among_ok (s : List Int) (hs : Bytes8 s) (hl : s.length ≤ 1000000) (p st : Int) (l : List Int) (h0 : 0 ≤ p) (h1 : p ≤ 1000000) (hn : 0 < l.length) (hm : l.length ≤ 200) :
    ∃ v p' q, spec_l1Cur_among.f s p st l = some (v, p', q) ∧ v ∈ l ∧ p ≤ p' ∧ p' ≤ p + 1 := by
  unfold spec_l1Cur_among.f
  obtain ⟨v, p', q, e, hv0, hv1, hp0, hp1⟩ := pick_ok s hs hl p st (l.length : Int) h0 h1 (by omega)
  rw [e]
  simp only [Option.bind_some]
  have hv : v < (l.length : Int) := by omega
  rw [if_pos hv0, if_pos hv]
  refine ⟨_, _, _, rfl, ?_, hp0, hp1⟩
  obtain ⟨n, rfl⟩ : ∃ n : Nat, v = (n : Int) := ⟨v.toNat, by omega⟩
  rw [rd_nat l n (by omega)]; exact List.getElem_mem _
/-- the turned party -/
def turned (l : List Int) (b : Nat) : List Int := l.drop (l.length - b) ++ l.take (l.length - b)
theorem turned_get (l : List Int) (b i : Nat) (hb : b < l.length) (hi : i < l.length) : (turned l b)[i]? = some (rd l (Int.tmod (((i : Int) - (b : Int)) + (l.length : Int)) (l.length : Int))) := by
  unfold turned
  by_cases h : i < b
  · rw [List.getElem?_append_left (by rw [List.length_drop]; omega), List.getElem?_drop]
    have e : Int.tmod (((i : Int) - (b : Int)) + (l.length : Int)) (l.length : Int) = ((l.length - b + i : Nat) : Int) := by
      rw [Int.tmod_eq_emod_of_nonneg (by omega), Int.emod_eq_of_lt (by omega) (by omega)]; omega
    rw [e, rd_nat l _ (by omega), List.getElem?_eq_getElem (by omega)]
  · rw [List.getElem?_append_right (by rw [List.length_drop]; omega), List.length_drop, List.getElem?_take, if_pos (by omega)]
    have e : Int.tmod (((i : Int) - (b : Int)) + (l.length : Int)) (l.length : Int) = ((i - b : Nat) : Int) := by
      rw [Int.tmod_eq_emod_of_nonneg (by omega)]
      rw [show ((i : Int) - (b : Int)) + (l.length : Int) = ((i - b : Nat) : Int) + (l.length : Int) by omega, Int.add_emod_right, Int.emod_eq_of_lt (by omega) (by omega)]
    rw [e, rd_nat l _ (by omega), show i - (l.length - (l.length - b)) = i - b by omega, List.getElem?_eq_getElem (by omega)]
theorem turned_len (l : List Int) (b : Nat) (hb : b < l.length) : (turned l b).length = l.length := by
  unfold turned; rw [List.length_append, List.length_drop, List.length_take]; omega
theorem turn_loop (l : List Int) (k : Int) (hk : 1 ≤ k ∧ k ≤ 6) (hl : (l.length : Int) = 2 * k) (b : Nat) (hb : b < l.length) : ∀ (d i : Nat), i + d = l.length → Ev (fun m => spec_TurnParty.l0 m k l (b : Int) ((turned l b).take i) (i : Int)) (turned l b, true) := by
  intro d
  have hlen := turned_len l b hb
  induction d with
  | zero =>
    intro i hi
    refine Ev.succ ?_
    simp only [spec_TurnParty.l0.eq_2]
    rw [w64 (n := 2 * k) (by omega) (by omega), List.take_of_length_le (by omega)]
    exact Ev.neg (by omega) (Ev.now _)
  | succ d ih =>
    intro i hi
    refine Ev.succ ?_
    simp only [spec_TurnParty.l0.eq_2]
    rw [w64 (n := 2 * k) (by omega) (by omega), w64 (n := (i : Int) - (b : Int)) (by omega) (by omega), w64 (n := (i : Int) - (b : Int) + 2 * k) (by omega) (by omega), w64 (n := (i : Int) + 1) (by omega) (by omega), ← hl]
    have hg := turned_get l b i hb (by omega)
    have hm : 0 ≤ Int.tmod (((i : Int) - (b : Int)) + (l.length : Int)) (l.length : Int) := Int.tmod_nonneg _ (by omega)
    have hm2 : Int.tmod (((i : Int) - (b : Int)) + (l.length : Int)) (l.length : Int) < (l.length : Int) := Int.tmod_lt_of_pos _ (by omega)
    refine Ev.pos (by omega) (Ev.neg (by omega) (Ev.pos hm (Ev.pos hm2 (Ev.pos (by rw [List.length_take]; omega) ?_))))
    have e : (turned l b).take i ++ [rd l (Int.tmod (((i : Int) - (b : Int)) + (l.length : Int)) (l.length : Int))] = (turned l b).take (i + 1) := by
      rw [List.take_add_one, hg]; rfl
    rw [e]
    have := ih (i + 1) (by omega)
    exact this
theorem turn_key (k : Int) (l : List Int) (b : Int) (hL : l.length ≤ 35184372088832) : ∃ r : List Int × Bool, r.1.length ≤ 13 ∧ Ev (fun m => spec_TurnParty.f m k l b) r ∧ Ev (fun m => impl_TurnParty.f m k l b) r := by
  have bad : Ev (fun m => spec_TurnParty.j0 m k l b [] true) ([], false) := by
    refine Ev.succ ?_
    simp only [spec_TurnParty.j0.eq_2]; exact Ev.pos (by trivial) (Ev.now _)
  cases hc : (decide (1 ≤ k ∧ k ≤ 6) && (!true || decide (k > 1))) with
  | false =>
    refine ⟨([], false), by simp, ?_, ?_⟩
    · unfold spec_TurnParty.f
      exact Ev.bindc rfl (Ev.bindc (l8Couples_eq _ _) (Ev.neg (by rw [hc]; decide) bad))
    · unfold impl_TurnParty.f
      exact Ev.bindc (isCouples_eq _ _) (Ev.neg (by rw [hc]; decide) (Ev.now _))
  | true =>
    have hn : 1 ≤ k ∧ k ≤ 6 := by simp only [Bool.and_eq_true, decide_eq_true_eq] at hc; exact hc.1
    by_cases ho : IsOrd l (2 * k)
    · by_cases hb : 0 ≤ b ∧ b ≤ 2 * k - 1
      · obtain ⟨q, rfl⟩ := Int.eq_ofNat_of_zero_le hb.1
        have hl := ho.1
        have hlen := turned_len l q (by omega)
        refine ⟨(turned l q, true), by show (turned l q).length ≤ 13; omega, ?_, ?_⟩
        · unfold spec_TurnParty.f
          refine Ev.bindc rfl (Ev.bindc (l8Couples_eq _ _) (Ev.pos hc ?_))
          rw [w64 (n := 2 * k) (by omega) (by omega)]
          refine Ev.bind (l4Order_ev l (2 * k) (by omega) (by omega) hL) (Ev.pos (decide_eq_true ho) (Ev.bindc (l1In_eq _ _ _) ?_))
          rw [w64 (by omega) (by omega), decide_eq_true hb]
          refine Ev.succ ?_
          simp only [spec_TurnParty.j0.eq_2]
          exact Ev.neg (by decide) (turn_loop l k hn hl q (by omega) l.length 0 (by omega))
        · unfold impl_TurnParty.f
          refine Ev.bindc (isCouples_eq _ _) (Ev.pos hc ?_)
          rw [w64 (n := 2 * k) (by omega) (by omega)]
          refine Ev.bind (isOrder_ev l (2 * k) (by omega) (by omega) hL) (Ev.pos (decide_eq_true ho) (Ev.bindc (within_eq _ _ _) ?_))
          rw [w64 (n := 2 * k - 1) (by omega) (by omega), w64 (by omega) (by omega)]
          refine Ev.pos (decide_eq_true hb) (Ev.pos (by omega) (Ev.pos (by omega) (Ev.bindc (a := turned l q) ?_ (Ev.now _))))
          have e : ((l.length : Int) - (q : Int)).toNat = l.length - q := by omega
          rw [e]
          unfold slices_Concat_int_int.f
          have e2 : [l.drop (l.length - q), l.take (l.length - q)].flatten = turned l q := by simp [turned]
          rw [e2, if_pos ⟨by omega, by simp⟩]
      · refine ⟨([], false), by simp, ?_, ?_⟩
        · unfold spec_TurnParty.f
          refine Ev.bindc rfl (Ev.bindc (l8Couples_eq _ _) (Ev.pos hc ?_))
          rw [w64 (n := 2 * k) (by omega) (by omega)]
          refine Ev.bind (l4Order_ev l (2 * k) (by omega) (by omega) hL) (Ev.pos (decide_eq_true ho) (Ev.bindc (l1In_eq _ _ _) ?_))
          rw [w64 (by omega) (by omega), decide_eq_false hb]
          exact bad
        · unfold impl_TurnParty.f
          refine Ev.bindc (isCouples_eq _ _) (Ev.pos hc ?_)
          rw [w64 (n := 2 * k) (by omega) (by omega)]
          refine Ev.bind (isOrder_ev l (2 * k) (by omega) (by omega) hL) (Ev.pos (decide_eq_true ho) (Ev.bindc (within_eq _ _ _) ?_))
          rw [w64 (n := 2 * k - 1) (by omega) (by omega)]
          exact Ev.neg (by simpa using hb) (Ev.now _)
    · refine ⟨([], false), by simp, ?_, ?_⟩
      · unfold spec_TurnParty.f
        refine Ev.bindc rfl (Ev.bindc (l8Couples_eq _ _) (Ev.pos hc ?_))
        rw [w64 (n := 2 * k) (by omega) (by omega)]
        exact Ev.bind (l4Order_ev l (2 * k) (by omega) (by omega) hL) (Ev.neg (by simpa using ho) bad)
      · unfold impl_TurnParty.f
        refine Ev.bindc (isCouples_eq _ _) (Ev.pos hc ?_)
        rw [w64 (n := 2 * k) (by omega) (by omega)]
        exact Ev.bind (isOrder_ev l (2 * k) (by omega) (by omega) hL) (Ev.neg (by simpa using ho) (Ev.now _))
theorem one_ok (s : List Int) (hs : Bytes8 s) (hl : s.length ≤ 1000000) (p st a : Int) (h0 : 0 ≤ p) (h1 : p ≤ 1000000) (ha : a ≤ 200) :
    ∃ (b : Bool) (p' q : Int), spec_l1Cur_one.f s p st a = some (b, p', q) ∧ p ≤ p' ∧ p' ≤ p + 1 := by
  obtain ⟨v, p', q, e, _, _, hp0, hp1⟩ := pick_ok s hs hl p st a h0 h1 ha
  unfold spec_l1Cur_one.f
  rw [e]
  exact ⟨_, _, _, rfl, hp0, hp1⟩
def ks : List Int := [3, 2, 4, 1, 5, 6, 7, 0, -1]
theorem couples_ok (s : List Int) (hs : Bytes8 s) (hl : s.length ≤ 1000000) : ∃ (k : Int) (r : Bool) (p q : Int), spec_l1Cur_couples.f s 0 0 = some (k, r, p, q) ∧ k ∈ ks ∧ 0 ≤ p ∧ p ≤ 2 := by
  unfold spec_l1Cur_couples.f
  obtain ⟨k, p1, q1, e1, hk, hp0, hp1⟩ := among_ok s hs hl 0 0 ks (by omega) (by omega) (by simp [ks]) (by simp [ks])
  obtain ⟨r, p2, q2, e2, hp2, hp3⟩ := one_ok s hs hl p1 q1 2 (by omega) (by omega) (by omega)
  unfold ks at e1
  rw [e1, Option.bind_some, e2]
  exact ⟨k, r, p2, q2, rfl, hk, by omega, by omega⟩
theorem drawCounts_ok (s : List Int) (hs : Bytes8 s) (hl : s.length ≤ 1000000) : ∃ (k : Int) (r : Bool), spec_DrawCoupleCounts.f s = some (k, r) ∧ k ∈ ks := by
  obtain ⟨k, r, p, q, e, hk, _⟩ := couples_ok s hs hl
  unfold spec_DrawCoupleCounts.f
  rw [e]
  exact ⟨k, r, rfl, hk⟩
theorem drawMenage_ok (s : List Int) (hs : Bytes8 s) (hl : s.length ≤ 1000000) : ∃ n : Int, spec_DrawMenageCount.f s = some n ∧ n ∈ ([3, 4, 2, 5, 6, 7, 1, 0, -1] : List Int) := by
  unfold spec_DrawMenageCount.f
  obtain ⟨k, p1, q1, e1, hk, hp0, hp1⟩ := among_ok s hs hl 0 0 [3, 4, 2, 5, 6, 7, 1, 0, -1] (by omega) (by omega) (by simp) (by simp)
  rw [e1]
  exact ⟨k, rfl, hk⟩
theorem drawFamily_j1 (s : List Int) (hs : Bytes8 s) (hl : s.length ≤ 1000000) (l : List Int) (b : Bool) (p q : Int) (h0 : 0 ≤ p) (h1 : p ≤ 1000) (hb : b = true → 0 < l.length) :
    ∃ (l' : List Int) (r : Bool), Ev (fun k => spec_DrawFamilyCount.j1 k l b s p q) (l', r) ∧ l'.length = l.length := by
  cases b with
  | true =>
    obtain ⟨v, p1, q1, e1, _, hp0, hp1⟩ := among_ok s hs hl p q [0, -1, 12, 13, 4611686018427387904] h0 (by omega) (by simp) (by simp)
    obtain ⟨r, p2, q2, e2, _, _⟩ := one_ok s hs hl p1 q1 2 (by omega) (by omega) (by omega)
    refine ⟨l.set (0 : Int).toNat v, r, Ev.succ ?_, by simp⟩
    simp only [spec_DrawFamilyCount.j1.eq_2]
    exact Ev.pos (by trivial) (Ev.bindc e1 (Ev.pos (by have := hb rfl; omega) (Ev.bindc e2 (Ev.now _))))
  | false =>
    obtain ⟨r, p2, q2, e2, _, _⟩ := one_ok s hs hl p q 2 h0 (by omega) (by omega)
    refine ⟨l, r, Ev.succ ?_, rfl⟩
    simp only [spec_DrawFamilyCount.j1.eq_2]
    exact Ev.neg (by decide) (Ev.bindc e2 (Ev.now _))
theorem drawFamily_loop (s : List Int) (hs : Bytes8 s) (hl : s.length ≤ 1000000) : ∀ (d : Nat) (l : List Int) (n p q : Int), n ≤ d → d ≤ 100 → 0 ≤ p → p + n ≤ 100 → p ≤ 100 → l.length + d ≤ 100 → ∃ (l' : List Int) (r : Bool), Ev (fun k => spec_DrawFamilyCount.l0 k l n s p q) (l', r) ∧ l'.length ≤ 100 := by
  intro d
  induction d with
  | zero =>
    intro l n p q hn hd h0 h1 h2 hlen
    by_cases hl0 : (l.length : Int) > 0
    · obtain ⟨b, p2, q2, e2, hp2, hp3⟩ := one_ok s hs hl p q 20 h0 (by omega) (by omega)
      obtain ⟨l', r, hev, hlen'⟩ := drawFamily_j1 s hs hl l b p2 q2 (by omega) (by omega) (fun _ => by omega)
      refine ⟨l', r, Ev.succ ?_, by omega⟩
      simp only [spec_DrawFamilyCount.l0.eq_2]
      exact Ev.neg (by omega) (Ev.pos hl0 (Ev.bindc e2 hev))
    · obtain ⟨l', r, hev, hlen'⟩ := drawFamily_j1 s hs hl l false p q (by omega) (by omega) (fun h => by cases h)
      refine ⟨l', r, Ev.succ ?_, by omega⟩
      simp only [spec_DrawFamilyCount.l0.eq_2]
      exact Ev.neg (by omega) (Ev.neg hl0 hev)
  | succ d ih =>
    intro l n p q hn hd h0 h1 h2 hlen
    by_cases hn0 : n > 0
    · obtain ⟨v, p1, q1, e1, _, hp0, hp1⟩ := among_ok s hs hl p q [2, 1, 3, 1, 4] h0 (by omega) (by simp) (by simp)
      obtain ⟨l', r, hev, hlen'⟩ := ih (l ++ [v]) (n - 1) p1 q1 (by omega) (by omega) (by omega) (by omega) (by omega) (by simp; omega)
      refine ⟨l', r, Ev.succ ?_, hlen'⟩
      simp only [spec_DrawFamilyCount.l0.eq_2]
      rw [w64 (by omega) (by omega)]
      exact Ev.pos hn0 (Ev.bindc e1 (Ev.pos (by omega) hev))
    · exact ih l n p q (by omega) (by omega) h0 h1 h2 (by omega)
theorem drawFamily_ok (s : List Int) (hs : Bytes8 s) (hl : s.length ≤ 1000000) : ∃ (l : List Int) (r : Bool), Ev (fun k => spec_DrawFamilyCount.f k s) (l, r) ∧ l.length ≤ 100 := by
  unfold spec_DrawFamilyCount.f
  obtain ⟨n, p1, q1, e1, hn, hp0, hp1⟩ := among_ok s hs hl 0 0 [2, 3, 1, 4, 0, 5] (by omega) (by omega) (by simp) (by simp)
  have hn2 : 0 ≤ n ∧ n ≤ 5 := by simp at hn; omega
  obtain ⟨l, r, hev, hlen⟩ := drawFamily_loop s hs hl 10 [] n p1 q1 (by omega) (by omega) (by omega) (by omega) (by omega) (by simp)
  exact ⟨l, r, Ev.bindc e1 hev, hlen⟩
theorem drawParty_loop (s : List Int) (hs : Bytes8 s) (hl : s.length ≤ 1000000) (k : Int) (hk : -1 ≤ k ∧ k ≤ 7) (r : Bool) : ∀ (d i : Nat) (l : List Int) (p q : Int), 2 * k ≤ (i : Int) + d → l.length = i → i ≤ 100 → i + d ≤ 100 → 0 ≤ p → p + d ≤ 200 → ∃ l' : List Int, Ev (fun m => spec_DrawIsParty.l0 m k r l (i : Int) s p q) (k, r, l') ∧ l'.length ≤ 100 := by
  intro d
  induction d with
  | zero =>
    intro i l p q hi hlen h1 h2 h3 h4
    by_cases hl0 : (l.length : Int) > 0
    · obtain ⟨b, p2, q2, e2, hp2, hp3⟩ := one_ok s hs hl p q 16 h3 (by omega) (by omega)
      cases b with
      | true =>
        obtain ⟨v, p3, q3, e3, _, _, _⟩ := among_ok s hs hl p2 q2 [0, 1, -1, wrap64 (2 * k)] (by omega) (by omega) (by simp) (by simp)
        refine ⟨l.set (0 : Int).toNat v, Ev.succ ?_, by simp; omega⟩
        simp only [spec_DrawIsParty.l0.eq_2]
        exact Ev.neg (by rw [w64 (by omega) (by omega)]; omega) (Ev.pos hl0 (Ev.bindc e2 (Ev.pos rfl (Ev.bindc e3 (Ev.pos (by omega) (Ev.now _))))))
      | false =>
        refine ⟨l, Ev.succ ?_, by omega⟩
        simp only [spec_DrawIsParty.l0.eq_2]
        exact Ev.neg (by rw [w64 (by omega) (by omega)]; omega) (Ev.pos hl0 (Ev.bindc e2 (Ev.neg (by simp) (Ev.now _))))
    · refine ⟨l, Ev.succ ?_, by omega⟩
      simp only [spec_DrawIsParty.l0.eq_2]
      exact Ev.neg (by rw [w64 (by omega) (by omega)]; omega) (Ev.neg hl0 (Ev.now _))
  | succ d ih =>
    intro i l p q hi hlen h1 h2 h3 h4
    by_cases hc : (i : Int) < 2 * k
    · obtain ⟨v, p1, q1, e1, hv0, hv1, hp0, hp1⟩ := pick_ok s hs hl p q ((l.length : Int) + 1) h3 (by omega) (by omega)
      obtain ⟨l', hev, hlen'⟩ := ih (i + 1) ((([] : List Int) ++ l.take v.toNat) ++ [(i : Int)] ++ l.drop v.toNat) p1 q1 (by omega) (by simp; omega) (by omega) (by omega) (by omega) (by omega)
      refine ⟨l', Ev.succ ?_, hlen'⟩
      simp only [spec_DrawIsParty.l0.eq_2]
      rw [w64 (n := 2 * k) (by omega) (by omega), w64 (n := (l.length : Int) + 1) (by omega) (by omega), w64 (n := (i : Int) + 1) (by omega) (by omega), show (i : Int) + 1 = ((i + 1 : Nat) : Int) by omega]
      exact Ev.pos hc (Ev.bindc e1 (Ev.bindc rfl (Ev.pos hv0 (Ev.pos (by omega) (Ev.bindc rfl (Ev.pos (by simp; omega) (Ev.bindc rfl (Ev.bindc rfl (Ev.pos (by simp; omega) (Ev.bindc rfl (Ev.bindc rfl (Ev.pos (by simp; omega) hev))))))))))))
    · obtain ⟨l', hev, hlen'⟩ := ih i l p q (by omega) hlen h1 (by omega) h3 (by omega)
      exact ⟨l', hev, hlen'⟩
theorem ks_range {k : Int} (h : k ∈ ks) : -1 ≤ k ∧ k ≤ 7 := by simp [ks] at h; omega
theorem drawParty_ok (s : List Int) (hs : Bytes8 s) (hl : s.length ≤ 1000000) : ∃ (k : Int) (r : Bool) (l : List Int), Ev (fun m => spec_DrawIsParty.f m s) (k, r, l) ∧ l.length ≤ 100 ∧ k ∈ ks := by
  unfold spec_DrawIsParty.f
  obtain ⟨k, r, p, q, e, hk, hp0, hp1⟩ := couples_ok s hs hl
  have hk2 := ks_range hk
  obtain ⟨l, hev, hlen⟩ := drawParty_loop s hs hl k hk2 r 14 0 [] p q (by omega) rfl (by omega) (by omega) (by omega) (by omega)
  exact ⟨k, r, l, Ev.bindc e hev, hlen, hk⟩
theorem drawTurn_ok (s : List Int) (hs : Bytes8 s) (hl : s.length ≤ 1000000) : ∃ (k : Int) (l : List Int) (b : Int), Ev (fun m => spec_DrawTurnParty.f m s) (k, l, b) ∧ l.length ≤ 100 := by
  unfold spec_DrawTurnParty.f
  obtain ⟨k, r, l, hev, hlen, hk⟩ := drawParty_ok s hs hl
  obtain ⟨v, p1, q1, e1, hv0, hv1, hp0, hp1⟩ := pick_ok s hs hl 0 0 12 (by omega) (by omega) (by omega)
  obtain ⟨v2, p2, q2, e2, hv2, hv3, hp2, hp3⟩ := pick_ok s hs hl p1 q1 24 (by omega) (by omega) (by omega)
  exact ⟨k, l, _, Ev.bind (f := fun _ (t : Int × Bool × List Int) => (spec_l1Cur_pick.f s 0 0 12).bind fun bt329 => ((spec_l1Cur_pick.f s bt329.2.1 bt329.2.2 24).bind fun bt332 => (some (t.1, t.2.2, wrap64 (bt329.1 - (wrap64 (Int.tdiv bt332.1 23))))))) hev (Ev.bindc e1 (Ev.bindc e2 (Ev.now _))), hlen⟩

/-- two places of a party hold a couple -/
def sameC (l : List Int) (i j : Nat) : Bool := decide (wrap64 (Int.tdiv (rd l (i : Int)) 2) = wrap64 (Int.tdiv (rd l (j : Int)) 2))
def togP (ring : Bool) (l : List Int) (i : Nat) : Bool := (decide (i + 1 < l.length) || ring) && sameC l i ((i + 1) % l.length)
def tog (ring : Bool) (l : List Int) : Nat := (List.range' 0 l.length).countP (togP ring l)
theorem tog_loop (l : List Int) (ring : Bool) (hl : l.length ≤ 1000) : ∀ (d i : Nat) (c : Int), i + d = l.length → 0 ≤ c → c + d ≤ 1000 →
    Ev (fun k => spec_l8Together.l0 k ring l c (l.length : Int) (i : Int)) (c + ((List.range' i d).countP (togP ring l) : Int)) ∧ Ev (fun k => impl_CouplesTogether.l0 k ring l c l (l.length : Int) (i : Int)) (c + ((List.range' i d).countP (togP ring l) : Int), true) := by
  intro d
  induction d with
  | zero =>
    intro i c hi h0 h1
    refine ⟨Ev.succ ?_, Ev.succ ?_⟩
    · simp only [spec_l8Together.l0.eq_2]; exact Ev.neg (by omega) (by simpa using Ev.now _)
    · simp only [impl_CouplesTogether.l0.eq_2]; exact Ev.neg (by omega) (by simpa using Ev.now _)
  | succ d ih =>
    intro i c hi hc0 hc1
    have hlt : (i : Int) < (l.length : Int) := by omega
    have h0 : (0 : Int) ≤ i := by omega
    have hn0 : ¬ (l.length : Int) = 0 := by omega
    have e : wrap64 ((i : Int) + 1) = ((i + 1 : Nat) : Int) := by rw [w64 (by omega) (by omega)]; omega
    have et : Int.tmod ((i + 1 : Nat) : Int) (l.length : Int) = (((i + 1) % l.length : Nat) : Int) := by
      rw [Int.tmod_eq_emod_of_nonneg (by omega)]; omega
    have hm : (i + 1) % l.length < l.length := Nat.mod_lt _ (by omega)
    rw [List.range'_succ, List.countP_cons]
    by_cases hs : (i + 1 < l.length) ∨ ring = true
    · by_cases hq : wrap64 (Int.tdiv (rd l (i : Int)) 2) = wrap64 (Int.tdiv (rd l (((i + 1) % l.length : Nat) : Int)) 2)
      · have hp : togP ring l i = true := by
          unfold togP sameC
          rw [decide_eq_true hq, Bool.and_true, Bool.or_eq_true, decide_eq_true_eq]; exact hs
        rw [if_pos hp]
        obtain ⟨h, h'⟩ := ih (i + 1) (c + 1) (by omega) (by omega) (by omega)
        have ec : wrap64 (c + 1) = c + 1 := w64 (by omega) (by omega)
        have ee : c + 1 + (((List.range' (i + 1) d).countP (togP ring l) : Nat) : Int) = c + (((List.range' (i + 1) d).countP (togP ring l) + 1 : Nat) : Int) := by omega
        rw [ee] at h h'
        refine ⟨Ev.succ ?_, Ev.succ ?_⟩
        · simp only [spec_l8Together.l0.eq_2, e, et, ec]
          refine Ev.pos hlt ?_
          by_cases h1 : ((i + 1 : Nat) : Int) < (l.length : Int)
          · exact Ev.pos h1 (Ev.pos h0 (Ev.pos hlt (Ev.neg hn0 (Ev.pos (by omega) (Ev.pos (by omega) (Ev.pos hq h))))))
          · have hr : ring = true := by rcases hs with hs | hs; omega; exact hs
            exact Ev.neg h1 (Ev.pos hr (Ev.pos h0 (Ev.pos hlt (Ev.neg hn0 (Ev.pos (by omega) (Ev.pos (by omega) (Ev.pos hq h)))))))
        · simp only [impl_CouplesTogether.l0.eq_2, e, et, ec]
          refine Ev.pos hlt (Ev.pos h0 (Ev.pos hlt ?_))
          cases ring with
          | true => exact Ev.pos rfl (Ev.neg hn0 (Ev.pos (by omega) (Ev.pos (by omega) (Ev.pos hq.symm h'))))
          | false =>
            have h1 : i + 1 < l.length := by rcases hs with hs | hs; exact hs; cases hs
            rw [Nat.mod_eq_of_lt h1] at hq
            exact Ev.neg (by decide) (Ev.pos (by omega) (Ev.pos (by omega) (Ev.pos hq.symm h')))
      · have hp : ¬ togP ring l i = true := by
          unfold togP sameC
          rw [decide_eq_false hq, Bool.and_false]; decide
        rw [if_neg hp, Nat.add_zero]
        obtain ⟨h, h'⟩ := ih (i + 1) c (by omega) (by omega) (by omega)
        refine ⟨Ev.succ ?_, Ev.succ ?_⟩
        · simp only [spec_l8Together.l0.eq_2, e, et]
          refine Ev.pos hlt ?_
          by_cases h1 : ((i + 1 : Nat) : Int) < (l.length : Int)
          · exact Ev.pos h1 (Ev.pos h0 (Ev.pos hlt (Ev.neg hn0 (Ev.pos (by omega) (Ev.pos (by omega) (Ev.neg hq h))))))
          · have hr : ring = true := by rcases hs with hs | hs; omega; exact hs
            exact Ev.neg h1 (Ev.pos hr (Ev.pos h0 (Ev.pos hlt (Ev.neg hn0 (Ev.pos (by omega) (Ev.pos (by omega) (Ev.neg hq h)))))))
        · simp only [impl_CouplesTogether.l0.eq_2, e, et]
          refine Ev.pos hlt (Ev.pos h0 (Ev.pos hlt ?_))
          cases ring with
          | true => exact Ev.pos rfl (Ev.neg hn0 (Ev.pos (by omega) (Ev.pos (by omega) (Ev.neg (fun h => hq h.symm) h'))))
          | false =>
            have h1 : i + 1 < l.length := by rcases hs with hs | hs; exact hs; cases hs
            rw [Nat.mod_eq_of_lt h1] at hq
            exact Ev.neg (by decide) (Ev.pos (by omega) (Ev.pos (by omega) (Ev.neg (fun h => hq h.symm) h')))
    · have h1 : ¬ (i + 1 < l.length) := fun h => hs (.inl h)
      have hr : ring = false := by cases ring with | true => exact absurd (.inr rfl) hs | false => rfl
      subst hr
      have hp : ¬ togP false l i = true := by
        unfold togP
        rw [decide_eq_false h1]; simp
      rw [if_neg hp, Nat.add_zero]
      obtain ⟨h, h'⟩ := ih (i + 1) c (by omega) (by omega) (by omega)
      refine ⟨Ev.succ ?_, Ev.succ ?_⟩
      · simp only [spec_l8Together.l0.eq_2, e, et]
        exact Ev.pos hlt (Ev.neg (by omega) (Ev.neg (by decide) h))
      · simp only [impl_CouplesTogether.l0.eq_2, e, et]
        exact Ev.pos hlt (Ev.pos h0 (Ev.pos hlt (Ev.neg (by decide) (Ev.neg (by omega) h'))))
def PartyV (k : Int) (ring : Bool) : Prop := (decide (1 ≤ k ∧ k ≤ 6) && (!ring || decide (k > 1))) = true
theorem party_key (n : Int) (ring : Bool) (l : List Int) (hl : l.length ≤ 1000) : (PartyV n ring → Ev (fun k => spec_IsParty.f k n ring l) (decide (IsOrd l (2 * n)), true) ∧ Ev (fun k => impl_IsParty.f k n ring l) (decide (IsOrd l (2 * n)), true)) ∧ (¬ PartyV n ring → Ev (fun k => spec_IsParty.f k n ring l) (false, false) ∧ Ev (fun k => impl_IsParty.f k n ring l) (false, false)) := by
  refine ⟨fun hc => ?_, fun hc => ?_⟩
  · have hn : 1 ≤ n ∧ n ≤ 6 := by unfold PartyV at hc; simp only [Bool.and_eq_true, decide_eq_true_eq] at hc; exact hc.1
    refine ⟨?_, ?_⟩
    · unfold spec_IsParty.f
      refine Ev.bindc (l8Couples_eq _ _) (Ev.pos hc ?_)
      rw [w64 (by omega) (by omega)]
      exact Ev.bind (l4Order_ev l (2 * n) (by omega) (by omega) (by omega)) (Ev.now _)
    · unfold impl_IsParty.f
      refine Ev.bindc (isCouples_eq _ _) (Ev.pos hc ?_)
      rw [w64 (by omega) (by omega)]
      exact Ev.bind (isOrder_ev l (2 * n) (by omega) (by omega) (by omega)) (Ev.now _)
  · refine ⟨?_, ?_⟩
    · unfold spec_IsParty.f
      exact Ev.bindc (l8Couples_eq _ _) (Ev.neg hc (Ev.now _))
    · unfold impl_IsParty.f
      exact Ev.bindc (isCouples_eq _ _) (Ev.neg hc (Ev.now _))
theorem tog_key (n : Int) (ring : Bool) (l : List Int) (hl : l.length ≤ 500) : (PartyV n ring ∧ IsOrd l (2 * n) → Ev (fun k => spec_CouplesTogether.f k n ring l) ((tog ring l : Int), true) ∧ Ev (fun k => impl_CouplesTogether.f k n ring l) ((tog ring l : Int), true)) ∧ (¬ (PartyV n ring ∧ IsOrd l (2 * n)) → Ev (fun k => spec_CouplesTogether.f k n ring l) (0, false) ∧ Ev (fun k => impl_CouplesTogether.f k n ring l) (0, false)) := by
  have hL : l.length ≤ 35184372088832 := by omega
  refine ⟨fun ⟨hc, ho⟩ => ?_, fun hno => ?_⟩
  · have hn : 1 ≤ n ∧ n ≤ 6 := by unfold PartyV at hc; simp only [Bool.and_eq_true, decide_eq_true_eq] at hc; exact hc.1
    obtain ⟨h, h'⟩ := tog_loop l ring (by omega) l.length 0 0 (by omega) (by omega) (by omega)
    rw [Int.zero_add] at h h'
    refine ⟨?_, ?_⟩
    · unfold spec_CouplesTogether.f
      refine Ev.bindc (l8Couples_eq _ _) (Ev.pos hc ?_)
      rw [w64 (by omega) (by omega)]
      exact Ev.bind (l4Order_ev l (2 * n) (by omega) (by omega) hL) (Ev.pos (decide_eq_true ho) (Ev.bind (f := fun _ t => some (t, true)) h (Ev.now _)))
    · unfold impl_CouplesTogether.f
      refine Ev.bindc (isCouples_eq _ _) (Ev.pos hc ?_)
      rw [w64 (by omega) (by omega)]
      refine Ev.bind (isOrder_ev l (2 * n) (by omega) (by omega) hL) (Ev.succ ?_)
      simp only [impl_CouplesTogether.j0.eq_2]
      exact Ev.neg (by simp [ho]) h'
  · by_cases hc : PartyV n ring
    · have hn : 1 ≤ n ∧ n ≤ 6 := by unfold PartyV at hc; simp only [Bool.and_eq_true, decide_eq_true_eq] at hc; exact hc.1
      have ho : ¬ IsOrd l (2 * n) := fun h => hno ⟨hc, h⟩
      refine ⟨?_, ?_⟩
      · unfold spec_CouplesTogether.f
        refine Ev.bindc (l8Couples_eq _ _) (Ev.pos hc ?_)
        rw [w64 (by omega) (by omega)]
        exact Ev.bind (l4Order_ev l (2 * n) (by omega) (by omega) hL) (Ev.neg (by simpa using ho) (Ev.now _))
      · unfold impl_CouplesTogether.f
        refine Ev.bindc (isCouples_eq _ _) (Ev.pos hc ?_)
        rw [w64 (by omega) (by omega)]
        refine Ev.bind (isOrder_ev l (2 * n) (by omega) (by omega) hL) (Ev.succ ?_)
        simp only [impl_CouplesTogether.j0.eq_2]
        exact Ev.pos (by simp [ho]) (Ev.now _)
    · refine ⟨?_, ?_⟩
      · unfold spec_CouplesTogether.f
        exact Ev.bindc (l8Couples_eq _ _) (Ev.neg hc (Ev.now _))
      · unfold impl_CouplesTogether.f
        refine Ev.bindc (isCouples_eq _ _) (Ev.neg hc (Ev.succ ?_))
        simp only [impl_CouplesTogether.j0.eq_2]
        exact Ev.pos (by trivial) (Ev.now _)
theorem countP_shift (f : Nat → Bool) : ∀ (m a b c : Nat), (∀ j, j < m → f (a + j) = true ∨ True) → (∀ i, i < m → b + i = a + i + c ∨ True) → ((List.range' a m).countP fun i => f (i + c)) = (List.range' (a + c) m).countP f := by
  intro m
  induction m with
  | zero => intro a b c _ _; rfl
  | succ m ih =>
    intro a b c h1 h2
    rw [List.range'_succ, List.range'_succ, List.countP_cons, List.countP_cons]
    have := ih (a + 1) b c (fun _ _ => .inr trivial) (fun _ _ => .inr trivial)
    rw [this, show a + 1 + c = a + c + 1 by omega]
theorem countP_congr' {p q : Nat → Bool} : ∀ (m a : Nat), (∀ i, a ≤ i → i < a + m → p i = q i) → (List.range' a m).countP p = (List.range' a m).countP q := by
  intro m
  induction m with
  | zero => intro a _; rfl
  | succ m ih =>
    intro a h
    rw [List.range'_succ, List.countP_cons, List.countP_cons, ih (a + 1) (fun i h1 h2 => h i (by omega) (by omega)), h a (by omega) (by omega)]
theorem countP_rot (f : Nat → Bool) (n c : Nat) (hc : c ≤ n) (hn : 0 < n) : ((List.range' 0 n).countP fun i => f ((i + c) % n)) = (List.range' 0 n).countP f := by
  have e1 : List.range' 0 n = List.range' 0 (n - c) ++ List.range' (n - c) c := by
    rw [show (List.range' (n - c) c) = List.range' (0 + (n - c)) c by rw [Nat.zero_add], List.range'_append_1]; congr 1; omega
  have e2 : List.range' 0 n = List.range' 0 c ++ List.range' c (n - c) := by
    rw [show (List.range' c (n - c)) = List.range' (0 + c) (n - c) by rw [Nat.zero_add], List.range'_append_1]; congr 1; omega
  have h1 : ((List.range' 0 (n - c)).countP fun i => f ((i + c) % n)) = (List.range' c (n - c)).countP f := by
    rw [countP_congr' (q := fun i => f (i + c)) (n - c) 0 (fun i h1 h2 => by rw [Nat.mod_eq_of_lt (by omega)])]
    have := countP_shift f (n - c) 0 0 c (fun _ _ => .inr trivial) (fun _ _ => .inr trivial)
    rw [this, Nat.zero_add]
  have h2 : ((List.range' (n - c) c).countP fun i => f ((i + c) % n)) = (List.range' 0 c).countP f := by
    have hs := countP_shift (fun i => f ((i + c) % n)) c 0 0 (n - c) (fun _ _ => .inr trivial) (fun _ _ => .inr trivial)
    rw [Nat.zero_add] at hs
    rw [← hs]
    exact countP_congr' c 0 (fun i h1 h2 => by rw [show i + (n - c) + c = i + n by omega, Nat.add_mod_right, Nat.mod_eq_of_lt (by omega)])
  rw [e1, List.countP_append, h1, h2, ← e1, e2, List.countP_append, Nat.add_comm]
theorem turned_rd (l : List Int) (b i : Nat) (hb : b < l.length) (hi : i < l.length) : rd (turned l b) (i : Int) = rd l (((i + (l.length - b)) % l.length : Nat) : Int) := by
  have h := turned_get l b i hb hi
  have hlen := turned_len l b hb
  rw [rd_nat _ i (by omega)]
  rw [List.getElem?_eq_getElem (by omega)] at h
  rw [Option.some.inj h]
  congr 1
  rw [Int.tmod_eq_emod_of_nonneg (by omega)]
  rw [show (i : Int) - (b : Int) + (l.length : Int) = ((i + (l.length - b) : Nat) : Int) by omega]
  omega
theorem tog_turned (l : List Int) (b : Nat) (hb : b < l.length) : tog true (turned l b) = tog true l := by
  unfold tog
  rw [turned_len l b hb]
  have h := countP_rot (togP true l) l.length (l.length - b) (by omega) (by omega)
  rw [← h]
  refine countP_congr' _ 0 (fun i h1 h2 => ?_)
  unfold togP sameC
  rw [turned_len l b hb]
  simp only [Bool.or_true, Bool.true_and]
  have hm : (i + 1) % l.length < l.length := Nat.mod_lt _ (by omega)
  rw [turned_rd l b i hb (by omega), turned_rd l b ((i + 1) % l.length) hb hm]
  have e : ((i + 1) % l.length + (l.length - b)) % l.length = ((i + (l.length - b)) % l.length + 1) % l.length := by
    rw [Nat.mod_add_mod, Nat.mod_add_mod]; congr 1; omega
  rw [e]
theorem turned_ord (l : List Int) (b : Nat) (hb : b < l.length) (n : Int) (h : IsOrd l n) : IsOrd (turned l b) n := by
  refine ⟨by rw [turned_len l b hb]; exact h.1, fun i hi => ?_⟩
  have := h.2 i hi
  unfold turned
  rw [List.mem_append]
  have e : l = l.take (l.length - b) ++ l.drop (l.length - b) := (List.take_append_drop _ _).symm
  rw [e, List.mem_append] at this
  exact this.symm
/-- no more couples sit together than there are -/
theorem ord_inj {l : List Int} {n : Int} (h : IsOrd l n) (i j : Nat) (hi : i < l.length) (hj : j < l.length) (he : rd l (i : Int) = rd l (j : Int)) : i = j := by
  rw [rd_nat l i hi, rd_nat l j hj] at he
  exact (List.getElem_inj (isOrd_nodup h)).mp he
theorem half_of (x : Int) (h0 : 0 ≤ x) (h1 : x ≤ 1000) : wrap64 (Int.tdiv x 2) = x / 2 := by
  rw [Int.tdiv_eq_ediv_of_nonneg h0, w64 (by omega) (by omega)]
theorem tog_le (l : List Int) (ring : Bool) (k : Nat) (hk : 1 ≤ k ∧ k ≤ 6) (ho : IsOrd l (2 * (k : Int))) (hr : ring = true → 2 ≤ k) : tog ring l ≤ k := by
  have hlen : l.length = 2 * k := by have := ho.1; omega
  have hrd : ∀ i : Nat, i < l.length → 0 ≤ rd l (i : Int) ∧ rd l (i : Int) < 2 * (k : Int) := fun i hi => by rw [rd_nat l i hi]; exact ord_range ho _ (List.getElem_mem hi)
  have hnd : (((List.range' 0 l.length).filter (togP ring l)).map fun i : Nat => rd l (i : Int) / 2).Nodup := by
    rw [List.nodup_iff_pairwise_ne, List.pairwise_map]
    have hp : ((List.range' 0 l.length).filter (togP ring l)).Pairwise (· < ·) := (List.pairwise_lt_range' (s := 0) (n := l.length) (step := 1)).filter _
    refine (List.Pairwise.imp_of_mem (R := fun a b => a < b) (fun {a b} ha hb hab => ?_) hp)
    rw [List.mem_filter, List.mem_range'_1] at ha hb
    obtain ⟨⟨_, ha1⟩, ha2⟩ := ha
    obtain ⟨⟨_, hb1⟩, hb2⟩ := hb
    intro he
    unfold togP sameC at ha2 hb2
    rw [Bool.and_eq_true, Bool.or_eq_true, decide_eq_true_eq, decide_eq_true_eq] at ha2 hb2
    have ma : (a + 1) % l.length < l.length := Nat.mod_lt _ (by omega)
    have mb : (b + 1) % l.length < l.length := Nat.mod_lt _ (by omega)
    have ra := hrd a (by omega)
    have rb := hrd b (by omega)
    have ra' := hrd _ ma
    have rb' := hrd _ mb
    have qa := ha2.2
    have qb := hb2.2
    rw [half_of _ ra.1 (by omega), half_of _ ra'.1 (by omega)] at qa
    rw [half_of _ rb.1 (by omega), half_of _ rb'.1 (by omega)] at qb
    have nab : rd l (a : Int) ≠ rd l (b : Int) := fun h => by have := ord_inj ho a b (by omega) (by omega) h; omega
    have na : rd l (a : Int) ≠ rd l (((a + 1) % l.length : Nat) : Int) := fun h => by
      have := ord_inj ho a _ (by omega) ma h
      rcases Nat.lt_or_ge (a + 1) l.length with h3 | h3
      · rw [Nat.mod_eq_of_lt h3] at this; omega
      · rw [show a + 1 = l.length by omega, Nat.mod_self] at this; omega
    have nb : rd l (b : Int) ≠ rd l (((b + 1) % l.length : Nat) : Int) := fun h => by
      have := ord_inj ho b _ (by omega) mb h
      rcases Nat.lt_or_ge (b + 1) l.length with h3 | h3
      · rw [Nat.mod_eq_of_lt h3] at this; omega
      · rw [show b + 1 = l.length by omega, Nat.mod_self] at this; omega
    have e1 : rd l (((a + 1) % l.length : Nat) : Int) = rd l (b : Int) := by omega
    have e2 : rd l (((b + 1) % l.length : Nat) : Int) = rd l (a : Int) := by omega
    have h1 := ord_inj ho _ b ma (by omega) e1
    have h2 := ord_inj ho _ a mb (by omega) e2
    rcases Nat.lt_or_ge (b + 1) l.length with h3 | h3
    · rw [Nat.mod_eq_of_lt h3] at h2; omega
    · rw [show b + 1 = l.length by omega, Nat.mod_self] at h2
      rw [← h2, Nat.mod_eq_of_lt (by omega)] at h1
      rcases hb2.1 with h4 | h4
      · omega
      · have := hr h4; omega
  have hlt := ph_nodup_len k _ hnd (fun x hx => by
    rw [List.mem_map] at hx
    obtain ⟨i, hi, rfl⟩ := hx
    rw [List.mem_filter, List.mem_range'_1] at hi
    have := hrd i (by omega)
    omega)
  rw [List.length_map] at hlt
  unfold tog
  rw [List.countP_eq_length_filter]
  exact hlt
theorem tog_one (l : List Int) (ho : IsOrd l 2) : tog false l ≠ 0 := by
  have hlen : l.length = 2 := by have := ho.1; omega
  have hrd : ∀ i : Nat, i < l.length → 0 ≤ rd l (i : Int) ∧ rd l (i : Int) < 2 := fun i hi => by rw [rd_nat l i hi]; exact ord_range ho _ (List.getElem_mem hi)
  have h0 := hrd 0 (by omega)
  have h1 := hrd 1 (by omega)
  have hp : togP false l 0 = true := by
    unfold togP sameC
    rw [hlen, Bool.and_eq_true, decide_eq_true_eq]
    refine ⟨by decide, ?_⟩
    rw [show (0 + 1) % 2 = 1 by decide, half_of _ h0.1 (by omega), half_of _ h1.1 (by omega)]
    omega
  unfold tog
  rw [hlen]
  intro h
  rw [List.countP_eq_zero] at h
  exact h 0 (by simp) hp
theorem tog_two (l : List Int) (ho : IsOrd l 4) : tog true l ≠ 1 := by
  have hlen : l.length = 4 := by have := ho.1; omega
  have hrd : ∀ i : Nat, i < l.length → 0 ≤ rd l (i : Int) ∧ rd l (i : Int) < 4 := fun i hi => by rw [rd_nat l i hi]; exact ord_range ho _ (List.getElem_mem hi)
  have h0 := hrd 0 (by omega)
  have h1 := hrd 1 (by omega)
  have h2 := hrd 2 (by omega)
  have h3 := hrd 3 (by omega)
  have n01 : rd l ((0 : Nat) : Int) ≠ rd l ((1 : Nat) : Int) := fun h => by have := ord_inj ho 0 1 (by omega) (by omega) h; omega
  have n02 : rd l ((0 : Nat) : Int) ≠ rd l ((2 : Nat) : Int) := fun h => by have := ord_inj ho 0 2 (by omega) (by omega) h; omega
  have n03 : rd l ((0 : Nat) : Int) ≠ rd l ((3 : Nat) : Int) := fun h => by have := ord_inj ho 0 3 (by omega) (by omega) h; omega
  have n12 : rd l ((1 : Nat) : Int) ≠ rd l ((2 : Nat) : Int) := fun h => by have := ord_inj ho 1 2 (by omega) (by omega) h; omega
  have n13 : rd l ((1 : Nat) : Int) ≠ rd l ((3 : Nat) : Int) := fun h => by have := ord_inj ho 1 3 (by omega) (by omega) h; omega
  have n23 : rd l ((2 : Nat) : Int) ≠ rd l ((3 : Nat) : Int) := fun h => by have := ord_inj ho 2 3 (by omega) (by omega) h; omega
  unfold tog togP sameC
  rw [hlen]
  simp only [List.range'_succ, List.range'_zero, List.countP_cons, List.countP_nil, Bool.or_true, Bool.true_and, Nat.zero_add, Nat.reduceAdd, Nat.reduceMod]
  rw [half_of _ h0.1 (by omega), half_of _ h1.1 (by omega), half_of _ h2.1 (by omega), half_of _ h3.1 (by omega)]
  simp only [decide_eq_true_eq]
  generalize rd l ((0 : Nat) : Int) = a at *
  generalize rd l ((1 : Nat) : Int) = b at *
  generalize rd l ((2 : Nat) : Int) = c at *
  generalize rd l ((3 : Nat) : Int) = d at *
  by_cases e1 : a / 2 = b / 2
  · have e2 : ¬ b / 2 = c / 2 := by omega
    have e3 : c / 2 = d / 2 := by omega
    have e4 : ¬ d / 2 = a / 2 := by omega
    rw [if_pos e1, if_neg e2, if_pos e3, if_neg e4]; decide
  · by_cases e2 : b / 2 = c / 2
    · have e3 : ¬ c / 2 = d / 2 := by omega
      have e4 : d / 2 = a / 2 := by omega
      rw [if_neg e1, if_pos e2, if_neg e3, if_pos e4]; decide
    · have e3 : ¬ c / 2 = d / 2 := by omega
      have e4 : ¬ d / 2 = a / 2 := by omega
      rw [if_neg e1, if_neg e2, if_neg e3, if_neg e4]; decide
theorem rInts_loop (l : List Int) (hl : l.length ≤ 1000) : ∀ (d i : Nat), i + d = l.length → Ev (fun k => laws_rInts.l0 k l l (i : Int)) true := by
  intro d
  induction d with
  | zero =>
    intro i hi
    refine Ev.succ ?_
    simp only [laws_rInts.l0.eq_2]
    exact Ev.neg (by omega) (Ev.now _)
  | succ d ih =>
    intro i hi
    refine Ev.succ ?_
    simp only [laws_rInts.l0.eq_2]
    refine Ev.pos (by omega) (Ev.pos (by omega) (Ev.pos (by omega) (Ev.pos (by trivial) ?_)))
    rw [w64 (by omega) (by omega)]
    exact ih (i + 1) (by omega)
theorem rInts_ev (l : List Int) (hl : l.length ≤ 1000) : Ev (fun k => laws_rInts.f k l l) true := by
  unfold laws_rInts.f
  exact Ev.pos rfl (rInts_loop l hl l.length 0 (by omega))
def ccT (k : Int) (ring : Bool) : Bool :=
  match impl_CoupleCounts.f 60 k ring, impl_FirstApart.f 600 k ring with
  | some c, some f => decide (spec_CoupleCounts.f 60 k ring = some c) && decide (spec_FirstApart.f 600 k ring = some f) && decide (c.1.length ≤ 100) && decide (f.1.length ≤ 100) && (if c.2 = true then decide (0 < c.1.length) && (f.2 == decide (rd c.1 0 > 0)) else f.2 == false) && decide (laws_FnCouples.j8 800 k ring c.1 c.2 f.1 f.2 = some true)
  | _, _ => false
theorem ccT_all : (ks.all fun k => ccT k true && ccT k false) = true := by decide +kernel
theorem cc_get (k : Int) (ring : Bool) (hk : k ∈ ks) : ∃ c f : List Int × Bool, c.1.length ≤ 100 ∧ f.1.length ≤ 100 ∧ Ev (fun m => impl_CoupleCounts.f m k ring) c ∧ Ev (fun m => spec_CoupleCounts.f m k ring) c ∧ Ev (fun m => impl_FirstApart.f m k ring) f ∧ Ev (fun m => spec_FirstApart.f m k ring) f ∧
    (c.2 = true → 0 < c.1.length ∧ f.2 = decide (rd c.1 0 > 0)) ∧ (c.2 = false → f.2 = false) ∧ Ev (fun m => laws_FnCouples.j8 m k ring c.1 c.2 f.1 f.2) true := by
  have h := List.all_eq_true.mp ccT_all k hk
  rw [Bool.and_eq_true] at h
  have h2 : ccT k ring = true := by cases ring; exact h.2; exact h.1
  unfold ccT at h2
  revert h2
  cases e1 : impl_CoupleCounts.f 60 k ring with
  | none => intro h2; cases h2
  | some c =>
    cases e2 : impl_FirstApart.f 600 k ring with
    | none => intro h2; cases h2
    | some f =>
      intro h2
      simp only [Bool.and_eq_true, decide_eq_true_eq] at h2
      obtain ⟨⟨⟨⟨⟨h3, h4⟩, h5⟩, h6⟩, h7⟩, h8⟩ := h2
      refine ⟨c, f, h5, h6, Ev.of (impl_CoupleCounts.mono k ring) e1, Ev.of (spec_CoupleCounts.mono k ring) h3, Ev.of (impl_FirstApart.mono k ring) e2, Ev.of (spec_FirstApart.mono k ring) h4, fun hc => ?_, fun hc => ?_, Ev.of (g := fun m => laws_FnCouples.j8 m k ring c.1 c.2 f.1 f.2) (fun m => (laws_FnCouples.mono_l m).2.2.2.2.2.2.2.2.1 _ _ _ _ _ _) h8⟩
      · rw [if_pos hc, Bool.and_eq_true, decide_eq_true_eq, beq_iff_eq] at h7; exact h7
      · rw [if_neg (by rw [hc]; decide), beq_iff_eq] at h7; exact h7
def mT (n : Int) : Bool :=
  match impl_MenageCount.f 40 n with
  | some m => decide (spec_MenageCount.f 40 n = some m)
  | none => false
def ns9 : List Int := [3, 4, 2, 5, 6, 7, 1, 0, -1]
theorem mT_all : (ns9.all mT) = true := by decide +kernel
theorem m_get (n : Int) (hn : n ∈ ns9) : ∃ m : Int × Bool, Ev (fun k => impl_MenageCount.f k n) m ∧ Ev (fun k => spec_MenageCount.f k n) m := by
  have h := List.all_eq_true.mp mT_all n hn
  unfold mT at h
  revert h
  cases e : impl_MenageCount.f 40 n with
  | none => intro h; cases h
  | some m => intro h; exact ⟨m, Ev.of (impl_MenageCount.mono n) e, Ev.of (spec_MenageCount.mono n) (of_decide_eq_true h)⟩
def pT (k : Nat) (ring : Bool) (t : Nat) : Bool :=
  match impl_CoupleCounts.f 60 (k : Int) ring with
  | some c => c.2 && decide (c.1.length = k + 1) && (decide (1 ≤ rd c.1 (t : Int)) || (k == 1 && t == 0) || (k == 2 && ring && t == 1))
  | none => false
theorem pT_all : ((List.range' 1 6).all fun k => (List.range' 0 7).all fun t => !decide (t ≤ k) || (pT k false t && (k == 1 || pT k true t))) = true := by decide +kernel
theorem p_get (k : Nat) (ring : Bool) (t : Nat) (hk : 1 ≤ k ∧ k ≤ 6) (hr : ring = true → 2 ≤ k) (ht : t ≤ k) (h0 : k = 1 → t ≠ 0) (h1 : k = 2 → ring = true → t ≠ 1) : ∃ c : List Int × Bool, Ev (fun m => impl_CoupleCounts.f m (k : Int) ring) c ∧ c.2 = true ∧ c.1.length = k + 1 ∧ 1 ≤ rd c.1 (t : Int) := by
  have h := List.all_eq_true.mp pT_all k (by rw [List.mem_range'_1]; omega)
  have h2 := List.all_eq_true.mp h t (by rw [List.mem_range'_1]; omega)
  rw [decide_eq_true ht] at h2
  simp only [Bool.not_true, Bool.false_or, Bool.and_eq_true, Bool.or_eq_true, beq_iff_eq] at h2
  have h3 : pT k ring t = true := by
    cases ring with
    | false => exact h2.1
    | true => exact h2.2.resolve_left (fun h => by have := hr rfl; omega)
  unfold pT at h3
  revert h3
  cases e : impl_CoupleCounts.f 60 (k : Int) ring with
  | none => intro h3; cases h3
  | some c =>
    intro h3
    simp only [Bool.and_eq_true, Bool.or_eq_true, decide_eq_true_eq, beq_iff_eq] at h3
    obtain ⟨⟨h4, h5⟩, h6⟩ := h3
    refine ⟨c, Ev.of (impl_CoupleCounts.mono _ ring) e, h4, h5, ?_⟩
    rcases h6 with (h6 | h6) | h6
    · exact h6
    · exact absurd h6.2 (h0 h6.1)
    · exact absurd h6.2 (h1 h6.1.1 h6.1.2)
theorem turn_full (k : Int) (l : List Int) (b : Int) (hL : l.length ≤ 100) : ∃ r : List Int × Bool, r.1.length ≤ 100 ∧ Ev (fun m => spec_TurnParty.f m k l b) r ∧ Ev (fun m => impl_TurnParty.f m k l b) r ∧ (r.2 = true → PartyV k true ∧ IsOrd l (2 * k) ∧ ∃ q : Nat, q < l.length ∧ r.1 = turned l q) := by
  obtain ⟨r, hr, h1, h2⟩ := turn_key k l b (by omega)
  refine ⟨r, by omega, h1, h2, fun hr2 => ?_⟩
  cases hc : (decide (1 ≤ k ∧ k ≤ 6) && (!true || decide (k > 1))) with
  | false =>
    have : Ev (fun m => impl_TurnParty.f m k l b) ([], false) := by
      unfold impl_TurnParty.f
      exact Ev.bindc (isCouples_eq _ _) (Ev.neg (by rw [hc]; decide) (Ev.now _))
    rw [Ev.unique h2 this] at hr2; cases hr2
  | true =>
    have hn : 1 ≤ k ∧ k ≤ 6 := by simp only [Bool.and_eq_true, decide_eq_true_eq] at hc; exact hc.1
    by_cases ho : IsOrd l (2 * k)
    · by_cases hb : 0 ≤ b ∧ b ≤ 2 * k - 1
      · obtain ⟨q, rfl⟩ := Int.eq_ofNat_of_zero_le hb.1
        have hl := ho.1
        have this : Ev (fun m => impl_TurnParty.f m k l (q : Int)) (turned l q, true) := by
          unfold impl_TurnParty.f
          refine Ev.bindc (isCouples_eq _ _) (Ev.pos hc ?_)
          rw [w64 (n := 2 * k) (by omega) (by omega)]
          refine Ev.bind (isOrder_ev l (2 * k) (by omega) (by omega) (by omega)) (Ev.pos (decide_eq_true ho) (Ev.bindc (within_eq _ _ _) ?_))
          rw [w64 (n := 2 * k - 1) (by omega) (by omega), w64 (by omega) (by omega)]
          refine Ev.pos (decide_eq_true hb) (Ev.pos (by omega) (Ev.pos (by omega) (Ev.bindc (a := turned l q) ?_ (Ev.now _))))
          have e : ((l.length : Int) - (q : Int)).toNat = l.length - q := by omega
          rw [e]
          unfold slices_Concat_int_int.f
          have e2 : [l.drop (l.length - q), l.take (l.length - q)].flatten = turned l q := by simp [turned]
          rw [e2, if_pos ⟨by have := turned_len l q (by omega); omega, by simp⟩]
        exact ⟨hc, ho, q, by omega, by rw [Ev.unique h2 this]⟩
      · have : Ev (fun m => impl_TurnParty.f m k l b) ([], false) := by
          unfold impl_TurnParty.f
          refine Ev.bindc (isCouples_eq _ _) (Ev.pos hc ?_)
          rw [w64 (n := 2 * k) (by omega) (by omega)]
          refine Ev.bind (isOrder_ev l (2 * k) (by omega) (by omega) (by omega)) (Ev.pos (decide_eq_true ho) (Ev.bindc (within_eq _ _ _) ?_))
          rw [w64 (n := 2 * k - 1) (by omega) (by omega)]
          exact Ev.neg (by simpa using hb) (Ev.now _)
        rw [Ev.unique h2 this] at hr2; cases hr2
    · have : Ev (fun m => impl_TurnParty.f m k l b) ([], false) := by
        unfold impl_TurnParty.f
        refine Ev.bindc (isCouples_eq _ _) (Ev.pos hc ?_)
        rw [w64 (n := 2 * k) (by omega) (by omega)]
        exact Ev.bind (isOrder_ev l (2 * k) (by omega) (by omega) (by omega)) (Ev.neg (by simpa using ho) (Ev.now _))
      rw [Ev.unique h2 this] at hr2; cases hr2
theorem FnCouples : laws_FnCouples.Pure := by
  intro s hl1 _ hb
  refine Ev.rounds (g := fun m => laws_FnCouples.f m s) ?_
  unfold laws_FnCouples.f
  by_cases hbig : (s.length : Int) > 65536
  · exact Ev.bindc (a := true) (by unfold laws_rBig.f; rw [decide_eq_true hbig]) (Ev.pos rfl (Ev.now _))
  · have hs : Bytes8 s := fun x hx => by
      have h := hb x hx
      simp [Lit.wf, IntKind.min, IntKind.max, IntKind.bits, IntKind.signed] at h; omega
    have hl : s.length ≤ 1000000 := by omega
    refine Ev.bindc (a := false) (by unfold laws_rBig.f; rw [decide_eq_false hbig]) (Ev.neg (by decide) ?_)
    obtain ⟨k, ring, e1, hk⟩ := drawCounts_ok s hs hl
    obtain ⟨c, f, hc1, hf1, hci, hcs, hfi, hfs, hct, hcf, hj8⟩ := cc_get k ring hk
    refine Ev.bindc e1 (Ev.bind hci (Ev.bind hcs (Ev.neg (by simp) (Ev.bind (rInts_ev c.1 (by omega)) (Ev.succ ?_)))))
    simp only [laws_FnCouples.j0.eq_2]
    refine Ev.neg (by decide) (Ev.bind hfi (Ev.bind hfs (Ev.neg (by simp) (Ev.bind (rInts_ev f.1 (by omega)) (Ev.pos rfl ?_)))))
    -- behind the second test
    have rest : Ev (fun n => laws_FnCouples.j1 n s k ring c.1 c.2 f.1 f.2 false) true := by
      refine Ev.succ ?_
      simp only [laws_FnCouples.j1.eq_2]
      obtain ⟨n, e2, hn⟩ := drawMenage_ok s hs hl
      obtain ⟨m, hmi, hms⟩ := m_get n hn
      refine Ev.neg (by decide) (Ev.bindc e2 (Ev.bind hmi (Ev.bind hms (Ev.pos rfl (Ev.succ ?_)))))
      simp only [laws_FnCouples.j2.eq_2]
      obtain ⟨sz, rd2, e3, hsz⟩ := drawFamily_ok s hs hl
      obtain ⟨q, hq1, hq2⟩ := fam_l0 sz (by omega) rd2 sz.length 0 0 1 (by omega)
      have hq1' : Ev (fun k => spec_FamilyCount.f k sz rd2) q := hq1
      have hq2' : Ev (fun k => impl_FamilyCount.f k sz rd2) q := hq2
      refine Ev.neg (by simp) (Ev.bind e3 (Ev.bind hq2' (Ev.bind hq1' (Ev.pos rfl (Ev.succ ?_)))))
      simp only [laws_FnCouples.j3.eq_2]
      obtain ⟨a, turn, party, e4, hpl, ha⟩ := drawParty_ok s hs hl
      have hpk := party_key a turn party (by omega)
      have htk := tog_key a turn party (by omega)
      -- behind the turned party
      have fin : Ev (fun n => laws_FnCouples.j8 n k ring c.1 c.2 f.1 f.2) true := hj8
      have tail : ∀ (t : Int) (five : Bool), (five = true → PartyV a turn ∧ IsOrd party (2 * a) ∧ t = (tog turn party : Int)) → Ev (fun n => laws_FnCouples.j5 n s k ring c.1 c.2 f.1 f.2 a turn t five false) true := by
        intro t five h5
        refine Ev.succ ?_
        simp only [laws_FnCouples.j5.eq_2]
        obtain ⟨b, other, by_, e5, hol⟩ := drawTurn_ok s hs hl
        obtain ⟨r, hr1, hrs, hri, hrt⟩ := turn_full b other by_ (by omega)
        refine Ev.neg (by decide) (Ev.bind e5 (Ev.bind hri (Ev.bind hrs (Ev.neg (by simp) (Ev.bind (rInts_ev r.1 (by omega)) (Ev.succ ?_))))))
        simp only [laws_FnCouples.j6.eq_2]
        refine Ev.neg (by decide) ?_
        have j7 : Ev (fun n => laws_FnCouples.j7 n k ring c.1 c.2 f.1 f.2 a turn t five) true := by
          refine Ev.succ ?_
          simp only [laws_FnCouples.j7.eq_2]
          cases five with
          | false => exact Ev.neg (by decide) fin
          | true =>
            obtain ⟨hv, ho, rfl⟩ := h5 rfl
            have hv2 := hv
            unfold PartyV at hv2
            simp only [Bool.and_eq_true, decide_eq_true_eq, Bool.or_eq_true, Bool.not_eq_true'] at hv2
            obtain ⟨K, rfl⟩ := Int.eq_ofNat_of_zero_le (show 0 ≤ a by omega)
            have hr2 : turn = true → 2 ≤ K := fun h => by
              rcases hv2.2 with h3 | h3
              · rw [h] at h3; cases h3
              · omega
            obtain ⟨cc, hcc, hcc2, hcc3, hcc4⟩ := p_get K turn (tog turn party) (by omega) hr2 (tog_le party turn K (by omega) ho hr2)
              (fun h => by subst h; cases turn with
                | false => exact tog_one party ho
                | true => have := hr2 rfl; omega)
              (fun h h3 => by subst h; subst h3; exact tog_two party ho)
            have htl := tog_le party turn K (by omega) ho hr2
            refine Ev.pos rfl (Ev.bind hcc (Ev.pos hcc2 ?_))
            rw [w64 (by omega) (by omega)]
            exact Ev.pos (by omega) (Ev.pos (by omega) (Ev.pos (by omega) (Ev.neg (by omega) fin)))
        cases hr2 : r.2 with
        | false => exact Ev.neg (by decide) j7
        | true =>
          obtain ⟨hv, ho, q, hq, e⟩ := hrt hr2
          have t1 := (tog_key b true other (by omega)).1 ⟨hv, ho⟩
          have hto := turned_ord other q hq (2 * b) ho
          have t2 := (tog_key b true r.1 (by omega)).1 ⟨hv, by rw [e]; exact hto⟩
          have et : tog true r.1 = tog true other := by rw [e]; exact tog_turned other q hq
          rw [et] at t2
          exact Ev.pos rfl (Ev.bind t1.2 (Ev.bind t2.2 (Ev.pos rfl (Ev.pos rfl (Ev.pos rfl j7)))))
      by_cases hv : PartyV a turn
      · have hp := hpk.1 hv
        refine Ev.neg (by simp) (Ev.bind e4 (Ev.bind hp.2 (Ev.bind hp.1 (Ev.neg (by simp) (Ev.succ ?_)))))
        simp only [laws_FnCouples.j4.eq_2]
        by_cases ho : IsOrd party (2 * a)
        · have ht := htk.1 ⟨hv, ho⟩
          refine Ev.neg (by simp) (Ev.bind ht.2 (Ev.bind ht.1 (Ev.pos rfl (Ev.neg (by simp) (Ev.pos (by trivial) ?_)))))
          rw [decide_eq_true ho]
          exact tail _ true (fun _ => ⟨hv, ho, rfl⟩)
        · have ht := htk.2 (fun h => ho h.2)
          refine Ev.neg (by simp) (Ev.bind ht.2 (Ev.bind ht.1 (Ev.pos rfl (Ev.neg (by simp) (Ev.pos (by trivial) ?_)))))
          rw [decide_eq_false ho]
          exact tail _ false (fun h => by cases h)
      · have hp := hpk.2 hv
        refine Ev.neg (by simp) (Ev.bind e4 (Ev.bind hp.2 (Ev.bind hp.1 (Ev.neg (by simp) (Ev.succ ?_)))))
        simp only [laws_FnCouples.j4.eq_2]
        have ht := htk.2 (fun h => hv h.1)
        exact Ev.neg (by simp) (Ev.bind ht.2 (Ev.bind ht.1 (Ev.pos rfl (Ev.neg (by simp) (Ev.neg (by decide) (tail _ false (fun h => by cases h)))))))
    cases hc2 : c.2 with
    | true =>
      have h := hct hc2
      rw [hc2] at rest
      have e : (f.2 != decide (rd c.1 0 > 0)) = false := by rw [h.2]; simp
      exact Ev.pos rfl (Ev.pos (by omega) (by rw [e]; exact rest))
    | false =>
      have h := hcf hc2
      rw [hc2] at rest
      have e : (f.2 != false) = false := by rw [h]; rfl
      exact Ev.neg (by decide) (by rw [e]; exact rest)

end Go.Proofs.Ytaadhdlcdbaipaa.Pure
