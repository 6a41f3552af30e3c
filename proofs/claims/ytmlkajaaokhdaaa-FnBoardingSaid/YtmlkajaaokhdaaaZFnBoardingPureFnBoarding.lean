import Derived.Test.YtmlkajaaokhdaaaZFnBoardingPFnBoardingx10
namespace Go.Proofs.Ytmlkajaaokhdaaa.Pure
open Go.RowKit Go.Proofs.Ytmlkajaaokhdaaa.PFnBoarding Go.Proofs.YtmlkajaaokhdaaaW.PrintWords Go.Proofs.YtmlkajaaokhdaaaW.PrintLast Go.Proofs.YtmlkajaaokhdaaaW.PrintMore
set_option linter.unusedVariables false

theorem Ev.pos {α : Type} {c : Prop} [Decidable c] {f g : Nat → Option α} {r : α} (h : c) (k : Ev f r) : Ev (fun m => if c then f m else g m) r :=
  Ev.congr (fun _ => if_pos h) k
theorem Ev.neg {α : Type} {c : Prop} [Decidable c] {f g : Nat → Option α} {r : α} (h : ¬ c) (k : Ev g r) : Ev (fun m => if c then f m else g m) r :=
  Ev.congr (fun _ => if_neg h) k
theorem Ev.bindc {α β : Type} {x : Option α} {f : Nat → α → Option β} {a : α} {r : β} (h : x = some a) (k : Ev (fun n => f n a) r) : Ev (fun n => x.bind (f n)) r := by
  subst h; exact k
theorem Ev.succ {α : Type} {g : Nat → Option α} {r : α} (k : Ev (fun n => g (n + 1)) r) : Ev g r := Ev.step (fun _ => rfl) k
theorem w64 {n : Int} (h0 : -9223372036854775808 ≤ n) (h1 : n < 9223372036854775808) : wrap64 n = n := by unfold wrap64; omega
theorem rd_nat (l : List Int) (i : Nat) (h : i < l.length) : rd l (i : Int) = l[i] := by
  unfold rd; rw [Int.toNat_natCast, List.getD_eq_getElem?_getD, List.getElem?_eq_getElem h]; rfl
theorem within_eq (a b c : Int) : impl_within.f a b c = some (decide (b ≤ a ∧ a ≤ c)) := by
  unfold impl_within.f
  by_cases h : a ≥ b
  · rw [if_pos h]; simp [show b ≤ a from h]
  · rw [if_neg h]; simp [show ¬ b ≤ a from h]
theorem l1In_eq (a b c : Int) : spec_l1In.f a b c = some (decide (b ≤ a ∧ a ≤ c)) := by
  unfold spec_l1In.f
  by_cases h : a ≥ b
  · rw [if_pos h]; simp [show b ≤ a from h]
  · rw [if_neg h]; simp [show ¬ b ≤ a from h]
theorem has_loop (l : List Int) (x : Int) (hl : l.length ≤ 35184372088832) : ∀ (d i : Nat), i + d = l.length → Ev (fun k => spec_l1Has.l0 k l x (i : Int)) (decide (x ∈ l.drop i)) := by
  intro d
  induction d with
  | zero =>
    intro i hi
    refine Ev.succ ?_
    simp only [spec_l1Has.l0.eq_2]
    rw [List.drop_of_length_le (by omega)]
    exact Ev.neg (by omega) (Ev.now _)
  | succ d ih =>
    intro i hi
    refine Ev.succ ?_
    simp only [spec_l1Has.l0.eq_2]
    refine Ev.pos (by omega) (Ev.pos (by omega) ?_)
    have hd : l.drop i = l[i] :: l.drop (i + 1) := (List.drop_eq_getElem_cons (by omega))
    rw [rd_nat l i (by omega)]
    by_cases e : l[i] = x
    · rw [show decide (x ∈ l.drop i) = true by rw [hd]; simp [e]]
      exact Ev.pos e (Ev.now _)
    · refine Ev.neg e ?_
      rw [w64 (by omega) (by omega)]
      have := ih (i + 1) (by omega)
      rw [show decide (x ∈ l.drop i) = decide (x ∈ l.drop (i + 1)) by rw [hd]; simp only [List.mem_cons, Ne.symm e, false_or]]
      exact this
theorem has_ev (l : List Int) (x : Int) (hl : l.length ≤ 35184372088832) : Ev (fun k => spec_l1Has.f k l x) (decide (x ∈ l)) := has_loop l x hl l.length 0 (by omega)
theorem allWithin_loop (l : List Int) (lo hi : Int) (hl : l.length ≤ 35184372088832) : ∀ (d i : Nat), i + d = l.length → Ev (fun k => impl_allWithin.l0 k lo hi l (l.length : Int) (i : Int)) (decide (∀ x ∈ l.drop i, lo ≤ x ∧ x ≤ hi)) := by
  intro d
  induction d with
  | zero =>
    intro i hi
    refine Ev.succ ?_
    simp only [impl_allWithin.l0.eq_2]
    rw [List.drop_of_length_le (by omega)]
    exact Ev.neg (by omega) (by simp; exact Ev.now _)
  | succ d ih =>
    intro i hi'
    refine Ev.succ ?_
    simp only [impl_allWithin.l0.eq_2]
    refine Ev.pos (by omega) (Ev.pos (by omega) (Ev.pos (by omega) (Ev.bindc (within_eq _ _ _) ?_)))
    have hd : l.drop i = l[i] :: l.drop (i + 1) := (List.drop_eq_getElem_cons (by omega))
    rw [rd_nat l i (by omega)]
    by_cases e : lo ≤ l[i] ∧ l[i] ≤ hi
    · refine Ev.pos (decide_eq_true e) ?_
      rw [w64 (by omega) (by omega)]
      have e1 : (∀ x ∈ l.drop i, lo ≤ x ∧ x ≤ hi) ↔ (∀ x ∈ l.drop (i + 1), lo ≤ x ∧ x ≤ hi) := by rw [hd]; simp only [List.mem_cons, forall_eq_or_imp, e, true_and]
      rw [decide_eq_decide.mpr e1]
      exact ih (i + 1) (by omega)
    · rw [show decide (∀ x ∈ l.drop i, lo ≤ x ∧ x ≤ hi) = false by rw [hd]; simp only [List.mem_cons, forall_eq_or_imp, decide_eq_false_iff_not]; exact fun h => e h.1]
      exact Ev.neg (by simpa using e) (Ev.now _)
theorem allWithin_ev (l : List Int) (lo hi : Int) (hl : l.length ≤ 35184372088832) : Ev (fun k => impl_allWithin.f k l lo hi) (decide (∀ x ∈ l, lo ≤ x ∧ x ≤ hi)) := allWithin_loop l lo hi hl l.length 0 (by omega)
def pc : Nat → Nat → Nat
  | 0, _ => 0
  | k + 1, n => n % 2 + pc k (n / 2)
theorem pc_add (a b n : Nat) : pc (a + b) n = pc a n + pc b (n / 2 ^ a) := by
  induction a generalizing n with
  | zero => simp [pc]
  | succ a ih =>
    rw [show a + 1 + b = (a + b) + 1 by omega]
    simp only [pc]
    rw [ih, Nat.div_div_eq_div_mul, Nat.pow_succ, Nat.mul_comm 2 (2 ^ a)]
    omega
theorem pc_mod (k n : Nat) : pc k (n % 2 ^ k) = pc k n := by
  induction k generalizing n with
  | zero => rfl
  | succ k ih =>
    simp only [pc]
    rw [show n % 2 ^ (k + 1) % 2 = n % 2 by rw [Nat.pow_succ]; exact Nat.mod_mul_left_mod n (2 ^ k) 2]
    rw [show n % 2 ^ (k + 1) / 2 = (n / 2) % 2 ^ k by rw [Nat.pow_succ, Nat.mul_comm]; exact Nat.mod_mul_right_div_self n 2 (2 ^ k)]
    rw [ih]
theorem pc_le (k n : Nat) : pc k n ≤ k := by
  induction k generalizing n with
  | zero => exact Nat.le_refl _
  | succ k ih => have := ih (n / 2); simp only [pc]; omega
theorem u32_nat (a b : Nat) (ha : a < 4294967296) (hb : b < 4294967296) : Go.bits .and .u32 (a : Int) (b : Int) = ((a &&& b : Nat) : Int) ∧ Go.bits .or .u32 (a : Int) (b : Int) = ((a ||| b : Nat) : Int) :=
  bits_nat .u32 32 (by decide) (fun n h0 h1 => by rw [IntKind.wrap_u32]; omega) a b (by omega) (by omega)
theorem pc_count (k n : Nat) : pc k n = (List.range k).countP (fun i => n.testBit i) := by
  induction k generalizing n with
  | zero => rfl
  | succ k ih =>
    rw [List.range_succ_eq_map, List.countP_cons, List.countP_map]
    simp only [pc]
    rw [ih, Nat.add_comm]
    congr 1
    · apply List.countP_congr
      intro i _
      simp [Nat.testBit_succ]
    · rw [Nat.testBit_zero]
      by_cases h : n % 2 = 1
      · simp [h]
      · have : n % 2 = 0 := by omega
        simp [this]
def onesTab : ByteArray := ⟨#[0, 1, 1, 2, 1, 2, 2, 3, 1, 2, 2, 3, 2, 3, 3, 4, 1, 2, 2, 3, 2, 3, 3, 4, 2, 3, 3, 4, 3, 4, 4, 5, 1, 2, 2, 3, 2, 3, 3, 4, 2, 3, 3, 4, 3, 4, 4, 5, 2, 3, 3, 4, 3, 4, 4, 5, 3, 4, 4, 5, 4, 5, 5, 6, 1, 2, 2, 3, 2, 3, 3, 4, 2, 3, 3, 4, 3, 4, 4, 5, 2, 3, 3, 4, 3, 4, 4, 5, 3, 4, 4, 5, 4, 5, 5, 6, 2, 3, 3, 4, 3, 4, 4, 5, 3, 4, 4, 5, 4, 5, 5, 6, 3, 4, 4, 5, 4, 5, 5, 6, 4, 5, 5, 6, 5, 6, 6, 7, 1, 2, 2, 3, 2, 3, 3, 4, 2, 3, 3, 4, 3, 4, 4, 5, 2, 3, 3, 4, 3, 4, 4, 5, 3, 4, 4, 5, 4, 5, 5, 6, 2, 3, 3, 4, 3, 4, 4, 5, 3, 4, 4, 5, 4, 5, 5, 6, 3, 4, 4, 5, 4, 5, 5, 6, 4, 5, 5, 6, 5, 6, 6, 7, 2, 3, 3, 4, 3, 4, 4, 5, 3, 4, 4, 5, 4, 5, 5, 6, 3, 4, 4, 5, 4, 5, 5, 6, 4, 5, 5, 6, 5, 6, 6, 7, 3, 4, 4, 5, 4, 5, 5, 6, 4, 5, 5, 6, 5, 6, 6, 7, 4, 5, 5, 6, 5, 6, 6, 7, 5, 6, 6, 7, 6, 7, 7, 8]⟩
theorem onesTab_pc : ∀ i : Fin 256, bt onesTab ((i.val : Nat) : Int) = ((pc 8 i.val : Nat) : Int) := by decide +kernel
theorem onesTab_at (n : Nat) (h : n < 256) : bt onesTab (n : Int) = ((pc 8 n : Nat) : Int) := onesTab_pc ⟨n, h⟩
theorem u32_byte (n : Nat) (h : n < 4294967296) : Go.bits .and .u32 (n : Int) 255 = ((n % 256 : Nat) : Int) := by
  have := (u32_nat n 255 h (by omega)).1
  rw [show ((255 : Nat) : Int) = 255 from rfl] at this
  rw [this, show 255 = 2 ^ 8 - 1 from rfl, Nat.and_two_pow_sub_one_eq_mod]
theorem ones_tab (a0 : Int) : bits_OnesCount32.f a0 = if 0 ≤ (a0 / 16777216) then (if (a0 / 16777216) < 256 then (if 0 ≤ (Go.bits .and .u32 (a0 / 65536) 255) then (if (Go.bits .and .u32 (a0 / 65536) 255) < 256 then (if 0 ≤ (Go.bits .and .u32 (a0 / 256) 255) then (if (Go.bits .and .u32 (a0 / 256) 255) < 256 then (if 0 ≤ (Go.bits .and .u32 a0 255) then (if (Go.bits .and .u32 a0 255) < 256 then (some ((((((bt onesTab (a0 / 16777216)) + (bt onesTab (Go.bits .and .u32 (a0 / 65536) 255))) % 256) + (bt onesTab (Go.bits .and .u32 (a0 / 256) 255))) % 256 + (bt onesTab (Go.bits .and .u32 a0 255))) % 256)) else (none)) else (none)) else (none)) else (none)) else (none)) else (none)) else (none)) else (none) := rfl
theorem ones_eq (n : Nat) (h : n < 4294967296) : bits_OnesCount32.f (n : Int) = some ((pc 32 n : Nat) : Int) := by
  have e1 : (n : Int) / 16777216 = ((n / 16777216 : Nat) : Int) := by omega
  have e2 : (n : Int) / 65536 = ((n / 65536 : Nat) : Int) := by omega
  have e3 : (n : Int) / 256 = ((n / 256 : Nat) : Int) := by omega
  rw [ones_tab, e1, e2, e3, u32_byte _ (by omega), u32_byte _ (by omega), u32_byte _ (by omega)]
  rw [onesTab_at _ (by omega), onesTab_at _ (by omega), onesTab_at _ (by omega), onesTab_at _ (by omega)]
  rw [if_pos (Int.natCast_nonneg _), if_pos (by omega), if_pos (Int.natCast_nonneg _), if_pos (by omega), if_pos (Int.natCast_nonneg _), if_pos (by omega), if_pos (Int.natCast_nonneg _), if_pos (by omega)]
  have p4 : pc 32 n = pc 8 (n % 256) + pc 8 (n / 256 % 256) + pc 8 (n / 65536 % 256) + pc 8 (n / 16777216) := by
    have a0 : pc 32 n = pc 8 n + (pc 8 (n / 256) + (pc 8 (n / 256 / 256) + pc 8 (n / 256 / 256 / 256))) := by
      rw [show pc 32 n = pc (8 + (8 + (8 + 8))) n from rfl, pc_add, pc_add, pc_add]
    have a1 : pc 8 (n % 256) = pc 8 n := pc_mod 8 n
    have a2 : pc 8 (n / 256 % 256) = pc 8 (n / 256) := pc_mod 8 (n / 256)
    have a3 : pc 8 (n / 65536 % 256) = pc 8 (n / 65536) := pc_mod 8 (n / 65536)
    rw [show n / 256 / 256 / 256 = n / 16777216 by omega, show n / 256 / 256 = n / 65536 by omega] at a0
    rw [a0, a1, a2, a3]; omega
  rw [p4]
  have b1 := pc_le 8 (n % 256)
  have b2 := pc_le 8 (n / 256 % 256)
  have b3 := pc_le 8 (n / 65536 % 256)
  have b4 := pc_le 8 (n / 16777216)
  refine congrArg some ?_
  generalize pc 8 (n % 256) = c1 at *
  generalize pc 8 (n / 256 % 256) = c2 at *
  generalize pc 8 (n / 65536 % 256) = c3 at *
  generalize h4 : pc 8 (n / 16777216) = c4 at *
  have : n / 16777216 % 256 = n / 16777216 := by omega
  omega
/-- the set of some seats -/
def setN (l : List Int) : Nat := l.foldl (fun s p => s ||| 2 ^ p.toNat) 0
theorem foldl_or_bit (l : List Int) (s j : Nat) : (l.foldl (fun s p => s ||| 2 ^ p.toNat) s).testBit j = (s.testBit j || decide (∃ p ∈ l, p.toNat = j)) := by
  induction l generalizing s with
  | nil => simp
  | cons p l ih =>
    rw [List.foldl_cons, ih, Nat.testBit_or, Nat.testBit_two_pow]
    simp only [List.mem_cons, exists_eq_or_imp, Bool.decide_or, Bool.or_assoc]
theorem setN_bit (l : List Int) (j : Nat) : (setN l).testBit j = decide (∃ p ∈ l, p.toNat = j) := by
  unfold setN; rw [foldl_or_bit]; simp
theorem setN_lt (l : List Int) (h : ∀ x ∈ l, 0 ≤ x ∧ x < 32) : setN l < 4294967296 := by
  refine Nat.lt_pow_two_of_testBit (n := 32) _ (fun j hj => ?_)
  rw [setN_bit]
  simp only [decide_eq_false_iff_not, not_exists, not_and]
  intro x hx e
  have := h x hx
  omega
theorem setN_take (l : List Int) (i : Nat) (h : i < l.length) : setN (l.take (i + 1)) = setN (l.take i) ||| 2 ^ (l[i]).toNat := by
  unfold setN
  rw [List.take_succ_eq_append_getElem h, List.foldl_append]
  rfl
theorem two_pow_lt32 (p : Int) (h0 : 0 ≤ p) (h1 : p < 32) : 2 ^ p.toNat < 4294967296 := Nat.pow_lt_pow_right (m := p.toNat) (n := 32) (by decide) (by omega)
theorem shl_u32_one (p : Int) (h0 : 0 ≤ p) (h1 : p < 32) : shl .u32 1 p = ((2 ^ p.toNat : Nat) : Int) := by
  unfold shl
  rw [Nat.min_eq_left (by simp [IntKind.bits]; omega), IntKind.wrap_u32]
  have e : (1 * 2 ^ p.toNat : Int) = ((2 ^ p.toNat : Nat) : Int) := by rw [Int.one_mul]; push_cast; rfl
  rw [e]; exact Int.emod_eq_of_lt (Int.natCast_nonneg _) (Int.ofNat_lt.mpr (two_pow_lt32 p h0 h1))
theorem setOf_loop (l : List Int) (h : ∀ x ∈ l, 0 ≤ x ∧ x < 32) (hl : l.length ≤ 35184372088832) : ∀ (d i : Nat), i + d = l.length → Ev (fun k => impl_setOf.l0 k (setN (l.take i) : Int) l (l.length : Int) (i : Int)) (setN l : Int) := by
  intro d
  induction d with
  | zero =>
    intro i hi
    refine Ev.succ ?_
    simp only [impl_setOf.l0.eq_2]
    rw [List.take_of_length_le (by omega)]
    exact Ev.neg (by omega) (Ev.now _)
  | succ d ih =>
    intro i hi
    refine Ev.succ ?_
    simp only [impl_setOf.l0.eq_2]
    have hx := h (l[i]) (List.getElem_mem (by omega))
    rw [rd_nat l i (by omega)]
    refine Ev.pos (by omega) (Ev.pos (by omega) (Ev.pos (by omega) (Ev.pos hx.1 ?_)))
    rw [w64 (by omega) (by omega), shl_u32_one _ hx.1 hx.2]
    rw [(u32_nat _ _ (setN_lt _ (fun x hx => h x (List.mem_of_mem_take hx))) (two_pow_lt32 _ hx.1 hx.2)).2, ← setN_take l i (by omega)]
    exact ih (i + 1) (by omega)
theorem setOf_ev (l : List Int) (h : ∀ x ∈ l, 0 ≤ x ∧ x < 32) (hl : l.length ≤ 35184372088832) : Ev (fun k => impl_setOf.f k l) (setN l : Int) := setOf_loop l h hl l.length 0 (by omega)
theorem count_eq (n : Nat) (h : n < 4294967296) : impl_set_count.f (n : Int) = some ((pc 32 n : Nat) : Int) := by
  unfold impl_set_count.f; rw [ones_eq n h]; rfl
/-- a list that has each number less than n once -/
def IsOrd (l : List Int) (n : Int) : Prop := (l.length : Int) = n ∧ ∀ i : Nat, (i : Int) < n → (i : Int) ∈ l
theorem ph_range : ∀ (n : Nat) (l : List Int), l.length = n → (∀ i : Nat, i < n → (i : Int) ∈ l) → ∀ x ∈ l, 0 ≤ x ∧ x < (n : Int) := by
  intro n
  induction n with
  | zero => intro l hl _ x hx; rw [List.length_eq_zero_iff.mp hl] at hx; cases hx
  | succ n ih =>
    intro l hl h x hx
    have hm := h n (by omega)
    by_cases e : x = (n : Int)
    · omega
    · have := ih (l.erase (n : Int)) (by rw [List.length_erase_of_mem hm]; omega) (fun i hi => (List.mem_erase_of_ne (by omega)).mpr (h i (by omega))) x ((List.mem_erase_of_ne e).mpr hx)
      omega
theorem ph_nodup_len : ∀ (m : Nat) (l : List Int), l.Nodup → (∀ x ∈ l, 0 ≤ x ∧ x < (m : Int)) → l.length ≤ m := by
  intro m
  induction m with
  | zero =>
    intro l _ h
    cases l with
    | nil => simp
    | cons x l => have := h x (by simp); omega
  | succ m ih =>
    intro l hn h
    by_cases hm : (m : Int) ∈ l
    · have := ih (l.erase (m : Int)) (hn.erase _) (fun x hx => by
        have h1 := h x (List.mem_of_mem_erase hx)
        have h2 : x ≠ (m : Int) := fun e => by subst e; exact (List.Nodup.not_mem_erase hn) hx
        omega)
      rw [List.length_erase_of_mem hm] at this
      omega
    · have := ih l hn (fun x hx => by
        have h1 := h x hx
        have h2 : x ≠ (m : Int) := fun e => by subst e; exact hm hx
        omega)
      omega
theorem ord_range {l : List Int} {n : Int} (h : IsOrd l n) : ∀ x ∈ l, 0 ≤ x ∧ x < n := by
  obtain ⟨h1, h2⟩ := h
  have := ph_range l.length l rfl (fun i hi => h2 i (by omega))
  intro x hx; have := this x hx; omega
theorem ord_of_nodup {l : List Int} {n : Int} (hl : (l.length : Int) = n) (hn : l.Nodup) (hr : ∀ x ∈ l, 0 ≤ x ∧ x < n) : IsOrd l n := by
  refine ⟨hl, fun i hi => ?_⟩
  by_cases hm : (i : Int) ∈ l
  · exact hm
  · have := ph_nodup_len l.length ((i : Int) :: l) (List.nodup_cons.mpr ⟨hm, hn⟩) (fun x hx => by
      rcases List.mem_cons.mp hx with rfl | hx
      · omega
      · have := hr x hx; omega)
    rw [List.length_cons] at this; omega
theorem ord_nodup : ∀ (n : Nat) (l : List Int), l.length = n → (∀ i : Nat, i < n → (i : Int) ∈ l) → l.Nodup := by
  intro n
  induction n with
  | zero => intro l hl _; rw [List.length_eq_zero_iff.mp hl]; exact List.nodup_nil
  | succ n ih =>
    intro l hl h
    have hm := h n (by omega)
    have hl' : (l.erase (n : Int)).length = n := by rw [List.length_erase_of_mem hm]; omega
    have h' : ∀ i : Nat, i < n → (i : Int) ∈ l.erase (n : Int) := fun i hi => (List.mem_erase_of_ne (by omega)).mpr (h i (by omega))
    have hn : (n : Int) ∉ l.erase (n : Int) := fun hc => by have := ph_range n _ hl' h' _ hc; omega
    exact (List.perm_cons_erase hm).nodup_iff.mpr (List.nodup_cons.mpr ⟨hn, ih _ hl' h'⟩)
theorem isOrd_nodup {l : List Int} {n : Int} (h : IsOrd l n) : l.Nodup := ord_nodup l.length l rfl (fun i hi => h.2 i (by have := h.1; omega))
instance (l : List Int) (n : Int) : Decidable (IsOrd l n) := decidable_of_iff ((l.length : Int) = n ∧ ∀ i : Fin l.length, (i.val : Int) ∈ l) (by
  unfold IsOrd
  constructor
  · rintro ⟨h1, h2⟩; exact ⟨h1, fun i hi => h2 ⟨i, by omega⟩⟩
  · rintro ⟨h1, h2⟩; exact ⟨h1, fun i => h2 i.val (by have := i.isLt; omega)⟩)
theorem pc_full (n : Nat) (hn : n ≤ 32) (l : List Int) (hr : ∀ x ∈ l, 0 ≤ x ∧ x < (n : Int)) : pc 32 (setN l) = n ↔ ∀ i : Nat, i < n → (i : Int) ∈ l := by
  have e : pc 32 (setN l) = (List.range n).countP (fun i : Nat => decide ((i : Int) ∈ l)) := by
    rw [pc_count]
    have h1 : (List.range 32).countP (fun i => (setN l).testBit i) = (List.range 32).countP (fun i : Nat => decide ((i : Int) ∈ l)) := by
      apply List.countP_congr
      intro i _
      rw [setN_bit]
      simp only [decide_eq_true_eq]
      constructor
      · rintro ⟨p, hp, e⟩; have := hr p hp; rw [show (i : Int) = p by omega]; exact hp
      · intro h; exact ⟨_, h, by omega⟩
    rw [h1, show 32 = n + (32 - n) by omega, List.range_add, List.countP_append, List.countP_map]
    rw [show List.countP ((fun i : Nat => decide ((i : Int) ∈ l)) ∘ fun x => n + x) (List.range (32 - n)) = 0 by
      rw [List.countP_eq_zero]
      intro i _
      simp only [Function.comp, decide_eq_true_eq]
      intro h
      have := hr _ h
      omega]
    rfl
  rw [e]
  constructor
  · intro h i hi
    have h2 := (List.countP_eq_length (p := fun i : Nat => decide ((i : Int) ∈ l)) (l := List.range n)).mp (by rw [h, List.length_range])
    have := h2 i (List.mem_range.mpr hi)
    simpa using this
  · intro h
    rw [(List.countP_eq_length (p := fun i : Nat => decide ((i : Int) ∈ l)) (l := List.range n)).mpr (fun i hi => by simpa using h i (List.mem_range.mp hi)), List.length_range]
theorem isOrder_ev (l : List Int) (n : Int) (h0 : 0 ≤ n) (h1 : n ≤ 32) (hl : l.length ≤ 35184372088832) : Ev (fun k => impl_isOrder.f k l n) (decide (IsOrd l n)) := by
  unfold impl_isOrder.f
  by_cases hn : (l.length : Int) = n
  · refine Ev.pos hn (Ev.bind (allWithin_ev l 0 _ hl) ?_)
    rw [w64 (by omega) (by omega)]
    by_cases hw : ∀ x ∈ l, 0 ≤ x ∧ x ≤ n - 1
    · refine Ev.pos (decide_eq_true hw) ?_
      have hw32 : ∀ x ∈ l, 0 ≤ x ∧ x < 32 := fun x hx => by have := hw x hx; omega
      refine Ev.bind (setOf_ev l hw32 hl) (Ev.bindc (count_eq _ (setN_lt l hw32)) ?_)
      have hp := pc_full n.toNat (by omega) l (fun x hx => by have := hw x hx; omega)
      rw [show ((((pc 32 (setN l) : Nat) : Int) == n)) = decide (IsOrd l n) by
        rw [Bool.eq_iff_iff]
        simp only [beq_iff_eq, decide_eq_true_eq]
        unfold IsOrd
        constructor
        · intro h; exact ⟨hn, fun i hi => hp.mp (by omega) i (by omega)⟩
        · rintro ⟨_, h⟩; have := hp.mpr (fun i hi => h i (by omega)); omega]
      exact Ev.now _
    · refine Ev.neg (by simpa using hw) ?_
      rw [show decide (IsOrd l n) = false by
        simp only [decide_eq_false_iff_not]
        intro h; exact hw (fun x hx => by have := ord_range h x hx; omega)]
      exact Ev.now _
  · refine Ev.neg hn ?_
    rw [show decide (IsOrd l n) = false by simp only [decide_eq_false_iff_not]; intro h; exact hn h.1]
    exact Ev.now _
theorem l7Order_loop (l : List Int) (n : Int) (hn0 : 0 ≤ n) (hn : n ≤ 1000) (hl : l.length ≤ 35184372088832) : ∀ (d i : Nat), i + d = l.length → (l.take i).Nodup → (∀ x ∈ l.take i, 0 ≤ x ∧ x < n) → Ev (fun k => spec_l7Order.l0 k n l (i : Int)) (decide (IsOrd l n)) := by
  intro d
  induction d with
  | zero =>
    intro i hi hnd hr
    refine Ev.succ ?_
    simp only [spec_l7Order.l0.eq_2]
    rw [List.take_of_length_le (by omega)] at hnd hr
    rw [show decide (IsOrd l n) = ((l.length : Int) == n) by
      rw [Bool.eq_iff_iff]; simp only [beq_iff_eq, decide_eq_true_eq]
      exact ⟨fun h => h.1, fun h => ord_of_nodup h hnd hr⟩]
    exact Ev.neg (by omega) (Ev.now _)
  | succ d ih =>
    intro i hi hnd hr
    refine Ev.succ ?_
    simp only [spec_l7Order.l0.eq_2]
    rw [rd_nat l i (by omega), w64 (n := n - 1) (by omega) (by omega), Int.toNat_natCast]
    refine Ev.pos (by omega) (Ev.pos (by omega) (Ev.bindc (l1In_eq _ _ _) ?_))
    have hmem : l[i] ∈ l := List.getElem_mem (by omega)
    by_cases hw : 0 ≤ l[i] ∧ l[i] ≤ n - 1
    · refine Ev.pos (decide_eq_true hw) (Ev.pos (by omega) (Ev.bind (has_ev (l.take i) l[i] (by rw [List.length_take]; omega)) ?_))
      have ht : l.take (i + 1) = l.take i ++ [l[i]] := List.take_succ_eq_append_getElem (by omega)
      by_cases hm : l[i] ∈ l.take i
      · refine Ev.pos (decide_eq_true hm) ?_
        rw [show decide (IsOrd l n) = false by
          simp only [decide_eq_false_iff_not]
          intro h
          have h1 := isOrd_nodup h
          rw [← List.take_append_drop (i + 1) l, ht] at h1
          have h2 := (List.nodup_append.mp (List.nodup_append.mp h1).1).2.2
          exact h2 _ hm _ (List.mem_singleton.mpr rfl) rfl]
        exact Ev.now _
      · refine Ev.neg (by simpa using hm) ?_
        rw [w64 (n := (i : Int) + 1) (by omega) (by omega)]
        refine ih (i + 1) (by omega) ?_ ?_
        · rw [ht]; exact List.nodup_append.mpr ⟨hnd, by simp, fun a ha b hb => by rw [List.mem_singleton.mp hb]; exact fun e => hm (e ▸ ha)⟩
        · intro x hx
          rw [ht] at hx
          rcases List.mem_append.mp hx with hx | hx
          · exact hr x hx
          · rw [List.mem_singleton.mp hx]; omega
    · refine Ev.neg (by simpa using hw) ?_
      rw [show decide (IsOrd l n) = false by
        simp only [decide_eq_false_iff_not]
        intro h; have := ord_range h _ hmem; omega]
      exact Ev.now _
theorem l7Order_ev (l : List Int) (n : Int) (hn0 : 0 ≤ n) (hn : n ≤ 1000) (hl : l.length ≤ 35184372088832) : Ev (fun k => spec_l7Order.f k n l) (decide (IsOrd l n)) :=
  l7Order_loop l n hn0 hn hl l.length 0 (by omega) (by simp) (by simp)
/-! boarding: who stands where; one traveler's act, a unit, all units -/
structure BC where
  ai : List Int
  at_ : List Int
  sw : List Int
  en : List Int
  sa : List Int
  wa : List Int
theorem rd_set (l : List Int) (i j : Nat) (v : Int) (hi : i < l.length) : rd (l.set i v) (j : Int) = if i = j then v else rd l (j : Int) := by
  unfold rd
  simp only [Int.toNat_natCast, List.getD_eq_getElem?_getD, List.getElem?_set]
  by_cases e : i = j
  · rw [if_pos e, if_pos e, if_pos (by omega)]; rfl
  · rw [if_neg e, if_neg e]
def act (c : BC) (r : Nat) (t s : Int) : BC :=
  if rd c.sa r > 0 then c
  else if rd c.at_ r < 0 then
    if rd c.ai 0 < 0 then { c with ai := c.ai.set 0 r, at_ := c.at_.set r 0, en := c.en.set r t } else c
  else if rd c.at_ r = r then
    if rd c.sw r + 1 = s then { c with sw := c.sw.set r (rd c.sw r + 1), sa := c.sa.set r t, ai := c.ai.set r (-1) }
    else { c with sw := c.sw.set r (rd c.sw r + 1) }
  else if rd c.ai (rd c.at_ r + 1) < 0 then
    { c with ai := (c.ai.set (rd c.at_ r).toNat (-1)).set (rd c.at_ r + 1).toNat r, at_ := c.at_.set r (rd c.at_ r + 1) }
  else { c with wa := c.wa.set r (wrap64 (rd c.wa r + 1)) }
structure BW (n : Nat) (s : Int) (c : BC) : Prop where
  lai : c.ai.length = n
  lat : c.at_.length = n
  lsw : c.sw.length = n
  len : c.en.length = n
  lsa : c.sa.length = n
  lwa : c.wa.length = n
  lo : ∀ r : Nat, r < n → -1 ≤ rd c.at_ r
  hi : ∀ r : Nat, r < n → rd c.at_ r ≤ r
  sn : ∀ r : Nat, r < n → 0 ≤ rd c.sa r
  s0 : ∀ r : Nat, r < n → 0 ≤ rd c.sw r
  s1 : ∀ r : Nat, r < n → rd c.sa r = 0 → rd c.sw r < s
  occ : ∀ q : Nat, q < n → 0 ≤ rd c.ai q → ∃ r : Nat, r < n ∧ rd c.sa r = 0 ∧ rd c.at_ r = q
theorem act_spec {n : Nat} {s : Int} {c : BC} (h : BW n s c) (r : Nat) (hr : r < n) (t : Int) (hs : s ≤ 5) (hn : n ≤ 10) :
    spec_l7Act.f c.ai c.at_ c.sw c.en c.sa c.wa r t s = some ((act c r t s).ai, (act c r t s).at_, (act c r t s).sw, (act c r t s).en, (act c r t s).sa, (act c r t s).wa) := by
  have h1 := h.lo r hr
  have h2 := h.hi r hr
  have h3 := h.sn r hr
  have h4 := h.s0 r hr
  have h5 := h.s1 r hr
  have := h.lai; have := h.lat; have := h.lsw; have := h.len; have := h.lsa; have := h.lwa
  unfold spec_l7Act.f act
  rw [if_pos (by omega), if_pos (by omega), if_pos (by omega)]
  by_cases c1 : rd c.sa r > 0
  · rw [if_pos c1, if_pos c1]
  · rw [if_neg c1, if_neg c1]
    have h6 := h5 (by omega)
    by_cases c2 : rd c.at_ r < 0
    · rw [if_pos c2, if_pos c2, if_pos (by omega)]
      by_cases c3 : rd c.ai 0 < 0
      · rw [if_pos c3, if_pos c3, if_pos (by omega)]; rfl
      · rw [if_neg c3, if_neg c3]
    · rw [if_neg c2, if_neg c2]
      by_cases c3 : rd c.at_ r = r
      · rw [if_pos c3, if_pos c3, if_pos (by omega)]
        simp only [Option.bind_some, Int.toNat_natCast]
        rw [rd_set _ _ _ _ (by omega), if_pos rfl, w64 (by omega) (by omega)]
        by_cases c4 : rd c.sw r + 1 = s
        · rw [if_pos c4, if_pos c4, if_pos (by omega), if_pos (by omega), c3]; rfl
        · rw [if_neg c4, if_neg c4]
      · rw [if_neg c3, if_neg c3, w64 (n := rd c.at_ r + 1) (by omega) (by omega), if_pos (by omega), if_pos (by omega)]
        by_cases c4 : rd c.ai (rd c.at_ r + 1) < 0
        · rw [if_pos c4, if_pos c4, if_pos (by omega), if_pos (by omega)]; rfl
        · rw [if_neg c4, if_neg c4, if_pos (by omega)]; rfl
theorem act_wf {n : Nat} {s : Int} {c : BC} (h : BW n s c) (r : Nat) (hr : r < n) (t : Int) (ht : 1 ≤ t) : BW n s (act c r t s) := by
  have h1 := h.lo r hr
  have h2 := h.hi r hr
  have h3 := h.sn r hr
  have h4 := h.s0 r hr
  have h5 := h.s1 r hr
  obtain ⟨a1, a2, a3, a4, a5, a6, lo, hi, sn, s0, s1, occ⟩ := h
  unfold act
  by_cases c1 : rd c.sa r > 0
  · rw [if_pos c1]; exact ⟨a1, a2, a3, a4, a5, a6, lo, hi, sn, s0, s1, occ⟩
  · rw [if_neg c1]
    have h6 := h5 (by omega)
    by_cases c2 : rd c.at_ r < 0
    · rw [if_pos c2]
      by_cases c3 : rd c.ai 0 < 0
      · rw [if_pos c3]
        refine ⟨by simpa using a1, by simpa using a2, a3, by simpa using a4, a5, a6, ?_, ?_, sn, s0, s1, ?_⟩
        · intro q hq; dsimp only; rw [rd_set _ _ _ _ (by omega)]; split
          · omega
          · exact lo q hq
        · intro q hq; dsimp only; rw [rd_set _ _ _ _ (by omega)]; split
          · omega
          · exact hi q hq
        · intro q hq; dsimp only; rw [rd_set _ _ _ _ (by omega)]
          intro hx
          by_cases e : 0 = q
          · refine ⟨r, hr, by omega, ?_⟩
            rw [rd_set _ _ _ _ (by omega), if_pos rfl]; omega
          · rw [if_neg e] at hx
            obtain ⟨x, x1, x2, x3⟩ := occ q hq hx
            refine ⟨x, x1, x2, ?_⟩
            rw [rd_set _ _ _ _ (by omega), if_neg (by rintro rfl; omega)]; exact x3
      · rw [if_neg c3]; exact ⟨a1, a2, a3, a4, a5, a6, lo, hi, sn, s0, s1, occ⟩
    · rw [if_neg c2]
      by_cases c3 : rd c.at_ r = r
      · rw [if_pos c3]
        by_cases c4 : rd c.sw r + 1 = s
        · rw [if_pos c4]
          refine ⟨by simpa using a1, a2, by simpa using a3, a4, by simpa using a5, a6, lo, hi, ?_, ?_, ?_, ?_⟩
          · intro q hq; dsimp only; rw [rd_set _ _ _ _ (by omega)]; split
            · omega
            · exact sn q hq
          · intro q hq; dsimp only; rw [rd_set _ _ _ _ (by omega)]; split
            · omega
            · exact s0 q hq
          · intro q hq; dsimp only; rw [rd_set _ _ _ _ (by omega), rd_set _ _ _ _ (by omega)]
            by_cases e : r = q
            · rw [if_pos e, if_pos e]; omega
            · rw [if_neg e, if_neg e]; exact s1 q hq
          · intro q hq; dsimp only; rw [rd_set _ _ _ _ (by omega)]
            intro hx
            by_cases e : r = q
            · rw [if_pos e] at hx; omega
            · rw [if_neg e] at hx
              obtain ⟨x, x1, x2, x3⟩ := occ q hq hx
              refine ⟨x, x1, ?_, x3⟩
              rw [rd_set _ _ _ _ (by omega), if_neg (by rintro rfl; omega)]; exact x2
        · rw [if_neg c4]
          refine ⟨a1, a2, by simpa using a3, a4, a5, a6, lo, hi, sn, ?_, ?_, occ⟩
          · intro q hq; dsimp only; rw [rd_set _ _ _ _ (by omega)]; split
            · omega
            · exact s0 q hq
          · intro q hq hz; dsimp only; rw [rd_set _ _ _ _ (by omega)]; split
            · omega
            · exact s1 q hq hz
      · rw [if_neg c3]
        obtain ⟨p, hp⟩ := Int.eq_ofNat_of_zero_le (show 0 ≤ rd c.at_ r by omega)
        rw [hp] at h1 h2 c3 ⊢
        rw [show ((p : Int) + 1) = ((p + 1 : Nat) : Int) by omega, Int.toNat_natCast, Int.toNat_natCast]
        by_cases c4 : rd c.ai ((p + 1 : Nat) : Int) < 0
        · rw [if_pos c4]
          refine ⟨by simpa using a1, by simpa using a2, a3, a4, a5, a6, ?_, ?_, sn, s0, s1, ?_⟩
          · intro q hq; dsimp only; rw [rd_set _ _ _ _ (by omega)]; split
            · omega
            · exact lo q hq
          · intro q hq; dsimp only; rw [rd_set _ _ _ _ (by omega)]; split
            · omega
            · exact hi q hq
          · intro q hq; dsimp only; rw [rd_set _ _ _ _ (by simp; omega), rd_set _ _ _ _ (by omega)]
            intro hx
            by_cases e : p + 1 = q
            · refine ⟨r, hr, by omega, ?_⟩
              rw [rd_set _ _ _ _ (by omega), if_pos rfl]; omega
            · rw [if_neg e] at hx
              by_cases e2 : p = q
              · rw [if_pos e2] at hx; omega
              · rw [if_neg e2] at hx
                obtain ⟨x, x1, x2, x3⟩ := occ q hq hx
                refine ⟨x, x1, x2, ?_⟩
                rw [rd_set _ _ _ _ (by omega), if_neg (by rintro rfl; omega)]; exact x3
        · rw [if_neg c4]
          exact ⟨a1, a2, a3, a4, a5, by simpa using a6, lo, hi, sn, s0, s1, occ⟩
theorem rd_ext {a b : List Int} {n : Nat} (ha : a.length = n) (hb : b.length = n) (h : ∀ i : Nat, i < n → rd a i = rd b i) : a = b := by
  refine List.ext_getElem (by omega) (fun i h1 h2 => ?_)
  have := h i (by omega)
  rwa [rd_nat a i h1, rd_nat b i h2] at this
def plOf (n : Nat) (c : BC) : List Int := (List.range n).map fun (i : Nat) => if rd c.sa (i : Int) > 0 then (n : Int) else rd c.at_ (i : Int)
theorem plOf_len (n : Nat) (c : BC) : (plOf n c).length = n := by simp [plOf]
theorem plOf_rd (n : Nat) (c : BC) (r : Nat) (hr : r < n) : rd (plOf n c) (r : Int) = if rd c.sa (r : Int) > 0 then (n : Int) else rd c.at_ (r : Int) := by
  rw [rd_nat _ _ (by rw [plOf_len]; exact hr)]; simp [plOf]
def zc (l : List Int) : Nat := l.countP (fun x => x == 0)
theorem zc_set : ∀ (l : List Int) (i : Nat) (v : Int), i < l.length → rd l (i : Int) = 0 → v ≠ 0 → zc (l.set i v) + 1 = zc l := by
  intro l
  induction l with
  | nil => intro i v h; simp at h
  | cons a l ih =>
    intro i v hi h0 hv
    cases i with
    | zero =>
      obtain rfl : a = 0 := by simpa [rd] using h0
      simp [zc, hv]
    | succ i =>
      have := ih i v (by simpa using hi) (by simpa [rd, show ((i : Int) + 1).toNat = i + 1 by omega] using h0) hv
      simp only [zc, List.set_cons_succ, List.countP_cons] at this ⊢
      omega
theorem zc_pos (l : List Int) : 0 < zc l ↔ (0 : Int) ∈ l := by
  unfold zc; rw [List.countP_pos_iff]; simp
theorem l1_act {n : Nat} {s : Int} {order : List Int} {c : BC} (h : BW n s c) (j r : Nat) (hr : r < n) (hj : j < order.length) (hol : order.length ≤ 10) (hrd : rd order (j : Int) = (r : Int)) (t : Int) (ht : 1 ≤ t) (hs : s ≤ 5) (hn : n ≤ 10) (ax : List (List Int)) (k : Nat) :
    impl_board.l1 (k + 1) (n : Int) s order (plOf n c) c.sw c.ai ((zc c.sa : Nat) : Int) t order (order.length : Int) (j : Int) c.sa c.en c.wa ax =
    impl_board.l1 k (n : Int) s order (plOf n (act c r t s)) (act c r t s).sw (act c r t s).ai ((zc (act c r t s).sa : Nat) : Int) t order (order.length : Int) ((j + 1 : Nat) : Int) (act c r t s).sa (act c r t s).en (act c r t s).wa ax := by
  have h1 := h.lo r hr
  have h2 := h.hi r hr
  have h3 := h.sn r hr
  have h4 := h.s0 r hr
  have h5 := h.s1 r hr
  have l1 := h.lai; have l2 := h.lat; have l3 := h.lsw; have l4 := h.len; have l5 := h.lsa; have l6 := h.lwa
  have lp := plOf_len n c
  have hp := plOf_rd n c r hr
  rw [impl_board.l1.eq_2, hrd, hp, w64 (n := (j : Int) + 1) (by omega) (by omega), if_pos (by omega), if_pos (by omega), if_pos (by omega), if_pos (by omega), if_pos (by omega)]
  rw [show ((j : Int) + 1) = ((j + 1 : Nat) : Int) by omega]
  unfold act
  by_cases c1 : rd c.sa r > 0
  · rw [if_pos c1, if_pos rfl, if_pos c1]
  · rw [if_neg c1, if_neg c1, if_neg (by omega)]
    have h6 := h5 (by omega)
    by_cases c2 : rd c.at_ r < 0
    · rw [if_neg (show ¬ rd c.at_ r = r by omega), if_pos c2]
      rw [show wrap64 (rd c.at_ r + 1) = 0 by unfold wrap64; omega, if_pos (by omega), if_pos (by omega)]
      by_cases c3 : rd c.ai 0 < 0
      · rw [if_pos c3, if_pos c3, if_pos (by omega), if_pos (by omega)]
        simp only [Int.toNat_natCast]
        have e : plOf n { c with ai := c.ai.set 0 (r : Int), at_ := c.at_.set r 0, en := c.en.set r t } = (plOf n c).set r 0 := by
          refine rd_ext (plOf_len _ _) (by simpa using lp) (fun i hi => ?_)
          rw [plOf_rd _ _ _ hi, rd_set _ _ _ _ (by omega)]
          dsimp only
          rw [rd_set _ _ _ _ (by omega), plOf_rd _ _ _ hi]
          by_cases e : r = i
          · subst e; rw [if_neg c1, if_pos rfl, if_pos rfl]
          · rw [if_neg e, if_neg e]
        rw [e]; rfl
      · rw [if_neg c3, if_neg c3, if_neg (by omega), if_pos c2]
    · by_cases c3 : rd c.at_ r = r
      · rw [if_pos c3, if_neg c2, if_pos c3, if_pos (by omega)]
        simp only [Option.bind_some, Int.toNat_natCast]
        rw [rd_set _ _ _ _ (by omega), if_pos rfl, w64 (n := rd c.sw r + 1) (by omega) (by omega)]
        by_cases c4 : rd c.sw r + 1 = s
        · rw [if_pos c4, if_pos c4, c3, if_pos (by omega), if_pos (by omega), if_pos (by omega)]
          have e : plOf n { c with sw := c.sw.set r (rd c.sw r + 1), sa := c.sa.set r t, ai := c.ai.set r (-1) } = (plOf n c).set r n := by
            refine rd_ext (plOf_len _ _) (by simpa using lp) (fun i hi => ?_)
            rw [plOf_rd _ _ _ hi, rd_set _ _ _ _ (by omega)]
            dsimp only
            rw [rd_set _ _ _ _ (by omega), plOf_rd _ _ _ hi]
            by_cases e : r = i
            · subst e; rw [if_pos rfl, if_pos (by omega), if_pos rfl]
            · rw [if_neg e, if_neg e]
          rw [e]
          have hz := zc_set c.sa r t (by omega) (by omega) (by omega)
          have hle : zc c.sa ≤ c.sa.length := List.countP_le_length
          rw [w64 (by omega) (by omega), show ((zc c.sa : Nat) : Int) - 1 = ((zc (c.sa.set r t) : Nat) : Int) by omega]
          rfl
        · rw [if_neg c4, if_neg c4]; rfl
      · rw [if_neg c3, if_neg c2, if_neg c3, w64 (n := rd c.at_ r + 1) (by omega) (by omega), if_pos (by omega), if_pos (by omega)]
        by_cases c4 : rd c.ai (rd c.at_ r + 1) < 0
        · rw [if_pos c4, if_pos c4, if_neg c2, if_pos (by omega), if_pos (by omega)]
          have e : plOf n { c with ai := (c.ai.set (rd c.at_ r).toNat (-1)).set (rd c.at_ r + 1).toNat (r : Int), at_ := c.at_.set r (rd c.at_ r + 1) } = (plOf n c).set r (rd c.at_ r + 1) := by
            refine rd_ext (plOf_len _ _) (by simpa using lp) (fun i hi => ?_)
            rw [plOf_rd _ _ _ hi, rd_set _ _ _ _ (by omega)]
            dsimp only
            rw [rd_set _ _ _ _ (by omega), plOf_rd _ _ _ hi]
            by_cases e : r = i
            · subst e; rw [if_neg c1, if_pos rfl, if_pos rfl]
            · rw [if_neg e, if_neg e]
          rw [e]; rfl
        · rw [if_neg c4, if_neg c4, if_pos (by omega), if_pos (by omega), if_neg c2]; rfl
/-! the units: each brings somebody on, as long as somebody stands -/
def phi (s : Int) (c : BC) (r : Nat) : Nat := if rd c.sa (r : Int) > 0 then 0 else ((r : Int) - rd c.at_ (r : Int)).toNat + (s - rd c.sw (r : Int)).toNat
def Phi (n : Nat) (s : Int) (c : BC) : Nat := ((List.range n).map (phi s c)).sum
theorem sum_same (f g : Nat → Nat) : ∀ (n : Nat), (∀ i, i < n → f i = g i) → ((List.range n).map f).sum = ((List.range n).map g).sum := by
  intro n h
  rw [List.map_congr_left (fun i hi => h i (List.mem_range.mp hi))]
theorem sum_one (f g : Nat → Nat) (r : Nat) (hfg : ∀ i, i ≠ r → f i = g i) (hr : f r < g r) : ∀ (n : Nat), r < n → ((List.range n).map f).sum < ((List.range n).map g).sum := by
  intro n
  induction n with
  | zero => intro h; omega
  | succ n ih =>
    intro h
    simp only [List.range_succ, List.map_append, List.sum_append, List.map_cons, List.map_nil, List.sum_cons, List.sum_nil]
    by_cases e : r = n
    · subst e
      rw [sum_same f g r (fun i hi => hfg i (by omega))]; omega
    · have := ih (by omega)
      rw [hfg n (fun h => e h.symm)]; omega
def Blk (c : BC) (r : Nat) : Prop := rd c.sa (r : Int) > 0 ∨ (rd c.at_ (r : Int) < 0 ∧ ¬ rd c.ai 0 < 0) ∨ (¬ rd c.at_ (r : Int) < 0 ∧ rd c.at_ (r : Int) ≠ (r : Int) ∧ ¬ rd c.ai (rd c.at_ (r : Int) + 1) < 0)
def Same (a b : BC) : Prop := a.ai = b.ai ∧ a.at_ = b.at_ ∧ a.sw = b.sw ∧ a.sa = b.sa
theorem Same.Blk {a b : BC} (h : Same a b) {r : Nat} (hb : Blk a r) : Blk b r := by
  obtain ⟨h1, h2, h3, h4⟩ := h; unfold Pure.Blk at hb ⊢; rw [← h1, ← h2, ← h4]; exact hb
theorem Same.Phi {a b : BC} (h : Same a b) (n : Nat) (s : Int) : Phi n s a = Phi n s b := by
  obtain ⟨h1, h2, h3, h4⟩ := h; unfold Pure.Phi; refine sum_same _ _ n (fun i _ => ?_); unfold phi; rw [h2, h3, h4]
theorem act_eff {n : Nat} {s : Int} {c : BC} (h : BW n s c) (r : Nat) (hr : r < n) (t : Int) (ht : 1 ≤ t) : (Same (act c r t s) c ∧ Blk c r) ∨ Phi n s (act c r t s) < Phi n s c := by
  have h1 := h.lo r hr
  have h2 := h.hi r hr
  have h3 := h.sn r hr
  have h4 := h.s0 r hr
  have h5 := h.s1 r hr
  have l1 := h.lai; have l2 := h.lat; have l3 := h.lsw; have l4 := h.len; have l5 := h.lsa; have l6 := h.lwa
  unfold act
  by_cases c1 : rd c.sa r > 0
  · rw [if_pos c1]; exact .inl ⟨⟨rfl, rfl, rfl, rfl⟩, .inl c1⟩
  · rw [if_neg c1]
    have h6 := h5 (by omega)
    by_cases c2 : rd c.at_ r < 0
    · rw [if_pos c2]
      by_cases c3 : rd c.ai 0 < 0
      · rw [if_pos c3]
        refine .inr (sum_one _ _ r (fun i hi => ?_) ?_ n hr)
        · unfold phi; dsimp only; rw [rd_set _ _ _ _ (by omega), if_neg (Ne.symm hi)]
        · unfold phi; dsimp only; rw [rd_set _ _ _ _ (by omega), if_pos rfl, if_neg c1, if_neg c1]; omega
      · rw [if_neg c3]; exact .inl ⟨⟨rfl, rfl, rfl, rfl⟩, .inr (.inl ⟨c2, c3⟩)⟩
    · rw [if_neg c2]
      by_cases c3 : rd c.at_ r = r
      · rw [if_pos c3]
        by_cases c4 : rd c.sw r + 1 = s
        · rw [if_pos c4]
          refine .inr (sum_one _ _ r (fun i hi => ?_) ?_ n hr)
          · unfold phi; dsimp only; rw [rd_set _ _ _ _ (by omega), if_neg (Ne.symm hi), rd_set _ _ _ _ (by omega), if_neg (Ne.symm hi)]
          · unfold phi; dsimp only; rw [rd_set _ _ _ _ (by omega), if_pos rfl, if_pos (by omega), if_neg c1]; omega
        · rw [if_neg c4]
          refine .inr (sum_one _ _ r (fun i hi => ?_) ?_ n hr)
          · unfold phi; dsimp only; rw [rd_set _ _ _ _ (by omega), if_neg (Ne.symm hi)]
          · unfold phi; dsimp only; rw [rd_set _ _ _ _ (by omega), if_pos rfl, if_neg c1, if_neg c1]; omega
      · rw [if_neg c3]
        by_cases c4 : rd c.ai (rd c.at_ r + 1) < 0
        · rw [if_pos c4]
          refine .inr (sum_one _ _ r (fun i hi => ?_) ?_ n hr)
          · unfold phi; dsimp only; rw [rd_set _ _ _ _ (by omega), if_neg (Ne.symm hi)]
          · unfold phi; dsimp only; rw [rd_set _ _ _ _ (by omega), if_pos rfl, if_neg c1, if_neg c1]; omega
        · rw [if_neg c4]; exact .inl ⟨⟨rfl, rfl, rfl, rfl⟩, .inr (.inr ⟨c2, c3, c4⟩)⟩
def unitOf (l : List Int) (t s : Int) (c : BC) : BC := l.foldl (fun c x => act c x.toNat t s) c
theorem unit_eff {n : Nat} {s t : Int} (ht : 1 ≤ t) : ∀ (l : List Int) (c : BC), BW n s c → (∀ x ∈ l, 0 ≤ x ∧ x < (n : Int)) →
    BW n s (unitOf l t s c) ∧ ((Same (unitOf l t s c) c ∧ ∀ x ∈ l, Blk c x.toNat) ∨ Phi n s (unitOf l t s c) < Phi n s c) := by
  intro l
  induction l with
  | nil => intro c h _; exact ⟨h, .inl ⟨⟨rfl, rfl, rfl, rfl⟩, by simp⟩⟩
  | cons x l ih =>
    intro c h hx
    have hx0 := hx x (by simp)
    have hw := act_wf h x.toNat (by omega) t ht
    obtain ⟨i1, i2⟩ := ih (act c x.toNat t s) hw (fun y hy => hx y (by simp [hy]))
    refine ⟨i1, ?_⟩
    show (Same (unitOf l t s (act c x.toNat t s)) c ∧ _) ∨ Phi n s (unitOf l t s (act c x.toNat t s)) < _
    rcases act_eff h x.toNat (by omega) t ht with ⟨e1, e2⟩ | e
    · rcases i2 with ⟨j1, j2⟩ | j
      · refine .inl ⟨⟨j1.1.trans e1.1, j1.2.1.trans e1.2.1, j1.2.2.1.trans e1.2.2.1, j1.2.2.2.trans e1.2.2.2⟩, ?_⟩
        intro y hy
        rcases List.mem_cons.mp hy with rfl | hy
        · exact e2
        · exact e1.Blk (j2 y hy)
      · rw [e1.Phi] at j; exact .inr j
    · rcases i2 with ⟨j1, j2⟩ | j
      · rw [j1.Phi]; exact .inr e
      · exact .inr (by omega)
theorem no_stand {n : Nat} {s : Int} {c : BC} (h : BW n s c) (hb : ∀ r : Nat, r < n → Blk c r) : ∀ (d p : Nat), n ≤ p + d → ¬ ∃ r : Nat, r < n ∧ rd c.sa r = 0 ∧ rd c.at_ r = (p : Int) := by
  intro d
  induction d with
  | zero => rintro p hp ⟨r, h1, h2, h3⟩; have := h.hi r h1; omega
  | succ d ih =>
    rintro p hp ⟨r, h1, h2, h3⟩
    have h4 := h.hi r h1
    rcases hb r h1 with e | ⟨e, _⟩ | ⟨_, e1, e2⟩
    · omega
    · omega
    · rw [h3] at e1 e2
      obtain ⟨x, x1, x2, x3⟩ := h.occ (p + 1) (by omega) (by rw [show ((p + 1 : Nat) : Int) = (p : Int) + 1 by omega]; omega)
      exact ih (p + 1) (by omega) ⟨x, x1, x2, x3⟩
theorem goes_on {n : Nat} {s : Int} {c : BC} (h : BW n s c) (hb : ∀ r : Nat, r < n → Blk c r) : ∀ r : Nat, r < n → rd c.sa r ≠ 0 := by
  intro r hr h0
  by_cases hp : rd c.at_ r < 0
  · rcases hb r hr with e | ⟨_, e⟩ | ⟨e, _⟩
    · omega
    · obtain ⟨x, x1, x2, x3⟩ := h.occ 0 (by omega) (by show 0 ≤ rd c.ai 0; omega)
      exact no_stand h hb n 0 (by omega) ⟨x, x1, x2, x3⟩
    · omega
  · exact no_stand h hb n (rd c.at_ r).toNat (by omega) ⟨r, hr, h0, by omega⟩
theorem unit_less {n : Nat} {s t : Int} {c : BC} {l : List Int} (ht : 1 ≤ t) (h : BW n s c) (hl : IsOrd l n) (h0 : ¬ ∀ r : Nat, r < n → rd c.sa r ≠ 0) : Phi n s (unitOf l t s c) < Phi n s c := by
  rcases (unit_eff ht l c h (ord_range hl)).2 with ⟨_, e⟩ | e
  · refine absurd (goes_on h (fun r hr => ?_)) h0
    have := e r (hl.2 r (by omega)); simpa using this
  · exact e
/-! the whole of it: the states behind each unit, and what both programs come to -/
def bstart (n : Nat) : BC := ⟨List.replicate n (-1), List.replicate n (-1), List.replicate n 0, List.replicate n 0, List.replicate n 0, List.replicate n 0⟩
theorem rd_rep (n : Nat) (v : Int) (r : Nat) (hr : r < n) : rd (List.replicate n v) (r : Int) = v := by
  rw [rd_nat _ _ (by simpa using hr)]; simp
theorem bstart_wf (n : Nat) (s : Int) (hs : 1 ≤ s) : BW n s (bstart n) := by
  unfold bstart
  refine ⟨by simp, by simp, by simp, by simp, by simp, by simp, ?_, ?_, ?_, ?_, ?_, ?_⟩ <;> intro r hr
  · rw [rd_rep _ _ _ hr]; omega
  · rw [rd_rep _ _ _ hr]; omega
  · rw [rd_rep _ _ _ hr]; omega
  · rw [rd_rep _ _ _ hr]; omega
  · intro _; rw [rd_rep _ _ _ hr]; omega
  · rw [rd_rep _ _ _ hr]; intro h; omega
def traj (n : Nat) (order : List Int) (s : Int) : Nat → BC
  | 0 => bstart n
  | u + 1 => unitOf order ((u + 1 : Nat) : Int) s (traj n order s u)
theorem traj_wf {n : Nat} {order : List Int} {s : Int} (hs : 1 ≤ s) (ho : IsOrd order n) : ∀ u, BW n s (traj n order s u)
  | 0 => bstart_wf n s hs
  | u + 1 => (unit_eff (by omega) order _ (traj_wf hs ho u) (ord_range ho)).1
def Done (n : Nat) (c : BC) : Prop := ∀ r : Nat, r < n → rd c.sa (r : Int) ≠ 0
theorem done_mem {n : Nat} {c : BC} (hl : c.sa.length = n) : Done n c ↔ ¬ (0 : Int) ∈ c.sa := by
  constructor
  · intro h hm
    obtain ⟨i, hi, he⟩ := List.getElem_of_mem hm
    exact h i (by omega) (by rw [rd_nat _ _ hi]; exact he)
  · intro h r hr he
    rw [rd_nat _ _ (by omega)] at he
    exact h (he ▸ List.getElem_mem (by omega))
theorem sum_le (f : Nat → Nat) (B : Nat) : ∀ n : Nat, (∀ i, i < n → f i ≤ B) → ((List.range n).map f).sum ≤ n * B := by
  intro n
  induction n with
  | zero => intro _; simp
  | succ n ih =>
    intro h
    simp only [List.range_succ, List.map_append, List.sum_append, List.map_cons, List.map_nil, List.sum_cons, List.sum_nil]
    have := ih (fun i hi => h i (by omega)); have := h n (by omega)
    rw [Nat.succ_mul]; omega
theorem phi_start (n : Nat) (s : Int) (hn : n ≤ 10) (hs : 1 ≤ s) (hs5 : s ≤ 5) : Phi n s (bstart n) ≤ 160 := by
  have := sum_le (phi s (bstart n)) 16 n (fun i hi => by
    unfold phi bstart; dsimp only
    rw [rd_rep _ _ _ hi, rd_rep _ _ _ hi]
    rw [if_neg (by omega)]; omega)
  unfold Phi
  have : n * 16 ≤ 10 * 16 := Nat.mul_le_mul_right 16 hn
  omega
theorem phi_traj {n : Nat} {order : List Int} {s : Int} (hn : n ≤ 10) (hs : 1 ≤ s) (hs5 : s ≤ 5) (ho : IsOrd order n) : ∀ u, (∀ i, i < u → ¬ Done n (traj n order s i)) → Phi n s (traj n order s u) + u ≤ 160 := by
  intro u
  induction u with
  | zero => intro _; have := phi_start n s hn hs hs5; exact this
  | succ u ih =>
    intro h
    have h1 := ih (fun i hi => h i (by omega))
    have h2 := unit_less (t := ((u + 1 : Nat) : Int)) (by omega) (traj_wf hs ho u) ho (h u (by omega))
    have h3 : Phi n s (traj n order s (u + 1)) < Phi n s (traj n order s u) := h2
    omega
theorem least_done {n : Nat} {order : List Int} {s : Int} (hn : n ≤ 10) (hs : 1 ≤ s) (hs5 : s ≤ 5) (ho : IsOrd order n) :
    ∃ T, T ≤ 160 ∧ Done n (traj n order s T) ∧ ∀ u, u < T → ¬ Done n (traj n order s u) := by
  have key : ∀ d u, u + d = 161 → (∀ i, i < u → ¬ Done n (traj n order s i)) → ∃ T, T ≤ 160 ∧ Done n (traj n order s T) ∧ ∀ u, u < T → ¬ Done n (traj n order s u) := by
    intro d
    induction d with
    | zero => intro u hu h; have := phi_traj hn hs hs5 ho u h; omega
    | succ d ih =>
      intro u hu h
      by_cases hd : Done n (traj n order s u)
      · exact ⟨u, by omega, hd, h⟩
      · refine ih (u + 1) (by omega) (fun i hi => ?_)
        by_cases e : i = u
        · rw [e]; exact hd
        · exact h i (by omega)
  exact key 161 0 (by omega) (fun i hi => by omega)
abbrev BT := List Int × List Int × List Int × List Int × List Int × List Int
def BC.t (c : BC) : BT := (c.ai, c.at_, c.sw, c.en, c.sa, c.wa)
theorem run_unit {n : Nat} {order : List Int} {s : Int} (hn : n ≤ 10) (hs5 : s ≤ 5) (ho : IsOrd order n) (t : Int) (u : Nat) (hu : u ≤ 200) (r : BT) (c' : BC)
    (hk : Ev (fun k => spec_l7Run.l0 k (n : Int) s order t (((u + 1) + 1 : Nat) : Int) c'.ai c'.at_ c'.sw c'.en c'.sa c'.wa) r) :
    ∀ (d j : Nat) (c : BC), j + d = order.length → BW n s c → unitOf (order.drop j) ((u + 1 : Nat) : Int) s c = c' →
      Ev (fun k => spec_l7Run.l1 k (n : Int) s order t ((u + 1 : Nat) : Int) (j : Int) c.ai c.at_ c.sw c.en c.sa c.wa) r := by
  have hol := ho.1
  intro d
  induction d with
  | zero =>
    intro j c hj hc he
    rw [List.drop_of_length_le (by omega)] at he
    obtain rfl : c = c' := he
    refine Ev.succ ?_
    simp only [spec_l7Run.l1.eq_2]
    refine Ev.neg (by omega) ?_
    rw [w64 (by omega) (by omega)]
    exact hk
  | succ d ih =>
    intro j c hj hc he
    have hx := ord_range ho order[j] (List.getElem_mem (by omega))
    obtain ⟨q, hq⟩ := Int.eq_ofNat_of_zero_le hx.1
    rw [List.drop_eq_getElem_cons (by omega)] at he
    refine Ev.succ ?_
    simp only [spec_l7Run.l1.eq_2]
    refine Ev.pos (by omega) (Ev.pos (by omega) (Ev.pos (by omega) ?_))
    rw [rd_nat order j (by omega), hq]
    refine Ev.bindc (act_spec hc q (by omega) ((u + 1 : Nat) : Int) hs5 hn) ?_
    rw [w64 (by omega) (by omega)]
    refine ih (j + 1) (act c q ((u + 1 : Nat) : Int) s) (by omega) (act_wf hc q (by omega) _ (by omega)) ?_
    rw [← he, hq]; rfl
theorem run_ev {n : Nat} {order : List Int} {s : Int} (hn : n ≤ 10) (hs : 1 ≤ s) (hs5 : s ≤ 5) (ho : IsOrd order n) {T : Nat} (hT : T ≤ 160) (hd : Done n (traj n order s T)) (hu : ∀ u, u < T → ¬ Done n (traj n order s u)) (t : Int) :
    ∀ (d u : Nat), u + d = T → (0 ≤ t → (u : Int) ≤ t) → Ev (fun k => spec_l7Run.l0 k (n : Int) s order t ((u + 1 : Nat) : Int) (traj n order s u).ai (traj n order s u).at_ (traj n order s u).sw (traj n order s u).en (traj n order s u).sa (traj n order s u).wa) (traj n order s (if t < 0 then T else min t.toNat T)).t := by
  intro d
  induction d with
  | zero =>
    intro u hj ht
    obtain rfl : u = T := by omega
    have hw := traj_wf hs ho u
    have hm := (done_mem hw.lsa).mp hd
    have hx := has_ev (traj n order s u).sa 0 (by have := hw.lsa; omega)
    rw [show decide ((0 : Int) ∈ (traj n order s u).sa) = false from decide_eq_false hm] at hx
    refine Ev.succ ?_
    simp only [spec_l7Run.l0.eq_2]
    by_cases c1 : t < 0
    · rw [if_pos c1]
      refine Ev.pos c1 (Ev.bind hx (Ev.succ ?_))
      simp only [spec_l7Run.j1.eq_2]
      exact Ev.neg (by decide) (Ev.now _)
    · rw [if_neg c1, show min t.toNat u = u by have := ht (by omega); omega]
      refine Ev.neg c1 ?_
      by_cases c2 : ((u + 1 : Nat) : Int) ≤ t
      · refine Ev.pos c2 (Ev.bind hx (Ev.succ ?_))
        simp only [spec_l7Run.j1.eq_2]
        exact Ev.neg (by decide) (Ev.now _)
      · refine Ev.neg c2 (Ev.succ ?_)
        simp only [spec_l7Run.j1.eq_2]
        exact Ev.neg (by decide) (Ev.now _)
  | succ d ih =>
    intro u hj ht
    have hw := traj_wf hs ho u
    have hm : (0 : Int) ∈ (traj n order s u).sa := Classical.byContradiction fun h => hu u (by omega) ((done_mem hw.lsa).mpr h)
    have hx := has_ev (traj n order s u).sa 0 (by have := hw.lsa; omega)
    rw [show decide ((0 : Int) ∈ (traj n order s u).sa) = true from decide_eq_true hm] at hx
    refine Ev.succ ?_
    simp only [spec_l7Run.l0.eq_2]
    have go : (0 ≤ t → ((u + 1 : Nat) : Int) ≤ t) → Ev (fun k => spec_l7Run.j1 k (n : Int) s order t ((u + 1 : Nat) : Int) true (traj n order s u).ai (traj n order s u).at_ (traj n order s u).sw (traj n order s u).en (traj n order s u).sa (traj n order s u).wa) (traj n order s (if t < 0 then T else min t.toNat T)).t := by
      intro h
      refine Ev.succ ?_
      simp only [spec_l7Run.j1.eq_2]
      refine Ev.pos (by trivial) ?_
      exact run_unit hn hs5 ho t u (by omega) _ (traj n order s (u + 1)) (ih (u + 1) (by omega) h) order.length 0 _ (by omega) hw rfl
    by_cases c1 : t < 0
    · exact Ev.pos c1 (Ev.bind hx (go (fun h => by omega)))
    · refine Ev.neg c1 ?_
      by_cases c2 : ((u + 1 : Nat) : Int) ≤ t
      · exact Ev.pos c2 (Ev.bind hx (go (fun _ => c2)))
      · refine Ev.neg c2 (Ev.succ ?_)
        simp only [spec_l7Run.j1.eq_2]
        rw [if_neg c1, show min t.toNat T = u by have := ht (by omega); omega]
        exact Ev.neg (by decide) (Ev.now _)
theorem start_loop (n : Nat) (hn : n ≤ 10) (a b c d : List Int) : ∀ (m i : Nat), i + m = n → Ev (fun k => spec_l7Start.l0 k (n : Int) (i : Int) (List.replicate i (-1)) (List.replicate i (-1)) a b c d) (List.replicate n (-1), List.replicate n (-1), a, b, c, d) := by
  intro m
  induction m with
  | zero =>
    intro i hi
    refine Ev.succ ?_
    simp only [spec_l7Start.l0.eq_2]
    rw [show i = n by omega]
    exact Ev.neg (by omega) (Ev.now _)
  | succ m ih =>
    intro i hi
    refine Ev.succ ?_
    simp only [spec_l7Start.l0.eq_2]
    refine Ev.pos (by omega) (Ev.pos (by simp; omega) (Ev.pos (by simp; omega) ?_))
    rw [w64 (by omega) (by omega), ← List.replicate_succ']
    exact ih (i + 1) (by omega)
theorem l7Run_ev {n : Nat} {order : List Int} {s : Int} (hn : n ≤ 10) (hs : 1 ≤ s) (hs5 : s ≤ 5) (ho : IsOrd order n) {T : Nat} (hT : T ≤ 160) (hd : Done n (traj n order s T)) (hu : ∀ u, u < T → ¬ Done n (traj n order s u)) (t : Int) :
    Ev (fun k => spec_l7Run.f k (n : Int) s order t) (traj n order s (if t < 0 then T else min t.toNat T)).t := by
  unfold spec_l7Run.f
  refine Ev.bind (a := (bstart n).t) ?_ (run_ev hn hs hs5 ho hT hd hu t T 0 (by omega) (fun h => h))
  unfold spec_l7Start.f
  exact Ev.pos (by omega) (Ev.pos (by omega) (start_loop n hn _ _ _ _ n 0 (by omega)))
abbrev BO := List Int × List Int × List Int × List (List Int)
def aisles (n : Nat) (order : List Int) (s : Int) (u : Nat) : List (List Int) := (List.range (u + 1)).map fun i => (traj n order s i).ai
theorem board_unit {n : Nat} {order : List Int} {s : Int} (hn : n ≤ 10) (hs5 : s ≤ 5) (ho : IsOrd order n) (u : Nat) (hu : u ≤ 200) (r : BO) (c' : BC) (hc'l : c'.ai.length = n) (ax : List (List Int)) (hax : ax.length ≤ 300)
    (hk : Ev (fun k => impl_board.l0 k (n : Int) s order (plOf n c') c'.sw c'.ai ((zc c'.sa : Nat) : Int) (((u + 1) + 1 : Nat) : Int) c'.sa c'.en c'.wa (ax ++ [c'.ai])) r) :
    ∀ (d j : Nat) (c : BC), j + d = order.length → BW n s c → unitOf (order.drop j) ((u + 1 : Nat) : Int) s c = c' →
      Ev (fun k => impl_board.l1 k (n : Int) s order (plOf n c) c.sw c.ai ((zc c.sa : Nat) : Int) ((u + 1 : Nat) : Int) order (order.length : Int) (j : Int) c.sa c.en c.wa ax) r := by
  have hol := ho.1
  intro d
  induction d with
  | zero =>
    intro j c hj hc he
    rw [List.drop_of_length_le (by omega)] at he
    obtain rfl : c = c' := he
    refine Ev.succ ?_
    simp only [impl_board.l1.eq_2]
    refine Ev.neg (by omega) (Ev.bindc (a := c.ai) (by unfold slices_Clone_int_int.f; rw [if_pos (by omega)]) (Ev.pos (by omega) ?_))
    rw [w64 (by omega) (by omega)]
    exact hk
  | succ d ih =>
    intro j c hj hc he
    have hx := ord_range ho order[j] (List.getElem_mem (by omega))
    obtain ⟨q, hq⟩ := Int.eq_ofNat_of_zero_le hx.1
    rw [List.drop_eq_getElem_cons (by omega)] at he
    refine Ev.step (fun k => l1_act hc j q (by omega) (by omega) (by omega) (by rw [rd_nat order j (by omega), hq]) ((u + 1 : Nat) : Int) (by omega) hs5 hn ax k) ?_
    refine ih (j + 1) (act c q ((u + 1 : Nat) : Int) s) (by omega) (act_wf hc q (by omega) _ (by omega)) ?_
    rw [← he, hq]; rfl
theorem board_loop {n : Nat} {order : List Int} {s : Int} (hn : n ≤ 10) (hs : 1 ≤ s) (hs5 : s ≤ 5) (ho : IsOrd order n) {T : Nat} (hT : T ≤ 160) (hd : Done n (traj n order s T)) (hu : ∀ u, u < T → ¬ Done n (traj n order s u)) :
    ∀ (d u : Nat), u + d = T → Ev (fun k => impl_board.l0 k (n : Int) s order (plOf n (traj n order s u)) (traj n order s u).sw (traj n order s u).ai ((zc (traj n order s u).sa : Nat) : Int) ((u + 1 : Nat) : Int) (traj n order s u).sa (traj n order s u).en (traj n order s u).wa (aisles n order s u))
      ((traj n order s T).sa, (traj n order s T).en, (traj n order s T).wa, aisles n order s T) := by
  intro d
  induction d with
  | zero =>
    intro u hj
    obtain rfl : u = T := by omega
    have hm := (done_mem (traj_wf hs ho u).lsa).mp hd
    refine Ev.succ ?_
    simp only [impl_board.l0.eq_2]
    have := mt (zc_pos (traj n order s u).sa).mp hm
    exact Ev.neg (by omega) (Ev.now _)
  | succ d ih =>
    intro u hj
    have hw := traj_wf hs ho u
    have hm : (0 : Int) ∈ (traj n order s u).sa := Classical.byContradiction fun h => hu u (by omega) ((done_mem hw.lsa).mpr h)
    have hz := (zc_pos (traj n order s u).sa).mpr hm
    refine Ev.succ ?_
    simp only [impl_board.l0.eq_2]
    refine Ev.pos (by omega) ?_
    refine board_unit hn hs5 ho u (by omega) _ (traj n order s (u + 1)) (traj_wf hs ho (u + 1)).lai (aisles n order s u) (by simp [aisles]; omega) ?_ order.length 0 _ (by omega) hw rfl
    have := ih (u + 1) (by omega)
    rw [show aisles n order s (u + 1) = aisles n order s u ++ [(traj n order s (u + 1)).ai] by unfold aisles; rw [List.range_succ, List.map_append]; rfl] at this
    exact this
theorem board_ev {n : Nat} {order : List Int} {s : Int} (hn1 : 1 ≤ n) (hn : n ≤ 10) (hs : 1 ≤ s) (hs5 : s ≤ 5) (ho : IsOrd order n) {T : Nat} (hT : T ≤ 160) (hd : Done n (traj n order s T)) (hu : ∀ u, u < T → ¬ Done n (traj n order s u)) :
    Ev (fun k => impl_board.f k (n : Int) s order) ((traj n order s T).sa, (traj n order s T).en, (traj n order s T).wa, aisles n order s T) := by
  have hr : slices_Repeat_int_int.f [(-1)] (n : Int) = some (List.replicate n (-1)) := by
    unfold slices_Repeat_int_int.f; rw [if_pos (by simp; omega)]; rfl
  unfold impl_board.f
  refine Ev.pos (by omega) (Ev.pos (by omega) (Ev.bindc hr (Ev.bindc hr (Ev.bindc (a := List.replicate n (-1)) (by unfold slices_Clone_int_int.f; rw [if_pos (by simp; omega)]) (Ev.pos (by simp) ?_)))))
  have hp : plOf n (bstart n) = List.replicate n (-1) := rd_ext (plOf_len _ _) (by simp) (fun i hi => by
    rw [plOf_rd _ _ _ hi]; unfold bstart; dsimp only; rw [rd_rep _ _ _ hi, rd_rep _ _ _ hi, if_neg (by omega)])
  have hz : zc (bstart n).sa = n := by unfold zc bstart; simp [List.countP_replicate]
  have := board_loop hn hs hs5 ho hT hd hu T 0 (by omega)
  have e0 : traj n order s 0 = bstart n := rfl
  rw [e0, hp, hz] at this
  exact this
/-! asking, and the time -/
def BValid (n s : Int) (l : List Int) : Prop := 1 ≤ n ∧ n ≤ 10 ∧ 1 ≤ s ∧ s ≤ 5 ∧ IsOrd l n
theorem l7Ask_ev (n s : Int) (l : List Int) (hl : l.length ≤ 35184372088832) [Decidable (BValid n s l)] : Ev (fun k => spec_l7Ask.f k n s l) (decide (BValid n s l)) := by
  unfold spec_l7Ask.f
  have hr : spec_l7Rows.f n s = some (decide (1 ≤ n ∧ n ≤ 10) && decide (1 ≤ s ∧ s ≤ 5)) := by
    unfold spec_l7Rows.f
    rw [l1In_eq, Option.bind_some]
    by_cases h : 1 ≤ n ∧ n ≤ 10
    · rw [if_pos (decide_eq_true h), l1In_eq]; simp [h]
    · rw [if_neg (by simpa using h)]; simp [h]
  refine Ev.bindc hr ?_
  by_cases h : (1 ≤ n ∧ n ≤ 10) ∧ (1 ≤ s ∧ s ≤ 5)
  · refine Ev.pos (by simp [h.1, h.2]) (Ev.bind (l7Order_ev l n (by omega) (by omega) hl) ?_)
    rw [show decide (BValid n s l) = decide (IsOrd l n) by
      rw [Bool.eq_iff_iff]; simp only [decide_eq_true_eq]; unfold BValid; constructor
      · exact fun h => h.2.2.2.2
      · exact fun h2 => ⟨h.1.1, h.1.2, h.2.1, h.2.2, h2⟩]
    exact Ev.now _
  · refine Ev.neg (by simpa using fun h1 h2 h3 => by omega) ?_
    rw [show decide (BValid n s l) = false by
      simp only [decide_eq_false_iff_not]; unfold BValid; exact fun h2 => h ⟨⟨h2.1, h2.2.1⟩, h2.2.2.1, h2.2.2.2.1⟩]
    exact Ev.now _
theorem isBoarding_ev (n s : Int) (l : List Int) (hl : l.length ≤ 35184372088832) [Decidable (BValid n s l)] : Ev (fun k => impl_isBoarding.f k n s l) (decide (BValid n s l)) := by
  unfold impl_isBoarding.f
  have hp : impl_isPlaneRows.f n = some (decide (1 ≤ n ∧ n ≤ 10)) := by unfold impl_isPlaneRows.f; rw [within_eq]; rfl
  refine Ev.bindc hp ?_
  by_cases h : 1 ≤ n ∧ n ≤ 10
  · refine Ev.pos (decide_eq_true h) (Ev.bindc (within_eq _ _ _) ?_)
    by_cases h2 : 1 ≤ s ∧ s ≤ 5
    · refine Ev.pos (decide_eq_true h2) (Ev.bind (isOrder_ev l n (by omega) (by omega) hl) ?_)
      rw [show decide (BValid n s l) = decide (IsOrd l n) by
        rw [Bool.eq_iff_iff]; simp only [decide_eq_true_eq]; unfold BValid; constructor
        · exact fun h => h.2.2.2.2
        · exact fun h3 => ⟨h.1, h.2, h2.1, h2.2, h3⟩]
      exact Ev.now _
    · refine Ev.neg (by simpa using h2) ?_
      rw [show decide (BValid n s l) = false by
        simp only [decide_eq_false_iff_not]; unfold BValid; exact fun h3 => h2 ⟨h3.2.2.1, h3.2.2.2.1⟩]
      exact Ev.now _
  · refine Ev.neg (by simpa using h) ?_
    rw [show decide (BValid n s l) = false by
      simp only [decide_eq_false_iff_not]; unfold BValid; exact fun h3 => h ⟨h3.1, h3.2.1⟩]
    exact Ev.now _
instance (n s : Int) (l : List Int) : Decidable (BValid n s l) := by unfold BValid; infer_instance
theorem act_sat {n : Nat} {s : Int} {c : BC} (h : BW n s c) (r : Nat) (hr : r < n) (t : Int) (q : Nat) : rd (act c r t s).sa (q : Int) = rd c.sa (q : Int) ∨ rd (act c r t s).sa (q : Int) = t := by
  have := h.lsa
  unfold act
  split
  · exact .inl rfl
  · split
    · split <;> exact .inl rfl
    · split
      · split
        · dsimp only
          rw [rd_set _ _ _ _ (by omega)]
          split
          · exact .inr rfl
          · exact .inl rfl
        · exact .inl rfl
      · split <;> exact .inl rfl
theorem unit_sat {n : Nat} {s t : Int} (ht : 1 ≤ t) (q : Nat) : ∀ (l : List Int) (c : BC), BW n s c → (∀ x ∈ l, 0 ≤ x ∧ x < (n : Int)) → rd (unitOf l t s c).sa (q : Int) = rd c.sa (q : Int) ∨ rd (unitOf l t s c).sa (q : Int) = t := by
  intro l
  induction l with
  | nil => intro c _ _; exact .inl rfl
  | cons x l ih =>
    intro c h hx
    have hx0 := hx x (by simp)
    have hw := act_wf h x.toNat (by omega) t ht
    show rd (unitOf l t s (act c x.toNat t s)).sa (q : Int) = _ ∨ rd (unitOf l t s (act c x.toNat t s)).sa (q : Int) = _
    rcases ih (act c x.toNat t s) hw (fun y hy => hx y (by simp [hy])) with e | e
    · rw [e]; exact act_sat h _ (by omega) t q
    · exact .inr e
theorem sat_le {n : Nat} {order : List Int} {s : Int} (hs : 1 ≤ s) (ho : IsOrd order n) (q : Nat) (hq : q < n) : ∀ u : Nat, rd (traj n order s u).sa (q : Int) ≤ u
  | 0 => by show rd (bstart n).sa (q : Int) ≤ _; unfold bstart; dsimp only; rw [rd_rep _ _ _ hq]; omega
  | u + 1 => by
    have := sat_le hs ho q hq u
    rcases unit_sat (n := n) (s := s) (t := ((u + 1 : Nat) : Int)) (by omega) q order _ (traj_wf hs ho u) (ord_range ho) with e | e
    · show rd (unitOf order ((u + 1 : Nat) : Int) s (traj n order s u)).sa (q : Int) ≤ _; rw [e]; omega
    · show rd (unitOf order ((u + 1 : Nat) : Int) s (traj n order s u)).sa (q : Int) ≤ _; rw [e]; omega
theorem sat_last {n : Nat} {order : List Int} {s : Int} (hn : 1 ≤ n) (hs : 1 ≤ s) (ho : IsOrd order n) {T : Nat} (hd : Done n (traj n order s T)) (hu : ∀ u, u < T → ¬ Done n (traj n order s u)) : ∃ q : Nat, q < n ∧ rd (traj n order s T).sa (q : Int) = T := by
  cases T with
  | zero => exact absurd (by show rd (bstart n).sa ((0 : Nat) : Int) = 0; unfold bstart; dsimp only; rw [rd_rep _ _ _ (by omega)]) (hd 0 (by omega))
  | succ u =>
    have h := hu u (by omega)
    obtain ⟨q, hq⟩ := Classical.not_forall.mp h
    have hq1 : q < n := Classical.byContradiction fun c => hq (fun h => absurd h c)
    have hq2 : rd (traj n order s u).sa (q : Int) = 0 := Classical.byContradiction fun c => hq (fun _ => c)
    refine ⟨q, hq1, ?_⟩
    rcases unit_sat (n := n) (s := s) (t := ((u + 1 : Nat) : Int)) (by omega) q order _ (traj_wf hs ho u) (ord_range ho) with e | e
    · exact absurd (e.trans hq2) (hd q hq1)
    · exact e
theorem l1Most_eq (a b : Int) : spec_l1Most.f a b = some (max a b) := by
  unfold spec_l1Most.f
  by_cases h : a > b
  · rw [if_pos h, Int.max_eq_left (by omega)]
  · rw [if_neg h, Int.max_eq_right (by omega)]
theorem time_loop (n : Nat) (hn : n ≤ 10) (l : List Int) (hl : l.length = n) (M : Int) (hM : ∀ i : Nat, i < n → rd l (i : Int) ≤ M) : ∀ (d i : Nat) (acc : Int), i + d = n → acc ≤ M → (acc = M ∨ ∃ j : Nat, i ≤ j ∧ j < n ∧ rd l (j : Int) = M) →
    Ev (fun k => spec_l7Time.l0 k (n : Int) acc l (i : Int)) M := by
  intro d
  induction d with
  | zero =>
    intro i acc hi h1 h2
    have : acc = M := by
      rcases h2 with h | ⟨j, a, b, _⟩
      · exact h
      · omega
    subst this
    refine Ev.succ ?_
    simp only [spec_l7Time.l0.eq_2]
    exact Ev.neg (by omega) (Ev.now _)
  | succ d ih =>
    intro i acc hi h1 h2
    have h3 := hM i (by omega)
    refine Ev.succ ?_
    simp only [spec_l7Time.l0.eq_2]
    refine Ev.pos (by omega) (Ev.pos (by omega) (Ev.pos (by omega) (Ev.bindc (l1Most_eq _ _) ?_)))
    rw [w64 (by omega) (by omega)]
    refine ih (i + 1) _ (by omega) (by omega) ?_
    rcases h2 with h | ⟨j, a, b, c⟩
    · exact .inl (by omega)
    · by_cases e : j = i
      · subst e; exact .inl (by omega)
      · exact .inr ⟨j, by omega, b, c⟩
theorem l7Time_ev {n : Nat} {order : List Int} {s : Int} (hn1 : 1 ≤ n) (hn : n ≤ 10) (hs : 1 ≤ s) (hs5 : s ≤ 5) (ho : IsOrd order n) {T : Nat} (hT : T ≤ 160) (hd : Done n (traj n order s T)) (hu : ∀ u, u < T → ¬ Done n (traj n order s u)) :
    Ev (fun k => spec_l7Time.f k (n : Int) s order) (T : Int) := by
  unfold spec_l7Time.f
  have h := l7Run_ev hn hs hs5 ho hT hd hu (-1)
  rw [if_pos (by omega)] at h
  refine Ev.bind h ?_
  obtain ⟨q, h1, h2⟩ := sat_last hn1 hs ho hd hu
  exact time_loop n hn _ (traj_wf hs ho T).lsa (T : Int) (fun i hi => sat_le hs ho i hi T) n 0 0 (by omega) (by omega) (.inr ⟨q, by omega, h1, h2⟩)
/-- a list of bytes -/
def Bytes8 (l : List Int) : Prop := ∀ x ∈ l, 0 ≤ x ∧ x ≤ 255
theorem and255 (x : Int) (h0 : 0 ≤ x) (h1 : x < 4294967296) : 0 ≤ Go.bits .and .u64 x 255 ∧ Go.bits .and .u64 x 255 ≤ 255 := by
  have h := (bits_nat .u64 64 (by decide) (fun n h0 h1 => by rw [IntKind.wrap_u64]; omega) x.toNat 255 (by omega) (by omega)).1
  rw [Int.toNat_of_nonneg h0] at h
  rw [show (255 : Int) = ((255 : Nat) : Int) from rfl, h]
  have := Nat.and_le_right (n := x.toNat) (m := 255)
  omega
theorem u64_range (x : Int) : 0 ≤ IntKind.u64.wrap x ∧ IntKind.u64.wrap x < 18446744073709551616 := by
  rw [IntKind.wrap_u64]; omega
theorem next_ok (s : List Int) (hs : Bytes8 s) (hl : s.length ≤ 1000000) (p st : Int) (h0 : 0 ≤ p) (h1 : p ≤ 1000000) :
    ∃ v q, spec_l1Cur_next.f s p st = some (v, p + 1, q) ∧ 0 ≤ v ∧ v ≤ 255 := by
  unfold spec_l1Cur_next.f
  have hw : wrap64 (p + 1) = p + 1 := w64 (by omega) (by omega)
  rw [hw]
  have hand : ∀ y : Int, 0 ≤ wrap64 (Go.bits .and .u64 (IntKind.u64.wrap y / 1099511627776) 255) ∧ wrap64 (Go.bits .and .u64 (IntKind.u64.wrap y / 1099511627776) 255) ≤ 255 := fun y => by
    have h := u64_range y
    have := and255 (IntKind.u64.wrap y / 1099511627776) (by omega) (by omega)
    rw [w64 (by omega) (by omega)]; exact this
  by_cases c : p < (s.length : Int)
  · rw [if_pos c, if_pos h0]
    have hm : rd s p ∈ s := by
      obtain ⟨n, rfl⟩ : ∃ n : Nat, p = (n : Int) := ⟨p.toNat, by omega⟩
      rw [rd_nat s n (by omega)]; exact List.getElem_mem _
    have hv := hs _ hm
    by_cases d : p + 1 ≤ (s.length : Int)
    · rw [if_pos d]; exact ⟨_, _, rfl, by rw [w64 (by omega) (by omega)]; exact hv⟩
    · rw [if_neg d]; exact ⟨_, _, rfl, hand _⟩
  · rw [if_neg c]
    by_cases d : p + 1 ≤ (s.length : Int)
    · rw [if_pos d]; exact ⟨_, _, rfl, by omega, by omega⟩
    · rw [if_neg d]; exact ⟨_, _, rfl, hand _⟩
theorem pick_ok (s : List Int) (hs : Bytes8 s) (hl : s.length ≤ 1000000) (p st a : Int) (h0 : 0 ≤ p) (h1 : p ≤ 1000000) (ha : a ≤ 200) :
    ∃ v p' q, spec_l1Cur_pick.f s p st a = some (v, p', q) ∧ 0 ≤ v ∧ (v < a ∨ v = 0) ∧ p ≤ p' ∧ p' ≤ p + 1 := by
  unfold spec_l1Cur_pick.f
  by_cases c : a ≤ 1
  · rw [if_pos c]; exact ⟨_, _, _, rfl, by omega, .inr rfl, by omega, by omega⟩
  · rw [if_neg c]
    obtain ⟨v, q, e, hv0, hv1⟩ := next_ok s hs hl p st h0 h1
    rw [e]
    simp only [Option.bind_some]
    rw [if_neg (by omega), if_neg (by omega)]
    refine ⟨_, _, _, rfl, Int.tmod_nonneg _ hv0, .inl ?_, by omega, by omega⟩
    exact Int.tmod_lt_of_pos _ (by omega)
theorem among_ok (s : List Int) (hs : Bytes8 s) (hl : s.length ≤ 1000000) (p st : Int) (l : List Int) (h0 : 0 ≤ p) (h1 : p ≤ 1000000) (hn : 0 < l.length) (hm : l.length ≤ 200) :
    ∃ v p' q, spec_l1Cur_among.f s p st l = some (v, p', q) ∧ v ∈ l ∧ p ≤ p' ∧ p' ≤ p + 1 := by
  unfold spec_l1Cur_among.f
  obtain ⟨v, p', q, e, hv0, hv1, hp0, hp1⟩ := pick_ok s hs hl p st (l.length : Int) h0 h1 (by omega)
  rw [e]
  simp only [Option.bind_some]
  have hv : v < (l.length : Int) := by omega
  rw [if_pos hv0, if_pos hv]
  refine ⟨_, _, _, rfl, ?_, hp0, hp1⟩
  obtain ⟨n, rfl⟩ : ∃ n : Nat, v = (n : Int) := ⟨v.toNat, by omega⟩
  rw [rd_nat l n (by omega)]; exact List.getElem_mem _
theorem swOwn_eq (l : List Int) (hl : l.length ≤ 35184) : spec_l1Own.f l = some l := by
  unfold spec_l1Own.f
  simp only [Option.bind_some, List.nil_append, List.length_nil]
  rw [if_pos (by omega)]
theorem swap_ord {l : List Int} {n : Int} (h : IsOrd l n) (i : Nat) (hi : i + 1 < l.length) : IsOrd ((l.set i (rd l ((i : Int) + 1))).set (i + 1) (rd l (i : Int))) n := by
  rw [show ((i : Int) + 1) = ((i + 1 : Nat) : Int) by omega, rd_nat l i (by omega), rd_nat l (i + 1) hi]
  refine ⟨by simpa using h.1, fun q hq => ?_⟩
  obtain ⟨j, hj, he⟩ := List.getElem_of_mem (h.2 q hq)
  have g : ∀ p, p < l.length → ((l.set i l[i + 1]).set (i + 1) l[i])[p]? = some (if i + 1 = p then l[i] else if i = p then l[i + 1] else l.getD p 0) := by
    intro p hp
    rw [List.getElem?_set, List.getElem?_set]
    by_cases e : i + 1 = p
    · rw [if_pos e, if_pos e, if_pos (by simp; omega)]
    · rw [if_neg e, if_neg e]
      by_cases e2 : i = p
      · rw [if_pos e2, if_pos e2, if_pos (by omega)]
      · rw [if_neg e2, if_neg e2, List.getElem?_eq_getElem hp]; simp [hp]
  by_cases e1 : j = i
  · subst e1
    have := g (j + 1) hi
    rw [if_pos rfl] at this
    rw [← he]
    exact List.mem_of_getElem? this
  · by_cases e2 : j = i + 1
    · subst e2
      have := g i (by omega)
      rw [if_neg (by omega), if_pos rfl] at this
      rw [← he]
      exact List.mem_of_getElem? this
    · have := g j hj
      rw [if_neg (fun e => e2 e.symm), if_neg (fun e => e1 e.symm)] at this
      rw [show l.getD j 0 = (q : Int) by rw [← he]; simp [hj]] at this
      exact List.mem_of_getElem? this
theorem bd_time (m : Nat) (l : List Int) (s : Int) (T : Nat) (hT : T ≤ 160) : impl_boarding_time.f (traj m l s T).sa (traj m l s T).en (traj m l s T).wa (aisles m l s T) = some (T : Int) := by
  unfold impl_boarding_time.f
  rw [w64 (by simp [aisles] <;> omega) (by simp [aisles] <;> omega)]
  simp [aisles]
theorem aisles_get (n : Nat) (order : List Int) (s : Int) (T i : Nat) (hi : i ≤ T) : rd_L2 (aisles n order s T) (i : Int) = (traj n order s i).ai := by
  unfold rd_L2 aisles
  rw [Int.toNat_natCast, List.getD_eq_getElem?_getD, List.getElem?_map, List.getElem?_range (by omega)]; rfl
theorem mn_eq (a b : Int) : mn a b = min a b := by unfold mn; split <;> omega
/-- who has entered -/
def Ent (c : BC) (r : Nat) : Prop := rd c.sa (r : Int) > 0 ∨ 0 ≤ rd c.at_ (r : Int)
/-- one traveler's times, t units gone -/
structure RI (s : Int) (r : Nat) (t : Int) (c : BC) : Prop where
  out : rd c.sa (r : Int) = 0 → rd c.at_ (r : Int) < 0 → rd c.en (r : Int) = 0 ∧ rd c.wa (r : Int) = 0 ∧ rd c.sw (r : Int) = 0
  ins : rd c.sa (r : Int) = 0 → 0 ≤ rd c.at_ (r : Int) → 1 ≤ rd c.en (r : Int) ∧ rd c.en (r : Int) + rd c.at_ (r : Int) + rd c.wa (r : Int) + rd c.sw (r : Int) = t
  sit : rd c.sa (r : Int) > 0 → rd c.sa (r : Int) = rd c.en (r : Int) + r + rd c.wa (r : Int) + s ∧ 1 ≤ rd c.en (r : Int) ∧ rd c.sa (r : Int) ≤ t
  wlo : 0 ≤ rd c.wa (r : Int)
  whi : rd c.wa (r : Int) ≤ t
/-- the aisle tells who stands where -/
structure OC (n : Nat) (c : BC) : Prop where
  who : ∀ q : Nat, q < n → 0 ≤ rd c.ai (q : Int) → ∃ r : Nat, r < n ∧ rd c.ai (q : Int) = (r : Int) ∧ rd c.sa (r : Int) = 0 ∧ rd c.at_ (r : Int) = (q : Int)
  where_ : ∀ r : Nat, r < n → rd c.sa (r : Int) = 0 → 0 ≤ rd c.at_ (r : Int) → rd c.ai (rd c.at_ (r : Int)) = (r : Int)
theorem rd_set2 (l : List Int) (i : Nat) (x : Int) (v : Int) (hi : i < l.length) (hx : 0 ≤ x) : rd (l.set i v) x = if (i : Int) = x then v else rd l x := by
  obtain ⟨j, rfl⟩ : ∃ j : Nat, x = (j : Int) := ⟨x.toNat, by omega⟩
  rw [rd_set l i j v hi]
  by_cases e : i = j
  · rw [if_pos e, if_pos (by omega)]
  · rw [if_neg e, if_neg (by omega)]
/-- what one act does, in six ways -/
inductive Way (n : Nat) (s : Int) (c : BC) (r : Nat) (t : Int) (c' : BC) : Prop
  | seated (h : rd c.sa r > 0) (e : c' = c)
  | enters (h : rd c.sa r = 0) (ha : rd c.at_ r < 0) (hf : rd c.ai 0 < 0) (e : c' = { c with ai := c.ai.set 0 r, at_ := c.at_.set r 0, en := c.en.set r t })
  | outside (h : rd c.sa r = 0) (ha : rd c.at_ r < 0) (hf : 0 ≤ rd c.ai 0) (e : c' = c)
  | sits (h : rd c.sa r = 0) (ha : rd c.at_ r = r) (hs : rd c.sw r + 1 = s) (e : c' = { c with sw := c.sw.set r (rd c.sw r + 1), sa := c.sa.set r t, ai := c.ai.set r (-1) })
  | stows (h : rd c.sa r = 0) (ha : rd c.at_ r = r) (hs : rd c.sw r + 1 ≠ s) (e : c' = { c with sw := c.sw.set r (rd c.sw r + 1) })
  | walks (h : rd c.sa r = 0) (h0 : 0 ≤ rd c.at_ r) (ha : rd c.at_ r < r) (hf : rd c.ai (rd c.at_ r + 1) < 0) (e : c' = { c with ai := (c.ai.set (rd c.at_ r).toNat (-1)).set (rd c.at_ r + 1).toNat r, at_ := c.at_.set r (rd c.at_ r + 1) })
  | waits (h : rd c.sa r = 0) (h0 : 0 ≤ rd c.at_ r) (ha : rd c.at_ r < r) (hf : 0 ≤ rd c.ai (rd c.at_ r + 1)) (e : c' = { c with wa := c.wa.set r (wrap64 (rd c.wa r + 1)) })
theorem act_way {n : Nat} {s : Int} {c : BC} (h : BW n s c) (r : Nat) (hr : r < n) (t : Int) : Way n s c r t (act c r t s) := by
  have h3 := h.sn r hr
  have h2 := h.hi r hr
  unfold act
  by_cases c1 : rd c.sa r > 0
  · rw [if_pos c1]; exact .seated c1 rfl
  rw [if_neg c1]
  have c0 : rd c.sa r = 0 := by omega
  by_cases c2 : rd c.at_ r < 0
  · rw [if_pos c2]
    by_cases c3 : rd c.ai 0 < 0
    · rw [if_pos c3]; exact .enters c0 c2 c3 rfl
    · rw [if_neg c3]; exact .outside c0 c2 (by omega) rfl
  rw [if_neg c2]
  by_cases c3 : rd c.at_ r = r
  · rw [if_pos c3]
    by_cases c4 : rd c.sw r + 1 = s
    · rw [if_pos c4]; exact .sits c0 c3 c4 rfl
    · rw [if_neg c4]; exact .stows c0 c3 c4 rfl
  rw [if_neg c3]
  by_cases c4 : rd c.ai (rd c.at_ r + 1) < 0
  · rw [if_pos c4]; exact .walks c0 (by omega) (by omega) c4 rfl
  · rw [if_neg c4]; exact .waits c0 (by omega) (by omega) (by omega) rfl
/-- the others' own numbers stay -/
theorem act_other {n : Nat} {s : Int} {c : BC} (h : BW n s c) (r : Nat) (hr : r < n) (t : Int) (q : Nat) (hq : q ≠ r) :
    rd (act c r t s).at_ (q : Int) = rd c.at_ (q : Int) ∧ rd (act c r t s).sw (q : Int) = rd c.sw (q : Int) ∧ rd (act c r t s).en (q : Int) = rd c.en (q : Int) ∧ rd (act c r t s).sa (q : Int) = rd c.sa (q : Int) ∧ rd (act c r t s).wa (q : Int) = rd c.wa (q : Int) := by
  have := h.lat; have := h.lsw; have := h.len; have := h.lsa; have := h.lwa
  have hs : ∀ (l : List Int) (v : Int), l.length = n → rd (l.set r v) (q : Int) = rd l (q : Int) := fun l v hl => by
    rw [rd_set _ _ _ _ (by omega), if_neg (by omega)]
  rcases act_way h r hr t with ⟨_, e⟩ | ⟨_, _, _, e⟩ | ⟨_, _, _, e⟩ | ⟨_, _, _, e⟩ | ⟨_, _, _, e⟩ | ⟨_, _, _, _, e⟩ | ⟨_, _, _, _, e⟩ <;> rw [e] <;> (try dsimp only) <;> refine ⟨?_, ?_, ?_, ?_, ?_⟩ <;> first | rfl | exact hs _ _ (by omega)
theorem ri_other {n : Nat} {s : Int} {c : BC} (h : BW n s c) (r : Nat) (hr : r < n) (t : Int) (q : Nat) (hq : q ≠ r) (τ : Int) (hi : RI s q τ c) : RI s q τ (act c r t s) := by
  obtain ⟨e1, e2, e3, e4, e5⟩ := act_other h r hr t q hq
  obtain ⟨a, b, d, f, g⟩ := hi
  constructor <;> (simp only [e1, e2, e3, e4, e5]; assumption)
theorem ent_other {n : Nat} {s : Int} {c : BC} (h : BW n s c) (r : Nat) (hr : r < n) (t : Int) (q : Nat) (hq : q ≠ r) : Ent (act c r t s) q ↔ Ent c q := by
  obtain ⟨e1, e2, e3, e4, e5⟩ := act_other h r hr t q hq
  unfold Ent
  rw [e1, e4]
theorem ri_own {n : Nat} {s : Int} {c : BC} (h : BW n s c) (r : Nat) (hr : r < n) (t : Int) (ht : 1 ≤ t) (ht2 : t ≤ 1000) (hi : RI s r (t - 1) c) : RI s r t (act c r t s) := by
  have := h.lat; have := h.lsw; have := h.len; have := h.lsa; have := h.lwa
  have hs : ∀ (l : List Int) (v : Int), l.length = n → rd (l.set r v) (r : Int) = v := fun l v hl => by
    rw [rd_set _ _ _ _ (by omega), if_pos rfl]
  obtain ⟨a, b, d, f, g⟩ := hi
  rcases act_way h r hr t with ⟨h0, e⟩ | ⟨h0, h1, h2, e⟩ | ⟨h0, h1, h2, e⟩ | ⟨h0, h1, h2, e⟩ | ⟨h0, h1, h2, e⟩ | ⟨h0, h1, h2, h3, e⟩ | ⟨h0, h1, h2, h3, e⟩ <;> rw [e]
  · have d1 := d h0
    exact ⟨fun h => by omega, fun h => by omega, fun _ => ⟨d1.1, d1.2.1, by omega⟩, f, by (try dsimp only); omega⟩
  · have a1 := a h0 h1
    refine ⟨fun _ h => ?_, fun _ _ => ?_, fun h => ?_, f, by (try dsimp only); omega⟩
    · dsimp only at h; rw [hs _ _ (by omega)] at h; omega
    · dsimp only; rw [hs _ _ (by omega), hs _ _ (by omega)]; omega
    · dsimp only at h; omega
  · have a1 := a h0 h1
    exact ⟨fun _ _ => a1, fun _ h => by omega, fun h => by omega, f, by (try dsimp only); omega⟩
  · have b1 := b h0 (by omega)
    refine ⟨fun h => ?_, fun h => ?_, fun _ => ?_, f, by (try dsimp only); omega⟩
    · dsimp only at h; rw [hs _ _ (by omega)] at h; omega
    · dsimp only at h; rw [hs _ _ (by omega)] at h; omega
    · dsimp only; rw [hs _ _ (by omega)]; omega
  · have b1 := b h0 (by omega)
    refine ⟨fun _ h => by (try dsimp only at h); omega, fun _ _ => ?_, fun h => by (try dsimp only at h); omega, f, by (try dsimp only); omega⟩
    dsimp only; rw [hs _ _ (by omega)]; omega
  · have b1 := b h0 h1
    refine ⟨fun _ h => ?_, fun _ _ => ?_, fun h => by (try dsimp only at h); omega, f, by (try dsimp only); omega⟩
    · dsimp only at h; rw [hs _ _ (by omega)] at h; omega
    · dsimp only; rw [hs _ _ (by omega)]; omega
  · have b1 := b h0 h1
    have hw : wrap64 (rd c.wa r + 1) = rd c.wa r + 1 := w64 (by omega) (by omega)
    refine ⟨fun _ h => by (try dsimp only at h); omega, fun _ _ => ?_, fun h => by (try dsimp only at h); omega, ?_, ?_⟩
    · dsimp only; rw [hs _ _ (by omega), hw]; omega
    · dsimp only; rw [hs _ _ (by omega), hw]; omega
    · dsimp only; rw [hs _ _ (by omega), hw]; omega
theorem oc_act {n : Nat} {s : Int} {c : BC} (h : BW n s c) (r : Nat) (hr : r < n) (t : Int) (ht : 1 ≤ t) (ho : OC n c) : OC n (act c r t s) := by
  have lai := h.lai; have lat := h.lat; have := h.lsw; have := h.len; have lsa := h.lsa; have := h.lwa
  obtain ⟨o1, o2⟩ := ho
  have hlo := h.lo
  have hhi := h.hi
  rcases act_way h r hr t with ⟨h0, e⟩ | ⟨h0, h1, h2, e⟩ | ⟨h0, h1, h2, e⟩ | ⟨h0, h1, h2, e⟩ | ⟨h0, h1, h2, e⟩ | ⟨h0, h1, h2, h3, e⟩ | ⟨h0, h1, h2, h3, e⟩ <;> rw [e]
  · exact ⟨o1, o2⟩
  · constructor
    · intro q hq hp
      dsimp only at hp ⊢
      rw [rd_set _ _ _ _ (by omega)] at hp ⊢
      by_cases c0 : 0 = q
      · subst c0
        refine ⟨r, hr, by rw [if_pos rfl], h0, ?_⟩
        rw [rd_set _ _ _ _ (by omega), if_pos rfl]; rfl
      · rw [if_neg c0] at hp ⊢
        obtain ⟨x, x1, x2, x3, x4⟩ := o1 q hq hp
        refine ⟨x, x1, x2, x3, ?_⟩
        rw [rd_set _ _ _ _ (by omega), if_neg (fun e_ => by subst e_; omega)]
        exact x4
    · intro x hx hs hp
      dsimp only at hs hp ⊢
      rw [rd_set _ _ _ _ (by omega)] at hp ⊢
      by_cases c0 : r = x
      · subst c0
        rw [if_pos rfl, rd_set2 _ _ _ _ (by omega) (by omega)]
        simp
      · rw [if_neg c0] at hp ⊢
        have x1 := o2 x hx hs hp
        rw [rd_set2 _ _ _ _ (by omega) hp]
        by_cases c1 : ((0 : Nat) : Int) = rd c.at_ (x : Int)
        · rw [← c1] at x1
          simp only [Int.natCast_zero] at x1
          omega
        · rw [if_neg c1]; exact x1
  · exact ⟨o1, o2⟩
  · constructor
    · intro q hq hp
      dsimp only at hp ⊢
      rw [rd_set _ _ _ _ (by omega)] at hp ⊢
      by_cases c0 : r = q
      · rw [if_pos c0] at hp; omega
      · rw [if_neg c0] at hp ⊢
        obtain ⟨x, x1, x2, x3, x4⟩ := o1 q hq hp
        refine ⟨x, x1, x2, ?_, x4⟩
        rw [rd_set _ _ _ _ (by omega), if_neg (fun e_ => by subst e_; omega)]
        exact x3
    · intro x hx hs hp
      dsimp only at hs hp ⊢
      rw [rd_set _ _ _ _ (by omega)] at hs
      by_cases c0 : r = x
      · rw [if_pos c0] at hs; omega
      · rw [if_neg c0] at hs
        have x1 := o2 x hx hs hp
        rw [rd_set2 _ _ _ _ (by omega) hp, if_neg (fun e_ => ?_)]
        · exact x1
        · have x2 := o2 r hr h0 (by omega)
          rw [h1] at x2
          rw [← e_] at x1
          omega
  · constructor
    · intro q hq hp
      obtain ⟨x, x1, x2, x3, x4⟩ := o1 q hq hp
      exact ⟨x, x1, x2, x3, x4⟩
    · intro x hx hs hp; exact o2 x hx hs hp
  · obtain ⟨p, hp0⟩ : ∃ p : Nat, rd c.at_ (r : Int) = (p : Int) := ⟨(rd c.at_ (r : Int)).toNat, by omega⟩
    have hme := o2 r hr h0 h1
    rw [hp0] at hme h2 h3 ⊢
    rw [show ((p : Int)).toNat = p by omega, show ((p : Int) + 1).toNat = p + 1 by omega]
    constructor
    · intro q hq hp
      dsimp only at hp ⊢
      rw [rd_set _ _ _ _ (by rw [List.length_set]; omega)] at hp ⊢
      by_cases c0 : p + 1 = q
      · refine ⟨r, hr, by rw [if_pos c0], h0, ?_⟩
        rw [rd_set _ _ _ _ (by omega), if_pos rfl]; omega
      · rw [if_neg c0, rd_set _ _ _ _ (by omega)] at hp ⊢
        by_cases c1 : p = q
        · rw [if_pos c1] at hp; omega
        · rw [if_neg c1] at hp ⊢
          obtain ⟨x, x1, x2, x3, x4⟩ := o1 q hq hp
          refine ⟨x, x1, x2, x3, ?_⟩
          rw [rd_set _ _ _ _ (by omega), if_neg (fun e_ => by subst e_; omega)]
          exact x4
    · intro x hx hs hp
      dsimp only at hs hp ⊢
      rw [rd_set _ _ _ _ (by omega)] at hp ⊢
      by_cases c0 : r = x
      · subst c0
        rw [if_pos rfl, rd_set2 _ _ _ _ (by rw [List.length_set]; omega) (by omega), if_pos (by omega)]
      · rw [if_neg c0] at hp ⊢
        have x1 := o2 x hx hs hp
        rw [rd_set2 _ _ _ _ (by rw [List.length_set]; omega) hp, if_neg (fun e_ => ?_), rd_set2 _ _ _ _ (by omega) hp, if_neg (fun e_ => ?_)]
        · exact x1
        · rw [← e_] at x1; omega
        · rw [← e_] at x1
          rw [show (((p + 1 : Nat)) : Int) = (p : Int) + 1 by omega] at x1
          omega
  · constructor
    · intro q hq hp
      obtain ⟨x, x1, x2, x3, x4⟩ := o1 q hq hp
      exact ⟨x, x1, x2, x3, x4⟩
    · intro x hx hs hp; exact o2 x hx hs hp
/-- what stays, and what comes, in one act -/
theorem own_mono {n : Nat} {s : Int} {c : BC} (h : BW n s c) (r : Nat) (hr : r < n) (t : Int) (ht : 1 ≤ t) (q : Nat) :
    (rd c.sa (q : Int) > 0 → rd (act c r t s).sa (q : Int) = rd c.sa (q : Int)) ∧ (Ent c q → Ent (act c r t s) q ∧ rd (act c r t s).en (q : Int) = rd c.en (q : Int)) ∧ (¬ Ent c q → ¬ Ent (act c r t s) q ∨ (q = r ∧ Ent (act c r t s) q ∧ rd (act c r t s).en (q : Int) = t ∧ rd c.ai 0 < 0 ∧ rd (act c r t s).ai 0 = (r : Int))) := by
  have lai := h.lai; have lat := h.lat; have := h.lsw; have len := h.len; have lsa := h.lsa; have := h.lwa
  by_cases hq : q = r
  · subst hq
    unfold Ent
    rcases act_way h q hr t with ⟨h0, e⟩ | ⟨h0, h1, h2, e⟩ | ⟨h0, h1, h2, e⟩ | ⟨h0, h1, h2, e⟩ | ⟨h0, h1, h2, e⟩ | ⟨h0, h1, h2, h3, e⟩ | ⟨h0, h1, h2, h3, e⟩ <;> rw [e] <;> (try dsimp only)
    · exact ⟨fun _ => rfl, fun h => ⟨h, rfl⟩, fun h => .inl h⟩
    · refine ⟨fun _ => rfl, fun h => by omega, fun _ => .inr ⟨rfl, .inr ?_, ?_, h2, ?_⟩⟩
      · rw [rd_set _ _ _ _ (by omega), if_pos rfl]; omega
      · rw [rd_set _ _ _ _ (by omega), if_pos rfl]
      · have := rd_set2 c.ai 0 0 (q : Int) (by omega) (by omega)
        rw [this]; simp
    · exact ⟨fun _ => rfl, fun h => ⟨h, rfl⟩, fun h => .inl h⟩
    · refine ⟨fun h => by omega, fun _ => ⟨.inl ?_, rfl⟩, fun h => absurd (Or.inr (show 0 ≤ rd c.at_ (q : Int) by omega)) h⟩
      rw [rd_set _ _ _ _ (by omega), if_pos rfl]; omega
    · exact ⟨fun _ => rfl, fun h => ⟨h, rfl⟩, fun h => .inl h⟩
    · refine ⟨fun _ => rfl, fun _ => ⟨.inr ?_, rfl⟩, fun h => absurd (Or.inr h1) h⟩
      rw [rd_set _ _ _ _ (by omega), if_pos rfl]; omega
    · exact ⟨fun _ => rfl, fun h => ⟨h, rfl⟩, fun h => .inl h⟩
  · obtain ⟨e1, e2, e3, e4, e5⟩ := act_other h r hr t q hq
    have e6 := ent_other h r hr t q hq
    exact ⟨fun _ => e4, fun h => ⟨e6.mpr h, e3⟩, fun h => .inl (fun h2 => h (e6.mp h2))⟩
/-- behind one's act: one has entered before this unit, or there is someone at the door -/
theorem door {n : Nat} {s : Int} {c : BC} (h : BW n s c) (r : Nat) (hr : r < n) (hn : 0 < n) (t : Int) (ht : 1 ≤ t) (hi : RI s r (t - 1) c) (hsp : 0 ≤ s) : (Ent (act c r t s) r ∧ rd (act c r t s).en (r : Int) < t) ∨ 0 ≤ rd (act c r t s).ai 0 := by
  obtain ⟨m1, m2, m3⟩ := own_mono h r hr t ht r
  by_cases he : Ent c r
  · obtain ⟨e1, e2⟩ := m2 he
    refine .inl ⟨e1, ?_⟩
    rw [e2]
    by_cases hs : rd c.sa (r : Int) > 0
    · have := hi.sit hs; have := hi.wlo; omega
    · have h3 := h.sn r hr
      have h4 := h.s0 r hr
      have := hi.ins (by omega) (he.resolve_left hs)
      have := hi.wlo
      have := he.resolve_left hs
      omega
  · rcases m3 he with h1 | ⟨_, _, _, _, h2⟩
    · right
      unfold Ent at he h1
      rcases act_way h r hr t with ⟨h0, e⟩ | ⟨h0, h1', h2, e⟩ | ⟨h0, h1', h2, e⟩ | ⟨h0, h1', h2, e⟩ | ⟨h0, h1', h2, e⟩ | ⟨h0, h1', h2, h3, e⟩ | ⟨h0, h1', h2, h3, e⟩
      · exact absurd (Or.inl h0) he
      · rw [e]; dsimp only
        have := rd_set2 c.ai 0 0 (r : Int) (by have := h.lai; omega) (by omega)
        rw [this]; simp
      · rw [e]; exact h2
      · exact absurd (Or.inr (show 0 ≤ rd c.at_ (r : Int) by omega)) he
      · exact absurd (Or.inr (show 0 ≤ rd c.at_ (r : Int) by omega)) he
      · exact absurd (Or.inr h1') he
      · exact absurd (Or.inr h1') he
    · right; omega
/-- who enters as the k-th one -/
def odr (l : List Int) (k : Nat) : Nat := (l.getD k 0).toNat
theorem odr_rd {l : List Int} {n : Nat} (ho : IsOrd l n) (k : Nat) (hk : k < n) : (l.getD k 0) = ((odr l k : Nat) : Int) ∧ odr l k < n ∧ k < l.length := by
  have hl := ho.1
  have hk2 : k < l.length := by omega
  have hm := ord_range ho (l[k]) (List.getElem_mem hk2)
  have e : l.getD k 0 = l[k] := by rw [List.getD_eq_getElem?_getD, List.getElem?_eq_getElem hk2]; rfl
  unfold odr
  rw [e]
  omega
theorem odr_inj {l : List Int} {n : Nat} (ho : IsOrd l n) (a b : Nat) (ha : a < n) (hb : b < n) (h : odr l a = odr l b) : a = b := by
  obtain ⟨e1, _, h1⟩ := odr_rd ho a ha
  obtain ⟨e2, _, h2⟩ := odr_rd ho b hb
  have hnd := isOrd_nodup ho
  have e : l[a] = l[b] := by
    have x1 : l.getD a 0 = l[a] := by rw [List.getD_eq_getElem?_getD, List.getElem?_eq_getElem h1]; rfl
    have x2 : l.getD b 0 = l[b] := by rw [List.getD_eq_getElem?_getD, List.getElem?_eq_getElem h2]; rfl
    rw [← x1, ← x2, e1, e2, h]
  exact (List.getElem_inj hnd).mp e
theorem odr_sur {l : List Int} {n : Nat} (ho : IsOrd l n) (r : Nat) (hr : r < n) : ∃ k, k < n ∧ odr l k = r := by
  have hm := ho.2 r (by omega)
  obtain ⟨k, hk, e⟩ := List.mem_iff_getElem.mp hm
  have hl := ho.1
  refine ⟨k, by omega, ?_⟩
  unfold odr
  rw [List.getD_eq_getElem?_getD, List.getElem?_eq_getElem hk, Option.getD_some, e]; omega
structure FN (n : Nat) (s : Int) (l : List Int) (τ : Nat → Int) (c : BC) : Prop where
  wf : BW n s c
  ri : ∀ k, k < n → RI s (odr l k) (τ k) c
  oc : OC n c
  ord : ∀ k, k + 1 < n → Ent c (odr l (k + 1)) → Ent c (odr l k) ∧ rd c.en (odr l k : Int) < rd c.en (odr l (k + 1) : Int)
def Door (l : List Int) (t : Int) (i : Nat) (c : BC) : Prop := (Ent c (odr l i) ∧ rd c.en (odr l i : Int) < t) ∨ 0 ≤ rd c.ai 0
theorem fn_step {n : Nat} {s : Int} {l : List Int} (ho : IsOrd l n) (hs : 0 ≤ s) (t : Int) (ht : 1 ≤ t) (ht2 : t ≤ 1000) (j : Nat) (hj : j < n) (c : BC) (h : FN n s l (fun k => if k < j then t else t - 1) c) (hd : 0 < j → Door l t (j - 1) c) :
    FN n s l (fun k => if k < j + 1 then t else t - 1) (act c (odr l j) t s) ∧ Door l t j (act c (odr l j) t s) := by
  obtain ⟨wf, ri, oc, or_⟩ := h
  obtain ⟨_, hr, _⟩ := odr_rd ho j hj
  have rij := ri j hj
  rw [if_neg (by omega)] at rij
  refine ⟨⟨act_wf wf _ hr t ht, fun k hk => ?_, oc_act wf _ hr t ht oc, fun k hk he => ?_⟩, door wf _ hr (by omega) t ht rij hs⟩
  · by_cases e : k = j
    · subst e
      rw [if_pos (by omega)]
      exact ri_own wf _ hr t ht ht2 rij
    · have hne : odr l k ≠ odr l j := fun h => e (odr_inj ho k j hk hj h)
      have := ri_other wf _ hr t (odr l k) hne _ (ri k hk)
      by_cases c1 : k < j
      · rw [if_pos c1] at this; rw [if_pos (by omega)]; exact this
      · rw [if_neg c1] at this; rw [if_neg (by omega)]; exact this
  · obtain ⟨_, a2, a3⟩ := own_mono wf _ hr t ht (odr l k)
    obtain ⟨_, b2, b3⟩ := own_mono wf _ hr t ht (odr l (k + 1))
    by_cases hc : Ent c (odr l (k + 1))
    · obtain ⟨o1, o2⟩ := or_ k hk hc
      obtain ⟨x1, x2⟩ := a2 o1
      obtain ⟨y1, y2⟩ := b2 hc
      exact ⟨x1, by rw [x2, y2]; exact o2⟩
    · rcases b3 hc with h1 | ⟨h1, h2, h3, h4, _⟩
      · exact absurd he h1
      · have e : k + 1 = j := odr_inj ho _ _ hk hj h1
        have hd2 := hd (by omega)
        rw [show j - 1 = k by omega] at hd2
        rcases hd2 with ⟨d1, d2⟩ | d1
        · obtain ⟨x1, x2⟩ := a2 d1
          exact ⟨x1, by rw [x2, h3]; exact d2⟩
        · omega
theorem fn_unit {n : Nat} {s : Int} {l : List Int} (ho : IsOrd l n) (hs : 0 ≤ s) (t : Int) (ht : 1 ≤ t) (ht2 : t ≤ 1000) : ∀ (d j : Nat) (c : BC), j + d = n → FN n s l (fun k => if k < j then t else t - 1) c → (0 < j → Door l t (j - 1) c) → FN n s l (fun k => if k < n then t else t - 1) ((l.drop j).foldl (fun c x => act c x.toNat t s) c) := by
  intro d
  induction d with
  | zero =>
    intro j c hj h _
    have hl := ho.1
    rw [List.drop_eq_nil_of_le (by omega)]
    rw [show j = n by omega] at h
    exact h
  | succ d ih =>
    intro j c hj h hd
    obtain ⟨e, hr, hjl⟩ := odr_rd ho j (by omega)
    obtain ⟨h1, h2⟩ := fn_step ho hs t ht ht2 j (by omega) c h hd
    rw [List.drop_eq_getElem_cons hjl, List.foldl_cons]
    have e2 : l[j].toNat = odr l j := by
      unfold odr
      rw [List.getD_eq_getElem?_getD, List.getElem?_eq_getElem hjl]; rfl
    rw [e2]
    exact ih (j + 1) _ (by omega) h1 (fun _ => h2)
theorem fn_traj {n : Nat} {s : Int} {l : List Int} (ho : IsOrd l n) (hs : 1 ≤ s) : ∀ u : Nat, u ≤ 1000 → FN n s l (fun _ => (u : Int)) (traj n l s u) := by
  intro u
  induction u with
  | zero =>
    intro _
    have hz : ∀ r : Nat, r < n → rd (bstart n).sa (r : Int) = 0 ∧ rd (bstart n).at_ (r : Int) = -1 ∧ rd (bstart n).en (r : Int) = 0 ∧ rd (bstart n).wa (r : Int) = 0 ∧ rd (bstart n).sw (r : Int) = 0 ∧ rd (bstart n).ai (r : Int) = -1 := fun r hr => by
      unfold bstart; dsimp only
      exact ⟨rd_rep _ _ _ hr, rd_rep _ _ _ hr, rd_rep _ _ _ hr, rd_rep _ _ _ hr, rd_rep _ _ _ hr, rd_rep _ _ _ hr⟩
    show FN n s l _ (bstart n)
    refine ⟨bstart_wf n s hs, fun k hk => ?_, ⟨fun q hq hp => ?_, fun r hr h1 h2 => ?_⟩, fun k hk he => ?_⟩
    · obtain ⟨_, hr, _⟩ := odr_rd ho k hk
      obtain ⟨z1, z2, z3, z4, z5, z6⟩ := hz _ hr
      exact ⟨fun _ _ => ⟨z3, z4, z5⟩, fun _ h => by omega, fun h => by omega, by omega, by omega⟩
    · have := hz q hq; omega
    · have := hz r hr; omega
    · obtain ⟨_, hr, _⟩ := odr_rd ho (k + 1) hk
      have := hz _ hr
      unfold Ent at he; omega
  | succ u ih =>
    intro hu
    have h := fn_unit (s := s) ho (by omega) ((u + 1 : Nat) : Int) (by omega) (by omega) n 0 (traj n l s u) (by omega) (by
      have := ih (by omega)
      obtain ⟨a, b, c, d⟩ := this
      refine ⟨a, fun k hk => ?_, c, d⟩
      rw [if_neg (by omega), show ((u + 1 : Nat) : Int) - 1 = (u : Int) by omega]
      exact b k hk) (fun h => by omega)
    rw [List.drop_zero] at h
    obtain ⟨a, b, c, d⟩ := h
    refine ⟨a, fun k hk => ?_, c, d⟩
    have := b k hk
    rwa [if_pos hk] at this
/-- one unit: what stays, and what comes -/
theorem unit_mono {n : Nat} {s : Int} (t : Int) (ht : 1 ≤ t) (q : Nat) : ∀ (l : List Int) (c : BC), BW n s c → (∀ x ∈ l, 0 ≤ x ∧ x < (n : Int)) →
    (rd c.sa (q : Int) > 0 → rd (unitOf l t s c).sa (q : Int) = rd c.sa (q : Int)) ∧ (Ent c q → Ent (unitOf l t s c) q ∧ rd (unitOf l t s c).en (q : Int) = rd c.en (q : Int)) ∧ (¬ Ent c q → ¬ Ent (unitOf l t s c) q ∨ (Ent (unitOf l t s c) q ∧ rd (unitOf l t s c).en (q : Int) = t)) := by
  intro l
  induction l with
  | nil => intro c _ _; exact ⟨fun _ => rfl, fun h => ⟨h, rfl⟩, fun h => .inl h⟩
  | cons x l ih =>
    intro c hw hl
    have hx := hl x (by simp)
    obtain ⟨m1, m2, m3⟩ := own_mono hw x.toNat (by omega) t ht q
    obtain ⟨i1, i2, i3⟩ := ih (act c x.toNat t s) (act_wf hw x.toNat (by omega) t ht) (fun y hy => hl y (by simp [hy]))
    show (_ → rd (unitOf l t s (act c x.toNat t s)).sa (q : Int) = _) ∧ (_ → Ent (unitOf l t s (act c x.toNat t s)) q ∧ rd (unitOf l t s (act c x.toNat t s)).en (q : Int) = _) ∧ (_ → ¬ Ent (unitOf l t s (act c x.toNat t s)) q ∨ (Ent (unitOf l t s (act c x.toNat t s)) q ∧ rd (unitOf l t s (act c x.toNat t s)).en (q : Int) = t))
    refine ⟨fun h => ?_, fun h => ?_, fun h => ?_⟩
    · have e := m1 h
      rw [i1 (by rw [e]; exact h), e]
    · obtain ⟨a, b⟩ := m2 h
      obtain ⟨a2, b2⟩ := i2 a
      exact ⟨a2, by rw [b2, b]⟩
    · rcases m3 h with h1 | ⟨_, h1, h2, _⟩
      · exact i3 h1
      · obtain ⟨a2, b2⟩ := i2 h1
        exact .inr ⟨a2, by rw [b2, h2]⟩
theorem first_in {n : Nat} {s : Int} {l : List Int} (hn : 1 ≤ n) (hs : 1 ≤ s) (ho : IsOrd l n) : ∀ u : Nat, 1 ≤ u → Ent (traj n l s u) (odr l 0) ∧ rd (traj n l s u).en (odr l 0 : Int) = 1 := by
  intro u hu
  obtain ⟨u, rfl⟩ : ∃ v, u = v + 1 := ⟨u - 1, by omega⟩
  induction u with
  | zero =>
    obtain ⟨e, hr, hjl⟩ := odr_rd ho 0 (by omega)
    obtain ⟨x, l', rfl⟩ : ∃ x l', l = x :: l' := by
      cases l with
      | nil => simp at hjl
      | cons x l' => exact ⟨x, l', rfl⟩
    have hx : odr (x :: l') 0 = x.toNat := rfl
    rw [hx] at hr ⊢
    have hw := bstart_wf n s hs
    have hz : rd (bstart n).sa (x.toNat : Int) = 0 ∧ rd (bstart n).at_ (x.toNat : Int) = -1 ∧ rd (bstart n).ai 0 = -1 := by
      unfold bstart; dsimp only
      have := rd_rep n (-1) 0 (by omega)
      exact ⟨rd_rep _ _ _ hr, rd_rep _ _ _ hr, this⟩
    have hrg := ord_range ho
    have h1 : Ent (act (bstart n) x.toNat 1 s) x.toNat ∧ rd (act (bstart n) x.toNat 1 s).en (x.toNat : Int) = 1 := by
      unfold Ent
      rcases act_way hw x.toNat hr 1 with ⟨h0, e⟩ | ⟨h0, h1, h2, e⟩ | ⟨h0, h1, h2, e⟩ | ⟨h0, h1, h2, e⟩ | ⟨h0, h1, h2, e⟩ | ⟨h0, h1, h2, h3, e⟩ | ⟨h0, h1, h2, h3, e⟩
      · omega
      · rw [e]; dsimp only
        have l1 := hw.lat; have l2 := hw.len
        rw [rd_set _ _ _ _ (by omega), rd_set _ _ _ _ (by omega), if_pos rfl, if_pos rfl]
        exact ⟨.inr (by omega), rfl⟩
      all_goals omega
    obtain ⟨_, i2, _⟩ := unit_mono (n := n) (s := s) 1 (by omega) x.toNat l' (act (bstart n) x.toNat 1 s) (act_wf hw x.toNat hr 1 (by omega)) (fun y hy => hrg y (by simp [hy]))
    obtain ⟨a, b⟩ := i2 h1.1
    exact ⟨a, by rw [← h1.2, ← b]; rfl⟩
  | succ u ih =>
    obtain ⟨a, b⟩ := ih (by omega)
    obtain ⟨_, i2, _⟩ := unit_mono (n := n) (s := s) ((u + 1 + 1 : Nat) : Int) (by omega) (odr l 0) l (traj n l s (u + 1)) (traj_wf hs ho (u + 1)) (ord_range ho)
    obtain ⟨a2, b2⟩ := i2 a
    exact ⟨a2, by rw [← b, ← b2]; rfl⟩
/-- the end tells of each unit -/
theorem at_end {n : Nat} {s : Int} {l : List Int} (hs : 1 ≤ s) (ho : IsOrd l n) (q : Nat) (hq : q < n) (u : Nat) : ∀ d : Nat, u + d ≤ 1000 →
    (Ent (traj n l s u) q → Ent (traj n l s (u + d)) q ∧ rd (traj n l s (u + d)).en (q : Int) ≤ u) ∧ (¬ Ent (traj n l s u) q → ¬ Ent (traj n l s (u + d)) q ∨ (u : Int) < rd (traj n l s (u + d)).en (q : Int)) ∧
    (rd (traj n l s u).sa (q : Int) > 0 → rd (traj n l s (u + d)).sa (q : Int) ≤ u ∧ rd (traj n l s (u + d)).sa (q : Int) > 0) ∧ (rd (traj n l s u).sa (q : Int) = 0 → rd (traj n l s (u + d)).sa (q : Int) = 0 ∨ (u : Int) < rd (traj n l s (u + d)).sa (q : Int)) := by
  obtain ⟨k, hk, rfl⟩ := odr_sur ho q hq
  intro d
  induction d with
  | zero =>
    intro hd
    have f := (fn_traj ho hs u (by omega)).ri k hk
    have w := traj_wf hs ho u
    have w1 := w.sn _ hq; have w2 := w.s0 _ hq
    refine ⟨fun h => ⟨h, ?_⟩, fun h => .inl h, fun h => ⟨(f.sit h).2.2, h⟩, fun h => .inl h⟩
    have hw := f.wlo
    show rd (traj n l s u).en _ ≤ _
    by_cases c : rd (traj n l s u).sa (odr l k : Int) > 0
    · have := f.sit c; omega
    · have := f.ins (by omega) (h.resolve_left c); have := h.resolve_left c; omega
  | succ d ih =>
    intro hd
    obtain ⟨i1, i2, i3, i4⟩ := ih (by omega)
    obtain ⟨m1, m2, m3⟩ := unit_mono (n := n) (s := s) ((u + d + 1 : Nat) : Int) (by omega) (odr l k) l (traj n l s (u + d)) (traj_wf hs ho (u + d)) (ord_range ho)
    have m4 := unit_sat (n := n) (s := s) (t := ((u + d + 1 : Nat) : Int)) (by omega) (odr l k) l _ (traj_wf hs ho (u + d)) (ord_range ho)
    have e : traj n l s (u + (d + 1)) = unitOf l ((u + d + 1 : Nat) : Int) s (traj n l s (u + d)) := rfl
    rw [e]
    refine ⟨fun h => ?_, fun h => ?_, fun h => ?_, fun h => ?_⟩
    · obtain ⟨a, b⟩ := i1 h
      obtain ⟨a2, b2⟩ := m2 a
      exact ⟨a2, by rw [b2]; exact b⟩
    · by_cases c : Ent (traj n l s (u + d)) (odr l k)
      · obtain ⟨a2, b2⟩ := m2 c
        right; rw [b2]
        exact (i2 h).resolve_left (fun h2 => h2 c)
      · rcases m3 c with h1 | ⟨_, h1⟩
        · exact .inl h1
        · right; rw [h1]; omega
    · obtain ⟨a, b⟩ := i3 h
      rw [m1 b]; exact ⟨a, b⟩
    · rcases i4 h with h1 | h1
      · rcases m4 with h2 | h2
        · left; rw [h2]; exact h1
        · right; rw [h2]; omega
      · right
        rw [m1 (by omega)]; exact h1
/-- the numbers at the end, for a valid boarding -/
theorem end_facts {n : Nat} {s : Int} {l : List Int} (hn : 1 ≤ n) (hn2 : n ≤ 10) (hs : 1 ≤ s) (hs5 : s ≤ 5) (ho : IsOrd l n) {T : Nat} (hT : T ≤ 160) (hd : Done n (traj n l s T)) :
    (∀ r : Nat, r < n → rd (traj n l s T).sa (r : Int) = rd (traj n l s T).en (r : Int) + r + rd (traj n l s T).wa (r : Int) + s ∧ 1 ≤ rd (traj n l s T).en (r : Int) ∧ rd (traj n l s T).sa (r : Int) ≤ T ∧ 0 ≤ rd (traj n l s T).wa (r : Int)) ∧
    (∀ k : Nat, k + 1 < n → rd (traj n l s T).en (odr l k : Int) < rd (traj n l s T).en (odr l (k + 1) : Int)) ∧ rd (traj n l s T).en (odr l 0 : Int) = 1 ∧ (n : Int) + s ≤ T := by
  have f := fn_traj ho hs T (by omega)
  have w := f.wf
  have hsa : ∀ r : Nat, r < n → rd (traj n l s T).sa (r : Int) > 0 := fun r hr => by
    have := hd r hr; have := w.sn r hr; omega
  have h1 : ∀ r : Nat, r < n → rd (traj n l s T).sa (r : Int) = rd (traj n l s T).en (r : Int) + r + rd (traj n l s T).wa (r : Int) + s ∧ 1 ≤ rd (traj n l s T).en (r : Int) ∧ rd (traj n l s T).sa (r : Int) ≤ T ∧ 0 ≤ rd (traj n l s T).wa (r : Int) := fun r hr => by
    obtain ⟨k, hk, rfl⟩ := odr_sur ho r hr
    have a := (f.ri k hk).sit (hsa _ hr)
    have b := (f.ri k hk).wlo
    exact ⟨a.1, a.2.1, a.2.2, b⟩
  have hT1 : 1 ≤ T := by
    have := h1 0 (by omega)
    have := hsa 0 (by omega)
    omega
  have h2 : ∀ k : Nat, k + 1 < n → rd (traj n l s T).en (odr l k : Int) < rd (traj n l s T).en (odr l (k + 1) : Int) := fun k hk => by
    obtain ⟨_, hr, _⟩ := odr_rd ho (k + 1) hk
    exact (f.ord k hk (.inl (hsa _ hr))).2
  have h3 := (first_in hn hs ho T hT1).2
  refine ⟨h1, h2, h3, ?_⟩
  have key : ∀ k : Nat, k < n → (k : Int) + 1 ≤ rd (traj n l s T).en (odr l k : Int) := by
    intro k
    induction k with
    | zero => intro _; omega
    | succ k ih => intro hk; have := ih (by omega); have := h2 k hk; omega
  have k1 := key (n - 1) (by omega)
  obtain ⟨_, hr, _⟩ := odr_rd ho (n - 1) (by omega)
  have := h1 _ hr
  omega
theorem sit_told (n s : Int) (l : List Int) (hL : l.length ≤ 35184372088832) (m : Nat) (hm : n = (m : Int)) (hv : BValid n s l) (T : Nat) (hT : T ≤ 160) (hd : Done m (traj m l s T)) (hu : ∀ u, u < T → ¬ Done m (traj m l s u)) :
    Ev (fun k => spec_SitTimes.f k n s l) ((traj m l s T).sa, true) ∧ Ev (fun k => impl_SitTimes.f k n s l) ((traj m l s T).sa, true) ∧ Ev (fun k => spec_EnterTimes.f k n s l) ((traj m l s T).en, true) ∧ Ev (fun k => impl_EnterTimes.f k n s l) ((traj m l s T).en, true) ∧ Ev (fun k => spec_WaitTimes.f k n s l) ((traj m l s T).wa, true) ∧ Ev (fun k => impl_WaitTimes.f k n s l) ((traj m l s T).wa, true) ∧
    Ev (fun k => spec_BoardTime.f k n s l) ((T : Int), true) ∧ Ev (fun k => impl_BoardTime.f k n s l) ((T : Int), true) := by
  subst hm
  obtain ⟨h1, h2, h3, h4, ho⟩ := id hv
  have hr := l7Run_ev (n := m) (by omega) h3 h4 ho hT hd hu (-1)
  rw [if_pos (by omega)] at hr
  have a1 := l7Ask_ev (m : Int) s l hL
  have a2 := isBoarding_ev (m : Int) s l hL
  have b := board_ev (n := m) (s := s) (by omega) (by omega) h3 h4 ho hT hd hu
  refine ⟨?_, ?_, ?_, ?_, ?_, ?_, ?_, ?_⟩
  · unfold spec_SitTimes.f; exact Ev.bind a1 (Ev.pos (decide_eq_true hv) (Ev.bind hr (Ev.now _)))
  · unfold impl_SitTimes.f; exact Ev.bind a2 (Ev.pos (decide_eq_true hv) (Ev.bind b (Ev.now _)))
  · unfold spec_EnterTimes.f; exact Ev.bind a1 (Ev.pos (decide_eq_true hv) (Ev.bind hr (Ev.now _)))
  · unfold impl_EnterTimes.f; exact Ev.bind a2 (Ev.pos (decide_eq_true hv) (Ev.bind b (Ev.now _)))
  · unfold spec_WaitTimes.f; exact Ev.bind a1 (Ev.pos (decide_eq_true hv) (Ev.bind hr (Ev.now _)))
  · unfold impl_WaitTimes.f; exact Ev.bind a2 (Ev.pos (decide_eq_true hv) (Ev.bind b (Ev.now _)))
  · unfold spec_BoardTime.f; exact Ev.bind a1 (Ev.pos (decide_eq_true hv) (Ev.bind (l7Time_ev (by omega) (by omega) h3 h4 ho hT hd hu) (Ev.now _)))
  · unfold impl_BoardTime.f; exact Ev.bind a2 (Ev.pos (decide_eq_true hv) (Ev.bind b (Ev.bindc (bd_time m l s T hT) (Ev.now _))))
theorem sit_none (n s : Int) (l : List Int) (hL : l.length ≤ 35184372088832) (hv : ¬ BValid n s l) :
    Ev (fun k => spec_SitTimes.f k n s l) ([], false) ∧ Ev (fun k => impl_SitTimes.f k n s l) ([], false) ∧ Ev (fun k => spec_EnterTimes.f k n s l) ([], false) ∧ Ev (fun k => impl_EnterTimes.f k n s l) ([], false) ∧ Ev (fun k => spec_WaitTimes.f k n s l) ([], false) ∧ Ev (fun k => impl_WaitTimes.f k n s l) ([], false) ∧
    Ev (fun k => spec_BoardTime.f k n s l) (0, false) ∧ Ev (fun k => impl_BoardTime.f k n s l) (0, false) := by
  have a1 := l7Ask_ev n s l hL
  have a2 := isBoarding_ev n s l hL
  refine ⟨?_, ?_, ?_, ?_, ?_, ?_, ?_, ?_⟩
  · unfold spec_SitTimes.f; exact Ev.bind a1 (Ev.neg (by simpa using hv) (Ev.now _))
  · unfold impl_SitTimes.f; exact Ev.bind a2 (Ev.neg (by simpa using hv) (Ev.now _))
  · unfold spec_EnterTimes.f; exact Ev.bind a1 (Ev.neg (by simpa using hv) (Ev.now _))
  · unfold impl_EnterTimes.f; exact Ev.bind a2 (Ev.neg (by simpa using hv) (Ev.now _))
  · unfold spec_WaitTimes.f; exact Ev.bind a1 (Ev.neg (by simpa using hv) (Ev.now _))
  · unfold impl_WaitTimes.f; exact Ev.bind a2 (Ev.neg (by simpa using hv) (Ev.now _))
  · unfold spec_BoardTime.f; exact Ev.bind a1 (Ev.neg (by simpa using hv) (Ev.now _))
  · unfold impl_BoardTime.f; exact Ev.bind a2 (Ev.neg (by simpa using hv) (Ev.now _))
theorem rows7_ok (s : List Int) (hs : Bytes8 s) (hl : s.length ≤ 1000000) (p st : Int) (h0 : 0 ≤ p) (h1 : p ≤ 800000) :
    ∃ n m p' q, spec_l1Cur_rows7.f s p st = some (n, m, p', q) ∧ n ∈ ([4, 5, 3, 6, 2, 1, 8, 10, 0, 11, (-1)] : List Int) ∧ m ∈ ([1, 2, 3, 5, 0, 6] : List Int) ∧ p ≤ p' ∧ p' ≤ p + 4 := by
  obtain ⟨v, p1, q1, e1, a0, a1, a2, a3⟩ := pick_ok s hs hl p st 24 h0 (by omega) (by decide)
  have d0 : 0 ≤ Int.tdiv v 8 := Int.tdiv_nonneg a0 (by decide)
  have d1 : Int.tdiv v 8 ≤ 2 := by rw [Int.tdiv_eq_ediv_of_nonneg a0]; omega
  have w1 : wrap64 (8 + wrap64 (Int.tdiv v 8)) = 8 + Int.tdiv v 8 := by rw [w64 (n := Int.tdiv v 8) (by omega) (by omega), w64 (by omega) (by omega)]
  obtain ⟨n, p2, q2, e2, b0, b1, b2⟩ := among_ok s hs hl p1 q1 (([4, 5, 3, 6, 2, 1, 8, 10, 0, 11, (-1)] : List Int).take (8 + Int.tdiv v 8).toNat) (by omega) (by omega) (by rw [List.length_take]; simp; omega) (by rw [List.length_take]; simp; omega)
  obtain ⟨u, p3, q3, e3, c0, c1, c2, c3⟩ := pick_ok s hs hl p2 q2 24 (by omega) (by omega) (by decide)
  have f0 : 0 ≤ Int.tdiv u 11 := Int.tdiv_nonneg c0 (by decide)
  have f1 : Int.tdiv u 11 ≤ 2 := by rw [Int.tdiv_eq_ediv_of_nonneg c0]; omega
  have w2 : wrap64 (4 + wrap64 (Int.tdiv u 11)) = 4 + Int.tdiv u 11 := by rw [w64 (n := Int.tdiv u 11) (by omega) (by omega), w64 (by omega) (by omega)]
  obtain ⟨m, p4, q4, e4, g0, g1, g2⟩ := among_ok s hs hl p3 q3 (([1, 2, 3, 5, 0, 6] : List Int).take (4 + Int.tdiv u 11).toNat) (by omega) (by omega) (by rw [List.length_take]; simp; omega) (by rw [List.length_take]; simp; omega)
  refine ⟨n, m, p4, q4, ?_, List.mem_of_mem_take b0, List.mem_of_mem_take g0, by omega, by omega⟩
  unfold spec_l1Cur_rows7.f
  simp only [Option.bind_some]
  rw [e1]
  simp only [Option.bind_some]
  rw [w1, if_pos (by omega), if_pos (by simp; omega), e2]
  simp only [Option.bind_some]
  rw [e3]
  simp only [Option.bind_some]
  rw [w2, if_pos (by omega), if_pos (by simp; omega), e4]
  rfl
theorem enter1_ok (s : List Int) (hs : Bytes8 s) (hl : s.length ≤ 1000000) (p st : Int) (h0 : 0 ≤ p) (h1 : p ≤ 800000) (n x6 : Int) (l : List Int) (hL : l.length ≤ 30) :
    ∃ q : List Int × Int × Int, Ev (fun k => spec_l1Cur_entering7.j1 k n l x6 false s p st) q ∧ q.1.length ≤ 31 ∧ p ≤ q.2.1 ∧ q.2.1 ≤ p + 2 := by
  obtain ⟨v, p1, q1, e1, a0, a1, a2, a3⟩ := pick_ok s hs hl p st 24 h0 (by omega) (by decide)
  obtain ⟨x, p2, q2, e2, _, b1, b2⟩ := among_ok s hs hl p1 q1 [0, (-1), n] (by omega) (by omega) (by simp) (by simp)
  obtain ⟨y, p3, q3, e3, _, c1, c2⟩ := among_ok s hs hl p1 q1 [0, 1, (-1), n] (by omega) (by omega) (by simp) (by simp)
  by_cases c : v = 0
  · refine ⟨(l ++ [x], p2, q2), Ev.succ ?_, by simp; omega, by simp only; omega, by simp only; omega⟩
    simp only [spec_l1Cur_entering7.j1.eq_2]
    exact Ev.neg (by decide) (Ev.bindc e1 (Ev.pos c (Ev.bindc e2 (Ev.bindc rfl (Ev.pos (by simp; omega) (Ev.now _))))))
  · by_cases c1 : v = 1
    · by_cases c2 : (l.length : Int) > 0
      · refine ⟨(l.set (0 : Int).toNat y, p3, q3), Ev.succ ?_, by simp; omega, by simp only; omega, by simp only; omega⟩
        simp only [spec_l1Cur_entering7.j1.eq_2]
        exact Ev.neg (by decide) (Ev.bindc e1 (Ev.neg c (Ev.pos c1 (Ev.pos c2 (Ev.bindc e3 (Ev.pos (by omega) (Ev.now _)))))))
      · refine ⟨(l, p1, q1), Ev.succ ?_, by simp only; omega, by simp only; omega, by simp only; omega⟩
        simp only [spec_l1Cur_entering7.j1.eq_2]
        exact Ev.neg (by decide) (Ev.bindc e1 (Ev.neg c (Ev.pos c1 (Ev.neg c2 (Ev.now _)))))
    · refine ⟨(l, p1, q1), Ev.succ ?_, by simp only; omega, by simp only; omega, by simp only; omega⟩
      simp only [spec_l1Cur_entering7.j1.eq_2]
      exact Ev.neg (by decide) (Ev.bindc e1 (Ev.neg c (Ev.neg c1 (Ev.now _))))
theorem enter0_ok (s : List Int) (hs : Bytes8 s) (hl : s.length ≤ 1000000) (n : Int) : ∀ (d i : Nat) (l : List Int) (p st : Int), i + d = 11 → l.length ≤ i → 0 ≤ p → p ≤ 600000 - d →
    ∃ q : List Int × Int × Int, Ev (fun k => spec_l1Cur_entering7.l0 k n l (i : Int) s p st) q ∧ q.1.length ≤ 31 := by
  intro d
  induction d with
  | zero =>
    intro i l p st hi hL h0 h1
    obtain ⟨r, hr, hr2, _⟩ := enter1_ok s hs hl p st h0 (by omega) n (i : Int) l (by omega)
    refine ⟨r, Ev.succ ?_, hr2⟩
    simp only [spec_l1Cur_entering7.l0.eq_2]
    by_cases c : (i : Int) < n
    · rw [show decide ((i : Int) < 11) = false by simp; omega]
      exact Ev.pos c hr
    · exact Ev.neg c hr
  | succ d ih =>
    intro i l p st hi hL h0 h1
    by_cases c : (i : Int) < n
    · obtain ⟨v, p1, q1, e1, a0, a1, a2, a3⟩ := pick_ok s hs hl p st ((l.length : Int) + 1) h0 (by omega) (by omega)
      obtain ⟨r, hr, hr2⟩ := ih (i + 1) ((l.take v.toNat ++ [(i : Int)]) ++ l.drop v.toNat) p1 q1 (by omega) (by simp; omega) (by omega) (by omega)
      refine ⟨r, Ev.succ ?_, hr2⟩
      simp only [spec_l1Cur_entering7.l0.eq_2]
      rw [show decide ((i : Int) < 11) = true by simp; omega]
      refine Ev.pos c (Ev.succ ?_)
      simp only [spec_l1Cur_entering7.j1.eq_2]
      rw [w64 (n := (i : Int) + 1) (by omega) (by omega), w64 (n := (l.length : Int) + 1) (by omega) (by omega)]
      refine Ev.pos trivial (Ev.bindc e1 (Ev.pos a0 (Ev.pos (by simp only; omega) (Ev.bindc (swOwn_eq (l.take v.toNat) (by rw [List.length_take]; omega)) (Ev.bindc rfl (Ev.pos (by simp; omega) (Ev.bindc rfl (Ev.bindc rfl (Ev.pos (by simp; omega) hr)))))))))
    · obtain ⟨r, hr, hr2, _⟩ := enter1_ok s hs hl p st h0 (by omega) n (i : Int) l (by omega)
      refine ⟨r, Ev.succ ?_, hr2⟩
      simp only [spec_l1Cur_entering7.l0.eq_2]
      exact Ev.neg c hr
theorem board_draw (s : List Int) (hs : Bytes8 s) (hl : s.length ≤ 1000000) : ∃ q : Int × Int × List Int, Ev (fun k => spec_DrawBoardTime.f k s) q ∧ q.2.2.length ≤ 31 ∧ q.1 ≤ 11 ∧ -1 ≤ q.1 := by
  obtain ⟨n, m, p1, q1, e1, hn, _, h2, h3⟩ := rows7_ok s hs hl 0 0 (by omega) (by omega)
  obtain ⟨r, hr, hr2⟩ := enter0_ok s hs hl n 11 0 [] p1 q1 (by omega) (by simp) (by omega) (by omega)
  refine ⟨(n, m, r.1), ?_, hr2, ?_, ?_⟩
  · unfold spec_DrawBoardTime.f
    refine Ev.bindc e1 (Ev.bind (a := r) ?_ (Ev.now _))
    unfold spec_l1Cur_entering7.f
    exact hr
  all_goals (simp only [List.mem_cons, List.not_mem_nil, or_false] at hn; simp only; omega)
theorem vInts_refl (l : List Int) (hL : l.length ≤ 1000000) : Ev (fun k => laws_vInts.f k l l) true := by
  have key : ∀ n i, i + n = l.length → Ev (fun k => laws_vInts.l0 k l l (i : Int)) true := by
    intro n
    induction n with
    | zero =>
      intro i hi
      refine Ev.succ ?_
      simp only [laws_vInts.l0.eq_2]
      exact Ev.neg (by omega) (Ev.now _)
    | succ n ih =>
      intro i hi
      refine Ev.succ ?_
      simp only [laws_vInts.l0.eq_2]
      rw [w64 (n := (i : Int) + 1) (by omega) (by omega)]
      exact Ev.pos (by omega) (Ev.pos (by omega) (Ev.pos (by omega) (Ev.pos trivial (ih (i + 1) (by omega)))))
  unfold laws_vInts.f
  exact Ev.pos rfl (key l.length 0 (by omega))
theorem vHas_ev (l : List Int) (x : Int) (hL : l.length ≤ 1000000) : Ev (fun k => laws_vHas.f k l x) (decide (x ∈ l)) := by
  have key : ∀ n i, i + n = l.length → Ev (fun k => laws_vHas.l0 k l x (i : Int)) (decide (x ∈ l.drop i)) := by
    intro n
    induction n with
    | zero =>
      intro i hi
      refine Ev.succ ?_
      simp only [laws_vHas.l0.eq_2]
      rw [List.drop_eq_nil_of_le (by omega), decide_eq_false (by simp)]
      exact Ev.neg (by omega) (Ev.now _)
    | succ n ih =>
      intro i hi
      refine Ev.succ ?_
      simp only [laws_vHas.l0.eq_2]
      rw [rd_nat l i (by omega), w64 (n := (i : Int) + 1) (by omega) (by omega), List.drop_eq_getElem_cons (by omega)]
      refine Ev.pos (by omega) (Ev.pos (by omega) ?_)
      by_cases c : l[i] = x
      · rw [decide_eq_true (by rw [c]; simp)]
        exact Ev.pos c (Ev.now _)
      · rw [show decide (x ∈ l[i] :: l.drop (i + 1)) = decide (x ∈ l.drop (i + 1)) by rw [Bool.eq_iff_iff, decide_eq_true_eq, decide_eq_true_eq, List.mem_cons]; exact ⟨fun h => h.resolve_left (fun e => c e.symm), .inr⟩]
        exact Ev.neg c (ih (i + 1) (by omega))
  have := key l.length 0 (by omega)
  rw [List.drop_zero] at this
  unfold laws_vHas.f
  exact this
theorem vCut_ok (l : List Int) (hs : Bytes8 l) (hl : l.length ≤ 65536) : ∃ c, laws_vCut.f l 1 = some c ∧ Bytes8 c ∧ c.length ≤ 65537 := by
  unfold laws_vCut.f
  by_cases c : (1 : Int) > (l.length : Int)
  · have h0 : l = [] := List.length_eq_zero_iff.mp (by omega)
    subst h0
    exact ⟨[0], rfl, fun x hx => by simp at hx; omega, by simp⟩
  · rw [if_neg c]
    simp only [Option.bind_some, List.nil_append, List.length_nil]
    rw [if_pos (by omega), if_pos (by omega), if_pos (by simp only [List.length_drop]; omega), if_pos (by simp only [List.length_drop]; omega)]
    refine ⟨_, rfl, fun x hx => ?_, by simp only [List.length_append, List.length_drop, List.length_singleton]; omega⟩
    rcases List.mem_append.mp hx with h | h
    · exact hs x (List.mem_of_mem_drop h)
    · simp at h; omega
section
variable {n : Nat} {s : Int} {l : List Int} {T : Nat}
theorem bl1_ev (sa en wa : List Int) (la : Int) (hn : n ≤ 10) (h1 : sa.length = n) (h2 : en.length = n) (h3 : wa.length = n) (hs5 : 0 ≤ s ∧ s ≤ 5) (hT : T ≤ 160)
    (h : ∀ r : Nat, r < n → rd sa (r : Int) = rd en (r : Int) + r + rd wa (r : Int) + s ∧ 1 ≤ rd en (r : Int) ∧ rd sa (r : Int) ≤ T ∧ 0 ≤ rd wa (r : Int)) :
    ∀ d i (acc : Int), i + d = n → acc ≤ T → (acc = T ∨ ∃ q : Nat, i ≤ q ∧ q < n ∧ rd sa (q : Int) = T) → Ev (fun k => laws_FnBoarding.l1 k (n : Int) s sa en wa (i : Int) acc) (T : Int) := by
  intro d
  induction d with
  | zero =>
    intro i acc hi ha hm
    refine Ev.succ ?_
    simp only [laws_FnBoarding.l1]
    have e : acc = T := hm.resolve_right (by rintro ⟨q, hq, hq2, _⟩; omega)
    rw [e]
    exact Ev.neg (by omega) (Ev.now _)
  | succ d ih =>
    intro i acc hi ha hm
    have hi2 := h i (by omega)
    refine Ev.succ ?_
    simp only [laws_FnBoarding.l1]
    rw [w64 (n := (i : Int) + 1) (by omega) (by omega), w64 (n := rd en (i : Int) + (i : Int)) (by omega) (by omega), w64 (n := rd en (i : Int) + (i : Int) + rd wa (i : Int)) (by omega) (by omega), w64 (n := rd en (i : Int) + (i : Int) + rd wa (i : Int) + s) (by omega) (by omega)]
    refine Ev.pos (by omega) (Ev.pos (by omega) (ih (i + 1) _ (by omega) ?_ ?_))
    · split <;> omega
    · rcases hm with e | ⟨q, q1, q2, q3⟩
      · left; rw [if_neg (by omega)]; exact e
      · by_cases c : q = i
        · subst c
          left
          split <;> omega
        · exact .inr ⟨q, by omega, q2, q3⟩
theorem bl2_ev (en : List Int) (hn : 1 ≤ n) (hn2 : n ≤ 10) (ho : IsOrd l n) (h2 : en.length = n) (h : ∀ k : Nat, k + 1 < n → rd en (odr l k : Int) < rd en (odr l (k + 1) : Int)) :
    ∀ d i, i + d = n → 1 ≤ i → Ev (fun k => laws_FnBoarding.l2 k (n : Int) l en (i : Int)) true := by
  intro d
  induction d with
  | zero =>
    intro i hi _
    refine Ev.succ ?_
    simp only [laws_FnBoarding.l2]
    exact Ev.neg (by omega) (Ev.now _)
  | succ d ih =>
    intro i hi hi1
    obtain ⟨j, rfl⟩ : ∃ j, i = j + 1 := ⟨i - 1, by omega⟩
    obtain ⟨a1, a2, a3⟩ := odr_rd ho (j + 1) (by omega)
    obtain ⟨b1, b2, b3⟩ := odr_rd ho j (by omega)
    have hh := h j (by omega)
    have e1 : rd l ((j + 1 : Nat) : Int) = (odr l (j + 1) : Int) := by unfold rd; rw [Int.toNat_natCast]; exact a1
    have e2 : rd l (j : Int) = (odr l j : Int) := by unfold rd; rw [Int.toNat_natCast]; exact b1
    refine Ev.succ ?_
    simp only [laws_FnBoarding.l2]
    rw [w64 (n := ((j + 1 : Nat) : Int) + 1) (by omega) (by omega), w64 (n := ((j + 1 : Nat) : Int) - 1) (by omega) (by omega), show ((j + 1 : Nat) : Int) - 1 = (j : Int) by omega, e1, e2]
    exact Ev.pos (by omega) (Ev.pos (by omega) (ih (j + 1 + 1) (by omega) (by omega)))
/-- the aisle at a time, told by the times at the end -/
theorem aisle_facts (hn : 1 ≤ n) (hn2 : n ≤ 10) (hs : 1 ≤ s) (hs5 : s ≤ 5) (ho : IsOrd l n) (hT : T ≤ 160) (hd : Done n (traj n l s T)) (t : Int) (ht : 0 ≤ t) :
    (∀ p : Nat, p < n → 0 ≤ rd (traj n l s (min t.toNat T)).ai (p : Int) → (p : Int) ≤ rd (traj n l s (min t.toNat T)).ai (p : Int) ∧ rd (traj n l s (min t.toNat T)).ai (p : Int) < n ∧ rd (traj n l s T).en (rd (traj n l s (min t.toNat T)).ai (p : Int)) ≤ t ∧ t < rd (traj n l s T).sa (rd (traj n l s (min t.toNat T)).ai (p : Int))) ∧
    (∀ r : Nat, r < n → decide ((r : Int) ∈ (traj n l s (min t.toNat T)).ai) = (decide (rd (traj n l s T).en (r : Int) ≤ t) && decide (t < rd (traj n l s T).sa (r : Int)))) := by
  obtain ⟨u, hu⟩ : ∃ u, min t.toNat T = u := ⟨_, rfl⟩
  rw [hu]
  have huT : u ≤ T := by omega
  obtain ⟨d, hd2⟩ : ∃ d, u + d = T := ⟨T - u, by omega⟩
  have f := fn_traj ho hs u (by omega)
  have fT := fn_traj ho hs T (by omega)
  have hdone : ∀ r : Nat, r < n → rd (traj n l s T).sa (r : Int) > 0 := fun r hr => by
    have := hd r hr; have := fT.wf.sn r hr; omega
  have hend := fun r hr => at_end hs ho r hr u d (by omega)
  rw [hd2] at hend
  obtain ⟨hf, _, _, _⟩ := end_facts hn hn2 hs hs5 ho hT hd
  -- someone at a place stands in the aisle at u
  have hin : ∀ r : Nat, r < n → rd (traj n l s u).sa (r : Int) = 0 → 0 ≤ rd (traj n l s u).at_ (r : Int) → rd (traj n l s T).en (r : Int) ≤ t ∧ t < rd (traj n l s T).sa (r : Int) := by
    intro r hr h1 h2
    obtain ⟨a, _, _, b⟩ := hend r hr
    have a1 := (a (.inr h2)).2
    have b1 := (b h1).resolve_left (by have := hdone r hr; omega)
    have := (hf r hr).2.2.1
    omega
  refine ⟨fun p hp h0 => ?_, fun r hr => ?_⟩
  · obtain ⟨r, hr, e, h1, h2⟩ := f.oc.who p hp h0
    rw [e]
    have h3 := f.wf.hi r hr
    have h4 := hin r hr h1 (by omega)
    exact ⟨by omega, by omega, h4.1, h4.2⟩
  · have hlen := f.wf.lai
    by_cases hm : (r : Int) ∈ (traj n l s u).ai
    · rw [decide_eq_true hm]
      obtain ⟨p, hp, e⟩ := List.mem_iff_getElem.mp hm
      have e2 : rd (traj n l s u).ai (p : Int) = (r : Int) := by rw [rd_nat _ p hp, e]
      obtain ⟨x, hx, e3, h1, h2⟩ := f.oc.who p (by omega) (by omega)
      have : x = r := by omega
      subst this
      have h4 := hin x hx h1 (by omega)
      rw [decide_eq_true h4.1, decide_eq_true h4.2]; rfl
    · rw [decide_eq_false hm]
      symm
      rw [Bool.and_eq_false_iff, decide_eq_false_iff_not, decide_eq_false_iff_not]
      obtain ⟨a, b, c, d'⟩ := hend r hr
      have hsn := f.wf.sn r hr
      by_cases h1 : rd (traj n l s u).sa (r : Int) > 0
      · right
        have := (c h1).1
        omega
      · by_cases h2 : 0 ≤ rd (traj n l s u).at_ (r : Int)
        · exfalso
          have h3 := f.oc.where_ r hr (by omega) h2
          have h4 := f.wf.hi r hr
          obtain ⟨p, hp⟩ : ∃ p : Nat, rd (traj n l s u).at_ (r : Int) = (p : Int) := ⟨(rd (traj n l s u).at_ (r : Int)).toNat, by omega⟩
          rw [hp] at h3 h4
          rw [rd_nat _ p (by omega)] at h3
          exact hm (by rw [← h3]; exact List.getElem_mem _)
        · left
          have hne : ¬ Ent (traj n l s u) r := by unfold Ent; omega
          have h3 := (b hne).resolve_left (fun hc => hc (.inl (hdone r hr)))
          have h4 := (hf r hr)
          by_cases ht2 : t.toNat ≤ T
          · omega
          · have hut : u = T := by omega
            subst hut
            have := hdone r hr
            omega
theorem bl3_ev (aa en sa : List Int) (t : Int) (hn : n ≤ 10) (h1 : aa.length = n) (h2 : en.length = n) (h3 : sa.length = n) (h : ∀ p : Nat, p < n → 0 ≤ rd aa (p : Int) → (p : Int) ≤ rd aa (p : Int) ∧ rd aa (p : Int) < n ∧ rd en (rd aa (p : Int)) ≤ t ∧ t < rd sa (rd aa (p : Int))) :
    ∀ d i, i + d = n → Ev (fun k => laws_FnBoarding.l3 k true (n : Int) t aa en sa (i : Int)) true := by
  intro d
  induction d with
  | zero =>
    intro i hi
    refine Ev.succ ?_
    simp only [laws_FnBoarding.l3]
    exact Ev.neg (by omega) (Ev.now _)
  | succ d ih =>
    intro i hi
    have hh := h i (by omega)
    refine Ev.succ ?_
    simp only [laws_FnBoarding.l3]
    rw [w64 (n := (i : Int) + 1) (by omega) (by omega)]
    refine Ev.pos ⟨trivial, by omega⟩ (Ev.pos ⟨by omega, by omega, fun h0 => ?_⟩ (ih (i + 1) (by omega)))
    have := hh h0
    omega
theorem bl4_ev (aa en sa : List Int) (t : Int) (hn : n ≤ 10) (h1 : aa.length = n) (h2 : en.length = n) (h3 : sa.length = n) (h : ∀ r : Nat, r < n → decide ((r : Int) ∈ aa) = (decide (rd en (r : Int) ≤ t) && decide (t < rd sa (r : Int)))) :
    ∀ d i, i + d = n → Ev (fun k => laws_FnBoarding.l4 k true (n : Int) t aa en sa (i : Int)) true := by
  intro d
  induction d with
  | zero =>
    intro i hi
    refine Ev.succ ?_
    simp only [laws_FnBoarding.l4]
    exact Ev.neg (by omega) (Ev.now _)
  | succ d ih =>
    intro i hi
    refine Ev.succ ?_
    simp only [laws_FnBoarding.l4]
    rw [w64 (n := (i : Int) + 1) (by omega) (by omega)]
    exact Ev.pos ⟨trivial, by omega⟩ (Ev.bind (vHas_ev aa (i : Int) (by omega)) (Ev.pos ⟨by omega, by omega, by omega, h i (by omega)⟩ (ih (i + 1) (by omega))))
end
theorem swap_back {l : List Int} (i : Nat) (hi : i + 1 < l.length) :
    (((l.set i (rd l ((i : Int) + 1))).set (i + 1) (rd l (i : Int))).set i (rd ((l.set i (rd l ((i : Int) + 1))).set (i + 1) (rd l (i : Int))) ((i : Int) + 1))).set (i + 1) (rd ((l.set i (rd l ((i : Int) + 1))).set (i + 1) (rd l (i : Int))) (i : Int)) = l := by
  have e1 : rd ((l.set i (rd l ((i : Int) + 1))).set (i + 1) (rd l (i : Int))) ((i : Int) + 1) = rd l (i : Int) := by
    rw [show ((i : Int) + 1) = ((i + 1 : Nat) : Int) by omega, rd_set _ _ _ _ (by rw [List.length_set]; exact hi), if_pos rfl]
  have e2 : rd ((l.set i (rd l ((i : Int) + 1))).set (i + 1) (rd l (i : Int))) (i : Int) = rd l ((i : Int) + 1) := by
    rw [rd_set _ _ _ _ (by rw [List.length_set]; exact hi), if_neg (by omega), rd_set _ _ _ _ (by omega), if_pos rfl]
  rw [e1, e2, show ((i : Int) + 1) = ((i + 1 : Nat) : Int) by omega, rd_nat l i (by omega), rd_nat l (i + 1) hi]
  apply List.ext_getElem?
  intro p
  simp only [List.getElem?_set, List.length_set]
  by_cases a : i + 1 = p
  · subst a
    rw [if_pos rfl, if_pos hi, List.getElem?_eq_getElem hi]
  · rw [if_neg a]
    by_cases b : i = p
    · subst b
      rw [if_pos rfl, if_pos (by omega), List.getElem?_eq_getElem (by omega)]
    · rw [if_neg b, if_neg a, if_neg b]
theorem swap_val (m j : Nat) (s : Int) (l : List Int) (hL : l.length ≤ 35184372088832) (hv : BValid (m : Int) s l) (hj : j + 1 < m) (T T' : Nat) (hT : T ≤ 160) (hd : Done m (traj m l s T)) (hu : ∀ u, u < T → ¬ Done m (traj m l s u))
    (hT' : T' ≤ 160) (hd' : Done m (traj m ((l.set j (rd l ((j : Int) + 1))).set (j + 1) (rd l (j : Int))) s T')) (hu' : ∀ u, u < T' → ¬ Done m (traj m ((l.set j (rd l ((j : Int) + 1))).set (j + 1) (rd l (j : Int))) s u)) :
    Ev (fun k => spec_SwapGain.f k (m : Int) s l (j : Int)) (wrap64 ((T : Int) - (T' : Int)), true) ∧ Ev (fun k => impl_SwapGain.f k (m : Int) s l (j : Int)) (wrap64 ((T : Int) - (T' : Int)), true) := by
  obtain ⟨h1, h2, h3, h4, ho⟩ := id hv
  have hlen := ho.1
  have hi : 0 ≤ (j : Int) ∧ (j : Int) ≤ (m : Int) - 2 := by omega
  have ho2 := swap_ord ho j (by omega)
  refine ⟨?_, ?_⟩
  · unfold spec_SwapGain.f
    refine Ev.bind (l7Ask_ev _ _ l hL) (Ev.pos (decide_eq_true hv) (Ev.bindc (l1In_eq _ _ _) ?_))
    rw [w64 (by omega) (by omega), decide_eq_true hi]
    refine Ev.succ ?_
    simp only [spec_SwapGain.j0.eq_2]
    rw [w64 (n := (j : Int) + 1) (by omega) (by omega)]
    refine Ev.neg (by decide) (Ev.bindc (swOwn_eq l (by omega)) (Ev.pos (by omega) (Ev.pos (by omega) (Ev.pos (by omega) (Ev.pos (by omega) (Ev.pos (by omega) (Ev.pos (by omega) ?_)))))))
    rw [Int.toNat_natCast, show ((j : Int) + 1).toNat = j + 1 by omega]
    exact Ev.bind (l7Time_ev (by omega) (by omega) h3 h4 ho hT hd hu) (Ev.bind (l7Time_ev (by omega) (by omega) h3 h4 ho2 hT' hd' hu') (Ev.now _))
  · unfold impl_SwapGain.f
    refine Ev.bind (isBoarding_ev _ _ l hL) (Ev.pos (decide_eq_true hv) (Ev.bindc (within_eq _ _ _) ?_))
    rw [w64 (by omega) (by omega), decide_eq_true hi]
    refine Ev.succ ?_
    simp only [impl_SwapGain.j0.eq_2]
    rw [w64 (n := (j : Int) + 1) (by omega) (by omega)]
    refine Ev.neg (by decide) (Ev.bindc (a := l) (by unfold slices_Clone_int_int.f; rw [if_pos (by omega)]) (Ev.pos (by omega) (Ev.pos (by omega) (Ev.pos (by omega) (Ev.pos (by omega) ?_)))))
    rw [Int.toNat_natCast, show ((j : Int) + 1).toNat = j + 1 by omega]
    exact Ev.bind (board_ev (by omega) (by omega) h3 h4 ho hT hd hu) (Ev.bindc (bd_time m l s T hT) (Ev.bind (board_ev (by omega) (by omega) h3 h4 ho2 hT' hd' hu') (Ev.bindc (bd_time m _ s T' hT') (Ev.now _))))
theorem swap_told (n s : Int) (l : List Int) (i : Int) (hL : l.length ≤ 35184372088832) : ∃ r : Int × Bool, Ev (fun k => spec_SwapGain.f k n s l i) r ∧ Ev (fun k => impl_SwapGain.f k n s l i) r ∧ Ev (fun k => laws_FnBoarding.q k n s l i r.1 r.2) true := by
  have bad1 : Ev (fun k => spec_SwapGain.j0 k n s l i true) (0, false) := by
    refine Ev.succ ?_
    simp only [spec_SwapGain.j0.eq_2]; exact Ev.pos (by trivial) (Ev.now _)
  have bad2 : Ev (fun k => impl_SwapGain.j0 k n s l i true) (0, false) := by
    refine Ev.succ ?_
    simp only [impl_SwapGain.j0.eq_2]; exact Ev.pos (by trivial) (Ev.now _)
  have bad3 : Ev (fun k => laws_FnBoarding.q k n s l i 0 false) true := by
    unfold laws_FnBoarding.q; exact Ev.neg (by decide) (Ev.now _)
  by_cases hv : BValid n s l
  · obtain ⟨h1, h2, h3, h4, ho⟩ := id hv
    by_cases hi : 0 ≤ i ∧ i ≤ n - 2
    · obtain ⟨m, rfl⟩ := Int.eq_ofNat_of_zero_le (show 0 ≤ n by omega)
      obtain ⟨j, rfl⟩ := Int.eq_ofNat_of_zero_le hi.1
      have hlen := ho.1
      have ho2 := swap_ord ho j (by omega)
      obtain ⟨T, hT, hd, hu⟩ := least_done (n := m) (by omega) h3 h4 ho
      obtain ⟨T', hT', hd', hu'⟩ := least_done (n := m) (by omega) h3 h4 ho2
      obtain ⟨a1, a2⟩ := swap_val m j s l hL hv (by omega) T T' hT hd hu hT' hd' hu'
      refine ⟨_, a1, a2, ?_⟩
      have hlen2 : ((l.set j (rd l ((j : Int) + 1))).set (j + 1) (rd l (j : Int))).length = l.length := by simp
      have hb := swap_back (l := l) j (by omega)
      obtain ⟨_, b2⟩ := swap_val m j s ((l.set j (rd l ((j : Int) + 1))).set (j + 1) (rd l (j : Int))) (by omega) ⟨h1, h2, h3, h4, ho2⟩ (by omega) T' T hT' hd' hu' hT (by rw [hb]; exact hd) (by rw [hb]; exact hu)
      unfold laws_FnBoarding.q
      rw [w64 (n := (j : Int) + 1) (by omega) (by omega), Int.toNat_natCast, show ((j : Int) + 1).toNat = j + 1 by omega]
      refine Ev.pos rfl (Ev.pos (by omega) (Ev.bind b2 (Ev.pos ⟨rfl, ?_⟩ (Ev.now _))))
      simp only
      rw [w64 (n := (T : Int) - (T' : Int)) (by omega) (by omega), w64 (by omega) (by omega), w64 (by omega) (by omega)]
      omega
    · refine ⟨(0, false), ?_, ?_, bad3⟩
      · unfold spec_SwapGain.f
        refine Ev.bind (l7Ask_ev _ _ l hL) (Ev.pos (decide_eq_true hv) (Ev.bindc (l1In_eq _ _ _) ?_))
        rw [w64 (by omega) (by omega), decide_eq_false hi]; exact bad1
      · unfold impl_SwapGain.f
        refine Ev.bind (isBoarding_ev _ _ l hL) (Ev.pos (decide_eq_true hv) (Ev.bindc (within_eq _ _ _) ?_))
        rw [w64 (by omega) (by omega), decide_eq_false hi]; exact bad2
  · refine ⟨(0, false), ?_, ?_, bad3⟩
    · unfold spec_SwapGain.f
      exact Ev.bind (l7Ask_ev _ _ l hL) (Ev.neg (by simpa using hv) bad1)
    · unfold impl_SwapGain.f
      exact Ev.bind (isBoarding_ev _ _ l hL) (Ev.neg (by simpa using hv) bad2)
theorem entering_told (n : Int) (l : List Int) (hL : l.length ≤ 35184372088832) : ∃ r : Bool × Bool, Ev (fun k => impl_IsEntering.f k n l) r ∧ Ev (fun k => spec_IsEntering.f k n l) r ∧ (∀ s, BValid n s l → r.1 = true) := by
  by_cases hn : 1 ≤ n ∧ n ≤ 10
  · refine ⟨(decide (IsOrd l n), true), ?_, ?_, fun s hv => decide_eq_true hv.2.2.2.2⟩
    · unfold impl_IsEntering.f
      refine Ev.bindc (a := true) (by unfold impl_isPlaneRows.f; rw [within_eq]; simp [hn]) (Ev.pos rfl (Ev.bind (isOrder_ev l n (by omega) (by omega) hL) (Ev.now _)))
    · unfold spec_IsEntering.f
      exact Ev.bindc (l1In_eq _ _ _) (Ev.pos (decide_eq_true hn) (Ev.bind (l7Order_ev l n (by omega) (by omega) hL) (Ev.now _)))
  · refine ⟨(false, false), ?_, ?_, fun s hv => absurd ⟨hv.1, hv.2.1⟩ hn⟩
    · unfold impl_IsEntering.f
      refine Ev.bindc (a := false) (by unfold impl_isPlaneRows.f; rw [within_eq]; simpa using hn) (Ev.neg (by decide) (Ev.now _))
    · unfold spec_IsEntering.f
      exact Ev.bindc (l1In_eq _ _ _) (Ev.neg (by simpa using hn) (Ev.now _))
theorem aisle_told (m : Nat) (s : Int) (l : List Int) (t : Int) (hL : l.length ≤ 35184372088832) (hv : BValid (m : Int) s l) (T : Nat) (hT : T ≤ 160) (hd : Done m (traj m l s T)) (hu : ∀ u, u < T → ¬ Done m (traj m l s u)) :
    Ev (fun k => spec_AisleAt.f k (m : Int) s l t) (if t < 0 then ([], false) else ((traj m l s (min t.toNat T)).ai, true)) ∧ Ev (fun k => impl_AisleAt.f k (m : Int) s l t) (if t < 0 then ([], false) else ((traj m l s (min t.toNat T)).ai, true)) := by
  obtain ⟨h1, h2, h3, h4, ho⟩ := id hv
  by_cases ht : t < 0
  · rw [if_pos ht]
    refine ⟨?_, ?_⟩
    · unfold spec_AisleAt.f
      exact Ev.bind (l7Ask_ev _ _ l hL) (Ev.pos (decide_eq_true hv) (Ev.pos ht (Ev.now _)))
    · unfold impl_AisleAt.f
      refine Ev.bind (isBoarding_ev _ _ l hL) (Ev.pos (decide_eq_true hv) (Ev.succ ?_))
      simp only [impl_AisleAt.j0.eq_2]
      exact Ev.pos (decide_eq_true ht) (Ev.now _)
  · rw [if_neg ht]
    have hr := l7Run_ev (n := m) (by omega) h3 h4 ho hT hd hu t
    rw [if_neg ht] at hr
    have hmin : min t.toNat T ≤ T := Nat.min_le_right _ _
    refine ⟨?_, ?_⟩
    · unfold spec_AisleAt.f
      exact Ev.bind (l7Ask_ev _ _ l hL) (Ev.pos (decide_eq_true hv) (Ev.neg ht (Ev.bind hr (Ev.now _))))
    · unfold impl_AisleAt.f
      refine Ev.bind (isBoarding_ev _ _ l hL) (Ev.pos (decide_eq_true hv) (Ev.succ ?_))
      simp only [impl_AisleAt.j0.eq_2]
      have hl : (aisles m l s T).length = T + 1 := by simp [aisles]
      refine Ev.neg (by simpa using ht) (Ev.bind (board_ev (by omega) (by omega) h3 h4 ho hT hd hu) (Ev.bindc (a := (T : Int)) (bd_time m l s T hT) ?_))
      have e : mn t (T : Int) = ((min t.toNat T : Nat) : Int) := by rw [mn_eq]; omega
      rw [e]
      refine Ev.pos (by omega) (Ev.pos (by dsimp only; rw [hl]; omega) ?_)
      rw [aisles_get m l s T _ hmin]
      exact Ev.now _
theorem aisle_none (n s : Int) (l : List Int) (t : Int) (hL : l.length ≤ 35184372088832) (hv : ¬ BValid n s l) : Ev (fun k => spec_AisleAt.f k n s l t) ([], false) ∧ Ev (fun k => impl_AisleAt.f k n s l t) ([], false) := by
  refine ⟨?_, ?_⟩
  · unfold spec_AisleAt.f
    exact Ev.bind (l7Ask_ev _ _ l hL) (Ev.neg (by simpa using hv) (Ev.now _))
  · unfold impl_AisleAt.f
    refine Ev.bind (isBoarding_ev _ _ l hL) (Ev.neg (by simpa using hv) (Ev.succ ?_))
    simp only [impl_AisleAt.j0.eq_2]
    exact Ev.pos (by trivial) (Ev.now _)
theorem bg_ev (m : Nat) (s : Int) (l : List Int) (t : Int) (hv : BValid (m : Int) s l) (T : Nat) (hT : T ≤ 160) (hd : Done m (traj m l s T)) (hu : ∀ u, u < T → ¬ Done m (traj m l s u)) :
    Ev (fun k => laws_FnBoarding.g k (m : Int) s t l (if t < 0 then (([] : List Int), false) else ((traj m l s (min t.toNat T)).ai, true)).1 (traj m l s T).sa (traj m l s T).en (traj m l s T).wa (if t < 0 then (([] : List Int), false) else ((traj m l s (min t.toNat T)).ai, true)).2 (T : Int)) true := by
  obtain ⟨h1, h2, h3, h4, ho⟩ := id hv
  obtain ⟨f1, f2, f3, f4⟩ := end_facts (by omega) (by omega) h3 h4 ho hT hd
  have w := traj_wf h3 ho T
  have w1 := w.lsa; have w2 := w.len; have w3 := w.lwa
  obtain ⟨q, hq, hq2⟩ := sat_last (by omega) h3 ho hd hu
  obtain ⟨o1, o2, o3⟩ := odr_rd ho 0 (by omega)
  have hlen := ho.1
  have e0 : rd l 0 = (odr l 0 : Int) := by
    have : rd l ((0 : Nat) : Int) = (odr l 0 : Int) := by unfold rd; rw [Int.toNat_natCast]; exact o1
    exact this
  unfold laws_FnBoarding.g
  rw [w64 (n := (m : Int) + s) (by omega) (by omega)]
  refine Ev.neg (by omega) (Ev.bind (bl1_ev (s := s) (T := T) _ _ _ 0 (by omega) w1 w2 w3 (by omega) hT f1 m 0 0 (by omega) (by omega) (.inr ⟨q, by omega, hq, hq2⟩)) (Ev.bind (bl2_ev _ (by omega) (by omega) ho w2 f2 (m - 1) 1 (by omega) (by omega)) ?_))
  have fin : Ev (fun _ => if (T : Int) = (T : Int) ∧ 0 < l.length ∧ 0 ≤ rd l 0 ∧ rd l 0 < ((traj m l s T).en.length : Int) ∧ rd (traj m l s T).en (rd l 0) = 1 then some true else none) true := by
    refine Ev.pos ⟨rfl, by omega, by omega, by omega, ?_⟩ (Ev.now _)
    rw [e0]; exact f3
  by_cases ht : t < 0
  · rw [if_pos ht]
    refine Ev.bind (a := true) ?_ (Ev.bind (a := true) ?_ fin)
    · refine Ev.succ ?_
      simp only [laws_FnBoarding.l3]
      exact Ev.neg (fun h => by cases h.1) (Ev.now _)
    · refine Ev.succ ?_
      simp only [laws_FnBoarding.l4]
      exact Ev.neg (fun h => by cases h.1) (Ev.now _)
  · rw [if_neg ht]
    obtain ⟨g1, g2⟩ := aisle_facts (by omega) (by omega) h3 h4 ho hT hd t (by omega)
    have w4 := (traj_wf h3 ho (min t.toNat T)).lai
    exact Ev.bind (bl3_ev _ _ _ t (by omega) w4 w2 w1 g1 m 0 (by omega)) (Ev.bind (bl4_ev _ _ _ t (by omega) w4 w2 w1 g2 m 0 (by omega)) fin)
theorem all_told (n s : Int) (l : List Int) (t : Int) (hL : l.length ≤ 31) : ∃ (aa : List Int × Bool) (bt : Int) (sa en wa : List Int) (ie : Bool × Bool) (b : Bool),
    Ev (fun k => impl_AisleAt.f k n s l t) aa ∧ Ev (fun k => spec_AisleAt.f k n s l t) aa ∧ Ev (fun k => impl_BoardTime.f k n s l) (bt, b) ∧ Ev (fun k => spec_BoardTime.f k n s l) (bt, b) ∧ Ev (fun k => impl_SitTimes.f k n s l) (sa, b) ∧ Ev (fun k => spec_SitTimes.f k n s l) (sa, b) ∧ Ev (fun k => impl_EnterTimes.f k n s l) (en, b) ∧ Ev (fun k => spec_EnterTimes.f k n s l) (en, b) ∧ Ev (fun k => impl_WaitTimes.f k n s l) (wa, b) ∧ Ev (fun k => spec_WaitTimes.f k n s l) (wa, b) ∧ Ev (fun k => impl_IsEntering.f k n l) ie ∧ Ev (fun k => spec_IsEntering.f k n l) ie ∧
    (b = true → ie.1 = true) ∧ (aa.2 = true → b = true) ∧ aa.1.length ≤ 1000 ∧ sa.length ≤ 1000 ∧ en.length ≤ 1000 ∧ wa.length ≤ 1000 ∧ Ev (fun k => if b = true then laws_FnBoarding.g k n s t l aa.1 sa en wa aa.2 bt else some true) true := by
  obtain ⟨ie, e1, e2, e3⟩ := entering_told n l (by omega)
  by_cases hv : BValid n s l
  · obtain ⟨h1, h2, h3, h4, ho⟩ := id hv
    obtain ⟨m, rfl⟩ := Int.eq_ofNat_of_zero_le (show 0 ≤ n by omega)
    obtain ⟨T, hT, hd, hu⟩ := least_done (n := m) (by omega) h3 h4 ho
    obtain ⟨b1, b2, b3, b4, b5, b6, b7, b8⟩ := sit_told (m : Int) s l (by omega) m rfl hv T hT hd hu
    obtain ⟨c1, c2⟩ := aisle_told m s l t (by omega) hv T hT hd hu
    have w := traj_wf h3 ho T
    have w1 := w.lsa; have w2 := w.len; have w3 := w.lwa
    have w4 := (traj_wf h3 ho (min t.toNat T)).lai
    refine ⟨_, _, _, _, _, ie, true, c2, c1, b8, b7, b2, b1, b4, b3, b6, b5, e1, e2, fun _ => e3 s hv, fun _ => rfl, ?_, by omega, by omega, by omega, Ev.pos rfl (bg_ev m s l t hv T hT hd hu)⟩
    split
    · simp
    · simp only; omega
  · obtain ⟨b1, b2, b3, b4, b5, b6, b7, b8⟩ := sit_none n s l (by omega) hv
    obtain ⟨c1, c2⟩ := aisle_none n s l t (by omega) hv
    exact ⟨_, _, _, _, _, ie, false, c2, c1, b8, b7, b2, b1, b4, b3, b6, b5, e1, e2, (fun h => by cases h), (fun h => h), by simp, by simp, by simp, by simp, Ev.neg (by decide) (Ev.now _)⟩
theorem FnBoarding : laws_FnBoarding.Pure := by
  intro l0 hm hy hwf
  have hb8 : Bytes8 l0 := fun x hx => by
    have := hwf x hx
    simp [Lit.wf, IntKind.min, IntKind.max, IntKind.bits, IntKind.signed] at this; omega
  suffices h : Ev (fun k => laws_FnBoarding.f k l0) true by
    obtain ⟨K, hK⟩ := h
    exact ⟨K, hK K (Nat.le_refl _)⟩
  unfold laws_FnBoarding.f
  by_cases hbig : (l0.length : Int) > 65536
  · exact Ev.bindc (a := true) (by unfold laws_vBig.f; rw [decide_eq_true hbig]) (Ev.pos rfl (Ev.now _))
  · refine Ev.bindc (a := false) (by unfold laws_vBig.f; rw [decide_eq_false hbig]) (Ev.neg (by decide) ?_)
    have hdr : ∃ q : Int × Int × List Int × Int, Ev (fun k => spec_DrawAisleAt.f k l0) q ∧ q.2.2.1.length ≤ 31 := by
      obtain ⟨q, hq, hq2, _, _⟩ := board_draw l0 hb8 (by omega)
      obtain ⟨v, p2, q2, e2, _⟩ := among_ok l0 hb8 (by omega) 0 0 [3, 5, 8, 1, 0, 12, 4611686018427387904, (-1)] (by omega) (by omega) (by simp) (by simp)
      refine ⟨(q.1, q.2.1, q.2.2, v), ?_, hq2⟩
      unfold spec_DrawAisleAt.f
      exact Ev.bind hq (Ev.bindc e2 (Ev.now _))
    obtain ⟨⟨n, s, l, t⟩, hd, hdl⟩ := hdr
    simp only at hdl
    obtain ⟨c1, hc1, hc8, hcl⟩ := vCut_ok l0 hb8 (by omega)
    have hdr2 : ∃ q : Int × Int × List Int × Int, Ev (fun k => spec_DrawSwapGain.f k c1) q ∧ q.2.2.1.length ≤ 31 := by
      obtain ⟨q, hq, hq2, hq3, hq4⟩ := board_draw c1 hc8 (by omega)
      obtain ⟨v, p1, q1, e1, _, _, _, _⟩ := pick_ok c1 hc8 (by omega) 0 0 (max 1 (wrap64 (q.1 - 1))) (by omega) (by omega) (by rw [w64 (by omega) (by omega)]; omega)
      obtain ⟨u, p2, q2, e2, _, _, _, _⟩ := pick_ok c1 hc8 (by omega) p1 q1 24 (by omega) (by omega) (by decide)
      refine ⟨(q.1, q.2.1, q.2.2, wrap64 (v - wrap64 (Int.tdiv u 23))), ?_, hq2⟩
      unfold spec_DrawSwapGain.f
      exact Ev.bind hq (Ev.bindc (l1Most_eq _ _) (Ev.bindc e1 (Ev.bindc e2 (Ev.now _))))
    obtain ⟨⟨n2, s2, l2, i2⟩, hd2, hdl2⟩ := hdr2
    simp only at hdl2
    obtain ⟨⟨aa, ok⟩, bt, sa, en, wa, ie, b, a1, a2, a3, a4, a5, a6, a7, a8, a9, a10, a11, a12, k1, k2, n1, n3, n4, n5, hg⟩ := all_told n s l t hdl
    obtain ⟨⟨sg, fo⟩, s1, s3, hq⟩ := swap_told n2 s2 l2 i2 (by omega)
    refine Ev.bind hd (Ev.bind a1 (Ev.bind a2 (Ev.bind a3 (Ev.bind a4 (Ev.bind a5 (Ev.bind a6 (Ev.bind a7 (Ev.bind a8 (Ev.bind a9 (Ev.bind a10 (Ev.bind a11 (Ev.bind a12 (Ev.bindc hc1 (Ev.bind hd2 (Ev.bind s3 (Ev.bind s1 (Ev.pos ⟨rfl, rfl, rfl, rfl, rfl, rfl, rfl, rfl, rfl, rfl, k1, k2⟩ ?_)))))))))))))))))
    exact Ev.bind (vInts_refl aa (by simp only at n1; omega)) (Ev.bind (vInts_refl sa (by omega)) (Ev.bind (vInts_refl en (by omega)) (Ev.bind (vInts_refl wa (by omega)) (Ev.pos ⟨rfl, rfl, rfl, rfl⟩ (Ev.bind hq hg)))))

end Go.Proofs.Ytmlkajaaokhdaaa.Pure
