/- Proved: FnExactKindsFit's pure statement, for all arguments: both searches look at the same pairs of free neighbors. -/
import Derived.Test.YtfdgadfapmhgbaaDoorZKindsFitPx10
namespace Go.Proofs.YtfdgadfapmhgbaaDoor.Pure
open Go.RowKit Go.Proofs.YtfdgadfapmhgbaaDoor.PFnExactKindsFit Go.Proofs.YtfdgadfapmhgbaaDoorW.PrintWords Go.Proofs.YtfdgadfapmhgbaaDoorW.PrintLast Go.Proofs.YtfdgadfapmhgbaaDoorW.PrintMore
set_option linter.unusedVariables false

theorem Ev.pos {α : Type} {c : Prop} [Decidable c] {f g : Nat → Option α} {r : α} (h : c) (k : Ev f r) : Ev (fun m => if c then f m else g m) r :=
  Ev.congr (fun _ => if_pos h) k
theorem Ev.neg {α : Type} {c : Prop} [Decidable c] {f g : Nat → Option α} {r : α} (h : ¬ c) (k : Ev g r) : Ev (fun m => if c then f m else g m) r :=
  Ev.congr (fun _ => if_neg h) k
theorem Ev.bindc {α β : Type} {x : Option α} {f : Nat → α → Option β} {a : α} {r : β} (h : x = some a) (k : Ev (fun n => f n a) r) : Ev (fun n => x.bind (f n)) r := by
  subst h; exact k
theorem Ev.succ {α : Type} {g : Nat → Option α} {r : α} (k : Ev (fun n => g (n + 1)) r) : Ev g r := Ev.step (fun _ => rfl) k
theorem w64 {n : Int} (h0 : -9223372036854775808 ≤ n) (h1 : n < 9223372036854775808) : wrap64 n = n := by unfold wrap64; omega
theorem rd_nat (l : List Int) (i : Nat) (h : i < l.length) : rd l (i : Int) = l[i] := by
  unfold rd; rw [Int.toNat_natCast, List.getD_eq_getElem?_getD, List.getElem?_eq_getElem h]; rfl
/-- a loop that ends early, with one answer, where P fails -/
theorem ev_all {α : Type} (L : Nat → Nat → Option α) (n : Nat) (P : Nat → Prop) (rEnd : α)
    (hend : Ev (fun k => L k n) rEnd) (hgood : ∀ i, i < n → P i → ∀ r, Ev (fun k => L k (i + 1)) r → Ev (fun k => L k i) r)
    (i : Nat) (hi : i ≤ n) (h : ∀ j, i ≤ j → j < n → P j) : Ev (fun k => L k i) rEnd := by
  obtain ⟨d, hd⟩ : ∃ d, i + d = n := ⟨n - i, by omega⟩
  induction d generalizing i with
  | zero => rw [show i = n by omega]; exact hend
  | succ d ih => exact hgood i (by omega) (h i (by omega) (by omega)) _ (ih (i + 1) (by omega) (fun j h1 h2 => h j (by omega) h2) (by omega))
theorem ev_bad {α : Type} (L : Nat → Nat → Option α) (n : Nat) (P : Nat → Prop) (rBad : α)
    (hgood : ∀ i, i < n → P i → ∀ r, Ev (fun k => L k (i + 1)) r → Ev (fun k => L k i) r) (hbad : ∀ i, i < n → ¬ P i → Ev (fun k => L k i) rBad)
    (i : Nat) (h : ∃ j, i ≤ j ∧ j < n ∧ ¬ P j) : Ev (fun k => L k i) rBad := by
  obtain ⟨j, h1, h2, h3⟩ := h
  obtain ⟨d, hd⟩ : ∃ d, i + d = j := ⟨j - i, by omega⟩
  induction d generalizing i with
  | zero => rw [show i = j by omega]; exact hbad j h2 h3
  | succ d ih =>
    by_cases hp : P i
    · exact hgood i (by omega) hp _ (ih (i + 1) (by omega) (by omega))
    · exact hbad i (by omega) hp
theorem ev_dec {α : Type} (L : Nat → Nat → Option α) (n : Nat) (P : Nat → Prop) [DecidablePred P] (f : Bool → α)
    (hend : Ev (fun k => L k n) (f true)) (hgood : ∀ i, i < n → P i → ∀ r, Ev (fun k => L k (i + 1)) r → Ev (fun k => L k i) r)
    (hbad : ∀ i, i < n → ¬ P i → Ev (fun k => L k i) (f false)) (b : Bool) (hb : b = true ↔ ∀ j, j < n → P j) : Ev (fun k => L k 0) (f b) := by
  cases b with
  | true => exact ev_all L n P (f true) hend hgood 0 (by omega) (fun j _ h => hb.mp rfl j h)
  | false =>
    refine ev_bad L n P (f false) hgood hbad 0 ?_
    by_cases h : ∀ j, j < n → P j
    · exact absurd (hb.mpr h) (by decide)
    · have : ∃ j, ¬ (j < n → P j) := Classical.not_forall.mp h
      obtain ⟨j, hj⟩ := this
      exact ⟨j, by omega, Decidable.byContradiction (fun c => hj (fun h2 => absurd h2 c)), fun c => hj (fun _ => c)⟩
theorem toIntS_loop (l : List Int) (hl : l.length ≤ 35184372088832) : ∀ (d i : Nat) (acc : List Int), i + d = l.length → acc.length = l.length → (∀ j, j < i → acc[j]? = l[j]?) → Ev (fun k => laws_toIntS.l0 k l acc (i : Int)) l := by
  intro d
  induction d with
  | zero =>
    intro i acc hi ha hj
    refine Ev.succ ?_
    simp only [laws_toIntS.l0.eq_2]
    refine Ev.neg (by omega) ?_
    have : acc = l := List.ext_getElem? (fun j => by
      by_cases h : j < i
      · exact hj j h
      · rw [List.getElem?_eq_none (by omega), List.getElem?_eq_none (by omega)])
    rw [this]; exact Ev.now _
  | succ d ih =>
    intro i acc hi ha hj
    refine Ev.succ ?_
    simp only [laws_toIntS.l0.eq_2]
    refine Ev.pos (by omega) (Ev.pos (by omega) (Ev.pos (by omega) ?_))
    rw [w64 (by omega) (by omega)]
    refine ih (i + 1) _ (by omega) (by simpa using ha) ?_
    intro j h
    rw [Int.toNat_natCast, List.getElem?_set]
    by_cases e : i = j
    · subst e
      rw [if_pos rfl, if_pos (by omega), rd_nat l i (by omega), List.getElem?_eq_getElem]
    · rw [if_neg e]; exact hj j (by omega)
theorem toIntS_ev (l : List Int) (hl : l.length ≤ 35184372088832) : Ev (fun k => laws_toIntS.f k l) l := by
  unfold laws_toIntS.f
  refine Ev.pos (by omega) (Ev.pos (by omega) ?_)
  exact toIntS_loop l hl l.length 0 _ (by omega) (by simp) (fun j h => by omega)
theorem eqIntS_loop (l : List Int) (hl : l.length ≤ 35184372088832) : ∀ (d i : Nat), i + d = l.length → Ev (fun k => laws_eqIntS.l0 k l l (i : Int)) true := by
  intro d
  induction d with
  | zero =>
    intro i hi
    refine Ev.succ ?_
    simp only [laws_eqIntS.l0.eq_2]
    exact Ev.neg (by omega) (Ev.now _)
  | succ d ih =>
    intro i hi
    refine Ev.succ ?_
    simp only [laws_eqIntS.l0.eq_2]
    refine Ev.pos (by omega) (Ev.pos (by omega) (Ev.pos (by omega) (Ev.pos (by trivial) ?_)))
    rw [w64 (by omega) (by omega)]
    exact ih (i + 1) (by omega)
theorem eqIntS_ev (l : List Int) (hl : l.length ≤ 35184372088832) : Ev (fun k => laws_eqIntS.f k l l) true := by
  unfold laws_eqIntS.f
  exact Ev.pos rfl (eqIntS_loop l hl l.length 0 (by omega))
theorem within_eq (a b c : Int) : impl_within.f a b c = some (decide (b ≤ a ∧ a ≤ c)) := by
  unfold impl_within.f
  by_cases h : a ≥ b
  · rw [if_pos h]; simp [show b ≤ a from h]
  · rw [if_neg h]; simp [show ¬ b ≤ a from h]
theorem l1In_eq (a b c : Int) : spec_l1In.f a b c = some (decide (b ≤ a ∧ a ≤ c)) := by
  unfold spec_l1In.f
  by_cases h : a ≥ b
  · rw [if_pos h]; simp [show b ≤ a from h]
  · rw [if_neg h]; simp [show ¬ b ≤ a from h]
theorem allWithin_loop (l : List Int) (lo hi : Int) (hl : l.length ≤ 35184372088832) : ∀ (d i : Nat), i + d = l.length → Ev (fun k => impl_allWithin.l0 k lo hi l (l.length : Int) (i : Int)) (decide (∀ x ∈ l.drop i, lo ≤ x ∧ x ≤ hi)) := by
  intro d
  induction d with
  | zero =>
    intro i hi
    refine Ev.succ ?_
    simp only [impl_allWithin.l0.eq_2]
    rw [List.drop_of_length_le (by omega)]
    exact Ev.neg (by omega) (by simp; exact Ev.now _)
  | succ d ih =>
    intro i hi'
    refine Ev.succ ?_
    simp only [impl_allWithin.l0.eq_2]
    refine Ev.pos (by omega) (Ev.pos (by omega) (Ev.pos (by omega) (Ev.bindc (within_eq _ _ _) ?_)))
    have hd : l.drop i = l[i] :: l.drop (i + 1) := (List.drop_eq_getElem_cons (by omega))
    rw [rd_nat l i (by omega)]
    by_cases e : lo ≤ l[i] ∧ l[i] ≤ hi
    · refine Ev.pos (decide_eq_true e) ?_
      rw [w64 (by omega) (by omega)]
      have e1 : (∀ x ∈ l.drop i, lo ≤ x ∧ x ≤ hi) ↔ (∀ x ∈ l.drop (i + 1), lo ≤ x ∧ x ≤ hi) := by rw [hd]; simp only [List.mem_cons, forall_eq_or_imp, e, true_and]
      rw [decide_eq_decide.mpr e1]
      exact ih (i + 1) (by omega)
    · rw [show decide (∀ x ∈ l.drop i, lo ≤ x ∧ x ≤ hi) = false by rw [hd]; simp only [List.mem_cons, forall_eq_or_imp, decide_eq_false_iff_not]; exact fun h => e h.1]
      exact Ev.neg (by simpa using e) (Ev.now _)
theorem allWithin_ev (l : List Int) (lo hi : Int) (hl : l.length ≤ 35184372088832) : Ev (fun k => impl_allWithin.f k l lo hi) (decide (∀ x ∈ l, lo ≤ x ∧ x ≤ hi)) := allWithin_loop l lo hi hl l.length 0 (by omega)
theorem has_loop (l : List Int) (x : Int) (hl : l.length ≤ 35184372088832) : ∀ (d i : Nat), i + d = l.length → Ev (fun k => spec_l1Has.l0 k l x (i : Int)) (decide (x ∈ l.drop i)) := by
  intro d
  induction d with
  | zero =>
    intro i hi
    refine Ev.succ ?_
    simp only [spec_l1Has.l0.eq_2]
    rw [List.drop_of_length_le (by omega)]
    exact Ev.neg (by omega) (Ev.now _)
  | succ d ih =>
    intro i hi
    refine Ev.succ ?_
    simp only [spec_l1Has.l0.eq_2]
    refine Ev.pos (by omega) (Ev.pos (by omega) ?_)
    have hd : l.drop i = l[i] :: l.drop (i + 1) := (List.drop_eq_getElem_cons (by omega))
    rw [rd_nat l i (by omega)]
    by_cases e : l[i] = x
    · rw [show decide (x ∈ l.drop i) = true by rw [hd]; simp [e]]
      exact Ev.pos e (Ev.now _)
    · refine Ev.neg e ?_
      rw [w64 (by omega) (by omega)]
      have := ih (i + 1) (by omega)
      rw [show decide (x ∈ l.drop i) = decide (x ∈ l.drop (i + 1)) by rw [hd]; simp only [List.mem_cons, Ne.symm e, false_or]]
      exact this
theorem has_ev (l : List Int) (x : Int) (hl : l.length ≤ 35184372088832) : Ev (fun k => spec_l1Has.f k l x) (decide (x ∈ l)) := has_loop l x hl l.length 0 (by omega)
theorem szIntS_eq (l : List Int) (a : Int) (hl : l.length ≤ 35184372088832) (h0 : 0 ≤ a) (h1 : a ≤ 1048576) : laws_szIntS.f l a = some (if a - (l.length : Int) < 0 then -1 else a - (l.length : Int)) := by
  unfold laws_szIntS.f
  rw [w64 (by omega) (by omega)]
  split <;> rfl
def pc : Nat → Nat → Nat
  | 0, _ => 0
  | k + 1, n => n % 2 + pc k (n / 2)
theorem pc_add (a b n : Nat) : pc (a + b) n = pc a n + pc b (n / 2 ^ a) := by
  induction a generalizing n with
  | zero => simp [pc]
  | succ a ih =>
    rw [show a + 1 + b = (a + b) + 1 by omega]
    simp only [pc]
    rw [ih, Nat.div_div_eq_div_mul, Nat.pow_succ, Nat.mul_comm 2 (2 ^ a)]
    omega
theorem pc_mod (k n : Nat) : pc k (n % 2 ^ k) = pc k n := by
  induction k generalizing n with
  | zero => rfl
  | succ k ih =>
    simp only [pc]
    rw [show n % 2 ^ (k + 1) % 2 = n % 2 by rw [Nat.pow_succ]; exact Nat.mod_mul_left_mod n (2 ^ k) 2]
    rw [show n % 2 ^ (k + 1) / 2 = (n / 2) % 2 ^ k by rw [Nat.pow_succ, Nat.mul_comm]; exact Nat.mod_mul_right_div_self n 2 (2 ^ k)]
    rw [ih]
theorem pc_le (k n : Nat) : pc k n ≤ k := by
  induction k generalizing n with
  | zero => exact Nat.le_refl _
  | succ k ih => have := ih (n / 2); simp only [pc]; omega
theorem u32_nat (a b : Nat) (ha : a < 4294967296) (hb : b < 4294967296) : Go.bits .and .u32 (a : Int) (b : Int) = ((a &&& b : Nat) : Int) ∧ Go.bits .or .u32 (a : Int) (b : Int) = ((a ||| b : Nat) : Int) :=
  bits_nat .u32 32 (by decide) (fun n h0 h1 => by rw [IntKind.wrap_u32]; omega) a b (by omega) (by omega)
theorem pc_count (k n : Nat) : pc k n = (List.range k).countP (fun i => n.testBit i) := by
  induction k generalizing n with
  | zero => rfl
  | succ k ih =>
    rw [List.range_succ_eq_map, List.countP_cons, List.countP_map]
    simp only [pc]
    rw [ih, Nat.add_comm]
    congr 1
    · apply List.countP_congr
      intro i _
      simp [Nat.testBit_succ]
    · rw [Nat.testBit_zero]
      by_cases h : n % 2 = 1
      · simp [h]
      · have : n % 2 = 0 := by omega
        simp [this]
def onesTab : ByteArray := ⟨#[0, 1, 1, 2, 1, 2, 2, 3, 1, 2, 2, 3, 2, 3, 3, 4, 1, 2, 2, 3, 2, 3, 3, 4, 2, 3, 3, 4, 3, 4, 4, 5, 1, 2, 2, 3, 2, 3, 3, 4, 2, 3, 3, 4, 3, 4, 4, 5, 2, 3, 3, 4, 3, 4, 4, 5, 3, 4, 4, 5, 4, 5, 5, 6, 1, 2, 2, 3, 2, 3, 3, 4, 2, 3, 3, 4, 3, 4, 4, 5, 2, 3, 3, 4, 3, 4, 4, 5, 3, 4, 4, 5, 4, 5, 5, 6, 2, 3, 3, 4, 3, 4, 4, 5, 3, 4, 4, 5, 4, 5, 5, 6, 3, 4, 4, 5, 4, 5, 5, 6, 4, 5, 5, 6, 5, 6, 6, 7, 1, 2, 2, 3, 2, 3, 3, 4, 2, 3, 3, 4, 3, 4, 4, 5, 2, 3, 3, 4, 3, 4, 4, 5, 3, 4, 4, 5, 4, 5, 5, 6, 2, 3, 3, 4, 3, 4, 4, 5, 3, 4, 4, 5, 4, 5, 5, 6, 3, 4, 4, 5, 4, 5, 5, 6, 4, 5, 5, 6, 5, 6, 6, 7, 2, 3, 3, 4, 3, 4, 4, 5, 3, 4, 4, 5, 4, 5, 5, 6, 3, 4, 4, 5, 4, 5, 5, 6, 4, 5, 5, 6, 5, 6, 6, 7, 3, 4, 4, 5, 4, 5, 5, 6, 4, 5, 5, 6, 5, 6, 6, 7, 4, 5, 5, 6, 5, 6, 6, 7, 5, 6, 6, 7, 6, 7, 7, 8]⟩
theorem onesTab_pc : ∀ i : Fin 256, bt onesTab ((i.val : Nat) : Int) = ((pc 8 i.val : Nat) : Int) := by decide +kernel
theorem onesTab_at (n : Nat) (h : n < 256) : bt onesTab (n : Int) = ((pc 8 n : Nat) : Int) := onesTab_pc ⟨n, h⟩
theorem u32_byte (n : Nat) (h : n < 4294967296) : Go.bits .and .u32 (n : Int) 255 = ((n % 256 : Nat) : Int) := by
  have := (u32_nat n 255 h (by omega)).1
  rw [show ((255 : Nat) : Int) = 255 from rfl] at this
  rw [this, show 255 = 2 ^ 8 - 1 from rfl, Nat.and_two_pow_sub_one_eq_mod]
theorem ones_tab (a0 : Int) : bits_OnesCount32.f a0 = if 0 ≤ (a0 / 16777216) then (if (a0 / 16777216) < 256 then (if 0 ≤ (Go.bits .and .u32 (a0 / 65536) 255) then (if (Go.bits .and .u32 (a0 / 65536) 255) < 256 then (if 0 ≤ (Go.bits .and .u32 (a0 / 256) 255) then (if (Go.bits .and .u32 (a0 / 256) 255) < 256 then (if 0 ≤ (Go.bits .and .u32 a0 255) then (if (Go.bits .and .u32 a0 255) < 256 then (some ((((((bt onesTab (a0 / 16777216)) + (bt onesTab (Go.bits .and .u32 (a0 / 65536) 255))) % 256) + (bt onesTab (Go.bits .and .u32 (a0 / 256) 255))) % 256 + (bt onesTab (Go.bits .and .u32 a0 255))) % 256)) else (none)) else (none)) else (none)) else (none)) else (none)) else (none)) else (none)) else (none) := rfl
theorem ones_eq (n : Nat) (h : n < 4294967296) : bits_OnesCount32.f (n : Int) = some ((pc 32 n : Nat) : Int) := by
  have e1 : (n : Int) / 16777216 = ((n / 16777216 : Nat) : Int) := by omega
  have e2 : (n : Int) / 65536 = ((n / 65536 : Nat) : Int) := by omega
  have e3 : (n : Int) / 256 = ((n / 256 : Nat) : Int) := by omega
  rw [ones_tab, e1, e2, e3, u32_byte _ (by omega), u32_byte _ (by omega), u32_byte _ (by omega)]
  rw [onesTab_at _ (by omega), onesTab_at _ (by omega), onesTab_at _ (by omega), onesTab_at _ (by omega)]
  rw [if_pos (Int.natCast_nonneg _), if_pos (by omega), if_pos (Int.natCast_nonneg _), if_pos (by omega), if_pos (Int.natCast_nonneg _), if_pos (by omega), if_pos (Int.natCast_nonneg _), if_pos (by omega)]
  have p4 : pc 32 n = pc 8 (n % 256) + pc 8 (n / 256 % 256) + pc 8 (n / 65536 % 256) + pc 8 (n / 16777216) := by
    have a0 : pc 32 n = pc 8 n + (pc 8 (n / 256) + (pc 8 (n / 256 / 256) + pc 8 (n / 256 / 256 / 256))) := by
      rw [show pc 32 n = pc (8 + (8 + (8 + 8))) n from rfl, pc_add, pc_add, pc_add]
    have a1 : pc 8 (n % 256) = pc 8 n := pc_mod 8 n
    have a2 : pc 8 (n / 256 % 256) = pc 8 (n / 256) := pc_mod 8 (n / 256)
    have a3 : pc 8 (n / 65536 % 256) = pc 8 (n / 65536) := pc_mod 8 (n / 65536)
    rw [show n / 256 / 256 / 256 = n / 16777216 by omega, show n / 256 / 256 = n / 65536 by omega] at a0
    rw [a0, a1, a2, a3]; omega
  rw [p4]
  have b1 := pc_le 8 (n % 256)
  have b2 := pc_le 8 (n / 256 % 256)
  have b3 := pc_le 8 (n / 65536 % 256)
  have b4 := pc_le 8 (n / 16777216)
  refine congrArg some ?_
  generalize pc 8 (n % 256) = c1 at *
  generalize pc 8 (n / 256 % 256) = c2 at *
  generalize pc 8 (n / 65536 % 256) = c3 at *
  generalize h4 : pc 8 (n / 16777216) = c4 at *
  have : n / 16777216 % 256 = n / 16777216 := by omega
  omega
/-- the set of some seats -/
def setN (l : List Int) : Nat := l.foldl (fun s p => s ||| 2 ^ p.toNat) 0
theorem foldl_or_bit (l : List Int) (s j : Nat) : (l.foldl (fun s p => s ||| 2 ^ p.toNat) s).testBit j = (s.testBit j || decide (∃ p ∈ l, p.toNat = j)) := by
  induction l generalizing s with
  | nil => simp
  | cons p l ih =>
    rw [List.foldl_cons, ih, Nat.testBit_or, Nat.testBit_two_pow]
    simp only [List.mem_cons, exists_eq_or_imp, Bool.decide_or, Bool.or_assoc]
theorem setN_bit (l : List Int) (j : Nat) : (setN l).testBit j = decide (∃ p ∈ l, p.toNat = j) := by
  unfold setN; rw [foldl_or_bit]; simp
theorem setN_lt (l : List Int) (h : ∀ x ∈ l, 0 ≤ x ∧ x < 32) : setN l < 4294967296 := by
  refine Nat.lt_pow_two_of_testBit (n := 32) _ (fun j hj => ?_)
  rw [setN_bit]
  simp only [decide_eq_false_iff_not, not_exists, not_and]
  intro x hx e
  have := h x hx
  omega
theorem setN_take (l : List Int) (i : Nat) (h : i < l.length) : setN (l.take (i + 1)) = setN (l.take i) ||| 2 ^ (l[i]).toNat := by
  unfold setN
  rw [List.take_succ_eq_append_getElem h, List.foldl_append]
  rfl
theorem two_pow_lt32 (p : Int) (h0 : 0 ≤ p) (h1 : p < 32) : 2 ^ p.toNat < 4294967296 := Nat.pow_lt_pow_right (m := p.toNat) (n := 32) (by decide) (by omega)
theorem shl_u32_one (p : Int) (h0 : 0 ≤ p) (h1 : p < 32) : shl .u32 1 p = ((2 ^ p.toNat : Nat) : Int) := by
  unfold shl
  rw [Nat.min_eq_left (by simp [IntKind.bits]; omega), IntKind.wrap_u32]
  have e : (1 * 2 ^ p.toNat : Int) = ((2 ^ p.toNat : Nat) : Int) := by rw [Int.one_mul]; push_cast; rfl
  rw [e]; exact Int.emod_eq_of_lt (Int.natCast_nonneg _) (Int.ofNat_lt.mpr (two_pow_lt32 p h0 h1))
theorem setOf_loop (l : List Int) (h : ∀ x ∈ l, 0 ≤ x ∧ x < 32) (hl : l.length ≤ 35184372088832) : ∀ (d i : Nat), i + d = l.length → Ev (fun k => impl_setOf.l0 k (setN (l.take i) : Int) l (l.length : Int) (i : Int)) (setN l : Int) := by
  intro d
  induction d with
  | zero =>
    intro i hi
    refine Ev.succ ?_
    simp only [impl_setOf.l0.eq_2]
    rw [List.take_of_length_le (by omega)]
    exact Ev.neg (by omega) (Ev.now _)
  | succ d ih =>
    intro i hi
    refine Ev.succ ?_
    simp only [impl_setOf.l0.eq_2]
    have hx := h (l[i]) (List.getElem_mem (by omega))
    rw [rd_nat l i (by omega)]
    refine Ev.pos (by omega) (Ev.pos (by omega) (Ev.pos (by omega) (Ev.pos hx.1 ?_)))
    rw [w64 (by omega) (by omega), shl_u32_one _ hx.1 hx.2]
    rw [(u32_nat _ _ (setN_lt _ (fun x hx => h x (List.mem_of_mem_take hx))) (two_pow_lt32 _ hx.1 hx.2)).2, ← setN_take l i (by omega)]
    exact ih (i + 1) (by omega)
theorem setOf_ev (l : List Int) (h : ∀ x ∈ l, 0 ≤ x ∧ x < 32) (hl : l.length ≤ 35184372088832) : Ev (fun k => impl_setOf.f k l) (setN l : Int) := setOf_loop l h hl l.length 0 (by omega)
theorem count_eq (n : Nat) (h : n < 4294967296) : impl_set_count.f (n : Int) = some ((pc 32 n : Nat) : Int) := by
  unfold impl_set_count.f; rw [ones_eq n h]; rfl
/-- a list that has each number less than n once -/
def IsOrd (l : List Int) (n : Int) : Prop := (l.length : Int) = n ∧ ∀ i : Nat, (i : Int) < n → (i : Int) ∈ l
theorem ph_nodup_len : ∀ (m : Nat) (l : List Int), l.Nodup → (∀ x ∈ l, 0 ≤ x ∧ x < (m : Int)) → l.length ≤ m := by
  intro m
  induction m with
  | zero =>
    intro l _ h
    cases l with
    | nil => simp
    | cons x l => have := h x (by simp); omega
  | succ m ih =>
    intro l hn h
    by_cases hm : (m : Int) ∈ l
    · have := ih (l.erase (m : Int)) (hn.erase _) (fun x hx => by
        have h1 := h x (List.mem_of_mem_erase hx)
        have h2 : x ≠ (m : Int) := fun e => by subst e; exact (List.Nodup.not_mem_erase hn) hx
        omega)
      rw [List.length_erase_of_mem hm] at this
      omega
    · have := ih l hn (fun x hx => by
        have h1 := h x hx
        have h2 : x ≠ (m : Int) := fun e => by subst e; exact hm hx
        omega)
      omega
instance (l : List Int) (n : Int) : Decidable (IsOrd l n) := decidable_of_iff ((l.length : Int) = n ∧ ∀ i : Fin l.length, (i.val : Int) ∈ l) (by
  unfold IsOrd
  constructor
  · rintro ⟨h1, h2⟩; exact ⟨h1, fun i hi => h2 ⟨i, by omega⟩⟩
  · rintro ⟨h1, h2⟩; exact ⟨h1, fun i => h2 i.val (by have := i.isLt; omega)⟩)
theorem getD_lt (l : List Int) (i : Nat) (h : i < l.length) : l.getD i 0 = l[i] := by rw [List.getD_eq_getElem?_getD, List.getElem?_eq_getElem h]; rfl
theorem rd_getD (l : List Int) (i : Nat) : rd l (i : Int) = l.getD i 0 := by unfold rd; rw [Int.toNat_natCast]
theorem exists_bool (p : Prop) : ∃ b : Bool, b = true ↔ p := by
  by_cases h : p
  · exact ⟨true, by simp [h]⟩
  · exact ⟨false, by simp [h]⟩
/-- a valid row -/
def IsRw (s : Int) (r : Bool) (l : List Int) : Prop := (2 ≤ s ∧ s ≤ 24) ∧ (r = true → 3 ≤ s) ∧ (∀ x ∈ l, 0 ≤ x ∧ x < s) ∧ l.Pairwise (· < ·)
def rwP (l : List Int) (hi : Int) (i : Nat) : Prop := (0 ≤ l.getD i 0 ∧ l.getD i 0 ≤ hi) ∧ (0 < i → l.getD (i - 1) 0 < l.getD i 0)
instance (l : List Int) (hi : Int) (i : Nat) : Decidable (rwP l hi i) := by unfold rwP; infer_instance
theorem rwP_all (l : List Int) (hi : Int) : (∀ i, i < l.length → rwP l hi i) ↔ (∀ x ∈ l, 0 ≤ x ∧ x ≤ hi) ∧ l.Pairwise (· < ·) := by
  constructor
  · intro h
    refine ⟨fun x hx => ?_, ?_⟩
    · obtain ⟨i, hi', rfl⟩ := List.mem_iff_getElem.mp hx
      have := (h i hi').1
      rw [getD_lt l i hi'] at this
      exact this
    · rw [List.pairwise_iff_getElem]
      intro i j hi' hj hij
      obtain ⟨d, hd⟩ : ∃ d, i + 1 + d = j := ⟨j - i - 1, by omega⟩
      induction d generalizing j with
      | zero =>
        have := (h j hj).2 (by omega)
        rw [getD_lt l j hj, show j - 1 = i by omega, getD_lt l i hi'] at this
        exact this
      | succ d ih =>
        have h1 := ih (j - 1) (by omega) (by omega) (by omega)
        have h2 := (h j hj).2 (by omega)
        rw [getD_lt l j hj, getD_lt l (j - 1) (by omega)] at h2
        omega
  · rintro ⟨h1, h2⟩ i hi'
    refine ⟨?_, fun h0 => ?_⟩
    · rw [getD_lt l i hi']; exact h1 _ (List.getElem_mem _)
    · rw [getD_lt l i hi', getD_lt l (i - 1) (by omega)]
      exact (List.pairwise_iff_getElem.mp h2) (i - 1) i (by omega) hi' (by omega)
theorem rising_ev (l : List Int) (hi : Int) (hl : l.length ≤ 35184372088832) (b : Bool) (hb : b = true ↔ ∀ i, i < l.length → rwP l hi i) : Ev (fun k => spec_l1Rising.f k l 0 hi) b := by
  unfold spec_l1Rising.f
  refine ev_dec (fun k i => spec_l1Rising.l0 k l 0 hi (i : Int)) l.length (rwP l hi) id ?_ ?_ ?_ b hb
  · refine Ev.succ ?_
    simp only [spec_l1Rising.l0.eq_2]
    exact Ev.neg (by omega) (Ev.now _)
  · intro i hi' hp r h
    refine Ev.succ ?_
    simp only [spec_l1Rising.l0.eq_2]
    rw [rd_getD, w64 (n := (i : Int) + 1) (by omega) (by omega), w64 (n := (i : Int) - 1) (by omega) (by omega)]
    refine Ev.pos (by omega) (Ev.pos (by omega) (Ev.bindc (l1In_eq _ _ _) (Ev.pos (decide_eq_true hp.1) ?_)))
    by_cases h0 : (i : Int) > 0
    · have := hp.2 (by omega)
      rw [show (i : Int) - 1 = ((i - 1 : Nat) : Int) by omega, rd_getD]
      exact Ev.pos h0 (Ev.pos (by omega) (Ev.pos (by omega) (Ev.neg (by omega) h)))
    · exact Ev.neg h0 h
  · intro i hi' hp
    refine Ev.succ ?_
    simp only [spec_l1Rising.l0.eq_2]
    rw [rd_getD, w64 (n := (i : Int) - 1) (by omega) (by omega)]
    refine Ev.pos (by omega) (Ev.pos (by omega) (Ev.bindc (l1In_eq _ _ _) ?_))
    by_cases h1 : 0 ≤ l.getD i 0 ∧ l.getD i 0 ≤ hi
    · have h2 : ¬ (0 < i → l.getD (i - 1) 0 < l.getD i 0) := fun h => hp ⟨h1, h⟩
      have h0 : 0 < i := Decidable.byContradiction (fun c => h2 (fun h => absurd h c))
      have h3 : ¬ l.getD (i - 1) 0 < l.getD i 0 := fun h => h2 (fun _ => h)
      rw [show (i : Int) - 1 = ((i - 1 : Nat) : Int) by omega, rd_getD]
      exact Ev.pos (decide_eq_true h1) (Ev.pos (by omega) (Ev.pos (by omega) (Ev.pos (by omega) (Ev.pos (by omega) (Ev.now _)))))
    · exact Ev.neg (by simpa using h1) (Ev.now _)
theorem l2Row_ev (s : Int) (r : Bool) (l : List Int) (hl : l.length ≤ 35184372088832) (b : Bool) (hb : b = true ↔ IsRw s r l) : Ev (fun k => spec_l2Row.f k s r l) b := by
  unfold spec_l2Row.f
  have hno : ¬ IsRw s r l → b = false := fun h => by
    cases b with
    | false => rfl
    | true => exact absurd (hb.mp rfl) h
  refine Ev.bindc (l1In_eq _ _ _) ?_
  by_cases hs : 2 ≤ s ∧ s ≤ 24
  · refine Ev.pos (decide_eq_true hs) ?_
    rw [w64 (by omega) (by omega)]
    have main : (r = true → 3 ≤ s) → (b = true ↔ ∀ i, i < l.length → rwP l (s - 1) i) := by
      intro h3
      rw [hb, rwP_all]
      unfold IsRw
      constructor
      · rintro ⟨_, _, h4, h5⟩; exact ⟨fun x hx => by have := h4 x hx; omega, h5⟩
      · rintro ⟨h4, h5⟩; exact ⟨hs, h3, fun x hx => by have := h4 x hx; omega, h5⟩
    by_cases hr : r = true
    · refine Ev.pos hr ?_
      by_cases h3 : s > 2
      · exact Ev.pos h3 (Ev.bind (f := fun _ t => some t) (rising_ev l (s - 1) hl b (main (fun _ => by omega))) (Ev.now _))
      · rw [hno (fun h => h3 (by have := h.2.1 hr; omega))]
        exact Ev.neg h3 (Ev.now _)
    · exact Ev.neg hr (Ev.bind (f := fun _ t => some t) (rising_ev l (s - 1) hl b (main (fun h => absurd h hr))) (Ev.now _))
  · rw [hno (fun h => hs h.1)]
    exact Ev.neg (by simpa using hs) (Ev.now _)
theorem bench_has1 (s : Int) (r : Bool) (x : Int) : Ev (fun k => impl_bench_has.f k s r [x]) (decide (0 ≤ x ∧ x ≤ wrap64 (s - 1))) := by
  unfold impl_bench_has.f
  refine Ev.bind (f := fun _ t => some t) (allWithin_ev [x] 0 _ (by simp)) ?_
  simp only [List.mem_singleton, forall_eq]
  exact Ev.now _
theorem bench_valid_eq (s : Int) (r : Bool) (b : Bool) (hb : b = true ↔ (2 ≤ s ∧ s ≤ 24) ∧ (r = true → 3 ≤ s)) : impl_bench_valid.f s r = some b := by
  unfold impl_bench_valid.f
  rw [within_eq, Option.bind_some]
  by_cases hs : 2 ≤ s ∧ s ≤ 24
  · rw [if_pos (decide_eq_true hs)]
    cases r with
    | true => rw [if_pos rfl]; congr 1; rw [Bool.eq_iff_iff, hb]; simp only [decide_eq_true_eq]; exact ⟨fun h => ⟨hs, fun _ => h⟩, fun h => h.2 (by trivial)⟩
    | false => rw [if_neg (by decide)]; congr 1; rw [Bool.eq_iff_iff, hb]; simp [hs]
  · rw [if_neg (by simpa using hs)]; congr 1; rw [Bool.eq_iff_iff, hb]; simp only [Bool.false_eq_true, false_iff]; exact fun h => hs h.1
theorem isRow_ev (s : Int) (r : Bool) (l : List Int) (hl : l.length ≤ 35184372088832) (b : Bool) (hb : b = true ↔ IsRw s r l) : Ev (fun k => impl_IsRow.f k s r l) b := by
  unfold impl_IsRow.f
  obtain ⟨v, hv⟩ := exists_bool ((2 ≤ s ∧ s ≤ 24) ∧ (r = true → 3 ≤ s))
  obtain ⟨c, hc⟩ := exists_bool (∀ i, i < l.length → rwP l (wrap64 (s - 1)) i)
  have hbc : b = (if c = true then v else false) := by
    rw [Bool.eq_iff_iff, hb]
    unfold IsRw
    constructor
    · rintro ⟨h1, h2, h3, h4⟩
      have hcc : c = true := by
        rw [hc, rwP_all, w64 (by omega) (by omega)]
        exact ⟨fun x hx => by have := h3 x hx; omega, h4⟩
      rw [if_pos hcc, hv]; exact ⟨h1, h2⟩
    · intro h
      by_cases hcc : c = true
      · rw [if_pos hcc, hv] at h
        rw [hc, rwP_all, w64 (by omega) (by omega)] at hcc
        exact ⟨h.1, h.2, fun x hx => by have := hcc.1 x hx; omega, hcc.2⟩
      · rw [if_neg hcc] at h; cases h
  rw [hbc]
  refine ev_dec (fun k i => impl_IsRow.l0 k l (l.length : Int) (i : Int) s r l) l.length (rwP l (wrap64 (s - 1))) (fun c => if c = true then v else false) ?_ ?_ ?_ c hc
  · refine Ev.succ ?_
    simp only [impl_IsRow.l0.eq_2]
    exact Ev.neg (by omega) (Ev.bindc rfl (Ev.bindc (bench_valid_eq s r v hv) (Ev.now _)))
  · intro i hi' hp q h
    refine Ev.succ ?_
    simp only [impl_IsRow.l0.eq_2]
    rw [rd_getD, w64 (n := (i : Int) + 1) (by omega) (by omega), w64 (n := (i : Int) - 1) (by omega) (by omega)]
    refine Ev.pos (by omega) (Ev.pos (by omega) (Ev.pos (by omega) (Ev.bindc rfl (Ev.bind (bench_has1 s r _) (Ev.pos (decide_eq_true hp.1) ?_)))))
    by_cases h0 : (i : Int) > 0
    · have := hp.2 (by omega)
      rw [show (i : Int) - 1 = ((i - 1 : Nat) : Int) by omega, rd_getD]
      exact Ev.pos h0 (Ev.pos (by omega) (Ev.pos (by omega) (Ev.neg (by omega) h)))
    · exact Ev.neg h0 h
  · intro i hi' hp
    refine Ev.succ ?_
    simp only [impl_IsRow.l0.eq_2]
    rw [rd_getD, w64 (n := (i : Int) - 1) (by omega) (by omega)]
    refine Ev.pos (by omega) (Ev.pos (by omega) (Ev.pos (by omega) (Ev.bindc rfl (Ev.bind (bench_has1 s r _) ?_))))
    by_cases h1 : 0 ≤ l.getD i 0 ∧ l.getD i 0 ≤ wrap64 (s - 1)
    · have h2 : ¬ (0 < i → l.getD (i - 1) 0 < l.getD i 0) := fun h => hp ⟨h1, h⟩
      have h0 : 0 < i := Decidable.byContradiction (fun c => h2 (fun h => absurd h c))
      have h3 : ¬ l.getD (i - 1) 0 < l.getD i 0 := fun h => h2 (fun _ => h)
      rw [show (i : Int) - 1 = ((i - 1 : Nat) : Int) by omega, rd_getD]
      exact Ev.pos (decide_eq_true h1) (Ev.pos (by omega) (Ev.pos (by omega) (Ev.pos (by omega) (Ev.pos (by omega) (Ev.now _)))))
    · exact Ev.neg (by simpa using h1) (Ev.now _)
/-- the gap of two seats -/
def gp (s : Int) (r : Bool) (p q : Int) : Int := if r = true then mn (mx (p - q) (q - p)) (s - mx (p - q) (q - p)) else mx (p - q) (q - p)
theorem mx_le {a b c : Int} (h1 : a ≤ c) (h2 : b ≤ c) : mx a b ≤ c := by unfold mx; split <;> omega
theorem le_mx {a b : Int} : a ≤ mx a b ∧ b ≤ mx a b := by unfold mx; split <;> omega
theorem l2Gap_eq (s : Int) (r : Bool) (l : List Int) (p q : Int) (hs : 0 ≤ s ∧ s ≤ 100) (hp : 0 ≤ p ∧ p < 100) (hq : 0 ≤ q ∧ q < 100) : spec_l2Gap.f s r l p q = some (gp s r p q) := by
  unfold spec_l2Gap.f spec_l1Most.f gp
  have e : (if p - q > q - p then some (p - q) else some (q - p)) = some (mx (p - q) (q - p)) := by
    unfold mx; split <;> split <;> first | rfl | (congr 1; omega)
  have h1 : mx (p - q) (q - p) ≤ 100 := mx_le (by omega) (by omega)
  have h2 := @le_mx (p - q) (q - p)
  rw [w64 (n := p - q) (by omega) (by omega), w64 (n := q - p) (by omega) (by omega), e, Option.bind_some]
  cases r with
  | true =>
    rw [if_pos rfl, if_pos rfl]
    unfold spec_l1Least.f
    rw [w64 (by omega) (by omega)]
    unfold mn
    split <;> split <;> first | rfl | (simp only [Option.bind_some]; congr 1; omega)
  | false => rw [if_neg (by decide), if_neg (by decide)]
theorem bench_gap_eq (s : Int) (r : Bool) (p q : Int) (hs : 0 ≤ s ∧ s ≤ 100) (hp : 0 ≤ p ∧ p < 100) (hq : 0 ≤ q ∧ q < 100) : impl_bench_gap.f s r p q = some (gp s r p q) := by
  unfold impl_bench_gap.f gp
  have h1 : mx (p - q) (q - p) ≤ 100 := mx_le (by omega) (by omega)
  have h2 := @le_mx (p - q) (q - p)
  rw [w64 (n := p - q) (by omega) (by omega), w64 (n := q - p) (by omega) (by omega), w64 (n := s - mx (p - q) (q - p)) (by omega) (by omega)]
  cases r with
  | true => rw [if_pos rfl, if_pos rfl]
  | false => rw [if_neg (by decide), if_neg (by decide)]
theorem land_rec (x y : Nat) : x &&& y = 2 * ((x / 2) &&& (y / 2)) + (x % 2) * (y % 2) := by
  have hd : (x % 2) * (y % 2) < 2 := by
    rcases Nat.mod_two_eq_zero_or_one x with h | h <;> rcases Nat.mod_two_eq_zero_or_one y with h2 | h2 <;> rw [h, h2] <;> decide
  refine Nat.eq_of_testBit_eq (fun j => ?_)
  cases j with
  | zero =>
    rw [Nat.testBit_and, Nat.testBit_zero, Nat.testBit_zero, Nat.testBit_zero]
    rcases Nat.mod_two_eq_zero_or_one x with h | h <;> rcases Nat.mod_two_eq_zero_or_one y with h2 | h2 <;> rw [h, h2] <;> simp <;> omega
  | succ j =>
    rw [Nat.testBit_and, Nat.testBit_succ, Nat.testBit_succ, Nat.testBit_succ]
    rw [show (2 * ((x / 2) &&& (y / 2)) + (x % 2) * (y % 2)) / 2 = (x / 2) &&& (y / 2) by omega, Nat.testBit_and]
/-- the place of the lowest bit -/
def low : Nat → Nat → Nat
  | 0, _ => 0
  | k + 1, n => if n % 2 = 1 then 0 else low k (n / 2) + 1
theorem neg_land (k : Nat) : ∀ n, 0 < n → n < 2 ^ k → (n &&& (2 ^ k - n)) = 2 ^ (low k n) ∧ low k n < k ∧ n.testBit (low k n) = true := by
  induction k with
  | zero => intro n h1 h2; simp at h2; omega
  | succ k ih =>
    intro n h1 h2
    have hp : 2 ^ (k + 1) = 2 * 2 ^ k := by rw [Nat.pow_succ]; omega
    rw [land_rec]
    unfold low
    by_cases ho : n % 2 = 1
    · rw [if_pos ho]
      have e1 : (2 ^ (k + 1) - n) / 2 = 2 ^ k - (n / 2 + 1) := by omega
      have e2 : (2 ^ (k + 1) - n) % 2 = 1 := by omega
      have hz : (n / 2) &&& (2 ^ k - (n / 2 + 1)) = 0 := by
        refine Nat.eq_of_testBit_eq (fun j => ?_)
        rw [Nat.testBit_and, Nat.testBit_two_pow_sub_succ (by omega), Nat.zero_testBit]
        cases (n / 2).testBit j <;> simp
      rw [e1, e2, hz, ho]
      exact ⟨rfl, by omega, by rw [Nat.testBit_zero]; simpa using ho⟩
    · rw [if_neg ho]
      have e0 : n % 2 = 0 := by omega
      have e1 : (2 ^ (k + 1) - n) / 2 = 2 ^ k - n / 2 := by omega
      obtain ⟨a, b, c⟩ := ih (n / 2) (by omega) (by omega)
      rw [e1, e0, a, Nat.zero_mul, Nat.add_zero]
      exact ⟨by rw [Nat.pow_succ]; omega, by omega, by rw [Nat.testBit_succ]; exact c⟩
/-- the places of all bits, in order -/
def lst : Nat → Nat → Nat → List Nat
  | 0, _, _ => []
  | k + 1, off, n => if n % 2 = 1 then off :: lst k (off + 1) (n / 2) else lst k (off + 1) (n / 2)
theorem lst_zero (k off : Nat) : lst k off 0 = [] := by
  induction k generalizing off with
  | zero => rfl
  | succ k ih => unfold lst; rw [if_neg (by decide)]; exact ih _
theorem lst_len (k off n : Nat) : (lst k off n).length ≤ k := by
  induction k generalizing off n with
  | zero => exact Nat.le_refl _
  | succ k ih =>
    have := ih (off + 1) (n / 2)
    unfold lst; split
    · rw [List.length_cons]; omega
    · omega
theorem lst_step (k : Nat) : ∀ n off, 0 < n → n < 2 ^ k → lst k off n = (off + low k n) :: lst k off (n &&& (n - 1)) ∧ n &&& (n - 1) < n := by
  induction k with
  | zero => intro n off h1 h2; simp at h2; omega
  | succ k ih =>
    intro n off h1 h2
    have hp : 2 ^ (k + 1) = 2 * 2 ^ k := by rw [Nat.pow_succ]; omega
    rw [land_rec n (n - 1)]
    by_cases ho : n % 2 = 1
    · have e1 : (n - 1) / 2 = n / 2 := by omega
      have e2 : (n - 1) % 2 = 0 := by omega
      rw [e1, e2, Nat.and_self]
      simp only [Nat.mul_zero, Nat.add_zero]
      have l1 : lst (k + 1) off n = off :: lst k (off + 1) (n / 2) := if_pos ho
      have l2 : lst (k + 1) off (2 * (n / 2)) = lst k (off + 1) (n / 2) := by
        rw [show lst (k + 1) off (2 * (n / 2)) = lst k (off + 1) (2 * (n / 2) / 2) from if_neg (by omega), show 2 * (n / 2) / 2 = n / 2 by omega]
      have l3 : low (k + 1) n = 0 := if_pos ho
      rw [l1, l2, l3]
      exact ⟨rfl, by omega⟩
    · have e0 : n % 2 = 0 := by omega
      have e1 : (n - 1) / 2 = n / 2 - 1 := by omega
      obtain ⟨a, b⟩ := ih (n / 2) (off + 1) (by omega) (by omega)
      rw [e1, e0]
      simp only [Nat.zero_mul, Nat.add_zero]
      have l1 : lst (k + 1) off n = lst k (off + 1) (n / 2) := if_neg ho
      have l2 : lst (k + 1) off (2 * (n / 2 &&& (n / 2 - 1))) = lst k (off + 1) (n / 2 &&& (n / 2 - 1)) := by
        rw [show lst (k + 1) off (2 * (n / 2 &&& (n / 2 - 1))) = lst k (off + 1) (2 * (n / 2 &&& (n / 2 - 1)) / 2) from if_neg (by omega), Nat.mul_div_cancel_left _ (by decide)]
      have l3 : low (k + 1) n = low k (n / 2) + 1 := if_neg ho
      rw [l1, l2, l3, a]
      exact ⟨by congr 1; omega, by omega⟩
theorem lst_mem (k : Nat) : ∀ n off x, x ∈ lst k off n ↔ off ≤ x ∧ x < off + k ∧ n.testBit (x - off) = true := by
  induction k with
  | zero => intro n off x; simp only [lst, List.not_mem_nil, false_iff]; omega
  | succ k ih =>
    intro n off x
    have hh : x ∈ lst (k + 1) off n ↔ (x = off ∧ n % 2 = 1) ∨ x ∈ lst k (off + 1) (n / 2) := by
      rw [show lst (k + 1) off n = if n % 2 = 1 then off :: lst k (off + 1) (n / 2) else lst k (off + 1) (n / 2) from rfl]
      split
      · rename_i h; simp [h]
      · rename_i h; simp [h]
    rw [hh, ih]
    constructor
    · rintro (⟨rfl, h⟩ | ⟨h1, h2, h3⟩)
      · exact ⟨Nat.le_refl _, by omega, by rw [Nat.sub_self, Nat.testBit_zero]; simpa using h⟩
      · refine ⟨by omega, by omega, ?_⟩
        rw [show x - off = (x - (off + 1)) + 1 by omega, Nat.testBit_succ]; exact h3
    · rintro ⟨h1, h2, h3⟩
      rcases Nat.eq_or_lt_of_le h1 with e | e
      · subst e; rw [Nat.sub_self, Nat.testBit_zero] at h3; exact .inl ⟨rfl, by simpa using h3⟩
      · refine .inr ⟨by omega, by omega, ?_⟩
        rw [show x - off = (x - (off + 1)) + 1 by omega, Nat.testBit_succ] at h3; exact h3
theorem lst_sorted (k : Nat) : ∀ n off, (lst k off n).Pairwise (· < ·) := by
  induction k with
  | zero => intro n off; exact List.Pairwise.nil
  | succ k ih =>
    intro n off
    unfold lst
    split
    · refine List.pairwise_cons.mpr ⟨fun x hx => ?_, ih _ _⟩
      have := (lst_mem k _ _ x).mp hx; omega
    · exact ih _ _
/-- the seats of a set -/
def listN (n : Nat) : List Int := (lst 32 0 n).map (fun x : Nat => (x : Int))
theorem listN_mem (n : Nat) (x : Int) : x ∈ listN n ↔ (0 ≤ x ∧ x < 32) ∧ n.testBit x.toNat = true := by
  unfold listN
  rw [List.mem_map]
  constructor
  · rintro ⟨y, hy, rfl⟩
    have := (lst_mem 32 n 0 y).mp hy
    exact ⟨by omega, by rw [Int.toNat_natCast]; simpa using this.2.2⟩
  · rintro ⟨h1, h2⟩
    exact ⟨x.toNat, (lst_mem 32 n 0 _).mpr ⟨by omega, by omega, by simpa using h2⟩, by omega⟩
theorem listN_sorted (n : Nat) : (listN n).Pairwise (· < ·) := by
  unfold listN
  rw [List.pairwise_map]
  exact (lst_sorted 32 n 0).imp (fun h => by omega)
theorem sorted_ext : ∀ (l m : List Int), l.Pairwise (· < ·) → m.Pairwise (· < ·) → (∀ x, x ∈ l ↔ x ∈ m) → l = m := by
  intro l
  induction l with
  | nil =>
    intro m _ _ h
    cases m with
    | nil => rfl
    | cons y m => exact absurd ((h y).mpr (by simp)) (by simp)
  | cons x l ih =>
    intro m hl hm h
    cases m with
    | nil => exact absurd ((h x).mp (by simp)) (by simp)
    | cons y m =>
      obtain ⟨h1, h2⟩ := List.pairwise_cons.mp hl
      obtain ⟨h3, h4⟩ := List.pairwise_cons.mp hm
      have e : x = y := by
        have ha := (h x).mp (by simp)
        have hb := (h y).mpr (by simp)
        rcases List.mem_cons.mp ha with e | ha
        · exact e
        · rcases List.mem_cons.mp hb with e | hb
          · exact e.symm
          · have := h1 y hb; have := h3 x ha; omega
      subst e
      refine congrArg (x :: ·) (ih m h2 h4 (fun z => ?_))
      constructor
      · intro hz
        rcases List.mem_cons.mp ((h z).mp (List.mem_cons_of_mem _ hz)) with e | hz'
        · have := h1 z hz; omega
        · exact hz'
      · intro hz
        rcases List.mem_cons.mp ((h z).mpr (List.mem_cons_of_mem _ hz)) with e | hz'
        · have := h3 z hz; omega
        · exact hz'
theorem tz_tab : ∀ i : Fin 32, ((2 ^ i.val * 125613361 % 4294967296) / 134217728 < 32) ∧ TZ.getD ((2 ^ i.val * 125613361 % 4294967296) / 134217728) 0 = ((i.val : Nat) : Int) := by decide +kernel
theorem neg_u32 (n : Nat) (h0 : 0 < n) (h : n < 4294967296) : Go.bits .and .u32 (n : Int) ((-(n : Int)) % 4294967296) = ((2 ^ (low 32 n) : Nat) : Int) := by
  have e : (-(n : Int)) % 4294967296 = ((4294967296 - n : Nat) : Int) := by omega
  rw [e, (u32_nat n (4294967296 - n) h (by omega)).1]
  have := (neg_land 32 n h0 h).1
  rw [show (2 : Nat) ^ 32 = 4294967296 from rfl] at this
  rw [this]
theorem tz_eq (n : Nat) (h0 : 0 < n) (h : n < 4294967296) : bits_TrailingZeros32.f (n : Int) = some ((low 32 n : Nat) : Int) := by
  unfold bits_TrailingZeros32.f
  have hl := (neg_land 32 n h0 h).2.1
  obtain ⟨t1, t2⟩ := tz_tab ⟨low 32 n, hl⟩
  simp only at t1 t2
  have e : tzi (n : Int) = (((2 ^ (low 32 n) * 125613361 % 4294967296) / 134217728 : Nat) : Int) := by
    unfold tzi
    rw [neg_u32 n h0 h]
    generalize 2 ^ (low 32 n) = t
    omega
  rw [if_neg (by omega), e, if_pos (by omega), if_pos (by omega)]
  unfold rd
  rw [Int.toNat_natCast, t2]
theorem list_ev (n : Nat) (h : n < 4294967296) : Ev (fun k => impl_set_list.f k (n : Int)) (listN n) := by
  unfold impl_set_list.f
  have key : ∀ m (n : Nat) (acc : List Int), n ≤ m → n < 4294967296 → acc.length + (lst 32 0 n).length ≤ 64 → Ev (fun k => impl_set_list.l0 k (n : Int) acc) (acc ++ (lst 32 0 n).map (fun x : Nat => (x : Int))) := by
    intro m
    induction m with
    | zero =>
      intro n acc hm _ _
      refine Ev.succ ?_
      simp only [impl_set_list.l0.eq_2]
      rw [show n = 0 by omega, lst_zero, List.map_nil, List.append_nil]
      exact Ev.pos rfl (Ev.now _)
    | succ m ih =>
      intro n acc hm hn hl
      refine Ev.succ ?_
      simp only [impl_set_list.l0.eq_2]
      by_cases h0 : n = 0
      · subst h0
        rw [lst_zero, List.map_nil, List.append_nil]
        exact Ev.pos rfl (Ev.now _)
      · obtain ⟨s1, s2⟩ := lst_step 32 n 0 (by omega) hn
        rw [Nat.zero_add] at s1
        refine Ev.neg (by omega) (Ev.bindc (tz_eq n (by omega) hn) (Ev.pos (by omega) ?_))
        rw [show ((n : Int) - 1) % 4294967296 = ((n - 1 : Nat) : Int) by omega, (u32_nat n (n - 1) hn (by omega)).1]
        rw [s1, List.length_cons] at hl
        have := ih (n &&& (n - 1)) (acc ++ [((low 32 n : Nat) : Int)]) (by omega) (by omega) (by rw [List.length_append, List.length_singleton]; omega)
        rw [s1, List.map_cons]
        rw [List.append_assoc, List.singleton_append] at this
        exact this
  have := key n n [] (Nat.le_refl _) h (by have := lst_len 32 0 n; simp; omega)
  simpa [listN] using this
/-- how many of a set's seats meet R, by a list of its seats -/
theorem count_single (n : Nat) (x : Int) (hx : 0 ≤ x ∧ x < (n : Int)) (R : Int → Bool) : (List.range n).countP (fun i : Nat => decide ((i : Int) = x) && R (i : Int)) = if R x = true then 1 else 0 := by
  induction n with
  | zero => omega
  | succ n ih =>
    rw [List.range_succ, List.countP_append, List.countP_singleton]
    by_cases e : (n : Int) = x
    · have h0 : (List.range n).countP (fun i : Nat => decide ((i : Int) = x) && R (i : Int)) = 0 := by
        rw [List.countP_eq_zero]
        intro i hi
        have := List.mem_range.mp hi
        simp; intro h; omega
      rw [h0, e]; simp
    · rw [ih (by omega)]; simp [e]
theorem count_list (n : Nat) (R : Int → Bool) : ∀ (l : List Int), l.Nodup → (∀ x ∈ l, 0 ≤ x ∧ x < (n : Int)) → (List.range n).countP (fun i : Nat => decide ((i : Int) ∈ l) && R (i : Int)) = l.countP R := by
  intro l
  induction l with
  | nil => intro _ _; simp
  | cons x l ih =>
    intro hn hr
    have hx : x ∉ l := (List.nodup_cons.mp hn).1
    have e : (List.range n).countP (fun i : Nat => decide ((i : Int) ∈ x :: l) && R (i : Int)) = (List.range n).countP (fun i : Nat => decide ((i : Int) ∈ l) && R (i : Int)) + (List.range n).countP (fun i : Nat => decide ((i : Int) = x) && R (i : Int)) := by
      generalize List.range n = L
      induction L with
      | nil => rfl
      | cons i L ihL =>
        simp only [List.countP_cons, ihL]
        by_cases e : (i : Int) = x
        · have : ¬ (i : Int) ∈ l := e ▸ hx
          simp only [e, List.mem_cons, hx, true_or, decide_true, Bool.true_and, decide_false, Bool.false_and]
          simp; omega
        · simp only [List.mem_cons, e, false_or, decide_false, Bool.false_and]
          simp; omega
    rw [e, ih (List.nodup_cons.mp hn).2 (fun y hy => hr y (List.mem_cons_of_mem _ hy)), count_single n x (hr x (by simp)) R, List.countP_cons]
theorem pairwise_nodup {l : List Int} (h : l.Pairwise (· < ·)) : l.Nodup := h.imp (fun h => by omega)
/-- the seats of one set that are not in another one -/
def lessN (a b : Nat) : Nat := (BitVec.ofNat 32 a &&& ~~~(BitVec.ofNat 32 b)).toNat
theorem lessN_lt (a b : Nat) : lessN a b < 4294967296 := (BitVec.ofNat 32 a &&& ~~~(BitVec.ofNat 32 b)).isLt
theorem lessN_bit (a b j : Nat) (ha : a < 4294967296) (hb : b < 4294967296) : (lessN a b).testBit j = (a.testBit j && !b.testBit j) := by
  unfold lessN
  rw [BitVec.testBit_toNat, BitVec.getLsbD_and, BitVec.getLsbD_not, BitVec.getLsbD_ofNat, BitVec.getLsbD_ofNat]
  by_cases h : j < 32
  · simp [h]
  · have : a.testBit j = false := Nat.testBit_lt_two_pow (Nat.lt_of_lt_of_le ha (Nat.pow_le_pow_right (n := 2) (i := 32) (by decide) (by omega)))
    simp [h, this]
theorem u32_andNot (a b : Nat) : Go.bits .andNot .u32 (a : Int) (b : Int) = ((lessN a b : Nat) : Int) := by
  unfold Go.bits lessN
  have e1 : BitVec.ofInt IntKind.u32.bits (a : Int) = BitVec.ofNat 32 a := BitVec.ofInt_natCast 32 a
  have e2 : BitVec.ofInt IntKind.u32.bits (b : Int) = BitVec.ofNat 32 b := BitVec.ofInt_natCast 32 b
  simp only [e1, e2]
  rw [IntKind.wrap_u32]
  have := (BitVec.ofNat 32 a &&& ~~~(BitVec.ofNat 32 b)).isLt
  exact Int.emod_eq_of_lt (Int.natCast_nonneg _) (Int.ofNat_lt.mpr this)
theorem countP_split (a b : Nat → Bool) (L : List Nat) : L.countP (fun i => a i && b i) + L.countP (fun i => a i && !b i) = L.countP a := by
  induction L with
  | nil => rfl
  | cons x L ih =>
    simp only [List.countP_cons]
    cases a x <;> cases b x <;> simp <;> omega
theorem range_lt_count : ∀ s : Fin 33, (List.range 32).countP (fun i => decide (i < s.val)) = s.val := by decide
theorem all_bit (s j : Nat) : (2 ^ s - 1).testBit j = decide (j < s) := Nat.testBit_two_pow_sub_one s j
theorem all_lt (s : Nat) (h : s ≤ 31) : 2 ^ s - 1 < 4294967296 := by
  have : 2 ^ s < 2 ^ 32 := Nat.pow_lt_pow_right (by decide) (by omega)
  have : (2 : Nat) ^ 32 = 4294967296 := rfl
  omega
/-- the free seats -/
def freeN (s : Nat) (l : List Int) : Nat := lessN (2 ^ s - 1) (setN l)
theorem freeN_count (s : Nat) (l : List Int) (hs : s ≤ 31) (hn : l.Nodup) (hl : ∀ x ∈ l, 0 ≤ x ∧ x < (s : Int)) : pc 32 (freeN s l) + l.length = s := by
  rw [pc_count]
  unfold freeN
  have h32 : ∀ x ∈ l, 0 ≤ x ∧ x < 32 := fun x hx => by have := hl x hx; omega
  have e1 : (List.range 32).countP (fun i => (lessN (2 ^ s - 1) (setN l)).testBit i) = (List.range 32).countP (fun i => decide (i < s) && !decide ((i : Int) ∈ l)) := by
    refine List.countP_congr (fun i _ => ?_)
    rw [lessN_bit _ _ _ (all_lt s hs) (setN_lt l h32), all_bit, setN_bit]
    have : (∃ p ∈ l, p.toNat = i) ↔ (i : Int) ∈ l := by
      constructor
      · rintro ⟨p, hp, e⟩; have := h32 p hp; rw [show (i : Int) = p by omega]; exact hp
      · intro h; exact ⟨_, h, by omega⟩
    simp only [this]
  have e2 : (List.range 32).countP (fun i : Nat => decide (i < s) && decide ((i : Int) ∈ l)) = l.length := by
    have := count_list 32 (fun _ => true) l hn h32
    rw [List.countP_true] at this
    rw [← this]
    refine List.countP_congr (fun i _ => ?_)
    simp only [Bool.and_eq_true, decide_eq_true_eq, and_true]
    exact ⟨fun h => h.2, fun h => ⟨by have := hl _ h; omega, h⟩⟩
  have e3 := countP_split (fun i => decide (i < s)) (fun i => decide ((i : Int) ∈ l)) (List.range 32)
  have e4 := range_lt_count ⟨s, by omega⟩
  simp only at e4
  rw [e2, e4] at e3
  rw [e1]; omega
theorem bench_all_eq (s : Nat) (r : Bool) (hs : s ≤ 31) : impl_bench_all.f (s : Int) r = some (((2 ^ s - 1 : Nat) : Int)) := by
  unfold impl_bench_all.f
  have h := all_lt s hs
  have hp : 0 < 2 ^ s := Nat.two_pow_pos s
  rw [if_pos (by omega), shl_u32_one _ (by omega) (by omega), Int.toNat_natCast]
  congr 1
  generalize 2 ^ s = t at h hp ⊢
  omega
theorem row_free_ev (s : Nat) (r : Bool) (l : List Int) (hs : s ≤ 31) (hlen : l.length ≤ 35184372088832) (hl : ∀ x ∈ l, 0 ≤ x ∧ x < (s : Int)) : Ev (fun k => impl_Row_free.f k (s : Int) r l) ((freeN s l : Nat) : Int) := by
  unfold impl_Row_free.f
  have h32 : ∀ x ∈ l, 0 ≤ x ∧ x < 32 := fun x hx => by have := hl x hx; omega
  refine Ev.bindc rfl (Ev.bindc (bench_all_eq s r hs) (Ev.bind (a := ((setN l : Nat) : Int)) ?_ ?_))
  · unfold impl_Row_taken.f
    exact Ev.bind (f := fun _ t => some t) (setOf_ev l h32 hlen) (Ev.now _)
  · rw [u32_andNot]; exact Ev.now _
theorem szRow_eq (s : Int) (r : Bool) (l : List Int) (a : Int) (hl : l.length ≤ 35184372088832) (h0 : 0 ≤ a) (h1 : a ≤ 1048576) : laws_szRow.f s r l a = some (if a - (l.length : Int) < 0 then -1 else a - (l.length : Int)) := by
  unfold laws_szRow.f
  rw [szIntS_eq l _ hl h0 h1]
  simp only [Option.bind_some]
  by_cases h : a - (l.length : Int) < 0
  · rw [if_pos h, if_pos (by omega)]
  · rw [if_neg h, if_neg h]
theorem toRow_ev (s : Int) (r : Bool) (l : List Int) (hl : l.length ≤ 35184372088832) : Ev (fun k => laws_toRow.f k s r l) (s, r, l) := by
  unfold laws_toRow.f
  exact Ev.bind (f := fun _ t => some (s, r, t)) (toIntS_ev l hl) (Ev.now _)
theorem eqRow_ev (s : Int) (r : Bool) (l : List Int) (hl : l.length ≤ 35184372088832) : Ev (fun k => laws_eqRow.f k s r l s r l) true := by
  unfold laws_eqRow.f
  refine Ev.pos rfl (Ev.neg (by simp) (Ev.bind (eqIntS_ev l hl) (Ev.pos rfl (Ev.now _))))
/-- a valid rule -/
def IsRl (n : Int) (l : List Int) : Prop := (1 ≤ n ∧ n ≤ 3) ∧ (l.length : Int) = n * n ∧ (∀ x ∈ l, 0 ≤ x ∧ x ≤ 1) ∧ ∀ a b : Nat, (a : Int) < n → (b : Int) < n → l.getD (a * n.toNat + b) 0 = l.getD (b * n.toNat + a) 0
theorem rl_idx {m : Nat} (hm : m ≤ 3) {a b : Nat} (ha : a < m) (hb : b < m) : a * m + b < m * m := by
  have : a * m ≤ (m - 1) * m := Nat.mul_le_mul_right _ (by omega)
  have h2 : (m - 1) * m + m = m * m := by
    have : (m - 1 + 1) * m = m * m := by rw [Nat.sub_add_cancel (by omega)]
    rw [← this, Nat.add_mul, Nat.one_mul]
  omega
theorem rl_wrap {m : Nat} (hm : m ≤ 3) {a b : Nat} (ha : a < m) (hb : b < m) : wrap64 (wrap64 ((a : Int) * (m : Int)) + (b : Int)) = ((a * m + b : Nat) : Int) := by
  have := rl_idx hm ha hb
  have h1 : m * m ≤ 3 * 3 := Nat.mul_le_mul hm hm
  have e : (a : Int) * (m : Int) = ((a * m : Nat) : Int) := by push_cast; rfl
  rw [e, w64 (n := ((a * m : Nat) : Int)) (by omega) (by omega), w64 (by omega) (by omega)]
  omega
theorem l8Rule_l1 (m : Nat) (hm : m ≤ 3) (l : List Int) (hl : l.length = m * m) (a : Nat) (ha : a < m) :
    (∀ r, Ev (fun k => spec_l8Rule.l0 k ((a + 1 : Nat) : Int) (m : Int) l) r → (∀ b, b < m → (0 ≤ l.getD (a * m + b) 0 ∧ l.getD (a * m + b) 0 ≤ 1) ∧ l.getD (a * m + b) 0 = l.getD (b * m + a) 0) → Ev (fun k => spec_l8Rule.l1 k (a : Int) ((0 : Nat) : Int) (m : Int) l) r) ∧
    ((∃ b, b < m ∧ ¬ ((0 ≤ l.getD (a * m + b) 0 ∧ l.getD (a * m + b) 0 ≤ 1) ∧ l.getD (a * m + b) 0 = l.getD (b * m + a) 0)) → Ev (fun k => spec_l8Rule.l1 k (a : Int) ((0 : Nat) : Int) (m : Int) l) false) := by
  have hidx : ∀ b, b < m → a * m + b < m * m ∧ b * m + a < m * m := fun b hb => ⟨rl_idx hm ha hb, rl_idx hm hb ha⟩
  have rdd : ∀ i : Nat, rd l (i : Int) = l.getD i 0 := fun i => by unfold rd; rw [Int.toNat_natCast]
  have hgood : ∀ i, i < m → ((0 ≤ l.getD (a * m + i) 0 ∧ l.getD (a * m + i) 0 ≤ 1) ∧ l.getD (a * m + i) 0 = l.getD (i * m + a) 0) → ∀ r, Ev (fun k => spec_l8Rule.l1 k (a : Int) ((i + 1 : Nat) : Int) (m : Int) l) r → Ev (fun k => spec_l8Rule.l1 k (a : Int) (i : Int) (m : Int) l) r := by
    intro b hb hp r h
    have := hidx b hb
    refine Ev.succ ?_
    simp only [spec_l8Rule.l1.eq_2]
    rw [rl_wrap hm ha hb, rl_wrap hm hb ha, rdd, rdd]
    refine Ev.pos (by omega) (Ev.pos (by omega) (Ev.pos (by omega) (Ev.bindc (l1In_eq _ _ _) (Ev.pos (decide_eq_true hp.1) (Ev.pos (by omega) (Ev.pos (by omega) (Ev.pos hp.2 ?_)))))))
    rw [w64 (by omega) (by omega)]
    exact h
  have hbad : ∀ i, i < m → ¬ ((0 ≤ l.getD (a * m + i) 0 ∧ l.getD (a * m + i) 0 ≤ 1) ∧ l.getD (a * m + i) 0 = l.getD (i * m + a) 0) → Ev (fun k => spec_l8Rule.l1 k (a : Int) (i : Int) (m : Int) l) false := by
    intro b hb hp
    have := hidx b hb
    refine Ev.succ ?_
    simp only [spec_l8Rule.l1.eq_2]
    rw [rl_wrap hm ha hb, rl_wrap hm hb ha, rdd, rdd]
    refine Ev.pos (by omega) (Ev.pos (by omega) (Ev.pos (by omega) (Ev.bindc (l1In_eq _ _ _) ?_)))
    by_cases h1 : 0 ≤ l.getD (a * m + b) 0 ∧ l.getD (a * m + b) 0 ≤ 1
    · exact Ev.pos (decide_eq_true h1) (Ev.pos (by omega) (Ev.pos (by omega) (Ev.neg (fun h2 => hp ⟨h1, h2⟩) (Ev.now _))))
    · exact Ev.neg (by simpa using h1) (Ev.now _)
  constructor
  · intro r h hp
    refine ev_all (fun k i => spec_l8Rule.l1 k (a : Int) (i : Int) (m : Int) l) m _ r ?_ hgood 0 (by omega) (fun j _ hj => hp j hj)
    refine Ev.succ ?_
    simp only [spec_l8Rule.l1.eq_2]
    rw [w64 (n := (a : Int) + 1) (by omega) (by omega)]
    exact Ev.neg (by omega) h
  · rintro ⟨b, hb, hp⟩
    exact ev_bad (fun k i => spec_l8Rule.l1 k (a : Int) (i : Int) (m : Int) l) m _ false hgood hbad 0 ⟨b, by omega, hb, hp⟩
theorem l8Rule_ev (n : Int) (l : List Int) (hl : l.length ≤ 35184372088832) (b : Bool) (hb : b = true ↔ IsRl n l) : Ev (fun k => spec_l8Rule.f k n l) b := by
  unfold spec_l8Rule.f
  refine Ev.bindc (l1In_eq _ _ _) ?_
  by_cases hn : 1 ≤ n ∧ n ≤ 3
  · refine Ev.pos (decide_eq_true hn) (Ev.succ ?_)
    simp only [spec_l8Rule.j0.eq_2]
    obtain ⟨m, rfl⟩ : ∃ m : Nat, n = (m : Int) := ⟨n.toNat, by omega⟩
    have hm : m ≤ 3 := by omega
    have hmm : m * m ≤ 9 := Nat.mul_le_mul hm hm
    have e : (m : Int) * (m : Int) = ((m * m : Nat) : Int) := by push_cast; rfl
    rw [e, w64 (by omega) (by omega)]
    by_cases hll : (l.length : Int) = ((m * m : Nat) : Int)
    · refine Ev.neg (by simpa using hll) ?_
      have hl' : l.length = m * m := by omega
      refine ev_dec (fun k i => spec_l8Rule.l0 k (i : Int) (m : Int) l) m (fun a => ∀ b, b < m → (0 ≤ l.getD (a * m + b) 0 ∧ l.getD (a * m + b) 0 ≤ 1) ∧ l.getD (a * m + b) 0 = l.getD (b * m + a) 0) id ?_ ?_ ?_ b ?_
      · refine Ev.succ ?_
        simp only [spec_l8Rule.l0.eq_2]
        exact Ev.neg (by omega) (Ev.now _)
      · intro a ha hp r h
        refine Ev.succ ?_
        simp only [spec_l8Rule.l0.eq_2]
        exact Ev.pos (by omega) ((l8Rule_l1 m hm l hl' a ha).1 r h hp)
      · intro a ha hp
        refine Ev.succ ?_
        simp only [spec_l8Rule.l0.eq_2]
        refine Ev.pos (by omega) ((l8Rule_l1 m hm l hl' a ha).2 ?_)
        obtain ⟨b, hb⟩ := Classical.not_forall.mp hp
        exact ⟨b, Decidable.byContradiction (fun c => hb (fun h2 => absurd h2 c)), fun c => hb (fun _ => c)⟩
      · rw [hb]
        unfold IsRl
        constructor
        · rintro ⟨_, _, h3, h4⟩ a ha c hc
          have hi := rl_idx hm ha hc
          refine ⟨?_, h4 a c (by omega) (by omega)⟩
          rw [List.getD_eq_getElem?_getD, List.getElem?_eq_getElem (by omega)]
          exact h3 _ (List.getElem_mem _)
        · intro h
          refine ⟨hn, by omega, ?_, fun a c ha hc => (h a (by omega) c (by omega)).2⟩
          intro x hx
          obtain ⟨i, hi, rfl⟩ := List.mem_iff_getElem.mp hx
          have hmpos : 0 < m := by omega
          have h1 := (h (i / m) (Nat.div_lt_of_lt_mul (by omega)) (i % m) (Nat.mod_lt _ hmpos)).1
          rw [Nat.mul_comm (i / m) m, Nat.div_add_mod, List.getD_eq_getElem?_getD, List.getElem?_eq_getElem (by omega)] at h1
          exact h1
    · refine Ev.pos (by simpa using hll) ?_
      have : b = false := by
        cases b with
        | false => rfl
        | true => exact absurd ((hb.mp rfl).2.1) (by omega)
      rw [this]; exact Ev.now _
  · refine Ev.neg (by simpa using hn) (Ev.succ ?_)
    simp only [spec_l8Rule.j0.eq_2]
    have : b = false := by
      cases b with
      | false => rfl
      | true => exact absurd ((hb.mp rfl).1) hn
    rw [this]; exact Ev.pos (by trivial) (Ev.now _)
theorem may_eq (m : Nat) (hm : m ≤ 3) (l : List Int) (hl : l.length = m * m) (a c : Nat) (ha : a < m) (hc : c < m) : impl_Rule_may.f (m : Int) l (a : Int) (c : Int) = some (l.getD (a * m + c) 0 == 1) := by
  unfold impl_Rule_may.f
  have := rl_idx hm ha hc
  rw [rl_wrap hm ha hc, if_pos (by omega), if_pos (by omega)]
  unfold rd; rw [Int.toNat_natCast]
theorem isRule_l1 (m : Nat) (hm : m ≤ 3) (l : List Int) (hl : l.length = m * m) (a : Nat) (ha : a < m) :
    (∀ r, Ev (fun k => impl_IsRule.l0 k (m : Int) ((a + 1 : Nat) : Int) (m : Int) l) r → (∀ b, b < a → (l.getD (a * m + b) 0 == 1) = (l.getD (b * m + a) 0 == 1)) → Ev (fun k => impl_IsRule.l1 k (a : Int) (m : Int) (a : Int) (a : Int) ((0 : Nat) : Int) (m : Int) l) r) ∧
    ((∃ b, b < a ∧ ¬ ((l.getD (a * m + b) 0 == 1) = (l.getD (b * m + a) 0 == 1))) → Ev (fun k => impl_IsRule.l1 k (a : Int) (m : Int) (a : Int) (a : Int) ((0 : Nat) : Int) (m : Int) l) false) := by
  have hgood : ∀ i, i < a → ((l.getD (a * m + i) 0 == 1) = (l.getD (i * m + a) 0 == 1)) → ∀ r, Ev (fun k => impl_IsRule.l1 k (a : Int) (m : Int) (a : Int) (a : Int) ((i + 1 : Nat) : Int) (m : Int) l) r → Ev (fun k => impl_IsRule.l1 k (a : Int) (m : Int) (a : Int) (a : Int) (i : Int) (m : Int) l) r := by
    intro b hb hp r h
    refine Ev.succ ?_
    simp only [impl_IsRule.l1.eq_2]
    refine Ev.pos (by omega) (Ev.bindc (may_eq m hm l hl a b ha (by omega)) (Ev.bindc (may_eq m hm l hl b a (by omega) ha) (Ev.neg (by rw [hp]; simp) ?_)))
    rw [w64 (by omega) (by omega)]
    exact h
  have hbad : ∀ i, i < a → ¬ ((l.getD (a * m + i) 0 == 1) = (l.getD (i * m + a) 0 == 1)) → Ev (fun k => impl_IsRule.l1 k (a : Int) (m : Int) (a : Int) (a : Int) (i : Int) (m : Int) l) false := by
    intro b hb hp
    refine Ev.succ ?_
    simp only [impl_IsRule.l1.eq_2]
    exact Ev.pos (by omega) (Ev.bindc (may_eq m hm l hl a b ha (by omega)) (Ev.bindc (may_eq m hm l hl b a (by omega) ha) (Ev.pos (by rw [bne_iff_ne]; exact hp) (Ev.now _))))
  constructor
  · intro r h hp
    refine ev_all (fun k i => impl_IsRule.l1 k (a : Int) (m : Int) (a : Int) (a : Int) (i : Int) (m : Int) l) a _ r ?_ hgood 0 (by omega) (fun j _ hj => hp j hj)
    refine Ev.succ ?_
    simp only [impl_IsRule.l1.eq_2]
    rw [w64 (n := (a : Int) + 1) (by omega) (by omega)]
    exact Ev.neg (by omega) h
  · rintro ⟨b, hb, hp⟩
    exact ev_bad (fun k i => impl_IsRule.l1 k (a : Int) (m : Int) (a : Int) (a : Int) (i : Int) (m : Int) l) a _ false hgood hbad 0 ⟨b, by omega, hb, hp⟩
theorem isRule_ev (n : Int) (l : List Int) (hl : l.length ≤ 35184372088832) (b : Bool) (hb : b = true ↔ IsRl n l) : Ev (fun k => impl_IsRule.f k n l) b := by
  unfold impl_IsRule.f
  refine Ev.bindc (within_eq _ _ _) ?_
  have hno : ¬ IsRl n l → b = false := fun h => by
    cases b with
    | false => rfl
    | true => exact absurd (hb.mp rfl) h
  by_cases hn : 1 ≤ n ∧ n ≤ 3
  · refine Ev.pos (decide_eq_true hn) ?_
    obtain ⟨m, rfl⟩ : ∃ m : Nat, n = (m : Int) := ⟨n.toNat, by omega⟩
    have hm : m ≤ 3 := by omega
    have hmm : m * m ≤ 9 := Nat.mul_le_mul hm hm
    have e : (m : Int) * (m : Int) = ((m * m : Nat) : Int) := by push_cast; rfl
    rw [e, w64 (by omega) (by omega)]
    by_cases hll : (l.length : Int) = ((m * m : Nat) : Int)
    · refine Ev.pos hll (Ev.bind (allWithin_ev l 0 1 hl) ?_)
      have hl' : l.length = m * m := by omega
      refine Ev.succ ?_
      simp only [impl_IsRule.j0.eq_2]
      by_cases hw : ∀ x ∈ l, 0 ≤ x ∧ x ≤ 1
      · refine Ev.neg (by simpa using hw) ?_
        refine ev_dec (fun k i => impl_IsRule.l0 k (m : Int) (i : Int) (m : Int) l) m (fun a => ∀ b, b < a → (l.getD (a * m + b) 0 == 1) = (l.getD (b * m + a) 0 == 1)) id ?_ ?_ ?_ b ?_
        · refine Ev.succ ?_
          simp only [impl_IsRule.l0.eq_2]
          exact Ev.neg (by omega) (Ev.now _)
        · intro a ha hp r h
          refine Ev.succ ?_
          simp only [impl_IsRule.l0.eq_2]
          exact Ev.pos (by omega) ((isRule_l1 m hm l hl' a ha).1 r h hp)
        · intro a ha hp
          refine Ev.succ ?_
          simp only [impl_IsRule.l0.eq_2]
          refine Ev.pos (by omega) ((isRule_l1 m hm l hl' a ha).2 ?_)
          obtain ⟨b, hb⟩ := Classical.not_forall.mp hp
          exact ⟨b, Decidable.byContradiction (fun c => hb (fun h2 => absurd h2 c)), fun c => hb (fun _ => c)⟩
        · rw [hb]
          have h01 : ∀ a c, a < m → c < m → l.getD (a * m + c) 0 = 0 ∨ l.getD (a * m + c) 0 = 1 := by
            intro a c ha hc
            have hi := rl_idx hm ha hc
            have : 0 ≤ l.getD (a * m + c) 0 ∧ l.getD (a * m + c) 0 ≤ 1 := by
              rw [List.getD_eq_getElem?_getD, List.getElem?_eq_getElem (by omega)]
              exact hw _ (List.getElem_mem _)
            omega
          have heq : ∀ a c, a < m → c < m → ((l.getD (a * m + c) 0 == 1) = (l.getD (c * m + a) 0 == 1)) → l.getD (a * m + c) 0 = l.getD (c * m + a) 0 := by
            intro a c ha hc h
            rcases h01 a c ha hc with h1 | h1 <;> rcases h01 c a hc ha with h2 | h2 <;> rw [h1, h2] at h <;> rw [h1, h2] <;> simp at h
          unfold IsRl
          constructor
          · rintro ⟨_, _, _, h4⟩ a ha c hc
            rw [show l.getD (a * m + c) 0 = l.getD (c * m + a) 0 from h4 a c (by omega) (by omega)]
          · intro h
            refine ⟨hn, by omega, hw, fun a c ha hc => ?_⟩
            rcases Nat.lt_trichotomy a c with hac | hac | hac
            · exact (heq c a (by omega) (by omega) (h c (by omega) a hac)).symm
            · rw [hac]
            · exact heq a c (by omega) (by omega) (h a (by omega) c hac)
      · rw [hno (fun h => hw h.2.2.1)]
        exact Ev.pos (by simpa using hw) (Ev.now _)
    · refine Ev.neg hll (Ev.succ ?_)
      simp only [impl_IsRule.j0.eq_2]
      rw [hno (fun h => hll (by rw [h.2.1]; exact e))]
      exact Ev.pos (by trivial) (Ev.now _)
  · refine Ev.neg (by simpa using hn) (Ev.succ ?_)
    simp only [impl_IsRule.j0.eq_2]
    rw [hno (fun h => hn h.1)]
    exact Ev.pos (by trivial) (Ev.now _)
/-- the numbers below N that are not in a list -/
def restL (N : Nat) (b : List Int) : List Int := ((List.range N).filter (fun j : Nat => !decide ((j : Int) ∈ b))).map (fun j : Nat => (j : Int))
theorem restL_sorted (N : Nat) (b : List Int) : (restL N b).Pairwise (· < ·) := by
  unfold restL
  rw [List.pairwise_map]
  exact (List.Pairwise.filter _ List.pairwise_lt_range).imp (fun h => by omega)
theorem restL_len (N : Nat) (b : List Int) : (restL N b).length ≤ N := by
  unfold restL; rw [List.length_map]; have := List.length_filter_le (fun j : Nat => !decide ((j : Int) ∈ b)) (List.range N); rw [List.length_range] at this; exact this
theorem restL_mem (N : Nat) (b : List Int) (x : Int) : x ∈ restL N b ↔ (0 ≤ x ∧ x < (N : Int)) ∧ x ∉ b := by
  unfold restL
  rw [List.mem_map]
  constructor
  · rintro ⟨j, hj, rfl⟩
    obtain ⟨h1, h2⟩ := List.mem_filter.mp hj
    have := List.mem_range.mp h1
    exact ⟨by omega, by simpa using h2⟩
  · rintro ⟨h1, h2⟩
    refine ⟨x.toNat, List.mem_filter.mpr ⟨List.mem_range.mpr (by omega), ?_⟩, by omega⟩
    rw [Int.toNat_of_nonneg h1.1]; simpa using h2
theorem restL_succ (s : Nat) (b : List Int) : restL (s + 1) b = restL s b ++ (if (s : Int) ∈ b then [] else [(s : Int)]) := by
  unfold restL
  rw [List.range_succ, List.filter_append, List.map_append]
  congr 1
  by_cases c : (s : Int) ∈ b
  · rw [if_pos c]; simp [c]
  · rw [if_neg c]; simp [c]
theorem l2Is_ev (s : Int) (r : Bool) (l : List Int) (p : Int) (hl : l.length ≤ 35184372088832) : Ev (fun k => spec_l2Is.f k s r l p) (decide (p ∈ l)) := by
  unfold spec_l2Is.f
  exact Ev.bind (f := fun _ t => some t) (has_ev l p hl) (Ev.now _)
theorem l2Free_loop (n : Nat) (r : Bool) (l : List Int) (hN : n ≤ 100) (hl : l.length ≤ 35184372088832) : ∀ d s, s + d = n → Ev (fun k => spec_l2Free.l0 k (restL s l) (s : Int) (n : Int) r l) (restL n l) := by
  intro d
  induction d with
  | zero =>
    intro s hs
    obtain rfl : s = n := by omega
    refine Ev.succ ?_
    simp only [spec_l2Free.l0.eq_2]
    exact Ev.neg (by omega) (Ev.now _)
  | succ d ih =>
    intro s hs
    refine Ev.succ ?_
    simp only [spec_l2Free.l0.eq_2]
    have hlen := restL_len s l
    have h1 := ih (s + 1) (by omega)
    rw [restL_succ] at h1
    refine Ev.pos (by omega) (Ev.bind (l2Is_ev (n : Int) r l (s : Int) hl) ?_)
    rw [w64 (by omega) (by omega)]
    by_cases c : (s : Int) ∈ l
    · rw [if_pos c, List.append_nil] at h1
      exact Ev.pos (decide_eq_true c) h1
    · rw [if_neg c] at h1
      exact Ev.neg (by simpa using c) (Ev.pos (by omega) h1)
theorem l2Free_ev (n : Nat) (r : Bool) (l : List Int) (hN : n ≤ 100) (hl : l.length ≤ 35184372088832) : Ev (fun k => spec_l2Free.f k (n : Int) r l) (restL n l) := by
  unfold spec_l2Free.f
  exact l2Free_loop n r l hN hl n 0 (by omega)
theorem freeN_list (s : Nat) (l : List Int) (hs : s ≤ 31) (hl : ∀ x ∈ l, 0 ≤ x ∧ x < 32) : listN (freeN s l) = restL s l := by
  refine sorted_ext _ _ (listN_sorted _) (restL_sorted _ _) (fun x => ?_)
  rw [listN_mem, restL_mem]
  unfold freeN
  rw [lessN_bit _ _ _ (all_lt s hs) (setN_lt l hl), all_bit, setN_bit, Bool.and_eq_true, decide_eq_true_eq, Bool.not_eq_true', decide_eq_false_iff_not]
  constructor
  · rintro ⟨h1, h2, h3⟩
    exact ⟨by omega, fun hc => h3 ⟨x, hc, rfl⟩⟩
  · rintro ⟨h1, h2⟩
    refine ⟨by omega, by omega, ?_⟩
    rintro ⟨p, hp, e⟩
    have := hl p hp
    exact h2 (by rwa [show x = p by omega])
theorem freeN_lt (s : Nat) (l : List Int) : freeN s l < 4294967296 := lessN_lt _ _
theorem restL_count (s : Nat) (l : List Int) (hn : l.Nodup) (hl : ∀ x ∈ l, 0 ≤ x ∧ x < (s : Int)) : (restL s l).length + l.length = s := by
  have h1 := count_list s (fun _ => true) l hn hl
  rw [List.countP_true] at h1
  unfold restL
  rw [List.length_map, ← List.countP_eq_length_filter]
  have h2 : (List.range s).countP (fun i : Nat => decide ((i : Int) ∈ l) && true) + (List.range s).countP (fun i : Nat => !decide ((i : Int) ∈ l)) = s := by
    have := List.length_eq_countP_add_countP (fun i : Nat => decide ((i : Int) ∈ l)) (l := List.range s)
    rw [List.length_range] at this
    simp only [Bool.and_true]
    have e : (List.range s).countP (fun i : Nat => !decide ((i : Int) ∈ l)) = (List.range s).countP (fun a : Nat => decide (¬ (decide ((a : Int) ∈ l)) = true)) := by
      congr 1; funext i; by_cases c : (i : Int) ∈ l <;> simp [c]
    omega
  omega
/-- two seats are no neighbors, or their kinds may be -/
def KOk (s : Int) (r : Bool) (F : List Int) (m : Nat) (u kinds : List Int) (i j : Nat) : Prop := gp s r (F.getD i 0) (F.getD j 0) = 1 → u.getD ((kinds.getD i 0).toNat * m + (kinds.getD j 0).toNat) 0 = 1
theorem may_at (m : Nat) (hm : m ≤ 3) (u : List Int) (hu : u.length = m * m) (a c : Int) (ha : 0 ≤ a ∧ a < (m : Int)) (hc : 0 ≤ c ∧ c < (m : Int)) : impl_Rule_may.f (m : Int) u a c = some (u.getD (a.toNat * m + c.toNat) 0 == 1) := by
  have := may_eq m hm u hu a.toNat c.toNat (by omega) (by omega)
  rwa [Int.toNat_of_nonneg ha.1, Int.toNat_of_nonneg hc.1] at this
theorem kinds_inner {α : Type} (L : Nat → Nat → Option α) (s : Int) (r : Bool) (F : List Int) (m : Nat) (u kinds : List Int) (i : Nat) (f : Bool → α)
    (hgood : ∀ j, j < i → KOk s r F m u kinds i j → ∀ x, Ev (fun k => L k (j + 1)) x → Ev (fun k => L k j) x) (hbad : ∀ j, j < i → ¬ KOk s r F m u kinds i j → Ev (fun k => L k j) (f false)) (x : α) (hend : Ev (fun k => L k i) x) :
    ((∀ j, j < i → KOk s r F m u kinds i j) → Ev (fun k => L k 0) x) ∧ (¬ (∀ j, j < i → KOk s r F m u kinds i j) → Ev (fun k => L k 0) (f false)) := by
  constructor
  · intro h
    exact ev_all L i (KOk s r F m u kinds i) x hend hgood 0 (by omega) (fun j _ hj => h j hj)
  · intro h
    refine ev_bad L i (KOk s r F m u kinds i) (f false) hgood hbad 0 ?_
    obtain ⟨j, hj⟩ := Classical.not_forall.mp h
    obtain ⟨hj1, hj2⟩ := Classical.not_imp.mp hj
    exact ⟨j, by omega, hj1, hj2⟩
theorem kinds_fit (s : Nat) (r : Bool) (tk F u kinds : List Int) (m : Nat) (hs : s ≤ 24) (hm : m ≤ 3) (hu : u.length = m * m) (hF : ∀ x ∈ F, 0 ≤ x ∧ x < (s : Int)) (hFl : F.length ≤ 24) (hk : kinds.length = F.length) (hkr : ∀ x ∈ kinds, 0 ≤ x ∧ x < (m : Int))
    (b : Bool) (hb : b = true ↔ ∀ i, i < F.length → ∀ j, j < i → KOk (s : Int) r F m u kinds i j) :
    Ev (fun k => spec_KindsFit.l0 k kinds F 0 (s : Int) r tk (m : Int) u) (b, true) ∧ Ev (fun k => impl_KindsFit.l0 k kinds F F (F.length : Int) 0 (s : Int) r tk (m : Int) u) (b, true) := by
  have hFr : ∀ i, i < F.length → 0 ≤ F.getD i 0 ∧ F.getD i 0 < (s : Int) := fun i hi => by rw [getD_lt F i hi]; exact hF _ (List.getElem_mem hi)
  have hKr : ∀ i, i < F.length → 0 ≤ kinds.getD i 0 ∧ kinds.getD i 0 < (m : Int) := fun i hi => by rw [getD_lt kinds i (by omega)]; exact hkr _ (List.getElem_mem (by omega))
  constructor
  · have inner : ∀ i, i < F.length → ∀ x, Ev (fun k => spec_KindsFit.l0 k kinds F ((i + 1 : Nat) : Int) (s : Int) r tk (m : Int) u) x → ((∀ j, j < i → KOk (s : Int) r F m u kinds i j) → Ev (fun k => spec_KindsFit.l0 k kinds F (i : Int) (s : Int) r tk (m : Int) u) x) ∧ (¬ (∀ j, j < i → KOk (s : Int) r F m u kinds i j) → Ev (fun k => spec_KindsFit.l0 k kinds F (i : Int) (s : Int) r tk (m : Int) u) (false, true)) := by
      intro i hi x hx
      have := kinds_inner (fun k j => spec_KindsFit.l1 k kinds F (i : Int) (j : Int) (s : Int) r tk (m : Int) u) (s : Int) r F m u kinds i (fun b => (b, true)) ?_ ?_ x ?_
      · refine ⟨fun h => Ev.succ ?_, fun h => Ev.succ ?_⟩
        · simp only [spec_KindsFit.l0.eq_2]; exact Ev.pos (by omega) (this.1 h)
        · simp only [spec_KindsFit.l0.eq_2]; exact Ev.pos (by omega) (this.2 h)
      · intro j hj hok y hy
        refine Ev.succ ?_
        simp only [spec_KindsFit.l1.eq_2]
        refine Ev.pos (by omega) (Ev.pos (by omega) (Ev.pos (by omega) (Ev.pos (by omega) (Ev.pos (by omega) ?_))))
        rw [rd_getD, rd_getD, rd_getD, rd_getD]
        have h1 := hFr i hi
        have h2 := hFr j (by omega)
        refine Ev.bindc (l2Gap_eq _ _ _ _ _ (by omega) (by omega) (by omega)) ?_
        rw [w64 (n := (j : Int) + 1) (by omega) (by omega)]
        by_cases c : gp (s : Int) r (F.getD i 0) (F.getD j 0) = 1
        · refine Ev.pos c (Ev.pos (by omega) (Ev.pos (by omega) ?_))
          refine Ev.bindc (may_at m hm u hu _ _ (hKr i hi) (hKr j (by omega))) (Ev.pos ?_ hy)
          rw [hok c]; rfl
        · exact Ev.neg c hy
      · intro j hj hno
        refine Ev.succ ?_
        simp only [spec_KindsFit.l1.eq_2]
        refine Ev.pos (by omega) (Ev.pos (by omega) (Ev.pos (by omega) (Ev.pos (by omega) (Ev.pos (by omega) ?_))))
        rw [rd_getD, rd_getD, rd_getD, rd_getD]
        have h1 := hFr i hi
        have h2 := hFr j (by omega)
        refine Ev.bindc (l2Gap_eq _ _ _ _ _ (by omega) (by omega) (by omega)) ?_
        obtain ⟨c, c2⟩ := Classical.not_imp.mp hno
        refine Ev.pos c (Ev.pos (by omega) (Ev.pos (by omega) ?_))
        exact Ev.bindc (may_at m hm u hu _ _ (hKr i hi) (hKr j (by omega))) (Ev.neg (by simpa using c2) (Ev.now _))
      · refine Ev.succ ?_
        simp only [spec_KindsFit.l1.eq_2]
        rw [w64 (by omega) (by omega)]
        exact Ev.neg (by omega) hx
    classical
    refine ev_dec (fun k i => spec_KindsFit.l0 k kinds F (i : Int) (s : Int) r tk (m : Int) u) F.length (fun i => ∀ j, j < i → KOk (s : Int) r F m u kinds i j) (fun b => (b, true)) ?_ ?_ ?_ b hb
    · refine Ev.succ ?_
      simp only [spec_KindsFit.l0.eq_2]
      exact Ev.neg (by omega) (Ev.now _)
    · intro i hi h x hx; exact (inner i hi x hx).1 h
    · intro i hi h
      -- the end does not matter
      have hx : ∀ d i, i + d = F.length → ∃ x, Ev (fun k => spec_KindsFit.l0 k kinds F (i : Int) (s : Int) r tk (m : Int) u) x := by
        intro d
        induction d with
        | zero =>
          intro i hi
          refine ⟨(true, true), Ev.succ ?_⟩
          simp only [spec_KindsFit.l0.eq_2]
          exact Ev.neg (by omega) (Ev.now _)
        | succ d ih =>
          intro i hi
          obtain ⟨x, hx⟩ := ih (i + 1) (by omega)
          by_cases c : ∀ j, j < i → KOk (s : Int) r F m u kinds i j
          · exact ⟨x, (inner i (by omega) x hx).1 c⟩
          · exact ⟨_, (inner i (by omega) x hx).2 c⟩
      obtain ⟨x, hx⟩ := hx (F.length - (i + 1)) (i + 1) (by omega)
      exact (inner i hi x hx).2 h
  · have inner : ∀ i, i < F.length → ∀ x, Ev (fun k => impl_KindsFit.l0 k kinds F F (F.length : Int) ((i + 1 : Nat) : Int) (s : Int) r tk (m : Int) u) x → ((∀ j, j < i → KOk (s : Int) r F m u kinds i j) → Ev (fun k => impl_KindsFit.l0 k kinds F F (F.length : Int) (i : Int) (s : Int) r tk (m : Int) u) x) ∧ (¬ (∀ j, j < i → KOk (s : Int) r F m u kinds i j) → Ev (fun k => impl_KindsFit.l0 k kinds F F (F.length : Int) (i : Int) (s : Int) r tk (m : Int) u) (false, true)) := by
      intro i hi x hx
      have ht : ∀ j, j < i → (F.take i).getD j 0 = F.getD j 0 := fun j hj => by
        rw [List.getD_eq_getElem?_getD, List.getD_eq_getElem?_getD, List.getElem?_take, if_pos hj]
      have hlt : (F.take i).length = i := by rw [List.length_take]; omega
      have := kinds_inner (fun k j => impl_KindsFit.l1 k kinds F (i : Int) (F.getD i 0) F (F.length : Int) (i : Int) (F.take i) ((F.take i).length : Int) (j : Int) (s : Int) r tk (m : Int) u) (s : Int) r F m u kinds i (fun b => (b, true)) ?_ ?_ x ?_
      · refine ⟨fun h => Ev.succ ?_, fun h => Ev.succ ?_⟩
        · simp only [impl_KindsFit.l0.eq_2]
          refine Ev.pos (by omega) (Ev.pos (by omega) (Ev.pos (by omega) (Ev.pos (by omega) (Ev.bindc rfl ?_))))
          rw [rd_getD, Int.toNat_natCast]
          exact this.1 h
        · simp only [impl_KindsFit.l0.eq_2]
          refine Ev.pos (by omega) (Ev.pos (by omega) (Ev.pos (by omega) (Ev.pos (by omega) (Ev.bindc rfl ?_))))
          rw [rd_getD, Int.toNat_natCast]
          exact this.2 h
      · intro j hj hok y hy
        refine Ev.succ ?_
        simp only [impl_KindsFit.l1.eq_2]
        refine Ev.pos (by omega) (Ev.pos (by omega) (Ev.pos (by omega) ?_))
        refine Ev.bindc (a := ((s : Int), r)) (by unfold impl_Row_bench.f; rfl) ?_
        rw [rd_getD, rd_getD, rd_getD, ht j hj]
        have h1 := hFr i hi
        have h2 := hFr j (by omega)
        refine Ev.bindc (bench_gap_eq _ _ _ _ (by omega) (by omega) (by omega)) ?_
        rw [w64 (n := (j : Int) + 1) (by omega) (by omega)]
        by_cases c : gp (s : Int) r (F.getD i 0) (F.getD j 0) = 1
        · refine Ev.pos c (Ev.pos (by omega) (Ev.pos (by omega) (Ev.pos (by omega) ?_)))
          refine Ev.bindc (may_at m hm u hu _ _ (hKr i hi) (hKr j (by omega))) (Ev.pos ?_ hy)
          rw [hok c]; rfl
        · exact Ev.neg c hy
      · intro j hj hno
        refine Ev.succ ?_
        simp only [impl_KindsFit.l1.eq_2]
        refine Ev.pos (by omega) (Ev.pos (by omega) (Ev.pos (by omega) ?_))
        refine Ev.bindc (a := ((s : Int), r)) (by unfold impl_Row_bench.f; rfl) ?_
        rw [rd_getD, rd_getD, rd_getD, ht j hj]
        have h1 := hFr i hi
        have h2 := hFr j (by omega)
        refine Ev.bindc (bench_gap_eq _ _ _ _ (by omega) (by omega) (by omega)) ?_
        obtain ⟨c, c2⟩ := Classical.not_imp.mp hno
        refine Ev.pos c (Ev.pos (by omega) (Ev.pos (by omega) (Ev.pos (by omega) ?_)))
        exact Ev.bindc (may_at m hm u hu _ _ (hKr i hi) (hKr j (by omega))) (Ev.neg (by simpa using c2) (Ev.now _))
      · refine Ev.succ ?_
        simp only [impl_KindsFit.l1.eq_2]
        rw [w64 (by omega) (by omega)]
        exact Ev.neg (by omega) hx
    classical
    refine ev_dec (fun k i => impl_KindsFit.l0 k kinds F F (F.length : Int) (i : Int) (s : Int) r tk (m : Int) u) F.length (fun i => ∀ j, j < i → KOk (s : Int) r F m u kinds i j) (fun b => (b, true)) ?_ ?_ ?_ b hb
    · refine Ev.succ ?_
      simp only [impl_KindsFit.l0.eq_2]
      exact Ev.neg (by omega) (Ev.now _)
    · intro i hi h x hx; exact (inner i hi x hx).1 h
    · intro i hi h
      have hx : ∀ d i, i + d = F.length → ∃ x, Ev (fun k => impl_KindsFit.l0 k kinds F F (F.length : Int) (i : Int) (s : Int) r tk (m : Int) u) x := by
        intro d
        induction d with
        | zero =>
          intro i hi
          refine ⟨(true, true), Ev.succ ?_⟩
          simp only [impl_KindsFit.l0.eq_2]
          exact Ev.neg (by omega) (Ev.now _)
        | succ d ih =>
          intro i hi
          obtain ⟨x, hx⟩ := ih (i + 1) (by omega)
          by_cases c : ∀ j, j < i → KOk (s : Int) r F m u kinds i j
          · exact ⟨x, (inner i (by omega) x hx).1 c⟩
          · exact ⟨_, (inner i (by omega) x hx).2 c⟩
      obtain ⟨x, hx⟩ := hx (F.length - (i + 1)) (i + 1) (by omega)
      exact (inner i hi x hx).2 h
theorem l8Kinds_loop (u kinds : List Int) (n : Int) (hn : 1 ≤ n ∧ n ≤ 3) (hl : kinds.length ≤ 35184372088832) (b : Bool) (hb : b = true ↔ ∀ i, i < kinds.length → 0 ≤ kinds.getD i 0 ∧ kinds.getD i 0 ≤ n - 1) : Ev (fun k => spec_l8Kinds.l0 k kinds 0 n u) b := by
  refine ev_dec (fun k i => spec_l8Kinds.l0 k kinds (i : Int) n u) kinds.length (fun i => 0 ≤ kinds.getD i 0 ∧ kinds.getD i 0 ≤ n - 1) (fun b => b) ?_ ?_ ?_ b hb
  · refine Ev.succ ?_
    simp only [spec_l8Kinds.l0.eq_2]
    exact Ev.neg (by omega) (Ev.now _)
  · intro i hi h x hx
    refine Ev.succ ?_
    simp only [spec_l8Kinds.l0.eq_2]
    rw [rd_getD, w64 (n := n - 1) (by omega) (by omega), w64 (by omega) (by omega)]
    exact Ev.pos (by omega) (Ev.pos (by omega) (Ev.bindc (l1In_eq _ _ _) (Ev.pos (decide_eq_true h) hx)))
  · intro i hi h
    refine Ev.succ ?_
    simp only [spec_l8Kinds.l0.eq_2]
    rw [rd_getD, w64 (n := n - 1) (by omega) (by omega)]
    exact Ev.pos (by omega) (Ev.pos (by omega) (Ev.bindc (l1In_eq _ _ _) (Ev.neg (by simpa using h) (Ev.now _))))

theorem FnExactKindsFit : laws_FnExactKindsFit.Pure := by
  intro s r tk n u kinds _ _ hl _ _ _ hlu _ _ hlk _
  have hL : tk.length ≤ 35184372088832 := by omega
  have hLu : u.length ≤ 35184372088832 := by omega
  have hLk : kinds.length ≤ 35184372088832 := by omega
  refine Ev.rounds (g := fun k => laws_FnExactKindsFit.f k s r tk n u kinds) ?_
  unfold laws_FnExactKindsFit.f
  by_cases hbig : (kinds.length : Int) > 1048576
  · exact Ev.pos hbig (Ev.now _)
  refine Ev.neg hbig (Ev.bindc (szRow_eq s r tk _ hL (by omega) (by omega)) ?_)
  by_cases hb : (1048576 : Int) - (tk.length : Int) < 0
  · rw [if_pos hb]; exact Ev.pos (by omega) (Ev.now _)
  rw [if_neg hb]
  have hs : laws_szRule.f n u (1048576 - (tk.length : Int)) = some (if (1048576 - (tk.length : Int)) - (u.length : Int) < 0 then -1 else (1048576 - (tk.length : Int)) - (u.length : Int)) := by
    unfold laws_szRule.f
    rw [szIntS_eq u _ hLu (by omega) (by omega)]
    simp only [Option.bind_some]
    by_cases h : (1048576 - (tk.length : Int)) - (u.length : Int) < 0
    · rw [if_pos h, if_pos (by omega)]
    · rw [if_neg h, if_neg h]
  refine Ev.neg hb (Ev.bindc hs ?_)
  by_cases hbu : (1048576 - (tk.length : Int)) - (u.length : Int) < 0
  · rw [if_pos hbu]; exact Ev.pos (by omega) (Ev.now _)
  rw [if_neg hbu]
  refine Ev.neg hbu ?_
  have hr : Ev (fun k => laws_toRule.f k n u) (n, u) := by
    unfold laws_toRule.f
    exact Ev.bind (f := fun _ t => some (n, t)) (toIntS_ev u hLu) (Ev.now _)
  have no1 : Ev (fun k => spec_l8Kinds.j0 k kinds true n u) false := by
    refine Ev.succ ?_
    simp only [spec_l8Kinds.j0.eq_2]
    exact Ev.pos trivial (Ev.now _)
  have no2 : Ev (fun k => impl_KindsFit.j0 k kinds true s r tk n u) (false, false) := by
    refine Ev.succ ?_
    simp only [impl_KindsFit.j0.eq_2]
    exact Ev.pos trivial (Ev.now _)
  have key : ∃ q, Ev (fun k => spec_KindsFit.f k s r tk n u kinds) q ∧ Ev (fun k => impl_KindsFit.f k s r tk n u kinds) q := by
    obtain ⟨b, hbb⟩ := exists_bool (IsRw s r tk)
    obtain ⟨c, hcc⟩ := exists_bool (IsRl n u)
    have h1 := l2Row_ev s r tk hL b hbb
    have h2 := isRow_ev s r tk hL b hbb
    have h3 := l8Rule_ev n u hLu c hcc
    have h4 := isRule_ev n u hLu c hcc
    unfold spec_KindsFit.f impl_KindsFit.f impl_isRuled.f spec_l8Kinds.f
    cases b with
    | false =>
      refine ⟨(false, false), ?_, ?_⟩
      · exact Ev.bind (Ev.bind h1 (Ev.neg (by decide) no1)) (Ev.neg (by decide) (Ev.now _))
      · exact Ev.bind (Ev.bind h2 (Ev.neg (by decide) (Ev.now _))) (Ev.neg (by decide) no2)
    | true =>
    cases c with
    | false =>
      refine ⟨(false, false), ?_, ?_⟩
      · exact Ev.bind (Ev.bind h1 (Ev.pos rfl (Ev.bind h3 (Ev.neg (by decide) no1)))) (Ev.neg (by decide) (Ev.now _))
      · exact Ev.bind (Ev.bind h2 (Ev.pos rfl (Ev.bind (f := fun _ t => some t) h4 (Ev.now _)))) (Ev.neg (by decide) no2)
    | true =>
      have hW := hbb.mp rfl
      have hU := hcc.mp rfl
      obtain ⟨S, rfl⟩ : ∃ S : Nat, s = (S : Int) := ⟨s.toNat, by have := hW.1; omega⟩
      obtain ⟨m, rfl⟩ : ∃ m : Nat, n = (m : Int) := ⟨n.toNat, by have := hU.1; omega⟩
      have hS := hW.1
      have hM := hU.1
      have hu : u.length = m * m := by have := hU.2.1; exact_mod_cast this
      have hnd := pairwise_nodup hW.2.2.2
      have hr32 : ∀ x ∈ tk, 0 ≤ x ∧ x < 32 := fun x hx => by have := hW.2.2.1 x hx; omega
      have hcnt := freeN_count S tk (by omega) hnd hW.2.2.1
      have hfl := freeN_list S tk (by omega) hr32
      have hrc := restL_count S tk hnd hW.2.2.1
      have hfr := row_free_ev S r tk (by omega) hL hW.2.2.1
      have hw1 : wrap64 ((S : Int) - (tk.length : Int)) = (S : Int) - (tk.length : Int) := w64 (by omega) (by omega)
      have hw2 : wrap64 ((m : Int) - 1) = (m : Int) - 1 := w64 (by omega) (by omega)
      rw [hw1, hw2]
      by_cases hlen : (kinds.length : Int) = (S : Int) - (tk.length : Int)
      · obtain ⟨d, hd⟩ := exists_bool (∀ x ∈ kinds, 0 ≤ x ∧ x ≤ (m : Int) - 1)
        have hd' : d = true ↔ ∀ i, i < kinds.length → 0 ≤ kinds.getD i 0 ∧ kinds.getD i 0 ≤ (m : Int) - 1 := by
          rw [hd]
          constructor
          · intro h i hi; rw [getD_lt kinds i hi]; exact h _ (List.getElem_mem hi)
          · intro h x hx
            obtain ⟨i, hi, rfl⟩ := List.mem_iff_getElem.mp hx
            have := h i hi; rwa [getD_lt kinds i hi] at this
        have ha := allWithin_ev kinds 0 ((m : Int) - 1) hLk
        have hdd : decide (∀ x ∈ kinds, 0 ≤ x ∧ x ≤ (m : Int) - 1) = d := by
          cases d with
          | true => exact decide_eq_true (hd.mp rfl)
          | false => exact decide_eq_false (fun h => absurd (hd.mpr h) (by decide))
        rw [hdd] at ha
        have hq : Ev (fun k => spec_l8Kinds.j0 k kinds ((kinds.length : Int) != (S : Int) - (tk.length : Int)) (m : Int) u) d := by
          refine Ev.succ ?_
          simp only [spec_l8Kinds.j0.eq_2]
          exact Ev.neg (by simp [hlen]) (l8Kinds_loop u kinds (m : Int) (by omega) hLk d hd')
        cases d with
        | false =>
          refine ⟨(false, false), ?_, ?_⟩
          · exact Ev.bind (Ev.bind h1 (Ev.pos rfl (Ev.bind h3 (Ev.pos rfl hq)))) (Ev.neg (by decide) (Ev.now _))
          · exact Ev.bind (Ev.bind h2 (Ev.pos rfl (Ev.bind (f := fun _ t => some t) h4 (Ev.now _)))) (Ev.pos rfl (Ev.bind hfr (Ev.bindc (count_eq (freeN S tk) (freeN_lt S tk)) (Ev.pos (by omega) (Ev.bind ha no2)))))
        | true =>
          have hkr : ∀ x ∈ kinds, 0 ≤ x ∧ x < (m : Int) := fun x hx => by have := hd.mp rfl x hx; omega
          obtain ⟨e, he⟩ := exists_bool (∀ i, i < (restL S tk).length → ∀ j, j < i → KOk (S : Int) r (restL S tk) m u kinds i j)
          obtain ⟨k1, k2⟩ := kinds_fit S r tk (restL S tk) u kinds m (by omega) (by omega) hu (fun x hx => ((restL_mem S tk x).mp hx).1) (by omega) (by omega) hkr e he
          refine ⟨(e, true), ?_, ?_⟩
          · exact Ev.bind (Ev.bind h1 (Ev.pos rfl (Ev.bind h3 (Ev.pos rfl hq)))) (Ev.pos rfl (Ev.bind (l2Free_ev S r tk (by omega) hL) k1))
          · refine Ev.bind (Ev.bind h2 (Ev.pos rfl (Ev.bind (f := fun _ t => some t) h4 (Ev.now _)))) (Ev.pos rfl (Ev.bind hfr (Ev.bindc (count_eq (freeN S tk) (freeN_lt S tk)) (Ev.pos (by omega) (Ev.bind ha (Ev.succ ?_))))))
            simp only [impl_KindsFit.j0.eq_2]
            refine Ev.neg (by decide) (Ev.bind hfr (Ev.bind (list_ev _ (freeN_lt S tk)) ?_))
            rw [hfl]; exact k2
      · have hq : Ev (fun k => spec_l8Kinds.j0 k kinds ((kinds.length : Int) != (S : Int) - (tk.length : Int)) (m : Int) u) false := by
          refine Ev.succ ?_
          simp only [spec_l8Kinds.j0.eq_2]
          exact Ev.pos (by simp [hlen]) (Ev.now _)
        refine ⟨(false, false), ?_, ?_⟩
        · exact Ev.bind (Ev.bind h1 (Ev.pos rfl (Ev.bind h3 (Ev.pos rfl hq)))) (Ev.neg (by decide) (Ev.now _))
        · exact Ev.bind (Ev.bind h2 (Ev.pos rfl (Ev.bind (f := fun _ t => some t) h4 (Ev.now _)))) (Ev.pos rfl (Ev.bind hfr (Ev.bindc (count_eq (freeN S tk) (freeN_lt S tk)) (Ev.neg (by omega) no2))))
  obtain ⟨q, h1, h2⟩ := key
  have ht := toRow_ev s r tk hL
  have hi := toIntS_ev kinds hLk
  have eqr : Ev (fun k => laws_eqRule.f k n u n u) true := by
    unfold laws_eqRule.f
    exact Ev.pos rfl (Ev.bind (eqIntS_ev u hLu) (Ev.pos rfl (Ev.now _)))
  refine Ev.bind ht (Ev.bind hr (Ev.bind hi (Ev.bind h1 (Ev.bind ht (Ev.bind hr (Ev.bind hi (Ev.bind h2 (Ev.neg (by simp) (Ev.succ ?_)))))))))
  simp only [laws_FnExactKindsFit.j0.eq_2]
  exact Ev.neg (by simp) (Ev.bind ht (Ev.bind (eqRow_ev s r tk hL) (Ev.pos rfl (Ev.bind hr (Ev.bind eqr (Ev.pos rfl (Ev.bind hi (Ev.bind (eqIntS_ev kinds hLk) (Ev.pos rfl (Ev.now _))))))))))

end Go.Proofs.YtfdgadfapmhgbaaDoor.Pure
