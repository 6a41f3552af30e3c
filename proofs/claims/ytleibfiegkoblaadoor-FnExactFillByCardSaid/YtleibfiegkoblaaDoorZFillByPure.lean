/- FillBy seats the people of an order one after another, each only if no neighbor is taken. -/
import Derived.Test.YtleibfiegkoblaaDoorZFillByPx10
namespace Go.Proofs.YtleibfiegkoblaaDoor.Pure
open Go.RowKit Go.Proofs.YtleibfiegkoblaaDoor.PFnExactFillBy Go.Proofs.YtleibfiegkoblaaDoorW.PrintWords Go.Proofs.YtleibfiegkoblaaDoorW.PrintLast Go.Proofs.YtleibfiegkoblaaDoorW.PrintMore
set_option linter.unusedVariables false

theorem Ev.pos {α : Type} {c : Prop} [Decidable c] {f g : Nat → Option α} {r : α} (h : c) (k : Ev f r) : Ev (fun m => if c then f m else g m) r :=
  Ev.congr (fun _ => if_pos h) k
theorem Ev.neg {α : Type} {c : Prop} [Decidable c] {f g : Nat → Option α} {r : α} (h : ¬ c) (k : Ev g r) : Ev (fun m => if c then f m else g m) r :=
  Ev.congr (fun _ => if_neg h) k
theorem Ev.bindc {α β : Type} {x : Option α} {f : Nat → α → Option β} {a : α} {r : β} (h : x = some a) (k : Ev (fun n => f n a) r) : Ev (fun n => x.bind (f n)) r := by
  subst h; exact k
theorem Ev.succ {α : Type} {g : Nat → Option α} {r : α} (k : Ev (fun n => g (n + 1)) r) : Ev g r := Ev.step (fun _ => rfl) k
theorem w64 {n : Int} (h0 : -9223372036854775808 ≤ n) (h1 : n < 9223372036854775808) : wrap64 n = n := by unfold wrap64; omega
theorem rd_nat (l : List Int) (i : Nat) (h : i < l.length) : rd l (i : Int) = l[i] := by
  unfold rd; rw [Int.toNat_natCast, List.getD_eq_getElem?_getD, List.getElem?_eq_getElem h]; rfl
/-- a loop that ends early, with one answer, where P fails -/
theorem ev_all {α : Type} (L : Nat → Nat → Option α) (n : Nat) (P : Nat → Prop) (rEnd : α)
    (hend : Ev (fun k => L k n) rEnd) (hgood : ∀ i, i < n → P i → ∀ r, Ev (fun k => L k (i + 1)) r → Ev (fun k => L k i) r)
    (i : Nat) (hi : i ≤ n) (h : ∀ j, i ≤ j → j < n → P j) : Ev (fun k => L k i) rEnd := by
  obtain ⟨d, hd⟩ : ∃ d, i + d = n := ⟨n - i, by omega⟩
  induction d generalizing i with
  | zero => rw [show i = n by omega]; exact hend
  | succ d ih => exact hgood i (by omega) (h i (by omega) (by omega)) _ (ih (i + 1) (by omega) (fun j h1 h2 => h j (by omega) h2) (by omega))
theorem ev_bad {α : Type} (L : Nat → Nat → Option α) (n : Nat) (P : Nat → Prop) (rBad : α)
    (hgood : ∀ i, i < n → P i → ∀ r, Ev (fun k => L k (i + 1)) r → Ev (fun k => L k i) r) (hbad : ∀ i, i < n → ¬ P i → Ev (fun k => L k i) rBad)
    (i : Nat) (h : ∃ j, i ≤ j ∧ j < n ∧ ¬ P j) : Ev (fun k => L k i) rBad := by
  obtain ⟨j, h1, h2, h3⟩ := h
  obtain ⟨d, hd⟩ : ∃ d, i + d = j := ⟨j - i, by omega⟩
  induction d generalizing i with
  | zero => rw [show i = j by omega]; exact hbad j h2 h3
  | succ d ih =>
    by_cases hp : P i
    · exact hgood i (by omega) hp _ (ih (i + 1) (by omega) (by omega))
    · exact hbad i (by omega) hp
theorem ev_dec {α : Type} (L : Nat → Nat → Option α) (n : Nat) (P : Nat → Prop) [DecidablePred P] (f : Bool → α)
    (hend : Ev (fun k => L k n) (f true)) (hgood : ∀ i, i < n → P i → ∀ r, Ev (fun k => L k (i + 1)) r → Ev (fun k => L k i) r)
    (hbad : ∀ i, i < n → ¬ P i → Ev (fun k => L k i) (f false)) (b : Bool) (hb : b = true ↔ ∀ j, j < n → P j) : Ev (fun k => L k 0) (f b) := by
  cases b with
  | true => exact ev_all L n P (f true) hend hgood 0 (by omega) (fun j _ h => hb.mp rfl j h)
  | false =>
    refine ev_bad L n P (f false) hgood hbad 0 ?_
    by_cases h : ∀ j, j < n → P j
    · exact absurd (hb.mpr h) (by decide)
    · have : ∃ j, ¬ (j < n → P j) := Classical.not_forall.mp h
      obtain ⟨j, hj⟩ := this
      exact ⟨j, by omega, Decidable.byContradiction (fun c => hj (fun h2 => absurd h2 c)), fun c => hj (fun _ => c)⟩
/-- a loop with a state -/
def iterFrom {σ : Type} (g : Nat → σ → σ) : Nat → Nat → σ → σ
  | 0, _, s => s
  | d + 1, i, s => iterFrom g d (i + 1) (g i s)
theorem ev_iter {σ α : Type} (L : Nat → σ → Nat → Option α) (n : Nat) (g : Nat → σ → σ) (fin : σ → α) (I : Nat → σ → Prop)
    (hend : ∀ s, I n s → Ev (fun k => L k s n) (fin s)) (hI : ∀ i s, i < n → I i s → I (i + 1) (g i s))
    (hstep : ∀ i s, i < n → I i s → ∀ r, Ev (fun k => L k (g i s) (i + 1)) r → Ev (fun k => L k s i) r) :
    ∀ (d i : Nat) (s : σ), i + d = n → I i s → Ev (fun k => L k s i) (fin (iterFrom g d i s)) := by
  intro d
  induction d with
  | zero => intro i s hi hs; rw [show i = n by omega] at hs ⊢; exact hend s hs
  | succ d ih => intro i s hi hs; exact hstep i s (by omega) hs _ (ih (i + 1) (g i s) (by omega) (hI i s (by omega) hs))
theorem toIntS_loop (l : List Int) (hl : l.length ≤ 35184372088832) : ∀ (d i : Nat) (acc : List Int), i + d = l.length → acc.length = l.length → (∀ j, j < i → acc[j]? = l[j]?) → Ev (fun k => laws_toIntS.l0 k l acc (i : Int)) l := by
  intro d
  induction d with
  | zero =>
    intro i acc hi ha hj
    refine Ev.succ ?_
    simp only [laws_toIntS.l0.eq_2]
    refine Ev.neg (by omega) ?_
    have : acc = l := List.ext_getElem? (fun j => by
      by_cases h : j < i
      · exact hj j h
      · rw [List.getElem?_eq_none (by omega), List.getElem?_eq_none (by omega)])
    rw [this]; exact Ev.now _
  | succ d ih =>
    intro i acc hi ha hj
    refine Ev.succ ?_
    simp only [laws_toIntS.l0.eq_2]
    refine Ev.pos (by omega) (Ev.pos (by omega) (Ev.pos (by omega) ?_))
    rw [w64 (by omega) (by omega)]
    refine ih (i + 1) _ (by omega) (by simpa using ha) ?_
    intro j h
    rw [Int.toNat_natCast, List.getElem?_set]
    by_cases e : i = j
    · subst e
      rw [if_pos rfl, if_pos (by omega), rd_nat l i (by omega), List.getElem?_eq_getElem]
    · rw [if_neg e]; exact hj j (by omega)
theorem toIntS_ev (l : List Int) (hl : l.length ≤ 35184372088832) : Ev (fun k => laws_toIntS.f k l) l := by
  unfold laws_toIntS.f
  refine Ev.pos (by omega) (Ev.pos (by omega) ?_)
  exact toIntS_loop l hl l.length 0 _ (by omega) (by simp) (fun j h => by omega)
theorem eqIntS_loop (l : List Int) (hl : l.length ≤ 35184372088832) : ∀ (d i : Nat), i + d = l.length → Ev (fun k => laws_eqIntS.l0 k l l (i : Int)) true := by
  intro d
  induction d with
  | zero =>
    intro i hi
    refine Ev.succ ?_
    simp only [laws_eqIntS.l0.eq_2]
    exact Ev.neg (by omega) (Ev.now _)
  | succ d ih =>
    intro i hi
    refine Ev.succ ?_
    simp only [laws_eqIntS.l0.eq_2]
    refine Ev.pos (by omega) (Ev.pos (by omega) (Ev.pos (by omega) (Ev.pos (by trivial) ?_)))
    rw [w64 (by omega) (by omega)]
    exact ih (i + 1) (by omega)
theorem eqIntS_ev (l : List Int) (hl : l.length ≤ 35184372088832) : Ev (fun k => laws_eqIntS.f k l l) true := by
  unfold laws_eqIntS.f
  exact Ev.pos rfl (eqIntS_loop l hl l.length 0 (by omega))
theorem within_eq (a b c : Int) : impl_within.f a b c = some (decide (b ≤ a ∧ a ≤ c)) := by
  unfold impl_within.f
  by_cases h : a ≥ b
  · rw [if_pos h]; simp [show b ≤ a from h]
  · rw [if_neg h]; simp [show ¬ b ≤ a from h]
theorem l1In_eq (a b c : Int) : spec_l1In.f a b c = some (decide (b ≤ a ∧ a ≤ c)) := by
  unfold spec_l1In.f
  by_cases h : a ≥ b
  · rw [if_pos h]; simp [show b ≤ a from h]
  · rw [if_neg h]; simp [show ¬ b ≤ a from h]
theorem allWithin_loop (l : List Int) (lo hi : Int) (hl : l.length ≤ 35184372088832) : ∀ (d i : Nat), i + d = l.length → Ev (fun k => impl_allWithin.l0 k lo hi l (l.length : Int) (i : Int)) (decide (∀ x ∈ l.drop i, lo ≤ x ∧ x ≤ hi)) := by
  intro d
  induction d with
  | zero =>
    intro i hi
    refine Ev.succ ?_
    simp only [impl_allWithin.l0.eq_2]
    rw [List.drop_of_length_le (by omega)]
    exact Ev.neg (by omega) (by simp; exact Ev.now _)
  | succ d ih =>
    intro i hi'
    refine Ev.succ ?_
    simp only [impl_allWithin.l0.eq_2]
    refine Ev.pos (by omega) (Ev.pos (by omega) (Ev.pos (by omega) (Ev.bindc (within_eq _ _ _) ?_)))
    have hd : l.drop i = l[i] :: l.drop (i + 1) := (List.drop_eq_getElem_cons (by omega))
    rw [rd_nat l i (by omega)]
    by_cases e : lo ≤ l[i] ∧ l[i] ≤ hi
    · refine Ev.pos (decide_eq_true e) ?_
      rw [w64 (by omega) (by omega)]
      have e1 : (∀ x ∈ l.drop i, lo ≤ x ∧ x ≤ hi) ↔ (∀ x ∈ l.drop (i + 1), lo ≤ x ∧ x ≤ hi) := by rw [hd]; simp only [List.mem_cons, forall_eq_or_imp, e, true_and]
      rw [decide_eq_decide.mpr e1]
      exact ih (i + 1) (by omega)
    · rw [show decide (∀ x ∈ l.drop i, lo ≤ x ∧ x ≤ hi) = false by rw [hd]; simp only [List.mem_cons, forall_eq_or_imp, decide_eq_false_iff_not]; exact fun h => e h.1]
      exact Ev.neg (by simpa using e) (Ev.now _)
theorem allWithin_ev (l : List Int) (lo hi : Int) (hl : l.length ≤ 35184372088832) : Ev (fun k => impl_allWithin.f k l lo hi) (decide (∀ x ∈ l, lo ≤ x ∧ x ≤ hi)) := allWithin_loop l lo hi hl l.length 0 (by omega)
theorem has_loop (l : List Int) (x : Int) (hl : l.length ≤ 35184372088832) : ∀ (d i : Nat), i + d = l.length → Ev (fun k => spec_l1Has.l0 k l x (i : Int)) (decide (x ∈ l.drop i)) := by
  intro d
  induction d with
  | zero =>
    intro i hi
    refine Ev.succ ?_
    simp only [spec_l1Has.l0.eq_2]
    rw [List.drop_of_length_le (by omega)]
    exact Ev.neg (by omega) (Ev.now _)
  | succ d ih =>
    intro i hi
    refine Ev.succ ?_
    simp only [spec_l1Has.l0.eq_2]
    refine Ev.pos (by omega) (Ev.pos (by omega) ?_)
    have hd : l.drop i = l[i] :: l.drop (i + 1) := (List.drop_eq_getElem_cons (by omega))
    rw [rd_nat l i (by omega)]
    by_cases e : l[i] = x
    · rw [show decide (x ∈ l.drop i) = true by rw [hd]; simp [e]]
      exact Ev.pos e (Ev.now _)
    · refine Ev.neg e ?_
      rw [w64 (by omega) (by omega)]
      have := ih (i + 1) (by omega)
      rw [show decide (x ∈ l.drop i) = decide (x ∈ l.drop (i + 1)) by rw [hd]; simp only [List.mem_cons, Ne.symm e, false_or]]
      exact this
theorem has_ev (l : List Int) (x : Int) (hl : l.length ≤ 35184372088832) : Ev (fun k => spec_l1Has.f k l x) (decide (x ∈ l)) := has_loop l x hl l.length 0 (by omega)
theorem szIntS_eq (l : List Int) (a : Int) (hl : l.length ≤ 35184372088832) (h0 : 0 ≤ a) (h1 : a ≤ 1048576) : laws_szIntS.f l a = some (if a - (l.length : Int) < 0 then -1 else a - (l.length : Int)) := by
  unfold laws_szIntS.f
  rw [w64 (by omega) (by omega)]
  split <;> rfl
def pc : Nat → Nat → Nat
  | 0, _ => 0
  | k + 1, n => n % 2 + pc k (n / 2)
theorem pc_add (a b n : Nat) : pc (a + b) n = pc a n + pc b (n / 2 ^ a) := by
  induction a generalizing n with
  | zero => simp [pc]
  | succ a ih =>
    rw [show a + 1 + b = (a + b) + 1 by omega]
    simp only [pc]
    rw [ih, Nat.div_div_eq_div_mul, Nat.pow_succ, Nat.mul_comm 2 (2 ^ a)]
    omega
theorem pc_mod (k n : Nat) : pc k (n % 2 ^ k) = pc k n := by
  induction k generalizing n with
  | zero => rfl
  | succ k ih =>
    simp only [pc]
    rw [show n % 2 ^ (k + 1) % 2 = n % 2 by rw [Nat.pow_succ]; exact Nat.mod_mul_left_mod n (2 ^ k) 2]
    rw [show n % 2 ^ (k + 1) / 2 = (n / 2) % 2 ^ k by rw [Nat.pow_succ, Nat.mul_comm]; exact Nat.mod_mul_right_div_self n 2 (2 ^ k)]
    rw [ih]
theorem pc_le (k n : Nat) : pc k n ≤ k := by
  induction k generalizing n with
  | zero => exact Nat.le_refl _
  | succ k ih => have := ih (n / 2); simp only [pc]; omega
theorem u32_nat (a b : Nat) (ha : a < 4294967296) (hb : b < 4294967296) : Go.bits .and .u32 (a : Int) (b : Int) = ((a &&& b : Nat) : Int) ∧ Go.bits .or .u32 (a : Int) (b : Int) = ((a ||| b : Nat) : Int) :=
  bits_nat .u32 32 (by decide) (fun n h0 h1 => by rw [IntKind.wrap_u32]; omega) a b (by omega) (by omega)
theorem pc_count (k n : Nat) : pc k n = (List.range k).countP (fun i => n.testBit i) := by
  induction k generalizing n with
  | zero => rfl
  | succ k ih =>
    rw [List.range_succ_eq_map, List.countP_cons, List.countP_map]
    simp only [pc]
    rw [ih, Nat.add_comm]
    congr 1
    · apply List.countP_congr
      intro i _
      simp [Nat.testBit_succ]
    · rw [Nat.testBit_zero]
      by_cases h : n % 2 = 1
      · simp [h]
      · have : n % 2 = 0 := by omega
        simp [this]
def onesTab : ByteArray := ⟨#[0, 1, 1, 2, 1, 2, 2, 3, 1, 2, 2, 3, 2, 3, 3, 4, 1, 2, 2, 3, 2, 3, 3, 4, 2, 3, 3, 4, 3, 4, 4, 5, 1, 2, 2, 3, 2, 3, 3, 4, 2, 3, 3, 4, 3, 4, 4, 5, 2, 3, 3, 4, 3, 4, 4, 5, 3, 4, 4, 5, 4, 5, 5, 6, 1, 2, 2, 3, 2, 3, 3, 4, 2, 3, 3, 4, 3, 4, 4, 5, 2, 3, 3, 4, 3, 4, 4, 5, 3, 4, 4, 5, 4, 5, 5, 6, 2, 3, 3, 4, 3, 4, 4, 5, 3, 4, 4, 5, 4, 5, 5, 6, 3, 4, 4, 5, 4, 5, 5, 6, 4, 5, 5, 6, 5, 6, 6, 7, 1, 2, 2, 3, 2, 3, 3, 4, 2, 3, 3, 4, 3, 4, 4, 5, 2, 3, 3, 4, 3, 4, 4, 5, 3, 4, 4, 5, 4, 5, 5, 6, 2, 3, 3, 4, 3, 4, 4, 5, 3, 4, 4, 5, 4, 5, 5, 6, 3, 4, 4, 5, 4, 5, 5, 6, 4, 5, 5, 6, 5, 6, 6, 7, 2, 3, 3, 4, 3, 4, 4, 5, 3, 4, 4, 5, 4, 5, 5, 6, 3, 4, 4, 5, 4, 5, 5, 6, 4, 5, 5, 6, 5, 6, 6, 7, 3, 4, 4, 5, 4, 5, 5, 6, 4, 5, 5, 6, 5, 6, 6, 7, 4, 5, 5, 6, 5, 6, 6, 7, 5, 6, 6, 7, 6, 7, 7, 8]⟩
theorem onesTab_pc : ∀ i : Fin 256, bt onesTab ((i.val : Nat) : Int) = ((pc 8 i.val : Nat) : Int) := by decide +kernel
theorem onesTab_at (n : Nat) (h : n < 256) : bt onesTab (n : Int) = ((pc 8 n : Nat) : Int) := onesTab_pc ⟨n, h⟩
theorem u32_byte (n : Nat) (h : n < 4294967296) : Go.bits .and .u32 (n : Int) 255 = ((n % 256 : Nat) : Int) := by
  have := (u32_nat n 255 h (by omega)).1
  rw [show ((255 : Nat) : Int) = 255 from rfl] at this
  rw [this, show 255 = 2 ^ 8 - 1 from rfl, Nat.and_two_pow_sub_one_eq_mod]
theorem ones_tab (a0 : Int) : bits_OnesCount32.f a0 = if 0 ≤ (a0 / 16777216) then (if (a0 / 16777216) < 256 then (if 0 ≤ (Go.bits .and .u32 (a0 / 65536) 255) then (if (Go.bits .and .u32 (a0 / 65536) 255) < 256 then (if 0 ≤ (Go.bits .and .u32 (a0 / 256) 255) then (if (Go.bits .and .u32 (a0 / 256) 255) < 256 then (if 0 ≤ (Go.bits .and .u32 a0 255) then (if (Go.bits .and .u32 a0 255) < 256 then (some ((((((bt onesTab (a0 / 16777216)) + (bt onesTab (Go.bits .and .u32 (a0 / 65536) 255))) % 256) + (bt onesTab (Go.bits .and .u32 (a0 / 256) 255))) % 256 + (bt onesTab (Go.bits .and .u32 a0 255))) % 256)) else (none)) else (none)) else (none)) else (none)) else (none)) else (none)) else (none)) else (none) := rfl
theorem ones_eq (n : Nat) (h : n < 4294967296) : bits_OnesCount32.f (n : Int) = some ((pc 32 n : Nat) : Int) := by
  have e1 : (n : Int) / 16777216 = ((n / 16777216 : Nat) : Int) := by omega
  have e2 : (n : Int) / 65536 = ((n / 65536 : Nat) : Int) := by omega
  have e3 : (n : Int) / 256 = ((n / 256 : Nat) : Int) := by omega
  rw [ones_tab, e1, e2, e3, u32_byte _ (by omega), u32_byte _ (by omega), u32_byte _ (by omega)]
  rw [onesTab_at _ (by omega), onesTab_at _ (by omega), onesTab_at _ (by omega), onesTab_at _ (by omega)]
  rw [if_pos (Int.natCast_nonneg _), if_pos (by omega), if_pos (Int.natCast_nonneg _), if_pos (by omega), if_pos (Int.natCast_nonneg _), if_pos (by omega), if_pos (Int.natCast_nonneg _), if_pos (by omega)]
  have p4 : pc 32 n = pc 8 (n % 256) + pc 8 (n / 256 % 256) + pc 8 (n / 65536 % 256) + pc 8 (n / 16777216) := by
    have a0 : pc 32 n = pc 8 n + (pc 8 (n / 256) + (pc 8 (n / 256 / 256) + pc 8 (n / 256 / 256 / 256))) := by
      rw [show pc 32 n = pc (8 + (8 + (8 + 8))) n from rfl, pc_add, pc_add, pc_add]
    have a1 : pc 8 (n % 256) = pc 8 n := pc_mod 8 n
    have a2 : pc 8 (n / 256 % 256) = pc 8 (n / 256) := pc_mod 8 (n / 256)
    have a3 : pc 8 (n / 65536 % 256) = pc 8 (n / 65536) := pc_mod 8 (n / 65536)
    rw [show n / 256 / 256 / 256 = n / 16777216 by omega, show n / 256 / 256 = n / 65536 by omega] at a0
    rw [a0, a1, a2, a3]; omega
  rw [p4]
  have b1 := pc_le 8 (n % 256)
  have b2 := pc_le 8 (n / 256 % 256)
  have b3 := pc_le 8 (n / 65536 % 256)
  have b4 := pc_le 8 (n / 16777216)
  refine congrArg some ?_
  generalize pc 8 (n % 256) = c1 at *
  generalize pc 8 (n / 256 % 256) = c2 at *
  generalize pc 8 (n / 65536 % 256) = c3 at *
  generalize h4 : pc 8 (n / 16777216) = c4 at *
  have : n / 16777216 % 256 = n / 16777216 := by omega
  omega
/-- the set of some seats -/
def setN (l : List Int) : Nat := l.foldl (fun s p => s ||| 2 ^ p.toNat) 0
theorem foldl_or_bit (l : List Int) (s j : Nat) : (l.foldl (fun s p => s ||| 2 ^ p.toNat) s).testBit j = (s.testBit j || decide (∃ p ∈ l, p.toNat = j)) := by
  induction l generalizing s with
  | nil => simp
  | cons p l ih =>
    rw [List.foldl_cons, ih, Nat.testBit_or, Nat.testBit_two_pow]
    simp only [List.mem_cons, exists_eq_or_imp, Bool.decide_or, Bool.or_assoc]
theorem setN_bit (l : List Int) (j : Nat) : (setN l).testBit j = decide (∃ p ∈ l, p.toNat = j) := by
  unfold setN; rw [foldl_or_bit]; simp
theorem setN_lt (l : List Int) (h : ∀ x ∈ l, 0 ≤ x ∧ x < 32) : setN l < 4294967296 := by
  refine Nat.lt_pow_two_of_testBit (n := 32) _ (fun j hj => ?_)
  rw [setN_bit]
  simp only [decide_eq_false_iff_not, not_exists, not_and]
  intro x hx e
  have := h x hx
  omega
theorem setN_take (l : List Int) (i : Nat) (h : i < l.length) : setN (l.take (i + 1)) = setN (l.take i) ||| 2 ^ (l[i]).toNat := by
  unfold setN
  rw [List.take_succ_eq_append_getElem h, List.foldl_append]
  rfl
theorem two_pow_lt32 (p : Int) (h0 : 0 ≤ p) (h1 : p < 32) : 2 ^ p.toNat < 4294967296 := Nat.pow_lt_pow_right (m := p.toNat) (n := 32) (by decide) (by omega)
theorem shl_u32_one (p : Int) (h0 : 0 ≤ p) (h1 : p < 32) : shl .u32 1 p = ((2 ^ p.toNat : Nat) : Int) := by
  unfold shl
  rw [Nat.min_eq_left (by simp [IntKind.bits]; omega), IntKind.wrap_u32]
  have e : (1 * 2 ^ p.toNat : Int) = ((2 ^ p.toNat : Nat) : Int) := by rw [Int.one_mul]; push_cast; rfl
  rw [e]; exact Int.emod_eq_of_lt (Int.natCast_nonneg _) (Int.ofNat_lt.mpr (two_pow_lt32 p h0 h1))
theorem setOf_loop (l : List Int) (h : ∀ x ∈ l, 0 ≤ x ∧ x < 32) (hl : l.length ≤ 35184372088832) : ∀ (d i : Nat), i + d = l.length → Ev (fun k => impl_setOf.l0 k (setN (l.take i) : Int) l (l.length : Int) (i : Int)) (setN l : Int) := by
  intro d
  induction d with
  | zero =>
    intro i hi
    refine Ev.succ ?_
    simp only [impl_setOf.l0.eq_2]
    rw [List.take_of_length_le (by omega)]
    exact Ev.neg (by omega) (Ev.now _)
  | succ d ih =>
    intro i hi
    refine Ev.succ ?_
    simp only [impl_setOf.l0.eq_2]
    have hx := h (l[i]) (List.getElem_mem (by omega))
    rw [rd_nat l i (by omega)]
    refine Ev.pos (by omega) (Ev.pos (by omega) (Ev.pos (by omega) (Ev.pos hx.1 ?_)))
    rw [w64 (by omega) (by omega), shl_u32_one _ hx.1 hx.2]
    rw [(u32_nat _ _ (setN_lt _ (fun x hx => h x (List.mem_of_mem_take hx))) (two_pow_lt32 _ hx.1 hx.2)).2, ← setN_take l i (by omega)]
    exact ih (i + 1) (by omega)
theorem setOf_ev (l : List Int) (h : ∀ x ∈ l, 0 ≤ x ∧ x < 32) (hl : l.length ≤ 35184372088832) : Ev (fun k => impl_setOf.f k l) (setN l : Int) := setOf_loop l h hl l.length 0 (by omega)
theorem count_eq (n : Nat) (h : n < 4294967296) : impl_set_count.f (n : Int) = some ((pc 32 n : Nat) : Int) := by
  unfold impl_set_count.f; rw [ones_eq n h]; rfl
/-- a list that has each number less than n once -/
def IsOrd (l : List Int) (n : Int) : Prop := (l.length : Int) = n ∧ ∀ i : Nat, (i : Int) < n → (i : Int) ∈ l
theorem ph_range : ∀ (n : Nat) (l : List Int), l.length = n → (∀ i : Nat, i < n → (i : Int) ∈ l) → ∀ x ∈ l, 0 ≤ x ∧ x < (n : Int) := by
  intro n
  induction n with
  | zero => intro l hl _ x hx; rw [List.length_eq_zero_iff.mp hl] at hx; cases hx
  | succ n ih =>
    intro l hl h x hx
    have hm := h n (by omega)
    by_cases e : x = (n : Int)
    · omega
    · have := ih (l.erase (n : Int)) (by rw [List.length_erase_of_mem hm]; omega) (fun i hi => (List.mem_erase_of_ne (by omega)).mpr (h i (by omega))) x ((List.mem_erase_of_ne e).mpr hx)
      omega
theorem ph_nodup_len : ∀ (m : Nat) (l : List Int), l.Nodup → (∀ x ∈ l, 0 ≤ x ∧ x < (m : Int)) → l.length ≤ m := by
  intro m
  induction m with
  | zero =>
    intro l _ h
    cases l with
    | nil => simp
    | cons x l => have := h x (by simp); omega
  | succ m ih =>
    intro l hn h
    by_cases hm : (m : Int) ∈ l
    · have := ih (l.erase (m : Int)) (hn.erase _) (fun x hx => by
        have h1 := h x (List.mem_of_mem_erase hx)
        have h2 : x ≠ (m : Int) := fun e => by subst e; exact (List.Nodup.not_mem_erase hn) hx
        omega)
      rw [List.length_erase_of_mem hm] at this
      omega
    · have := ih l hn (fun x hx => by
        have h1 := h x hx
        have h2 : x ≠ (m : Int) := fun e => by subst e; exact hm hx
        omega)
      omega
theorem ord_range {l : List Int} {n : Int} (h : IsOrd l n) : ∀ x ∈ l, 0 ≤ x ∧ x < n := by
  obtain ⟨h1, h2⟩ := h
  have := ph_range l.length l rfl (fun i hi => h2 i (by omega))
  intro x hx; have := this x hx; omega
instance (l : List Int) (n : Int) : Decidable (IsOrd l n) := decidable_of_iff ((l.length : Int) = n ∧ ∀ i : Fin l.length, (i.val : Int) ∈ l) (by
  unfold IsOrd
  constructor
  · rintro ⟨h1, h2⟩; exact ⟨h1, fun i hi => h2 ⟨i, by omega⟩⟩
  · rintro ⟨h1, h2⟩; exact ⟨h1, fun i => h2 i.val (by have := i.isLt; omega)⟩)
theorem l4Order_loop (l : List Int) (n : Int) (hn0 : 0 ≤ n) (hn : n ≤ 1000) (hl : l.length ≤ 35184372088832) : ∀ (d i : Nat), (i : Int) + d = n → (∀ j : Nat, j < i → (j : Int) ∈ l) → Ev (fun k => spec_l4Order.l0 k l n (i : Int)) (decide (IsOrd l n)) := by
  intro d
  induction d with
  | zero =>
    intro i hi hj
    refine Ev.succ ?_
    simp only [spec_l4Order.l0.eq_2]
    rw [show decide (IsOrd l n) = ((l.length : Int) == n) by
      rw [Bool.eq_iff_iff]; simp only [beq_iff_eq, decide_eq_true_eq]
      exact ⟨fun h => h.1, fun h => ⟨h, fun j h => hj j (by omega)⟩⟩]
    exact Ev.neg (by omega) (Ev.now _)
  | succ d ih =>
    intro i hi hj
    refine Ev.succ ?_
    simp only [spec_l4Order.l0.eq_2]
    refine Ev.pos (by omega) (Ev.bind (has_ev l i hl) ?_)
    by_cases hm : (i : Int) ∈ l
    · refine Ev.pos (decide_eq_true hm) ?_
      rw [w64 (by omega) (by omega)]
      refine ih (i + 1) (by omega) ?_
      intro j hj'
      by_cases e : j = i
      · rw [e]; exact hm
      · exact hj j (by omega)
    · refine Ev.neg (by simpa using hm) ?_
      rw [show decide (IsOrd l n) = false by
        simp only [decide_eq_false_iff_not]
        intro h; exact hm (h.2 i (by omega))]
      exact Ev.now _
theorem l4Order_ev (l : List Int) (n : Int) (hn0 : 0 ≤ n) (hn : n ≤ 1000) (hl : l.length ≤ 35184372088832) : Ev (fun k => spec_l4Order.f k l n) (decide (IsOrd l n)) :=
  l4Order_loop l n hn0 hn hl n.toNat 0 (by omega) (fun j h => by omega)
theorem pc_full (n : Nat) (hn : n ≤ 32) (l : List Int) (hr : ∀ x ∈ l, 0 ≤ x ∧ x < (n : Int)) : pc 32 (setN l) = n ↔ ∀ i : Nat, i < n → (i : Int) ∈ l := by
  have e : pc 32 (setN l) = (List.range n).countP (fun i : Nat => decide ((i : Int) ∈ l)) := by
    rw [pc_count]
    have h1 : (List.range 32).countP (fun i => (setN l).testBit i) = (List.range 32).countP (fun i : Nat => decide ((i : Int) ∈ l)) := by
      apply List.countP_congr
      intro i _
      rw [setN_bit]
      simp only [decide_eq_true_eq]
      constructor
      · rintro ⟨p, hp, e⟩; have := hr p hp; rw [show (i : Int) = p by omega]; exact hp
      · intro h; exact ⟨_, h, by omega⟩
    rw [h1, show 32 = n + (32 - n) by omega, List.range_add, List.countP_append, List.countP_map]
    rw [show List.countP ((fun i : Nat => decide ((i : Int) ∈ l)) ∘ fun x => n + x) (List.range (32 - n)) = 0 by
      rw [List.countP_eq_zero]
      intro i _
      simp only [Function.comp, decide_eq_true_eq]
      intro h
      have := hr _ h
      omega]
    rfl
  rw [e]
  constructor
  · intro h i hi
    have h2 := (List.countP_eq_length (p := fun i : Nat => decide ((i : Int) ∈ l)) (l := List.range n)).mp (by rw [h, List.length_range])
    have := h2 i (List.mem_range.mpr hi)
    simpa using this
  · intro h
    rw [(List.countP_eq_length (p := fun i : Nat => decide ((i : Int) ∈ l)) (l := List.range n)).mpr (fun i hi => by simpa using h i (List.mem_range.mp hi)), List.length_range]
theorem isOrder_ev (l : List Int) (n : Int) (h0 : 0 ≤ n) (h1 : n ≤ 32) (hl : l.length ≤ 35184372088832) : Ev (fun k => impl_isOrder.f k l n) (decide (IsOrd l n)) := by
  unfold impl_isOrder.f
  by_cases hn : (l.length : Int) = n
  · refine Ev.pos hn (Ev.bind (allWithin_ev l 0 _ hl) ?_)
    rw [w64 (by omega) (by omega)]
    by_cases hw : ∀ x ∈ l, 0 ≤ x ∧ x ≤ n - 1
    · refine Ev.pos (decide_eq_true hw) ?_
      have hw32 : ∀ x ∈ l, 0 ≤ x ∧ x < 32 := fun x hx => by have := hw x hx; omega
      refine Ev.bind (setOf_ev l hw32 hl) (Ev.bindc (count_eq _ (setN_lt l hw32)) ?_)
      have hp := pc_full n.toNat (by omega) l (fun x hx => by have := hw x hx; omega)
      rw [show ((((pc 32 (setN l) : Nat) : Int) == n)) = decide (IsOrd l n) by
        rw [Bool.eq_iff_iff]
        simp only [beq_iff_eq, decide_eq_true_eq]
        unfold IsOrd
        constructor
        · intro h; exact ⟨hn, fun i hi => hp.mp (by omega) i (by omega)⟩
        · rintro ⟨_, h⟩; have := hp.mpr (fun i hi => h i (by omega)); omega]
      exact Ev.now _
    · refine Ev.neg (by simpa using hw) ?_
      rw [show decide (IsOrd l n) = false by
        simp only [decide_eq_false_iff_not]
        intro h; exact hw (fun x hx => by have := ord_range h x hx; omega)]
      exact Ev.now _
  · refine Ev.neg hn ?_
    rw [show decide (IsOrd l n) = false by simp only [decide_eq_false_iff_not]; intro h; exact hn h.1]
    exact Ev.now _
theorem getD_lt (l : List Int) (i : Nat) (h : i < l.length) : l.getD i 0 = l[i] := by rw [List.getD_eq_getElem?_getD, List.getElem?_eq_getElem h]; rfl
theorem rd_getD (l : List Int) (i : Nat) : rd l (i : Int) = l.getD i 0 := by unfold rd; rw [Int.toNat_natCast]
theorem exists_bool (p : Prop) : ∃ b : Bool, b = true ↔ p := by
  by_cases h : p
  · exact ⟨true, by simp [h]⟩
  · exact ⟨false, by simp [h]⟩
/-- a valid row -/
def IsRw (s : Int) (r : Bool) (l : List Int) : Prop := (2 ≤ s ∧ s ≤ 24) ∧ (r = true → 3 ≤ s) ∧ (∀ x ∈ l, 0 ≤ x ∧ x < s) ∧ l.Pairwise (· < ·)
def rwP (l : List Int) (hi : Int) (i : Nat) : Prop := (0 ≤ l.getD i 0 ∧ l.getD i 0 ≤ hi) ∧ (0 < i → l.getD (i - 1) 0 < l.getD i 0)
instance (l : List Int) (hi : Int) (i : Nat) : Decidable (rwP l hi i) := by unfold rwP; infer_instance
theorem rwP_all (l : List Int) (hi : Int) : (∀ i, i < l.length → rwP l hi i) ↔ (∀ x ∈ l, 0 ≤ x ∧ x ≤ hi) ∧ l.Pairwise (· < ·) := by
  constructor
  · intro h
    refine ⟨fun x hx => ?_, ?_⟩
    · obtain ⟨i, hi', rfl⟩ := List.mem_iff_getElem.mp hx
      have := (h i hi').1
      rw [getD_lt l i hi'] at this
      exact this
    · rw [List.pairwise_iff_getElem]
      intro i j hi' hj hij
      obtain ⟨d, hd⟩ : ∃ d, i + 1 + d = j := ⟨j - i - 1, by omega⟩
      induction d generalizing j with
      | zero =>
        have := (h j hj).2 (by omega)
        rw [getD_lt l j hj, show j - 1 = i by omega, getD_lt l i hi'] at this
        exact this
      | succ d ih =>
        have h1 := ih (j - 1) (by omega) (by omega) (by omega)
        have h2 := (h j hj).2 (by omega)
        rw [getD_lt l j hj, getD_lt l (j - 1) (by omega)] at h2
        omega
  · rintro ⟨h1, h2⟩ i hi'
    refine ⟨?_, fun h0 => ?_⟩
    · rw [getD_lt l i hi']; exact h1 _ (List.getElem_mem _)
    · rw [getD_lt l i hi', getD_lt l (i - 1) (by omega)]
      exact (List.pairwise_iff_getElem.mp h2) (i - 1) i (by omega) hi' (by omega)
theorem rising_ev (l : List Int) (hi : Int) (hl : l.length ≤ 35184372088832) (b : Bool) (hb : b = true ↔ ∀ i, i < l.length → rwP l hi i) : Ev (fun k => spec_l1Rising.f k l 0 hi) b := by
  unfold spec_l1Rising.f
  refine ev_dec (fun k i => spec_l1Rising.l0 k l 0 hi (i : Int)) l.length (rwP l hi) id ?_ ?_ ?_ b hb
  · refine Ev.succ ?_
    simp only [spec_l1Rising.l0.eq_2]
    exact Ev.neg (by omega) (Ev.now _)
  · intro i hi' hp r h
    refine Ev.succ ?_
    simp only [spec_l1Rising.l0.eq_2]
    rw [rd_getD, w64 (n := (i : Int) + 1) (by omega) (by omega), w64 (n := (i : Int) - 1) (by omega) (by omega)]
    refine Ev.pos (by omega) (Ev.pos (by omega) (Ev.bindc (l1In_eq _ _ _) (Ev.pos (decide_eq_true hp.1) ?_)))
    by_cases h0 : (i : Int) > 0
    · have := hp.2 (by omega)
      rw [show (i : Int) - 1 = ((i - 1 : Nat) : Int) by omega, rd_getD]
      exact Ev.pos h0 (Ev.pos (by omega) (Ev.pos (by omega) (Ev.neg (by omega) h)))
    · exact Ev.neg h0 h
  · intro i hi' hp
    refine Ev.succ ?_
    simp only [spec_l1Rising.l0.eq_2]
    rw [rd_getD, w64 (n := (i : Int) - 1) (by omega) (by omega)]
    refine Ev.pos (by omega) (Ev.pos (by omega) (Ev.bindc (l1In_eq _ _ _) ?_))
    by_cases h1 : 0 ≤ l.getD i 0 ∧ l.getD i 0 ≤ hi
    · have h2 : ¬ (0 < i → l.getD (i - 1) 0 < l.getD i 0) := fun h => hp ⟨h1, h⟩
      have h0 : 0 < i := Decidable.byContradiction (fun c => h2 (fun h => absurd h c))
      have h3 : ¬ l.getD (i - 1) 0 < l.getD i 0 := fun h => h2 (fun _ => h)
      rw [show (i : Int) - 1 = ((i - 1 : Nat) : Int) by omega, rd_getD]
      exact Ev.pos (decide_eq_true h1) (Ev.pos (by omega) (Ev.pos (by omega) (Ev.pos (by omega) (Ev.pos (by omega) (Ev.now _)))))
    · exact Ev.neg (by simpa using h1) (Ev.now _)
theorem l2Row_ev (s : Int) (r : Bool) (l : List Int) (hl : l.length ≤ 35184372088832) (b : Bool) (hb : b = true ↔ IsRw s r l) : Ev (fun k => spec_l2Row.f k s r l) b := by
  unfold spec_l2Row.f
  have hno : ¬ IsRw s r l → b = false := fun h => by
    cases b with
    | false => rfl
    | true => exact absurd (hb.mp rfl) h
  refine Ev.bindc (l1In_eq _ _ _) ?_
  by_cases hs : 2 ≤ s ∧ s ≤ 24
  · refine Ev.pos (decide_eq_true hs) ?_
    rw [w64 (by omega) (by omega)]
    have main : (r = true → 3 ≤ s) → (b = true ↔ ∀ i, i < l.length → rwP l (s - 1) i) := by
      intro h3
      rw [hb, rwP_all]
      unfold IsRw
      constructor
      · rintro ⟨_, _, h4, h5⟩; exact ⟨fun x hx => by have := h4 x hx; omega, h5⟩
      · rintro ⟨h4, h5⟩; exact ⟨hs, h3, fun x hx => by have := h4 x hx; omega, h5⟩
    by_cases hr : r = true
    · refine Ev.pos hr ?_
      by_cases h3 : s > 2
      · exact Ev.pos h3 (Ev.bind (f := fun _ t => some t) (rising_ev l (s - 1) hl b (main (fun _ => by omega))) (Ev.now _))
      · rw [hno (fun h => h3 (by have := h.2.1 hr; omega))]
        exact Ev.neg h3 (Ev.now _)
    · exact Ev.neg hr (Ev.bind (f := fun _ t => some t) (rising_ev l (s - 1) hl b (main (fun h => absurd h hr))) (Ev.now _))
  · rw [hno (fun h => hs h.1)]
    exact Ev.neg (by simpa using hs) (Ev.now _)
theorem bench_has1 (s : Int) (r : Bool) (x : Int) : Ev (fun k => impl_bench_has.f k s r [x]) (decide (0 ≤ x ∧ x ≤ wrap64 (s - 1))) := by
  unfold impl_bench_has.f
  refine Ev.bind (f := fun _ t => some t) (allWithin_ev [x] 0 _ (by simp)) ?_
  simp only [List.mem_singleton, forall_eq]
  exact Ev.now _
theorem bench_valid_eq (s : Int) (r : Bool) (b : Bool) (hb : b = true ↔ (2 ≤ s ∧ s ≤ 24) ∧ (r = true → 3 ≤ s)) : impl_bench_valid.f s r = some b := by
  unfold impl_bench_valid.f
  rw [within_eq, Option.bind_some]
  by_cases hs : 2 ≤ s ∧ s ≤ 24
  · rw [if_pos (decide_eq_true hs)]
    cases r with
    | true => rw [if_pos rfl]; congr 1; rw [Bool.eq_iff_iff, hb]; simp only [decide_eq_true_eq]; exact ⟨fun h => ⟨hs, fun _ => h⟩, fun h => h.2 (by trivial)⟩
    | false => rw [if_neg (by decide)]; congr 1; rw [Bool.eq_iff_iff, hb]; simp [hs]
  · rw [if_neg (by simpa using hs)]; congr 1; rw [Bool.eq_iff_iff, hb]; simp only [Bool.false_eq_true, false_iff]; exact fun h => hs h.1
theorem isRow_ev (s : Int) (r : Bool) (l : List Int) (hl : l.length ≤ 35184372088832) (b : Bool) (hb : b = true ↔ IsRw s r l) : Ev (fun k => impl_IsRow.f k s r l) b := by
  unfold impl_IsRow.f
  obtain ⟨v, hv⟩ := exists_bool ((2 ≤ s ∧ s ≤ 24) ∧ (r = true → 3 ≤ s))
  obtain ⟨c, hc⟩ := exists_bool (∀ i, i < l.length → rwP l (wrap64 (s - 1)) i)
  have hbc : b = (if c = true then v else false) := by
    rw [Bool.eq_iff_iff, hb]
    unfold IsRw
    constructor
    · rintro ⟨h1, h2, h3, h4⟩
      have hcc : c = true := by
        rw [hc, rwP_all, w64 (by omega) (by omega)]
        exact ⟨fun x hx => by have := h3 x hx; omega, h4⟩
      rw [if_pos hcc, hv]; exact ⟨h1, h2⟩
    · intro h
      by_cases hcc : c = true
      · rw [if_pos hcc, hv] at h
        rw [hc, rwP_all, w64 (by omega) (by omega)] at hcc
        exact ⟨h.1, h.2, fun x hx => by have := hcc.1 x hx; omega, hcc.2⟩
      · rw [if_neg hcc] at h; cases h
  rw [hbc]
  refine ev_dec (fun k i => impl_IsRow.l0 k l (l.length : Int) (i : Int) s r l) l.length (rwP l (wrap64 (s - 1))) (fun c => if c = true then v else false) ?_ ?_ ?_ c hc
  · refine Ev.succ ?_
    simp only [impl_IsRow.l0.eq_2]
    exact Ev.neg (by omega) (Ev.bindc rfl (Ev.bindc (bench_valid_eq s r v hv) (Ev.now _)))
  · intro i hi' hp q h
    refine Ev.succ ?_
    simp only [impl_IsRow.l0.eq_2]
    rw [rd_getD, w64 (n := (i : Int) + 1) (by omega) (by omega), w64 (n := (i : Int) - 1) (by omega) (by omega)]
    refine Ev.pos (by omega) (Ev.pos (by omega) (Ev.pos (by omega) (Ev.bindc rfl (Ev.bind (bench_has1 s r _) (Ev.pos (decide_eq_true hp.1) ?_)))))
    by_cases h0 : (i : Int) > 0
    · have := hp.2 (by omega)
      rw [show (i : Int) - 1 = ((i - 1 : Nat) : Int) by omega, rd_getD]
      exact Ev.pos h0 (Ev.pos (by omega) (Ev.pos (by omega) (Ev.neg (by omega) h)))
    · exact Ev.neg h0 h
  · intro i hi' hp
    refine Ev.succ ?_
    simp only [impl_IsRow.l0.eq_2]
    rw [rd_getD, w64 (n := (i : Int) - 1) (by omega) (by omega)]
    refine Ev.pos (by omega) (Ev.pos (by omega) (Ev.pos (by omega) (Ev.bindc rfl (Ev.bind (bench_has1 s r _) ?_))))
    by_cases h1 : 0 ≤ l.getD i 0 ∧ l.getD i 0 ≤ wrap64 (s - 1)
    · have h2 : ¬ (0 < i → l.getD (i - 1) 0 < l.getD i 0) := fun h => hp ⟨h1, h⟩
      have h0 : 0 < i := Decidable.byContradiction (fun c => h2 (fun h => absurd h c))
      have h3 : ¬ l.getD (i - 1) 0 < l.getD i 0 := fun h => h2 (fun _ => h)
      rw [show (i : Int) - 1 = ((i - 1 : Nat) : Int) by omega, rd_getD]
      exact Ev.pos (decide_eq_true h1) (Ev.pos (by omega) (Ev.pos (by omega) (Ev.pos (by omega) (Ev.pos (by omega) (Ev.now _)))))
    · exact Ev.neg (by simpa using h1) (Ev.now _)
/-- the gap of two seats -/
def gp (s : Int) (r : Bool) (p q : Int) : Int := if r = true then mn (mx (p - q) (q - p)) (s - mx (p - q) (q - p)) else mx (p - q) (q - p)
theorem mx_le {a b c : Int} (h1 : a ≤ c) (h2 : b ≤ c) : mx a b ≤ c := by unfold mx; split <;> omega
theorem le_mx {a b : Int} : a ≤ mx a b ∧ b ≤ mx a b := by unfold mx; split <;> omega
theorem l2Gap_eq (s : Int) (r : Bool) (l : List Int) (p q : Int) (hs : 0 ≤ s ∧ s ≤ 100) (hp : 0 ≤ p ∧ p < 100) (hq : 0 ≤ q ∧ q < 100) : spec_l2Gap.f s r l p q = some (gp s r p q) := by
  unfold spec_l2Gap.f spec_l1Most.f gp
  have e : (if p - q > q - p then some (p - q) else some (q - p)) = some (mx (p - q) (q - p)) := by
    unfold mx; split <;> split <;> first | rfl | (congr 1; omega)
  have h1 : mx (p - q) (q - p) ≤ 100 := mx_le (by omega) (by omega)
  have h2 := @le_mx (p - q) (q - p)
  rw [w64 (n := p - q) (by omega) (by omega), w64 (n := q - p) (by omega) (by omega), e, Option.bind_some]
  cases r with
  | true =>
    rw [if_pos rfl, if_pos rfl]
    unfold spec_l1Least.f
    rw [w64 (by omega) (by omega)]
    unfold mn
    split <;> split <;> first | rfl | (simp only [Option.bind_some]; congr 1; omega)
  | false => rw [if_neg (by decide), if_neg (by decide)]
theorem bench_gap_eq (s : Int) (r : Bool) (p q : Int) (hs : 0 ≤ s ∧ s ≤ 100) (hp : 0 ≤ p ∧ p < 100) (hq : 0 ≤ q ∧ q < 100) : impl_bench_gap.f s r p q = some (gp s r p q) := by
  unfold impl_bench_gap.f gp
  have h1 : mx (p - q) (q - p) ≤ 100 := mx_le (by omega) (by omega)
  have h2 := @le_mx (p - q) (q - p)
  rw [w64 (n := p - q) (by omega) (by omega), w64 (n := q - p) (by omega) (by omega), w64 (n := s - mx (p - q) (q - p)) (by omega) (by omega)]
  cases r with
  | true => rw [if_pos rfl, if_pos rfl]
  | false => rw [if_neg (by decide), if_neg (by decide)]
/-- the set of the numbers below n that meet R -/
def bld (R : Nat → Bool) : Nat → Nat
  | 0 => 0
  | n + 1 => if R n = true then bld R n ||| 2 ^ n else bld R n
theorem bld_bit (R : Nat → Bool) (n j : Nat) : (bld R n).testBit j = (decide (j < n) && R j) := by
  induction n with
  | zero => simp [bld]
  | succ n ih =>
    unfold bld
    by_cases h : R n = true
    · rw [if_pos h, Nat.testBit_or, ih, Nat.testBit_two_pow]
      by_cases e : n = j
      · subst e; simp [h]
      · have : (j < n + 1) ↔ (j < n) := by omega
        simp [e, this]
    · rw [if_neg h, ih]
      by_cases e : n = j
      · subst e; simp [h]
      · have : (j < n + 1) ↔ (j < n) := by omega
        simp [this]
theorem bld_lt (R : Nat → Bool) (n : Nat) (h : n ≤ 32) : bld R n < 4294967296 := by
  refine Nat.lt_pow_two_of_testBit (n := 32) _ (fun j hj => ?_)
  rw [bld_bit]
  simp; omega
theorem or_pow_u32 (a : Nat) (p : Nat) (ha : a < 4294967296) (hp : p < 32) : Go.bits .or .u32 (a : Int) (shl .u32 1 (p : Int)) = ((a ||| 2 ^ p : Nat) : Int) := by
  rw [shl_u32_one _ (by omega) (by omega), Int.toNat_natCast, (u32_nat _ _ ha (by have := two_pow_lt32 (p : Int) (by omega) (by omega); rwa [Int.toNat_natCast] at this)).2]
theorem bld_loop {α : Type} (L : Nat → Nat → Nat → Option α) (R : Nat → Bool) (n : Nat) (res : α) (hend : Ev (fun k => L k (bld R n) n) res)
    (hstep : ∀ i, i < n → bld R i < 2 ^ n → ∀ r, Ev (fun k => L k (if R i = true then bld R i ||| 2 ^ i else bld R i) (i + 1)) r → Ev (fun k => L k (bld R i) i) r) : Ev (fun k => L k 0 0) res := by
  have key : ∀ d i, i + d = n → Ev (fun k => L k (bld R i) i) res := by
    intro d
    induction d with
    | zero => intro i hi; rw [show i = n by omega]; exact hend
    | succ d ih =>
      intro i hi
      refine hstep i (by omega) ?_ _ (ih (i + 1) (by omega))
      refine Nat.lt_of_lt_of_le (Nat.lt_pow_two_of_testBit (n := i) _ (fun j hj => ?_)) (Nat.pow_le_pow_right (by decide) (by omega))
      rw [bld_bit]; simp; omega
  exact key n 0 (by omega)
def nearN (s : Nat) (r : Bool) (p : Int) : Nat := bld (fun q => decide (gp (s : Int) r p (q : Int) = 1)) s
theorem nearN_lt (s : Nat) (r : Bool) (p : Int) (hs : s ≤ 32) : nearN s r p < 4294967296 := bld_lt _ _ hs
theorem near_ev (s : Nat) (r : Bool) (p : Int) (hs : s ≤ 32) (hp : 0 ≤ p ∧ p < 100) : Ev (fun k => impl_bench_near.f k (s : Int) r p) (nearN s r p : Int) := by
  unfold impl_bench_near.f
  have := ev_iter (fun k (st : Nat) i => impl_bench_near.l0 k p (st : Int) (s : Int) (i : Int) (s : Int) r) s (fun i st => if gp (s : Int) r p (i : Int) = 1 then st ||| 2 ^ i else st) (fun st => (st : Int)) (fun i st => st = bld (fun q => decide (gp (s : Int) r p (q : Int) = 1)) i) ?_ ?_ ?_ s 0 0 (by omega) rfl
  · have e : ∀ d i st, i + d = s → st = bld (fun q => decide (gp (s : Int) r p (q : Int) = 1)) i → iterFrom (fun i st => if gp (s : Int) r p (i : Int) = 1 then st ||| 2 ^ i else st) d i st = nearN s r p := by
      intro d
      induction d with
      | zero => intro i st hi hst; rw [hst, show i = s by omega]; rfl
      | succ d ih =>
        intro i st hi hst
        refine ih (i + 1) _ (by omega) ?_
        rw [hst]
        conv => rhs; unfold bld
        simp only [decide_eq_true_eq]
    rw [e s 0 0 (by omega) rfl] at this
    exact this
  · intro st _
    refine Ev.succ ?_
    simp only [impl_bench_near.l0.eq_2]
    exact Ev.neg (by omega) (Ev.now _)
  · intro i st hi hst
    rw [hst]
    conv => rhs; unfold bld
    simp only [decide_eq_true_eq]
  · intro i st hi hst q h
    refine Ev.succ ?_
    simp only [impl_bench_near.l0.eq_2]
    refine Ev.pos (by omega) (Ev.bindc (bench_gap_eq _ _ _ _ (by omega) (by omega) (by omega)) ?_)
    rw [w64 (by omega) (by omega)]
    by_cases hg : gp (s : Int) r p (i : Int) = 1
    · refine Ev.pos hg (Ev.pos (by omega) ?_)
      rw [or_pow_u32 st i (by rw [hst]; exact bld_lt _ _ (by omega)) (by omega)]
      simp only [hg, if_true] at h
      exact h
    · refine Ev.neg hg ?_
      simp only [hg, if_false] at h
      exact h
theorem land_rec (x y : Nat) : x &&& y = 2 * ((x / 2) &&& (y / 2)) + (x % 2) * (y % 2) := by
  have hd : (x % 2) * (y % 2) < 2 := by
    rcases Nat.mod_two_eq_zero_or_one x with h | h <;> rcases Nat.mod_two_eq_zero_or_one y with h2 | h2 <;> rw [h, h2] <;> decide
  refine Nat.eq_of_testBit_eq (fun j => ?_)
  cases j with
  | zero =>
    rw [Nat.testBit_and, Nat.testBit_zero, Nat.testBit_zero, Nat.testBit_zero]
    rcases Nat.mod_two_eq_zero_or_one x with h | h <;> rcases Nat.mod_two_eq_zero_or_one y with h2 | h2 <;> rw [h, h2] <;> simp <;> omega
  | succ j =>
    rw [Nat.testBit_and, Nat.testBit_succ, Nat.testBit_succ, Nat.testBit_succ]
    rw [show (2 * ((x / 2) &&& (y / 2)) + (x % 2) * (y % 2)) / 2 = (x / 2) &&& (y / 2) by omega, Nat.testBit_and]
/-- the place of the lowest bit -/
def low : Nat → Nat → Nat
  | 0, _ => 0
  | k + 1, n => if n % 2 = 1 then 0 else low k (n / 2) + 1
theorem neg_land (k : Nat) : ∀ n, 0 < n → n < 2 ^ k → (n &&& (2 ^ k - n)) = 2 ^ (low k n) ∧ low k n < k ∧ n.testBit (low k n) = true := by
  induction k with
  | zero => intro n h1 h2; simp at h2; omega
  | succ k ih =>
    intro n h1 h2
    have hp : 2 ^ (k + 1) = 2 * 2 ^ k := by rw [Nat.pow_succ]; omega
    rw [land_rec]
    unfold low
    by_cases ho : n % 2 = 1
    · rw [if_pos ho]
      have e1 : (2 ^ (k + 1) - n) / 2 = 2 ^ k - (n / 2 + 1) := by omega
      have e2 : (2 ^ (k + 1) - n) % 2 = 1 := by omega
      have hz : (n / 2) &&& (2 ^ k - (n / 2 + 1)) = 0 := by
        refine Nat.eq_of_testBit_eq (fun j => ?_)
        rw [Nat.testBit_and, Nat.testBit_two_pow_sub_succ (by omega), Nat.zero_testBit]
        cases (n / 2).testBit j <;> simp
      rw [e1, e2, hz, ho]
      exact ⟨rfl, by omega, by rw [Nat.testBit_zero]; simpa using ho⟩
    · rw [if_neg ho]
      have e0 : n % 2 = 0 := by omega
      have e1 : (2 ^ (k + 1) - n) / 2 = 2 ^ k - n / 2 := by omega
      obtain ⟨a, b, c⟩ := ih (n / 2) (by omega) (by omega)
      rw [e1, e0, a, Nat.zero_mul, Nat.add_zero]
      exact ⟨by rw [Nat.pow_succ]; omega, by omega, by rw [Nat.testBit_succ]; exact c⟩
/-- the places of all bits, in order -/
def lst : Nat → Nat → Nat → List Nat
  | 0, _, _ => []
  | k + 1, off, n => if n % 2 = 1 then off :: lst k (off + 1) (n / 2) else lst k (off + 1) (n / 2)
theorem lst_zero (k off : Nat) : lst k off 0 = [] := by
  induction k generalizing off with
  | zero => rfl
  | succ k ih => unfold lst; rw [if_neg (by decide)]; exact ih _
theorem lst_len (k off n : Nat) : (lst k off n).length ≤ k := by
  induction k generalizing off n with
  | zero => exact Nat.le_refl _
  | succ k ih =>
    have := ih (off + 1) (n / 2)
    unfold lst; split
    · rw [List.length_cons]; omega
    · omega
theorem lst_step (k : Nat) : ∀ n off, 0 < n → n < 2 ^ k → lst k off n = (off + low k n) :: lst k off (n &&& (n - 1)) ∧ n &&& (n - 1) < n := by
  induction k with
  | zero => intro n off h1 h2; simp at h2; omega
  | succ k ih =>
    intro n off h1 h2
    have hp : 2 ^ (k + 1) = 2 * 2 ^ k := by rw [Nat.pow_succ]; omega
    rw [land_rec n (n - 1)]
    by_cases ho : n % 2 = 1
    · have e1 : (n - 1) / 2 = n / 2 := by omega
      have e2 : (n - 1) % 2 = 0 := by omega
      rw [e1, e2, Nat.and_self]
      simp only [Nat.mul_zero, Nat.add_zero]
      have l1 : lst (k + 1) off n = off :: lst k (off + 1) (n / 2) := if_pos ho
      have l2 : lst (k + 1) off (2 * (n / 2)) = lst k (off + 1) (n / 2) := by
        rw [show lst (k + 1) off (2 * (n / 2)) = lst k (off + 1) (2 * (n / 2) / 2) from if_neg (by omega), show 2 * (n / 2) / 2 = n / 2 by omega]
      have l3 : low (k + 1) n = 0 := if_pos ho
      rw [l1, l2, l3]
      exact ⟨rfl, by omega⟩
    · have e0 : n % 2 = 0 := by omega
      have e1 : (n - 1) / 2 = n / 2 - 1 := by omega
      obtain ⟨a, b⟩ := ih (n / 2) (off + 1) (by omega) (by omega)
      rw [e1, e0]
      simp only [Nat.zero_mul, Nat.add_zero]
      have l1 : lst (k + 1) off n = lst k (off + 1) (n / 2) := if_neg ho
      have l2 : lst (k + 1) off (2 * (n / 2 &&& (n / 2 - 1))) = lst k (off + 1) (n / 2 &&& (n / 2 - 1)) := by
        rw [show lst (k + 1) off (2 * (n / 2 &&& (n / 2 - 1))) = lst k (off + 1) (2 * (n / 2 &&& (n / 2 - 1)) / 2) from if_neg (by omega), Nat.mul_div_cancel_left _ (by decide)]
      have l3 : low (k + 1) n = low k (n / 2) + 1 := if_neg ho
      rw [l1, l2, l3, a]
      exact ⟨by congr 1; omega, by omega⟩
theorem lst_mem (k : Nat) : ∀ n off x, x ∈ lst k off n ↔ off ≤ x ∧ x < off + k ∧ n.testBit (x - off) = true := by
  induction k with
  | zero => intro n off x; simp only [lst, List.not_mem_nil, false_iff]; omega
  | succ k ih =>
    intro n off x
    have hh : x ∈ lst (k + 1) off n ↔ (x = off ∧ n % 2 = 1) ∨ x ∈ lst k (off + 1) (n / 2) := by
      rw [show lst (k + 1) off n = if n % 2 = 1 then off :: lst k (off + 1) (n / 2) else lst k (off + 1) (n / 2) from rfl]
      split
      · rename_i h; simp [h]
      · rename_i h; simp [h]
    rw [hh, ih]
    constructor
    · rintro (⟨rfl, h⟩ | ⟨h1, h2, h3⟩)
      · exact ⟨Nat.le_refl _, by omega, by rw [Nat.sub_self, Nat.testBit_zero]; simpa using h⟩
      · refine ⟨by omega, by omega, ?_⟩
        rw [show x - off = (x - (off + 1)) + 1 by omega, Nat.testBit_succ]; exact h3
    · rintro ⟨h1, h2, h3⟩
      rcases Nat.eq_or_lt_of_le h1 with e | e
      · subst e; rw [Nat.sub_self, Nat.testBit_zero] at h3; exact .inl ⟨rfl, by simpa using h3⟩
      · refine .inr ⟨by omega, by omega, ?_⟩
        rw [show x - off = (x - (off + 1)) + 1 by omega, Nat.testBit_succ] at h3; exact h3
theorem lst_sorted (k : Nat) : ∀ n off, (lst k off n).Pairwise (· < ·) := by
  induction k with
  | zero => intro n off; exact List.Pairwise.nil
  | succ k ih =>
    intro n off
    unfold lst
    split
    · refine List.pairwise_cons.mpr ⟨fun x hx => ?_, ih _ _⟩
      have := (lst_mem k _ _ x).mp hx; omega
    · exact ih _ _
/-- the seats of a set -/
def listN (n : Nat) : List Int := (lst 32 0 n).map (fun x : Nat => (x : Int))
theorem listN_mem (n : Nat) (x : Int) : x ∈ listN n ↔ (0 ≤ x ∧ x < 32) ∧ n.testBit x.toNat = true := by
  unfold listN
  rw [List.mem_map]
  constructor
  · rintro ⟨y, hy, rfl⟩
    have := (lst_mem 32 n 0 y).mp hy
    exact ⟨by omega, by rw [Int.toNat_natCast]; simpa using this.2.2⟩
  · rintro ⟨h1, h2⟩
    exact ⟨x.toNat, (lst_mem 32 n 0 _).mpr ⟨by omega, by omega, by simpa using h2⟩, by omega⟩
theorem listN_sorted (n : Nat) : (listN n).Pairwise (· < ·) := by
  unfold listN
  rw [List.pairwise_map]
  exact (lst_sorted 32 n 0).imp (fun h => by omega)
theorem sorted_ext : ∀ (l m : List Int), l.Pairwise (· < ·) → m.Pairwise (· < ·) → (∀ x, x ∈ l ↔ x ∈ m) → l = m := by
  intro l
  induction l with
  | nil =>
    intro m _ _ h
    cases m with
    | nil => rfl
    | cons y m => exact absurd ((h y).mpr (by simp)) (by simp)
  | cons x l ih =>
    intro m hl hm h
    cases m with
    | nil => exact absurd ((h x).mp (by simp)) (by simp)
    | cons y m =>
      obtain ⟨h1, h2⟩ := List.pairwise_cons.mp hl
      obtain ⟨h3, h4⟩ := List.pairwise_cons.mp hm
      have e : x = y := by
        have ha := (h x).mp (by simp)
        have hb := (h y).mpr (by simp)
        rcases List.mem_cons.mp ha with e | ha
        · exact e
        · rcases List.mem_cons.mp hb with e | hb
          · exact e.symm
          · have := h1 y hb; have := h3 x ha; omega
      subst e
      refine congrArg (x :: ·) (ih m h2 h4 (fun z => ?_))
      constructor
      · intro hz
        rcases List.mem_cons.mp ((h z).mp (List.mem_cons_of_mem _ hz)) with e | hz'
        · have := h1 z hz; omega
        · exact hz'
      · intro hz
        rcases List.mem_cons.mp ((h z).mpr (List.mem_cons_of_mem _ hz)) with e | hz'
        · have := h3 z hz; omega
        · exact hz'
theorem listN_setN (l : List Int) (h : ∀ x ∈ l, 0 ≤ x ∧ x < 32) (hs : l.Pairwise (· < ·)) : listN (setN l) = l := by
  refine sorted_ext _ _ (listN_sorted _) hs (fun x => ?_)
  rw [listN_mem, setN_bit, decide_eq_true_eq]
  constructor
  · rintro ⟨h1, p, hp, e⟩
    have := h p hp
    rw [show x = p by omega]; exact hp
  · intro hx; exact ⟨h x hx, x, hx, rfl⟩
theorem tz_tab : ∀ i : Fin 32, ((2 ^ i.val * 125613361 % 4294967296) / 134217728 < 32) ∧ TZ.getD ((2 ^ i.val * 125613361 % 4294967296) / 134217728) 0 = ((i.val : Nat) : Int) := by decide +kernel
theorem neg_u32 (n : Nat) (h0 : 0 < n) (h : n < 4294967296) : Go.bits .and .u32 (n : Int) ((-(n : Int)) % 4294967296) = ((2 ^ (low 32 n) : Nat) : Int) := by
  have e : (-(n : Int)) % 4294967296 = ((4294967296 - n : Nat) : Int) := by omega
  rw [e, (u32_nat n (4294967296 - n) h (by omega)).1]
  have := (neg_land 32 n h0 h).1
  rw [show (2 : Nat) ^ 32 = 4294967296 from rfl] at this
  rw [this]
theorem tz_eq (n : Nat) (h0 : 0 < n) (h : n < 4294967296) : bits_TrailingZeros32.f (n : Int) = some ((low 32 n : Nat) : Int) := by
  unfold bits_TrailingZeros32.f
  have hl := (neg_land 32 n h0 h).2.1
  obtain ⟨t1, t2⟩ := tz_tab ⟨low 32 n, hl⟩
  simp only at t1 t2
  have e : tzi (n : Int) = (((2 ^ (low 32 n) * 125613361 % 4294967296) / 134217728 : Nat) : Int) := by
    unfold tzi
    rw [neg_u32 n h0 h]
    generalize 2 ^ (low 32 n) = t
    omega
  rw [if_neg (by omega), e, if_pos (by omega), if_pos (by omega)]
  unfold rd
  rw [Int.toNat_natCast, t2]
theorem list_ev (n : Nat) (h : n < 4294967296) : Ev (fun k => impl_set_list.f k (n : Int)) (listN n) := by
  unfold impl_set_list.f
  have key : ∀ m (n : Nat) (acc : List Int), n ≤ m → n < 4294967296 → acc.length + (lst 32 0 n).length ≤ 64 → Ev (fun k => impl_set_list.l0 k (n : Int) acc) (acc ++ (lst 32 0 n).map (fun x : Nat => (x : Int))) := by
    intro m
    induction m with
    | zero =>
      intro n acc hm _ _
      refine Ev.succ ?_
      simp only [impl_set_list.l0.eq_2]
      rw [show n = 0 by omega, lst_zero, List.map_nil, List.append_nil]
      exact Ev.pos rfl (Ev.now _)
    | succ m ih =>
      intro n acc hm hn hl
      refine Ev.succ ?_
      simp only [impl_set_list.l0.eq_2]
      by_cases h0 : n = 0
      · subst h0
        rw [lst_zero, List.map_nil, List.append_nil]
        exact Ev.pos rfl (Ev.now _)
      · obtain ⟨s1, s2⟩ := lst_step 32 n 0 (by omega) hn
        rw [Nat.zero_add] at s1
        refine Ev.neg (by omega) (Ev.bindc (tz_eq n (by omega) hn) (Ev.pos (by omega) ?_))
        rw [show ((n : Int) - 1) % 4294967296 = ((n - 1 : Nat) : Int) by omega, (u32_nat n (n - 1) hn (by omega)).1]
        rw [s1, List.length_cons] at hl
        have := ih (n &&& (n - 1)) (acc ++ [((low 32 n : Nat) : Int)]) (by omega) (by omega) (by rw [List.length_append, List.length_singleton]; omega)
        rw [s1, List.map_cons]
        rw [List.append_assoc, List.singleton_append] at this
        exact this
  have := key n n [] (Nat.le_refl _) h (by have := lst_len 32 0 n; simp; omega)
  simpa [listN] using this
theorem pairwise_nodup {l : List Int} (h : l.Pairwise (· < ·)) : l.Nodup := h.imp (fun h => by omega)
theorem has_bit (x i : Nat) (hx : x < 4294967296) : impl_set_has.f (x : Int) (i : Int) = some (x.testBit i) := by
  unfold impl_set_has.f
  rw [if_pos (by omega)]
  refine congrArg some ?_
  unfold shr
  rw [Int.toNat_natCast]
  have e : ((x : Int) / 2 ^ min i IntKind.u32.bits) = ((x / 2 ^ min i 32 : Nat) : Int) := by push_cast; rfl
  have hlt : x / 2 ^ min i 32 < 4294967296 := Nat.lt_of_le_of_lt (Nat.div_le_self _ _) hx
  have h1 := (u32_nat (x / 2 ^ min i 32) 1 hlt (by omega)).1
  rw [show ((1 : Nat) : Int) = 1 from rfl] at h1
  rw [e, h1, Nat.and_one_is_mod, Nat.testBit_eq_decide_div_mod_eq, Bool.eq_iff_iff]
  simp only [beq_iff_eq, decide_eq_true_eq]
  by_cases h : i ≤ 32
  · rw [Nat.min_eq_left h]; omega
  · have e1 : x / 2 ^ min i 32 = 0 := by rw [Nat.min_eq_right (by omega)]; exact Nat.div_eq_of_lt hx
    have e2 : x / 2 ^ i = 0 := Nat.div_eq_of_lt (Nat.lt_of_lt_of_le hx (Nat.pow_le_pow_right (n := 2) (i := 32) (by decide) (by omega)))
    rw [e1, e2]; decide
/-- a seat put in its place -/
def putL : List Int → Int → List Int
  | [], p => [p]
  | x :: l, p => if x < p then x :: putL l p else p :: x :: l
theorem putL_mem (l : List Int) (p x : Int) : x ∈ putL l p ↔ x = p ∨ x ∈ l := by
  induction l with
  | nil => simp [putL]
  | cons y l ih =>
    unfold putL
    split
    · rw [List.mem_cons, ih, List.mem_cons]
      constructor
      · rintro (h | h | h)
        · exact .inr (.inl h)
        · exact .inl h
        · exact .inr (.inr h)
      · rintro (h | h | h)
        · exact .inr (.inl h)
        · exact .inl h
        · exact .inr (.inr h)
    · rw [List.mem_cons]
theorem putL_sorted (l : List Int) (p : Int) (hp : p ∉ l) (hs : l.Pairwise (· < ·)) : (putL l p).Pairwise (· < ·) := by
  induction l with
  | nil => simp [putL]
  | cons y l ih =>
    obtain ⟨h1, h2⟩ := List.pairwise_cons.mp hs
    have hy : p ≠ y := fun e => hp (by rw [e]; simp)
    have hl : p ∉ l := fun e => hp (List.mem_cons_of_mem _ e)
    unfold putL
    split
    · rename_i hlt
      refine List.pairwise_cons.mpr ⟨fun x hx => ?_, ih hl h2⟩
      rcases (putL_mem l p x).mp hx with e | e
      · rw [e]; exact hlt
      · exact h1 x e
    · rename_i hlt
      refine List.pairwise_cons.mpr ⟨fun x hx => ?_, hs⟩
      rcases List.mem_cons.mp hx with e | e
      · rw [e]; omega
      · have := h1 x e; omega
theorem putL_set (l : List Int) (p : Int) : setN (putL l p) = setN l ||| 2 ^ p.toNat := by
  refine Nat.eq_of_testBit_eq (fun j => ?_)
  rw [Nat.testBit_or, setN_bit, setN_bit, Nat.testBit_two_pow]
  rw [Bool.eq_iff_iff]
  simp only [Bool.or_eq_true, decide_eq_true_eq]
  constructor
  · rintro ⟨x, hx, e⟩
    rcases (putL_mem l p x).mp hx with h | h
    · subst h; exact .inr e
    · exact .inl ⟨x, h, e⟩
  · rintro (⟨x, hx, e⟩ | e)
    · exact ⟨x, (putL_mem l p x).mpr (.inr hx), e⟩
    · exact ⟨p, (putL_mem l p p).mpr (.inl rfl), e⟩
theorem l1Put_ev (l : List Int) (p : Int) (hp : p ∉ l) (hl : l.length ≤ 35184372) : Ev (fun k => spec_l1Put.f k l p) (putL l p) := by
  unfold spec_l1Put.f
  have key : ∀ d i, i + d = l.length → Ev (fun k => spec_l1Put.l0 k l p (i : Int)) (l.take i ++ putL (l.drop i) p) := by
    intro d
    induction d with
    | zero =>
      intro i hi
      refine Ev.succ ?_
      simp only [spec_l1Put.l0.eq_2, Option.bind_some, List.nil_append, Int.toNat_natCast]
      have ht : (l.take i).length ≤ l.length := by rw [List.length_take]; omega
      have hd : (l.drop i).length ≤ l.length := by rw [List.length_drop]; omega
      rw [List.drop_of_length_le (show l.length ≤ i by omega)] at hd ⊢
      refine Ev.neg (by omega) (Ev.pos (by omega) (Ev.pos (by omega) (Ev.pos (by rw [List.length_nil]; omega) (Ev.pos (by rw [List.length_singleton]; omega) (Ev.pos (by rw [List.length_append, List.length_singleton, List.length_nil]; omega) ?_)))))
      rw [List.append_nil]
      exact Ev.now _
    | succ d ih =>
      intro i hi
      refine Ev.succ ?_
      simp only [spec_l1Put.l0.eq_2, Option.bind_some, List.nil_append, Int.toNat_natCast]
      have ht : (l.take i).length ≤ l.length := by rw [List.length_take]; omega
      have hd : (l.drop i).length ≤ l.length := by rw [List.length_drop]; omega
      have hne : l[i] ≠ p := fun e => hp (by rw [← e]; exact List.getElem_mem (by omega))
      rw [rd_nat l i (by omega), w64 (n := (i : Int) + 1) (by omega) (by omega)]
      have h := ih (i + 1) (by omega)
      rw [List.take_succ_eq_append_getElem (by omega)] at h
      rw [show l.drop i = l[i] :: l.drop (i + 1) from List.drop_eq_getElem_cons (by omega)]
      unfold putL
      refine Ev.pos (by omega) (Ev.pos (by omega) ?_)
      by_cases c : l[i] < p
      · rw [if_pos c]
        refine Ev.pos c ?_
        rw [List.append_assoc, List.singleton_append] at h
        exact h
      · rw [if_neg c]
        refine Ev.neg c (Ev.neg hne (Ev.pos (by omega) (Ev.pos (by rw [List.length_nil]; omega) (Ev.pos (by rw [List.length_singleton]; omega) (Ev.pos (by rw [List.length_append, List.length_singleton, List.length_cons, List.length_drop]; omega) ?_)))))
        rw [List.append_assoc, List.singleton_append]
        exact Ev.now _
  have := key l.length 0 (by omega)
  simpa using this
theorem l1Own_eq (l : List Int) (h : l.length < 17592186044416) : spec_l1Own.f l = some l := by
  unfold spec_l1Own.f
  rw [Option.bind_some, if_pos (by simpa using h), List.nil_append]
theorem l2With_ev (s : Int) (r : Bool) (l : List Int) (p : Int) (hp : p ∉ l) (hl : l.length ≤ 35184372) : Ev (fun k => spec_l2With.f k s r l p) (s, r, putL l p) := by
  unfold spec_l2With.f
  exact Ev.bindc (l1Own_eq l (by omega)) (Ev.bind (f := fun k t => (spec_l2Made.f s r l t).bind fun bt => some (bt.1, bt.2.1, bt.2.2)) (l1Put_ev l p hp hl) (Ev.bindc rfl (Ev.now _)))
theorem szRow_eq (s : Int) (r : Bool) (l : List Int) (a : Int) (hl : l.length ≤ 35184372088832) (h0 : 0 ≤ a) (h1 : a ≤ 1048576) : laws_szRow.f s r l a = some (if a - (l.length : Int) < 0 then -1 else a - (l.length : Int)) := by
  unfold laws_szRow.f
  rw [szIntS_eq l _ hl h0 h1]
  simp only [Option.bind_some]
  by_cases h : a - (l.length : Int) < 0
  · rw [if_pos h, if_pos (by omega)]
  · rw [if_neg h, if_neg h]
theorem toRow_ev (s : Int) (r : Bool) (l : List Int) (hl : l.length ≤ 35184372088832) : Ev (fun k => laws_toRow.f k s r l) (s, r, l) := by
  unfold laws_toRow.f
  exact Ev.bind (f := fun _ t => some (s, r, t)) (toIntS_ev l hl) (Ev.now _)
theorem eqRow_ev (s : Int) (r : Bool) (l : List Int) (hl : l.length ≤ 35184372088832) : Ev (fun k => laws_eqRow.f k s r l s r l) true := by
  unfold laws_eqRow.f
  refine Ev.pos rfl (Ev.neg (by simp) (Ev.bind (eqIntS_ev l hl) (Ev.pos rfl (Ev.now _))))
/-- the numbers below N that are not in a list -/
def restL (N : Nat) (b : List Int) : List Int := ((List.range N).filter (fun j : Nat => !decide ((j : Int) ∈ b))).map (fun j : Nat => (j : Int))
theorem restL_len (N : Nat) (b : List Int) : (restL N b).length ≤ N := by
  unfold restL; rw [List.length_map]; have := List.length_filter_le (fun j : Nat => !decide ((j : Int) ∈ b)) (List.range N); rw [List.length_range] at this; exact this
theorem restL_mem (N : Nat) (b : List Int) (x : Int) : x ∈ restL N b ↔ (0 ≤ x ∧ x < (N : Int)) ∧ x ∉ b := by
  unfold restL
  rw [List.mem_map]
  constructor
  · rintro ⟨j, hj, rfl⟩
    obtain ⟨h1, h2⟩ := List.mem_filter.mp hj
    have := List.mem_range.mp h1
    exact ⟨by omega, by simpa using h2⟩
  · rintro ⟨h1, h2⟩
    refine ⟨x.toNat, List.mem_filter.mpr ⟨List.mem_range.mpr (by omega), ?_⟩, by omega⟩
    rw [Int.toNat_of_nonneg h1.1]; simpa using h2
theorem restL_succ (s : Nat) (b : List Int) : restL (s + 1) b = restL s b ++ (if (s : Int) ∈ b then [] else [(s : Int)]) := by
  unfold restL
  rw [List.range_succ, List.filter_append, List.map_append]
  congr 1
  by_cases c : (s : Int) ∈ b
  · rw [if_pos c]; simp [c]
  · rw [if_neg c]; simp [c]
theorem l2Is_ev (s : Int) (r : Bool) (l : List Int) (p : Int) (hl : l.length ≤ 35184372088832) : Ev (fun k => spec_l2Is.f k s r l p) (decide (p ∈ l)) := by
  unfold spec_l2Is.f
  exact Ev.bind (f := fun _ t => some t) (has_ev l p hl) (Ev.now _)
theorem l2Free_loop (n : Nat) (r : Bool) (l : List Int) (hN : n ≤ 100) (hl : l.length ≤ 35184372088832) : ∀ d s, s + d = n → Ev (fun k => spec_l2Free.l0 k (restL s l) (s : Int) (n : Int) r l) (restL n l) := by
  intro d
  induction d with
  | zero =>
    intro s hs
    obtain rfl : s = n := by omega
    refine Ev.succ ?_
    simp only [spec_l2Free.l0.eq_2]
    exact Ev.neg (by omega) (Ev.now _)
  | succ d ih =>
    intro s hs
    refine Ev.succ ?_
    simp only [spec_l2Free.l0.eq_2]
    have hlen := restL_len s l
    have h1 := ih (s + 1) (by omega)
    rw [restL_succ] at h1
    refine Ev.pos (by omega) (Ev.bind (l2Is_ev (n : Int) r l (s : Int) hl) ?_)
    rw [w64 (by omega) (by omega)]
    by_cases c : (s : Int) ∈ l
    · rw [if_pos c, List.append_nil] at h1
      exact Ev.pos (decide_eq_true c) h1
    · rw [if_neg c] at h1
      exact Ev.neg (by simpa using c) (Ev.pos (by omega) h1)
theorem l2Free_ev (n : Nat) (r : Bool) (l : List Int) (hN : n ≤ 100) (hl : l.length ≤ 35184372088832) : Ev (fun k => spec_l2Free.f k (n : Int) r l) (restL n l) := by
  unfold spec_l2Free.f
  exact l2Free_loop n r l hN hl n 0 (by omega)
/-- the neighbors of a seat, as a list -/
def nearL (s : Nat) (r : Bool) (p : Int) (n : Nat) : List Int := ((List.range n).filter (fun j : Nat => decide (gp (s : Int) r p (j : Int) = 1))).map (fun j : Nat => (j : Int))
theorem nearL_len (s : Nat) (r : Bool) (p : Int) (n : Nat) : (nearL s r p n).length ≤ n := by
  unfold nearL; rw [List.length_map]; have := List.length_filter_le (fun j : Nat => decide (gp (s : Int) r p (j : Int) = 1)) (List.range n); rw [List.length_range] at this; exact this
theorem nearL_succ (s : Nat) (r : Bool) (p : Int) (n : Nat) : nearL s r p (n + 1) = nearL s r p n ++ (if gp (s : Int) r p (n : Int) = 1 then [(n : Int)] else []) := by
  unfold nearL
  rw [List.range_succ, List.filter_append, List.map_append]
  congr 1
  by_cases c : gp (s : Int) r p (n : Int) = 1
  · rw [if_pos c]; simp [c]
  · rw [if_neg c]; simp [c]
theorem l2Near_ev (s : Nat) (r : Bool) (l : List Int) (p : Int) (hs : s ≤ 32) (hp : 0 ≤ p ∧ p < 100) : Ev (fun k => spec_l2Near.f k (s : Int) r l p) (nearL s r p s) := by
  unfold spec_l2Near.f
  have key : ∀ d n, n + d = s → Ev (fun k => spec_l2Near.l0 k p (nearL s r p n) (n : Int) (s : Int) r l) (nearL s r p s) := by
    intro d
    induction d with
    | zero =>
      intro n hn
      obtain rfl : n = s := by omega
      refine Ev.succ ?_
      simp only [spec_l2Near.l0.eq_2]
      exact Ev.neg (by omega) (Ev.now _)
    | succ d ih =>
      intro n hn
      have h1 := ih (n + 1) (by omega)
      rw [nearL_succ] at h1
      have := nearL_len s r p n
      refine Ev.succ ?_
      simp only [spec_l2Near.l0.eq_2]
      refine Ev.pos (by omega) (Ev.bindc (l2Gap_eq _ _ _ _ _ (by omega) (by omega) (by omega)) ?_)
      rw [w64 (by omega) (by omega)]
      by_cases c : gp (s : Int) r p (n : Int) = 1
      · rw [if_pos c] at h1; exact Ev.pos c (Ev.pos (by omega) h1)
      · rw [if_neg c, List.append_nil] at h1; exact Ev.neg c h1
  exact key s 0 (by omega)
/-- no neighbor of a seat is taken -/
def lonR (s : Nat) (r : Bool) (l : List Int) (x : Int) : Bool := (nearL s r x s).all (fun y => !decide (y ∈ l))
def lonL (s : Nat) (r : Bool) (l : List Int) : List Int := (restL s l).filter (lonR s r l)
theorem l2Lonely_in (s : Nat) (r : Bool) (l F acc : List Int) (i : Nat) (hl : l.length ≤ 35184372088832) (hi : i < F.length) (ha : acc.length < 17592186044416) (N : List Int) (hN : N.length ≤ 100) (y n : List Int)
    (hF : F.length ≤ 1000) (hy : Ev (fun k => spec_l2Lonely.l0 k (acc ++ [F.getD i 0]) F ((i + 1 : Nat) : Int) (s : Int) r l) y) (hn : Ev (fun k => spec_l2Lonely.l0 k acc F ((i + 1 : Nat) : Int) (s : Int) r l) n) :
    ∀ d j flag, j + d = N.length → Ev (fun k => spec_l2Lonely.l1 k acc F (i : Int) N flag (j : Int) (s : Int) r l) (if (flag && (N.drop j).all (fun y => !decide (y ∈ l))) = true then y else n) := by
  intro d
  induction d with
  | zero =>
    intro j flag hj
    refine Ev.succ ?_
    simp only [spec_l2Lonely.l1.eq_2]
    rw [List.drop_of_length_le (by omega), rd_getD, w64 (n := (i : Int) + 1) (by omega) (by omega)]
    refine Ev.neg (by omega) ?_
    cases flag with
    | true => simp only [List.all_nil, Bool.and_self, if_true]; exact Ev.pos (by omega) (Ev.pos (by omega) (Ev.pos ha hy))
    | false => rw [if_neg (by simp)]; exact Ev.neg (by decide) hn
  | succ d ih =>
    intro j flag hj
    refine Ev.succ ?_
    simp only [spec_l2Lonely.l1.eq_2]
    rw [List.drop_eq_getElem_cons (show j < N.length by omega), List.all_cons, rd_getD, getD_lt N j (by omega), w64 (n := (j : Int) + 1) (by omega) (by omega)]
    refine Ev.pos (by omega) ?_
    cases flag with
    | true =>
      refine Ev.pos rfl (Ev.pos (by omega) (Ev.bind (l2Is_ev (s : Int) r l _ hl) ?_))
      exact ih (j + 1) _ (by omega)
    | false => exact Ev.neg (by decide) (ih (j + 1) false (by omega))
theorem l2Lonely_ev (s : Nat) (r : Bool) (l : List Int) (hs : s ≤ 32) (hl : l.length ≤ 35184372088832) : Ev (fun k => spec_l2Lonely.f k (s : Int) r l) (lonL s r l) := by
  unfold spec_l2Lonely.f
  refine Ev.bind (l2Free_ev s r l (by omega) hl) ?_
  have hF := restL_len s l
  have hm : ∀ x ∈ restL s l, 0 ≤ x ∧ x < (s : Int) := fun x hx => ((restL_mem s l x).mp hx).1
  unfold lonL
  generalize restL s l = F at hF hm
  have key : ∀ d i acc, i + d = F.length → acc.length ≤ i → Ev (fun k => spec_l2Lonely.l0 k acc F (i : Int) (s : Int) r l) (acc ++ (F.drop i).filter (lonR s r l)) := by
    intro d
    induction d with
    | zero =>
      intro i acc hi ha
      refine Ev.succ ?_
      simp only [spec_l2Lonely.l0.eq_2]
      rw [List.drop_of_length_le (by omega), List.filter_nil, List.append_nil]
      exact Ev.neg (by omega) (Ev.now _)
    | succ d ih =>
      intro i acc hi ha
      have hx := hm _ (List.getElem_mem (show i < F.length by omega))
      refine Ev.succ ?_
      simp only [spec_l2Lonely.l0.eq_2]
      rw [rd_getD, List.drop_eq_getElem_cons (show i < F.length by omega), getD_lt F i (by omega)]
      refine Ev.pos (by omega) (Ev.pos (by omega) (Ev.bind (l2Near_ev s r l _ hs (by omega)) ?_))
      have h1 := ih (i + 1) (acc ++ [F.getD i 0]) (by omega) (by simp; omega)
      have h2 := ih (i + 1) acc (by omega) (by omega)
      have := l2Lonely_in s r l F acc i hl (by omega) (by omega) (nearL s r F[i] s) (by have := nearL_len s r F[i] s; omega) _ _ (by omega) h1 h2 (nearL s r F[i] s).length 0 true (by omega)
      rw [List.drop_zero, Bool.true_and] at this
      rw [List.filter_cons]
      unfold lonR at this ⊢
      by_cases c : (nearL s r F[i] s).all (fun y => !decide (y ∈ l)) = true
      · rw [if_pos c] at this ⊢
        rw [getD_lt F i (by omega), List.append_assoc, List.singleton_append] at this
        exact this
      · rw [if_neg c] at this ⊢
        exact this
  have := key F.length 0 [] (by omega) (by simp)
  rw [List.drop_zero, List.nil_append] at this
  exact this
/-- the set of the lonely seats -/
def lonN (s : Nat) (r : Bool) (T : Nat) : Nat := bld (fun q => !T.testBit q && decide (nearN s r (q : Int) &&& T = 0)) s
theorem lonN_lt (s : Nat) (r : Bool) (T : Nat) (hs : s ≤ 32) : lonN s r T < 4294967296 := bld_lt _ _ hs
theorem bench_lonely_ev (s : Nat) (r : Bool) (T : Nat) (hs : s ≤ 31) (hT : T < 4294967296) : Ev (fun k => impl_bench_lonely.f k (s : Int) r (T : Int)) ((lonN s r T : Nat) : Int) := by
  unfold impl_bench_lonely.f
  refine bld_loop (fun k st i => impl_bench_lonely.l0 k (T : Int) (st : Int) (s : Int) (i : Int) (s : Int) r) (fun q => !T.testBit q && decide (nearN s r (q : Int) &&& T = 0)) s _ ?_ ?_
  · refine Ev.succ ?_
    simp only [impl_bench_lonely.l0.eq_2]
    exact Ev.neg (by omega) (Ev.now _)
  · intro i hi hb x hx
    have hb2 : bld (fun q => !T.testBit q && decide (nearN s r (q : Int) &&& T = 0)) i < 4294967296 := bld_lt _ _ (by omega)
    generalize bld (fun q => !T.testBit q && decide (nearN s r (q : Int) &&& T = 0)) i = st at hb hb2 hx ⊢
    refine Ev.succ ?_
    simp only [impl_bench_lonely.l0.eq_2]
    rw [w64 (by omega) (by omega)]
    refine Ev.pos (by omega) (Ev.bindc (has_bit T i hT) ?_)
    by_cases c : T.testBit i = true
    · rw [c] at hx ⊢
      exact Ev.pos rfl (by simpa using hx)
    · rw [Bool.not_eq_true] at c
      rw [c] at hx ⊢
      refine Ev.neg (by decide) (Ev.bind (near_ev s r (i : Int) (by omega) (by omega)) ?_)
      rw [(u32_nat _ _ (nearN_lt s r (i : Int) (by omega)) hT).1]
      by_cases c2 : nearN s r (i : Int) &&& T = 0
      · rw [c2] at hx ⊢
        refine Ev.pos rfl (Ev.pos (by omega) ?_)
        rw [or_pow_u32 st i hb2 (by omega)]
        simpa using hx
      · refine Ev.neg (by omega) ?_
        have e : decide (nearN s r (i : Int) &&& T = 0) = false := decide_eq_false c2
        rw [e] at hx
        simpa using hx
theorem nearN_bit (s : Nat) (r : Bool) (p : Int) (j : Nat) : (nearN s r p).testBit j = (decide (j < s) && decide (gp (s : Int) r p (j : Int) = 1)) := by unfold nearN; rw [bld_bit]
theorem lonN_bit (s : Nat) (r : Bool) (l : List Int) (hl : ∀ x ∈ l, 0 ≤ x ∧ x < (s : Int)) (q : Nat) : (lonN s r (setN l)).testBit q = true ↔ (q : Int) ∈ lonL s r l := by
  unfold lonN lonL
  rw [bld_bit, List.mem_filter, restL_mem, Bool.and_eq_true, Bool.and_eq_true, decide_eq_true_eq, decide_eq_true_eq, Bool.not_eq_true', setN_bit, decide_eq_false_iff_not]
  have e1 : (∃ p ∈ l, p.toNat = q) ↔ (q : Int) ∈ l := by
    constructor
    · rintro ⟨p, hp, e⟩; have := hl p hp; rwa [show (q : Int) = p by omega]
    · intro h; exact ⟨_, h, by omega⟩
  have e2 : nearN s r (q : Int) &&& setN l = 0 ↔ lonR s r l (q : Int) = true := by
    unfold lonR
    rw [List.all_eq_true]
    constructor
    · intro h y hy
      unfold nearL at hy
      obtain ⟨j, hj, rfl⟩ := List.mem_map.mp hy
      obtain ⟨h1, h2⟩ := List.mem_filter.mp hj
      have hjs := List.mem_range.mp h1
      have hb := congrArg (fun t => t.testBit j) h
      simp only [Nat.testBit_and, nearN_bit, setN_bit, Nat.zero_testBit] at hb
      rw [decide_eq_true hjs, h2, Bool.true_and, Bool.true_and, decide_eq_false_iff_not] at hb
      simp only [Bool.not_eq_true', decide_eq_false_iff_not]
      intro hc
      exact hb ⟨_, hc, by omega⟩
    · intro h
      refine Nat.eq_of_testBit_eq (fun j => ?_)
      rw [Nat.testBit_and, nearN_bit, setN_bit, Nat.zero_testBit, Bool.and_eq_false_iff]
      by_cases c : j < s ∧ gp (s : Int) r (q : Int) (j : Int) = 1
      · right
        rw [decide_eq_false_iff_not]
        rintro ⟨p, hp, e⟩
        have h0 := hl p hp
        have h1 := h (j : Int) (by unfold nearL; exact List.mem_map.mpr ⟨j, List.mem_filter.mpr ⟨List.mem_range.mpr c.1, decide_eq_true c.2⟩, rfl⟩)
        simp only [Bool.not_eq_true', decide_eq_false_iff_not] at h1
        exact h1 (by rwa [show (j : Int) = p by omega])
      · left
        rw [Bool.and_eq_false_iff, decide_eq_false_iff_not, decide_eq_false_iff_not]
        by_cases c1 : j < s
        · exact .inr (fun h2 => c ⟨c1, h2⟩)
        · exact .inl c1
  rw [e1, e2]
  constructor
  · rintro ⟨h1, h2, h3⟩; exact ⟨⟨⟨by omega, by omega⟩, h2⟩, h3⟩
  · rintro ⟨⟨⟨_, h1⟩, h2⟩, h3⟩; exact ⟨by omega, h2, h3⟩
/-- a list of seats in order that stands for a set -/
def Seats (s : Nat) (L : List Int) (T : Nat) : Prop := L.Pairwise (· < ·) ∧ (∀ x ∈ L, 0 ≤ x ∧ x < (s : Int)) ∧ setN L = T
theorem seats_len {s : Nat} {L : List Int} {T : Nat} (h : Seats s L T) : L.length ≤ s := ph_nodup_len s L (pairwise_nodup h.1) h.2.1
theorem seats_put {s : Nat} {L : List Int} {T : Nat} (h : Seats s L T) (p : Int) (hp : 0 ≤ p ∧ p < (s : Int)) (hT : T.testBit p.toNat = false) : p ∉ L ∧ Seats s (putL L p) (T ||| 2 ^ p.toNat) := by
  obtain ⟨h1, h2, h3⟩ := h
  have hn : p ∉ L := fun hc => by
    have := setN_bit L p.toNat
    rw [h3, hT, decide_eq_true ⟨p, hc, rfl⟩] at this; cases this
  refine ⟨hn, putL_sorted L p hn h1, fun x hx => ?_, by rw [putL_set, h3]⟩
  rcases (putL_mem L p x).mp hx with e | e
  · rw [e]; exact hp
  · exact h2 x e
theorem mark_loop (l : List Int) (a : Int) (h0 : 0 ≤ a) (h1 : a ≤ 1000000000) (hl : l.length ≤ 35184372088832) : ∀ (d i : Nat) (acc : List Int), i + d = l.length → acc.length = l.length → (∀ j, j < i → acc[j]? = some (a + (j : Int))) → Ev (fun k => laws_markIntS.l0 k acc (a + (i : Int)) (i : Int)) (a + (l.length : Int), (List.range l.length).map (fun j : Nat => a + (j : Int))) := by
  intro d
  induction d with
  | zero =>
    intro i acc hi ha hj
    refine Ev.succ ?_
    simp only [laws_markIntS.l0.eq_2]
    have : acc = (List.range l.length).map (fun j : Nat => a + (j : Int)) := List.ext_getElem? (fun j => by
      by_cases h : j < i
      · rw [hj j h, List.getElem?_map, List.getElem?_range (by omega)]; rfl
      · rw [List.getElem?_eq_none (by omega), List.getElem?_eq_none (by rw [List.length_map, List.length_range]; omega)])
    rw [show (i : Int) = (l.length : Int) by omega, ← this]
    exact Ev.neg (by omega) (Ev.now _)
  | succ d ih =>
    intro i acc hi ha hj
    refine Ev.succ ?_
    simp only [laws_markIntS.l0.eq_2]
    refine Ev.pos (by omega) (Ev.pos (by omega) ?_)
    rw [w64 (n := (i : Int) + 1) (by omega) (by omega), w64 (by omega) (by omega)]
    rw [show a + (i : Int) + 1 = a + ((i + 1 : Nat) : Int) by omega]
    refine ih (i + 1) _ (by omega) (by simpa using ha) ?_
    intro j h
    rw [Int.toNat_natCast, List.getElem?_set]
    by_cases e : i = j
    · subst e
      rw [if_pos rfl, if_pos (by omega)]
    · rw [if_neg e]; exact hj j (by omega)
theorem mark_ev (l : List Int) (a : Int) (h0 : 0 ≤ a) (h1 : a ≤ 1000000000) (hl : l.length ≤ 35184372088832) : Ev (fun k => laws_markIntS.f k l a) (a + (l.length : Int), (List.range l.length).map (fun j : Nat => a + (j : Int))) := by
  have := mark_loop l a h0 h1 hl l.length 0 l (by omega) rfl (fun j h => by omega)
  simp only [Int.natCast_zero, Int.add_zero] at this
  exact this
theorem held_loop (a : Int) (h0 : 0 ≤ a) (h1 : a ≤ 1000000000) (n : Nat) (hl : n ≤ 35184372088832) : ∀ (d i : Nat), i + d = n → Ev (fun k => laws_heldIntS.l0 k ((List.range n).map (fun j : Nat => a + (j : Int))) (a + (i : Int)) (i : Int)) (a + (n : Int)) := by
  intro d
  have hlen : ((List.range n).map (fun j : Nat => a + (j : Int))).length = n := by rw [List.length_map, List.length_range]
  induction d with
  | zero =>
    intro i hi
    refine Ev.succ ?_
    simp only [laws_heldIntS.l0.eq_2]
    rw [show (i : Int) = (n : Int) by omega]
    exact Ev.neg (by omega) (Ev.now _)
  | succ d ih =>
    intro i hi
    refine Ev.succ ?_
    simp only [laws_heldIntS.l0.eq_2]
    rw [rd_nat _ i (by omega), List.getElem_map, List.getElem_range]
    refine Ev.pos (by omega) (Ev.pos (by omega) (Ev.pos rfl ?_))
    rw [w64 (n := (i : Int) + 1) (by omega) (by omega), w64 (by omega) (by omega)]
    rw [show a + (i : Int) + 1 = a + ((i + 1 : Nat) : Int) by omega]
    exact ih (i + 1) (by omega)
theorem held_ev (a : Int) (h0 : 0 ≤ a) (h1 : a ≤ 1000000000) (n : Nat) (hl : n ≤ 35184372088832) : Ev (fun k => laws_heldIntS.f k ((List.range n).map (fun j : Nat => a + (j : Int))) a) (a + (n : Int)) := by
  have := held_loop a h0 h1 n hl n 0 (by omega)
  simp only [Int.natCast_zero, Int.add_zero] at this
  exact this
/-- a list of marks -/
def mks (n : Nat) : List Int := (List.range n).map (fun j : Nat => 1 + (j : Int))
theorem markRow_ev (s : Int) (r : Bool) (l : List Int) (hl : l.length ≤ 35184372088832) : Ev (fun k => laws_markRow.f k s r l 1) (1 + (l.length : Int), mks l.length) := by
  unfold laws_markRow.f
  exact Ev.bind (f := fun _ t => some (t.1, t.2)) (mark_ev l 1 (by omega) (by omega) hl) (Ev.now _)
theorem heldRow_ev (s : Int) (r : Bool) (n : Nat) (hl : n ≤ 35184372088832) : Ev (fun k => laws_heldRow.f k s r (mks n) 1) (1 + (n : Int)) := by
  unfold laws_heldRow.f
  exact Ev.bind (f := fun _ t => if t < 0 then some (-1) else some t) (held_ev 1 (by omega) (by omega) n hl) (Ev.neg (by omega) (Ev.now _))
/-- the row behind the seats of an order -/
def fillL (s : Nat) (r : Bool) : List Int → List Int → List Int
  | [], L => L
  | p :: o, L => fillL s r o (if p ∈ lonL s r L then putL L p else L)
theorem fill_both (s : Nat) (r : Bool) (tk order : List Int) (hs : s ≤ 12) (ho : ∀ x ∈ order, 0 ≤ x ∧ x < (s : Int)) (hlo : order.length ≤ 1000) :
    ∀ d i, i + d = order.length → ∀ L, Seats s L (setN L) → Ev (fun k => spec_FillBy.l0 k order (i : Int) (s : Int) r L) ((s : Int), r, fillL s r (order.drop i) L, true) ∧ Ev (fun k => impl_FillBy.l0 k ((setN L : Nat) : Int) order (order.length : Int) (i : Int) (s : Int) r tk) ((s : Int), r, fillL s r (order.drop i) L, true) ∧ (fillL s r (order.drop i) L).length ≤ 32 := by
  intro d
  induction d with
  | zero =>
    intro i hi L hL
    rw [List.drop_of_length_le (by omega)]
    have h32 : ∀ x ∈ L, 0 ≤ x ∧ x < 32 := fun x hx => by have := hL.2.1 x hx; omega
    refine ⟨Ev.succ ?_, Ev.succ ?_, by have := seats_len hL; simp only [fillL]; omega⟩
    · simp only [spec_FillBy.l0.eq_2, fillL]
      exact Ev.neg (by omega) (Ev.now _)
    · simp only [impl_FillBy.l0.eq_2, fillL]
      refine Ev.neg (by omega) (Ev.bindc (a := ((s : Int), r)) (by unfold impl_Row_bench.f; rfl) ?_)
      refine Ev.bind (a := ((s : Int), r, L)) ?_ (Ev.now _)
      unfold impl_bench_row.f
      have := list_ev _ (setN_lt L h32)
      rw [listN_setN L h32 hL.1] at this
      exact Ev.bind (f := fun _ t => some ((s : Int), r, t)) this (Ev.now _)
  | succ d ih =>
    intro i hi L hL
    have h32 : ∀ x ∈ L, 0 ≤ x ∧ x < 32 := fun x hx => by have := hL.2.1 x hx; omega
    have hlen := seats_len hL
    have hp := ho _ (List.getElem_mem (show i < order.length by omega))
    rw [List.drop_eq_getElem_cons (show i < order.length by omega)]
    have hbit := lonN_bit s r L hL.2.1 (order[i]).toNat
    rw [Int.toNat_of_nonneg hp.1] at hbit
    have hl2 : (lonL s r L).length ≤ 35184372088832 := by
      unfold lonL; have := List.length_filter_le (lonR s r L) (restL s L); have := restL_len s L; omega
    have hh := has_bit (lonN s r (setN L)) (order[i]).toNat (lonN_lt s r _ (by omega))
    rw [Int.toNat_of_nonneg hp.1] at hh
    simp only [fillL]
    by_cases c : order[i] ∈ lonL s r L
    · have hn : order[i] ∉ L := by
        unfold lonL at c
        exact ((restL_mem s L _).mp (List.mem_filter.mp c).1).2
      have hb : (setN L).testBit (order[i]).toNat = false := by
        rw [setN_bit, decide_eq_false_iff_not]
        rintro ⟨p, hp2, e⟩
        have := h32 p hp2
        exact hn (by rwa [show order[i] = p by omega])
      obtain ⟨_, hL2⟩ := seats_put hL _ hp hb
      have hL3 : Seats s (putL L order[i]) (setN (putL L order[i])) := ⟨hL2.1, hL2.2.1, rfl⟩
      obtain ⟨h1, h2, h3⟩ := ih (i + 1) (by omega) _ hL3
      rw [if_pos c]
      refine ⟨Ev.succ ?_, Ev.succ ?_, h3⟩
      · simp only [spec_FillBy.l0.eq_2]
        rw [rd_getD, getD_lt order i (by omega), w64 (n := (i : Int) + 1) (by omega) (by omega)]
        exact Ev.pos (by omega) (Ev.bind (l2Lonely_ev s r L (by omega) (by omega)) (Ev.pos (by omega) (Ev.bind (has_ev _ _ hl2) (Ev.pos (decide_eq_true c) (Ev.bind (l2With_ev (s : Int) r L _ hn (by omega)) h1)))))
      · simp only [impl_FillBy.l0.eq_2]
        rw [rd_getD, getD_lt order i (by omega), w64 (n := (i : Int) + 1) (by omega) (by omega)]
        refine Ev.pos (by omega) (Ev.pos (by omega) (Ev.pos (by omega) (Ev.bindc (a := ((s : Int), r)) (by unfold impl_Row_bench.f; rfl) ?_)))
        refine Ev.bind (bench_lonely_ev s r (setN L) (by omega) (setN_lt L h32)) (Ev.bindc hh (Ev.pos (hbit.mpr c) (Ev.pos hp.1 ?_)))
        have e := or_pow_u32 (setN L) (order[i]).toNat (setN_lt L h32) (by omega)
        rw [Int.toNat_of_nonneg hp.1, ← putL_set] at e
        rw [e]
        exact h2
    · obtain ⟨h1, h2, h3⟩ := ih (i + 1) (by omega) L hL
      rw [if_neg c]
      refine ⟨Ev.succ ?_, Ev.succ ?_, h3⟩
      · simp only [spec_FillBy.l0.eq_2]
        rw [rd_getD, getD_lt order i (by omega), w64 (n := (i : Int) + 1) (by omega) (by omega)]
        exact Ev.pos (by omega) (Ev.bind (l2Lonely_ev s r L (by omega) (by omega)) (Ev.pos (by omega) (Ev.bind (has_ev _ _ hl2) (Ev.neg (by simpa using c) h1))))
      · simp only [impl_FillBy.l0.eq_2]
        rw [rd_getD, getD_lt order i (by omega), w64 (n := (i : Int) + 1) (by omega) (by omega)]
        refine Ev.pos (by omega) (Ev.pos (by omega) (Ev.pos (by omega) (Ev.bindc (a := ((s : Int), r)) (by unfold impl_Row_bench.f; rfl) ?_)))
        exact Ev.bind (bench_lonely_ev s r (setN L) (by omega) (setN_lt L h32)) (Ev.bindc hh (Ev.neg (fun h => c (hbit.mp h)) h2))

theorem FnExactFillBy : laws_FnExactFillBy.Pure := by
  intro s r tk order _ hl0 hl _ hl10 hl1 _
  have hL : tk.length ≤ 35184372088832 := by omega
  have hL1 : order.length ≤ 35184372088832 := by omega
  refine Ev.rounds (g := fun k => laws_FnExactFillBy.f k s r tk order) ?_
  unfold laws_FnExactFillBy.f
  by_cases hbig : (order.length : Int) > 1048576
  · exact Ev.pos hbig (Ev.now _)
  refine Ev.neg hbig (Ev.bindc (szRow_eq s r tk _ hL (by omega) (by omega)) ?_)
  by_cases hb : (1048576 : Int) - (tk.length : Int) < 0
  · rw [if_pos hb]; exact Ev.pos (by omega) (Ev.now _)
  rw [if_neg hb]
  refine Ev.neg hb ?_
  have no1 : Ev (fun k => spec_FillBy.j0 k order true s r tk) (0, false, [], false) := by
    refine Ev.succ ?_
    simp only [spec_FillBy.j0.eq_2]
    exact Ev.pos trivial (Ev.now _)
  have no2 : Ev (fun k => impl_FillBy.j0 k order true s r tk) (0, false, [], false) := by
    refine Ev.succ ?_
    simp only [impl_FillBy.j0.eq_2]
    exact Ev.pos trivial (Ev.now _)
  have key : ∃ q : Int × Bool × List Int × Bool, Ev (fun k => spec_FillBy.f k s r tk order) q ∧ Ev (fun k => impl_FillBy.f k s r tk order) q ∧ q.2.2.1.length ≤ 32 := by
    obtain ⟨b, hbb⟩ := exists_bool (IsRw s r tk)
    have h1 := l2Row_ev s r tk hL b hbb
    have h2 := isRow_ev s r tk hL b hbb
    unfold spec_FillBy.f impl_FillBy.f spec_l4Row.f impl_isFilled.f
    cases b with
    | false => exact ⟨(0, false, [], false), Ev.bind (Ev.bind h1 (Ev.neg (by decide) (Ev.now _))) (Ev.neg (by decide) no1), Ev.bind (Ev.bind h2 (Ev.neg (by decide) (Ev.now _))) (Ev.neg (by decide) no2), by simp⟩
    | true =>
      have hW := hbb.mp rfl
      obtain ⟨S, rfl⟩ : ∃ S : Nat, s = (S : Int) := ⟨s.toNat, by have := hW.1; omega⟩
      have hS := hW.1
      by_cases h12 : (S : Int) ≤ 12
      · have h3 : Ev (fun k => (spec_l2Row.f k (S : Int) r tk).bind fun t112 => (if t112 = true then (some (decide ((S : Int) ≤ 12))) else (some false))) true := Ev.bind h1 (Ev.pos rfl (by rw [decide_eq_true h12]; exact Ev.now _))
        have h4 : Ev (fun k => (impl_IsRow.f k (S : Int) r tk).bind fun t282 => (if t282 = true then (some (decide ((S : Int) ≤ 12))) else (some false))) true := Ev.bind h2 (Ev.pos rfl (by rw [decide_eq_true h12]; exact Ev.now _))
        have h5 := l4Order_ev order (S : Int) (by omega) (by omega) hL1
        have h6 := isOrder_ev order (S : Int) (by omega) (by omega) hL1
        by_cases ho : IsOrd order (S : Int)
        · rw [decide_eq_true ho] at h5 h6
          obtain ⟨k1, k2, k3⟩ := fill_both S r tk order (by omega) (ord_range ho) (by have := ho.1; omega) order.length 0 (by omega) tk ⟨hW.2.2.2, hW.2.2.1, rfl⟩
          refine ⟨((S : Int), r, fillL S r (List.drop 0 order) tk, true), Ev.bind h3 (Ev.pos rfl (Ev.bind h5 (Ev.succ ?_))), Ev.bind h4 (Ev.pos rfl (Ev.bind h6 (Ev.succ ?_))), k3⟩
          · simp only [spec_FillBy.j0.eq_2]
            exact Ev.neg (by decide) (Ev.bindc (l1Own_eq tk (by omega)) (Ev.bindc (a := ((S : Int), r, tk)) (by unfold spec_l2Made.f; rfl) k1))
          · simp only [impl_FillBy.j0.eq_2]
            refine Ev.neg (by decide) (Ev.bind (a := ((setN tk : Nat) : Int)) ?_ k2)
            unfold impl_Row_taken.f
            exact Ev.bind (f := fun _ t => some t) (setOf_ev tk (fun x hx => by have := hW.2.2.1 x hx; omega) hL) (Ev.now _)
        · rw [decide_eq_false ho] at h5 h6
          exact ⟨(0, false, [], false), Ev.bind h3 (Ev.pos rfl (Ev.bind h5 no1)), Ev.bind h4 (Ev.pos rfl (Ev.bind h6 no2)), by simp⟩
      · exact ⟨(0, false, [], false), Ev.bind (Ev.bind h1 (Ev.pos rfl (by rw [decide_eq_false h12]; exact Ev.now _))) (Ev.neg (by decide) no1), Ev.bind (Ev.bind h2 (Ev.pos rfl (by rw [decide_eq_false h12]; exact Ev.now _))) (Ev.neg (by decide) no2), by simp⟩
  obtain ⟨⟨q1, q2, q3, q4⟩, h, h', hq⟩ := key
  simp only at hq
  have ht := toRow_ev s r tk hL
  have hi := toIntS_ev order hL1
  have hq' : q3.length ≤ 35184372088832 := by omega
  have he := eqRow_ev q1 q2 q3 hq'
  have hm1 := mark_ev order (1 + (tk.length : Int)) (by omega) (by omega) hL1
  refine Ev.bind ht (Ev.bind hi (Ev.bind h (Ev.bind ht (Ev.bind hi (Ev.bind h' (Ev.bind he (Ev.pos rfl (Ev.succ ?_))))))))
  simp only [laws_FnExactFillBy.j0.eq_2]
  refine Ev.neg (by simp) (Ev.bind ht (Ev.bind (eqRow_ev s r tk hL) (Ev.pos rfl (Ev.bind hi (Ev.bind (eqIntS_ev order hL1) (Ev.pos (by trivial) (Ev.bind (markRow_ev s r tk hL) (Ev.bind hm1 (Ev.neg (by simp only; omega) (Ev.bind he (Ev.pos rfl (Ev.succ ?_))))))))))))
  simp only [laws_FnExactFillBy.j1.eq_2]
  refine Ev.neg (by simp) (Ev.bind (markRow_ev q1 q2 q3 hq') (Ev.bind (heldRow_ev q1 q2 q3.length hq') (Ev.neg (by omega) (Ev.pos rfl (Ev.bind ht (Ev.bind hi (Ev.bind h' (Ev.bind he (Ev.pos rfl (Ev.succ ?_))))))))))
  simp only [laws_FnExactFillBy.j2.eq_2]
  exact Ev.neg (by simp) (Ev.bind (heldRow_ev q1 q2 q3.length hq') (Ev.neg (by omega) (Ev.pos rfl (Ev.now _))))

end Go.Proofs.YtleibfiegkoblaaDoor.Pure
