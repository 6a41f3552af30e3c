/- Proved: FnExactMovesOf's pure statement, for all arguments. -/
import Derived.Test.YtkjnjfgbffbiiaaPFnExactMovesOfx5
namespace Go.Proofs.Ytkjnjfgbffbiiaa.Pure
open Go.RowKit Go.Proofs.Ytkjnjfgbffbiiaa.PFnExactMovesOf Go.Proofs.YtkjnjfgbffbiiaaW.PrintWords Go.Proofs.YtkjnjfgbffbiiaaW.PrintLast Go.Proofs.YtkjnjfgbffbiiaaW.PrintMore
set_option linter.unusedVariables false

theorem Ev.pos {α : Type} {c : Prop} [Decidable c] {f g : Nat → Option α} {r : α} (h : c) (k : Ev f r) : Ev (fun m => if c then f m else g m) r :=
  Ev.congr (fun _ => if_pos h) k
theorem Ev.neg {α : Type} {c : Prop} [Decidable c] {f g : Nat → Option α} {r : α} (h : ¬ c) (k : Ev g r) : Ev (fun m => if c then f m else g m) r :=
  Ev.congr (fun _ => if_neg h) k
theorem Ev.bindc {α β : Type} {x : Option α} {f : Nat → α → Option β} {a : α} {r : β} (h : x = some a) (k : Ev (fun n => f n a) r) : Ev (fun n => x.bind (f n)) r := by
  subst h; exact k
theorem Ev.succ {α : Type} {g : Nat → Option α} {r : α} (k : Ev (fun n => g (n + 1)) r) : Ev g r := Ev.step (fun _ => rfl) k
theorem Ev.unique {α : Type} {g : Nat → Option α} {r q : α} (h : Ev g r) (k : Ev g q) : r = q := by
  obtain ⟨K, hK⟩ := h; obtain ⟨L, hL⟩ := k
  have := (hK (max K L) (Nat.le_max_left _ _)).symm.trans (hL (max K L) (Nat.le_max_right _ _))
  exact Option.some.inj this
theorem w64 {n : Int} (h0 : -9223372036854775808 ≤ n) (h1 : n < 9223372036854775808) : wrap64 n = n := by unfold wrap64; omega
theorem rd_nat (l : List Int) (i : Nat) (h : i < l.length) : rd l (i : Int) = l[i] := by
  unfold rd; rw [Int.toNat_natCast, List.getD_eq_getElem?_getD, List.getElem?_eq_getElem h]; rfl
theorem lit_i64 {x : Int} (h : (Lit.int .i64 x).wf = true) : -9223372036854775808 ≤ x ∧ x < 9223372036854775808 := by
  simp [Lit.wf, IntKind.min, IntKind.max, IntKind.bits, IntKind.signed] at h; omega
/-- a loop that ends early, with one answer, where P fails -/
theorem ev_all {α : Type} (L : Nat → Nat → Option α) (n : Nat) (P : Nat → Prop) (rEnd : α)
    (hend : Ev (fun k => L k n) rEnd) (hgood : ∀ i, i < n → P i → ∀ r, Ev (fun k => L k (i + 1)) r → Ev (fun k => L k i) r)
    (i : Nat) (hi : i ≤ n) (h : ∀ j, i ≤ j → j < n → P j) : Ev (fun k => L k i) rEnd := by
  obtain ⟨d, hd⟩ : ∃ d, i + d = n := ⟨n - i, by omega⟩
  induction d generalizing i with
  | zero => rw [show i = n by omega]; exact hend
  | succ d ih => exact hgood i (by omega) (h i (by omega) (by omega)) _ (ih (i + 1) (by omega) (fun j h1 h2 => h j (by omega) h2) (by omega))
theorem ev_bad {α : Type} (L : Nat → Nat → Option α) (n : Nat) (P : Nat → Prop) (rBad : α)
    (hgood : ∀ i, i < n → P i → ∀ r, Ev (fun k => L k (i + 1)) r → Ev (fun k => L k i) r) (hbad : ∀ i, i < n → ¬ P i → Ev (fun k => L k i) rBad)
    (i : Nat) (h : ∃ j, i ≤ j ∧ j < n ∧ ¬ P j) : Ev (fun k => L k i) rBad := by
  obtain ⟨j, h1, h2, h3⟩ := h
  obtain ⟨d, hd⟩ : ∃ d, i + d = j := ⟨j - i, by omega⟩
  induction d generalizing i with
  | zero => rw [show i = j by omega]; exact hbad j h2 h3
  | succ d ih =>
    by_cases hp : P i
    · exact hgood i (by omega) hp _ (ih (i + 1) (by omega) (by omega))
    · exact hbad i (by omega) hp
theorem ev_dec {α : Type} (L : Nat → Nat → Option α) (n : Nat) (P : Nat → Prop) [DecidablePred P] (f : Bool → α)
    (hend : Ev (fun k => L k n) (f true)) (hgood : ∀ i, i < n → P i → ∀ r, Ev (fun k => L k (i + 1)) r → Ev (fun k => L k i) r)
    (hbad : ∀ i, i < n → ¬ P i → Ev (fun k => L k i) (f false)) (b : Bool) (hb : b = true ↔ ∀ j, j < n → P j) : Ev (fun k => L k 0) (f b) := by
  cases b with
  | true => exact ev_all L n P (f true) hend hgood 0 (by omega) (fun j _ h => hb.mp rfl j h)
  | false =>
    refine ev_bad L n P (f false) hgood hbad 0 ?_
    by_cases h : ∀ j, j < n → P j
    · exact absurd (hb.mpr h) (by decide)
    · have : ∃ j, ¬ (j < n → P j) := Classical.not_forall.mp h
      obtain ⟨j, hj⟩ := this
      exact ⟨j, by omega, Decidable.byContradiction (fun c => hj (fun h2 => absurd h2 c)), fun c => hj (fun _ => c)⟩
/-- a loop with a state -/
def iterFrom {σ : Type} (g : Nat → σ → σ) : Nat → Nat → σ → σ
  | 0, _, s => s
  | d + 1, i, s => iterFrom g d (i + 1) (g i s)
theorem ev_iter {σ α : Type} (L : Nat → σ → Nat → Option α) (n : Nat) (g : Nat → σ → σ) (fin : σ → α) (I : Nat → σ → Prop)
    (hend : ∀ s, I n s → Ev (fun k => L k s n) (fin s)) (hI : ∀ i s, i < n → I i s → I (i + 1) (g i s))
    (hstep : ∀ i s, i < n → I i s → ∀ r, Ev (fun k => L k (g i s) (i + 1)) r → Ev (fun k => L k s i) r) :
    ∀ (d i : Nat) (s : σ), i + d = n → I i s → Ev (fun k => L k s i) (fin (iterFrom g d i s)) := by
  intro d
  induction d with
  | zero => intro i s hi hs; rw [show i = n by omega] at hs ⊢; exact hend s hs
  | succ d ih => intro i s hi hs; exact hstep i s (by omega) hs _ (ih (i + 1) (g i s) (by omega) (hI i s (by omega) hs))
theorem toIntS_loop (l : List Int) (hl : l.length ≤ 35184372088832) : ∀ (d i : Nat) (acc : List Int), i + d = l.length → acc.length = l.length → (∀ j, j < i → acc[j]? = l[j]?) → Ev (fun k => laws_toIntS.l0 k l acc (i : Int)) l := by
  intro d
  induction d with
  | zero =>
    intro i acc hi ha hj
    refine Ev.succ ?_
    simp only [laws_toIntS.l0.eq_2]
    refine Ev.neg (by omega) ?_
    have : acc = l := List.ext_getElem? (fun j => by
      by_cases h : j < i
      · exact hj j h
      · rw [List.getElem?_eq_none (by omega), List.getElem?_eq_none (by omega)])
    rw [this]; exact Ev.now _
  | succ d ih =>
    intro i acc hi ha hj
    refine Ev.succ ?_
    simp only [laws_toIntS.l0.eq_2]
    refine Ev.pos (by omega) (Ev.pos (by omega) (Ev.pos (by omega) ?_))
    rw [w64 (by omega) (by omega)]
    refine ih (i + 1) _ (by omega) (by simpa using ha) ?_
    intro j h
    rw [Int.toNat_natCast, List.getElem?_set]
    by_cases e : i = j
    · subst e
      rw [if_pos rfl, if_pos (by omega), rd_nat l i (by omega), List.getElem?_eq_getElem]
    · rw [if_neg e]; exact hj j (by omega)
theorem toIntS_ev (l : List Int) (hl : l.length ≤ 35184372088832) : Ev (fun k => laws_toIntS.f k l) l := by
  unfold laws_toIntS.f
  refine Ev.pos (by omega) (Ev.pos (by omega) ?_)
  exact toIntS_loop l hl l.length 0 _ (by omega) (by simp) (fun j h => by omega)
theorem eqIntS_loop (l : List Int) (hl : l.length ≤ 35184372088832) : ∀ (d i : Nat), i + d = l.length → Ev (fun k => laws_eqIntS.l0 k l l (i : Int)) true := by
  intro d
  induction d with
  | zero =>
    intro i hi
    refine Ev.succ ?_
    simp only [laws_eqIntS.l0.eq_2]
    exact Ev.neg (by omega) (Ev.now _)
  | succ d ih =>
    intro i hi
    refine Ev.succ ?_
    simp only [laws_eqIntS.l0.eq_2]
    refine Ev.pos (by omega) (Ev.pos (by omega) (Ev.pos (by omega) (Ev.pos (by trivial) ?_)))
    rw [w64 (by omega) (by omega)]
    exact ih (i + 1) (by omega)
theorem eqIntS_ev (l : List Int) (hl : l.length ≤ 35184372088832) : Ev (fun k => laws_eqIntS.f k l l) true := by
  unfold laws_eqIntS.f
  exact Ev.pos rfl (eqIntS_loop l hl l.length 0 (by omega))
theorem within_eq (a b c : Int) : impl_within.f a b c = some (decide (b ≤ a ∧ a ≤ c)) := by
  unfold impl_within.f
  by_cases h : a ≥ b
  · rw [if_pos h]; simp [show b ≤ a from h]
  · rw [if_neg h]; simp [show ¬ b ≤ a from h]
theorem l1In_eq (a b c : Int) : spec_l1In.f a b c = some (decide (b ≤ a ∧ a ≤ c)) := by
  unfold spec_l1In.f
  by_cases h : a ≥ b
  · rw [if_pos h]; simp [show b ≤ a from h]
  · rw [if_neg h]; simp [show ¬ b ≤ a from h]
theorem allWithin_loop (l : List Int) (lo hi : Int) (hl : l.length ≤ 35184372088832) : ∀ (d i : Nat), i + d = l.length → Ev (fun k => impl_allWithin.l0 k lo hi l (l.length : Int) (i : Int)) (decide (∀ x ∈ l.drop i, lo ≤ x ∧ x ≤ hi)) := by
  intro d
  induction d with
  | zero =>
    intro i hi
    refine Ev.succ ?_
    simp only [impl_allWithin.l0.eq_2]
    rw [List.drop_of_length_le (by omega)]
    exact Ev.neg (by omega) (by simp; exact Ev.now _)
  | succ d ih =>
    intro i hi'
    refine Ev.succ ?_
    simp only [impl_allWithin.l0.eq_2]
    refine Ev.pos (by omega) (Ev.pos (by omega) (Ev.pos (by omega) (Ev.bindc (within_eq _ _ _) ?_)))
    have hd : l.drop i = l[i] :: l.drop (i + 1) := (List.drop_eq_getElem_cons (by omega))
    rw [rd_nat l i (by omega)]
    by_cases e : lo ≤ l[i] ∧ l[i] ≤ hi
    · refine Ev.pos (decide_eq_true e) ?_
      rw [w64 (by omega) (by omega)]
      have e1 : (∀ x ∈ l.drop i, lo ≤ x ∧ x ≤ hi) ↔ (∀ x ∈ l.drop (i + 1), lo ≤ x ∧ x ≤ hi) := by rw [hd]; simp only [List.mem_cons, forall_eq_or_imp, e, true_and]
      rw [decide_eq_decide.mpr e1]
      exact ih (i + 1) (by omega)
    · rw [show decide (∀ x ∈ l.drop i, lo ≤ x ∧ x ≤ hi) = false by rw [hd]; simp only [List.mem_cons, forall_eq_or_imp, decide_eq_false_iff_not]; exact fun h => e h.1]
      exact Ev.neg (by simpa using e) (Ev.now _)
theorem allWithin_ev (l : List Int) (lo hi : Int) (hl : l.length ≤ 35184372088832) : Ev (fun k => impl_allWithin.f k l lo hi) (decide (∀ x ∈ l, lo ≤ x ∧ x ≤ hi)) := allWithin_loop l lo hi hl l.length 0 (by omega)
theorem has_loop (l : List Int) (x : Int) (hl : l.length ≤ 35184372088832) : ∀ (d i : Nat), i + d = l.length → Ev (fun k => spec_l1Has.l0 k l x (i : Int)) (decide (x ∈ l.drop i)) := by
  intro d
  induction d with
  | zero =>
    intro i hi
    refine Ev.succ ?_
    simp only [spec_l1Has.l0.eq_2]
    rw [List.drop_of_length_le (by omega)]
    exact Ev.neg (by omega) (Ev.now _)
  | succ d ih =>
    intro i hi
    refine Ev.succ ?_
    simp only [spec_l1Has.l0.eq_2]
    refine Ev.pos (by omega) (Ev.pos (by omega) ?_)
    have hd : l.drop i = l[i] :: l.drop (i + 1) := (List.drop_eq_getElem_cons (by omega))
    rw [rd_nat l i (by omega)]
    by_cases e : l[i] = x
    · rw [show decide (x ∈ l.drop i) = true by rw [hd]; simp [e]]
      exact Ev.pos e (Ev.now _)
    · refine Ev.neg e ?_
      rw [w64 (by omega) (by omega)]
      have := ih (i + 1) (by omega)
      rw [show decide (x ∈ l.drop i) = decide (x ∈ l.drop (i + 1)) by rw [hd]; simp only [List.mem_cons, Ne.symm e, false_or]]
      exact this
theorem has_ev (l : List Int) (x : Int) (hl : l.length ≤ 35184372088832) : Ev (fun k => spec_l1Has.f k l x) (decide (x ∈ l)) := has_loop l x hl l.length 0 (by omega)
def pc : Nat → Nat → Nat
  | 0, _ => 0
  | k + 1, n => n % 2 + pc k (n / 2)
theorem pc_add (a b n : Nat) : pc (a + b) n = pc a n + pc b (n / 2 ^ a) := by
  induction a generalizing n with
  | zero => simp [pc]
  | succ a ih =>
    rw [show a + 1 + b = (a + b) + 1 by omega]
    simp only [pc]
    rw [ih, Nat.div_div_eq_div_mul, Nat.pow_succ, Nat.mul_comm 2 (2 ^ a)]
    omega
theorem pc_mod (k n : Nat) : pc k (n % 2 ^ k) = pc k n := by
  induction k generalizing n with
  | zero => rfl
  | succ k ih =>
    simp only [pc]
    rw [show n % 2 ^ (k + 1) % 2 = n % 2 by rw [Nat.pow_succ]; exact Nat.mod_mul_left_mod n (2 ^ k) 2]
    rw [show n % 2 ^ (k + 1) / 2 = (n / 2) % 2 ^ k by rw [Nat.pow_succ, Nat.mul_comm]; exact Nat.mod_mul_right_div_self n 2 (2 ^ k)]
    rw [ih]
theorem pc_le (k n : Nat) : pc k n ≤ k := by
  induction k generalizing n with
  | zero => exact Nat.le_refl _
  | succ k ih => have := ih (n / 2); simp only [pc]; omega
theorem u32_nat (a b : Nat) (ha : a < 4294967296) (hb : b < 4294967296) : Go.bits .and .u32 (a : Int) (b : Int) = ((a &&& b : Nat) : Int) ∧ Go.bits .or .u32 (a : Int) (b : Int) = ((a ||| b : Nat) : Int) :=
  bits_nat .u32 32 (by decide) (fun n h0 h1 => by rw [IntKind.wrap_u32]; omega) a b (by omega) (by omega)
theorem pc_count (k n : Nat) : pc k n = (List.range k).countP (fun i => n.testBit i) := by
  induction k generalizing n with
  | zero => rfl
  | succ k ih =>
    rw [List.range_succ_eq_map, List.countP_cons, List.countP_map]
    simp only [pc]
    rw [ih, Nat.add_comm]
    congr 1
    · apply List.countP_congr
      intro i _
      simp [Nat.testBit_succ]
    · rw [Nat.testBit_zero]
      by_cases h : n % 2 = 1
      · simp [h]
      · have : n % 2 = 0 := by omega
        simp [this]
def onesTab : ByteArray := ⟨#[0, 1, 1, 2, 1, 2, 2, 3, 1, 2, 2, 3, 2, 3, 3, 4, 1, 2, 2, 3, 2, 3, 3, 4, 2, 3, 3, 4, 3, 4, 4, 5, 1, 2, 2, 3, 2, 3, 3, 4, 2, 3, 3, 4, 3, 4, 4, 5, 2, 3, 3, 4, 3, 4, 4, 5, 3, 4, 4, 5, 4, 5, 5, 6, 1, 2, 2, 3, 2, 3, 3, 4, 2, 3, 3, 4, 3, 4, 4, 5, 2, 3, 3, 4, 3, 4, 4, 5, 3, 4, 4, 5, 4, 5, 5, 6, 2, 3, 3, 4, 3, 4, 4, 5, 3, 4, 4, 5, 4, 5, 5, 6, 3, 4, 4, 5, 4, 5, 5, 6, 4, 5, 5, 6, 5, 6, 6, 7, 1, 2, 2, 3, 2, 3, 3, 4, 2, 3, 3, 4, 3, 4, 4, 5, 2, 3, 3, 4, 3, 4, 4, 5, 3, 4, 4, 5, 4, 5, 5, 6, 2, 3, 3, 4, 3, 4, 4, 5, 3, 4, 4, 5, 4, 5, 5, 6, 3, 4, 4, 5, 4, 5, 5, 6, 4, 5, 5, 6, 5, 6, 6, 7, 2, 3, 3, 4, 3, 4, 4, 5, 3, 4, 4, 5, 4, 5, 5, 6, 3, 4, 4, 5, 4, 5, 5, 6, 4, 5, 5, 6, 5, 6, 6, 7, 3, 4, 4, 5, 4, 5, 5, 6, 4, 5, 5, 6, 5, 6, 6, 7, 4, 5, 5, 6, 5, 6, 6, 7, 5, 6, 6, 7, 6, 7, 7, 8]⟩
theorem onesTab_pc : ∀ i : Fin 256, bt onesTab ((i.val : Nat) : Int) = ((pc 8 i.val : Nat) : Int) := by decide +kernel
theorem onesTab_at (n : Nat) (h : n < 256) : bt onesTab (n : Int) = ((pc 8 n : Nat) : Int) := onesTab_pc ⟨n, h⟩
theorem u32_byte (n : Nat) (h : n < 4294967296) : Go.bits .and .u32 (n : Int) 255 = ((n % 256 : Nat) : Int) := by
  have := (u32_nat n 255 h (by omega)).1
  rw [show ((255 : Nat) : Int) = 255 from rfl] at this
  rw [this, show 255 = 2 ^ 8 - 1 from rfl, Nat.and_two_pow_sub_one_eq_mod]
theorem ones_tab (a0 : Int) : bits_OnesCount32.f a0 = if 0 ≤ (a0 / 16777216) then (if (a0 / 16777216) < 256 then (if 0 ≤ (Go.bits .and .u32 (a0 / 65536) 255) then (if (Go.bits .and .u32 (a0 / 65536) 255) < 256 then (if 0 ≤ (Go.bits .and .u32 (a0 / 256) 255) then (if (Go.bits .and .u32 (a0 / 256) 255) < 256 then (if 0 ≤ (Go.bits .and .u32 a0 255) then (if (Go.bits .and .u32 a0 255) < 256 then (some ((((((bt onesTab (a0 / 16777216)) + (bt onesTab (Go.bits .and .u32 (a0 / 65536) 255))) % 256) + (bt onesTab (Go.bits .and .u32 (a0 / 256) 255))) % 256 + (bt onesTab (Go.bits .and .u32 a0 255))) % 256)) else (none)) else (none)) else (none)) else (none)) else (none)) else (none)) else (none)) else (none) := rfl
theorem ones_eq (n : Nat) (h : n < 4294967296) : bits_OnesCount32.f (n : Int) = some ((pc 32 n : Nat) : Int) := by
  have e1 : (n : Int) / 16777216 = ((n / 16777216 : Nat) : Int) := by omega
  have e2 : (n : Int) / 65536 = ((n / 65536 : Nat) : Int) := by omega
  have e3 : (n : Int) / 256 = ((n / 256 : Nat) : Int) := by omega
  rw [ones_tab, e1, e2, e3, u32_byte _ (by omega), u32_byte _ (by omega), u32_byte _ (by omega)]
  rw [onesTab_at _ (by omega), onesTab_at _ (by omega), onesTab_at _ (by omega), onesTab_at _ (by omega)]
  rw [if_pos (Int.natCast_nonneg _), if_pos (by omega), if_pos (Int.natCast_nonneg _), if_pos (by omega), if_pos (Int.natCast_nonneg _), if_pos (by omega), if_pos (Int.natCast_nonneg _), if_pos (by omega)]
  have p4 : pc 32 n = pc 8 (n % 256) + pc 8 (n / 256 % 256) + pc 8 (n / 65536 % 256) + pc 8 (n / 16777216) := by
    have a0 : pc 32 n = pc 8 n + (pc 8 (n / 256) + (pc 8 (n / 256 / 256) + pc 8 (n / 256 / 256 / 256))) := by
      rw [show pc 32 n = pc (8 + (8 + (8 + 8))) n from rfl, pc_add, pc_add, pc_add]
    have a1 : pc 8 (n % 256) = pc 8 n := pc_mod 8 n
    have a2 : pc 8 (n / 256 % 256) = pc 8 (n / 256) := pc_mod 8 (n / 256)
    have a3 : pc 8 (n / 65536 % 256) = pc 8 (n / 65536) := pc_mod 8 (n / 65536)
    rw [show n / 256 / 256 / 256 = n / 16777216 by omega, show n / 256 / 256 = n / 65536 by omega] at a0
    rw [a0, a1, a2, a3]; omega
  rw [p4]
  have b1 := pc_le 8 (n % 256)
  have b2 := pc_le 8 (n / 256 % 256)
  have b3 := pc_le 8 (n / 65536 % 256)
  have b4 := pc_le 8 (n / 16777216)
  refine congrArg some ?_
  generalize pc 8 (n % 256) = c1 at *
  generalize pc 8 (n / 256 % 256) = c2 at *
  generalize pc 8 (n / 65536 % 256) = c3 at *
  generalize h4 : pc 8 (n / 16777216) = c4 at *
  have : n / 16777216 % 256 = n / 16777216 := by omega
  omega
/-- the set of some seats -/
def setN (l : List Int) : Nat := l.foldl (fun s p => s ||| 2 ^ p.toNat) 0
theorem foldl_or_bit (l : List Int) (s j : Nat) : (l.foldl (fun s p => s ||| 2 ^ p.toNat) s).testBit j = (s.testBit j || decide (∃ p ∈ l, p.toNat = j)) := by
  induction l generalizing s with
  | nil => simp
  | cons p l ih =>
    rw [List.foldl_cons, ih, Nat.testBit_or, Nat.testBit_two_pow]
    simp only [List.mem_cons, exists_eq_or_imp, Bool.decide_or, Bool.or_assoc]
theorem setN_bit (l : List Int) (j : Nat) : (setN l).testBit j = decide (∃ p ∈ l, p.toNat = j) := by
  unfold setN; rw [foldl_or_bit]; simp
theorem setN_lt (l : List Int) (h : ∀ x ∈ l, 0 ≤ x ∧ x < 32) : setN l < 4294967296 := by
  refine Nat.lt_pow_two_of_testBit (n := 32) _ (fun j hj => ?_)
  rw [setN_bit]
  simp only [decide_eq_false_iff_not, not_exists, not_and]
  intro x hx e
  have := h x hx
  omega
theorem setN_take (l : List Int) (i : Nat) (h : i < l.length) : setN (l.take (i + 1)) = setN (l.take i) ||| 2 ^ (l[i]).toNat := by
  unfold setN
  rw [List.take_succ_eq_append_getElem h, List.foldl_append]
  rfl
theorem two_pow_lt32 (p : Int) (h0 : 0 ≤ p) (h1 : p < 32) : 2 ^ p.toNat < 4294967296 := Nat.pow_lt_pow_right (m := p.toNat) (n := 32) (by decide) (by omega)
theorem shl_u32_one (p : Int) (h0 : 0 ≤ p) (h1 : p < 32) : shl .u32 1 p = ((2 ^ p.toNat : Nat) : Int) := by
  unfold shl
  rw [Nat.min_eq_left (by simp [IntKind.bits]; omega), IntKind.wrap_u32]
  have e : (1 * 2 ^ p.toNat : Int) = ((2 ^ p.toNat : Nat) : Int) := by rw [Int.one_mul]; push_cast; rfl
  rw [e]; exact Int.emod_eq_of_lt (Int.natCast_nonneg _) (Int.ofNat_lt.mpr (two_pow_lt32 p h0 h1))
theorem setOf_loop (l : List Int) (h : ∀ x ∈ l, 0 ≤ x ∧ x < 32) (hl : l.length ≤ 35184372088832) : ∀ (d i : Nat), i + d = l.length → Ev (fun k => impl_setOf.l0 k (setN (l.take i) : Int) l (l.length : Int) (i : Int)) (setN l : Int) := by
  intro d
  induction d with
  | zero =>
    intro i hi
    refine Ev.succ ?_
    simp only [impl_setOf.l0.eq_2]
    rw [List.take_of_length_le (by omega)]
    exact Ev.neg (by omega) (Ev.now _)
  | succ d ih =>
    intro i hi
    refine Ev.succ ?_
    simp only [impl_setOf.l0.eq_2]
    have hx := h (l[i]) (List.getElem_mem (by omega))
    rw [rd_nat l i (by omega)]
    refine Ev.pos (by omega) (Ev.pos (by omega) (Ev.pos (by omega) (Ev.pos hx.1 ?_)))
    rw [w64 (by omega) (by omega), shl_u32_one _ hx.1 hx.2]
    rw [(u32_nat _ _ (setN_lt _ (fun x hx => h x (List.mem_of_mem_take hx))) (two_pow_lt32 _ hx.1 hx.2)).2, ← setN_take l i (by omega)]
    exact ih (i + 1) (by omega)
theorem setOf_ev (l : List Int) (h : ∀ x ∈ l, 0 ≤ x ∧ x < 32) (hl : l.length ≤ 35184372088832) : Ev (fun k => impl_setOf.f k l) (setN l : Int) := setOf_loop l h hl l.length 0 (by omega)
theorem count_eq (n : Nat) (h : n < 4294967296) : impl_set_count.f (n : Int) = some ((pc 32 n : Nat) : Int) := by
  unfold impl_set_count.f; rw [ones_eq n h]; rfl
/-- a list that has each number less than n once -/
def IsOrd (l : List Int) (n : Int) : Prop := (l.length : Int) = n ∧ ∀ i : Nat, (i : Int) < n → (i : Int) ∈ l
theorem ph_len : ∀ (n : Nat) (l : List Int), (∀ i : Nat, i < n → (i : Int) ∈ l) → n ≤ l.length := by
  intro n
  induction n with
  | zero => intro l _; omega
  | succ n ih =>
    intro l h
    have hm := h n (by omega)
    have := ih (l.erase (n : Int)) (fun i hi => (List.mem_erase_of_ne (by omega)).mpr (h i (by omega)))
    rw [List.length_erase_of_mem hm] at this
    have : 0 < l.length := List.length_pos_of_mem hm
    omega
theorem ph_range : ∀ (n : Nat) (l : List Int), l.length = n → (∀ i : Nat, i < n → (i : Int) ∈ l) → ∀ x ∈ l, 0 ≤ x ∧ x < (n : Int) := by
  intro n
  induction n with
  | zero => intro l hl _ x hx; rw [List.length_eq_zero_iff.mp hl] at hx; cases hx
  | succ n ih =>
    intro l hl h x hx
    have hm := h n (by omega)
    by_cases e : x = (n : Int)
    · omega
    · have := ih (l.erase (n : Int)) (by rw [List.length_erase_of_mem hm]; omega) (fun i hi => (List.mem_erase_of_ne (by omega)).mpr (h i (by omega))) x ((List.mem_erase_of_ne e).mpr hx)
      omega
theorem ph_nodup_len : ∀ (m : Nat) (l : List Int), l.Nodup → (∀ x ∈ l, 0 ≤ x ∧ x < (m : Int)) → l.length ≤ m := by
  intro m
  induction m with
  | zero =>
    intro l _ h
    cases l with
    | nil => simp
    | cons x l => have := h x (by simp); omega
  | succ m ih =>
    intro l hn h
    by_cases hm : (m : Int) ∈ l
    · have := ih (l.erase (m : Int)) (hn.erase _) (fun x hx => by
        have h1 := h x (List.mem_of_mem_erase hx)
        have h2 : x ≠ (m : Int) := fun e => by subst e; exact (List.Nodup.not_mem_erase hn) hx
        omega)
      rw [List.length_erase_of_mem hm] at this
      omega
    · have := ih l hn (fun x hx => by
        have h1 := h x hx
        have h2 : x ≠ (m : Int) := fun e => by subst e; exact hm hx
        omega)
      omega
theorem ord_range {l : List Int} {n : Int} (h : IsOrd l n) : ∀ x ∈ l, 0 ≤ x ∧ x < n := by
  obtain ⟨h1, h2⟩ := h
  have := ph_range l.length l rfl (fun i hi => h2 i (by omega))
  intro x hx; have := this x hx; omega
theorem ord_of_nodup {l : List Int} {n : Int} (hl : (l.length : Int) = n) (hn : l.Nodup) (hr : ∀ x ∈ l, 0 ≤ x ∧ x < n) : IsOrd l n := by
  refine ⟨hl, fun i hi => ?_⟩
  by_cases hm : (i : Int) ∈ l
  · exact hm
  · have := ph_nodup_len l.length ((i : Int) :: l) (List.nodup_cons.mpr ⟨hm, hn⟩) (fun x hx => by
      rcases List.mem_cons.mp hx with rfl | hx
      · omega
      · have := hr x hx; omega)
    rw [List.length_cons] at this; omega
theorem ord_nodup : ∀ (n : Nat) (l : List Int), l.length = n → (∀ i : Nat, i < n → (i : Int) ∈ l) → l.Nodup := by
  intro n
  induction n with
  | zero => intro l hl _; rw [List.length_eq_zero_iff.mp hl]; exact List.nodup_nil
  | succ n ih =>
    intro l hl h
    have hm := h n (by omega)
    have hl' : (l.erase (n : Int)).length = n := by rw [List.length_erase_of_mem hm]; omega
    have h' : ∀ i : Nat, i < n → (i : Int) ∈ l.erase (n : Int) := fun i hi => (List.mem_erase_of_ne (by omega)).mpr (h i (by omega))
    have hn : (n : Int) ∉ l.erase (n : Int) := fun hc => by have := ph_range n _ hl' h' _ hc; omega
    exact (List.perm_cons_erase hm).nodup_iff.mpr (List.nodup_cons.mpr ⟨hn, ih _ hl' h'⟩)
theorem isOrd_nodup {l : List Int} {n : Int} (h : IsOrd l n) : l.Nodup := ord_nodup l.length l rfl (fun i hi => h.2 i (by have := h.1; omega))
instance (l : List Int) (n : Int) : Decidable (IsOrd l n) := decidable_of_iff ((l.length : Int) = n ∧ ∀ i : Fin l.length, (i.val : Int) ∈ l) (by
  unfold IsOrd
  constructor
  · rintro ⟨h1, h2⟩; exact ⟨h1, fun i hi => h2 ⟨i, by omega⟩⟩
  · rintro ⟨h1, h2⟩; exact ⟨h1, fun i => h2 i.val (by have := i.isLt; omega)⟩)
theorem pc_full (n : Nat) (hn : n ≤ 32) (l : List Int) (hr : ∀ x ∈ l, 0 ≤ x ∧ x < (n : Int)) : pc 32 (setN l) = n ↔ ∀ i : Nat, i < n → (i : Int) ∈ l := by
  have e : pc 32 (setN l) = (List.range n).countP (fun i : Nat => decide ((i : Int) ∈ l)) := by
    rw [pc_count]
    have h1 : (List.range 32).countP (fun i => (setN l).testBit i) = (List.range 32).countP (fun i : Nat => decide ((i : Int) ∈ l)) := by
      apply List.countP_congr
      intro i _
      rw [setN_bit]
      simp only [decide_eq_true_eq]
      constructor
      · rintro ⟨p, hp, e⟩; have := hr p hp; rw [show (i : Int) = p by omega]; exact hp
      · intro h; exact ⟨_, h, by omega⟩
    rw [h1, show 32 = n + (32 - n) by omega, List.range_add, List.countP_append, List.countP_map]
    rw [show List.countP ((fun i : Nat => decide ((i : Int) ∈ l)) ∘ fun x => n + x) (List.range (32 - n)) = 0 by
      rw [List.countP_eq_zero]
      intro i _
      simp only [Function.comp, decide_eq_true_eq]
      intro h
      have := hr _ h
      omega]
    rfl
  rw [e]
  constructor
  · intro h i hi
    have h2 := (List.countP_eq_length (p := fun i : Nat => decide ((i : Int) ∈ l)) (l := List.range n)).mp (by rw [h, List.length_range])
    have := h2 i (List.mem_range.mpr hi)
    simpa using this
  · intro h
    rw [(List.countP_eq_length (p := fun i : Nat => decide ((i : Int) ∈ l)) (l := List.range n)).mpr (fun i hi => by simpa using h i (List.mem_range.mp hi)), List.length_range]
theorem isOrder_ev (l : List Int) (n : Int) (h0 : 0 ≤ n) (h1 : n ≤ 32) (hl : l.length ≤ 35184372088832) : Ev (fun k => impl_isOrder.f k l n) (decide (IsOrd l n)) := by
  unfold impl_isOrder.f
  by_cases hn : (l.length : Int) = n
  · refine Ev.pos hn (Ev.bind (allWithin_ev l 0 _ hl) ?_)
    rw [w64 (by omega) (by omega)]
    by_cases hw : ∀ x ∈ l, 0 ≤ x ∧ x ≤ n - 1
    · refine Ev.pos (decide_eq_true hw) ?_
      have hw32 : ∀ x ∈ l, 0 ≤ x ∧ x < 32 := fun x hx => by have := hw x hx; omega
      refine Ev.bind (setOf_ev l hw32 hl) (Ev.bindc (count_eq _ (setN_lt l hw32)) ?_)
      have hp := pc_full n.toNat (by omega) l (fun x hx => by have := hw x hx; omega)
      rw [show ((((pc 32 (setN l) : Nat) : Int) == n)) = decide (IsOrd l n) by
        rw [Bool.eq_iff_iff]
        simp only [beq_iff_eq, decide_eq_true_eq]
        unfold IsOrd
        constructor
        · intro h; exact ⟨hn, fun i hi => hp.mp (by omega) i (by omega)⟩
        · rintro ⟨_, h⟩; have := hp.mpr (fun i hi => h i (by omega)); omega]
      exact Ev.now _
    · refine Ev.neg (by simpa using hw) ?_
      rw [show decide (IsOrd l n) = false by
        simp only [decide_eq_false_iff_not]
        intro h; exact hw (fun x hx => by have := ord_range h x hx; omega)]
      exact Ev.now _
  · refine Ev.neg hn ?_
    rw [show decide (IsOrd l n) = false by simp only [decide_eq_false_iff_not]; intro h; exact hn h.1]
    exact Ev.now _
theorem getD_lt (l : List Int) (i : Nat) (h : i < l.length) : l.getD i 0 = l[i] := by rw [List.getD_eq_getElem?_getD, List.getElem?_eq_getElem h]; rfl
theorem rd_getD (l : List Int) (i : Nat) : rd l (i : Int) = l.getD i 0 := by unfold rd; rw [Int.toNat_natCast]
theorem exists_bool (p : Prop) : ∃ b : Bool, b = true ↔ p := by
  by_cases h : p
  · exact ⟨true, by simp [h]⟩
  · exact ⟨false, by simp [h]⟩
/-- the set of the numbers below n that meet R -/
def bld (R : Nat → Bool) : Nat → Nat
  | 0 => 0
  | n + 1 => if R n = true then bld R n ||| 2 ^ n else bld R n
theorem bld_bit (R : Nat → Bool) (n j : Nat) : (bld R n).testBit j = (decide (j < n) && R j) := by
  induction n with
  | zero => simp [bld]
  | succ n ih =>
    unfold bld
    by_cases h : R n = true
    · rw [if_pos h, Nat.testBit_or, ih, Nat.testBit_two_pow]
      by_cases e : n = j
      · subst e; simp [h]
      · have : (j < n + 1) ↔ (j < n) := by omega
        simp [e, this]
    · rw [if_neg h, ih]
      by_cases e : n = j
      · subst e; simp [h]
      · have : (j < n + 1) ↔ (j < n) := by omega
        simp [this]
theorem bld_lt (R : Nat → Bool) (n : Nat) (h : n ≤ 32) : bld R n < 4294967296 := by
  refine Nat.lt_pow_two_of_testBit (n := 32) _ (fun j hj => ?_)
  rw [bld_bit]
  simp; omega
theorem or_pow_u32 (a : Nat) (p : Nat) (ha : a < 4294967296) (hp : p < 32) : Go.bits .or .u32 (a : Int) (shl .u32 1 (p : Int)) = ((a ||| 2 ^ p : Nat) : Int) := by
  rw [shl_u32_one _ (by omega) (by omega), Int.toNat_natCast, (u32_nat _ _ ha (by have := two_pow_lt32 (p : Int) (by omega) (by omega); rwa [Int.toNat_natCast] at this)).2]
theorem bld_loop {α : Type} (L : Nat → Nat → Nat → Option α) (R : Nat → Bool) (n : Nat) (res : α) (hend : Ev (fun k => L k (bld R n) n) res)
    (hstep : ∀ i, i < n → bld R i < 2 ^ n → ∀ r, Ev (fun k => L k (if R i = true then bld R i ||| 2 ^ i else bld R i) (i + 1)) r → Ev (fun k => L k (bld R i) i) r) : Ev (fun k => L k 0 0) res := by
  have key : ∀ d i, i + d = n → Ev (fun k => L k (bld R i) i) res := by
    intro d
    induction d with
    | zero => intro i hi; rw [show i = n by omega]; exact hend
    | succ d ih =>
      intro i hi
      refine hstep i (by omega) ?_ _ (ih (i + 1) (by omega))
      refine Nat.lt_of_lt_of_le (Nat.lt_pow_two_of_testBit (n := i) _ (fun j hj => ?_)) (Nat.pow_le_pow_right (by decide) (by omega))
      rw [bld_bit]; simp; omega
  exact key n 0 (by omega)
theorem pow_le32 (n : Nat) (h : n ≤ 32) : 2 ^ n ≤ 4294967296 := Nat.pow_le_pow_right (n := 2) (by decide) h
/-- the union of some sets -/
def unionL (f : Int → Nat) (l : List Int) : Nat := l.foldl (fun s p => s ||| f p) 0
theorem unionL_bit (f : Int → Nat) (l : List Int) (j : Nat) : (unionL f l).testBit j = l.any (fun p => (f p).testBit j) := by
  unfold unionL
  have : ∀ s, (l.foldl (fun s p => s ||| f p) s).testBit j = (s.testBit j || l.any (fun p => (f p).testBit j)) := by
    induction l with
    | nil => simp
    | cons p l ih => intro s; rw [List.foldl_cons, ih, Nat.testBit_or, List.any_cons, Bool.or_assoc]
  rw [this]; simp
theorem unionL_take (f : Int → Nat) (l : List Int) (i : Nat) (h : i < l.length) : unionL f (l.take (i + 1)) = unionL f (l.take i) ||| f l[i] := by
  unfold unionL
  rw [List.take_succ_eq_append_getElem h, List.foldl_append]; rfl
theorem unionL_lt (f : Int → Nat) (l : List Int) (h : ∀ x ∈ l, f x < 4294967296) : unionL f l < 4294967296 := by
  refine Nat.lt_pow_two_of_testBit (n := 32) _ (fun j hj => ?_)
  rw [unionL_bit, List.any_eq_false]
  intro x hx
  have := Nat.testBit_lt_two_pow (Nat.lt_of_lt_of_le (h x hx) (Nat.pow_le_pow_right (n := 2) (by decide) hj))
  simp [this]
/-- how many of a set's seats meet R, by a list of its seats -/
theorem count_single (n : Nat) (x : Int) (hx : 0 ≤ x ∧ x < (n : Int)) (R : Int → Bool) : (List.range n).countP (fun i : Nat => decide ((i : Int) = x) && R (i : Int)) = if R x = true then 1 else 0 := by
  induction n with
  | zero => omega
  | succ n ih =>
    rw [List.range_succ, List.countP_append, List.countP_singleton]
    by_cases e : (n : Int) = x
    · have h0 : (List.range n).countP (fun i : Nat => decide ((i : Int) = x) && R (i : Int)) = 0 := by
        rw [List.countP_eq_zero]
        intro i hi
        have := List.mem_range.mp hi
        simp; intro h; omega
      rw [h0, e]; simp
    · rw [ih (by omega)]; simp [e]
theorem count_list (n : Nat) (R : Int → Bool) : ∀ (l : List Int), l.Nodup → (∀ x ∈ l, 0 ≤ x ∧ x < (n : Int)) → (List.range n).countP (fun i : Nat => decide ((i : Int) ∈ l) && R (i : Int)) = l.countP R := by
  intro l
  induction l with
  | nil => intro _ _; simp
  | cons x l ih =>
    intro hn hr
    have hx : x ∉ l := (List.nodup_cons.mp hn).1
    have e : (List.range n).countP (fun i : Nat => decide ((i : Int) ∈ x :: l) && R (i : Int)) = (List.range n).countP (fun i : Nat => decide ((i : Int) ∈ l) && R (i : Int)) + (List.range n).countP (fun i : Nat => decide ((i : Int) = x) && R (i : Int)) := by
      generalize List.range n = L
      induction L with
      | nil => rfl
      | cons i L ihL =>
        simp only [List.countP_cons, ihL]
        by_cases e : (i : Int) = x
        · have : ¬ (i : Int) ∈ l := e ▸ hx
          simp only [e, List.mem_cons, hx, true_or, decide_true, Bool.true_and, decide_false, Bool.false_and]
          simp; omega
        · simp only [List.mem_cons, e, false_or, decide_false, Bool.false_and]
          simp; omega
    rw [e, ih (List.nodup_cons.mp hn).2 (fun y hy => hr y (List.mem_cons_of_mem _ hy)), count_single n x (hr x (by simp)) R, List.countP_cons]
/-- sum over a list -/
def sumL (f : Int → Nat) : List Int → Nat
  | [] => 0
  | x :: l => f x + sumL f l
theorem sumL_append (f : Int → Nat) (l m : List Int) : sumL f (l ++ m) = sumL f l + sumL f m := by
  induction l with
  | nil => simp [sumL]
  | cons x l ih => simp only [List.cons_append, sumL, ih]; omega
theorem sumL_add (f g : Int → Nat) (l : List Int) : sumL (fun x => f x + g x) l = sumL f l + sumL g l := by
  induction l with
  | nil => rfl
  | cons x l ih => simp only [sumL, ih]; omega
theorem sumL_if (R : Int → Bool) (l : List Int) : sumL (fun x => if R x = true then 1 else 0) l = l.countP R := by
  induction l with
  | nil => rfl
  | cons x l ih => simp only [sumL, ih, List.countP_cons]; omega
/-- the seats of one set that are not in another one -/
def lessN (a b : Nat) : Nat := (BitVec.ofNat 32 a &&& ~~~(BitVec.ofNat 32 b)).toNat
theorem lessN_lt (a b : Nat) : lessN a b < 4294967296 := (BitVec.ofNat 32 a &&& ~~~(BitVec.ofNat 32 b)).isLt
theorem lessN_bit (a b j : Nat) (ha : a < 4294967296) (hb : b < 4294967296) : (lessN a b).testBit j = (a.testBit j && !b.testBit j) := by
  unfold lessN
  rw [BitVec.testBit_toNat, BitVec.getLsbD_and, BitVec.getLsbD_not, BitVec.getLsbD_ofNat, BitVec.getLsbD_ofNat]
  by_cases h : j < 32
  · simp [h]
  · have : a.testBit j = false := Nat.testBit_lt_two_pow (Nat.lt_of_lt_of_le ha (Nat.pow_le_pow_right (n := 2) (i := 32) (by decide) (by omega)))
    simp [h, this]
theorem u32_andNot (a b : Nat) : Go.bits .andNot .u32 (a : Int) (b : Int) = ((lessN a b : Nat) : Int) := by
  unfold Go.bits lessN
  have e1 : BitVec.ofInt IntKind.u32.bits (a : Int) = BitVec.ofNat 32 a := BitVec.ofInt_natCast 32 a
  have e2 : BitVec.ofInt IntKind.u32.bits (b : Int) = BitVec.ofNat 32 b := BitVec.ofInt_natCast 32 b
  simp only [e1, e2]
  rw [IntKind.wrap_u32]
  have := (BitVec.ofNat 32 a &&& ~~~(BitVec.ofNat 32 b)).isLt
  exact Int.emod_eq_of_lt (Int.natCast_nonneg _) (Int.ofNat_lt.mpr this)
theorem has_bit (x i : Nat) (hx : x < 4294967296) : impl_set_has.f (x : Int) (i : Int) = some (x.testBit i) := by
  unfold impl_set_has.f
  rw [if_pos (by omega)]
  refine congrArg some ?_
  unfold shr
  rw [Int.toNat_natCast]
  have e : ((x : Int) / 2 ^ min i IntKind.u32.bits) = ((x / 2 ^ min i 32 : Nat) : Int) := by push_cast; rfl
  have hlt : x / 2 ^ min i 32 < 4294967296 := Nat.lt_of_le_of_lt (Nat.div_le_self _ _) hx
  have h1 := (u32_nat (x / 2 ^ min i 32) 1 hlt (by omega)).1
  rw [show ((1 : Nat) : Int) = 1 from rfl] at h1
  rw [e, h1, Nat.and_one_is_mod, Nat.testBit_eq_decide_div_mod_eq, Bool.eq_iff_iff]
  simp only [beq_iff_eq, decide_eq_true_eq]
  by_cases h : i ≤ 32
  · rw [Nat.min_eq_left h]; omega
  · have e1 : x / 2 ^ min i 32 = 0 := by rw [Nat.min_eq_right (by omega)]; exact Nat.div_eq_of_lt hx
    have e2 : x / 2 ^ i = 0 := Nat.div_eq_of_lt (Nat.lt_of_lt_of_le hx (Nat.pow_le_pow_right (n := 2) (i := 32) (by decide) (by omega)))
    rw [e1, e2]; decide
theorem l2Gcd_ev (b : Nat) : ∀ a : Nat, a < 9223372036854775808 → b < 9223372036854775808 → Ev (fun k => spec_l2Gcd.f k (a : Int) (b : Int)) ((Nat.gcd a b : Nat) : Int) := by
  unfold spec_l2Gcd.f
  induction b using Nat.strongRecOn with
  | _ b ih =>
    intro a ha hb
    refine Ev.succ ?_
    simp only [spec_l2Gcd.l0.eq_2]
    by_cases h : b = 0
    · subst h; rw [Nat.gcd_zero_right]; exact Ev.neg (by omega) (Ev.now _)
    · refine Ev.pos (by omega) (Ev.neg (by omega) ?_)
      rw [show Int.tmod (a : Int) (b : Int) = ((a % b : Nat) : Int) by rw [Int.tmod_eq_emod_of_nonneg (by omega)]; rfl]
      have := ih (a % b) (Nat.mod_lt _ (by omega)) b hb (Nat.lt_trans (Nat.mod_lt _ (by omega)) hb)
      rw [show Nat.gcd a b = Nat.gcd b (a % b) by rw [Nat.gcd_comm a b, Nat.gcd_rec b a, Nat.gcd_comm]] 
      exact this
/-- a fraction of numbers of at least 0 in lowest terms -/
def cutN (a b : Nat) : Int × Int := (((a / Nat.gcd a b : Nat) : Int), ((b / Nat.gcd a b : Nat) : Int))
theorem l2Cut_ev (a b : Nat) (ha : a < 9223372036854775808) (hb : b < 9223372036854775808) (h0 : 0 < b) : Ev (fun k => spec_l2Cut.f k (a : Int) (b : Int)) (cutN a b) := by
  unfold spec_l2Cut.f
  have e : spec_l1Most.f (a : Int) (wrap64 (-(a : Int))) = some (a : Int) := by
    unfold spec_l1Most.f
    rw [w64 (by omega) (by omega)]
    by_cases h : (a : Int) > -(a : Int)
    · rw [if_pos h]
    · rw [if_neg h]; congr 1; omega
  have hg : 0 < Nat.gcd a b := Nat.gcd_pos_of_pos_right a h0
  refine Ev.bindc e (Ev.bind (l2Gcd_ev b a ha hb) (Ev.neg (by omega) ?_))
  have h1 := Nat.div_le_self a (Nat.gcd a b)
  have h2 := Nat.div_le_self b (Nat.gcd a b)
  rw [Int.tdiv_eq_ediv_of_nonneg (by omega), Int.tdiv_eq_ediv_of_nonneg (by omega), ← Int.natCast_ediv, ← Int.natCast_ediv]
  unfold cutN
  generalize a / Nat.gcd a b = x at *
  generalize b / Nat.gcd a b = y at *
  rw [w64 (by omega) (by omega), w64 (by omega) (by omega)]
  exact Ev.now _
theorem cutN_one (b : Nat) (h : 0 < b) : cutN 1 b = (1, (b : Int)) := by
  unfold cutN; rw [Nat.gcd_one_left]; simp
theorem l5Good_eq (n k : Int) : spec_l5Good.f n k = some (decide ((1 ≤ n ∧ n ≤ 12) ∧ 0 ≤ k ∧ k ≤ n)) := by
  unfold spec_l5Good.f
  rw [l1In_eq, Option.bind_some]
  by_cases h : 1 ≤ n ∧ n ≤ 12
  · rw [if_pos (decide_eq_true h), l1In_eq, Option.bind_some]; simp [h]
  · rw [if_neg (by simpa using h)]; congr 1; simp only [h, false_and, decide_false]
theorem isPlane_eq (n k : Int) : impl_isPlane.f n k = some (decide ((1 ≤ n ∧ n ≤ 12) ∧ 0 ≤ k ∧ k ≤ n)) := by
  unfold impl_isPlane.f
  rw [within_eq, Option.bind_some]
  by_cases h : 1 ≤ n ∧ n ≤ 12
  · rw [if_pos (decide_eq_true h), within_eq, Option.bind_some]; simp [h]
  · rw [if_neg (by simpa using h)]; congr 1; simp only [h, false_and, decide_false]
/-- does a traveler find the own seat free? -/
def ownFree (K : Nat) (b : List Int) : Bool := decide (K ≤ b.length) && !decide ((b.length : Int) ∈ b)
/-- the seats that may be taken behind some -/
def choices (n K : Nat) (b : List Int) : List Int := if ownFree K b = true then [(b.length : Int)] else ((List.range n).filter (fun j : Nat => !decide ((j : Int) ∈ b))).map (fun j : Nat => (j : Int))
theorem choices_loop (n : Nat) (b : List Int) (hn : n ≤ 12) (hb : b.length ≤ 35184372088832) : ∀ d i, i + d = n → Ev (fun k => spec_l5Choices.l0 k (n : Int) b (((List.range i).filter (fun j : Nat => !decide ((j : Int) ∈ b))).map (fun j : Nat => (j : Int))) (i : Int)) (((List.range n).filter (fun j : Nat => !decide ((j : Int) ∈ b))).map (fun j : Nat => (j : Int))) := by
  intro d
  induction d with
  | zero =>
    intro i hi
    refine Ev.succ ?_
    simp only [spec_l5Choices.l0.eq_2]
    rw [show i = n by omega]
    exact Ev.neg (by omega) (Ev.now _)
  | succ d ih =>
    intro i hi
    refine Ev.succ ?_
    simp only [spec_l5Choices.l0.eq_2]
    rw [w64 (n := (i : Int) + 1) (by omega) (by omega)]
    have := ih (i + 1) (by omega)
    rw [List.range_succ, List.filter_append, List.map_append] at this
    refine Ev.pos (by omega) (Ev.bind (has_ev b (i : Int) hb) ?_)
    by_cases h : (i : Int) ∈ b
    · refine Ev.pos (decide_eq_true h) ?_
      simp only [List.filter_cons, List.filter_nil, h, decide_true, Bool.not_true, Bool.false_eq_true, if_false, List.map_nil, List.append_nil] at this
      exact this
    · refine Ev.neg (by simpa using h) (Ev.pos ?_ ?_)
      · rw [List.length_map]
        have := List.length_filter_le (fun j : Nat => !decide ((j : Int) ∈ b)) (List.range i)
        rw [List.length_range] at this
        omega
      · simp only [List.filter_cons, List.filter_nil, h, decide_false, Bool.not_false, if_true, List.map_singleton] at this
        exact this
theorem l5Choices_ev (n K : Nat) (b : List Int) (hn : n ≤ 12) (hb : b.length ≤ 35184372088832) : Ev (fun k => spec_l5Choices.f k (n : Int) (K : Int) b) (choices n K b) := by
  unfold spec_l5Choices.f
  have j0f : Ev (fun k => spec_l5Choices.j0 k (n : Int) b (b.length : Int) false) (((List.range n).filter (fun j : Nat => !decide ((j : Int) ∈ b))).map (fun j : Nat => (j : Int))) := by
    refine Ev.succ ?_
    simp only [spec_l5Choices.j0.eq_2]
    exact Ev.neg (by decide) (choices_loop n b hn hb n 0 (by omega))
  unfold choices ownFree
  by_cases h : K ≤ b.length
  · refine Ev.pos (by omega) (Ev.bind (has_ev b _ hb) ?_)
    by_cases hm : (b.length : Int) ∈ b
    · simp only [h, hm, decide_true, Bool.not_true, Bool.and_false, Bool.false_eq_true, if_false]
      exact j0f
    · simp only [h, hm, decide_true, decide_false, Bool.not_false, Bool.and_true, if_true]
      refine Ev.succ ?_
      simp only [spec_l5Choices.j0.eq_2]
      exact Ev.pos (by trivial) (Ev.now _)
  · refine Ev.neg (by omega) ?_
    simp only [h, decide_false, Bool.false_and, Bool.false_eq_true, if_false]
    exact j0f
/-- may the seat of a traveler be taken? -/
def stepOk (n K : Nat) (l : List Int) (i : Nat) : Prop := l.getD i 0 ∈ choices n K (l.take i)
theorem mem_rest (n : Nat) (b : List Int) (x : Int) : x ∈ ((List.range n).filter (fun j : Nat => !decide ((j : Int) ∈ b))).map (fun j : Nat => (j : Int)) ↔ (0 ≤ x ∧ x < (n : Int)) ∧ x ∉ b := by
  simp only [List.mem_map, List.mem_filter, List.mem_range, Bool.not_eq_true', decide_eq_false_iff_not]
  constructor
  · rintro ⟨j, ⟨h1, h2⟩, rfl⟩; exact ⟨by omega, h2⟩
  · rintro ⟨h1, h2⟩; exact ⟨x.toNat, ⟨by omega, by rwa [Int.toNat_of_nonneg h1.1]⟩, by omega⟩
theorem stepOk_in (n K : Nat) (l : List Int) (i : Nat) (hi : i < l.length) (hn : l.length = n) (h : stepOk n K l i) : (0 ≤ l.getD i 0 ∧ l.getD i 0 < (n : Int)) ∧ l.getD i 0 ∉ l.take i := by
  unfold stepOk choices at h
  by_cases ho : ownFree K (l.take i) = true
  · rw [if_pos ho, List.mem_singleton] at h
    unfold ownFree at ho
    simp only [Bool.and_eq_true, decide_eq_true_eq, Bool.not_eq_true', decide_eq_false_iff_not] at ho
    rw [List.length_take, Nat.min_eq_left (by omega)] at h ho
    rw [h]; exact ⟨by omega, ho.2⟩
  · rw [if_neg ho] at h; exact (mem_rest n _ _).mp h
theorem steps_nodup (n K : Nat) (l : List Int) (hn : l.length = n) : ∀ i, i ≤ n → (∀ j, j < i → stepOk n K l j) → (l.take i).Nodup ∧ ∀ x ∈ l.take i, 0 ≤ x ∧ x < (n : Int) := by
  intro i
  induction i with
  | zero => intro _ _; simp
  | succ i ih =>
    intro hi h
    obtain ⟨h1, h2⟩ := ih (by omega) (fun j hj => h j (by omega))
    obtain ⟨h3, h4⟩ := stepOk_in n K l i (by omega) hn (h i (by omega))
    rw [getD_lt l i (by omega)] at h3 h4
    rw [List.take_succ_eq_append_getElem (by omega)]
    refine ⟨List.nodup_append.mpr ⟨h1, by simp, fun a ha b hb => by rw [List.mem_singleton.mp hb]; exact fun e => h4 (e ▸ ha)⟩, fun x hx => ?_⟩
    rcases List.mem_append.mp hx with hx | hx
    · exact h2 x hx
    · rw [List.mem_singleton.mp hx]; exact h3
theorem steps_ord (n K : Nat) (l : List Int) (hn : l.length = n) (h : ∀ j, j < n → stepOk n K l j) : IsOrd l (n : Int) := by
  obtain ⟨h1, h2⟩ := steps_nodup n K l hn n (Nat.le_refl _) h
  rw [List.take_of_length_le (by omega)] at h1 h2
  exact ord_of_nodup (by omega) h1 h2
/-- by how many the chance is divided -/
def facN (n K : Nat) (l : List Int) (i : Nat) : Nat := if ownFree K (l.take i) = true then 1 else n - i
def prodN (n K : Nat) (l : List Int) : Nat → Nat
  | 0 => 1
  | i + 1 => prodN n K l i * facN n K l i
theorem choices_len (n K : Nat) (b : List Int) (h1 : b.Nodup) (h2 : ∀ x ∈ b, 0 ≤ x ∧ x < (n : Int)) (hb : b.length ≤ n) : (choices n K b).length = if ownFree K b = true then 1 else n - b.length := by
  unfold choices
  by_cases ho : ownFree K b = true
  · rw [if_pos ho, if_pos ho]; rfl
  · rw [if_neg ho, if_neg ho, List.length_map, ← List.countP_eq_length_filter]
    have e := count_list n (fun _ => true) b h1 h2
    simp only [Bool.and_true, List.countP_true] at e
    have e2 : ∀ L : List Nat, L.countP (fun j : Nat => !decide ((j : Int) ∈ b)) + L.countP (fun j : Nat => decide ((j : Int) ∈ b)) = L.length := by
      intro L
      induction L with
      | nil => rfl
      | cons x L ih =>
        simp only [List.countP_cons, List.length_cons]
        by_cases hx : (x : Int) ∈ b <;> simp [hx] <;> omega
    have := e2 (List.range n)
    rw [e, List.length_range] at this
    omega
theorem prodN_bound (n K : Nat) (l : List Int) (hn : n ≤ 12) : ∀ i, prodN n K l i ≤ 12 ^ i ∧ (i ≤ n → 1 ≤ prodN n K l i) := by
  intro i
  induction i with
  | zero => exact ⟨Nat.le_refl _, fun _ => Nat.le_refl _⟩
  | succ i ih =>
    have hf : facN n K l i ≤ 12 := by unfold facN; split <;> omega
    refine ⟨?_, fun hi => ?_⟩
    · rw [Nat.pow_succ]; exact Nat.mul_le_mul ih.1 hf
    · have : 1 ≤ facN n K l i := by unfold facN; split <;> omega
      exact Nat.mul_le_mul (ih.2 (by omega)) this
theorem pow12 (i : Nat) (h : i ≤ 12) : 12 ^ i ≤ 8916100448256 := Nat.le_trans (Nat.pow_le_pow_right (by decide) h : 12 ^ i ≤ 12 ^ 12) (by decide)
theorem l5Chance_ev (n K : Nat) (l : List Int) (hn : n ≤ 12) (hl : l.length = n) :
    ((∀ j, j < n → stepOk n K l j) → Ev (fun k => spec_l5Chance.f k (n : Int) (K : Int) l) (1, ((prodN n K l n : Nat) : Int))) ∧
    ((¬ ∀ j, j < n → stepOk n K l j) → Ev (fun k => spec_l5Chance.f k (n : Int) (K : Int) l) (0, 1)) := by
  unfold spec_l5Chance.f
  have key : ∀ d i, i + d = n → (∀ j, j < i → stepOk n K l j) →
      ((∀ j, j < n → stepOk n K l j) → Ev (fun k => spec_l5Chance.l0 k (n : Int) (K : Int) l (i : Int) 1 ((prodN n K l i : Nat) : Int)) (1, ((prodN n K l n : Nat) : Int))) ∧
      ((¬ ∀ j, j < n → stepOk n K l j) → Ev (fun k => spec_l5Chance.l0 k (n : Int) (K : Int) l (i : Int) 1 ((prodN n K l i : Nat) : Int)) (0, 1)) := by
    intro d
    induction d with
    | zero =>
      intro i hi hok
      refine ⟨fun _ => ?_, fun h => absurd (fun j hj => hok j (by omega)) h⟩
      refine Ev.succ ?_
      simp only [spec_l5Chance.l0.eq_2]
      rw [show i = n by omega]
      exact Ev.neg (by omega) (Ev.now _)
    | succ d ih =>
      intro i hi hok
      obtain ⟨hnd, hrg⟩ := steps_nodup n K l hl i (by omega) hok
      have hlt : (l.take i).length = i := by rw [List.length_take]; omega
      have hcl := choices_len n K (l.take i) hnd hrg (by omega)
      rw [hlt] at hcl
      have hfac : (choices n K (l.take i)).length = facN n K l i := hcl
      have hpb := prodN_bound n K l hn (i + 1)
      have hp12 := pow12 (i + 1) (by omega)
      have h1 := hpb.2 (by omega)
      -- one round that is right
      have round : ∀ q, stepOk n K l i → Ev (fun k => spec_l5Chance.l0 k (n : Int) (K : Int) l ((i + 1 : Nat) : Int) 1 ((prodN n K l (i + 1) : Nat) : Int)) q → Ev (fun k => spec_l5Chance.l0 k (n : Int) (K : Int) l (i : Int) 1 ((prodN n K l i : Nat) : Int)) q := by
        intro q hs hq
        refine Ev.succ ?_
        simp only [spec_l5Chance.l0.eq_2]
        rw [rd_getD, Int.toNat_natCast]
        refine Ev.pos (by omega) (Ev.pos (by omega) (Ev.pos (by omega) (Ev.bind (l5Choices_ev n K (l.take i) hn (by omega)) (Ev.pos (by omega) (Ev.bind (has_ev _ _ (by rw [hfac]; unfold facN; split <;> omega)) (Ev.pos (decide_eq_true hs) ?_))))))
        rw [hfac, w64 (n := (i : Int) + 1) (by omega) (by omega)]
        have e : ((prodN n K l i : Nat) : Int) * ((facN n K l i : Nat) : Int) = ((prodN n K l (i + 1) : Nat) : Int) := by
          show _ = ((prodN n K l i * facN n K l i : Nat) : Int)
          push_cast; rfl
        rw [e, w64 (by omega) (by omega)]
        have hc := l2Cut_ev 1 (prodN n K l (i + 1)) (by omega) (by omega) (by omega)
        rw [cutN_one _ (by omega)] at hc
        exact Ev.bind hc hq
      have bad : ¬ stepOk n K l i → Ev (fun k => spec_l5Chance.l0 k (n : Int) (K : Int) l (i : Int) 1 ((prodN n K l i : Nat) : Int)) (0, 1) := by
        intro hs
        refine Ev.succ ?_
        simp only [spec_l5Chance.l0.eq_2]
        rw [rd_getD, Int.toNat_natCast]
        exact Ev.pos (by omega) (Ev.pos (by omega) (Ev.pos (by omega) (Ev.bind (l5Choices_ev n K (l.take i) hn (by omega)) (Ev.pos (by omega) (Ev.bind (has_ev _ _ (by rw [hfac]; unfold facN; split <;> omega)) (Ev.neg (by simpa [stepOk] using hs) (Ev.now _)))))))
      by_cases hs : stepOk n K l i
      · have hok' : ∀ j, j < i + 1 → stepOk n K l j := fun j hj => by
          rcases Nat.lt_or_ge j i with h | h
          · exact hok j h
          · rw [show j = i by omega]; exact hs
        obtain ⟨a, b⟩ := ih (i + 1) (by omega) hok'
        exact ⟨fun h => round _ hs (a h), fun h => round _ hs (b h)⟩
      · exact ⟨fun h => absurd (h i (by omega)) hs, fun _ => bad hs⟩
  exact key n 0 (by omega) (fun j hj => by omega)
/-- the free seats behind some -/
def freeN (n : Nat) (b : List Int) : Nat := bld (fun j => !decide ((j : Int) ∈ b)) n
theorem freeN_bit (n : Nat) (b : List Int) (j : Nat) : (freeN n b).testBit j = (decide (j < n) && !decide ((j : Int) ∈ b)) := bld_bit _ n j
theorem freeN_step (n : Nat) (l : List Int) (i : Nat) (hi : i < l.length) (hn : n ≤ 32) (hx : 0 ≤ l[i] ∧ l[i] < 32) : lessN (freeN n (l.take i)) (2 ^ (l[i]).toNat) = freeN n (l.take (i + 1)) := by
  refine Nat.eq_of_testBit_eq (fun j => ?_)
  rw [lessN_bit _ _ _ (show freeN n (l.take i) < 4294967296 from bld_lt _ _ hn) (two_pow_lt32 _ hx.1 hx.2), freeN_bit, freeN_bit, Nat.testBit_two_pow, List.take_succ_eq_append_getElem hi]
  rw [Bool.eq_iff_iff]
  simp only [Bool.and_eq_true, decide_eq_true_eq, Bool.not_eq_true', decide_eq_false_iff_not, List.mem_append, List.mem_singleton, not_or]
  constructor
  · rintro ⟨⟨h1, h2⟩, h3⟩; exact ⟨h1, h2, by omega⟩
  · rintro ⟨h1, h2, h3⟩; exact ⟨⟨h1, h2⟩, by omega⟩
theorem freeN_count (n : Nat) (b : List Int) (hn : n ≤ 32) (h1 : b.Nodup) (h2 : ∀ x ∈ b, 0 ≤ x ∧ x < (n : Int)) : pc 32 (freeN n b) = n - b.length := by
  rw [pc_count]
  have e : (List.range 32).countP (fun j => (freeN n b).testBit j) = (List.range n).countP (fun j : Nat => !decide ((j : Int) ∈ b)) := by
    rw [show 32 = n + (32 - n) by omega, List.range_add, List.countP_append, List.countP_map]
    rw [show List.countP ((fun j => (freeN n b).testBit j) ∘ fun x => n + x) (List.range (32 - n)) = 0 by
      rw [List.countP_eq_zero]; intro j _; simp [freeN_bit]; intro h; omega]
    rw [Nat.add_zero]
    apply List.countP_congr
    intro j hj
    rw [freeN_bit]; simp [List.mem_range.mp hj]
  rw [e]
  have hc := choices_len n (b.length + 1) b h1 h2 (ph_nodup_len n b h1 h2)
  unfold choices ownFree at hc
  simp only [show ¬ (b.length + 1 ≤ b.length) by omega, decide_false, Bool.false_and, Bool.false_eq_true, if_false, List.length_map] at hc
  rw [List.countP_eq_length_filter]; exact hc
/-- what a list of seats is in the program: the product, or 0 -/
def seatV (n K : Nat) (l : List Int) (b : Bool) : Int := if b = true then ((prodN n K l n : Nat) : Int) else 0
theorem seatingChance_ev (n K : Nat) (l : List Int) (h1 : 1 ≤ n) (hn : n ≤ 12) (hl : l.length ≤ 35184372088832) (b : Bool) (hb : b = true ↔ l.length = n ∧ ∀ j, j < n → stepOk n K l j) :
    Ev (fun k => impl_seatingChance.f k (n : Int) (K : Int) l) (seatV n K l b) := by
  unfold impl_seatingChance.f
  refine Ev.bind (isOrder_ev l (n : Int) (by omega) (by omega) hl) ?_
  by_cases ho : IsOrd l (n : Int)
  · have hln : l.length = n := by have := ho.1; omega
    have hnd := isOrd_nodup ho
    have hrg := ord_range ho
    refine Ev.pos (decide_eq_true ho) (Ev.pos (by omega) ?_)
    have e0 : ((shl .u32 1 (n : Int)) - 1) % 4294967296 = ((freeN n (l.take 0) : Nat) : Int) := by
      rw [shl_u32_one _ (by omega) (by omega), Int.toNat_natCast]
      have : freeN n (l.take 0) = 2 ^ n - 1 := by
        refine Nat.eq_of_testBit_eq (fun j => ?_)
        rw [freeN_bit, Nat.testBit_two_pow_sub_one]; simp
      rw [this]
      have h2 : 2 ^ n ≤ 2 ^ 12 := Nat.pow_le_pow_right (by decide) hn
      have h3 : 0 < 2 ^ n := Nat.two_pow_pos n
      omega
    rw [e0]
    have key : ∀ d i, i + d = n → (∀ j, j < i → stepOk n K l j) → Ev (fun k => impl_seatingChance.l0 k (K : Int) ((prodN n K l i : Nat) : Int) ((freeN n (l.take i) : Nat) : Int) l (l.length : Int) (i : Int)) (seatV n K l b) := by
      intro d
      induction d with
      | zero =>
        intro i hi hok
        refine Ev.succ ?_
        simp only [impl_seatingChance.l0.eq_2]
        rw [hb.mpr ⟨hln, fun j hj => hok j (by omega)⟩, show i = n by omega]
        exact Ev.neg (by omega) (Ev.now _)
      | succ d ih =>
        intro i hi hok
        have hx := hrg l[i] (List.getElem_mem (by omega))
        have hlt : (l.take i).length = i := by rw [List.length_take]; omega
        have hnm : l[i] ∉ l.take i := by
          rw [← List.take_append_drop i l, List.drop_eq_getElem_cons (by omega)] at hnd
          intro hc
          exact (List.nodup_append.mp hnd).2.2 _ hc _ List.mem_cons_self rfl
        have hndt : (l.take i).Nodup := (List.take_sublist i l).nodup hnd
        have hrt : ∀ x ∈ l.take i, 0 ≤ x ∧ x < (n : Int) := fun x hx => hrg x (List.mem_of_mem_take hx)
        have hfl : freeN n (l.take i) < 4294967296 := bld_lt _ _ (by omega)
        have hpb := prodN_bound n K l hn (i + 1)
        have hp12 := pow12 (i + 1) (by omega)
        have hown : (decide ((i : Int) ≥ (K : Int)) && (freeN n (l.take i)).testBit i) = ownFree K (l.take i) := by
          unfold ownFree
          rw [freeN_bit, hlt, Bool.eq_iff_iff]
          simp only [Bool.and_eq_true, decide_eq_true_eq, Bool.not_eq_true', decide_eq_false_iff_not]
          exact ⟨fun h => ⟨by omega, h.2.2⟩, fun h => ⟨by omega, by omega, h.2⟩⟩
        -- the rest, with the test's answer
        have rest : Ev (fun k => impl_seatingChance.j1 k (K : Int) ((prodN n K l i : Nat) : Int) ((freeN n (l.take i) : Nat) : Int) (i : Int) l[i] l (l.length : Int) (i : Int) (ownFree K (l.take i))) (seatV n K l b) := by
          refine Ev.succ ?_
          simp only [impl_seatingChance.j1.eq_2]
          rw [shl_u32_one _ hx.1 (by omega), u32_andNot, freeN_step n l i (by omega) (by omega) (by omega), w64 (n := (i : Int) + 1) (by omega) (by omega)]
          by_cases hof : ownFree K (l.take i) = true
          · refine Ev.pos hof ?_
            by_cases he : l[i] = (i : Int)
            · refine Ev.pos he (Ev.pos hx.1 ?_)
              have := ih (i + 1) (by omega) (fun j hj => by
                rcases Nat.lt_or_ge j i with h | h
                · exact hok j h
                · rw [show j = i by omega]; unfold stepOk choices; rw [if_pos hof, getD_lt l i (by omega), hlt, List.mem_singleton]; exact he)
              rw [show prodN n K l (i + 1) = prodN n K l i by show prodN n K l i * facN n K l i = _; unfold facN; rw [if_pos hof, Nat.mul_one]] at this
              exact this
            · rw [show b = false by
                cases b with
                | false => rfl
                | true =>
                  have := (hb.mp rfl).2 i (by omega)
                  unfold stepOk choices at this
                  rw [if_pos hof, getD_lt l i (by omega), hlt, List.mem_singleton] at this
                  exact absurd this he]
              exact Ev.neg he (Ev.now _)
          · refine Ev.neg hof (Ev.bindc (count_eq _ hfl) (Ev.pos hx.1 ?_))
            rw [freeN_count n _ (by omega) hndt hrt, hlt]
            have := ih (i + 1) (by omega) (fun j hj => by
              rcases Nat.lt_or_ge j i with h | h
              · exact hok j h
              · rw [show j = i by omega]; unfold stepOk choices; rw [if_neg hof, getD_lt l i (by omega)]; exact (mem_rest n _ _).mpr ⟨hx, hnm⟩)
            have e : ((prodN n K l i : Nat) : Int) * ((n - i : Nat) : Int) = ((prodN n K l (i + 1) : Nat) : Int) := by
              show _ = ((prodN n K l i * facN n K l i : Nat) : Int)
              unfold facN; rw [if_neg hof]; push_cast; rfl
            rw [e, w64 (by omega) (by omega)]
            exact this
        refine Ev.succ ?_
        simp only [impl_seatingChance.l0.eq_2]
        rw [rd_nat l i (by omega)]
        refine Ev.pos (by omega) (Ev.pos (by omega) (Ev.pos (by omega) ?_))
        by_cases hk : (i : Int) ≥ (K : Int)
        · refine Ev.pos hk (Ev.bindc (has_bit _ i hfl) ?_)
          rw [decide_eq_true hk, Bool.true_and] at hown
          rw [hown]; exact rest
        · refine Ev.neg hk ?_
          rw [decide_eq_false hk, Bool.false_and] at hown
          rw [hown]; exact rest
    have := key n 0 (by omega) (fun j hj => by omega)
    exact this
  · refine Ev.neg (by simpa using ho) ?_
    have : b = false := by
      cases b with
      | false => rfl
      | true => have := hb.mp rfl; exact absurd (steps_ord n K l this.1 this.2) ho
    rw [this]; exact Ev.now _
theorem l5Possible_ev (n K : Nat) (l : List Int) (hn : n ≤ 12) (b : Bool) (hb : b = true ↔ l.length = n ∧ ∀ j, j < n → stepOk n K l j) : Ev (fun k => spec_l5Possible.f k (n : Int) (K : Int) l) b := by
  unfold spec_l5Possible.f
  by_cases hl : l.length = n
  · refine Ev.pos (by omega) ?_
    obtain ⟨h1, h2⟩ := l5Chance_ev n K l hn hl
    cases b with
    | true => exact Ev.bind (f := fun _ (t : Int × Int) => some (decide (t.1 > 0))) (h1 (hb.mp rfl).2) (Ev.now _)
    | false => exact Ev.bind (f := fun _ (t : Int × Int) => some (decide (t.1 > 0))) (h2 (fun h => absurd (hb.mpr ⟨hl, h⟩) (by decide))) (Ev.now _)
  · have : b = false := by
      cases b with
      | false => rfl
      | true => exact absurd (hb.mp rfl).1 hl
    rw [this]; exact Ev.neg (by omega) (Ev.now _)
theorem isPossible_ev (n K : Nat) (l : List Int) (h1 : 1 ≤ n) (hn : n ≤ 12) (hl : l.length ≤ 35184372088832) (b : Bool) (hb : b = true ↔ l.length = n ∧ ∀ j, j < n → stepOk n K l j) : Ev (fun k => impl_isPossible.f k (n : Int) (K : Int) l) b := by
  unfold impl_isPossible.f
  refine Ev.bind (f := fun _ t => some (decide (t > 0))) (seatingChance_ev n K l h1 hn hl b hb) ?_
  have := (prodN_bound n K l hn n).2 (Nat.le_refl _)
  rw [show decide (seatV n K l b > 0) = b by
    unfold seatV
    cases b with
    | true => simp; omega
    | false => rfl]
  exact Ev.now _
theorem mark_loop (l : List Int) (a : Int) (h0 : 0 ≤ a) (h1 : a ≤ 1000000000) (hl : l.length ≤ 35184372088832) : ∀ (d i : Nat) (acc : List Int), i + d = l.length → acc.length = l.length → (∀ j, j < i → acc[j]? = some (a + (j : Int))) → Ev (fun k => laws_markIntS.l0 k acc (a + (i : Int)) (i : Int)) (a + (l.length : Int), (List.range l.length).map (fun j : Nat => a + (j : Int))) := by
  intro d
  induction d with
  | zero =>
    intro i acc hi ha hj
    refine Ev.succ ?_
    simp only [laws_markIntS.l0.eq_2]
    have : acc = (List.range l.length).map (fun j : Nat => a + (j : Int)) := List.ext_getElem? (fun j => by
      by_cases h : j < i
      · rw [hj j h, List.getElem?_map, List.getElem?_range (by omega)]; rfl
      · rw [List.getElem?_eq_none (by omega), List.getElem?_eq_none (by rw [List.length_map, List.length_range]; omega)])
    rw [show (i : Int) = (l.length : Int) by omega, ← this]
    exact Ev.neg (by omega) (Ev.now _)
  | succ d ih =>
    intro i acc hi ha hj
    refine Ev.succ ?_
    simp only [laws_markIntS.l0.eq_2]
    refine Ev.pos (by omega) (Ev.pos (by omega) ?_)
    rw [w64 (n := (i : Int) + 1) (by omega) (by omega), w64 (by omega) (by omega)]
    rw [show a + (i : Int) + 1 = a + ((i + 1 : Nat) : Int) by omega]
    refine ih (i + 1) _ (by omega) (by simpa using ha) ?_
    intro j h
    rw [Int.toNat_natCast, List.getElem?_set]
    by_cases e : i = j
    · subst e
      rw [if_pos rfl, if_pos (by omega)]
    · rw [if_neg e]; exact hj j (by omega)
theorem mark_ev (l : List Int) (a : Int) (h0 : 0 ≤ a) (h1 : a ≤ 1000000000) (hl : l.length ≤ 35184372088832) : Ev (fun k => laws_markIntS.f k l a) (a + (l.length : Int), (List.range l.length).map (fun j : Nat => a + (j : Int))) := by
  have := mark_loop l a h0 h1 hl l.length 0 l (by omega) rfl (fun j h => by omega)
  simp only [Int.natCast_zero, Int.add_zero] at this
  exact this
/-- a valid, possible seating -/
def Stg (n k : Int) (l : List Int) : Prop := ((1 ≤ n ∧ n ≤ 12) ∧ 0 ≤ k ∧ k ≤ n) ∧ l.length = n.toNat ∧ ∀ j, j < n.toNat → stepOk n.toNat k.toNat l j
theorem l5Ask_ev (n k : Int) (l : List Int) (b : Bool) (hb : b = true ↔ Stg n k l) : Ev (fun m => spec_l5Ask.f m n k l) b := by
  unfold spec_l5Ask.f
  by_cases hn : (1 ≤ n ∧ n ≤ 12) ∧ 0 ≤ k ∧ k ≤ n
  · obtain ⟨N, rfl⟩ : ∃ N : Nat, n = (N : Int) := ⟨n.toNat, by omega⟩
    obtain ⟨K, rfl⟩ : ∃ K : Nat, k = (K : Int) := ⟨k.toNat, by omega⟩
    exact Ev.bindc (l5Good_eq _ _) (Ev.pos (decide_eq_true hn) (Ev.bind (f := fun _ t => some t) (l5Possible_ev N K l (by omega) b (by rw [hb]; exact ⟨fun h => h.2, fun h => ⟨hn, h⟩⟩)) (Ev.now _)))
  · rw [show b = false by
      cases b with
      | false => rfl
      | true => exact absurd (hb.mp rfl).1 hn]
    exact Ev.bindc (l5Good_eq _ _) (Ev.neg (by simpa using hn) (Ev.now _))
theorem isSeating_ev (n k : Int) (l : List Int) (hl : l.length ≤ 35184372088832) (b : Bool) (hb : b = true ↔ Stg n k l) : Ev (fun m => impl_isSeating.f m n k l) b := by
  unfold impl_isSeating.f
  by_cases hn : (1 ≤ n ∧ n ≤ 12) ∧ 0 ≤ k ∧ k ≤ n
  · obtain ⟨N, rfl⟩ : ∃ N : Nat, n = (N : Int) := ⟨n.toNat, by omega⟩
    obtain ⟨K, rfl⟩ : ∃ K : Nat, k = (K : Int) := ⟨k.toNat, by omega⟩
    exact Ev.bindc (isPlane_eq _ _) (Ev.pos (decide_eq_true hn) (Ev.bind (f := fun _ t => some t) (isPossible_ev N K l (by omega) (by omega) hl b (by rw [hb]; exact ⟨fun h => h.2, fun h => ⟨hn, h⟩⟩)) (Ev.now _)))
  · rw [show b = false by
      cases b with
      | false => rfl
      | true => exact absurd (hb.mp rfl).1 hn]
    exact Ev.bindc (isPlane_eq _ _) (Ev.neg (by simpa using hn) (Ev.now _))
theorem eqA2_ev (x y : Int) : Ev (fun k => laws_eqIntA2.f k x y x y) true := by
  unfold laws_eqIntA2.f
  refine Ev.succ ?_
  simp only [laws_eqIntA2.l0.eq_2]
  refine Ev.pos (by decide) (Ev.pos (by trivial) (Ev.pos (by trivial) ?_))
  rw [show wrap64 (0 + 1) = 1 by rw [w64 (by omega) (by omega)]; rfl]
  refine Ev.succ ?_
  simp only [laws_eqIntA2.l0.eq_2]
  refine Ev.pos (by decide) (Ev.neg (by decide) (Ev.pos (by trivial) (Ev.pos (by trivial) ?_)))
  rw [show wrap64 (1 + 1) = 2 by rw [w64 (by omega) (by omega)]; rfl]
  refine Ev.succ ?_
  simp only [laws_eqIntA2.l0.eq_2]
  exact Ev.neg (by decide) (Ev.now _)
/-- the moves of the first travelers -/
def movL (l : List Int) (i : Nat) : List S28 := ((List.range i).filter (fun j : Nat => !decide (l.getD j 0 = (j : Int)))).map (fun j : Nat => (⟨(j : Int), l.getD j 0⟩ : S28))
theorem movL_succ (l : List Int) (i : Nat) : movL l (i + 1) = movL l i ++ (if l.getD i 0 = (i : Int) then [] else [(⟨(i : Int), l.getD i 0⟩ : S28)]) := by
  unfold movL
  rw [List.range_succ, List.filter_append, List.map_append]
  congr 1
  by_cases c : l.getD i 0 = (i : Int)
  · have e : (!decide (l.getD i 0 = (i : Int))) = false := by rw [decide_eq_true c]; rfl
    rw [if_pos c, List.filter_cons, List.filter_nil, if_neg (by rw [e]; decide)]; rfl
  · have e : (!decide (l.getD i 0 = (i : Int))) = true := by rw [decide_eq_false c]; rfl
    rw [if_neg c, List.filter_cons, List.filter_nil, if_pos e]; rfl
theorem movL_len (l : List Int) (i : Nat) : (movL l i).length ≤ i := by
  unfold movL; rw [List.length_map]; have := List.length_filter_le (fun j : Nat => !decide (l.getD j 0 = (j : Int))) (List.range i); rw [List.length_range] at this; exact this
theorem moves_spec (n : Nat) (l : List Int) (hn : n ≤ 12) (hl : l.length = n) : ∀ d i, i + d = n → Ev (fun k => spec_MovesOf.l0 k (n : Int) l (movL l i) (i : Int)) (movL l n, true) := by
  intro d
  induction d with
  | zero =>
    intro i hi
    obtain rfl : i = n := by omega
    refine Ev.succ ?_
    simp only [spec_MovesOf.l0.eq_2]
    exact Ev.neg (by omega) (Ev.now _)
  | succ d ih =>
    intro i hi
    have h1 := ih (i + 1) (by omega)
    rw [movL_succ] at h1
    have := movL_len l i
    refine Ev.succ ?_
    simp only [spec_MovesOf.l0.eq_2]
    rw [rd_getD, w64 (by omega) (by omega)]
    refine Ev.pos (by omega) (Ev.pos (by omega) (Ev.pos (by omega) ?_))
    by_cases c : l.getD i 0 = (i : Int)
    · rw [if_pos c, List.append_nil] at h1; exact Ev.pos c h1
    · rw [if_neg c] at h1; exact Ev.neg c (Ev.pos (by omega) h1)
theorem moves_impl (n : Nat) (l : List Int) (hn : n ≤ 12) (hl : l.length = n) : ∀ d i, i + d = n → Ev (fun k => impl_MovesOf.l0 k (movL l i) l (l.length : Int) (i : Int)) (movL l n, true) := by
  intro d
  induction d with
  | zero =>
    intro i hi
    obtain rfl : i = n := by omega
    refine Ev.succ ?_
    simp only [impl_MovesOf.l0.eq_2]
    exact Ev.neg (by omega) (Ev.now _)
  | succ d ih =>
    intro i hi
    have h1 := ih (i + 1) (by omega)
    rw [movL_succ] at h1
    have := movL_len l i
    refine Ev.succ ?_
    simp only [impl_MovesOf.l0.eq_2]
    rw [rd_getD, w64 (by omega) (by omega)]
    refine Ev.pos (by omega) (Ev.pos (by omega) (Ev.pos (by omega) ?_))
    by_cases c : l.getD i 0 = (i : Int)
    · rw [if_pos c, List.append_nil] at h1; exact Ev.pos c h1
    · rw [if_neg c] at h1; exact Ev.neg c (Ev.pos (by omega) h1)
theorem eqA2S_loop (l : List S28) (hl : l.length ≤ 35184372088832) : ∀ d i, i + d = l.length → Ev (fun k => laws_eqIntA2S.l0 k l l (i : Int)) true := by
  intro d
  induction d with
  | zero =>
    intro i hi
    refine Ev.succ ?_
    simp only [laws_eqIntA2S.l0.eq_2]
    exact Ev.neg (by omega) (Ev.now _)
  | succ d ih =>
    intro i hi
    refine Ev.succ ?_
    simp only [laws_eqIntA2S.l0.eq_2]
    rw [w64 (by omega) (by omega)]
    exact Ev.pos (by omega) (Ev.pos (by omega) (Ev.pos (by omega) (Ev.bind (eqA2_ev _ _) (Ev.pos rfl (ih (i + 1) (by omega))))))
theorem eqA2S_ev (l : List S28) (hl : l.length ≤ 35184372088832) : Ev (fun k => laws_eqIntA2S.f k l l) true := by
  unfold laws_eqIntA2S.f
  exact Ev.pos rfl (eqA2S_loop l hl l.length 0 (by omega))
/-- marks, two an element -/
def mksA (n : Nat) : List S28 := (List.range n).map (fun j : Nat => (⟨1 + 2 * (j : Int), 2 + 2 * (j : Int)⟩ : S28))
theorem mksA_len (n : Nat) : (mksA n).length = n := by unfold mksA; rw [List.length_map, List.length_range]
theorem mksA_get (n j : Nat) (h : j < n) : (mksA n)[j]? = some (⟨1 + 2 * (j : Int), 2 + 2 * (j : Int)⟩ : S28) := by
  unfold mksA; rw [List.getElem?_map, List.getElem?_range h]; rfl
theorem markA_loop (n : Nat) (hn : n ≤ 1000) : ∀ d i (acc : List S28), i + d = n → acc.length = n → (∀ j, j < i → acc[j]? = (mksA n)[j]?) → Ev (fun k => laws_markIntA2S.l0 k acc (1 + 2 * (i : Int)) (i : Int)) (1 + 2 * (n : Int), mksA n) := by
  intro d
  induction d with
  | zero =>
    intro i acc hi ha hj
    obtain rfl : i = n := by omega
    refine Ev.succ ?_
    simp only [laws_markIntA2S.l0.eq_2]
    have e : acc = mksA i := by
      refine List.ext_getElem? (fun j => ?_)
      rcases Nat.lt_or_ge j i with h | h
      · exact hj j h
      · rw [List.getElem?_eq_none (by omega), List.getElem?_eq_none (by rw [mksA_len]; omega)]
    rw [e]
    exact Ev.neg (by rw [mksA_len]; omega) (Ev.now _)
  | succ d ih =>
    intro i acc hi ha hj
    refine Ev.succ ?_
    simp only [laws_markIntA2S.l0.eq_2]
    refine Ev.pos (by omega) (Ev.succ ?_)
    simp only [laws_markIntA2S.l1.eq_2]
    rw [Int.toNat_natCast, w64 (n := 1 + 2 * (i : Int) + 1) (by omega) (by omega), w64 (n := (0 : Int) + 1) (by omega) (by omega)]
    refine Ev.pos (by omega) (Ev.pos (by omega) (Ev.pos (by omega) (Ev.pos (by trivial) (Ev.succ ?_))))
    simp only [laws_markIntA2S.l1.eq_2]
    rw [Int.toNat_natCast, w64 (n := 1 + 2 * (i : Int) + 1 + 1) (by omega) (by omega), w64 (n := (0 : Int) + 1 + 1) (by omega) (by omega)]
    refine Ev.pos (by omega) (Ev.pos (by omega) (Ev.pos (by rw [List.length_set]; omega) (Ev.neg (by omega) (Ev.pos (by omega) (Ev.succ ?_)))))
    simp only [laws_markIntA2S.l1.eq_2]
    rw [w64 (n := (i : Int) + 1) (by omega) (by omega)]
    refine Ev.neg (by omega) ?_
    have h1 : (1 + 2 * (i : Int) + 1 + 1) = 1 + 2 * ((i + 1 : Nat) : Int) := by omega
    rw [h1]
    refine ih (i + 1) _ (by omega) (by rw [List.length_set, List.length_set]; exact ha) (fun j hj2 => ?_)
    rw [List.set_set]
    have hrd : (rd_T28 (acc.set i (⟨1 + 2 * (i : Int), (rd_T28 acc (i : Int)).f1⟩ : S28)) (i : Int)).f0 = 1 + 2 * (i : Int) := by
      unfold rd_T28
      rw [Int.toNat_natCast, List.getD_eq_getElem?_getD, List.getElem?_set_self (by omega)]; rfl
    rw [hrd]
    rcases Nat.lt_or_ge j i with h | h
    · rw [List.getElem?_set_ne (by omega)]; exact hj j h
    · obtain rfl : j = i := by omega
      rw [List.getElem?_set_self (by omega), mksA_get n j (by omega)]
      congr 2; omega
theorem markA_ev (l : List S28) (hl : l.length ≤ 1000) : Ev (fun k => laws_markIntA2S.f k l 1) (1 + 2 * (l.length : Int), mksA l.length) := by
  unfold laws_markIntA2S.f
  have := markA_loop l.length hl l.length 0 l (by omega) rfl (fun j hj => by omega)
  exact this
theorem heldA_loop (n : Nat) (hn : n ≤ 1000) : ∀ d i, i + d = n → Ev (fun k => laws_heldIntA2S.l0 k (mksA n) (1 + 2 * (i : Int)) (i : Int)) (1 + 2 * (n : Int)) := by
  intro d
  induction d with
  | zero =>
    intro i hi
    obtain rfl : i = n := by omega
    refine Ev.succ ?_
    simp only [laws_heldIntA2S.l0.eq_2]
    exact Ev.neg (by rw [mksA_len]; omega) (Ev.now _)
  | succ d ih =>
    intro i hi
    have hrd : rd_T28 (mksA n) (i : Int) = (⟨1 + 2 * (i : Int), 2 + 2 * (i : Int)⟩ : S28) := by
      unfold rd_T28
      rw [Int.toNat_natCast, List.getD_eq_getElem?_getD, mksA_get n i (by omega)]; rfl
    refine Ev.succ ?_
    simp only [laws_heldIntA2S.l0.eq_2]
    refine Ev.pos (by rw [mksA_len]; omega) (Ev.succ ?_)
    simp only [laws_heldIntA2S.l1.eq_2]
    rw [hrd, w64 (n := 1 + 2 * (i : Int) + 1) (by omega) (by omega), w64 (n := (0 : Int) + 1) (by omega) (by omega)]
    refine Ev.pos (by omega) (Ev.pos (by omega) (Ev.pos (by rw [mksA_len]; omega) (Ev.pos (by trivial) (Ev.pos (by trivial) (Ev.succ ?_)))))
    simp only [laws_heldIntA2S.l1.eq_2]
    rw [hrd, w64 (n := 1 + 2 * (i : Int) + 1 + 1) (by omega) (by omega), w64 (n := (0 : Int) + 1 + 1) (by omega) (by omega)]
    refine Ev.pos (by omega) (Ev.pos (by omega) (Ev.pos (by rw [mksA_len]; omega) (Ev.neg (by omega) (Ev.pos (by omega) (Ev.pos (by simp only; omega) (Ev.succ ?_))))))
    simp only [laws_heldIntA2S.l1.eq_2]
    rw [w64 (n := (i : Int) + 1) (by omega) (by omega)]
    refine Ev.neg (by omega) ?_
    have h1 : (1 + 2 * (i : Int) + 1 + 1) = 1 + 2 * ((i + 1 : Nat) : Int) := by omega
    rw [h1]
    exact ih (i + 1) (by omega)
theorem heldA_ev (n : Nat) (hn : n ≤ 1000) : Ev (fun k => laws_heldIntA2S.f k (mksA n) 1) (1 + 2 * (n : Int)) := by
  unfold laws_heldIntA2S.f
  have := heldA_loop n hn n 0 (by omega)
  exact this

theorem FnExactMovesOf : laws_FnExactMovesOf.Pure := by
  intro n k l hn hk hl hl2 hx
  have hL : l.length ≤ 35184372088832 := by omega
  refine Ev.rounds (g := fun m => laws_FnExactMovesOf.f m n k l) ?_
  unfold laws_FnExactMovesOf.f
  by_cases hb : (l.length : Int) > 1048576
  · exact Ev.pos hb (Ev.now _)
  · have key : ∃ r : List S28 × Bool, r.1.length ≤ 1000 ∧ Ev (fun m => spec_MovesOf.f m n k l) r ∧ Ev (fun m => impl_MovesOf.f m n k l) r := by
      obtain ⟨b, hbb⟩ := exists_bool (Stg n k l)
      unfold spec_MovesOf.f impl_MovesOf.f
      cases b with
      | false =>
        exact ⟨([], false), by simp, Ev.bindc rfl (Ev.bind (l5Ask_ev n k l false hbb) (Ev.neg (by decide) (Ev.now _))), Ev.bind (isSeating_ev n k l hL false hbb) (Ev.neg (by decide) (Ev.now _))⟩
      | true =>
        have h := hbb.mp rfl
        have hn := h.1
        have h1 := l5Ask_ev n k l true hbb
        have h2 := isSeating_ev n k l hL true hbb
        obtain ⟨N, rfl⟩ : ∃ N : Nat, n = (N : Int) := ⟨n.toNat, by omega⟩
        have hln : l.length = N := h.2.1
        refine ⟨(movL l N, true), by have := movL_len l N; simp only; omega, Ev.bindc rfl (Ev.bind h1 (Ev.pos rfl ?_)), Ev.bind h2 (Ev.pos rfl ?_)⟩
        · exact moves_spec N l (by omega) hln N 0 (by omega)
        · exact moves_impl N l (by omega) hln N 0 (by omega)
    obtain ⟨r, hr, h, h'⟩ := key
    have hr2 : r.1.length ≤ 35184372088832 := by omega
    have hi := toIntS_ev l hL
    have he := eqA2S_ev r.1 hr2
    refine Ev.neg hb (Ev.bind hi (Ev.bind h (Ev.bind hi (Ev.bind h' (Ev.bind he (Ev.pos rfl (Ev.succ ?_)))))))
    simp only [laws_FnExactMovesOf.j0.eq_2]
    refine Ev.neg (by simp) (Ev.bind hi (Ev.bind (eqIntS_ev l hL) (Ev.pos (by trivial) (Ev.bind (mark_ev l 1 (by omega) (by omega) hL) (Ev.neg (by omega) (Ev.bind he (Ev.pos rfl (Ev.succ ?_))))))))
    simp only [laws_FnExactMovesOf.j1.eq_2]
    refine Ev.neg (by simp) (Ev.bind (markA_ev r.1 hr) (Ev.bind (heldA_ev r.1.length hr) (Ev.neg (by omega) (Ev.pos rfl (Ev.bind hi (Ev.bind h' (Ev.bind he (Ev.pos rfl (Ev.succ ?_)))))))))
    simp only [laws_FnExactMovesOf.j2.eq_2]
    exact Ev.neg (by simp) (Ev.bind (heldA_ev r.1.length hr) (Ev.neg (by omega) (Ev.pos rfl (Ev.now _))))

end Go.Proofs.Ytkjnjfgbffbiiaa.Pure
