/- Proved: the ties of the polite settling counted. -/
import Derived.Test.YtnchmnkljneedaaDoorPFnExactPoliteTiesx9
namespace Go.Proofs.YtnchmnkljneedaaDoor.Pure
open Go.RowKit Go.Proofs.YtnchmnkljneedaaDoor.PFnExactPoliteTies Go.Proofs.YtnchmnkljneedaaDoorW.PrintWords Go.Proofs.YtnchmnkljneedaaDoorW.PrintLast Go.Proofs.YtnchmnkljneedaaDoorW.PrintMore
set_option linter.unusedVariables false

theorem Ev.pos {α : Type} {c : Prop} [Decidable c] {f g : Nat → Option α} {r : α} (h : c) (k : Ev f r) : Ev (fun m => if c then f m else g m) r :=
  Ev.congr (fun _ => if_pos h) k
theorem Ev.neg {α : Type} {c : Prop} [Decidable c] {f g : Nat → Option α} {r : α} (h : ¬ c) (k : Ev g r) : Ev (fun m => if c then f m else g m) r :=
  Ev.congr (fun _ => if_neg h) k
theorem Ev.bindc {α β : Type} {x : Option α} {f : Nat → α → Option β} {a : α} {r : β} (h : x = some a) (k : Ev (fun n => f n a) r) : Ev (fun n => x.bind (f n)) r := by
  subst h; exact k
theorem Ev.succ {α : Type} {g : Nat → Option α} {r : α} (k : Ev (fun n => g (n + 1)) r) : Ev g r := Ev.step (fun _ => rfl) k
theorem Ev.unique {α : Type} {g : Nat → Option α} {r q : α} (h : Ev g r) (k : Ev g q) : r = q := by
  obtain ⟨K, hK⟩ := h; obtain ⟨L, hL⟩ := k
  have := (hK (max K L) (Nat.le_max_left _ _)).symm.trans (hL (max K L) (Nat.le_max_right _ _))
  exact Option.some.inj this
theorem w64 {n : Int} (h0 : -9223372036854775808 ≤ n) (h1 : n < 9223372036854775808) : wrap64 n = n := by unfold wrap64; omega
theorem rd_nat (l : List Int) (i : Nat) (h : i < l.length) : rd l (i : Int) = l[i] := by
  unfold rd; rw [Int.toNat_natCast, List.getD_eq_getElem?_getD, List.getElem?_eq_getElem h]; rfl
theorem lit_i64 {x : Int} (h : (Lit.int .i64 x).wf = true) : -9223372036854775808 ≤ x ∧ x < 9223372036854775808 := by
  simp [Lit.wf, IntKind.min, IntKind.max, IntKind.bits, IntKind.signed] at h; omega
/-- a loop that ends early, with one answer, where P fails -/
theorem ev_all {α : Type} (L : Nat → Nat → Option α) (n : Nat) (P : Nat → Prop) (rEnd : α)
    (hend : Ev (fun k => L k n) rEnd) (hgood : ∀ i, i < n → P i → ∀ r, Ev (fun k => L k (i + 1)) r → Ev (fun k => L k i) r)
    (i : Nat) (hi : i ≤ n) (h : ∀ j, i ≤ j → j < n → P j) : Ev (fun k => L k i) rEnd := by
  obtain ⟨d, hd⟩ : ∃ d, i + d = n := ⟨n - i, by omega⟩
  induction d generalizing i with
  | zero => rw [show i = n by omega]; exact hend
  | succ d ih => exact hgood i (by omega) (h i (by omega) (by omega)) _ (ih (i + 1) (by omega) (fun j h1 h2 => h j (by omega) h2) (by omega))
theorem ev_bad {α : Type} (L : Nat → Nat → Option α) (n : Nat) (P : Nat → Prop) (rBad : α)
    (hgood : ∀ i, i < n → P i → ∀ r, Ev (fun k => L k (i + 1)) r → Ev (fun k => L k i) r) (hbad : ∀ i, i < n → ¬ P i → Ev (fun k => L k i) rBad)
    (i : Nat) (h : ∃ j, i ≤ j ∧ j < n ∧ ¬ P j) : Ev (fun k => L k i) rBad := by
  obtain ⟨j, h1, h2, h3⟩ := h
  obtain ⟨d, hd⟩ : ∃ d, i + d = j := ⟨j - i, by omega⟩
  induction d generalizing i with
  | zero => rw [show i = j by omega]; exact hbad j h2 h3
  | succ d ih =>
    by_cases hp : P i
    · exact hgood i (by omega) hp _ (ih (i + 1) (by omega) (by omega))
    · exact hbad i (by omega) hp
theorem ev_dec {α : Type} (L : Nat → Nat → Option α) (n : Nat) (P : Nat → Prop) [DecidablePred P] (f : Bool → α)
    (hend : Ev (fun k => L k n) (f true)) (hgood : ∀ i, i < n → P i → ∀ r, Ev (fun k => L k (i + 1)) r → Ev (fun k => L k i) r)
    (hbad : ∀ i, i < n → ¬ P i → Ev (fun k => L k i) (f false)) (b : Bool) (hb : b = true ↔ ∀ j, j < n → P j) : Ev (fun k => L k 0) (f b) := by
  cases b with
  | true => exact ev_all L n P (f true) hend hgood 0 (by omega) (fun j _ h => hb.mp rfl j h)
  | false =>
    refine ev_bad L n P (f false) hgood hbad 0 ?_
    by_cases h : ∀ j, j < n → P j
    · exact absurd (hb.mpr h) (by decide)
    · have : ∃ j, ¬ (j < n → P j) := Classical.not_forall.mp h
      obtain ⟨j, hj⟩ := this
      exact ⟨j, by omega, Decidable.byContradiction (fun c => hj (fun h2 => absurd h2 c)), fun c => hj (fun _ => c)⟩
/-- a loop with a state -/
def iterFrom {σ : Type} (g : Nat → σ → σ) : Nat → Nat → σ → σ
  | 0, _, s => s
  | d + 1, i, s => iterFrom g d (i + 1) (g i s)
theorem ev_iter {σ α : Type} (L : Nat → σ → Nat → Option α) (n : Nat) (g : Nat → σ → σ) (fin : σ → α) (I : Nat → σ → Prop)
    (hend : ∀ s, I n s → Ev (fun k => L k s n) (fin s)) (hI : ∀ i s, i < n → I i s → I (i + 1) (g i s))
    (hstep : ∀ i s, i < n → I i s → ∀ r, Ev (fun k => L k (g i s) (i + 1)) r → Ev (fun k => L k s i) r) :
    ∀ (d i : Nat) (s : σ), i + d = n → I i s → Ev (fun k => L k s i) (fin (iterFrom g d i s)) := by
  intro d
  induction d with
  | zero => intro i s hi hs; rw [show i = n by omega] at hs ⊢; exact hend s hs
  | succ d ih => intro i s hi hs; exact hstep i s (by omega) hs _ (ih (i + 1) (g i s) (by omega) (hI i s (by omega) hs))
theorem toIntS_loop (l : List Int) (hl : l.length ≤ 35184372088832) : ∀ (d i : Nat) (acc : List Int), i + d = l.length → acc.length = l.length → (∀ j, j < i → acc[j]? = l[j]?) → Ev (fun k => laws_toIntS.l0 k l acc (i : Int)) l := by
  intro d
  induction d with
  | zero =>
    intro i acc hi ha hj
    refine Ev.succ ?_
    simp only [laws_toIntS.l0.eq_2]
    refine Ev.neg (by omega) ?_
    have : acc = l := List.ext_getElem? (fun j => by
      by_cases h : j < i
      · exact hj j h
      · rw [List.getElem?_eq_none (by omega), List.getElem?_eq_none (by omega)])
    rw [this]; exact Ev.now _
  | succ d ih =>
    intro i acc hi ha hj
    refine Ev.succ ?_
    simp only [laws_toIntS.l0.eq_2]
    refine Ev.pos (by omega) (Ev.pos (by omega) (Ev.pos (by omega) ?_))
    rw [w64 (by omega) (by omega)]
    refine ih (i + 1) _ (by omega) (by simpa using ha) ?_
    intro j h
    rw [Int.toNat_natCast, List.getElem?_set]
    by_cases e : i = j
    · subst e
      rw [if_pos rfl, if_pos (by omega), rd_nat l i (by omega), List.getElem?_eq_getElem]
    · rw [if_neg e]; exact hj j (by omega)
theorem toIntS_ev (l : List Int) (hl : l.length ≤ 35184372088832) : Ev (fun k => laws_toIntS.f k l) l := by
  unfold laws_toIntS.f
  refine Ev.pos (by omega) (Ev.pos (by omega) ?_)
  exact toIntS_loop l hl l.length 0 _ (by omega) (by simp) (fun j h => by omega)
theorem eqIntS_loop (l : List Int) (hl : l.length ≤ 35184372088832) : ∀ (d i : Nat), i + d = l.length → Ev (fun k => laws_eqIntS.l0 k l l (i : Int)) true := by
  intro d
  induction d with
  | zero =>
    intro i hi
    refine Ev.succ ?_
    simp only [laws_eqIntS.l0.eq_2]
    exact Ev.neg (by omega) (Ev.now _)
  | succ d ih =>
    intro i hi
    refine Ev.succ ?_
    simp only [laws_eqIntS.l0.eq_2]
    refine Ev.pos (by omega) (Ev.pos (by omega) (Ev.pos (by omega) (Ev.pos (by trivial) ?_)))
    rw [w64 (by omega) (by omega)]
    exact ih (i + 1) (by omega)
theorem eqIntS_ev (l : List Int) (hl : l.length ≤ 35184372088832) : Ev (fun k => laws_eqIntS.f k l l) true := by
  unfold laws_eqIntS.f
  exact Ev.pos rfl (eqIntS_loop l hl l.length 0 (by omega))
theorem within_eq (a b c : Int) : impl_within.f a b c = some (decide (b ≤ a ∧ a ≤ c)) := by
  unfold impl_within.f
  by_cases h : a ≥ b
  · rw [if_pos h]; simp [show b ≤ a from h]
  · rw [if_neg h]; simp [show ¬ b ≤ a from h]
theorem l1In_eq (a b c : Int) : spec_l1In.f a b c = some (decide (b ≤ a ∧ a ≤ c)) := by
  unfold spec_l1In.f
  by_cases h : a ≥ b
  · rw [if_pos h]; simp [show b ≤ a from h]
  · rw [if_neg h]; simp [show ¬ b ≤ a from h]
theorem allWithin_loop (l : List Int) (lo hi : Int) (hl : l.length ≤ 35184372088832) : ∀ (d i : Nat), i + d = l.length → Ev (fun k => impl_allWithin.l0 k lo hi l (l.length : Int) (i : Int)) (decide (∀ x ∈ l.drop i, lo ≤ x ∧ x ≤ hi)) := by
  intro d
  induction d with
  | zero =>
    intro i hi
    refine Ev.succ ?_
    simp only [impl_allWithin.l0.eq_2]
    rw [List.drop_of_length_le (by omega)]
    exact Ev.neg (by omega) (by simp; exact Ev.now _)
  | succ d ih =>
    intro i hi'
    refine Ev.succ ?_
    simp only [impl_allWithin.l0.eq_2]
    refine Ev.pos (by omega) (Ev.pos (by omega) (Ev.pos (by omega) (Ev.bindc (within_eq _ _ _) ?_)))
    have hd : l.drop i = l[i] :: l.drop (i + 1) := (List.drop_eq_getElem_cons (by omega))
    rw [rd_nat l i (by omega)]
    by_cases e : lo ≤ l[i] ∧ l[i] ≤ hi
    · refine Ev.pos (decide_eq_true e) ?_
      rw [w64 (by omega) (by omega)]
      have e1 : (∀ x ∈ l.drop i, lo ≤ x ∧ x ≤ hi) ↔ (∀ x ∈ l.drop (i + 1), lo ≤ x ∧ x ≤ hi) := by rw [hd]; simp only [List.mem_cons, forall_eq_or_imp, e, true_and]
      rw [decide_eq_decide.mpr e1]
      exact ih (i + 1) (by omega)
    · rw [show decide (∀ x ∈ l.drop i, lo ≤ x ∧ x ≤ hi) = false by rw [hd]; simp only [List.mem_cons, forall_eq_or_imp, decide_eq_false_iff_not]; exact fun h => e h.1]
      exact Ev.neg (by simpa using e) (Ev.now _)
theorem allWithin_ev (l : List Int) (lo hi : Int) (hl : l.length ≤ 35184372088832) : Ev (fun k => impl_allWithin.f k l lo hi) (decide (∀ x ∈ l, lo ≤ x ∧ x ≤ hi)) := allWithin_loop l lo hi hl l.length 0 (by omega)
theorem szIntS_eq (l : List Int) (a : Int) (hl : l.length ≤ 35184372088832) (h0 : 0 ≤ a) (h1 : a ≤ 1048576) : laws_szIntS.f l a = some (if a - (l.length : Int) < 0 then -1 else a - (l.length : Int)) := by
  unfold laws_szIntS.f
  rw [w64 (by omega) (by omega)]
  split <;> rfl
def pc : Nat → Nat → Nat
  | 0, _ => 0
  | k + 1, n => n % 2 + pc k (n / 2)
theorem pc_add (a b n : Nat) : pc (a + b) n = pc a n + pc b (n / 2 ^ a) := by
  induction a generalizing n with
  | zero => simp [pc]
  | succ a ih =>
    rw [show a + 1 + b = (a + b) + 1 by omega]
    simp only [pc]
    rw [ih, Nat.div_div_eq_div_mul, Nat.pow_succ, Nat.mul_comm 2 (2 ^ a)]
    omega
theorem pc_mod (k n : Nat) : pc k (n % 2 ^ k) = pc k n := by
  induction k generalizing n with
  | zero => rfl
  | succ k ih =>
    simp only [pc]
    rw [show n % 2 ^ (k + 1) % 2 = n % 2 by rw [Nat.pow_succ]; exact Nat.mod_mul_left_mod n (2 ^ k) 2]
    rw [show n % 2 ^ (k + 1) / 2 = (n / 2) % 2 ^ k by rw [Nat.pow_succ, Nat.mul_comm]; exact Nat.mod_mul_right_div_self n 2 (2 ^ k)]
    rw [ih]
theorem pc_le (k n : Nat) : pc k n ≤ k := by
  induction k generalizing n with
  | zero => exact Nat.le_refl _
  | succ k ih => have := ih (n / 2); simp only [pc]; omega
theorem u32_nat (a b : Nat) (ha : a < 4294967296) (hb : b < 4294967296) : Go.bits .and .u32 (a : Int) (b : Int) = ((a &&& b : Nat) : Int) ∧ Go.bits .or .u32 (a : Int) (b : Int) = ((a ||| b : Nat) : Int) :=
  bits_nat .u32 32 (by decide) (fun n h0 h1 => by rw [IntKind.wrap_u32]; omega) a b (by omega) (by omega)
theorem pc_count (k n : Nat) : pc k n = (List.range k).countP (fun i => n.testBit i) := by
  induction k generalizing n with
  | zero => rfl
  | succ k ih =>
    rw [List.range_succ_eq_map, List.countP_cons, List.countP_map]
    simp only [pc]
    rw [ih, Nat.add_comm]
    congr 1
    · apply List.countP_congr
      intro i _
      simp [Nat.testBit_succ]
    · rw [Nat.testBit_zero]
      by_cases h : n % 2 = 1
      · simp [h]
      · have : n % 2 = 0 := by omega
        simp [this]
def onesTab : ByteArray := ⟨#[0, 1, 1, 2, 1, 2, 2, 3, 1, 2, 2, 3, 2, 3, 3, 4, 1, 2, 2, 3, 2, 3, 3, 4, 2, 3, 3, 4, 3, 4, 4, 5, 1, 2, 2, 3, 2, 3, 3, 4, 2, 3, 3, 4, 3, 4, 4, 5, 2, 3, 3, 4, 3, 4, 4, 5, 3, 4, 4, 5, 4, 5, 5, 6, 1, 2, 2, 3, 2, 3, 3, 4, 2, 3, 3, 4, 3, 4, 4, 5, 2, 3, 3, 4, 3, 4, 4, 5, 3, 4, 4, 5, 4, 5, 5, 6, 2, 3, 3, 4, 3, 4, 4, 5, 3, 4, 4, 5, 4, 5, 5, 6, 3, 4, 4, 5, 4, 5, 5, 6, 4, 5, 5, 6, 5, 6, 6, 7, 1, 2, 2, 3, 2, 3, 3, 4, 2, 3, 3, 4, 3, 4, 4, 5, 2, 3, 3, 4, 3, 4, 4, 5, 3, 4, 4, 5, 4, 5, 5, 6, 2, 3, 3, 4, 3, 4, 4, 5, 3, 4, 4, 5, 4, 5, 5, 6, 3, 4, 4, 5, 4, 5, 5, 6, 4, 5, 5, 6, 5, 6, 6, 7, 2, 3, 3, 4, 3, 4, 4, 5, 3, 4, 4, 5, 4, 5, 5, 6, 3, 4, 4, 5, 4, 5, 5, 6, 4, 5, 5, 6, 5, 6, 6, 7, 3, 4, 4, 5, 4, 5, 5, 6, 4, 5, 5, 6, 5, 6, 6, 7, 4, 5, 5, 6, 5, 6, 6, 7, 5, 6, 6, 7, 6, 7, 7, 8]⟩
theorem onesTab_pc : ∀ i : Fin 256, bt onesTab ((i.val : Nat) : Int) = ((pc 8 i.val : Nat) : Int) := by decide +kernel
theorem onesTab_at (n : Nat) (h : n < 256) : bt onesTab (n : Int) = ((pc 8 n : Nat) : Int) := onesTab_pc ⟨n, h⟩
theorem u32_byte (n : Nat) (h : n < 4294967296) : Go.bits .and .u32 (n : Int) 255 = ((n % 256 : Nat) : Int) := by
  have := (u32_nat n 255 h (by omega)).1
  rw [show ((255 : Nat) : Int) = 255 from rfl] at this
  rw [this, show 255 = 2 ^ 8 - 1 from rfl, Nat.and_two_pow_sub_one_eq_mod]
theorem ones_tab (a0 : Int) : bits_OnesCount32.f a0 = if 0 ≤ (a0 / 16777216) then (if (a0 / 16777216) < 256 then (if 0 ≤ (Go.bits .and .u32 (a0 / 65536) 255) then (if (Go.bits .and .u32 (a0 / 65536) 255) < 256 then (if 0 ≤ (Go.bits .and .u32 (a0 / 256) 255) then (if (Go.bits .and .u32 (a0 / 256) 255) < 256 then (if 0 ≤ (Go.bits .and .u32 a0 255) then (if (Go.bits .and .u32 a0 255) < 256 then (some ((((((bt onesTab (a0 / 16777216)) + (bt onesTab (Go.bits .and .u32 (a0 / 65536) 255))) % 256) + (bt onesTab (Go.bits .and .u32 (a0 / 256) 255))) % 256 + (bt onesTab (Go.bits .and .u32 a0 255))) % 256)) else (none)) else (none)) else (none)) else (none)) else (none)) else (none)) else (none)) else (none) := rfl
theorem ones_eq (n : Nat) (h : n < 4294967296) : bits_OnesCount32.f (n : Int) = some ((pc 32 n : Nat) : Int) := by
  have e1 : (n : Int) / 16777216 = ((n / 16777216 : Nat) : Int) := by omega
  have e2 : (n : Int) / 65536 = ((n / 65536 : Nat) : Int) := by omega
  have e3 : (n : Int) / 256 = ((n / 256 : Nat) : Int) := by omega
  rw [ones_tab, e1, e2, e3, u32_byte _ (by omega), u32_byte _ (by omega), u32_byte _ (by omega)]
  rw [onesTab_at _ (by omega), onesTab_at _ (by omega), onesTab_at _ (by omega), onesTab_at _ (by omega)]
  rw [if_pos (Int.natCast_nonneg _), if_pos (by omega), if_pos (Int.natCast_nonneg _), if_pos (by omega), if_pos (Int.natCast_nonneg _), if_pos (by omega), if_pos (Int.natCast_nonneg _), if_pos (by omega)]
  have p4 : pc 32 n = pc 8 (n % 256) + pc 8 (n / 256 % 256) + pc 8 (n / 65536 % 256) + pc 8 (n / 16777216) := by
    have a0 : pc 32 n = pc 8 n + (pc 8 (n / 256) + (pc 8 (n / 256 / 256) + pc 8 (n / 256 / 256 / 256))) := by
      rw [show pc 32 n = pc (8 + (8 + (8 + 8))) n from rfl, pc_add, pc_add, pc_add]
    have a1 : pc 8 (n % 256) = pc 8 n := pc_mod 8 n
    have a2 : pc 8 (n / 256 % 256) = pc 8 (n / 256) := pc_mod 8 (n / 256)
    have a3 : pc 8 (n / 65536 % 256) = pc 8 (n / 65536) := pc_mod 8 (n / 65536)
    rw [show n / 256 / 256 / 256 = n / 16777216 by omega, show n / 256 / 256 = n / 65536 by omega] at a0
    rw [a0, a1, a2, a3]; omega
  rw [p4]
  have b1 := pc_le 8 (n % 256)
  have b2 := pc_le 8 (n / 256 % 256)
  have b3 := pc_le 8 (n / 65536 % 256)
  have b4 := pc_le 8 (n / 16777216)
  refine congrArg some ?_
  generalize pc 8 (n % 256) = c1 at *
  generalize pc 8 (n / 256 % 256) = c2 at *
  generalize pc 8 (n / 65536 % 256) = c3 at *
  generalize h4 : pc 8 (n / 16777216) = c4 at *
  have : n / 16777216 % 256 = n / 16777216 := by omega
  omega
/-- the set of some seats -/
def setN (l : List Int) : Nat := l.foldl (fun s p => s ||| 2 ^ p.toNat) 0
theorem foldl_or_bit (l : List Int) (s j : Nat) : (l.foldl (fun s p => s ||| 2 ^ p.toNat) s).testBit j = (s.testBit j || decide (∃ p ∈ l, p.toNat = j)) := by
  induction l generalizing s with
  | nil => simp
  | cons p l ih =>
    rw [List.foldl_cons, ih, Nat.testBit_or, Nat.testBit_two_pow]
    simp only [List.mem_cons, exists_eq_or_imp, Bool.decide_or, Bool.or_assoc]
theorem setN_bit (l : List Int) (j : Nat) : (setN l).testBit j = decide (∃ p ∈ l, p.toNat = j) := by
  unfold setN; rw [foldl_or_bit]; simp
theorem setN_lt (l : List Int) (h : ∀ x ∈ l, 0 ≤ x ∧ x < 32) : setN l < 4294967296 := by
  refine Nat.lt_pow_two_of_testBit (n := 32) _ (fun j hj => ?_)
  rw [setN_bit]
  simp only [decide_eq_false_iff_not, not_exists, not_and]
  intro x hx e
  have := h x hx
  omega
theorem setN_take (l : List Int) (i : Nat) (h : i < l.length) : setN (l.take (i + 1)) = setN (l.take i) ||| 2 ^ (l[i]).toNat := by
  unfold setN
  rw [List.take_succ_eq_append_getElem h, List.foldl_append]
  rfl
theorem two_pow_lt32 (p : Int) (h0 : 0 ≤ p) (h1 : p < 32) : 2 ^ p.toNat < 4294967296 := Nat.pow_lt_pow_right (m := p.toNat) (n := 32) (by decide) (by omega)
theorem shl_u32_one (p : Int) (h0 : 0 ≤ p) (h1 : p < 32) : shl .u32 1 p = ((2 ^ p.toNat : Nat) : Int) := by
  unfold shl
  rw [Nat.min_eq_left (by simp [IntKind.bits]; omega), IntKind.wrap_u32]
  have e : (1 * 2 ^ p.toNat : Int) = ((2 ^ p.toNat : Nat) : Int) := by rw [Int.one_mul]; push_cast; rfl
  rw [e]; exact Int.emod_eq_of_lt (Int.natCast_nonneg _) (Int.ofNat_lt.mpr (two_pow_lt32 p h0 h1))
theorem setOf_loop (l : List Int) (h : ∀ x ∈ l, 0 ≤ x ∧ x < 32) (hl : l.length ≤ 35184372088832) : ∀ (d i : Nat), i + d = l.length → Ev (fun k => impl_setOf.l0 k (setN (l.take i) : Int) l (l.length : Int) (i : Int)) (setN l : Int) := by
  intro d
  induction d with
  | zero =>
    intro i hi
    refine Ev.succ ?_
    simp only [impl_setOf.l0.eq_2]
    rw [List.take_of_length_le (by omega)]
    exact Ev.neg (by omega) (Ev.now _)
  | succ d ih =>
    intro i hi
    refine Ev.succ ?_
    simp only [impl_setOf.l0.eq_2]
    have hx := h (l[i]) (List.getElem_mem (by omega))
    rw [rd_nat l i (by omega)]
    refine Ev.pos (by omega) (Ev.pos (by omega) (Ev.pos (by omega) (Ev.pos hx.1 ?_)))
    rw [w64 (by omega) (by omega), shl_u32_one _ hx.1 hx.2]
    rw [(u32_nat _ _ (setN_lt _ (fun x hx => h x (List.mem_of_mem_take hx))) (two_pow_lt32 _ hx.1 hx.2)).2, ← setN_take l i (by omega)]
    exact ih (i + 1) (by omega)
theorem setOf_ev (l : List Int) (h : ∀ x ∈ l, 0 ≤ x ∧ x < 32) (hl : l.length ≤ 35184372088832) : Ev (fun k => impl_setOf.f k l) (setN l : Int) := setOf_loop l h hl l.length 0 (by omega)
theorem count_eq (n : Nat) (h : n < 4294967296) : impl_set_count.f (n : Int) = some ((pc 32 n : Nat) : Int) := by
  unfold impl_set_count.f; rw [ones_eq n h]; rfl
/-- a list that has each number less than n once -/
def IsOrd (l : List Int) (n : Int) : Prop := (l.length : Int) = n ∧ ∀ i : Nat, (i : Int) < n → (i : Int) ∈ l
theorem ph_len : ∀ (n : Nat) (l : List Int), (∀ i : Nat, i < n → (i : Int) ∈ l) → n ≤ l.length := by
  intro n
  induction n with
  | zero => intro l _; omega
  | succ n ih =>
    intro l h
    have hm := h n (by omega)
    have := ih (l.erase (n : Int)) (fun i hi => (List.mem_erase_of_ne (by omega)).mpr (h i (by omega)))
    rw [List.length_erase_of_mem hm] at this
    have : 0 < l.length := List.length_pos_of_mem hm
    omega
theorem ph_range : ∀ (n : Nat) (l : List Int), l.length = n → (∀ i : Nat, i < n → (i : Int) ∈ l) → ∀ x ∈ l, 0 ≤ x ∧ x < (n : Int) := by
  intro n
  induction n with
  | zero => intro l hl _ x hx; rw [List.length_eq_zero_iff.mp hl] at hx; cases hx
  | succ n ih =>
    intro l hl h x hx
    have hm := h n (by omega)
    by_cases e : x = (n : Int)
    · omega
    · have := ih (l.erase (n : Int)) (by rw [List.length_erase_of_mem hm]; omega) (fun i hi => (List.mem_erase_of_ne (by omega)).mpr (h i (by omega))) x ((List.mem_erase_of_ne e).mpr hx)
      omega
theorem ph_nodup_len : ∀ (m : Nat) (l : List Int), l.Nodup → (∀ x ∈ l, 0 ≤ x ∧ x < (m : Int)) → l.length ≤ m := by
  intro m
  induction m with
  | zero =>
    intro l _ h
    cases l with
    | nil => simp
    | cons x l => have := h x (by simp); omega
  | succ m ih =>
    intro l hn h
    by_cases hm : (m : Int) ∈ l
    · have := ih (l.erase (m : Int)) (hn.erase _) (fun x hx => by
        have h1 := h x (List.mem_of_mem_erase hx)
        have h2 : x ≠ (m : Int) := fun e => by subst e; exact (List.Nodup.not_mem_erase hn) hx
        omega)
      rw [List.length_erase_of_mem hm] at this
      omega
    · have := ih l hn (fun x hx => by
        have h1 := h x hx
        have h2 : x ≠ (m : Int) := fun e => by subst e; exact hm hx
        omega)
      omega
theorem ord_range {l : List Int} {n : Int} (h : IsOrd l n) : ∀ x ∈ l, 0 ≤ x ∧ x < n := by
  obtain ⟨h1, h2⟩ := h
  have := ph_range l.length l rfl (fun i hi => h2 i (by omega))
  intro x hx; have := this x hx; omega
theorem ord_of_nodup {l : List Int} {n : Int} (hl : (l.length : Int) = n) (hn : l.Nodup) (hr : ∀ x ∈ l, 0 ≤ x ∧ x < n) : IsOrd l n := by
  refine ⟨hl, fun i hi => ?_⟩
  by_cases hm : (i : Int) ∈ l
  · exact hm
  · have := ph_nodup_len l.length ((i : Int) :: l) (List.nodup_cons.mpr ⟨hm, hn⟩) (fun x hx => by
      rcases List.mem_cons.mp hx with rfl | hx
      · omega
      · have := hr x hx; omega)
    rw [List.length_cons] at this; omega
theorem ord_nodup : ∀ (n : Nat) (l : List Int), l.length = n → (∀ i : Nat, i < n → (i : Int) ∈ l) → l.Nodup := by
  intro n
  induction n with
  | zero => intro l hl _; rw [List.length_eq_zero_iff.mp hl]; exact List.nodup_nil
  | succ n ih =>
    intro l hl h
    have hm := h n (by omega)
    have hl' : (l.erase (n : Int)).length = n := by rw [List.length_erase_of_mem hm]; omega
    have h' : ∀ i : Nat, i < n → (i : Int) ∈ l.erase (n : Int) := fun i hi => (List.mem_erase_of_ne (by omega)).mpr (h i (by omega))
    have hn : (n : Int) ∉ l.erase (n : Int) := fun hc => by have := ph_range n _ hl' h' _ hc; omega
    exact (List.perm_cons_erase hm).nodup_iff.mpr (List.nodup_cons.mpr ⟨hn, ih _ hl' h'⟩)
theorem isOrd_nodup {l : List Int} {n : Int} (h : IsOrd l n) : l.Nodup := ord_nodup l.length l rfl (fun i hi => h.2 i (by have := h.1; omega))
instance (l : List Int) (n : Int) : Decidable (IsOrd l n) := decidable_of_iff ((l.length : Int) = n ∧ ∀ i : Fin l.length, (i.val : Int) ∈ l) (by
  unfold IsOrd
  constructor
  · rintro ⟨h1, h2⟩; exact ⟨h1, fun i hi => h2 ⟨i, by omega⟩⟩
  · rintro ⟨h1, h2⟩; exact ⟨h1, fun i => h2 i.val (by have := i.isLt; omega)⟩)
theorem getD_lt (l : List Int) (i : Nat) (h : i < l.length) : l.getD i 0 = l[i] := by rw [List.getD_eq_getElem?_getD, List.getElem?_eq_getElem h]; rfl
theorem rd_getD (l : List Int) (i : Nat) : rd l (i : Int) = l.getD i 0 := by unfold rd; rw [Int.toNat_natCast]
theorem exists_bool (p : Prop) : ∃ b : Bool, b = true ↔ p := by
  by_cases h : p
  · exact ⟨true, by simp [h]⟩
  · exact ⟨false, by simp [h]⟩
/-- a valid row -/
def IsRw (s : Int) (r : Bool) (l : List Int) : Prop := (2 ≤ s ∧ s ≤ 24) ∧ (r = true → 3 ≤ s) ∧ (∀ x ∈ l, 0 ≤ x ∧ x < s) ∧ l.Pairwise (· < ·)
def rwP (l : List Int) (hi : Int) (i : Nat) : Prop := (0 ≤ l.getD i 0 ∧ l.getD i 0 ≤ hi) ∧ (0 < i → l.getD (i - 1) 0 < l.getD i 0)
instance (l : List Int) (hi : Int) (i : Nat) : Decidable (rwP l hi i) := by unfold rwP; infer_instance
theorem rwP_all (l : List Int) (hi : Int) : (∀ i, i < l.length → rwP l hi i) ↔ (∀ x ∈ l, 0 ≤ x ∧ x ≤ hi) ∧ l.Pairwise (· < ·) := by
  constructor
  · intro h
    refine ⟨fun x hx => ?_, ?_⟩
    · obtain ⟨i, hi', rfl⟩ := List.mem_iff_getElem.mp hx
      have := (h i hi').1
      rw [getD_lt l i hi'] at this
      exact this
    · rw [List.pairwise_iff_getElem]
      intro i j hi' hj hij
      obtain ⟨d, hd⟩ : ∃ d, i + 1 + d = j := ⟨j - i - 1, by omega⟩
      induction d generalizing j with
      | zero =>
        have := (h j hj).2 (by omega)
        rw [getD_lt l j hj, show j - 1 = i by omega, getD_lt l i hi'] at this
        exact this
      | succ d ih =>
        have h1 := ih (j - 1) (by omega) (by omega) (by omega)
        have h2 := (h j hj).2 (by omega)
        rw [getD_lt l j hj, getD_lt l (j - 1) (by omega)] at h2
        omega
  · rintro ⟨h1, h2⟩ i hi'
    refine ⟨?_, fun h0 => ?_⟩
    · rw [getD_lt l i hi']; exact h1 _ (List.getElem_mem _)
    · rw [getD_lt l i hi', getD_lt l (i - 1) (by omega)]
      exact (List.pairwise_iff_getElem.mp h2) (i - 1) i (by omega) hi' (by omega)
theorem rising_ev (l : List Int) (hi : Int) (hl : l.length ≤ 35184372088832) (b : Bool) (hb : b = true ↔ ∀ i, i < l.length → rwP l hi i) : Ev (fun k => spec_l1Rising.f k l 0 hi) b := by
  unfold spec_l1Rising.f
  refine ev_dec (fun k i => spec_l1Rising.l0 k l 0 hi (i : Int)) l.length (rwP l hi) id ?_ ?_ ?_ b hb
  · refine Ev.succ ?_
    simp only [spec_l1Rising.l0.eq_2]
    exact Ev.neg (by omega) (Ev.now _)
  · intro i hi' hp r h
    refine Ev.succ ?_
    simp only [spec_l1Rising.l0.eq_2]
    rw [rd_getD, w64 (n := (i : Int) + 1) (by omega) (by omega), w64 (n := (i : Int) - 1) (by omega) (by omega)]
    refine Ev.pos (by omega) (Ev.pos (by omega) (Ev.bindc (l1In_eq _ _ _) (Ev.pos (decide_eq_true hp.1) ?_)))
    by_cases h0 : (i : Int) > 0
    · have := hp.2 (by omega)
      rw [show (i : Int) - 1 = ((i - 1 : Nat) : Int) by omega, rd_getD]
      exact Ev.pos h0 (Ev.pos (by omega) (Ev.pos (by omega) (Ev.neg (by omega) h)))
    · exact Ev.neg h0 h
  · intro i hi' hp
    refine Ev.succ ?_
    simp only [spec_l1Rising.l0.eq_2]
    rw [rd_getD, w64 (n := (i : Int) - 1) (by omega) (by omega)]
    refine Ev.pos (by omega) (Ev.pos (by omega) (Ev.bindc (l1In_eq _ _ _) ?_))
    by_cases h1 : 0 ≤ l.getD i 0 ∧ l.getD i 0 ≤ hi
    · have h2 : ¬ (0 < i → l.getD (i - 1) 0 < l.getD i 0) := fun h => hp ⟨h1, h⟩
      have h0 : 0 < i := Decidable.byContradiction (fun c => h2 (fun h => absurd h c))
      have h3 : ¬ l.getD (i - 1) 0 < l.getD i 0 := fun h => h2 (fun _ => h)
      rw [show (i : Int) - 1 = ((i - 1 : Nat) : Int) by omega, rd_getD]
      exact Ev.pos (decide_eq_true h1) (Ev.pos (by omega) (Ev.pos (by omega) (Ev.pos (by omega) (Ev.pos (by omega) (Ev.now _)))))
    · exact Ev.neg (by simpa using h1) (Ev.now _)
theorem l2Row_ev (s : Int) (r : Bool) (l : List Int) (hl : l.length ≤ 35184372088832) (b : Bool) (hb : b = true ↔ IsRw s r l) : Ev (fun k => spec_l2Row.f k s r l) b := by
  unfold spec_l2Row.f
  have hno : ¬ IsRw s r l → b = false := fun h => by
    cases b with
    | false => rfl
    | true => exact absurd (hb.mp rfl) h
  refine Ev.bindc (l1In_eq _ _ _) ?_
  by_cases hs : 2 ≤ s ∧ s ≤ 24
  · refine Ev.pos (decide_eq_true hs) ?_
    rw [w64 (by omega) (by omega)]
    have main : (r = true → 3 ≤ s) → (b = true ↔ ∀ i, i < l.length → rwP l (s - 1) i) := by
      intro h3
      rw [hb, rwP_all]
      unfold IsRw
      constructor
      · rintro ⟨_, _, h4, h5⟩; exact ⟨fun x hx => by have := h4 x hx; omega, h5⟩
      · rintro ⟨h4, h5⟩; exact ⟨hs, h3, fun x hx => by have := h4 x hx; omega, h5⟩
    by_cases hr : r = true
    · refine Ev.pos hr ?_
      by_cases h3 : s > 2
      · exact Ev.pos h3 (Ev.bind (f := fun _ t => some t) (rising_ev l (s - 1) hl b (main (fun _ => by omega))) (Ev.now _))
      · rw [hno (fun h => h3 (by have := h.2.1 hr; omega))]
        exact Ev.neg h3 (Ev.now _)
    · exact Ev.neg hr (Ev.bind (f := fun _ t => some t) (rising_ev l (s - 1) hl b (main (fun h => absurd h hr))) (Ev.now _))
  · rw [hno (fun h => hs h.1)]
    exact Ev.neg (by simpa using hs) (Ev.now _)
theorem bench_has1 (s : Int) (r : Bool) (x : Int) : Ev (fun k => impl_bench_has.f k s r [x]) (decide (0 ≤ x ∧ x ≤ wrap64 (s - 1))) := by
  unfold impl_bench_has.f
  refine Ev.bind (f := fun _ t => some t) (allWithin_ev [x] 0 _ (by simp)) ?_
  simp only [List.mem_singleton, forall_eq]
  exact Ev.now _
theorem bench_valid_eq (s : Int) (r : Bool) (b : Bool) (hb : b = true ↔ (2 ≤ s ∧ s ≤ 24) ∧ (r = true → 3 ≤ s)) : impl_bench_valid.f s r = some b := by
  unfold impl_bench_valid.f
  rw [within_eq, Option.bind_some]
  by_cases hs : 2 ≤ s ∧ s ≤ 24
  · rw [if_pos (decide_eq_true hs)]
    cases r with
    | true => rw [if_pos rfl]; congr 1; rw [Bool.eq_iff_iff, hb]; simp only [decide_eq_true_eq]; exact ⟨fun h => ⟨hs, fun _ => h⟩, fun h => h.2 (by trivial)⟩
    | false => rw [if_neg (by decide)]; congr 1; rw [Bool.eq_iff_iff, hb]; simp [hs]
  · rw [if_neg (by simpa using hs)]; congr 1; rw [Bool.eq_iff_iff, hb]; simp only [Bool.false_eq_true, false_iff]; exact fun h => hs h.1
theorem isRow_ev (s : Int) (r : Bool) (l : List Int) (hl : l.length ≤ 35184372088832) (b : Bool) (hb : b = true ↔ IsRw s r l) : Ev (fun k => impl_IsRow.f k s r l) b := by
  unfold impl_IsRow.f
  obtain ⟨v, hv⟩ := exists_bool ((2 ≤ s ∧ s ≤ 24) ∧ (r = true → 3 ≤ s))
  obtain ⟨c, hc⟩ := exists_bool (∀ i, i < l.length → rwP l (wrap64 (s - 1)) i)
  have hbc : b = (if c = true then v else false) := by
    rw [Bool.eq_iff_iff, hb]
    unfold IsRw
    constructor
    · rintro ⟨h1, h2, h3, h4⟩
      have hcc : c = true := by
        rw [hc, rwP_all, w64 (by omega) (by omega)]
        exact ⟨fun x hx => by have := h3 x hx; omega, h4⟩
      rw [if_pos hcc, hv]; exact ⟨h1, h2⟩
    · intro h
      by_cases hcc : c = true
      · rw [if_pos hcc, hv] at h
        rw [hc, rwP_all, w64 (by omega) (by omega)] at hcc
        exact ⟨h.1, h.2, fun x hx => by have := hcc.1 x hx; omega, hcc.2⟩
      · rw [if_neg hcc] at h; cases h
  rw [hbc]
  refine ev_dec (fun k i => impl_IsRow.l0 k l (l.length : Int) (i : Int) s r l) l.length (rwP l (wrap64 (s - 1))) (fun c => if c = true then v else false) ?_ ?_ ?_ c hc
  · refine Ev.succ ?_
    simp only [impl_IsRow.l0.eq_2]
    exact Ev.neg (by omega) (Ev.bindc rfl (Ev.bindc (bench_valid_eq s r v hv) (Ev.now _)))
  · intro i hi' hp q h
    refine Ev.succ ?_
    simp only [impl_IsRow.l0.eq_2]
    rw [rd_getD, w64 (n := (i : Int) + 1) (by omega) (by omega), w64 (n := (i : Int) - 1) (by omega) (by omega)]
    refine Ev.pos (by omega) (Ev.pos (by omega) (Ev.pos (by omega) (Ev.bindc rfl (Ev.bind (bench_has1 s r _) (Ev.pos (decide_eq_true hp.1) ?_)))))
    by_cases h0 : (i : Int) > 0
    · have := hp.2 (by omega)
      rw [show (i : Int) - 1 = ((i - 1 : Nat) : Int) by omega, rd_getD]
      exact Ev.pos h0 (Ev.pos (by omega) (Ev.pos (by omega) (Ev.neg (by omega) h)))
    · exact Ev.neg h0 h
  · intro i hi' hp
    refine Ev.succ ?_
    simp only [impl_IsRow.l0.eq_2]
    rw [rd_getD, w64 (n := (i : Int) - 1) (by omega) (by omega)]
    refine Ev.pos (by omega) (Ev.pos (by omega) (Ev.pos (by omega) (Ev.bindc rfl (Ev.bind (bench_has1 s r _) ?_))))
    by_cases h1 : 0 ≤ l.getD i 0 ∧ l.getD i 0 ≤ wrap64 (s - 1)
    · have h2 : ¬ (0 < i → l.getD (i - 1) 0 < l.getD i 0) := fun h => hp ⟨h1, h⟩
      have h0 : 0 < i := Decidable.byContradiction (fun c => h2 (fun h => absurd h c))
      have h3 : ¬ l.getD (i - 1) 0 < l.getD i 0 := fun h => h2 (fun _ => h)
      rw [show (i : Int) - 1 = ((i - 1 : Nat) : Int) by omega, rd_getD]
      exact Ev.pos (decide_eq_true h1) (Ev.pos (by omega) (Ev.pos (by omega) (Ev.pos (by omega) (Ev.pos (by omega) (Ev.now _)))))
    · exact Ev.neg (by simpa using h1) (Ev.now _)
/-- the gap of two seats -/
def gp (s : Int) (r : Bool) (p q : Int) : Int := if r = true then mn (mx (p - q) (q - p)) (s - mx (p - q) (q - p)) else mx (p - q) (q - p)
theorem mx_le {a b c : Int} (h1 : a ≤ c) (h2 : b ≤ c) : mx a b ≤ c := by unfold mx; split <;> omega
theorem le_mx {a b : Int} : a ≤ mx a b ∧ b ≤ mx a b := by unfold mx; split <;> omega
theorem l2Gap_eq (s : Int) (r : Bool) (l : List Int) (p q : Int) (hs : 0 ≤ s ∧ s ≤ 100) (hp : 0 ≤ p ∧ p < 100) (hq : 0 ≤ q ∧ q < 100) : spec_l2Gap.f s r l p q = some (gp s r p q) := by
  unfold spec_l2Gap.f spec_l1Most.f gp
  have e : (if p - q > q - p then some (p - q) else some (q - p)) = some (mx (p - q) (q - p)) := by
    unfold mx; split <;> split <;> first | rfl | (congr 1; omega)
  have h1 : mx (p - q) (q - p) ≤ 100 := mx_le (by omega) (by omega)
  have h2 := @le_mx (p - q) (q - p)
  rw [w64 (n := p - q) (by omega) (by omega), w64 (n := q - p) (by omega) (by omega), e, Option.bind_some]
  cases r with
  | true =>
    rw [if_pos rfl, if_pos rfl]
    unfold spec_l1Least.f
    rw [w64 (by omega) (by omega)]
    unfold mn
    split <;> split <;> first | rfl | (simp only [Option.bind_some]; congr 1; omega)
  | false => rw [if_neg (by decide), if_neg (by decide)]
theorem bench_gap_eq (s : Int) (r : Bool) (p q : Int) (hs : 0 ≤ s ∧ s ≤ 100) (hp : 0 ≤ p ∧ p < 100) (hq : 0 ≤ q ∧ q < 100) : impl_bench_gap.f s r p q = some (gp s r p q) := by
  unfold impl_bench_gap.f gp
  have h1 : mx (p - q) (q - p) ≤ 100 := mx_le (by omega) (by omega)
  have h2 := @le_mx (p - q) (q - p)
  rw [w64 (n := p - q) (by omega) (by omega), w64 (n := q - p) (by omega) (by omega), w64 (n := s - mx (p - q) (q - p)) (by omega) (by omega)]
  cases r with
  | true => rw [if_pos rfl, if_pos rfl]
  | false => rw [if_neg (by decide), if_neg (by decide)]
theorem gp_comm (s : Int) (r : Bool) (p q : Int) : gp s r p q = gp s r q p := by
  unfold gp
  rw [show mx (p - q) (q - p) = mx (q - p) (p - q) by unfold mx; split <;> split <;> omega]
theorem gp_self (s : Int) (r : Bool) (p : Int) (hs : 0 ≤ s) : gp s r p p = 0 := by
  unfold gp mx mn; cases r <;> simp <;> omega
/-- the set of the numbers below n that meet R -/
def bld (R : Nat → Bool) : Nat → Nat
  | 0 => 0
  | n + 1 => if R n = true then bld R n ||| 2 ^ n else bld R n
theorem bld_bit (R : Nat → Bool) (n j : Nat) : (bld R n).testBit j = (decide (j < n) && R j) := by
  induction n with
  | zero => simp [bld]
  | succ n ih =>
    unfold bld
    by_cases h : R n = true
    · rw [if_pos h, Nat.testBit_or, ih, Nat.testBit_two_pow]
      by_cases e : n = j
      · subst e; simp [h]
      · have : (j < n + 1) ↔ (j < n) := by omega
        simp [e, this]
    · rw [if_neg h, ih]
      by_cases e : n = j
      · subst e; simp [h]
      · have : (j < n + 1) ↔ (j < n) := by omega
        simp [this]
theorem bld_lt (R : Nat → Bool) (n : Nat) (h : n ≤ 32) : bld R n < 4294967296 := by
  refine Nat.lt_pow_two_of_testBit (n := 32) _ (fun j hj => ?_)
  rw [bld_bit]
  simp; omega
theorem or_pow_u32 (a : Nat) (p : Nat) (ha : a < 4294967296) (hp : p < 32) : Go.bits .or .u32 (a : Int) (shl .u32 1 (p : Int)) = ((a ||| 2 ^ p : Nat) : Int) := by
  rw [shl_u32_one _ (by omega) (by omega), Int.toNat_natCast, (u32_nat _ _ ha (by have := two_pow_lt32 (p : Int) (by omega) (by omega); rwa [Int.toNat_natCast] at this)).2]
theorem bld_loop {α : Type} (L : Nat → Nat → Nat → Option α) (R : Nat → Bool) (n : Nat) (res : α) (hend : Ev (fun k => L k (bld R n) n) res)
    (hstep : ∀ i, i < n → bld R i < 2 ^ n → ∀ r, Ev (fun k => L k (if R i = true then bld R i ||| 2 ^ i else bld R i) (i + 1)) r → Ev (fun k => L k (bld R i) i) r) : Ev (fun k => L k 0 0) res := by
  have key : ∀ d i, i + d = n → Ev (fun k => L k (bld R i) i) res := by
    intro d
    induction d with
    | zero => intro i hi; rw [show i = n by omega]; exact hend
    | succ d ih =>
      intro i hi
      refine hstep i (by omega) ?_ _ (ih (i + 1) (by omega))
      refine Nat.lt_of_lt_of_le (Nat.lt_pow_two_of_testBit (n := i) _ (fun j hj => ?_)) (Nat.pow_le_pow_right (by decide) (by omega))
      rw [bld_bit]; simp; omega
  exact key n 0 (by omega)
theorem pow_le32 (n : Nat) (h : n ≤ 32) : 2 ^ n ≤ 4294967296 := Nat.pow_le_pow_right (n := 2) (by decide) h
/-- the union of some sets -/
def unionL (f : Int → Nat) (l : List Int) : Nat := l.foldl (fun s p => s ||| f p) 0
theorem unionL_bit (f : Int → Nat) (l : List Int) (j : Nat) : (unionL f l).testBit j = l.any (fun p => (f p).testBit j) := by
  unfold unionL
  have : ∀ s, (l.foldl (fun s p => s ||| f p) s).testBit j = (s.testBit j || l.any (fun p => (f p).testBit j)) := by
    induction l with
    | nil => simp
    | cons p l ih => intro s; rw [List.foldl_cons, ih, Nat.testBit_or, List.any_cons, Bool.or_assoc]
  rw [this]; simp
theorem unionL_take (f : Int → Nat) (l : List Int) (i : Nat) (h : i < l.length) : unionL f (l.take (i + 1)) = unionL f (l.take i) ||| f l[i] := by
  unfold unionL
  rw [List.take_succ_eq_append_getElem h, List.foldl_append]; rfl
theorem unionL_lt (f : Int → Nat) (l : List Int) (h : ∀ x ∈ l, f x < 4294967296) : unionL f l < 4294967296 := by
  refine Nat.lt_pow_two_of_testBit (n := 32) _ (fun j hj => ?_)
  rw [unionL_bit, List.any_eq_false]
  intro x hx
  have := Nat.testBit_lt_two_pow (Nat.lt_of_lt_of_le (h x hx) (Nat.pow_le_pow_right (n := 2) (by decide) hj))
  simp [this]
/-- the first seat of a list with the least gap, and this gap -/
def nstStep (s : Int) (r : Bool) (p : Int) (st : Int × Int) (q : Int) : Int × Int := if st.1 < 0 then (q, gp s r p q) else if gp s r p q < st.2 then (q, gp s r p q) else st
def nst (s : Int) (r : Bool) (p : Int) (l : List Int) : Int × Int := l.foldl (nstStep s r p) (-1, -1)
theorem l2Nearest_ev (s : Int) (r : Bool) (tk l : List Int) (p : Int) (hl : l.length ≤ 35184372088832) (hs : 0 ≤ s ∧ s ≤ 100) (hp : 0 ≤ p ∧ p < 100) (hr : ∀ x ∈ l, 0 ≤ x ∧ x < 100) : Ev (fun k => spec_l2Nearest.f k s r tk l p) (nst s r p l) := by
  unfold spec_l2Nearest.f
  have key : ∀ d i (st : Int × Int), i + d = l.length → Ev (fun k => spec_l2Nearest.l0 k l p st.1 st.2 (i : Int) s r tk) ((l.drop i).foldl (nstStep s r p) st) := by
    intro d
    induction d with
    | zero =>
      intro i st hi
      refine Ev.succ ?_
      simp only [spec_l2Nearest.l0.eq_2]
      rw [List.drop_of_length_le (by omega)]
      exact Ev.neg (by omega) (Ev.now _)
    | succ d ih =>
      intro i st hi
      refine Ev.succ ?_
      simp only [spec_l2Nearest.l0.eq_2]
      have hx := hr l[i] (List.getElem_mem (by omega))
      rw [rd_nat l i (by omega), w64 (n := (i : Int) + 1) (by omega) (by omega)]
      refine Ev.pos (by omega) (Ev.pos (by omega) (Ev.bindc (l2Gap_eq s r tk p l[i] hs hp (by omega)) ?_))
      rw [List.drop_eq_getElem_cons (by omega), List.foldl_cons]
      have := ih (i + 1) (nstStep s r p st l[i]) (by omega)
      unfold nstStep at this ⊢
      by_cases h1 : st.1 < 0
      · rw [if_pos h1] at this ⊢; exact Ev.pos h1 this
      · rw [if_neg h1] at this ⊢
        refine Ev.neg h1 ?_
        by_cases h2 : gp s r p l[i] < st.2
        · rw [if_pos h2] at this ⊢; exact Ev.pos h2 this
        · rw [if_neg h2] at this ⊢; exact Ev.neg h2 this
  exact key l.length 0 (-1, -1) (by omega)
theorem nst_go (s : Int) (r : Bool) (p : Int) : ∀ (l : List Int) (st : Int × Int), 0 ≤ st.1 → (∀ x ∈ l, 0 ≤ x) → let f := l.foldl (nstStep s r p) st
    0 ≤ f.1 ∧ f.2 ≤ st.2 ∧ (∀ q ∈ l, f.2 ≤ gp s r p q) ∧ (f = st ∨ (f.1 ∈ l ∧ f.2 = gp s r p f.1)) := by
  intro l
  induction l with
  | nil => intro st h _; exact ⟨h, Int.le_refl _, by simp, .inl rfl⟩
  | cons q l ih =>
    intro st h hl
    have hq := hl q (by simp)
    have hl' : ∀ x ∈ l, 0 ≤ x := fun x hx => hl x (List.mem_cons_of_mem _ hx)
    simp only [List.foldl_cons]
    by_cases h2 : gp s r p q < st.2
    · have e : nstStep s r p st q = (q, gp s r p q) := by unfold nstStep; rw [if_neg (by omega), if_pos h2]
      rw [e]
      obtain ⟨a, b, c, d⟩ := ih (q, gp s r p q) hq hl'
      refine ⟨a, by simp only at b; omega, fun x hx => ?_, ?_⟩
      · rcases List.mem_cons.mp hx with rfl | hx
        · exact b
        · exact c x hx
      · rcases d with d | d
        · exact .inr ⟨by rw [d]; simp, by rw [d]⟩
        · exact .inr ⟨List.mem_cons_of_mem _ d.1, d.2⟩
    · have e : nstStep s r p st q = st := by unfold nstStep; rw [if_neg (by omega), if_neg h2]
      rw [e]
      obtain ⟨a, b, c, d⟩ := ih st h hl'
      refine ⟨a, b, fun x hx => ?_, ?_⟩
      · rcases List.mem_cons.mp hx with rfl | hx
        · omega
        · exact c x hx
      · rcases d with d | d
        · exact .inl d
        · exact .inr ⟨List.mem_cons_of_mem _ d.1, d.2⟩
theorem nst_cons (s : Int) (r : Bool) (p x : Int) (l : List Int) (hr : ∀ y ∈ x :: l, 0 ≤ y) : (nst s r p (x :: l)).1 ∈ x :: l ∧ (nst s r p (x :: l)).2 = gp s r p (nst s r p (x :: l)).1 ∧ ∀ q ∈ x :: l, (nst s r p (x :: l)).2 ≤ gp s r p q := by
  have e : nst s r p (x :: l) = l.foldl (nstStep s r p) (x, gp s r p x) := by
    unfold nst; rw [List.foldl_cons]; congr 1
  rw [e]
  obtain ⟨a, b, c, d⟩ := nst_go s r p l (x, gp s r p x) (hr x (by simp)) (fun y hy => hr y (List.mem_cons_of_mem _ hy))
  refine ⟨?_, ?_, ?_⟩
  · rcases d with d | d
    · rw [d]; simp
    · exact List.mem_cons_of_mem _ d.1
  · rcases d with d | d
    · rw [d]
    · exact d.2
  · intro q hq
    rcases List.mem_cons.mp hq with rfl | hq
    · exact b
    · exact c q hq
theorem gp_nonneg (s : Int) (r : Bool) (p q : Int) (hp : 0 ≤ p ∧ p ≤ s) (hq : 0 ≤ q ∧ q ≤ s) : 0 ≤ gp s r p q := by
  unfold gp mx mn; cases r <;> simp only [Bool.false_eq_true, if_false, if_true] <;> split <;> (try split) <;> omega
theorem nst_nil (s : Int) (r : Bool) (p : Int) : nst s r p [] = (-1, -1) := rfl
theorem land_rec (x y : Nat) : x &&& y = 2 * ((x / 2) &&& (y / 2)) + (x % 2) * (y % 2) := by
  have hd : (x % 2) * (y % 2) < 2 := by
    rcases Nat.mod_two_eq_zero_or_one x with h | h <;> rcases Nat.mod_two_eq_zero_or_one y with h2 | h2 <;> rw [h, h2] <;> decide
  refine Nat.eq_of_testBit_eq (fun j => ?_)
  cases j with
  | zero =>
    rw [Nat.testBit_and, Nat.testBit_zero, Nat.testBit_zero, Nat.testBit_zero]
    rcases Nat.mod_two_eq_zero_or_one x with h | h <;> rcases Nat.mod_two_eq_zero_or_one y with h2 | h2 <;> rw [h, h2] <;> simp <;> omega
  | succ j =>
    rw [Nat.testBit_and, Nat.testBit_succ, Nat.testBit_succ, Nat.testBit_succ]
    rw [show (2 * ((x / 2) &&& (y / 2)) + (x % 2) * (y % 2)) / 2 = (x / 2) &&& (y / 2) by omega, Nat.testBit_and]
/-- the place of the lowest bit -/
def low : Nat → Nat → Nat
  | 0, _ => 0
  | k + 1, n => if n % 2 = 1 then 0 else low k (n / 2) + 1
theorem neg_land (k : Nat) : ∀ n, 0 < n → n < 2 ^ k → (n &&& (2 ^ k - n)) = 2 ^ (low k n) ∧ low k n < k ∧ n.testBit (low k n) = true := by
  induction k with
  | zero => intro n h1 h2; simp at h2; omega
  | succ k ih =>
    intro n h1 h2
    have hp : 2 ^ (k + 1) = 2 * 2 ^ k := by rw [Nat.pow_succ]; omega
    rw [land_rec]
    unfold low
    by_cases ho : n % 2 = 1
    · rw [if_pos ho]
      have e1 : (2 ^ (k + 1) - n) / 2 = 2 ^ k - (n / 2 + 1) := by omega
      have e2 : (2 ^ (k + 1) - n) % 2 = 1 := by omega
      have hz : (n / 2) &&& (2 ^ k - (n / 2 + 1)) = 0 := by
        refine Nat.eq_of_testBit_eq (fun j => ?_)
        rw [Nat.testBit_and, Nat.testBit_two_pow_sub_succ (by omega), Nat.zero_testBit]
        cases (n / 2).testBit j <;> simp
      rw [e1, e2, hz, ho]
      exact ⟨rfl, by omega, by rw [Nat.testBit_zero]; simpa using ho⟩
    · rw [if_neg ho]
      have e0 : n % 2 = 0 := by omega
      have e1 : (2 ^ (k + 1) - n) / 2 = 2 ^ k - n / 2 := by omega
      obtain ⟨a, b, c⟩ := ih (n / 2) (by omega) (by omega)
      rw [e1, e0, a, Nat.zero_mul, Nat.add_zero]
      exact ⟨by rw [Nat.pow_succ]; omega, by omega, by rw [Nat.testBit_succ]; exact c⟩
/-- the places of all bits, in order -/
def lst : Nat → Nat → Nat → List Nat
  | 0, _, _ => []
  | k + 1, off, n => if n % 2 = 1 then off :: lst k (off + 1) (n / 2) else lst k (off + 1) (n / 2)
theorem lst_zero (k off : Nat) : lst k off 0 = [] := by
  induction k generalizing off with
  | zero => rfl
  | succ k ih => unfold lst; rw [if_neg (by decide)]; exact ih _
theorem lst_len (k off n : Nat) : (lst k off n).length ≤ k := by
  induction k generalizing off n with
  | zero => exact Nat.le_refl _
  | succ k ih =>
    have := ih (off + 1) (n / 2)
    unfold lst; split
    · rw [List.length_cons]; omega
    · omega
theorem lst_step (k : Nat) : ∀ n off, 0 < n → n < 2 ^ k → lst k off n = (off + low k n) :: lst k off (n &&& (n - 1)) ∧ n &&& (n - 1) < n := by
  induction k with
  | zero => intro n off h1 h2; simp at h2; omega
  | succ k ih =>
    intro n off h1 h2
    have hp : 2 ^ (k + 1) = 2 * 2 ^ k := by rw [Nat.pow_succ]; omega
    rw [land_rec n (n - 1)]
    by_cases ho : n % 2 = 1
    · have e1 : (n - 1) / 2 = n / 2 := by omega
      have e2 : (n - 1) % 2 = 0 := by omega
      rw [e1, e2, Nat.and_self]
      simp only [Nat.mul_zero, Nat.add_zero]
      have l1 : lst (k + 1) off n = off :: lst k (off + 1) (n / 2) := if_pos ho
      have l2 : lst (k + 1) off (2 * (n / 2)) = lst k (off + 1) (n / 2) := by
        rw [show lst (k + 1) off (2 * (n / 2)) = lst k (off + 1) (2 * (n / 2) / 2) from if_neg (by omega), show 2 * (n / 2) / 2 = n / 2 by omega]
      have l3 : low (k + 1) n = 0 := if_pos ho
      rw [l1, l2, l3]
      exact ⟨rfl, by omega⟩
    · have e0 : n % 2 = 0 := by omega
      have e1 : (n - 1) / 2 = n / 2 - 1 := by omega
      obtain ⟨a, b⟩ := ih (n / 2) (off + 1) (by omega) (by omega)
      rw [e1, e0]
      simp only [Nat.zero_mul, Nat.add_zero]
      have l1 : lst (k + 1) off n = lst k (off + 1) (n / 2) := if_neg ho
      have l2 : lst (k + 1) off (2 * (n / 2 &&& (n / 2 - 1))) = lst k (off + 1) (n / 2 &&& (n / 2 - 1)) := by
        rw [show lst (k + 1) off (2 * (n / 2 &&& (n / 2 - 1))) = lst k (off + 1) (2 * (n / 2 &&& (n / 2 - 1)) / 2) from if_neg (by omega), Nat.mul_div_cancel_left _ (by decide)]
      have l3 : low (k + 1) n = low k (n / 2) + 1 := if_neg ho
      rw [l1, l2, l3, a]
      exact ⟨by congr 1; omega, by omega⟩
theorem lst_mem (k : Nat) : ∀ n off x, x ∈ lst k off n ↔ off ≤ x ∧ x < off + k ∧ n.testBit (x - off) = true := by
  induction k with
  | zero => intro n off x; simp only [lst, List.not_mem_nil, false_iff]; omega
  | succ k ih =>
    intro n off x
    have hh : x ∈ lst (k + 1) off n ↔ (x = off ∧ n % 2 = 1) ∨ x ∈ lst k (off + 1) (n / 2) := by
      rw [show lst (k + 1) off n = if n % 2 = 1 then off :: lst k (off + 1) (n / 2) else lst k (off + 1) (n / 2) from rfl]
      split
      · rename_i h; simp [h]
      · rename_i h; simp [h]
    rw [hh, ih]
    constructor
    · rintro (⟨rfl, h⟩ | ⟨h1, h2, h3⟩)
      · exact ⟨Nat.le_refl _, by omega, by rw [Nat.sub_self, Nat.testBit_zero]; simpa using h⟩
      · refine ⟨by omega, by omega, ?_⟩
        rw [show x - off = (x - (off + 1)) + 1 by omega, Nat.testBit_succ]; exact h3
    · rintro ⟨h1, h2, h3⟩
      rcases Nat.eq_or_lt_of_le h1 with e | e
      · subst e; rw [Nat.sub_self, Nat.testBit_zero] at h3; exact .inl ⟨rfl, by simpa using h3⟩
      · refine .inr ⟨by omega, by omega, ?_⟩
        rw [show x - off = (x - (off + 1)) + 1 by omega, Nat.testBit_succ] at h3; exact h3
theorem lst_sorted (k : Nat) : ∀ n off, (lst k off n).Pairwise (· < ·) := by
  induction k with
  | zero => intro n off; exact List.Pairwise.nil
  | succ k ih =>
    intro n off
    unfold lst
    split
    · refine List.pairwise_cons.mpr ⟨fun x hx => ?_, ih _ _⟩
      have := (lst_mem k _ _ x).mp hx; omega
    · exact ih _ _
/-- the seats of a set -/
def listN (n : Nat) : List Int := (lst 32 0 n).map (fun x : Nat => (x : Int))
theorem listN_mem (n : Nat) (x : Int) : x ∈ listN n ↔ (0 ≤ x ∧ x < 32) ∧ n.testBit x.toNat = true := by
  unfold listN
  rw [List.mem_map]
  constructor
  · rintro ⟨y, hy, rfl⟩
    have := (lst_mem 32 n 0 y).mp hy
    exact ⟨by omega, by rw [Int.toNat_natCast]; simpa using this.2.2⟩
  · rintro ⟨h1, h2⟩
    exact ⟨x.toNat, (lst_mem 32 n 0 _).mpr ⟨by omega, by omega, by simpa using h2⟩, by omega⟩
theorem listN_sorted (n : Nat) : (listN n).Pairwise (· < ·) := by
  unfold listN
  rw [List.pairwise_map]
  exact (lst_sorted 32 n 0).imp (fun h => by omega)
theorem listN_len (n : Nat) : (listN n).length ≤ 32 := by unfold listN; rw [List.length_map]; exact lst_len _ _ _
theorem sorted_ext : ∀ (l m : List Int), l.Pairwise (· < ·) → m.Pairwise (· < ·) → (∀ x, x ∈ l ↔ x ∈ m) → l = m := by
  intro l
  induction l with
  | nil =>
    intro m _ _ h
    cases m with
    | nil => rfl
    | cons y m => exact absurd ((h y).mpr (by simp)) (by simp)
  | cons x l ih =>
    intro m hl hm h
    cases m with
    | nil => exact absurd ((h x).mp (by simp)) (by simp)
    | cons y m =>
      obtain ⟨h1, h2⟩ := List.pairwise_cons.mp hl
      obtain ⟨h3, h4⟩ := List.pairwise_cons.mp hm
      have e : x = y := by
        have ha := (h x).mp (by simp)
        have hb := (h y).mpr (by simp)
        rcases List.mem_cons.mp ha with e | ha
        · exact e
        · rcases List.mem_cons.mp hb with e | hb
          · exact e.symm
          · have := h1 y hb; have := h3 x ha; omega
      subst e
      refine congrArg (x :: ·) (ih m h2 h4 (fun z => ?_))
      constructor
      · intro hz
        rcases List.mem_cons.mp ((h z).mp (List.mem_cons_of_mem _ hz)) with e | hz'
        · have := h1 z hz; omega
        · exact hz'
      · intro hz
        rcases List.mem_cons.mp ((h z).mpr (List.mem_cons_of_mem _ hz)) with e | hz'
        · have := h3 z hz; omega
        · exact hz'
theorem listN_setN (l : List Int) (h : ∀ x ∈ l, 0 ≤ x ∧ x < 32) (hs : l.Pairwise (· < ·)) : listN (setN l) = l := by
  refine sorted_ext _ _ (listN_sorted _) hs (fun x => ?_)
  rw [listN_mem, setN_bit, decide_eq_true_eq]
  constructor
  · rintro ⟨h1, p, hp, e⟩
    have := h p hp
    rw [show x = p by omega]; exact hp
  · intro hx; exact ⟨h x hx, x, hx, rfl⟩
theorem listN_bld (R : Nat → Bool) (n : Nat) (hn : n ≤ 32) : listN (bld R n) = ((List.range n).filter R).map (fun x : Nat => (x : Int)) := by
  refine sorted_ext _ _ (listN_sorted _) ?_ (fun x => ?_)
  · rw [List.pairwise_map]
    have h0 : (List.range n).Pairwise (· < ·) := List.pairwise_lt_range
    exact (h0.filter R).imp (fun h => by omega)
  · rw [listN_mem, bld_bit, List.mem_map]
    simp only [Bool.and_eq_true, decide_eq_true_eq, List.mem_filter, List.mem_range]
    constructor
    · rintro ⟨h1, h2, h3⟩; exact ⟨x.toNat, ⟨h2, h3⟩, by omega⟩
    · rintro ⟨y, ⟨h1, h2⟩, rfl⟩; exact ⟨by omega, by rw [Int.toNat_natCast]; exact h1, by rw [Int.toNat_natCast]; exact h2⟩
theorem tz_tab : ∀ i : Fin 32, ((2 ^ i.val * 125613361 % 4294967296) / 134217728 < 32) ∧ TZ.getD ((2 ^ i.val * 125613361 % 4294967296) / 134217728) 0 = ((i.val : Nat) : Int) := by decide +kernel
theorem neg_u32 (n : Nat) (h0 : 0 < n) (h : n < 4294967296) : Go.bits .and .u32 (n : Int) ((-(n : Int)) % 4294967296) = ((2 ^ (low 32 n) : Nat) : Int) := by
  have e : (-(n : Int)) % 4294967296 = ((4294967296 - n : Nat) : Int) := by omega
  rw [e, (u32_nat n (4294967296 - n) h (by omega)).1]
  have := (neg_land 32 n h0 h).1
  rw [show (2 : Nat) ^ 32 = 4294967296 from rfl] at this
  rw [this]
theorem tz_eq (n : Nat) (h0 : 0 < n) (h : n < 4294967296) : bits_TrailingZeros32.f (n : Int) = some ((low 32 n : Nat) : Int) := by
  unfold bits_TrailingZeros32.f
  have hl := (neg_land 32 n h0 h).2.1
  obtain ⟨t1, t2⟩ := tz_tab ⟨low 32 n, hl⟩
  simp only at t1 t2
  have e : tzi (n : Int) = (((2 ^ (low 32 n) * 125613361 % 4294967296) / 134217728 : Nat) : Int) := by
    unfold tzi
    rw [neg_u32 n h0 h]
    generalize 2 ^ (low 32 n) = t
    omega
  rw [if_neg (by omega), e, if_pos (by omega), if_pos (by omega)]
  unfold rd
  rw [Int.toNat_natCast, t2]
theorem list_ev (n : Nat) (h : n < 4294967296) : Ev (fun k => impl_set_list.f k (n : Int)) (listN n) := by
  unfold impl_set_list.f
  have key : ∀ m (n : Nat) (acc : List Int), n ≤ m → n < 4294967296 → acc.length + (lst 32 0 n).length ≤ 64 → Ev (fun k => impl_set_list.l0 k (n : Int) acc) (acc ++ (lst 32 0 n).map (fun x : Nat => (x : Int))) := by
    intro m
    induction m with
    | zero =>
      intro n acc hm _ _
      refine Ev.succ ?_
      simp only [impl_set_list.l0.eq_2]
      rw [show n = 0 by omega, lst_zero, List.map_nil, List.append_nil]
      exact Ev.pos rfl (Ev.now _)
    | succ m ih =>
      intro n acc hm hn hl
      refine Ev.succ ?_
      simp only [impl_set_list.l0.eq_2]
      by_cases h0 : n = 0
      · subst h0
        rw [lst_zero, List.map_nil, List.append_nil]
        exact Ev.pos rfl (Ev.now _)
      · obtain ⟨s1, s2⟩ := lst_step 32 n 0 (by omega) hn
        rw [Nat.zero_add] at s1
        refine Ev.neg (by omega) (Ev.bindc (tz_eq n (by omega) hn) (Ev.pos (by omega) ?_))
        rw [show ((n : Int) - 1) % 4294967296 = ((n - 1 : Nat) : Int) by omega, (u32_nat n (n - 1) hn (by omega)).1]
        rw [s1, List.length_cons] at hl
        have := ih (n &&& (n - 1)) (acc ++ [((low 32 n : Nat) : Int)]) (by omega) (by omega) (by rw [List.length_append, List.length_singleton]; omega)
        rw [s1, List.map_cons]
        rw [List.append_assoc, List.singleton_append] at this
        exact this
  have := key n n [] (Nat.le_refl _) h (by have := lst_len 32 0 n; simp; omega)
  simpa [listN] using this
/-- how far a seat is from all taken ones -/
def farN (s : Int) (r : Bool) (l : List Int) (q : Nat) : Int := if l = [] then s else (nst s r (q : Int) l).2
theorem gp_le (s : Int) (r : Bool) (p q : Int) (hp : 0 ≤ p ∧ p < s) (hq : 0 ≤ q ∧ q < s) : gp s r p q ≤ s := by
  unfold gp mx mn; cases r <;> simp only [Bool.false_eq_true, if_false, if_true] <;> split <;> (try split) <;> omega
theorem gp_pos (s : Int) (r : Bool) (p q : Int) (hp : 0 ≤ p ∧ p < s) (hq : 0 ≤ q ∧ q < s) (hne : p ≠ q) : 1 ≤ gp s r p q := by
  unfold gp mx mn; cases r <;> simp only [Bool.false_eq_true, if_false, if_true] <;> split <;> (try split) <;> omega
theorem farN_at (s : Int) (r : Bool) (l : List Int) (q : Nat) (hl : ∀ x ∈ l, 0 ≤ x ∧ x < s) (h : l ≠ []) : ∃ x ∈ l, farN s r l q = gp s r (q : Int) x ∧ ∀ y ∈ l, farN s r l q ≤ gp s r (q : Int) y := by
  cases l with
  | nil => exact absurd rfl h
  | cons x l =>
    obtain ⟨a, b, c⟩ := nst_cons s r (q : Int) x l (fun y hy => (hl y hy).1)
    have e : farN s r (x :: l) q = (nst s r (q : Int) (x :: l)).2 := if_neg (by simp)
    rw [e]
    exact ⟨_, a, b, c⟩
theorem farN_range (s : Int) (r : Bool) (l : List Int) (q : Nat) (hs : 0 ≤ s) (hl : ∀ x ∈ l, 0 ≤ x ∧ x < s) (hq : (q : Int) < s) : 0 ≤ farN s r l q ∧ farN s r l q ≤ s := by
  by_cases h : l = []
  · rw [show farN s r l q = s from if_pos h]; omega
  · obtain ⟨x, hx, e, _⟩ := farN_at s r l q hl h
    have := hl x hx
    rw [e]
    exact ⟨gp_nonneg s r _ _ (by omega) (by omega), gp_le s r _ _ (by omega) this⟩
theorem farN_free (s : Int) (r : Bool) (l : List Int) (q : Nat) (hs : 1 ≤ s) (hl : ∀ x ∈ l, 0 ≤ x ∧ x < s) (hq : (q : Int) < s) (hn : ¬ (q : Int) ∈ l) : 1 ≤ farN s r l q := by
  by_cases h : l = []
  · rw [show farN s r l q = s from if_pos h]; omega
  · obtain ⟨x, hx, e, _⟩ := farN_at s r l q hl h
    have := hl x hx
    rw [e]
    exact gp_pos s r _ _ (by omega) this (fun c => hn (by rw [c]; exact hx))
theorem farN_taken (s : Int) (r : Bool) (l : List Int) (q : Nat) (hs : 0 ≤ s) (hl : ∀ x ∈ l, 0 ≤ x ∧ x < s) (hn : (q : Int) ∈ l) : farN s r l q ≤ 0 := by
  obtain ⟨x, hx, e, c⟩ := farN_at s r l q hl (by intro h; rw [h] at hn; simp at hn)
  have := c _ hn
  rw [gp_self s r _ hs] at this
  exact this
theorem l3Far_ev (s : Int) (r : Bool) (l : List Int) (q : Nat) (hlen : l.length ≤ 35184372088832) (hs : 0 ≤ s ∧ s ≤ 100) (hl : ∀ x ∈ l, 0 ≤ x ∧ x < s) (hq : (q : Int) < s) : Ev (fun k => spec_l3Far.f k s r l (q : Int)) (farN s r l q) := by
  unfold spec_l3Far.f
  by_cases h : l = []
  · rw [show farN s r l q = s from if_pos h, h]
    exact Ev.pos rfl (Ev.now _)
  · rw [show farN s r l q = (nst s r (q : Int) l).2 from if_neg h]
    refine Ev.neg (fun c => h (List.length_eq_zero_iff.mp (by omega))) ?_
    refine Ev.bind (a := (nst s r (q : Int) l).2) ?_ (Ev.now _)
    unfold spec_l2Farthest.f
    exact Ev.bind (f := fun _ t => some t.2) (l2Nearest_ev s r l l (q : Int) hlen hs (by omega) (fun x hx => by have := hl x hx; omega)) (Ev.now _)
/-- the nearest taken seat, as the library tells it -/
def nearOf (s : Int) (r : Bool) (l : List Int) (p : Int) : Int × Int × Bool := if l = [] then (0, 0, false) else ((nst s r p l).1, (nst s r p l).2, true)
theorem nearL_ev (s : Int) (r : Bool) (l : List Int) (p : Int) (hlen : l.length ≤ 35184372088832) (hs : 0 ≤ s ∧ s ≤ 100) (hp : 0 ≤ p ∧ p < s) (hl : ∀ x ∈ l, 0 ≤ x ∧ x < s) : Ev (fun k => impl_bench_nearest.l0 k p 0 (-1) l (l.length : Int) 0 s r) (nearOf s r l p) := by
  have key : ∀ d i (st : Int × Int), i + d = l.length → 0 ≤ st.1 → 0 ≤ st.2 → Ev (fun k => impl_bench_nearest.l0 k p st.1 st.2 l (l.length : Int) (i : Int) s r) (((l.drop i).foldl (nstStep s r p) st).1, ((l.drop i).foldl (nstStep s r p) st).2, true) := by
    intro d
    induction d with
    | zero =>
      intro i st hi h1 h2
      refine Ev.succ ?_
      simp only [impl_bench_nearest.l0.eq_2]
      rw [List.drop_of_length_le (by omega)]
      refine Ev.neg (by omega) ?_
      rw [show mx 0 st.2 = st.2 by unfold mx; split <;> omega, show decide (st.2 ≥ 0) = true by simpa using h2]
      exact Ev.now _
    | succ d ih =>
      intro i st hi h1 h2
      refine Ev.succ ?_
      simp only [impl_bench_nearest.l0.eq_2]
      have hx := hl l[i] (List.getElem_mem (by omega))
      rw [rd_nat l i (by omega), w64 (n := (i : Int) + 1) (by omega) (by omega)]
      refine Ev.pos (by omega) (Ev.pos (by omega) (Ev.pos (by omega) (Ev.bindc (bench_gap_eq s r p l[i] hs (by omega) (by omega)) ?_)))
      rw [List.drop_eq_getElem_cons (by omega), List.foldl_cons]
      refine Ev.neg (by omega) ?_
      have hg := gp_nonneg s r p l[i] (by omega) (by omega)
      have := ih (i + 1) (nstStep s r p st l[i]) (by omega)
      unfold nstStep at this ⊢
      rw [if_neg (by omega)] at this ⊢
      by_cases h3 : gp s r p l[i] < st.2
      · rw [if_pos h3] at this ⊢; exact Ev.pos h3 (this (by simp only; omega) (by simp only; omega))
      · rw [if_neg h3] at this ⊢; exact Ev.neg h3 (this h1 h2)
  unfold nearOf
  cases l with
  | nil =>
    refine Ev.succ ?_
    simp only [impl_bench_nearest.l0.eq_2]
    exact Ev.neg (by decide) (Ev.now _)
  | cons x l =>
    rw [if_neg (by simp)]
    refine Ev.succ ?_
    simp only [impl_bench_nearest.l0.eq_2]
    have hx := hl x (by simp)
    have hg := gp_nonneg s r p x (by omega) (by omega)
    refine Ev.pos (by rw [List.length_cons]; omega) (Ev.pos (by omega) (Ev.pos (by rw [List.length_cons]; omega) (Ev.bindc (bench_gap_eq s r p x hs (by omega) (by omega)) (Ev.pos (by decide) ?_))))
    have e : nst s r p (x :: l) = l.foldl (nstStep s r p) (x, gp s r p x) := by
      unfold nst; rw [List.foldl_cons]; congr 1
    rw [e]
    have := key l.length 1 (x, gp s r p x) (by simp; omega) (by simp only; omega) (by simpa using hg)
    rw [show (x :: l).drop 1 = l from rfl] at this
    rw [show rd (x :: l) 0 = x from rfl, show wrap64 (0 + 1) = ((1 : Nat) : Int) from w64 (n := 1) (by decide) (by decide)]
    exact this
theorem nearest_ev (s : Int) (r : Bool) (T : Nat) (p : Int) (hT : T < 4294967296) (hs : 0 ≤ s ∧ s ≤ 100) (hp : 0 ≤ p ∧ p < s) (hl : ∀ x ∈ listN T, 0 ≤ x ∧ x < s) : Ev (fun k => impl_bench_nearest.f k s r p (T : Int)) (nearOf s r (listN T) p) := by
  unfold impl_bench_nearest.f
  have := listN_len T
  exact Ev.bind (list_ev T hT) (nearL_ev s r _ p (by omega) hs hp hl)
theorem farness_ev (s : Nat) (r : Bool) (T : Nat) (hT : T < 4294967296) (hs : s ≤ 24) (hl : ∀ x ∈ listN T, 0 ≤ x ∧ x < (s : Int)) : Ev (fun k => impl_bench_farness.f k (s : Int) r (T : Int)) ((List.range s).map (farN (s : Int) r (listN T))) := by
  unfold impl_bench_farness.f
  have key : ∀ d i, i + d = s → Ev (fun k => impl_bench_farness.l0 k (T : Int) ((List.range i).map (farN (s : Int) r (listN T))) (s : Int) (i : Int) (s : Int) r) ((List.range s).map (farN (s : Int) r (listN T))) := by
    intro d
    induction d with
    | zero =>
      intro i hi
      refine Ev.succ ?_
      simp only [impl_bench_farness.l0.eq_2]
      rw [show i = s by omega]
      exact Ev.neg (by omega) (Ev.now _)
    | succ d ih =>
      intro i hi
      refine Ev.succ ?_
      simp only [impl_bench_farness.l0.eq_2]
      refine Ev.pos (by omega) (Ev.bind (nearest_ev (s : Int) r T (i : Int) hT (by omega) (by omega) hl) ?_)
      rw [w64 (n := (i : Int) + 1) (by omega) (by omega)]
      have h := ih (i + 1) (by omega)
      rw [List.range_succ, List.map_append, List.map_singleton] at h
      by_cases e : listN T = []
      · have e1 : nearOf (s : Int) r (listN T) (i : Int) = (0, 0, false) := if_pos e
        have e2 : farN (s : Int) r (listN T) i = (s : Int) := if_pos e
        rw [e1]
        rw [e2] at h
        exact Ev.neg (by simp) (Ev.pos (by rw [List.length_map, List.length_range]; omega) h)
      · have e1 : nearOf (s : Int) r (listN T) (i : Int) = ((nst (s : Int) r (i : Int) (listN T)).1, (nst (s : Int) r (i : Int) (listN T)).2, true) := if_neg e
        have e2 : farN (s : Int) r (listN T) i = (nst (s : Int) r (i : Int) (listN T)).2 := if_neg e
        rw [e1]
        rw [e2] at h
        exact Ev.pos rfl (Ev.pos (by rw [List.length_map, List.length_range]; omega) h)
  exact key s 0 (by omega)
theorem l3All_ev (s : Nat) (r : Bool) (l : List Int) (hlen : l.length ≤ 35184372088832) (hs : s ≤ 24) (hl : ∀ x ∈ l, 0 ≤ x ∧ x < (s : Int)) : Ev (fun k => spec_l3All.f k (s : Int) r l) ((List.range s).map (farN (s : Int) r l)) := by
  unfold spec_l3All.f
  have key : ∀ d i, i + d = s → Ev (fun k => spec_l3All.l0 k ((List.range i).map (farN (s : Int) r l)) (i : Int) (s : Int) r l) ((List.range s).map (farN (s : Int) r l)) := by
    intro d
    induction d with
    | zero =>
      intro i hi
      refine Ev.succ ?_
      simp only [spec_l3All.l0.eq_2]
      rw [show i = s by omega]
      exact Ev.neg (by omega) (Ev.now _)
    | succ d ih =>
      intro i hi
      refine Ev.succ ?_
      simp only [spec_l3All.l0.eq_2]
      refine Ev.pos (by omega) (Ev.bind (l3Far_ev (s : Int) r l i hlen (by omega) hl (by omega)) ?_)
      rw [w64 (n := (i : Int) + 1) (by omega) (by omega)]
      have h := ih (i + 1) (by omega)
      rw [List.range_succ, List.map_append, List.map_singleton] at h
      exact Ev.pos (by rw [List.length_map, List.length_range]; omega) h
  exact key s 0 (by omega)
/-- the greatest of the first i numbers -/
def mxL (f : Nat → Int) : Nat → Int
  | 0 => 0
  | i + 1 => if mxL f i > f i then mxL f i else f i
theorem mxL_nonneg (f : Nat → Int) (i : Nat) : (∀ j, j < i → 0 ≤ f j) → 0 ≤ mxL f i := by
  induction i with
  | zero => intro _; exact Int.le_refl _
  | succ i ih =>
    intro h
    have := ih (fun j hj => h j (by omega)); have := h i (by omega)
    unfold mxL; split <;> omega
theorem mxL_ge (f : Nat → Int) (i : Nat) : ∀ j, j < i → f j ≤ mxL f i := by
  induction i with
  | zero => intro j hj; omega
  | succ i ih =>
    intro j hj
    unfold mxL
    by_cases e : j = i
    · subst e; split <;> omega
    · have := ih j (by omega); split <;> omega
theorem mxL_at (f : Nat → Int) (i : Nat) : 0 < mxL f i → ∃ j, j < i ∧ f j = mxL f i := by
  induction i with
  | zero => intro h; exact absurd h (by simp [mxL])
  | succ i ih =>
    intro h
    unfold mxL at h ⊢
    by_cases c : mxL f i > f i
    · rw [if_pos c] at h ⊢
      obtain ⟨j, hj, e⟩ := ih h
      exact ⟨j, by omega, e⟩
    · rw [if_neg c]; exact ⟨i, by omega, rfl⟩
def best (f : Nat → Int) (m : Int) (q : Nat) : Bool := decide (f q = m) && decide (0 < m)
/-- the seats that are farthest -/
def poL (f : Nat → Int) (n : Nat) : List Int := ((List.range n).filter (best f (mxL f n))).map (fun x : Nat => (x : Int))
theorem getD_mapR (f : Nat → Int) (s i : Nat) (h : i < s) : rd ((List.range s).map f) (i : Int) = f i := by
  rw [rd_nat _ i (by rw [List.length_map, List.length_range]; exact h), List.getElem_map, List.getElem_range]
theorem l3Polite_ev (s : Nat) (r : Bool) (l : List Int) (hlen : l.length ≤ 35184372088832) (hs : s ≤ 24) (hl : ∀ x ∈ l, 0 ≤ x ∧ x < (s : Int)) : Ev (fun k => spec_l3Polite.f k (s : Int) r l) (poL (farN (s : Int) r l) s) := by
  unfold spec_l3Polite.f
  refine Ev.bind (l3All_ev s r l hlen hs hl) ?_
  generalize hf : farN (s : Int) r l = f
  have hlm : ((List.range s).map f).length = s := by rw [List.length_map, List.length_range]
  have k1 : ∀ d i, i + d = s → Ev (fun k => spec_l3Polite.l1 k (((List.range i).filter (best f (mxL f s))).map (fun x : Nat => (x : Int))) ((List.range s).map f) (mxL f s) (i : Int) (s : Int) r l) (poL f s) := by
    intro d
    induction d with
    | zero =>
      intro i hi
      refine Ev.succ ?_
      simp only [spec_l3Polite.l1.eq_2]
      refine Ev.neg (by omega) (Ev.succ ?_)
      simp only [spec_l3Polite.j2.eq_2]
      rw [show i = s by omega]
      exact Ev.neg (by simp) (Ev.now _)
    | succ d ih =>
      intro i hi
      refine Ev.succ ?_
      simp only [spec_l3Polite.l1.eq_2]
      refine Ev.pos (by omega) (Ev.succ ?_)
      simp only [spec_l3Polite.j2.eq_2]
      have hlen2 : ∀ i, (((List.range i).filter (best f (mxL f s))).map (fun x : Nat => (x : Int))).length ≤ i := fun i => by
        rw [List.length_map]
        exact Nat.le_trans (List.length_filter_le _ _) (by rw [List.length_range]; exact Nat.le_refl _)
      by_cases hm : mxL f s > 0
      · rw [show decide (mxL f s > 0) = true by simpa using hm, getD_mapR f s i (by omega), w64 (n := (i : Int) + 1) (by omega) (by omega), hlm]
        refine Ev.pos rfl (Ev.pos (by omega) (Ev.pos (by omega) ?_))
        have h := ih (i + 1) (by omega)
        rw [List.range_succ, List.filter_append, List.map_append] at h
        by_cases he : f i = mxL f s
        · have hb : best f (mxL f s) i = true := by unfold best; simp [he, hm]
          rw [List.filter_cons_of_pos hb, List.filter_nil, List.map_singleton] at h
          exact Ev.pos he (Ev.pos (by have := hlen2 i; omega) h)
        · have hb : ¬ best f (mxL f s) i = true := by unfold best; simp [he]
          rw [List.filter_cons_of_neg hb, List.filter_nil, List.map_nil, List.append_nil] at h
          exact Ev.neg he h
      · rw [show decide (mxL f s > 0) = false by simpa using hm]
        have e0 : ∀ n, (List.range n).filter (best f (mxL f s)) = [] := fun n => by
          rw [List.filter_eq_nil_iff]; intro x _; unfold best; simp; omega
        rw [poL, e0 i, e0 s]
        exact Ev.neg (by simp) (Ev.now _)
  have k0 : ∀ d i, i + d = s → Ev (fun k => spec_l3Polite.l0 k [] ((List.range s).map f) (mxL f i) (i : Int) (s : Int) r l) (poL f s) := by
    intro d
    induction d with
    | zero =>
      intro i hi
      refine Ev.succ ?_
      simp only [spec_l3Polite.l0.eq_2]
      rw [show i = s by omega]
      exact Ev.neg (by omega) (k1 s 0 (by omega))
    | succ d ih =>
      intro i hi
      refine Ev.succ ?_
      simp only [spec_l3Polite.l0.eq_2]
      rw [getD_mapR f s i (by omega), w64 (n := (i : Int) + 1) (by omega) (by omega), hlm]
      have h := ih (i + 1) (by omega)
      refine Ev.pos (by omega) (Ev.pos (by omega) (Ev.pos (by omega) (Ev.bindc (a := mxL f (i + 1)) ?_ h)))
      show (if mxL f i > f i then some (mxL f i) else some (f i)) = some (if mxL f i > f i then mxL f i else f i)
      split <;> rfl
  exact k0 s 0 (by omega)
theorem bld_none (R : Nat → Bool) (n : Nat) (h : ∀ j, j < n → R j = false) : bld R n = 0 := by
  induction n with
  | zero => rfl
  | succ n ih =>
    unfold bld
    rw [if_neg (by rw [h n (by omega)]; decide)]
    exact ih (fun j hj => h j (by omega))
theorem polite_ev (s : Nat) (r : Bool) (T : Nat) (hT : T < 4294967296) (hs : s ≤ 24) (hl : ∀ x ∈ listN T, 0 ≤ x ∧ x < (s : Int)) :
    Ev (fun k => impl_bench_polite.f k (s : Int) r (T : Int)) (((bld (best (farN (s : Int) r (listN T)) (mxL (farN (s : Int) r (listN T)) s)) s : Nat) : Int), mxL (farN (s : Int) r (listN T)) s) := by
  unfold impl_bench_polite.f
  refine Ev.bind (farness_ev s r T hT hs hl) ?_
  have hn0 : ∀ j, j < s → 0 ≤ farN (s : Int) r (listN T) j := fun j hj => (farN_range (s : Int) r (listN T) j (by omega) hl (by omega)).1
  revert hn0
  generalize farN (s : Int) r (listN T) = f
  intro hn0
  have hlm : ((List.range s).map f).length = s := by rw [List.length_map, List.length_range]
  rw [hlm]
  have key : ∀ d i, i + d = s → Ev (fun k => impl_bench_polite.l0 k ((bld (best f (mxL f i)) i : Nat) : Int) (mxL f i) ((List.range s).map f) (s : Int) (i : Int)) (((bld (best f (mxL f s)) s : Nat) : Int), mxL f s) := by
    intro d
    induction d with
    | zero =>
      intro i hi
      refine Ev.succ ?_
      simp only [impl_bench_polite.l0.eq_2]
      rw [show i = s by omega]
      exact Ev.neg (by omega) (Ev.now _)
    | succ d ih =>
      intro i hi
      refine Ev.succ ?_
      simp only [impl_bench_polite.l0.eq_2]
      have h := ih (i + 1) (by omega)
      have hm := mxL_nonneg f i (fun j hj => hn0 j (by omega))
      have hf0 := hn0 i (by omega)
      have hmg := mxL_ge f i
      rw [getD_mapR f s i (by omega), hlm]
      refine Ev.pos (by omega) (Ev.pos (by omega) (Ev.pos (by omega) ?_))
      have hor := or_pow_u32 (bld (best f (mxL f i)) i) i (bld_lt _ _ (by omega)) (by omega)
      have hor0 := or_pow_u32 0 i (by decide) (by omega)
      by_cases c1 : f i = 0 ∨ f i < mxL f i
      · have e1 : mxL f (i + 1) = mxL f i := by
          conv => lhs; unfold mxL
          split <;> omega
        have e2 : bld (best f (mxL f i)) (i + 1) = bld (best f (mxL f i)) i := by
          have hb : ¬ best f (mxL f i) i = true := by unfold best; simp; intro e; omega
          exact if_neg hb
        rw [e1, e2] at h
        have h2 : Ev (fun k => impl_bench_polite.j1 k ((bld (best f (mxL f i)) i : Nat) : Int) (mxL f i) (i : Int) (f i) ((List.range s).map f) (s : Int) (i : Int) true) (((bld (best f (mxL f s)) s : Nat) : Int), mxL f s) := by
          refine Ev.succ ?_
          simp only [impl_bench_polite.j1.eq_2]
          rw [w64 (n := (i : Int) + 1) (by omega) (by omega)]
          exact Ev.pos trivial h
        by_cases c0 : f i = 0
        · exact Ev.pos c0 h2
        · rw [show decide (f i < mxL f i) = true by simp; omega]
          exact Ev.neg c0 h2
      · refine Ev.neg (by omega) ?_
        rw [show decide (f i < mxL f i) = false by simp; omega]
        refine Ev.succ ?_
        simp only [impl_bench_polite.j1.eq_2]
        rw [w64 (n := (i : Int) + 1) (by omega) (by omega)]
        refine Ev.neg (by simp) ?_
        have hb : best f (f i) i = true := by unfold best; simp; omega
        by_cases c2 : f i > mxL f i
        · have e1 : mxL f (i + 1) = f i := by
            conv => lhs; unfold mxL
            split <;> omega
          have e0 : bld (best f (f i)) i = 0 := bld_none _ _ (fun j hj => by
            have := hmg j hj
            unfold best; simp; intro e; omega)
          have e2 : bld (best f (f i)) (i + 1) = 0 ||| 2 ^ i := by
            rw [show bld (best f (f i)) (i + 1) = bld (best f (f i)) i ||| 2 ^ i from if_pos hb, e0]
          rw [e1, e2] at h
          refine Ev.pos c2 (Ev.pos (by omega) ?_)
          rw [show (0 : Int) = ((0 : Nat) : Int) from rfl, hor0]
          exact h
        · have e : f i = mxL f i := by omega
          have e1 : mxL f (i + 1) = mxL f i := by
            conv => lhs; unfold mxL
            split <;> omega
          rw [e] at hb
          have e2 : bld (best f (mxL f i)) (i + 1) = bld (best f (mxL f i)) i ||| 2 ^ i := if_pos hb
          rw [e1, e2] at h
          refine Ev.neg c2 (Ev.pos (by omega) ?_)
          rw [hor]
          exact h
  exact key s 0 (by omega)
/-- how many of a set's seats meet R, by a list of its seats -/
theorem count_single (n : Nat) (x : Int) (hx : 0 ≤ x ∧ x < (n : Int)) (R : Int → Bool) : (List.range n).countP (fun i : Nat => decide ((i : Int) = x) && R (i : Int)) = if R x = true then 1 else 0 := by
  induction n with
  | zero => omega
  | succ n ih =>
    rw [List.range_succ, List.countP_append, List.countP_singleton]
    by_cases e : (n : Int) = x
    · have h0 : (List.range n).countP (fun i : Nat => decide ((i : Int) = x) && R (i : Int)) = 0 := by
        rw [List.countP_eq_zero]
        intro i hi
        have := List.mem_range.mp hi
        simp; intro h; omega
      rw [h0, e]; simp
    · rw [ih (by omega)]; simp [e]
theorem count_list (n : Nat) (R : Int → Bool) : ∀ (l : List Int), l.Nodup → (∀ x ∈ l, 0 ≤ x ∧ x < (n : Int)) → (List.range n).countP (fun i : Nat => decide ((i : Int) ∈ l) && R (i : Int)) = l.countP R := by
  intro l
  induction l with
  | nil => intro _ _; simp
  | cons x l ih =>
    intro hn hr
    have hx : x ∉ l := (List.nodup_cons.mp hn).1
    have e : (List.range n).countP (fun i : Nat => decide ((i : Int) ∈ x :: l) && R (i : Int)) = (List.range n).countP (fun i : Nat => decide ((i : Int) ∈ l) && R (i : Int)) + (List.range n).countP (fun i : Nat => decide ((i : Int) = x) && R (i : Int)) := by
      generalize List.range n = L
      induction L with
      | nil => rfl
      | cons i L ihL =>
        simp only [List.countP_cons, ihL]
        by_cases e : (i : Int) = x
        · have : ¬ (i : Int) ∈ l := e ▸ hx
          simp only [e, List.mem_cons, hx, true_or, decide_true, Bool.true_and, decide_false, Bool.false_and]
          simp; omega
        · simp only [List.mem_cons, e, false_or, decide_false, Bool.false_and]
          simp; omega
    rw [e, ih (List.nodup_cons.mp hn).2 (fun y hy => hr y (List.mem_cons_of_mem _ hy)), count_single n x (hr x (by simp)) R, List.countP_cons]
/-- sum over a list -/
def sumL (f : Int → Nat) : List Int → Nat
  | [] => 0
  | x :: l => f x + sumL f l
theorem sumL_append (f : Int → Nat) (l m : List Int) : sumL f (l ++ m) = sumL f l + sumL f m := by
  induction l with
  | nil => simp [sumL]
  | cons x l ih => simp only [List.cons_append, sumL, ih]; omega
theorem sumL_add (f g : Int → Nat) (l : List Int) : sumL (fun x => f x + g x) l = sumL f l + sumL g l := by
  induction l with
  | nil => rfl
  | cons x l ih => simp only [sumL, ih]; omega
theorem sumL_if (R : Int → Bool) (l : List Int) : sumL (fun x => if R x = true then 1 else 0) l = l.countP R := by
  induction l with
  | nil => rfl
  | cons x l ih => simp only [sumL, ih, List.countP_cons]; omega
theorem pairwise_nodup {l : List Int} (h : l.Pairwise (· < ·)) : l.Nodup := h.imp (fun h => by omega)
theorem rw_len {s : Int} {r : Bool} {l : List Int} (h : IsRw s r l) : l.length ≤ 24 := by
  have := ph_nodup_len s.toNat l (pairwise_nodup h.2.2.2) (fun x hx => by have := h.2.2.1 x hx; omega)
  have := h.1; omega
/-- the seats of one set that are not in another one -/
def lessN (a b : Nat) : Nat := (BitVec.ofNat 32 a &&& ~~~(BitVec.ofNat 32 b)).toNat
theorem lessN_lt (a b : Nat) : lessN a b < 4294967296 := (BitVec.ofNat 32 a &&& ~~~(BitVec.ofNat 32 b)).isLt
theorem lessN_bit (a b j : Nat) (ha : a < 4294967296) (hb : b < 4294967296) : (lessN a b).testBit j = (a.testBit j && !b.testBit j) := by
  unfold lessN
  rw [BitVec.testBit_toNat, BitVec.getLsbD_and, BitVec.getLsbD_not, BitVec.getLsbD_ofNat, BitVec.getLsbD_ofNat]
  by_cases h : j < 32
  · simp [h]
  · have : a.testBit j = false := Nat.testBit_lt_two_pow (Nat.lt_of_lt_of_le ha (Nat.pow_le_pow_right (n := 2) (i := 32) (by decide) (by omega)))
    simp [h, this]
theorem u32_andNot (a b : Nat) : Go.bits .andNot .u32 (a : Int) (b : Int) = ((lessN a b : Nat) : Int) := by
  unfold Go.bits lessN
  have e1 : BitVec.ofInt IntKind.u32.bits (a : Int) = BitVec.ofNat 32 a := BitVec.ofInt_natCast 32 a
  have e2 : BitVec.ofInt IntKind.u32.bits (b : Int) = BitVec.ofNat 32 b := BitVec.ofInt_natCast 32 b
  simp only [e1, e2]
  rw [IntKind.wrap_u32]
  have := (BitVec.ofNat 32 a &&& ~~~(BitVec.ofNat 32 b)).isLt
  exact Int.emod_eq_of_lt (Int.natCast_nonneg _) (Int.ofNat_lt.mpr this)
theorem countP_split (a b : Nat → Bool) (L : List Nat) : L.countP (fun i => a i && b i) + L.countP (fun i => a i && !b i) = L.countP a := by
  induction L with
  | nil => rfl
  | cons x L ih =>
    simp only [List.countP_cons]
    cases a x <;> cases b x <;> simp <;> omega
theorem range_lt_count : ∀ s : Fin 33, (List.range 32).countP (fun i => decide (i < s.val)) = s.val := by decide
theorem all_bit (s j : Nat) : (2 ^ s - 1).testBit j = decide (j < s) := Nat.testBit_two_pow_sub_one s j
theorem all_lt (s : Nat) (h : s ≤ 31) : 2 ^ s - 1 < 4294967296 := by
  have : 2 ^ s < 2 ^ 32 := Nat.pow_lt_pow_right (by decide) (by omega)
  have : (2 : Nat) ^ 32 = 4294967296 := rfl
  omega
/-- the free seats -/
def freeN (s : Nat) (l : List Int) : Nat := lessN (2 ^ s - 1) (setN l)
theorem freeN_count (s : Nat) (l : List Int) (hs : s ≤ 31) (hn : l.Nodup) (hl : ∀ x ∈ l, 0 ≤ x ∧ x < (s : Int)) : pc 32 (freeN s l) + l.length = s := by
  rw [pc_count]
  unfold freeN
  have h32 : ∀ x ∈ l, 0 ≤ x ∧ x < 32 := fun x hx => by have := hl x hx; omega
  have e1 : (List.range 32).countP (fun i => (lessN (2 ^ s - 1) (setN l)).testBit i) = (List.range 32).countP (fun i => decide (i < s) && !decide ((i : Int) ∈ l)) := by
    refine List.countP_congr (fun i _ => ?_)
    rw [lessN_bit _ _ _ (all_lt s hs) (setN_lt l h32), all_bit, setN_bit]
    have : (∃ p ∈ l, p.toNat = i) ↔ (i : Int) ∈ l := by
      constructor
      · rintro ⟨p, hp, e⟩; have := h32 p hp; rw [show (i : Int) = p by omega]; exact hp
      · intro h; exact ⟨_, h, by omega⟩
    simp only [this]
  have e2 : (List.range 32).countP (fun i : Nat => decide (i < s) && decide ((i : Int) ∈ l)) = l.length := by
    have := count_list 32 (fun _ => true) l hn h32
    rw [List.countP_true] at this
    rw [← this]
    refine List.countP_congr (fun i _ => ?_)
    simp only [Bool.and_eq_true, decide_eq_true_eq, and_true]
    exact ⟨fun h => h.2, fun h => ⟨by have := hl _ h; omega, h⟩⟩
  have e3 := countP_split (fun i => decide (i < s)) (fun i => decide ((i : Int) ∈ l)) (List.range 32)
  have e4 := range_lt_count ⟨s, by omega⟩
  simp only at e4
  rw [e2, e4] at e3
  rw [e1]; omega
theorem bench_all_eq (s : Nat) (r : Bool) (hs : s ≤ 31) : impl_bench_all.f (s : Int) r = some (((2 ^ s - 1 : Nat) : Int)) := by
  unfold impl_bench_all.f
  have h := all_lt s hs
  have hp : 0 < 2 ^ s := Nat.two_pow_pos s
  rw [if_pos (by omega), shl_u32_one _ (by omega) (by omega), Int.toNat_natCast]
  congr 1
  generalize 2 ^ s = t at h hp ⊢
  omega
theorem row_free_ev (s : Nat) (r : Bool) (l : List Int) (hs : s ≤ 31) (hlen : l.length ≤ 35184372088832) (hl : ∀ x ∈ l, 0 ≤ x ∧ x < (s : Int)) : Ev (fun k => impl_Row_free.f k (s : Int) r l) ((freeN s l : Nat) : Int) := by
  unfold impl_Row_free.f
  have h32 : ∀ x ∈ l, 0 ≤ x ∧ x < 32 := fun x hx => by have := hl x hx; omega
  refine Ev.bindc rfl (Ev.bindc (bench_all_eq s r hs) (Ev.bind (a := ((setN l : Nat) : Int)) ?_ ?_))
  · unfold impl_Row_taken.f
    exact Ev.bind (f := fun _ t => some t) (setOf_ev l h32 hlen) (Ev.now _)
  · rw [u32_andNot]; exact Ev.now _
/-- a seat put in its place -/
def putL : List Int → Int → List Int
  | [], p => [p]
  | x :: l, p => if x < p then x :: putL l p else p :: x :: l
theorem putL_mem (l : List Int) (p x : Int) : x ∈ putL l p ↔ x = p ∨ x ∈ l := by
  induction l with
  | nil => simp [putL]
  | cons y l ih =>
    unfold putL
    split
    · rw [List.mem_cons, ih, List.mem_cons]
      constructor
      · rintro (h | h | h)
        · exact .inr (.inl h)
        · exact .inl h
        · exact .inr (.inr h)
      · rintro (h | h | h)
        · exact .inr (.inl h)
        · exact .inl h
        · exact .inr (.inr h)
    · rw [List.mem_cons]
theorem putL_len (l : List Int) (p : Int) : (putL l p).length = l.length + 1 := by
  induction l with
  | nil => rfl
  | cons y l ih => unfold putL; split <;> simp [ih]
theorem putL_sorted (l : List Int) (p : Int) (hp : p ∉ l) (hs : l.Pairwise (· < ·)) : (putL l p).Pairwise (· < ·) := by
  induction l with
  | nil => simp [putL]
  | cons y l ih =>
    obtain ⟨h1, h2⟩ := List.pairwise_cons.mp hs
    have hy : p ≠ y := fun e => hp (by rw [e]; simp)
    have hl : p ∉ l := fun e => hp (List.mem_cons_of_mem _ e)
    unfold putL
    split
    · rename_i hlt
      refine List.pairwise_cons.mpr ⟨fun x hx => ?_, ih hl h2⟩
      rcases (putL_mem l p x).mp hx with e | e
      · rw [e]; exact hlt
      · exact h1 x e
    · rename_i hlt
      refine List.pairwise_cons.mpr ⟨fun x hx => ?_, hs⟩
      rcases List.mem_cons.mp hx with e | e
      · rw [e]; omega
      · have := h1 x e; omega
theorem putL_set (l : List Int) (p : Int) : setN (putL l p) = setN l ||| 2 ^ p.toNat := by
  refine Nat.eq_of_testBit_eq (fun j => ?_)
  rw [Nat.testBit_or, setN_bit, setN_bit, Nat.testBit_two_pow]
  rw [Bool.eq_iff_iff]
  simp only [Bool.or_eq_true, decide_eq_true_eq]
  constructor
  · rintro ⟨x, hx, e⟩
    rcases (putL_mem l p x).mp hx with h | h
    · subst h; exact .inr e
    · exact .inl ⟨x, h, e⟩
  · rintro (⟨x, hx, e⟩ | e)
    · exact ⟨x, (putL_mem l p x).mpr (.inr hx), e⟩
    · exact ⟨p, (putL_mem l p p).mpr (.inl rfl), e⟩
theorem l1Put_ev (l : List Int) (p : Int) (hp : p ∉ l) (hl : l.length ≤ 35184372) : Ev (fun k => spec_l1Put.f k l p) (putL l p) := by
  unfold spec_l1Put.f
  have key : ∀ d i, i + d = l.length → Ev (fun k => spec_l1Put.l0 k l p (i : Int)) (l.take i ++ putL (l.drop i) p) := by
    intro d
    induction d with
    | zero =>
      intro i hi
      refine Ev.succ ?_
      simp only [spec_l1Put.l0.eq_2, Option.bind_some, List.nil_append, Int.toNat_natCast]
      have ht : (l.take i).length ≤ l.length := by rw [List.length_take]; omega
      have hd : (l.drop i).length ≤ l.length := by rw [List.length_drop]; omega
      rw [List.drop_of_length_le (show l.length ≤ i by omega)] at hd ⊢
      refine Ev.neg (by omega) (Ev.pos (by omega) (Ev.pos (by omega) (Ev.pos (by rw [List.length_nil]; omega) (Ev.pos (by rw [List.length_singleton]; omega) (Ev.pos (by rw [List.length_append, List.length_singleton, List.length_nil]; omega) ?_)))))
      rw [List.append_nil]
      exact Ev.now _
    | succ d ih =>
      intro i hi
      refine Ev.succ ?_
      simp only [spec_l1Put.l0.eq_2, Option.bind_some, List.nil_append, Int.toNat_natCast]
      have ht : (l.take i).length ≤ l.length := by rw [List.length_take]; omega
      have hd : (l.drop i).length ≤ l.length := by rw [List.length_drop]; omega
      have hne : l[i] ≠ p := fun e => hp (by rw [← e]; exact List.getElem_mem (by omega))
      rw [rd_nat l i (by omega), w64 (n := (i : Int) + 1) (by omega) (by omega)]
      have h := ih (i + 1) (by omega)
      rw [List.take_succ_eq_append_getElem (by omega)] at h
      rw [show l.drop i = l[i] :: l.drop (i + 1) from List.drop_eq_getElem_cons (by omega)]
      unfold putL
      refine Ev.pos (by omega) (Ev.pos (by omega) ?_)
      by_cases c : l[i] < p
      · rw [if_pos c]
        refine Ev.pos c ?_
        rw [List.append_assoc, List.singleton_append] at h
        exact h
      · rw [if_neg c]
        refine Ev.neg c (Ev.neg hne (Ev.pos (by omega) (Ev.pos (by rw [List.length_nil]; omega) (Ev.pos (by rw [List.length_singleton]; omega) (Ev.pos (by rw [List.length_append, List.length_singleton, List.length_cons, List.length_drop]; omega) ?_)))))
        rw [List.append_assoc, List.singleton_append]
        exact Ev.now _
  have := key l.length 0 (by omega)
  simpa using this
theorem l1Own_eq (l : List Int) (h : l.length < 17592186044416) : spec_l1Own.f l = some l := by
  unfold spec_l1Own.f
  rw [Option.bind_some, if_pos (by simpa using h), List.nil_append]
theorem l2With_ev (s : Int) (r : Bool) (l : List Int) (p : Int) (hp : p ∉ l) (hl : l.length ≤ 35184372) : Ev (fun k => spec_l2With.f k s r l p) (s, r, putL l p) := by
  unfold spec_l2With.f
  exact Ev.bindc (l1Own_eq l (by omega)) (Ev.bind (f := fun k t => (spec_l2Made.f s r l t).bind fun bt => some (bt.1, bt.2.1, bt.2.2)) (l1Put_ev l p hp hl) (Ev.bindc rfl (Ev.now _)))
theorem szRow_eq (s : Int) (r : Bool) (l : List Int) (a : Int) (hl : l.length ≤ 35184372088832) (h0 : 0 ≤ a) (h1 : a ≤ 1048576) : laws_szRow.f s r l a = some (if a - (l.length : Int) < 0 then -1 else a - (l.length : Int)) := by
  unfold laws_szRow.f
  rw [szIntS_eq l _ hl h0 h1]
  simp only [Option.bind_some]
  by_cases h : a - (l.length : Int) < 0
  · rw [if_pos h, if_pos (by omega)]
  · rw [if_neg h, if_neg h]
theorem toRow_ev (s : Int) (r : Bool) (l : List Int) (hl : l.length ≤ 35184372088832) : Ev (fun k => laws_toRow.f k s r l) (s, r, l) := by
  unfold laws_toRow.f
  exact Ev.bind (f := fun _ t => some (s, r, t)) (toIntS_ev l hl) (Ev.now _)
theorem eqRow_ev (s : Int) (r : Bool) (l : List Int) (hl : l.length ≤ 35184372088832) : Ev (fun k => laws_eqRow.f k s r l s r l) true := by
  unfold laws_eqRow.f
  refine Ev.pos rfl (Ev.neg (by simp) (Ev.bind (eqIntS_ev l hl) (Ev.pos rfl (Ev.now _))))
theorem rw_lenS {s : Int} {r : Bool} {l : List Int} (h : IsRw s r l) : (l.length : Int) ≤ s := by
  have := ph_nodup_len s.toNat l (pairwise_nodup h.2.2.2) (fun x hx => by have := h.2.2.1 x hx; omega)
  have := h.1; omega
/-- in how many ways newcomers settle a row -/
def tie (s : Nat) (r : Bool) : Nat → List Int → Int
  | 0, _ => 1
  | e + 1, l => if mxL (farN (s : Int) r l) s < 2 then 1 else (poL (farN (s : Int) r l) s).foldl (fun acc p => wrap64 (acc + tie s r e (putL l p))) 0
theorem poL_mem (s : Nat) (r : Bool) (l : List Int) (hs : s ≤ 24) (hl : ∀ x ∈ l, 0 ≤ x ∧ x < (s : Int)) (p : Int) (hp : p ∈ poL (farN (s : Int) r l) s) : ∃ q : Nat, p = (q : Int) ∧ q < s ∧ farN (s : Int) r l q = mxL (farN (s : Int) r l) s ∧ 0 < mxL (farN (s : Int) r l) s ∧ p ∉ l := by
  unfold poL at hp
  rw [List.mem_map] at hp
  obtain ⟨q, hq, rfl⟩ := hp
  rw [List.mem_filter, List.mem_range] at hq
  obtain ⟨h1, h2⟩ := hq
  unfold best at h2
  rw [Bool.and_eq_true, decide_eq_true_eq, decide_eq_true_eq] at h2
  refine ⟨q, rfl, h1, h2.1, h2.2, fun hm => ?_⟩
  have := farN_taken (s : Int) r l q (by omega) hl hm
  omega
theorem poL_empty (s : Nat) (r : Bool) (l : List Int) (h : 0 < mxL (farN (s : Int) r l) s) : poL (farN (s : Int) r l) s ≠ [] := by
  obtain ⟨j, hj, he⟩ := mxL_at (farN (s : Int) r l) s h
  intro h0
  have : (j : Int) ∈ poL (farN (s : Int) r l) s := by
    unfold poL best
    rw [List.mem_map]
    exact ⟨j, by rw [List.mem_filter, List.mem_range, Bool.and_eq_true, decide_eq_true_eq, decide_eq_true_eq]; exact ⟨hj, he, h⟩, rfl⟩
  rw [h0] at this
  simp at this
theorem put_ok (s : Nat) (r : Bool) (l : List Int) (hw : IsRw (s : Int) r l) (p : Int) (hp : 0 ≤ p ∧ p < (s : Int)) (hn : p ∉ l) : IsRw (s : Int) r (putL l p) := by
  refine ⟨hw.1, hw.2.1, fun x hx => ?_, putL_sorted l p hn hw.2.2.2⟩
  rcases (putL_mem l p x).mp hx with h | h
  · subst h; exact hp
  · exact hw.2.2.1 x h
theorem rd_mem (l : List Int) (i : Nat) (h : i < l.length) : rd l (i : Int) ∈ l := by rw [rd_nat l i h]; exact List.getElem_mem h
theorem tie_spec (s : Nat) (r : Bool) : ∀ (e : Nat) (l : List Int), IsRw (s : Int) r l → l.length + e = s → Ev (fun k => spec_l3Ties.f k (s : Int) r l) (tie s r e l) := by
  intro e
  induction e with
  | zero =>
    intro l hw hl
    have hs := hw.1
    have hlen := rw_len hw
    refine Ev.succ ?_
    simp only [spec_l3Ties.f.eq_2]
    refine Ev.bind (l3Polite_ev s r l (by omega) (by omega) hw.2.2.1) ?_
    have h0 : ¬ (0 < mxL (farN (s : Int) r l) s) := fun h => by
      have hne := poL_empty s r l h
      obtain ⟨p, hp⟩ := List.exists_mem_of_ne_nil _ hne
      obtain ⟨q, rfl, hq, _, _, hn⟩ := poL_mem s r l (by omega) hw.2.2.1 p hp
      have hw2 := put_ok s r l hw (q : Int) (by omega) hn
      have := rw_lenS hw2
      rw [putL_len] at this
      omega
    have he : poL (farN (s : Int) r l) s = [] := by
      rw [List.eq_nil_iff_forall_not_mem]
      intro p hp
      obtain ⟨q, _, _, _, h, _⟩ := poL_mem s r l (by omega) hw.2.2.1 p hp
      exact h0 h
    rw [he]
    refine Ev.pos (by simp) (Ev.succ ?_)
    simp only [spec_l3Ties.j0.eq_2]
    exact Ev.pos (by trivial) (Ev.now _)
  | succ e ih =>
    intro l hw hl
    have hs := hw.1
    refine Ev.succ ?_
    simp only [spec_l3Ties.f.eq_2]
    refine Ev.bind (l3Polite_ev s r l (by omega) (by omega) hw.2.2.1) ?_
    have h0 : 0 ≤ mxL (farN (s : Int) r l) s := mxL_nonneg _ _ (fun j hj => (farN_range (s : Int) r l j (by omega) hw.2.2.1 (by omega)).1)
    unfold tie
    by_cases hm : mxL (farN (s : Int) r l) s < 2
    · rw [if_pos hm]
      have j0 : Ev (fun n => spec_l3Ties.j0 n (poL (farN (s : Int) r l) s) true (s : Int) r l) 1 := by
        refine Ev.succ ?_
        simp only [spec_l3Ties.j0.eq_2]
        exact Ev.pos (by trivial) (Ev.now _)
      by_cases hp : poL (farN (s : Int) r l) s = []
      · exact Ev.pos (by rw [hp]; rfl) j0
      · have hpl : 0 < (poL (farN (s : Int) r l) s).length := List.length_pos_iff.mpr hp
        obtain ⟨q, hq1, hq2, hq3, _, _⟩ := poL_mem s r l (by omega) hw.2.2.1 _ (rd_mem _ 0 hpl)
        refine Ev.neg (by omega) (Ev.pos (by omega) ?_)
        rw [show ((0 : Int)) = ((0 : Nat) : Int) from rfl, hq1]
        refine Ev.bind (l3Far_ev (s : Int) r l q (by omega) (by omega) hw.2.2.1 (by omega)) ?_
        rw [hq3, decide_eq_true hm]
        exact j0
    · rw [if_neg hm]
      have hp := poL_empty s r l (by omega)
      have hpl : 0 < (poL (farN (s : Int) r l) s).length := List.length_pos_iff.mpr hp
      obtain ⟨q, hq1, hq2, hq3, _, _⟩ := poL_mem s r l (by omega) hw.2.2.1 _ (rd_mem _ 0 hpl)
      refine Ev.neg (by omega) (Ev.pos (by omega) ?_)
      have hfar := l3Far_ev (s : Int) r l q (by omega) (by omega) hw.2.2.1 (by omega)
      rw [← hq1] at hfar
      refine Ev.bind hfar ?_
      rw [hq3, decide_eq_false hm]
      refine Ev.succ ?_
      simp only [spec_l3Ties.j0.eq_2]
      refine Ev.neg (by decide) ?_
      have hPl : (poL (farN (s : Int) r l) s).length ≤ s := by
        unfold poL
        rw [List.length_map]
        exact Nat.le_trans (List.length_filter_le _ _) (by rw [List.length_range]; exact Nat.le_refl _)
      have hmem := poL_mem s r l (by omega) hw.2.2.1
      generalize poL (farN (s : Int) r l) s = P at hPl hmem ⊢
      have loop : ∀ (d i : Nat) (acc : Int), i + d = P.length → Ev (fun k => spec_l3Ties.l0 k P acc (i : Int) (s : Int) r l) ((P.drop i).foldl (fun acc p => wrap64 (acc + tie s r e (putL l p))) acc) := by
        intro d
        induction d with
        | zero =>
          intro i acc hi
          refine Ev.succ ?_
          simp only [spec_l3Ties.l0.eq_2]
          rw [List.drop_of_length_le (by omega)]
          exact Ev.neg (by omega) (Ev.now _)
        | succ d ihd =>
          intro i acc hi
          obtain ⟨q, hq1, hq2, _, _, hq5⟩ := hmem _ (rd_mem P i (by omega))
          have hw2 := put_ok s r l hw (rd P (i : Int)) (by omega) hq5
          refine Ev.succ ?_
          simp only [spec_l3Ties.l0.eq_2]
          rw [List.drop_eq_getElem_cons (by omega), List.foldl_cons, ← rd_nat P i (by omega), w64 (n := (i : Int) + 1) (by omega) (by omega), show (i : Int) + 1 = ((i + 1 : Nat) : Int) by omega]
          exact Ev.pos (by omega) (Ev.pos (by omega) (Ev.bind (l2With_ev (s : Int) r l _ hq5 (by omega)) (Ev.bind (ih (putL l (rd P (i : Int))) hw2 (by rw [putL_len]; omega)) (ihd (i + 1) _ (by omega)))))
      exact loop P.length 0 0 (by omega)
theorem tie_impl (s : Nat) (r : Bool) (l6 : List Int) : ∀ (e : Nat) (l : List Int), IsRw (s : Int) r l → l.length + e = s → Ev (fun k => impl_PoliteTies_1.f k ((setN l : Nat) : Int) (s : Int) r l6) (tie s r e l) := by
  intro e
  induction e with
  | zero =>
    intro l hw hl
    have hs := hw.1
    have h32 : ∀ x ∈ l, 0 ≤ x ∧ x < 32 := fun x hx => by have := hw.2.2.1 x hx; omega
    have hL : listN (setN l) = l := listN_setN l h32 hw.2.2.2
    have hT := setN_lt l h32
    have hp := polite_ev s r (setN l) hT (by omega) (by rw [hL]; exact hw.2.2.1)
    rw [hL] at hp
    refine Ev.succ ?_
    simp only [impl_PoliteTies_1.f.eq_2]
    have h0 : ¬ (0 < mxL (farN (s : Int) r l) s) := fun h => by
      have hne := poL_empty s r l h
      obtain ⟨p, hp⟩ := List.exists_mem_of_ne_nil _ hne
      obtain ⟨q, rfl, hq, _, _, hn⟩ := poL_mem s r l (by omega) hw.2.2.1 p hp
      have hw2 := put_ok s r l hw (q : Int) (by omega) hn
      have := rw_lenS hw2
      rw [putL_len] at this
      omega
    exact Ev.pos (by omega) (Ev.bindc (a := ((s : Int), r)) rfl (Ev.bind hp (Ev.pos (by show mxL (farN (s : Int) r l) s < 2; omega) (Ev.now _))))
  | succ e ih =>
    intro l hw hl
    have hs := hw.1
    have h32 : ∀ x ∈ l, 0 ≤ x ∧ x < 32 := fun x hx => by have := hw.2.2.1 x hx; omega
    have hL : listN (setN l) = l := listN_setN l h32 hw.2.2.2
    have hT := setN_lt l h32
    have hp := polite_ev s r (setN l) hT (by omega) (by rw [hL]; exact hw.2.2.1)
    rw [hL] at hp
    refine Ev.succ ?_
    simp only [impl_PoliteTies_1.f.eq_2]
    refine Ev.pos (by omega) (Ev.bindc (a := ((s : Int), r)) rfl (Ev.bind hp ?_))
    unfold tie
    by_cases hm : mxL (farN (s : Int) r l) s < 2
    · rw [if_pos hm]
      exact Ev.pos hm (Ev.now _)
    · rw [if_neg hm]
      have hB : listN (bld (best (farN (s : Int) r l) (mxL (farN (s : Int) r l) s)) s) = poL (farN (s : Int) r l) s := listN_bld _ s (by omega)
      have hBlt : bld (best (farN (s : Int) r l) (mxL (farN (s : Int) r l) s)) s < 4294967296 := bld_lt _ _ (by omega)
      have hlist := list_ev _ hBlt
      rw [hB] at hlist
      refine Ev.neg hm (Ev.bind hlist ?_)
      have hPl : (poL (farN (s : Int) r l) s).length ≤ s := by
        unfold poL
        rw [List.length_map]
        exact Nat.le_trans (List.length_filter_le _ _) (by rw [List.length_range]; exact Nat.le_refl _)
      have hmem := poL_mem s r l (by omega) hw.2.2.1
      generalize poL (farN (s : Int) r l) s = P at hPl hmem ⊢
      have loop : ∀ (d i : Nat) (acc : Int), i + d = P.length → Ev (fun k => impl_PoliteTies_1.l0 k ((setN l : Nat) : Int) (s : Int) r l6 P (i : Int) acc) ((P.drop i).foldl (fun acc p => wrap64 (acc + tie s r e (putL l p))) acc) := by
        intro d
        induction d with
        | zero =>
          intro i acc hi
          refine Ev.succ ?_
          simp only [impl_PoliteTies_1.l0.eq_2]
          rw [List.drop_of_length_le (by omega)]
          exact Ev.neg (by omega) (Ev.now _)
        | succ d ihd =>
          intro i acc hi
          obtain ⟨q, hq1, hq2, _, _, hq5⟩ := hmem _ (rd_mem P i (by omega))
          have hw2 := put_ok s r l hw (rd P (i : Int)) (by omega) hq5
          have hih := ih (putL l (rd P (i : Int))) hw2 (by rw [putL_len]; omega)
          have h2q : 2 ^ q < 4294967296 := Nat.pow_lt_pow_right (m := q) (n := 32) (by decide) (by omega)
          have e1 : Go.bits .or .u32 ((setN l : Nat) : Int) (shl .u32 1 (rd P (i : Int))) = ((setN (putL l (rd P (i : Int))) : Nat) : Int) := by
            rw [putL_set, hq1, shl_u32_one _ (by omega) (by omega), (u32_nat _ _ hT (by rw [Int.toNat_natCast]; exact h2q)).2]
          refine Ev.succ ?_
          simp only [impl_PoliteTies_1.l0.eq_2]
          rw [List.drop_eq_getElem_cons (by omega), List.foldl_cons, ← rd_nat P i (by omega), w64 (n := (i : Int) + 1) (by omega) (by omega), show (i : Int) + 1 = ((i + 1 : Nat) : Int) by omega, e1]
          exact Ev.pos (by omega) (Ev.pos (by omega) (Ev.pos (by omega) (Ev.bind hih (ihd (i + 1) _ (by omega)))))
      exact loop P.length 0 0 (by omega)
theorem ties_key (s : Int) (r : Bool) (l : List Int) (hL : l.length ≤ 35184372088832) : ∃ q : Int × Bool, Ev (fun k => spec_PoliteTies.f k s r l) q ∧ Ev (fun k => impl_PoliteTies.f k s r l) q := by
  obtain ⟨b, hbb⟩ := exists_bool (IsRw s r l)
  cases b with
  | false =>
    refine ⟨(0, false), ?_, ?_⟩
    · unfold spec_PoliteTies.f; exact Ev.bind (l2Row_ev _ r l hL false hbb) (Ev.neg (by decide) (Ev.now _))
    · unfold impl_PoliteTies.f; exact Ev.bind (isRow_ev _ r l hL false hbb) (Ev.neg (by decide) (Ev.now _))
  | true =>
    have hw := hbb.mp rfl
    have hs := hw.1
    have hlen := rw_len hw
    obtain ⟨m, rfl⟩ := Int.eq_ofNat_of_zero_le (show 0 ≤ s by omega)
    have h32 : ∀ x ∈ l, 0 ≤ x ∧ x < 32 := fun x hx => by have := hw.2.2.1 x hx; omega
    have hfree := row_free_ev m r l (by omega) hL hw.2.2.1
    have hcount := freeN_count m l (by omega) (pairwise_nodup hw.2.2.2) hw.2.2.1
    have hflt : freeN m l < 4294967296 := by
      unfold freeN; exact lessN_lt _ _
    have hc := count_eq (freeN m l) hflt
    have htaken : Ev (fun k => impl_Row_taken.f k (m : Int) r l) ((setN l : Nat) : Int) := by
      unfold impl_Row_taken.f; exact Ev.bind (f := fun _ t => some t) (setOf_ev l h32 (by omega)) (Ev.now _)
    by_cases h10 : (m : Int) - (l.length : Int) > 10
    · refine ⟨(0, false), ?_, ?_⟩
      · unfold spec_PoliteTies.f
        refine Ev.bind (l2Row_ev _ r l hL true hbb) (Ev.pos rfl ?_)
        rw [w64 (by omega) (by omega)]
        exact Ev.pos h10 (Ev.now _)
      · unfold impl_PoliteTies.f
        exact Ev.bind (isRow_ev _ r l hL true hbb) (Ev.pos rfl (Ev.bind hfree (Ev.bindc hc (Ev.pos (by omega) (Ev.now _)))))
    · refine ⟨(tie m r (m - l.length) l, true), ?_, ?_⟩
      · unfold spec_PoliteTies.f
        refine Ev.bind (l2Row_ev _ r l hL true hbb) (Ev.pos rfl ?_)
        rw [w64 (by omega) (by omega)]
        exact Ev.neg h10 (Ev.bind (f := fun _ t => some (t, true)) (tie_spec m r (m - l.length) l hw (by omega)) (Ev.now _))
      · unfold impl_PoliteTies.f
        exact Ev.bind (isRow_ev _ r l hL true hbb) (Ev.pos rfl (Ev.bind hfree (Ev.bindc hc (Ev.neg (by omega) (Ev.bind htaken (Ev.bind (f := fun _ t => some (t, true)) (tie_impl m r l (m - l.length) l hw (by omega)) (Ev.now _)))))))
theorem FnExactPoliteTies : laws_FnExactPoliteTies.Pure := by
  intro s r l _ _ hl _
  have hL : l.length ≤ 35184372088832 := by omega
  refine Ev.rounds (g := fun k => laws_FnExactPoliteTies.f k s r l) ?_
  unfold laws_FnExactPoliteTies.f
  refine Ev.bindc (szRow_eq s r l _ hL (by omega) (by omega)) ?_
  by_cases hb : (1048576 : Int) - (l.length : Int) < 0
  · rw [if_pos hb]; exact Ev.pos (by omega) (Ev.now _)
  · rw [if_neg hb]
    obtain ⟨q, h1, h2⟩ := ties_key s r l hL
    have ht := toRow_ev s r l hL
    refine Ev.neg hb (Ev.bind ht (Ev.bind h1 (Ev.bind ht (Ev.bind h2 (Ev.pos rfl (Ev.succ ?_))))))
    simp only [laws_FnExactPoliteTies.j0.eq_2]
    exact Ev.neg (by simp) (Ev.bind ht (Ev.bind (eqRow_ev s r l hL) (Ev.pos rfl (Ev.now _))))

end Go.Proofs.YtnchmnkljneedaaDoor.Pure
