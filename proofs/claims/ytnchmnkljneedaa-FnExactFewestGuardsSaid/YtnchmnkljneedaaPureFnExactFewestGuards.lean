/- FnExactFewestGuards: whatever the row and the reach, both find the same first guards. -/
import Derived.Test.YtnchmnkljneedaaPFnExactFewestGuardsx8
namespace Go.Proofs.Ytnchmnkljneedaa.Pure
open Go.RowKit Go.Proofs.Ytnchmnkljneedaa.PFnExactFewestGuards Go.Proofs.YtnchmnkljneedaaW.PrintWords Go.Proofs.YtnchmnkljneedaaW.PrintLast Go.Proofs.YtnchmnkljneedaaW.PrintMore
set_option linter.unusedVariables false

theorem Ev.pos {α : Type} {c : Prop} [Decidable c] {f g : Nat → Option α} {r : α} (h : c) (k : Ev f r) : Ev (fun m => if c then f m else g m) r :=
  Ev.congr (fun _ => if_pos h) k
theorem Ev.neg {α : Type} {c : Prop} [Decidable c] {f g : Nat → Option α} {r : α} (h : ¬ c) (k : Ev g r) : Ev (fun m => if c then f m else g m) r :=
  Ev.congr (fun _ => if_neg h) k
theorem Ev.bindc {α β : Type} {x : Option α} {f : Nat → α → Option β} {a : α} {r : β} (h : x = some a) (k : Ev (fun n => f n a) r) : Ev (fun n => x.bind (f n)) r := by
  subst h; exact k
theorem Ev.succ {α : Type} {g : Nat → Option α} {r : α} (k : Ev (fun n => g (n + 1)) r) : Ev g r := Ev.step (fun _ => rfl) k
theorem Ev.unique {α : Type} {g : Nat → Option α} {r q : α} (h : Ev g r) (k : Ev g q) : r = q := by
  obtain ⟨K, hK⟩ := h; obtain ⟨L, hL⟩ := k
  have := (hK (max K L) (Nat.le_max_left _ _)).symm.trans (hL (max K L) (Nat.le_max_right _ _))
  exact Option.some.inj this
theorem w64 {n : Int} (h0 : -9223372036854775808 ≤ n) (h1 : n < 9223372036854775808) : wrap64 n = n := by unfold wrap64; omega
theorem rd_nat (l : List Int) (i : Nat) (h : i < l.length) : rd l (i : Int) = l[i] := by
  unfold rd; rw [Int.toNat_natCast, List.getD_eq_getElem?_getD, List.getElem?_eq_getElem h]; rfl
theorem lit_i64 {x : Int} (h : (Lit.int .i64 x).wf = true) : -9223372036854775808 ≤ x ∧ x < 9223372036854775808 := by
  simp [Lit.wf, IntKind.min, IntKind.max, IntKind.bits, IntKind.signed] at h; omega
/-- a loop that ends early, with one answer, where P fails -/
theorem ev_all {α : Type} (L : Nat → Nat → Option α) (n : Nat) (P : Nat → Prop) (rEnd : α)
    (hend : Ev (fun k => L k n) rEnd) (hgood : ∀ i, i < n → P i → ∀ r, Ev (fun k => L k (i + 1)) r → Ev (fun k => L k i) r)
    (i : Nat) (hi : i ≤ n) (h : ∀ j, i ≤ j → j < n → P j) : Ev (fun k => L k i) rEnd := by
  obtain ⟨d, hd⟩ : ∃ d, i + d = n := ⟨n - i, by omega⟩
  induction d generalizing i with
  | zero => rw [show i = n by omega]; exact hend
  | succ d ih => exact hgood i (by omega) (h i (by omega) (by omega)) _ (ih (i + 1) (by omega) (fun j h1 h2 => h j (by omega) h2) (by omega))
theorem ev_bad {α : Type} (L : Nat → Nat → Option α) (n : Nat) (P : Nat → Prop) (rBad : α)
    (hgood : ∀ i, i < n → P i → ∀ r, Ev (fun k => L k (i + 1)) r → Ev (fun k => L k i) r) (hbad : ∀ i, i < n → ¬ P i → Ev (fun k => L k i) rBad)
    (i : Nat) (h : ∃ j, i ≤ j ∧ j < n ∧ ¬ P j) : Ev (fun k => L k i) rBad := by
  obtain ⟨j, h1, h2, h3⟩ := h
  obtain ⟨d, hd⟩ : ∃ d, i + d = j := ⟨j - i, by omega⟩
  induction d generalizing i with
  | zero => rw [show i = j by omega]; exact hbad j h2 h3
  | succ d ih =>
    by_cases hp : P i
    · exact hgood i (by omega) hp _ (ih (i + 1) (by omega) (by omega))
    · exact hbad i (by omega) hp
theorem ev_dec {α : Type} (L : Nat → Nat → Option α) (n : Nat) (P : Nat → Prop) [DecidablePred P] (f : Bool → α)
    (hend : Ev (fun k => L k n) (f true)) (hgood : ∀ i, i < n → P i → ∀ r, Ev (fun k => L k (i + 1)) r → Ev (fun k => L k i) r)
    (hbad : ∀ i, i < n → ¬ P i → Ev (fun k => L k i) (f false)) (b : Bool) (hb : b = true ↔ ∀ j, j < n → P j) : Ev (fun k => L k 0) (f b) := by
  cases b with
  | true => exact ev_all L n P (f true) hend hgood 0 (by omega) (fun j _ h => hb.mp rfl j h)
  | false =>
    refine ev_bad L n P (f false) hgood hbad 0 ?_
    by_cases h : ∀ j, j < n → P j
    · exact absurd (hb.mpr h) (by decide)
    · have : ∃ j, ¬ (j < n → P j) := Classical.not_forall.mp h
      obtain ⟨j, hj⟩ := this
      exact ⟨j, by omega, Decidable.byContradiction (fun c => hj (fun h2 => absurd h2 c)), fun c => hj (fun _ => c)⟩
/-- a loop with a state -/
def iterFrom {σ : Type} (g : Nat → σ → σ) : Nat → Nat → σ → σ
  | 0, _, s => s
  | d + 1, i, s => iterFrom g d (i + 1) (g i s)
theorem ev_iter {σ α : Type} (L : Nat → σ → Nat → Option α) (n : Nat) (g : Nat → σ → σ) (fin : σ → α) (I : Nat → σ → Prop)
    (hend : ∀ s, I n s → Ev (fun k => L k s n) (fin s)) (hI : ∀ i s, i < n → I i s → I (i + 1) (g i s))
    (hstep : ∀ i s, i < n → I i s → ∀ r, Ev (fun k => L k (g i s) (i + 1)) r → Ev (fun k => L k s i) r) :
    ∀ (d i : Nat) (s : σ), i + d = n → I i s → Ev (fun k => L k s i) (fin (iterFrom g d i s)) := by
  intro d
  induction d with
  | zero => intro i s hi hs; rw [show i = n by omega] at hs ⊢; exact hend s hs
  | succ d ih => intro i s hi hs; exact hstep i s (by omega) hs _ (ih (i + 1) (g i s) (by omega) (hI i s (by omega) hs))
theorem toIntS_loop (l : List Int) (hl : l.length ≤ 35184372088832) : ∀ (d i : Nat) (acc : List Int), i + d = l.length → acc.length = l.length → (∀ j, j < i → acc[j]? = l[j]?) → Ev (fun k => laws_toIntS.l0 k l acc (i : Int)) l := by
  intro d
  induction d with
  | zero =>
    intro i acc hi ha hj
    refine Ev.succ ?_
    simp only [laws_toIntS.l0.eq_2]
    refine Ev.neg (by omega) ?_
    have : acc = l := List.ext_getElem? (fun j => by
      by_cases h : j < i
      · exact hj j h
      · rw [List.getElem?_eq_none (by omega), List.getElem?_eq_none (by omega)])
    rw [this]; exact Ev.now _
  | succ d ih =>
    intro i acc hi ha hj
    refine Ev.succ ?_
    simp only [laws_toIntS.l0.eq_2]
    refine Ev.pos (by omega) (Ev.pos (by omega) (Ev.pos (by omega) ?_))
    rw [w64 (by omega) (by omega)]
    refine ih (i + 1) _ (by omega) (by simpa using ha) ?_
    intro j h
    rw [Int.toNat_natCast, List.getElem?_set]
    by_cases e : i = j
    · subst e
      rw [if_pos rfl, if_pos (by omega), rd_nat l i (by omega), List.getElem?_eq_getElem]
    · rw [if_neg e]; exact hj j (by omega)
theorem toIntS_ev (l : List Int) (hl : l.length ≤ 35184372088832) : Ev (fun k => laws_toIntS.f k l) l := by
  unfold laws_toIntS.f
  refine Ev.pos (by omega) (Ev.pos (by omega) ?_)
  exact toIntS_loop l hl l.length 0 _ (by omega) (by simp) (fun j h => by omega)
theorem eqIntS_loop (l : List Int) (hl : l.length ≤ 35184372088832) : ∀ (d i : Nat), i + d = l.length → Ev (fun k => laws_eqIntS.l0 k l l (i : Int)) true := by
  intro d
  induction d with
  | zero =>
    intro i hi
    refine Ev.succ ?_
    simp only [laws_eqIntS.l0.eq_2]
    exact Ev.neg (by omega) (Ev.now _)
  | succ d ih =>
    intro i hi
    refine Ev.succ ?_
    simp only [laws_eqIntS.l0.eq_2]
    refine Ev.pos (by omega) (Ev.pos (by omega) (Ev.pos (by omega) (Ev.pos (by trivial) ?_)))
    rw [w64 (by omega) (by omega)]
    exact ih (i + 1) (by omega)
theorem eqIntS_ev (l : List Int) (hl : l.length ≤ 35184372088832) : Ev (fun k => laws_eqIntS.f k l l) true := by
  unfold laws_eqIntS.f
  exact Ev.pos rfl (eqIntS_loop l hl l.length 0 (by omega))
theorem within_eq (a b c : Int) : impl_within.f a b c = some (decide (b ≤ a ∧ a ≤ c)) := by
  unfold impl_within.f
  by_cases h : a ≥ b
  · rw [if_pos h]; simp [show b ≤ a from h]
  · rw [if_neg h]; simp [show ¬ b ≤ a from h]
theorem l1In_eq (a b c : Int) : spec_l1In.f a b c = some (decide (b ≤ a ∧ a ≤ c)) := by
  unfold spec_l1In.f
  by_cases h : a ≥ b
  · rw [if_pos h]; simp [show b ≤ a from h]
  · rw [if_neg h]; simp [show ¬ b ≤ a from h]
theorem allWithin_loop (l : List Int) (lo hi : Int) (hl : l.length ≤ 35184372088832) : ∀ (d i : Nat), i + d = l.length → Ev (fun k => impl_allWithin.l0 k lo hi l (l.length : Int) (i : Int)) (decide (∀ x ∈ l.drop i, lo ≤ x ∧ x ≤ hi)) := by
  intro d
  induction d with
  | zero =>
    intro i hi
    refine Ev.succ ?_
    simp only [impl_allWithin.l0.eq_2]
    rw [List.drop_of_length_le (by omega)]
    exact Ev.neg (by omega) (by simp; exact Ev.now _)
  | succ d ih =>
    intro i hi'
    refine Ev.succ ?_
    simp only [impl_allWithin.l0.eq_2]
    refine Ev.pos (by omega) (Ev.pos (by omega) (Ev.pos (by omega) (Ev.bindc (within_eq _ _ _) ?_)))
    have hd : l.drop i = l[i] :: l.drop (i + 1) := (List.drop_eq_getElem_cons (by omega))
    rw [rd_nat l i (by omega)]
    by_cases e : lo ≤ l[i] ∧ l[i] ≤ hi
    · refine Ev.pos (decide_eq_true e) ?_
      rw [w64 (by omega) (by omega)]
      have e1 : (∀ x ∈ l.drop i, lo ≤ x ∧ x ≤ hi) ↔ (∀ x ∈ l.drop (i + 1), lo ≤ x ∧ x ≤ hi) := by rw [hd]; simp only [List.mem_cons, forall_eq_or_imp, e, true_and]
      rw [decide_eq_decide.mpr e1]
      exact ih (i + 1) (by omega)
    · rw [show decide (∀ x ∈ l.drop i, lo ≤ x ∧ x ≤ hi) = false by rw [hd]; simp only [List.mem_cons, forall_eq_or_imp, decide_eq_false_iff_not]; exact fun h => e h.1]
      exact Ev.neg (by simpa using e) (Ev.now _)
theorem allWithin_ev (l : List Int) (lo hi : Int) (hl : l.length ≤ 35184372088832) : Ev (fun k => impl_allWithin.f k l lo hi) (decide (∀ x ∈ l, lo ≤ x ∧ x ≤ hi)) := allWithin_loop l lo hi hl l.length 0 (by omega)
theorem szIntS_eq (l : List Int) (a : Int) (hl : l.length ≤ 35184372088832) (h0 : 0 ≤ a) (h1 : a ≤ 1048576) : laws_szIntS.f l a = some (if a - (l.length : Int) < 0 then -1 else a - (l.length : Int)) := by
  unfold laws_szIntS.f
  rw [w64 (by omega) (by omega)]
  split <;> rfl
def pc : Nat → Nat → Nat
  | 0, _ => 0
  | k + 1, n => n % 2 + pc k (n / 2)
theorem pc_add (a b n : Nat) : pc (a + b) n = pc a n + pc b (n / 2 ^ a) := by
  induction a generalizing n with
  | zero => simp [pc]
  | succ a ih =>
    rw [show a + 1 + b = (a + b) + 1 by omega]
    simp only [pc]
    rw [ih, Nat.div_div_eq_div_mul, Nat.pow_succ, Nat.mul_comm 2 (2 ^ a)]
    omega
theorem pc_mod (k n : Nat) : pc k (n % 2 ^ k) = pc k n := by
  induction k generalizing n with
  | zero => rfl
  | succ k ih =>
    simp only [pc]
    rw [show n % 2 ^ (k + 1) % 2 = n % 2 by rw [Nat.pow_succ]; exact Nat.mod_mul_left_mod n (2 ^ k) 2]
    rw [show n % 2 ^ (k + 1) / 2 = (n / 2) % 2 ^ k by rw [Nat.pow_succ, Nat.mul_comm]; exact Nat.mod_mul_right_div_self n 2 (2 ^ k)]
    rw [ih]
theorem pc_le (k n : Nat) : pc k n ≤ k := by
  induction k generalizing n with
  | zero => exact Nat.le_refl _
  | succ k ih => have := ih (n / 2); simp only [pc]; omega
theorem u32_nat (a b : Nat) (ha : a < 4294967296) (hb : b < 4294967296) : Go.bits .and .u32 (a : Int) (b : Int) = ((a &&& b : Nat) : Int) ∧ Go.bits .or .u32 (a : Int) (b : Int) = ((a ||| b : Nat) : Int) :=
  bits_nat .u32 32 (by decide) (fun n h0 h1 => by rw [IntKind.wrap_u32]; omega) a b (by omega) (by omega)
theorem pc_count (k n : Nat) : pc k n = (List.range k).countP (fun i => n.testBit i) := by
  induction k generalizing n with
  | zero => rfl
  | succ k ih =>
    rw [List.range_succ_eq_map, List.countP_cons, List.countP_map]
    simp only [pc]
    rw [ih, Nat.add_comm]
    congr 1
    · apply List.countP_congr
      intro i _
      simp [Nat.testBit_succ]
    · rw [Nat.testBit_zero]
      by_cases h : n % 2 = 1
      · simp [h]
      · have : n % 2 = 0 := by omega
        simp [this]
def onesTab : ByteArray := ⟨#[0, 1, 1, 2, 1, 2, 2, 3, 1, 2, 2, 3, 2, 3, 3, 4, 1, 2, 2, 3, 2, 3, 3, 4, 2, 3, 3, 4, 3, 4, 4, 5, 1, 2, 2, 3, 2, 3, 3, 4, 2, 3, 3, 4, 3, 4, 4, 5, 2, 3, 3, 4, 3, 4, 4, 5, 3, 4, 4, 5, 4, 5, 5, 6, 1, 2, 2, 3, 2, 3, 3, 4, 2, 3, 3, 4, 3, 4, 4, 5, 2, 3, 3, 4, 3, 4, 4, 5, 3, 4, 4, 5, 4, 5, 5, 6, 2, 3, 3, 4, 3, 4, 4, 5, 3, 4, 4, 5, 4, 5, 5, 6, 3, 4, 4, 5, 4, 5, 5, 6, 4, 5, 5, 6, 5, 6, 6, 7, 1, 2, 2, 3, 2, 3, 3, 4, 2, 3, 3, 4, 3, 4, 4, 5, 2, 3, 3, 4, 3, 4, 4, 5, 3, 4, 4, 5, 4, 5, 5, 6, 2, 3, 3, 4, 3, 4, 4, 5, 3, 4, 4, 5, 4, 5, 5, 6, 3, 4, 4, 5, 4, 5, 5, 6, 4, 5, 5, 6, 5, 6, 6, 7, 2, 3, 3, 4, 3, 4, 4, 5, 3, 4, 4, 5, 4, 5, 5, 6, 3, 4, 4, 5, 4, 5, 5, 6, 4, 5, 5, 6, 5, 6, 6, 7, 3, 4, 4, 5, 4, 5, 5, 6, 4, 5, 5, 6, 5, 6, 6, 7, 4, 5, 5, 6, 5, 6, 6, 7, 5, 6, 6, 7, 6, 7, 7, 8]⟩
theorem onesTab_pc : ∀ i : Fin 256, bt onesTab ((i.val : Nat) : Int) = ((pc 8 i.val : Nat) : Int) := by decide +kernel
theorem onesTab_at (n : Nat) (h : n < 256) : bt onesTab (n : Int) = ((pc 8 n : Nat) : Int) := onesTab_pc ⟨n, h⟩
theorem u32_byte (n : Nat) (h : n < 4294967296) : Go.bits .and .u32 (n : Int) 255 = ((n % 256 : Nat) : Int) := by
  have := (u32_nat n 255 h (by omega)).1
  rw [show ((255 : Nat) : Int) = 255 from rfl] at this
  rw [this, show 255 = 2 ^ 8 - 1 from rfl, Nat.and_two_pow_sub_one_eq_mod]
theorem ones_tab (a0 : Int) : bits_OnesCount32.f a0 = if 0 ≤ (a0 / 16777216) then (if (a0 / 16777216) < 256 then (if 0 ≤ (Go.bits .and .u32 (a0 / 65536) 255) then (if (Go.bits .and .u32 (a0 / 65536) 255) < 256 then (if 0 ≤ (Go.bits .and .u32 (a0 / 256) 255) then (if (Go.bits .and .u32 (a0 / 256) 255) < 256 then (if 0 ≤ (Go.bits .and .u32 a0 255) then (if (Go.bits .and .u32 a0 255) < 256 then (some ((((((bt onesTab (a0 / 16777216)) + (bt onesTab (Go.bits .and .u32 (a0 / 65536) 255))) % 256) + (bt onesTab (Go.bits .and .u32 (a0 / 256) 255))) % 256 + (bt onesTab (Go.bits .and .u32 a0 255))) % 256)) else (none)) else (none)) else (none)) else (none)) else (none)) else (none)) else (none)) else (none) := rfl
theorem ones_eq (n : Nat) (h : n < 4294967296) : bits_OnesCount32.f (n : Int) = some ((pc 32 n : Nat) : Int) := by
  have e1 : (n : Int) / 16777216 = ((n / 16777216 : Nat) : Int) := by omega
  have e2 : (n : Int) / 65536 = ((n / 65536 : Nat) : Int) := by omega
  have e3 : (n : Int) / 256 = ((n / 256 : Nat) : Int) := by omega
  rw [ones_tab, e1, e2, e3, u32_byte _ (by omega), u32_byte _ (by omega), u32_byte _ (by omega)]
  rw [onesTab_at _ (by omega), onesTab_at _ (by omega), onesTab_at _ (by omega), onesTab_at _ (by omega)]
  rw [if_pos (Int.natCast_nonneg _), if_pos (by omega), if_pos (Int.natCast_nonneg _), if_pos (by omega), if_pos (Int.natCast_nonneg _), if_pos (by omega), if_pos (Int.natCast_nonneg _), if_pos (by omega)]
  have p4 : pc 32 n = pc 8 (n % 256) + pc 8 (n / 256 % 256) + pc 8 (n / 65536 % 256) + pc 8 (n / 16777216) := by
    have a0 : pc 32 n = pc 8 n + (pc 8 (n / 256) + (pc 8 (n / 256 / 256) + pc 8 (n / 256 / 256 / 256))) := by
      rw [show pc 32 n = pc (8 + (8 + (8 + 8))) n from rfl, pc_add, pc_add, pc_add]
    have a1 : pc 8 (n % 256) = pc 8 n := pc_mod 8 n
    have a2 : pc 8 (n / 256 % 256) = pc 8 (n / 256) := pc_mod 8 (n / 256)
    have a3 : pc 8 (n / 65536 % 256) = pc 8 (n / 65536) := pc_mod 8 (n / 65536)
    rw [show n / 256 / 256 / 256 = n / 16777216 by omega, show n / 256 / 256 = n / 65536 by omega] at a0
    rw [a0, a1, a2, a3]; omega
  rw [p4]
  have b1 := pc_le 8 (n % 256)
  have b2 := pc_le 8 (n / 256 % 256)
  have b3 := pc_le 8 (n / 65536 % 256)
  have b4 := pc_le 8 (n / 16777216)
  refine congrArg some ?_
  generalize pc 8 (n % 256) = c1 at *
  generalize pc 8 (n / 256 % 256) = c2 at *
  generalize pc 8 (n / 65536 % 256) = c3 at *
  generalize h4 : pc 8 (n / 16777216) = c4 at *
  have : n / 16777216 % 256 = n / 16777216 := by omega
  omega
/-- the set of some seats -/
def setN (l : List Int) : Nat := l.foldl (fun s p => s ||| 2 ^ p.toNat) 0
theorem foldl_or_bit (l : List Int) (s j : Nat) : (l.foldl (fun s p => s ||| 2 ^ p.toNat) s).testBit j = (s.testBit j || decide (∃ p ∈ l, p.toNat = j)) := by
  induction l generalizing s with
  | nil => simp
  | cons p l ih =>
    rw [List.foldl_cons, ih, Nat.testBit_or, Nat.testBit_two_pow]
    simp only [List.mem_cons, exists_eq_or_imp, Bool.decide_or, Bool.or_assoc]
theorem setN_bit (l : List Int) (j : Nat) : (setN l).testBit j = decide (∃ p ∈ l, p.toNat = j) := by
  unfold setN; rw [foldl_or_bit]; simp
theorem setN_lt (l : List Int) (h : ∀ x ∈ l, 0 ≤ x ∧ x < 32) : setN l < 4294967296 := by
  refine Nat.lt_pow_two_of_testBit (n := 32) _ (fun j hj => ?_)
  rw [setN_bit]
  simp only [decide_eq_false_iff_not, not_exists, not_and]
  intro x hx e
  have := h x hx
  omega
theorem setN_take (l : List Int) (i : Nat) (h : i < l.length) : setN (l.take (i + 1)) = setN (l.take i) ||| 2 ^ (l[i]).toNat := by
  unfold setN
  rw [List.take_succ_eq_append_getElem h, List.foldl_append]
  rfl
theorem two_pow_lt32 (p : Int) (h0 : 0 ≤ p) (h1 : p < 32) : 2 ^ p.toNat < 4294967296 := Nat.pow_lt_pow_right (m := p.toNat) (n := 32) (by decide) (by omega)
theorem shl_u32_one (p : Int) (h0 : 0 ≤ p) (h1 : p < 32) : shl .u32 1 p = ((2 ^ p.toNat : Nat) : Int) := by
  unfold shl
  rw [Nat.min_eq_left (by simp [IntKind.bits]; omega), IntKind.wrap_u32]
  have e : (1 * 2 ^ p.toNat : Int) = ((2 ^ p.toNat : Nat) : Int) := by rw [Int.one_mul]; push_cast; rfl
  rw [e]; exact Int.emod_eq_of_lt (Int.natCast_nonneg _) (Int.ofNat_lt.mpr (two_pow_lt32 p h0 h1))
theorem count_eq (n : Nat) (h : n < 4294967296) : impl_set_count.f (n : Int) = some ((pc 32 n : Nat) : Int) := by
  unfold impl_set_count.f; rw [ones_eq n h]; rfl
/-- a list that has each number less than n once -/
def IsOrd (l : List Int) (n : Int) : Prop := (l.length : Int) = n ∧ ∀ i : Nat, (i : Int) < n → (i : Int) ∈ l
theorem ph_len : ∀ (n : Nat) (l : List Int), (∀ i : Nat, i < n → (i : Int) ∈ l) → n ≤ l.length := by
  intro n
  induction n with
  | zero => intro l _; omega
  | succ n ih =>
    intro l h
    have hm := h n (by omega)
    have := ih (l.erase (n : Int)) (fun i hi => (List.mem_erase_of_ne (by omega)).mpr (h i (by omega)))
    rw [List.length_erase_of_mem hm] at this
    have : 0 < l.length := List.length_pos_of_mem hm
    omega
theorem ph_range : ∀ (n : Nat) (l : List Int), l.length = n → (∀ i : Nat, i < n → (i : Int) ∈ l) → ∀ x ∈ l, 0 ≤ x ∧ x < (n : Int) := by
  intro n
  induction n with
  | zero => intro l hl _ x hx; rw [List.length_eq_zero_iff.mp hl] at hx; cases hx
  | succ n ih =>
    intro l hl h x hx
    have hm := h n (by omega)
    by_cases e : x = (n : Int)
    · omega
    · have := ih (l.erase (n : Int)) (by rw [List.length_erase_of_mem hm]; omega) (fun i hi => (List.mem_erase_of_ne (by omega)).mpr (h i (by omega))) x ((List.mem_erase_of_ne e).mpr hx)
      omega
theorem ph_nodup_len : ∀ (m : Nat) (l : List Int), l.Nodup → (∀ x ∈ l, 0 ≤ x ∧ x < (m : Int)) → l.length ≤ m := by
  intro m
  induction m with
  | zero =>
    intro l _ h
    cases l with
    | nil => simp
    | cons x l => have := h x (by simp); omega
  | succ m ih =>
    intro l hn h
    by_cases hm : (m : Int) ∈ l
    · have := ih (l.erase (m : Int)) (hn.erase _) (fun x hx => by
        have h1 := h x (List.mem_of_mem_erase hx)
        have h2 : x ≠ (m : Int) := fun e => by subst e; exact (List.Nodup.not_mem_erase hn) hx
        omega)
      rw [List.length_erase_of_mem hm] at this
      omega
    · have := ih l hn (fun x hx => by
        have h1 := h x hx
        have h2 : x ≠ (m : Int) := fun e => by subst e; exact hm hx
        omega)
      omega
theorem ord_range {l : List Int} {n : Int} (h : IsOrd l n) : ∀ x ∈ l, 0 ≤ x ∧ x < n := by
  obtain ⟨h1, h2⟩ := h
  have := ph_range l.length l rfl (fun i hi => h2 i (by omega))
  intro x hx; have := this x hx; omega
theorem ord_of_nodup {l : List Int} {n : Int} (hl : (l.length : Int) = n) (hn : l.Nodup) (hr : ∀ x ∈ l, 0 ≤ x ∧ x < n) : IsOrd l n := by
  refine ⟨hl, fun i hi => ?_⟩
  by_cases hm : (i : Int) ∈ l
  · exact hm
  · have := ph_nodup_len l.length ((i : Int) :: l) (List.nodup_cons.mpr ⟨hm, hn⟩) (fun x hx => by
      rcases List.mem_cons.mp hx with rfl | hx
      · omega
      · have := hr x hx; omega)
    rw [List.length_cons] at this; omega
theorem ord_nodup : ∀ (n : Nat) (l : List Int), l.length = n → (∀ i : Nat, i < n → (i : Int) ∈ l) → l.Nodup := by
  intro n
  induction n with
  | zero => intro l hl _; rw [List.length_eq_zero_iff.mp hl]; exact List.nodup_nil
  | succ n ih =>
    intro l hl h
    have hm := h n (by omega)
    have hl' : (l.erase (n : Int)).length = n := by rw [List.length_erase_of_mem hm]; omega
    have h' : ∀ i : Nat, i < n → (i : Int) ∈ l.erase (n : Int) := fun i hi => (List.mem_erase_of_ne (by omega)).mpr (h i (by omega))
    have hn : (n : Int) ∉ l.erase (n : Int) := fun hc => by have := ph_range n _ hl' h' _ hc; omega
    exact (List.perm_cons_erase hm).nodup_iff.mpr (List.nodup_cons.mpr ⟨hn, ih _ hl' h'⟩)
theorem isOrd_nodup {l : List Int} {n : Int} (h : IsOrd l n) : l.Nodup := ord_nodup l.length l rfl (fun i hi => h.2 i (by have := h.1; omega))
instance (l : List Int) (n : Int) : Decidable (IsOrd l n) := decidable_of_iff ((l.length : Int) = n ∧ ∀ i : Fin l.length, (i.val : Int) ∈ l) (by
  unfold IsOrd
  constructor
  · rintro ⟨h1, h2⟩; exact ⟨h1, fun i hi => h2 ⟨i, by omega⟩⟩
  · rintro ⟨h1, h2⟩; exact ⟨h1, fun i => h2 i.val (by have := i.isLt; omega)⟩)
theorem getD_lt (l : List Int) (i : Nat) (h : i < l.length) : l.getD i 0 = l[i] := by rw [List.getD_eq_getElem?_getD, List.getElem?_eq_getElem h]; rfl
theorem rd_getD (l : List Int) (i : Nat) : rd l (i : Int) = l.getD i 0 := by unfold rd; rw [Int.toNat_natCast]
theorem exists_bool (p : Prop) : ∃ b : Bool, b = true ↔ p := by
  by_cases h : p
  · exact ⟨true, by simp [h]⟩
  · exact ⟨false, by simp [h]⟩
/-- a valid row -/
def IsRw (s : Int) (r : Bool) (l : List Int) : Prop := (2 ≤ s ∧ s ≤ 24) ∧ (r = true → 3 ≤ s) ∧ (∀ x ∈ l, 0 ≤ x ∧ x < s) ∧ l.Pairwise (· < ·)
def rwP (l : List Int) (hi : Int) (i : Nat) : Prop := (0 ≤ l.getD i 0 ∧ l.getD i 0 ≤ hi) ∧ (0 < i → l.getD (i - 1) 0 < l.getD i 0)
instance (l : List Int) (hi : Int) (i : Nat) : Decidable (rwP l hi i) := by unfold rwP; infer_instance
theorem rwP_all (l : List Int) (hi : Int) : (∀ i, i < l.length → rwP l hi i) ↔ (∀ x ∈ l, 0 ≤ x ∧ x ≤ hi) ∧ l.Pairwise (· < ·) := by
  constructor
  · intro h
    refine ⟨fun x hx => ?_, ?_⟩
    · obtain ⟨i, hi', rfl⟩ := List.mem_iff_getElem.mp hx
      have := (h i hi').1
      rw [getD_lt l i hi'] at this
      exact this
    · rw [List.pairwise_iff_getElem]
      intro i j hi' hj hij
      obtain ⟨d, hd⟩ : ∃ d, i + 1 + d = j := ⟨j - i - 1, by omega⟩
      induction d generalizing j with
      | zero =>
        have := (h j hj).2 (by omega)
        rw [getD_lt l j hj, show j - 1 = i by omega, getD_lt l i hi'] at this
        exact this
      | succ d ih =>
        have h1 := ih (j - 1) (by omega) (by omega) (by omega)
        have h2 := (h j hj).2 (by omega)
        rw [getD_lt l j hj, getD_lt l (j - 1) (by omega)] at h2
        omega
  · rintro ⟨h1, h2⟩ i hi'
    refine ⟨?_, fun h0 => ?_⟩
    · rw [getD_lt l i hi']; exact h1 _ (List.getElem_mem _)
    · rw [getD_lt l i hi', getD_lt l (i - 1) (by omega)]
      exact (List.pairwise_iff_getElem.mp h2) (i - 1) i (by omega) hi' (by omega)
theorem rising_ev (l : List Int) (hi : Int) (hl : l.length ≤ 35184372088832) (b : Bool) (hb : b = true ↔ ∀ i, i < l.length → rwP l hi i) : Ev (fun k => spec_l1Rising.f k l 0 hi) b := by
  unfold spec_l1Rising.f
  refine ev_dec (fun k i => spec_l1Rising.l0 k l 0 hi (i : Int)) l.length (rwP l hi) id ?_ ?_ ?_ b hb
  · refine Ev.succ ?_
    simp only [spec_l1Rising.l0.eq_2]
    exact Ev.neg (by omega) (Ev.now _)
  · intro i hi' hp r h
    refine Ev.succ ?_
    simp only [spec_l1Rising.l0.eq_2]
    rw [rd_getD, w64 (n := (i : Int) + 1) (by omega) (by omega), w64 (n := (i : Int) - 1) (by omega) (by omega)]
    refine Ev.pos (by omega) (Ev.pos (by omega) (Ev.bindc (l1In_eq _ _ _) (Ev.pos (decide_eq_true hp.1) ?_)))
    by_cases h0 : (i : Int) > 0
    · have := hp.2 (by omega)
      rw [show (i : Int) - 1 = ((i - 1 : Nat) : Int) by omega, rd_getD]
      exact Ev.pos h0 (Ev.pos (by omega) (Ev.pos (by omega) (Ev.neg (by omega) h)))
    · exact Ev.neg h0 h
  · intro i hi' hp
    refine Ev.succ ?_
    simp only [spec_l1Rising.l0.eq_2]
    rw [rd_getD, w64 (n := (i : Int) - 1) (by omega) (by omega)]
    refine Ev.pos (by omega) (Ev.pos (by omega) (Ev.bindc (l1In_eq _ _ _) ?_))
    by_cases h1 : 0 ≤ l.getD i 0 ∧ l.getD i 0 ≤ hi
    · have h2 : ¬ (0 < i → l.getD (i - 1) 0 < l.getD i 0) := fun h => hp ⟨h1, h⟩
      have h0 : 0 < i := Decidable.byContradiction (fun c => h2 (fun h => absurd h c))
      have h3 : ¬ l.getD (i - 1) 0 < l.getD i 0 := fun h => h2 (fun _ => h)
      rw [show (i : Int) - 1 = ((i - 1 : Nat) : Int) by omega, rd_getD]
      exact Ev.pos (decide_eq_true h1) (Ev.pos (by omega) (Ev.pos (by omega) (Ev.pos (by omega) (Ev.pos (by omega) (Ev.now _)))))
    · exact Ev.neg (by simpa using h1) (Ev.now _)
theorem l2Row_ev (s : Int) (r : Bool) (l : List Int) (hl : l.length ≤ 35184372088832) (b : Bool) (hb : b = true ↔ IsRw s r l) : Ev (fun k => spec_l2Row.f k s r l) b := by
  unfold spec_l2Row.f
  have hno : ¬ IsRw s r l → b = false := fun h => by
    cases b with
    | false => rfl
    | true => exact absurd (hb.mp rfl) h
  refine Ev.bindc (l1In_eq _ _ _) ?_
  by_cases hs : 2 ≤ s ∧ s ≤ 24
  · refine Ev.pos (decide_eq_true hs) ?_
    rw [w64 (by omega) (by omega)]
    have main : (r = true → 3 ≤ s) → (b = true ↔ ∀ i, i < l.length → rwP l (s - 1) i) := by
      intro h3
      rw [hb, rwP_all]
      unfold IsRw
      constructor
      · rintro ⟨_, _, h4, h5⟩; exact ⟨fun x hx => by have := h4 x hx; omega, h5⟩
      · rintro ⟨h4, h5⟩; exact ⟨hs, h3, fun x hx => by have := h4 x hx; omega, h5⟩
    by_cases hr : r = true
    · refine Ev.pos hr ?_
      by_cases h3 : s > 2
      · exact Ev.pos h3 (Ev.bind (f := fun _ t => some t) (rising_ev l (s - 1) hl b (main (fun _ => by omega))) (Ev.now _))
      · rw [hno (fun h => h3 (by have := h.2.1 hr; omega))]
        exact Ev.neg h3 (Ev.now _)
    · exact Ev.neg hr (Ev.bind (f := fun _ t => some t) (rising_ev l (s - 1) hl b (main (fun h => absurd h hr))) (Ev.now _))
  · rw [hno (fun h => hs h.1)]
    exact Ev.neg (by simpa using hs) (Ev.now _)
theorem bench_has1 (s : Int) (r : Bool) (x : Int) : Ev (fun k => impl_bench_has.f k s r [x]) (decide (0 ≤ x ∧ x ≤ wrap64 (s - 1))) := by
  unfold impl_bench_has.f
  refine Ev.bind (f := fun _ t => some t) (allWithin_ev [x] 0 _ (by simp)) ?_
  simp only [List.mem_singleton, forall_eq]
  exact Ev.now _
theorem bench_valid_eq (s : Int) (r : Bool) (b : Bool) (hb : b = true ↔ (2 ≤ s ∧ s ≤ 24) ∧ (r = true → 3 ≤ s)) : impl_bench_valid.f s r = some b := by
  unfold impl_bench_valid.f
  rw [within_eq, Option.bind_some]
  by_cases hs : 2 ≤ s ∧ s ≤ 24
  · rw [if_pos (decide_eq_true hs)]
    cases r with
    | true => rw [if_pos rfl]; congr 1; rw [Bool.eq_iff_iff, hb]; simp only [decide_eq_true_eq]; exact ⟨fun h => ⟨hs, fun _ => h⟩, fun h => h.2 (by trivial)⟩
    | false => rw [if_neg (by decide)]; congr 1; rw [Bool.eq_iff_iff, hb]; simp [hs]
  · rw [if_neg (by simpa using hs)]; congr 1; rw [Bool.eq_iff_iff, hb]; simp only [Bool.false_eq_true, false_iff]; exact fun h => hs h.1
theorem isRow_ev (s : Int) (r : Bool) (l : List Int) (hl : l.length ≤ 35184372088832) (b : Bool) (hb : b = true ↔ IsRw s r l) : Ev (fun k => impl_IsRow.f k s r l) b := by
  unfold impl_IsRow.f
  obtain ⟨v, hv⟩ := exists_bool ((2 ≤ s ∧ s ≤ 24) ∧ (r = true → 3 ≤ s))
  obtain ⟨c, hc⟩ := exists_bool (∀ i, i < l.length → rwP l (wrap64 (s - 1)) i)
  have hbc : b = (if c = true then v else false) := by
    rw [Bool.eq_iff_iff, hb]
    unfold IsRw
    constructor
    · rintro ⟨h1, h2, h3, h4⟩
      have hcc : c = true := by
        rw [hc, rwP_all, w64 (by omega) (by omega)]
        exact ⟨fun x hx => by have := h3 x hx; omega, h4⟩
      rw [if_pos hcc, hv]; exact ⟨h1, h2⟩
    · intro h
      by_cases hcc : c = true
      · rw [if_pos hcc, hv] at h
        rw [hc, rwP_all, w64 (by omega) (by omega)] at hcc
        exact ⟨h.1, h.2, fun x hx => by have := hcc.1 x hx; omega, hcc.2⟩
      · rw [if_neg hcc] at h; cases h
  rw [hbc]
  refine ev_dec (fun k i => impl_IsRow.l0 k l (l.length : Int) (i : Int) s r l) l.length (rwP l (wrap64 (s - 1))) (fun c => if c = true then v else false) ?_ ?_ ?_ c hc
  · refine Ev.succ ?_
    simp only [impl_IsRow.l0.eq_2]
    exact Ev.neg (by omega) (Ev.bindc rfl (Ev.bindc (bench_valid_eq s r v hv) (Ev.now _)))
  · intro i hi' hp q h
    refine Ev.succ ?_
    simp only [impl_IsRow.l0.eq_2]
    rw [rd_getD, w64 (n := (i : Int) + 1) (by omega) (by omega), w64 (n := (i : Int) - 1) (by omega) (by omega)]
    refine Ev.pos (by omega) (Ev.pos (by omega) (Ev.pos (by omega) (Ev.bindc rfl (Ev.bind (bench_has1 s r _) (Ev.pos (decide_eq_true hp.1) ?_)))))
    by_cases h0 : (i : Int) > 0
    · have := hp.2 (by omega)
      rw [show (i : Int) - 1 = ((i - 1 : Nat) : Int) by omega, rd_getD]
      exact Ev.pos h0 (Ev.pos (by omega) (Ev.pos (by omega) (Ev.neg (by omega) h)))
    · exact Ev.neg h0 h
  · intro i hi' hp
    refine Ev.succ ?_
    simp only [impl_IsRow.l0.eq_2]
    rw [rd_getD, w64 (n := (i : Int) - 1) (by omega) (by omega)]
    refine Ev.pos (by omega) (Ev.pos (by omega) (Ev.pos (by omega) (Ev.bindc rfl (Ev.bind (bench_has1 s r _) ?_))))
    by_cases h1 : 0 ≤ l.getD i 0 ∧ l.getD i 0 ≤ wrap64 (s - 1)
    · have h2 : ¬ (0 < i → l.getD (i - 1) 0 < l.getD i 0) := fun h => hp ⟨h1, h⟩
      have h0 : 0 < i := Decidable.byContradiction (fun c => h2 (fun h => absurd h c))
      have h3 : ¬ l.getD (i - 1) 0 < l.getD i 0 := fun h => h2 (fun _ => h)
      rw [show (i : Int) - 1 = ((i - 1 : Nat) : Int) by omega, rd_getD]
      exact Ev.pos (decide_eq_true h1) (Ev.pos (by omega) (Ev.pos (by omega) (Ev.pos (by omega) (Ev.pos (by omega) (Ev.now _)))))
    · exact Ev.neg (by simpa using h1) (Ev.now _)
/-- the gap of two seats -/
def gp (s : Int) (r : Bool) (p q : Int) : Int := if r = true then mn (mx (p - q) (q - p)) (s - mx (p - q) (q - p)) else mx (p - q) (q - p)
theorem mx_le {a b c : Int} (h1 : a ≤ c) (h2 : b ≤ c) : mx a b ≤ c := by unfold mx; split <;> omega
theorem le_mx {a b : Int} : a ≤ mx a b ∧ b ≤ mx a b := by unfold mx; split <;> omega
theorem l2Gap_eq (s : Int) (r : Bool) (l : List Int) (p q : Int) (hs : 0 ≤ s ∧ s ≤ 100) (hp : 0 ≤ p ∧ p < 100) (hq : 0 ≤ q ∧ q < 100) : spec_l2Gap.f s r l p q = some (gp s r p q) := by
  unfold spec_l2Gap.f spec_l1Most.f gp
  have e : (if p - q > q - p then some (p - q) else some (q - p)) = some (mx (p - q) (q - p)) := by
    unfold mx; split <;> split <;> first | rfl | (congr 1; omega)
  have h1 : mx (p - q) (q - p) ≤ 100 := mx_le (by omega) (by omega)
  have h2 := @le_mx (p - q) (q - p)
  rw [w64 (n := p - q) (by omega) (by omega), w64 (n := q - p) (by omega) (by omega), e, Option.bind_some]
  cases r with
  | true =>
    rw [if_pos rfl, if_pos rfl]
    unfold spec_l1Least.f
    rw [w64 (by omega) (by omega)]
    unfold mn
    split <;> split <;> first | rfl | (simp only [Option.bind_some]; congr 1; omega)
  | false => rw [if_neg (by decide), if_neg (by decide)]
theorem bench_gap_eq (s : Int) (r : Bool) (p q : Int) (hs : 0 ≤ s ∧ s ≤ 100) (hp : 0 ≤ p ∧ p < 100) (hq : 0 ≤ q ∧ q < 100) : impl_bench_gap.f s r p q = some (gp s r p q) := by
  unfold impl_bench_gap.f gp
  have h1 : mx (p - q) (q - p) ≤ 100 := mx_le (by omega) (by omega)
  have h2 := @le_mx (p - q) (q - p)
  rw [w64 (n := p - q) (by omega) (by omega), w64 (n := q - p) (by omega) (by omega), w64 (n := s - mx (p - q) (q - p)) (by omega) (by omega)]
  cases r with
  | true => rw [if_pos rfl, if_pos rfl]
  | false => rw [if_neg (by decide), if_neg (by decide)]
theorem gp_comm (s : Int) (r : Bool) (p q : Int) : gp s r p q = gp s r q p := by
  unfold gp
  rw [show mx (p - q) (q - p) = mx (q - p) (p - q) by unfold mx; split <;> split <;> omega]
theorem gp_self (s : Int) (r : Bool) (p : Int) (hs : 0 ≤ s) : gp s r p p = 0 := by
  unfold gp mx mn; cases r <;> simp <;> omega
/-- the set of the numbers below n that meet R -/
def bld (R : Nat → Bool) : Nat → Nat
  | 0 => 0
  | n + 1 => if R n = true then bld R n ||| 2 ^ n else bld R n
theorem bld_bit (R : Nat → Bool) (n j : Nat) : (bld R n).testBit j = (decide (j < n) && R j) := by
  induction n with
  | zero => simp [bld]
  | succ n ih =>
    unfold bld
    by_cases h : R n = true
    · rw [if_pos h, Nat.testBit_or, ih, Nat.testBit_two_pow]
      by_cases e : n = j
      · subst e; simp [h]
      · have : (j < n + 1) ↔ (j < n) := by omega
        simp [e, this]
    · rw [if_neg h, ih]
      by_cases e : n = j
      · subst e; simp [h]
      · have : (j < n + 1) ↔ (j < n) := by omega
        simp [this]
theorem bld_lt (R : Nat → Bool) (n : Nat) (h : n ≤ 32) : bld R n < 4294967296 := by
  refine Nat.lt_pow_two_of_testBit (n := 32) _ (fun j hj => ?_)
  rw [bld_bit]
  simp; omega
theorem or_pow_u32 (a : Nat) (p : Nat) (ha : a < 4294967296) (hp : p < 32) : Go.bits .or .u32 (a : Int) (shl .u32 1 (p : Int)) = ((a ||| 2 ^ p : Nat) : Int) := by
  rw [shl_u32_one _ (by omega) (by omega), Int.toNat_natCast, (u32_nat _ _ ha (by have := two_pow_lt32 (p : Int) (by omega) (by omega); rwa [Int.toNat_natCast] at this)).2]
theorem bld_loop {α : Type} (L : Nat → Nat → Nat → Option α) (R : Nat → Bool) (n : Nat) (res : α) (hend : Ev (fun k => L k (bld R n) n) res)
    (hstep : ∀ i, i < n → bld R i < 2 ^ n → ∀ r, Ev (fun k => L k (if R i = true then bld R i ||| 2 ^ i else bld R i) (i + 1)) r → Ev (fun k => L k (bld R i) i) r) : Ev (fun k => L k 0 0) res := by
  have key : ∀ d i, i + d = n → Ev (fun k => L k (bld R i) i) res := by
    intro d
    induction d with
    | zero => intro i hi; rw [show i = n by omega]; exact hend
    | succ d ih =>
      intro i hi
      refine hstep i (by omega) ?_ _ (ih (i + 1) (by omega))
      refine Nat.lt_of_lt_of_le (Nat.lt_pow_two_of_testBit (n := i) _ (fun j hj => ?_)) (Nat.pow_le_pow_right (by decide) (by omega))
      rw [bld_bit]; simp; omega
  exact key n 0 (by omega)
theorem pow_le32 (n : Nat) (h : n ≤ 32) : 2 ^ n ≤ 4294967296 := Nat.pow_le_pow_right (n := 2) (by decide) h
/-- the union of some sets -/
def unionL (f : Int → Nat) (l : List Int) : Nat := l.foldl (fun s p => s ||| f p) 0
theorem unionL_bit (f : Int → Nat) (l : List Int) (j : Nat) : (unionL f l).testBit j = l.any (fun p => (f p).testBit j) := by
  unfold unionL
  have : ∀ s, (l.foldl (fun s p => s ||| f p) s).testBit j = (s.testBit j || l.any (fun p => (f p).testBit j)) := by
    induction l with
    | nil => simp
    | cons p l ih => intro s; rw [List.foldl_cons, ih, Nat.testBit_or, List.any_cons, Bool.or_assoc]
  rw [this]; simp
theorem unionL_take (f : Int → Nat) (l : List Int) (i : Nat) (h : i < l.length) : unionL f (l.take (i + 1)) = unionL f (l.take i) ||| f l[i] := by
  unfold unionL
  rw [List.take_succ_eq_append_getElem h, List.foldl_append]; rfl
theorem unionL_lt (f : Int → Nat) (l : List Int) (h : ∀ x ∈ l, f x < 4294967296) : unionL f l < 4294967296 := by
  refine Nat.lt_pow_two_of_testBit (n := 32) _ (fun j hj => ?_)
  rw [unionL_bit, List.any_eq_false]
  intro x hx
  have := Nat.testBit_lt_two_pow (Nat.lt_of_lt_of_le (h x hx) (Nat.pow_le_pow_right (n := 2) (by decide) hj))
  simp [this]
theorem all_eq (s : Nat) (r : Bool) (hs : s < 32) : impl_bench_all.f (s : Int) r = some ((2 ^ s - 1 : Nat) : Int) := by
  unfold impl_bench_all.f
  rw [if_pos (by omega), shl_u32_one _ (by omega) (by omega), Int.toNat_natCast]
  have h1 := two_pow_lt32 (s : Int) (by omega) (by omega)
  rw [Int.toNat_natCast] at h1
  have h2 : 0 < 2 ^ s := Nat.two_pow_pos s
  refine congrArg some ?_
  generalize 2 ^ s = t at *
  omega
theorem all_bit (s j : Nat) : (2 ^ s - 1).testBit j = decide (j < s) := Nat.testBit_two_pow_sub_one s j
/-- the first seat of a list with the least gap, and this gap -/
def nstStep (s : Int) (r : Bool) (p : Int) (st : Int × Int) (q : Int) : Int × Int := if st.1 < 0 then (q, gp s r p q) else if gp s r p q < st.2 then (q, gp s r p q) else st
def nst (s : Int) (r : Bool) (p : Int) (l : List Int) : Int × Int := l.foldl (nstStep s r p) (-1, -1)
theorem l2Nearest_ev (s : Int) (r : Bool) (tk l : List Int) (p : Int) (hl : l.length ≤ 35184372088832) (hs : 0 ≤ s ∧ s ≤ 100) (hp : 0 ≤ p ∧ p < 100) (hr : ∀ x ∈ l, 0 ≤ x ∧ x < 100) : Ev (fun k => spec_l2Nearest.f k s r tk l p) (nst s r p l) := by
  unfold spec_l2Nearest.f
  have key : ∀ d i (st : Int × Int), i + d = l.length → Ev (fun k => spec_l2Nearest.l0 k l p st.1 st.2 (i : Int) s r tk) ((l.drop i).foldl (nstStep s r p) st) := by
    intro d
    induction d with
    | zero =>
      intro i st hi
      refine Ev.succ ?_
      simp only [spec_l2Nearest.l0.eq_2]
      rw [List.drop_of_length_le (by omega)]
      exact Ev.neg (by omega) (Ev.now _)
    | succ d ih =>
      intro i st hi
      refine Ev.succ ?_
      simp only [spec_l2Nearest.l0.eq_2]
      have hx := hr l[i] (List.getElem_mem (by omega))
      rw [rd_nat l i (by omega), w64 (n := (i : Int) + 1) (by omega) (by omega)]
      refine Ev.pos (by omega) (Ev.pos (by omega) (Ev.bindc (l2Gap_eq s r tk p l[i] hs hp (by omega)) ?_))
      rw [List.drop_eq_getElem_cons (by omega), List.foldl_cons]
      have := ih (i + 1) (nstStep s r p st l[i]) (by omega)
      unfold nstStep at this ⊢
      by_cases h1 : st.1 < 0
      · rw [if_pos h1] at this ⊢; exact Ev.pos h1 this
      · rw [if_neg h1] at this ⊢
        refine Ev.neg h1 ?_
        by_cases h2 : gp s r p l[i] < st.2
        · rw [if_pos h2] at this ⊢; exact Ev.pos h2 this
        · rw [if_neg h2] at this ⊢; exact Ev.neg h2 this
  exact key l.length 0 (-1, -1) (by omega)
theorem nst_go (s : Int) (r : Bool) (p : Int) : ∀ (l : List Int) (st : Int × Int), 0 ≤ st.1 → (∀ x ∈ l, 0 ≤ x) → let f := l.foldl (nstStep s r p) st
    0 ≤ f.1 ∧ f.2 ≤ st.2 ∧ (∀ q ∈ l, f.2 ≤ gp s r p q) ∧ (f = st ∨ (f.1 ∈ l ∧ f.2 = gp s r p f.1)) := by
  intro l
  induction l with
  | nil => intro st h _; exact ⟨h, Int.le_refl _, by simp, .inl rfl⟩
  | cons q l ih =>
    intro st h hl
    have hq := hl q (by simp)
    have hl' : ∀ x ∈ l, 0 ≤ x := fun x hx => hl x (List.mem_cons_of_mem _ hx)
    simp only [List.foldl_cons]
    by_cases h2 : gp s r p q < st.2
    · have e : nstStep s r p st q = (q, gp s r p q) := by unfold nstStep; rw [if_neg (by omega), if_pos h2]
      rw [e]
      obtain ⟨a, b, c, d⟩ := ih (q, gp s r p q) hq hl'
      refine ⟨a, by simp only at b; omega, fun x hx => ?_, ?_⟩
      · rcases List.mem_cons.mp hx with rfl | hx
        · exact b
        · exact c x hx
      · rcases d with d | d
        · exact .inr ⟨by rw [d]; simp, by rw [d]⟩
        · exact .inr ⟨List.mem_cons_of_mem _ d.1, d.2⟩
    · have e : nstStep s r p st q = st := by unfold nstStep; rw [if_neg (by omega), if_neg h2]
      rw [e]
      obtain ⟨a, b, c, d⟩ := ih st h hl'
      refine ⟨a, b, fun x hx => ?_, ?_⟩
      · rcases List.mem_cons.mp hx with rfl | hx
        · omega
        · exact c x hx
      · rcases d with d | d
        · exact .inl d
        · exact .inr ⟨List.mem_cons_of_mem _ d.1, d.2⟩
theorem nst_cons (s : Int) (r : Bool) (p x : Int) (l : List Int) (hr : ∀ y ∈ x :: l, 0 ≤ y) : (nst s r p (x :: l)).1 ∈ x :: l ∧ (nst s r p (x :: l)).2 = gp s r p (nst s r p (x :: l)).1 ∧ ∀ q ∈ x :: l, (nst s r p (x :: l)).2 ≤ gp s r p q := by
  have e : nst s r p (x :: l) = l.foldl (nstStep s r p) (x, gp s r p x) := by
    unfold nst; rw [List.foldl_cons]; congr 1
  rw [e]
  obtain ⟨a, b, c, d⟩ := nst_go s r p l (x, gp s r p x) (hr x (by simp)) (fun y hy => hr y (List.mem_cons_of_mem _ hy))
  refine ⟨?_, ?_, ?_⟩
  · rcases d with d | d
    · rw [d]; simp
    · exact List.mem_cons_of_mem _ d.1
  · rcases d with d | d
    · rw [d]
    · exact d.2
  · intro q hq
    rcases List.mem_cons.mp hq with rfl | hq
    · exact b
    · exact c q hq
theorem gp_nonneg (s : Int) (r : Bool) (p q : Int) (hp : 0 ≤ p ∧ p ≤ s) (hq : 0 ≤ q ∧ q ≤ s) : 0 ≤ gp s r p q := by
  unfold gp mx mn; cases r <;> simp only [Bool.false_eq_true, if_false, if_true] <;> split <;> (try split) <;> omega
theorem nst_nil (s : Int) (r : Bool) (p : Int) : nst s r p [] = (-1, -1) := rfl
def seenN (s : Nat) (r : Bool) (h p : Int) : Nat := bld (fun q => decide (gp (s : Int) r p (q : Int) ≤ h)) s
theorem seenN_lt (s : Nat) (r : Bool) (h p : Int) (hs : s ≤ 32) : seenN s r h p < 4294967296 := bld_lt _ _ hs
theorem seenBy_ev (s : Nat) (r : Bool) (p h : Int) (hs : s ≤ 32) (hp : 0 ≤ p ∧ p < 100) : Ev (fun k => impl_bench_seenBy.f k (s : Int) r p h) (seenN s r h p : Int) := by
  unfold impl_bench_seenBy.f
  refine bld_loop (fun k st i => impl_bench_seenBy.l0 k p h (st : Int) (s : Int) (i : Int) (s : Int) r) (fun q => decide (gp (s : Int) r p (q : Int) ≤ h)) s _ ?_ ?_
  · refine Ev.succ ?_
    simp only [impl_bench_seenBy.l0.eq_2]
    exact Ev.neg (by omega) (Ev.now _)
  · intro i hi hst q hh
    refine Ev.succ ?_
    simp only [impl_bench_seenBy.l0.eq_2]
    refine Ev.pos (by omega) (Ev.bindc (bench_gap_eq _ _ _ _ (by omega) (by omega) (by omega)) ?_)
    rw [w64 (by omega) (by omega)]
    by_cases hg : gp (s : Int) r p (i : Int) ≤ h
    · refine Ev.pos hg (Ev.pos (by omega) ?_)
      rw [or_pow_u32 _ i (Nat.lt_of_lt_of_le hst (pow_le32 s hs)) (by omega)]
      simp only [hg, decide_true, if_true] at hh
      exact hh
    · refine Ev.neg hg ?_
      simp only [hg, decide_false, Bool.false_eq_true, if_false] at hh
      exact hh
/-- the seats of one set that are not in another one -/
def lessN (a b : Nat) : Nat := (BitVec.ofNat 32 a &&& ~~~(BitVec.ofNat 32 b)).toNat
theorem lessN_lt (a b : Nat) : lessN a b < 4294967296 := (BitVec.ofNat 32 a &&& ~~~(BitVec.ofNat 32 b)).isLt
theorem lessN_bit (a b j : Nat) (ha : a < 4294967296) (hb : b < 4294967296) : (lessN a b).testBit j = (a.testBit j && !b.testBit j) := by
  unfold lessN
  rw [BitVec.testBit_toNat, BitVec.getLsbD_and, BitVec.getLsbD_not, BitVec.getLsbD_ofNat, BitVec.getLsbD_ofNat]
  by_cases h : j < 32
  · simp [h]
  · have : a.testBit j = false := Nat.testBit_lt_two_pow (Nat.lt_of_lt_of_le ha (Nat.pow_le_pow_right (n := 2) (i := 32) (by decide) (by omega)))
    simp [h, this]
theorem u32_andNot (a b : Nat) : Go.bits .andNot .u32 (a : Int) (b : Int) = ((lessN a b : Nat) : Int) := by
  unfold Go.bits lessN
  have e1 : BitVec.ofInt IntKind.u32.bits (a : Int) = BitVec.ofNat 32 a := BitVec.ofInt_natCast 32 a
  have e2 : BitVec.ofInt IntKind.u32.bits (b : Int) = BitVec.ofNat 32 b := BitVec.ofInt_natCast 32 b
  simp only [e1, e2]
  rw [IntKind.wrap_u32]
  have := (BitVec.ofNat 32 a &&& ~~~(BitVec.ofNat 32 b)).isLt
  exact Int.emod_eq_of_lt (Int.natCast_nonneg _) (Int.ofNat_lt.mpr this)
def GdP (s : Nat) (r : Bool) (l : List Int) (h : Int) : Prop := ∀ p : Nat, p < s → ∃ q ∈ l, gp (s : Int) r (p : Int) q ≤ h
theorem l9Guards_ev (s : Nat) (r : Bool) (tk l : List Int) (h : Int) (hs : s ≤ 32) (hh : 0 ≤ h) (hl : l.length ≤ 35184372088832) (hr : ∀ x ∈ l, 0 ≤ x ∧ x < (s : Int)) (b : Bool) (hb : b = true ↔ GdP s r l h) : Ev (fun k => spec_l9Guards.f k (s : Int) r tk l h) b := by
  unfold spec_l9Guards.f
  refine ev_dec (fun k i => spec_l9Guards.l0 k l h (i : Int) (s : Int) r tk) s (fun p => ∃ q ∈ l, gp (s : Int) r (p : Int) q ≤ h) id ?_ ?_ ?_ b hb
  · refine Ev.succ ?_
    simp only [spec_l9Guards.l0.eq_2]
    exact Ev.neg (by omega) (Ev.now _)
  · rintro i hi ⟨q, hq, hg⟩ res hres
    refine Ev.succ ?_
    simp only [spec_l9Guards.l0.eq_2]
    refine Ev.pos (by omega) (Ev.bind (l2Nearest_ev (s : Int) r tk l (i : Int) hl (by omega) (by omega) (fun x hx => by have := hr x hx; omega)) ?_)
    rw [w64 (by omega) (by omega)]
    cases l with
    | nil => cases hq
    | cons x l =>
      obtain ⟨h1, h2, h3⟩ := nst_cons (s : Int) r (i : Int) x l (fun y hy => (hr y hy).1)
      have h4 := h3 q hq
      have h5 := hr _ h1
      have h6 := gp_nonneg (s : Int) r (i : Int) (nst (s : Int) r (i : Int) (x :: l)).1 (by omega) (by omega)
      exact Ev.neg (by omega) (Ev.neg (by omega) hres)
  · intro i hi hno
    refine Ev.succ ?_
    simp only [spec_l9Guards.l0.eq_2]
    refine Ev.pos (by omega) (Ev.bind (l2Nearest_ev (s : Int) r tk l (i : Int) hl (by omega) (by omega) (fun x hx => by have := hr x hx; omega)) ?_)
    cases l with
    | nil => exact Ev.pos (by rw [nst_nil]; decide) (Ev.now _)
    | cons x l =>
      obtain ⟨h1, h2, h3⟩ := nst_cons (s : Int) r (i : Int) x l (fun y hy => (hr y hy).1)
      have h5 := hr _ h1
      have h6 := gp_nonneg (s : Int) r (i : Int) (nst (s : Int) r (i : Int) (x :: l)).1 (by omega) (by omega)
      have h7 : ¬ (nst (s : Int) r (i : Int) (x :: l)).2 ≤ h := fun hc => hno ⟨_, h1, by omega⟩
      exact Ev.neg (by omega) (Ev.pos (by omega) (Ev.now _))
/-- The first extension by d more guards, each greater than the one before, that all see. -/
def fwF (C : List Int → Bool) (m : Nat) : Nat → Nat → List Int → Option (List Int)
  | 0, _, l => if C l = true then some l else none
  | d + 1, a, l => (List.range' a (m - a)).findSome? (fun p => fwF C m d (p + 1) (l ++ [(p : Int)]))
theorem fwF_congr {C D : List Int → Bool} {m : Nat} (h : ∀ l, C l = D l) : ∀ (d a : Nat) (l : List Int), fwF C m d a l = fwF D m d a l := by
  intro d
  induction d with
  | zero => intro a l; simp only [fwF, h]
  | succ d ih => intro a l; simp only [fwF]; congr 1; funext p; exact ih _ _
/-- A seat that none of the guards so far, nor any seat from a on, sees. -/
theorem fwF_none {C : List Int → Bool} {m : Nat} {S : Int → Bool} (hC : ∀ l, C l = true → ∃ q ∈ l, S q = true) : ∀ (d a : Nat) (l : List Int), (∀ q ∈ l, S q = false) → (∀ q : Nat, a ≤ q → q < m → S (q : Int) = false) → fwF C m d a l = none := by
  intro d
  induction d with
  | zero =>
    intro a l h1 _
    simp only [fwF]
    rw [if_neg (fun h => by obtain ⟨q, hq, hs⟩ := hC l h; rw [h1 q hq] at hs; cases hs)]
  | succ d ih =>
    intro a l h1 h2
    simp only [fwF]
    rw [List.findSome?_eq_none_iff]
    intro p hp
    have hp2 := List.mem_range'_1.mp hp
    refine ih (p + 1) (l ++ [(p : Int)]) (fun q hq => ?_) (fun q h3 h4 => h2 q (by omega) h4)
    rcases List.mem_append.mp hq with hq | hq
    · exact h1 q hq
    · rw [List.mem_singleton.mp hq]; exact h2 p hp2.1 (by omega)
theorem fwF_len {C : List Int → Bool} {m : Nat} : ∀ (d a : Nat) (l x : List Int), fwF C m d a l = some x → x.length = l.length + d := by
  intro d
  induction d with
  | zero =>
    intro a l x h
    simp only [fwF] at h
    split at h
    · injection h with h; subst h; rfl
    · cases h
  | succ d ih =>
    intro a l x h
    simp only [fwF] at h
    obtain ⟨p, _, hp⟩ := List.exists_of_findSome?_eq_some h
    have := ih _ _ _ hp
    rw [List.length_append, List.length_singleton] at this
    omega
theorem fwF_ext {C : List Int → Bool} {m : Nat} : ∀ (d a : Nat) (l x : List Int), fwF C m d a l = some x → ∃ e : List Int, x = l ++ e ∧ e.length = d ∧ C x = true ∧ ∀ q ∈ e, (a : Int) ≤ q ∧ q < (m : Int) := by
  intro d
  induction d with
  | zero =>
    intro a l x h
    simp only [fwF] at h
    split at h
    · rename_i hc
      injection h with h; subst h; exact ⟨[], by simp, rfl, hc, by simp⟩
    · cases h
  | succ d ih =>
    intro a l x h
    simp only [fwF] at h
    obtain ⟨p, hp, hx⟩ := List.exists_of_findSome?_eq_some h
    have hp2 := List.mem_range'_1.mp hp
    obtain ⟨e, rfl, he, hc, hq⟩ := ih _ _ _ hx
    refine ⟨(p : Int) :: e, by simp, by simp [he], hc, fun q hq2 => ?_⟩
    rcases List.mem_cons.mp hq2 with rfl | hq2
    · omega
    · have := hq q hq2; omega
theorem fwF_some {C : List Int → Bool} {m : Nat} : ∀ (d a : Nat) (l : List Int) (f : Nat → Nat), (∀ i, i < d → a ≤ f i ∧ f i < m) → (∀ i, i + 1 < d → f i < f (i + 1)) → C (l ++ (List.range d).map (fun i => (f i : Int))) = true → ∃ x, fwF C m d a l = some x := by
  intro d
  induction d with
  | zero =>
    intro a l f _ _ hc
    simp only [List.range_zero, List.map_nil, List.append_nil] at hc
    exact ⟨l, by simp only [fwF]; rw [if_pos hc]⟩
  | succ d ih =>
    intro a l f h1 h2 hc
    have mono : ∀ i, i < d → f 0 + 1 ≤ f (i + 1) := by
      intro i
      induction i with
      | zero => intro hi; have := h2 0 (by omega); omega
      | succ i ih2 => intro hi; have := h2 (i + 1) (by omega); have := ih2 (by omega); omega
    obtain ⟨x, hx⟩ := ih (f 0 + 1) (l ++ [(f 0 : Int)]) (fun i => f (i + 1)) (fun i hi => ⟨mono i hi, (h1 (i + 1) (by omega)).2⟩) (fun i hi => h2 (i + 1) (by omega)) (by
      rw [List.append_assoc, List.singleton_append]
      rw [List.range_succ_eq_map, List.map_cons, List.map_map] at hc
      exact hc)
    simp only [fwF]
    cases h : (List.range' a (m - a)).findSome? (fun p => fwF C m d (p + 1) (l ++ [(p : Int)])) with
    | some y => exact ⟨y, rfl⟩
    | none =>
      rw [List.findSome?_eq_none_iff] at h
      have := h (f 0) (List.mem_range'_1.mpr ⟨(h1 0 (by omega)).1, by have := h1 0 (by omega); omega⟩)
      rw [hx] at this
      cases this
theorem fwF_step {C : List Int → Bool} {m : Nat} (d a : Nat) (l : List Int) (h : a < m) : fwF C m (d + 1) a l = (match fwF C m d (a + 1) (l ++ [(a : Int)]) with | some x => some x | none => fwF C m (d + 1) (a + 1) l) := by
  simp only [fwF]
  rw [show m - a = (m - (a + 1)) + 1 by omega, List.range'_succ, List.findSome?_cons]
  cases fwF C m d (a + 1) (l ++ [(a : Int)]) <;> rfl
theorem fwF_end {C : List Int → Bool} {m : Nat} (d a : Nat) (l : List Int) (h : m ≤ a) : fwF C m (d + 1) a l = none := by
  simp only [fwF]
  rw [show m - a = 0 by omega]; rfl
theorem least_eq (a b : Int) : spec_l1Least.f a b = some (if a < b then a else b) := by
  unfold spec_l1Least.f; split <;> rfl
theorem gp_gt {m p q h : Int} {r : Bool} (h1 : h < p - q ∨ h < q - p) (h2 : r = true → h < m - (p - q) ∧ h < m - (q - p)) : h < gp m r p q := by
  unfold gp mn mx
  cases r with
  | true =>
    have := h2 rfl
    rw [if_pos rfl]
    split <;> split <;> omega
  | false =>
    rw [if_neg (by decide)]
    split <;> omega
theorem fewOwn_eq (l : List Int) (hl : l.length ≤ 1000) : spec_l1Own.f l = some l := by
  unfold spec_l1Own.f
  simp only [Option.bind_some, List.nil_append, List.length_nil]
  rw [if_pos (by omega)]
def fwR (d : Nat) (l : List Int) : Option (List Int) → List Int × Bool
  | some x => (x, true)
  | none => (if d = 0 then l else [], false)
theorem few_spec (m : Nat) (r : Bool) (tk : List Int) (h : Int) (K : Nat) (hm : 2 ≤ m ∧ m ≤ 24) (hh : 0 ≤ h ∧ h ≤ 100) (hK : K ≤ 24) (C : List Int → Bool) (hC : ∀ l, C l = true ↔ GdP m r l h) :
    ∀ (d : Nat) (l : List Int) (a : Nat), l.length + d = K → (∀ x ∈ l, 0 ≤ x ∧ x < (a : Int)) → a ≤ m → ((l = [] ∧ a = 0) ∨ (l ≠ [] ∧ rd l ((l.length - 1 : Nat) : Int) + 1 = (a : Int))) → Ev (fun k => spec_l9Few.f k (m : Int) r tk l (K : Int) h) (fwR d l (fwF C m d a l)) := by
  intro d
  induction d with
  | zero =>
    intro l a hl hr ha _
    refine Ev.succ ?_
    simp only [spec_l9Few.f.eq_2]
    refine Ev.pos (by omega) (Ev.bind (l9Guards_ev m r tk l h (by omega) (by omega) (by omega) (fun x hx => by have := hr x hx; omega) (C l) (hC l)) ?_)
    have e : fwR 0 l (fwF C m 0 a l) = (l, C l) := by
      simp only [fwF]
      cases C l <;> rfl
    rw [e]
    exact Ev.now _
  | succ d ih =>
    intro l a hl hr ha hla
    -- the rounds
    have loop : ∀ (last : Int), -1 ≤ last → last + 1 ≤ (m : Int) → fwF C m (d + 1) (last + 1).toNat l = none → ∀ (n p : Nat), (p : Int) + n = last + 1 → a ≤ p → Ev (fun k => spec_l9Few.l0 k l (K : Int) h last (p : Int) (m : Int) r tk) (fwR (d + 1) l (fwF C m (d + 1) p l)) := by
      intro last h0 h1 hn n
      induction n with
      | zero =>
        intro p hp hap
        rw [show p = (last + 1).toNat by omega, hn]
        refine Ev.succ ?_
        simp only [spec_l9Few.l0.eq_2]
        exact Ev.neg (by omega) (Ev.now _)
      | succ n ihn =>
        intro p hp hap
        have hq := ih (l ++ [(p : Int)]) (p + 1) (by rw [List.length_append, List.length_singleton]; omega) (fun x hx => by
          rcases List.mem_append.mp hx with hx | hx
          · have := hr x hx; omega
          · rw [List.mem_singleton.mp hx]; omega) (by omega) (.inr ⟨by simp, by
            rw [rd_nat _ _ (by simp)]
            simp⟩)
        rw [fwF_step d p l (by omega)]
        refine Ev.succ ?_
        simp only [spec_l9Few.l0.eq_2]
        refine Ev.pos (by omega) (Ev.bindc (fewOwn_eq l (by omega)) (Ev.bindc rfl (Ev.pos (by simp; omega) (Ev.bind hq ?_))))
        cases hf : fwF C m d (p + 1) (l ++ [(p : Int)]) with
        | some x => exact Ev.pos rfl (Ev.now _)
        | none =>
          refine Ev.neg (by simp [fwR]) ?_
          rw [w64 (by omega) (by omega)]
          have := ihn (p + 1) (by omega) (by omega)
          rw [show ((p + 1 : Nat) : Int) = (p : Int) + 1 by omega] at this
          exact this
    refine Ev.succ ?_
    simp only [spec_l9Few.f.eq_2]
    refine Ev.neg (by omega) (Ev.bindc (least_eq _ _) ?_)
    rw [w64 (n := (m : Int) - 1) (by omega) (by omega)]
    rcases hla with ⟨rfl, rfl⟩ | ⟨hne, hlast⟩
    · refine Ev.neg (by simp) ?_
      cases r with
      | true =>
        refine Ev.pos rfl (Ev.succ ?_)
        simp only [spec_l9Few.j0.eq_2]
        exact loop ((m : Int) - 1) (by omega) (by omega) (by rw [show ((m : Int) - 1 + 1).toNat = m by omega]; exact fwF_end d m [] (Nat.le_refl _)) m 0 (by omega) (Nat.le_refl _)
      | false =>
        refine Ev.neg (by decide) (Ev.succ ?_)
        simp only [spec_l9Few.j0.eq_2]
        by_cases hlt : h < (m : Int) - 1
        · rw [if_pos hlt]
          obtain ⟨g, rfl⟩ := Int.eq_ofNat_of_zero_le hh.1
          refine loop (g : Int) (by omega) (by omega) ?_ (g + 1) 0 (by omega) (Nat.le_refl _)
          refine fwF_none (S := fun q => decide (gp (m : Int) false ((0 : Nat) : Int) q ≤ (g : Int))) (fun l hl => ?_) (d + 1) _ [] (fun q hq => by cases hq) (fun q h1 h2 => ?_)
          · obtain ⟨q, hq, hg⟩ := (hC l).mp hl 0 (by omega)
            exact ⟨q, hq, decide_eq_true hg⟩
          · have := gp_gt (m := (m : Int)) (p := ((0 : Nat) : Int)) (q := (q : Int)) (h := (g : Int)) (r := false) (.inr (by omega)) (fun h => by cases h)
            simp only [decide_eq_false_iff_not]; omega
        · rw [if_neg hlt]
          exact loop ((m : Int) - 1) (by omega) (by omega) (by rw [show ((m : Int) - 1 + 1).toNat = m by omega]; exact fwF_end d m [] (Nat.le_refl _)) m 0 (by omega) (Nat.le_refl _)
    · have hpos : 0 < l.length := List.length_pos_iff.2 hne
      have hrd := hr _ (List.getElem_mem (show l.length - 1 < l.length by omega))
      refine Ev.pos (by omega) ?_
      rw [w64 (n := (l.length : Int) - 1) (by omega) (by omega), show (l.length : Int) - 1 = ((l.length - 1 : Nat) : Int) by omega]
      rw [rd_nat l _ (by omega)] at hlast ⊢
      refine Ev.pos (by omega) (Ev.pos (by omega) (Ev.bindc (least_eq _ _) (Ev.succ ?_)))
      simp only [spec_l9Few.j0.eq_2]
      rw [w64 (n := l[l.length - 1] + 1) (by omega) (by omega), w64 (n := 2 * h) (by omega) (by omega), hlast, w64 (by omega) (by omega)]
      by_cases hlt : (m : Int) - 1 < (a : Int) + 2 * h
      · rw [if_pos hlt]
        exact loop ((m : Int) - 1) (by omega) (by omega) (by rw [show ((m : Int) - 1 + 1).toNat = m by omega]; exact fwF_end d m l (Nat.le_refl _)) (m - a) a (by omega) (Nat.le_refl _)
      · rw [if_neg hlt]
        obtain ⟨g, rfl⟩ := Int.eq_ofNat_of_zero_le hh.1
        refine loop ((a : Int) + 2 * (g : Int)) (by omega) (by omega) ?_ (2 * g + 1) a (by omega) (Nat.le_refl _)
        by_cases hend : (a : Int) + 2 * (g : Int) + 1 = (m : Int)
        · rw [show ((a : Int) + 2 * (g : Int) + 1).toNat = m by omega]; exact fwF_end d m l (Nat.le_refl _)
        · refine fwF_none (S := fun q => decide (gp (m : Int) r ((a + g : Nat) : Int) q ≤ (g : Int))) (fun l hl => ?_) (d + 1) _ l (fun q hq => ?_) (fun q h1 h2 => ?_)
          · obtain ⟨q, hq, hg⟩ := (hC l).mp hl (a + g) (by omega)
            exact ⟨q, hq, decide_eq_true hg⟩
          · have hq2 := hr q hq
            have := gp_gt (m := (m : Int)) (p := ((a + g : Nat) : Int)) (q := q) (h := (g : Int)) (r := r) (.inl (by omega)) (fun _ => by omega)
            simp only [decide_eq_false_iff_not]; omega
          · have := gp_gt (m := (m : Int)) (p := ((a + g : Nat) : Int)) (q := (q : Int)) (h := (g : Int)) (r := r) (.inr (by omega)) (fun _ => by omega)
            simp only [decide_eq_false_iff_not]; omega
theorem cp_or (p q s : Nat → Bool) (h : ∀ j, p j = true → q j = true ∨ s j = true) : ∀ L : List Nat, L.countP p ≤ L.countP q + L.countP s := by
  intro L
  induction L with
  | nil => simp
  | cons x L ih =>
    rw [List.countP_cons, List.countP_cons, List.countP_cons]
    by_cases hp : p x = true
    · rcases h x hp with h1 | h1
      · rw [if_pos hp, if_pos h1]; split <;> omega
      · rw [if_pos hp, if_pos h1]; split <;> omega
    · rw [if_neg hp]; omega
/-- A guard sees 2h + 1 seats at most. -/
theorem seen_count (m : Nat) (r : Bool) (h p : Int) (hm : m ≤ 32) (hh : 0 ≤ h) (hp : 0 ≤ p ∧ p < (m : Int)) : ((pc 32 (seenN m r h p) : Nat) : Int) ≤ 2 * h + 1 := by
  rw [pc_count]
  by_cases hbig : (m : Int) ≤ 2 * h + 1
  · have h1 : (List.range 32).countP (fun i => (seenN m r h p).testBit i) ≤ (List.range 32).countP (fun i => decide (i < m)) := by
      refine List.countP_mono_left (fun x _ hx => ?_)
      unfold seenN at hx
      rw [bld_bit] at hx
      simp only [Bool.and_eq_true] at hx
      exact hx.1
    have h2 : ∀ n, (List.range n).countP (fun i => decide (i < m)) ≤ m := by
      intro n
      induction n with
      | zero => simp
      | succ n ih =>
        rw [List.range_succ, List.countP_append]
        by_cases hn : n < m
        · have : (List.range n).countP (fun i => decide (i < m)) ≤ n := by
            have := List.countP_le_length (p := fun i => decide (i < m)) (l := List.range n)
            rwa [List.length_range] at this
          simp [hn]; omega
        · simp [hn]; omega
    have := h2 32
    omega
  · obtain ⟨g, rfl⟩ := Int.eq_ofNat_of_zero_le hh
    let fm : Nat → Int := fun x => if (x : Int) - p < -(g : Int) then (x : Int) - p + g + m else if (g : Int) < (x : Int) - p then (x : Int) - p + g - m else (x : Int) - p + g
    have hmem : ∀ x ∈ (List.range 32).filter (fun i => (seenN m r (g : Int) p).testBit i), x < m ∧ 0 ≤ fm x ∧ fm x < ((2 * g + 1 : Nat) : Int) := by
      intro x hx
      obtain ⟨_, hx⟩ := List.mem_filter.mp hx
      unfold seenN at hx
      rw [bld_bit] at hx
      simp only [Bool.and_eq_true, decide_eq_true_eq] at hx
      obtain ⟨h1, h2⟩ := hx
      refine ⟨h1, ?_⟩
      have h3 : (-(g : Int) ≤ (x : Int) - p ∧ (x : Int) - p ≤ g) ∨ (m : Int) - ((x : Int) - p) ≤ g ∧ (g : Int) < (x : Int) - p ∨ (m : Int) - (p - (x : Int)) ≤ g ∧ (x : Int) - p < -(g : Int) := by
        unfold gp mn mx at h2
        cases r with
        | true =>
          rw [if_pos rfl] at h2
          split at h2 <;> split at h2 <;> omega
        | false =>
          rw [if_neg (by decide)] at h2
          split at h2 <;> omega
      show 0 ≤ (if (x : Int) - p < -(g : Int) then (x : Int) - p + g + m else if (g : Int) < (x : Int) - p then (x : Int) - p + g - m else (x : Int) - p + g) ∧ (if (x : Int) - p < -(g : Int) then (x : Int) - p + g + m else if (g : Int) < (x : Int) - p then (x : Int) - p + g - m else (x : Int) - p + g) < ((2 * g + 1 : Nat) : Int)
      split
      · omega
      · split <;> omega
    have hinj : ((List.range 32).filter (fun i => (seenN m r (g : Int) p).testBit i)).Pairwise (fun x y => fm x ≠ fm y) := by
      have hnd : ((List.range 32).filter (fun i => (seenN m r (g : Int) p).testBit i)).Nodup := List.Pairwise.filter _ List.nodup_range
      refine List.Pairwise.imp_of_mem (fun {x y} hx hy hne he => ?_) hnd
      have h1 := hmem x hx
      have h2 := hmem y hy
      have he2 : (if (x : Int) - p < -(g : Int) then (x : Int) - p + g + m else if (g : Int) < (x : Int) - p then (x : Int) - p + g - m else (x : Int) - p + g) = (if (y : Int) - p < -(g : Int) then (y : Int) - p + g + m else if (g : Int) < (y : Int) - p then (y : Int) - p + g - m else (y : Int) - p + g) := he
      refine hne ?_
      split at he2 <;> split at he2 <;> (try split at he2) <;> (try split at he2) <;> omega
    have := ph_nodup_len (2 * g + 1) (((List.range 32).filter (fun i => (seenN m r (g : Int) p).testBit i)).map fm) (by
      rw [List.Nodup, List.pairwise_map]; exact hinj) (fun x hx => by
      obtain ⟨y, hy, rfl⟩ := List.mem_map.mp hx
      exact (hmem y hy).2)
    rw [List.length_map, ← List.countP_eq_length_filter] at this
    omega
theorem cover_count (m : Nat) (r : Bool) (h : Int) (hm : m ≤ 32) (hh : 0 ≤ h) : ∀ (e : List Int) (p : Nat → Bool), (∀ q ∈ e, 0 ≤ q ∧ q < (m : Int)) → (∀ j, p j = true → ∃ q ∈ e, (seenN m r h q).testBit j = true) → (((List.range 32).countP p : Nat) : Int) ≤ (e.length : Int) * (2 * h + 1) := by
  intro e
  induction e with
  | nil =>
    intro p _ hp
    have : (List.range 32).countP p = 0 := by
      rw [List.countP_eq_zero]
      intro j _ hj
      obtain ⟨q, hq, _⟩ := hp j hj
      cases hq
    rw [this]; simp
  | cons q e ih =>
    intro p hr hp
    have h1 := cp_or p (fun j => (seenN m r h q).testBit j) (fun j => p j && !(seenN m r h q).testBit j) (fun j hj => by
      cases hs : (seenN m r h q).testBit j with
      | true => exact .inl rfl
      | false => exact .inr (by rw [hj]; rfl)) (List.range 32)
    have h2 := seen_count m r h q hm hh (hr q (List.mem_cons_self ..))
    rw [pc_count] at h2
    have h3 := ih (fun j => p j && !(seenN m r h q).testBit j) (fun x hx => hr x (List.mem_cons_of_mem _ hx)) (fun j hj => by
      simp only [Bool.and_eq_true, Bool.not_eq_true'] at hj
      obtain ⟨x, hx, hs⟩ := hp j hj.1
      rcases List.mem_cons.mp hx with rfl | hx
      · rw [hj.2] at hs; cases hs
      · exact ⟨x, hx, hs⟩)
    rw [List.length_cons, show ((e.length + 1 : Nat) : Int) * (2 * h + 1) = (e.length : Int) * (2 * h + 1) + (2 * h + 1) by rw [Int.natCast_succ, Int.add_mul, Int.one_mul]]
    omega
/-- The seats that the guards so far don't see, as bits. -/
def LeftOf (m : Nat) (r : Bool) (h : Int) (l : List Int) (N : Nat) : Prop := N < 4294967296 ∧ ∀ j, N.testBit j = (decide (j < m) && !(unionL (seenN m r h) l).testBit j)
def AllSeen (m : Nat) (r : Bool) (h : Int) (l : List Int) : Prop := ∀ j, j < m → (unionL (seenN m r h) l).testBit j = true
theorem few_prune (m : Nat) (r : Bool) (h : Int) (hm : m ≤ 32) (hh : 0 ≤ h) (C : List Int → Bool) (hC : ∀ l, C l = true → AllSeen m r h l) {d a : Nat} {l x : List Int} {N : Nat} (hN : LeftOf m r h l N) (hx : fwF C m d a l = some x) : ((pc 32 N : Nat) : Int) ≤ (d : Int) * (2 * h + 1) := by
  obtain ⟨e, rfl, rfl, hc, hr⟩ := fwF_ext d a l x hx
  have hall := hC _ hc
  rw [pc_count]
  refine cover_count m r h hm hh e _ (fun q hq => by have := hr q hq; omega) (fun j hj => ?_)
  rw [hN.2 j] at hj
  simp only [Bool.and_eq_true, decide_eq_true_eq, Bool.not_eq_true'] at hj
  have h2 := hall j hj.1
  rw [unionL_bit, List.any_append, Bool.or_eq_true] at h2
  rw [unionL_bit] at hj
  rcases h2 with h2 | h2
  · rw [hj.2] at h2; cases h2
  · obtain ⟨q, hq, hs⟩ := List.any_eq_true.mp h2
    exact ⟨q, hq, hs⟩
theorem left_next {m : Nat} {r : Bool} {h : Int} {l : List Int} {N : Nat} (hm : m ≤ 32) (hN : LeftOf m r h l N) (p : Int) : LeftOf m r h (l ++ [p]) (lessN N (seenN m r h p)) := by
  refine ⟨lessN_lt _ _, fun j => ?_⟩
  rw [lessN_bit _ _ _ hN.1 (seenN_lt m r h p hm), hN.2 j, unionL_bit, unionL_bit, List.any_append]
  simp only [List.any_cons, List.any_nil, Bool.or_false, Bool.not_or, Bool.and_assoc]
theorem few_impl (m : Nat) (r : Bool) (h : Int) (K : Nat) (hm : 2 ≤ m ∧ m ≤ 24) (hh : 0 ≤ h ∧ h ≤ 24) (hK : 1 ≤ K ∧ K ≤ 24) (C : List Int → Bool) (hC : ∀ l, C l = true ↔ AllSeen m r h l) :
    ∀ (d : Nat) (l : List Int) (a N : Nat), l.length + d = K → (∀ x ∈ l, 0 ≤ x ∧ x < (a : Int)) → a ≤ m → ((l = [] ∧ a = 0) ∨ (l ≠ [] ∧ rd l ((l.length - 1 : Nat) : Int) + 1 = (a : Int))) → LeftOf m r h l N → Ev (fun k => impl_FewestGuards_1.f k l (N : Int) (K : Int) (2 * h + 1) (m : Int) r h) ((fwF C m d a l).getD []) := by
  intro d
  induction d with
  | zero =>
    intro l a N hl hr ha hla hN
    have body : Ev (fun k => impl_FewestGuards_1.j0 k l (N : Int) (K : Int) (2 * h + 1) (m : Int) r h (wrap64 ((K : Int) - (l.length : Int))) (a : Int)) ((fwF C m 0 a l).getD []) := by
      refine Ev.succ ?_
      simp only [impl_FewestGuards_1.j0.eq_2]
      refine Ev.bindc (count_eq N hN.1) ?_
      rw [w64 (n := (K : Int) - (l.length : Int)) (by omega) (by omega), show (K : Int) - (l.length : Int) = 0 by omega, Int.zero_mul, w64 (by omega) (by omega)]
      by_cases hc : C l = true
      · have hp := few_prune m r h (by omega) hh.1 C (fun l => (hC l).mp) hN (show fwF C m 0 a l = some l by simp only [fwF]; rw [if_pos hc])
        refine Ev.neg (by omega) (Ev.pos rfl ?_)
        rw [show (fwF C m 0 a l).getD [] = l by simp only [fwF]; rw [if_pos hc]; rfl]
        exact Ev.now _
      · have hp : (0 : Int) < ((pc 32 N : Nat) : Int) := by
          have : 0 < pc 32 N := by
            refine Nat.pos_of_ne_zero (fun h0 => hc ((hC l).mpr (fun j hj => ?_)))
            rw [pc_count, List.countP_eq_zero] at h0
            have h1 := h0 j (List.mem_range.mpr (by omega))
            rw [hN.2 j] at h1
            simpa [hj] using h1
          omega
        refine Ev.pos (by omega) ?_
        rw [show (fwF C m 0 a l).getD [] = [] by simp only [fwF]; rw [if_neg hc]; rfl]
        exact Ev.now _
    refine Ev.succ ?_
    simp only [impl_FewestGuards_1.f.eq_2]
    rcases hla with ⟨rfl, rfl⟩ | ⟨hne, hlast⟩
    · exact Ev.neg (by simp) body
    · have hpos : 0 < l.length := List.length_pos_iff.2 hne
      have hrd := hr _ (List.getElem_mem (show l.length - 1 < l.length by omega))
      refine Ev.pos (by omega) ?_
      rw [w64 (n := (l.length : Int) - 1) (by omega) (by omega), show (l.length : Int) - 1 = ((l.length - 1 : Nat) : Int) by omega]
      rw [rd_nat l _ (by omega)] at hlast ⊢
      rw [w64 (n := l[l.length - 1] + 1) (by omega) (by omega), hlast]
      exact Ev.pos (by omega) (Ev.pos (by omega) body)
  | succ d ih =>
    intro l a N hl hr ha hla hN
    have loop : ∀ (n p : Nat), p + n = m → a ≤ p → Ev (fun k => impl_FewestGuards_1.l0 k l (N : Int) (K : Int) (2 * h + 1) (m : Int) r h (p : Int)) ((fwF C m (d + 1) p l).getD []) := by
      intro n
      induction n with
      | zero =>
        intro p hp hap
        rw [fwF_end d p l (by omega)]
        refine Ev.succ ?_
        simp only [impl_FewestGuards_1.l0.eq_2]
        exact Ev.neg (by omega) (Ev.now _)
      | succ n ihn =>
        intro p hp hap
        have hq := ih (l ++ [(p : Int)]) (p + 1) (lessN N (seenN m r h (p : Int))) (by rw [List.length_append, List.length_singleton]; omega) (fun x hx => by
          rcases List.mem_append.mp hx with hx | hx
          · have := hr x hx; omega
          · rw [List.mem_singleton.mp hx]; omega) (by omega) (.inr ⟨by simp, by
            rw [rd_nat _ _ (by simp)]
            simp⟩) (left_next (by omega) hN _)
        rw [fwF_step d p l (by omega)]
        refine Ev.succ ?_
        simp only [impl_FewestGuards_1.l0.eq_2]
        refine Ev.pos (by omega) (Ev.bindc (a := l) (by unfold slices_Clone_int_int.f; rw [if_pos (by omega)]) (Ev.bindc rfl (Ev.pos (by simp; omega) (Ev.bind (seenBy_ev m r (p : Int) h (by omega) (by omega)) ?_))))
        rw [u32_andNot]
        refine Ev.bind hq ?_
        cases hf : fwF C m d (p + 1) (l ++ [(p : Int)]) with
        | some x =>
          have := fwF_len d _ _ x hf
          rw [List.length_append, List.length_singleton] at this
          exact Ev.neg (by simp only [Option.getD_some]; omega) (Ev.now _)
        | none =>
          refine Ev.pos (by simp) ?_
          rw [w64 (by omega) (by omega)]
          have := ihn (p + 1) (by omega) (by omega)
          rw [show ((p + 1 : Nat) : Int) = (p : Int) + 1 by omega] at this
          exact this
    have body : Ev (fun k => impl_FewestGuards_1.j0 k l (N : Int) (K : Int) (2 * h + 1) (m : Int) r h (wrap64 ((K : Int) - (l.length : Int))) (a : Int)) ((fwF C m (d + 1) a l).getD []) := by
      refine Ev.succ ?_
      simp only [impl_FewestGuards_1.j0.eq_2]
      refine Ev.bindc (count_eq N hN.1) ?_
      have hb : ((d + 1 : Nat) : Int) * (2 * h + 1) ≤ 24 * 49 := by
        have h1 : ((d + 1 : Nat) : Int) * (2 * h + 1) ≤ ((d + 1 : Nat) : Int) * 49 := Int.mul_le_mul_of_nonneg_left (by omega) (by omega)
        omega
      have hb0 : 0 ≤ ((d + 1 : Nat) : Int) * (2 * h + 1) := Int.mul_nonneg (by omega) (by omega)
      rw [w64 (n := (K : Int) - (l.length : Int)) (by omega) (by omega), show (K : Int) - (l.length : Int) = ((d + 1 : Nat) : Int) by omega, w64 (by omega) (by omega)]
      by_cases hc : ((pc 32 N : Nat) : Int) > ((d + 1 : Nat) : Int) * (2 * h + 1)
      · refine Ev.pos hc ?_
        cases hf : fwF C m (d + 1) a l with
        | some x => exact absurd (few_prune m r h (by omega) hh.1 C (fun l => (hC l).mp) hN hf) (by omega)
        | none => exact Ev.now _
      · exact Ev.neg hc (Ev.neg (by omega) (loop (m - a) a (by omega) (Nat.le_refl _)))
    refine Ev.succ ?_
    simp only [impl_FewestGuards_1.f.eq_2]
    rcases hla with ⟨rfl, rfl⟩ | ⟨hne, hlast⟩
    · exact Ev.neg (by simp) body
    · have hpos : 0 < l.length := List.length_pos_iff.2 hne
      have hrd := hr _ (List.getElem_mem (show l.length - 1 < l.length by omega))
      refine Ev.pos (by omega) ?_
      rw [w64 (n := (l.length : Int) - 1) (by omega) (by omega), show (l.length : Int) - 1 = ((l.length - 1 : Nat) : Int) by omega]
      rw [rd_nat l _ (by omega)] at hlast ⊢
      rw [w64 (n := l[l.length - 1] + 1) (by omega) (by omega), hlast]
      exact Ev.pos (by omega) (Ev.pos (by omega) body)
theorem szRow_eq (s : Int) (r : Bool) (l : List Int) (a : Int) (hl : l.length ≤ 35184372088832) (h0 : 0 ≤ a) (h1 : a ≤ 1048576) : laws_szRow.f s r l a = some (if a - (l.length : Int) < 0 then -1 else a - (l.length : Int)) := by
  unfold laws_szRow.f
  rw [szIntS_eq l _ hl h0 h1]
  simp only [Option.bind_some]
  by_cases h : a - (l.length : Int) < 0
  · rw [if_pos h, if_pos (by omega)]
  · rw [if_neg h, if_neg h]
theorem toRow_ev (s : Int) (r : Bool) (l : List Int) (hl : l.length ≤ 35184372088832) : Ev (fun k => laws_toRow.f k s r l) (s, r, l) := by
  unfold laws_toRow.f
  exact Ev.bind (f := fun _ t => some (s, r, t)) (toIntS_ev l hl) (Ev.now _)
theorem eqRow_ev (s : Int) (r : Bool) (l : List Int) (hl : l.length ≤ 35184372088832) : Ev (fun k => laws_eqRow.f k s r l s r l) true := by
  unfold laws_eqRow.f
  refine Ev.pos rfl (Ev.neg (by simp) (Ev.bind (eqIntS_ev l hl) (Ev.pos rfl (Ev.now _))))
theorem mark_loop (l : List Int) (a : Int) (h0 : 0 ≤ a) (h1 : a ≤ 1000000000) (hl : l.length ≤ 35184372088832) : ∀ (d i : Nat) (acc : List Int), i + d = l.length → acc.length = l.length → (∀ j, j < i → acc[j]? = some (a + (j : Int))) → Ev (fun k => laws_markIntS.l0 k acc (a + (i : Int)) (i : Int)) (a + (l.length : Int), (List.range l.length).map (fun j : Nat => a + (j : Int))) := by
  intro d
  induction d with
  | zero =>
    intro i acc hi ha hj
    refine Ev.succ ?_
    simp only [laws_markIntS.l0.eq_2]
    have : acc = (List.range l.length).map (fun j : Nat => a + (j : Int)) := List.ext_getElem? (fun j => by
      by_cases h : j < i
      · rw [hj j h, List.getElem?_map, List.getElem?_range (by omega)]; rfl
      · rw [List.getElem?_eq_none (by omega), List.getElem?_eq_none (by rw [List.length_map, List.length_range]; omega)])
    rw [show (i : Int) = (l.length : Int) by omega, ← this]
    exact Ev.neg (by omega) (Ev.now _)
  | succ d ih =>
    intro i acc hi ha hj
    refine Ev.succ ?_
    simp only [laws_markIntS.l0.eq_2]
    refine Ev.pos (by omega) (Ev.pos (by omega) ?_)
    rw [w64 (n := (i : Int) + 1) (by omega) (by omega), w64 (by omega) (by omega)]
    rw [show a + (i : Int) + 1 = a + ((i + 1 : Nat) : Int) by omega]
    refine ih (i + 1) _ (by omega) (by simpa using ha) ?_
    intro j h
    rw [Int.toNat_natCast, List.getElem?_set]
    by_cases e : i = j
    · subst e
      rw [if_pos rfl, if_pos (by omega)]
    · rw [if_neg e]; exact hj j (by omega)
theorem mark_ev (l : List Int) (a : Int) (h0 : 0 ≤ a) (h1 : a ≤ 1000000000) (hl : l.length ≤ 35184372088832) : Ev (fun k => laws_markIntS.f k l a) (a + (l.length : Int), (List.range l.length).map (fun j : Nat => a + (j : Int))) := by
  have := mark_loop l a h0 h1 hl l.length 0 l (by omega) rfl (fun j h => by omega)
  simp only [Int.natCast_zero, Int.add_zero] at this
  exact this
theorem held_loop (a : Int) (h0 : 0 ≤ a) (h1 : a ≤ 1000000000) (n : Nat) (hl : n ≤ 35184372088832) : ∀ (d i : Nat), i + d = n → Ev (fun k => laws_heldIntS.l0 k ((List.range n).map (fun j : Nat => a + (j : Int))) (a + (i : Int)) (i : Int)) (a + (n : Int)) := by
  intro d
  have hlen : ((List.range n).map (fun j : Nat => a + (j : Int))).length = n := by rw [List.length_map, List.length_range]
  induction d with
  | zero =>
    intro i hi
    refine Ev.succ ?_
    simp only [laws_heldIntS.l0.eq_2]
    rw [show (i : Int) = (n : Int) by omega]
    exact Ev.neg (by omega) (Ev.now _)
  | succ d ih =>
    intro i hi
    refine Ev.succ ?_
    simp only [laws_heldIntS.l0.eq_2]
    rw [rd_nat _ i (by omega), List.getElem_map, List.getElem_range]
    refine Ev.pos (by omega) (Ev.pos (by omega) (Ev.pos rfl ?_))
    rw [w64 (n := (i : Int) + 1) (by omega) (by omega), w64 (by omega) (by omega)]
    rw [show a + (i : Int) + 1 = a + ((i + 1 : Nat) : Int) by omega]
    exact ih (i + 1) (by omega)
theorem held_ev (a : Int) (h0 : 0 ≤ a) (h1 : a ≤ 1000000000) (n : Nat) (hl : n ≤ 35184372088832) : Ev (fun k => laws_heldIntS.f k ((List.range n).map (fun j : Nat => a + (j : Int))) a) (a + (n : Int)) := by
  have := held_loop a h0 h1 n hl n 0 (by omega)
  simp only [Int.natCast_zero, Int.add_zero] at this
  exact this
theorem fewMarkRow_ev (s : Int) (r : Bool) (l : List Int) (hl : l.length ≤ 35184372088832) : Ev (fun k => laws_markRow.f k s r l 1) (1 + (l.length : Int), (List.range l.length).map (fun j : Nat => 1 + (j : Int))) := by
  unfold laws_markRow.f
  exact Ev.bind (f := fun _ t => some (t.1, t.2)) (mark_ev l 1 (by omega) (by omega) hl) (Ev.now _)
theorem gd_all (m : Nat) (r : Bool) (h : Int) (l : List Int) : GdP m r l h ↔ AllSeen m r h l := by
  constructor
  · intro hg j hj
    obtain ⟨q, hq, h2⟩ := hg j hj
    rw [unionL_bit]
    refine List.any_eq_true.mpr ⟨q, hq, ?_⟩
    unfold seenN
    rw [bld_bit, gp_comm]
    simp [hj, h2]
  · intro ha j hj
    have := ha j hj
    rw [unionL_bit] at this
    obtain ⟨q, hq, h2⟩ := List.any_eq_true.mp this
    unfold seenN at h2
    rw [bld_bit, gp_comm] at h2
    simp only [Bool.and_eq_true, decide_eq_true_eq] at h2
    exact ⟨q, hq, h2.2⟩
theorem gp_le {m p q h : Int} {r : Bool} (h1 : p - q ≤ h) (h2 : q - p ≤ h) : gp m r p q ≤ h := by
  unfold gp mn mx
  cases r with
  | true => rw [if_pos rfl]; split <;> split <;> omega
  | false => rw [if_neg (by decide)]; split <;> omega
/-- There are guards: every w-th seat. -/
theorem few_some (m : Nat) (r : Bool) (g K : Nat) (hm : 2 ≤ m) (hK : K = (m + 2 * g) / (2 * g + 1)) (C : List Int → Bool) (hC : ∀ l, C l = true ↔ GdP m r l (g : Int)) : ∃ x, fwF C m K 0 [] = some x := by
  have hK1 : K * (2 * g + 1) ≤ m + 2 * g := by rw [hK]; exact Nat.div_mul_le_self _ _
  refine fwF_some K 0 [] (fun i => min (g + i * (2 * g + 1)) (m - 1)) (fun i _ => ⟨Nat.zero_le _, by omega⟩) (fun i hi => ?_) ((hC _).mpr (fun j hj => ?_))
  · have h1 := Nat.mul_le_mul_right (2 * g + 1) (show i + 2 ≤ K by omega)
    have h2 : (i + 2) * (2 * g + 1) = (i + 1) * (2 * g + 1) + (2 * g + 1) := by rw [Nat.add_mul, Nat.add_mul]; omega
    have h3 : (i + 1) * (2 * g + 1) = i * (2 * g + 1) + (2 * g + 1) := by rw [Nat.add_mul]; omega
    omega
  · have hi : j / (2 * g + 1) < K := by
      rw [hK]
      refine (Nat.le_div_iff_mul_le (by omega)).mpr ?_
      have h1 := Nat.div_mul_le_self j (2 * g + 1)
      have h2 : (j / (2 * g + 1)).succ * (2 * g + 1) = j / (2 * g + 1) * (2 * g + 1) + (2 * g + 1) := by rw [Nat.succ_mul]
      omega
    refine ⟨_, List.mem_append.mpr (.inr (List.mem_map.mpr ⟨j / (2 * g + 1), List.mem_range.mpr hi, rfl⟩)), ?_⟩
    have h1 := Nat.div_mul_le_self j (2 * g + 1)
    have h2 := Nat.lt_div_mul_add (a := j) (b := 2 * g + 1) (by omega)
    exact gp_le (by omega) (by omega)
theorem few_wide (m : Nat) (r : Bool) (h : Int) (hm : 2 ≤ m) (C : List Int → Bool) (hC : ∀ l, C l = true ↔ GdP m r l h) (hh : (m : Int) ≤ h) : fwF C m 1 0 [] = some [0] := by
  have hc : C [0] = true := (hC _).mpr (fun j hj => ⟨0, by simp, gp_le (by omega) (by omega)⟩)
  rw [fwF_step 0 0 [] (by omega)]
  have : fwF C m 0 (0 + 1) ([] ++ [((0 : Nat) : Int)]) = some [0] := by
    show (if C ([] ++ [((0 : Nat) : Int)]) = true then some _ else none) = _
    rw [show ([] ++ [((0 : Nat) : Int)] : List Int) = [0] from rfl, if_pos hc]
  rw [this]
theorem tdiv_nat (a b : Nat) : Int.tdiv (a : Int) (b : Int) = ((a / b : Nat) : Int) := by
  rw [Int.tdiv_eq_ediv_of_nonneg (by omega)]; rfl
open Classical in
theorem few_key (m : Nat) (r : Bool) (tk : List Int) (h0 : Int) (hm : 2 ≤ m ∧ m ≤ 24) (hh : 0 ≤ h0) : ∃ (K : Nat) (x : List Int), x.length = K ∧ 1 ≤ K ∧ K ≤ 24 ∧
    Ev (fun k => spec_FewestGuards.j0 k h0 false (m : Int) r tk) ((K : Int), x, true) ∧
    Ev (fun k => (impl_bench_all.f (m : Int) r).bind fun al => (impl_FewestGuards_1.f k [] al (Int.tdiv ((m : Int) + 2 * mn h0 24) (2 * mn h0 24 + 1)) (2 * mn h0 24 + 1) (m : Int) r (mn h0 24)).bind fun o => some (Int.tdiv ((m : Int) + 2 * mn h0 24) (2 * mn h0 24 + 1), o, !o.isEmpty)) ((K : Int), x, true) := by
  -- what both come to, once the first guards are known
  have spec : ∀ (g K : Nat) (x : List Int) (C : List Int → Bool), g ≤ 100 → (if h0 < (m : Int) then h0 else (m : Int)) = (g : Int) → K = (m + 2 * g) / (2 * g + 1) → 1 ≤ K → K ≤ 24 → (∀ l, C l = true ↔ GdP m r l (g : Int)) → fwF C m K 0 [] = some x → Ev (fun k => spec_FewestGuards.j0 k h0 false (m : Int) r tk) ((K : Int), x, true) := by
    intro g K x C hg he hK hK1 hK2 hC hx
    have hF : spec_l9Fewest.f (m : Int) r tk (g : Int) = some (K : Int) := by
      unfold spec_l9Fewest.f
      rw [w64 (n := 2 * (g : Int)) (by omega) (by omega), w64 (n := 2 * (g : Int) + 1) (by omega) (by omega), w64 (n := (m : Int) + 2 * (g : Int)) (by omega) (by omega), if_neg (by omega)]
      rw [show (m : Int) + 2 * (g : Int) = ((m + 2 * g : Nat) : Int) by omega, show 2 * (g : Int) + 1 = ((2 * g + 1 : Nat) : Int) by omega, tdiv_nat, ← hK, w64 (by omega) (by omega)]
    have hs := few_spec m r tk (g : Int) K hm (by omega) hK2 C hC K [] 0 (by simp) (fun x hx => by cases hx) (by omega) (.inl ⟨rfl, rfl⟩)
    rw [hx] at hs
    refine Ev.succ ?_
    simp only [spec_FewestGuards.j0.eq_2]
    refine Ev.neg (by decide) (Ev.bindc (least_eq _ _) ?_)
    rw [he]
    exact Ev.bindc hF (Ev.bind hs (Ev.bindc hF (Ev.now _)))
  have impl : ∀ (g K : Nat) (x : List Int) (C : List Int → Bool), g ≤ 24 → mn h0 24 = (g : Int) → K = (m + 2 * g) / (2 * g + 1) → 1 ≤ K → K ≤ 24 → (∀ l, C l = true ↔ GdP m r l (g : Int)) → fwF C m K 0 [] = some x → x.length = K → Ev (fun k => (impl_bench_all.f (m : Int) r).bind fun al => (impl_FewestGuards_1.f k [] al (Int.tdiv ((m : Int) + 2 * mn h0 24) (2 * mn h0 24 + 1)) (2 * mn h0 24 + 1) (m : Int) r (mn h0 24)).bind fun o => some (Int.tdiv ((m : Int) + 2 * mn h0 24) (2 * mn h0 24 + 1), o, !o.isEmpty)) ((K : Int), x, true) := by
    intro g K x C hg he hK hK1 hK2 hC hx hlen
    have hs := few_impl m r (g : Int) K hm (by omega) ⟨hK1, hK2⟩ C (fun l => (hC l).trans (gd_all m r _ l)) K [] 0 (2 ^ m - 1) (by simp) (fun x hx => by cases hx) (by omega) (.inl ⟨rfl, rfl⟩) ⟨by
      have := Nat.pow_le_pow_right (n := 2) (by decide) (show m ≤ 24 by omega)
      omega, fun j => by rw [all_bit, unionL_bit]; simp⟩
    rw [hx] at hs
    rw [he]
    have hT : Int.tdiv ((m : Int) + 2 * (g : Int)) (2 * (g : Int) + 1) = (K : Int) := by
      rw [show (m : Int) + 2 * (g : Int) = ((m + 2 * g : Nat) : Int) by omega, show 2 * (g : Int) + 1 = ((2 * g + 1 : Nat) : Int) by omega, tdiv_nat, ← hK]
    rw [hT]
    refine Ev.bindc (all_eq m r (by omega)) (Ev.bind hs ?_)
    have hne : (!x.isEmpty) = true := by cases x with
      | nil => simp at hlen; omega
      | cons _ _ => rfl
    simp only [Option.getD_some, hne]
    exact Ev.now _
  by_cases hlt : h0 < (m : Int)
  · obtain ⟨g, rfl⟩ := Int.eq_ofNat_of_zero_le hh
    obtain ⟨K, hK⟩ : ∃ K, K = (m + 2 * g) / (2 * g + 1) := ⟨_, rfl⟩
    have hK1 : 1 ≤ K := by rw [hK]; exact (Nat.le_div_iff_mul_le (by omega)).mpr (by omega)
    have hK2 : K ≤ 24 := by
      have h1 : K * (2 * g + 1) ≤ m + 2 * g := by rw [hK]; exact Nat.div_mul_le_self _ _
      refine Decidable.byContradiction (fun hc => ?_)
      have h2 := Nat.mul_le_mul_right (2 * g + 1) (show 25 ≤ K by omega)
      omega
    obtain ⟨x, hx⟩ := few_some m r g K hm.1 hK (fun l => decide (GdP m r l (g : Int))) (fun l => decide_eq_true_iff)
    have hlen := fwF_len K 0 [] x hx
    simp only [List.length_nil, Nat.zero_add] at hlen
    refine ⟨K, x, hlen, hK1, hK2, spec g K x _ (by omega) (by rw [if_pos hlt]) hK hK1 hK2 (fun l => decide_eq_true_iff) hx, impl g K x _ (by omega) ?_ hK hK1 hK2 (fun l => decide_eq_true_iff) hx hlen⟩
    unfold mn; split <;> omega
  · have hmn : (m : Int) ≤ mn h0 24 ∧ mn h0 24 ≤ 24 := by unfold mn; split <;> omega
    obtain ⟨g, hg⟩ := Int.eq_ofNat_of_zero_le (show 0 ≤ mn h0 24 by omega)
    have one : ∀ g : Nat, m ≤ g → 1 = (m + 2 * g) / (2 * g + 1) := fun g h => by
      refine (Nat.div_eq_of_lt_le (by omega) (by omega)).symm
    refine ⟨1, [0], rfl, Nat.le_refl _, by omega, spec m 1 [0] (fun l => decide (GdP m r l (m : Int))) (by omega) (by rw [if_neg hlt]) (one m (Nat.le_refl _)) (Nat.le_refl _) (by omega) (fun l => decide_eq_true_iff) (few_wide m r (m : Int) hm.1 _ (fun l => decide_eq_true_iff) (by omega)),
      impl g 1 [0] (fun l => decide (GdP m r l (g : Int))) (by omega) hg (one g (by omega)) (Nat.le_refl _) (by omega) (fun l => decide_eq_true_iff) (few_wide m r (g : Int) hm.1 _ (fun l => decide_eq_true_iff) (by omega)) rfl⟩
theorem few_both (s : Int) (r : Bool) (tk : List Int) (h0 : Int) (hL : tk.length ≤ 35184372088832) : ∃ q : Int × List Int × Bool, q.2.1.length ≤ 24 ∧ Ev (fun k => spec_FewestGuards.f k s r tk h0) q ∧ Ev (fun k => impl_FewestGuards.f k s r tk h0) q := by
  obtain ⟨b, hbb⟩ := exists_bool (IsRw s r tk)
  cases b with
  | false =>
    refine ⟨(0, [], false), Nat.zero_le _, ?_, ?_⟩
    · unfold spec_FewestGuards.f
      refine Ev.bind (l2Row_ev _ r tk hL false hbb) (Ev.neg (by decide) (Ev.succ ?_))
      simp only [spec_FewestGuards.j0.eq_2]; exact Ev.pos (by trivial) (Ev.now _)
    · unfold impl_FewestGuards.f
      exact Ev.bind (isRow_ev _ r tk hL false hbb) (Ev.neg (by decide) (Ev.now _))
  | true =>
    by_cases hneg : h0 < 0
    · refine ⟨(0, [], false), Nat.zero_le _, ?_, ?_⟩
      · unfold spec_FewestGuards.f
        refine Ev.bind (l2Row_ev _ r tk hL true hbb) (Ev.pos rfl (Ev.succ ?_))
        simp only [spec_FewestGuards.j0.eq_2]; exact Ev.pos (decide_eq_true hneg) (Ev.now _)
      · unfold impl_FewestGuards.f
        exact Ev.bind (isRow_ev _ r tk hL true hbb) (Ev.pos rfl (Ev.pos hneg (Ev.now _)))
    · have hrow := hbb.mp rfl
      obtain ⟨m, rfl⟩ : ∃ m : Nat, s = (m : Int) := ⟨s.toNat, by have := hrow.1; omega⟩
      have hm : 2 ≤ m ∧ m ≤ 24 := by have := hrow.1; omega
      obtain ⟨K, x, hlen, hK1, hK2, h1, h2⟩ := few_key m r tk h0 hm (by omega)
      refine ⟨((K : Int), x, true), by show x.length ≤ 24; omega, ?_, ?_⟩
      · unfold spec_FewestGuards.f
        refine Ev.bind (l2Row_ev _ r tk hL true hbb) (Ev.pos rfl ?_)
        rw [show decide (h0 < 0) = false by simpa using hneg]
        exact h1
      · unfold impl_FewestGuards.f
        refine Ev.bind (isRow_ev _ r tk hL true hbb) (Ev.pos rfl (Ev.neg hneg (Ev.pos ?_ h2)))
        refine ⟨by omega, ?_⟩
        unfold mn; split <;> omega
theorem FnExactFewestGuards : laws_FnExactFewestGuards.Pure := by
  intro s r tk h0 _ _ hl _ _
  have hL : tk.length ≤ 35184372088832 := by omega
  refine Ev.rounds (g := fun k => laws_FnExactFewestGuards.f k s r tk h0) ?_
  unfold laws_FnExactFewestGuards.f
  refine Ev.bindc (szRow_eq s r tk _ hL (by omega) (by omega)) ?_
  by_cases hb : (1048576 : Int) - (tk.length : Int) < 0
  · rw [if_pos hb]; exact Ev.pos (by omega) (Ev.now _)
  · rw [if_neg hb]
    refine Ev.neg hb ?_
    obtain ⟨⟨q1, q2, q3⟩, hq, h, h'⟩ := few_both s r tk h0 hL
    simp only at hq
    have hq' : q2.length ≤ 35184372088832 := by omega
    have ht := toRow_ev s r tk hL
    have he := eqIntS_ev q2 hq'
    refine Ev.bind ht (Ev.bind h (Ev.bind ht (Ev.bind h' (Ev.pos rfl (Ev.bind he (Ev.pos rfl (Ev.succ ?_)))))))
    simp only [laws_FnExactFewestGuards.j0.eq_2]
    refine Ev.neg (by simp) (Ev.bind ht (Ev.bind (eqRow_ev s r tk hL) (Ev.pos (by trivial) (Ev.bind (fewMarkRow_ev s r tk hL) (Ev.neg (by simp only; omega) (Ev.pos (by trivial) (Ev.bind he (Ev.pos rfl (Ev.succ ?_)))))))))
    simp only [laws_FnExactFewestGuards.j1.eq_2]
    refine Ev.neg (by simp) (Ev.bind (mark_ev q2 1 (by omega) (by omega) hq') (Ev.bind (held_ev 1 (by omega) (by omega) q2.length hq') (Ev.neg (by omega) (Ev.pos rfl (Ev.bind ht (Ev.bind h' (Ev.pos (by trivial) (Ev.bind he (Ev.pos rfl (Ev.succ ?_))))))))))
    simp only [laws_FnExactFewestGuards.j2.eq_2]
    exact Ev.neg (by simp) (Ev.bind (held_ev 1 (by omega) (by omega) q2.length hq') (Ev.neg (by omega) (Ev.pos rfl (Ev.now _))))

end Go.Proofs.Ytnchmnkljneedaa.Pure
