/- Proved: the number of placings of groups, as the program returns it, is the reference's, for all arguments. Conditions: those of the statement. -/
import Derived.Test.YtohdmhhecjbbbaaPFnExactCountPlacingsx7
namespace Go.Proofs.Ytohdmhhecjbbbaa.Pure
open Go.RowKit Go.Proofs.Ytohdmhhecjbbbaa.PFnExactCountPlacings Go.Proofs.YtohdmhhecjbbbaaW.PrintWords Go.Proofs.YtohdmhhecjbbbaaW.PrintLast Go.Proofs.YtohdmhhecjbbbaaW.PrintMore
set_option linter.unusedVariables false

theorem Ev.pos {α : Type} {c : Prop} [Decidable c] {f g : Nat → Option α} {r : α} (h : c) (k : Ev f r) : Ev (fun m => if c then f m else g m) r :=
  Ev.congr (fun _ => if_pos h) k
theorem Ev.neg {α : Type} {c : Prop} [Decidable c] {f g : Nat → Option α} {r : α} (h : ¬ c) (k : Ev g r) : Ev (fun m => if c then f m else g m) r :=
  Ev.congr (fun _ => if_neg h) k
theorem Ev.bindc {α β : Type} {x : Option α} {f : Nat → α → Option β} {a : α} {r : β} (h : x = some a) (k : Ev (fun n => f n a) r) : Ev (fun n => x.bind (f n)) r := by
  subst h; exact k
theorem Ev.succ {α : Type} {g : Nat → Option α} {r : α} (k : Ev (fun n => g (n + 1)) r) : Ev g r := Ev.step (fun _ => rfl) k
theorem Ev.unique {α : Type} {g : Nat → Option α} {r q : α} (h : Ev g r) (k : Ev g q) : r = q := by
  obtain ⟨K, hK⟩ := h; obtain ⟨L, hL⟩ := k
  have := (hK (max K L) (Nat.le_max_left _ _)).symm.trans (hL (max K L) (Nat.le_max_right _ _))
  exact Option.some.inj this
theorem w64 {n : Int} (h0 : -9223372036854775808 ≤ n) (h1 : n < 9223372036854775808) : wrap64 n = n := by unfold wrap64; omega
theorem rd_nat (l : List Int) (i : Nat) (h : i < l.length) : rd l (i : Int) = l[i] := by
  unfold rd; rw [Int.toNat_natCast, List.getD_eq_getElem?_getD, List.getElem?_eq_getElem h]; rfl
theorem lit_i64 {x : Int} (h : (Lit.int .i64 x).wf = true) : -9223372036854775808 ≤ x ∧ x < 9223372036854775808 := by
  simp [Lit.wf, IntKind.min, IntKind.max, IntKind.bits, IntKind.signed] at h; omega
/-- a loop that ends early, with one answer, where P fails -/
theorem ev_all {α : Type} (L : Nat → Nat → Option α) (n : Nat) (P : Nat → Prop) (rEnd : α)
    (hend : Ev (fun k => L k n) rEnd) (hgood : ∀ i, i < n → P i → ∀ r, Ev (fun k => L k (i + 1)) r → Ev (fun k => L k i) r)
    (i : Nat) (hi : i ≤ n) (h : ∀ j, i ≤ j → j < n → P j) : Ev (fun k => L k i) rEnd := by
  obtain ⟨d, hd⟩ : ∃ d, i + d = n := ⟨n - i, by omega⟩
  induction d generalizing i with
  | zero => rw [show i = n by omega]; exact hend
  | succ d ih => exact hgood i (by omega) (h i (by omega) (by omega)) _ (ih (i + 1) (by omega) (fun j h1 h2 => h j (by omega) h2) (by omega))
theorem ev_bad {α : Type} (L : Nat → Nat → Option α) (n : Nat) (P : Nat → Prop) (rBad : α)
    (hgood : ∀ i, i < n → P i → ∀ r, Ev (fun k => L k (i + 1)) r → Ev (fun k => L k i) r) (hbad : ∀ i, i < n → ¬ P i → Ev (fun k => L k i) rBad)
    (i : Nat) (h : ∃ j, i ≤ j ∧ j < n ∧ ¬ P j) : Ev (fun k => L k i) rBad := by
  obtain ⟨j, h1, h2, h3⟩ := h
  obtain ⟨d, hd⟩ : ∃ d, i + d = j := ⟨j - i, by omega⟩
  induction d generalizing i with
  | zero => rw [show i = j by omega]; exact hbad j h2 h3
  | succ d ih =>
    by_cases hp : P i
    · exact hgood i (by omega) hp _ (ih (i + 1) (by omega) (by omega))
    · exact hbad i (by omega) hp
theorem ev_dec {α : Type} (L : Nat → Nat → Option α) (n : Nat) (P : Nat → Prop) [DecidablePred P] (f : Bool → α)
    (hend : Ev (fun k => L k n) (f true)) (hgood : ∀ i, i < n → P i → ∀ r, Ev (fun k => L k (i + 1)) r → Ev (fun k => L k i) r)
    (hbad : ∀ i, i < n → ¬ P i → Ev (fun k => L k i) (f false)) (b : Bool) (hb : b = true ↔ ∀ j, j < n → P j) : Ev (fun k => L k 0) (f b) := by
  cases b with
  | true => exact ev_all L n P (f true) hend hgood 0 (by omega) (fun j _ h => hb.mp rfl j h)
  | false =>
    refine ev_bad L n P (f false) hgood hbad 0 ?_
    by_cases h : ∀ j, j < n → P j
    · exact absurd (hb.mpr h) (by decide)
    · have : ∃ j, ¬ (j < n → P j) := Classical.not_forall.mp h
      obtain ⟨j, hj⟩ := this
      exact ⟨j, by omega, Decidable.byContradiction (fun c => hj (fun h2 => absurd h2 c)), fun c => hj (fun _ => c)⟩
/-- a loop with a state -/
def iterFrom {σ : Type} (g : Nat → σ → σ) : Nat → Nat → σ → σ
  | 0, _, s => s
  | d + 1, i, s => iterFrom g d (i + 1) (g i s)
theorem ev_iter {σ α : Type} (L : Nat → σ → Nat → Option α) (n : Nat) (g : Nat → σ → σ) (fin : σ → α) (I : Nat → σ → Prop)
    (hend : ∀ s, I n s → Ev (fun k => L k s n) (fin s)) (hI : ∀ i s, i < n → I i s → I (i + 1) (g i s))
    (hstep : ∀ i s, i < n → I i s → ∀ r, Ev (fun k => L k (g i s) (i + 1)) r → Ev (fun k => L k s i) r) :
    ∀ (d i : Nat) (s : σ), i + d = n → I i s → Ev (fun k => L k s i) (fin (iterFrom g d i s)) := by
  intro d
  induction d with
  | zero => intro i s hi hs; rw [show i = n by omega] at hs ⊢; exact hend s hs
  | succ d ih => intro i s hi hs; exact hstep i s (by omega) hs _ (ih (i + 1) (g i s) (by omega) (hI i s (by omega) hs))
theorem toIntS_loop (l : List Int) (hl : l.length ≤ 35184372088832) : ∀ (d i : Nat) (acc : List Int), i + d = l.length → acc.length = l.length → (∀ j, j < i → acc[j]? = l[j]?) → Ev (fun k => laws_toIntS.l0 k l acc (i : Int)) l := by
  intro d
  induction d with
  | zero =>
    intro i acc hi ha hj
    refine Ev.succ ?_
    simp only [laws_toIntS.l0.eq_2]
    refine Ev.neg (by omega) ?_
    have : acc = l := List.ext_getElem? (fun j => by
      by_cases h : j < i
      · exact hj j h
      · rw [List.getElem?_eq_none (by omega), List.getElem?_eq_none (by omega)])
    rw [this]; exact Ev.now _
  | succ d ih =>
    intro i acc hi ha hj
    refine Ev.succ ?_
    simp only [laws_toIntS.l0.eq_2]
    refine Ev.pos (by omega) (Ev.pos (by omega) (Ev.pos (by omega) ?_))
    rw [w64 (by omega) (by omega)]
    refine ih (i + 1) _ (by omega) (by simpa using ha) ?_
    intro j h
    rw [Int.toNat_natCast, List.getElem?_set]
    by_cases e : i = j
    · subst e
      rw [if_pos rfl, if_pos (by omega), rd_nat l i (by omega), List.getElem?_eq_getElem]
    · rw [if_neg e]; exact hj j (by omega)
theorem toIntS_ev (l : List Int) (hl : l.length ≤ 35184372088832) : Ev (fun k => laws_toIntS.f k l) l := by
  unfold laws_toIntS.f
  refine Ev.pos (by omega) (Ev.pos (by omega) ?_)
  exact toIntS_loop l hl l.length 0 _ (by omega) (by simp) (fun j h => by omega)
theorem eqIntS_loop (l : List Int) (hl : l.length ≤ 35184372088832) : ∀ (d i : Nat), i + d = l.length → Ev (fun k => laws_eqIntS.l0 k l l (i : Int)) true := by
  intro d
  induction d with
  | zero =>
    intro i hi
    refine Ev.succ ?_
    simp only [laws_eqIntS.l0.eq_2]
    exact Ev.neg (by omega) (Ev.now _)
  | succ d ih =>
    intro i hi
    refine Ev.succ ?_
    simp only [laws_eqIntS.l0.eq_2]
    refine Ev.pos (by omega) (Ev.pos (by omega) (Ev.pos (by omega) (Ev.pos (by trivial) ?_)))
    rw [w64 (by omega) (by omega)]
    exact ih (i + 1) (by omega)
theorem eqIntS_ev (l : List Int) (hl : l.length ≤ 35184372088832) : Ev (fun k => laws_eqIntS.f k l l) true := by
  unfold laws_eqIntS.f
  exact Ev.pos rfl (eqIntS_loop l hl l.length 0 (by omega))
theorem within_eq (a b c : Int) : impl_within.f a b c = some (decide (b ≤ a ∧ a ≤ c)) := by
  unfold impl_within.f
  by_cases h : a ≥ b
  · rw [if_pos h]; simp [show b ≤ a from h]
  · rw [if_neg h]; simp [show ¬ b ≤ a from h]
theorem l1In_eq (a b c : Int) : spec_l1In.f a b c = some (decide (b ≤ a ∧ a ≤ c)) := by
  unfold spec_l1In.f
  by_cases h : a ≥ b
  · rw [if_pos h]; simp [show b ≤ a from h]
  · rw [if_neg h]; simp [show ¬ b ≤ a from h]
theorem allWithin_loop (l : List Int) (lo hi : Int) (hl : l.length ≤ 35184372088832) : ∀ (d i : Nat), i + d = l.length → Ev (fun k => impl_allWithin.l0 k lo hi l (l.length : Int) (i : Int)) (decide (∀ x ∈ l.drop i, lo ≤ x ∧ x ≤ hi)) := by
  intro d
  induction d with
  | zero =>
    intro i hi
    refine Ev.succ ?_
    simp only [impl_allWithin.l0.eq_2]
    rw [List.drop_of_length_le (by omega)]
    exact Ev.neg (by omega) (by simp; exact Ev.now _)
  | succ d ih =>
    intro i hi'
    refine Ev.succ ?_
    simp only [impl_allWithin.l0.eq_2]
    refine Ev.pos (by omega) (Ev.pos (by omega) (Ev.pos (by omega) (Ev.bindc (within_eq _ _ _) ?_)))
    have hd : l.drop i = l[i] :: l.drop (i + 1) := (List.drop_eq_getElem_cons (by omega))
    rw [rd_nat l i (by omega)]
    by_cases e : lo ≤ l[i] ∧ l[i] ≤ hi
    · refine Ev.pos (decide_eq_true e) ?_
      rw [w64 (by omega) (by omega)]
      have e1 : (∀ x ∈ l.drop i, lo ≤ x ∧ x ≤ hi) ↔ (∀ x ∈ l.drop (i + 1), lo ≤ x ∧ x ≤ hi) := by rw [hd]; simp only [List.mem_cons, forall_eq_or_imp, e, true_and]
      rw [decide_eq_decide.mpr e1]
      exact ih (i + 1) (by omega)
    · rw [show decide (∀ x ∈ l.drop i, lo ≤ x ∧ x ≤ hi) = false by rw [hd]; simp only [List.mem_cons, forall_eq_or_imp, decide_eq_false_iff_not]; exact fun h => e h.1]
      exact Ev.neg (by simpa using e) (Ev.now _)
theorem allWithin_ev (l : List Int) (lo hi : Int) (hl : l.length ≤ 35184372088832) : Ev (fun k => impl_allWithin.f k l lo hi) (decide (∀ x ∈ l, lo ≤ x ∧ x ≤ hi)) := allWithin_loop l lo hi hl l.length 0 (by omega)
theorem szIntS_eq (l : List Int) (a : Int) (hl : l.length ≤ 35184372088832) (h0 : 0 ≤ a) (h1 : a ≤ 1048576) : laws_szIntS.f l a = some (if a - (l.length : Int) < 0 then -1 else a - (l.length : Int)) := by
  unfold laws_szIntS.f
  rw [w64 (by omega) (by omega)]
  split <;> rfl
def pc : Nat → Nat → Nat
  | 0, _ => 0
  | k + 1, n => n % 2 + pc k (n / 2)
theorem pc_add (a b n : Nat) : pc (a + b) n = pc a n + pc b (n / 2 ^ a) := by
  induction a generalizing n with
  | zero => simp [pc]
  | succ a ih =>
    rw [show a + 1 + b = (a + b) + 1 by omega]
    simp only [pc]
    rw [ih, Nat.div_div_eq_div_mul, Nat.pow_succ, Nat.mul_comm 2 (2 ^ a)]
    omega
theorem pc_mod (k n : Nat) : pc k (n % 2 ^ k) = pc k n := by
  induction k generalizing n with
  | zero => rfl
  | succ k ih =>
    simp only [pc]
    rw [show n % 2 ^ (k + 1) % 2 = n % 2 by rw [Nat.pow_succ]; exact Nat.mod_mul_left_mod n (2 ^ k) 2]
    rw [show n % 2 ^ (k + 1) / 2 = (n / 2) % 2 ^ k by rw [Nat.pow_succ, Nat.mul_comm]; exact Nat.mod_mul_right_div_self n 2 (2 ^ k)]
    rw [ih]
theorem pc_le (k n : Nat) : pc k n ≤ k := by
  induction k generalizing n with
  | zero => exact Nat.le_refl _
  | succ k ih => have := ih (n / 2); simp only [pc]; omega
theorem u32_nat (a b : Nat) (ha : a < 4294967296) (hb : b < 4294967296) : Go.bits .and .u32 (a : Int) (b : Int) = ((a &&& b : Nat) : Int) ∧ Go.bits .or .u32 (a : Int) (b : Int) = ((a ||| b : Nat) : Int) :=
  bits_nat .u32 32 (by decide) (fun n h0 h1 => by rw [IntKind.wrap_u32]; omega) a b (by omega) (by omega)
theorem pc_count (k n : Nat) : pc k n = (List.range k).countP (fun i => n.testBit i) := by
  induction k generalizing n with
  | zero => rfl
  | succ k ih =>
    rw [List.range_succ_eq_map, List.countP_cons, List.countP_map]
    simp only [pc]
    rw [ih, Nat.add_comm]
    congr 1
    · apply List.countP_congr
      intro i _
      simp [Nat.testBit_succ]
    · rw [Nat.testBit_zero]
      by_cases h : n % 2 = 1
      · simp [h]
      · have : n % 2 = 0 := by omega
        simp [this]
/-- the set of some seats -/
def setN (l : List Int) : Nat := l.foldl (fun s p => s ||| 2 ^ p.toNat) 0
theorem foldl_or_bit (l : List Int) (s j : Nat) : (l.foldl (fun s p => s ||| 2 ^ p.toNat) s).testBit j = (s.testBit j || decide (∃ p ∈ l, p.toNat = j)) := by
  induction l generalizing s with
  | nil => simp
  | cons p l ih =>
    rw [List.foldl_cons, ih, Nat.testBit_or, Nat.testBit_two_pow]
    simp only [List.mem_cons, exists_eq_or_imp, Bool.decide_or, Bool.or_assoc]
theorem setN_bit (l : List Int) (j : Nat) : (setN l).testBit j = decide (∃ p ∈ l, p.toNat = j) := by
  unfold setN; rw [foldl_or_bit]; simp
theorem setN_lt (l : List Int) (h : ∀ x ∈ l, 0 ≤ x ∧ x < 32) : setN l < 4294967296 := by
  refine Nat.lt_pow_two_of_testBit (n := 32) _ (fun j hj => ?_)
  rw [setN_bit]
  simp only [decide_eq_false_iff_not, not_exists, not_and]
  intro x hx e
  have := h x hx
  omega
theorem setN_take (l : List Int) (i : Nat) (h : i < l.length) : setN (l.take (i + 1)) = setN (l.take i) ||| 2 ^ (l[i]).toNat := by
  unfold setN
  rw [List.take_succ_eq_append_getElem h, List.foldl_append]
  rfl
theorem two_pow_lt32 (p : Int) (h0 : 0 ≤ p) (h1 : p < 32) : 2 ^ p.toNat < 4294967296 := Nat.pow_lt_pow_right (m := p.toNat) (n := 32) (by decide) (by omega)
theorem shl_u32_one (p : Int) (h0 : 0 ≤ p) (h1 : p < 32) : shl .u32 1 p = ((2 ^ p.toNat : Nat) : Int) := by
  unfold shl
  rw [Nat.min_eq_left (by simp [IntKind.bits]; omega), IntKind.wrap_u32]
  have e : (1 * 2 ^ p.toNat : Int) = ((2 ^ p.toNat : Nat) : Int) := by rw [Int.one_mul]; push_cast; rfl
  rw [e]; exact Int.emod_eq_of_lt (Int.natCast_nonneg _) (Int.ofNat_lt.mpr (two_pow_lt32 p h0 h1))
/-- a list that has each number less than n once -/
def IsOrd (l : List Int) (n : Int) : Prop := (l.length : Int) = n ∧ ∀ i : Nat, (i : Int) < n → (i : Int) ∈ l
theorem ph_len : ∀ (n : Nat) (l : List Int), (∀ i : Nat, i < n → (i : Int) ∈ l) → n ≤ l.length := by
  intro n
  induction n with
  | zero => intro l _; omega
  | succ n ih =>
    intro l h
    have hm := h n (by omega)
    have := ih (l.erase (n : Int)) (fun i hi => (List.mem_erase_of_ne (by omega)).mpr (h i (by omega)))
    rw [List.length_erase_of_mem hm] at this
    have : 0 < l.length := List.length_pos_of_mem hm
    omega
theorem ph_range : ∀ (n : Nat) (l : List Int), l.length = n → (∀ i : Nat, i < n → (i : Int) ∈ l) → ∀ x ∈ l, 0 ≤ x ∧ x < (n : Int) := by
  intro n
  induction n with
  | zero => intro l hl _ x hx; rw [List.length_eq_zero_iff.mp hl] at hx; cases hx
  | succ n ih =>
    intro l hl h x hx
    have hm := h n (by omega)
    by_cases e : x = (n : Int)
    · omega
    · have := ih (l.erase (n : Int)) (by rw [List.length_erase_of_mem hm]; omega) (fun i hi => (List.mem_erase_of_ne (by omega)).mpr (h i (by omega))) x ((List.mem_erase_of_ne e).mpr hx)
      omega
theorem ph_nodup_len : ∀ (m : Nat) (l : List Int), l.Nodup → (∀ x ∈ l, 0 ≤ x ∧ x < (m : Int)) → l.length ≤ m := by
  intro m
  induction m with
  | zero =>
    intro l _ h
    cases l with
    | nil => simp
    | cons x l => have := h x (by simp); omega
  | succ m ih =>
    intro l hn h
    by_cases hm : (m : Int) ∈ l
    · have := ih (l.erase (m : Int)) (hn.erase _) (fun x hx => by
        have h1 := h x (List.mem_of_mem_erase hx)
        have h2 : x ≠ (m : Int) := fun e => by subst e; exact (List.Nodup.not_mem_erase hn) hx
        omega)
      rw [List.length_erase_of_mem hm] at this
      omega
    · have := ih l hn (fun x hx => by
        have h1 := h x hx
        have h2 : x ≠ (m : Int) := fun e => by subst e; exact hm hx
        omega)
      omega
theorem ord_range {l : List Int} {n : Int} (h : IsOrd l n) : ∀ x ∈ l, 0 ≤ x ∧ x < n := by
  obtain ⟨h1, h2⟩ := h
  have := ph_range l.length l rfl (fun i hi => h2 i (by omega))
  intro x hx; have := this x hx; omega
theorem ord_of_nodup {l : List Int} {n : Int} (hl : (l.length : Int) = n) (hn : l.Nodup) (hr : ∀ x ∈ l, 0 ≤ x ∧ x < n) : IsOrd l n := by
  refine ⟨hl, fun i hi => ?_⟩
  by_cases hm : (i : Int) ∈ l
  · exact hm
  · have := ph_nodup_len l.length ((i : Int) :: l) (List.nodup_cons.mpr ⟨hm, hn⟩) (fun x hx => by
      rcases List.mem_cons.mp hx with rfl | hx
      · omega
      · have := hr x hx; omega)
    rw [List.length_cons] at this; omega
theorem ord_nodup : ∀ (n : Nat) (l : List Int), l.length = n → (∀ i : Nat, i < n → (i : Int) ∈ l) → l.Nodup := by
  intro n
  induction n with
  | zero => intro l hl _; rw [List.length_eq_zero_iff.mp hl]; exact List.nodup_nil
  | succ n ih =>
    intro l hl h
    have hm := h n (by omega)
    have hl' : (l.erase (n : Int)).length = n := by rw [List.length_erase_of_mem hm]; omega
    have h' : ∀ i : Nat, i < n → (i : Int) ∈ l.erase (n : Int) := fun i hi => (List.mem_erase_of_ne (by omega)).mpr (h i (by omega))
    have hn : (n : Int) ∉ l.erase (n : Int) := fun hc => by have := ph_range n _ hl' h' _ hc; omega
    exact (List.perm_cons_erase hm).nodup_iff.mpr (List.nodup_cons.mpr ⟨hn, ih _ hl' h'⟩)
theorem isOrd_nodup {l : List Int} {n : Int} (h : IsOrd l n) : l.Nodup := ord_nodup l.length l rfl (fun i hi => h.2 i (by have := h.1; omega))
instance (l : List Int) (n : Int) : Decidable (IsOrd l n) := decidable_of_iff ((l.length : Int) = n ∧ ∀ i : Fin l.length, (i.val : Int) ∈ l) (by
  unfold IsOrd
  constructor
  · rintro ⟨h1, h2⟩; exact ⟨h1, fun i hi => h2 ⟨i, by omega⟩⟩
  · rintro ⟨h1, h2⟩; exact ⟨h1, fun i => h2 i.val (by have := i.isLt; omega)⟩)
theorem getD_lt (l : List Int) (i : Nat) (h : i < l.length) : l.getD i 0 = l[i] := by rw [List.getD_eq_getElem?_getD, List.getElem?_eq_getElem h]; rfl
theorem rd_getD (l : List Int) (i : Nat) : rd l (i : Int) = l.getD i 0 := by unfold rd; rw [Int.toNat_natCast]
theorem exists_bool (p : Prop) : ∃ b : Bool, b = true ↔ p := by
  by_cases h : p
  · exact ⟨true, by simp [h]⟩
  · exact ⟨false, by simp [h]⟩
/-- a valid row -/
def IsRw (s : Int) (r : Bool) (l : List Int) : Prop := (2 ≤ s ∧ s ≤ 24) ∧ (r = true → 3 ≤ s) ∧ (∀ x ∈ l, 0 ≤ x ∧ x < s) ∧ l.Pairwise (· < ·)
def rwP (l : List Int) (hi : Int) (i : Nat) : Prop := (0 ≤ l.getD i 0 ∧ l.getD i 0 ≤ hi) ∧ (0 < i → l.getD (i - 1) 0 < l.getD i 0)
instance (l : List Int) (hi : Int) (i : Nat) : Decidable (rwP l hi i) := by unfold rwP; infer_instance
theorem rwP_all (l : List Int) (hi : Int) : (∀ i, i < l.length → rwP l hi i) ↔ (∀ x ∈ l, 0 ≤ x ∧ x ≤ hi) ∧ l.Pairwise (· < ·) := by
  constructor
  · intro h
    refine ⟨fun x hx => ?_, ?_⟩
    · obtain ⟨i, hi', rfl⟩ := List.mem_iff_getElem.mp hx
      have := (h i hi').1
      rw [getD_lt l i hi'] at this
      exact this
    · rw [List.pairwise_iff_getElem]
      intro i j hi' hj hij
      obtain ⟨d, hd⟩ : ∃ d, i + 1 + d = j := ⟨j - i - 1, by omega⟩
      induction d generalizing j with
      | zero =>
        have := (h j hj).2 (by omega)
        rw [getD_lt l j hj, show j - 1 = i by omega, getD_lt l i hi'] at this
        exact this
      | succ d ih =>
        have h1 := ih (j - 1) (by omega) (by omega) (by omega)
        have h2 := (h j hj).2 (by omega)
        rw [getD_lt l j hj, getD_lt l (j - 1) (by omega)] at h2
        omega
  · rintro ⟨h1, h2⟩ i hi'
    refine ⟨?_, fun h0 => ?_⟩
    · rw [getD_lt l i hi']; exact h1 _ (List.getElem_mem _)
    · rw [getD_lt l i hi', getD_lt l (i - 1) (by omega)]
      exact (List.pairwise_iff_getElem.mp h2) (i - 1) i (by omega) hi' (by omega)
theorem rising_ev (l : List Int) (hi : Int) (hl : l.length ≤ 35184372088832) (b : Bool) (hb : b = true ↔ ∀ i, i < l.length → rwP l hi i) : Ev (fun k => spec_l1Rising.f k l 0 hi) b := by
  unfold spec_l1Rising.f
  refine ev_dec (fun k i => spec_l1Rising.l0 k l 0 hi (i : Int)) l.length (rwP l hi) id ?_ ?_ ?_ b hb
  · refine Ev.succ ?_
    simp only [spec_l1Rising.l0.eq_2]
    exact Ev.neg (by omega) (Ev.now _)
  · intro i hi' hp r h
    refine Ev.succ ?_
    simp only [spec_l1Rising.l0.eq_2]
    rw [rd_getD, w64 (n := (i : Int) + 1) (by omega) (by omega), w64 (n := (i : Int) - 1) (by omega) (by omega)]
    refine Ev.pos (by omega) (Ev.pos (by omega) (Ev.bindc (l1In_eq _ _ _) (Ev.pos (decide_eq_true hp.1) ?_)))
    by_cases h0 : (i : Int) > 0
    · have := hp.2 (by omega)
      rw [show (i : Int) - 1 = ((i - 1 : Nat) : Int) by omega, rd_getD]
      exact Ev.pos h0 (Ev.pos (by omega) (Ev.pos (by omega) (Ev.neg (by omega) h)))
    · exact Ev.neg h0 h
  · intro i hi' hp
    refine Ev.succ ?_
    simp only [spec_l1Rising.l0.eq_2]
    rw [rd_getD, w64 (n := (i : Int) - 1) (by omega) (by omega)]
    refine Ev.pos (by omega) (Ev.pos (by omega) (Ev.bindc (l1In_eq _ _ _) ?_))
    by_cases h1 : 0 ≤ l.getD i 0 ∧ l.getD i 0 ≤ hi
    · have h2 : ¬ (0 < i → l.getD (i - 1) 0 < l.getD i 0) := fun h => hp ⟨h1, h⟩
      have h0 : 0 < i := Decidable.byContradiction (fun c => h2 (fun h => absurd h c))
      have h3 : ¬ l.getD (i - 1) 0 < l.getD i 0 := fun h => h2 (fun _ => h)
      rw [show (i : Int) - 1 = ((i - 1 : Nat) : Int) by omega, rd_getD]
      exact Ev.pos (decide_eq_true h1) (Ev.pos (by omega) (Ev.pos (by omega) (Ev.pos (by omega) (Ev.pos (by omega) (Ev.now _)))))
    · exact Ev.neg (by simpa using h1) (Ev.now _)
theorem l2Row_ev (s : Int) (r : Bool) (l : List Int) (hl : l.length ≤ 35184372088832) (b : Bool) (hb : b = true ↔ IsRw s r l) : Ev (fun k => spec_l2Row.f k s r l) b := by
  unfold spec_l2Row.f
  have hno : ¬ IsRw s r l → b = false := fun h => by
    cases b with
    | false => rfl
    | true => exact absurd (hb.mp rfl) h
  refine Ev.bindc (l1In_eq _ _ _) ?_
  by_cases hs : 2 ≤ s ∧ s ≤ 24
  · refine Ev.pos (decide_eq_true hs) ?_
    rw [w64 (by omega) (by omega)]
    have main : (r = true → 3 ≤ s) → (b = true ↔ ∀ i, i < l.length → rwP l (s - 1) i) := by
      intro h3
      rw [hb, rwP_all]
      unfold IsRw
      constructor
      · rintro ⟨_, _, h4, h5⟩; exact ⟨fun x hx => by have := h4 x hx; omega, h5⟩
      · rintro ⟨h4, h5⟩; exact ⟨hs, h3, fun x hx => by have := h4 x hx; omega, h5⟩
    by_cases hr : r = true
    · refine Ev.pos hr ?_
      by_cases h3 : s > 2
      · exact Ev.pos h3 (Ev.bind (f := fun _ t => some t) (rising_ev l (s - 1) hl b (main (fun _ => by omega))) (Ev.now _))
      · rw [hno (fun h => h3 (by have := h.2.1 hr; omega))]
        exact Ev.neg h3 (Ev.now _)
    · exact Ev.neg hr (Ev.bind (f := fun _ t => some t) (rising_ev l (s - 1) hl b (main (fun h => absurd h hr))) (Ev.now _))
  · rw [hno (fun h => hs h.1)]
    exact Ev.neg (by simpa using hs) (Ev.now _)
theorem bench_has1 (s : Int) (r : Bool) (x : Int) : Ev (fun k => impl_bench_has.f k s r [x]) (decide (0 ≤ x ∧ x ≤ wrap64 (s - 1))) := by
  unfold impl_bench_has.f
  refine Ev.bind (f := fun _ t => some t) (allWithin_ev [x] 0 _ (by simp)) ?_
  simp only [List.mem_singleton, forall_eq]
  exact Ev.now _
theorem bench_valid_eq (s : Int) (r : Bool) (b : Bool) (hb : b = true ↔ (2 ≤ s ∧ s ≤ 24) ∧ (r = true → 3 ≤ s)) : impl_bench_valid.f s r = some b := by
  unfold impl_bench_valid.f
  rw [within_eq, Option.bind_some]
  by_cases hs : 2 ≤ s ∧ s ≤ 24
  · rw [if_pos (decide_eq_true hs)]
    cases r with
    | true => rw [if_pos rfl]; congr 1; rw [Bool.eq_iff_iff, hb]; simp only [decide_eq_true_eq]; exact ⟨fun h => ⟨hs, fun _ => h⟩, fun h => h.2 (by trivial)⟩
    | false => rw [if_neg (by decide)]; congr 1; rw [Bool.eq_iff_iff, hb]; simp [hs]
  · rw [if_neg (by simpa using hs)]; congr 1; rw [Bool.eq_iff_iff, hb]; simp only [Bool.false_eq_true, false_iff]; exact fun h => hs h.1
theorem isRow_ev (s : Int) (r : Bool) (l : List Int) (hl : l.length ≤ 35184372088832) (b : Bool) (hb : b = true ↔ IsRw s r l) : Ev (fun k => impl_IsRow.f k s r l) b := by
  unfold impl_IsRow.f
  obtain ⟨v, hv⟩ := exists_bool ((2 ≤ s ∧ s ≤ 24) ∧ (r = true → 3 ≤ s))
  obtain ⟨c, hc⟩ := exists_bool (∀ i, i < l.length → rwP l (wrap64 (s - 1)) i)
  have hbc : b = (if c = true then v else false) := by
    rw [Bool.eq_iff_iff, hb]
    unfold IsRw
    constructor
    · rintro ⟨h1, h2, h3, h4⟩
      have hcc : c = true := by
        rw [hc, rwP_all, w64 (by omega) (by omega)]
        exact ⟨fun x hx => by have := h3 x hx; omega, h4⟩
      rw [if_pos hcc, hv]; exact ⟨h1, h2⟩
    · intro h
      by_cases hcc : c = true
      · rw [if_pos hcc, hv] at h
        rw [hc, rwP_all, w64 (by omega) (by omega)] at hcc
        exact ⟨h.1, h.2, fun x hx => by have := hcc.1 x hx; omega, hcc.2⟩
      · rw [if_neg hcc] at h; cases h
  rw [hbc]
  refine ev_dec (fun k i => impl_IsRow.l0 k l (l.length : Int) (i : Int) s r l) l.length (rwP l (wrap64 (s - 1))) (fun c => if c = true then v else false) ?_ ?_ ?_ c hc
  · refine Ev.succ ?_
    simp only [impl_IsRow.l0.eq_2]
    exact Ev.neg (by omega) (Ev.bindc rfl (Ev.bindc (bench_valid_eq s r v hv) (Ev.now _)))
  · intro i hi' hp q h
    refine Ev.succ ?_
    simp only [impl_IsRow.l0.eq_2]
    rw [rd_getD, w64 (n := (i : Int) + 1) (by omega) (by omega), w64 (n := (i : Int) - 1) (by omega) (by omega)]
    refine Ev.pos (by omega) (Ev.pos (by omega) (Ev.pos (by omega) (Ev.bindc rfl (Ev.bind (bench_has1 s r _) (Ev.pos (decide_eq_true hp.1) ?_)))))
    by_cases h0 : (i : Int) > 0
    · have := hp.2 (by omega)
      rw [show (i : Int) - 1 = ((i - 1 : Nat) : Int) by omega, rd_getD]
      exact Ev.pos h0 (Ev.pos (by omega) (Ev.pos (by omega) (Ev.neg (by omega) h)))
    · exact Ev.neg h0 h
  · intro i hi' hp
    refine Ev.succ ?_
    simp only [impl_IsRow.l0.eq_2]
    rw [rd_getD, w64 (n := (i : Int) - 1) (by omega) (by omega)]
    refine Ev.pos (by omega) (Ev.pos (by omega) (Ev.pos (by omega) (Ev.bindc rfl (Ev.bind (bench_has1 s r _) ?_))))
    by_cases h1 : 0 ≤ l.getD i 0 ∧ l.getD i 0 ≤ wrap64 (s - 1)
    · have h2 : ¬ (0 < i → l.getD (i - 1) 0 < l.getD i 0) := fun h => hp ⟨h1, h⟩
      have h0 : 0 < i := Decidable.byContradiction (fun c => h2 (fun h => absurd h c))
      have h3 : ¬ l.getD (i - 1) 0 < l.getD i 0 := fun h => h2 (fun _ => h)
      rw [show (i : Int) - 1 = ((i - 1 : Nat) : Int) by omega, rd_getD]
      exact Ev.pos (decide_eq_true h1) (Ev.pos (by omega) (Ev.pos (by omega) (Ev.pos (by omega) (Ev.pos (by omega) (Ev.now _)))))
    · exact Ev.neg (by simpa using h1) (Ev.now _)
theorem setOf_loop (l : List Int) (h : ∀ x ∈ l, 0 ≤ x ∧ x < 32) (hl : l.length ≤ 35184372088832) : ∀ (d i : Nat), i + d = l.length → Ev (fun k => impl_setOf.l0 k (setN (l.take i) : Int) l (l.length : Int) (i : Int)) (setN l : Int) := by
  intro d
  induction d with
  | zero =>
    intro i hi
    refine Ev.succ ?_
    simp only [impl_setOf.l0.eq_2]
    rw [List.take_of_length_le (by omega)]
    exact Ev.neg (by omega) (Ev.now _)
  | succ d ih =>
    intro i hi
    refine Ev.succ ?_
    simp only [impl_setOf.l0.eq_2]
    have hx := h (l[i]) (List.getElem_mem (by omega))
    rw [rd_nat l i (by omega)]
    refine Ev.pos (by omega) (Ev.pos (by omega) (Ev.pos (by omega) (Ev.pos hx.1 ?_)))
    rw [w64 (by omega) (by omega), shl_u32_one _ hx.1 hx.2]
    rw [(u32_nat _ _ (setN_lt _ (fun x hx => h x (List.mem_of_mem_take hx))) (two_pow_lt32 _ hx.1 hx.2)).2, ← setN_take l i (by omega)]
    exact ih (i + 1) (by omega)
theorem setOf_ev (l : List Int) (h : ∀ x ∈ l, 0 ≤ x ∧ x < 32) (hl : l.length ≤ 35184372088832) : Ev (fun k => impl_setOf.f k l) (setN l : Int) := setOf_loop l h hl l.length 0 (by omega)
theorem szRow_eq (s : Int) (r : Bool) (l : List Int) (a : Int) (hl : l.length ≤ 35184372088832) (h0 : 0 ≤ a) (h1 : a ≤ 1048576) : laws_szRow.f s r l a = some (if a - (l.length : Int) < 0 then -1 else a - (l.length : Int)) := by
  unfold laws_szRow.f
  rw [szIntS_eq l _ hl h0 h1]
  simp only [Option.bind_some]
  by_cases h : a - (l.length : Int) < 0
  · rw [if_pos h, if_pos (by omega)]
  · rw [if_neg h, if_neg h]
theorem toRow_ev (s : Int) (r : Bool) (l : List Int) (hl : l.length ≤ 35184372088832) : Ev (fun k => laws_toRow.f k s r l) (s, r, l) := by
  unfold laws_toRow.f
  exact Ev.bind (f := fun _ t => some (s, r, t)) (toIntS_ev l hl) (Ev.now _)
theorem eqRow_ev (s : Int) (r : Bool) (l : List Int) (hl : l.length ≤ 35184372088832) : Ev (fun k => laws_eqRow.f k s r l s r l) true := by
  unfold laws_eqRow.f
  refine Ev.pos rfl (Ev.neg (by simp) (Ev.bind (eqIntS_ev l hl) (Ev.pos rfl (Ev.now _))))
/-- a line, groups and a distance are valid -/
def GrP (s : Int) (r : Bool) (tk g : List Int) (d : Int) : Prop := IsRw s r tk ∧ r = false ∧ 0 ≤ d ∧ (1 ≤ g.length ∧ g.length ≤ 5) ∧ ∀ x ∈ g, 1 ≤ x
theorem ge1_all (g : List Int) : (∀ i, i < g.length → ¬ g.getD i 0 < 1) ↔ ∀ x ∈ g, 1 ≤ x := by
  constructor
  · intro h x hx
    obtain ⟨i, hi, rfl⟩ := List.mem_iff_getElem.mp hx
    have := h i hi; rw [getD_lt g i hi] at this; omega
  · intro h i hi; rw [getD_lt g i hi]; have := h g[i] (List.getElem_mem hi); omega
theorem l9Groups_ev (s : Int) (r : Bool) (tk g : List Int) (d : Int) (hl : tk.length ≤ 35184372088832) (hg : g.length ≤ 35184372088832) (b : Bool) (hb : b = true ↔ GrP s r tk g d) : Ev (fun k => spec_l9Groups.f k s r tk g d) b := by
  unfold spec_l9Groups.f
  obtain ⟨c, hc⟩ := exists_bool (∀ i, i < g.length → ¬ g.getD i 0 < 1)
  obtain ⟨v, hv⟩ := exists_bool (IsRw s r tk ∧ r = false ∧ 0 ≤ d ∧ (1 ≤ g.length ∧ g.length ≤ 5))
  have hbc : b = (if c = true then v else false) := by
    rw [Bool.eq_iff_iff, hb]
    unfold GrP
    constructor
    · rintro ⟨h1, h2, h3, h4, h5⟩
      rw [if_pos (hc.mpr ((ge1_all g).mpr h5)), hv]; exact ⟨h1, h2, h3, h4⟩
    · intro h
      by_cases hcc : c = true
      · rw [if_pos hcc, hv] at h
        exact ⟨h.1, h.2.1, h.2.2.1, h.2.2.2, (ge1_all g).mp (hc.mp hcc)⟩
      · rw [if_neg hcc] at h; cases h
  rw [hbc]
  refine ev_dec (fun k i => spec_l9Groups.l0 k g d (i : Int) s r tk) g.length (fun i => ¬ g.getD i 0 < 1) (fun c => if c = true then v else false) ?_ ?_ ?_ c hc
  · refine Ev.succ ?_
    simp only [spec_l9Groups.l0.eq_2]
    obtain ⟨w, hw⟩ := exists_bool (IsRw s r tk)
    refine Ev.neg (by omega) (Ev.bind (l2Row_ev s r tk hl w hw) ?_)
    rw [if_pos (show True from trivial)]
    cases w with
    | false =>
      rw [show v = false by
        cases v with
        | false => rfl
        | true => exact absurd (hw.mpr (hv.mp rfl).1) (by decide)]
      exact Ev.neg (by decide) (Ev.now _)
    | true =>
      refine Ev.pos rfl ?_
      cases r with
      | true =>
        rw [show v = false by
          cases v with
          | false => rfl
          | true => exact absurd (hv.mp rfl).2.1 (by decide)]
        exact Ev.pos rfl (Ev.now _)
      | false =>
        refine Ev.neg (by decide) (Ev.bindc (l1In_eq _ _ _) ?_)
        by_cases h5 : 1 ≤ (g.length : Int) ∧ (g.length : Int) ≤ 5
        · refine Ev.pos (decide_eq_true h5) ?_
          rw [show v = decide (d ≥ 0) by
            rw [Bool.eq_iff_iff, hv, decide_eq_true_eq]
            exact ⟨fun h => h.2.2.1, fun h => ⟨hw.mp rfl, rfl, h, by omega⟩⟩]
          exact Ev.now _
        · rw [show v = false by
            cases v with
            | false => rfl
            | true => have := (hv.mp rfl).2.2.2; omega]
          exact Ev.neg (by simpa using h5) (Ev.now _)
  · intro i hi hp q hq
    refine Ev.succ ?_
    simp only [spec_l9Groups.l0.eq_2]
    rw [rd_getD, w64 (by omega) (by omega)]
    exact Ev.pos (by omega) (Ev.pos (by omega) (Ev.neg hp hq))
  · intro i hi hp
    refine Ev.succ ?_
    simp only [spec_l9Groups.l0.eq_2]
    rw [rd_getD]
    exact Ev.pos (by omega) (Ev.pos (by omega) (Ev.pos (Decidable.byContradiction (fun h => hp h)) (Ev.now _)))
theorem isGrouped_ev (s : Int) (r : Bool) (tk g : List Int) (d : Int) (hl : tk.length ≤ 35184372088832) (hg : g.length ≤ 35184372088832) (b : Bool) (hb : b = true ↔ GrP s r tk g d) : Ev (fun k => impl_isGrouped.f k s r tk g d) b := by
  unfold impl_isGrouped.f
  have hno : ¬ GrP s r tk g d → b = false := fun h => by
    cases b with
    | false => rfl
    | true => exact absurd (hb.mp rfl) h
  have bad : ¬ GrP s r tk g d → Ev (fun k => impl_isGrouped.j0 k g true) b := fun h => by
    rw [hno h]
    refine Ev.succ ?_
    simp only [impl_isGrouped.j0.eq_2]
    exact Ev.pos (by trivial) (Ev.now _)
  obtain ⟨w, hw⟩ := exists_bool (IsRw s r tk)
  refine Ev.bind (isRow_ev s r tk hl w hw) ?_
  cases w with
  | false => exact Ev.neg (by decide) (bad (fun h => absurd (hw.mpr h.1) (by decide)))
  | true =>
    refine Ev.pos rfl ?_
    cases r with
    | true => exact Ev.pos rfl (bad (fun h => absurd h.2.1 (by decide)))
    | false =>
      refine Ev.neg (by decide) ?_
      by_cases hd : d < 0
      · exact Ev.pos hd (bad (fun h => by have := h.2.2.1; omega))
      · refine Ev.neg hd (Ev.bindc (within_eq _ _ _) ?_)
        by_cases h5 : 1 ≤ (g.length : Int) ∧ (g.length : Int) ≤ 5
        · rw [decide_eq_true h5]
          refine Ev.succ ?_
          simp only [impl_isGrouped.j0.eq_2]
          refine Ev.neg (by decide) (ev_dec (fun k i => impl_isGrouped.l0 k g (g.length : Int) (i : Int)) g.length (fun i => ¬ g.getD i 0 < 1) id ?_ ?_ ?_ b ?_)
          · refine Ev.succ ?_
            simp only [impl_isGrouped.l0.eq_2]
            exact Ev.neg (by omega) (Ev.now _)
          · intro i hi hp q hq
            refine Ev.succ ?_
            simp only [impl_isGrouped.l0.eq_2]
            rw [rd_getD, w64 (by omega) (by omega)]
            exact Ev.pos (by omega) (Ev.pos (by omega) (Ev.pos (by omega) (Ev.neg hp hq)))
          · intro i hi hp
            refine Ev.succ ?_
            simp only [impl_isGrouped.l0.eq_2]
            rw [rd_getD]
            exact Ev.pos (by omega) (Ev.pos (by omega) (Ev.pos (by omega) (Ev.pos (Decidable.byContradiction (fun h => hp h)) (Ev.now _))))
          · rw [hb, ge1_all]
            unfold GrP
            exact ⟨fun h => h.2.2.2.2, fun h => ⟨hw.mp rfl, rfl, by omega, by omega, h⟩⟩
        · rw [decide_eq_false h5]
          exact bad (fun h => h5 (by have := h.2.2.2.1; omega))
/-- a group of so many at a place lies in the line, away from what is taken and from the groups before -/
def FitR (s : Int) (size p : Int) : Prop := size ≤ s ∧ 0 ≤ p ∧ p ≤ s - size
def FitT (tk : List Int) (size d p : Int) (i : Nat) : Prop := ¬ (p - d ≤ tk.getD i 0 ∧ tk.getD i 0 ≤ p + size - 1 + d)
def FitG (g pl : List Int) (size d p : Int) (i : Nat) : Prop := ¬ (pl.getD i 0 ≤ p + size - 1 + d ∧ p ≤ pl.getD i 0 + g.getD i 0 - 1 + d)
def FitP (s : Int) (tk g pl : List Int) (d p : Int) : Prop := FitR s (g.getD pl.length 0) p ∧ (∀ i, i < tk.length → FitT tk (g.getD pl.length 0) d p i) ∧ (∀ i, i < pl.length → FitG g pl (g.getD pl.length 0) d p i)
theorem l9Fits_ev (s : Nat) (r : Bool) (tk g pl : List Int) (d p : Int) (hs : s ≤ 24) (htk : tk.length ≤ 35184372088832) (hd : 0 ≤ d) (hpl : pl.length < g.length) (hg5 : g.length ≤ 5)
    (ht : ∀ x ∈ tk, 0 ≤ x ∧ x < (s : Int)) (hg : ∀ x ∈ g, 1 ≤ x) (hgw : ∀ x ∈ g, x ≤ 9223372036854775807) (hp : ∀ i, i < pl.length → 0 ≤ pl.getD i 0 ∧ pl.getD i 0 + g.getD i 0 ≤ (s : Int)) (b : Bool) (hb : b = true ↔ FitP (s : Int) tk g pl (mn d s) p) :
    Ev (fun k => spec_l9Fits.f k (s : Int) r tk g d pl p) b := by
  unfold spec_l9Fits.f
  have hsz : 1 ≤ g.getD pl.length 0 ∧ g.getD pl.length 0 ≤ 9223372036854775807 := by
    rw [getD_lt g _ hpl]; exact ⟨hg _ (List.getElem_mem _), hgw _ (List.getElem_mem _)⟩
  have hno : ¬ FitP (s : Int) tk g pl (mn d s) p → b = false := fun h => by
    cases b with
    | false => rfl
    | true => exact absurd (hb.mp rfl) h
  have bad : ¬ FitP (s : Int) tk g pl (mn d s) p → ∀ sz, Ev (fun k => spec_l9Fits.j0 k g d pl p sz true (s : Int) r tk) b := fun h sz => by
    rw [hno h]
    refine Ev.succ ?_
    simp only [spec_l9Fits.j0.eq_2]
    exact Ev.pos (by trivial) (Ev.now _)
  rw [rd_getD]
  refine Ev.pos (by omega) (Ev.pos (by omega) ?_)
  by_cases h1 : g.getD pl.length 0 > (s : Int)
  · exact Ev.pos h1 (bad (fun h => by have := h.1.1; omega) _)
  · refine Ev.neg h1 (Ev.bindc (l1In_eq _ _ _) ?_)
    rw [w64 (by omega) (by omega)]
    by_cases h2 : 0 ≤ p ∧ p ≤ (s : Int) - g.getD pl.length 0
    · rw [decide_eq_true h2]
      have hdm : 0 ≤ mn d s ∧ mn d s ≤ 24 := by unfold mn; split <;> omega
      have hR : FitR (s : Int) (g.getD pl.length 0) p := ⟨by omega, h2.1, h2.2⟩
      refine Ev.succ ?_
      simp only [spec_l9Fits.j0.eq_2]
      refine Ev.neg (by decide) (Ev.bindc (a := mn d s) (by unfold spec_l1Least.f mn; split <;> split <;> first | rfl | (congr 1; omega)) ?_)
      have hb2 : b = true ↔ FitR (s : Int) (g.getD pl.length 0) p ∧ (∀ i, i < tk.length → FitT tk (g.getD pl.length 0) (mn d s) p i) ∧ (∀ i, i < pl.length → FitG g pl (g.getD pl.length 0) (mn d s) p i) := hb
      clear bad hno hb
      generalize mn d s = D at *
      generalize g.getD pl.length 0 = z at *
      -- the second loop
      obtain ⟨c2, hc2⟩ := exists_bool (∀ i, i < pl.length → FitG g pl z D p i)
      have loop2 : Ev (fun k => spec_l9Fits.l1 k g D pl p z ((0 : Nat) : Int)) c2 := by
        refine ev_dec (fun k i => spec_l9Fits.l1 k g D pl p z (i : Int)) pl.length (fun i => ¬ (pl.getD i 0 ≤ p + z - 1 + D ∧ p ≤ pl.getD i 0 + g.getD i 0 - 1 + D)) id ?_ ?_ ?_ c2 hc2
        · refine Ev.succ ?_
          simp only [spec_l9Fits.l1.eq_2]
          exact Ev.neg (by omega) (Ev.now _)
        · intro i hi hP q hq
          have hpi := hp i hi
          have hgi := hg _ (List.getElem_mem (l := g) (n := i) (by omega))
          rw [← getD_lt g i (by omega)] at hgi
          refine Ev.succ ?_
          simp only [spec_l9Fits.l1.eq_2]
          rw [rd_getD, rd_getD, w64 (n := (i : Int) + 1) (by omega) (by omega), w64 (n := p + z) (by omega) (by omega), w64 (n := p + z - 1) (by omega) (by omega), w64 (n := p + z - 1 + D) (by omega) (by omega)]
          rw [w64 (n := pl.getD i 0 + g.getD i 0) (by omega) (by omega), w64 (n := pl.getD i 0 + g.getD i 0 - 1) (by omega) (by omega), w64 (n := pl.getD i 0 + g.getD i 0 - 1 + D) (by omega) (by omega)]
          refine Ev.pos (by omega) (Ev.pos (by omega) ?_)
          by_cases h3 : pl.getD i 0 ≤ p + z - 1 + D
          · exact Ev.pos h3 (Ev.pos (by omega) (Ev.neg (fun h4 => hP ⟨h3, h4⟩) hq))
          · exact Ev.neg h3 hq
        · intro i hi hP
          have hpi := hp i hi
          have hgi := hg _ (List.getElem_mem (l := g) (n := i) (by omega))
          rw [← getD_lt g i (by omega)] at hgi
          have hP2 := Decidable.of_not_not hP
          refine Ev.succ ?_
          simp only [spec_l9Fits.l1.eq_2]
          rw [rd_getD, rd_getD, w64 (n := p + z) (by omega) (by omega), w64 (n := p + z - 1) (by omega) (by omega), w64 (n := p + z - 1 + D) (by omega) (by omega)]
          rw [w64 (n := pl.getD i 0 + g.getD i 0) (by omega) (by omega), w64 (n := pl.getD i 0 + g.getD i 0 - 1) (by omega) (by omega), w64 (n := pl.getD i 0 + g.getD i 0 - 1 + D) (by omega) (by omega)]
          exact Ev.pos (by omega) (Ev.pos (by omega) (Ev.pos hP2.1 (Ev.pos (by omega) (Ev.pos hP2.2 (Ev.now _)))))
      obtain ⟨c1, hc1⟩ := exists_bool (∀ i, i < tk.length → FitT tk z D p i)
      rw [show b = (if c1 = true then c2 else false) by
        rw [Bool.eq_iff_iff, hb2]
        constructor
        · rintro ⟨_, h4, h5⟩; rw [if_pos (hc1.mpr h4), hc2]; exact h5
        · intro h
          by_cases hcc : c1 = true
          · rw [if_pos hcc, hc2] at h; exact ⟨hR, hc1.mp hcc, h⟩
          · rw [if_neg hcc] at h; cases h]
      refine ev_dec (fun k i => spec_l9Fits.l0 k g D pl p z (i : Int) (s : Int) r tk) tk.length (fun i => ¬ (p - D ≤ tk.getD i 0 ∧ tk.getD i 0 ≤ p + z - 1 + D)) (fun c => if c = true then c2 else false) ?_ ?_ ?_ c1 hc1
      · refine Ev.succ ?_
        simp only [spec_l9Fits.l0.eq_2]
        exact Ev.neg (by omega) loop2
      · intro i hi hP q hq
        refine Ev.succ ?_
        simp only [spec_l9Fits.l0.eq_2]
        rw [rd_getD, w64 (n := (i : Int) + 1) (by omega) (by omega), w64 (n := p + z) (by omega) (by omega), w64 (n := p + z - 1) (by omega) (by omega), w64 (n := p + z - 1 + D) (by omega) (by omega), w64 (n := p - D) (by omega) (by omega)]
        exact Ev.pos (by omega) (Ev.pos (by omega) (Ev.bindc (l1In_eq _ _ _) (Ev.neg (by simpa using hP) hq)))
      · intro i hi hP
        refine Ev.succ ?_
        simp only [spec_l9Fits.l0.eq_2]
        rw [rd_getD, w64 (n := p + z) (by omega) (by omega), w64 (n := p + z - 1) (by omega) (by omega), w64 (n := p + z - 1 + D) (by omega) (by omega), w64 (n := p - D) (by omega) (by omega)]
        exact Ev.pos (by omega) (Ev.pos (by omega) (Ev.bindc (l1In_eq _ _ _) (Ev.pos (decide_eq_true (Decidable.of_not_not hP)) (Ev.now _))))
    · rw [decide_eq_false h2]
      exact bad (fun h => h2 ⟨h.1.2.1, h.1.2.2⟩) _
/-- so many seats from a place on -/
def ivl (n p : Nat) : Nat := (2 ^ n - 1) * 2 ^ p
theorem ivl_bit (n p j : Nat) : (ivl n p).testBit j = (decide (p ≤ j) && decide (j < p + n)) := by
  unfold ivl
  rw [Nat.testBit_mul_two_pow, Nat.testBit_two_pow_sub_one]
  by_cases h : p ≤ j
  · have : (j - p < n) ↔ (j < p + n) := by omega
    simp [h, this]
  · simp [h]
theorem ivl_lt (n p : Nat) (h : n + p ≤ 32) : ivl n p < 4294967296 := by
  refine Nat.lt_pow_two_of_testBit (n := 32) _ (fun j hj => ?_)
  rw [ivl_bit]; simp; omega
theorem shl_u32 (a : Nat) (p : Nat) (hp : p < 32) (h : a * 2 ^ p < 4294967296) : shl .u32 (a : Int) (p : Int) = ((a * 2 ^ p : Nat) : Int) := by
  unfold shl
  rw [Nat.min_eq_left (by simp [IntKind.bits]; omega), IntKind.wrap_u32, Int.toNat_natCast]
  have e : ((a : Int) * 2 ^ p) = ((a * 2 ^ p : Nat) : Int) := by push_cast; rfl
  rw [e]; exact Int.emod_eq_of_lt (Int.natCast_nonneg _) (Int.ofNat_lt.mpr h)
/-- the group with all that is so near to it -/
def ExpB (n p i E : Nat) : Prop := E < 4294967296 ∧ ∀ j, E.testBit j = (decide (j < 32) && (decide (p ≤ j + i) && decide (j < p + n + i)))
theorem exp_step (n p i E : Nat) (hn : 1 ≤ n) (hp : p + n ≤ 24) (h : ExpB n p i E) : ExpB n p (i + 1) (E ||| ((E * 2 % 4294967296) ||| E / 2)) := by
  obtain ⟨h1, h2⟩ := h
  refine ⟨?_, fun j => ?_⟩
  · refine Nat.or_lt_two_pow (n := 32) h1 (Nat.or_lt_two_pow (n := 32) (Nat.mod_lt _ (by decide)) (by omega))
  · rw [Nat.testBit_or, Nat.testBit_or, show 4294967296 = 2 ^ 32 from rfl, Nat.testBit_mod_two_pow, show E * 2 = E * 2 ^ 1 from rfl, Nat.testBit_mul_two_pow, Nat.testBit_div_two, h2, h2, h2]
    rw [Bool.eq_iff_iff]
    simp only [Bool.or_eq_true, Bool.and_eq_true, decide_eq_true_eq]
    omega
theorem expand_ev (T n p : Nat) (res : Int) (hn : 1 ≤ n) (hp : p + n ≤ 24) (hT : T < 4294967296) (D : Nat) (b : Bool) (hb : b = true ↔ ∀ j, j < 32 → p ≤ j + D → j < p + n + D → T.testBit j = false) :
    ∀ d i E, i + d = D → ExpB n p i E → D ≤ 1000 → Ev (fun k => impl_Row_group.l0 k (T : Int) res (E : Int) (D : Int) (i : Int)) (res, b) := by
  intro d
  induction d with
  | zero =>
    intro i E hi hE hD
    refine Ev.succ ?_
    simp only [impl_Row_group.l0.eq_2]
    refine Ev.neg (by omega) ?_
    rw [(u32_nat E T hE.1 hT).1]
    have e : (((E &&& T : Nat) : Int) == 0) = b := by
      rw [Bool.eq_iff_iff, hb]
      simp only [beq_iff_eq]
      constructor
      · intro h j h1 h2 h3
        have h0 : E &&& T = 0 := by omega
        have := congrArg (fun x => Nat.testBit x j) h0
        simp only [Nat.testBit_and, Nat.zero_testBit, hE.2] at this
        have h4 : (decide (j < 32) && (decide (p ≤ j + i) && decide (j < p + n + i))) = true := by
          simp only [Bool.and_eq_true, decide_eq_true_eq]; omega
        rw [h4, Bool.true_and] at this
        exact this
      · intro h
        have : E &&& T = 0 := by
          refine Nat.eq_of_testBit_eq (fun j => ?_)
          rw [Nat.testBit_and, Nat.zero_testBit, hE.2]
          by_cases h4 : j < 32 ∧ p ≤ j + i ∧ j < p + n + i
          · rw [h j h4.1 (by omega) (by omega), Bool.and_false]
          · have : (decide (j < 32) && (decide (p ≤ j + i) && decide (j < p + n + i))) = false := by
              rw [Bool.eq_false_iff]; simp only [ne_eq, Bool.and_eq_true, decide_eq_true_eq]; omega
            rw [this, Bool.false_and]
        omega
    rw [e]
    exact Ev.now _
  | succ d ih =>
    intro i E hi hE hD
    refine Ev.succ ?_
    simp only [impl_Row_group.l0.eq_2]
    refine Ev.pos (by omega) ?_
    rw [w64 (by omega) (by omega)]
    have e1 : ((E : Int) * 2) % 4294967296 = ((E * 2 % 4294967296 : Nat) : Int) := by omega
    have e2 : (E : Int) / 2 = ((E / 2 : Nat) : Int) := by omega
    have hE1 := hE.1
    rw [e1, e2, (u32_nat _ _ (Nat.mod_lt _ (by decide)) (by omega)).2, (u32_nat _ _ hE1 (Nat.or_lt_two_pow (n := 32) (Nat.mod_lt _ (by decide)) (by omega))).2]
    exact ih (i + 1) _ (by omega) (exp_step n p i E hn hp hE) hD
theorem group_ev (s : Nat) (r : Bool) (tk : List Int) (T : Nat) (n d p : Int) (hs : s ≤ 24) (hT : T < 4294967296) (hn : 1 ≤ n) (hd : 0 ≤ d) (hp : 0 ≤ p ∧ p < (s : Int)) (hok : n ≤ (s : Int) ∧ p + n ≤ (s : Int))
    (b : Bool) (hb : b = true ↔ ∀ j : Nat, j < 32 → p ≤ (j : Int) + mn d s → (j : Int) < p + n + mn d s → T.testBit j = false) :
    Ev (fun k => impl_Row_group.f k (s : Int) r tk (T : Int) n d p) ((ivl n.toNat p.toNat : Int), b) := by
  obtain ⟨N, rfl⟩ : ∃ N : Nat, n = (N : Int) := ⟨n.toNat, by omega⟩
  obtain ⟨P, rfl⟩ : ∃ P : Nat, p = (P : Int) := ⟨p.toNat, by omega⟩
  obtain ⟨D, hD⟩ : ∃ D : Nat, mn d s = (D : Int) := ⟨(mn d s).toNat, by unfold mn; split <;> omega⟩
  have hD24 : D ≤ 24 := by unfold mn at hD; split at hD <;> omega
  unfold impl_Row_group.f
  refine Ev.neg (by omega) (Ev.neg (by omega) ?_)
  rw [w64 (by omega) (by omega)]
  refine Ev.succ ?_
  simp only [impl_Row_group.j0.eq_2]
  refine Ev.neg (by simp; omega) (Ev.pos (by omega) (Ev.pos (by omega) ?_))
  have hp1 := two_pow_lt32 (N : Int) (by omega) (by omega)
  rw [Int.toNat_natCast] at hp1
  have hp2 : 0 < 2 ^ N := Nat.two_pow_pos N
  have e1 : ((shl .u32 1 (N : Int)) - 1) % 4294967296 = ((2 ^ N - 1 : Nat) : Int) := by
    rw [shl_u32_one _ (by omega) (by omega), Int.toNat_natCast]
    generalize 2 ^ N = t at *
    omega
  have hlt : (2 ^ N - 1) * 2 ^ P < 4294967296 := ivl_lt N P (by omega)
  rw [e1, shl_u32 _ P (by omega) hlt, hD]
  simp only [Int.toNat_natCast]
  exact expand_ev T N P _ (by omega) (by omega) hT D b (by
    rw [hb, hD]
    constructor
    · intro h j h1 h2 h3; exact h j h1 (by omega) (by omega)
    · intro h j h1 h2 h3; exact h j h1 (by omega) (by omega)) D 0 (ivl N P) (by omega) ⟨ivl_lt N P (by omega), fun j => by
      rw [ivl_bit, Bool.eq_iff_iff]; simp only [Bool.and_eq_true, decide_eq_true_eq]; omega⟩ (by omega)
theorem group_no (s : Nat) (r : Bool) (tk : List Int) (T : Nat) (n d p : Int) (hs : s ≤ 24) (hn : 1 ≤ n) (hp : 0 ≤ p ∧ p < (s : Int)) (hok : ¬ (n ≤ (s : Int) ∧ p + n ≤ (s : Int))) :
    Ev (fun k => impl_Row_group.f k (s : Int) r tk (T : Int) n d p) (0, false) := by
  have bad : Ev (fun k => impl_Row_group.j0 k (T : Int) n d p true (s : Int) r tk) (0, false) := by
    refine Ev.succ ?_
    simp only [impl_Row_group.j0.eq_2]
    exact Ev.pos (by trivial) (Ev.now _)
  unfold impl_Row_group.f
  by_cases h1 : n > (s : Int)
  · exact Ev.pos h1 bad
  · refine Ev.neg h1 (Ev.neg (by omega) ?_)
    rw [w64 (by omega) (by omega), decide_eq_true (by omega)]
    exact bad
theorem pairwise_nodup {l : List Int} (h : l.Pairwise (· < ·)) : l.Nodup := h.imp (fun h => by omega)
/-- the taken seats behind some groups -/
def tkN (tk g pl : List Int) : Nat → Nat
  | 0 => setN tk
  | i + 1 => tkN tk g pl i ||| ivl (g.getD i 0).toNat (pl.getD i 0).toNat
theorem tkN_bit (tk g pl : List Int) (i j : Nat) : (tkN tk g pl i).testBit j = true ↔ (∃ x ∈ tk, x.toNat = j) ∨ ∃ q, q < i ∧ (pl.getD q 0).toNat ≤ j ∧ j < (pl.getD q 0).toNat + (g.getD q 0).toNat := by
  induction i with
  | zero =>
    simp only [tkN, setN_bit, decide_eq_true_eq]
    constructor
    · exact fun h => .inl h
    · rintro (h | ⟨q, h, _⟩)
      · exact h
      · omega
  | succ i ih =>
    rw [tkN, Nat.testBit_or, Bool.or_eq_true, ih, ivl_bit]
    simp only [Bool.and_eq_true, decide_eq_true_eq]
    constructor
    · rintro ((h | ⟨q, h1, h2⟩) | h)
      · exact .inl h
      · exact .inr ⟨q, by omega, h2⟩
      · exact .inr ⟨i, by omega, h⟩
    · rintro (h | ⟨q, h1, h2⟩)
      · exact .inl (.inl h)
      · rcases Nat.lt_or_ge q i with h3 | h3
        · exact .inl (.inr ⟨q, h3, h2⟩)
        · rw [show q = i by omega] at h2; exact .inr h2
/-- the places so far are right -/
def PlOk (s : Int) (tk g pl : List Int) (D : Int) (i : Nat) : Prop := FitP s tk g (pl.take i) D (pl.getD i 0)
theorem getD_take (pl : List Int) (i q : Nat) (h : q < i) : (pl.take i).getD q 0 = pl.getD q 0 := by
  rw [List.getD_eq_getElem?_getD, List.getD_eq_getElem?_getD, List.getElem?_take, if_pos h]
theorem plOk_iff (s : Int) (tk g pl : List Int) (D : Int) (i : Nat) (hi : i < pl.length) : PlOk s tk g pl D i ↔ FitR s (g.getD i 0) (pl.getD i 0) ∧ (∀ q, q < tk.length → FitT tk (g.getD i 0) D (pl.getD i 0) q) ∧ (∀ q, q < i → FitG g pl (g.getD i 0) D (pl.getD i 0) q) := by
  unfold PlOk FitP
  rw [List.length_take, Nat.min_eq_left (by omega)]
  constructor
  · rintro ⟨a, b, c⟩
    refine ⟨a, b, fun q hq => ?_⟩
    have := c q hq
    unfold FitG at this ⊢
    rw [getD_take pl i q hq] at this; exact this
  · rintro ⟨a, b, c⟩
    refine ⟨a, b, fun q hq => ?_⟩
    have := c q hq
    unfold FitG at this ⊢
    rw [getD_take pl i q hq]; exact this
theorem tkN_lt (s : Int) (tk g pl : List Int) (hs : s ≤ 24) (ht : ∀ x ∈ tk, 0 ≤ x ∧ x < s) : ∀ i, (∀ q, q < i → 0 ≤ pl.getD q 0 ∧ pl.getD q 0 + g.getD q 0 ≤ s ∧ 1 ≤ g.getD q 0) → tkN tk g pl i < 4294967296 := by
  intro i
  induction i with
  | zero => intro _; exact setN_lt tk (fun x hx => by have := ht x hx; omega)
  | succ i ih =>
    intro h
    have := h i (by omega)
    exact Nat.or_lt_two_pow (n := 32) (ih (fun q hq => h q (by omega))) (ivl_lt _ _ (by omega))
/-- what is free around a group: by the set, and by the lists -/
theorem group_free (s : Nat) (tk g pl : List Int) (D : Int) (hD : 0 ≤ D) (hs : s ≤ 24) (ht : ∀ x ∈ tk, 0 ≤ x ∧ x < (s : Int)) (i : Nat) (hpl : i < pl.length)
    (h : ∀ q, q < i → 0 ≤ pl.getD q 0 ∧ pl.getD q 0 + g.getD q 0 ≤ (s : Int) ∧ 1 ≤ g.getD q 0) (hR : FitR (s : Int) (g.getD i 0) (pl.getD i 0)) (h1 : 1 ≤ g.getD i 0) :
    (∀ j : Nat, j < 32 → pl.getD i 0 ≤ (j : Int) + D → (j : Int) < pl.getD i 0 + g.getD i 0 + D → (tkN tk g pl i).testBit j = false) ↔ PlOk (s : Int) tk g pl D i := by
  rw [plOk_iff _ _ _ _ _ _ hpl]
  constructor
  · intro hf
    refine ⟨hR, fun q hq => ?_, fun q hq => ?_⟩
    · unfold FitT
      rintro ⟨h2, h3⟩
      have hx := ht (tk.getD q 0) (by rw [getD_lt tk q hq]; exact List.getElem_mem hq)
      have := hf (tk.getD q 0).toNat (by omega) (by omega) (by omega)
      have hb := (tkN_bit tk g pl i (tk.getD q 0).toNat).mpr (.inl ⟨tk.getD q 0, by rw [getD_lt tk q hq]; exact List.getElem_mem hq, rfl⟩)
      rw [hb] at this; cases this
    · unfold FitG
      rintro ⟨h2, h3⟩
      have hq2 := h q hq
      -- a seat of both
      have := hf (mx (pl.getD q 0) (pl.getD i 0 - D)).toNat (by unfold mx; split <;> omega) (by unfold mx; split <;> omega) (by unfold mx FitR at *; split <;> omega)
      have hb := (tkN_bit tk g pl i (mx (pl.getD q 0) (pl.getD i 0 - D)).toNat).mpr (.inr ⟨q, hq, by unfold mx; split <;> omega, by unfold mx; split <;> omega⟩)
      rw [hb] at this; cases this
  · rintro ⟨_, h2, h3⟩ j hj h4 h5
    rw [Bool.eq_false_iff]
    intro hb
    rcases (tkN_bit tk g pl i j).mp hb with ⟨x, hx, e⟩ | ⟨q, hq, h6, h7⟩
    · obtain ⟨q, hq, rfl⟩ := List.mem_iff_getElem.mp hx
      have := h2 q hq
      unfold FitT at this
      rw [getD_lt tk q hq] at this
      have := ht _ hx
      omega
    · have := h3 q hq
      unfold FitG at this
      have := h q hq
      omega
theorem mn_bound (d : Int) (s : Nat) (hd : 0 ≤ d) : 0 ≤ mn d s ∧ mn d s ≤ s := by unfold mn; split <;> omega
theorem plOk_range {s : Int} {tk g pl : List Int} {D : Int} {i : Nat} (hi : i < pl.length) (h : PlOk s tk g pl D i) : 0 ≤ pl.getD i 0 ∧ pl.getD i 0 + g.getD i 0 ≤ s := by
  have := ((plOk_iff s tk g pl D i hi).mp h).1
  unfold FitR at this; omega
noncomputable instance fitP_dec (s : Int) (tk g pl : List Int) (D p : Int) : Decidable (FitP s tk g pl D p) := Classical.propDecidable _
/-- all placings that begin with some places, in order -/
noncomputable def comps (s : Nat) (tk g : List Int) (D : Int) : Nat → List Int → List (List Int)
  | 0, pl => [pl]
  | e + 1, pl => (List.range' 0 s).flatMap fun p : Nat => if FitP (s : Int) tk g pl D (p : Int) then comps s tk g D e (pl ++ [(p : Int)]) else []
/-- a visitor goes on as long as it is told to -/
def runV {σ : Type} (vis : List Int → σ → Bool × σ) : List (List Int) → σ → Bool × σ
  | [], st => (true, st)
  | c :: cs, st => if (vis c st).1 = true then runV vis cs (vis c st).2 else (false, (vis c st).2)
theorem runV_one {σ : Type} (vis : List Int → σ → Bool × σ) (c : List Int) (st : σ) : runV vis [c] st = vis c st := by
  simp only [runV]
  rcases h : vis c st with ⟨b, s⟩
  cases b <;> simp
theorem runV_append {σ : Type} (vis : List Int → σ → Bool × σ) (a b : List (List Int)) (st : σ) : runV vis (a ++ b) st = if (runV vis a st).1 = true then runV vis b (runV vis a st).2 else (false, (runV vis a st).2) := by
  induction a generalizing st with
  | nil => simp [runV]
  | cons c cs ih =>
    simp only [List.cons_append, runV]
    by_cases h : (vis c st).1 = true
    · simp only [h, if_true]; exact ih _
    · simp [h]
theorem tkN_congr (tk g pl pl' : List Int) (i : Nat) (h : ∀ q, q < i → pl.getD q 0 = pl'.getD q 0) : tkN tk g pl i = tkN tk g pl' i := by
  induction i with
  | zero => rfl
  | succ i ih => simp only [tkN]; rw [ih (fun q hq => h q (by omega)), h i (by omega)]
theorem getD_snoc_lt (pl : List Int) (x : Int) (q : Nat) (h : q < pl.length) : (pl ++ [x]).getD q 0 = pl.getD q 0 := by
  rw [List.getD_eq_getElem?_getD, List.getD_eq_getElem?_getD, List.getElem?_append_left h]
theorem getD_snoc (pl : List Int) (x : Int) : (pl ++ [x]).getD pl.length 0 = x := by
  rw [List.getD_eq_getElem?_getD, List.getElem?_append_right (by omega)]; simp
def Vld (s : Nat) (g pl : List Int) : Prop := ∀ q, q < pl.length → 0 ≤ pl.getD q 0 ∧ pl.getD q 0 + g.getD q 0 ≤ (s : Int)
theorem vld_snoc {s : Nat} {tk g pl : List Int} {D : Int} {p : Int} (h : Vld s g pl) (hf : FitP (s : Int) tk g pl D p) : Vld s g (pl ++ [p]) := by
  intro q hq
  rw [List.length_append, List.length_singleton] at hq
  rcases Nat.lt_or_ge q pl.length with h1 | h1
  · rw [getD_snoc_lt pl p q h1]; exact h q h1
  · rw [show q = pl.length by omega, getD_snoc]
    have := hf.1
    unfold FitR at this; omega
theorem fitP_ok (s : Int) (tk g pl : List Int) (D p : Int) : PlOk s tk g (pl ++ [p]) D pl.length ↔ FitP s tk g pl D p := by
  unfold PlOk
  rw [List.take_left', getD_snoc]; rfl
theorem fill_ev {σ : Type} (vis : List Int → σ → Bool × σ) (s : Nat) (r : Bool) (tk g : List Int) (d : Int) (h : GrP (s : Int) r tk g d) (hgw : ∀ x ∈ g, x ≤ 9223372036854775807) :
    ∀ (e : Nat) (pl : List Int) (st : σ), pl.length + e = g.length → Vld s g pl → Ev (fun k => impl_Row_placings_1.f vis k pl ((tkN tk g pl pl.length : Nat) : Int) g r (s : Int) d tk st) (runV vis (comps s tk g (mn d s) e pl) st) := by
  obtain ⟨hrow, hr, hd, hg5, hg⟩ := h
  have hs := hrow.1
  have ht := hrow.2.2.1
  have hg1 : ∀ i, i < g.length → 1 ≤ g.getD i 0 ∧ g.getD i 0 ≤ 9223372036854775807 := fun i hi => by rw [getD_lt g i hi]; exact ⟨hg _ (List.getElem_mem hi), hgw _ (List.getElem_mem hi)⟩
  intro e
  induction e with
  | zero =>
    intro pl st hl hv
    refine Ev.succ ?_
    simp only [impl_Row_placings_1.f.eq_2]
    simp only [comps]
    rw [runV_one]
    exact Ev.pos (by omega) (Ev.now _)
  | succ e ih =>
    intro pl st hl hv
    refine Ev.succ ?_
    simp only [impl_Row_placings_1.f.eq_2]
    refine Ev.neg (by omega) ?_
    have hgi := hg1 pl.length (by omega)
    have hrange : ∀ (p : Int) q, q < pl.length → 0 ≤ (pl ++ [p]).getD q 0 ∧ (pl ++ [p]).getD q 0 + g.getD q 0 ≤ (s : Int) ∧ 1 ≤ g.getD q 0 := fun p q hq => by
      rw [getD_snoc_lt pl p q hq]
      have := hv q hq
      have := hg1 q (by omega)
      omega
    have hTe : ∀ p : Int, tkN tk g pl pl.length = tkN tk g (pl ++ [p]) pl.length := fun p => tkN_congr tk g _ _ _ (fun q hq => (getD_snoc_lt pl p q hq).symm)
    have loop : ∀ (m p : Nat) (st : σ), p + m = s → Ev (fun k => impl_Row_placings_1.l0 vis k pl ((tkN tk g pl pl.length : Nat) : Int) g r (s : Int) d tk (s : Int) (p : Int) st) (runV vis ((List.range' p m).flatMap fun p : Nat => if FitP (s : Int) tk g pl (mn d s) (p : Int) then comps s tk g (mn d s) e (pl ++ [(p : Int)]) else []) st) := by
      intro m
      induction m with
      | zero =>
        intro p st hp
        refine Ev.succ ?_
        simp only [impl_Row_placings_1.l0.eq_2]
        exact Ev.neg (by omega) (Ev.now _)
      | succ m ihm =>
        intro p st hp
        refine Ev.succ ?_
        simp only [impl_Row_placings_1.l0.eq_2]
        rw [rd_getD]
        refine Ev.pos (by omega) (Ev.pos (by omega) ?_)
        rw [List.range'_succ, List.flatMap_cons, runV_append]
        have hT := tkN_lt (s : Int) tk g (pl ++ [(p : Int)]) (by omega) ht pl.length (hrange (p : Int))
        have e1 : wrap64 ((p : Int) + 1) = ((p + 1 : Nat) : Int) := by rw [w64 (by omega) (by omega)]; omega
        by_cases hR : FitR (s : Int) (g.getD pl.length 0) (p : Int)
        · obtain ⟨c, hc⟩ := exists_bool (FitP (s : Int) tk g pl (mn d s) (p : Int))
          have hR' := hR
          unfold FitR at hR'
          refine Ev.bind (a := ((ivl (g.getD pl.length 0).toNat (p : Int).toNat : Int), c)) ?_ ?_
          · rw [hTe (p : Int)]
            refine group_ev s r tk (tkN tk g (pl ++ [(p : Int)]) pl.length) (g.getD pl.length 0) d (p : Int) (by omega) hT hgi.1 hd (by omega) (by omega) c ?_
            have hfree := group_free s tk g (pl ++ [(p : Int)]) (mn d s) (mn_bound d s hd).1 (by omega) ht pl.length (by simp) (hrange (p : Int)) (by rw [getD_snoc]; exact hR) hgi.1
            rw [getD_snoc, fitP_ok] at hfree
            rw [hc, hfree]
          · cases c with
            | true =>
              have hf := hc.mp rfl
              refine Ev.pos rfl ?_
              rw [if_pos hf]
              have hih := ih (pl ++ [(p : Int)]) st (by simp; omega) (vld_snoc hv hf)
              have e2 : ((tkN tk g (pl ++ [(p : Int)]) (pl ++ [(p : Int)]).length : Nat) : Int) = Go.bits .or .u32 ((tkN tk g pl pl.length : Nat) : Int) (ivl (g.getD pl.length 0).toNat (p : Int).toNat : Int) := by
                rw [List.length_append, List.length_singleton, tkN, getD_snoc, hTe (p : Int), (u32_nat _ _ hT (ivl_lt _ _ (by omega))).2]
              rw [e2] at hih
              refine Ev.bind hih ?_
              by_cases ho : (runV vis (comps s tk g (mn d s) e (pl ++ [(p : Int)])) st).1 = true
              · rw [if_pos ho, e1]
                exact Ev.pos ho (ihm (p + 1) _ (by omega))
              · rw [if_neg ho]
                exact Ev.neg ho (Ev.now _)
            | false =>
              have hf : ¬ FitP (s : Int) tk g pl (mn d s) (p : Int) := fun hn => absurd (hc.mpr hn) (by decide)
              rw [if_neg hf]
              simp only [runV, if_true]
              rw [e1]
              exact Ev.neg (by decide) (ihm (p + 1) _ (by omega))
        · have hf : ¬ FitP (s : Int) tk g pl (mn d s) (p : Int) := fun hn => hR hn.1
          rw [if_neg hf]
          simp only [runV, if_true]
          rw [e1]
          refine Ev.bind (group_no s r tk (tkN tk g pl pl.length) (g.getD pl.length 0) d (p : Int) (by omega) hgi.1 (by omega) (fun hc => hR ⟨hc.1, by omega, by omega⟩)) (Ev.neg (by decide) (ihm (p + 1) _ (by omega)))
    rw [comps]
    exact loop s 0 st (by omega)
theorem placings_ev {σ : Type} (vis : List Int → σ → Bool × σ) (s : Nat) (r : Bool) (tk g : List Int) (d : Int) (h : GrP (s : Int) r tk g d) (hgw : ∀ x ∈ g, x ≤ 9223372036854775807) (st : σ) :
    Ev (fun k => impl_Row_placings.f vis k (s : Int) r tk g d st) (runV vis (comps s tk g (mn d s) g.length []) st) := by
  have hrow := h.1
  have ht := hrow.2.2.1
  have hs := hrow.1
  have h32 : ∀ x ∈ tk, 0 ≤ x ∧ x < 32 := fun x hx => by have := ht x hx; omega
  have htl : tk.length ≤ 24 := by
    have := ph_nodup_len s tk (pairwise_nodup hrow.2.2.2) ht
    omega
  unfold impl_Row_placings.f
  refine Ev.bind (a := ((setN tk : Nat) : Int)) (by unfold impl_Row_taken.f; exact Ev.bind (f := fun _ t => some t) (setOf_ev tk h32 (by omega)) (Ev.now _)) ?_
  exact fill_ev vis s r tk g d h hgw g.length [] st (by simp) (fun q hq => by simp at hq)
theorem plOwn_eq (l : List Int) (h : l.length ≤ 1000) : spec_l1Own.f l = some l := by
  unfold spec_l1Own.f
  simp only [Option.bind_some, List.nil_append]
  rw [if_pos (by simp; omega)]
/-- what the search keeps: the first placing and how many there are -/
def stp (st : List Int × Int) (c : List Int) : List Int × Int := if st.2 = 0 then (c, wrap64 (st.2 + 1)) else (st.1, wrap64 (st.2 + 1))
theorem place_all (s : Nat) (r : Bool) (tk g : List Int) (d : Int) (h : GrP (s : Int) r tk g d) (htk : tk.length ≤ 35184372088832) (hgw : ∀ x ∈ g, x ≤ 9223372036854775807) :
    ∀ (e : Nat) (pl : List Int) (st : List Int × Int), pl.length + e = g.length → Vld s g pl → Ev (fun k => spec_l9Place.f k (s : Int) r tk g d pl false st.1 st.2) ((comps s tk g (mn d s) e pl).foldl stp st) := by
  obtain ⟨hrow, hr, hd, hg5, hg⟩ := h
  have hs := hrow.1
  have ht := hrow.2.2.1
  intro e
  induction e with
  | zero =>
    intro pl st hl hv
    refine Ev.succ ?_
    simp only [spec_l9Place.f.eq_2]
    simp only [comps, List.foldl_cons, List.foldl_nil, stp]
    refine Ev.pos (by omega) ?_
    by_cases h0 : st.2 = 0
    · exact Ev.pos h0 (by rw [if_pos h0]; exact Ev.now _)
    · exact Ev.neg h0 (by rw [if_neg h0]; exact Ev.now _)
  | succ e ih =>
    intro pl st hl hv
    refine Ev.succ ?_
    simp only [spec_l9Place.f.eq_2]
    refine Ev.neg (by omega) ?_
    have loop : ∀ (m p : Nat) (st : List Int × Int), p + m = s → Ev (fun k => spec_l9Place.l0 k g d pl false (p : Int) (s : Int) r tk st.1 st.2) (((List.range' p m).flatMap fun p : Nat => if FitP (s : Int) tk g pl (mn d s) (p : Int) then comps s tk g (mn d s) e (pl ++ [(p : Int)]) else []).foldl stp st) := by
      intro m
      induction m with
      | zero =>
        intro p st hp
        refine Ev.succ ?_
        simp only [spec_l9Place.l0.eq_2]
        refine Ev.neg (by omega) (Ev.succ ?_)
        simp only [spec_l9Place.j1.eq_2]
        exact Ev.neg (by decide) (Ev.now _)
      | succ m ihm =>
        intro p st hp
        refine Ev.succ ?_
        simp only [spec_l9Place.l0.eq_2]
        refine Ev.pos (by omega) (Ev.neg (by decide) (Ev.succ ?_))
        simp only [spec_l9Place.j1.eq_2]
        refine Ev.pos (by decide) ?_
        rw [List.range'_succ, List.flatMap_cons, List.foldl_append]
        have e1 : wrap64 ((p : Int) + 1) = ((p + 1 : Nat) : Int) := by rw [w64 (by omega) (by omega)]; omega
        obtain ⟨c, hc⟩ := exists_bool (FitP (s : Int) tk g pl (mn d s) (p : Int))
        refine Ev.bind (l9Fits_ev s r tk g pl d (p : Int) (by omega) htk hd (by omega) hg5.2 ht hg hgw hv c hc) ?_
        cases c with
        | true =>
          have hf := hc.mp rfl
          rw [if_pos hf, e1]
          refine Ev.pos rfl (Ev.bindc (plOwn_eq pl (by omega)) (Ev.bindc rfl (Ev.pos (by simp; omega) (Ev.bind (ih (pl ++ [(p : Int)]) st (by simp; omega) (vld_snoc hv hf)) ?_))))
          exact ihm (p + 1) _ (by omega)
        | false =>
          have hf : ¬ FitP (s : Int) tk g pl (mn d s) (p : Int) := fun hn => absurd (hc.mpr hn) (by decide)
          rw [if_neg hf, e1]
          exact Ev.neg (by decide) (ihm (p + 1) _ (by omega))
    rw [comps]
    exact loop s 0 st (by omega)
/-- the first one, if there is one -/
def fst1 (f : List Int) : List (List Int) → List Int × Int
  | [] => (f, 0)
  | c :: _ => (c, 1)
theorem fst1_append (f : List Int) (a b : List (List Int)) : fst1 f (a ++ b) = if a = [] then fst1 f b else fst1 f a := by
  cases a with
  | nil => simp
  | cons c cs => simp [fst1]
theorem place_one (s : Nat) (r : Bool) (tk g : List Int) (d : Int) (h : GrP (s : Int) r tk g d) (htk : tk.length ≤ 35184372088832) (hgw : ∀ x ∈ g, x ≤ 9223372036854775807) (f : List Int) :
    ∀ (e : Nat) (pl : List Int), pl.length + e = g.length → Vld s g pl → Ev (fun k => spec_l9Place.f k (s : Int) r tk g d pl true f 0) (fst1 f (comps s tk g (mn d s) e pl)) := by
  obtain ⟨hrow, hr, hd, hg5, hg⟩ := h
  have hs := hrow.1
  have ht := hrow.2.2.1
  intro e
  induction e with
  | zero =>
    intro pl hl hv
    refine Ev.succ ?_
    simp only [spec_l9Place.f.eq_2]
    simp only [comps, fst1]
    refine Ev.pos (by omega) (Ev.pos trivial ?_)
    rw [w64 (by omega) (by omega)]
    exact Ev.now _
  | succ e ih =>
    intro pl hl hv
    refine Ev.succ ?_
    simp only [spec_l9Place.f.eq_2]
    refine Ev.neg (by omega) ?_
    have over : ∀ (p : Nat) (c : List Int), p ≤ s → Ev (fun k => spec_l9Place.l0 k g d pl true (p : Int) (s : Int) r tk c 1) (c, 1) := by
      intro p c hp
      refine Ev.succ ?_
      simp only [spec_l9Place.l0.eq_2]
      have hj : Ev (fun n => spec_l9Place.j1 n g d pl true (p : Int) false (s : Int) r tk c 1) (c, 1) := by
        refine Ev.succ ?_
        simp only [spec_l9Place.j1.eq_2]
        exact Ev.neg (by decide) (Ev.now _)
      by_cases hps : (p : Int) < (s : Int)
      · exact Ev.pos hps (Ev.pos trivial hj)
      · exact Ev.neg hps hj
    have loop : ∀ (m p : Nat), p + m = s → Ev (fun k => spec_l9Place.l0 k g d pl true (p : Int) (s : Int) r tk f 0) (fst1 f ((List.range' p m).flatMap fun p : Nat => if FitP (s : Int) tk g pl (mn d s) (p : Int) then comps s tk g (mn d s) e (pl ++ [(p : Int)]) else [])) := by
      intro m
      induction m with
      | zero =>
        intro p hp
        refine Ev.succ ?_
        simp only [spec_l9Place.l0.eq_2]
        refine Ev.neg (by omega) (Ev.succ ?_)
        simp only [spec_l9Place.j1.eq_2]
        exact Ev.neg (by decide) (Ev.now _)
      | succ m ihm =>
        intro p hp
        refine Ev.succ ?_
        simp only [spec_l9Place.l0.eq_2]
        refine Ev.pos (by omega) (Ev.pos trivial (Ev.succ ?_))
        simp only [spec_l9Place.j1.eq_2]
        refine Ev.pos (by decide) ?_
        rw [List.range'_succ, List.flatMap_cons, fst1_append]
        have e1 : wrap64 ((p : Int) + 1) = ((p + 1 : Nat) : Int) := by rw [w64 (by omega) (by omega)]; omega
        obtain ⟨c, hc⟩ := exists_bool (FitP (s : Int) tk g pl (mn d s) (p : Int))
        refine Ev.bind (l9Fits_ev s r tk g pl d (p : Int) (by omega) htk hd (by omega) hg5.2 ht hg hgw hv c hc) ?_
        cases c with
        | true =>
          have hf := hc.mp rfl
          rw [if_pos hf, e1]
          refine Ev.pos rfl (Ev.bindc (plOwn_eq pl (by omega)) (Ev.bindc rfl (Ev.pos (by simp; omega) (Ev.bind (ih (pl ++ [(p : Int)]) (by simp; omega) (vld_snoc hv hf)) ?_))))
          by_cases h0 : comps s tk g (mn d s) e (pl ++ [(p : Int)]) = []
          · rw [if_pos h0, h0]
            exact ihm (p + 1) (by omega)
          · rw [if_neg h0]
            cases hcs : comps s tk g (mn d s) e (pl ++ [(p : Int)]) with
            | nil => exact absurd hcs h0
            | cons c cs => exact over (p + 1) c (by omega)
        | false =>
          have hf : ¬ FitP (s : Int) tk g pl (mn d s) (p : Int) := fun hn => absurd (hc.mpr hn) (by decide)
          rw [if_neg hf, e1, if_pos rfl]
          exact Ev.neg (by decide) (ihm (p + 1) (by omega))
    rw [comps]
    exact loop s 0 (by omega)
theorem runCount (cs : List (List Int)) : ∀ (c : Int) (f : List Int), runV visCount cs c = (true, (cs.foldl stp (f, c)).2) := by
  induction cs with
  | nil => intro c f; rfl
  | cons x xs ih =>
    intro c f
    simp only [runV, visCount, if_true, List.foldl_cons]
    unfold stp
    by_cases h : c = 0
    · simp only [h, if_true]; exact ih _ _
    · simp only [h, if_false]; exact ih _ _
theorem count_key (s : Int) (r : Bool) (tk g : List Int) (d : Int) (hL : tk.length ≤ 35184372088832) (hL1 : g.length ≤ 35184372088832) (hgw : ∀ x ∈ g, x ≤ 9223372036854775807) :
    ∃ q : Int × Bool, Ev (fun k => spec_CountPlacings.f k s r tk g d) q ∧ Ev (fun k => impl_CountPlacings.f k s r tk g d) q := by
  obtain ⟨b, hbb⟩ := exists_bool (GrP s r tk g d)
  cases b with
  | false =>
    refine ⟨(0, false), ?_, ?_⟩
    · unfold spec_CountPlacings.f; exact Ev.bind (l9Groups_ev s r tk g d hL hL1 false hbb) (Ev.neg (by decide) (Ev.now _))
    · unfold impl_CountPlacings.f; exact Ev.bind (isGrouped_ev s r tk g d hL hL1 false hbb) (Ev.neg (by decide) (Ev.now _))
  | true =>
    have hG := hbb.mp rfl
    obtain ⟨m, rfl⟩ : ∃ m : Nat, s = (m : Int) := ⟨s.toNat, by have := hG.1.1; omega⟩
    have hg5 := hG.2.2.2.1
    have h1 := place_all m r tk g d hG hL hgw g.length [] ([], 0) (by simp) (fun q hq => by simp at hq)
    have h2 := placings_ev visCount m r tk g d hG hgw 0
    rw [runCount _ 0 []] at h2
    refine ⟨(((comps m tk g (mn d m) g.length []).foldl stp ([], 0)).2, true), ?_, ?_⟩
    · unfold spec_CountPlacings.f
      exact Ev.bind (l9Groups_ev _ r tk g d hL hL1 true hbb) (Ev.pos rfl (Ev.bind (f := fun _ (t : List Int × Int) => some (t.2, true)) h1 (Ev.now _)))
    · unfold impl_CountPlacings.f
      exact Ev.bind (isGrouped_ev _ r tk g d hL hL1 true hbb) (Ev.pos rfl (Ev.pos (by omega) (Ev.bind (f := fun _ (t : Bool × Int) => some (t.2, true)) h2 (Ev.now _))))
theorem FnExactCountPlacings : laws_FnExactCountPlacings.Pure := by
  intro s r tk g d _ _ hl _ _ hl1 hgw _
  have hL : tk.length ≤ 35184372088832 := by omega
  have hL1 : g.length ≤ 35184372088832 := by omega
  refine Ev.rounds (g := fun k => laws_FnExactCountPlacings.f k s r tk g d) ?_
  unfold laws_FnExactCountPlacings.f
  by_cases hbig : (g.length : Int) > 1048576
  · exact Ev.pos hbig (Ev.now _)
  refine Ev.neg hbig (Ev.bindc (szRow_eq s r tk _ hL (by omega) (by omega)) ?_)
  by_cases hb : (1048576 : Int) - (tk.length : Int) < 0
  · rw [if_pos hb]; exact Ev.pos (by omega) (Ev.now _)
  · rw [if_neg hb]
    refine Ev.neg hb ?_
    obtain ⟨q, h1, h2⟩ := count_key s r tk g d hL hL1 (fun x hx => by have := lit_i64 (hgw x hx); omega)
    have ht := toRow_ev s r tk hL
    have hi := toIntS_ev g hL1
    refine Ev.bind ht (Ev.bind hi (Ev.bind h1 (Ev.bind ht (Ev.bind hi (Ev.bind h2 (Ev.pos rfl (Ev.succ ?_)))))))
    simp only [laws_FnExactCountPlacings.j0.eq_2]
    exact Ev.neg (by simp) (Ev.bind ht (Ev.bind (eqRow_ev s r tk hL) (Ev.pos rfl (Ev.bind hi (Ev.bind (eqIntS_ev g hL1) (Ev.pos rfl (Ev.now _)))))))

end Go.Proofs.Ytohdmhhecjbbbaa.Pure
