/- Proved: for every row, list and number the law FnExactIsGuarded, as printed, answers true. Conditions: none but the bounds of the printed statement. -/
import Derived.Test.YtoppdcfhgnffaaaPFnExactIsGuardedx5
namespace Go.Proofs.Ytoppdcfhgnffaaa.Pure
open Go.RowKit Go.Proofs.Ytoppdcfhgnffaaa.PFnExactIsGuarded Go.Proofs.YtoppdcfhgnffaaaW.PrintWords Go.Proofs.YtoppdcfhgnffaaaW.PrintLast Go.Proofs.YtoppdcfhgnffaaaW.PrintMore
set_option linter.unusedVariables false

theorem Ev.pos {α : Type} {c : Prop} [Decidable c] {f g : Nat → Option α} {r : α} (h : c) (k : Ev f r) : Ev (fun m => if c then f m else g m) r :=
  Ev.congr (fun _ => if_pos h) k
theorem Ev.neg {α : Type} {c : Prop} [Decidable c] {f g : Nat → Option α} {r : α} (h : ¬ c) (k : Ev g r) : Ev (fun m => if c then f m else g m) r :=
  Ev.congr (fun _ => if_neg h) k
theorem Ev.bindc {α β : Type} {x : Option α} {f : Nat → α → Option β} {a : α} {r : β} (h : x = some a) (k : Ev (fun n => f n a) r) : Ev (fun n => x.bind (f n)) r := by
  subst h; exact k
theorem Ev.succ {α : Type} {g : Nat → Option α} {r : α} (k : Ev (fun n => g (n + 1)) r) : Ev g r := Ev.step (fun _ => rfl) k
theorem Ev.unique {α : Type} {g : Nat → Option α} {r q : α} (h : Ev g r) (k : Ev g q) : r = q := by
  obtain ⟨K, hK⟩ := h; obtain ⟨L, hL⟩ := k
  have := (hK (max K L) (Nat.le_max_left _ _)).symm.trans (hL (max K L) (Nat.le_max_right _ _))
  exact Option.some.inj this
theorem w64 {n : Int} (h0 : -9223372036854775808 ≤ n) (h1 : n < 9223372036854775808) : wrap64 n = n := by unfold wrap64; omega
theorem rd_nat (l : List Int) (i : Nat) (h : i < l.length) : rd l (i : Int) = l[i] := by
  unfold rd; rw [Int.toNat_natCast, List.getD_eq_getElem?_getD, List.getElem?_eq_getElem h]; rfl
theorem lit_i64 {x : Int} (h : (Lit.int .i64 x).wf = true) : -9223372036854775808 ≤ x ∧ x < 9223372036854775808 := by
  simp [Lit.wf, IntKind.min, IntKind.max, IntKind.bits, IntKind.signed] at h; omega
/-- a loop that ends early, with one answer, where P fails -/
theorem ev_all {α : Type} (L : Nat → Nat → Option α) (n : Nat) (P : Nat → Prop) (rEnd : α)
    (hend : Ev (fun k => L k n) rEnd) (hgood : ∀ i, i < n → P i → ∀ r, Ev (fun k => L k (i + 1)) r → Ev (fun k => L k i) r)
    (i : Nat) (hi : i ≤ n) (h : ∀ j, i ≤ j → j < n → P j) : Ev (fun k => L k i) rEnd := by
  obtain ⟨d, hd⟩ : ∃ d, i + d = n := ⟨n - i, by omega⟩
  induction d generalizing i with
  | zero => rw [show i = n by omega]; exact hend
  | succ d ih => exact hgood i (by omega) (h i (by omega) (by omega)) _ (ih (i + 1) (by omega) (fun j h1 h2 => h j (by omega) h2) (by omega))
theorem ev_bad {α : Type} (L : Nat → Nat → Option α) (n : Nat) (P : Nat → Prop) (rBad : α)
    (hgood : ∀ i, i < n → P i → ∀ r, Ev (fun k => L k (i + 1)) r → Ev (fun k => L k i) r) (hbad : ∀ i, i < n → ¬ P i → Ev (fun k => L k i) rBad)
    (i : Nat) (h : ∃ j, i ≤ j ∧ j < n ∧ ¬ P j) : Ev (fun k => L k i) rBad := by
  obtain ⟨j, h1, h2, h3⟩ := h
  obtain ⟨d, hd⟩ : ∃ d, i + d = j := ⟨j - i, by omega⟩
  induction d generalizing i with
  | zero => rw [show i = j by omega]; exact hbad j h2 h3
  | succ d ih =>
    by_cases hp : P i
    · exact hgood i (by omega) hp _ (ih (i + 1) (by omega) (by omega))
    · exact hbad i (by omega) hp
theorem ev_dec {α : Type} (L : Nat → Nat → Option α) (n : Nat) (P : Nat → Prop) [DecidablePred P] (f : Bool → α)
    (hend : Ev (fun k => L k n) (f true)) (hgood : ∀ i, i < n → P i → ∀ r, Ev (fun k => L k (i + 1)) r → Ev (fun k => L k i) r)
    (hbad : ∀ i, i < n → ¬ P i → Ev (fun k => L k i) (f false)) (b : Bool) (hb : b = true ↔ ∀ j, j < n → P j) : Ev (fun k => L k 0) (f b) := by
  cases b with
  | true => exact ev_all L n P (f true) hend hgood 0 (by omega) (fun j _ h => hb.mp rfl j h)
  | false =>
    refine ev_bad L n P (f false) hgood hbad 0 ?_
    by_cases h : ∀ j, j < n → P j
    · exact absurd (hb.mpr h) (by decide)
    · have : ∃ j, ¬ (j < n → P j) := Classical.not_forall.mp h
      obtain ⟨j, hj⟩ := this
      exact ⟨j, by omega, Decidable.byContradiction (fun c => hj (fun h2 => absurd h2 c)), fun c => hj (fun _ => c)⟩
/-- a loop with a state -/
def iterFrom {σ : Type} (g : Nat → σ → σ) : Nat → Nat → σ → σ
  | 0, _, s => s
  | d + 1, i, s => iterFrom g d (i + 1) (g i s)
theorem ev_iter {σ α : Type} (L : Nat → σ → Nat → Option α) (n : Nat) (g : Nat → σ → σ) (fin : σ → α) (I : Nat → σ → Prop)
    (hend : ∀ s, I n s → Ev (fun k => L k s n) (fin s)) (hI : ∀ i s, i < n → I i s → I (i + 1) (g i s))
    (hstep : ∀ i s, i < n → I i s → ∀ r, Ev (fun k => L k (g i s) (i + 1)) r → Ev (fun k => L k s i) r) :
    ∀ (d i : Nat) (s : σ), i + d = n → I i s → Ev (fun k => L k s i) (fin (iterFrom g d i s)) := by
  intro d
  induction d with
  | zero => intro i s hi hs; rw [show i = n by omega] at hs ⊢; exact hend s hs
  | succ d ih => intro i s hi hs; exact hstep i s (by omega) hs _ (ih (i + 1) (g i s) (by omega) (hI i s (by omega) hs))
theorem toIntS_loop (l : List Int) (hl : l.length ≤ 35184372088832) : ∀ (d i : Nat) (acc : List Int), i + d = l.length → acc.length = l.length → (∀ j, j < i → acc[j]? = l[j]?) → Ev (fun k => laws_toIntS.l0 k l acc (i : Int)) l := by
  intro d
  induction d with
  | zero =>
    intro i acc hi ha hj
    refine Ev.succ ?_
    simp only [laws_toIntS.l0.eq_2]
    refine Ev.neg (by omega) ?_
    have : acc = l := List.ext_getElem? (fun j => by
      by_cases h : j < i
      · exact hj j h
      · rw [List.getElem?_eq_none (by omega), List.getElem?_eq_none (by omega)])
    rw [this]; exact Ev.now _
  | succ d ih =>
    intro i acc hi ha hj
    refine Ev.succ ?_
    simp only [laws_toIntS.l0.eq_2]
    refine Ev.pos (by omega) (Ev.pos (by omega) (Ev.pos (by omega) ?_))
    rw [w64 (by omega) (by omega)]
    refine ih (i + 1) _ (by omega) (by simpa using ha) ?_
    intro j h
    rw [Int.toNat_natCast, List.getElem?_set]
    by_cases e : i = j
    · subst e
      rw [if_pos rfl, if_pos (by omega), rd_nat l i (by omega), List.getElem?_eq_getElem]
    · rw [if_neg e]; exact hj j (by omega)
theorem toIntS_ev (l : List Int) (hl : l.length ≤ 35184372088832) : Ev (fun k => laws_toIntS.f k l) l := by
  unfold laws_toIntS.f
  refine Ev.pos (by omega) (Ev.pos (by omega) ?_)
  exact toIntS_loop l hl l.length 0 _ (by omega) (by simp) (fun j h => by omega)
theorem eqIntS_loop (l : List Int) (hl : l.length ≤ 35184372088832) : ∀ (d i : Nat), i + d = l.length → Ev (fun k => laws_eqIntS.l0 k l l (i : Int)) true := by
  intro d
  induction d with
  | zero =>
    intro i hi
    refine Ev.succ ?_
    simp only [laws_eqIntS.l0.eq_2]
    exact Ev.neg (by omega) (Ev.now _)
  | succ d ih =>
    intro i hi
    refine Ev.succ ?_
    simp only [laws_eqIntS.l0.eq_2]
    refine Ev.pos (by omega) (Ev.pos (by omega) (Ev.pos (by omega) (Ev.pos (by trivial) ?_)))
    rw [w64 (by omega) (by omega)]
    exact ih (i + 1) (by omega)
theorem eqIntS_ev (l : List Int) (hl : l.length ≤ 35184372088832) : Ev (fun k => laws_eqIntS.f k l l) true := by
  unfold laws_eqIntS.f
  exact Ev.pos rfl (eqIntS_loop l hl l.length 0 (by omega))
theorem within_eq (a b c : Int) : impl_within.f a b c = some (decide (b ≤ a ∧ a ≤ c)) := by
  unfold impl_within.f
  by_cases h : a ≥ b
  · rw [if_pos h]; simp [show b ≤ a from h]
  · rw [if_neg h]; simp [show ¬ b ≤ a from h]
theorem l1In_eq (a b c : Int) : spec_l1In.f a b c = some (decide (b ≤ a ∧ a ≤ c)) := by
  unfold spec_l1In.f
  by_cases h : a ≥ b
  · rw [if_pos h]; simp [show b ≤ a from h]
  · rw [if_neg h]; simp [show ¬ b ≤ a from h]
theorem allWithin_loop (l : List Int) (lo hi : Int) (hl : l.length ≤ 35184372088832) : ∀ (d i : Nat), i + d = l.length → Ev (fun k => impl_allWithin.l0 k lo hi l (l.length : Int) (i : Int)) (decide (∀ x ∈ l.drop i, lo ≤ x ∧ x ≤ hi)) := by
  intro d
  induction d with
  | zero =>
    intro i hi
    refine Ev.succ ?_
    simp only [impl_allWithin.l0.eq_2]
    rw [List.drop_of_length_le (by omega)]
    exact Ev.neg (by omega) (by simp; exact Ev.now _)
  | succ d ih =>
    intro i hi'
    refine Ev.succ ?_
    simp only [impl_allWithin.l0.eq_2]
    refine Ev.pos (by omega) (Ev.pos (by omega) (Ev.pos (by omega) (Ev.bindc (within_eq _ _ _) ?_)))
    have hd : l.drop i = l[i] :: l.drop (i + 1) := (List.drop_eq_getElem_cons (by omega))
    rw [rd_nat l i (by omega)]
    by_cases e : lo ≤ l[i] ∧ l[i] ≤ hi
    · refine Ev.pos (decide_eq_true e) ?_
      rw [w64 (by omega) (by omega)]
      have e1 : (∀ x ∈ l.drop i, lo ≤ x ∧ x ≤ hi) ↔ (∀ x ∈ l.drop (i + 1), lo ≤ x ∧ x ≤ hi) := by rw [hd]; simp only [List.mem_cons, forall_eq_or_imp, e, true_and]
      rw [decide_eq_decide.mpr e1]
      exact ih (i + 1) (by omega)
    · rw [show decide (∀ x ∈ l.drop i, lo ≤ x ∧ x ≤ hi) = false by rw [hd]; simp only [List.mem_cons, forall_eq_or_imp, decide_eq_false_iff_not]; exact fun h => e h.1]
      exact Ev.neg (by simpa using e) (Ev.now _)
theorem allWithin_ev (l : List Int) (lo hi : Int) (hl : l.length ≤ 35184372088832) : Ev (fun k => impl_allWithin.f k l lo hi) (decide (∀ x ∈ l, lo ≤ x ∧ x ≤ hi)) := allWithin_loop l lo hi hl l.length 0 (by omega)
theorem szIntS_eq (l : List Int) (a : Int) (hl : l.length ≤ 35184372088832) (h0 : 0 ≤ a) (h1 : a ≤ 1048576) : laws_szIntS.f l a = some (if a - (l.length : Int) < 0 then -1 else a - (l.length : Int)) := by
  unfold laws_szIntS.f
  rw [w64 (by omega) (by omega)]
  split <;> rfl
def pc : Nat → Nat → Nat
  | 0, _ => 0
  | k + 1, n => n % 2 + pc k (n / 2)
theorem pc_add (a b n : Nat) : pc (a + b) n = pc a n + pc b (n / 2 ^ a) := by
  induction a generalizing n with
  | zero => simp [pc]
  | succ a ih =>
    rw [show a + 1 + b = (a + b) + 1 by omega]
    simp only [pc]
    rw [ih, Nat.div_div_eq_div_mul, Nat.pow_succ, Nat.mul_comm 2 (2 ^ a)]
    omega
theorem pc_mod (k n : Nat) : pc k (n % 2 ^ k) = pc k n := by
  induction k generalizing n with
  | zero => rfl
  | succ k ih =>
    simp only [pc]
    rw [show n % 2 ^ (k + 1) % 2 = n % 2 by rw [Nat.pow_succ]; exact Nat.mod_mul_left_mod n (2 ^ k) 2]
    rw [show n % 2 ^ (k + 1) / 2 = (n / 2) % 2 ^ k by rw [Nat.pow_succ, Nat.mul_comm]; exact Nat.mod_mul_right_div_self n 2 (2 ^ k)]
    rw [ih]
theorem pc_le (k n : Nat) : pc k n ≤ k := by
  induction k generalizing n with
  | zero => exact Nat.le_refl _
  | succ k ih => have := ih (n / 2); simp only [pc]; omega
theorem u32_nat (a b : Nat) (ha : a < 4294967296) (hb : b < 4294967296) : Go.bits .and .u32 (a : Int) (b : Int) = ((a &&& b : Nat) : Int) ∧ Go.bits .or .u32 (a : Int) (b : Int) = ((a ||| b : Nat) : Int) :=
  bits_nat .u32 32 (by decide) (fun n h0 h1 => by rw [IntKind.wrap_u32]; omega) a b (by omega) (by omega)
theorem pc_count (k n : Nat) : pc k n = (List.range k).countP (fun i => n.testBit i) := by
  induction k generalizing n with
  | zero => rfl
  | succ k ih =>
    rw [List.range_succ_eq_map, List.countP_cons, List.countP_map]
    simp only [pc]
    rw [ih, Nat.add_comm]
    congr 1
    · apply List.countP_congr
      intro i _
      simp [Nat.testBit_succ]
    · rw [Nat.testBit_zero]
      by_cases h : n % 2 = 1
      · simp [h]
      · have : n % 2 = 0 := by omega
        simp [this]
/-- the set of some seats -/
def setN (l : List Int) : Nat := l.foldl (fun s p => s ||| 2 ^ p.toNat) 0
theorem foldl_or_bit (l : List Int) (s j : Nat) : (l.foldl (fun s p => s ||| 2 ^ p.toNat) s).testBit j = (s.testBit j || decide (∃ p ∈ l, p.toNat = j)) := by
  induction l generalizing s with
  | nil => simp
  | cons p l ih =>
    rw [List.foldl_cons, ih, Nat.testBit_or, Nat.testBit_two_pow]
    simp only [List.mem_cons, exists_eq_or_imp, Bool.decide_or, Bool.or_assoc]
theorem setN_bit (l : List Int) (j : Nat) : (setN l).testBit j = decide (∃ p ∈ l, p.toNat = j) := by
  unfold setN; rw [foldl_or_bit]; simp
theorem setN_lt (l : List Int) (h : ∀ x ∈ l, 0 ≤ x ∧ x < 32) : setN l < 4294967296 := by
  refine Nat.lt_pow_two_of_testBit (n := 32) _ (fun j hj => ?_)
  rw [setN_bit]
  simp only [decide_eq_false_iff_not, not_exists, not_and]
  intro x hx e
  have := h x hx
  omega
theorem setN_take (l : List Int) (i : Nat) (h : i < l.length) : setN (l.take (i + 1)) = setN (l.take i) ||| 2 ^ (l[i]).toNat := by
  unfold setN
  rw [List.take_succ_eq_append_getElem h, List.foldl_append]
  rfl
theorem two_pow_lt32 (p : Int) (h0 : 0 ≤ p) (h1 : p < 32) : 2 ^ p.toNat < 4294967296 := Nat.pow_lt_pow_right (m := p.toNat) (n := 32) (by decide) (by omega)
theorem shl_u32_one (p : Int) (h0 : 0 ≤ p) (h1 : p < 32) : shl .u32 1 p = ((2 ^ p.toNat : Nat) : Int) := by
  unfold shl
  rw [Nat.min_eq_left (by simp [IntKind.bits]; omega), IntKind.wrap_u32]
  have e : (1 * 2 ^ p.toNat : Int) = ((2 ^ p.toNat : Nat) : Int) := by rw [Int.one_mul]; push_cast; rfl
  rw [e]; exact Int.emod_eq_of_lt (Int.natCast_nonneg _) (Int.ofNat_lt.mpr (two_pow_lt32 p h0 h1))
/-- a valid row -/
def IsRw (s : Int) (r : Bool) (l : List Int) : Prop := (2 ≤ s ∧ s ≤ 24) ∧ (r = true → 3 ≤ s) ∧ (∀ x ∈ l, 0 ≤ x ∧ x < s) ∧ l.Pairwise (· < ·)
def rwP (l : List Int) (hi : Int) (i : Nat) : Prop := (0 ≤ l.getD i 0 ∧ l.getD i 0 ≤ hi) ∧ (0 < i → l.getD (i - 1) 0 < l.getD i 0)
instance (l : List Int) (hi : Int) (i : Nat) : Decidable (rwP l hi i) := by unfold rwP; infer_instance
theorem getD_lt (l : List Int) (i : Nat) (h : i < l.length) : l.getD i 0 = l[i] := by rw [List.getD_eq_getElem?_getD, List.getElem?_eq_getElem h]; rfl
theorem rd_getD (l : List Int) (i : Nat) : rd l (i : Int) = l.getD i 0 := by unfold rd; rw [Int.toNat_natCast]
theorem rwP_all (l : List Int) (hi : Int) : (∀ i, i < l.length → rwP l hi i) ↔ (∀ x ∈ l, 0 ≤ x ∧ x ≤ hi) ∧ l.Pairwise (· < ·) := by
  constructor
  · intro h
    refine ⟨fun x hx => ?_, ?_⟩
    · obtain ⟨i, hi', rfl⟩ := List.mem_iff_getElem.mp hx
      have := (h i hi').1
      rw [getD_lt l i hi'] at this
      exact this
    · rw [List.pairwise_iff_getElem]
      intro i j hi' hj hij
      obtain ⟨d, hd⟩ : ∃ d, i + 1 + d = j := ⟨j - i - 1, by omega⟩
      induction d generalizing j with
      | zero =>
        have := (h j hj).2 (by omega)
        rw [getD_lt l j hj, show j - 1 = i by omega, getD_lt l i hi'] at this
        exact this
      | succ d ih =>
        have h1 := ih (j - 1) (by omega) (by omega) (by omega)
        have h2 := (h j hj).2 (by omega)
        rw [getD_lt l j hj, getD_lt l (j - 1) (by omega)] at h2
        omega
  · rintro ⟨h1, h2⟩ i hi'
    refine ⟨?_, fun h0 => ?_⟩
    · rw [getD_lt l i hi']; exact h1 _ (List.getElem_mem _)
    · rw [getD_lt l i hi', getD_lt l (i - 1) (by omega)]
      exact (List.pairwise_iff_getElem.mp h2) (i - 1) i (by omega) hi' (by omega)
theorem exists_bool (p : Prop) : ∃ b : Bool, b = true ↔ p := by
  by_cases h : p
  · exact ⟨true, by simp [h]⟩
  · exact ⟨false, by simp [h]⟩
theorem rising_ev (l : List Int) (hi : Int) (hl : l.length ≤ 35184372088832) (b : Bool) (hb : b = true ↔ ∀ i, i < l.length → rwP l hi i) : Ev (fun k => spec_l1Rising.f k l 0 hi) b := by
  unfold spec_l1Rising.f
  refine ev_dec (fun k i => spec_l1Rising.l0 k l 0 hi (i : Int)) l.length (rwP l hi) id ?_ ?_ ?_ b hb
  · refine Ev.succ ?_
    simp only [spec_l1Rising.l0.eq_2]
    exact Ev.neg (by omega) (Ev.now _)
  · intro i hi' hp r h
    refine Ev.succ ?_
    simp only [spec_l1Rising.l0.eq_2]
    rw [rd_getD, w64 (n := (i : Int) + 1) (by omega) (by omega), w64 (n := (i : Int) - 1) (by omega) (by omega)]
    refine Ev.pos (by omega) (Ev.pos (by omega) (Ev.bindc (l1In_eq _ _ _) (Ev.pos (decide_eq_true hp.1) ?_)))
    by_cases h0 : (i : Int) > 0
    · have := hp.2 (by omega)
      rw [show (i : Int) - 1 = ((i - 1 : Nat) : Int) by omega, rd_getD]
      exact Ev.pos h0 (Ev.pos (by omega) (Ev.pos (by omega) (Ev.neg (by omega) h)))
    · exact Ev.neg h0 h
  · intro i hi' hp
    refine Ev.succ ?_
    simp only [spec_l1Rising.l0.eq_2]
    rw [rd_getD, w64 (n := (i : Int) - 1) (by omega) (by omega)]
    refine Ev.pos (by omega) (Ev.pos (by omega) (Ev.bindc (l1In_eq _ _ _) ?_))
    by_cases h1 : 0 ≤ l.getD i 0 ∧ l.getD i 0 ≤ hi
    · have h2 : ¬ (0 < i → l.getD (i - 1) 0 < l.getD i 0) := fun h => hp ⟨h1, h⟩
      have h0 : 0 < i := Decidable.byContradiction (fun c => h2 (fun h => absurd h c))
      have h3 : ¬ l.getD (i - 1) 0 < l.getD i 0 := fun h => h2 (fun _ => h)
      rw [show (i : Int) - 1 = ((i - 1 : Nat) : Int) by omega, rd_getD]
      exact Ev.pos (decide_eq_true h1) (Ev.pos (by omega) (Ev.pos (by omega) (Ev.pos (by omega) (Ev.pos (by omega) (Ev.now _)))))
    · exact Ev.neg (by simpa using h1) (Ev.now _)
theorem l2Row_ev (s : Int) (r : Bool) (l : List Int) (hl : l.length ≤ 35184372088832) (b : Bool) (hb : b = true ↔ IsRw s r l) : Ev (fun k => spec_l2Row.f k s r l) b := by
  unfold spec_l2Row.f
  have hno : ¬ IsRw s r l → b = false := fun h => by
    cases b with
    | false => rfl
    | true => exact absurd (hb.mp rfl) h
  refine Ev.bindc (l1In_eq _ _ _) ?_
  by_cases hs : 2 ≤ s ∧ s ≤ 24
  · refine Ev.pos (decide_eq_true hs) ?_
    rw [w64 (by omega) (by omega)]
    have main : (r = true → 3 ≤ s) → (b = true ↔ ∀ i, i < l.length → rwP l (s - 1) i) := by
      intro h3
      rw [hb, rwP_all]
      unfold IsRw
      constructor
      · rintro ⟨_, _, h4, h5⟩; exact ⟨fun x hx => by have := h4 x hx; omega, h5⟩
      · rintro ⟨h4, h5⟩; exact ⟨hs, h3, fun x hx => by have := h4 x hx; omega, h5⟩
    by_cases hr : r = true
    · refine Ev.pos hr ?_
      by_cases h3 : s > 2
      · exact Ev.pos h3 (Ev.bind (f := fun _ t => some t) (rising_ev l (s - 1) hl b (main (fun _ => by omega))) (Ev.now _))
      · rw [hno (fun h => h3 (by have := h.2.1 hr; omega))]
        exact Ev.neg h3 (Ev.now _)
    · exact Ev.neg hr (Ev.bind (f := fun _ t => some t) (rising_ev l (s - 1) hl b (main (fun h => absurd h hr))) (Ev.now _))
  · rw [hno (fun h => hs h.1)]
    exact Ev.neg (by simpa using hs) (Ev.now _)
theorem bench_has1 (s : Int) (r : Bool) (x : Int) : Ev (fun k => impl_bench_has.f k s r [x]) (decide (0 ≤ x ∧ x ≤ wrap64 (s - 1))) := by
  unfold impl_bench_has.f
  refine Ev.bind (f := fun _ t => some t) (allWithin_ev [x] 0 _ (by simp)) ?_
  simp only [List.mem_singleton, forall_eq]
  exact Ev.now _
theorem bench_valid_eq (s : Int) (r : Bool) (b : Bool) (hb : b = true ↔ (2 ≤ s ∧ s ≤ 24) ∧ (r = true → 3 ≤ s)) : impl_bench_valid.f s r = some b := by
  unfold impl_bench_valid.f
  rw [within_eq, Option.bind_some]
  by_cases hs : 2 ≤ s ∧ s ≤ 24
  · rw [if_pos (decide_eq_true hs)]
    cases r with
    | true => rw [if_pos rfl]; congr 1; rw [Bool.eq_iff_iff, hb]; simp only [decide_eq_true_eq]; exact ⟨fun h => ⟨hs, fun _ => h⟩, fun h => h.2 (by trivial)⟩
    | false => rw [if_neg (by decide)]; congr 1; rw [Bool.eq_iff_iff, hb]; simp [hs]
  · rw [if_neg (by simpa using hs)]; congr 1; rw [Bool.eq_iff_iff, hb]; simp only [Bool.false_eq_true, false_iff]; exact fun h => hs h.1
theorem isRow_ev (s : Int) (r : Bool) (l : List Int) (hl : l.length ≤ 35184372088832) (b : Bool) (hb : b = true ↔ IsRw s r l) : Ev (fun k => impl_IsRow.f k s r l) b := by
  unfold impl_IsRow.f
  obtain ⟨v, hv⟩ := exists_bool ((2 ≤ s ∧ s ≤ 24) ∧ (r = true → 3 ≤ s))
  obtain ⟨c, hc⟩ := exists_bool (∀ i, i < l.length → rwP l (wrap64 (s - 1)) i)
  have hbc : b = (if c = true then v else false) := by
    rw [Bool.eq_iff_iff, hb]
    unfold IsRw
    constructor
    · rintro ⟨h1, h2, h3, h4⟩
      have hcc : c = true := by
        rw [hc, rwP_all, w64 (by omega) (by omega)]
        exact ⟨fun x hx => by have := h3 x hx; omega, h4⟩
      rw [if_pos hcc, hv]; exact ⟨h1, h2⟩
    · intro h
      by_cases hcc : c = true
      · rw [if_pos hcc, hv] at h
        rw [hc, rwP_all, w64 (by omega) (by omega)] at hcc
        exact ⟨h.1, h.2, fun x hx => by have := hcc.1 x hx; omega, hcc.2⟩
      · rw [if_neg hcc] at h; cases h
  rw [hbc]
  refine ev_dec (fun k i => impl_IsRow.l0 k l (l.length : Int) (i : Int) s r l) l.length (rwP l (wrap64 (s - 1))) (fun c => if c = true then v else false) ?_ ?_ ?_ c hc
  · refine Ev.succ ?_
    simp only [impl_IsRow.l0.eq_2]
    exact Ev.neg (by omega) (Ev.bindc rfl (Ev.bindc (bench_valid_eq s r v hv) (Ev.now _)))
  · intro i hi' hp q h
    refine Ev.succ ?_
    simp only [impl_IsRow.l0.eq_2]
    rw [rd_getD, w64 (n := (i : Int) + 1) (by omega) (by omega), w64 (n := (i : Int) - 1) (by omega) (by omega)]
    refine Ev.pos (by omega) (Ev.pos (by omega) (Ev.pos (by omega) (Ev.bindc rfl (Ev.bind (bench_has1 s r _) (Ev.pos (decide_eq_true hp.1) ?_)))))
    by_cases h0 : (i : Int) > 0
    · have := hp.2 (by omega)
      rw [show (i : Int) - 1 = ((i - 1 : Nat) : Int) by omega, rd_getD]
      exact Ev.pos h0 (Ev.pos (by omega) (Ev.pos (by omega) (Ev.neg (by omega) h)))
    · exact Ev.neg h0 h
  · intro i hi' hp
    refine Ev.succ ?_
    simp only [impl_IsRow.l0.eq_2]
    rw [rd_getD, w64 (n := (i : Int) - 1) (by omega) (by omega)]
    refine Ev.pos (by omega) (Ev.pos (by omega) (Ev.pos (by omega) (Ev.bindc rfl (Ev.bind (bench_has1 s r _) ?_))))
    by_cases h1 : 0 ≤ l.getD i 0 ∧ l.getD i 0 ≤ wrap64 (s - 1)
    · have h2 : ¬ (0 < i → l.getD (i - 1) 0 < l.getD i 0) := fun h => hp ⟨h1, h⟩
      have h0 : 0 < i := Decidable.byContradiction (fun c => h2 (fun h => absurd h c))
      have h3 : ¬ l.getD (i - 1) 0 < l.getD i 0 := fun h => h2 (fun _ => h)
      rw [show (i : Int) - 1 = ((i - 1 : Nat) : Int) by omega, rd_getD]
      exact Ev.pos (decide_eq_true h1) (Ev.pos (by omega) (Ev.pos (by omega) (Ev.pos (by omega) (Ev.pos (by omega) (Ev.now _)))))
    · exact Ev.neg (by simpa using h1) (Ev.now _)
/-- the gap of two seats -/
def gp (s : Int) (r : Bool) (p q : Int) : Int := if r = true then mn (mx (p - q) (q - p)) (s - mx (p - q) (q - p)) else mx (p - q) (q - p)
theorem mx_le {a b c : Int} (h1 : a ≤ c) (h2 : b ≤ c) : mx a b ≤ c := by unfold mx; split <;> omega
theorem le_mx {a b : Int} : a ≤ mx a b ∧ b ≤ mx a b := by unfold mx; split <;> omega
theorem l2Gap_eq (s : Int) (r : Bool) (l : List Int) (p q : Int) (hs : 0 ≤ s ∧ s ≤ 100) (hp : 0 ≤ p ∧ p < 100) (hq : 0 ≤ q ∧ q < 100) : spec_l2Gap.f s r l p q = some (gp s r p q) := by
  unfold spec_l2Gap.f spec_l1Most.f gp
  have e : (if p - q > q - p then some (p - q) else some (q - p)) = some (mx (p - q) (q - p)) := by
    unfold mx; split <;> split <;> first | rfl | (congr 1; omega)
  have h1 : mx (p - q) (q - p) ≤ 100 := mx_le (by omega) (by omega)
  have h2 := @le_mx (p - q) (q - p)
  rw [w64 (n := p - q) (by omega) (by omega), w64 (n := q - p) (by omega) (by omega), e, Option.bind_some]
  cases r with
  | true =>
    rw [if_pos rfl, if_pos rfl]
    unfold spec_l1Least.f
    rw [w64 (by omega) (by omega)]
    unfold mn
    split <;> split <;> first | rfl | (simp only [Option.bind_some]; congr 1; omega)
  | false => rw [if_neg (by decide), if_neg (by decide)]
theorem bench_gap_eq (s : Int) (r : Bool) (p q : Int) (hs : 0 ≤ s ∧ s ≤ 100) (hp : 0 ≤ p ∧ p < 100) (hq : 0 ≤ q ∧ q < 100) : impl_bench_gap.f s r p q = some (gp s r p q) := by
  unfold impl_bench_gap.f gp
  have h1 : mx (p - q) (q - p) ≤ 100 := mx_le (by omega) (by omega)
  have h2 := @le_mx (p - q) (q - p)
  rw [w64 (n := p - q) (by omega) (by omega), w64 (n := q - p) (by omega) (by omega), w64 (n := s - mx (p - q) (q - p)) (by omega) (by omega)]
  cases r with
  | true => rw [if_pos rfl, if_pos rfl]
  | false => rw [if_neg (by decide), if_neg (by decide)]
theorem gp_comm (s : Int) (r : Bool) (p q : Int) : gp s r p q = gp s r q p := by
  unfold gp
  rw [show mx (p - q) (q - p) = mx (q - p) (p - q) by unfold mx; split <;> split <;> omega]
theorem gp_self (s : Int) (r : Bool) (p : Int) (hs : 0 ≤ s) : gp s r p p = 0 := by
  unfold gp mx mn; cases r <;> simp <;> omega
/-- the set of the numbers below n that meet R -/
def bld (R : Nat → Bool) : Nat → Nat
  | 0 => 0
  | n + 1 => if R n = true then bld R n ||| 2 ^ n else bld R n
theorem bld_bit (R : Nat → Bool) (n j : Nat) : (bld R n).testBit j = (decide (j < n) && R j) := by
  induction n with
  | zero => simp [bld]
  | succ n ih =>
    unfold bld
    by_cases h : R n = true
    · rw [if_pos h, Nat.testBit_or, ih, Nat.testBit_two_pow]
      by_cases e : n = j
      · subst e; simp [h]
      · have : (j < n + 1) ↔ (j < n) := by omega
        simp [e, this]
    · rw [if_neg h, ih]
      by_cases e : n = j
      · subst e; simp [h]
      · have : (j < n + 1) ↔ (j < n) := by omega
        simp [this]
theorem bld_lt (R : Nat → Bool) (n : Nat) (h : n ≤ 32) : bld R n < 4294967296 := by
  refine Nat.lt_pow_two_of_testBit (n := 32) _ (fun j hj => ?_)
  rw [bld_bit]
  simp; omega
theorem or_pow_u32 (a : Nat) (p : Nat) (ha : a < 4294967296) (hp : p < 32) : Go.bits .or .u32 (a : Int) (shl .u32 1 (p : Int)) = ((a ||| 2 ^ p : Nat) : Int) := by
  rw [shl_u32_one _ (by omega) (by omega), Int.toNat_natCast, (u32_nat _ _ ha (by have := two_pow_lt32 (p : Int) (by omega) (by omega); rwa [Int.toNat_natCast] at this)).2]
theorem bld_loop {α : Type} (L : Nat → Nat → Nat → Option α) (R : Nat → Bool) (n : Nat) (res : α) (hend : Ev (fun k => L k (bld R n) n) res)
    (hstep : ∀ i, i < n → bld R i < 2 ^ n → ∀ r, Ev (fun k => L k (if R i = true then bld R i ||| 2 ^ i else bld R i) (i + 1)) r → Ev (fun k => L k (bld R i) i) r) : Ev (fun k => L k 0 0) res := by
  have key : ∀ d i, i + d = n → Ev (fun k => L k (bld R i) i) res := by
    intro d
    induction d with
    | zero => intro i hi; rw [show i = n by omega]; exact hend
    | succ d ih =>
      intro i hi
      refine hstep i (by omega) ?_ _ (ih (i + 1) (by omega))
      refine Nat.lt_of_lt_of_le (Nat.lt_pow_two_of_testBit (n := i) _ (fun j hj => ?_)) (Nat.pow_le_pow_right (by decide) (by omega))
      rw [bld_bit]; simp; omega
  exact key n 0 (by omega)
theorem pow_le32 (n : Nat) (h : n ≤ 32) : 2 ^ n ≤ 4294967296 := Nat.pow_le_pow_right (n := 2) (by decide) h
/-- the union of some sets -/
def unionL (f : Int → Nat) (l : List Int) : Nat := l.foldl (fun s p => s ||| f p) 0
theorem unionL_bit (f : Int → Nat) (l : List Int) (j : Nat) : (unionL f l).testBit j = l.any (fun p => (f p).testBit j) := by
  unfold unionL
  have : ∀ s, (l.foldl (fun s p => s ||| f p) s).testBit j = (s.testBit j || l.any (fun p => (f p).testBit j)) := by
    induction l with
    | nil => simp
    | cons p l ih => intro s; rw [List.foldl_cons, ih, Nat.testBit_or, List.any_cons, Bool.or_assoc]
  rw [this]; simp
theorem unionL_take (f : Int → Nat) (l : List Int) (i : Nat) (h : i < l.length) : unionL f (l.take (i + 1)) = unionL f (l.take i) ||| f l[i] := by
  unfold unionL
  rw [List.take_succ_eq_append_getElem h, List.foldl_append]; rfl
theorem unionL_lt (f : Int → Nat) (l : List Int) (h : ∀ x ∈ l, f x < 4294967296) : unionL f l < 4294967296 := by
  refine Nat.lt_pow_two_of_testBit (n := 32) _ (fun j hj => ?_)
  rw [unionL_bit, List.any_eq_false]
  intro x hx
  have := Nat.testBit_lt_two_pow (Nat.lt_of_lt_of_le (h x hx) (Nat.pow_le_pow_right (n := 2) (by decide) hj))
  simp [this]
theorem all_eq (s : Nat) (r : Bool) (hs : s < 32) : impl_bench_all.f (s : Int) r = some ((2 ^ s - 1 : Nat) : Int) := by
  unfold impl_bench_all.f
  rw [if_pos (by omega), shl_u32_one _ (by omega) (by omega), Int.toNat_natCast]
  have h1 := two_pow_lt32 (s : Int) (by omega) (by omega)
  rw [Int.toNat_natCast] at h1
  have h2 : 0 < 2 ^ s := Nat.two_pow_pos s
  refine congrArg some ?_
  generalize 2 ^ s = t at *
  omega
theorem all_bit (s j : Nat) : (2 ^ s - 1).testBit j = decide (j < s) := Nat.testBit_two_pow_sub_one s j
/-- the first seat of a list with the least gap, and this gap -/
def nstStep (s : Int) (r : Bool) (p : Int) (st : Int × Int) (q : Int) : Int × Int := if st.1 < 0 then (q, gp s r p q) else if gp s r p q < st.2 then (q, gp s r p q) else st
def nst (s : Int) (r : Bool) (p : Int) (l : List Int) : Int × Int := l.foldl (nstStep s r p) (-1, -1)
theorem l2Nearest_ev (s : Int) (r : Bool) (tk l : List Int) (p : Int) (hl : l.length ≤ 35184372088832) (hs : 0 ≤ s ∧ s ≤ 100) (hp : 0 ≤ p ∧ p < 100) (hr : ∀ x ∈ l, 0 ≤ x ∧ x < 100) : Ev (fun k => spec_l2Nearest.f k s r tk l p) (nst s r p l) := by
  unfold spec_l2Nearest.f
  have key : ∀ d i (st : Int × Int), i + d = l.length → Ev (fun k => spec_l2Nearest.l0 k l p st.1 st.2 (i : Int) s r tk) ((l.drop i).foldl (nstStep s r p) st) := by
    intro d
    induction d with
    | zero =>
      intro i st hi
      refine Ev.succ ?_
      simp only [spec_l2Nearest.l0.eq_2]
      rw [List.drop_of_length_le (by omega)]
      exact Ev.neg (by omega) (Ev.now _)
    | succ d ih =>
      intro i st hi
      refine Ev.succ ?_
      simp only [spec_l2Nearest.l0.eq_2]
      have hx := hr l[i] (List.getElem_mem (by omega))
      rw [rd_nat l i (by omega), w64 (n := (i : Int) + 1) (by omega) (by omega)]
      refine Ev.pos (by omega) (Ev.pos (by omega) (Ev.bindc (l2Gap_eq s r tk p l[i] hs hp (by omega)) ?_))
      rw [List.drop_eq_getElem_cons (by omega), List.foldl_cons]
      have := ih (i + 1) (nstStep s r p st l[i]) (by omega)
      unfold nstStep at this ⊢
      by_cases h1 : st.1 < 0
      · rw [if_pos h1] at this ⊢; exact Ev.pos h1 this
      · rw [if_neg h1] at this ⊢
        refine Ev.neg h1 ?_
        by_cases h2 : gp s r p l[i] < st.2
        · rw [if_pos h2] at this ⊢; exact Ev.pos h2 this
        · rw [if_neg h2] at this ⊢; exact Ev.neg h2 this
  exact key l.length 0 (-1, -1) (by omega)
theorem nst_go (s : Int) (r : Bool) (p : Int) : ∀ (l : List Int) (st : Int × Int), 0 ≤ st.1 → (∀ x ∈ l, 0 ≤ x) → let f := l.foldl (nstStep s r p) st
    0 ≤ f.1 ∧ f.2 ≤ st.2 ∧ (∀ q ∈ l, f.2 ≤ gp s r p q) ∧ (f = st ∨ (f.1 ∈ l ∧ f.2 = gp s r p f.1)) := by
  intro l
  induction l with
  | nil => intro st h _; exact ⟨h, Int.le_refl _, by simp, .inl rfl⟩
  | cons q l ih =>
    intro st h hl
    have hq := hl q (by simp)
    have hl' : ∀ x ∈ l, 0 ≤ x := fun x hx => hl x (List.mem_cons_of_mem _ hx)
    simp only [List.foldl_cons]
    by_cases h2 : gp s r p q < st.2
    · have e : nstStep s r p st q = (q, gp s r p q) := by unfold nstStep; rw [if_neg (by omega), if_pos h2]
      rw [e]
      obtain ⟨a, b, c, d⟩ := ih (q, gp s r p q) hq hl'
      refine ⟨a, by simp only at b; omega, fun x hx => ?_, ?_⟩
      · rcases List.mem_cons.mp hx with rfl | hx
        · exact b
        · exact c x hx
      · rcases d with d | d
        · exact .inr ⟨by rw [d]; simp, by rw [d]⟩
        · exact .inr ⟨List.mem_cons_of_mem _ d.1, d.2⟩
    · have e : nstStep s r p st q = st := by unfold nstStep; rw [if_neg (by omega), if_neg h2]
      rw [e]
      obtain ⟨a, b, c, d⟩ := ih st h hl'
      refine ⟨a, b, fun x hx => ?_, ?_⟩
      · rcases List.mem_cons.mp hx with rfl | hx
        · omega
        · exact c x hx
      · rcases d with d | d
        · exact .inl d
        · exact .inr ⟨List.mem_cons_of_mem _ d.1, d.2⟩
theorem nst_cons (s : Int) (r : Bool) (p x : Int) (l : List Int) (hr : ∀ y ∈ x :: l, 0 ≤ y) : (nst s r p (x :: l)).1 ∈ x :: l ∧ (nst s r p (x :: l)).2 = gp s r p (nst s r p (x :: l)).1 ∧ ∀ q ∈ x :: l, (nst s r p (x :: l)).2 ≤ gp s r p q := by
  have e : nst s r p (x :: l) = l.foldl (nstStep s r p) (x, gp s r p x) := by
    unfold nst; rw [List.foldl_cons]; congr 1
  rw [e]
  obtain ⟨a, b, c, d⟩ := nst_go s r p l (x, gp s r p x) (hr x (by simp)) (fun y hy => hr y (List.mem_cons_of_mem _ hy))
  refine ⟨?_, ?_, ?_⟩
  · rcases d with d | d
    · rw [d]; simp
    · exact List.mem_cons_of_mem _ d.1
  · rcases d with d | d
    · rw [d]
    · exact d.2
  · intro q hq
    rcases List.mem_cons.mp hq with rfl | hq
    · exact b
    · exact c q hq
theorem gp_nonneg (s : Int) (r : Bool) (p q : Int) (hp : 0 ≤ p ∧ p ≤ s) (hq : 0 ≤ q ∧ q ≤ s) : 0 ≤ gp s r p q := by
  unfold gp mx mn; cases r <;> simp only [Bool.false_eq_true, if_false, if_true] <;> split <;> (try split) <;> omega
theorem nst_nil (s : Int) (r : Bool) (p : Int) : nst s r p [] = (-1, -1) := rfl
def seenN (s : Nat) (r : Bool) (h p : Int) : Nat := bld (fun q => decide (gp (s : Int) r p (q : Int) ≤ h)) s
theorem seenN_lt (s : Nat) (r : Bool) (h p : Int) (hs : s ≤ 32) : seenN s r h p < 4294967296 := bld_lt _ _ hs
theorem seenBy_ev (s : Nat) (r : Bool) (p h : Int) (hs : s ≤ 32) (hp : 0 ≤ p ∧ p < 100) : Ev (fun k => impl_bench_seenBy.f k (s : Int) r p h) (seenN s r h p : Int) := by
  unfold impl_bench_seenBy.f
  refine bld_loop (fun k st i => impl_bench_seenBy.l0 k p h (st : Int) (s : Int) (i : Int) (s : Int) r) (fun q => decide (gp (s : Int) r p (q : Int) ≤ h)) s _ ?_ ?_
  · refine Ev.succ ?_
    simp only [impl_bench_seenBy.l0.eq_2]
    exact Ev.neg (by omega) (Ev.now _)
  · intro i hi hst q hh
    refine Ev.succ ?_
    simp only [impl_bench_seenBy.l0.eq_2]
    refine Ev.pos (by omega) (Ev.bindc (bench_gap_eq _ _ _ _ (by omega) (by omega) (by omega)) ?_)
    rw [w64 (by omega) (by omega)]
    by_cases hg : gp (s : Int) r p (i : Int) ≤ h
    · refine Ev.pos hg (Ev.pos (by omega) ?_)
      rw [or_pow_u32 _ i (Nat.lt_of_lt_of_le hst (pow_le32 s hs)) (by omega)]
      simp only [hg, decide_true, if_true] at hh
      exact hh
    · refine Ev.neg hg ?_
      simp only [hg, decide_false, Bool.false_eq_true, if_false] at hh
      exact hh
theorem szRow_eq (s : Int) (r : Bool) (l : List Int) (a : Int) (hl : l.length ≤ 35184372088832) (h0 : 0 ≤ a) (h1 : a ≤ 1048576) : laws_szRow.f s r l a = some (if a - (l.length : Int) < 0 then -1 else a - (l.length : Int)) := by
  unfold laws_szRow.f
  rw [szIntS_eq l _ hl h0 h1]
  simp only [Option.bind_some]
  by_cases h : a - (l.length : Int) < 0
  · rw [if_pos h, if_pos (by omega)]
  · rw [if_neg h, if_neg h]
theorem toRow_ev (s : Int) (r : Bool) (l : List Int) (hl : l.length ≤ 35184372088832) : Ev (fun k => laws_toRow.f k s r l) (s, r, l) := by
  unfold laws_toRow.f
  exact Ev.bind (f := fun _ t => some (s, r, t)) (toIntS_ev l hl) (Ev.now _)
theorem eqRow_ev (s : Int) (r : Bool) (l : List Int) (hl : l.length ≤ 35184372088832) : Ev (fun k => laws_eqRow.f k s r l s r l) true := by
  unfold laws_eqRow.f
  refine Ev.pos rfl (Ev.neg (by simp) (Ev.bind (eqIntS_ev l hl) (Ev.pos rfl (Ev.now _))))
def GdP (s : Nat) (r : Bool) (l : List Int) (h : Int) : Prop := ∀ p : Nat, p < s → ∃ q ∈ l, gp (s : Int) r (p : Int) q ≤ h
theorem l9Guards_ev (s : Nat) (r : Bool) (tk l : List Int) (h : Int) (hs : s ≤ 32) (hh : 0 ≤ h) (hl : l.length ≤ 35184372088832) (hr : ∀ x ∈ l, 0 ≤ x ∧ x < (s : Int)) (b : Bool) (hb : b = true ↔ GdP s r l h) : Ev (fun k => spec_l9Guards.f k (s : Int) r tk l h) b := by
  unfold spec_l9Guards.f
  refine ev_dec (fun k i => spec_l9Guards.l0 k l h (i : Int) (s : Int) r tk) s (fun p => ∃ q ∈ l, gp (s : Int) r (p : Int) q ≤ h) id ?_ ?_ ?_ b hb
  · refine Ev.succ ?_
    simp only [spec_l9Guards.l0.eq_2]
    exact Ev.neg (by omega) (Ev.now _)
  · rintro i hi ⟨q, hq, hg⟩ res hres
    refine Ev.succ ?_
    simp only [spec_l9Guards.l0.eq_2]
    refine Ev.pos (by omega) (Ev.bind (l2Nearest_ev (s : Int) r tk l (i : Int) hl (by omega) (by omega) (fun x hx => by have := hr x hx; omega)) ?_)
    rw [w64 (by omega) (by omega)]
    cases l with
    | nil => cases hq
    | cons x l =>
      obtain ⟨h1, h2, h3⟩ := nst_cons (s : Int) r (i : Int) x l (fun y hy => (hr y hy).1)
      have h4 := h3 q hq
      have h5 := hr _ h1
      have h6 := gp_nonneg (s : Int) r (i : Int) (nst (s : Int) r (i : Int) (x :: l)).1 (by omega) (by omega)
      exact Ev.neg (by omega) (Ev.neg (by omega) hres)
  · intro i hi hno
    refine Ev.succ ?_
    simp only [spec_l9Guards.l0.eq_2]
    refine Ev.pos (by omega) (Ev.bind (l2Nearest_ev (s : Int) r tk l (i : Int) hl (by omega) (by omega) (fun x hx => by have := hr x hx; omega)) ?_)
    cases l with
    | nil => exact Ev.pos (by rw [nst_nil]; decide) (Ev.now _)
    | cons x l =>
      obtain ⟨h1, h2, h3⟩ := nst_cons (s : Int) r (i : Int) x l (fun y hy => (hr y hy).1)
      have h5 := hr _ h1
      have h6 := gp_nonneg (s : Int) r (i : Int) (nst (s : Int) r (i : Int) (x :: l)).1 (by omega) (by omega)
      have h7 : ¬ (nst (s : Int) r (i : Int) (x :: l)).2 ≤ h := fun hc => hno ⟨_, h1, by omega⟩
      exact Ev.neg (by omega) (Ev.pos (by omega) (Ev.now _))
theorem guarded_l0 (s : Nat) (r : Bool) (tk l : List Int) (h : Int) (hs : 2 ≤ s ∧ s ≤ 24) (hl : l.length ≤ 35184372088832) (hr : ∀ x ∈ l, 0 ≤ x ∧ x < (s : Int)) (b : Bool) (hb : b = true ↔ (l.Pairwise (· < ·) ∧ GdP s r l h)) : Ev (fun k => impl_IsGuarded.l0 k l h 0 l (l.length : Int) 0 (s : Int) r tk) (b, true) := by
  obtain ⟨c, hc⟩ := exists_bool (∀ i, i < l.length → (0 < i → l.getD (i - 1) 0 < l.getD i 0))
  have hpw : c = true ↔ l.Pairwise (· < ·) := by
    rw [hc]
    have := rwP_all l ((s : Int) - 1)
    constructor
    · intro h1
      exact (this.mp (fun i hi => ⟨by rw [getD_lt l i hi]; have := hr l[i] (List.getElem_mem hi); omega, h1 i hi⟩)).2
    · intro h1 i hi
      exact (this.mpr ⟨fun x hx => by have := hr x hx; omega, h1⟩ i hi).2
  have hall : unionL (seenN s r h) l = 2 ^ s - 1 ↔ GdP s r l h := by
    have hbit : ∀ j, (unionL (seenN s r h) l).testBit j = (decide (j < s) && l.any (fun p => decide (gp (s : Int) r p (j : Int) ≤ h))) := by
      intro j
      rw [unionL_bit]
      unfold seenN
      simp only [bld_bit]
      by_cases hj : j < s <;> simp [hj]
    constructor
    · intro e p hp
      have := hbit p
      rw [e, all_bit] at this
      simp only [hp, decide_true, Bool.true_and] at this
      obtain ⟨q, hq, hg⟩ := List.any_eq_true.mp this.symm
      exact ⟨q, hq, by rw [gp_comm]; simpa using hg⟩
    · intro hg
      refine Nat.eq_of_testBit_eq (fun j => ?_)
      rw [hbit, all_bit]
      by_cases hj : j < s
      · obtain ⟨q, hq, h2⟩ := hg j hj
        simp only [hj, decide_true, Bool.true_and]
        exact List.any_eq_true.mpr ⟨q, hq, by rw [gp_comm]; simpa using h2⟩
      · simp [hj]
  have key : ∀ d i, i + d = l.length → ((∀ j, i ≤ j → j < l.length → (0 < j → l.getD (j - 1) 0 < l.getD j 0)) → Ev (fun k => impl_IsGuarded.l0 k l h ((unionL (seenN s r h) (l.take i) : Nat) : Int) l (l.length : Int) (i : Int) (s : Int) r tk) (decide (unionL (seenN s r h) l = 2 ^ s - 1), true)) ∧
      ((∃ j, i ≤ j ∧ j < l.length ∧ ¬ (0 < j → l.getD (j - 1) 0 < l.getD j 0)) → Ev (fun k => impl_IsGuarded.l0 k l h ((unionL (seenN s r h) (l.take i) : Nat) : Int) l (l.length : Int) (i : Int) (s : Int) r tk) (false, true)) := by
    intro d
    induction d with
    | zero =>
      intro i hi
      refine ⟨fun _ => ?_, fun ⟨j, h1, h2, _⟩ => by omega⟩
      refine Ev.succ ?_
      simp only [impl_IsGuarded.l0.eq_2]
      refine Ev.neg (by omega) (Ev.bindc rfl (Ev.bindc (all_eq s r (by omega)) ?_))
      rw [List.take_of_length_le (by omega)]
      rw [show ((((unionL (seenN s r h) l : Nat) : Int) == ((2 ^ s - 1 : Nat) : Int))) = decide (unionL (seenN s r h) l = 2 ^ s - 1) by
        rw [Bool.eq_iff_iff]; simp only [beq_iff_eq, decide_eq_true_eq]; omega]
      exact Ev.now _
    | succ d ih =>
      intro i hi
      have hx := hr l[i] (List.getElem_mem (by omega))
      have hu : unionL (seenN s r h) (l.take i) < 4294967296 := unionL_lt _ _ (fun x _ => seenN_lt s r h x (by omega))
      -- one round whose number is in its place
      have round : ∀ res, Ev (fun k => impl_IsGuarded.l0 k l h ((unionL (seenN s r h) (l.take (i + 1)) : Nat) : Int) l (l.length : Int) ((i + 1 : Nat) : Int) (s : Int) r tk) res → Ev (fun k => impl_IsGuarded.j2 k l h ((unionL (seenN s r h) (l.take i) : Nat) : Int) l[i] l (l.length : Int) (i : Int) false (s : Int) r tk) res := by
        intro res hres
        refine Ev.succ ?_
        simp only [impl_IsGuarded.j2.eq_2]
        refine Ev.neg (by decide) (Ev.bindc rfl (Ev.bind (seenBy_ev s r l[i] h (by omega) (by omega)) ?_))
        rw [w64 (by omega) (by omega), (u32_nat _ _ hu (seenN_lt s r h _ (by omega))).2, ← unionL_take _ l i (by omega)]
        exact hres
      have enter : ∀ (cond : Bool) res, (0 < i → cond = decide (l.getD (i - 1) 0 ≥ l.getD i 0)) → (i = 0 → cond = false) → Ev (fun k => impl_IsGuarded.j2 k l h ((unionL (seenN s r h) (l.take i) : Nat) : Int) l[i] l (l.length : Int) (i : Int) cond (s : Int) r tk) res → Ev (fun k => impl_IsGuarded.l0 k l h ((unionL (seenN s r h) (l.take i) : Nat) : Int) l (l.length : Int) (i : Int) (s : Int) r tk) res := by
        intro cond res h1 h2 hres
        refine Ev.succ ?_
        simp only [impl_IsGuarded.l0.eq_2]
        rw [rd_getD, getD_lt l i (by omega), w64 (n := (i : Int) - 1) (by omega) (by omega)]
        refine Ev.pos (by omega) (Ev.pos (by omega) (Ev.pos (by omega) ?_))
        by_cases h0 : (i : Int) > 0
        · have hc1 := h1 (by omega)
          rw [show (i : Int) - 1 = ((i - 1 : Nat) : Int) by omega, rd_getD]
          rw [getD_lt l i (by omega)] at hc1
          rw [← hc1]
          exact Ev.pos h0 (Ev.pos (by omega) (Ev.pos (by omega) hres))
        · rw [h2 (by omega)] at hres
          exact Ev.neg h0 hres
      constructor
      · intro hall2
        have hi2 := hall2 i (Nat.le_refl _) (by omega)
        refine enter false _ (fun h0 => ?_) (fun _ => rfl) (round _ ((ih (i + 1) (by omega)).1 (fun j h1 h2 => hall2 j (by omega) h2)))
        have := hi2 h0
        simp only [decide_eq_false_iff_not, eq_comm (a := false)]; omega
      · rintro ⟨j, h1, h2, h3⟩
        by_cases hij : (0 < i → l.getD (i - 1) 0 < l.getD i 0)
        · refine enter false _ (fun h0 => ?_) (fun _ => rfl) (round _ ((ih (i + 1) (by omega)).2 ⟨j, ?_, h2, h3⟩))
          · have := hij h0
            simp only [decide_eq_false_iff_not, eq_comm (a := false)]; omega
          · rcases Nat.eq_or_lt_of_le h1 with e | e
            · subst e; exact absurd hij h3
            · omega
        · have h0 : 0 < i := Decidable.byContradiction (fun c => hij (fun h => absurd h c))
          have hlt : ¬ l.getD (i - 1) 0 < l.getD i 0 := fun hc => hij (fun _ => hc)
          refine enter true _ (fun _ => ?_) (fun h => by omega) ?_
          · simp only [eq_comm (a := true), decide_eq_true_eq]; omega
          · refine Ev.succ ?_
            simp only [impl_IsGuarded.j2.eq_2]
            exact Ev.pos (by trivial) (Ev.now _)
  have k0 := key l.length 0 (by omega)
  simp only [List.take_zero] at k0
  cases c with
  | true =>
    have := k0.1 (fun j _ h2 => hc.mp rfl j h2)
    rw [show b = decide (unionL (seenN s r h) l = 2 ^ s - 1) by
      rw [Bool.eq_iff_iff, hb, decide_eq_true_eq, hall]
      exact ⟨fun h => h.2, fun h => ⟨hpw.mp rfl, h⟩⟩]
    exact this
  | false =>
    have hb' : b = false := by
      cases b with
      | false => rfl
      | true => exact absurd (hpw.mpr (hb.mp rfl).1) (by decide)
    rw [hb']
    refine k0.2 ?_
    have : ¬ ∀ i, i < l.length → (0 < i → l.getD (i - 1) 0 < l.getD i 0) := fun hh => absurd (hc.mpr hh) (by decide)
    obtain ⟨j, hj⟩ := Classical.not_forall.mp this
    exact ⟨j, by omega, Decidable.byContradiction (fun c => hj (fun h2 => absurd h2 c)), fun c => hj (fun _ => c)⟩
theorem FnExactIsGuarded : laws_FnExactIsGuarded.Pure := by
  intro s r tk l h _ _ hl _ _ hl1 _ _
  have hL : tk.length ≤ 35184372088832 := by omega
  have hL1 : l.length ≤ 35184372088832 := by omega
  refine Ev.rounds (g := fun k => laws_FnExactIsGuarded.f k s r tk l h) ?_
  unfold laws_FnExactIsGuarded.f
  by_cases hbig : (l.length : Int) > 1048576
  · exact Ev.pos hbig (Ev.now _)
  · refine Ev.neg hbig (Ev.bindc (szRow_eq s r tk _ hL (by omega) (by omega)) ?_)
    by_cases hb : (1048576 : Int) - (tk.length : Int) < 0
    · rw [if_pos hb]; exact Ev.pos (by omega) (Ev.now _)
    · rw [if_neg hb]
      refine Ev.neg hb ?_
      have key : ∃ q, Ev (fun k => spec_IsGuarded.f k s r tk l h) q ∧ Ev (fun k => impl_IsGuarded.f k s r tk l h) q := by
        obtain ⟨b, hbb⟩ := exists_bool (IsRw s r tk)
        have hbad : ∀ (c : Bool), c = true → (b = false ∨ c = decide (h < 0)) → Ev (fun k => spec_IsGuarded.j0 k l h c s r tk) (false, false) ∧ Ev (fun k => impl_IsGuarded.j0 k l h c s r tk) (false, false) := by
          rintro c rfl _
          refine ⟨Ev.succ ?_, Ev.succ ?_⟩
          · simp only [spec_IsGuarded.j0.eq_2]; exact Ev.pos (by trivial) (Ev.now _)
          · simp only [impl_IsGuarded.j0.eq_2]; exact Ev.pos (by trivial) (Ev.now _)
        cases b with
        | false =>
          obtain ⟨h1, h2⟩ := hbad true rfl (.inl rfl)
          refine ⟨(false, false), ?_, ?_⟩
          · unfold spec_IsGuarded.f; exact Ev.bind (l2Row_ev _ r tk hL false hbb) (Ev.neg (by decide) h1)
          · unfold impl_IsGuarded.f; exact Ev.bind (isRow_ev _ r tk hL false hbb) (Ev.neg (by decide) h2)
        | true =>
          by_cases hneg : h < 0
          · obtain ⟨h1, h2⟩ := hbad (decide (h < 0)) (decide_eq_true hneg) (.inr rfl)
            refine ⟨(false, false), ?_, ?_⟩
            · unfold spec_IsGuarded.f; exact Ev.bind (l2Row_ev _ r tk hL true hbb) (Ev.pos rfl h1)
            · unfold impl_IsGuarded.f; exact Ev.bind (isRow_ev _ r tk hL true hbb) (Ev.pos rfl h2)
          · have hrow := hbb.mp rfl
            obtain ⟨m, rfl⟩ : ∃ m : Nat, s = (m : Int) := ⟨s.toNat, by have := hrow.1; omega⟩
            have hm : 2 ≤ m ∧ m ≤ 24 := by have := hrow.1; omega
            have hdf : decide (h < 0) = false := by simpa using hneg
            obtain ⟨c, hc⟩ := exists_bool ((∀ x ∈ l, 0 ≤ x ∧ x ≤ (m : Int) - 1) ∧ l.Pairwise (· < ·) ∧ GdP m r l h)
            refine ⟨(c, true), ?_, ?_⟩
            · unfold spec_IsGuarded.f
              refine Ev.bind (l2Row_ev _ r tk hL true hbb) (Ev.pos rfl (Ev.succ ?_))
              simp only [spec_IsGuarded.j0.eq_2]
              rw [w64 (by omega) (by omega)]
              obtain ⟨e, he⟩ := exists_bool (∀ i, i < l.length → rwP l ((m : Int) - 1) i)
              refine Ev.neg (by rw [hdf]; decide) (Ev.bind (rising_ev l ((m : Int) - 1) hL1 e he) ?_)
              cases e with
              | true =>
                have hr := (rwP_all l _).mp (he.mp rfl)
                refine Ev.pos rfl (Ev.bind (f := fun _ t => some (t, true)) (l9Guards_ev m r tk l h (by omega) (by omega) hL1 (fun x hx => by have := hr.1 x hx; omega) c ?_) (Ev.now _))
                rw [hc]; exact ⟨fun h => h.2.2, fun h => ⟨hr.1, hr.2, h⟩⟩
              | false =>
                have : c = false := by
                  cases c with
                  | false => rfl
                  | true =>
                    have h3 := hc.mp rfl
                    exact absurd (he.mpr ((rwP_all l _).mpr ⟨h3.1, h3.2.1⟩)) (by decide)
                rw [this]
                exact Ev.neg (by decide) (Ev.now _)
            · unfold impl_IsGuarded.f
              refine Ev.bind (isRow_ev _ r tk hL true hbb) (Ev.pos rfl (Ev.succ ?_))
              simp only [impl_IsGuarded.j0.eq_2]
              refine Ev.neg (by rw [hdf]; decide) (Ev.bindc rfl ?_)
              refine Ev.bind (a := decide (∀ x ∈ l, 0 ≤ x ∧ x ≤ (m : Int) - 1)) ?_ ?_
              · unfold impl_bench_has.f
                refine Ev.bind (f := fun _ t => some t) (allWithin_ev l 0 _ hL1) ?_
                rw [w64 (by omega) (by omega)]
                exact Ev.now _
              · by_cases hw : ∀ x ∈ l, 0 ≤ x ∧ x ≤ (m : Int) - 1
                · refine Ev.pos (decide_eq_true hw) (guarded_l0 m r tk l h hm hL1 (fun x hx => by have := hw x hx; omega) c ?_)
                  rw [hc]; exact ⟨fun h => h.2, fun h => ⟨hw, h⟩⟩
                · have : c = false := by
                    cases c with
                    | false => rfl
                    | true => exact absurd (hc.mp rfl).1 hw
                  rw [this]
                  exact Ev.neg (by simpa using hw) (Ev.now _)
      obtain ⟨q, h1, h2⟩ := key
      have ht := toRow_ev s r tk hL
      have hi := toIntS_ev l hL1
      refine Ev.bind ht (Ev.bind hi (Ev.bind h1 (Ev.bind ht (Ev.bind hi (Ev.bind h2 (Ev.neg (by simp) (Ev.succ ?_)))))))
      simp only [laws_FnExactIsGuarded.j0.eq_2]
      exact Ev.neg (by simp) (Ev.bind ht (Ev.bind (eqRow_ev s r tk hL) (Ev.pos rfl (Ev.bind hi (Ev.bind (eqIntS_ev l hL1) (Ev.pos rfl (Ev.now _)))))))

end Go.Proofs.Ytoppdcfhgnffaaa.Pure
