/- Proved: the law FnPolite answers true for every code. -/
import Derived.Test.YtaebbgkoaaigbaaDoorZFnPolitePFnPolitex16
namespace Go.Proofs.YtaebbgkoaaigbaaDoor.Pure
open Go.RowKit Go.Proofs.YtaebbgkoaaigbaaDoor.PFnPolite Go.Proofs.YtaebbgkoaaigbaaDoorW.PrintWords Go.Proofs.YtaebbgkoaaigbaaDoorW.PrintLast Go.Proofs.YtaebbgkoaaigbaaDoorW.PrintMore
set_option linter.unusedVariables false

theorem Ev.pos {α : Type} {c : Prop} [Decidable c] {f g : Nat → Option α} {r : α} (h : c) (k : Ev f r) : Ev (fun m => if c then f m else g m) r :=
 Ev.congr (fun _ => if_pos h) k
theorem Ev.neg {α : Type} {c : Prop} [Decidable c] {f g : Nat → Option α} {r : α} (h : ¬ c) (k : Ev g r) : Ev (fun m => if c then f m else g m) r :=
 Ev.congr (fun _ => if_neg h) k
theorem Ev.bindc {α β : Type} {x : Option α} {f : Nat → α → Option β} {a : α} {r : β} (h : x = some a) (k : Ev (fun n => f n a) r) : Ev (fun n => x.bind (f n)) r := by
 subst h; exact k
theorem Ev.succ {α : Type} {g : Nat → Option α} {r : α} (k : Ev (fun n => g (n + 1)) r) : Ev g r := Ev.step (fun _ => rfl) k
theorem w64 {n : Int} (h0 : -9223372036854775808 ≤ n) (h1 : n < 9223372036854775808) : wrap64 n = n := by unfold wrap64; omega
theorem rd_nat (l : List Int) (i : Nat) (h : i < l.length) : rd l (i : Int) = l[i] := by
 unfold rd; rw [Int.toNat_natCast, List.getD_eq_getElem?_getD, List.getElem?_eq_getElem h]; rfl
/-- a loop that ends early, with one answer, where P fails -/
theorem ev_all {α : Type} (L : Nat → Nat → Option α) (n : Nat) (P : Nat → Prop) (rEnd : α)
  (hend : Ev (fun k => L k n) rEnd) (hgood : ∀ i, i < n → P i → ∀ r, Ev (fun k => L k (i + 1)) r → Ev (fun k => L k i) r)
  (i : Nat) (hi : i ≤ n) (h : ∀ j, i ≤ j → j < n → P j) : Ev (fun k => L k i) rEnd := by
 obtain ⟨d, hd⟩ : ∃ d, i + d = n := ⟨n - i, by omega⟩
 induction d generalizing i with
 | zero => rw [show i = n by omega]; exact hend
 | succ d ih => exact hgood i (by omega) (h i (by omega) (by omega)) _ (ih (i + 1) (by omega) (fun j h1 h2 => h j (by omega) h2) (by omega))
theorem ev_bad {α : Type} (L : Nat → Nat → Option α) (n : Nat) (P : Nat → Prop) (rBad : α)
  (hgood : ∀ i, i < n → P i → ∀ r, Ev (fun k => L k (i + 1)) r → Ev (fun k => L k i) r) (hbad : ∀ i, i < n → ¬ P i → Ev (fun k => L k i) rBad)
  (i : Nat) (h : ∃ j, i ≤ j ∧ j < n ∧ ¬ P j) : Ev (fun k => L k i) rBad := by
 obtain ⟨j, h1, h2, h3⟩ := h
 obtain ⟨d, hd⟩ : ∃ d, i + d = j := ⟨j - i, by omega⟩
 induction d generalizing i with
 | zero => rw [show i = j by omega]; exact hbad j h2 h3
 | succ d ih =>
  by_cases hp : P i
  ·exact hgood i (by omega) hp _ (ih (i + 1) (by omega) (by omega))
  ·exact hbad i (by omega) hp
theorem ev_dec {α : Type} (L : Nat → Nat → Option α) (n : Nat) (P : Nat → Prop) [DecidablePred P] (f : Bool → α)
  (hend : Ev (fun k => L k n) (f true)) (hgood : ∀ i, i < n → P i → ∀ r, Ev (fun k => L k (i + 1)) r → Ev (fun k => L k i) r)
  (hbad : ∀ i, i < n → ¬ P i → Ev (fun k => L k i) (f false)) (b : Bool) (hb : b = true ↔ ∀ j, j < n → P j) : Ev (fun k => L k 0) (f b) := by
 cases b with
 | true => exact ev_all L n P (f true) hend hgood 0 (by omega) (fun j _ h => hb.mp rfl j h)
 | false =>
  refine ev_bad L n P (f false) hgood hbad 0 ?_
  by_cases h : ∀ j, j < n → P j
  ·exact absurd (hb.mpr h) (by decide)
  ·have : ∃ j, ¬ (j < n → P j) := Classical.not_forall.mp h
   obtain ⟨j, hj⟩ := this
   exact ⟨j, by omega, Decidable.byContradiction (fun c => hj (fun h2 => absurd h2 c)), fun c => hj (fun _ => c)⟩
/-- a loop with a state -/
def iterFrom {σ : Type} (g : Nat → σ → σ) : Nat → Nat → σ → σ
 | 0, _, s => s
 | d + 1, i, s => iterFrom g d (i + 1) (g i s)
theorem ev_iter {σ α : Type} (L : Nat → σ → Nat → Option α) (n : Nat) (g : Nat → σ → σ) (fin : σ → α) (I : Nat → σ → Prop)
  (hend : ∀ s, I n s → Ev (fun k => L k s n) (fin s)) (hI : ∀ i s, i < n → I i s → I (i + 1) (g i s))
  (hstep : ∀ i s, i < n → I i s → ∀ r, Ev (fun k => L k (g i s) (i + 1)) r → Ev (fun k => L k s i) r) :
  ∀ (d i : Nat) (s : σ), i + d = n → I i s → Ev (fun k => L k s i) (fin (iterFrom g d i s)) := by
 intro d
 induction d with
 | zero => intro i s hi hs; rw [show i = n by omega] at hs ⊢; exact hend s hs
 | succ d ih => intro i s hi hs; exact hstep i s (by omega) hs _ (ih (i + 1) (g i s) (by omega) (hI i s (by omega) hs))
theorem within_eq (a b c : Int) : impl_within.f a b c = some (decide (b ≤ a ∧ a ≤ c)) := by
 unfold impl_within.f
 by_cases h : a ≥ b
 ·rw [if_pos h]; simp [show b ≤ a from h]
 ·rw [if_neg h]; simp [show ¬ b ≤ a from h]
theorem l1In_eq (a b c : Int) : spec_l1In.f a b c = some (decide (b ≤ a ∧ a ≤ c)) := by
 unfold spec_l1In.f
 by_cases h : a ≥ b
 ·rw [if_pos h]; simp [show b ≤ a from h]
 ·rw [if_neg h]; simp [show ¬ b ≤ a from h]
theorem has_loop (l : List Int) (x : Int) (hl : l.length ≤ 35184372088832) : ∀ (d i : Nat), i + d = l.length → Ev (fun k => spec_l1Has.l0 k l x (i : Int)) (decide (x ∈ l.drop i)) := by
 intro d
 induction d with
 | zero =>
  intro i hi
  refine Ev.succ ?_
  simp only [spec_l1Has.l0.eq_2]
  rw [List.drop_of_length_le (by omega)]
  exact Ev.neg (by omega) (Ev.now _)
 | succ d ih =>
  intro i hi
  refine Ev.succ ?_
  simp only [spec_l1Has.l0.eq_2]
  refine Ev.pos (by omega) (Ev.pos (by omega) ?_)
  have hd : l.drop i = l[i] :: l.drop (i + 1) := (List.drop_eq_getElem_cons (by omega))
  rw [rd_nat l i (by omega)]
  by_cases e : l[i] = x
  ·rw [show decide (x ∈ l.drop i) = true by rw [hd]; simp [e]]
   exact Ev.pos e (Ev.now _)
  ·refine Ev.neg e ?_
   rw [w64 (by omega) (by omega)]
   have := ih (i + 1) (by omega)
   rw [show decide (x ∈ l.drop i) = decide (x ∈ l.drop (i + 1)) by rw [hd]; simp only [List.mem_cons, Ne.symm e, false_or]]
   exact this
theorem has_ev (l : List Int) (x : Int) (hl : l.length ≤ 35184372088832) : Ev (fun k => spec_l1Has.f k l x) (decide (x ∈ l)) := has_loop l x hl l.length 0 (by omega)
theorem allWithin_loop (l : List Int) (lo hi : Int) (hl : l.length ≤ 35184372088832) : ∀ (d i : Nat), i + d = l.length → Ev (fun k => impl_allWithin.l0 k lo hi l (l.length : Int) (i : Int)) (decide (∀ x ∈ l.drop i, lo ≤ x ∧ x ≤ hi)) := by
 intro d
 induction d with
 | zero =>
  intro i hi
  refine Ev.succ ?_
  simp only [impl_allWithin.l0.eq_2]
  rw [List.drop_of_length_le (by omega)]
  exact Ev.neg (by omega) (by simp; exact Ev.now _)
 | succ d ih =>
  intro i hi'
  refine Ev.succ ?_
  simp only [impl_allWithin.l0.eq_2]
  refine Ev.pos (by omega) (Ev.pos (by omega) (Ev.pos (by omega) (Ev.bindc (within_eq _ _ _) ?_)))
  have hd : l.drop i = l[i] :: l.drop (i + 1) := (List.drop_eq_getElem_cons (by omega))
  rw [rd_nat l i (by omega)]
  by_cases e : lo ≤ l[i] ∧ l[i] ≤ hi
  ·refine Ev.pos (decide_eq_true e) ?_
   rw [w64 (by omega) (by omega)]
   have e1 : (∀ x ∈ l.drop i, lo ≤ x ∧ x ≤ hi) ↔ (∀ x ∈ l.drop (i + 1), lo ≤ x ∧ x ≤ hi) := by rw [hd]; simp only [List.mem_cons, forall_eq_or_imp, e, true_and]
   rw [decide_eq_decide.mpr e1]
   exact ih (i + 1) (by omega)
  ·rw [show decide (∀ x ∈ l.drop i, lo ≤ x ∧ x ≤ hi) = false by rw [hd]; simp only [List.mem_cons, forall_eq_or_imp, decide_eq_false_iff_not]; exact fun h => e h.1]
   exact Ev.neg (by simpa using e) (Ev.now _)
theorem allWithin_ev (l : List Int) (lo hi : Int) (hl : l.length ≤ 35184372088832) : Ev (fun k => impl_allWithin.f k l lo hi) (decide (∀ x ∈ l, lo ≤ x ∧ x ≤ hi)) := allWithin_loop l lo hi hl l.length 0 (by omega)
def pc : Nat → Nat → Nat
 | 0, _ => 0
 | k + 1, n => n % 2 + pc k (n / 2)
theorem u32_nat (a b : Nat) (ha : a < 4294967296) (hb : b < 4294967296) : Go.bits .and .u32 (a : Int) (b : Int) = ((a &&& b : Nat) : Int) ∧ Go.bits .or .u32 (a : Int) (b : Int) = ((a ||| b : Nat) : Int) :=
 bits_nat .u32 32 (by decide) (fun n h0 h1 => by rw [IntKind.wrap_u32]; omega) a b (by omega) (by omega)
/-- the set of some seats -/
def setN (l : List Int) : Nat := l.foldl (fun s p => s ||| 2 ^ p.toNat) 0
theorem foldl_or_bit (l : List Int) (s j : Nat) : (l.foldl (fun s p => s ||| 2 ^ p.toNat) s).testBit j = (s.testBit j || decide (∃ p ∈ l, p.toNat = j)) := by
 induction l generalizing s with
 | nil => simp
 | cons p l ih =>
  rw [List.foldl_cons, ih, Nat.testBit_or, Nat.testBit_two_pow]
  simp only [List.mem_cons, exists_eq_or_imp, Bool.decide_or, Bool.or_assoc]
theorem setN_bit (l : List Int) (j : Nat) : (setN l).testBit j = decide (∃ p ∈ l, p.toNat = j) := by
 unfold setN; rw [foldl_or_bit]; simp
theorem setN_lt (l : List Int) (h : ∀ x ∈ l, 0 ≤ x ∧ x < 32) : setN l < 4294967296 := by
 refine Nat.lt_pow_two_of_testBit (n := 32) _ (fun j hj => ?_)
 rw [setN_bit]
 simp only [decide_eq_false_iff_not, not_exists, not_and]
 intro x hx e
 have := h x hx
 omega
theorem setN_take (l : List Int) (i : Nat) (h : i < l.length) : setN (l.take (i + 1)) = setN (l.take i) ||| 2 ^ (l[i]).toNat := by
 unfold setN
 rw [List.take_succ_eq_append_getElem h, List.foldl_append]
 rfl
theorem two_pow_lt32 (p : Int) (h0 : 0 ≤ p) (h1 : p < 32) : 2 ^ p.toNat < 4294967296 := Nat.pow_lt_pow_right (m := p.toNat) (n := 32) (by decide) (by omega)
theorem shl_u32_one (p : Int) (h0 : 0 ≤ p) (h1 : p < 32) : shl .u32 1 p = ((2 ^ p.toNat : Nat) : Int) := by
 unfold shl
 rw [Nat.min_eq_left (by simp [IntKind.bits]; omega), IntKind.wrap_u32]
 have e : (1 * 2 ^ p.toNat : Int) = ((2 ^ p.toNat : Nat) : Int) := by rw [Int.one_mul]; push_cast; rfl
 rw [e]; exact Int.emod_eq_of_lt (Int.natCast_nonneg _) (Int.ofNat_lt.mpr (two_pow_lt32 p h0 h1))
/-- a list that has each number less than n once -/
def IsOrd (l : List Int) (n : Int) : Prop := (l.length : Int) = n ∧ ∀ i : Nat, (i : Int) < n → (i : Int) ∈ l
theorem ph_len : ∀ (n : Nat) (l : List Int), (∀ i : Nat, i < n → (i : Int) ∈ l) → n ≤ l.length := by
 intro n
 induction n with
 | zero => intro l _; omega
 | succ n ih =>
  intro l h
  have hm := h n (by omega)
  have := ih (l.erase (n : Int)) (fun i hi => (List.mem_erase_of_ne (by omega)).mpr (h i (by omega)))
  rw [List.length_erase_of_mem hm] at this
  have : 0 < l.length := List.length_pos_of_mem hm
  omega
theorem ph_nodup_len : ∀ (m : Nat) (l : List Int), l.Nodup → (∀ x ∈ l, 0 ≤ x ∧ x < (m : Int)) → l.length ≤ m := by
 intro m
 induction m with
 | zero =>
  intro l _ h
  cases l with
  | nil => simp
  | cons x l => have := h x (by simp); omega
 | succ m ih =>
  intro l hn h
  by_cases hm : (m : Int) ∈ l
  ·have := ih (l.erase (m : Int)) (hn.erase _) (fun x hx => by
    have h1 := h x (List.mem_of_mem_erase hx)
    have h2 : x ≠ (m : Int) := fun e => by subst e; exact (List.Nodup.not_mem_erase hn) hx
    omega)
   rw [List.length_erase_of_mem hm] at this
   omega
  ·have := ih l hn (fun x hx => by
    have h1 := h x hx
    have h2 : x ≠ (m : Int) := fun e => by subst e; exact hm hx
    omega)
   omega
instance (l : List Int) (n : Int) : Decidable (IsOrd l n) := decidable_of_iff ((l.length : Int) = n ∧ ∀ i : Fin l.length, (i.val : Int) ∈ l) (by
 unfold IsOrd
 constructor
 ·rintro ⟨h1, h2⟩; exact ⟨h1, fun i hi => h2 ⟨i, by omega⟩⟩
 ·rintro ⟨h1, h2⟩; exact ⟨h1, fun i => h2 i.val (by have := i.isLt; omega)⟩)
theorem getD_lt (l : List Int) (i : Nat) (h : i < l.length) : l.getD i 0 = l[i] := by rw [List.getD_eq_getElem?_getD, List.getElem?_eq_getElem h]; rfl
theorem rd_getD (l : List Int) (i : Nat) : rd l (i : Int) = l.getD i 0 := by unfold rd; rw [Int.toNat_natCast]
theorem exists_bool (p : Prop) : ∃ b : Bool, b = true ↔ p := by
 by_cases h : p
 ·exact ⟨true, by simp [h]⟩
 ·exact ⟨false, by simp [h]⟩
/-- a valid row -/
def IsRw (s : Int) (r : Bool) (l : List Int) : Prop := (2 ≤ s ∧ s ≤ 24) ∧ (r = true → 3 ≤ s) ∧ (∀ x ∈ l, 0 ≤ x ∧ x < s) ∧ l.Pairwise (· < ·)
def rwP (l : List Int) (hi : Int) (i : Nat) : Prop := (0 ≤ l.getD i 0 ∧ l.getD i 0 ≤ hi) ∧ (0 < i → l.getD (i - 1) 0 < l.getD i 0)
instance (l : List Int) (hi : Int) (i : Nat) : Decidable (rwP l hi i) := by unfold rwP; infer_instance
theorem rwP_all (l : List Int) (hi : Int) : (∀ i, i < l.length → rwP l hi i) ↔ (∀ x ∈ l, 0 ≤ x ∧ x ≤ hi) ∧ l.Pairwise (· < ·) := by
 constructor
 ·intro h
  refine ⟨fun x hx => ?_, ?_⟩
  ·obtain ⟨i, hi', rfl⟩ := List.mem_iff_getElem.mp hx
   have := (h i hi').1
   rw [getD_lt l i hi'] at this
   exact this
  ·rw [List.pairwise_iff_getElem]
   intro i j hi' hj hij
   obtain ⟨d, hd⟩ : ∃ d, i + 1 + d = j := ⟨j - i - 1, by omega⟩
   induction d generalizing j with
   | zero =>
    have := (h j hj).2 (by omega)
    rw [getD_lt l j hj, show j - 1 = i by omega, getD_lt l i hi'] at this
    exact this
   | succ d ih =>
    have h1 := ih (j - 1) (by omega) (by omega) (by omega)
    have h2 := (h j hj).2 (by omega)
    rw [getD_lt l j hj, getD_lt l (j - 1) (by omega)] at h2
    omega
 ·rintro ⟨h1, h2⟩ i hi'
  refine ⟨?_, fun h0 => ?_⟩
  ·rw [getD_lt l i hi']; exact h1 _ (List.getElem_mem _)
  ·rw [getD_lt l i hi', getD_lt l (i - 1) (by omega)]
   exact (List.pairwise_iff_getElem.mp h2) (i - 1) i (by omega) hi' (by omega)
theorem rising_ev (l : List Int) (hi : Int) (hl : l.length ≤ 35184372088832) (b : Bool) (hb : b = true ↔ ∀ i, i < l.length → rwP l hi i) : Ev (fun k => spec_l1Rising.f k l 0 hi) b := by
 unfold spec_l1Rising.f
 refine ev_dec (fun k i => spec_l1Rising.l0 k l 0 hi (i : Int)) l.length (rwP l hi) id ?_ ?_ ?_ b hb
 ·refine Ev.succ ?_
  simp only [spec_l1Rising.l0.eq_2]
  exact Ev.neg (by omega) (Ev.now _)
 ·intro i hi' hp r h
  refine Ev.succ ?_
  simp only [spec_l1Rising.l0.eq_2]
  rw [rd_getD, w64 (n := (i : Int) + 1) (by omega) (by omega), w64 (n := (i : Int) - 1) (by omega) (by omega)]
  refine Ev.pos (by omega) (Ev.pos (by omega) (Ev.bindc (l1In_eq _ _ _) (Ev.pos (decide_eq_true hp.1) ?_)))
  by_cases h0 : (i : Int) > 0
  ·have := hp.2 (by omega)
   rw [show (i : Int) - 1 = ((i - 1 : Nat) : Int) by omega, rd_getD]
   exact Ev.pos h0 (Ev.pos (by omega) (Ev.pos (by omega) (Ev.neg (by omega) h)))
  ·exact Ev.neg h0 h
 ·intro i hi' hp
  refine Ev.succ ?_
  simp only [spec_l1Rising.l0.eq_2]
  rw [rd_getD, w64 (n := (i : Int) - 1) (by omega) (by omega)]
  refine Ev.pos (by omega) (Ev.pos (by omega) (Ev.bindc (l1In_eq _ _ _) ?_))
  by_cases h1 : 0 ≤ l.getD i 0 ∧ l.getD i 0 ≤ hi
  ·have h2 : ¬ (0 < i → l.getD (i - 1) 0 < l.getD i 0) := fun h => hp ⟨h1, h⟩
   have h0 : 0 < i := Decidable.byContradiction (fun c => h2 (fun h => absurd h c))
   have h3 : ¬ l.getD (i - 1) 0 < l.getD i 0 := fun h => h2 (fun _ => h)
   rw [show (i : Int) - 1 = ((i - 1 : Nat) : Int) by omega, rd_getD]
   exact Ev.pos (decide_eq_true h1) (Ev.pos (by omega) (Ev.pos (by omega) (Ev.pos (by omega) (Ev.pos (by omega) (Ev.now _)))))
  ·exact Ev.neg (by simpa using h1) (Ev.now _)
theorem l2Row_ev (s : Int) (r : Bool) (l : List Int) (hl : l.length ≤ 35184372088832) (b : Bool) (hb : b = true ↔ IsRw s r l) : Ev (fun k => spec_l2Row.f k s r l) b := by
 unfold spec_l2Row.f
 have hno : ¬ IsRw s r l → b = false := fun h => by
  cases b with
  | false => rfl
  | true => exact absurd (hb.mp rfl) h
 refine Ev.bindc (l1In_eq _ _ _) ?_
 by_cases hs : 2 ≤ s ∧ s ≤ 24
 ·refine Ev.pos (decide_eq_true hs) ?_
  rw [w64 (by omega) (by omega)]
  have main : (r = true → 3 ≤ s) → (b = true ↔ ∀ i, i < l.length → rwP l (s - 1) i) := by
   intro h3
   rw [hb, rwP_all]
   unfold IsRw
   constructor
   ·rintro ⟨_, _, h4, h5⟩; exact ⟨fun x hx => by have := h4 x hx; omega, h5⟩
   ·rintro ⟨h4, h5⟩; exact ⟨hs, h3, fun x hx => by have := h4 x hx; omega, h5⟩
  by_cases hr : r = true
  ·refine Ev.pos hr ?_
   by_cases h3 : s > 2
   ·exact Ev.pos h3 (Ev.bind (f := fun _ t => some t) (rising_ev l (s - 1) hl b (main (fun _ => by omega))) (Ev.now _))
   ·rw [hno (fun h => h3 (by have := h.2.1 hr; omega))]
    exact Ev.neg h3 (Ev.now _)
  ·exact Ev.neg hr (Ev.bind (f := fun _ t => some t) (rising_ev l (s - 1) hl b (main (fun h => absurd h hr))) (Ev.now _))
 ·rw [hno (fun h => hs h.1)]
  exact Ev.neg (by simpa using hs) (Ev.now _)
theorem bench_has1 (s : Int) (r : Bool) (x : Int) : Ev (fun k => impl_bench_has.f k s r [x]) (decide (0 ≤ x ∧ x ≤ wrap64 (s - 1))) := by
 unfold impl_bench_has.f
 refine Ev.bind (f := fun _ t => some t) (allWithin_ev [x] 0 _ (by simp)) ?_
 simp only [List.mem_singleton, forall_eq]
 exact Ev.now _
theorem bench_valid_eq (s : Int) (r : Bool) (b : Bool) (hb : b = true ↔ (2 ≤ s ∧ s ≤ 24) ∧ (r = true → 3 ≤ s)) : impl_bench_valid.f s r = some b := by
 unfold impl_bench_valid.f
 rw [within_eq, Option.bind_some]
 by_cases hs : 2 ≤ s ∧ s ≤ 24
 ·rw [if_pos (decide_eq_true hs)]
  cases r with
  | true => rw [if_pos rfl]; congr 1; rw [Bool.eq_iff_iff, hb]; simp only [decide_eq_true_eq]; exact ⟨fun h => ⟨hs, fun _ => h⟩, fun h => h.2 (by trivial)⟩
  | false => rw [if_neg (by decide)]; congr 1; rw [Bool.eq_iff_iff, hb]; simp [hs]
 ·rw [if_neg (by simpa using hs)]; congr 1; rw [Bool.eq_iff_iff, hb]; simp only [Bool.false_eq_true, false_iff]; exact fun h => hs h.1
theorem isRow_ev (s : Int) (r : Bool) (l : List Int) (hl : l.length ≤ 35184372088832) (b : Bool) (hb : b = true ↔ IsRw s r l) : Ev (fun k => impl_IsRow.f k s r l) b := by
 unfold impl_IsRow.f
 obtain ⟨v, hv⟩ := exists_bool ((2 ≤ s ∧ s ≤ 24) ∧ (r = true → 3 ≤ s))
 obtain ⟨c, hc⟩ := exists_bool (∀ i, i < l.length → rwP l (wrap64 (s - 1)) i)
 have hbc : b = (if c = true then v else false) := by
  rw [Bool.eq_iff_iff, hb]
  unfold IsRw
  constructor
  ·rintro ⟨h1, h2, h3, h4⟩
   have hcc : c = true := by
    rw [hc, rwP_all, w64 (by omega) (by omega)]
    exact ⟨fun x hx => by have := h3 x hx; omega, h4⟩
   rw [if_pos hcc, hv]; exact ⟨h1, h2⟩
  ·intro h
   by_cases hcc : c = true
   ·rw [if_pos hcc, hv] at h
    rw [hc, rwP_all, w64 (by omega) (by omega)] at hcc
    exact ⟨h.1, h.2, fun x hx => by have := hcc.1 x hx; omega, hcc.2⟩
   ·rw [if_neg hcc] at h; cases h
 rw [hbc]
 refine ev_dec (fun k i => impl_IsRow.l0 k l (l.length : Int) (i : Int) s r l) l.length (rwP l (wrap64 (s - 1))) (fun c => if c = true then v else false) ?_ ?_ ?_ c hc
 ·refine Ev.succ ?_
  simp only [impl_IsRow.l0.eq_2]
  exact Ev.neg (by omega) (Ev.bindc rfl (Ev.bindc (bench_valid_eq s r v hv) (Ev.now _)))
 ·intro i hi' hp q h
  refine Ev.succ ?_
  simp only [impl_IsRow.l0.eq_2]
  rw [rd_getD, w64 (n := (i : Int) + 1) (by omega) (by omega), w64 (n := (i : Int) - 1) (by omega) (by omega)]
  refine Ev.pos (by omega) (Ev.pos (by omega) (Ev.pos (by omega) (Ev.bindc rfl (Ev.bind (bench_has1 s r _) (Ev.pos (decide_eq_true hp.1) ?_)))))
  by_cases h0 : (i : Int) > 0
  ·have := hp.2 (by omega)
   rw [show (i : Int) - 1 = ((i - 1 : Nat) : Int) by omega, rd_getD]
   exact Ev.pos h0 (Ev.pos (by omega) (Ev.pos (by omega) (Ev.neg (by omega) h)))
  ·exact Ev.neg h0 h
 ·intro i hi' hp
  refine Ev.succ ?_
  simp only [impl_IsRow.l0.eq_2]
  rw [rd_getD, w64 (n := (i : Int) - 1) (by omega) (by omega)]
  refine Ev.pos (by omega) (Ev.pos (by omega) (Ev.pos (by omega) (Ev.bindc rfl (Ev.bind (bench_has1 s r _) ?_))))
  by_cases h1 : 0 ≤ l.getD i 0 ∧ l.getD i 0 ≤ wrap64 (s - 1)
  ·have h2 : ¬ (0 < i → l.getD (i - 1) 0 < l.getD i 0) := fun h => hp ⟨h1, h⟩
   have h0 : 0 < i := Decidable.byContradiction (fun c => h2 (fun h => absurd h c))
   have h3 : ¬ l.getD (i - 1) 0 < l.getD i 0 := fun h => h2 (fun _ => h)
   rw [show (i : Int) - 1 = ((i - 1 : Nat) : Int) by omega, rd_getD]
   exact Ev.pos (decide_eq_true h1) (Ev.pos (by omega) (Ev.pos (by omega) (Ev.pos (by omega) (Ev.pos (by omega) (Ev.now _)))))
  ·exact Ev.neg (by simpa using h1) (Ev.now _)
theorem setOf_loop (l : List Int) (h : ∀ x ∈ l, 0 ≤ x ∧ x < 32) (hl : l.length ≤ 35184372088832) : ∀ (d i : Nat), i + d = l.length → Ev (fun k => impl_setOf.l0 k (setN (l.take i) : Int) l (l.length : Int) (i : Int)) (setN l : Int) := by
 intro d
 induction d with
 | zero =>
  intro i hi
  refine Ev.succ ?_
  simp only [impl_setOf.l0.eq_2]
  rw [List.take_of_length_le (by omega)]
  exact Ev.neg (by omega) (Ev.now _)
 | succ d ih =>
  intro i hi
  refine Ev.succ ?_
  simp only [impl_setOf.l0.eq_2]
  have hx := h (l[i]) (List.getElem_mem (by omega))
  rw [rd_nat l i (by omega)]
  refine Ev.pos (by omega) (Ev.pos (by omega) (Ev.pos (by omega) (Ev.pos hx.1 ?_)))
  rw [w64 (by omega) (by omega), shl_u32_one _ hx.1 hx.2]
  rw [(u32_nat _ _ (setN_lt _ (fun x hx => h x (List.mem_of_mem_take hx))) (two_pow_lt32 _ hx.1 hx.2)).2, ← setN_take l i (by omega)]
  exact ih (i + 1) (by omega)
theorem setOf_ev (l : List Int) (h : ∀ x ∈ l, 0 ≤ x ∧ x < 32) (hl : l.length ≤ 35184372088832) : Ev (fun k => impl_setOf.f k l) (setN l : Int) := setOf_loop l h hl l.length 0 (by omega)
/-- the gap of two seats -/
def gp (s : Int) (r : Bool) (p q : Int) : Int := if r = true then mn (mx (p - q) (q - p)) (s - mx (p - q) (q - p)) else mx (p - q) (q - p)
theorem mx_le {a b c : Int} (h1 : a ≤ c) (h2 : b ≤ c) : mx a b ≤ c := by unfold mx; split <;> omega
theorem le_mx {a b : Int} : a ≤ mx a b ∧ b ≤ mx a b := by unfold mx; split <;> omega
theorem l2Gap_eq (s : Int) (r : Bool) (l : List Int) (p q : Int) (hs : 0 ≤ s ∧ s ≤ 100) (hp : 0 ≤ p ∧ p < 100) (hq : 0 ≤ q ∧ q < 100) : spec_l2Gap.f s r l p q = some (gp s r p q) := by
 unfold spec_l2Gap.f spec_l1Most.f gp
 have e : (if p - q > q - p then some (p - q) else some (q - p)) = some (mx (p - q) (q - p)) := by
  unfold mx; split <;> split <;> first | rfl | (congr 1; omega)
 have h1 : mx (p - q) (q - p) ≤ 100 := mx_le (by omega) (by omega)
 have h2 := @le_mx (p - q) (q - p)
 rw [w64 (n := p - q) (by omega) (by omega), w64 (n := q - p) (by omega) (by omega), e, Option.bind_some]
 cases r with
 | true =>
  rw [if_pos rfl, if_pos rfl]
  unfold spec_l1Least.f
  rw [w64 (by omega) (by omega)]
  unfold mn
  split <;> split <;> first | rfl | (simp only [Option.bind_some]; congr 1; omega)
 | false => rw [if_neg (by decide), if_neg (by decide)]
theorem bench_gap_eq (s : Int) (r : Bool) (p q : Int) (hs : 0 ≤ s ∧ s ≤ 100) (hp : 0 ≤ p ∧ p < 100) (hq : 0 ≤ q ∧ q < 100) : impl_bench_gap.f s r p q = some (gp s r p q) := by
 unfold impl_bench_gap.f gp
 have h1 : mx (p - q) (q - p) ≤ 100 := mx_le (by omega) (by omega)
 have h2 := @le_mx (p - q) (q - p)
 rw [w64 (n := p - q) (by omega) (by omega), w64 (n := q - p) (by omega) (by omega), w64 (n := s - mx (p - q) (q - p)) (by omega) (by omega)]
 cases r with
 | true => rw [if_pos rfl, if_pos rfl]
 | false => rw [if_neg (by decide), if_neg (by decide)]
theorem gp_self (s : Int) (r : Bool) (p : Int) (hs : 0 ≤ s) : gp s r p p = 0 := by
 unfold gp mx mn; cases r <;> simp <;> omega
/-- the set of the numbers below n that meet R -/
def bld (R : Nat → Bool) : Nat → Nat
 | 0 => 0
 | n + 1 => if R n = true then bld R n ||| 2 ^ n else bld R n
theorem bld_bit (R : Nat → Bool) (n j : Nat) : (bld R n).testBit j = (decide (j < n) && R j) := by
 induction n with
 | zero => simp [bld]
 | succ n ih =>
  unfold bld
  by_cases h : R n = true
  ·rw [if_pos h, Nat.testBit_or, ih, Nat.testBit_two_pow]
   by_cases e : n = j
   ·subst e; simp [h]
   ·have : (j < n + 1) ↔ (j < n) := by omega
    simp [e, this]
  ·rw [if_neg h, ih]
   by_cases e : n = j
   ·subst e; simp [h]
   ·have : (j < n + 1) ↔ (j < n) := by omega
    simp [this]
theorem bld_lt (R : Nat → Bool) (n : Nat) (h : n ≤ 32) : bld R n < 4294967296 := by
 refine Nat.lt_pow_two_of_testBit (n := 32) _ (fun j hj => ?_)
 rw [bld_bit]
 simp; omega
theorem or_pow_u32 (a : Nat) (p : Nat) (ha : a < 4294967296) (hp : p < 32) : Go.bits .or .u32 (a : Int) (shl .u32 1 (p : Int)) = ((a ||| 2 ^ p : Nat) : Int) := by
 rw [shl_u32_one _ (by omega) (by omega), Int.toNat_natCast, (u32_nat _ _ ha (by have := two_pow_lt32 (p : Int) (by omega) (by omega); rwa [Int.toNat_natCast] at this)).2]
theorem bld_loop {α : Type} (L : Nat → Nat → Nat → Option α) (R : Nat → Bool) (n : Nat) (res : α) (hend : Ev (fun k => L k (bld R n) n) res)
  (hstep : ∀ i, i < n → bld R i < 2 ^ n → ∀ r, Ev (fun k => L k (if R i = true then bld R i ||| 2 ^ i else bld R i) (i + 1)) r → Ev (fun k => L k (bld R i) i) r) : Ev (fun k => L k 0 0) res := by
 have key : ∀ d i, i + d = n → Ev (fun k => L k (bld R i) i) res := by
  intro d
  induction d with
  | zero => intro i hi; rw [show i = n by omega]; exact hend
  | succ d ih =>
   intro i hi
   refine hstep i (by omega) ?_ _ (ih (i + 1) (by omega))
   refine Nat.lt_of_lt_of_le (Nat.lt_pow_two_of_testBit (n := i) _ (fun j hj => ?_)) (Nat.pow_le_pow_right (by decide) (by omega))
   rw [bld_bit]; simp; omega
 exact key n 0 (by omega)
def nearN (s : Nat) (r : Bool) (p : Int) : Nat := bld (fun q => decide (gp (s : Int) r p (q : Int) = 1)) s
theorem nearN_lt (s : Nat) (r : Bool) (p : Int) (hs : s ≤ 32) : nearN s r p < 4294967296 := bld_lt _ _ hs
theorem near_ev (s : Nat) (r : Bool) (p : Int) (hs : s ≤ 32) (hp : 0 ≤ p ∧ p < 100) : Ev (fun k => impl_bench_near.f k (s : Int) r p) (nearN s r p : Int) := by
 unfold impl_bench_near.f
 have := ev_iter (fun k (st : Nat) i => impl_bench_near.l0 k p (st : Int) (s : Int) (i : Int) (s : Int) r) s (fun i st => if gp (s : Int) r p (i : Int) = 1 then st ||| 2 ^ i else st) (fun st => (st : Int)) (fun i st => st = bld (fun q => decide (gp (s : Int) r p (q : Int) = 1)) i) ?_ ?_ ?_ s 0 0 (by omega) rfl
 ·have e : ∀ d i st, i + d = s → st = bld (fun q => decide (gp (s : Int) r p (q : Int) = 1)) i → iterFrom (fun i st => if gp (s : Int) r p (i : Int) = 1 then st ||| 2 ^ i else st) d i st = nearN s r p := by
   intro d
   induction d with
   | zero => intro i st hi hst; rw [hst, show i = s by omega]; rfl
   | succ d ih =>
    intro i st hi hst
    refine ih (i + 1) _ (by omega) ?_
    rw [hst]
    conv => rhs; unfold bld
    simp only [decide_eq_true_eq]
  rw [e s 0 0 (by omega) rfl] at this
  exact this
 ·intro st _
  refine Ev.succ ?_
  simp only [impl_bench_near.l0.eq_2]
  exact Ev.neg (by omega) (Ev.now _)
 ·intro i st hi hst
  rw [hst]
  conv => rhs; unfold bld
  simp only [decide_eq_true_eq]
 ·intro i st hi hst q h
  refine Ev.succ ?_
  simp only [impl_bench_near.l0.eq_2]
  refine Ev.pos (by omega) (Ev.bindc (bench_gap_eq _ _ _ _ (by omega) (by omega) (by omega)) ?_)
  rw [w64 (by omega) (by omega)]
  by_cases hg : gp (s : Int) r p (i : Int) = 1
  ·refine Ev.pos hg (Ev.pos (by omega) ?_)
   rw [or_pow_u32 st i (by rw [hst]; exact bld_lt _ _ (by omega)) (by omega)]
   simp only [hg, if_true] at h
   exact h
  ·refine Ev.neg hg ?_
   simp only [hg, if_false] at h
   exact h
/-- the first seat of a list with the least gap, and this gap -/
def nstStep (s : Int) (r : Bool) (p : Int) (st : Int × Int) (q : Int) : Int × Int := if st.1 < 0 then (q, gp s r p q) else if gp s r p q < st.2 then (q, gp s r p q) else st
def nst (s : Int) (r : Bool) (p : Int) (l : List Int) : Int × Int := l.foldl (nstStep s r p) (-1, -1)
theorem l2Nearest_ev (s : Int) (r : Bool) (tk l : List Int) (p : Int) (hl : l.length ≤ 35184372088832) (hs : 0 ≤ s ∧ s ≤ 100) (hp : 0 ≤ p ∧ p < 100) (hr : ∀ x ∈ l, 0 ≤ x ∧ x < 100) : Ev (fun k => spec_l2Nearest.f k s r tk l p) (nst s r p l) := by
 unfold spec_l2Nearest.f
 have key : ∀ d i (st : Int × Int), i + d = l.length → Ev (fun k => spec_l2Nearest.l0 k l p st.1 st.2 (i : Int) s r tk) ((l.drop i).foldl (nstStep s r p) st) := by
  intro d
  induction d with
  | zero =>
   intro i st hi
   refine Ev.succ ?_
   simp only [spec_l2Nearest.l0.eq_2]
   rw [List.drop_of_length_le (by omega)]
   exact Ev.neg (by omega) (Ev.now _)
  | succ d ih =>
   intro i st hi
   refine Ev.succ ?_
   simp only [spec_l2Nearest.l0.eq_2]
   have hx := hr l[i] (List.getElem_mem (by omega))
   rw [rd_nat l i (by omega), w64 (n := (i : Int) + 1) (by omega) (by omega)]
   refine Ev.pos (by omega) (Ev.pos (by omega) (Ev.bindc (l2Gap_eq s r tk p l[i] hs hp (by omega)) ?_))
   rw [List.drop_eq_getElem_cons (by omega), List.foldl_cons]
   have := ih (i + 1) (nstStep s r p st l[i]) (by omega)
   unfold nstStep at this ⊢
   by_cases h1 : st.1 < 0
   ·rw [if_pos h1] at this ⊢; exact Ev.pos h1 this
   ·rw [if_neg h1] at this ⊢
    refine Ev.neg h1 ?_
    by_cases h2 : gp s r p l[i] < st.2
    ·rw [if_pos h2] at this ⊢; exact Ev.pos h2 this
    ·rw [if_neg h2] at this ⊢; exact Ev.neg h2 this
 exact key l.length 0 (-1, -1) (by omega)
theorem nst_go (s : Int) (r : Bool) (p : Int) : ∀ (l : List Int) (st : Int × Int), 0 ≤ st.1 → (∀ x ∈ l, 0 ≤ x) → let f := l.foldl (nstStep s r p) st
  0 ≤ f.1 ∧ f.2 ≤ st.2 ∧ (∀ q ∈ l, f.2 ≤ gp s r p q) ∧ (f = st ∨ (f.1 ∈ l ∧ f.2 = gp s r p f.1)) := by
 intro l
 induction l with
 | nil => intro st h _; exact ⟨h, Int.le_refl _, by simp, .inl rfl⟩
 | cons q l ih =>
  intro st h hl
  have hq := hl q (by simp)
  have hl' : ∀ x ∈ l, 0 ≤ x := fun x hx => hl x (List.mem_cons_of_mem _ hx)
  simp only [List.foldl_cons]
  by_cases h2 : gp s r p q < st.2
  ·have e : nstStep s r p st q = (q, gp s r p q) := by unfold nstStep; rw [if_neg (by omega), if_pos h2]
   rw [e]
   obtain ⟨a, b, c, d⟩ := ih (q, gp s r p q) hq hl'
   refine ⟨a, by simp only at b; omega, fun x hx => ?_, ?_⟩
   ·rcases List.mem_cons.mp hx with rfl | hx
    ·exact b
    ·exact c x hx
   ·rcases d with d | d
    ·exact .inr ⟨by rw [d]; simp, by rw [d]⟩
    ·exact .inr ⟨List.mem_cons_of_mem _ d.1, d.2⟩
  ·have e : nstStep s r p st q = st := by unfold nstStep; rw [if_neg (by omega), if_neg h2]
   rw [e]
   obtain ⟨a, b, c, d⟩ := ih st h hl'
   refine ⟨a, b, fun x hx => ?_, ?_⟩
   ·rcases List.mem_cons.mp hx with rfl | hx
    ·omega
    ·exact c x hx
   ·rcases d with d | d
    ·exact .inl d
    ·exact .inr ⟨List.mem_cons_of_mem _ d.1, d.2⟩
theorem nst_cons (s : Int) (r : Bool) (p x : Int) (l : List Int) (hr : ∀ y ∈ x :: l, 0 ≤ y) : (nst s r p (x :: l)).1 ∈ x :: l ∧ (nst s r p (x :: l)).2 = gp s r p (nst s r p (x :: l)).1 ∧ ∀ q ∈ x :: l, (nst s r p (x :: l)).2 ≤ gp s r p q := by
 have e : nst s r p (x :: l) = l.foldl (nstStep s r p) (x, gp s r p x) := by
  unfold nst; rw [List.foldl_cons]; congr 1
 rw [e]
 obtain ⟨a, b, c, d⟩ := nst_go s r p l (x, gp s r p x) (hr x (by simp)) (fun y hy => hr y (List.mem_cons_of_mem _ hy))
 refine ⟨?_, ?_, ?_⟩
 ·rcases d with d | d
  ·rw [d]; simp
  ·exact List.mem_cons_of_mem _ d.1
 ·rcases d with d | d
  ·rw [d]
  ·exact d.2
 ·intro q hq
  rcases List.mem_cons.mp hq with rfl | hq
  ·exact b
  ·exact c q hq
theorem gp_nonneg (s : Int) (r : Bool) (p q : Int) (hp : 0 ≤ p ∧ p ≤ s) (hq : 0 ≤ q ∧ q ≤ s) : 0 ≤ gp s r p q := by
 unfold gp mx mn; cases r <;> simp only [Bool.false_eq_true, if_false, if_true] <;> split <;> (try split) <;> omega
theorem land_rec (x y : Nat) : x &&& y = 2 * ((x / 2) &&& (y / 2)) + (x % 2) * (y % 2) := by
 have hd : (x % 2) * (y % 2) < 2 := by
  rcases Nat.mod_two_eq_zero_or_one x with h | h <;> rcases Nat.mod_two_eq_zero_or_one y with h2 | h2 <;> rw [h, h2] <;> decide
 refine Nat.eq_of_testBit_eq (fun j => ?_)
 cases j with
 | zero =>
  rw [Nat.testBit_and, Nat.testBit_zero, Nat.testBit_zero, Nat.testBit_zero]
  rcases Nat.mod_two_eq_zero_or_one x with h | h <;> rcases Nat.mod_two_eq_zero_or_one y with h2 | h2 <;> rw [h, h2] <;> simp <;> omega
 | succ j =>
  rw [Nat.testBit_and, Nat.testBit_succ, Nat.testBit_succ, Nat.testBit_succ]
  rw [show (2 * ((x / 2) &&& (y / 2)) + (x % 2) * (y % 2)) / 2 = (x / 2) &&& (y / 2) by omega, Nat.testBit_and]
/-- the place of the lowest bit -/
def low : Nat → Nat → Nat
 | 0, _ => 0
 | k + 1, n => if n % 2 = 1 then 0 else low k (n / 2) + 1
theorem neg_land (k : Nat) : ∀ n, 0 < n → n < 2 ^ k → (n &&& (2 ^ k - n)) = 2 ^ (low k n) ∧ low k n < k ∧ n.testBit (low k n) = true := by
 induction k with
 | zero => intro n h1 h2; simp at h2; omega
 | succ k ih =>
  intro n h1 h2
  have hp : 2 ^ (k + 1) = 2 * 2 ^ k := by rw [Nat.pow_succ]; omega
  rw [land_rec]
  unfold low
  by_cases ho : n % 2 = 1
  ·rw [if_pos ho]
   have e1 : (2 ^ (k + 1) - n) / 2 = 2 ^ k - (n / 2 + 1) := by omega
   have e2 : (2 ^ (k + 1) - n) % 2 = 1 := by omega
   have hz : (n / 2) &&& (2 ^ k - (n / 2 + 1)) = 0 := by
    refine Nat.eq_of_testBit_eq (fun j => ?_)
    rw [Nat.testBit_and, Nat.testBit_two_pow_sub_succ (by omega), Nat.zero_testBit]
    cases (n / 2).testBit j <;> simp
   rw [e1, e2, hz, ho]
   exact ⟨rfl, by omega, by rw [Nat.testBit_zero]; simpa using ho⟩
  ·rw [if_neg ho]
   have e0 : n % 2 = 0 := by omega
   have e1 : (2 ^ (k + 1) - n) / 2 = 2 ^ k - n / 2 := by omega
   obtain ⟨a, b, c⟩ := ih (n / 2) (by omega) (by omega)
   rw [e1, e0, a, Nat.zero_mul, Nat.add_zero]
   exact ⟨by rw [Nat.pow_succ]; omega, by omega, by rw [Nat.testBit_succ]; exact c⟩
/-- the places of all bits, in order -/
def lst : Nat → Nat → Nat → List Nat
 | 0, _, _ => []
 | k + 1, off, n => if n % 2 = 1 then off :: lst k (off + 1) (n / 2) else lst k (off + 1) (n / 2)
theorem lst_zero (k off : Nat) : lst k off 0 = [] := by
 induction k generalizing off with
 | zero => rfl
 | succ k ih => unfold lst; rw [if_neg (by decide)]; exact ih _
theorem lst_len (k off n : Nat) : (lst k off n).length ≤ k := by
 induction k generalizing off n with
 | zero => exact Nat.le_refl _
 | succ k ih =>
  have := ih (off + 1) (n / 2)
  unfold lst; split
  ·rw [List.length_cons]; omega
  ·omega
theorem lst_step (k : Nat) : ∀ n off, 0 < n → n < 2 ^ k → lst k off n = (off + low k n) :: lst k off (n &&& (n - 1)) ∧ n &&& (n - 1) < n := by
 induction k with
 | zero => intro n off h1 h2; simp at h2; omega
 | succ k ih =>
  intro n off h1 h2
  have hp : 2 ^ (k + 1) = 2 * 2 ^ k := by rw [Nat.pow_succ]; omega
  rw [land_rec n (n - 1)]
  by_cases ho : n % 2 = 1
  ·have e1 : (n - 1) / 2 = n / 2 := by omega
   have e2 : (n - 1) % 2 = 0 := by omega
   rw [e1, e2, Nat.and_self]
   simp only [Nat.mul_zero, Nat.add_zero]
   have l1 : lst (k + 1) off n = off :: lst k (off + 1) (n / 2) := if_pos ho
   have l2 : lst (k + 1) off (2 * (n / 2)) = lst k (off + 1) (n / 2) := by
    rw [show lst (k + 1) off (2 * (n / 2)) = lst k (off + 1) (2 * (n / 2) / 2) from if_neg (by omega), show 2 * (n / 2) / 2 = n / 2 by omega]
   have l3 : low (k + 1) n = 0 := if_pos ho
   rw [l1, l2, l3]
   exact ⟨rfl, by omega⟩
  ·have e0 : n % 2 = 0 := by omega
   have e1 : (n - 1) / 2 = n / 2 - 1 := by omega
   obtain ⟨a, b⟩ := ih (n / 2) (off + 1) (by omega) (by omega)
   rw [e1, e0]
   simp only [Nat.zero_mul, Nat.add_zero]
   have l1 : lst (k + 1) off n = lst k (off + 1) (n / 2) := if_neg ho
   have l2 : lst (k + 1) off (2 * (n / 2 &&& (n / 2 - 1))) = lst k (off + 1) (n / 2 &&& (n / 2 - 1)) := by
    rw [show lst (k + 1) off (2 * (n / 2 &&& (n / 2 - 1))) = lst k (off + 1) (2 * (n / 2 &&& (n / 2 - 1)) / 2) from if_neg (by omega), Nat.mul_div_cancel_left _ (by decide)]
   have l3 : low (k + 1) n = low k (n / 2) + 1 := if_neg ho
   rw [l1, l2, l3, a]
   exact ⟨by congr 1; omega, by omega⟩
theorem lst_mem (k : Nat) : ∀ n off x, x ∈ lst k off n ↔ off ≤ x ∧ x < off + k ∧ n.testBit (x - off) = true := by
 induction k with
 | zero => intro n off x; simp only [lst, List.not_mem_nil, false_iff]; omega
 | succ k ih =>
  intro n off x
  have hh : x ∈ lst (k + 1) off n ↔ (x = off ∧ n % 2 = 1) ∨ x ∈ lst k (off + 1) (n / 2) := by
   rw [show lst (k + 1) off n = if n % 2 = 1 then off :: lst k (off + 1) (n / 2) else lst k (off + 1) (n / 2) from rfl]
   split
   ·rename_i h; simp [h]
   ·rename_i h; simp [h]
  rw [hh, ih]
  constructor
  ·rintro (⟨rfl, h⟩ | ⟨h1, h2, h3⟩)
   ·exact ⟨Nat.le_refl _, by omega, by rw [Nat.sub_self, Nat.testBit_zero]; simpa using h⟩
   ·refine ⟨by omega, by omega, ?_⟩
    rw [show x - off = (x - (off + 1)) + 1 by omega, Nat.testBit_succ]; exact h3
  ·rintro ⟨h1, h2, h3⟩
   rcases Nat.eq_or_lt_of_le h1 with e | e
   ·subst e; rw [Nat.sub_self, Nat.testBit_zero] at h3; exact .inl ⟨rfl, by simpa using h3⟩
   ·refine .inr ⟨by omega, by omega, ?_⟩
    rw [show x - off = (x - (off + 1)) + 1 by omega, Nat.testBit_succ] at h3; exact h3
theorem lst_sorted (k : Nat) : ∀ n off, (lst k off n).Pairwise (· < ·) := by
 induction k with
 | zero => intro n off; exact List.Pairwise.nil
 | succ k ih =>
  intro n off
  unfold lst
  split
  ·refine List.pairwise_cons.mpr ⟨fun x hx => ?_, ih _ _⟩
   have := (lst_mem k _ _ x).mp hx; omega
  ·exact ih _ _
/-- the seats of a set -/
def listN (n : Nat) : List Int := (lst 32 0 n).map (fun x : Nat => (x : Int))
theorem listN_mem (n : Nat) (x : Int) : x ∈ listN n ↔ (0 ≤ x ∧ x < 32) ∧ n.testBit x.toNat = true := by
 unfold listN
 rw [List.mem_map]
 constructor
 ·rintro ⟨y, hy, rfl⟩
  have := (lst_mem 32 n 0 y).mp hy
  exact ⟨by omega, by rw [Int.toNat_natCast]; simpa using this.2.2⟩
 ·rintro ⟨h1, h2⟩
  exact ⟨x.toNat, (lst_mem 32 n 0 _).mpr ⟨by omega, by omega, by simpa using h2⟩, by omega⟩
theorem listN_sorted (n : Nat) : (listN n).Pairwise (· < ·) := by
 unfold listN
 rw [List.pairwise_map]
 exact (lst_sorted 32 n 0).imp (fun h => by omega)
theorem listN_len (n : Nat) : (listN n).length ≤ 32 := by unfold listN; rw [List.length_map]; exact lst_len _ _ _
theorem sorted_ext : ∀ (l m : List Int), l.Pairwise (· < ·) → m.Pairwise (· < ·) → (∀ x, x ∈ l ↔ x ∈ m) → l = m := by
 intro l
 induction l with
 | nil =>
  intro m _ _ h
  cases m with
  | nil => rfl
  | cons y m => exact absurd ((h y).mpr (by simp)) (by simp)
 | cons x l ih =>
  intro m hl hm h
  cases m with
  | nil => exact absurd ((h x).mp (by simp)) (by simp)
  | cons y m =>
   obtain ⟨h1, h2⟩ := List.pairwise_cons.mp hl
   obtain ⟨h3, h4⟩ := List.pairwise_cons.mp hm
   have e : x = y := by
    have ha := (h x).mp (by simp)
    have hb := (h y).mpr (by simp)
    rcases List.mem_cons.mp ha with e | ha
    ·exact e
    ·rcases List.mem_cons.mp hb with e | hb
     ·exact e.symm
     ·have := h1 y hb; have := h3 x ha; omega
   subst e
   refine congrArg (x :: ·) (ih m h2 h4 (fun z => ?_))
   constructor
   ·intro hz
    rcases List.mem_cons.mp ((h z).mp (List.mem_cons_of_mem _ hz)) with e | hz'
    ·have := h1 z hz; omega
    ·exact hz'
   ·intro hz
    rcases List.mem_cons.mp ((h z).mpr (List.mem_cons_of_mem _ hz)) with e | hz'
    ·have := h3 z hz; omega
    ·exact hz'
theorem listN_setN (l : List Int) (h : ∀ x ∈ l, 0 ≤ x ∧ x < 32) (hs : l.Pairwise (· < ·)) : listN (setN l) = l := by
 refine sorted_ext _ _ (listN_sorted _) hs (fun x => ?_)
 rw [listN_mem, setN_bit, decide_eq_true_eq]
 constructor
 ·rintro ⟨h1, p, hp, e⟩
  have := h p hp
  rw [show x = p by omega]; exact hp
 ·intro hx; exact ⟨h x hx, x, hx, rfl⟩
theorem listN_bld (R : Nat → Bool) (n : Nat) (hn : n ≤ 32) : listN (bld R n) = ((List.range n).filter R).map (fun x : Nat => (x : Int)) := by
 refine sorted_ext _ _ (listN_sorted _) ?_ (fun x => ?_)
 ·rw [List.pairwise_map]
  have h0 : (List.range n).Pairwise (· < ·) := List.pairwise_lt_range
  exact (h0.filter R).imp (fun h => by omega)
 ·rw [listN_mem, bld_bit, List.mem_map]
  simp only [Bool.and_eq_true, decide_eq_true_eq, List.mem_filter, List.mem_range]
  constructor
  ·rintro ⟨h1, h2, h3⟩; exact ⟨x.toNat, ⟨h2, h3⟩, by omega⟩
  ·rintro ⟨y, ⟨h1, h2⟩, rfl⟩; exact ⟨by omega, by rw [Int.toNat_natCast]; exact h1, by rw [Int.toNat_natCast]; exact h2⟩
theorem tz_tab : ∀ i : Fin 32, ((2 ^ i.val * 125613361 % 4294967296) / 134217728 < 32) ∧ TZ.getD ((2 ^ i.val * 125613361 % 4294967296) / 134217728) 0 = ((i.val : Nat) : Int) := by decide +kernel
theorem neg_u32 (n : Nat) (h0 : 0 < n) (h : n < 4294967296) : Go.bits .and .u32 (n : Int) ((-(n : Int)) % 4294967296) = ((2 ^ (low 32 n) : Nat) : Int) := by
 have e : (-(n : Int)) % 4294967296 = ((4294967296 - n : Nat) : Int) := by omega
 rw [e, (u32_nat n (4294967296 - n) h (by omega)).1]
 have := (neg_land 32 n h0 h).1
 rw [show (2 : Nat) ^ 32 = 4294967296 from rfl] at this
 rw [this]
theorem tz_eq (n : Nat) (h0 : 0 < n) (h : n < 4294967296) : bits_TrailingZeros32.f (n : Int) = some ((low 32 n : Nat) : Int) := by
 unfold bits_TrailingZeros32.f
 have hl := (neg_land 32 n h0 h).2.1
 obtain ⟨t1, t2⟩ := tz_tab ⟨low 32 n, hl⟩
 simp only at t1 t2
 have e : tzi (n : Int) = (((2 ^ (low 32 n) * 125613361 % 4294967296) / 134217728 : Nat) : Int) := by
  unfold tzi
  rw [neg_u32 n h0 h]
  generalize 2 ^ (low 32 n) = t
  omega
 rw [if_neg (by omega), e, if_pos (by omega), if_pos (by omega)]
 unfold rd
 rw [Int.toNat_natCast, t2]
theorem list_ev (n : Nat) (h : n < 4294967296) : Ev (fun k => impl_set_list.f k (n : Int)) (listN n) := by
 unfold impl_set_list.f
 have key : ∀ m (n : Nat) (acc : List Int), n ≤ m → n < 4294967296 → acc.length + (lst 32 0 n).length ≤ 64 → Ev (fun k => impl_set_list.l0 k (n : Int) acc) (acc ++ (lst 32 0 n).map (fun x : Nat => (x : Int))) := by
  intro m
  induction m with
  | zero =>
   intro n acc hm _ _
   refine Ev.succ ?_
   simp only [impl_set_list.l0.eq_2]
   rw [show n = 0 by omega, lst_zero, List.map_nil, List.append_nil]
   exact Ev.pos rfl (Ev.now _)
  | succ m ih =>
   intro n acc hm hn hl
   refine Ev.succ ?_
   simp only [impl_set_list.l0.eq_2]
   by_cases h0 : n = 0
   ·subst h0
    rw [lst_zero, List.map_nil, List.append_nil]
    exact Ev.pos rfl (Ev.now _)
   ·obtain ⟨s1, s2⟩ := lst_step 32 n 0 (by omega) hn
    rw [Nat.zero_add] at s1
    refine Ev.neg (by omega) (Ev.bindc (tz_eq n (by omega) hn) (Ev.pos (by omega) ?_))
    rw [show ((n : Int) - 1) % 4294967296 = ((n - 1 : Nat) : Int) by omega, (u32_nat n (n - 1) hn (by omega)).1]
    rw [s1, List.length_cons] at hl
    have := ih (n &&& (n - 1)) (acc ++ [((low 32 n : Nat) : Int)]) (by omega) (by omega) (by rw [List.length_append, List.length_singleton]; omega)
    rw [s1, List.map_cons]
    rw [List.append_assoc, List.singleton_append] at this
    exact this
 have := key n n [] (Nat.le_refl _) h (by have := lst_len 32 0 n; simp; omega)
 simpa [listN] using this
/-- how far a seat is from all taken ones -/
def farN (s : Int) (r : Bool) (l : List Int) (q : Nat) : Int := if l = [] then s else (nst s r (q : Int) l).2
theorem gp_le (s : Int) (r : Bool) (p q : Int) (hp : 0 ≤ p ∧ p < s) (hq : 0 ≤ q ∧ q < s) : gp s r p q ≤ s := by
 unfold gp mx mn; cases r <;> simp only [Bool.false_eq_true, if_false, if_true] <;> split <;> (try split) <;> omega
theorem gp_pos (s : Int) (r : Bool) (p q : Int) (hp : 0 ≤ p ∧ p < s) (hq : 0 ≤ q ∧ q < s) (hne : p ≠ q) : 1 ≤ gp s r p q := by
 unfold gp mx mn; cases r <;> simp only [Bool.false_eq_true, if_false, if_true] <;> split <;> (try split) <;> omega
theorem farN_at (s : Int) (r : Bool) (l : List Int) (q : Nat) (hl : ∀ x ∈ l, 0 ≤ x ∧ x < s) (h : l ≠ []) : ∃ x ∈ l, farN s r l q = gp s r (q : Int) x ∧ ∀ y ∈ l, farN s r l q ≤ gp s r (q : Int) y := by
 cases l with
 | nil => exact absurd rfl h
 | cons x l =>
  obtain ⟨a, b, c⟩ := nst_cons s r (q : Int) x l (fun y hy => (hl y hy).1)
  have e : farN s r (x :: l) q = (nst s r (q : Int) (x :: l)).2 := if_neg (by simp)
  rw [e]
  exact ⟨_, a, b, c⟩
theorem farN_range (s : Int) (r : Bool) (l : List Int) (q : Nat) (hs : 0 ≤ s) (hl : ∀ x ∈ l, 0 ≤ x ∧ x < s) (hq : (q : Int) < s) : 0 ≤ farN s r l q ∧ farN s r l q ≤ s := by
 by_cases h : l = []
 ·rw [show farN s r l q = s from if_pos h]; omega
 ·obtain ⟨x, hx, e, _⟩ := farN_at s r l q hl h
  have := hl x hx
  rw [e]
  exact ⟨gp_nonneg s r _ _ (by omega) (by omega), gp_le s r _ _ (by omega) this⟩
theorem farN_free (s : Int) (r : Bool) (l : List Int) (q : Nat) (hs : 1 ≤ s) (hl : ∀ x ∈ l, 0 ≤ x ∧ x < s) (hq : (q : Int) < s) (hn : ¬ (q : Int) ∈ l) : 1 ≤ farN s r l q := by
 by_cases h : l = []
 ·rw [show farN s r l q = s from if_pos h]; omega
 ·obtain ⟨x, hx, e, _⟩ := farN_at s r l q hl h
  have := hl x hx
  rw [e]
  exact gp_pos s r _ _ (by omega) this (fun c => hn (by rw [c]; exact hx))
theorem farN_taken (s : Int) (r : Bool) (l : List Int) (q : Nat) (hs : 0 ≤ s) (hl : ∀ x ∈ l, 0 ≤ x ∧ x < s) (hn : (q : Int) ∈ l) : farN s r l q ≤ 0 := by
 obtain ⟨x, hx, e, c⟩ := farN_at s r l q hl (by intro h; rw [h] at hn; simp at hn)
 have := c _ hn
 rw [gp_self s r _ hs] at this
 exact this
theorem l3Far_ev (s : Int) (r : Bool) (l : List Int) (q : Nat) (hlen : l.length ≤ 35184372088832) (hs : 0 ≤ s ∧ s ≤ 100) (hl : ∀ x ∈ l, 0 ≤ x ∧ x < s) (hq : (q : Int) < s) : Ev (fun k => spec_l3Far.f k s r l (q : Int)) (farN s r l q) := by
 unfold spec_l3Far.f
 by_cases h : l = []
 ·rw [show farN s r l q = s from if_pos h, h]
  exact Ev.pos rfl (Ev.now _)
 ·rw [show farN s r l q = (nst s r (q : Int) l).2 from if_neg h]
  refine Ev.neg (fun c => h (List.length_eq_zero_iff.mp (by omega))) ?_
  refine Ev.bind (a := (nst s r (q : Int) l).2) ?_ (Ev.now _)
  unfold spec_l2Farthest.f
  exact Ev.bind (f := fun _ t => some t.2) (l2Nearest_ev s r l l (q : Int) hlen hs (by omega) (fun x hx => by have := hl x hx; omega)) (Ev.now _)
/-- the nearest taken seat, as the library tells it -/
def nearOf (s : Int) (r : Bool) (l : List Int) (p : Int) : Int × Int × Bool := if l = [] then (0, 0, false) else ((nst s r p l).1, (nst s r p l).2, true)
theorem nearL_ev (s : Int) (r : Bool) (l : List Int) (p : Int) (hlen : l.length ≤ 35184372088832) (hs : 0 ≤ s ∧ s ≤ 100) (hp : 0 ≤ p ∧ p < s) (hl : ∀ x ∈ l, 0 ≤ x ∧ x < s) : Ev (fun k => impl_bench_nearest.l0 k p 0 (-1) l (l.length : Int) 0 s r) (nearOf s r l p) := by
 have key : ∀ d i (st : Int × Int), i + d = l.length → 0 ≤ st.1 → 0 ≤ st.2 → Ev (fun k => impl_bench_nearest.l0 k p st.1 st.2 l (l.length : Int) (i : Int) s r) (((l.drop i).foldl (nstStep s r p) st).1, ((l.drop i).foldl (nstStep s r p) st).2, true) := by
  intro d
  induction d with
  | zero =>
   intro i st hi h1 h2
   refine Ev.succ ?_
   simp only [impl_bench_nearest.l0.eq_2]
   rw [List.drop_of_length_le (by omega)]
   refine Ev.neg (by omega) ?_
   rw [show mx 0 st.2 = st.2 by unfold mx; split <;> omega, show decide (st.2 ≥ 0) = true by simpa using h2]
   exact Ev.now _
  | succ d ih =>
   intro i st hi h1 h2
   refine Ev.succ ?_
   simp only [impl_bench_nearest.l0.eq_2]
   have hx := hl l[i] (List.getElem_mem (by omega))
   rw [rd_nat l i (by omega), w64 (n := (i : Int) + 1) (by omega) (by omega)]
   refine Ev.pos (by omega) (Ev.pos (by omega) (Ev.pos (by omega) (Ev.bindc (bench_gap_eq s r p l[i] hs (by omega) (by omega)) ?_)))
   rw [List.drop_eq_getElem_cons (by omega), List.foldl_cons]
   refine Ev.neg (by omega) ?_
   have hg := gp_nonneg s r p l[i] (by omega) (by omega)
   have := ih (i + 1) (nstStep s r p st l[i]) (by omega)
   unfold nstStep at this ⊢
   rw [if_neg (by omega)] at this ⊢
   by_cases h3 : gp s r p l[i] < st.2
   ·rw [if_pos h3] at this ⊢; exact Ev.pos h3 (this (by simp only; omega) (by simp only; omega))
   ·rw [if_neg h3] at this ⊢; exact Ev.neg h3 (this h1 h2)
 unfold nearOf
 cases l with
 | nil =>
  refine Ev.succ ?_
  simp only [impl_bench_nearest.l0.eq_2]
  exact Ev.neg (by decide) (Ev.now _)
 | cons x l =>
  rw [if_neg (by simp)]
  refine Ev.succ ?_
  simp only [impl_bench_nearest.l0.eq_2]
  have hx := hl x (by simp)
  have hg := gp_nonneg s r p x (by omega) (by omega)
  refine Ev.pos (by rw [List.length_cons]; omega) (Ev.pos (by omega) (Ev.pos (by rw [List.length_cons]; omega) (Ev.bindc (bench_gap_eq s r p x hs (by omega) (by omega)) (Ev.pos (by decide) ?_))))
  have e : nst s r p (x :: l) = l.foldl (nstStep s r p) (x, gp s r p x) := by
   unfold nst; rw [List.foldl_cons]; congr 1
  rw [e]
  have := key l.length 1 (x, gp s r p x) (by simp; omega) (by simp only; omega) (by simpa using hg)
  rw [show (x :: l).drop 1 = l from rfl] at this
  rw [show rd (x :: l) 0 = x from rfl, show wrap64 (0 + 1) = ((1 : Nat) : Int) from w64 (n := 1) (by decide) (by decide)]
  exact this
theorem nearest_ev (s : Int) (r : Bool) (T : Nat) (p : Int) (hT : T < 4294967296) (hs : 0 ≤ s ∧ s ≤ 100) (hp : 0 ≤ p ∧ p < s) (hl : ∀ x ∈ listN T, 0 ≤ x ∧ x < s) : Ev (fun k => impl_bench_nearest.f k s r p (T : Int)) (nearOf s r (listN T) p) := by
 unfold impl_bench_nearest.f
 have := listN_len T
 exact Ev.bind (list_ev T hT) (nearL_ev s r _ p (by omega) hs hp hl)
theorem farness_ev (s : Nat) (r : Bool) (T : Nat) (hT : T < 4294967296) (hs : s ≤ 24) (hl : ∀ x ∈ listN T, 0 ≤ x ∧ x < (s : Int)) : Ev (fun k => impl_bench_farness.f k (s : Int) r (T : Int)) ((List.range s).map (farN (s : Int) r (listN T))) := by
 unfold impl_bench_farness.f
 have key : ∀ d i, i + d = s → Ev (fun k => impl_bench_farness.l0 k (T : Int) ((List.range i).map (farN (s : Int) r (listN T))) (s : Int) (i : Int) (s : Int) r) ((List.range s).map (farN (s : Int) r (listN T))) := by
  intro d
  induction d with
  | zero =>
   intro i hi
   refine Ev.succ ?_
   simp only [impl_bench_farness.l0.eq_2]
   rw [show i = s by omega]
   exact Ev.neg (by omega) (Ev.now _)
  | succ d ih =>
   intro i hi
   refine Ev.succ ?_
   simp only [impl_bench_farness.l0.eq_2]
   refine Ev.pos (by omega) (Ev.bind (nearest_ev (s : Int) r T (i : Int) hT (by omega) (by omega) hl) ?_)
   rw [w64 (n := (i : Int) + 1) (by omega) (by omega)]
   have h := ih (i + 1) (by omega)
   rw [List.range_succ, List.map_append, List.map_singleton] at h
   by_cases e : listN T = []
   ·have e1 : nearOf (s : Int) r (listN T) (i : Int) = (0, 0, false) := if_pos e
    have e2 : farN (s : Int) r (listN T) i = (s : Int) := if_pos e
    rw [e1]
    rw [e2] at h
    exact Ev.neg (by simp) (Ev.pos (by rw [List.length_map, List.length_range]; omega) h)
   ·have e1 : nearOf (s : Int) r (listN T) (i : Int) = ((nst (s : Int) r (i : Int) (listN T)).1, (nst (s : Int) r (i : Int) (listN T)).2, true) := if_neg e
    have e2 : farN (s : Int) r (listN T) i = (nst (s : Int) r (i : Int) (listN T)).2 := if_neg e
    rw [e1]
    rw [e2] at h
    exact Ev.pos rfl (Ev.pos (by rw [List.length_map, List.length_range]; omega) h)
 exact key s 0 (by omega)
theorem l3All_ev (s : Nat) (r : Bool) (l : List Int) (hlen : l.length ≤ 35184372088832) (hs : s ≤ 24) (hl : ∀ x ∈ l, 0 ≤ x ∧ x < (s : Int)) : Ev (fun k => spec_l3All.f k (s : Int) r l) ((List.range s).map (farN (s : Int) r l)) := by
 unfold spec_l3All.f
 have key : ∀ d i, i + d = s → Ev (fun k => spec_l3All.l0 k ((List.range i).map (farN (s : Int) r l)) (i : Int) (s : Int) r l) ((List.range s).map (farN (s : Int) r l)) := by
  intro d
  induction d with
  | zero =>
   intro i hi
   refine Ev.succ ?_
   simp only [spec_l3All.l0.eq_2]
   rw [show i = s by omega]
   exact Ev.neg (by omega) (Ev.now _)
  | succ d ih =>
   intro i hi
   refine Ev.succ ?_
   simp only [spec_l3All.l0.eq_2]
   refine Ev.pos (by omega) (Ev.bind (l3Far_ev (s : Int) r l i hlen (by omega) hl (by omega)) ?_)
   rw [w64 (n := (i : Int) + 1) (by omega) (by omega)]
   have h := ih (i + 1) (by omega)
   rw [List.range_succ, List.map_append, List.map_singleton] at h
   exact Ev.pos (by rw [List.length_map, List.length_range]; omega) h
 exact key s 0 (by omega)
/-- the greatest of the first i numbers -/
def mxL (f : Nat → Int) : Nat → Int
 | 0 => 0
 | i + 1 => if mxL f i > f i then mxL f i else f i
theorem mxL_nonneg (f : Nat → Int) (i : Nat) : (∀ j, j < i → 0 ≤ f j) → 0 ≤ mxL f i := by
 induction i with
 | zero => intro _; exact Int.le_refl _
 | succ i ih =>
  intro h
  have := ih (fun j hj => h j (by omega)); have := h i (by omega)
  unfold mxL; split <;> omega
theorem mxL_ge (f : Nat → Int) (i : Nat) : ∀ j, j < i → f j ≤ mxL f i := by
 induction i with
 | zero => intro j hj; omega
 | succ i ih =>
  intro j hj
  unfold mxL
  by_cases e : j = i
  ·subst e; split <;> omega
  ·have := ih j (by omega); split <;> omega
theorem mxL_at (f : Nat → Int) (i : Nat) : 0 < mxL f i → ∃ j, j < i ∧ f j = mxL f i := by
 induction i with
 | zero => intro h; exact absurd h (by simp [mxL])
 | succ i ih =>
  intro h
  unfold mxL at h ⊢
  by_cases c : mxL f i > f i
  ·rw [if_pos c] at h ⊢
   obtain ⟨j, hj, e⟩ := ih h
   exact ⟨j, by omega, e⟩
  ·rw [if_neg c]; exact ⟨i, by omega, rfl⟩
def best (f : Nat → Int) (m : Int) (q : Nat) : Bool := decide (f q = m) && decide (0 < m)
/-- the seats that are farthest -/
def poL (f : Nat → Int) (n : Nat) : List Int := ((List.range n).filter (best f (mxL f n))).map (fun x : Nat => (x : Int))
theorem getD_mapR (f : Nat → Int) (s i : Nat) (h : i < s) : rd ((List.range s).map f) (i : Int) = f i := by
 rw [rd_nat _ i (by rw [List.length_map, List.length_range]; exact h), List.getElem_map, List.getElem_range]
theorem l3Polite_ev (s : Nat) (r : Bool) (l : List Int) (hlen : l.length ≤ 35184372088832) (hs : s ≤ 24) (hl : ∀ x ∈ l, 0 ≤ x ∧ x < (s : Int)) : Ev (fun k => spec_l3Polite.f k (s : Int) r l) (poL (farN (s : Int) r l) s) := by
 unfold spec_l3Polite.f
 refine Ev.bind (l3All_ev s r l hlen hs hl) ?_
 generalize hf : farN (s : Int) r l = f
 have hlm : ((List.range s).map f).length = s := by rw [List.length_map, List.length_range]
 have k1 : ∀ d i, i + d = s → Ev (fun k => spec_l3Polite.l1 k (((List.range i).filter (best f (mxL f s))).map (fun x : Nat => (x : Int))) ((List.range s).map f) (mxL f s) (i : Int) (s : Int) r l) (poL f s) := by
  intro d
  induction d with
  | zero =>
   intro i hi
   refine Ev.succ ?_
   simp only [spec_l3Polite.l1.eq_2]
   refine Ev.neg (by omega) (Ev.succ ?_)
   simp only [spec_l3Polite.j2.eq_2]
   rw [show i = s by omega]
   exact Ev.neg (by simp) (Ev.now _)
  | succ d ih =>
   intro i hi
   refine Ev.succ ?_
   simp only [spec_l3Polite.l1.eq_2]
   refine Ev.pos (by omega) (Ev.succ ?_)
   simp only [spec_l3Polite.j2.eq_2]
   have hlen2 : ∀ i, (((List.range i).filter (best f (mxL f s))).map (fun x : Nat => (x : Int))).length ≤ i := fun i => by
    rw [List.length_map]
    exact Nat.le_trans (List.length_filter_le _ _) (by rw [List.length_range]; exact Nat.le_refl _)
   by_cases hm : mxL f s > 0
   ·rw [show decide (mxL f s > 0) = true by simpa using hm, getD_mapR f s i (by omega), w64 (n := (i : Int) + 1) (by omega) (by omega), hlm]
    refine Ev.pos rfl (Ev.pos (by omega) (Ev.pos (by omega) ?_))
    have h := ih (i + 1) (by omega)
    rw [List.range_succ, List.filter_append, List.map_append] at h
    by_cases he : f i = mxL f s
    ·have hb : best f (mxL f s) i = true := by unfold best; simp [he, hm]
     rw [List.filter_cons_of_pos hb, List.filter_nil, List.map_singleton] at h
     exact Ev.pos he (Ev.pos (by have := hlen2 i; omega) h)
    ·have hb : ¬ best f (mxL f s) i = true := by unfold best; simp [he]
     rw [List.filter_cons_of_neg hb, List.filter_nil, List.map_nil, List.append_nil] at h
     exact Ev.neg he h
   ·rw [show decide (mxL f s > 0) = false by simpa using hm]
    have e0 : ∀ n, (List.range n).filter (best f (mxL f s)) = [] := fun n => by
     rw [List.filter_eq_nil_iff]; intro x _; unfold best; simp; omega
    rw [poL, e0 i, e0 s]
    exact Ev.neg (by simp) (Ev.now _)
 have k0 : ∀ d i, i + d = s → Ev (fun k => spec_l3Polite.l0 k [] ((List.range s).map f) (mxL f i) (i : Int) (s : Int) r l) (poL f s) := by
  intro d
  induction d with
  | zero =>
   intro i hi
   refine Ev.succ ?_
   simp only [spec_l3Polite.l0.eq_2]
   rw [show i = s by omega]
   exact Ev.neg (by omega) (k1 s 0 (by omega))
  | succ d ih =>
   intro i hi
   refine Ev.succ ?_
   simp only [spec_l3Polite.l0.eq_2]
   rw [getD_mapR f s i (by omega), w64 (n := (i : Int) + 1) (by omega) (by omega), hlm]
   have h := ih (i + 1) (by omega)
   refine Ev.pos (by omega) (Ev.pos (by omega) (Ev.pos (by omega) (Ev.bindc (a := mxL f (i + 1)) ?_ h)))
   show (if mxL f i > f i then some (mxL f i) else some (f i)) = some (if mxL f i > f i then mxL f i else f i)
   split <;> rfl
 exact k0 s 0 (by omega)
theorem bld_none (R : Nat → Bool) (n : Nat) (h : ∀ j, j < n → R j = false) : bld R n = 0 := by
 induction n with
 | zero => rfl
 | succ n ih =>
  unfold bld
  rw [if_neg (by rw [h n (by omega)]; decide)]
  exact ih (fun j hj => h j (by omega))
theorem polite_ev (s : Nat) (r : Bool) (T : Nat) (hT : T < 4294967296) (hs : s ≤ 24) (hl : ∀ x ∈ listN T, 0 ≤ x ∧ x < (s : Int)) :
  Ev (fun k => impl_bench_polite.f k (s : Int) r (T : Int)) (((bld (best (farN (s : Int) r (listN T)) (mxL (farN (s : Int) r (listN T)) s)) s : Nat) : Int), mxL (farN (s : Int) r (listN T)) s) := by
 unfold impl_bench_polite.f
 refine Ev.bind (farness_ev s r T hT hs hl) ?_
 have hn0 : ∀ j, j < s → 0 ≤ farN (s : Int) r (listN T) j := fun j hj => (farN_range (s : Int) r (listN T) j (by omega) hl (by omega)).1
 revert hn0
 generalize farN (s : Int) r (listN T) = f
 intro hn0
 have hlm : ((List.range s).map f).length = s := by rw [List.length_map, List.length_range]
 rw [hlm]
 have key : ∀ d i, i + d = s → Ev (fun k => impl_bench_polite.l0 k ((bld (best f (mxL f i)) i : Nat) : Int) (mxL f i) ((List.range s).map f) (s : Int) (i : Int)) (((bld (best f (mxL f s)) s : Nat) : Int), mxL f s) := by
  intro d
  induction d with
  | zero =>
   intro i hi
   refine Ev.succ ?_
   simp only [impl_bench_polite.l0.eq_2]
   rw [show i = s by omega]
   exact Ev.neg (by omega) (Ev.now _)
  | succ d ih =>
   intro i hi
   refine Ev.succ ?_
   simp only [impl_bench_polite.l0.eq_2]
   have h := ih (i + 1) (by omega)
   have hm := mxL_nonneg f i (fun j hj => hn0 j (by omega))
   have hf0 := hn0 i (by omega)
   have hmg := mxL_ge f i
   rw [getD_mapR f s i (by omega), hlm]
   refine Ev.pos (by omega) (Ev.pos (by omega) (Ev.pos (by omega) ?_))
   have hor := or_pow_u32 (bld (best f (mxL f i)) i) i (bld_lt _ _ (by omega)) (by omega)
   have hor0 := or_pow_u32 0 i (by decide) (by omega)
   by_cases c1 : f i = 0 ∨ f i < mxL f i
   ·have e1 : mxL f (i + 1) = mxL f i := by
     conv => lhs; unfold mxL
     split <;> omega
    have e2 : bld (best f (mxL f i)) (i + 1) = bld (best f (mxL f i)) i := by
     have hb : ¬ best f (mxL f i) i = true := by unfold best; simp; intro e; omega
     exact if_neg hb
    rw [e1, e2] at h
    have h2 : Ev (fun k => impl_bench_polite.j1 k ((bld (best f (mxL f i)) i : Nat) : Int) (mxL f i) (i : Int) (f i) ((List.range s).map f) (s : Int) (i : Int) true) (((bld (best f (mxL f s)) s : Nat) : Int), mxL f s) := by
     refine Ev.succ ?_
     simp only [impl_bench_polite.j1.eq_2]
     rw [w64 (n := (i : Int) + 1) (by omega) (by omega)]
     exact Ev.pos trivial h
    by_cases c0 : f i = 0
    ·exact Ev.pos c0 h2
    ·rw [show decide (f i < mxL f i) = true by simp; omega]
     exact Ev.neg c0 h2
   ·refine Ev.neg (by omega) ?_
    rw [show decide (f i < mxL f i) = false by simp; omega]
    refine Ev.succ ?_
    simp only [impl_bench_polite.j1.eq_2]
    rw [w64 (n := (i : Int) + 1) (by omega) (by omega)]
    refine Ev.neg (by simp) ?_
    have hb : best f (f i) i = true := by unfold best; simp; omega
    by_cases c2 : f i > mxL f i
    ·have e1 : mxL f (i + 1) = f i := by
      conv => lhs; unfold mxL
      split <;> omega
     have e0 : bld (best f (f i)) i = 0 := bld_none _ _ (fun j hj => by
      have := hmg j hj
      unfold best; simp; intro e; omega)
     have e2 : bld (best f (f i)) (i + 1) = 0 ||| 2 ^ i := by
      rw [show bld (best f (f i)) (i + 1) = bld (best f (f i)) i ||| 2 ^ i from if_pos hb, e0]
     rw [e1, e2] at h
     refine Ev.pos c2 (Ev.pos (by omega) ?_)
     rw [show (0 : Int) = ((0 : Nat) : Int) from rfl, hor0]
     exact h
    ·have e : f i = mxL f i := by omega
     have e1 : mxL f (i + 1) = mxL f i := by
      conv => lhs; unfold mxL
      split <;> omega
     rw [e] at hb
     have e2 : bld (best f (mxL f i)) (i + 1) = bld (best f (mxL f i)) i ||| 2 ^ i := if_pos hb
     rw [e1, e2] at h
     refine Ev.neg c2 (Ev.pos (by omega) ?_)
     rw [hor]
     exact h
 exact key s 0 (by omega)
/-- how many of a set's seats meet R, by a list of its seats -/
theorem count_single (n : Nat) (x : Int) (hx : 0 ≤ x ∧ x < (n : Int)) (R : Int → Bool) : (List.range n).countP (fun i : Nat => decide ((i : Int) = x) && R (i : Int)) = if R x = true then 1 else 0 := by
 induction n with
 | zero => omega
 | succ n ih =>
  rw [List.range_succ, List.countP_append, List.countP_singleton]
  by_cases e : (n : Int) = x
  ·have h0 : (List.range n).countP (fun i : Nat => decide ((i : Int) = x) && R (i : Int)) = 0 := by
    rw [List.countP_eq_zero]
    intro i hi
    have := List.mem_range.mp hi
    simp; intro h; omega
   rw [h0, e]; simp
  ·rw [ih (by omega)]; simp [e]
theorem count_list (n : Nat) (R : Int → Bool) : ∀ (l : List Int), l.Nodup → (∀ x ∈ l, 0 ≤ x ∧ x < (n : Int)) → (List.range n).countP (fun i : Nat => decide ((i : Int) ∈ l) && R (i : Int)) = l.countP R := by
 intro l
 induction l with
 | nil => intro _ _; simp
 | cons x l ih =>
  intro hn hr
  have hx : x ∉ l := (List.nodup_cons.mp hn).1
  have e : (List.range n).countP (fun i : Nat => decide ((i : Int) ∈ x :: l) && R (i : Int)) = (List.range n).countP (fun i : Nat => decide ((i : Int) ∈ l) && R (i : Int)) + (List.range n).countP (fun i : Nat => decide ((i : Int) = x) && R (i : Int)) := by
   generalize List.range n = L
   induction L with
   | nil => rfl
   | cons i L ihL =>
    simp only [List.countP_cons, ihL]
    by_cases e : (i : Int) = x
    ·have : ¬ (i : Int) ∈ l := e ▸ hx
     simp only [e, List.mem_cons, hx, true_or, decide_true, Bool.true_and, decide_false, Bool.false_and]
     simp; omega
    ·simp only [List.mem_cons, e, false_or, decide_false, Bool.false_and]
     simp; omega
  rw [e, ih (List.nodup_cons.mp hn).2 (fun y hy => hr y (List.mem_cons_of_mem _ hy)), count_single n x (hr x (by simp)) R, List.countP_cons]
theorem pairwise_nodup {l : List Int} (h : l.Pairwise (· < ·)) : l.Nodup := h.imp (fun h => by omega)
/-- the seats of one set that are not in another one -/
def lessN (a b : Nat) : Nat := (BitVec.ofNat 32 a &&& ~~~(BitVec.ofNat 32 b)).toNat
theorem lessN_lt (a b : Nat) : lessN a b < 4294967296 := (BitVec.ofNat 32 a &&& ~~~(BitVec.ofNat 32 b)).isLt
theorem lessN_bit (a b j : Nat) (ha : a < 4294967296) (hb : b < 4294967296) : (lessN a b).testBit j = (a.testBit j && !b.testBit j) := by
 unfold lessN
 rw [BitVec.testBit_toNat, BitVec.getLsbD_and, BitVec.getLsbD_not, BitVec.getLsbD_ofNat, BitVec.getLsbD_ofNat]
 by_cases h : j < 32
 ·simp [h]
 ·have : a.testBit j = false := Nat.testBit_lt_two_pow (Nat.lt_of_lt_of_le ha (Nat.pow_le_pow_right (n := 2) (i := 32) (by decide) (by omega)))
  simp [h, this]
theorem u32_andNot (a b : Nat) : Go.bits .andNot .u32 (a : Int) (b : Int) = ((lessN a b : Nat) : Int) := by
 unfold Go.bits lessN
 have e1 : BitVec.ofInt IntKind.u32.bits (a : Int) = BitVec.ofNat 32 a := BitVec.ofInt_natCast 32 a
 have e2 : BitVec.ofInt IntKind.u32.bits (b : Int) = BitVec.ofNat 32 b := BitVec.ofInt_natCast 32 b
 simp only [e1, e2]
 rw [IntKind.wrap_u32]
 have := (BitVec.ofNat 32 a &&& ~~~(BitVec.ofNat 32 b)).isLt
 exact Int.emod_eq_of_lt (Int.natCast_nonneg _) (Int.ofNat_lt.mpr this)
theorem has_bit (x i : Nat) (hx : x < 4294967296) : impl_set_has.f (x : Int) (i : Int) = some (x.testBit i) := by
 unfold impl_set_has.f
 rw [if_pos (by omega)]
 refine congrArg some ?_
 unfold shr
 rw [Int.toNat_natCast]
 have e : ((x : Int) / 2 ^ min i IntKind.u32.bits) = ((x / 2 ^ min i 32 : Nat) : Int) := by push_cast; rfl
 have hlt : x / 2 ^ min i 32 < 4294967296 := Nat.lt_of_le_of_lt (Nat.div_le_self _ _) hx
 have h1 := (u32_nat (x / 2 ^ min i 32) 1 hlt (by omega)).1
 rw [show ((1 : Nat) : Int) = 1 from rfl] at h1
 rw [e, h1, Nat.and_one_is_mod, Nat.testBit_eq_decide_div_mod_eq, Bool.eq_iff_iff]
 simp only [beq_iff_eq, decide_eq_true_eq]
 by_cases h : i ≤ 32
 ·rw [Nat.min_eq_left h]; omega
 ·have e1 : x / 2 ^ min i 32 = 0 := by rw [Nat.min_eq_right (by omega)]; exact Nat.div_eq_of_lt hx
  have e2 : x / 2 ^ i = 0 := Nat.div_eq_of_lt (Nat.lt_of_lt_of_le hx (Nat.pow_le_pow_right (n := 2) (i := 32) (by decide) (by omega)))
  rw [e1, e2]; decide
theorem rw_len {s : Int} {r : Bool} {l : List Int} (h : IsRw s r l) : l.length ≤ 24 := by
 have := ph_nodup_len s.toNat l (pairwise_nodup h.2.2.2) (fun x hx => by have := h.2.2.1 x hx; omega)
 have := h.1; omega
/-- a seat put in its place -/
def putL : List Int → Int → List Int
 | [], p => [p]
 | x :: l, p => if x < p then x :: putL l p else p :: x :: l
theorem putL_mem (l : List Int) (p x : Int) : x ∈ putL l p ↔ x = p ∨ x ∈ l := by
 induction l with
 | nil => simp [putL]
 | cons y l ih =>
  unfold putL
  split
  ·rw [List.mem_cons, ih, List.mem_cons]
   constructor
   ·rintro (h | h | h)
    ·exact .inr (.inl h)
    ·exact .inl h
    ·exact .inr (.inr h)
   ·rintro (h | h | h)
    ·exact .inr (.inl h)
    ·exact .inl h
    ·exact .inr (.inr h)
  ·rw [List.mem_cons]
theorem putL_len (l : List Int) (p : Int) : (putL l p).length = l.length + 1 := by
 induction l with
 | nil => rfl
 | cons y l ih => unfold putL; split <;> simp [ih]
theorem putL_sorted (l : List Int) (p : Int) (hp : p ∉ l) (hs : l.Pairwise (· < ·)) : (putL l p).Pairwise (· < ·) := by
 induction l with
 | nil => simp [putL]
 | cons y l ih =>
  obtain ⟨h1, h2⟩ := List.pairwise_cons.mp hs
  have hy : p ≠ y := fun e => hp (by rw [e]; simp)
  have hl : p ∉ l := fun e => hp (List.mem_cons_of_mem _ e)
  unfold putL
  split
  ·rename_i hlt
   refine List.pairwise_cons.mpr ⟨fun x hx => ?_, ih hl h2⟩
   rcases (putL_mem l p x).mp hx with e | e
   ·rw [e]; exact hlt
   ·exact h1 x e
  ·rename_i hlt
   refine List.pairwise_cons.mpr ⟨fun x hx => ?_, hs⟩
   rcases List.mem_cons.mp hx with e | e
   ·rw [e]; omega
   ·have := h1 x e; omega
theorem putL_set (l : List Int) (p : Int) : setN (putL l p) = setN l ||| 2 ^ p.toNat := by
 refine Nat.eq_of_testBit_eq (fun j => ?_)
 rw [Nat.testBit_or, setN_bit, setN_bit, Nat.testBit_two_pow]
 rw [Bool.eq_iff_iff]
 simp only [Bool.or_eq_true, decide_eq_true_eq]
 constructor
 ·rintro ⟨x, hx, e⟩
  rcases (putL_mem l p x).mp hx with h | h
  ·subst h; exact .inr e
  ·exact .inl ⟨x, h, e⟩
 ·rintro (⟨x, hx, e⟩ | e)
  ·exact ⟨x, (putL_mem l p x).mpr (.inr hx), e⟩
  ·exact ⟨p, (putL_mem l p p).mpr (.inl rfl), e⟩
theorem l1Put_ev (l : List Int) (p : Int) (hp : p ∉ l) (hl : l.length ≤ 35184372) : Ev (fun k => spec_l1Put.f k l p) (putL l p) := by
 unfold spec_l1Put.f
 have key : ∀ d i, i + d = l.length → Ev (fun k => spec_l1Put.l0 k l p (i : Int)) (l.take i ++ putL (l.drop i) p) := by
  intro d
  induction d with
  | zero =>
   intro i hi
   refine Ev.succ ?_
   simp only [spec_l1Put.l0.eq_2, Option.bind_some, List.nil_append, Int.toNat_natCast]
   have ht : (l.take i).length ≤ l.length := by rw [List.length_take]; omega
   have hd : (l.drop i).length ≤ l.length := by rw [List.length_drop]; omega
   rw [List.drop_of_length_le (show l.length ≤ i by omega)] at hd ⊢
   refine Ev.neg (by omega) (Ev.pos (by omega) (Ev.pos (by omega) (Ev.pos (by rw [List.length_nil]; omega) (Ev.pos (by rw [List.length_singleton]; omega) (Ev.pos (by rw [List.length_append, List.length_singleton, List.length_nil]; omega) ?_)))))
   rw [List.append_nil]
   exact Ev.now _
  | succ d ih =>
   intro i hi
   refine Ev.succ ?_
   simp only [spec_l1Put.l0.eq_2, Option.bind_some, List.nil_append, Int.toNat_natCast]
   have ht : (l.take i).length ≤ l.length := by rw [List.length_take]; omega
   have hd : (l.drop i).length ≤ l.length := by rw [List.length_drop]; omega
   have hne : l[i] ≠ p := fun e => hp (by rw [← e]; exact List.getElem_mem (by omega))
   rw [rd_nat l i (by omega), w64 (n := (i : Int) + 1) (by omega) (by omega)]
   have h := ih (i + 1) (by omega)
   rw [List.take_succ_eq_append_getElem (by omega)] at h
   rw [show l.drop i = l[i] :: l.drop (i + 1) from List.drop_eq_getElem_cons (by omega)]
   unfold putL
   refine Ev.pos (by omega) (Ev.pos (by omega) ?_)
   by_cases c : l[i] < p
   ·rw [if_pos c]
    refine Ev.pos c ?_
    rw [List.append_assoc, List.singleton_append] at h
    exact h
   ·rw [if_neg c]
    refine Ev.neg c (Ev.neg hne (Ev.pos (by omega) (Ev.pos (by rw [List.length_nil]; omega) (Ev.pos (by rw [List.length_singleton]; omega) (Ev.pos (by rw [List.length_append, List.length_singleton, List.length_cons, List.length_drop]; omega) ?_)))))
    rw [List.append_assoc, List.singleton_append]
    exact Ev.now _
 have := key l.length 0 (by omega)
 simpa using this
theorem l1Own_eq (l : List Int) (h : l.length < 17592186044416) : spec_l1Own.f l = some l := by
 unfold spec_l1Own.f
 rw [Option.bind_some, if_pos (by simpa using h), List.nil_append]
theorem l2With_ev (s : Int) (r : Bool) (l : List Int) (p : Int) (hp : p ∉ l) (hl : l.length ≤ 35184372) : Ev (fun k => spec_l2With.f k s r l p) (s, r, putL l p) := by
 unfold spec_l2With.f
 exact Ev.bindc (l1Own_eq l (by omega)) (Ev.bind (f := fun k t => (spec_l2Made.f s r l t).bind fun bt => some (bt.1, bt.2.1, bt.2.2)) (l1Put_ev l p hp hl) (Ev.bindc rfl (Ev.now _)))
/-- the head of the farthest seats -/
def heN (s : Nat) (r : Bool) (l : List Int) : Int := rd (poL (farN (s : Int) r l) s) 0
/-- the row after some polite newcomers -/
def aft (s : Nat) (r : Bool) : Nat → List Int → List Int
 | 0, l => l
 | c + 1, l => aft s r c (putL l (heN s r l))
theorem free_at (s : Nat) (l : List Int) (h : l.length < s) : ∃ q, q < s ∧ ¬ (q : Int) ∈ l := by
 by_cases c : ∀ i : Nat, i < s → (i : Int) ∈ l
 ·have := ph_len s l c; omega
 ·obtain ⟨q, hq⟩ := Classical.not_forall.mp c
  exact ⟨q, Decidable.byContradiction (fun hc => hq (fun h2 => absurd h2 hc)), fun hc => hq (fun _ => hc)⟩
theorem mx_pos (s : Nat) (r : Bool) (l : List Int) (hw : IsRw (s : Int) r l) (h : l.length < s) : 1 ≤ mxL (farN (s : Int) r l) s := by
 obtain ⟨q, hq, hn⟩ := free_at s l h
 have h1 := farN_free (s : Int) r l q (by omega) hw.2.2.1 (by omega) hn
 have h2 := mxL_ge (farN (s : Int) r l) s q hq
 omega
theorem poL_ne (s : Nat) (r : Bool) (l : List Int) (hw : IsRw (s : Int) r l) (h : l.length < s) : 0 < (poL (farN (s : Int) r l) s).length := by
 have hm := mx_pos s r l hw h
 obtain ⟨j, hj, e⟩ := mxL_at (farN (s : Int) r l) s (by omega)
 refine List.length_pos_of_mem (a := (j : Int)) ?_
 unfold poL
 rw [List.mem_map]
 refine ⟨j, List.mem_filter.mpr ⟨List.mem_range.mpr hj, ?_⟩, rfl⟩
 unfold best
 rw [e]
 generalize mxL (farN (s : Int) r l) s = m at hm
 simp; omega
theorem heN_ok (s : Nat) (r : Bool) (l : List Int) (hw : IsRw (s : Int) r l) (h : l.length < s) : (0 ≤ heN s r l ∧ heN s r l < (s : Int)) ∧ heN s r l ∉ l := by
 have hp := poL_ne s r l hw h
 have hm := mx_pos s r l hw h
 have hh : heN s r l ∈ poL (farN (s : Int) r l) s := by
  have e : heN s r l = (poL (farN (s : Int) r l) s)[0] := rd_nat _ 0 hp
  rw [e]
  exact List.getElem_mem _
 generalize heN s r l = p at hh
 unfold poL at hh
 obtain ⟨j, hj, rfl⟩ := List.mem_map.mp hh
 obtain ⟨h1, h2⟩ := List.mem_filter.mp hj
 have h1 := List.mem_range.mp h1
 unfold best at h2
 simp only [Bool.and_eq_true, decide_eq_true_eq] at h2
 refine ⟨⟨by omega, by omega⟩, fun hc => ?_⟩
 have := farN_taken (s : Int) r l j (by omega) hw.2.2.1 hc
 omega
theorem put_rw (s : Nat) (r : Bool) (l : List Int) (hw : IsRw (s : Int) r l) (h : l.length < s) : IsRw (s : Int) r (putL l (heN s r l)) := by
 obtain ⟨h1, h2⟩ := heN_ok s r l hw h
 refine ⟨hw.1, hw.2.1, fun x hx => ?_, putL_sorted _ _ h2 hw.2.2.2⟩
 rcases (putL_mem _ _ _).mp hx with e | e
 ·rw [e]; exact h1
 ·exact hw.2.2.1 x e
theorem rd_low (n : Nat) (h0 : 0 < n) (h : n < 4294967296) : rd (listN n) 0 = ((low 32 n : Nat) : Int) ∧ 0 < (listN n).length := by
 unfold listN
 rw [(lst_step 32 n 0 h0 h).1, List.map_cons, Nat.zero_add]
 exact ⟨rfl, by simp⟩
/-- newcomers settle a row: the row, and how many they are -/
def setl (s : Nat) (r : Bool) : Nat → List Int → List Int × Nat
 | 0, l => (l, 0)
 | c + 1, l => if mxL (farN (s : Int) r l) s < 2 then (l, 0) else ((setl s r c (putL l (heN s r l))).1, (setl s r c (putL l (heN s r l))).2 + 1)
theorem free_of_mx (s : Nat) (r : Bool) (l : List Int) (hw : IsRw (s : Int) r l) (h : 0 < mxL (farN (s : Int) r l) s) : l.length < s := by
 obtain ⟨j, hj, hm⟩ := mxL_at _ _ h
 have hn : ¬ (j : Int) ∈ l := fun hc => by
  have := farN_taken (s : Int) r l j (by omega) hw.2.2.1 hc
  omega
 have := ph_nodup_len s ((j : Int) :: l) (List.nodup_cons.mpr ⟨hn, pairwise_nodup hw.2.2.2⟩) (fun x hx => by
  rcases List.mem_cons.mp hx with e | e
  ·rw [e]; omega
  ·exact hw.2.2.1 x e)
 rw [List.length_cons] at this
 omega
theorem poL_nil (f : Nat → Int) (n : Nat) (h : mxL f n ≤ 0) : poL f n = [] := by
 unfold poL
 rw [List.filter_eq_nil_iff.mpr (fun q _ => by unfold best; rw [decide_eq_false (show ¬ 0 < mxL f n by omega), Bool.and_false]; decide), List.map_nil]
theorem heN_far (s : Nat) (r : Bool) (l : List Int) (hw : IsRw (s : Int) r l) (h : l.length < s) : farN (s : Int) r l (heN s r l).toNat = mxL (farN (s : Int) r l) s := by
 have hne := poL_ne s r l hw h
 have hm : heN s r l ∈ poL (farN (s : Int) r l) s := by
  unfold heN
  have e := rd_nat (poL (farN (s : Int) r l) s) 0 hne
  rw [show ((0 : Nat) : Int) = 0 from rfl] at e
  rw [e]; exact List.getElem_mem hne
 unfold poL at hm
 obtain ⟨q, hq, e⟩ := List.mem_map.mp hm
 have hb := (List.mem_filter.mp hq).2
 unfold best at hb
 rw [Bool.and_eq_true, decide_eq_true_eq] at hb
 rw [← e, Int.toNat_natCast]
 exact hb.1
theorem mx_nonneg (s : Nat) (r : Bool) (l : List Int) (hw : IsRw (s : Int) r l) : 0 ≤ mxL (farN (s : Int) r l) s := mxL_nonneg _ _ (fun j hj => (farN_range (s : Int) r l j (by omega) hw.2.2.1 (by omega)).1)
theorem settle_spec (s : Nat) (r : Bool) : ∀ c l (m : Nat), IsRw (s : Int) r l → s ≤ l.length + c → m ≤ 1000 - c → c ≤ 100 → Ev (fun k => spec_l3Settle.l0 k (m : Int) (s : Int) r l) ((s : Int), r, (setl s r c l).1, ((m + (setl s r c l).2 : Nat) : Int)) := by
 intro c
 induction c with
 | zero =>
  intro l m hw hc hm h100
  have hs := hw.1
  have h0 : ¬ 0 < mxL (farN (s : Int) r l) s := fun h => by have := free_of_mx s r l hw h; omega
  have hl := ph_nodup_len s l (pairwise_nodup hw.2.2.2) hw.2.2.1
  refine Ev.succ ?_
  simp only [spec_l3Settle.l0.eq_2, setl]
  refine Ev.bind (l3Polite_ev s r l (by omega) (by omega) hw.2.2.1) ?_
  rw [poL_nil _ _ (by omega)]
  exact Ev.pos rfl (Ev.now _)
 | succ c ih =>
  intro l m hw hc hm h100
  have hs := hw.1
  have hn := mx_nonneg s r l hw
  have hl := ph_nodup_len s l (pairwise_nodup hw.2.2.2) hw.2.2.1
  refine Ev.succ ?_
  simp only [spec_l3Settle.l0.eq_2, setl]
  refine Ev.bind (l3Polite_ev s r l (by omega) (by omega) hw.2.2.1) ?_
  by_cases h2 : mxL (farN (s : Int) r l) s < 2
  ·rw [if_pos h2]
   by_cases h0 : mxL (farN (s : Int) r l) s ≤ 0
   ·rw [poL_nil _ _ h0]
    exact Ev.pos rfl (Ev.now _)
   ·have hlt := free_of_mx s r l hw (by omega)
    have hne := poL_ne s r l hw hlt
    have hok := heN_ok s r l hw hlt
    have hf := l3Far_ev (s : Int) r l (heN s r l).toNat (by omega) (by omega) hw.2.2.1 (by omega)
    rw [heN_far s r l hw hlt, Int.toNat_of_nonneg hok.1.1] at hf
    exact Ev.neg (by omega) (Ev.pos (by omega) (Ev.bind hf (Ev.pos h2 (Ev.now _))))
  ·rw [if_neg h2]
   have hlt := free_of_mx s r l hw (by omega)
   have hne := poL_ne s r l hw hlt
   have hok := heN_ok s r l hw hlt
   have hf := l3Far_ev (s : Int) r l (heN s r l).toNat (by omega) (by omega) hw.2.2.1 (by omega)
   rw [heN_far s r l hw hlt, Int.toNat_of_nonneg hok.1.1] at hf
   refine Ev.neg (by omega) (Ev.pos (by omega) (Ev.bind hf (Ev.neg h2 (Ev.bind (l2With_ev (s : Int) r l (heN s r l) hok.2 (by omega)) ?_))))
   have h3 := ih (putL l (heN s r l)) (m + 1) (put_rw s r l hw hlt) (by rw [putL_len]; omega) (by omega) (by omega)
   rw [w64 (by omega) (by omega)]
   rw [show m + ((setl s r c (putL l (heN s r l))).2 + 1) = m + 1 + (setl s r c (putL l (heN s r l))).2 by omega]
   exact h3
/-- the numbers below N that are not in a list -/
def restL (N : Nat) (b : List Int) : List Int := ((List.range N).filter (fun j : Nat => !decide ((j : Int) ∈ b))).map (fun j : Nat => (j : Int))
theorem restL_sorted (N : Nat) (b : List Int) : (restL N b).Pairwise (· < ·) := by
 unfold restL
 rw [List.pairwise_map]
 exact (List.Pairwise.filter _ List.pairwise_lt_range).imp (fun h => by omega)
theorem restL_len (N : Nat) (b : List Int) : (restL N b).length ≤ N := by
 unfold restL; rw [List.length_map]; have := List.length_filter_le (fun j : Nat => !decide ((j : Int) ∈ b)) (List.range N); rw [List.length_range] at this; exact this
theorem restL_mem (N : Nat) (b : List Int) (x : Int) : x ∈ restL N b ↔ (0 ≤ x ∧ x < (N : Int)) ∧ x ∉ b := by
 unfold restL
 rw [List.mem_map]
 constructor
 ·rintro ⟨j, hj, rfl⟩
  obtain ⟨h1, h2⟩ := List.mem_filter.mp hj
  have := List.mem_range.mp h1
  exact ⟨by omega, by simpa using h2⟩
 ·rintro ⟨h1, h2⟩
  refine ⟨x.toNat, List.mem_filter.mpr ⟨List.mem_range.mpr (by omega), ?_⟩, by omega⟩
  rw [Int.toNat_of_nonneg h1.1]; simpa using h2
theorem restL_succ (s : Nat) (b : List Int) : restL (s + 1) b = restL s b ++ (if (s : Int) ∈ b then [] else [(s : Int)]) := by
 unfold restL
 rw [List.range_succ, List.filter_append, List.map_append]
 congr 1
 by_cases c : (s : Int) ∈ b
 ·rw [if_pos c]; simp [c]
 ·rw [if_neg c]; simp [c]
/-- the neighbors of a seat, as a list -/
def nearL (s : Nat) (r : Bool) (p : Int) (n : Nat) : List Int := ((List.range n).filter (fun j : Nat => decide (gp (s : Int) r p (j : Int) = 1))).map (fun j : Nat => (j : Int))
/-- no neighbor of a seat is taken -/
def lonR (s : Nat) (r : Bool) (l : List Int) (x : Int) : Bool := (nearL s r x s).all (fun y => !decide (y ∈ l))
def lonL (s : Nat) (r : Bool) (l : List Int) : List Int := (restL s l).filter (lonR s r l)
/-- the set of the lonely seats -/
def lonN (s : Nat) (r : Bool) (T : Nat) : Nat := bld (fun q => !T.testBit q && decide (nearN s r (q : Int) &&& T = 0)) s
theorem lonN_lt (s : Nat) (r : Bool) (T : Nat) (hs : s ≤ 32) : lonN s r T < 4294967296 := bld_lt _ _ hs
theorem bench_lonely_ev (s : Nat) (r : Bool) (T : Nat) (hs : s ≤ 31) (hT : T < 4294967296) : Ev (fun k => impl_bench_lonely.f k (s : Int) r (T : Int)) ((lonN s r T : Nat) : Int) := by
 unfold impl_bench_lonely.f
 refine bld_loop (fun k st i => impl_bench_lonely.l0 k (T : Int) (st : Int) (s : Int) (i : Int) (s : Int) r) (fun q => !T.testBit q && decide (nearN s r (q : Int) &&& T = 0)) s _ ?_ ?_
 ·refine Ev.succ ?_
  simp only [impl_bench_lonely.l0.eq_2]
  exact Ev.neg (by omega) (Ev.now _)
 ·intro i hi hb x hx
  have hb2 : bld (fun q => !T.testBit q && decide (nearN s r (q : Int) &&& T = 0)) i < 4294967296 := bld_lt _ _ (by omega)
  generalize bld (fun q => !T.testBit q && decide (nearN s r (q : Int) &&& T = 0)) i = st at hb hb2 hx ⊢
  refine Ev.succ ?_
  simp only [impl_bench_lonely.l0.eq_2]
  rw [w64 (by omega) (by omega)]
  refine Ev.pos (by omega) (Ev.bindc (has_bit T i hT) ?_)
  by_cases c : T.testBit i = true
  ·rw [c] at hx ⊢
   exact Ev.pos rfl (by simpa using hx)
  ·rw [Bool.not_eq_true] at c
   rw [c] at hx ⊢
   refine Ev.neg (by decide) (Ev.bind (near_ev s r (i : Int) (by omega) (by omega)) ?_)
   rw [(u32_nat _ _ (nearN_lt s r (i : Int) (by omega)) hT).1]
   by_cases c2 : nearN s r (i : Int) &&& T = 0
   ·rw [c2] at hx ⊢
    refine Ev.pos rfl (Ev.pos (by omega) ?_)
    rw [or_pow_u32 st i hb2 (by omega)]
    simpa using hx
   ·refine Ev.neg (by omega) ?_
    have e : decide (nearN s r (i : Int) &&& T = 0) = false := decide_eq_false c2
    rw [e] at hx
    simpa using hx
theorem nearN_bit (s : Nat) (r : Bool) (p : Int) (j : Nat) : (nearN s r p).testBit j = (decide (j < s) && decide (gp (s : Int) r p (j : Int) = 1)) := by unfold nearN; rw [bld_bit]
theorem lonN_bit (s : Nat) (r : Bool) (l : List Int) (hl : ∀ x ∈ l, 0 ≤ x ∧ x < (s : Int)) (q : Nat) : (lonN s r (setN l)).testBit q = true ↔ (q : Int) ∈ lonL s r l := by
 unfold lonN lonL
 rw [bld_bit, List.mem_filter, restL_mem, Bool.and_eq_true, Bool.and_eq_true, decide_eq_true_eq, decide_eq_true_eq, Bool.not_eq_true', setN_bit, decide_eq_false_iff_not]
 have e1 : (∃ p ∈ l, p.toNat = q) ↔ (q : Int) ∈ l := by
  constructor
  ·rintro ⟨p, hp, e⟩; have := hl p hp; rwa [show (q : Int) = p by omega]
  ·intro h; exact ⟨_, h, by omega⟩
 have e2 : nearN s r (q : Int) &&& setN l = 0 ↔ lonR s r l (q : Int) = true := by
  unfold lonR
  rw [List.all_eq_true]
  constructor
  ·intro h y hy
   unfold nearL at hy
   obtain ⟨j, hj, rfl⟩ := List.mem_map.mp hy
   obtain ⟨h1, h2⟩ := List.mem_filter.mp hj
   have hjs := List.mem_range.mp h1
   have hb := congrArg (fun t => t.testBit j) h
   simp only [Nat.testBit_and, nearN_bit, setN_bit, Nat.zero_testBit] at hb
   rw [decide_eq_true hjs, h2, Bool.true_and, Bool.true_and, decide_eq_false_iff_not] at hb
   simp only [Bool.not_eq_true', decide_eq_false_iff_not]
   intro hc
   exact hb ⟨_, hc, by omega⟩
  ·intro h
   refine Nat.eq_of_testBit_eq (fun j => ?_)
   rw [Nat.testBit_and, nearN_bit, setN_bit, Nat.zero_testBit, Bool.and_eq_false_iff]
   by_cases c : j < s ∧ gp (s : Int) r (q : Int) (j : Int) = 1
   ·right
    rw [decide_eq_false_iff_not]
    rintro ⟨p, hp, e⟩
    have h0 := hl p hp
    have h1 := h (j : Int) (by unfold nearL; exact List.mem_map.mpr ⟨j, List.mem_filter.mpr ⟨List.mem_range.mpr c.1, decide_eq_true c.2⟩, rfl⟩)
    simp only [Bool.not_eq_true', decide_eq_false_iff_not] at h1
    exact h1 (by rwa [show (j : Int) = p by omega])
   ·left
    rw [Bool.and_eq_false_iff, decide_eq_false_iff_not, decide_eq_false_iff_not]
    by_cases c1 : j < s
    ·exact .inr (fun h2 => c ⟨c1, h2⟩)
    ·exact .inl c1
 rw [e1, e2]
 constructor
 ·rintro ⟨h1, h2, h3⟩; exact ⟨⟨⟨by omega, by omega⟩, h2⟩, h3⟩
 ·rintro ⟨⟨⟨_, h1⟩, h2⟩, h3⟩; exact ⟨by omega, h2, h3⟩
/-- the seats that newcomers take, one by one -/
def ordL (s : Nat) (r : Bool) : Nat → List Int → List Int
 | 0, _ => []
 | c + 1, l => if l.length < s then heN s r l :: ordL s r c (putL l (heN s r l)) else []
theorem ordL_len (s : Nat) (r : Bool) : ∀ c l, IsRw (s : Int) r l → s ≤ l.length + c → (ordL s r c l).length + l.length = s := by
 intro c
 induction c with
 | zero =>
  intro l hw hc
  have hl := ph_nodup_len s l (pairwise_nodup hw.2.2.2) hw.2.2.1
  simp only [ordL, List.length_nil]; omega
 | succ c ih =>
  intro l hw hc
  have hl := ph_nodup_len s l (pairwise_nodup hw.2.2.2) hw.2.2.1
  unfold ordL
  by_cases h : l.length < s
  ·have := ih (putL l (heN s r l)) (put_rw s r l hw h) (by rw [putL_len]; omega)
   rw [putL_len] at this
   rw [if_pos h, List.length_cons]; omega
  ·rw [if_neg h, List.length_nil]; omega
theorem farN_put (s : Nat) (r : Bool) (l : List Int) (x : Int) (hw : IsRw (s : Int) r l) (hx : 0 ≤ x ∧ x < (s : Int)) (q : Nat) (hq : q < s) : farN (s : Int) r (putL l x) q ≤ farN (s : Int) r l q := by
 have hm : ∀ y ∈ putL l x, 0 ≤ y ∧ y < (s : Int) := fun y hy => by
  rcases (putL_mem l x y).mp hy with rfl | h
  ·exact hx
  ·exact hw.2.2.1 y h
 by_cases h : l = []
 ·rw [show farN (s : Int) r l q = s from if_pos h]
  exact (farN_range (s : Int) r (putL l x) q (by omega) hm (by omega)).2
 ·obtain ⟨y, hy, e, _⟩ := farN_at (s : Int) r l q hw.2.2.1 h
  rw [e]
  have hy2 : y ∈ putL l x := (putL_mem l x y).mpr (.inr hy)
  obtain ⟨_, _, _, h2⟩ := farN_at (s : Int) r (putL l x) q hm (fun c => by rw [c] at hy2; cases hy2)
  exact h2 y hy2
theorem mx_put (s : Nat) (r : Bool) (l : List Int) (x : Int) (hw : IsRw (s : Int) r l) (hx : 0 ≤ x ∧ x < (s : Int)) : mxL (farN (s : Int) r (putL l x)) s ≤ mxL (farN (s : Int) r l) s := by
 by_cases h : 0 < mxL (farN (s : Int) r (putL l x)) s
 ·obtain ⟨j, hj, e⟩ := mxL_at _ _ h
  have h1 := farN_put s r l x hw hx j hj
  have h2 := mxL_ge (farN (s : Int) r l) s j hj
  omega
 ·have := mx_nonneg s r l hw; omega
theorem setl_rw (s : Nat) (r : Bool) : ∀ c l, IsRw (s : Int) r l → IsRw (s : Int) r (setl s r c l).1 ∧ (setl s r c l).1.length = l.length + (setl s r c l).2 := by
 intro c
 induction c with
 | zero => intro l hw; exact ⟨hw, rfl⟩
 | succ c ih =>
  intro l hw
  unfold setl
  by_cases h : mxL (farN (s : Int) r l) s < 2
  ·rw [if_pos h]; exact ⟨hw, rfl⟩
  ·rw [if_neg h]
   have hlt := free_of_mx s r l hw (by omega)
   obtain ⟨h1, h2⟩ := ih (putL l (heN s r l)) (put_rw s r l hw hlt)
   rw [putL_len] at h2
   exact ⟨h1, by simp only; omega⟩
theorem setl_end (s : Nat) (r : Bool) : ∀ c l, IsRw (s : Int) r l → s ≤ l.length + c → mxL (farN (s : Int) r (setl s r c l).1) s < 2 := by
 intro c
 induction c with
 | zero =>
  intro l hw hc
  have h0 : ¬ 0 < mxL (farN (s : Int) r l) s := fun h => by have := free_of_mx s r l hw h; omega
  show mxL (farN (s : Int) r l) s < 2
  omega
 | succ c ih =>
  intro l hw hc
  unfold setl
  by_cases h : mxL (farN (s : Int) r l) s < 2
  ·rw [if_pos h]; exact h
  ·rw [if_neg h]
   have hlt := free_of_mx s r l hw (by omega)
   exact ih (putL l (heN s r l)) (put_rw s r l hw hlt) (by rw [putL_len]; omega)
theorem setl_again (s : Nat) (r : Bool) (c : Nat) (l : List Int) (h : mxL (farN (s : Int) r l) s < 2) : setl s r c l = (l, 0) := by
 cases c with
 | zero => rfl
 | succ c => unfold setl; rw [if_pos h]
theorem lonL_nil (s : Nat) (r : Bool) (l : List Int) (hw : IsRw (s : Int) r l) (h : mxL (farN (s : Int) r l) s < 2) : lonL s r l = [] := by
 have hs := hw.1
 unfold lonL
 rw [List.filter_eq_nil_iff]
 intro x hx hc
 obtain ⟨⟨x0, x1⟩, hn⟩ := (restL_mem s l x).mp hx
 obtain ⟨q, rfl⟩ : ∃ q : Nat, x = (q : Int) := ⟨x.toNat, by omega⟩
 have hg := mxL_ge (farN (s : Int) r l) s q (by omega)
 have hne : l ≠ [] := fun e => by
  rw [show farN (s : Int) r l q = s from if_pos e] at hg; omega
 obtain ⟨y, hy, e, _⟩ := farN_at (s : Int) r l q hw.2.2.1 hne
 have hy0 := hw.2.2.1 y hy
 have hp := gp_pos (s : Int) r (q : Int) y (by omega) hy0 (fun c => hn (by rw [c]; exact hy))
 unfold lonR at hc
 rw [List.all_eq_true] at hc
 have := hc y (by
  unfold nearL
  refine List.mem_map.mpr ⟨y.toNat, List.mem_filter.mpr ⟨List.mem_range.mpr (by omega), ?_⟩, by omega⟩
  rw [Int.toNat_of_nonneg hy0.1]
  exact decide_eq_true (by omega))
 simp [hy] at this
theorem settle_full (s : Nat) (r : Bool) (l : List Int) (hw : IsRw (s : Int) r l) (acc : List Int) (h0 : ¬ 0 < mxL (farN (s : Int) r l) s) (far : Int) (hfar : 1 ≤ far) : Ev (fun k => impl_bench_newcomers.l0 k ((setN l : Nat) : Int) far 24 acc (s : Int) r) (((setN l : Nat) : Int), acc) := by
 have hs := hw.1
 have h32 : ∀ x ∈ l, 0 ≤ x ∧ x < 32 := fun x hx => by have := hw.2.2.1 x hx; omega
 have hL : listN (setN l) = l := listN_setN l h32 hw.2.2.2
 have hp := polite_ev s r (setN l) (setN_lt l h32) (by omega) (by rw [hL]; exact hw.2.2.1)
 rw [hL] at hp
 refine Ev.succ ?_
 simp only [impl_bench_newcomers.l0.eq_2]
 by_cases h24 : (acc.length : Int) < 24
 ·refine Ev.pos h24 (Ev.bind hp ?_)
  simp only
  by_cases hB : ((bld (best (farN (s : Int) r l) (mxL (farN (s : Int) r l) s)) s : Nat) : Int) = 0
  ·exact Ev.pos hB (Ev.now _)
  ·exact Ev.neg hB (Ev.pos (by omega) (Ev.now _))
 ·exact Ev.neg h24 (Ev.now _)
theorem settle_impl (s : Nat) (r : Bool) : ∀ c l (acc : List Int), IsRw (s : Int) r l → s ≤ l.length + c → acc.length ≤ l.length → ∃ A : List Int, A.length = acc.length + (setl s r c l).2 ∧ Ev (fun k => impl_bench_newcomers.l0 k ((setN l : Nat) : Int) 2 24 acc (s : Int) r) (((setN (setl s r c l).1 : Nat) : Int), A) := by
 intro c
 induction c with
 | zero =>
  intro l acc hw hc ha
  exact ⟨acc, rfl, settle_full s r l hw acc (fun h => by have := free_of_mx s r l hw h; omega) 2 (by omega)⟩
 | succ c ih =>
  intro l acc hw hc ha
  have hs := hw.1
  have h32 : ∀ x ∈ l, 0 ≤ x ∧ x < 32 := fun x hx => by have := hw.2.2.1 x hx; omega
  have hL : listN (setN l) = l := listN_setN l h32 hw.2.2.2
  have hT := setN_lt l h32
  have hl := ph_nodup_len s l (pairwise_nodup hw.2.2.2) hw.2.2.1
  have hp := polite_ev s r (setN l) hT (by omega) (by rw [hL]; exact hw.2.2.1)
  rw [hL] at hp
  by_cases hF : ¬ 0 < mxL (farN (s : Int) r l) s
  ·rw [setl_again s r _ l (by omega)]
   exact ⟨acc, rfl, settle_full s r l hw acc hF 2 (by omega)⟩
  have hlt0 := free_of_mx s r l hw (by omega)
  by_cases h2 : mxL (farN (s : Int) r l) s < 2
  ·refine ⟨acc, ?_, Ev.succ ?_⟩
   ·simp only [setl]; rw [if_pos h2]; rfl
   ·simp only [impl_bench_newcomers.l0.eq_2, setl]
    rw [if_pos h2]
    refine Ev.pos (by omega) (Ev.bind hp ?_)
    simp only
    by_cases hB : ((bld (best (farN (s : Int) r l) (mxL (farN (s : Int) r l) s)) s : Nat) : Int) = 0
    ·exact Ev.pos hB (Ev.now _)
    ·exact Ev.neg hB (Ev.pos h2 (Ev.now _))
  ·have hlt := free_of_mx s r l hw (by omega)
   obtain ⟨A, hAl, hA⟩ := ih (putL l (heN s r l)) (acc ++ [heN s r l]) (put_rw s r l hw hlt) (by rw [putL_len]; omega) (by rw [putL_len, List.length_append, List.length_singleton]; omega)
   refine ⟨A, ?_, Ev.succ ?_⟩
   ·rw [hAl, List.length_append, List.length_singleton]; simp only [setl]; rw [if_neg h2]; simp only; omega
   ·simp only [impl_bench_newcomers.l0.eq_2, setl]
    rw [if_neg h2]
    have hB : listN (bld (best (farN (s : Int) r l) (mxL (farN (s : Int) r l) s)) s) = poL (farN (s : Int) r l) s := listN_bld _ s (by omega)
    have hBlt : bld (best (farN (s : Int) r l) (mxL (farN (s : Int) r l) s)) s < 4294967296 := bld_lt _ _ (by omega)
    have hne := poL_ne s r l hw hlt
    refine Ev.pos (by omega) (Ev.bind hp ?_)
    generalize hBe : bld (best (farN (s : Int) r l) (mxL (farN (s : Int) r l) s)) s = B at hB hBlt
    have hB0 : 0 < B := by
     rcases Nat.eq_zero_or_pos B with e | e
     ·rw [← hB, e, show listN 0 = [] by unfold listN; rw [lst_zero]; rfl] at hne
      simp at hne
     ·exact e
    obtain ⟨q1, q2⟩ := rd_low B hB0 hBlt
    have hhe : heN s r l = ((low 32 B : Nat) : Int) := by unfold heN; rw [← hB]; exact q1
    have hlow := (neg_land 32 B hB0 hBlt).2.1
    have h2l : 2 ^ low 32 B < 4294967296 := Nat.pow_lt_pow_right (m := low 32 B) (n := 32) (by decide) hlow
    refine Ev.neg (by simp only; omega) (Ev.neg (by simp only; omega) (Ev.bind (list_ev B hBlt) (Ev.pos (by omega) (Ev.pos (by omega) ?_))))
    simp only
    rw [neg_u32 B hB0 hBlt, (u32_nat _ _ hT h2l).2, q1]
    rw [hhe, putL_set, Int.toNat_natCast] at hA
    rw [hhe]
    exact hA
theorem order_impl (s : Nat) (r : Bool) : ∀ c l (acc : List Int), IsRw (s : Int) r l → s ≤ l.length + c → acc.length ≤ l.length → ∃ T : Int, Ev (fun k => impl_bench_newcomers.l0 k ((setN l : Nat) : Int) 1 24 acc (s : Int) r) (T, acc ++ ordL s r c l) := by
 intro c
 induction c with
 | zero =>
  intro l acc hw hc ha
  refine ⟨((setN l : Nat) : Int), ?_⟩
  rw [show ordL s r 0 l = [] from rfl, List.append_nil]
  exact settle_full s r l hw acc (fun h => by have := free_of_mx s r l hw h; omega) 1 (by omega)
 | succ c ih =>
  intro l acc hw hc ha
  have hs := hw.1
  have h32 : ∀ x ∈ l, 0 ≤ x ∧ x < 32 := fun x hx => by have := hw.2.2.1 x hx; omega
  have hL : listN (setN l) = l := listN_setN l h32 hw.2.2.2
  have hT := setN_lt l h32
  have hl := ph_nodup_len s l (pairwise_nodup hw.2.2.2) hw.2.2.1
  have hp := polite_ev s r (setN l) hT (by omega) (by rw [hL]; exact hw.2.2.1)
  rw [hL] at hp
  by_cases hlt : l.length < s
  ·have hmx := mx_pos s r l hw hlt
   obtain ⟨T, hA⟩ := ih (putL l (heN s r l)) (acc ++ [heN s r l]) (put_rw s r l hw hlt) (by rw [putL_len]; omega) (by rw [putL_len, List.length_append, List.length_singleton]; omega)
   refine ⟨T, Ev.succ ?_⟩
   simp only [impl_bench_newcomers.l0.eq_2, ordL]
   rw [if_pos hlt]
   have hB : listN (bld (best (farN (s : Int) r l) (mxL (farN (s : Int) r l) s)) s) = poL (farN (s : Int) r l) s := listN_bld _ s (by omega)
   have hBlt : bld (best (farN (s : Int) r l) (mxL (farN (s : Int) r l) s)) s < 4294967296 := bld_lt _ _ (by omega)
   have hne := poL_ne s r l hw hlt
   refine Ev.pos (by omega) (Ev.bind hp ?_)
   generalize hBe : bld (best (farN (s : Int) r l) (mxL (farN (s : Int) r l) s)) s = B at hB hBlt
   have hB0 : 0 < B := by
    rcases Nat.eq_zero_or_pos B with e | e
    ·rw [← hB, e, show listN 0 = [] by unfold listN; rw [lst_zero]; rfl] at hne
     simp at hne
    ·exact e
   obtain ⟨q1, q2⟩ := rd_low B hB0 hBlt
   have hhe : heN s r l = ((low 32 B : Nat) : Int) := by unfold heN; rw [← hB]; exact q1
   have hlow := (neg_land 32 B hB0 hBlt).2.1
   have h2l : 2 ^ low 32 B < 4294967296 := Nat.pow_lt_pow_right (m := low 32 B) (n := 32) (by decide) hlow
   refine Ev.neg (by simp only; omega) (Ev.neg (by simp only; omega) (Ev.bind (list_ev B hBlt) (Ev.pos (by omega) (Ev.pos (by omega) ?_))))
   simp only
   rw [neg_u32 B hB0 hBlt, (u32_nat _ _ hT h2l).2, q1]
   rw [hhe, putL_set, Int.toNat_natCast, List.append_assoc, List.singleton_append] at hA
   rw [hhe]
   exact hA
  ·refine ⟨((setN l : Nat) : Int), ?_⟩
   rw [show ordL s r (c + 1) l = [] by unfold ordL; rw [if_neg hlt], List.append_nil]
   exact settle_full s r l hw acc (fun h => hlt (free_of_mx s r l hw h)) 1 (by omega)
theorem l2Is_ev (s : Int) (r : Bool) (l : List Int) (p : Int) (hl : l.length ≤ 35184372088832) : Ev (fun k => spec_l2Is.f k s r l p) (decide (p ∈ l)) := by
 unfold spec_l2Is.f
 exact Ev.bind (f := fun _ t => some t) (has_ev l p hl) (Ev.now _)
theorem l2Free_loop (n : Nat) (r : Bool) (l : List Int) (hN : n ≤ 100) (hl : l.length ≤ 35184372088832) : ∀ d s, s + d = n → Ev (fun k => spec_l2Free.l0 k (restL s l) (s : Int) (n : Int) r l) (restL n l) := by
 intro d
 induction d with
 | zero =>
  intro s hs
  obtain rfl : s = n := by omega
  refine Ev.succ ?_
  simp only [spec_l2Free.l0.eq_2]
  exact Ev.neg (by omega) (Ev.now _)
 | succ d ih =>
  intro s hs
  refine Ev.succ ?_
  simp only [spec_l2Free.l0.eq_2]
  have hlen := restL_len s l
  have h1 := ih (s + 1) (by omega)
  rw [restL_succ] at h1
  refine Ev.pos (by omega) (Ev.bind (l2Is_ev (n : Int) r l (s : Int) hl) ?_)
  rw [w64 (by omega) (by omega)]
  by_cases c : (s : Int) ∈ l
  ·rw [if_pos c, List.append_nil] at h1
   exact Ev.pos (decide_eq_true c) h1
  ·rw [if_neg c] at h1
   exact Ev.neg (by simpa using c) (Ev.pos (by omega) h1)
theorem l2Free_ev (n : Nat) (r : Bool) (l : List Int) (hN : n ≤ 100) (hl : l.length ≤ 35184372088832) : Ev (fun k => spec_l2Free.f k (n : Int) r l) (restL n l) := by
 unfold spec_l2Free.f
 exact l2Free_loop n r l hN hl n 0 (by omega)
theorem all_bit (s j : Nat) : (2 ^ s - 1).testBit j = decide (j < s) := Nat.testBit_two_pow_sub_one s j
theorem all_lt (s : Nat) (h : s ≤ 31) : 2 ^ s - 1 < 4294967296 := by
 have : 2 ^ s < 2 ^ 32 := Nat.pow_lt_pow_right (by decide) (by omega)
 have : (2 : Nat) ^ 32 = 4294967296 := rfl
 omega
/-- the free seats -/
def freeN (s : Nat) (l : List Int) : Nat := lessN (2 ^ s - 1) (setN l)
theorem bench_all_eq (s : Nat) (r : Bool) (hs : s ≤ 31) : impl_bench_all.f (s : Int) r = some (((2 ^ s - 1 : Nat) : Int)) := by
 unfold impl_bench_all.f
 have h := all_lt s hs
 have hp : 0 < 2 ^ s := Nat.two_pow_pos s
 rw [if_pos (by omega), shl_u32_one _ (by omega) (by omega), Int.toNat_natCast]
 congr 1
 generalize 2 ^ s = t at h hp ⊢
 omega
theorem row_free_ev (s : Nat) (r : Bool) (l : List Int) (hs : s ≤ 31) (hlen : l.length ≤ 35184372088832) (hl : ∀ x ∈ l, 0 ≤ x ∧ x < (s : Int)) : Ev (fun k => impl_Row_free.f k (s : Int) r l) ((freeN s l : Nat) : Int) := by
 unfold impl_Row_free.f
 have h32 : ∀ x ∈ l, 0 ≤ x ∧ x < 32 := fun x hx => by have := hl x hx; omega
 refine Ev.bindc rfl (Ev.bindc (bench_all_eq s r hs) (Ev.bind (a := ((setN l : Nat) : Int)) ?_ ?_))
 ·unfold impl_Row_taken.f
  exact Ev.bind (f := fun _ t => some t) (setOf_ev l h32 hlen) (Ev.now _)
 ·rw [u32_andNot]; exact Ev.now _
theorem freeN_list (s : Nat) (l : List Int) (hs : s ≤ 31) (hl : ∀ x ∈ l, 0 ≤ x ∧ x < 32) : listN (freeN s l) = restL s l := by
 refine sorted_ext _ _ (listN_sorted _) (restL_sorted _ _) (fun x => ?_)
 rw [listN_mem, restL_mem]
 unfold freeN
 rw [lessN_bit _ _ _ (all_lt s hs) (setN_lt l hl), all_bit, setN_bit, Bool.and_eq_true, decide_eq_true_eq, Bool.not_eq_true', decide_eq_false_iff_not]
 constructor
 ·rintro ⟨h1, h2, h3⟩
  exact ⟨by omega, fun hc => h3 ⟨x, hc, rfl⟩⟩
 ·rintro ⟨h1, h2⟩
  refine ⟨by omega, by omega, ?_⟩
  rintro ⟨p, hp, e⟩
  have := hl p hp
  exact h2 (by rwa [show x = p by omega])
theorem freeN_lt (s : Nat) (l : List Int) : freeN s l < 4294967296 := lessN_lt _ _
theorem restL_count (s : Nat) (l : List Int) (hn : l.Nodup) (hl : ∀ x ∈ l, 0 ≤ x ∧ x < (s : Int)) : (restL s l).length + l.length = s := by
 have h1 := count_list s (fun _ => true) l hn hl
 rw [List.countP_true] at h1
 unfold restL
 rw [List.length_map, ← List.countP_eq_length_filter]
 have h2 : (List.range s).countP (fun i : Nat => decide ((i : Int) ∈ l) && true) + (List.range s).countP (fun i : Nat => !decide ((i : Int) ∈ l)) = s := by
  have := List.length_eq_countP_add_countP (fun i : Nat => decide ((i : Int) ∈ l)) (l := List.range s)
  rw [List.length_range] at this
  simp only [Bool.and_true]
  have e : (List.range s).countP (fun i : Nat => !decide ((i : Int) ∈ l)) = (List.range s).countP (fun a : Nat => decide (¬ (decide ((a : Int) ∈ l)) = true)) := by
   congr 1; funext i; by_cases c : (i : Int) ∈ l <;> simp [c]
  omega
 omega
/-- a list of bytes -/
def Bytes8 (l : List Int) : Prop := ∀ x ∈ l, 0 ≤ x ∧ x ≤ 255
theorem and255 (x : Int) (h0 : 0 ≤ x) (h1 : x < 4294967296) : 0 ≤ Go.bits .and .u64 x 255 ∧ Go.bits .and .u64 x 255 ≤ 255 := by
 have h := (bits_nat .u64 64 (by decide) (fun n h0 h1 => by rw [IntKind.wrap_u64]; omega) x.toNat 255 (by omega) (by omega)).1
 rw [Int.toNat_of_nonneg h0] at h
 rw [show (255 : Int) = ((255 : Nat) : Int) from rfl, h]
 have := Nat.and_le_right (n := x.toNat) (m := 255)
 omega
theorem u64_range (x : Int) : 0 ≤ IntKind.u64.wrap x ∧ IntKind.u64.wrap x < 18446744073709551616 := by
 rw [IntKind.wrap_u64]; omega
theorem next_ok (s : List Int) (hs : Bytes8 s) (hl : s.length ≤ 1000000) (p st : Int) (h0 : 0 ≤ p) (h1 : p ≤ 1000000) :
  ∃ v q, spec_l1Cur_next.f s p st = some (v, p + 1, q) ∧ 0 ≤ v ∧ v ≤ 255 := by
 unfold spec_l1Cur_next.f
 have hw : wrap64 (p + 1) = p + 1 := w64 (by omega) (by omega)
 rw [hw]
 have hand : ∀ y : Int, 0 ≤ wrap64 (Go.bits .and .u64 (IntKind.u64.wrap y / 1099511627776) 255) ∧ wrap64 (Go.bits .and .u64 (IntKind.u64.wrap y / 1099511627776) 255) ≤ 255 := fun y => by
  have h := u64_range y
  have := and255 (IntKind.u64.wrap y / 1099511627776) (by omega) (by omega)
  rw [w64 (by omega) (by omega)]; exact this
 by_cases c : p < (s.length : Int)
 ·rw [if_pos c, if_pos h0]
  have hm : rd s p ∈ s := by
   obtain ⟨n, rfl⟩ : ∃ n : Nat, p = (n : Int) := ⟨p.toNat, by omega⟩
   rw [rd_nat s n (by omega)]; exact List.getElem_mem _
  have hv := hs _ hm
  by_cases d : p + 1 ≤ (s.length : Int)
  ·rw [if_pos d]; exact ⟨_, _, rfl, by rw [w64 (by omega) (by omega)]; exact hv⟩
  ·rw [if_neg d]; exact ⟨_, _, rfl, hand _⟩
 ·rw [if_neg c]
  by_cases d : p + 1 ≤ (s.length : Int)
  ·rw [if_pos d]; exact ⟨_, _, rfl, by omega, by omega⟩
  ·rw [if_neg d]; exact ⟨_, _, rfl, hand _⟩
theorem pick_ok (s : List Int) (hs : Bytes8 s) (hl : s.length ≤ 1000000) (p st a : Int) (h0 : 0 ≤ p) (h1 : p ≤ 1000000) (ha : a ≤ 200) :
  ∃ v p' q, spec_l1Cur_pick.f s p st a = some (v, p', q) ∧ 0 ≤ v ∧ (v < a ∨ v = 0) ∧ p ≤ p' ∧ p' ≤ p + 1 := by
 unfold spec_l1Cur_pick.f
 by_cases c : a ≤ 1
 ·rw [if_pos c]; exact ⟨_, _, _, rfl, by omega, .inr rfl, by omega, by omega⟩
 ·rw [if_neg c]
  obtain ⟨v, q, e, hv0, hv1⟩ := next_ok s hs hl p st h0 h1
  rw [e]
  simp only [Option.bind_some]
  rw [if_neg (by omega), if_neg (by omega)]
  refine ⟨_, _, _, rfl, Int.tmod_nonneg _ hv0, .inl ?_, by omega, by omega⟩
  exact Int.tmod_lt_of_pos _ (by omega)
theorem among_ok (s : List Int) (hs : Bytes8 s) (hl : s.length ≤ 1000000) (p st : Int) (l : List Int) (h0 : 0 ≤ p) (h1 : p ≤ 1000000) (hn : 0 < l.length) (hm : l.length ≤ 200) :
  ∃ v p' q, spec_l1Cur_among.f s p st l = some (v, p', q) ∧ v ∈ l ∧ p ≤ p' ∧ p' ≤ p + 1 := by
 unfold spec_l1Cur_among.f
 obtain ⟨v, p', q, e, hv0, hv1, hp0, hp1⟩ := pick_ok s hs hl p st (l.length : Int) h0 h1 (by omega)
 rw [e]
 simp only [Option.bind_some]
 have hv : v < (l.length : Int) := by omega
 rw [if_pos hv0, if_pos hv]
 refine ⟨_, _, _, rfl, ?_, hp0, hp1⟩
 obtain ⟨n, rfl⟩ : ∃ n : Nat, v = (n : Int) := ⟨v.toNat, by omega⟩
 rw [rd_nat l n (by omega)]; exact List.getElem_mem _
theorem one_ok (s : List Int) (hs : Bytes8 s) (hl : s.length ≤ 1000000) (p st a : Int) (h0 : 0 ≤ p) (h1 : p ≤ 1000000) (ha : a ≤ 200) :
  ∃ b p' q, spec_l1Cur_one.f s p st a = some (b, p', q) ∧ p ≤ p' ∧ p' ≤ p + 1 := by
 obtain ⟨v, p', q, e, _, _, h2, h3⟩ := pick_ok s hs hl p st a h0 h1 ha
 refine ⟨v == 0, p', q, ?_, h2, h3⟩
 unfold spec_l1Cur_one.f
 rw [e]; rfl
theorem seats_ok (s : List Int) (hs : Bytes8 s) (hl : s.length ≤ 1000000) (p st : Int) (h0 : 0 ≤ p) (h1 : p ≤ 900000) :
  ∃ v p' q, spec_l1Cur_seats.f s p st = some (v, p', q) ∧ p ≤ p' ∧ p' ≤ p + 2 := by
 obtain ⟨b, p1, q1, e1, h2, h3⟩ := one_ok s hs hl p st 40 h0 (by omega) (by decide)
 unfold spec_l1Cur_seats.f
 rw [e1]
 simp only [Option.bind_some]
 by_cases c : b = true
 ·obtain ⟨v, p2, q2, e2, _, h4, h5⟩ := among_ok s hs hl p1 q1 [1, 2, 24, 25, 0, (-1), 4611686018427387904] (by omega) (by omega) (by decide) (by decide)
  rw [if_pos c, e2]
  exact ⟨v, p2, q2, rfl, by omega, by omega⟩
 ·obtain ⟨v, p2, q2, e2, _, h4, h5⟩ := among_ok s hs hl p1 q1 [6, 8, 5, 10, 7, 3, 12, 4, 20, 24] (by omega) (by omega) (by decide) (by decide)
  rw [if_neg c, e2]
  exact ⟨v, p2, q2, rfl, by omega, by omega⟩
theorem freeRow_ok (s : List Int) (hs : Bytes8 s) (hl : s.length ≤ 1000000) (p st : Int) (h0 : 0 ≤ p) (h1 : p ≤ 800000) :
  ∃ v b p' q, spec_l1Cur_freeRow.f s p st = some (v, b, ([] : List Int), p', q) ∧ p ≤ p' ∧ p' ≤ p + 4 := by
 obtain ⟨v, p1, q1, e1, h2, h3⟩ := seats_ok s hs hl p st h0 (by omega)
 obtain ⟨b, p2, q2, e2, h4, h5⟩ := one_ok s hs hl p1 q1 2 (by omega) (by omega) (by decide)
 obtain ⟨b3, p3, q3, e3, h6, h7⟩ := one_ok s hs hl p2 q2 4 (by omega) (by omega) (by decide)
 unfold spec_l1Cur_freeRow.f
 rw [e1]
 simp only [Option.bind_some]
 rw [e2]
 simp only [Option.bind_some]
 by_cases c : b = true
 ·rw [if_pos c]
  by_cases c2 : v = 2
  ·rw [if_pos c2, e3]
   simp only [Option.bind_some]
   by_cases c3 : b3 = true
   ·rw [if_pos c3]; exact ⟨_, _, _, _, rfl, by omega, by omega⟩
   ·rw [if_neg c3]; exact ⟨_, _, _, _, rfl, by omega, by omega⟩
  ·rw [if_neg c2]; exact ⟨_, _, _, _, rfl, by omega, by omega⟩
 ·rw [if_neg c]; exact ⟨_, _, _, _, rfl, by omega, by omega⟩
theorem row3_ok (s : List Int) (hs : Bytes8 s) (hl : s.length ≤ 1000000) (p st : Int) (h0 : 0 ≤ p) (h1 : p ≤ 800000) (S : Int) (R : Bool) (l : List Int) (hL : l.length ≤ 30) :
  ∃ q : Int × Bool × List Int × Int × Int, Ev (fun k => spec_l1Cur_row.j3 k s p st S R l) q ∧ q.2.2.1.length ≤ 31 ∧ p ≤ q.2.2.2.1 ∧ q.2.2.2.1 ≤ p + 2 := by
 obtain ⟨b, p1, q1, e1, h2, h3⟩ := one_ok s hs hl p st 40 h0 (by omega) (by decide)
 obtain ⟨v, p2, q2, e2, _, h4, h5⟩ := among_ok s hs hl p1 q1 [(-1), 0, S, 4611686018427387904] (by omega) (by omega) (by simp) (by simp)
 by_cases c : b = true
 ·refine ⟨(S, R, l ++ [v], p2, q2), Ev.succ ?_, ?_⟩
  ·simp only [spec_l1Cur_row.j3.eq_2]
   exact Ev.bindc e1 (Ev.pos c (Ev.bindc e2 (Ev.pos (by omega) (Ev.now _))))
  ·simp only [List.length_append, List.length_singleton]; omega
 ·refine ⟨(S, R, l, p1, q1), Ev.succ ?_, ?_⟩
  ·simp only [spec_l1Cur_row.j3.eq_2]
   exact Ev.bindc e1 (Ev.neg c (Ev.now _))
  ·simp only; omega
theorem OtherSeats_some (S : Int) (R : Bool) (l : List Int) (h : IsRw S R l) : ∃ q : Int × Bool × List Int × Bool, Ev (fun k => spec_OtherSeats.f k S R l) q ∧ q.2.2.1.length ≤ 24 := by
 have hlen := rw_len h
 obtain ⟨m, rfl⟩ : ∃ m : Nat, S = (m : Int) := ⟨S.toNat, by have := h.1; omega⟩
 have hs := h.1
 refine ⟨((m : Int), R, restL m l, true), ?_, ?_⟩
 ·unfold spec_OtherSeats.f
  exact Ev.bind (l2Row_ev _ R l (by omega) true ⟨fun _ => h, fun _ => rfl⟩) (Ev.pos rfl (Ev.bind (l2Free_ev m R l (by omega) (by omega)) (Ev.bindc rfl (Ev.now _))))
 ·have := restL_len m l
  simp only; omega
theorem row2_ok (s : List Int) (hs : Bytes8 s) (hl : s.length ≤ 1000000) (p st : Int) (h0 : 0 ≤ p) (h1 : p ≤ 800000) (S : Int) (R : Bool) (l : List Int) (hL : l.length ≤ 30) (b : Bool) (hb : b = true → IsRw S R l) :
  ∃ q : Int × Bool × List Int × Int × Int, Ev (fun k => spec_l1Cur_row.j2 k b s p st S R l) q ∧ q.2.2.1.length ≤ 31 ∧ p ≤ q.2.2.2.1 ∧ q.2.2.2.1 ≤ p + 2 := by
 by_cases c : b = true
 ·obtain ⟨q, hq, hq2⟩ := OtherSeats_some S R l (hb c)
  obtain ⟨r, hr, hr2⟩ := row3_ok s hs hl p st h0 h1 q.1 q.2.1 q.2.2.1 (by omega)
  refine ⟨r, Ev.succ ?_, hr2⟩
  simp only [spec_l1Cur_row.j2.eq_2]
  exact Ev.pos c (Ev.bind hq hr)
 ·obtain ⟨r, hr, hr2⟩ := row3_ok s hs hl p st h0 h1 S R l hL
  refine ⟨r, Ev.succ ?_, hr2⟩
  simp only [spec_l1Cur_row.j2.eq_2]
  exact Ev.neg c hr
theorem row1f_ok (s : List Int) (hs : Bytes8 s) (hl : s.length ≤ 1000000) (p st : Int) (h0 : 0 ≤ p) (h1 : p ≤ 700000) (x4 x5 S : Int) (R : Bool) (l : List Int) (hL : l.length ≤ 30) :
  ∃ q : Int × Bool × List Int × Int × Int, Ev (fun k => spec_l1Cur_row.j1 k x4 x5 false s p st S R l) q ∧ q.2.2.1.length ≤ 31 ∧ p ≤ q.2.2.2.1 ∧ q.2.2.2.1 ≤ p + 3 := by
 obtain ⟨b, p1, q1, e1, h2, h3⟩ := one_ok s hs hl p st 6 h0 (by omega) (by decide)
 by_cases c : b = true
 ·obtain ⟨t, ht⟩ := exists_bool (IsRw S R l)
  obtain ⟨r, hr, hr2, hr3, hr4⟩ := row2_ok s hs hl p1 q1 (by omega) (by omega) S R l hL t ht.mp
  refine ⟨r, Ev.succ ?_, hr2, by omega, by omega⟩
  simp only [spec_l1Cur_row.j1.eq_2]
  exact Ev.neg (by decide) (Ev.bindc e1 (Ev.pos c (Ev.bind (l2Row_ev S R l (by omega) t ht) hr)))
 ·obtain ⟨r, hr, hr2, hr3, hr4⟩ := row2_ok s hs hl p1 q1 (by omega) (by omega) S R l hL false (fun h => by cases h)
  refine ⟨r, Ev.succ ?_, hr2, by omega, by omega⟩
  simp only [spec_l1Cur_row.j1.eq_2]
  exact Ev.neg (by decide) (Ev.bindc e1 (Ev.neg c hr))
theorem row0_ok (s : List Int) (hs : Bytes8 s) (hl : s.length ≤ 1000000) (x4 S : Int) (R : Bool) (h4 : x4 ≤ 200) : ∀ (n i : Nat) (l : List Int) (p st : Int), i + n = 25 → l.length ≤ i → 0 ≤ p → p ≤ 600000 - n →
  ∃ q : Int × Bool × List Int × Int × Int, Ev (fun k => spec_l1Cur_row.l0 k x4 (i : Int) s p st S R l) q ∧ q.2.2.1.length ≤ 31 ∧ p ≤ q.2.2.2.1 ∧ q.2.2.2.1 ≤ p + n + 3 := by
 intro n
 induction n with
 | zero =>
  intro i l p st hi hL h0 h1
  obtain ⟨r, hr, hr2, hr3, hr5⟩ := row1f_ok s hs hl p st h0 (by omega) x4 (i : Int) S R l (by omega)
  refine ⟨r, Ev.succ ?_, hr2, by omega, by omega⟩
  simp only [spec_l1Cur_row.l0.eq_2]
  by_cases c : (i : Int) < S
  ·rw [show decide ((i : Int) < 25) = false by simp; omega]
   exact Ev.pos c hr
  ·exact Ev.neg c hr
 | succ n ih =>
  intro i l p st hi hL h0 h1
  by_cases c : (i : Int) < S
  ·obtain ⟨b, p1, q1, e1, h2, h3⟩ := one_ok s hs hl p st x4 h0 (by omega) h4
   by_cases cb : b = true
   ·obtain ⟨r, hr, hr2, hr3, hr5⟩ := ih (i + 1) (l ++ [(i : Int)]) p1 q1 (by omega) (by simp; omega) (by omega) (by omega)
    refine ⟨r, Ev.succ ?_, hr2, by omega, by omega⟩
    simp only [spec_l1Cur_row.l0.eq_2]
    rw [show decide ((i : Int) < 25) = true by simp; omega]
    refine Ev.pos c (Ev.succ ?_)
    simp only [spec_l1Cur_row.j1.eq_2]
    rw [w64 (n := (i : Int) + 1) (by omega) (by omega)]
    exact Ev.pos trivial (Ev.bindc e1 (Ev.pos cb (Ev.pos (by omega) hr)))
   ·obtain ⟨r, hr, hr2, hr3, hr5⟩ := ih (i + 1) l p1 q1 (by omega) (by omega) (by omega) (by omega)
    refine ⟨r, Ev.succ ?_, hr2, by omega, by omega⟩
    simp only [spec_l1Cur_row.l0.eq_2]
    rw [show decide ((i : Int) < 25) = true by simp; omega]
    refine Ev.pos c (Ev.succ ?_)
    simp only [spec_l1Cur_row.j1.eq_2]
    rw [w64 (n := (i : Int) + 1) (by omega) (by omega)]
    exact Ev.pos trivial (Ev.bindc e1 (Ev.neg cb hr))
  ·obtain ⟨r, hr, hr2, hr3, hr5⟩ := row1f_ok s hs hl p st h0 (by omega) x4 (i : Int) S R l (by omega)
   refine ⟨r, Ev.succ ?_, hr2, by omega, by omega⟩
   simp only [spec_l1Cur_row.l0.eq_2]
   exact Ev.neg c hr
theorem row_ok (s : List Int) (hs : Bytes8 s) (hl : s.length ≤ 1000000) (p st : Int) (h0 : 0 ≤ p) (h1 : p ≤ 500000) :
  ∃ q : Int × Bool × List Int × Int × Int, Ev (fun k => spec_l1Cur_row.f k s p st) q ∧ q.2.2.1.length ≤ 31 ∧ p ≤ q.2.2.2.1 ∧ q.2.2.2.1 ≤ p + 40 := by
 obtain ⟨v, b, p1, q1, e1, h2, h3⟩ := freeRow_ok s hs hl p st h0 (by omega)
 obtain ⟨x, p2, q2, e2, hx, h4, h5⟩ := among_ok s hs hl p1 q1 [3, 2, 5] (by omega) (by omega) (by decide) (by decide)
 obtain ⟨r, hr, hr2, hr3, hr4⟩ := row0_ok s hs hl x v b (by simp only [List.mem_cons, List.not_mem_nil, or_false] at hx; omega) 25 0 [] p2 q2 (by omega) (by simp) (by omega) (by omega)
 refine ⟨r, ?_, hr2, by omega, by omega⟩
 unfold spec_l1Cur_row.f
 exact Ev.bindc e1 (Ev.bindc e2 hr)
theorem put_some (l : List Int) (x : Int) (hl : l.length ≤ 1000) : ∃ l' : List Int, Ev (fun k => spec_l1Put.f k l x) l' ∧ l'.length ≤ l.length + 1 := by
 have key : ∀ n i, i + n = l.length → ∃ l' : List Int, Ev (fun k => spec_l1Put.l0 k l x (i : Int)) l' ∧ l'.length ≤ l.length + 1 := by
  intro n
  induction n with
  | zero =>
   intro i hi
   refine ⟨(([] ++ l.take ((i : Int)).toNat) ++ [x]) ++ l.drop ((i : Int)).toNat, Ev.succ ?_, ?_⟩
   ·simp only [spec_l1Put.l0.eq_2]
    refine Ev.neg (by omega) (Ev.bindc rfl (Ev.pos (by omega) (Ev.pos (by omega) (Ev.bindc rfl (Ev.pos ?_ (Ev.bindc rfl (Ev.bindc rfl (Ev.pos ?_ (Ev.bindc rfl (Ev.bindc rfl (Ev.pos ?_ (Ev.now _)))))))))))) <;> (simp only [List.length_append, List.length_take, List.length_drop, List.length_singleton, List.length_nil]; omega)
   ·simp only [List.length_append, List.length_take, List.length_drop, List.length_singleton, List.length_nil]; omega
  | succ n ih =>
   intro i hi
   by_cases c1 : rd l (i : Int) < x
   ·obtain ⟨l', h1, h2⟩ := ih (i + 1) (by omega)
    refine ⟨l', Ev.succ ?_, h2⟩
    simp only [spec_l1Put.l0.eq_2]
    rw [w64 (n := (i : Int) + 1) (by omega) (by omega)]
    exact Ev.pos (by omega) (Ev.pos (by omega) (Ev.pos c1 h1))
   ·by_cases c2 : rd l (i : Int) = x
    ·refine ⟨l, Ev.succ ?_, by omega⟩
     simp only [spec_l1Put.l0.eq_2]
     exact Ev.pos (by omega) (Ev.pos (by omega) (Ev.neg c1 (Ev.pos c2 (Ev.now _))))
    ·refine ⟨(([] ++ l.take ((i : Int)).toNat) ++ [x]) ++ l.drop ((i : Int)).toNat, Ev.succ ?_, ?_⟩
     ·simp only [spec_l1Put.l0.eq_2]
      refine Ev.pos (by omega) (Ev.pos (by omega) (Ev.neg c1 (Ev.neg c2 (Ev.bindc rfl (Ev.pos (by omega) (Ev.bindc rfl (Ev.pos ?_ (Ev.bindc rfl (Ev.bindc rfl (Ev.pos ?_ (Ev.bindc rfl (Ev.bindc rfl (Ev.pos ?_ (Ev.now _)))))))))))))) <;> (simp only [List.length_append, List.length_take, List.length_drop, List.length_singleton, List.length_nil]; omega)
     ·simp only [List.length_append, List.length_take, List.length_drop, List.length_singleton, List.length_nil]; omega
 exact key l.length 0 (by omega)
theorem with_some (S : Int) (R : Bool) (l : List Int) (x : Int) (hl : l.length ≤ 1000) : ∃ l' : List Int, Ev (fun k => spec_l2With.f k S R l x) (S, R, l') ∧ l'.length ≤ l.length + 1 := by
 obtain ⟨l', h1, h2⟩ := put_some l x hl
 refine ⟨l', ?_, h2⟩
 unfold spec_l2With.f
 exact Ev.bindc (l1Own_eq l (by omega)) (Ev.bind h1 (Ev.bindc rfl (Ev.now _)))
theorem sparse0_ok (s : List Int) (hs : Bytes8 s) (hl : s.length ≤ 1000000) (S : Int) (R : Bool) : ∀ (n : Nat) (l : List Int) (p st : Int), l.length + n ≤ 30 → 0 ≤ p → p ≤ 600000 - n →
  ∃ q : Int × Bool × List Int × Int × Int, Ev (fun k => spec_l1Cur_sparse3.l0 k (n : Int) s p st S R l) q ∧ q.2.2.1.length ≤ 31 ∧ p ≤ q.2.2.2.1 ∧ q.2.2.2.1 ≤ p + n := by
 intro n
 induction n with
 | zero =>
  intro l p st hL h0 h1
  refine ⟨(S, R, l, p, st), Ev.succ ?_, by simp only; omega, by simp, by simp⟩
  simp only [spec_l1Cur_sparse3.l0.eq_2]
  refine Ev.neg (by omega) (Ev.succ ?_)
  simp only [spec_l1Cur_sparse3.j1.eq_2]
  exact Ev.neg (by decide) (Ev.now _)
 | succ n ih =>
  intro l p st hL h0 h1
  obtain ⟨t, ht⟩ := exists_bool (IsRw S R l)
  cases t with
  | true =>
   have hw := (ht.mp rfl).1
   obtain ⟨v, p1, q1, e1, _, _, h2, h3⟩ := pick_ok s hs hl p st S h0 (by omega) (by omega)
   obtain ⟨l', h4, h5⟩ := with_some S R l v (by omega)
   obtain ⟨r, hr, hr2, hr3, hr4⟩ := ih l' p1 q1 (by omega) (by omega) (by omega)
   refine ⟨r, Ev.succ ?_, hr2, by omega, by omega⟩
   simp only [spec_l1Cur_sparse3.l0.eq_2]
   refine Ev.pos (by omega) (Ev.bind (l2Row_ev S R l (by omega) true ht) (Ev.succ ?_))
   simp only [spec_l1Cur_sparse3.j1.eq_2]
   rw [w64 (n := ((n + 1 : Nat) : Int) - 1) (by omega) (by omega), show ((n + 1 : Nat) : Int) - 1 = (n : Int) by omega]
   exact Ev.pos trivial (Ev.bindc e1 (Ev.bind h4 hr))
  | false =>
   refine ⟨(S, R, l, p, st), Ev.succ ?_, by simp only; omega, by simp, by simp only; omega⟩
   simp only [spec_l1Cur_sparse3.l0.eq_2]
   refine Ev.pos (by omega) (Ev.bind (l2Row_ev S R l (by omega) false ht) (Ev.succ ?_))
   simp only [spec_l1Cur_sparse3.j1.eq_2]
   exact Ev.neg (by decide) (Ev.now _)
theorem sparse_ok (s : List Int) (hs : Bytes8 s) (hl : s.length ≤ 1000000) (p st : Int) (h0 : 0 ≤ p) (h1 : p ≤ 400000) :
  ∃ q : Int × Bool × List Int × Int × Int, Ev (fun k => spec_l1Cur_sparse3.f k s p st) q ∧ q.2.2.1.length ≤ 31 ∧ p ≤ q.2.2.2.1 ∧ q.2.2.2.1 ≤ p + 60 := by
 obtain ⟨v, b, p1, q1, e1, h2, h3⟩ := freeRow_ok s hs hl p st h0 (by omega)
 obtain ⟨b2, p2, q2, e2, h4, h5⟩ := one_ok s hs hl p1 q1 4 (by omega) (by omega) (by decide)
 by_cases c : b2 = true
 ·obtain ⟨r, hr, hr2, hr3, hr4⟩ := row_ok s hs hl p2 q2 (by omega) (by omega)
  refine ⟨(r.1, r.2.1, r.2.2.1, r.2.2.2.1, r.2.2.2.2), ?_, hr2, by simp only; omega, by simp only; omega⟩
  unfold spec_l1Cur_sparse3.f
  exact Ev.bindc e1 (Ev.bindc e2 (Ev.pos c (Ev.bind hr (Ev.now _))))
 ·obtain ⟨x, p3, q3, e3, hx0, hx1, h6, h7⟩ := pick_ok s hs hl p2 q2 4 (by omega) (by omega) (by decide)
  obtain ⟨m, rfl⟩ : ∃ m : Nat, x = (m : Int) := ⟨x.toNat, by omega⟩
  obtain ⟨r, hr, hr2, hr3, hr4⟩ := sparse0_ok s hs hl v b m [] p3 q3 (by simp; omega) (by omega) (by omega)
  refine ⟨r, ?_, hr2, by omega, by omega⟩
  unfold spec_l1Cur_sparse3.f
  exact Ev.bindc e1 (Ev.bindc e2 (Ev.neg c (Ev.bindc e3 hr)))
theorem taken_ev (S : Int) (r : Bool) (l : List Int) (h32 : ∀ x ∈ l, 0 ≤ x ∧ x < 32) (hL : l.length ≤ 1000) : Ev (fun k => impl_Row_taken.f k S r l) ((setN l : Nat) : Int) := by
 unfold impl_Row_taken.f
 exact Ev.bind (f := fun _ t => some t) (setOf_ev l h32 (by omega)) (Ev.now _)
theorem rowB_ev (S : Int) (r : Bool) (l : List Int) (h32 : ∀ x ∈ l, 0 ≤ x ∧ x < 32) (hs : l.Pairwise (· < ·)) : Ev (fun k => impl_bench_row.f k S r ((setN l : Nat) : Int)) (S, r, l) := by
 unfold impl_bench_row.f
 have := list_ev (setN l) (setN_lt _ h32)
 rw [listN_setN _ h32 hs] at this
 exact Ev.bind (f := fun _ t => some (S, r, t)) this (Ev.now _)
theorem vInts_refl (l : List Int) (hL : l.length ≤ 1000000) : Ev (fun k => laws_vInts.f k l l) true := by
 have key : ∀ n i, i + n = l.length → Ev (fun k => laws_vInts.l0 k l l (i : Int)) true := by
  intro n
  induction n with
  | zero =>
   intro i hi
   refine Ev.succ ?_
   simp only [laws_vInts.l0.eq_2]
   exact Ev.neg (by omega) (Ev.now _)
  | succ n ih =>
   intro i hi
   refine Ev.succ ?_
   simp only [laws_vInts.l0.eq_2]
   rw [w64 (n := (i : Int) + 1) (by omega) (by omega)]
   exact Ev.pos (by omega) (Ev.pos (by omega) (Ev.pos (by omega) (Ev.pos trivial (ih (i + 1) (by omega)))))
 unfold laws_vInts.f
 exact Ev.pos rfl (key l.length 0 (by omega))
theorem vRow_refl (S : Int) (r : Bool) (l : List Int) (hL : l.length ≤ 1000000) : Ev (fun k => laws_vRow.f k S r l S r l) true := by
 unfold laws_vRow.f
 exact Ev.pos rfl (Ev.pos (by simp) (Ev.bind (vInts_refl l hL) (Ev.now _)))
theorem vHas_mem (l : List Int) (x : Int) (hL : l.length ≤ 1000000) (hx : x ∈ l) : Ev (fun k => laws_vHas.f k l x) true := by
 have key : ∀ n i, i + n = l.length → x ∈ l.drop i → Ev (fun k => laws_vHas.l0 k l x (i : Int)) true := by
  intro n
  induction n with
  | zero => intro i hi h; rw [List.drop_eq_nil_of_le (by omega)] at h; cases h
  | succ n ih =>
   intro i hi h
   refine Ev.succ ?_
   simp only [laws_vHas.l0.eq_2]
   rw [rd_nat l i (by omega), w64 (n := (i : Int) + 1) (by omega) (by omega)]
   refine Ev.pos (by omega) (Ev.pos (by omega) ?_)
   by_cases c : l[i] = x
   ·exact Ev.pos c (Ev.now _)
   ·refine Ev.neg c (ih (i + 1) (by omega) ?_)
    rw [List.drop_eq_getElem_cons (by omega)] at h
    rcases List.mem_cons.mp h with e | e
    ·exact absurd e.symm c
    ·exact e
 unfold laws_vHas.f
 exact key l.length 0 (by omega) hx
theorem vCut_ok (l : List Int) (hs : Bytes8 l) (hl : l.length ≤ 65536) : ∃ c, laws_vCut.f l 1 = some c ∧ Bytes8 c ∧ c.length ≤ 65537 := by
 unfold laws_vCut.f
 by_cases c : (1 : Int) > (l.length : Int)
 ·have h0 : l = [] := List.length_eq_zero_iff.mp (by omega)
  subst h0
  exact ⟨[0], rfl, fun x hx => by simp at hx; omega, by simp⟩
 ·rw [if_neg c]
  simp only [Option.bind_some, List.nil_append, List.length_nil]
  rw [if_pos (by omega), if_pos (by omega), if_pos (by simp only [List.length_drop]; omega), if_pos (by simp only [List.length_drop]; omega)]
  refine ⟨_, rfl, fun x hx => ?_, by simp only [List.length_append, List.length_drop, List.length_singleton]; omega⟩
  rcases List.mem_append.mp hx with h | h
  ·exact hs x (List.mem_of_mem_drop h)
  ·simp at h; omega
theorem poL_of_full (s : Nat) (r : Bool) (l : List Int) (hw : IsRw (s : Int) r l) (h : ¬ l.length < s) : poL (farN (s : Int) r l) s = [] := by
 refine poL_nil _ _ ?_
 by_cases h1 : 0 < mxL (farN (s : Int) r l) s
 ·exact absurd (free_of_mx s r l hw h1) h
 ·omega
/-- all answers at a row that is one -/
structure Told (s : Nat) (r : Bool) (l : List Int) : Prop where
 far : Ev (fun k => impl_FarnessOf.f k (s : Int) r l) ((List.range s).map (farN (s : Int) r l), true)
 far2 : Ev (fun k => spec_FarnessOf.f k (s : Int) r l) ((List.range s).map (farN (s : Int) r l), true)
 po : Ev (fun k => impl_PoliteSeats.f k (s : Int) r l) (poL (farN (s : Int) r l) s, true)
 po2 : Ev (fun k => spec_PoliteSeats.f k (s : Int) r l) (poL (farN (s : Int) r l) s, true)
 od : Ev (fun k => impl_PoliteOrder.f k (s : Int) r l) (ordL s r s l, true)
 od2 : Ev (fun k => spec_PoliteOrder.f k (s : Int) r l) (ordL s r s l, true)
 fre : Ev (fun k => impl_FreeSeats.f k (s : Int) r l) (restL s l, true)
 lon : Ev (fun k => impl_LonelySeats.f k (s : Int) r l) (lonL s r l, true)
 set : Ev (fun k => impl_SettleRow.f k (s : Int) r l) ((s : Int), r, (setl s r s l).1, ((setl s r s l).2 : Int), true)
 set2 : Ev (fun k => spec_SettleRow.f k (s : Int) r l) ((s : Int), r, (setl s r s l).1, ((setl s r s l).2 : Int), true)
theorem order_spec (s : Nat) (r : Bool) : ∀ c l (acc : List Int), IsRw (s : Int) r l → s ≤ l.length + c → acc.length + c ≤ 1000 → Ev (fun k => spec_PoliteOrder.l0 k acc (s : Int) r l) (acc ++ ordL s r c l, true) := by
 intro c
 induction c with
 | zero =>
  intro l acc hw hc ha
  refine Ev.succ ?_
  simp only [spec_PoliteOrder.l0.eq_2, ordL, List.append_nil]
  exact Ev.neg (by omega) (Ev.now _)
 | succ c ih =>
  intro l acc hw hc ha
  have hs := hw.1
  have hl := ph_nodup_len s l (pairwise_nodup hw.2.2.2) hw.2.2.1
  refine Ev.succ ?_
  simp only [spec_PoliteOrder.l0.eq_2, ordL]
  by_cases h : l.length < s
  ·rw [if_pos h]
   have hne := poL_ne s r l hw h
   have hok := heN_ok s r l hw h
   have hi := ih (putL l (heN s r l)) (acc ++ [heN s r l]) (put_rw s r l hw h) (by rw [putL_len]; omega) (by simp; omega)
   rw [List.append_assoc, List.singleton_append] at hi
   exact Ev.pos (by omega) (Ev.bind (l3Polite_ev s r l (by omega) (by omega) hw.2.2.1) (Ev.pos (by omega) (Ev.pos (by omega) (Ev.bind (l2With_ev (s : Int) r l (heN s r l) hok.2 (by omega)) hi))))
  ·rw [if_neg h, List.append_nil]
   exact Ev.neg (by omega) (Ev.now _)
theorem told_of (s : Nat) (r : Bool) (l : List Int) (hw : IsRw (s : Int) r l) : Told s r l := by
 have hs := hw.1
 have hl := ph_nodup_len s l (pairwise_nodup hw.2.2.2) hw.2.2.1
 have h32 : ∀ x ∈ l, 0 ≤ x ∧ x < 32 := fun x hx => by have := hw.2.2.1 x hx; omega
 have hL : listN (setN l) = l := listN_setN l h32 hw.2.2.2
 have hT := setN_lt l h32
 have hrow := isRow_ev (s : Int) r l (by omega) true ⟨fun _ => hw, fun _ => rfl⟩
 have hrow2 := l2Row_ev (s : Int) r l (by omega) true ⟨fun _ => hw, fun _ => rfl⟩
 have htk := taken_ev (s : Int) r l h32 (by omega)
 obtain ⟨hq1, hq2⟩ := setl_rw s r s l hw
 have hq32 : ∀ x ∈ (setl s r s l).1, 0 ≤ x ∧ x < 32 := fun x hx => by have := hq1.2.2.1 x hx; omega
 constructor
 ·unfold impl_FarnessOf.f
  have := farness_ev s r (setN l) hT (by omega) (by rw [hL]; exact hw.2.2.1)
  rw [hL] at this
  exact Ev.bind hrow (Ev.pos rfl (Ev.bindc rfl (Ev.bind htk (Ev.bind this (Ev.now _)))))
 ·unfold spec_FarnessOf.f
  exact Ev.bind hrow2 (Ev.pos rfl (Ev.bind (l3All_ev s r l (by omega) (by omega) hw.2.2.1) (Ev.now _)))
 ·unfold impl_PoliteSeats.f
  have := polite_ev s r (setN l) hT (by omega) (by rw [hL]; exact hw.2.2.1)
  rw [hL] at this
  have h2 := list_ev (bld (best (farN (s : Int) r l) (mxL (farN (s : Int) r l) s)) s) (bld_lt _ _ (by omega))
  rw [listN_bld _ s (by omega)] at h2
  exact Ev.bind hrow (Ev.pos rfl (Ev.bindc rfl (Ev.bind htk (Ev.bind this (Ev.bind h2 (Ev.now _))))))
 ·unfold spec_PoliteSeats.f
  exact Ev.bind hrow2 (Ev.pos rfl (Ev.bind (l3Polite_ev s r l (by omega) (by omega) hw.2.2.1) (Ev.now _)))
 ·unfold impl_PoliteOrder.f
  obtain ⟨T, hT2⟩ := order_impl s r s l [] hw (by omega) (by simp)
  rw [List.nil_append] at hT2
  exact Ev.bind hrow (Ev.pos rfl (Ev.bindc rfl (Ev.bind htk (Ev.bind (a := (T, ordL s r s l)) hT2 (Ev.now _)))))
 ·unfold spec_PoliteOrder.f
  have := order_spec s r s l [] hw (by omega) (by simp; omega)
  rw [List.nil_append] at this
  exact Ev.bindc rfl (Ev.bind hrow2 (Ev.pos rfl this))
 ·unfold impl_FreeSeats.f
  have h2 := list_ev (freeN s l) (freeN_lt s l)
  rw [freeN_list s l (by omega) h32] at h2
  exact Ev.bind hrow (Ev.pos rfl (Ev.bind (row_free_ev s r l (by omega) (by omega) hw.2.2.1) (Ev.bind h2 (Ev.now _))))
 ·unfold impl_LonelySeats.f
  have h2 := list_ev (lonN s r (setN l)) (lonN_lt _ _ _ (by omega))
  have e : listN (lonN s r (setN l)) = lonL s r l := by
   refine sorted_ext _ _ (listN_sorted _) ((restL_sorted s l).sublist List.filter_sublist) (fun x => ?_)
   rw [listN_mem]
   constructor
   ·rintro ⟨h1, h3⟩
    have := (lonN_bit s r l hw.2.2.1 x.toNat).mp h3
    rwa [Int.toNat_of_nonneg h1.1] at this
   ·intro hx
    have hx2 := (restL_mem s l x).mp (List.mem_filter.mp hx).1
    refine ⟨by omega, (lonN_bit s r l hw.2.2.1 x.toNat).mpr ?_⟩
    rwa [Int.toNat_of_nonneg (by omega)]
  rw [e] at h2
  exact Ev.bind hrow (Ev.pos rfl (Ev.bindc rfl (Ev.bind htk (Ev.bind (bench_lonely_ev s r (setN l) (by omega) hT) (Ev.bind h2 (Ev.now _))))))
 ·unfold impl_SettleRow.f
  obtain ⟨A, hA, hA2⟩ := settle_impl s r s l [] hw (by omega) (by simp)
  rw [List.length_nil, Nat.zero_add] at hA
  rw [← hA]
  exact Ev.bind hrow (Ev.pos rfl (Ev.bindc rfl (Ev.bind htk (Ev.bind (a := (((setN (setl s r s l).1 : Nat) : Int), A)) hA2 (Ev.bindc rfl (Ev.bind (rowB_ev (s : Int) r _ hq32 hq1.2.2.2) (Ev.now _)))))))
 ·unfold spec_SettleRow.f
  have h2 := settle_spec s r s l 0 hw (by omega) (by omega) (by omega)
  rw [Nat.zero_add] at h2
  exact Ev.bind hrow2 (Ev.pos rfl (Ev.bindc (l1Own_eq l (by omega)) (Ev.bindc rfl (Ev.bind (a := ((s : Int), r, (setl s r s l).1, ((setl s r s l).2 : Int))) h2 (Ev.now _)))))

theorem next_impl (s : Nat) (r : Bool) (l : List Int) (hw : IsRw (s : Int) r l) : Ev (fun k => impl_NextPolite.f k (s : Int) r l) (if l.length < s then (heN s r l, true) else (0, false)) ∧ Ev (fun k => spec_NextPolite.f k (s : Int) r l) (if l.length < s then (heN s r l, true) else (0, false)) := by
 have hs := hw.1
 have hl := ph_nodup_len s l (pairwise_nodup hw.2.2.2) hw.2.2.1
 have T := told_of s r l hw
 constructor
 ·unfold impl_NextPolite.f
  refine Ev.bind T.po (Ev.pos rfl ?_)
  by_cases h : l.length < s
  ·have hne := poL_ne s r l hw h
   rw [if_pos h]
   exact Ev.neg (by simp only; omega) (Ev.pos (by simp only; omega) (Ev.now _))
  ·rw [if_neg h, poL_of_full s r l hw h]
   exact Ev.pos rfl (Ev.now _)
 ·unfold spec_NextPolite.f
  refine Ev.bind (l2Row_ev (s : Int) r l (by omega) true ⟨fun _ => hw, fun _ => rfl⟩) (Ev.pos rfl ?_)
  by_cases h : l.length < s
  ·have hne := poL_ne s r l hw h
   rw [if_pos h]
   exact Ev.neg (by omega) (Ev.bind (l3Polite_ev s r l (by omega) (by omega) hw.2.2.1) (Ev.pos (by omega) (Ev.now _)))
  ·rw [if_neg h]
   exact Ev.pos (by omega) (Ev.now _)
theorem take_ev (s : Nat) (r : Bool) (l : List Int) (x : Int) (hw : IsRw (s : Int) r l) (hx : 0 ≤ x ∧ x < (s : Int)) (hn : x ∉ l) : Ev (fun k => impl_TakeSeat.f k (s : Int) r l x) ((s : Int), r, putL l x, true) := by
 have hs := hw.1
 have hl := ph_nodup_len s l (pairwise_nodup hw.2.2.2) hw.2.2.1
 have h32 : ∀ y ∈ l, 0 ≤ y ∧ y < 32 := fun y hy => by have := hw.2.2.1 y hy; omega
 have hT := setN_lt l h32
 have htk := taken_ev (s : Int) r l h32 (by omega)
 have hp32 : ∀ y ∈ putL l x, 0 ≤ y ∧ y < 32 := fun y hy => by
  rcases (putL_mem l x y).mp hy with rfl | h
  ·omega
  ·exact h32 y h
 obtain ⟨q, rfl⟩ : ∃ q : Nat, x = (q : Int) := ⟨x.toNat, by omega⟩
 have hbit : (setN l).testBit q = false := by
  rw [setN_bit, decide_eq_false_iff_not]
  rintro ⟨y, hy, e⟩
  exact hn (by rw [show (q : Int) = y by have := h32 y hy; omega]; exact hy)
 unfold impl_TakeSeat.f
 refine Ev.bind (a := true) ?_ (Ev.pos rfl (Ev.bind htk (Ev.bindc (has_bit (setN l) q hT) (Ev.succ ?_))))
 ·unfold impl_isSeat.f
  refine Ev.bind (isRow_ev (s : Int) r l (by omega) true ⟨fun _ => hw, fun _ => rfl⟩) (Ev.pos rfl (Ev.bindc rfl (Ev.bind (a := true) ?_ (Ev.now _))))
  have := bench_has1 (s : Int) r (q : Int)
  rw [w64 (by omega) (by omega), show decide (0 ≤ (q : Int) ∧ (q : Int) ≤ (s : Int) - 1) = true by simp; omega] at this
  exact this
 ·simp only [impl_TakeSeat.j0.eq_2]
  rw [hbit]
  refine Ev.neg (by decide) (Ev.bindc rfl (Ev.bind htk (Ev.pos (by omega) ?_)))
  rw [or_pow_u32 (setN l) q hT (by omega)]
  have hset := putL_set l (q : Int)
  rw [Int.toNat_natCast] at hset
  rw [← hset]
  exact Ev.bind (rowB_ev (s : Int) r _ hp32 (putL_sorted l _ hn hw.2.2.2)) (Ev.now _)
theorem l1_ev (f : Nat → Int) (s : Nat) (hs : s ≤ 24) (p : Nat) (hp : p < s) : Ev (fun k => laws_FnPolite.l1 k ((List.range s).map f) (poL f s) (p : Int) 0) true := by
 have hlm : ((List.range s).map f).length = s := by rw [List.length_map, List.length_range]
 have hpl : (poL f s).length ≤ s := by
  unfold poL
  rw [List.length_map]
  exact Nat.le_trans (List.length_filter_le _ _) (by rw [List.length_range]; exact Nat.le_refl _)
 have key : ∀ n i, i + n = (poL f s).length → Ev (fun k => laws_FnPolite.l1 k ((List.range s).map f) (poL f s) (p : Int) (i : Int)) true := by
  intro n
  induction n with
  | zero =>
   intro i hi
   refine Ev.succ ?_
   simp only [laws_FnPolite.l1]
   exact Ev.neg (by omega) (Ev.now _)
  | succ n ih =>
   intro i hi
   have hm : (poL f s)[i]'(by omega) ∈ poL f s := List.getElem_mem _
   generalize hx : (poL f s)[i]'(by omega) = x at hm
   have hm0 := hm
   unfold poL at hm
   obtain ⟨q, hq, rfl⟩ := List.mem_map.mp hm
   obtain ⟨hq1, hq2⟩ := List.mem_filter.mp hq
   rw [List.mem_range] at hq1
   unfold best at hq2
   rw [Bool.and_eq_true, decide_eq_true_eq, decide_eq_true_eq] at hq2
   have hge := mxL_ge f s p hp
   refine Ev.succ ?_
   simp only [laws_FnPolite.l1]
   rw [rd_nat (poL f s) i (by omega), hx, getD_mapR f s p hp, getD_mapR f s q hq1, w64 (n := (i : Int) + 1) (by omega) (by omega), hlm]
   refine Ev.pos (by omega) (Ev.pos (by omega) (Ev.neg (by omega) ?_))
   by_cases c : f p = f q
   ·refine Ev.pos c (Ev.bind (vHas_mem (poL f s) (p : Int) (by omega) ?_) (Ev.pos rfl (ih (i + 1) (by omega))))
    unfold poL
    refine List.mem_map.mpr ⟨p, List.mem_filter.mpr ⟨List.mem_range.mpr hp, ?_⟩, rfl⟩
    unfold best
    rw [Bool.and_eq_true, decide_eq_true_eq, decide_eq_true_eq]
    omega
   ·exact Ev.neg c (ih (i + 1) (by omega))
 exact key (poL f s).length 0 (by omega)
theorem l0_ev (f : Nat → Int) (s : Nat) (hs : s ≤ 24) : Ev (fun k => laws_FnPolite.l0 k (s : Int) ((List.range s).map f) (poL f s) 0) true := by
 have key : ∀ n i, i + n = s → Ev (fun k => laws_FnPolite.l0 k (s : Int) ((List.range s).map f) (poL f s) (i : Int)) true := by
  intro n
  induction n with
  | zero =>
   intro i hi
   refine Ev.succ ?_
   simp only [laws_FnPolite.l0]
   exact Ev.neg (by omega) (Ev.now _)
  | succ n ih =>
   intro i hi
   refine Ev.succ ?_
   simp only [laws_FnPolite.l0]
   rw [w64 (n := (i : Int) + 1) (by omega) (by omega)]
   exact Ev.pos (by omega) (Ev.bind (l1_ev f s hs i (by omega)) (ih (i + 1) (by omega)))
 exact key s 0 (by omega)
theorem l2_ev (s : Nat) (r : Bool) (hs : 2 ≤ s ∧ s ≤ 24) (od : List Int) : ∀ c l i (before : Int), IsRw (s : Int) r l → s ≤ l.length + c → i ≤ od.length → od.length ≤ 24 → od.drop i = ordL s r c l → mxL (farN (s : Int) r l) s ≤ before → Ev (fun k => laws_FnPolite.l2 k (s : Int) (s : Int) r l before od (i : Int)) true := by
 intro c
 induction c with
 | zero =>
  intro l i before hw hc hi ho hd hb
  have hl := ph_nodup_len s l (pairwise_nodup hw.2.2.2) hw.2.2.1
  have h0 : od.length ≤ i := by
   have := congrArg List.length hd
   rw [List.length_drop] at this
   simp only [ordL, List.length_nil] at this
   omega
  refine Ev.succ ?_
  simp only [laws_FnPolite.l2]
  exact Ev.neg (by omega) (Ev.pos (by omega) (Ev.now _))
 | succ c ih =>
  intro l i before hw hc hi ho hd hb
  have hl := ph_nodup_len s l (pairwise_nodup hw.2.2.2) hw.2.2.1
  unfold ordL at hd
  by_cases h : l.length < s
  ·rw [if_pos h] at hd
   have hlen := congrArg List.length hd
   rw [List.length_drop, List.length_cons] at hlen
   rw [List.drop_eq_getElem_cons (by omega)] at hd
   obtain ⟨e1, e2⟩ := List.cons.inj hd
   have hok := heN_ok s r l hw h
   have hfar := heN_far s r l hw h
   have hpos := mx_pos s r l hw h
   have hput := mx_put s r l (heN s r l) hw hok.1
   have hlm : ((List.range s).map (farN (s : Int) r l)).length = s := by rw [List.length_map, List.length_range]
   have hown : rd ((List.range s).map (farN (s : Int) r l)) (heN s r l) = mxL (farN (s : Int) r l) s := by
    rw [← hfar]
    have := getD_mapR (farN (s : Int) r l) s (heN s r l).toNat (by omega)
    rwa [Int.toNat_of_nonneg hok.1.1] at this
   refine Ev.succ ?_
   simp only [laws_FnPolite.l2]
   rw [rd_nat od i (by omega), e1, w64 (n := (i : Int) + 1) (by omega) (by omega)]
   refine Ev.pos (by omega) (Ev.bind (told_of s r l hw).far ?_)
   simp only
   rw [hown, hlm]
   refine Ev.pos (by refine ⟨trivial, ?_⟩; omega) (Ev.bind (take_ev s r l _ hw hok.1 hok.2) (Ev.pos rfl ?_))
   exact ih (putL l (heN s r l)) (i + 1) _ (put_rw s r l hw h) (by rw [putL_len]; omega) (by omega) ho e2 hput
  ·rw [if_neg h] at hd
   have hlen := congrArg List.length hd
   rw [List.length_drop, List.length_nil] at hlen
   refine Ev.succ ?_
   simp only [laws_FnPolite.l2]
   exact Ev.neg (by omega) (Ev.pos (by omega) (Ev.now _))
theorem h_ev (s : Nat) (r : Bool) (l : List Int) (hw : IsRw (s : Int) r l) : Ev (fun k => laws_FnPolite.h k (s : Int) r l ((List.range s).map (farN (s : Int) r l)) (poL (farN (s : Int) r l) s) (if l.length < s then (heN s r l, true) else (0, false)).1 (if l.length < s then (heN s r l, true) else (0, false)).2 (ordL s r s l)) true := by
 have hs := hw.1
 have hl := ph_nodup_len s l (pairwise_nodup hw.2.2.2) hw.2.2.1
 have hol := ordL_len s r s l hw (by omega)
 have hrl := restL_count s l (pairwise_nodup hw.2.2.2) hw.2.2.1
 have hmx : mxL (farN (s : Int) r l) s ≤ (s : Int) := by
  by_cases c : 0 < mxL (farN (s : Int) r l) s
  ·obtain ⟨j, hj, e⟩ := mxL_at _ _ c
   rw [← e]
   exact (farN_range (s : Int) r l j (by omega) hw.2.2.1 (by omega)).2
  ·omega
 unfold laws_FnPolite.h
 refine Ev.bind (told_of s r l hw).fre (Ev.pos ?_ (Ev.bind (l0_ev _ s (by omega)) (l2_ev s r (by omega) _ s l 0 _ hw (by omega) (by omega) (by omega) rfl hmx)))
 refine ⟨rfl, by simp only; omega, ?_, ?_⟩
 ·by_cases h : l.length < s
  ·rw [if_pos h, show decide (0 < (restL s l, true).1.length) = true by simp only [decide_eq_true_eq]; omega]
  ·rw [if_neg h, show decide (0 < (restL s l, true).1.length) = false by simp only [decide_eq_false_iff_not]; omega]
 ·by_cases h : l.length < s
  ·intro _
   have hne := poL_ne s r l hw h
   rw [if_pos h]
   refine ⟨hne, rfl, by omega, ?_⟩
   obtain ⟨c, rfl⟩ : ∃ c, s = c + 1 := ⟨s - 1, by omega⟩
   conv => lhs; unfold ordL
   rw [if_pos h]
   rfl
  ·rw [if_neg h]; intro c; cases c
theorem g_ev (s : Nat) (r : Bool) (l : List Int) (hw : IsRw (s : Int) r l) : Ev (fun k => laws_FnPolite.g k l ((s : Int), r, (setl s r s l).1, ((setl s r s l).2 : Int), true)) true := by
 have hs := hw.1
 have hl := ph_nodup_len s l (pairwise_nodup hw.2.2.2) hw.2.2.1
 obtain ⟨h1, h2⟩ := setl_rw s r s l hw
 have h3 := setl_end s r s l hw (by omega)
 have h4 := setl_again s r s _ h3
 have h5 := ph_nodup_len s _ (pairwise_nodup h1.2.2.2) h1.2.2.1
 have T := told_of s r _ h1
 unfold laws_FnPolite.g
 refine Ev.pos rfl (Ev.bind T.lon (Ev.bind T.set ?_))
 rw [h4]
 refine Ev.pos ⟨rfl, rfl, by simp only [lonL_nil s r _ h1 h3]; rfl, rfl⟩ (Ev.bind (vRow_refl (s : Int) r _ (by simp only; omega)) (Ev.pos ⟨rfl, ?_⟩ (Ev.now _)))
 simp only
 rw [w64 (by omega) (by omega)]
 omega
/-- all answers at a row that is none -/
theorem none_of (S : Int) (r : Bool) (l : List Int) (hL : l.length ≤ 1000) (hn : ¬ IsRw S r l) :
  Ev (fun k => impl_FarnessOf.f k S r l) ([], false) ∧ Ev (fun k => spec_FarnessOf.f k S r l) ([], false) ∧ Ev (fun k => impl_PoliteSeats.f k S r l) ([], false) ∧ Ev (fun k => spec_PoliteSeats.f k S r l) ([], false) ∧ Ev (fun k => impl_NextPolite.f k S r l) (0, false) ∧ Ev (fun k => spec_NextPolite.f k S r l) (0, false) ∧ Ev (fun k => impl_PoliteOrder.f k S r l) ([], false) ∧ Ev (fun k => spec_PoliteOrder.f k S r l) ([], false) ∧ Ev (fun k => impl_SettleRow.f k S r l) (0, false, [], 0, false) ∧ Ev (fun k => spec_SettleRow.f k S r l) (0, false, [], 0, false) := by
 have h1 := isRow_ev S r l (by omega) false (by simp [hn])
 have h2 := l2Row_ev S r l (by omega) false (by simp [hn])
 have hp : Ev (fun k => impl_PoliteSeats.f k S r l) ([], false) := by unfold impl_PoliteSeats.f; exact Ev.bind h1 (Ev.neg (by decide) (Ev.now _))
 refine ⟨?_, ?_, hp, ?_, ?_, ?_, ?_, ?_, ?_, ?_⟩
 ·unfold impl_FarnessOf.f; exact Ev.bind h1 (Ev.neg (by decide) (Ev.now _))
 ·unfold spec_FarnessOf.f; exact Ev.bind h2 (Ev.neg (by decide) (Ev.now _))
 ·unfold spec_PoliteSeats.f; exact Ev.bind h2 (Ev.neg (by decide) (Ev.now _))
 ·unfold impl_NextPolite.f; exact Ev.bind hp (Ev.neg (by decide) (Ev.now _))
 ·unfold spec_NextPolite.f; exact Ev.bind h2 (Ev.neg (by decide) (Ev.now _))
 ·unfold impl_PoliteOrder.f; exact Ev.bind h1 (Ev.neg (by decide) (Ev.now _))
 ·unfold spec_PoliteOrder.f; exact Ev.bindc rfl (Ev.bind h2 (Ev.neg (by decide) (Ev.now _)))
 ·unfold impl_SettleRow.f; exact Ev.bind h1 (Ev.neg (by decide) (Ev.now _))
 ·unfold spec_SettleRow.f; exact Ev.bind h2 (Ev.neg (by decide) (Ev.now _))
theorem told_all (S : Int) (r : Bool) (l : List Int) (hL : l.length ≤ 1000) : ∃ (far po od : List Int) (ne : Int × Bool) (b : Bool) (t : Int × Bool × List Int × Int × Bool),
  Ev (fun k => impl_FarnessOf.f k S r l) (far, b) ∧ Ev (fun k => spec_FarnessOf.f k S r l) (far, b) ∧ Ev (fun k => impl_PoliteSeats.f k S r l) (po, b) ∧ Ev (fun k => spec_PoliteSeats.f k S r l) (po, b) ∧ Ev (fun k => impl_NextPolite.f k S r l) ne ∧ Ev (fun k => spec_NextPolite.f k S r l) ne ∧ Ev (fun k => impl_PoliteOrder.f k S r l) (od, b) ∧ Ev (fun k => spec_PoliteOrder.f k S r l) (od, b) ∧ Ev (fun k => impl_SettleRow.f k S r l) t ∧ Ev (fun k => spec_SettleRow.f k S r l) t ∧
  far.length ≤ 1000 ∧ po.length ≤ 1000 ∧ od.length ≤ 1000 ∧ t.2.2.1.length ≤ 1000 ∧ Ev (fun k => laws_FnPolite.g k l t) true ∧ Ev (fun k => if b = true then laws_FnPolite.h k S r l far po ne.1 ne.2 od else some true) true := by
 obtain ⟨b, hb⟩ := exists_bool (IsRw S r l)
 cases b with
 | false =>
  obtain ⟨h1, h2, h3, h4, h5, h6, h7, h8, h9, h10⟩ := none_of S r l hL (fun h => by have := hb.mpr h; cases this)
  exact ⟨[], [], [], (0, false), false, _, h1, h2, h3, h4, h5, h6, h7, h8, h9, h10, by simp, by simp, by simp, by simp, by unfold laws_FnPolite.g; exact Ev.neg (by decide) (Ev.now _), Ev.neg (by decide) (Ev.now _)⟩
 | true =>
  have hw := hb.mp rfl
  have hs := hw.1
  obtain ⟨s, rfl⟩ : ∃ m : Nat, S = (m : Int) := ⟨S.toNat, by omega⟩
  have T := told_of s r l hw
  obtain ⟨h5, h6⟩ := next_impl s r l hw
  obtain ⟨q1, q2⟩ := setl_rw s r s l hw
  have q3 := ph_nodup_len s _ (pairwise_nodup q1.2.2.2) q1.2.2.1
  have hol := ordL_len s r s l hw (by omega)
  refine ⟨_, _, _, _, true, _, T.far, T.far2, T.po, T.po2, h5, h6, T.od, T.od2, T.set, T.set2, by rw [List.length_map, List.length_range]; omega, ?_, by omega, by simp only; omega, g_ev s r l hw, Ev.pos rfl (h_ev s r l hw)⟩
  unfold poL
  rw [List.length_map]
  exact Nat.le_trans (List.length_filter_le _ _) (by rw [List.length_range]; omega)
theorem FnPolite : laws_FnPolite.Pure := by
 intro l0 hm hy hwf
 have hb8 : Bytes8 l0 := fun x hx => by
  have := hwf x hx
  simp [Lit.wf, IntKind.min, IntKind.max, IntKind.bits, IntKind.signed] at this; omega
 suffices h : Ev (fun k => laws_FnPolite.f k l0) true by
  obtain ⟨K, hK⟩ := h
  exact ⟨K, hK K (Nat.le_refl _)⟩
 unfold laws_FnPolite.f
 by_cases hbig : (l0.length : Int) > 65536
 ·exact Ev.bindc (a := true) (by unfold laws_vBig.f; rw [decide_eq_true hbig]) (Ev.pos rfl (Ev.now _))
 ·refine Ev.bindc (a := false) (by unfold laws_vBig.f; rw [decide_eq_false hbig]) (Ev.neg (by decide) ?_)
  have hdr : ∃ q : Int × Bool × List Int, Ev (fun k => spec_DrawFarnessOf.f k l0) q ∧ q.2.2.length ≤ 1000 := by
   obtain ⟨b, p1, q1, e1, h2, h3⟩ := one_ok l0 hb8 (by omega) 0 0 5 (by omega) (by omega) (by decide)
   by_cases c : b = true
   ·obtain ⟨v, b2, p2, q2, e2, h4, h5⟩ := freeRow_ok l0 hb8 (by omega) p1 q1 (by omega) (by omega)
    refine ⟨(v, b2, []), ?_, by simp⟩
    unfold spec_DrawFarnessOf.f
    exact Ev.bindc e1 (Ev.pos c (Ev.bindc e2 (Ev.now _)))
   ·obtain ⟨t, ht, ht2, _, _⟩ := row_ok l0 hb8 (by omega) p1 q1 (by omega) (by omega)
    refine ⟨(t.1, t.2.1, t.2.2.1), ?_, by simp only; omega⟩
    unfold spec_DrawFarnessOf.f
    exact Ev.bindc e1 (Ev.neg c (Ev.bind ht (Ev.now _)))
  obtain ⟨⟨S, R, l⟩, hd, hdl⟩ := hdr
  simp only at hdl
  obtain ⟨c1, hc1, hc8, hcl⟩ := vCut_ok l0 hb8 (by omega)
  obtain ⟨t, ht, ht2, _, _⟩ := sparse_ok c1 hc8 (by omega) 0 0 (by omega) (by omega)
  have hd2 : Ev (fun k => spec_DrawSettleRow.f k c1) (t.1, t.2.1, t.2.2.1) := by
   unfold spec_DrawSettleRow.f
   exact Ev.bind ht (Ev.now _)
  obtain ⟨far, po, od, ne, b, _, h1, h2, h3, h4, h5, h6, h7, h8, _, _, n1, n2, n3, _, _, hh⟩ := told_all S R l hdl
  obtain ⟨_, _, _, _, _, u, _, _, _, _, _, _, _, _, h9, h10, _, _, _, n4, hg, _⟩ := told_all t.1 t.2.1 t.2.2.1 (by omega)
  refine Ev.bind hd (Ev.bind h1 (Ev.bind h2 (Ev.bind h3 (Ev.bind h4 (Ev.bind h5 (Ev.bind h6 (Ev.bind h7 (Ev.bind h8 (Ev.bindc hc1 (Ev.bind hd2 (Ev.bind h9 (Ev.bind h10 (Ev.pos ⟨rfl, rfl, rfl, rfl, rfl, rfl, rfl, rfl⟩ ?_)))))))))))))
  exact Ev.bind (vInts_refl far (by omega)) (Ev.bind (vInts_refl po (by omega)) (Ev.bind (vInts_refl od (by omega)) (Ev.bind (vRow_refl u.1 u.2.1 u.2.2.1 (by omega)) (Ev.pos ⟨rfl, rfl, rfl, rfl⟩ (Ev.bind hg hh)))))

end Go.Proofs.YtaebbgkoaaigbaaDoor.Pure
