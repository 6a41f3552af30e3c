/- The program's FirstSpaced returns what the reference's returns, for all arguments; the condition is that a pure law holds of what the print tells of both. -/
import Derived.Test.YtapbmneehaemeaaDoorZFirstSpacedPx12
namespace Go.Proofs.YtapbmneehaemeaaDoor.Pure
open Go.RowKit Go.Proofs.YtapbmneehaemeaaDoor.PFnExactFirstSpaced Go.Proofs.YtapbmneehaemeaaDoorW.PrintWords Go.Proofs.YtapbmneehaemeaaDoorW.PrintLast Go.Proofs.YtapbmneehaemeaaDoorW.PrintMore
set_option linter.unusedVariables false

theorem Ev.pos {α : Type} {c : Prop} [Decidable c] {f g : Nat → Option α} {r : α} (h : c) (k : Ev f r) : Ev (fun m => if c then f m else g m) r :=
  Ev.congr (fun _ => if_pos h) k
theorem Ev.neg {α : Type} {c : Prop} [Decidable c] {f g : Nat → Option α} {r : α} (h : ¬ c) (k : Ev g r) : Ev (fun m => if c then f m else g m) r :=
  Ev.congr (fun _ => if_neg h) k
theorem Ev.bindc {α β : Type} {x : Option α} {f : Nat → α → Option β} {a : α} {r : β} (h : x = some a) (k : Ev (fun n => f n a) r) : Ev (fun n => x.bind (f n)) r := by
  subst h; exact k
theorem Ev.succ {α : Type} {g : Nat → Option α} {r : α} (k : Ev (fun n => g (n + 1)) r) : Ev g r := Ev.step (fun _ => rfl) k
theorem w64 {n : Int} (h0 : -9223372036854775808 ≤ n) (h1 : n < 9223372036854775808) : wrap64 n = n := by unfold wrap64; omega
theorem rd_nat (l : List Int) (i : Nat) (h : i < l.length) : rd l (i : Int) = l[i] := by
  unfold rd; rw [Int.toNat_natCast, List.getD_eq_getElem?_getD, List.getElem?_eq_getElem h]; rfl
/-- a loop that ends early, with one answer, where P fails -/
theorem ev_all {α : Type} (L : Nat → Nat → Option α) (n : Nat) (P : Nat → Prop) (rEnd : α)
    (hend : Ev (fun k => L k n) rEnd) (hgood : ∀ i, i < n → P i → ∀ r, Ev (fun k => L k (i + 1)) r → Ev (fun k => L k i) r)
    (i : Nat) (hi : i ≤ n) (h : ∀ j, i ≤ j → j < n → P j) : Ev (fun k => L k i) rEnd := by
  obtain ⟨d, hd⟩ : ∃ d, i + d = n := ⟨n - i, by omega⟩
  induction d generalizing i with
  | zero => rw [show i = n by omega]; exact hend
  | succ d ih => exact hgood i (by omega) (h i (by omega) (by omega)) _ (ih (i + 1) (by omega) (fun j h1 h2 => h j (by omega) h2) (by omega))
theorem ev_bad {α : Type} (L : Nat → Nat → Option α) (n : Nat) (P : Nat → Prop) (rBad : α)
    (hgood : ∀ i, i < n → P i → ∀ r, Ev (fun k => L k (i + 1)) r → Ev (fun k => L k i) r) (hbad : ∀ i, i < n → ¬ P i → Ev (fun k => L k i) rBad)
    (i : Nat) (h : ∃ j, i ≤ j ∧ j < n ∧ ¬ P j) : Ev (fun k => L k i) rBad := by
  obtain ⟨j, h1, h2, h3⟩ := h
  obtain ⟨d, hd⟩ : ∃ d, i + d = j := ⟨j - i, by omega⟩
  induction d generalizing i with
  | zero => rw [show i = j by omega]; exact hbad j h2 h3
  | succ d ih =>
    by_cases hp : P i
    · exact hgood i (by omega) hp _ (ih (i + 1) (by omega) (by omega))
    · exact hbad i (by omega) hp
theorem ev_dec {α : Type} (L : Nat → Nat → Option α) (n : Nat) (P : Nat → Prop) [DecidablePred P] (f : Bool → α)
    (hend : Ev (fun k => L k n) (f true)) (hgood : ∀ i, i < n → P i → ∀ r, Ev (fun k => L k (i + 1)) r → Ev (fun k => L k i) r)
    (hbad : ∀ i, i < n → ¬ P i → Ev (fun k => L k i) (f false)) (b : Bool) (hb : b = true ↔ ∀ j, j < n → P j) : Ev (fun k => L k 0) (f b) := by
  cases b with
  | true => exact ev_all L n P (f true) hend hgood 0 (by omega) (fun j _ h => hb.mp rfl j h)
  | false =>
    refine ev_bad L n P (f false) hgood hbad 0 ?_
    by_cases h : ∀ j, j < n → P j
    · exact absurd (hb.mpr h) (by decide)
    · have : ∃ j, ¬ (j < n → P j) := Classical.not_forall.mp h
      obtain ⟨j, hj⟩ := this
      exact ⟨j, by omega, Decidable.byContradiction (fun c => hj (fun h2 => absurd h2 c)), fun c => hj (fun _ => c)⟩
theorem toIntS_loop (l : List Int) (hl : l.length ≤ 35184372088832) : ∀ (d i : Nat) (acc : List Int), i + d = l.length → acc.length = l.length → (∀ j, j < i → acc[j]? = l[j]?) → Ev (fun k => laws_toIntS.l0 k l acc (i : Int)) l := by
  intro d
  induction d with
  | zero =>
    intro i acc hi ha hj
    refine Ev.succ ?_
    simp only [laws_toIntS.l0.eq_2]
    refine Ev.neg (by omega) ?_
    have : acc = l := List.ext_getElem? (fun j => by
      by_cases h : j < i
      · exact hj j h
      · rw [List.getElem?_eq_none (by omega), List.getElem?_eq_none (by omega)])
    rw [this]; exact Ev.now _
  | succ d ih =>
    intro i acc hi ha hj
    refine Ev.succ ?_
    simp only [laws_toIntS.l0.eq_2]
    refine Ev.pos (by omega) (Ev.pos (by omega) (Ev.pos (by omega) ?_))
    rw [w64 (by omega) (by omega)]
    refine ih (i + 1) _ (by omega) (by simpa using ha) ?_
    intro j h
    rw [Int.toNat_natCast, List.getElem?_set]
    by_cases e : i = j
    · subst e
      rw [if_pos rfl, if_pos (by omega), rd_nat l i (by omega), List.getElem?_eq_getElem]
    · rw [if_neg e]; exact hj j (by omega)
theorem toIntS_ev (l : List Int) (hl : l.length ≤ 35184372088832) : Ev (fun k => laws_toIntS.f k l) l := by
  unfold laws_toIntS.f
  refine Ev.pos (by omega) (Ev.pos (by omega) ?_)
  exact toIntS_loop l hl l.length 0 _ (by omega) (by simp) (fun j h => by omega)
theorem eqIntS_loop (l : List Int) (hl : l.length ≤ 35184372088832) : ∀ (d i : Nat), i + d = l.length → Ev (fun k => laws_eqIntS.l0 k l l (i : Int)) true := by
  intro d
  induction d with
  | zero =>
    intro i hi
    refine Ev.succ ?_
    simp only [laws_eqIntS.l0.eq_2]
    exact Ev.neg (by omega) (Ev.now _)
  | succ d ih =>
    intro i hi
    refine Ev.succ ?_
    simp only [laws_eqIntS.l0.eq_2]
    refine Ev.pos (by omega) (Ev.pos (by omega) (Ev.pos (by omega) (Ev.pos (by trivial) ?_)))
    rw [w64 (by omega) (by omega)]
    exact ih (i + 1) (by omega)
theorem eqIntS_ev (l : List Int) (hl : l.length ≤ 35184372088832) : Ev (fun k => laws_eqIntS.f k l l) true := by
  unfold laws_eqIntS.f
  exact Ev.pos rfl (eqIntS_loop l hl l.length 0 (by omega))
theorem within_eq (a b c : Int) : impl_within.f a b c = some (decide (b ≤ a ∧ a ≤ c)) := by
  unfold impl_within.f
  by_cases h : a ≥ b
  · rw [if_pos h]; simp [show b ≤ a from h]
  · rw [if_neg h]; simp [show ¬ b ≤ a from h]
theorem l1In_eq (a b c : Int) : spec_l1In.f a b c = some (decide (b ≤ a ∧ a ≤ c)) := by
  unfold spec_l1In.f
  by_cases h : a ≥ b
  · rw [if_pos h]; simp [show b ≤ a from h]
  · rw [if_neg h]; simp [show ¬ b ≤ a from h]
theorem allWithin_loop (l : List Int) (lo hi : Int) (hl : l.length ≤ 35184372088832) : ∀ (d i : Nat), i + d = l.length → Ev (fun k => impl_allWithin.l0 k lo hi l (l.length : Int) (i : Int)) (decide (∀ x ∈ l.drop i, lo ≤ x ∧ x ≤ hi)) := by
  intro d
  induction d with
  | zero =>
    intro i hi
    refine Ev.succ ?_
    simp only [impl_allWithin.l0.eq_2]
    rw [List.drop_of_length_le (by omega)]
    exact Ev.neg (by omega) (by simp; exact Ev.now _)
  | succ d ih =>
    intro i hi'
    refine Ev.succ ?_
    simp only [impl_allWithin.l0.eq_2]
    refine Ev.pos (by omega) (Ev.pos (by omega) (Ev.pos (by omega) (Ev.bindc (within_eq _ _ _) ?_)))
    have hd : l.drop i = l[i] :: l.drop (i + 1) := (List.drop_eq_getElem_cons (by omega))
    rw [rd_nat l i (by omega)]
    by_cases e : lo ≤ l[i] ∧ l[i] ≤ hi
    · refine Ev.pos (decide_eq_true e) ?_
      rw [w64 (by omega) (by omega)]
      have e1 : (∀ x ∈ l.drop i, lo ≤ x ∧ x ≤ hi) ↔ (∀ x ∈ l.drop (i + 1), lo ≤ x ∧ x ≤ hi) := by rw [hd]; simp only [List.mem_cons, forall_eq_or_imp, e, true_and]
      rw [decide_eq_decide.mpr e1]
      exact ih (i + 1) (by omega)
    · rw [show decide (∀ x ∈ l.drop i, lo ≤ x ∧ x ≤ hi) = false by rw [hd]; simp only [List.mem_cons, forall_eq_or_imp, decide_eq_false_iff_not]; exact fun h => e h.1]
      exact Ev.neg (by simpa using e) (Ev.now _)
theorem allWithin_ev (l : List Int) (lo hi : Int) (hl : l.length ≤ 35184372088832) : Ev (fun k => impl_allWithin.f k l lo hi) (decide (∀ x ∈ l, lo ≤ x ∧ x ≤ hi)) := allWithin_loop l lo hi hl l.length 0 (by omega)
theorem has_loop (l : List Int) (x : Int) (hl : l.length ≤ 35184372088832) : ∀ (d i : Nat), i + d = l.length → Ev (fun k => spec_l1Has.l0 k l x (i : Int)) (decide (x ∈ l.drop i)) := by
  intro d
  induction d with
  | zero =>
    intro i hi
    refine Ev.succ ?_
    simp only [spec_l1Has.l0.eq_2]
    rw [List.drop_of_length_le (by omega)]
    exact Ev.neg (by omega) (Ev.now _)
  | succ d ih =>
    intro i hi
    refine Ev.succ ?_
    simp only [spec_l1Has.l0.eq_2]
    refine Ev.pos (by omega) (Ev.pos (by omega) ?_)
    have hd : l.drop i = l[i] :: l.drop (i + 1) := (List.drop_eq_getElem_cons (by omega))
    rw [rd_nat l i (by omega)]
    by_cases e : l[i] = x
    · rw [show decide (x ∈ l.drop i) = true by rw [hd]; simp [e]]
      exact Ev.pos e (Ev.now _)
    · refine Ev.neg e ?_
      rw [w64 (by omega) (by omega)]
      have := ih (i + 1) (by omega)
      rw [show decide (x ∈ l.drop i) = decide (x ∈ l.drop (i + 1)) by rw [hd]; simp only [List.mem_cons, Ne.symm e, false_or]]
      exact this
theorem has_ev (l : List Int) (x : Int) (hl : l.length ≤ 35184372088832) : Ev (fun k => spec_l1Has.f k l x) (decide (x ∈ l)) := has_loop l x hl l.length 0 (by omega)
theorem szIntS_eq (l : List Int) (a : Int) (hl : l.length ≤ 35184372088832) (h0 : 0 ≤ a) (h1 : a ≤ 1048576) : laws_szIntS.f l a = some (if a - (l.length : Int) < 0 then -1 else a - (l.length : Int)) := by
  unfold laws_szIntS.f
  rw [w64 (by omega) (by omega)]
  split <;> rfl
def pc : Nat → Nat → Nat
  | 0, _ => 0
  | k + 1, n => n % 2 + pc k (n / 2)
theorem u32_nat (a b : Nat) (ha : a < 4294967296) (hb : b < 4294967296) : Go.bits .and .u32 (a : Int) (b : Int) = ((a &&& b : Nat) : Int) ∧ Go.bits .or .u32 (a : Int) (b : Int) = ((a ||| b : Nat) : Int) :=
  bits_nat .u32 32 (by decide) (fun n h0 h1 => by rw [IntKind.wrap_u32]; omega) a b (by omega) (by omega)
/-- the set of some seats -/
def setN (l : List Int) : Nat := l.foldl (fun s p => s ||| 2 ^ p.toNat) 0
theorem foldl_or_bit (l : List Int) (s j : Nat) : (l.foldl (fun s p => s ||| 2 ^ p.toNat) s).testBit j = (s.testBit j || decide (∃ p ∈ l, p.toNat = j)) := by
  induction l generalizing s with
  | nil => simp
  | cons p l ih =>
    rw [List.foldl_cons, ih, Nat.testBit_or, Nat.testBit_two_pow]
    simp only [List.mem_cons, exists_eq_or_imp, Bool.decide_or, Bool.or_assoc]
theorem setN_bit (l : List Int) (j : Nat) : (setN l).testBit j = decide (∃ p ∈ l, p.toNat = j) := by
  unfold setN; rw [foldl_or_bit]; simp
theorem setN_lt (l : List Int) (h : ∀ x ∈ l, 0 ≤ x ∧ x < 32) : setN l < 4294967296 := by
  refine Nat.lt_pow_two_of_testBit (n := 32) _ (fun j hj => ?_)
  rw [setN_bit]
  simp only [decide_eq_false_iff_not, not_exists, not_and]
  intro x hx e
  have := h x hx
  omega
theorem setN_take (l : List Int) (i : Nat) (h : i < l.length) : setN (l.take (i + 1)) = setN (l.take i) ||| 2 ^ (l[i]).toNat := by
  unfold setN
  rw [List.take_succ_eq_append_getElem h, List.foldl_append]
  rfl
theorem two_pow_lt32 (p : Int) (h0 : 0 ≤ p) (h1 : p < 32) : 2 ^ p.toNat < 4294967296 := Nat.pow_lt_pow_right (m := p.toNat) (n := 32) (by decide) (by omega)
theorem shl_u32_one (p : Int) (h0 : 0 ≤ p) (h1 : p < 32) : shl .u32 1 p = ((2 ^ p.toNat : Nat) : Int) := by
  unfold shl
  rw [Nat.min_eq_left (by simp [IntKind.bits]; omega), IntKind.wrap_u32]
  have e : (1 * 2 ^ p.toNat : Int) = ((2 ^ p.toNat : Nat) : Int) := by rw [Int.one_mul]; push_cast; rfl
  rw [e]; exact Int.emod_eq_of_lt (Int.natCast_nonneg _) (Int.ofNat_lt.mpr (two_pow_lt32 p h0 h1))
theorem setOf_loop (l : List Int) (h : ∀ x ∈ l, 0 ≤ x ∧ x < 32) (hl : l.length ≤ 35184372088832) : ∀ (d i : Nat), i + d = l.length → Ev (fun k => impl_setOf.l0 k (setN (l.take i) : Int) l (l.length : Int) (i : Int)) (setN l : Int) := by
  intro d
  induction d with
  | zero =>
    intro i hi
    refine Ev.succ ?_
    simp only [impl_setOf.l0.eq_2]
    rw [List.take_of_length_le (by omega)]
    exact Ev.neg (by omega) (Ev.now _)
  | succ d ih =>
    intro i hi
    refine Ev.succ ?_
    simp only [impl_setOf.l0.eq_2]
    have hx := h (l[i]) (List.getElem_mem (by omega))
    rw [rd_nat l i (by omega)]
    refine Ev.pos (by omega) (Ev.pos (by omega) (Ev.pos (by omega) (Ev.pos hx.1 ?_)))
    rw [w64 (by omega) (by omega), shl_u32_one _ hx.1 hx.2]
    rw [(u32_nat _ _ (setN_lt _ (fun x hx => h x (List.mem_of_mem_take hx))) (two_pow_lt32 _ hx.1 hx.2)).2, ← setN_take l i (by omega)]
    exact ih (i + 1) (by omega)
theorem setOf_ev (l : List Int) (h : ∀ x ∈ l, 0 ≤ x ∧ x < 32) (hl : l.length ≤ 35184372088832) : Ev (fun k => impl_setOf.f k l) (setN l : Int) := setOf_loop l h hl l.length 0 (by omega)
/-- a list that has each number less than n once -/
def IsOrd (l : List Int) (n : Int) : Prop := (l.length : Int) = n ∧ ∀ i : Nat, (i : Int) < n → (i : Int) ∈ l
theorem ph_len : ∀ (n : Nat) (l : List Int), (∀ i : Nat, i < n → (i : Int) ∈ l) → n ≤ l.length := by
  intro n
  induction n with
  | zero => intro l _; omega
  | succ n ih =>
    intro l h
    have hm := h n (by omega)
    have := ih (l.erase (n : Int)) (fun i hi => (List.mem_erase_of_ne (by omega)).mpr (h i (by omega)))
    rw [List.length_erase_of_mem hm] at this
    have : 0 < l.length := List.length_pos_of_mem hm
    omega
instance (l : List Int) (n : Int) : Decidable (IsOrd l n) := decidable_of_iff ((l.length : Int) = n ∧ ∀ i : Fin l.length, (i.val : Int) ∈ l) (by
  unfold IsOrd
  constructor
  · rintro ⟨h1, h2⟩; exact ⟨h1, fun i hi => h2 ⟨i, by omega⟩⟩
  · rintro ⟨h1, h2⟩; exact ⟨h1, fun i => h2 i.val (by have := i.isLt; omega)⟩)
theorem getD_lt (l : List Int) (i : Nat) (h : i < l.length) : l.getD i 0 = l[i] := by rw [List.getD_eq_getElem?_getD, List.getElem?_eq_getElem h]; rfl
theorem rd_getD (l : List Int) (i : Nat) : rd l (i : Int) = l.getD i 0 := by unfold rd; rw [Int.toNat_natCast]
theorem exists_bool (p : Prop) : ∃ b : Bool, b = true ↔ p := by
  by_cases h : p
  · exact ⟨true, by simp [h]⟩
  · exact ⟨false, by simp [h]⟩
/-- a valid row -/
def IsRw (s : Int) (r : Bool) (l : List Int) : Prop := (2 ≤ s ∧ s ≤ 24) ∧ (r = true → 3 ≤ s) ∧ (∀ x ∈ l, 0 ≤ x ∧ x < s) ∧ l.Pairwise (· < ·)
def rwP (l : List Int) (hi : Int) (i : Nat) : Prop := (0 ≤ l.getD i 0 ∧ l.getD i 0 ≤ hi) ∧ (0 < i → l.getD (i - 1) 0 < l.getD i 0)
instance (l : List Int) (hi : Int) (i : Nat) : Decidable (rwP l hi i) := by unfold rwP; infer_instance
theorem rwP_all (l : List Int) (hi : Int) : (∀ i, i < l.length → rwP l hi i) ↔ (∀ x ∈ l, 0 ≤ x ∧ x ≤ hi) ∧ l.Pairwise (· < ·) := by
  constructor
  · intro h
    refine ⟨fun x hx => ?_, ?_⟩
    · obtain ⟨i, hi', rfl⟩ := List.mem_iff_getElem.mp hx
      have := (h i hi').1
      rw [getD_lt l i hi'] at this
      exact this
    · rw [List.pairwise_iff_getElem]
      intro i j hi' hj hij
      obtain ⟨d, hd⟩ : ∃ d, i + 1 + d = j := ⟨j - i - 1, by omega⟩
      induction d generalizing j with
      | zero =>
        have := (h j hj).2 (by omega)
        rw [getD_lt l j hj, show j - 1 = i by omega, getD_lt l i hi'] at this
        exact this
      | succ d ih =>
        have h1 := ih (j - 1) (by omega) (by omega) (by omega)
        have h2 := (h j hj).2 (by omega)
        rw [getD_lt l j hj, getD_lt l (j - 1) (by omega)] at h2
        omega
  · rintro ⟨h1, h2⟩ i hi'
    refine ⟨?_, fun h0 => ?_⟩
    · rw [getD_lt l i hi']; exact h1 _ (List.getElem_mem _)
    · rw [getD_lt l i hi', getD_lt l (i - 1) (by omega)]
      exact (List.pairwise_iff_getElem.mp h2) (i - 1) i (by omega) hi' (by omega)
theorem rising_ev (l : List Int) (hi : Int) (hl : l.length ≤ 35184372088832) (b : Bool) (hb : b = true ↔ ∀ i, i < l.length → rwP l hi i) : Ev (fun k => spec_l1Rising.f k l 0 hi) b := by
  unfold spec_l1Rising.f
  refine ev_dec (fun k i => spec_l1Rising.l0 k l 0 hi (i : Int)) l.length (rwP l hi) id ?_ ?_ ?_ b hb
  · refine Ev.succ ?_
    simp only [spec_l1Rising.l0.eq_2]
    exact Ev.neg (by omega) (Ev.now _)
  · intro i hi' hp r h
    refine Ev.succ ?_
    simp only [spec_l1Rising.l0.eq_2]
    rw [rd_getD, w64 (n := (i : Int) + 1) (by omega) (by omega), w64 (n := (i : Int) - 1) (by omega) (by omega)]
    refine Ev.pos (by omega) (Ev.pos (by omega) (Ev.bindc (l1In_eq _ _ _) (Ev.pos (decide_eq_true hp.1) ?_)))
    by_cases h0 : (i : Int) > 0
    · have := hp.2 (by omega)
      rw [show (i : Int) - 1 = ((i - 1 : Nat) : Int) by omega, rd_getD]
      exact Ev.pos h0 (Ev.pos (by omega) (Ev.pos (by omega) (Ev.neg (by omega) h)))
    · exact Ev.neg h0 h
  · intro i hi' hp
    refine Ev.succ ?_
    simp only [spec_l1Rising.l0.eq_2]
    rw [rd_getD, w64 (n := (i : Int) - 1) (by omega) (by omega)]
    refine Ev.pos (by omega) (Ev.pos (by omega) (Ev.bindc (l1In_eq _ _ _) ?_))
    by_cases h1 : 0 ≤ l.getD i 0 ∧ l.getD i 0 ≤ hi
    · have h2 : ¬ (0 < i → l.getD (i - 1) 0 < l.getD i 0) := fun h => hp ⟨h1, h⟩
      have h0 : 0 < i := Decidable.byContradiction (fun c => h2 (fun h => absurd h c))
      have h3 : ¬ l.getD (i - 1) 0 < l.getD i 0 := fun h => h2 (fun _ => h)
      rw [show (i : Int) - 1 = ((i - 1 : Nat) : Int) by omega, rd_getD]
      exact Ev.pos (decide_eq_true h1) (Ev.pos (by omega) (Ev.pos (by omega) (Ev.pos (by omega) (Ev.pos (by omega) (Ev.now _)))))
    · exact Ev.neg (by simpa using h1) (Ev.now _)
theorem l2Row_ev (s : Int) (r : Bool) (l : List Int) (hl : l.length ≤ 35184372088832) (b : Bool) (hb : b = true ↔ IsRw s r l) : Ev (fun k => spec_l2Row.f k s r l) b := by
  unfold spec_l2Row.f
  have hno : ¬ IsRw s r l → b = false := fun h => by
    cases b with
    | false => rfl
    | true => exact absurd (hb.mp rfl) h
  refine Ev.bindc (l1In_eq _ _ _) ?_
  by_cases hs : 2 ≤ s ∧ s ≤ 24
  · refine Ev.pos (decide_eq_true hs) ?_
    rw [w64 (by omega) (by omega)]
    have main : (r = true → 3 ≤ s) → (b = true ↔ ∀ i, i < l.length → rwP l (s - 1) i) := by
      intro h3
      rw [hb, rwP_all]
      unfold IsRw
      constructor
      · rintro ⟨_, _, h4, h5⟩; exact ⟨fun x hx => by have := h4 x hx; omega, h5⟩
      · rintro ⟨h4, h5⟩; exact ⟨hs, h3, fun x hx => by have := h4 x hx; omega, h5⟩
    by_cases hr : r = true
    · refine Ev.pos hr ?_
      by_cases h3 : s > 2
      · exact Ev.pos h3 (Ev.bind (f := fun _ t => some t) (rising_ev l (s - 1) hl b (main (fun _ => by omega))) (Ev.now _))
      · rw [hno (fun h => h3 (by have := h.2.1 hr; omega))]
        exact Ev.neg h3 (Ev.now _)
    · exact Ev.neg hr (Ev.bind (f := fun _ t => some t) (rising_ev l (s - 1) hl b (main (fun h => absurd h hr))) (Ev.now _))
  · rw [hno (fun h => hs h.1)]
    exact Ev.neg (by simpa using hs) (Ev.now _)
theorem bench_has1 (s : Int) (r : Bool) (x : Int) : Ev (fun k => impl_bench_has.f k s r [x]) (decide (0 ≤ x ∧ x ≤ wrap64 (s - 1))) := by
  unfold impl_bench_has.f
  refine Ev.bind (f := fun _ t => some t) (allWithin_ev [x] 0 _ (by simp)) ?_
  simp only [List.mem_singleton, forall_eq]
  exact Ev.now _
theorem bench_valid_eq (s : Int) (r : Bool) (b : Bool) (hb : b = true ↔ (2 ≤ s ∧ s ≤ 24) ∧ (r = true → 3 ≤ s)) : impl_bench_valid.f s r = some b := by
  unfold impl_bench_valid.f
  rw [within_eq, Option.bind_some]
  by_cases hs : 2 ≤ s ∧ s ≤ 24
  · rw [if_pos (decide_eq_true hs)]
    cases r with
    | true => rw [if_pos rfl]; congr 1; rw [Bool.eq_iff_iff, hb]; simp only [decide_eq_true_eq]; exact ⟨fun h => ⟨hs, fun _ => h⟩, fun h => h.2 (by trivial)⟩
    | false => rw [if_neg (by decide)]; congr 1; rw [Bool.eq_iff_iff, hb]; simp [hs]
  · rw [if_neg (by simpa using hs)]; congr 1; rw [Bool.eq_iff_iff, hb]; simp only [Bool.false_eq_true, false_iff]; exact fun h => hs h.1
theorem isRow_ev (s : Int) (r : Bool) (l : List Int) (hl : l.length ≤ 35184372088832) (b : Bool) (hb : b = true ↔ IsRw s r l) : Ev (fun k => impl_IsRow.f k s r l) b := by
  unfold impl_IsRow.f
  obtain ⟨v, hv⟩ := exists_bool ((2 ≤ s ∧ s ≤ 24) ∧ (r = true → 3 ≤ s))
  obtain ⟨c, hc⟩ := exists_bool (∀ i, i < l.length → rwP l (wrap64 (s - 1)) i)
  have hbc : b = (if c = true then v else false) := by
    rw [Bool.eq_iff_iff, hb]
    unfold IsRw
    constructor
    · rintro ⟨h1, h2, h3, h4⟩
      have hcc : c = true := by
        rw [hc, rwP_all, w64 (by omega) (by omega)]
        exact ⟨fun x hx => by have := h3 x hx; omega, h4⟩
      rw [if_pos hcc, hv]; exact ⟨h1, h2⟩
    · intro h
      by_cases hcc : c = true
      · rw [if_pos hcc, hv] at h
        rw [hc, rwP_all, w64 (by omega) (by omega)] at hcc
        exact ⟨h.1, h.2, fun x hx => by have := hcc.1 x hx; omega, hcc.2⟩
      · rw [if_neg hcc] at h; cases h
  rw [hbc]
  refine ev_dec (fun k i => impl_IsRow.l0 k l (l.length : Int) (i : Int) s r l) l.length (rwP l (wrap64 (s - 1))) (fun c => if c = true then v else false) ?_ ?_ ?_ c hc
  · refine Ev.succ ?_
    simp only [impl_IsRow.l0.eq_2]
    exact Ev.neg (by omega) (Ev.bindc rfl (Ev.bindc (bench_valid_eq s r v hv) (Ev.now _)))
  · intro i hi' hp q h
    refine Ev.succ ?_
    simp only [impl_IsRow.l0.eq_2]
    rw [rd_getD, w64 (n := (i : Int) + 1) (by omega) (by omega), w64 (n := (i : Int) - 1) (by omega) (by omega)]
    refine Ev.pos (by omega) (Ev.pos (by omega) (Ev.pos (by omega) (Ev.bindc rfl (Ev.bind (bench_has1 s r _) (Ev.pos (decide_eq_true hp.1) ?_)))))
    by_cases h0 : (i : Int) > 0
    · have := hp.2 (by omega)
      rw [show (i : Int) - 1 = ((i - 1 : Nat) : Int) by omega, rd_getD]
      exact Ev.pos h0 (Ev.pos (by omega) (Ev.pos (by omega) (Ev.neg (by omega) h)))
    · exact Ev.neg h0 h
  · intro i hi' hp
    refine Ev.succ ?_
    simp only [impl_IsRow.l0.eq_2]
    rw [rd_getD, w64 (n := (i : Int) - 1) (by omega) (by omega)]
    refine Ev.pos (by omega) (Ev.pos (by omega) (Ev.pos (by omega) (Ev.bindc rfl (Ev.bind (bench_has1 s r _) ?_))))
    by_cases h1 : 0 ≤ l.getD i 0 ∧ l.getD i 0 ≤ wrap64 (s - 1)
    · have h2 : ¬ (0 < i → l.getD (i - 1) 0 < l.getD i 0) := fun h => hp ⟨h1, h⟩
      have h0 : 0 < i := Decidable.byContradiction (fun c => h2 (fun h => absurd h c))
      have h3 : ¬ l.getD (i - 1) 0 < l.getD i 0 := fun h => h2 (fun _ => h)
      rw [show (i : Int) - 1 = ((i - 1 : Nat) : Int) by omega, rd_getD]
      exact Ev.pos (decide_eq_true h1) (Ev.pos (by omega) (Ev.pos (by omega) (Ev.pos (by omega) (Ev.pos (by omega) (Ev.now _)))))
    · exact Ev.neg (by simpa using h1) (Ev.now _)
/-- the gap of two seats -/
def gp (s : Int) (r : Bool) (p q : Int) : Int := if r = true then mn (mx (p - q) (q - p)) (s - mx (p - q) (q - p)) else mx (p - q) (q - p)
theorem mx_le {a b c : Int} (h1 : a ≤ c) (h2 : b ≤ c) : mx a b ≤ c := by unfold mx; split <;> omega
theorem le_mx {a b : Int} : a ≤ mx a b ∧ b ≤ mx a b := by unfold mx; split <;> omega
theorem l2Gap_eq (s : Int) (r : Bool) (l : List Int) (p q : Int) (hs : 0 ≤ s ∧ s ≤ 100) (hp : 0 ≤ p ∧ p < 100) (hq : 0 ≤ q ∧ q < 100) : spec_l2Gap.f s r l p q = some (gp s r p q) := by
  unfold spec_l2Gap.f spec_l1Most.f gp
  have e : (if p - q > q - p then some (p - q) else some (q - p)) = some (mx (p - q) (q - p)) := by
    unfold mx; split <;> split <;> first | rfl | (congr 1; omega)
  have h1 : mx (p - q) (q - p) ≤ 100 := mx_le (by omega) (by omega)
  have h2 := @le_mx (p - q) (q - p)
  rw [w64 (n := p - q) (by omega) (by omega), w64 (n := q - p) (by omega) (by omega), e, Option.bind_some]
  cases r with
  | true =>
    rw [if_pos rfl, if_pos rfl]
    unfold spec_l1Least.f
    rw [w64 (by omega) (by omega)]
    unfold mn
    split <;> split <;> first | rfl | (simp only [Option.bind_some]; congr 1; omega)
  | false => rw [if_neg (by decide), if_neg (by decide)]
theorem bench_gap_eq (s : Int) (r : Bool) (p q : Int) (hs : 0 ≤ s ∧ s ≤ 100) (hp : 0 ≤ p ∧ p < 100) (hq : 0 ≤ q ∧ q < 100) : impl_bench_gap.f s r p q = some (gp s r p q) := by
  unfold impl_bench_gap.f gp
  have h1 : mx (p - q) (q - p) ≤ 100 := mx_le (by omega) (by omega)
  have h2 := @le_mx (p - q) (q - p)
  rw [w64 (n := p - q) (by omega) (by omega), w64 (n := q - p) (by omega) (by omega), w64 (n := s - mx (p - q) (q - p)) (by omega) (by omega)]
  cases r with
  | true => rw [if_pos rfl, if_pos rfl]
  | false => rw [if_neg (by decide), if_neg (by decide)]
/-- the set of the numbers below n that meet R -/
def bld (R : Nat → Bool) : Nat → Nat
  | 0 => 0
  | n + 1 => if R n = true then bld R n ||| 2 ^ n else bld R n
/-- the first seat of a list with the least gap, and this gap -/
def nstStep (s : Int) (r : Bool) (p : Int) (st : Int × Int) (q : Int) : Int × Int := if st.1 < 0 then (q, gp s r p q) else if gp s r p q < st.2 then (q, gp s r p q) else st
def nst (s : Int) (r : Bool) (p : Int) (l : List Int) : Int × Int := l.foldl (nstStep s r p) (-1, -1)
theorem l2Nearest_ev (s : Int) (r : Bool) (tk l : List Int) (p : Int) (hl : l.length ≤ 35184372088832) (hs : 0 ≤ s ∧ s ≤ 100) (hp : 0 ≤ p ∧ p < 100) (hr : ∀ x ∈ l, 0 ≤ x ∧ x < 100) : Ev (fun k => spec_l2Nearest.f k s r tk l p) (nst s r p l) := by
  unfold spec_l2Nearest.f
  have key : ∀ d i (st : Int × Int), i + d = l.length → Ev (fun k => spec_l2Nearest.l0 k l p st.1 st.2 (i : Int) s r tk) ((l.drop i).foldl (nstStep s r p) st) := by
    intro d
    induction d with
    | zero =>
      intro i st hi
      refine Ev.succ ?_
      simp only [spec_l2Nearest.l0.eq_2]
      rw [List.drop_of_length_le (by omega)]
      exact Ev.neg (by omega) (Ev.now _)
    | succ d ih =>
      intro i st hi
      refine Ev.succ ?_
      simp only [spec_l2Nearest.l0.eq_2]
      have hx := hr l[i] (List.getElem_mem (by omega))
      rw [rd_nat l i (by omega), w64 (n := (i : Int) + 1) (by omega) (by omega)]
      refine Ev.pos (by omega) (Ev.pos (by omega) (Ev.bindc (l2Gap_eq s r tk p l[i] hs hp (by omega)) ?_))
      rw [List.drop_eq_getElem_cons (by omega), List.foldl_cons]
      have := ih (i + 1) (nstStep s r p st l[i]) (by omega)
      unfold nstStep at this ⊢
      by_cases h1 : st.1 < 0
      · rw [if_pos h1] at this ⊢; exact Ev.pos h1 this
      · rw [if_neg h1] at this ⊢
        refine Ev.neg h1 ?_
        by_cases h2 : gp s r p l[i] < st.2
        · rw [if_pos h2] at this ⊢; exact Ev.pos h2 this
        · rw [if_neg h2] at this ⊢; exact Ev.neg h2 this
  exact key l.length 0 (-1, -1) (by omega)
theorem nst_go (s : Int) (r : Bool) (p : Int) : ∀ (l : List Int) (st : Int × Int), 0 ≤ st.1 → (∀ x ∈ l, 0 ≤ x) → let f := l.foldl (nstStep s r p) st
    0 ≤ f.1 ∧ f.2 ≤ st.2 ∧ (∀ q ∈ l, f.2 ≤ gp s r p q) ∧ (f = st ∨ (f.1 ∈ l ∧ f.2 = gp s r p f.1)) := by
  intro l
  induction l with
  | nil => intro st h _; exact ⟨h, Int.le_refl _, by simp, .inl rfl⟩
  | cons q l ih =>
    intro st h hl
    have hq := hl q (by simp)
    have hl' : ∀ x ∈ l, 0 ≤ x := fun x hx => hl x (List.mem_cons_of_mem _ hx)
    simp only [List.foldl_cons]
    by_cases h2 : gp s r p q < st.2
    · have e : nstStep s r p st q = (q, gp s r p q) := by unfold nstStep; rw [if_neg (by omega), if_pos h2]
      rw [e]
      obtain ⟨a, b, c, d⟩ := ih (q, gp s r p q) hq hl'
      refine ⟨a, by simp only at b; omega, fun x hx => ?_, ?_⟩
      · rcases List.mem_cons.mp hx with rfl | hx
        · exact b
        · exact c x hx
      · rcases d with d | d
        · exact .inr ⟨by rw [d]; simp, by rw [d]⟩
        · exact .inr ⟨List.mem_cons_of_mem _ d.1, d.2⟩
    · have e : nstStep s r p st q = st := by unfold nstStep; rw [if_neg (by omega), if_neg h2]
      rw [e]
      obtain ⟨a, b, c, d⟩ := ih st h hl'
      refine ⟨a, b, fun x hx => ?_, ?_⟩
      · rcases List.mem_cons.mp hx with rfl | hx
        · omega
        · exact c x hx
      · rcases d with d | d
        · exact .inl d
        · exact .inr ⟨List.mem_cons_of_mem _ d.1, d.2⟩
theorem nst_cons (s : Int) (r : Bool) (p x : Int) (l : List Int) (hr : ∀ y ∈ x :: l, 0 ≤ y) : (nst s r p (x :: l)).1 ∈ x :: l ∧ (nst s r p (x :: l)).2 = gp s r p (nst s r p (x :: l)).1 ∧ ∀ q ∈ x :: l, (nst s r p (x :: l)).2 ≤ gp s r p q := by
  have e : nst s r p (x :: l) = l.foldl (nstStep s r p) (x, gp s r p x) := by
    unfold nst; rw [List.foldl_cons]; congr 1
  rw [e]
  obtain ⟨a, b, c, d⟩ := nst_go s r p l (x, gp s r p x) (hr x (by simp)) (fun y hy => hr y (List.mem_cons_of_mem _ hy))
  refine ⟨?_, ?_, ?_⟩
  · rcases d with d | d
    · rw [d]; simp
    · exact List.mem_cons_of_mem _ d.1
  · rcases d with d | d
    · rw [d]
    · exact d.2
  · intro q hq
    rcases List.mem_cons.mp hq with rfl | hq
    · exact b
    · exact c q hq
theorem gp_nonneg (s : Int) (r : Bool) (p q : Int) (hp : 0 ≤ p ∧ p ≤ s) (hq : 0 ≤ q ∧ q ≤ s) : 0 ≤ gp s r p q := by
  unfold gp mx mn; cases r <;> simp only [Bool.false_eq_true, if_false, if_true] <;> split <;> (try split) <;> omega
theorem nst_nil (s : Int) (r : Bool) (p : Int) : nst s r p [] = (-1, -1) := rfl
theorem land_rec (x y : Nat) : x &&& y = 2 * ((x / 2) &&& (y / 2)) + (x % 2) * (y % 2) := by
  have hd : (x % 2) * (y % 2) < 2 := by
    rcases Nat.mod_two_eq_zero_or_one x with h | h <;> rcases Nat.mod_two_eq_zero_or_one y with h2 | h2 <;> rw [h, h2] <;> decide
  refine Nat.eq_of_testBit_eq (fun j => ?_)
  cases j with
  | zero =>
    rw [Nat.testBit_and, Nat.testBit_zero, Nat.testBit_zero, Nat.testBit_zero]
    rcases Nat.mod_two_eq_zero_or_one x with h | h <;> rcases Nat.mod_two_eq_zero_or_one y with h2 | h2 <;> rw [h, h2] <;> simp <;> omega
  | succ j =>
    rw [Nat.testBit_and, Nat.testBit_succ, Nat.testBit_succ, Nat.testBit_succ]
    rw [show (2 * ((x / 2) &&& (y / 2)) + (x % 2) * (y % 2)) / 2 = (x / 2) &&& (y / 2) by omega, Nat.testBit_and]
/-- the place of the lowest bit -/
def low : Nat → Nat → Nat
  | 0, _ => 0
  | k + 1, n => if n % 2 = 1 then 0 else low k (n / 2) + 1
theorem neg_land (k : Nat) : ∀ n, 0 < n → n < 2 ^ k → (n &&& (2 ^ k - n)) = 2 ^ (low k n) ∧ low k n < k ∧ n.testBit (low k n) = true := by
  induction k with
  | zero => intro n h1 h2; simp at h2; omega
  | succ k ih =>
    intro n h1 h2
    have hp : 2 ^ (k + 1) = 2 * 2 ^ k := by rw [Nat.pow_succ]; omega
    rw [land_rec]
    unfold low
    by_cases ho : n % 2 = 1
    · rw [if_pos ho]
      have e1 : (2 ^ (k + 1) - n) / 2 = 2 ^ k - (n / 2 + 1) := by omega
      have e2 : (2 ^ (k + 1) - n) % 2 = 1 := by omega
      have hz : (n / 2) &&& (2 ^ k - (n / 2 + 1)) = 0 := by
        refine Nat.eq_of_testBit_eq (fun j => ?_)
        rw [Nat.testBit_and, Nat.testBit_two_pow_sub_succ (by omega), Nat.zero_testBit]
        cases (n / 2).testBit j <;> simp
      rw [e1, e2, hz, ho]
      exact ⟨rfl, by omega, by rw [Nat.testBit_zero]; simpa using ho⟩
    · rw [if_neg ho]
      have e0 : n % 2 = 0 := by omega
      have e1 : (2 ^ (k + 1) - n) / 2 = 2 ^ k - n / 2 := by omega
      obtain ⟨a, b, c⟩ := ih (n / 2) (by omega) (by omega)
      rw [e1, e0, a, Nat.zero_mul, Nat.add_zero]
      exact ⟨by rw [Nat.pow_succ]; omega, by omega, by rw [Nat.testBit_succ]; exact c⟩
/-- the places of all bits, in order -/
def lst : Nat → Nat → Nat → List Nat
  | 0, _, _ => []
  | k + 1, off, n => if n % 2 = 1 then off :: lst k (off + 1) (n / 2) else lst k (off + 1) (n / 2)
theorem lst_zero (k off : Nat) : lst k off 0 = [] := by
  induction k generalizing off with
  | zero => rfl
  | succ k ih => unfold lst; rw [if_neg (by decide)]; exact ih _
theorem lst_len (k off n : Nat) : (lst k off n).length ≤ k := by
  induction k generalizing off n with
  | zero => exact Nat.le_refl _
  | succ k ih =>
    have := ih (off + 1) (n / 2)
    unfold lst; split
    · rw [List.length_cons]; omega
    · omega
theorem lst_step (k : Nat) : ∀ n off, 0 < n → n < 2 ^ k → lst k off n = (off + low k n) :: lst k off (n &&& (n - 1)) ∧ n &&& (n - 1) < n := by
  induction k with
  | zero => intro n off h1 h2; simp at h2; omega
  | succ k ih =>
    intro n off h1 h2
    have hp : 2 ^ (k + 1) = 2 * 2 ^ k := by rw [Nat.pow_succ]; omega
    rw [land_rec n (n - 1)]
    by_cases ho : n % 2 = 1
    · have e1 : (n - 1) / 2 = n / 2 := by omega
      have e2 : (n - 1) % 2 = 0 := by omega
      rw [e1, e2, Nat.and_self]
      simp only [Nat.mul_zero, Nat.add_zero]
      have l1 : lst (k + 1) off n = off :: lst k (off + 1) (n / 2) := if_pos ho
      have l2 : lst (k + 1) off (2 * (n / 2)) = lst k (off + 1) (n / 2) := by
        rw [show lst (k + 1) off (2 * (n / 2)) = lst k (off + 1) (2 * (n / 2) / 2) from if_neg (by omega), show 2 * (n / 2) / 2 = n / 2 by omega]
      have l3 : low (k + 1) n = 0 := if_pos ho
      rw [l1, l2, l3]
      exact ⟨rfl, by omega⟩
    · have e0 : n % 2 = 0 := by omega
      have e1 : (n - 1) / 2 = n / 2 - 1 := by omega
      obtain ⟨a, b⟩ := ih (n / 2) (off + 1) (by omega) (by omega)
      rw [e1, e0]
      simp only [Nat.zero_mul, Nat.add_zero]
      have l1 : lst (k + 1) off n = lst k (off + 1) (n / 2) := if_neg ho
      have l2 : lst (k + 1) off (2 * (n / 2 &&& (n / 2 - 1))) = lst k (off + 1) (n / 2 &&& (n / 2 - 1)) := by
        rw [show lst (k + 1) off (2 * (n / 2 &&& (n / 2 - 1))) = lst k (off + 1) (2 * (n / 2 &&& (n / 2 - 1)) / 2) from if_neg (by omega), Nat.mul_div_cancel_left _ (by decide)]
      have l3 : low (k + 1) n = low k (n / 2) + 1 := if_neg ho
      rw [l1, l2, l3, a]
      exact ⟨by congr 1; omega, by omega⟩
theorem lst_mem (k : Nat) : ∀ n off x, x ∈ lst k off n ↔ off ≤ x ∧ x < off + k ∧ n.testBit (x - off) = true := by
  induction k with
  | zero => intro n off x; simp only [lst, List.not_mem_nil, false_iff]; omega
  | succ k ih =>
    intro n off x
    have hh : x ∈ lst (k + 1) off n ↔ (x = off ∧ n % 2 = 1) ∨ x ∈ lst k (off + 1) (n / 2) := by
      rw [show lst (k + 1) off n = if n % 2 = 1 then off :: lst k (off + 1) (n / 2) else lst k (off + 1) (n / 2) from rfl]
      split
      · rename_i h; simp [h]
      · rename_i h; simp [h]
    rw [hh, ih]
    constructor
    · rintro (⟨rfl, h⟩ | ⟨h1, h2, h3⟩)
      · exact ⟨Nat.le_refl _, by omega, by rw [Nat.sub_self, Nat.testBit_zero]; simpa using h⟩
      · refine ⟨by omega, by omega, ?_⟩
        rw [show x - off = (x - (off + 1)) + 1 by omega, Nat.testBit_succ]; exact h3
    · rintro ⟨h1, h2, h3⟩
      rcases Nat.eq_or_lt_of_le h1 with e | e
      · subst e; rw [Nat.sub_self, Nat.testBit_zero] at h3; exact .inl ⟨rfl, by simpa using h3⟩
      · refine .inr ⟨by omega, by omega, ?_⟩
        rw [show x - off = (x - (off + 1)) + 1 by omega, Nat.testBit_succ] at h3; exact h3
theorem lst_sorted (k : Nat) : ∀ n off, (lst k off n).Pairwise (· < ·) := by
  induction k with
  | zero => intro n off; exact List.Pairwise.nil
  | succ k ih =>
    intro n off
    unfold lst
    split
    · refine List.pairwise_cons.mpr ⟨fun x hx => ?_, ih _ _⟩
      have := (lst_mem k _ _ x).mp hx; omega
    · exact ih _ _
/-- the seats of a set -/
def listN (n : Nat) : List Int := (lst 32 0 n).map (fun x : Nat => (x : Int))
theorem listN_mem (n : Nat) (x : Int) : x ∈ listN n ↔ (0 ≤ x ∧ x < 32) ∧ n.testBit x.toNat = true := by
  unfold listN
  rw [List.mem_map]
  constructor
  · rintro ⟨y, hy, rfl⟩
    have := (lst_mem 32 n 0 y).mp hy
    exact ⟨by omega, by rw [Int.toNat_natCast]; simpa using this.2.2⟩
  · rintro ⟨h1, h2⟩
    exact ⟨x.toNat, (lst_mem 32 n 0 _).mpr ⟨by omega, by omega, by simpa using h2⟩, by omega⟩
theorem listN_sorted (n : Nat) : (listN n).Pairwise (· < ·) := by
  unfold listN
  rw [List.pairwise_map]
  exact (lst_sorted 32 n 0).imp (fun h => by omega)
theorem listN_len (n : Nat) : (listN n).length ≤ 32 := by unfold listN; rw [List.length_map]; exact lst_len _ _ _
theorem sorted_ext : ∀ (l m : List Int), l.Pairwise (· < ·) → m.Pairwise (· < ·) → (∀ x, x ∈ l ↔ x ∈ m) → l = m := by
  intro l
  induction l with
  | nil =>
    intro m _ _ h
    cases m with
    | nil => rfl
    | cons y m => exact absurd ((h y).mpr (by simp)) (by simp)
  | cons x l ih =>
    intro m hl hm h
    cases m with
    | nil => exact absurd ((h x).mp (by simp)) (by simp)
    | cons y m =>
      obtain ⟨h1, h2⟩ := List.pairwise_cons.mp hl
      obtain ⟨h3, h4⟩ := List.pairwise_cons.mp hm
      have e : x = y := by
        have ha := (h x).mp (by simp)
        have hb := (h y).mpr (by simp)
        rcases List.mem_cons.mp ha with e | ha
        · exact e
        · rcases List.mem_cons.mp hb with e | hb
          · exact e.symm
          · have := h1 y hb; have := h3 x ha; omega
      subst e
      refine congrArg (x :: ·) (ih m h2 h4 (fun z => ?_))
      constructor
      · intro hz
        rcases List.mem_cons.mp ((h z).mp (List.mem_cons_of_mem _ hz)) with e | hz'
        · have := h1 z hz; omega
        · exact hz'
      · intro hz
        rcases List.mem_cons.mp ((h z).mpr (List.mem_cons_of_mem _ hz)) with e | hz'
        · have := h3 z hz; omega
        · exact hz'
theorem listN_setN (l : List Int) (h : ∀ x ∈ l, 0 ≤ x ∧ x < 32) (hs : l.Pairwise (· < ·)) : listN (setN l) = l := by
  refine sorted_ext _ _ (listN_sorted _) hs (fun x => ?_)
  rw [listN_mem, setN_bit, decide_eq_true_eq]
  constructor
  · rintro ⟨h1, p, hp, e⟩
    have := h p hp
    rw [show x = p by omega]; exact hp
  · intro hx; exact ⟨h x hx, x, hx, rfl⟩
theorem tz_tab : ∀ i : Fin 32, ((2 ^ i.val * 125613361 % 4294967296) / 134217728 < 32) ∧ TZ.getD ((2 ^ i.val * 125613361 % 4294967296) / 134217728) 0 = ((i.val : Nat) : Int) := by decide +kernel
theorem neg_u32 (n : Nat) (h0 : 0 < n) (h : n < 4294967296) : Go.bits .and .u32 (n : Int) ((-(n : Int)) % 4294967296) = ((2 ^ (low 32 n) : Nat) : Int) := by
  have e : (-(n : Int)) % 4294967296 = ((4294967296 - n : Nat) : Int) := by omega
  rw [e, (u32_nat n (4294967296 - n) h (by omega)).1]
  have := (neg_land 32 n h0 h).1
  rw [show (2 : Nat) ^ 32 = 4294967296 from rfl] at this
  rw [this]
theorem tz_eq (n : Nat) (h0 : 0 < n) (h : n < 4294967296) : bits_TrailingZeros32.f (n : Int) = some ((low 32 n : Nat) : Int) := by
  unfold bits_TrailingZeros32.f
  have hl := (neg_land 32 n h0 h).2.1
  obtain ⟨t1, t2⟩ := tz_tab ⟨low 32 n, hl⟩
  simp only at t1 t2
  have e : tzi (n : Int) = (((2 ^ (low 32 n) * 125613361 % 4294967296) / 134217728 : Nat) : Int) := by
    unfold tzi
    rw [neg_u32 n h0 h]
    generalize 2 ^ (low 32 n) = t
    omega
  rw [if_neg (by omega), e, if_pos (by omega), if_pos (by omega)]
  unfold rd
  rw [Int.toNat_natCast, t2]
theorem list_ev (n : Nat) (h : n < 4294967296) : Ev (fun k => impl_set_list.f k (n : Int)) (listN n) := by
  unfold impl_set_list.f
  have key : ∀ m (n : Nat) (acc : List Int), n ≤ m → n < 4294967296 → acc.length + (lst 32 0 n).length ≤ 64 → Ev (fun k => impl_set_list.l0 k (n : Int) acc) (acc ++ (lst 32 0 n).map (fun x : Nat => (x : Int))) := by
    intro m
    induction m with
    | zero =>
      intro n acc hm _ _
      refine Ev.succ ?_
      simp only [impl_set_list.l0.eq_2]
      rw [show n = 0 by omega, lst_zero, List.map_nil, List.append_nil]
      exact Ev.pos rfl (Ev.now _)
    | succ m ih =>
      intro n acc hm hn hl
      refine Ev.succ ?_
      simp only [impl_set_list.l0.eq_2]
      by_cases h0 : n = 0
      · subst h0
        rw [lst_zero, List.map_nil, List.append_nil]
        exact Ev.pos rfl (Ev.now _)
      · obtain ⟨s1, s2⟩ := lst_step 32 n 0 (by omega) hn
        rw [Nat.zero_add] at s1
        refine Ev.neg (by omega) (Ev.bindc (tz_eq n (by omega) hn) (Ev.pos (by omega) ?_))
        rw [show ((n : Int) - 1) % 4294967296 = ((n - 1 : Nat) : Int) by omega, (u32_nat n (n - 1) hn (by omega)).1]
        rw [s1, List.length_cons] at hl
        have := ih (n &&& (n - 1)) (acc ++ [((low 32 n : Nat) : Int)]) (by omega) (by omega) (by rw [List.length_append, List.length_singleton]; omega)
        rw [s1, List.map_cons]
        rw [List.append_assoc, List.singleton_append] at this
        exact this
  have := key n n [] (Nat.le_refl _) h (by have := lst_len 32 0 n; simp; omega)
  simpa [listN] using this
theorem gp_le (s : Int) (r : Bool) (p q : Int) (hp : 0 ≤ p ∧ p < s) (hq : 0 ≤ q ∧ q < s) : gp s r p q ≤ s := by
  unfold gp mx mn; cases r <;> simp only [Bool.false_eq_true, if_false, if_true] <;> split <;> (try split) <;> omega
def nearOf (s : Int) (r : Bool) (l : List Int) (p : Int) : Int × Int × Bool := if l = [] then (0, 0, false) else ((nst s r p l).1, (nst s r p l).2, true)
theorem nearL_ev (s : Int) (r : Bool) (l : List Int) (p : Int) (hlen : l.length ≤ 35184372088832) (hs : 0 ≤ s ∧ s ≤ 100) (hp : 0 ≤ p ∧ p < s) (hl : ∀ x ∈ l, 0 ≤ x ∧ x < s) : Ev (fun k => impl_bench_nearest.l0 k p 0 (-1) l (l.length : Int) 0 s r) (nearOf s r l p) := by
  have key : ∀ d i (st : Int × Int), i + d = l.length → 0 ≤ st.1 → 0 ≤ st.2 → Ev (fun k => impl_bench_nearest.l0 k p st.1 st.2 l (l.length : Int) (i : Int) s r) (((l.drop i).foldl (nstStep s r p) st).1, ((l.drop i).foldl (nstStep s r p) st).2, true) := by
    intro d
    induction d with
    | zero =>
      intro i st hi h1 h2
      refine Ev.succ ?_
      simp only [impl_bench_nearest.l0.eq_2]
      rw [List.drop_of_length_le (by omega)]
      refine Ev.neg (by omega) ?_
      rw [show mx 0 st.2 = st.2 by unfold mx; split <;> omega, show decide (st.2 ≥ 0) = true by simpa using h2]
      exact Ev.now _
    | succ d ih =>
      intro i st hi h1 h2
      refine Ev.succ ?_
      simp only [impl_bench_nearest.l0.eq_2]
      have hx := hl l[i] (List.getElem_mem (by omega))
      rw [rd_nat l i (by omega), w64 (n := (i : Int) + 1) (by omega) (by omega)]
      refine Ev.pos (by omega) (Ev.pos (by omega) (Ev.pos (by omega) (Ev.bindc (bench_gap_eq s r p l[i] hs (by omega) (by omega)) ?_)))
      rw [List.drop_eq_getElem_cons (by omega), List.foldl_cons]
      refine Ev.neg (by omega) ?_
      have hg := gp_nonneg s r p l[i] (by omega) (by omega)
      have := ih (i + 1) (nstStep s r p st l[i]) (by omega)
      unfold nstStep at this ⊢
      rw [if_neg (by omega)] at this ⊢
      by_cases h3 : gp s r p l[i] < st.2
      · rw [if_pos h3] at this ⊢; exact Ev.pos h3 (this (by simp only; omega) (by simp only; omega))
      · rw [if_neg h3] at this ⊢; exact Ev.neg h3 (this h1 h2)
  unfold nearOf
  cases l with
  | nil =>
    refine Ev.succ ?_
    simp only [impl_bench_nearest.l0.eq_2]
    exact Ev.neg (by decide) (Ev.now _)
  | cons x l =>
    rw [if_neg (by simp)]
    refine Ev.succ ?_
    simp only [impl_bench_nearest.l0.eq_2]
    have hx := hl x (by simp)
    have hg := gp_nonneg s r p x (by omega) (by omega)
    refine Ev.pos (by rw [List.length_cons]; omega) (Ev.pos (by omega) (Ev.pos (by rw [List.length_cons]; omega) (Ev.bindc (bench_gap_eq s r p x hs (by omega) (by omega)) (Ev.pos (by decide) ?_))))
    have e : nst s r p (x :: l) = l.foldl (nstStep s r p) (x, gp s r p x) := by
      unfold nst; rw [List.foldl_cons]; congr 1
    rw [e]
    have := key l.length 1 (x, gp s r p x) (by simp; omega) (by simp only; omega) (by simpa using hg)
    rw [show (x :: l).drop 1 = l from rfl] at this
    rw [show rd (x :: l) 0 = x from rfl, show wrap64 (0 + 1) = ((1 : Nat) : Int) from w64 (n := 1) (by decide) (by decide)]
    exact this
theorem nearest_ev (s : Int) (r : Bool) (T : Nat) (p : Int) (hT : T < 4294967296) (hs : 0 ≤ s ∧ s ≤ 100) (hp : 0 ≤ p ∧ p < s) (hl : ∀ x ∈ listN T, 0 ≤ x ∧ x < s) : Ev (fun k => impl_bench_nearest.f k s r p (T : Int)) (nearOf s r (listN T) p) := by
  unfold impl_bench_nearest.f
  have := listN_len T
  exact Ev.bind (list_ev T hT) (nearL_ev s r _ p (by omega) hs hp hl)
theorem has_bit (x i : Nat) (hx : x < 4294967296) : impl_set_has.f (x : Int) (i : Int) = some (x.testBit i) := by
  unfold impl_set_has.f
  rw [if_pos (by omega)]
  refine congrArg some ?_
  unfold shr
  rw [Int.toNat_natCast]
  have e : ((x : Int) / 2 ^ min i IntKind.u32.bits) = ((x / 2 ^ min i 32 : Nat) : Int) := by push_cast; rfl
  have hlt : x / 2 ^ min i 32 < 4294967296 := Nat.lt_of_le_of_lt (Nat.div_le_self _ _) hx
  have h1 := (u32_nat (x / 2 ^ min i 32) 1 hlt (by omega)).1
  rw [show ((1 : Nat) : Int) = 1 from rfl] at h1
  rw [e, h1, Nat.and_one_is_mod, Nat.testBit_eq_decide_div_mod_eq, Bool.eq_iff_iff]
  simp only [beq_iff_eq, decide_eq_true_eq]
  by_cases h : i ≤ 32
  · rw [Nat.min_eq_left h]; omega
  · have e1 : x / 2 ^ min i 32 = 0 := by rw [Nat.min_eq_right (by omega)]; exact Nat.div_eq_of_lt hx
    have e2 : x / 2 ^ i = 0 := Nat.div_eq_of_lt (Nat.lt_of_lt_of_le hx (Nat.pow_le_pow_right (n := 2) (i := 32) (by decide) (by omega)))
    rw [e1, e2]; decide
theorem szRow_eq (s : Int) (r : Bool) (l : List Int) (a : Int) (hl : l.length ≤ 35184372088832) (h0 : 0 ≤ a) (h1 : a ≤ 1048576) : laws_szRow.f s r l a = some (if a - (l.length : Int) < 0 then -1 else a - (l.length : Int)) := by
  unfold laws_szRow.f
  rw [szIntS_eq l _ hl h0 h1]
  simp only [Option.bind_some]
  by_cases h : a - (l.length : Int) < 0
  · rw [if_pos h, if_pos (by omega)]
  · rw [if_neg h, if_neg h]
theorem toRow_ev (s : Int) (r : Bool) (l : List Int) (hl : l.length ≤ 35184372088832) : Ev (fun k => laws_toRow.f k s r l) (s, r, l) := by
  unfold laws_toRow.f
  exact Ev.bind (f := fun _ t => some (s, r, t)) (toIntS_ev l hl) (Ev.now _)
theorem eqRow_ev (s : Int) (r : Bool) (l : List Int) (hl : l.length ≤ 35184372088832) : Ev (fun k => laws_eqRow.f k s r l s r l) true := by
  unfold laws_eqRow.f
  refine Ev.pos rfl (Ev.neg (by simp) (Ev.bind (eqIntS_ev l hl) (Ev.pos rfl (Ev.now _))))
theorem l2Is_ev (s : Int) (r : Bool) (l : List Int) (p : Int) (hl : l.length ≤ 35184372088832) : Ev (fun k => spec_l2Is.f k s r l p) (decide (p ∈ l)) := by
  unfold spec_l2Is.f
  exact Ev.bind (f := fun _ t => some t) (has_ev l p hl) (Ev.now _)
/-- may a seat be chosen as far as those taken go -/
def canB (s : Int) (r : Bool) (tk : List Int) (d p : Int) : Bool := !decide (p ∈ tk) && (decide (tk = []) || decide (d ≤ (nst s r p tk).2))
theorem mn25 (g d : Int) (h : g ≤ 24) : (g < mn d 25 ↔ g < d) := by unfold mn; split <;> omega
theorem nst_le (s : Int) (r : Bool) (p : Int) (tk : List Int) (hs : 0 ≤ s ∧ s ≤ 24) (hp : 0 ≤ p ∧ p < s) (hl : ∀ x ∈ tk, 0 ≤ x ∧ x < s) : (nst s r p tk).2 ≤ 24 := by
  cases tk with
  | nil => rw [nst_nil]; omega
  | cons a l =>
    obtain ⟨h1, h2, _⟩ := nst_cons s r p a l (fun y hy => (hl y hy).1)
    have := gp_le s r p (nst s r p (a :: l)).1 hp (hl _ h1)
    omega
theorem may_ev (s : Int) (r : Bool) (tk y : List Int) (d p : Int) (hs : 0 ≤ s ∧ s ≤ 24) (hp : 0 ≤ p ∧ p < s) (hl : ∀ x ∈ tk, 0 ≤ x ∧ x < s) (hy : ∀ x ∈ y, 0 ≤ x ∧ x < s) (ht : tk.length ≤ 35184372088832) (hyl : y.length ≤ 35184372088832)
    (b : Bool) (hb : b = true ↔ (canB s r tk d p = true ∧ ∀ j, j < y.length → d ≤ gp s r p (y.getD j 0))) : Ev (fun k => spec_l9May.f k s r tk y p d) b := by
  have lp : ∀ e j (b : Bool), j + e = y.length → (b = true ↔ ∀ i, j ≤ i → i < y.length → d ≤ gp s r p (y.getD i 0)) → Ev (fun k => spec_l9May.l0 k y p d (j : Int) s r tk) b := by
    intro e
    induction e with
    | zero =>
      intro j b hj hb
      refine Ev.succ ?_
      simp only [spec_l9May.l0.eq_2]
      rw [show b = true from hb.mpr (fun i h1 h2 => absurd h2 (by omega))]
      exact Ev.neg (by omega) (Ev.now _)
    | succ e ih =>
      intro j b hj hb
      refine Ev.succ ?_
      simp only [spec_l9May.l0.eq_2]
      rw [rd_getD]
      have hm := hy (y.getD j 0) (by rw [getD_lt y j (by omega)]; exact List.getElem_mem _)
      refine Ev.pos (by omega) (Ev.pos (by omega) (Ev.bindc (l2Gap_eq s r tk p (y.getD j 0) (by omega) (by omega) (by omega)) ?_))
      by_cases c : gp s r p (y.getD j 0) < d
      · rw [show b = false from by cases b with
          | false => rfl
          | true => exact absurd (hb.mp rfl j (Nat.le_refl _) (by omega)) (by omega)]
        exact Ev.pos c (Ev.now _)
      · rw [w64 (n := (j : Int) + 1) (by omega) (by omega)]
        refine Ev.neg c (ih (j + 1) b (by omega) ⟨fun h i h1 h2 => hb.mp h i (by omega) h2, fun h => hb.mpr (fun i h1 h2 => ?_)⟩)
        by_cases e1 : i = j
        · subst e1; omega
        · exact h i (by omega) h2
  have j1 : Ev (fun k => spec_l9May.j0 k y p d true s r tk) false := by
    refine Ev.succ ?_
    simp only [spec_l9May.j0.eq_2]
    exact Ev.pos trivial (Ev.now _)
  have fls : canB s r tk d p = false → b = false := fun h => by
    cases b with
    | false => rfl
    | true => have := (hb.mp rfl).1; rw [h] at this; exact absurd this (by decide)
  have j2 : canB s r tk d p = true → Ev (fun k => spec_l9May.j0 k y p d false s r tk) b := fun h => by
    refine Ev.succ ?_
    simp only [spec_l9May.j0.eq_2]
    exact Ev.neg (by decide) (lp y.length 0 b (by omega) ⟨fun h1 i _ h2 => (hb.mp h1).2 i h2, fun h1 => hb.mpr ⟨h, fun j hj => h1 j (by omega) hj⟩⟩)
  unfold spec_l9May.f
  refine Ev.bind (l2Is_ev s r tk p ht) ?_
  by_cases c : p ∈ tk
  · rw [fls (by unfold canB; simp [c])]
    exact Ev.pos (decide_eq_true c) j1
  · refine Ev.neg (by simpa using c) ?_
    by_cases e : tk = []
    · exact Ev.neg (by rw [e]; simp) (j2 (by unfold canB; simp [e]))
    · have hlen : 0 < tk.length := List.length_pos_iff.mpr e
      refine Ev.pos (by omega) ?_
      unfold spec_l2Farthest.f
      refine Ev.bind (a := (nst s r p tk).2) (Ev.bind (f := fun _ q => some q.2) (l2Nearest_ev s r tk tk p ht (by omega) (by omega) (fun x hx => by have := hl x hx; omega)) (Ev.now _)) ?_
      by_cases g : (nst s r p tk).2 < d
      · rw [decide_eq_true g, fls (by unfold canB; simp [c, e]; omega)]
        exact j1
      · rw [decide_eq_false g]
        exact j2 (by unfold canB; simp [c, e]; omega)
theorem can_ev (s : Int) (r : Bool) (tk : List Int) (d p : Int) (hs : 0 ≤ s ∧ s ≤ 24) (hp : 0 ≤ p ∧ p < s) (hl : ∀ x ∈ tk, 0 ≤ x ∧ x < s) (hsort : tk.Pairwise (· < ·)) (ht : tk.length ≤ 35184372088832) :
    Ev (fun k => impl_spacing_can.f k s r tk (mn d 25) p) (canB s r tk d p) := by
  have h32 : ∀ x ∈ tk, 0 ≤ x ∧ x < 32 := fun x hx => by have := hl x hx; omega
  have hT := setN_lt tk h32
  have hls := listN_setN tk h32 hsort
  unfold impl_spacing_can.f impl_Row_taken.f
  refine Ev.bind (a := ((setN tk : Nat) : Int)) (Ev.bind (f := fun _ t => some t) (setOf_ev tk h32 ht) (Ev.now _)) ?_
  have hn := nearest_ev s r (setN tk) p hT (by omega) hp (by rw [hls]; exact hl)
  rw [hls] at hn
  refine Ev.bind hn ?_
  have hh := has_bit (setN tk) p.toNat hT
  rw [Int.toNat_of_nonneg hp.1] at hh
  refine Ev.bindc hh ?_
  have hbit : (setN tk).testBit p.toNat = decide (p ∈ tk) := by
    rw [setN_bit, Bool.eq_iff_iff, decide_eq_true_eq, decide_eq_true_eq]
    constructor
    · rintro ⟨q, hq, e⟩
      have := hl q hq
      rwa [show p = q by omega]
    · intro h; exact ⟨p, h, rfl⟩
  rw [hbit]
  have e : (!decide (p ∈ tk) && (!(nearOf s r tk p).2.2 || decide ((nearOf s r tk p).2.1 ≥ mn d 25))) = canB s r tk d p := by
    unfold canB nearOf
    by_cases c : tk = []
    · simp [c]
    · rw [if_neg c]
      have h1 := nst_le s r p tk hs hp hl
      have h2 := mn25 (nst s r p tk).2 d h1
      simp only [c, decide_false, Bool.not_true, Bool.false_or]
      rw [show decide ((nst s r p tk).2 ≥ mn d 25) = decide (d ≤ (nst s r p tk).2) from by rw [Bool.eq_iff_iff, decide_eq_true_eq, decide_eq_true_eq]; omega]
  rw [e]
  exact Ev.now _
/-- choices of m of the open places of [b - e, b), gaps at least D -/
def cn (o : Nat → Bool) (D b : Nat) : Nat → Nat → Nat
  | 0, _ => 1
  | _ + 1, 0 => 0
  | m + 1, e + 1 => (if o (b - (e + 1)) then cn o D b m (e + 1 - D) else 0) + cn o D b (m + 1) e
termination_by m e => (m, e)
theorem cn_0 (o : Nat → Bool) (D b e : Nat) : cn o D b 0 e = 1 := by unfold cn; rfl
theorem cn_s0 (o : Nat → Bool) (D b m : Nat) : cn o D b (m + 1) 0 = 0 := by unfold cn; rfl
theorem cn_ss (o : Nat → Bool) (D b m e : Nat) : cn o D b (m + 1) (e + 1) = (if o (b - (e + 1)) then cn o D b m (e + 1 - D) else 0) + cn o D b (m + 1) e := by rw [cn]
theorem cn_le (o : Nat → Bool) (D b : Nat) (hD : 1 ≤ D) : ∀ m e, cn o D b m e ≤ 2 ^ e := by
  intro m
  induction m with
  | zero => intro e; rw [cn_0]; exact Nat.one_le_two_pow
  | succ m ihm =>
    intro e
    induction e with
    | zero => rw [cn_s0]; exact Nat.zero_le _
    | succ e ihe =>
      rw [cn_ss]
      have h1 := ihm (e + 1 - D)
      have h2 : 2 ^ (e + 1 - D) ≤ 2 ^ e := Nat.pow_le_pow_right (by omega) (by omega)
      rw [Nat.pow_succ]
      split <;> omega
/-- the last place looked at -/
theorem cn_right (o : Nat → Bool) (D : Nat) (hD : 1 ≤ D) : ∀ m e f, cn o D (f + e + 1) (m + 1) (e + 1) = cn o D (f + e) (m + 1) e + if o (f + e) then cn o D (f + e + 1 - D) m (e + 1 - D) else 0 := by
  intro m
  induction m with
  | zero =>
    intro e
    induction e with
    | zero =>
      intro f
      rw [cn_ss, cn_s0, cn_s0, cn_0, cn_0, show f + 0 + 1 - (0 + 1) = f + 0 by omega, Nat.zero_add, Nat.add_zero]
    | succ e ih =>
      intro f
      rw [cn_ss, show f + (e + 1) + 1 = (f + 1) + e + 1 by omega, ih (f + 1), cn_0, cn_0, cn_0, show f + 1 + e + 1 - (e + 1 + 1) = f by omega, show f + (e + 1) = f + 1 + e by omega, cn_ss, cn_0, show f + 1 + e - (e + 1) = f by omega]
      omega
  | succ m ihm =>
    intro e
    induction e with
    | zero =>
      intro f
      rw [cn_ss, cn_s0, cn_s0, show f + 0 + 1 - (0 + 1) = f + 0 by omega, show 0 + 1 - D = 0 by omega, cn_s0, cn_s0]
      omega
    | succ e ih =>
      intro f
      rw [cn_ss, show f + (e + 1) + 1 = (f + 1) + e + 1 by omega, ih (f + 1), show f + 1 + e + 1 - (e + 1 + 1) = f by omega, show f + (e + 1) = f + 1 + e by omega, cn_ss o D (f + 1 + e) (m + 1) e, show f + 1 + e - (e + 1) = f by omega]
      by_cases c : e + 1 + 1 ≤ D
      · rw [show e + 1 + 1 - D = 0 by omega, show e + 1 - D = 0 by omega, cn_s0, cn_s0, cn_s0]
        omega
      · obtain ⟨e3, he3⟩ : ∃ e3, e + 1 + 1 - D = e3 + 1 := ⟨e + 1 - D, by omega⟩
        have he4 : e + 1 - D = e3 := by omega
        rw [he3, he4]
        have h1 := ihm e3 (f + D)
        rw [show f + D + e3 + 1 = f + 1 + e + 1 by omega, show f + D + e3 = f + 1 + e by omega] at h1
        rw [h1, cn_ss o D (f + 1 + e + 1 - D) m e3, show f + 1 + e + 1 - D - (e3 + 1) = f by omega]
        cases o f <;> cases o (f + 1 + e) <;> simp <;> omega
def rowL (g : Nat → Nat) : List Int := (List.range 25).map fun i => ((g i : Nat) : Int)
theorem rowL_len (g : Nat → Nat) : (rowL g).length = 25 := by simp [rowL]
theorem rowL_rd (g : Nat → Nat) (j : Nat) (h : j < 25) : rd (rowL g) (j : Int) = (g j : Int) := by
  rw [rd_nat _ _ (by rw [rowL_len]; exact h)]; simp [rowL]
theorem rowL_set (g : Nat → Nat) (j v : Nat) : (rowL g).set j ((v : Nat) : Int) = rowL (fun i => if i = j then v else g i) := by
  apply List.ext_getElem
  · simp [rowL]
  · intro i h1 h2
    simp only [rowL, List.getElem_set, List.getElem_map, List.getElem_range]
    by_cases c : j = i
    · subst c; simp
    · rw [if_neg c, if_neg (fun e => c e.symm)]
theorem rowL_ext {g g' : Nat → Nat} (h : ∀ i, i < 25 → g i = g' i) : rowL g = rowL g' := by
  unfold rowL
  apply List.map_congr_left
  intro i hi
  rw [h i (List.mem_range.mp hi)]
theorem lineZ_row (o : Nat → Bool) (D b : Nat) : lineZ = rowL (fun k => cn o D b k 0) := by
  have h1 : lineZ = rowL (fun k => if k = 0 then 1 else 0) := by decide
  rw [h1]
  refine rowL_ext fun i _ => ?_
  cases i with
  | zero => rw [cn_0]; rfl
  | succ i => rw [cn_s0]; rfl
theorem own_row (g : Nat → Nat) : spec_l1Own.f (rowL g) = some (rowL g) := by
  unfold spec_l1Own.f
  rw [Option.bind_some, if_pos (by rw [rowL_len]; decide)]
  rfl
def stp (A B : Nat → Nat) (j : Nat) : Nat → Nat := fun i => if 1 ≤ i ∧ i < j then A i + B (i - 1) else A i
theorem line_in (op : List Bool) (f l d : Int) (tab : List (List Int)) (p : Nat) (hp : p < op.length) (ho : rdOf false op (p : Int) = true) (htab : tab.length + 1 < 4398046511104) (A B : Nat → Nat) (hA : ∀ i, A i < 2 ^ 40) (hB : ∀ i, B i < 2 ^ 40) (R : List Int)
    (hR : Ev (fun k => spec_l9Line.l0 k op f l d (tab ++ [rowL (stp A B 25)]) (wrap64 ((p : Int) + 1))) R) :
    ∀ e (j : Nat), j + e = 25 → 1 ≤ j → Ev (fun k => spec_l9Line.l1 k op f l d tab (p : Int) (rowL (stp A B j)) (rowL B) (j : Int)) R := by
  intro e
  induction e with
  | zero =>
    intro j hj h1
    obtain rfl : j = 25 := by omega
    refine Ev.succ ?_
    simp only [spec_l9Line.l1.eq_2]
    exact Ev.pos (by omega) (Ev.pos (by omega) (Ev.pos ho (Ev.neg (by omega) (Ev.pos htab hR))))
  | succ e ih =>
    intro j hj h1
    refine Ev.succ ?_
    simp only [spec_l9Line.l1.eq_2]
    have hw : wrap64 ((j : Int) - 1) = ((j - 1 : Nat) : Int) := by rw [w64 (by omega) (by omega)]; omega
    rw [hw, rowL_len, rowL_len, rowL_rd _ j (by omega), rowL_rd _ (j - 1) (by omega)]
    refine Ev.pos (by omega) (Ev.pos (by omega) (Ev.pos ho (Ev.pos (by omega) (Ev.pos (by omega) (Ev.pos (by omega) (Ev.pos (by omega) (Ev.pos (by omega) ?_)))))))
    have e1 : stp A B j j = A j := by unfold stp; rw [if_neg (by omega)]
    have a1 := hA j
    have b1 := hB (j - 1)
    rw [e1, w64 (n := (A j : Int) + (B (j - 1) : Int)) (by omega) (by omega), show (A j : Int) + (B (j - 1) : Int) = ((A j + B (j - 1) : Nat) : Int) by omega, Int.toNat_natCast, rowL_set, w64 (n := (j : Int) + 1) (by omega) (by omega)]
    rw [rowL_ext (g' := stp A B (j + 1)) (fun i _ => ?_)]
    · exact ih (j + 1) (by omega) (by omega)
    · unfold stp
      by_cases c : i = j
      · subst c; rw [if_pos rfl, if_pos (by omega)]
      · rw [if_neg c]
        by_cases c2 : 1 ≤ i ∧ i < j
        · rw [if_pos c2, if_pos (by omega)]
        · rw [if_neg c2, if_neg (by omega)]
theorem line_ev (o : Nat → Bool) (D : Nat) (hD : 1 ≤ D ∧ D ≤ 30) (op : List Bool) (hop : op.length ≤ 24) (ho : ∀ p, p < op.length → rdOf false op (p : Int) = o p) (f b : Nat) (hf : f ≤ 60) (hb : b ≤ op.length) :
    Ev (fun k => spec_l9Line.f k op (f : Int) ((b : Int) - 1) (D : Int)) (rowL (fun k => cn o D b k (b - f))) := by
  have bnd : ∀ b m e, e ≤ 30 → cn o D b m e < 2 ^ 40 := fun b m e he => Nat.lt_of_le_of_lt (cn_le o D b hD.1 m e) (Nat.pow_lt_pow_right (by decide) (by omega))
  have main : ∀ n e, f + e + n = b → Ev (fun k => spec_l9Line.l0 k op (f : Int) ((b : Int) - 1) (D : Int) ((List.range e).map fun i => rowL (fun k => cn o D (f + i + 1) k (i + 1))) ((f + e : Nat) : Int)) (rowL (fun k => cn o D b k (b - f))) := by
    intro n
    induction n with
    | zero =>
      intro e he
      refine Ev.succ ?_
      simp only [spec_l9Line.l0.eq_2]
      rw [List.length_map, List.length_range]
      refine Ev.neg (by omega) ?_
      cases e with
      | zero =>
        rw [if_pos (by rfl), show b - f = 0 by omega, ← lineZ_row]
        exact Ev.now _
      | succ e =>
        have hw : wrap64 (((e + 1 : Nat) : Int) - 1) = (e : Int) := by rw [w64 (by omega) (by omega)]; omega
        rw [hw]
        refine Ev.neg (by omega) (Ev.pos (by omega) (Ev.pos (by omega) ?_))
        have : lnRd ((List.range (e + 1)).map fun i => rowL (fun k => cn o D (f + i + 1) k (i + 1))) (e : Int) = rowL (fun k => cn o D b k (b - f)) := by
          unfold lnRd
          rw [Int.toNat_natCast, List.getD_eq_getElem?_getD, List.getElem?_map, List.getElem?_range (by omega)]
          simp only [Option.map_some, Option.getD_some]
          rw [show f + e + 1 = b by omega, show e + 1 = b - f by omega]
        rw [this]
        exact Ev.now _
    | succ n ih =>
      intro e he
      have hr : ∀ i, i < e → lnRd ((List.range e).map fun i => rowL (fun k => cn o D (f + i + 1) k (i + 1))) (i : Int) = rowL (fun k => cn o D (f + i + 1) k (i + 1)) := fun i hi => by
        unfold lnRd
        rw [Int.toNat_natCast, List.getD_eq_getElem?_getD, List.getElem?_map, List.getElem?_range hi]
        rfl
      have hA : lineA (f : Int) ((List.range e).map fun i => rowL (fun k => cn o D (f + i + 1) k (i + 1))) ((f + e : Nat) : Int) = some (rowL (fun k => cn o D (f + e) k e)) := by
        unfold lineA
        cases e with
        | zero => rw [if_neg (by omega), ← lineZ_row]
        | succ e =>
          have hw : wrap64 (wrap64 (((f + (e + 1) : Nat) : Int) - (f : Int)) - 1) = (e : Int) := by rw [w64 (n := ((f + (e + 1) : Nat) : Int) - (f : Int)) (by omega) (by omega), w64 (by omega) (by omega)]; omega
          rw [if_pos (by omega), hw, if_pos (by omega), List.length_map, List.length_range, if_pos (by omega), hr e (by omega), own_row]
          rfl
      have hB : lineB (f : Int) (D : Int) ((List.range e).map fun i => rowL (fun k => cn o D (f + i + 1) k (i + 1))) ((f + e : Nat) : Int) = some (rowL (fun k => cn o D (f + e + 1 - D) k (e + 1 - D))) := by
        unfold lineB
        by_cases c : D ≤ e
        · have hw : wrap64 (wrap64 (((f + e : Nat) : Int) - (f : Int)) - (D : Int)) = ((e - D : Nat) : Int) := by rw [w64 (n := ((f + e : Nat) : Int) - (f : Int)) (by omega) (by omega), w64 (by omega) (by omega)]; omega
          rw [w64 (n := ((f + e : Nat) : Int) - (D : Int)) (by omega) (by omega), if_pos (by omega), hw, if_pos (by omega), List.length_map, List.length_range, if_pos (by omega), hr (e - D) (by omega), show f + (e - D) + 1 = f + e + 1 - D by omega, show e - D + 1 = e + 1 - D by omega]
        · rw [w64 (n := ((f + e : Nat) : Int) - (D : Int)) (by omega) (by omega), if_neg (by omega), show e + 1 - D = 0 by omega, ← lineZ_row]
      have hlen : ((List.range e).map fun i => rowL (fun k => cn o D (f + i + 1) k (i + 1))).length = e := by simp
      have nxt := ih (e + 1) (by omega)
      rw [List.range_succ, List.map_append, List.map_singleton] at nxt
      refine Ev.succ ?_
      simp only [spec_l9Line.l0.eq_2]
      refine Ev.pos (by omega) (Ev.bindc hA (Ev.bindc hB (Ev.pos (by rw [rowL_len]; decide) ?_)))
      have hwp : wrap64 (((f + e : Nat) : Int) + 1) = ((f + (e + 1) : Nat) : Int) := by rw [w64 (by omega) (by omega)]; omega
      cases hop2 : o (f + e) with
      | true =>
        have s1 : rowL (fun k => cn o D (f + e) k e) = rowL (stp (fun k => cn o D (f + e) k e) (fun k => cn o D (f + e + 1 - D) k (e + 1 - D)) 1) := rowL_ext fun i _ => by unfold stp; rw [if_neg (by omega)]
        rw [s1]
        refine line_in op (f : Int) ((b : Int) - 1) (D : Int) _ (f + e) (by omega) (by rw [ho (f + e) (by omega)]; exact hop2) (by rw [hlen]; omega) _ _ (fun i => bnd _ _ _ (by omega)) (fun i => bnd _ _ _ (by omega)) _ ?_ 24 1 (by omega) (by omega)
        rw [hwp, rowL_ext (g' := fun k => cn o D (f + e + 1) k (e + 1)) (fun i hi => ?_)]
        · exact nxt
        · unfold stp
          cases i with
          | zero => (try simp only []); rw [if_neg (by omega)]; simp only [cn_0]
          | succ m => rw [if_pos (by omega), Nat.add_sub_cancel]; (try simp only []); rw [cn_right o D hD.1, hop2, if_pos rfl]
      | false =>
        refine Ev.succ ?_
        simp only [spec_l9Line.l1.eq_2]
        refine Ev.pos (by omega) (Ev.pos (by omega) (Ev.neg (by rw [ho (f + e) (by omega), hop2]; decide) (Ev.pos (by rw [hlen]; omega) ?_)))
        rw [hwp, rowL_ext (g' := fun k => cn o D (f + e + 1) k (e + 1)) (fun i hi => ?_)]
        · exact nxt
        · cases i with
          | zero => rw [cn_0, cn_0]
          | succ m => (try simp only []); rw [cn_right o D hD.1, hop2]; simp
  unfold spec_l9Line.f
  by_cases c : f ≤ b
  · exact main (b - f) 0 (by omega)
  · refine Ev.succ ?_
    simp only [spec_l9Line.l0.eq_2]
    rw [show b - f = 0 by omega, ← lineZ_row]
    exact Ev.neg (by omega) (Ev.pos rfl (Ev.now _))
theorem gp_lt (s : Int) (r : Bool) (p q : Int) (hp : 0 ≤ p ∧ p < s) (hq : 0 ≤ q ∧ q < s) : gp s r p q ≤ s - 1 := by
  unfold gp mx mn; cases r <;> simp only [Bool.false_eq_true, if_false, if_true] <;> split <;> (try split) <;> omega
theorem canB_least (s : Int) (r : Bool) (tk : List Int) (d d' p : Int) (hs : 0 ≤ s ∧ s ≤ 24) (hp : 0 ≤ p ∧ p < s) (hl : ∀ x ∈ tk, 0 ≤ x ∧ x < s) (hd : d' = if d < s then d else s) : canB s r tk d' p = canB s r tk d p := by
  unfold canB
  cases tk with
  | nil => simp
  | cons a l =>
    obtain ⟨h1, h2, _⟩ := nst_cons s r p a l (fun y hy => (hl y hy).1)
    have := gp_lt s r p (nst s r p (a :: l)).1 hp (hl _ h1)
    have e : decide (d' ≤ (nst s r p (a :: l)).2) = decide (d ≤ (nst s r p (a :: l)).2) := by
      rw [Bool.eq_iff_iff, decide_eq_true_eq, decide_eq_true_eq]
      subst hd
      split <;> omega
    rw [e]
theorem open_ev (s : Int) (r : Bool) (tk : List Int) (d : Int) (sn : Nat) (hsn : s = (sn : Int)) (hs : sn ≤ 24) (hl : ∀ x ∈ tk, 0 ≤ x ∧ x < s) (ht : tk.length ≤ 35184372088832) :
    Ev (fun k => spec_l9Open.f k s r tk d) ((List.range sn).map fun p : Nat => canB s r tk d (p : Int)) := by
  subst hsn
  have lp : ∀ n p, p + n = sn → Ev (fun k => spec_l9Open.l0 k d ((List.range p).map fun p : Nat => canB (sn : Int) r tk d (p : Int)) (p : Int) (sn : Int) r tk) ((List.range sn).map fun p : Nat => canB (sn : Int) r tk d (p : Int)) := by
    intro n
    induction n with
    | zero =>
      intro p hp
      obtain rfl : p = sn := by omega
      refine Ev.succ ?_
      simp only [spec_l9Open.l0.eq_2]
      exact Ev.neg (by omega) (Ev.now _)
    | succ n ih =>
      intro p hp
      refine Ev.succ ?_
      simp only [spec_l9Open.l0.eq_2]
      have nxt := ih (p + 1) (by omega)
      rw [List.range_succ, List.map_append, List.map_singleton] at nxt
      refine Ev.pos (by omega) (Ev.bind (may_ev (sn : Int) r tk ([] : List Int) d (p : Int) (by omega) (by omega) hl (fun x hx => by simp at hx) ht (by simp) (canB (sn : Int) r tk d (p : Int)) ⟨fun h => ⟨h, fun j hj => by simp at hj⟩, fun h => h.1⟩) (Ev.pos (by simp; omega) ?_))
      rw [w64 (n := (p : Int) + 1) (by omega) (by omega)]
      exact nxt
  exact lp sn 0 (by omega)
/-- the first place behind which nothing may be chosen -/
def bpN (r : Bool) (s D f : Nat) : Nat := if r = true then (if f + s - D + 1 < s then f + s - D + 1 else s) else s
def rgs (o : Nat → Bool) (r : Bool) (s D m : Nat) : Nat → Nat
  | 0 => 0
  | e + 1 => (if o (s - (e + 1)) then cn o D (bpN r s D (s - (e + 1))) m (bpN r s D (s - (e + 1)) - (s - (e + 1) + D)) else 0) + rgs o r s D m e
theorem rgs_s (o : Nat → Bool) (r : Bool) (s D m e : Nat) : rgs o r s D m (e + 1) = (if o (s - (e + 1)) then cn o D (bpN r s D (s - (e + 1))) m (bpN r s D (s - (e + 1)) - (s - (e + 1) + D)) else 0) + rgs o r s D m e := rfl
theorem bpN_le (r : Bool) (s D f : Nat) : bpN r s D f ≤ s := by unfold bpN; split <;> (try split) <;> omega
theorem cn24 (o : Nat → Bool) (D b m e : Nat) (hD : 1 ≤ D) (he : e ≤ 24) : cn o D b m e ≤ 16777216 := Nat.le_trans (cn_le o D b hD m e) (Nat.pow_le_pow_right (n := 2) (by decide) he)
theorem rgs_le (o : Nat → Bool) (r : Bool) (s D m : Nat) (hs : s ≤ 24) (hD : 1 ≤ D) : ∀ e, rgs o r s D m e ≤ e * 16777216 := by
  intro e
  induction e with
  | zero => exact Nat.le_refl _
  | succ e ih =>
    rw [rgs_s]
    have h1 := cn24 o D (bpN r s D (s - (e + 1))) m (bpN r s D (s - (e + 1)) - (s - (e + 1) + D)) hD (by have := bpN_le r s D (s - (e + 1)); omega)
    split <;> omega
theorem rgs_line (o : Nat → Bool) (s D m : Nat) : ∀ e, e ≤ s → rgs o false s D m e = cn o D s (m + 1) e := by
  intro e
  induction e with
  | zero => intro _; rw [cn_s0]; rfl
  | succ e ih =>
    intro he
    rw [cn_ss, ← ih (by omega), rgs_s]
    have hb : bpN false s D (s - (e + 1)) = s := by unfold bpN; rw [if_neg (by decide)]
    rw [hb, show s - (s - (e + 1) + D) = e + 1 - D by omega]
/-- the numbers of choices -/
def totN (o : Nat → Bool) (r : Bool) (s D : Nat) : Nat → Nat
  | 0 => 1
  | m + 1 => rgs o r s D m s
theorem stp_le (A B : Nat → Nat) (j i : Nat) : stp A B j i ≤ A i + B (i - 1) := by unfold stp; split <;> omega
theorem counts_in (d : Int) (op : List Bool) (p s : Int) (r : Bool) (tk : List Int) (A B : Nat → Nat) (hA : ∀ i, A i < 2 ^ 40) (hB : ∀ i, B i < 2 ^ 40) (R : List Int)
    (hR : Ev (fun k => spec_l9Counts.l0 k d op (rowL (stp A B 25)) (wrap64 (p + 1)) s r tk) R) :
    ∀ e (j : Nat), j + e = 25 → 1 ≤ j → Ev (fun k => spec_l9Counts.l1 k d op (rowL (stp A B j)) p (rowL B) (j : Int) s r tk) R := by
  intro e
  induction e with
  | zero =>
    intro j hj h1
    obtain rfl : j = 25 := by omega
    refine Ev.succ ?_
    simp only [spec_l9Counts.l1.eq_2]
    exact Ev.neg (by omega) hR
  | succ e ih =>
    intro j hj h1
    refine Ev.succ ?_
    simp only [spec_l9Counts.l1.eq_2]
    have hw : wrap64 ((j : Int) - 1) = ((j - 1 : Nat) : Int) := by rw [w64 (by omega) (by omega)]; omega
    rw [hw, rowL_len, rowL_len, rowL_rd _ j (by omega), rowL_rd _ (j - 1) (by omega)]
    refine Ev.pos (by omega) (Ev.pos (by omega) (Ev.pos (by omega) (Ev.pos (by omega) (Ev.pos (by omega) ?_))))
    have e1 : stp A B j j = A j := by unfold stp; rw [if_neg (by omega)]
    have a1 := hA j
    have b1 := hB (j - 1)
    rw [e1, w64 (n := (A j : Int) + (B (j - 1) : Int)) (by omega) (by omega), show (A j : Int) + (B (j - 1) : Int) = ((A j + B (j - 1) : Nat) : Int) by omega, Int.toNat_natCast, rowL_set, w64 (n := (j : Int) + 1) (by omega) (by omega)]
    rw [rowL_ext (g' := stp A B (j + 1)) (fun i _ => ?_)]
    · exact ih (j + 1) (by omega) (by omega)
    · unfold stp
      by_cases c : i = j
      · subst c; rw [if_pos rfl, if_pos (by omega)]
      · rw [if_neg c]
        by_cases c2 : 1 ≤ i ∧ i < j
        · rw [if_pos c2, if_pos (by omega)]
        · rw [if_neg c2, if_neg (by omega)]
theorem counts_ev (s : Int) (r : Bool) (tk : List Int) (d : Int) (sn : Nat) (hsn : s = (sn : Int)) (hs : 2 ≤ sn ∧ sn ≤ 24) (hd : 1 ≤ d) (hl : ∀ x ∈ tk, 0 ≤ x ∧ x < s) (ht : tk.length ≤ 35184372088832) (D : Nat) (hD : (D : Int) = if d < s then d else s) :
    Ev (fun k => spec_l9Counts.f k s r tk d) (rowL (totN (fun p : Nat => canB s r tk d (p : Int)) r sn D)) := by
  subst hsn
  have hD1 : 1 ≤ D ∧ D ≤ sn := by split at hD <;> omega
  have hle : spec_l1Least.f d (sn : Int) = some (D : Int) := by
    unfold spec_l1Least.f
    rw [hD]; split <;> rfl
  have hop : ((List.range sn).map fun p : Nat => canB (sn : Int) r tk (D : Int) (p : Int)) = (List.range sn).map fun p : Nat => canB (sn : Int) r tk d (p : Int) := by
    apply List.map_congr_left
    intro p hp
    have := List.mem_range.mp hp
    exact canB_least (sn : Int) r tk d (D : Int) (p : Int) (by omega) (by omega) hl hD
  have ho := open_ev (sn : Int) r tk (D : Int) sn rfl hs.2 hl ht
  rw [hop] at ho
  have hlen : ((List.range sn).map fun p : Nat => canB (sn : Int) r tk d (p : Int)).length = sn := by simp
  have hoo : ∀ p, p < ((List.range sn).map fun p : Nat => canB (sn : Int) r tk d (p : Int)).length → rdOf false ((List.range sn).map fun p : Nat => canB (sn : Int) r tk d (p : Int)) (p : Int) = canB (sn : Int) r tk d (p : Int) := fun p hp => by
    rw [hlen] at hp
    unfold rdOf
    rw [Int.toNat_natCast, List.getD_eq_getElem?_getD, List.getElem?_map, List.getElem?_range hp]
    rfl
  generalize hOP : ((List.range sn).map fun p : Nat => canB (sn : Int) r tk d (p : Int)) = op at ho hlen hoo
  generalize hO : (fun p : Nat => canB (sn : Int) r tk d (p : Int)) = o at *
  have hoo2 : ∀ p, p < op.length → rdOf false op (p : Int) = o p := fun p hp => by rw [hoo p hp, ← hO]
  unfold spec_l9Counts.f
  refine Ev.bindc hle (Ev.bind ho ?_)
  cases r with
  | false =>
    refine Ev.neg (by decide) ?_
    rw [w64 (n := (sn : Int) - 1) (by omega) (by omega)]
    have h1 := line_ev o D (by omega) op (by omega) hoo2 0 sn (by omega) (by omega)
    rw [rowL_ext (g' := totN o false sn D) (fun i _ => ?_)] at h1
    · exact Ev.bind h1 (Ev.now _)
    · cases i with
      | zero => exact cn_0 _ _ _ _
      | succ m => show cn o D sn (m + 1) (sn - 0) = rgs o false sn D m sn; rw [rgs_line o sn D m sn (Nat.le_refl _), Nat.sub_zero]
  | true =>
    refine Ev.pos rfl (Ev.pos (by decide) ?_)
    refine Ev.bindc rfl (Ev.pos (by simp) ?_)
    have hz : ((List.replicate 25 (0 : Int)).set (0 : Int).toNat 1) = rowL (fun k => if k = 0 then 1 else 0) := by decide
    rw [hz]
    have lp : ∀ n p (g : Nat → Nat), p + n = sn → (∀ k, g k + n * 16777216 < 1099511627776) → Ev (fun k => spec_l9Counts.l0 k (D : Int) op (rowL g) (p : Int) (sn : Int) true tk) (rowL (fun k => if k = 0 then g 0 else g k + rgs o true sn D (k - 1) n)) := by
      intro n
      induction n with
      | zero =>
        intro p g hp hg
        refine Ev.succ ?_
        simp only [spec_l9Counts.l0.eq_2]
        rw [rowL_ext (g' := g) (fun i _ => ?_)]
        · exact Ev.neg (by omega) (Ev.now _)
        · cases i with
          | zero => rfl
          | succ m => simp
      | succ n ih =>
        intro p g hp hg
        refine Ev.succ ?_
        simp only [spec_l9Counts.l0.eq_2]
        refine Ev.pos (by omega) (Ev.pos (by omega) (Ev.pos (by omega) ?_))
        rw [hoo2 p (by omega)]
        have hps : sn - (n + 1) = p := by omega
        cases hop2 : o p with
        | true =>
          rw [w64 (n := (sn : Int) - 1) (by omega) (by omega), w64 (n := (p : Int) + (sn : Int)) (by omega) (by omega), w64 (n := (p : Int) + (sn : Int) - (D : Int)) (by omega) (by omega), w64 (n := (p : Int) + (D : Int)) (by omega) (by omega)]
          have hl2 : spec_l1Least.f ((sn : Int) - 1) ((p : Int) + (sn : Int) - (D : Int)) = some ((bpN true sn D p : Nat) - 1 : Int) := by
            unfold spec_l1Least.f bpN
            rw [if_pos rfl]
            by_cases c : p + sn - D + 1 < sn
            · rw [if_pos c, if_neg (by omega)]; congr 1; omega
            · rw [if_neg c]
              split
              · rfl
              · congr 1; omega
          have hb := bpN_le true sn D p
          have h1 := line_ev o D (by omega) op (by omega) hoo2 (p + D) (bpN true sn D p) (by omega) (by omega)
          rw [show ((p + D : Nat) : Int) = (p : Int) + (D : Int) by omega] at h1
          refine Ev.pos rfl (Ev.bindc hl2 (Ev.bind h1 ?_))
          have s1 : rowL g = rowL (stp g (fun k => cn o D (bpN true sn D p) k (bpN true sn D p - (p + D))) 1) := rowL_ext fun i _ => by unfold stp; rw [if_neg (by omega)]
          rw [s1]
          refine counts_in (D : Int) op (p : Int) (sn : Int) true tk g _ (fun i => by have := hg i; omega) (fun i => by have := cn24 o D (bpN true sn D p) i (bpN true sn D p - (p + D)) hD1.1 (by omega); omega) _ ?_ 24 1 (by omega) (by omega)
          rw [w64 (n := (p : Int) + 1) (by omega) (by omega)]
          have nxt := ih (p + 1) (stp g (fun k => cn o D (bpN true sn D p) k (bpN true sn D p - (p + D))) 25) (by omega) (fun k => by
            have h2 := hg k
            have h3 := cn24 o D (bpN true sn D p) (k - 1) (bpN true sn D p - (p + D)) hD1.1 (by omega)
            have h4 := stp_le g (fun k => cn o D (bpN true sn D p) k (bpN true sn D p - (p + D))) 25 k
            have h5 : (n + 1) * 16777216 = n * 16777216 + 16777216 := Nat.succ_mul n 16777216
            rw [h5] at h2
            generalize n * 16777216 = q at h2 ⊢
            generalize cn o D (bpN true sn D p) (k - 1) (bpN true sn D p - (p + D)) = x at h3 h4
            generalize stp g _ 25 k = y at h4 ⊢
            generalize g k = z at h2 h4
            omega)
          have hx : (rowL fun k => if k = 0 then stp g (fun k => cn o D (bpN true sn D p) k (bpN true sn D p - (p + D))) 25 0 else stp g (fun k => cn o D (bpN true sn D p) k (bpN true sn D p - (p + D))) 25 k + rgs o true sn D (k - 1) n) = rowL (fun k => if k = 0 then g 0 else g k + rgs o true sn D (k - 1) (n + 1)) := rowL_ext fun i hi => by
            cases i with
            | zero => unfold stp; rw [if_pos rfl, if_pos rfl, if_neg (by omega)]
            | succ m =>
              rw [if_neg (by omega), if_neg (by omega)]
              unfold stp
              rw [if_pos (by omega), Nat.add_sub_cancel, rgs_s, hps, hop2, if_pos rfl]
              dsimp only
              omega
          rw [hx] at nxt
          exact nxt
        | false =>
          rw [w64 (n := (p : Int) + 1) (by omega) (by omega)]
          have nxt := ih (p + 1) g (by omega) (fun k => Nat.lt_of_le_of_lt (Nat.add_le_add_left (Nat.mul_le_mul_right 16777216 (Nat.le_succ n)) (g k)) (hg k))
          have hx : (rowL fun k => if k = 0 then g 0 else g k + rgs o true sn D (k - 1) n) = rowL (fun k => if k = 0 then g 0 else g k + rgs o true sn D (k - 1) (n + 1)) := rowL_ext fun i hi => by
            cases i with
            | zero => rfl
            | succ m =>
              rw [if_neg (by omega), if_neg (by omega), Nat.add_sub_cancel, rgs_s, hps, hop2, if_neg (by decide)]
              omega
          rw [hx] at nxt
          exact Ev.neg (by decide) nxt
    have h0 := lp sn 0 (fun k => if k = 0 then 1 else 0) (by omega) (fun k => by split <;> omega)
    have hx : (rowL fun k => if k = 0 then (if (0 : Nat) = 0 then 1 else 0) else (if k = 0 then 1 else 0) + rgs o true sn D (k - 1) sn) = rowL (totN o true sn D) := rowL_ext fun i hi => by
      cases i with
      | zero => rfl
      | succ m => show 0 + rgs o true sn D m sn = rgs o true sn D m sn; omega
    rw [hx] at h0
    exact h0
theorem gapD (s g d : Int) (D : Nat) (hs : s ≤ 24) (hg : g ≤ s - 1) (hD : (D : Int) = if d < s then d else s) : g ≥ mn d 25 ↔ (D : Int) ≤ g := by
  have := mn25 g d (by omega)
  split at hD <;> omega
theorem follows_ev (s : Int) (r : Bool) (tk : List Int) (d : Int) (sn : Nat) (hsn : s = (sn : Int)) (hs : 2 ≤ sn ∧ sn ≤ 24) (hl : ∀ x ∈ tk, 0 ≤ x ∧ x < s) (hsort : tk.Pairwise (· < ·)) (ht : tk.length ≤ 35184372088832) (D : Nat) (hD1 : 1 ≤ D) (hD : (D : Int) = if d < s then d else s)
    (f la p : Nat) (hf : f ≤ la) (hla : la < p) (hp : p < sn) : Ev (fun k => impl_spacing_follows.f k s r tk (mn d 25) (f : Int) (la : Int) (p : Int)) (canB s r tk d (p : Int) && decide (la + D ≤ p ∧ p < bpN r sn D f)) := by
  subst hsn
  unfold impl_spacing_follows.f
  refine Ev.bind (can_ev (sn : Int) r tk d (p : Int) (by omega) (by omega) hl hsort ht) ?_
  cases hc : canB (sn : Int) r tk d (p : Int) with
  | false => exact Ev.neg (by decide) (Ev.now _)
  | true =>
    have g1 := gp_lt (sn : Int) r (la : Int) (p : Int) (by omega) (by omega)
    have g2 := gp_lt (sn : Int) r (f : Int) (p : Int) (by omega) (by omega)
    have e1 := gapD (sn : Int) _ d D (by omega) g1 hD
    have e2 := gapD (sn : Int) _ d D (by omega) g2 hD
    have key : ((D : Int) ≤ gp (sn : Int) r (la : Int) (p : Int) ∧ (D : Int) ≤ gp (sn : Int) r (f : Int) (p : Int)) ↔ (la + D ≤ p ∧ p < bpN r sn D f) := by
      have hDs : D ≤ sn := by split at hD <;> omega
      unfold gp bpN
      have m1 : mx ((la : Int) - (p : Int)) ((p : Int) - (la : Int)) = (p : Int) - la := by unfold mx; split <;> omega
      have m2 : mx ((f : Int) - (p : Int)) ((p : Int) - (f : Int)) = (p : Int) - f := by unfold mx; split <;> omega
      rw [m1, m2]
      cases r with
      | true => simp only [if_true]; unfold mn; split <;> split <;> split <;> omega
      | false => simp only [Bool.false_eq_true, if_false]; omega
    refine Ev.pos rfl (Ev.neg (by omega) (Ev.pos (by omega) (Ev.bindc (bench_gap_eq (sn : Int) r (la : Int) (p : Int) (by omega) (by omega) (by omega)) ?_)))
    rw [Bool.true_and]
    by_cases c : gp (sn : Int) r (la : Int) (p : Int) ≥ mn d 25
    · refine Ev.pos c (Ev.bindc (bench_gap_eq (sn : Int) r (f : Int) (p : Int) (by omega) (by omega) (by omega)) ?_)
      rw [show decide (gp (sn : Int) r (f : Int) (p : Int) ≥ mn d 25) = decide (la + D ≤ p ∧ p < bpN r sn D f) from by
        rw [Bool.eq_iff_iff, decide_eq_true_eq, decide_eq_true_eq]
        exact ⟨fun h => key.mp ⟨e1.mp c, e2.mp h⟩, fun h => e2.mpr (key.mpr h).2⟩]
      exact Ev.now _
    · rw [decide_eq_false (fun h => c (e1.mpr (key.mpr h).1))]
      exact Ev.neg c (Ev.now _)
def mxN (a b : Nat) : Nat := if a < b then b else a
theorem cn_skip (o : Nat → Bool) (D B m p a : Nat) (h : ¬ (o p = true ∧ a ≤ p ∧ p < B)) : cn o D B (m + 1) (B - mxN p a) = cn o D B (m + 1) (B - mxN (p + 1) a) := by
  by_cases c1 : p < a
  · have e : mxN p a = mxN (p + 1) a := by unfold mxN; split <;> split <;> omega
    rw [e]
  · by_cases c2 : B ≤ p
    · rw [show B - mxN p a = 0 by unfold mxN; split <;> omega, show B - mxN (p + 1) a = 0 by unfold mxN; split <;> omega]
    · obtain ⟨e', he'⟩ : ∃ e', B - mxN p a = e' + 1 := ⟨B - p - 1, by unfold mxN; split <;> omega⟩
      have h2 : B - mxN (p + 1) a = e' := by unfold mxN at he' ⊢; split at he' <;> split <;> omega
      have h3 : B - (e' + 1) = p := by unfold mxN at he'; split at he' <;> omega
      have h4 : ¬ (o p = true) := fun h5 => h ⟨h5, by omega, by omega⟩
      rw [he', h2, cn_ss, h3, if_neg h4, Nat.zero_add]
theorem cn_take (o : Nat → Bool) (D B m p a : Nat) (h : o p = true ∧ a ≤ p ∧ p < B) : cn o D B (m + 1) (B - mxN p a) = cn o D B m (B - (p + D)) + cn o D B (m + 1) (B - mxN (p + 1) a) := by
  obtain ⟨e', he'⟩ : ∃ e', B - mxN p a = e' + 1 := ⟨B - p - 1, by unfold mxN; split <;> omega⟩
  have h2 : B - mxN (p + 1) a = e' := by unfold mxN at he' ⊢; split at he' <;> split <;> omega
  have h3 : B - (e' + 1) = p := by unfold mxN at he'; split at he' <;> omega
  rw [he', h2, cn_ss, h3, if_pos h.1, show e' + 1 - D = B - (p + D) by omega]
section
variable {s : Int} {r : Bool} {tk : List Int} {d : Int} {sn D : Nat}
theorem count_in (hsn : s = (sn : Int)) (hs : 2 ≤ sn ∧ sn ≤ 24) (hl : ∀ x ∈ tk, 0 ≤ x ∧ x < s) (hsort : tk.Pairwise (· < ·)) (ht : tk.length ≤ 35184372088832) (hD1 : 1 ≤ D) (hD : (D : Int) = if d < s then d else s) :
    ∀ (m f la : Nat), m ≤ 30 → f ≤ la → la < sn → Ev (fun k => impl_spacing_count.f k s r tk (mn d 25) (f : Int) (la : Int) (m : Int)) ((cn (fun p : Nat => canB s r tk d (p : Int)) D (bpN r sn D f) m (bpN r sn D f - (la + D)) : Nat) : Int) := by
  intro m
  induction m with
  | zero =>
    intro f la _ _ _
    refine Ev.succ ?_
    simp only [impl_spacing_count.f.eq_2]
    rw [cn_0]
    exact Ev.pos rfl (Ev.now _)
  | succ m ihm =>
    intro f la hm hf hla
    have hB := bpN_le r sn D f
    generalize hO : (fun p : Nat => canB s r tk d (p : Int)) = o at ihm ⊢
    have lp : ∀ n p acc, la + 1 ≤ p → p + n = sn → acc + cn o D (bpN r sn D f) (m + 1) (bpN r sn D f - mxN p (la + D)) < 1099511627776 → Ev (fun k => impl_spacing_count.l0 k s r tk (mn d 25) (f : Int) (la : Int) ((m + 1 : Nat) : Int) (p : Int) (acc : Int)) ((acc + cn o D (bpN r sn D f) (m + 1) (bpN r sn D f - mxN p (la + D)) : Nat) : Int) := by
      intro n
      induction n with
      | zero =>
        intro p acc h1 h2 h3
        refine Ev.succ ?_
        simp only [impl_spacing_count.l0.eq_2]
        rw [show bpN r sn D f - mxN p (la + D) = 0 by unfold mxN; split <;> omega, cn_s0, Nat.add_zero]
        exact Ev.neg (by omega) (Ev.now _)
      | succ n ih =>
        intro p acc h1 h2 h3
        refine Ev.succ ?_
        simp only [impl_spacing_count.l0.eq_2]
        have hfo := follows_ev s r tk d sn hsn hs hl hsort ht D hD1 hD f la p hf (by omega) (by omega)
        have hop : canB s r tk d (p : Int) = o p := by rw [← hO]
        rw [hop] at hfo
        refine Ev.pos (by omega) (Ev.bind hfo ?_)
        by_cases c : o p = true ∧ la + D ≤ p ∧ p < bpN r sn D f
        · have ht2 := cn_take o D (bpN r sn D f) m p (la + D) c
          rw [c.1, decide_eq_true c.2]
          have hh : impl_spacing_head.f (f : Int) (p : Int) = some (f : Int) := by unfold impl_spacing_head.f; rw [if_neg (by omega)]
          have hi := ihm f p (by omega) (by omega) (by omega)
          refine Ev.pos rfl (Ev.bindc hh ?_)
          rw [w64 (n := ((m + 1 : Nat) : Int) - 1) (by omega) (by omega), show ((m + 1 : Nat) : Int) - 1 = (m : Int) by omega]
          refine Ev.bind hi ?_
          rw [ht2] at h3 ⊢
          have nxt := ih (p + 1) (acc + cn o D (bpN r sn D f) m (bpN r sn D f - (p + D))) (by omega) (by omega) (by omega)
          rw [w64 (n := (p : Int) + 1) (by omega) (by omega), w64 (n := (acc : Int) + _) (by omega) (by omega)]
          rw [Nat.add_assoc] at nxt
          rw [show (acc : Int) + ((cn o D (bpN r sn D f) m (bpN r sn D f - (p + D)) : Nat) : Int) = ((acc + cn o D (bpN r sn D f) m (bpN r sn D f - (p + D)) : Nat) : Int) by omega]
          exact nxt
        · have hk := cn_skip o D (bpN r sn D f) m p (la + D) c
          have hv : (o p && decide (la + D ≤ p ∧ p < bpN r sn D f)) = false := by
            cases ho : o p with
            | false => rfl
            | true => rw [Bool.true_and]; exact decide_eq_false (fun h => c ⟨ho, h⟩)
          rw [hv]
          rw [hk] at h3 ⊢
          rw [w64 (n := (p : Int) + 1) (by omega) (by omega)]
          exact Ev.neg (by decide) (ih (p + 1) acc (by omega) (by omega) h3)
    refine Ev.succ ?_
    simp only [impl_spacing_count.f.eq_2]
    have hb := cn24 o D (bpN r sn D f) (m + 1) (bpN r sn D f - mxN (la + 1) (la + D)) hD1 (by omega)
    have h0 := lp (sn - (la + 1)) (la + 1) 0 (by omega) (by omega) (by omega)
    have hmx : mxN (la + 1) (la + D) = la + D := by unfold mxN; split <;> omega
    rw [hmx, Nat.zero_add] at h0
    refine Ev.neg (by omega) (Ev.pos (by omega) ?_)
    rw [w64 (n := (la : Int) + 1) (by omega) (by omega)]
    exact h0
theorem count_top (hsn : s = (sn : Int)) (hs : 2 ≤ sn ∧ sn ≤ 24) (hl : ∀ x ∈ tk, 0 ≤ x ∧ x < s) (hsort : tk.Pairwise (· < ·)) (ht : tk.length ≤ 35184372088832) (hD1 : 1 ≤ D) (hD : (D : Int) = if d < s then d else s) (m : Nat) (hm : m ≤ 30) :
    Ev (fun k => impl_spacing_count.f k s r tk (mn d 25) (-1) (-1) (m : Int)) ((totN (fun p : Nat => canB s r tk d (p : Int)) r sn D m : Nat) : Int) := by
  cases m with
  | zero =>
    refine Ev.succ ?_
    simp only [impl_spacing_count.f.eq_2]
    exact Ev.pos rfl (Ev.now _)
  | succ m =>
    have hci := fun p (hp : p < sn) => count_in (r := r) hsn hs hl hsort ht hD1 hD m p p (by omega) (Nat.le_refl _) hp
    generalize hO : (fun p : Nat => canB s r tk d (p : Int)) = o at hci ⊢
    have lp : ∀ n p acc, p + n = sn → acc + rgs o r sn D m n < 1099511627776 → Ev (fun k => impl_spacing_count.l0 k s r tk (mn d 25) (-1) (-1) ((m + 1 : Nat) : Int) (p : Int) (acc : Int)) ((acc + rgs o r sn D m n : Nat) : Int) := by
      intro n
      induction n with
      | zero =>
        intro p acc h2 h3
        refine Ev.succ ?_
        simp only [impl_spacing_count.l0.eq_2]
        exact Ev.neg (by omega) (Ev.now _)
      | succ n ih =>
        intro p acc h2 h3
        refine Ev.succ ?_
        simp only [impl_spacing_count.l0.eq_2]
        have hop : canB s r tk d (p : Int) = o p := by rw [← hO]
        have hfo : Ev (fun k => impl_spacing_follows.f k s r tk (mn d 25) (-1) (-1) (p : Int)) (o p) := by
          unfold impl_spacing_follows.f
          refine Ev.bind (can_ev s r tk d (p : Int) (by omega) (by omega) hl hsort ht) ?_
          rw [hop]
          cases o p with
          | false => exact Ev.neg (by decide) (Ev.now _)
          | true => exact Ev.pos rfl (Ev.pos (by omega) (Ev.now _))
        refine Ev.pos (by omega) (Ev.bind hfo ?_)
        have hps : sn - (n + 1) = p := by omega
        rw [rgs_s, hps] at h3 ⊢
        rw [w64 (n := (p : Int) + 1) (by omega) (by omega)]
        cases ho : o p with
        | false =>
          rw [ho] at h3
          rw [if_neg (by decide), Nat.zero_add] at h3 ⊢
          exact Ev.neg (by decide) (ih (p + 1) acc (by omega) h3)
        | true =>
          rw [ho] at h3
          rw [if_pos rfl] at h3 ⊢
          have hh : impl_spacing_head.f (-1) (p : Int) = some (p : Int) := by unfold impl_spacing_head.f; rw [if_pos (by omega)]
          refine Ev.pos rfl (Ev.bindc hh ?_)
          rw [w64 (n := ((m + 1 : Nat) : Int) - 1) (by omega) (by omega), show ((m + 1 : Nat) : Int) - 1 = (m : Int) by omega]
          refine Ev.bind (hci p (by omega)) ?_
          have nxt := ih (p + 1) (acc + cn o D (bpN r sn D p) m (bpN r sn D p - (p + D))) (by omega) (by omega)
          rw [w64 (n := (acc : Int) + _) (by omega) (by omega)]
          rw [Nat.add_assoc] at nxt
          rw [show (acc : Int) + ((cn o D (bpN r sn D p) m (bpN r sn D p - (p + D)) : Nat) : Int) = ((acc + cn o D (bpN r sn D p) m (bpN r sn D p - (p + D)) : Nat) : Int) by omega]
          exact nxt
    refine Ev.succ ?_
    simp only [impl_spacing_count.f.eq_2]
    have hb := rgs_le o r sn D m hs.2 hD1 sn
    have h0 : Ev (fun k => impl_spacing_count.l0 k s r tk (mn d 25) (-1) (-1) ((m + 1 : Nat) : Int) 0 0) ((0 + rgs o r sn D m sn : Nat) : Int) := lp sn 0 0 (by omega) (by omega)
    rw [Nat.zero_add] at h0
    refine Ev.neg (by omega) (Ev.pos (by omega) ?_)
    rw [show wrap64 (-1 + 1) = 0 from by unfold wrap64; omega]
    exact h0
end
theorem mark_loop (l : List Int) (a : Int) (h0 : 0 ≤ a) (h1 : a ≤ 1000000000) (hl : l.length ≤ 35184372088832) : ∀ (d i : Nat) (acc : List Int), i + d = l.length → acc.length = l.length → (∀ j, j < i → acc[j]? = some (a + (j : Int))) → Ev (fun k => laws_markIntS.l0 k acc (a + (i : Int)) (i : Int)) (a + (l.length : Int), (List.range l.length).map (fun j : Nat => a + (j : Int))) := by
  intro d
  induction d with
  | zero =>
    intro i acc hi ha hj
    refine Ev.succ ?_
    simp only [laws_markIntS.l0.eq_2]
    have : acc = (List.range l.length).map (fun j : Nat => a + (j : Int)) := List.ext_getElem? (fun j => by
      by_cases h : j < i
      · rw [hj j h, List.getElem?_map, List.getElem?_range (by omega)]; rfl
      · rw [List.getElem?_eq_none (by omega), List.getElem?_eq_none (by rw [List.length_map, List.length_range]; omega)])
    rw [show (i : Int) = (l.length : Int) by omega, ← this]
    exact Ev.neg (by omega) (Ev.now _)
  | succ d ih =>
    intro i acc hi ha hj
    refine Ev.succ ?_
    simp only [laws_markIntS.l0.eq_2]
    refine Ev.pos (by omega) (Ev.pos (by omega) ?_)
    rw [w64 (n := (i : Int) + 1) (by omega) (by omega), w64 (by omega) (by omega)]
    rw [show a + (i : Int) + 1 = a + ((i + 1 : Nat) : Int) by omega]
    refine ih (i + 1) _ (by omega) (by simpa using ha) ?_
    intro j h
    rw [Int.toNat_natCast, List.getElem?_set]
    by_cases e : i = j
    · subst e
      rw [if_pos rfl, if_pos (by omega)]
    · rw [if_neg e]; exact hj j (by omega)
theorem mark_ev (l : List Int) (a : Int) (h0 : 0 ≤ a) (h1 : a ≤ 1000000000) (hl : l.length ≤ 35184372088832) : Ev (fun k => laws_markIntS.f k l a) (a + (l.length : Int), (List.range l.length).map (fun j : Nat => a + (j : Int))) := by
  have := mark_loop l a h0 h1 hl l.length 0 l (by omega) rfl (fun j h => by omega)
  simp only [Int.natCast_zero, Int.add_zero] at this
  exact this
theorem held_loop (a : Int) (h0 : 0 ≤ a) (h1 : a ≤ 1000000000) (n : Nat) (hl : n ≤ 35184372088832) : ∀ (d i : Nat), i + d = n → Ev (fun k => laws_heldIntS.l0 k ((List.range n).map (fun j : Nat => a + (j : Int))) (a + (i : Int)) (i : Int)) (a + (n : Int)) := by
  intro d
  have hlen : ((List.range n).map (fun j : Nat => a + (j : Int))).length = n := by rw [List.length_map, List.length_range]
  induction d with
  | zero =>
    intro i hi
    refine Ev.succ ?_
    simp only [laws_heldIntS.l0.eq_2]
    rw [show (i : Int) = (n : Int) by omega]
    exact Ev.neg (by omega) (Ev.now _)
  | succ d ih =>
    intro i hi
    refine Ev.succ ?_
    simp only [laws_heldIntS.l0.eq_2]
    rw [rd_nat _ i (by omega), List.getElem_map, List.getElem_range]
    refine Ev.pos (by omega) (Ev.pos (by omega) (Ev.pos rfl ?_))
    rw [w64 (n := (i : Int) + 1) (by omega) (by omega), w64 (by omega) (by omega)]
    rw [show a + (i : Int) + 1 = a + ((i + 1 : Nat) : Int) by omega]
    exact ih (i + 1) (by omega)
theorem held_ev (a : Int) (h0 : 0 ≤ a) (h1 : a ≤ 1000000000) (n : Nat) (hl : n ≤ 35184372088832) : Ev (fun k => laws_heldIntS.f k ((List.range n).map (fun j : Nat => a + (j : Int))) a) (a + (n : Int)) := by
  have := held_loop a h0 h1 n hl n 0 (by omega)
  simp only [Int.natCast_zero, Int.add_zero] at this
  exact this
/-- a list of marks -/
def mks (n : Nat) : List Int := (List.range n).map (fun j : Nat => 1 + (j : Int))
theorem markRow_ev (s : Int) (r : Bool) (l : List Int) (hl : l.length ≤ 35184372088832) : Ev (fun k => laws_markRow.f k s r l 1) (1 + (l.length : Int), mks l.length) := by
  unfold laws_markRow.f
  exact Ev.bind (f := fun _ t => some (t.1, t.2)) (mark_ev l 1 (by omega) (by omega) hl) (Ev.now _)
theorem cn_up (o : Nat → Bool) (D b m e : Nat) : cn o D b m e ≤ cn o D b m (e + 1) := by
  cases m with
  | zero => rw [cn_0, cn_0]; exact Nat.le_refl _
  | succ m => rw [cn_ss]; exact Nat.le_add_left _ _
theorem cn_ups (o : Nat → Bool) (D b m e : Nat) : ∀ j, cn o D b m e ≤ cn o D b m (e + j) := by
  intro j
  induction j with
  | zero => exact Nat.le_refl _
  | succ j ih => exact Nat.le_trans ih (cn_up o D b m (e + j))
theorem cn_dead (o : Nat → Bool) (D b m : Nat) : ∀ e, cn o D b m (e + 1 - D) = 0 → cn o D b (m + 1) (e + 1) = 0 := by
  intro e
  induction e with
  | zero =>
    intro h
    rw [cn_ss, cn_s0, h]; simp
  | succ e ih =>
    intro h
    have h1 : cn o D b m (e + 1 - D) = 0 := by
      have := cn_ups o D b m (e + 1 - D) (e + 1 + 1 - D - (e + 1 - D))
      rw [show e + 1 - D + (e + 1 + 1 - D - (e + 1 - D)) = e + 1 + 1 - D by omega] at this
      omega
    rw [cn_ss, h, ih h1]; simp
section
variable {s : Int} {r : Bool} {tk : List Int} {d : Int} {sn D : Nat}
def Chain (f la : Nat) (c : List Int) : Prop := (f : Int) ∈ c ∧ (la : Int) ∈ c ∧ ∀ x ∈ c, (f : Int) ≤ x ∧ x ≤ (la : Int)
theorem may_chain (hsn : s = (sn : Int)) (hs : 2 ≤ sn ∧ sn ≤ 24) (hl : ∀ x ∈ tk, 0 ≤ x ∧ x < s) (ht : tk.length ≤ 35184372088832) (hD1 : 1 ≤ D) (hD : (D : Int) = if d < s then d else s) (f la p : Nat) (c : List Int) (hc : Chain f la c) (hcl : c.length ≤ 30) (hla : la < p) (hp : p < sn) :
    Ev (fun k => spec_l9May.f k s r tk c (p : Int) d) (canB s r tk d (p : Int) && decide (la + D ≤ p ∧ p < bpN r sn D f)) := by
  subst hsn
  refine may_ev (sn : Int) r tk c d (p : Int) (by omega) (by omega) hl (fun x hx => by have := hc.2.2 x hx; omega) ht (by omega) _ ?_
  rw [Bool.and_eq_true, decide_eq_true_eq]
  have hg : ∀ x : Int, (f : Int) ≤ x → x ≤ (la : Int) → (d ≤ gp (sn : Int) r (p : Int) x ↔ (D : Int) ≤ gp (sn : Int) r (p : Int) x) := fun x h1 h2 => by
    have := gp_lt (sn : Int) r (p : Int) x (by omega) (by omega)
    split at hD <;> omega
  have hgp : ∀ x : Int, (f : Int) ≤ x → x ≤ (la : Int) → gp (sn : Int) r (p : Int) x = if r = true then mn ((p : Int) - x) ((sn : Int) - ((p : Int) - x)) else (p : Int) - x := fun x h1 h2 => by
    unfold gp
    rw [show mx ((p : Int) - x) (x - (p : Int)) = (p : Int) - x by unfold mx; split <;> omega]
  have hDs : D ≤ sn := by split at hD <;> omega
  have w1 : (∀ j, j < c.length → d ≤ gp (sn : Int) r (p : Int) (c.getD j 0)) → la + D ≤ p ∧ p < bpN r sn D f := by
    intro h
    have ha : ∀ x : Int, x ∈ c → (D : Int) ≤ gp (sn : Int) r (p : Int) x := fun x hx => by
      obtain ⟨j, hj, e⟩ := List.getElem_of_mem hx
      have h1 := h j hj
      rw [getD_lt c j hj, e] at h1
      exact (hg x (hc.2.2 x hx).1 (hc.2.2 x hx).2).mp h1
    have h1 := ha _ hc.1
    have h2 := ha _ hc.2.1
    have hfl := (hc.2.2 _ hc.1).2
    rw [hgp _ (Int.le_refl _) hfl] at h1
    rw [hgp _ hfl (Int.le_refl _)] at h2
    unfold bpN
    cases r with
    | true => simp only [if_true] at h1 h2 ⊢; unfold mn at h1 h2; split at h1 <;> split at h2 <;> split <;> omega
    | false => simp only [Bool.false_eq_true, if_false] at h1 h2 ⊢; omega
  have w2 : la + D ≤ p ∧ p < bpN r sn D f → ∀ j, j < c.length → d ≤ gp (sn : Int) r (p : Int) (c.getD j 0) := by
    intro h j hj
    have hx : c.getD j 0 ∈ c := by rw [getD_lt c j hj]; exact List.getElem_mem _
    have hb := hc.2.2 _ hx
    refine (hg _ hb.1 hb.2).mpr ?_
    rw [hgp _ hb.1 hb.2]
    generalize c.getD j 0 = x at hb
    clear hx hg hgp w1
    unfold bpN at h
    cases r with
    | true => simp only [if_true] at h ⊢; unfold mn; split at h <;> split <;> omega
    | false => simp only [Bool.false_eq_true, if_false] at h ⊢; omega
  exact ⟨fun h => ⟨h.1, w2 h.2⟩, fun h => ⟨h.1, w1 h.2⟩⟩
end
theorem own_list (c : List Int) (h : c.length ≤ 30) : spec_l1Own.f c = some c := by
  unfold spec_l1Own.f
  rw [Option.bind_some, if_pos (by simp; omega)]
  rfl
section
variable {s : Int} {r : Bool} {tk : List Int} {d : Int} {sn D : Nat}
theorem chain_snoc {f la p : Nat} {c : List Int} (hc : Chain f la c) (hf : f ≤ la) (h : la < p) : Chain f p (c ++ [(p : Int)]) := by
  refine ⟨List.mem_append_left _ hc.1, by simp, fun x hx => ?_⟩
  rcases List.mem_append.mp hx with h1 | h1
  · have := hc.2.2 x h1; omega
  · simp at h1; omega
theorem last_snoc (c : List Int) (p : Int) : (c ++ [p]).getD ((c ++ [p]).length - 1) 0 = p := by simp
theorem w64s (x : Nat) (h : x < 1000) : wrap64 ((x : Int) + 1) = ((x + 1 : Nat) : Int) := by rw [w64 (by omega) (by omega)]; omega
theorem w64t (x : Nat) (h : x < 1000) : wrap64 ((x : Int) + 1) = (x : Int) + 1 := w64 (by omega) (by omega)
theorem w64e (kk c m : Nat) (h : c + (m + 1) = kk) (hk : kk ≤ 24) : wrap64 (wrap64 ((kk : Int) - (c : Int)) - 1) = (m : Int) := by rw [w64 (n := (kk : Int) - (c : Int)) (by omega) (by omega), w64 (by omega) (by omega)]; omega
theorem more_lp (hsn : s = (sn : Int)) (hs : sn ≤ 24) (kk m f la : Nat) (hkk : kk ≤ 24) (hf : f ≤ la) (c : List Int) (hpos : 0 < c.length) (hlen : c.length + (m + 1) = kk) (ok : Nat → Bool) (V W : Nat → Nat)
    (hW0 : W sn = 0) (htake : ∀ x, la < x → x < sn → ok x = true → W x = V x + W (x + 1)) (hdead : ∀ x, la < x → x < sn → ok x = true → V x = 0 → W x = 0) (hskip : ∀ x, la < x → x < sn → ok x = false → W x = W (x + 1))
    (hmay : ∀ x : Nat, la < x → x < sn → Ev (fun k => spec_l9May.f k s r tk c (x : Int) d) (ok x))
    (hfol : ∀ x : Nat, la < x → x < sn → Ev (fun k => impl_spacing_follows.f k s r tk (mn d 25) (f : Int) (la : Int) (x : Int)) (ok x))
    (hcnt : ∀ x : Nat, la < x → x < sn → Ev (fun k => impl_spacing_count.f k s r tk (mn d 25) (f : Int) (x : Int) (m : Int)) ((V x : Nat) : Int))
    (hown : spec_l1Own.f c = some c)
    (ih0 : ∀ x : Nat, la < x → x < sn → V x = 0 → Ev (fun k => spec_l9More.f k s r tk (c ++ [(x : Int)]) (kk : Int) d) (([] : List Int), false))
    (ih1 : ∀ x : Nat, la < x → x < sn → 0 < V x → ∃ L : List Int, L.length ≤ 24 ∧ Ev (fun k => spec_l9More.f k s r tk (c ++ [(x : Int)]) (kk : Int) d) (L, true) ∧ Ev (fun k => impl_FirstSpaced.l0 k s r tk (mn d 25) (kk : Int) (f : Int) (x : Int) ((x : Int) + 1) (c ++ [(x : Int)])) (L, true)) :
    ∀ n x : Nat, x + n = sn → la + 1 ≤ x → (W x = 0 → Ev (fun k => spec_l9More.l0 k c (kk : Int) d (x : Int) s r tk) (([] : List Int), false)) ∧ (0 < W x → ∃ L : List Int, L.length ≤ 24 ∧ Ev (fun k => spec_l9More.l0 k c (kk : Int) d (x : Int) s r tk) (L, true) ∧ Ev (fun k => impl_FirstSpaced.l0 k s r tk (mn d 25) (kk : Int) (f : Int) (la : Int) (x : Int) c) (L, true)) := by
  intro n
  induction n with
  | zero =>
    intro x h1 h2
    obtain rfl : x = sn := by omega
    rw [hW0]
    refine ⟨fun _ => Ev.succ ?_, fun h => absurd h (by decide)⟩
    simp only [spec_l9More.l0.eq_2]
    exact Ev.neg (by omega) (Ev.now _)
  | succ n ih =>
    intro x h1 h2
    obtain ⟨i1, i2⟩ := ih (x + 1) (by omega) (by omega)
    have hm := hmay x (by omega) (by omega)
    have hfo := hfol x (by omega) (by omega)
    have hx : (x : Int) < s := by omega
    have hc8 : (c.length : Int) < (kk : Int) := by omega
    have hc9 : (c.length : Int) > 0 := by omega
    have hc5 : c.length + [(x : Int)].length < 17592186044416 := by show c.length + 1 < 17592186044416; omega
    have hc6 : c.length + 1 < 17592186044416 := hc5
    cases ho : ok x with
    | true =>
      rw [ho] at hm hfo
      have ht2 := htake x (by omega) (by omega) ho
      have hsp : ∀ q : List Int × Bool, Ev (fun k => spec_l9More.f k s r tk (c ++ [(x : Int)]) (kk : Int) d) q → Ev (fun k => spec_l9More.l0 k c (kk : Int) d (x : Int) s r tk) (if q.2 = true then (q.1, true) else ([], false)) := fun q hq => by
        refine Ev.succ ?_
        simp only [spec_l9More.l0.eq_2]
        refine Ev.pos hx (Ev.bind hm (Ev.pos rfl (Ev.bindc hown (Ev.bindc rfl (Ev.pos hc5 (Ev.bind hq ?_))))))
        cases hq2 : q.2 with
        | true => exact Ev.pos rfl (Ev.now _)
        | false => exact Ev.neg (by decide) (Ev.pos hc9 (Ev.now _))
      refine ⟨fun h => ?_, fun h => ?_⟩
      · have := hsp _ (ih0 x (by omega) (by omega) (by omega))
        exact this
      · have hV : 0 < V x := by
          rcases Nat.eq_zero_or_pos (V x) with h3 | h3
          · have := hdead x (by omega) (by omega) ho h3; omega
          · exact h3
        obtain ⟨L, ll, l1, l2⟩ := ih1 x (by omega) (by omega) hV
        refine ⟨L, ll, hsp _ l1, Ev.succ ?_⟩
        simp only [impl_FirstSpaced.l0.eq_2]
        have hh : impl_spacing_head.f (f : Int) (x : Int) = some (f : Int) := by unfold impl_spacing_head.f; rw [if_neg (by omega)]
        have hVi : ((V x : Nat) : Int) > 0 := by omega
        rw [w64e kk c.length m hlen hkk, w64t x (by omega)]
        exact Ev.pos hc8 (Ev.bind hfo (Ev.pos rfl (Ev.bindc hh (Ev.bind (hcnt x (by omega) (by omega)) (Ev.pos hVi (Ev.pos hc6 l2))))))
    | false =>
      have hk := hskip x (by omega) (by omega) ho
      rw [ho] at hm hfo
      rw [hk]
      refine ⟨fun h => Ev.succ ?_, fun h => ?_⟩
      · simp only [spec_l9More.l0.eq_2]
        rw [w64s x (by omega)]
        exact Ev.pos hx (Ev.bind hm (Ev.neg (by decide) (i1 h)))
      · obtain ⟨L, ll, l1, l2⟩ := i2 h
        refine ⟨L, ll, Ev.succ ?_, Ev.succ ?_⟩
        · simp only [spec_l9More.l0.eq_2]
          rw [w64s x (by omega)]
          exact Ev.pos hx (Ev.bind hm (Ev.neg (by decide) l1))
        · simp only [impl_FirstSpaced.l0.eq_2]
          rw [w64s x (by omega)]
          exact Ev.pos hc8 (Ev.bind hfo (Ev.neg (by decide) l2))
theorem cn_dead2 (o : Nat → Bool) (D B m x a : Nat) (h : o x = true ∧ a ≤ x ∧ x < B) (h0 : cn o D B m (B - (x + D)) = 0) : cn o D B (m + 1) (B - mxN x a) = 0 := by
  have hx : mxN x a = x := by unfold mxN; split <;> omega
  rw [hx, show B - x = (B - x - 1) + 1 by omega]
  exact cn_dead o D _ m _ (by rw [show B - x - 1 + 1 - D = B - (x + D) by omega]; exact h0)
theorem more_ev (hsn : s = (sn : Int)) (hs : 2 ≤ sn ∧ sn ≤ 24) (hl : ∀ x ∈ tk, 0 ≤ x ∧ x < s) (hsort : tk.Pairwise (· < ·)) (ht : tk.length ≤ 35184372088832) (hD1 : 1 ≤ D) (hD : (D : Int) = if d < s then d else s) (kk : Nat) (hkk : kk ≤ 24) :
    ∀ (m f la : Nat) (c : List Int), Chain f la c → c.getD (c.length - 1) 0 = (la : Int) → f ≤ la → la < sn → c.length + m = kk →
      (cn (fun p : Nat => canB s r tk d (p : Int)) D (bpN r sn D f) m (bpN r sn D f - (la + D)) = 0 → Ev (fun k => spec_l9More.f k s r tk c (kk : Int) d) (([] : List Int), false)) ∧
      (0 < cn (fun p : Nat => canB s r tk d (p : Int)) D (bpN r sn D f) m (bpN r sn D f - (la + D)) → ∃ L : List Int, L.length ≤ 24 ∧ Ev (fun k => spec_l9More.f k s r tk c (kk : Int) d) (L, true) ∧ Ev (fun k => impl_FirstSpaced.l0 k s r tk (mn d 25) (kk : Int) (f : Int) (la : Int) ((la : Int) + 1) c) (L, true)) := by
  intro m
  induction m with
  | zero =>
    intro f la c hc hlast hf hla hlen
    have hkc : (kk : Int) = (c.length : Int) := by omega
    have hkn : ¬ (c.length : Int) < (kk : Int) := by omega
    rw [cn_0]
    refine ⟨fun h => absurd h (by decide), fun _ => ⟨c, by omega, Ev.succ ?_, Ev.succ ?_⟩⟩
    · simp only [spec_l9More.f.eq_2]
      exact Ev.pos hkc.symm (Ev.now _)
    · simp only [impl_FirstSpaced.l0.eq_2]
      exact Ev.neg hkn (Ev.now _)
  | succ m ihm =>
    intro f la c hc hlast hf hla hlen
    have hB := bpN_le r sn D f
    have hpos : 0 < c.length := List.length_pos_of_mem hc.1
    have hcnt := fun p (h0 : la < p) (hp : p < sn) => count_in (r := r) hsn hs hl hsort ht hD1 hD m f p (by omega) (by omega) hp
    have hmay : ∀ p : Nat, la < p → p < sn → Ev (fun k => spec_l9May.f k s r tk c (p : Int) d) ((fun p : Nat => (fun p : Nat => canB s r tk d (p : Int)) p && decide (la + D ≤ p ∧ p < bpN r sn D f)) p) := fun p h1 h2 => may_chain (r := r) hsn hs hl ht hD1 hD f la p c hc (by omega) h1 h2
    have hfol : ∀ p : Nat, la < p → p < sn → Ev (fun k => impl_spacing_follows.f k s r tk (mn d 25) (f : Int) (la : Int) (p : Int)) ((fun p : Nat => (fun p : Nat => canB s r tk d (p : Int)) p && decide (la + D ≤ p ∧ p < bpN r sn D f)) p) := fun p h1 h2 => follows_ev s r tk d sn hsn hs hl hsort ht D hD1 hD f la p hf h1 h2
    have hown := own_list c (by omega)
    generalize (fun p : Nat => canB s r tk d (p : Int)) = o at ihm hcnt hmay hfol ⊢
    have hoksp : ∀ x, (o x && decide (la + D ≤ x ∧ x < bpN r sn D f)) = true → o x = true ∧ la + D ≤ x ∧ x < bpN r sn D f := fun x h => by
      rw [Bool.and_eq_true, decide_eq_true_eq] at h; exact h
    have hsk : ∀ x, (o x && decide (la + D ≤ x ∧ x < bpN r sn D f)) = false → ¬ (o x = true ∧ la + D ≤ x ∧ x < bpN r sn D f) := fun x h h2 => by
      rw [h2.1, decide_eq_true h2.2] at h; exact absurd h (by decide)
    have lp := more_lp (r := r) (tk := tk) (d := d) hsn hs.2 kk m f la hkk hf c hpos hlen (fun x => o x && decide (la + D ≤ x ∧ x < bpN r sn D f)) (fun x => cn o D (bpN r sn D f) m (bpN r sn D f - (x + D))) (fun x => cn o D (bpN r sn D f) (m + 1) (bpN r sn D f - mxN x (la + D)))
      (by have hz : bpN r sn D f - mxN sn (la + D) = 0 := by unfold mxN; split <;> omega
          show cn o D (bpN r sn D f) (m + 1) (bpN r sn D f - mxN sn (la + D)) = 0; rw [hz, cn_s0])
      (fun x _ _ h => cn_take o D (bpN r sn D f) m x (la + D) (hoksp x h))
      (fun x _ _ h h0 => cn_dead2 o D (bpN r sn D f) m x (la + D) (hoksp x h) h0)
      (fun x _ _ h => cn_skip o D (bpN r sn D f) m x (la + D) (hsk x h))
      hmay hfol hcnt hown
      (fun x h1 h2 h3 => (ihm f x (c ++ [(x : Int)]) (chain_snoc hc hf (by omega)) (last_snoc c _) (by omega) (by omega) (by simp; omega)).1 h3)
      (fun x h1 h2 h3 => (ihm f x (c ++ [(x : Int)]) (chain_snoc hc hf (by omega)) (last_snoc c _) (by omega) (by omega) (by simp; omega)).2 h3)
    obtain ⟨i1, i2⟩ := lp (sn - (la + 1)) (la + 1) (by omega) (Nat.le_refl _)
    clear lp ihm hcnt hmay hfol hoksp hsk
    have hmx : mxN (la + 1) (la + D) = la + D := by unfold mxN; split <;> omega
    rw [hmx] at i1 i2
    generalize cn o D (bpN r sn D f) (m + 1) (bpN r sn D f - (la + D)) = T at i1 i2 ⊢
    have e1 : wrap64 ((c.length : Int) - 1) = ((c.length - 1 : Nat) : Int) := by rw [w64 (by omega) (by omega)]; omega
    have e2 : wrap64 ((la : Int) + 1) = ((la + 1 : Nat) : Int) := by rw [w64 (by omega) (by omega)]; omega
    have g1 : ¬ (c.length : Int) = (kk : Int) := by omega
    have g2 : (c.length : Int) > 0 := by omega
    have g3 : (0 : Int) ≤ ((c.length - 1 : Nat) : Int) := by omega
    have g4 : ((c.length - 1 : Nat) : Int) < (c.length : Int) := by omega
    have hsp : ∀ q, Ev (fun k => spec_l9More.l0 k c (kk : Int) d ((la + 1 : Nat) : Int) s r tk) q → Ev (fun k => spec_l9More.f k s r tk c (kk : Int) d) q := fun q hq => by
      refine Ev.succ ?_
      simp only [spec_l9More.f.eq_2]
      rw [e1, rd_getD, hlast, e2]
      refine Ev.neg g1 (Ev.pos g2 (Ev.pos g3 (Ev.pos g4 (Ev.succ ?_))))
      simp only [spec_l9More.j0.eq_2]
      exact hq
    refine ⟨fun h => hsp _ (i1 h), fun h => ?_⟩
    obtain ⟨L, ll, l1, l2⟩ := i2 h
    exact ⟨L, ll, hsp _ l1, l2⟩
end
section
variable {s : Int} {r : Bool} {tk : List Int} {d : Int} {sn D : Nat}
theorem top_lp (hsn : s = (sn : Int)) (hs : sn ≤ 24) (m : Nat) (hkk : m + 1 ≤ 24) (ok : Nat → Bool) (V W : Nat → Nat)
    (hW0 : W sn = 0) (hstep : ∀ x, x < sn → W x = (if ok x then V x else 0) + W (x + 1))
    (hmay : ∀ x : Nat, x < sn → Ev (fun k => spec_l9May.f k s r tk ([] : List Int) (x : Int) d) (ok x))
    (hfol : ∀ x : Nat, x < sn → Ev (fun k => impl_spacing_follows.f k s r tk (mn d 25) (-1) (-1) (x : Int)) (ok x))
    (hcnt : ∀ x : Nat, x < sn → Ev (fun k => impl_spacing_count.f k s r tk (mn d 25) (x : Int) (x : Int) (m : Int)) ((V x : Nat) : Int))
    (hown : spec_l1Own.f ([] : List Int) = some [])
    (ih0 : ∀ x : Nat, x < sn → V x = 0 → Ev (fun k => spec_l9More.f k s r tk [(x : Int)] ((m + 1 : Nat) : Int) d) (([] : List Int), false))
    (ih1 : ∀ x : Nat, x < sn → 0 < V x → ∃ L : List Int, L.length ≤ 24 ∧ Ev (fun k => spec_l9More.f k s r tk [(x : Int)] ((m + 1 : Nat) : Int) d) (L, true) ∧ Ev (fun k => impl_FirstSpaced.l0 k s r tk (mn d 25) ((m + 1 : Nat) : Int) (x : Int) (x : Int) ((x : Int) + 1) [(x : Int)]) (L, true)) :
    ∀ n x : Nat, x + n = sn → 0 < W x → ∃ L : List Int, L.length ≤ 24 ∧ Ev (fun k => spec_l9More.l0 k ([] : List Int) ((m + 1 : Nat) : Int) d (x : Int) s r tk) (L, true) ∧ Ev (fun k => impl_FirstSpaced.l0 k s r tk (mn d 25) ((m + 1 : Nat) : Int) (-1) (-1) (x : Int) ([] : List Int)) (L, true) := by
  intro n
  induction n with
  | zero =>
    intro x h1 h
    obtain rfl : x = sn := by omega
    rw [hW0] at h; exact absurd h (by decide)
  | succ n ih =>
    intro x hx h
    have hm := hmay x (by omega)
    have hfo := hfol x (by omega)
    have hx2 : (x : Int) < s := by omega
    have hs2 := hstep x (by omega)
    rw [hs2] at h
    have g1 : (([] : List Int).length : Int) < ((m + 1 : Nat) : Int) := by show (0 : Int) < _; omega
    have g2 : ([] : List Int).length + [(x : Int)].length < 17592186044416 := by show 0 + 1 < 17592186044416; decide
    have g4 : ([] : List Int).length + 1 < 17592186044416 := g2
    have g3 : ¬ (([] : List Int).length : Int) > 0 := by simp
    have hh : impl_spacing_head.f (-1) (x : Int) = some (x : Int) := by unfold impl_spacing_head.f; rw [if_pos (by omega)]
    cases ho : ok x with
    | false =>
      rw [ho] at hm hfo h
      rw [if_neg (by decide), Nat.zero_add] at h
      obtain ⟨L, ll, l1, l2⟩ := ih (x + 1) (by omega) h
      refine ⟨L, ll, Ev.succ ?_, Ev.succ ?_⟩
      · simp only [spec_l9More.l0.eq_2]
        rw [w64s x (by omega)]
        exact Ev.pos hx2 (Ev.bind hm (Ev.neg (by decide) l1))
      · simp only [impl_FirstSpaced.l0.eq_2]
        rw [w64s x (by omega)]
        exact Ev.pos g1 (Ev.bind hfo (Ev.neg (by decide) l2))
    | true =>
      rw [ho] at hm hfo h
      rw [if_pos rfl] at h
      have hc0 := hcnt x (by omega)
      rcases Nat.eq_zero_or_pos (V x) with hV | hV
      · rw [hV, Nat.zero_add] at h
        obtain ⟨L, ll, l1, l2⟩ := ih (x + 1) (by omega) h
        have j1 := ih0 x (by omega) hV
        rw [hV] at hc0
        refine ⟨L, ll, Ev.succ ?_, Ev.succ ?_⟩
        · simp only [spec_l9More.l0.eq_2]
          rw [w64s x (by omega)]
          exact Ev.pos hx2 (Ev.bind hm (Ev.pos rfl (Ev.bindc hown (Ev.bindc rfl (Ev.pos g2 (Ev.bind j1 (Ev.neg (by decide) (Ev.neg g3 l1))))))))
        · simp only [impl_FirstSpaced.l0.eq_2]
          rw [w64s x (by omega), show wrap64 (wrap64 (((m + 1 : Nat) : Int) - ((([] : List Int).length : Nat) : Int)) - 1) = (m : Int) from w64e (m + 1) 0 m (by omega) hkk]
          exact Ev.pos g1 (Ev.bind hfo (Ev.pos rfl (Ev.bindc hh (Ev.bind hc0 (Ev.neg (by decide) l2)))))
      · obtain ⟨L, ll, l1, l2⟩ := ih1 x (by omega) hV
        have hVi : ((V x : Nat) : Int) > 0 := by omega
        refine ⟨L, ll, Ev.succ ?_, Ev.succ ?_⟩
        · simp only [spec_l9More.l0.eq_2]
          exact Ev.pos hx2 (Ev.bind hm (Ev.pos rfl (Ev.bindc hown (Ev.bindc rfl (Ev.pos g2 (Ev.bind l1 (Ev.pos rfl (Ev.now _))))))))
        · simp only [impl_FirstSpaced.l0.eq_2]
          rw [w64t x (by omega), show wrap64 (wrap64 (((m + 1 : Nat) : Int) - ((([] : List Int).length : Nat) : Int)) - 1) = (m : Int) from w64e (m + 1) 0 m (by omega) hkk]
          exact Ev.pos g1 (Ev.bind hfo (Ev.pos rfl (Ev.bindc hh (Ev.bind hc0 (Ev.pos hVi (Ev.pos g4 l2))))))
theorem more_top (hsn : s = (sn : Int)) (hs : 2 ≤ sn ∧ sn ≤ 24) (hl : ∀ x ∈ tk, 0 ≤ x ∧ x < s) (hsort : tk.Pairwise (· < ·)) (ht : tk.length ≤ 35184372088832) (hD1 : 1 ≤ D) (hD : (D : Int) = if d < s then d else s) (m : Nat) (hkk : m + 1 ≤ 24) (hT : 0 < rgs (fun p : Nat => canB s r tk d (p : Int)) r sn D m sn) :
    ∃ L : List Int, L.length ≤ 24 ∧ Ev (fun k => spec_l9More.f k s r tk ([] : List Int) ((m + 1 : Nat) : Int) d) (L, true) ∧ Ev (fun k => impl_FirstSpaced.l0 k s r tk (mn d 25) ((m + 1 : Nat) : Int) (-1) (-1) 0 ([] : List Int)) (L, true) := by
  have hmore := fun x (hx : x < sn) => more_ev (r := r) hsn hs hl hsort ht hD1 hD (m + 1) hkk m x x [(x : Int)] ⟨by simp, by simp, fun y hy => by simp at hy; omega⟩ (by simp) (Nat.le_refl _) hx (by simp; omega)
  have hcnt := fun p (hp : p < sn) => count_in (r := r) hsn hs hl hsort ht hD1 hD m p p (by omega) (Nat.le_refl _) hp
  have hmay : ∀ x : Nat, x < sn → Ev (fun k => spec_l9May.f k s r tk ([] : List Int) (x : Int) d) ((fun p : Nat => canB s r tk d (p : Int)) x) := fun x hx =>
    may_ev s r tk ([] : List Int) d (x : Int) (by omega) (by omega) hl (fun y hy => by simp at hy) ht (by simp) _ ⟨fun h => ⟨h, fun j hj => by simp at hj⟩, fun h => h.1⟩
  have hfol : ∀ x : Nat, x < sn → Ev (fun k => impl_spacing_follows.f k s r tk (mn d 25) (-1) (-1) (x : Int)) ((fun p : Nat => canB s r tk d (p : Int)) x) := fun x hx => by
    unfold impl_spacing_follows.f
    refine Ev.bind (can_ev s r tk d (x : Int) (by omega) (by omega) hl hsort ht) ?_
    dsimp only
    cases canB s r tk d (x : Int) with
    | false => exact Ev.neg (by decide) (Ev.now _)
    | true => exact Ev.pos rfl (Ev.pos (by omega) (Ev.now _))
  generalize (fun p : Nat => canB s r tk d (p : Int)) = o at hT hmore hcnt hmay hfol
  have lp := top_lp (r := r) (tk := tk) (d := d) hsn hs.2 m hkk o (fun x => cn o D (bpN r sn D x) m (bpN r sn D x - (x + D))) (fun x => rgs o r sn D m (sn - x))
    (by show rgs o r sn D m (sn - sn) = 0; rw [Nat.sub_self]; rfl)
    (fun x hx => by
      show rgs o r sn D m (sn - x) = (if o x then cn o D (bpN r sn D x) m (bpN r sn D x - (x + D)) else 0) + rgs o r sn D m (sn - (x + 1))
      rw [show sn - x = (sn - (x + 1)) + 1 by omega, rgs_s, show sn - (sn - (x + 1) + 1) = x by omega])
    hmay hfol hcnt (own_list [] (by simp)) (fun x hx => (hmore x hx).1) (fun x hx => (hmore x hx).2) sn 0 (by omega) hT
  obtain ⟨L, ll, l1, l2⟩ := lp
  refine ⟨L, ll, Ev.succ ?_, l2⟩
  simp only [spec_l9More.f.eq_2]
  refine Ev.neg (by simp; omega) (Ev.neg (by simp) (Ev.succ ?_))
  simp only [spec_l9More.j0.eq_2]
  exact l1
end
theorem in24 (m : Int) : spec_l1In.f m 0 24 = some (decide (0 ≤ m ∧ m ≤ 24)) := by
  unfold spec_l1In.f
  by_cases c : m ≥ 0
  · rw [if_pos c]; congr 1; rw [Bool.eq_iff_iff, decide_eq_true_eq, decide_eq_true_eq]; omega
  · rw [if_neg c, decide_eq_false (by omega)]
theorem within24 (m : Int) : impl_within.f m 0 24 = some (decide (0 ≤ m ∧ m ≤ 24)) := by
  unfold impl_within.f
  by_cases c : m ≥ 0
  · rw [if_pos c]; congr 1; rw [Bool.eq_iff_iff, decide_eq_true_eq, decide_eq_true_eq]; omega
  · rw [if_neg c, decide_eq_false (by omega)]
theorem firstsp_key (s : Int) (r : Bool) (tk : List Int) (m d : Int) (hL : tk.length ≤ 35184372088832) : ∃ q : List Int × Bool, q.1.length ≤ 24 ∧ Ev (fun k => spec_FirstSpaced.f k s r tk m d) q ∧ Ev (fun k => impl_FirstSpaced.f k s r tk m d) q := by
  obtain ⟨b, hbb⟩ := exists_bool (IsRw s r tk)
  have h1 := l2Row_ev s r tk hL b hbb
  have h2 := isRow_ev s r tk hL b hbb
  unfold spec_FirstSpaced.f impl_FirstSpaced.f spec_l9Ask.f impl_isChosen.f impl_isSpacing.f
  cases b with
  | false => exact ⟨([], false), by simp, Ev.bind (Ev.bind h1 (Ev.neg (by decide) (Ev.now _))) (Ev.neg (by decide) (Ev.now _)), Ev.bind (a := false) (Ev.bind (Ev.bind h2 (Ev.neg (by decide) (Ev.now _))) (Ev.neg (by decide) (Ev.now _))) (Ev.neg (by decide) (Ev.now _))⟩
  | true =>
    have hW := hbb.mp rfl
    have hS := hW.1
    by_cases hd : d ≥ 1
    rotate_left
    · exact ⟨([], false), by simp, Ev.bind (Ev.bind h1 (Ev.pos rfl (by rw [decide_eq_false hd]; exact Ev.now _))) (Ev.neg (by decide) (Ev.now _)), Ev.bind (a := false) (Ev.bind (Ev.bind h2 (Ev.pos rfl (by rw [decide_eq_false hd]; exact Ev.now _))) (Ev.neg (by decide) (Ev.now _))) (Ev.neg (by decide) (Ev.now _))⟩
    have h3 : Ev (fun k => (spec_l2Row.f k s r tk).bind fun t112 => (if t112 = true then (some (decide (d ≥ 1))) else (some false))) true := Ev.bind h1 (Ev.pos rfl (by rw [decide_eq_true hd]; exact Ev.now _))
    have h4 : Ev (fun k => (impl_IsRow.f k s r tk).bind fun t170 => (if t170 = true then (some (decide (d ≥ 1))) else (some false))) true := Ev.bind h2 (Ev.pos rfl (by rw [decide_eq_true hd]; exact Ev.now _))
    have e1 := in24 m
    have e2 := within24 m
    by_cases hm : 0 ≤ m ∧ m ≤ 24
    rotate_left
    · rw [decide_eq_false hm] at e1 e2
      exact ⟨([], false), by simp, Ev.bind h3 (Ev.pos rfl (Ev.bindc e1 (Ev.neg (by decide) (Ev.now _)))), Ev.bind (a := false) (Ev.bind h4 (Ev.pos rfl (Ev.bindc e2 (Ev.now _)))) (Ev.neg (by decide) (Ev.now _))⟩
    rw [decide_eq_true hm] at e1 e2
    obtain ⟨sn, hsn⟩ := Int.eq_ofNat_of_zero_le (show 0 ≤ s by omega)
    obtain ⟨kk, hkk⟩ := Int.eq_ofNat_of_zero_le hm.1
    obtain ⟨D, hD⟩ := Int.eq_ofNat_of_zero_le (show 0 ≤ (if d < s then d else s) by split <;> omega)
    have hD1 : 1 ≤ D := by split at hD <;> omega
    have c1 := counts_ev s r tk d sn hsn (by omega) hd hW.2.2.1 hL D hD.symm
    have c2 := count_top (r := r) hsn (by omega) hW.2.2.1 hW.2.2.2 hL hD1 hD.symm kk (by omega)
    have c3 := fun m hk hT => more_top (r := r) hsn (by omega) hW.2.2.1 hW.2.2.2 hL hD1 hD.symm m hk hT
    subst hkk
    have hrd := rowL_rd (totN (fun p : Nat => canB s r tk d (p : Int)) r sn D) kk (by omega)
    have hsp : ∀ q : List Int × Bool, Ev (fun k => (if rd (rowL (totN (fun p : Nat => canB s r tk d (p : Int)) r sn D)) (kk : Int) = 0 then (some (([] : List Int), false)) else ((spec_l9More.f k s r tk ([] : List Int) (kk : Int) d).bind fun bt218 => (some (bt218.1, bt218.2))))) q → Ev (fun k => (((spec_l2Row.f k s r tk).bind fun t112 => (if t112 = true then (some (decide (d ≥ 1))) else (some false)))).bind fun t223 => (if t223 = true then ((spec_l1In.f (kk : Int) 0 24).bind fun t224 => (if t224 = true then ((spec_l9First.f k s r tk (kk : Int) d).bind fun bt225 => (some (bt225.1, bt225.2))) else (some ((([] : List Int)), false)))) else (some ((([] : List Int)), false)))) q := fun q hq => by
      refine Ev.bind h3 (Ev.pos rfl (Ev.bindc e1 (Ev.pos rfl (Ev.bind (a := q) ?_ (Ev.now _)))))
      unfold spec_l9First.f
      exact Ev.bind c1 (Ev.pos (by omega) (Ev.pos (by rw [rowL_len]; omega) hq))
    cases kk with
    | zero =>
      refine ⟨([], true), by simp, hsp _ ?_, Ev.bind (a := true) (Ev.bind h4 (Ev.pos rfl (Ev.bindc e2 (Ev.now _)))) (Ev.pos rfl (Ev.bind c2 (Ev.neg (by show ¬ (((1 : Nat) : Int) = 0); decide) (Ev.succ ?_))))⟩
      · rw [hrd]
        refine Ev.neg (by show ¬ (((1 : Nat) : Int) = 0); decide) (Ev.bind (a := ([], true)) (Ev.succ ?_) (Ev.now _))
        simp only [spec_l9More.f.eq_2]
        exact Ev.pos rfl (Ev.now _)
      · simp only [impl_FirstSpaced.l0.eq_2]
        exact Ev.neg (by simp) (Ev.now _)
    | succ m =>
      rcases Nat.eq_zero_or_pos (rgs (fun p : Nat => canB s r tk d (p : Int)) r sn D m sn) with hz | hp
      · have hz2 : ((totN (fun p : Nat => canB s r tk d (p : Int)) r sn D (m + 1) : Nat) : Int) = 0 := by show ((rgs (fun p : Nat => canB s r tk d (p : Int)) r sn D m sn : Nat) : Int) = 0; rw [hz]; rfl
        rw [hz2] at c2 hrd
        exact ⟨([], false), by simp, hsp _ (by rw [hrd]; exact Ev.pos rfl (Ev.now _)), Ev.bind (a := true) (Ev.bind h4 (Ev.pos rfl (Ev.bindc e2 (Ev.now _)))) (Ev.pos rfl (Ev.bind c2 (Ev.pos rfl (Ev.now _))))⟩
      · obtain ⟨L, ll, l1, l2⟩ := c3 m (by omega) hp
        have hne : ¬ ((totN (fun p : Nat => canB s r tk d (p : Int)) r sn D (m + 1) : Nat) : Int) = 0 := by show ¬ ((rgs (fun p : Nat => canB s r tk d (p : Int)) r sn D m sn : Nat) : Int) = 0; omega
        exact ⟨(L, true), ll, hsp _ (by rw [hrd]; exact Ev.neg hne (Ev.bind l1 (Ev.now _))), Ev.bind (a := true) (Ev.bind h4 (Ev.pos rfl (Ev.bindc e2 (Ev.now _)))) (Ev.pos rfl (Ev.bind c2 (Ev.neg hne l2)))⟩
theorem FnExactFirstSpaced : laws_FnExactFirstSpaced.Pure := by
  intro s r tk m d _ hl0 hl _ _ _
  have hL : tk.length ≤ 35184372088832 := by omega
  refine Ev.rounds (g := fun k => laws_FnExactFirstSpaced.f k s r tk m d) ?_
  unfold laws_FnExactFirstSpaced.f
  refine Ev.bindc (szRow_eq s r tk _ hL (by omega) (by omega)) ?_
  by_cases hb : (1048576 : Int) - (tk.length : Int) < 0
  · rw [if_pos hb]; exact Ev.pos (by omega) (Ev.now _)
  rw [if_neg hb]
  refine Ev.neg hb ?_
  obtain ⟨q, hq, h1, h2⟩ := firstsp_key s r tk m d hL
  have hq2 : q.1.length ≤ 35184372088832 := by omega
  have ht := toRow_ev s r tk hL
  refine Ev.bind ht (Ev.bind h1 (Ev.bind ht (Ev.bind h2 (Ev.bind (eqIntS_ev q.1 hq2) (Ev.pos rfl (Ev.succ ?_))))))
  simp only [laws_FnExactFirstSpaced.j0.eq_2]
  refine Ev.neg (by simp) (Ev.bind ht (Ev.bind (eqRow_ev s r tk hL) (Ev.pos rfl (Ev.bind (markRow_ev s r tk hL) (Ev.neg (by show ¬ (1 + (tk.length : Int) < 0); omega) (Ev.bind (eqIntS_ev q.1 hq2) (Ev.pos rfl (Ev.succ ?_))))))))
  simp only [laws_FnExactFirstSpaced.j1.eq_2]
  refine Ev.neg (by simp) (Ev.bind (mark_ev q.1 1 (by omega) (by omega) hq2) (Ev.bind (held_ev 1 (by omega) (by omega) q.1.length hq2) (Ev.neg (by omega) (Ev.pos rfl (Ev.bind ht (Ev.bind h2 (Ev.bind (eqIntS_ev q.1 hq2) (Ev.pos rfl (Ev.succ ?_)))))))))
  simp only [laws_FnExactFirstSpaced.j2.eq_2]
  exact Ev.neg (by simp) (Ev.bind (held_ev 1 (by omega) (by omega) q.1.length hq2) (Ev.neg (by omega) (Ev.pos rfl (Ev.now _))))

end Go.Proofs.YtapbmneehaemeaaDoor.Pure
