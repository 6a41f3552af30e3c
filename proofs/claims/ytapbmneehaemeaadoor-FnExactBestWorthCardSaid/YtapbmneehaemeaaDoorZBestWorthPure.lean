/- The program's BestWorth returns what the reference's returns, for all arguments; the condition is that a pure law holds of what the print tells of both. -/
import Derived.Test.YtapbmneehaemeaaDoorZBestWorthPx14
namespace Go.Proofs.YtapbmneehaemeaaDoor.Pure
open Go.RowKit Go.Proofs.YtapbmneehaemeaaDoor.PFnExactBestWorth Go.Proofs.YtapbmneehaemeaaDoorW.PrintWords Go.Proofs.YtapbmneehaemeaaDoorW.PrintLast Go.Proofs.YtapbmneehaemeaaDoorW.PrintMore
set_option linter.unusedVariables false

theorem Ev.pos {α : Type} {c : Prop} [Decidable c] {f g : Nat → Option α} {r : α} (h : c) (k : Ev f r) : Ev (fun m => if c then f m else g m) r :=
  Ev.congr (fun _ => if_pos h) k
theorem Ev.neg {α : Type} {c : Prop} [Decidable c] {f g : Nat → Option α} {r : α} (h : ¬ c) (k : Ev g r) : Ev (fun m => if c then f m else g m) r :=
  Ev.congr (fun _ => if_neg h) k
theorem Ev.bindc {α β : Type} {x : Option α} {f : Nat → α → Option β} {a : α} {r : β} (h : x = some a) (k : Ev (fun n => f n a) r) : Ev (fun n => x.bind (f n)) r := by
  subst h; exact k
theorem Ev.succ {α : Type} {g : Nat → Option α} {r : α} (k : Ev (fun n => g (n + 1)) r) : Ev g r := Ev.step (fun _ => rfl) k
theorem w64 {n : Int} (h0 : -9223372036854775808 ≤ n) (h1 : n < 9223372036854775808) : wrap64 n = n := by unfold wrap64; omega
theorem rd_nat (l : List Int) (i : Nat) (h : i < l.length) : rd l (i : Int) = l[i] := by
  unfold rd; rw [Int.toNat_natCast, List.getD_eq_getElem?_getD, List.getElem?_eq_getElem h]; rfl
/-- a loop that ends early, with one answer, where P fails -/
theorem ev_all {α : Type} (L : Nat → Nat → Option α) (n : Nat) (P : Nat → Prop) (rEnd : α)
    (hend : Ev (fun k => L k n) rEnd) (hgood : ∀ i, i < n → P i → ∀ r, Ev (fun k => L k (i + 1)) r → Ev (fun k => L k i) r)
    (i : Nat) (hi : i ≤ n) (h : ∀ j, i ≤ j → j < n → P j) : Ev (fun k => L k i) rEnd := by
  obtain ⟨d, hd⟩ : ∃ d, i + d = n := ⟨n - i, by omega⟩
  induction d generalizing i with
  | zero => rw [show i = n by omega]; exact hend
  | succ d ih => exact hgood i (by omega) (h i (by omega) (by omega)) _ (ih (i + 1) (by omega) (fun j h1 h2 => h j (by omega) h2) (by omega))
theorem ev_bad {α : Type} (L : Nat → Nat → Option α) (n : Nat) (P : Nat → Prop) (rBad : α)
    (hgood : ∀ i, i < n → P i → ∀ r, Ev (fun k => L k (i + 1)) r → Ev (fun k => L k i) r) (hbad : ∀ i, i < n → ¬ P i → Ev (fun k => L k i) rBad)
    (i : Nat) (h : ∃ j, i ≤ j ∧ j < n ∧ ¬ P j) : Ev (fun k => L k i) rBad := by
  obtain ⟨j, h1, h2, h3⟩ := h
  obtain ⟨d, hd⟩ : ∃ d, i + d = j := ⟨j - i, by omega⟩
  induction d generalizing i with
  | zero => rw [show i = j by omega]; exact hbad j h2 h3
  | succ d ih =>
    by_cases hp : P i
    · exact hgood i (by omega) hp _ (ih (i + 1) (by omega) (by omega))
    · exact hbad i (by omega) hp
theorem ev_dec {α : Type} (L : Nat → Nat → Option α) (n : Nat) (P : Nat → Prop) [DecidablePred P] (f : Bool → α)
    (hend : Ev (fun k => L k n) (f true)) (hgood : ∀ i, i < n → P i → ∀ r, Ev (fun k => L k (i + 1)) r → Ev (fun k => L k i) r)
    (hbad : ∀ i, i < n → ¬ P i → Ev (fun k => L k i) (f false)) (b : Bool) (hb : b = true ↔ ∀ j, j < n → P j) : Ev (fun k => L k 0) (f b) := by
  cases b with
  | true => exact ev_all L n P (f true) hend hgood 0 (by omega) (fun j _ h => hb.mp rfl j h)
  | false =>
    refine ev_bad L n P (f false) hgood hbad 0 ?_
    by_cases h : ∀ j, j < n → P j
    · exact absurd (hb.mpr h) (by decide)
    · have : ∃ j, ¬ (j < n → P j) := Classical.not_forall.mp h
      obtain ⟨j, hj⟩ := this
      exact ⟨j, by omega, Decidable.byContradiction (fun c => hj (fun h2 => absurd h2 c)), fun c => hj (fun _ => c)⟩
theorem toIntS_loop (l : List Int) (hl : l.length ≤ 35184372088832) : ∀ (d i : Nat) (acc : List Int), i + d = l.length → acc.length = l.length → (∀ j, j < i → acc[j]? = l[j]?) → Ev (fun k => laws_toIntS.l0 k l acc (i : Int)) l := by
  intro d
  induction d with
  | zero =>
    intro i acc hi ha hj
    refine Ev.succ ?_
    simp only [laws_toIntS.l0.eq_2]
    refine Ev.neg (by omega) ?_
    have : acc = l := List.ext_getElem? (fun j => by
      by_cases h : j < i
      · exact hj j h
      · rw [List.getElem?_eq_none (by omega), List.getElem?_eq_none (by omega)])
    rw [this]; exact Ev.now _
  | succ d ih =>
    intro i acc hi ha hj
    refine Ev.succ ?_
    simp only [laws_toIntS.l0.eq_2]
    refine Ev.pos (by omega) (Ev.pos (by omega) (Ev.pos (by omega) ?_))
    rw [w64 (by omega) (by omega)]
    refine ih (i + 1) _ (by omega) (by simpa using ha) ?_
    intro j h
    rw [Int.toNat_natCast, List.getElem?_set]
    by_cases e : i = j
    · subst e
      rw [if_pos rfl, if_pos (by omega), rd_nat l i (by omega), List.getElem?_eq_getElem]
    · rw [if_neg e]; exact hj j (by omega)
theorem toIntS_ev (l : List Int) (hl : l.length ≤ 35184372088832) : Ev (fun k => laws_toIntS.f k l) l := by
  unfold laws_toIntS.f
  refine Ev.pos (by omega) (Ev.pos (by omega) ?_)
  exact toIntS_loop l hl l.length 0 _ (by omega) (by simp) (fun j h => by omega)
theorem eqIntS_loop (l : List Int) (hl : l.length ≤ 35184372088832) : ∀ (d i : Nat), i + d = l.length → Ev (fun k => laws_eqIntS.l0 k l l (i : Int)) true := by
  intro d
  induction d with
  | zero =>
    intro i hi
    refine Ev.succ ?_
    simp only [laws_eqIntS.l0.eq_2]
    exact Ev.neg (by omega) (Ev.now _)
  | succ d ih =>
    intro i hi
    refine Ev.succ ?_
    simp only [laws_eqIntS.l0.eq_2]
    refine Ev.pos (by omega) (Ev.pos (by omega) (Ev.pos (by omega) (Ev.pos (by trivial) ?_)))
    rw [w64 (by omega) (by omega)]
    exact ih (i + 1) (by omega)
theorem eqIntS_ev (l : List Int) (hl : l.length ≤ 35184372088832) : Ev (fun k => laws_eqIntS.f k l l) true := by
  unfold laws_eqIntS.f
  exact Ev.pos rfl (eqIntS_loop l hl l.length 0 (by omega))
theorem within_eq (a b c : Int) : impl_within.f a b c = some (decide (b ≤ a ∧ a ≤ c)) := by
  unfold impl_within.f
  by_cases h : a ≥ b
  · rw [if_pos h]; simp [show b ≤ a from h]
  · rw [if_neg h]; simp [show ¬ b ≤ a from h]
theorem l1In_eq (a b c : Int) : spec_l1In.f a b c = some (decide (b ≤ a ∧ a ≤ c)) := by
  unfold spec_l1In.f
  by_cases h : a ≥ b
  · rw [if_pos h]; simp [show b ≤ a from h]
  · rw [if_neg h]; simp [show ¬ b ≤ a from h]
theorem allWithin_loop (l : List Int) (lo hi : Int) (hl : l.length ≤ 35184372088832) : ∀ (d i : Nat), i + d = l.length → Ev (fun k => impl_allWithin.l0 k lo hi l (l.length : Int) (i : Int)) (decide (∀ x ∈ l.drop i, lo ≤ x ∧ x ≤ hi)) := by
  intro d
  induction d with
  | zero =>
    intro i hi
    refine Ev.succ ?_
    simp only [impl_allWithin.l0.eq_2]
    rw [List.drop_of_length_le (by omega)]
    exact Ev.neg (by omega) (by simp; exact Ev.now _)
  | succ d ih =>
    intro i hi'
    refine Ev.succ ?_
    simp only [impl_allWithin.l0.eq_2]
    refine Ev.pos (by omega) (Ev.pos (by omega) (Ev.pos (by omega) (Ev.bindc (within_eq _ _ _) ?_)))
    have hd : l.drop i = l[i] :: l.drop (i + 1) := (List.drop_eq_getElem_cons (by omega))
    rw [rd_nat l i (by omega)]
    by_cases e : lo ≤ l[i] ∧ l[i] ≤ hi
    · refine Ev.pos (decide_eq_true e) ?_
      rw [w64 (by omega) (by omega)]
      have e1 : (∀ x ∈ l.drop i, lo ≤ x ∧ x ≤ hi) ↔ (∀ x ∈ l.drop (i + 1), lo ≤ x ∧ x ≤ hi) := by rw [hd]; simp only [List.mem_cons, forall_eq_or_imp, e, true_and]
      rw [decide_eq_decide.mpr e1]
      exact ih (i + 1) (by omega)
    · rw [show decide (∀ x ∈ l.drop i, lo ≤ x ∧ x ≤ hi) = false by rw [hd]; simp only [List.mem_cons, forall_eq_or_imp, decide_eq_false_iff_not]; exact fun h => e h.1]
      exact Ev.neg (by simpa using e) (Ev.now _)
theorem allWithin_ev (l : List Int) (lo hi : Int) (hl : l.length ≤ 35184372088832) : Ev (fun k => impl_allWithin.f k l lo hi) (decide (∀ x ∈ l, lo ≤ x ∧ x ≤ hi)) := allWithin_loop l lo hi hl l.length 0 (by omega)
theorem has_loop (l : List Int) (x : Int) (hl : l.length ≤ 35184372088832) : ∀ (d i : Nat), i + d = l.length → Ev (fun k => spec_l1Has.l0 k l x (i : Int)) (decide (x ∈ l.drop i)) := by
  intro d
  induction d with
  | zero =>
    intro i hi
    refine Ev.succ ?_
    simp only [spec_l1Has.l0.eq_2]
    rw [List.drop_of_length_le (by omega)]
    exact Ev.neg (by omega) (Ev.now _)
  | succ d ih =>
    intro i hi
    refine Ev.succ ?_
    simp only [spec_l1Has.l0.eq_2]
    refine Ev.pos (by omega) (Ev.pos (by omega) ?_)
    have hd : l.drop i = l[i] :: l.drop (i + 1) := (List.drop_eq_getElem_cons (by omega))
    rw [rd_nat l i (by omega)]
    by_cases e : l[i] = x
    · rw [show decide (x ∈ l.drop i) = true by rw [hd]; simp [e]]
      exact Ev.pos e (Ev.now _)
    · refine Ev.neg e ?_
      rw [w64 (by omega) (by omega)]
      have := ih (i + 1) (by omega)
      rw [show decide (x ∈ l.drop i) = decide (x ∈ l.drop (i + 1)) by rw [hd]; simp only [List.mem_cons, Ne.symm e, false_or]]
      exact this
theorem has_ev (l : List Int) (x : Int) (hl : l.length ≤ 35184372088832) : Ev (fun k => spec_l1Has.f k l x) (decide (x ∈ l)) := has_loop l x hl l.length 0 (by omega)
theorem szIntS_eq (l : List Int) (a : Int) (hl : l.length ≤ 35184372088832) (h0 : 0 ≤ a) (h1 : a ≤ 1048576) : laws_szIntS.f l a = some (if a - (l.length : Int) < 0 then -1 else a - (l.length : Int)) := by
  unfold laws_szIntS.f
  rw [w64 (by omega) (by omega)]
  split <;> rfl
def pc : Nat → Nat → Nat
  | 0, _ => 0
  | k + 1, n => n % 2 + pc k (n / 2)
theorem u32_nat (a b : Nat) (ha : a < 4294967296) (hb : b < 4294967296) : Go.bits .and .u32 (a : Int) (b : Int) = ((a &&& b : Nat) : Int) ∧ Go.bits .or .u32 (a : Int) (b : Int) = ((a ||| b : Nat) : Int) :=
  bits_nat .u32 32 (by decide) (fun n h0 h1 => by rw [IntKind.wrap_u32]; omega) a b (by omega) (by omega)
/-- the set of some seats -/
def setN (l : List Int) : Nat := l.foldl (fun s p => s ||| 2 ^ p.toNat) 0
theorem foldl_or_bit (l : List Int) (s j : Nat) : (l.foldl (fun s p => s ||| 2 ^ p.toNat) s).testBit j = (s.testBit j || decide (∃ p ∈ l, p.toNat = j)) := by
  induction l generalizing s with
  | nil => simp
  | cons p l ih =>
    rw [List.foldl_cons, ih, Nat.testBit_or, Nat.testBit_two_pow]
    simp only [List.mem_cons, exists_eq_or_imp, Bool.decide_or, Bool.or_assoc]
theorem setN_bit (l : List Int) (j : Nat) : (setN l).testBit j = decide (∃ p ∈ l, p.toNat = j) := by
  unfold setN; rw [foldl_or_bit]; simp
theorem setN_lt (l : List Int) (h : ∀ x ∈ l, 0 ≤ x ∧ x < 32) : setN l < 4294967296 := by
  refine Nat.lt_pow_two_of_testBit (n := 32) _ (fun j hj => ?_)
  rw [setN_bit]
  simp only [decide_eq_false_iff_not, not_exists, not_and]
  intro x hx e
  have := h x hx
  omega
theorem setN_take (l : List Int) (i : Nat) (h : i < l.length) : setN (l.take (i + 1)) = setN (l.take i) ||| 2 ^ (l[i]).toNat := by
  unfold setN
  rw [List.take_succ_eq_append_getElem h, List.foldl_append]
  rfl
theorem two_pow_lt32 (p : Int) (h0 : 0 ≤ p) (h1 : p < 32) : 2 ^ p.toNat < 4294967296 := Nat.pow_lt_pow_right (m := p.toNat) (n := 32) (by decide) (by omega)
theorem shl_u32_one (p : Int) (h0 : 0 ≤ p) (h1 : p < 32) : shl .u32 1 p = ((2 ^ p.toNat : Nat) : Int) := by
  unfold shl
  rw [Nat.min_eq_left (by simp [IntKind.bits]; omega), IntKind.wrap_u32]
  have e : (1 * 2 ^ p.toNat : Int) = ((2 ^ p.toNat : Nat) : Int) := by rw [Int.one_mul]; push_cast; rfl
  rw [e]; exact Int.emod_eq_of_lt (Int.natCast_nonneg _) (Int.ofNat_lt.mpr (two_pow_lt32 p h0 h1))
theorem setOf_loop (l : List Int) (h : ∀ x ∈ l, 0 ≤ x ∧ x < 32) (hl : l.length ≤ 35184372088832) : ∀ (d i : Nat), i + d = l.length → Ev (fun k => impl_setOf.l0 k (setN (l.take i) : Int) l (l.length : Int) (i : Int)) (setN l : Int) := by
  intro d
  induction d with
  | zero =>
    intro i hi
    refine Ev.succ ?_
    simp only [impl_setOf.l0.eq_2]
    rw [List.take_of_length_le (by omega)]
    exact Ev.neg (by omega) (Ev.now _)
  | succ d ih =>
    intro i hi
    refine Ev.succ ?_
    simp only [impl_setOf.l0.eq_2]
    have hx := h (l[i]) (List.getElem_mem (by omega))
    rw [rd_nat l i (by omega)]
    refine Ev.pos (by omega) (Ev.pos (by omega) (Ev.pos (by omega) (Ev.pos hx.1 ?_)))
    rw [w64 (by omega) (by omega), shl_u32_one _ hx.1 hx.2]
    rw [(u32_nat _ _ (setN_lt _ (fun x hx => h x (List.mem_of_mem_take hx))) (two_pow_lt32 _ hx.1 hx.2)).2, ← setN_take l i (by omega)]
    exact ih (i + 1) (by omega)
theorem setOf_ev (l : List Int) (h : ∀ x ∈ l, 0 ≤ x ∧ x < 32) (hl : l.length ≤ 35184372088832) : Ev (fun k => impl_setOf.f k l) (setN l : Int) := setOf_loop l h hl l.length 0 (by omega)
/-- a list that has each number less than n once -/
def IsOrd (l : List Int) (n : Int) : Prop := (l.length : Int) = n ∧ ∀ i : Nat, (i : Int) < n → (i : Int) ∈ l
theorem ph_len : ∀ (n : Nat) (l : List Int), (∀ i : Nat, i < n → (i : Int) ∈ l) → n ≤ l.length := by
  intro n
  induction n with
  | zero => intro l _; omega
  | succ n ih =>
    intro l h
    have hm := h n (by omega)
    have := ih (l.erase (n : Int)) (fun i hi => (List.mem_erase_of_ne (by omega)).mpr (h i (by omega)))
    rw [List.length_erase_of_mem hm] at this
    have : 0 < l.length := List.length_pos_of_mem hm
    omega
instance (l : List Int) (n : Int) : Decidable (IsOrd l n) := decidable_of_iff ((l.length : Int) = n ∧ ∀ i : Fin l.length, (i.val : Int) ∈ l) (by
  unfold IsOrd
  constructor
  · rintro ⟨h1, h2⟩; exact ⟨h1, fun i hi => h2 ⟨i, by omega⟩⟩
  · rintro ⟨h1, h2⟩; exact ⟨h1, fun i => h2 i.val (by have := i.isLt; omega)⟩)
theorem getD_lt (l : List Int) (i : Nat) (h : i < l.length) : l.getD i 0 = l[i] := by rw [List.getD_eq_getElem?_getD, List.getElem?_eq_getElem h]; rfl
theorem rd_getD (l : List Int) (i : Nat) : rd l (i : Int) = l.getD i 0 := by unfold rd; rw [Int.toNat_natCast]
theorem exists_bool (p : Prop) : ∃ b : Bool, b = true ↔ p := by
  by_cases h : p
  · exact ⟨true, by simp [h]⟩
  · exact ⟨false, by simp [h]⟩
/-- a valid row -/
def IsRw (s : Int) (r : Bool) (l : List Int) : Prop := (2 ≤ s ∧ s ≤ 24) ∧ (r = true → 3 ≤ s) ∧ (∀ x ∈ l, 0 ≤ x ∧ x < s) ∧ l.Pairwise (· < ·)
def rwP (l : List Int) (hi : Int) (i : Nat) : Prop := (0 ≤ l.getD i 0 ∧ l.getD i 0 ≤ hi) ∧ (0 < i → l.getD (i - 1) 0 < l.getD i 0)
instance (l : List Int) (hi : Int) (i : Nat) : Decidable (rwP l hi i) := by unfold rwP; infer_instance
theorem rwP_all (l : List Int) (hi : Int) : (∀ i, i < l.length → rwP l hi i) ↔ (∀ x ∈ l, 0 ≤ x ∧ x ≤ hi) ∧ l.Pairwise (· < ·) := by
  constructor
  · intro h
    refine ⟨fun x hx => ?_, ?_⟩
    · obtain ⟨i, hi', rfl⟩ := List.mem_iff_getElem.mp hx
      have := (h i hi').1
      rw [getD_lt l i hi'] at this
      exact this
    · rw [List.pairwise_iff_getElem]
      intro i j hi' hj hij
      obtain ⟨d, hd⟩ : ∃ d, i + 1 + d = j := ⟨j - i - 1, by omega⟩
      induction d generalizing j with
      | zero =>
        have := (h j hj).2 (by omega)
        rw [getD_lt l j hj, show j - 1 = i by omega, getD_lt l i hi'] at this
        exact this
      | succ d ih =>
        have h1 := ih (j - 1) (by omega) (by omega) (by omega)
        have h2 := (h j hj).2 (by omega)
        rw [getD_lt l j hj, getD_lt l (j - 1) (by omega)] at h2
        omega
  · rintro ⟨h1, h2⟩ i hi'
    refine ⟨?_, fun h0 => ?_⟩
    · rw [getD_lt l i hi']; exact h1 _ (List.getElem_mem _)
    · rw [getD_lt l i hi', getD_lt l (i - 1) (by omega)]
      exact (List.pairwise_iff_getElem.mp h2) (i - 1) i (by omega) hi' (by omega)
theorem rising_ev (l : List Int) (hi : Int) (hl : l.length ≤ 35184372088832) (b : Bool) (hb : b = true ↔ ∀ i, i < l.length → rwP l hi i) : Ev (fun k => spec_l1Rising.f k l 0 hi) b := by
  unfold spec_l1Rising.f
  refine ev_dec (fun k i => spec_l1Rising.l0 k l 0 hi (i : Int)) l.length (rwP l hi) id ?_ ?_ ?_ b hb
  · refine Ev.succ ?_
    simp only [spec_l1Rising.l0.eq_2]
    exact Ev.neg (by omega) (Ev.now _)
  · intro i hi' hp r h
    refine Ev.succ ?_
    simp only [spec_l1Rising.l0.eq_2]
    rw [rd_getD, w64 (n := (i : Int) + 1) (by omega) (by omega), w64 (n := (i : Int) - 1) (by omega) (by omega)]
    refine Ev.pos (by omega) (Ev.pos (by omega) (Ev.bindc (l1In_eq _ _ _) (Ev.pos (decide_eq_true hp.1) ?_)))
    by_cases h0 : (i : Int) > 0
    · have := hp.2 (by omega)
      rw [show (i : Int) - 1 = ((i - 1 : Nat) : Int) by omega, rd_getD]
      exact Ev.pos h0 (Ev.pos (by omega) (Ev.pos (by omega) (Ev.neg (by omega) h)))
    · exact Ev.neg h0 h
  · intro i hi' hp
    refine Ev.succ ?_
    simp only [spec_l1Rising.l0.eq_2]
    rw [rd_getD, w64 (n := (i : Int) - 1) (by omega) (by omega)]
    refine Ev.pos (by omega) (Ev.pos (by omega) (Ev.bindc (l1In_eq _ _ _) ?_))
    by_cases h1 : 0 ≤ l.getD i 0 ∧ l.getD i 0 ≤ hi
    · have h2 : ¬ (0 < i → l.getD (i - 1) 0 < l.getD i 0) := fun h => hp ⟨h1, h⟩
      have h0 : 0 < i := Decidable.byContradiction (fun c => h2 (fun h => absurd h c))
      have h3 : ¬ l.getD (i - 1) 0 < l.getD i 0 := fun h => h2 (fun _ => h)
      rw [show (i : Int) - 1 = ((i - 1 : Nat) : Int) by omega, rd_getD]
      exact Ev.pos (decide_eq_true h1) (Ev.pos (by omega) (Ev.pos (by omega) (Ev.pos (by omega) (Ev.pos (by omega) (Ev.now _)))))
    · exact Ev.neg (by simpa using h1) (Ev.now _)
theorem l2Row_ev (s : Int) (r : Bool) (l : List Int) (hl : l.length ≤ 35184372088832) (b : Bool) (hb : b = true ↔ IsRw s r l) : Ev (fun k => spec_l2Row.f k s r l) b := by
  unfold spec_l2Row.f
  have hno : ¬ IsRw s r l → b = false := fun h => by
    cases b with
    | false => rfl
    | true => exact absurd (hb.mp rfl) h
  refine Ev.bindc (l1In_eq _ _ _) ?_
  by_cases hs : 2 ≤ s ∧ s ≤ 24
  · refine Ev.pos (decide_eq_true hs) ?_
    rw [w64 (by omega) (by omega)]
    have main : (r = true → 3 ≤ s) → (b = true ↔ ∀ i, i < l.length → rwP l (s - 1) i) := by
      intro h3
      rw [hb, rwP_all]
      unfold IsRw
      constructor
      · rintro ⟨_, _, h4, h5⟩; exact ⟨fun x hx => by have := h4 x hx; omega, h5⟩
      · rintro ⟨h4, h5⟩; exact ⟨hs, h3, fun x hx => by have := h4 x hx; omega, h5⟩
    by_cases hr : r = true
    · refine Ev.pos hr ?_
      by_cases h3 : s > 2
      · exact Ev.pos h3 (Ev.bind (f := fun _ t => some t) (rising_ev l (s - 1) hl b (main (fun _ => by omega))) (Ev.now _))
      · rw [hno (fun h => h3 (by have := h.2.1 hr; omega))]
        exact Ev.neg h3 (Ev.now _)
    · exact Ev.neg hr (Ev.bind (f := fun _ t => some t) (rising_ev l (s - 1) hl b (main (fun h => absurd h hr))) (Ev.now _))
  · rw [hno (fun h => hs h.1)]
    exact Ev.neg (by simpa using hs) (Ev.now _)
theorem bench_has1 (s : Int) (r : Bool) (x : Int) : Ev (fun k => impl_bench_has.f k s r [x]) (decide (0 ≤ x ∧ x ≤ wrap64 (s - 1))) := by
  unfold impl_bench_has.f
  refine Ev.bind (f := fun _ t => some t) (allWithin_ev [x] 0 _ (by simp)) ?_
  simp only [List.mem_singleton, forall_eq]
  exact Ev.now _
theorem bench_valid_eq (s : Int) (r : Bool) (b : Bool) (hb : b = true ↔ (2 ≤ s ∧ s ≤ 24) ∧ (r = true → 3 ≤ s)) : impl_bench_valid.f s r = some b := by
  unfold impl_bench_valid.f
  rw [within_eq, Option.bind_some]
  by_cases hs : 2 ≤ s ∧ s ≤ 24
  · rw [if_pos (decide_eq_true hs)]
    cases r with
    | true => rw [if_pos rfl]; congr 1; rw [Bool.eq_iff_iff, hb]; simp only [decide_eq_true_eq]; exact ⟨fun h => ⟨hs, fun _ => h⟩, fun h => h.2 (by trivial)⟩
    | false => rw [if_neg (by decide)]; congr 1; rw [Bool.eq_iff_iff, hb]; simp [hs]
  · rw [if_neg (by simpa using hs)]; congr 1; rw [Bool.eq_iff_iff, hb]; simp only [Bool.false_eq_true, false_iff]; exact fun h => hs h.1
theorem isRow_ev (s : Int) (r : Bool) (l : List Int) (hl : l.length ≤ 35184372088832) (b : Bool) (hb : b = true ↔ IsRw s r l) : Ev (fun k => impl_IsRow.f k s r l) b := by
  unfold impl_IsRow.f
  obtain ⟨v, hv⟩ := exists_bool ((2 ≤ s ∧ s ≤ 24) ∧ (r = true → 3 ≤ s))
  obtain ⟨c, hc⟩ := exists_bool (∀ i, i < l.length → rwP l (wrap64 (s - 1)) i)
  have hbc : b = (if c = true then v else false) := by
    rw [Bool.eq_iff_iff, hb]
    unfold IsRw
    constructor
    · rintro ⟨h1, h2, h3, h4⟩
      have hcc : c = true := by
        rw [hc, rwP_all, w64 (by omega) (by omega)]
        exact ⟨fun x hx => by have := h3 x hx; omega, h4⟩
      rw [if_pos hcc, hv]; exact ⟨h1, h2⟩
    · intro h
      by_cases hcc : c = true
      · rw [if_pos hcc, hv] at h
        rw [hc, rwP_all, w64 (by omega) (by omega)] at hcc
        exact ⟨h.1, h.2, fun x hx => by have := hcc.1 x hx; omega, hcc.2⟩
      · rw [if_neg hcc] at h; cases h
  rw [hbc]
  refine ev_dec (fun k i => impl_IsRow.l0 k l (l.length : Int) (i : Int) s r l) l.length (rwP l (wrap64 (s - 1))) (fun c => if c = true then v else false) ?_ ?_ ?_ c hc
  · refine Ev.succ ?_
    simp only [impl_IsRow.l0.eq_2]
    exact Ev.neg (by omega) (Ev.bindc rfl (Ev.bindc (bench_valid_eq s r v hv) (Ev.now _)))
  · intro i hi' hp q h
    refine Ev.succ ?_
    simp only [impl_IsRow.l0.eq_2]
    rw [rd_getD, w64 (n := (i : Int) + 1) (by omega) (by omega), w64 (n := (i : Int) - 1) (by omega) (by omega)]
    refine Ev.pos (by omega) (Ev.pos (by omega) (Ev.pos (by omega) (Ev.bindc rfl (Ev.bind (bench_has1 s r _) (Ev.pos (decide_eq_true hp.1) ?_)))))
    by_cases h0 : (i : Int) > 0
    · have := hp.2 (by omega)
      rw [show (i : Int) - 1 = ((i - 1 : Nat) : Int) by omega, rd_getD]
      exact Ev.pos h0 (Ev.pos (by omega) (Ev.pos (by omega) (Ev.neg (by omega) h)))
    · exact Ev.neg h0 h
  · intro i hi' hp
    refine Ev.succ ?_
    simp only [impl_IsRow.l0.eq_2]
    rw [rd_getD, w64 (n := (i : Int) - 1) (by omega) (by omega)]
    refine Ev.pos (by omega) (Ev.pos (by omega) (Ev.pos (by omega) (Ev.bindc rfl (Ev.bind (bench_has1 s r _) ?_))))
    by_cases h1 : 0 ≤ l.getD i 0 ∧ l.getD i 0 ≤ wrap64 (s - 1)
    · have h2 : ¬ (0 < i → l.getD (i - 1) 0 < l.getD i 0) := fun h => hp ⟨h1, h⟩
      have h0 : 0 < i := Decidable.byContradiction (fun c => h2 (fun h => absurd h c))
      have h3 : ¬ l.getD (i - 1) 0 < l.getD i 0 := fun h => h2 (fun _ => h)
      rw [show (i : Int) - 1 = ((i - 1 : Nat) : Int) by omega, rd_getD]
      exact Ev.pos (decide_eq_true h1) (Ev.pos (by omega) (Ev.pos (by omega) (Ev.pos (by omega) (Ev.pos (by omega) (Ev.now _)))))
    · exact Ev.neg (by simpa using h1) (Ev.now _)
/-- the gap of two seats -/
def gp (s : Int) (r : Bool) (p q : Int) : Int := if r = true then mn (mx (p - q) (q - p)) (s - mx (p - q) (q - p)) else mx (p - q) (q - p)
theorem mx_le {a b c : Int} (h1 : a ≤ c) (h2 : b ≤ c) : mx a b ≤ c := by unfold mx; split <;> omega
theorem le_mx {a b : Int} : a ≤ mx a b ∧ b ≤ mx a b := by unfold mx; split <;> omega
theorem l2Gap_eq (s : Int) (r : Bool) (l : List Int) (p q : Int) (hs : 0 ≤ s ∧ s ≤ 100) (hp : 0 ≤ p ∧ p < 100) (hq : 0 ≤ q ∧ q < 100) : spec_l2Gap.f s r l p q = some (gp s r p q) := by
  unfold spec_l2Gap.f spec_l1Most.f gp
  have e : (if p - q > q - p then some (p - q) else some (q - p)) = some (mx (p - q) (q - p)) := by
    unfold mx; split <;> split <;> first | rfl | (congr 1; omega)
  have h1 : mx (p - q) (q - p) ≤ 100 := mx_le (by omega) (by omega)
  have h2 := @le_mx (p - q) (q - p)
  rw [w64 (n := p - q) (by omega) (by omega), w64 (n := q - p) (by omega) (by omega), e, Option.bind_some]
  cases r with
  | true =>
    rw [if_pos rfl, if_pos rfl]
    unfold spec_l1Least.f
    rw [w64 (by omega) (by omega)]
    unfold mn
    split <;> split <;> first | rfl | (simp only [Option.bind_some]; congr 1; omega)
  | false => rw [if_neg (by decide), if_neg (by decide)]
theorem bench_gap_eq (s : Int) (r : Bool) (p q : Int) (hs : 0 ≤ s ∧ s ≤ 100) (hp : 0 ≤ p ∧ p < 100) (hq : 0 ≤ q ∧ q < 100) : impl_bench_gap.f s r p q = some (gp s r p q) := by
  unfold impl_bench_gap.f gp
  have h1 : mx (p - q) (q - p) ≤ 100 := mx_le (by omega) (by omega)
  have h2 := @le_mx (p - q) (q - p)
  rw [w64 (n := p - q) (by omega) (by omega), w64 (n := q - p) (by omega) (by omega), w64 (n := s - mx (p - q) (q - p)) (by omega) (by omega)]
  cases r with
  | true => rw [if_pos rfl, if_pos rfl]
  | false => rw [if_neg (by decide), if_neg (by decide)]
/-- the set of the numbers below n that meet R -/
def bld (R : Nat → Bool) : Nat → Nat
  | 0 => 0
  | n + 1 => if R n = true then bld R n ||| 2 ^ n else bld R n
/-- the first seat of a list with the least gap, and this gap -/
def nstStep (s : Int) (r : Bool) (p : Int) (st : Int × Int) (q : Int) : Int × Int := if st.1 < 0 then (q, gp s r p q) else if gp s r p q < st.2 then (q, gp s r p q) else st
def nst (s : Int) (r : Bool) (p : Int) (l : List Int) : Int × Int := l.foldl (nstStep s r p) (-1, -1)
theorem l2Nearest_ev (s : Int) (r : Bool) (tk l : List Int) (p : Int) (hl : l.length ≤ 35184372088832) (hs : 0 ≤ s ∧ s ≤ 100) (hp : 0 ≤ p ∧ p < 100) (hr : ∀ x ∈ l, 0 ≤ x ∧ x < 100) : Ev (fun k => spec_l2Nearest.f k s r tk l p) (nst s r p l) := by
  unfold spec_l2Nearest.f
  have key : ∀ d i (st : Int × Int), i + d = l.length → Ev (fun k => spec_l2Nearest.l0 k l p st.1 st.2 (i : Int) s r tk) ((l.drop i).foldl (nstStep s r p) st) := by
    intro d
    induction d with
    | zero =>
      intro i st hi
      refine Ev.succ ?_
      simp only [spec_l2Nearest.l0.eq_2]
      rw [List.drop_of_length_le (by omega)]
      exact Ev.neg (by omega) (Ev.now _)
    | succ d ih =>
      intro i st hi
      refine Ev.succ ?_
      simp only [spec_l2Nearest.l0.eq_2]
      have hx := hr l[i] (List.getElem_mem (by omega))
      rw [rd_nat l i (by omega), w64 (n := (i : Int) + 1) (by omega) (by omega)]
      refine Ev.pos (by omega) (Ev.pos (by omega) (Ev.bindc (l2Gap_eq s r tk p l[i] hs hp (by omega)) ?_))
      rw [List.drop_eq_getElem_cons (by omega), List.foldl_cons]
      have := ih (i + 1) (nstStep s r p st l[i]) (by omega)
      unfold nstStep at this ⊢
      by_cases h1 : st.1 < 0
      · rw [if_pos h1] at this ⊢; exact Ev.pos h1 this
      · rw [if_neg h1] at this ⊢
        refine Ev.neg h1 ?_
        by_cases h2 : gp s r p l[i] < st.2
        · rw [if_pos h2] at this ⊢; exact Ev.pos h2 this
        · rw [if_neg h2] at this ⊢; exact Ev.neg h2 this
  exact key l.length 0 (-1, -1) (by omega)
theorem nst_go (s : Int) (r : Bool) (p : Int) : ∀ (l : List Int) (st : Int × Int), 0 ≤ st.1 → (∀ x ∈ l, 0 ≤ x) → let f := l.foldl (nstStep s r p) st
    0 ≤ f.1 ∧ f.2 ≤ st.2 ∧ (∀ q ∈ l, f.2 ≤ gp s r p q) ∧ (f = st ∨ (f.1 ∈ l ∧ f.2 = gp s r p f.1)) := by
  intro l
  induction l with
  | nil => intro st h _; exact ⟨h, Int.le_refl _, by simp, .inl rfl⟩
  | cons q l ih =>
    intro st h hl
    have hq := hl q (by simp)
    have hl' : ∀ x ∈ l, 0 ≤ x := fun x hx => hl x (List.mem_cons_of_mem _ hx)
    simp only [List.foldl_cons]
    by_cases h2 : gp s r p q < st.2
    · have e : nstStep s r p st q = (q, gp s r p q) := by unfold nstStep; rw [if_neg (by omega), if_pos h2]
      rw [e]
      obtain ⟨a, b, c, d⟩ := ih (q, gp s r p q) hq hl'
      refine ⟨a, by simp only at b; omega, fun x hx => ?_, ?_⟩
      · rcases List.mem_cons.mp hx with rfl | hx
        · exact b
        · exact c x hx
      · rcases d with d | d
        · exact .inr ⟨by rw [d]; simp, by rw [d]⟩
        · exact .inr ⟨List.mem_cons_of_mem _ d.1, d.2⟩
    · have e : nstStep s r p st q = st := by unfold nstStep; rw [if_neg (by omega), if_neg h2]
      rw [e]
      obtain ⟨a, b, c, d⟩ := ih st h hl'
      refine ⟨a, b, fun x hx => ?_, ?_⟩
      · rcases List.mem_cons.mp hx with rfl | hx
        · omega
        · exact c x hx
      · rcases d with d | d
        · exact .inl d
        · exact .inr ⟨List.mem_cons_of_mem _ d.1, d.2⟩
theorem nst_cons (s : Int) (r : Bool) (p x : Int) (l : List Int) (hr : ∀ y ∈ x :: l, 0 ≤ y) : (nst s r p (x :: l)).1 ∈ x :: l ∧ (nst s r p (x :: l)).2 = gp s r p (nst s r p (x :: l)).1 ∧ ∀ q ∈ x :: l, (nst s r p (x :: l)).2 ≤ gp s r p q := by
  have e : nst s r p (x :: l) = l.foldl (nstStep s r p) (x, gp s r p x) := by
    unfold nst; rw [List.foldl_cons]; congr 1
  rw [e]
  obtain ⟨a, b, c, d⟩ := nst_go s r p l (x, gp s r p x) (hr x (by simp)) (fun y hy => hr y (List.mem_cons_of_mem _ hy))
  refine ⟨?_, ?_, ?_⟩
  · rcases d with d | d
    · rw [d]; simp
    · exact List.mem_cons_of_mem _ d.1
  · rcases d with d | d
    · rw [d]
    · exact d.2
  · intro q hq
    rcases List.mem_cons.mp hq with rfl | hq
    · exact b
    · exact c q hq
theorem gp_nonneg (s : Int) (r : Bool) (p q : Int) (hp : 0 ≤ p ∧ p ≤ s) (hq : 0 ≤ q ∧ q ≤ s) : 0 ≤ gp s r p q := by
  unfold gp mx mn; cases r <;> simp only [Bool.false_eq_true, if_false, if_true] <;> split <;> (try split) <;> omega
theorem nst_nil (s : Int) (r : Bool) (p : Int) : nst s r p [] = (-1, -1) := rfl
theorem land_rec (x y : Nat) : x &&& y = 2 * ((x / 2) &&& (y / 2)) + (x % 2) * (y % 2) := by
  have hd : (x % 2) * (y % 2) < 2 := by
    rcases Nat.mod_two_eq_zero_or_one x with h | h <;> rcases Nat.mod_two_eq_zero_or_one y with h2 | h2 <;> rw [h, h2] <;> decide
  refine Nat.eq_of_testBit_eq (fun j => ?_)
  cases j with
  | zero =>
    rw [Nat.testBit_and, Nat.testBit_zero, Nat.testBit_zero, Nat.testBit_zero]
    rcases Nat.mod_two_eq_zero_or_one x with h | h <;> rcases Nat.mod_two_eq_zero_or_one y with h2 | h2 <;> rw [h, h2] <;> simp <;> omega
  | succ j =>
    rw [Nat.testBit_and, Nat.testBit_succ, Nat.testBit_succ, Nat.testBit_succ]
    rw [show (2 * ((x / 2) &&& (y / 2)) + (x % 2) * (y % 2)) / 2 = (x / 2) &&& (y / 2) by omega, Nat.testBit_and]
/-- the place of the lowest bit -/
def low : Nat → Nat → Nat
  | 0, _ => 0
  | k + 1, n => if n % 2 = 1 then 0 else low k (n / 2) + 1
theorem neg_land (k : Nat) : ∀ n, 0 < n → n < 2 ^ k → (n &&& (2 ^ k - n)) = 2 ^ (low k n) ∧ low k n < k ∧ n.testBit (low k n) = true := by
  induction k with
  | zero => intro n h1 h2; simp at h2; omega
  | succ k ih =>
    intro n h1 h2
    have hp : 2 ^ (k + 1) = 2 * 2 ^ k := by rw [Nat.pow_succ]; omega
    rw [land_rec]
    unfold low
    by_cases ho : n % 2 = 1
    · rw [if_pos ho]
      have e1 : (2 ^ (k + 1) - n) / 2 = 2 ^ k - (n / 2 + 1) := by omega
      have e2 : (2 ^ (k + 1) - n) % 2 = 1 := by omega
      have hz : (n / 2) &&& (2 ^ k - (n / 2 + 1)) = 0 := by
        refine Nat.eq_of_testBit_eq (fun j => ?_)
        rw [Nat.testBit_and, Nat.testBit_two_pow_sub_succ (by omega), Nat.zero_testBit]
        cases (n / 2).testBit j <;> simp
      rw [e1, e2, hz, ho]
      exact ⟨rfl, by omega, by rw [Nat.testBit_zero]; simpa using ho⟩
    · rw [if_neg ho]
      have e0 : n % 2 = 0 := by omega
      have e1 : (2 ^ (k + 1) - n) / 2 = 2 ^ k - n / 2 := by omega
      obtain ⟨a, b, c⟩ := ih (n / 2) (by omega) (by omega)
      rw [e1, e0, a, Nat.zero_mul, Nat.add_zero]
      exact ⟨by rw [Nat.pow_succ]; omega, by omega, by rw [Nat.testBit_succ]; exact c⟩
/-- the places of all bits, in order -/
def lst : Nat → Nat → Nat → List Nat
  | 0, _, _ => []
  | k + 1, off, n => if n % 2 = 1 then off :: lst k (off + 1) (n / 2) else lst k (off + 1) (n / 2)
theorem lst_zero (k off : Nat) : lst k off 0 = [] := by
  induction k generalizing off with
  | zero => rfl
  | succ k ih => unfold lst; rw [if_neg (by decide)]; exact ih _
theorem lst_len (k off n : Nat) : (lst k off n).length ≤ k := by
  induction k generalizing off n with
  | zero => exact Nat.le_refl _
  | succ k ih =>
    have := ih (off + 1) (n / 2)
    unfold lst; split
    · rw [List.length_cons]; omega
    · omega
theorem lst_step (k : Nat) : ∀ n off, 0 < n → n < 2 ^ k → lst k off n = (off + low k n) :: lst k off (n &&& (n - 1)) ∧ n &&& (n - 1) < n := by
  induction k with
  | zero => intro n off h1 h2; simp at h2; omega
  | succ k ih =>
    intro n off h1 h2
    have hp : 2 ^ (k + 1) = 2 * 2 ^ k := by rw [Nat.pow_succ]; omega
    rw [land_rec n (n - 1)]
    by_cases ho : n % 2 = 1
    · have e1 : (n - 1) / 2 = n / 2 := by omega
      have e2 : (n - 1) % 2 = 0 := by omega
      rw [e1, e2, Nat.and_self]
      simp only [Nat.mul_zero, Nat.add_zero]
      have l1 : lst (k + 1) off n = off :: lst k (off + 1) (n / 2) := if_pos ho
      have l2 : lst (k + 1) off (2 * (n / 2)) = lst k (off + 1) (n / 2) := by
        rw [show lst (k + 1) off (2 * (n / 2)) = lst k (off + 1) (2 * (n / 2) / 2) from if_neg (by omega), show 2 * (n / 2) / 2 = n / 2 by omega]
      have l3 : low (k + 1) n = 0 := if_pos ho
      rw [l1, l2, l3]
      exact ⟨rfl, by omega⟩
    · have e0 : n % 2 = 0 := by omega
      have e1 : (n - 1) / 2 = n / 2 - 1 := by omega
      obtain ⟨a, b⟩ := ih (n / 2) (off + 1) (by omega) (by omega)
      rw [e1, e0]
      simp only [Nat.zero_mul, Nat.add_zero]
      have l1 : lst (k + 1) off n = lst k (off + 1) (n / 2) := if_neg ho
      have l2 : lst (k + 1) off (2 * (n / 2 &&& (n / 2 - 1))) = lst k (off + 1) (n / 2 &&& (n / 2 - 1)) := by
        rw [show lst (k + 1) off (2 * (n / 2 &&& (n / 2 - 1))) = lst k (off + 1) (2 * (n / 2 &&& (n / 2 - 1)) / 2) from if_neg (by omega), Nat.mul_div_cancel_left _ (by decide)]
      have l3 : low (k + 1) n = low k (n / 2) + 1 := if_neg ho
      rw [l1, l2, l3, a]
      exact ⟨by congr 1; omega, by omega⟩
theorem lst_mem (k : Nat) : ∀ n off x, x ∈ lst k off n ↔ off ≤ x ∧ x < off + k ∧ n.testBit (x - off) = true := by
  induction k with
  | zero => intro n off x; simp only [lst, List.not_mem_nil, false_iff]; omega
  | succ k ih =>
    intro n off x
    have hh : x ∈ lst (k + 1) off n ↔ (x = off ∧ n % 2 = 1) ∨ x ∈ lst k (off + 1) (n / 2) := by
      rw [show lst (k + 1) off n = if n % 2 = 1 then off :: lst k (off + 1) (n / 2) else lst k (off + 1) (n / 2) from rfl]
      split
      · rename_i h; simp [h]
      · rename_i h; simp [h]
    rw [hh, ih]
    constructor
    · rintro (⟨rfl, h⟩ | ⟨h1, h2, h3⟩)
      · exact ⟨Nat.le_refl _, by omega, by rw [Nat.sub_self, Nat.testBit_zero]; simpa using h⟩
      · refine ⟨by omega, by omega, ?_⟩
        rw [show x - off = (x - (off + 1)) + 1 by omega, Nat.testBit_succ]; exact h3
    · rintro ⟨h1, h2, h3⟩
      rcases Nat.eq_or_lt_of_le h1 with e | e
      · subst e; rw [Nat.sub_self, Nat.testBit_zero] at h3; exact .inl ⟨rfl, by simpa using h3⟩
      · refine .inr ⟨by omega, by omega, ?_⟩
        rw [show x - off = (x - (off + 1)) + 1 by omega, Nat.testBit_succ] at h3; exact h3
theorem lst_sorted (k : Nat) : ∀ n off, (lst k off n).Pairwise (· < ·) := by
  induction k with
  | zero => intro n off; exact List.Pairwise.nil
  | succ k ih =>
    intro n off
    unfold lst
    split
    · refine List.pairwise_cons.mpr ⟨fun x hx => ?_, ih _ _⟩
      have := (lst_mem k _ _ x).mp hx; omega
    · exact ih _ _
/-- the seats of a set -/
def listN (n : Nat) : List Int := (lst 32 0 n).map (fun x : Nat => (x : Int))
theorem listN_mem (n : Nat) (x : Int) : x ∈ listN n ↔ (0 ≤ x ∧ x < 32) ∧ n.testBit x.toNat = true := by
  unfold listN
  rw [List.mem_map]
  constructor
  · rintro ⟨y, hy, rfl⟩
    have := (lst_mem 32 n 0 y).mp hy
    exact ⟨by omega, by rw [Int.toNat_natCast]; simpa using this.2.2⟩
  · rintro ⟨h1, h2⟩
    exact ⟨x.toNat, (lst_mem 32 n 0 _).mpr ⟨by omega, by omega, by simpa using h2⟩, by omega⟩
theorem listN_sorted (n : Nat) : (listN n).Pairwise (· < ·) := by
  unfold listN
  rw [List.pairwise_map]
  exact (lst_sorted 32 n 0).imp (fun h => by omega)
theorem listN_len (n : Nat) : (listN n).length ≤ 32 := by unfold listN; rw [List.length_map]; exact lst_len _ _ _
theorem sorted_ext : ∀ (l m : List Int), l.Pairwise (· < ·) → m.Pairwise (· < ·) → (∀ x, x ∈ l ↔ x ∈ m) → l = m := by
  intro l
  induction l with
  | nil =>
    intro m _ _ h
    cases m with
    | nil => rfl
    | cons y m => exact absurd ((h y).mpr (by simp)) (by simp)
  | cons x l ih =>
    intro m hl hm h
    cases m with
    | nil => exact absurd ((h x).mp (by simp)) (by simp)
    | cons y m =>
      obtain ⟨h1, h2⟩ := List.pairwise_cons.mp hl
      obtain ⟨h3, h4⟩ := List.pairwise_cons.mp hm
      have e : x = y := by
        have ha := (h x).mp (by simp)
        have hb := (h y).mpr (by simp)
        rcases List.mem_cons.mp ha with e | ha
        · exact e
        · rcases List.mem_cons.mp hb with e | hb
          · exact e.symm
          · have := h1 y hb; have := h3 x ha; omega
      subst e
      refine congrArg (x :: ·) (ih m h2 h4 (fun z => ?_))
      constructor
      · intro hz
        rcases List.mem_cons.mp ((h z).mp (List.mem_cons_of_mem _ hz)) with e | hz'
        · have := h1 z hz; omega
        · exact hz'
      · intro hz
        rcases List.mem_cons.mp ((h z).mpr (List.mem_cons_of_mem _ hz)) with e | hz'
        · have := h3 z hz; omega
        · exact hz'
theorem listN_setN (l : List Int) (h : ∀ x ∈ l, 0 ≤ x ∧ x < 32) (hs : l.Pairwise (· < ·)) : listN (setN l) = l := by
  refine sorted_ext _ _ (listN_sorted _) hs (fun x => ?_)
  rw [listN_mem, setN_bit, decide_eq_true_eq]
  constructor
  · rintro ⟨h1, p, hp, e⟩
    have := h p hp
    rw [show x = p by omega]; exact hp
  · intro hx; exact ⟨h x hx, x, hx, rfl⟩
theorem tz_tab : ∀ i : Fin 32, ((2 ^ i.val * 125613361 % 4294967296) / 134217728 < 32) ∧ TZ.getD ((2 ^ i.val * 125613361 % 4294967296) / 134217728) 0 = ((i.val : Nat) : Int) := by decide +kernel
theorem neg_u32 (n : Nat) (h0 : 0 < n) (h : n < 4294967296) : Go.bits .and .u32 (n : Int) ((-(n : Int)) % 4294967296) = ((2 ^ (low 32 n) : Nat) : Int) := by
  have e : (-(n : Int)) % 4294967296 = ((4294967296 - n : Nat) : Int) := by omega
  rw [e, (u32_nat n (4294967296 - n) h (by omega)).1]
  have := (neg_land 32 n h0 h).1
  rw [show (2 : Nat) ^ 32 = 4294967296 from rfl] at this
  rw [this]
theorem tz_eq (n : Nat) (h0 : 0 < n) (h : n < 4294967296) : bits_TrailingZeros32.f (n : Int) = some ((low 32 n : Nat) : Int) := by
  unfold bits_TrailingZeros32.f
  have hl := (neg_land 32 n h0 h).2.1
  obtain ⟨t1, t2⟩ := tz_tab ⟨low 32 n, hl⟩
  simp only at t1 t2
  have e : tzi (n : Int) = (((2 ^ (low 32 n) * 125613361 % 4294967296) / 134217728 : Nat) : Int) := by
    unfold tzi
    rw [neg_u32 n h0 h]
    generalize 2 ^ (low 32 n) = t
    omega
  rw [if_neg (by omega), e, if_pos (by omega), if_pos (by omega)]
  unfold rd
  rw [Int.toNat_natCast, t2]
theorem list_ev (n : Nat) (h : n < 4294967296) : Ev (fun k => impl_set_list.f k (n : Int)) (listN n) := by
  unfold impl_set_list.f
  have key : ∀ m (n : Nat) (acc : List Int), n ≤ m → n < 4294967296 → acc.length + (lst 32 0 n).length ≤ 64 → Ev (fun k => impl_set_list.l0 k (n : Int) acc) (acc ++ (lst 32 0 n).map (fun x : Nat => (x : Int))) := by
    intro m
    induction m with
    | zero =>
      intro n acc hm _ _
      refine Ev.succ ?_
      simp only [impl_set_list.l0.eq_2]
      rw [show n = 0 by omega, lst_zero, List.map_nil, List.append_nil]
      exact Ev.pos rfl (Ev.now _)
    | succ m ih =>
      intro n acc hm hn hl
      refine Ev.succ ?_
      simp only [impl_set_list.l0.eq_2]
      by_cases h0 : n = 0
      · subst h0
        rw [lst_zero, List.map_nil, List.append_nil]
        exact Ev.pos rfl (Ev.now _)
      · obtain ⟨s1, s2⟩ := lst_step 32 n 0 (by omega) hn
        rw [Nat.zero_add] at s1
        refine Ev.neg (by omega) (Ev.bindc (tz_eq n (by omega) hn) (Ev.pos (by omega) ?_))
        rw [show ((n : Int) - 1) % 4294967296 = ((n - 1 : Nat) : Int) by omega, (u32_nat n (n - 1) hn (by omega)).1]
        rw [s1, List.length_cons] at hl
        have := ih (n &&& (n - 1)) (acc ++ [((low 32 n : Nat) : Int)]) (by omega) (by omega) (by rw [List.length_append, List.length_singleton]; omega)
        rw [s1, List.map_cons]
        rw [List.append_assoc, List.singleton_append] at this
        exact this
  have := key n n [] (Nat.le_refl _) h (by have := lst_len 32 0 n; simp; omega)
  simpa [listN] using this
theorem gp_le (s : Int) (r : Bool) (p q : Int) (hp : 0 ≤ p ∧ p < s) (hq : 0 ≤ q ∧ q < s) : gp s r p q ≤ s := by
  unfold gp mx mn; cases r <;> simp only [Bool.false_eq_true, if_false, if_true] <;> split <;> (try split) <;> omega
def nearOf (s : Int) (r : Bool) (l : List Int) (p : Int) : Int × Int × Bool := if l = [] then (0, 0, false) else ((nst s r p l).1, (nst s r p l).2, true)
theorem nearL_ev (s : Int) (r : Bool) (l : List Int) (p : Int) (hlen : l.length ≤ 35184372088832) (hs : 0 ≤ s ∧ s ≤ 100) (hp : 0 ≤ p ∧ p < s) (hl : ∀ x ∈ l, 0 ≤ x ∧ x < s) : Ev (fun k => impl_bench_nearest.l0 k p 0 (-1) l (l.length : Int) 0 s r) (nearOf s r l p) := by
  have key : ∀ d i (st : Int × Int), i + d = l.length → 0 ≤ st.1 → 0 ≤ st.2 → Ev (fun k => impl_bench_nearest.l0 k p st.1 st.2 l (l.length : Int) (i : Int) s r) (((l.drop i).foldl (nstStep s r p) st).1, ((l.drop i).foldl (nstStep s r p) st).2, true) := by
    intro d
    induction d with
    | zero =>
      intro i st hi h1 h2
      refine Ev.succ ?_
      simp only [impl_bench_nearest.l0.eq_2]
      rw [List.drop_of_length_le (by omega)]
      refine Ev.neg (by omega) ?_
      rw [show mx 0 st.2 = st.2 by unfold mx; split <;> omega, show decide (st.2 ≥ 0) = true by simpa using h2]
      exact Ev.now _
    | succ d ih =>
      intro i st hi h1 h2
      refine Ev.succ ?_
      simp only [impl_bench_nearest.l0.eq_2]
      have hx := hl l[i] (List.getElem_mem (by omega))
      rw [rd_nat l i (by omega), w64 (n := (i : Int) + 1) (by omega) (by omega)]
      refine Ev.pos (by omega) (Ev.pos (by omega) (Ev.pos (by omega) (Ev.bindc (bench_gap_eq s r p l[i] hs (by omega) (by omega)) ?_)))
      rw [List.drop_eq_getElem_cons (by omega), List.foldl_cons]
      refine Ev.neg (by omega) ?_
      have hg := gp_nonneg s r p l[i] (by omega) (by omega)
      have := ih (i + 1) (nstStep s r p st l[i]) (by omega)
      unfold nstStep at this ⊢
      rw [if_neg (by omega)] at this ⊢
      by_cases h3 : gp s r p l[i] < st.2
      · rw [if_pos h3] at this ⊢; exact Ev.pos h3 (this (by simp only; omega) (by simp only; omega))
      · rw [if_neg h3] at this ⊢; exact Ev.neg h3 (this h1 h2)
  unfold nearOf
  cases l with
  | nil =>
    refine Ev.succ ?_
    simp only [impl_bench_nearest.l0.eq_2]
    exact Ev.neg (by decide) (Ev.now _)
  | cons x l =>
    rw [if_neg (by simp)]
    refine Ev.succ ?_
    simp only [impl_bench_nearest.l0.eq_2]
    have hx := hl x (by simp)
    have hg := gp_nonneg s r p x (by omega) (by omega)
    refine Ev.pos (by rw [List.length_cons]; omega) (Ev.pos (by omega) (Ev.pos (by rw [List.length_cons]; omega) (Ev.bindc (bench_gap_eq s r p x hs (by omega) (by omega)) (Ev.pos (by decide) ?_))))
    have e : nst s r p (x :: l) = l.foldl (nstStep s r p) (x, gp s r p x) := by
      unfold nst; rw [List.foldl_cons]; congr 1
    rw [e]
    have := key l.length 1 (x, gp s r p x) (by simp; omega) (by simp only; omega) (by simpa using hg)
    rw [show (x :: l).drop 1 = l from rfl] at this
    rw [show rd (x :: l) 0 = x from rfl, show wrap64 (0 + 1) = ((1 : Nat) : Int) from w64 (n := 1) (by decide) (by decide)]
    exact this
theorem nearest_ev (s : Int) (r : Bool) (T : Nat) (p : Int) (hT : T < 4294967296) (hs : 0 ≤ s ∧ s ≤ 100) (hp : 0 ≤ p ∧ p < s) (hl : ∀ x ∈ listN T, 0 ≤ x ∧ x < s) : Ev (fun k => impl_bench_nearest.f k s r p (T : Int)) (nearOf s r (listN T) p) := by
  unfold impl_bench_nearest.f
  have := listN_len T
  exact Ev.bind (list_ev T hT) (nearL_ev s r _ p (by omega) hs hp hl)
theorem has_bit (x i : Nat) (hx : x < 4294967296) : impl_set_has.f (x : Int) (i : Int) = some (x.testBit i) := by
  unfold impl_set_has.f
  rw [if_pos (by omega)]
  refine congrArg some ?_
  unfold shr
  rw [Int.toNat_natCast]
  have e : ((x : Int) / 2 ^ min i IntKind.u32.bits) = ((x / 2 ^ min i 32 : Nat) : Int) := by push_cast; rfl
  have hlt : x / 2 ^ min i 32 < 4294967296 := Nat.lt_of_le_of_lt (Nat.div_le_self _ _) hx
  have h1 := (u32_nat (x / 2 ^ min i 32) 1 hlt (by omega)).1
  rw [show ((1 : Nat) : Int) = 1 from rfl] at h1
  rw [e, h1, Nat.and_one_is_mod, Nat.testBit_eq_decide_div_mod_eq, Bool.eq_iff_iff]
  simp only [beq_iff_eq, decide_eq_true_eq]
  by_cases h : i ≤ 32
  · rw [Nat.min_eq_left h]; omega
  · have e1 : x / 2 ^ min i 32 = 0 := by rw [Nat.min_eq_right (by omega)]; exact Nat.div_eq_of_lt hx
    have e2 : x / 2 ^ i = 0 := Nat.div_eq_of_lt (Nat.lt_of_lt_of_le hx (Nat.pow_le_pow_right (n := 2) (i := 32) (by decide) (by omega)))
    rw [e1, e2]; decide
theorem szRow_eq (s : Int) (r : Bool) (l : List Int) (a : Int) (hl : l.length ≤ 35184372088832) (h0 : 0 ≤ a) (h1 : a ≤ 1048576) : laws_szRow.f s r l a = some (if a - (l.length : Int) < 0 then -1 else a - (l.length : Int)) := by
  unfold laws_szRow.f
  rw [szIntS_eq l _ hl h0 h1]
  simp only [Option.bind_some]
  by_cases h : a - (l.length : Int) < 0
  · rw [if_pos h, if_pos (by omega)]
  · rw [if_neg h, if_neg h]
theorem toRow_ev (s : Int) (r : Bool) (l : List Int) (hl : l.length ≤ 35184372088832) : Ev (fun k => laws_toRow.f k s r l) (s, r, l) := by
  unfold laws_toRow.f
  exact Ev.bind (f := fun _ t => some (s, r, t)) (toIntS_ev l hl) (Ev.now _)
theorem eqRow_ev (s : Int) (r : Bool) (l : List Int) (hl : l.length ≤ 35184372088832) : Ev (fun k => laws_eqRow.f k s r l s r l) true := by
  unfold laws_eqRow.f
  refine Ev.pos rfl (Ev.neg (by simp) (Ev.bind (eqIntS_ev l hl) (Ev.pos rfl (Ev.now _))))
theorem l2Is_ev (s : Int) (r : Bool) (l : List Int) (p : Int) (hl : l.length ≤ 35184372088832) : Ev (fun k => spec_l2Is.f k s r l p) (decide (p ∈ l)) := by
  unfold spec_l2Is.f
  exact Ev.bind (f := fun _ t => some t) (has_ev l p hl) (Ev.now _)
/-- may a seat be chosen as far as those taken go -/
def canB (s : Int) (r : Bool) (tk : List Int) (d p : Int) : Bool := !decide (p ∈ tk) && (decide (tk = []) || decide (d ≤ (nst s r p tk).2))
theorem mn25 (g d : Int) (h : g ≤ 24) : (g < mn d 25 ↔ g < d) := by unfold mn; split <;> omega
theorem nst_le (s : Int) (r : Bool) (p : Int) (tk : List Int) (hs : 0 ≤ s ∧ s ≤ 24) (hp : 0 ≤ p ∧ p < s) (hl : ∀ x ∈ tk, 0 ≤ x ∧ x < s) : (nst s r p tk).2 ≤ 24 := by
  cases tk with
  | nil => rw [nst_nil]; omega
  | cons a l =>
    obtain ⟨h1, h2, _⟩ := nst_cons s r p a l (fun y hy => (hl y hy).1)
    have := gp_le s r p (nst s r p (a :: l)).1 hp (hl _ h1)
    omega
theorem may_ev (s : Int) (r : Bool) (tk y : List Int) (d p : Int) (hs : 0 ≤ s ∧ s ≤ 24) (hp : 0 ≤ p ∧ p < s) (hl : ∀ x ∈ tk, 0 ≤ x ∧ x < s) (hy : ∀ x ∈ y, 0 ≤ x ∧ x < s) (ht : tk.length ≤ 35184372088832) (hyl : y.length ≤ 35184372088832)
    (b : Bool) (hb : b = true ↔ (canB s r tk d p = true ∧ ∀ j, j < y.length → d ≤ gp s r p (y.getD j 0))) : Ev (fun k => spec_l9May.f k s r tk y p d) b := by
  have lp : ∀ e j (b : Bool), j + e = y.length → (b = true ↔ ∀ i, j ≤ i → i < y.length → d ≤ gp s r p (y.getD i 0)) → Ev (fun k => spec_l9May.l0 k y p d (j : Int) s r tk) b := by
    intro e
    induction e with
    | zero =>
      intro j b hj hb
      refine Ev.succ ?_
      simp only [spec_l9May.l0.eq_2]
      rw [show b = true from hb.mpr (fun i h1 h2 => absurd h2 (by omega))]
      exact Ev.neg (by omega) (Ev.now _)
    | succ e ih =>
      intro j b hj hb
      refine Ev.succ ?_
      simp only [spec_l9May.l0.eq_2]
      rw [rd_getD]
      have hm := hy (y.getD j 0) (by rw [getD_lt y j (by omega)]; exact List.getElem_mem _)
      refine Ev.pos (by omega) (Ev.pos (by omega) (Ev.bindc (l2Gap_eq s r tk p (y.getD j 0) (by omega) (by omega) (by omega)) ?_))
      by_cases c : gp s r p (y.getD j 0) < d
      · rw [show b = false from by cases b with
          | false => rfl
          | true => exact absurd (hb.mp rfl j (Nat.le_refl _) (by omega)) (by omega)]
        exact Ev.pos c (Ev.now _)
      · rw [w64 (n := (j : Int) + 1) (by omega) (by omega)]
        refine Ev.neg c (ih (j + 1) b (by omega) ⟨fun h i h1 h2 => hb.mp h i (by omega) h2, fun h => hb.mpr (fun i h1 h2 => ?_)⟩)
        by_cases e1 : i = j
        · subst e1; omega
        · exact h i (by omega) h2
  have j1 : Ev (fun k => spec_l9May.j0 k y p d true s r tk) false := by
    refine Ev.succ ?_
    simp only [spec_l9May.j0.eq_2]
    exact Ev.pos trivial (Ev.now _)
  have fls : canB s r tk d p = false → b = false := fun h => by
    cases b with
    | false => rfl
    | true => have := (hb.mp rfl).1; rw [h] at this; exact absurd this (by decide)
  have j2 : canB s r tk d p = true → Ev (fun k => spec_l9May.j0 k y p d false s r tk) b := fun h => by
    refine Ev.succ ?_
    simp only [spec_l9May.j0.eq_2]
    exact Ev.neg (by decide) (lp y.length 0 b (by omega) ⟨fun h1 i _ h2 => (hb.mp h1).2 i h2, fun h1 => hb.mpr ⟨h, fun j hj => h1 j (by omega) hj⟩⟩)
  unfold spec_l9May.f
  refine Ev.bind (l2Is_ev s r tk p ht) ?_
  by_cases c : p ∈ tk
  · rw [fls (by unfold canB; simp [c])]
    exact Ev.pos (decide_eq_true c) j1
  · refine Ev.neg (by simpa using c) ?_
    by_cases e : tk = []
    · exact Ev.neg (by rw [e]; simp) (j2 (by unfold canB; simp [e]))
    · have hlen : 0 < tk.length := List.length_pos_iff.mpr e
      refine Ev.pos (by omega) ?_
      unfold spec_l2Farthest.f
      refine Ev.bind (a := (nst s r p tk).2) (Ev.bind (f := fun _ q => some q.2) (l2Nearest_ev s r tk tk p ht (by omega) (by omega) (fun x hx => by have := hl x hx; omega)) (Ev.now _)) ?_
      by_cases g : (nst s r p tk).2 < d
      · rw [decide_eq_true g, fls (by unfold canB; simp [c, e]; omega)]
        exact j1
      · rw [decide_eq_false g]
        exact j2 (by unfold canB; simp [c, e]; omega)
theorem can_ev (s : Int) (r : Bool) (tk : List Int) (d p : Int) (hs : 0 ≤ s ∧ s ≤ 24) (hp : 0 ≤ p ∧ p < s) (hl : ∀ x ∈ tk, 0 ≤ x ∧ x < s) (hsort : tk.Pairwise (· < ·)) (ht : tk.length ≤ 35184372088832) :
    Ev (fun k => impl_spacing_can.f k s r tk (mn d 25) p) (canB s r tk d p) := by
  have h32 : ∀ x ∈ tk, 0 ≤ x ∧ x < 32 := fun x hx => by have := hl x hx; omega
  have hT := setN_lt tk h32
  have hls := listN_setN tk h32 hsort
  unfold impl_spacing_can.f impl_Row_taken.f
  refine Ev.bind (a := ((setN tk : Nat) : Int)) (Ev.bind (f := fun _ t => some t) (setOf_ev tk h32 ht) (Ev.now _)) ?_
  have hn := nearest_ev s r (setN tk) p hT (by omega) hp (by rw [hls]; exact hl)
  rw [hls] at hn
  refine Ev.bind hn ?_
  have hh := has_bit (setN tk) p.toNat hT
  rw [Int.toNat_of_nonneg hp.1] at hh
  refine Ev.bindc hh ?_
  have hbit : (setN tk).testBit p.toNat = decide (p ∈ tk) := by
    rw [setN_bit, Bool.eq_iff_iff, decide_eq_true_eq, decide_eq_true_eq]
    constructor
    · rintro ⟨q, hq, e⟩
      have := hl q hq
      rwa [show p = q by omega]
    · intro h; exact ⟨p, h, rfl⟩
  rw [hbit]
  have e : (!decide (p ∈ tk) && (!(nearOf s r tk p).2.2 || decide ((nearOf s r tk p).2.1 ≥ mn d 25))) = canB s r tk d p := by
    unfold canB nearOf
    by_cases c : tk = []
    · simp [c]
    · rw [if_neg c]
      have h1 := nst_le s r p tk hs hp hl
      have h2 := mn25 (nst s r p tk).2 d h1
      simp only [c, decide_false, Bool.not_true, Bool.false_or]
      rw [show decide ((nst s r p tk).2 ≥ mn d 25) = decide (d ≤ (nst s r p tk).2) from by rw [Bool.eq_iff_iff, decide_eq_true_eq, decide_eq_true_eq]; omega]
  rw [e]
  exact Ev.now _
theorem gp_lt (s : Int) (r : Bool) (p q : Int) (hp : 0 ≤ p ∧ p < s) (hq : 0 ≤ q ∧ q < s) : gp s r p q ≤ s - 1 := by
  unfold gp mx mn; cases r <;> simp only [Bool.false_eq_true, if_false, if_true] <;> split <;> (try split) <;> omega
theorem canB_least (s : Int) (r : Bool) (tk : List Int) (d d' p : Int) (hs : 0 ≤ s ∧ s ≤ 24) (hp : 0 ≤ p ∧ p < s) (hl : ∀ x ∈ tk, 0 ≤ x ∧ x < s) (hd : d' = if d < s then d else s) : canB s r tk d' p = canB s r tk d p := by
  unfold canB
  cases tk with
  | nil => simp
  | cons a l =>
    obtain ⟨h1, h2, _⟩ := nst_cons s r p a l (fun y hy => (hl y hy).1)
    have := gp_lt s r p (nst s r p (a :: l)).1 hp (hl _ h1)
    have e : decide (d' ≤ (nst s r p (a :: l)).2) = decide (d ≤ (nst s r p (a :: l)).2) := by
      rw [Bool.eq_iff_iff, decide_eq_true_eq, decide_eq_true_eq]
      subst hd
      split <;> omega
    rw [e]
theorem open_ev (s : Int) (r : Bool) (tk : List Int) (d : Int) (sn : Nat) (hsn : s = (sn : Int)) (hs : sn ≤ 24) (hl : ∀ x ∈ tk, 0 ≤ x ∧ x < s) (ht : tk.length ≤ 35184372088832) :
    Ev (fun k => spec_l9Open.f k s r tk d) ((List.range sn).map fun p : Nat => canB s r tk d (p : Int)) := by
  subst hsn
  have lp : ∀ n p, p + n = sn → Ev (fun k => spec_l9Open.l0 k d ((List.range p).map fun p : Nat => canB (sn : Int) r tk d (p : Int)) (p : Int) (sn : Int) r tk) ((List.range sn).map fun p : Nat => canB (sn : Int) r tk d (p : Int)) := by
    intro n
    induction n with
    | zero =>
      intro p hp
      obtain rfl : p = sn := by omega
      refine Ev.succ ?_
      simp only [spec_l9Open.l0.eq_2]
      exact Ev.neg (by omega) (Ev.now _)
    | succ n ih =>
      intro p hp
      refine Ev.succ ?_
      simp only [spec_l9Open.l0.eq_2]
      have nxt := ih (p + 1) (by omega)
      rw [List.range_succ, List.map_append, List.map_singleton] at nxt
      refine Ev.pos (by omega) (Ev.bind (may_ev (sn : Int) r tk ([] : List Int) d (p : Int) (by omega) (by omega) hl (fun x hx => by simp at hx) ht (by simp) (canB (sn : Int) r tk d (p : Int)) ⟨fun h => ⟨h, fun j hj => by simp at hj⟩, fun h => h.1⟩) (Ev.pos (by simp; omega) ?_))
      rw [w64 (n := (p : Int) + 1) (by omega) (by omega)]
      exact nxt
  exact lp sn 0 (by omega)
/-- the first place behind which nothing may be chosen -/
def bpN (r : Bool) (s D f : Nat) : Nat := if r = true then (if f + s - D + 1 < s then f + s - D + 1 else s) else s
theorem bpN_le (r : Bool) (s D f : Nat) : bpN r s D f ≤ s := by unfold bpN; split <;> (try split) <;> omega
theorem gapD (s g d : Int) (D : Nat) (hs : s ≤ 24) (hg : g ≤ s - 1) (hD : (D : Int) = if d < s then d else s) : g ≥ mn d 25 ↔ (D : Int) ≤ g := by
  have := mn25 g d (by omega)
  split at hD <;> omega
theorem follows_ev (s : Int) (r : Bool) (tk : List Int) (d : Int) (sn : Nat) (hsn : s = (sn : Int)) (hs : 2 ≤ sn ∧ sn ≤ 24) (hl : ∀ x ∈ tk, 0 ≤ x ∧ x < s) (hsort : tk.Pairwise (· < ·)) (ht : tk.length ≤ 35184372088832) (D : Nat) (hD1 : 1 ≤ D) (hD : (D : Int) = if d < s then d else s)
    (f la p : Nat) (hf : f ≤ la) (hla : la < p) (hp : p < sn) : Ev (fun k => impl_spacing_follows.f k s r tk (mn d 25) (f : Int) (la : Int) (p : Int)) (canB s r tk d (p : Int) && decide (la + D ≤ p ∧ p < bpN r sn D f)) := by
  subst hsn
  unfold impl_spacing_follows.f
  refine Ev.bind (can_ev (sn : Int) r tk d (p : Int) (by omega) (by omega) hl hsort ht) ?_
  cases hc : canB (sn : Int) r tk d (p : Int) with
  | false => exact Ev.neg (by decide) (Ev.now _)
  | true =>
    have g1 := gp_lt (sn : Int) r (la : Int) (p : Int) (by omega) (by omega)
    have g2 := gp_lt (sn : Int) r (f : Int) (p : Int) (by omega) (by omega)
    have e1 := gapD (sn : Int) _ d D (by omega) g1 hD
    have e2 := gapD (sn : Int) _ d D (by omega) g2 hD
    have key : ((D : Int) ≤ gp (sn : Int) r (la : Int) (p : Int) ∧ (D : Int) ≤ gp (sn : Int) r (f : Int) (p : Int)) ↔ (la + D ≤ p ∧ p < bpN r sn D f) := by
      have hDs : D ≤ sn := by split at hD <;> omega
      unfold gp bpN
      have m1 : mx ((la : Int) - (p : Int)) ((p : Int) - (la : Int)) = (p : Int) - la := by unfold mx; split <;> omega
      have m2 : mx ((f : Int) - (p : Int)) ((p : Int) - (f : Int)) = (p : Int) - f := by unfold mx; split <;> omega
      rw [m1, m2]
      cases r with
      | true => simp only [if_true]; unfold mn; split <;> split <;> split <;> omega
      | false => simp only [Bool.false_eq_true, if_false]; omega
    refine Ev.pos rfl (Ev.neg (by omega) (Ev.pos (by omega) (Ev.bindc (bench_gap_eq (sn : Int) r (la : Int) (p : Int) (by omega) (by omega) (by omega)) ?_)))
    rw [Bool.true_and]
    by_cases c : gp (sn : Int) r (la : Int) (p : Int) ≥ mn d 25
    · refine Ev.pos c (Ev.bindc (bench_gap_eq (sn : Int) r (f : Int) (p : Int) (by omega) (by omega) (by omega)) ?_)
      rw [show decide (gp (sn : Int) r (f : Int) (p : Int) ≥ mn d 25) = decide (la + D ≤ p ∧ p < bpN r sn D f) from by
        rw [Bool.eq_iff_iff, decide_eq_true_eq, decide_eq_true_eq]
        exact ⟨fun h => key.mp ⟨e1.mp c, e2.mp h⟩, fun h => e2.mpr (key.mpr h).2⟩]
      exact Ev.now _
    · rw [decide_eq_false (fun h => c (e1.mpr (key.mpr h).1))]
      exact Ev.neg c (Ev.now _)
def mxN (a b : Nat) : Nat := if a < b then b else a
theorem mark_loop (l : List Int) (a : Int) (h0 : 0 ≤ a) (h1 : a ≤ 1000000000) (hl : l.length ≤ 35184372088832) : ∀ (d i : Nat) (acc : List Int), i + d = l.length → acc.length = l.length → (∀ j, j < i → acc[j]? = some (a + (j : Int))) → Ev (fun k => laws_markIntS.l0 k acc (a + (i : Int)) (i : Int)) (a + (l.length : Int), (List.range l.length).map (fun j : Nat => a + (j : Int))) := by
  intro d
  induction d with
  | zero =>
    intro i acc hi ha hj
    refine Ev.succ ?_
    simp only [laws_markIntS.l0.eq_2]
    have : acc = (List.range l.length).map (fun j : Nat => a + (j : Int)) := List.ext_getElem? (fun j => by
      by_cases h : j < i
      · rw [hj j h, List.getElem?_map, List.getElem?_range (by omega)]; rfl
      · rw [List.getElem?_eq_none (by omega), List.getElem?_eq_none (by rw [List.length_map, List.length_range]; omega)])
    rw [show (i : Int) = (l.length : Int) by omega, ← this]
    exact Ev.neg (by omega) (Ev.now _)
  | succ d ih =>
    intro i acc hi ha hj
    refine Ev.succ ?_
    simp only [laws_markIntS.l0.eq_2]
    refine Ev.pos (by omega) (Ev.pos (by omega) ?_)
    rw [w64 (n := (i : Int) + 1) (by omega) (by omega), w64 (by omega) (by omega)]
    rw [show a + (i : Int) + 1 = a + ((i + 1 : Nat) : Int) by omega]
    refine ih (i + 1) _ (by omega) (by simpa using ha) ?_
    intro j h
    rw [Int.toNat_natCast, List.getElem?_set]
    by_cases e : i = j
    · subst e
      rw [if_pos rfl, if_pos (by omega)]
    · rw [if_neg e]; exact hj j (by omega)
theorem mark_ev (l : List Int) (a : Int) (h0 : 0 ≤ a) (h1 : a ≤ 1000000000) (hl : l.length ≤ 35184372088832) : Ev (fun k => laws_markIntS.f k l a) (a + (l.length : Int), (List.range l.length).map (fun j : Nat => a + (j : Int))) := by
  have := mark_loop l a h0 h1 hl l.length 0 l (by omega) rfl (fun j h => by omega)
  simp only [Int.natCast_zero, Int.add_zero] at this
  exact this
theorem held_loop (a : Int) (h0 : 0 ≤ a) (h1 : a ≤ 1000000000) (n : Nat) (hl : n ≤ 35184372088832) : ∀ (d i : Nat), i + d = n → Ev (fun k => laws_heldIntS.l0 k ((List.range n).map (fun j : Nat => a + (j : Int))) (a + (i : Int)) (i : Int)) (a + (n : Int)) := by
  intro d
  have hlen : ((List.range n).map (fun j : Nat => a + (j : Int))).length = n := by rw [List.length_map, List.length_range]
  induction d with
  | zero =>
    intro i hi
    refine Ev.succ ?_
    simp only [laws_heldIntS.l0.eq_2]
    rw [show (i : Int) = (n : Int) by omega]
    exact Ev.neg (by omega) (Ev.now _)
  | succ d ih =>
    intro i hi
    refine Ev.succ ?_
    simp only [laws_heldIntS.l0.eq_2]
    rw [rd_nat _ i (by omega), List.getElem_map, List.getElem_range]
    refine Ev.pos (by omega) (Ev.pos (by omega) (Ev.pos rfl ?_))
    rw [w64 (n := (i : Int) + 1) (by omega) (by omega), w64 (by omega) (by omega)]
    rw [show a + (i : Int) + 1 = a + ((i + 1 : Nat) : Int) by omega]
    exact ih (i + 1) (by omega)
theorem held_ev (a : Int) (h0 : 0 ≤ a) (h1 : a ≤ 1000000000) (n : Nat) (hl : n ≤ 35184372088832) : Ev (fun k => laws_heldIntS.f k ((List.range n).map (fun j : Nat => a + (j : Int))) a) (a + (n : Int)) := by
  have := held_loop a h0 h1 n hl n 0 (by omega)
  simp only [Int.natCast_zero, Int.add_zero] at this
  exact this
/-- a list of marks -/
def mks (n : Nat) : List Int := (List.range n).map (fun j : Nat => 1 + (j : Int))
theorem markRow_ev (s : Int) (r : Bool) (l : List Int) (hl : l.length ≤ 35184372088832) : Ev (fun k => laws_markRow.f k s r l 1) (1 + (l.length : Int), mks l.length) := by
  unfold laws_markRow.f
  exact Ev.bind (f := fun _ t => some (t.1, t.2)) (mark_ev l 1 (by omega) (by omega) hl) (Ev.now _)
def tk2 (c : Bool) (x v : Int) : Int := if c = true ∧ 0 ≤ x then x + v else -1
theorem tk2_f (x v : Int) : tk2 false x v = -1 := by unfold tk2; rw [if_neg (by simp)]
theorem tk2_t (x v : Int) : tk2 true x v = if 0 ≤ x then x + v else -1 := by unfold tk2; simp
theorem tk2_n (c : Bool) (v : Int) : tk2 c (-1) v = -1 := by unfold tk2; rw [if_neg (by omega)]
/-- the greatest worth of choices of m of the open places of [b - e, b), gaps at least D; -1 for none -/
def bw (o : Nat → Bool) (w : Nat → Int) (D b : Nat) : Nat → Nat → Int
  | 0, _ => 0
  | _ + 1, 0 => -1
  | m + 1, e + 1 => max (bw o w D b (m + 1) e) (tk2 (o (b - (e + 1))) (bw o w D b m (e + 1 - D)) (w (b - (e + 1))))
termination_by m e => (m, e)
section
variable (o : Nat → Bool) (w : Nat → Int) (D b : Nat)
theorem bw_0 (e : Nat) : bw o w D b 0 e = 0 := by unfold bw; rfl
theorem bw_s0 (m : Nat) : bw o w D b (m + 1) 0 = -1 := by unfold bw; rfl
theorem bw_ss (m e : Nat) : bw o w D b (m + 1) (e + 1) = max (bw o w D b (m + 1) e) (tk2 (o (b - (e + 1))) (bw o w D b m (e + 1 - D)) (w (b - (e + 1)))) := by rw [bw]
theorem bw_ge (hw : ∀ p, 0 ≤ w p ∧ w p ≤ 99) : ∀ m e, -1 ≤ bw o w D b m e := by
  intro m
  induction m with
  | zero => intro e; rw [bw_0]; omega
  | succ m ihm =>
    intro e
    induction e with
    | zero => rw [bw_s0]; omega
    | succ e ihe => rw [bw_ss]; omega
theorem bw_le (hw : ∀ p, 0 ≤ w p ∧ w p ≤ 99) : ∀ m e, bw o w D b m e ≤ 99 * (m : Int) := by
  intro m
  induction m with
  | zero => intro e; rw [bw_0]; omega
  | succ m ihm =>
    intro e
    induction e with
    | zero => rw [bw_s0]; omega
    | succ e ihe =>
      have h1 := ihm (e + 1 - D)
      have h2 := hw (b - (e + 1))
      rw [bw_ss]; unfold tk2; split <;> omega
theorem bw_none (hD : 1 ≤ D) : ∀ m e, e < m → bw o w D b m e = -1 := by
  intro m
  induction m with
  | zero => intro e h; omega
  | succ m ihm =>
    intro e
    induction e with
    | zero => intro _; rw [bw_s0]
    | succ e ihe =>
      intro h
      rw [bw_ss, ihe (by omega), ihm (e + 1 - D) (by omega), tk2_n]; rfl
theorem bw_up (m e : Nat) : bw o w D b m e ≤ bw o w D b m (e + 1) := by
  cases m with
  | zero => rw [bw_0, bw_0]; omega
  | succ m => rw [bw_ss]; omega
theorem bw_ups (m e : Nat) : ∀ j, bw o w D b m e ≤ bw o w D b m (e + j) := by
  intro j
  induction j with
  | zero => exact Int.le_refl _
  | succ j ih => exact Int.le_trans ih (bw_up o w D b m (e + j))
end
theorem bw_mix (a c : Bool) (A B C E x y : Int) (hA : -1 ≤ A) (hB : -1 ≤ B) (hC : -1 ≤ C) (hE : -1 ≤ E) (hx : 0 ≤ x) (hy : 0 ≤ y) : max (max A (tk2 c B y)) (tk2 a (max C (tk2 c E y)) x) = max (max A (tk2 a C x)) (tk2 c (max B (tk2 a E x)) y) := by
  unfold tk2
  cases a <;> cases c <;> simp only [true_and, false_and, if_false, Bool.false_eq_true] <;> (repeat' split) <;> omega
theorem bw_right (o : Nat → Bool) (w : Nat → Int) (D : Nat) (hD : 1 ≤ D) (hw : ∀ p, 0 ≤ w p ∧ w p ≤ 99) : ∀ m e f, bw o w D (f + e + 1) (m + 1) (e + 1) = max (bw o w D (f + e) (m + 1) e) (tk2 (o (f + e)) (bw o w D (f + e + 1 - D) m (e + 1 - D)) (w (f + e))) := by
  intro m
  induction m with
  | zero =>
    intro e
    induction e with
    | zero =>
      intro f
      rw [bw_ss, bw_s0, bw_s0, bw_0, bw_0, show f + 0 + 1 - (0 + 1) = f + 0 by omega]
    | succ e ih =>
      intro f
      rw [bw_ss, show f + (e + 1) + 1 = (f + 1) + e + 1 by omega, ih (f + 1), bw_0, bw_0, bw_0, show f + 1 + e + 1 - (e + 1 + 1) = f by omega, show f + (e + 1) = f + 1 + e by omega, bw_ss, bw_0, show f + 1 + e - (e + 1) = f by omega]
      omega
  | succ m ihm =>
    intro e
    induction e with
    | zero =>
      intro f
      rw [bw_ss, bw_s0, bw_s0, show f + 0 + 1 - (0 + 1) = f + 0 by omega, show 0 + 1 - D = 0 by omega, bw_s0, bw_s0]
    | succ e ih =>
      intro f
      rw [bw_ss, show f + (e + 1) + 1 = (f + 1) + e + 1 by omega, ih (f + 1), show f + 1 + e + 1 - (e + 1 + 1) = f by omega, show f + (e + 1) = f + 1 + e by omega, bw_ss o w D (f + 1 + e) (m + 1) e, show f + 1 + e - (e + 1) = f by omega]
      by_cases c : e + 1 + 1 ≤ D
      · rw [show e + 1 + 1 - D = 0 by omega, show e + 1 - D = 0 by omega, bw_s0, bw_s0, bw_s0, tk2_n, tk2_n]
      · obtain ⟨e3, he3⟩ : ∃ e3, e + 1 + 1 - D = e3 + 1 := ⟨e + 1 - D, by omega⟩
        have he4 : e + 1 - D = e3 := by omega
        rw [he3, he4]
        have h1 := ihm e3 (f + D)
        rw [show f + D + e3 + 1 = f + 1 + e + 1 by omega, show f + D + e3 = f + 1 + e by omega] at h1
        rw [h1, bw_ss o w D (f + 1 + e + 1 - D) m e3, show f + 1 + e + 1 - D - (e3 + 1) = f by omega]
        exact bw_mix _ _ _ _ _ _ _ _ (bw_ge o w D _ hw _ _) (bw_ge o w D _ hw _ _) (bw_ge o w D _ hw _ _) (bw_ge o w D _ hw _ _) (hw _).1 (hw _).1
theorem most_eq (a b : Int) : spec_l1Most.f a b = some (max a b) := by
  unfold spec_l1Most.f
  split <;> (congr 1; omega)
def rowI (g : Nat → Int) : List Int := (List.range 25).map g
theorem rowI_len (g : Nat → Int) : (rowI g).length = 25 := by simp [rowI]
theorem rowI_rd (g : Nat → Int) (j : Nat) (h : j < 25) : rd (rowI g) (j : Int) = g j := by
  rw [rd_nat _ _ (by rw [rowI_len]; exact h)]; simp [rowI]
theorem rowI_set (g : Nat → Int) (j : Nat) (v : Int) : (rowI g).set j v = rowI (fun i => if i = j then v else g i) := by
  apply List.ext_getElem
  · simp [rowI]
  · intro i h1 h2
    simp only [rowI, List.getElem_set, List.getElem_map, List.getElem_range]
    by_cases c : j = i
    · subst c; simp
    · rw [if_neg c, if_neg (fun e => c e.symm)]
theorem rowI_ext {g g' : Nat → Int} (h : ∀ i, i < 25 → g i = g' i) : rowI g = rowI g' := by
  unfold rowI
  apply List.map_congr_left
  intro i hi
  exact h i (List.mem_range.mp hi)
theorem bestZ_row (o : Nat → Bool) (w : Nat → Int) (D b : Nat) : bestZ = rowI (fun k => bw o w D b k 0) := by
  have h1 : bestZ = rowI (fun k => if k = 0 then 0 else -1) := by decide
  rw [h1]
  refine rowI_ext fun i _ => ?_
  cases i with
  | zero => rw [bw_0]; rfl
  | succ i => rw [bw_s0]; rfl
theorem own_rowI (g : Nat → Int) : spec_l1Own.f (rowI g) = some (rowI g) := by
  unfold spec_l1Own.f
  rw [Option.bind_some, if_pos (by rw [rowI_len]; decide)]
  rfl
def stpI (A B : Nat → Int) (v : Int) (j : Nat) : Nat → Int := fun i => if 1 ≤ i ∧ i < j then max (A i) (tk2 true (B (i - 1)) v) else A i
theorem stpI_s (A B : Nat → Int) (v : Int) (j : Nat) (hj : 1 ≤ j) : rowI (fun i => if i = j then max (A j) (tk2 true (B (j - 1)) v) else stpI A B v j i) = rowI (stpI A B v (j + 1)) := rowI_ext fun i _ => by
  unfold stpI
  by_cases c : i = j
  · subst c; rw [if_pos rfl, if_pos (by omega)]
  · rw [if_neg c]
    by_cases c2 : 1 ≤ i ∧ i < j
    · rw [if_pos c2, if_pos (by omega)]
    · rw [if_neg c2, if_neg (by omega)]
theorem stpI_n (A B : Nat → Int) (v : Int) (j : Nat) (hA : ∀ i, -1 ≤ A i) (h : ¬ 0 ≤ B (j - 1)) : rowI (stpI A B v j) = rowI (stpI A B v (j + 1)) := rowI_ext fun i _ => by
  unfold stpI
  by_cases c : i = j
  · subst c
    rw [if_neg (by omega)]
    by_cases c1 : 1 ≤ i
    · have h2 := hA i
      rw [if_pos (by omega), tk2_t, if_neg h]; omega
    · rw [if_neg (by omega)]
  · by_cases c2 : 1 ≤ i ∧ i < j
    · rw [if_pos c2, if_pos (by omega)]
    · rw [if_neg c2, if_neg (by omega)]
theorem wj1 (j : Nat) (h : 1 ≤ j) (h2 : j ≤ 100) : wrap64 ((j : Int) - 1) = ((j - 1 : Nat) : Int) := by rw [w64 (by omega) (by omega)]; omega
theorem wj2 (j : Nat) (h2 : j ≤ 1000) : wrap64 ((j : Int) + 1) = ((j + 1 : Nat) : Int) := by rw [w64 (by omega) (by omega)]; omega
theorem best_in (op : List Bool) (ws : List Int) (f l d : Int) (tab : List (List Int)) (p : Nat) (hp : p < op.length) (hpw : p < ws.length) (v : Int) (hv : rd ws (p : Int) = v) (hv9 : 0 ≤ v ∧ v ≤ 99) (ho : rdOf false op (p : Int) = true) (htab : tab.length + 1 < 4398046511104) (A B : Nat → Int) (hA : ∀ i, -1 ≤ A i) (hB : ∀ i, i ≤ 25 → B i ≤ 9900) (R : List Int)
    (hR : Ev (fun k => spec_l9Best.l0 k op ws f l d (tab ++ [rowI (stpI A B v 25)]) (wrap64 ((p : Int) + 1))) R) :
    ∀ e (j : Nat), j + e = 25 → 1 ≤ j → Ev (fun k => spec_l9Best.l1 k op ws f l d tab (p : Int) (rowI (stpI A B v j)) (rowI B) (j : Int)) R := by
  intro e
  induction e with
  | zero =>
    intro j hj h1
    obtain rfl : j = 25 := by omega
    refine Ev.succ ?_
    simp only [spec_l9Best.l1.eq_2]
    exact Ev.pos (by omega) (Ev.pos (by omega) (Ev.pos ho (Ev.neg (by omega) (Ev.pos htab hR))))
  | succ e ih =>
    intro j hj h1
    refine Ev.succ ?_
    simp only [spec_l9Best.l1.eq_2]
    rw [wj1 j h1 (by omega), rowI_len, rowI_len, rowI_rd _ j (by omega), rowI_rd _ (j - 1) (by omega), hv, wj2 j (by omega)]
    have nxt := ih (j + 1) (by omega) (by omega)
    have e1 : stpI A B v j j = A j := by unfold stpI; rw [if_neg (by omega)]
    refine Ev.pos (by omega) (Ev.pos (by omega) (Ev.pos ho (Ev.pos (by omega) (Ev.pos (by omega) (Ev.pos (by omega) ?_)))))
    by_cases c : 0 ≤ B (j - 1)
    · have b1 := hB (j - 1) (by omega)
      refine Ev.pos c (Ev.pos (by omega) (Ev.pos (by omega) (Ev.pos (by omega) (Ev.bindc (most_eq _ _) ?_))))
      rw [w64 (n := B (j - 1) + v) (by omega) (by omega), e1, Int.toNat_natCast, rowI_set]
      have h3 := stpI_s A B v j h1
      rw [tk2_t, if_pos c] at h3
      rw [h3]
      exact nxt
    · rw [stpI_n A B v j hA c]
      exact Ev.neg c nxt
theorem best_ev (o : Nat → Bool) (w : Nat → Int) (hw : ∀ p, 0 ≤ w p ∧ w p ≤ 99) (D : Nat) (hD : 1 ≤ D ∧ D ≤ 30) (op : List Bool) (ws : List Int) (hop : op.length ≤ 24) (hws : op.length ≤ ws.length) (ho : ∀ p, p < op.length → rdOf false op (p : Int) = o p) (hwp : ∀ p, p < op.length → rd ws (p : Int) = w p) (f b : Nat) (hf : f ≤ 60) (hb : b ≤ op.length) :
    Ev (fun k => spec_l9Best.f k op ws (f : Int) ((b : Int) - 1) (D : Int)) (rowI (fun k => bw o w D b k (b - f))) := by
  have bnd : ∀ b m e, m ≤ 25 → bw o w D b m e ≤ 9900 := fun b m e hm => by have := bw_le o w D b hw m e; omega
  have main : ∀ n e, f + e + n = b → Ev (fun k => spec_l9Best.l0 k op ws (f : Int) ((b : Int) - 1) (D : Int) ((List.range e).map fun i => rowI (fun k => bw o w D (f + i + 1) k (i + 1))) ((f + e : Nat) : Int)) (rowI (fun k => bw o w D b k (b - f))) := by
    intro n
    induction n with
    | zero =>
      intro e he
      refine Ev.succ ?_
      simp only [spec_l9Best.l0.eq_2]
      rw [List.length_map, List.length_range]
      refine Ev.neg (by omega) ?_
      cases e with
      | zero =>
        rw [if_pos (by rfl), show b - f = 0 by omega, ← bestZ_row]
        exact Ev.now _
      | succ e =>
        rw [wj1 (e + 1) (by omega) (by omega), Nat.add_sub_cancel]
        refine Ev.neg (by omega) (Ev.pos (by omega) (Ev.pos (by omega) ?_))
        have : bsRd ((List.range (e + 1)).map fun i => rowI (fun k => bw o w D (f + i + 1) k (i + 1))) (e : Int) = rowI (fun k => bw o w D b k (b - f)) := by
          unfold bsRd
          rw [Int.toNat_natCast, List.getD_eq_getElem?_getD, List.getElem?_map, List.getElem?_range (by omega)]
          simp only [Option.map_some, Option.getD_some]
          rw [show f + e + 1 = b by omega, show e + 1 = b - f by omega]
        rw [this]
        exact Ev.now _
    | succ n ih =>
      intro e he
      have hr : ∀ i, i < e → bsRd ((List.range e).map fun i => rowI (fun k => bw o w D (f + i + 1) k (i + 1))) (i : Int) = rowI (fun k => bw o w D (f + i + 1) k (i + 1)) := fun i hi => by
        unfold bsRd
        rw [Int.toNat_natCast, List.getD_eq_getElem?_getD, List.getElem?_map, List.getElem?_range hi]
        rfl
      have hA : bestA (f : Int) ((List.range e).map fun i => rowI (fun k => bw o w D (f + i + 1) k (i + 1))) ((f + e : Nat) : Int) = some (rowI (fun k => bw o w D (f + e) k e)) := by
        unfold bestA
        cases e with
        | zero => rw [if_neg (by omega), ← bestZ_row]
        | succ e =>
          rw [show wrap64 (wrap64 (((f + (e + 1) : Nat) : Int) - (f : Int)) - 1) = (e : Int) by rw [w64 (n := ((f + (e + 1) : Nat) : Int) - (f : Int)) (by omega) (by omega), w64 (by omega) (by omega)]; omega]
          rw [if_pos (by omega), if_pos (by omega), List.length_map, List.length_range, if_pos (by omega), hr e (by omega), own_rowI]
          rfl
      have hB : bestB (f : Int) (D : Int) ((List.range e).map fun i => rowI (fun k => bw o w D (f + i + 1) k (i + 1))) ((f + e : Nat) : Int) = some (rowI (fun k => bw o w D (f + e + 1 - D) k (e + 1 - D))) := by
        unfold bestB
        by_cases c : D ≤ e
        · rw [show wrap64 (wrap64 (((f + e : Nat) : Int) - (f : Int)) - (D : Int)) = ((e - D : Nat) : Int) by rw [w64 (n := ((f + e : Nat) : Int) - (f : Int)) (by omega) (by omega), w64 (by omega) (by omega)]; omega]
          rw [w64 (n := ((f + e : Nat) : Int) - (D : Int)) (by omega) (by omega), if_pos (by omega), if_pos (by omega), List.length_map, List.length_range, if_pos (by omega), hr (e - D) (by omega), show f + (e - D) + 1 = f + e + 1 - D by omega, show e - D + 1 = e + 1 - D by omega]
        · rw [w64 (n := ((f + e : Nat) : Int) - (D : Int)) (by omega) (by omega), if_neg (by omega), show e + 1 - D = 0 by omega, ← bestZ_row]
      have hlen : ((List.range e).map fun i => rowI (fun k => bw o w D (f + i + 1) k (i + 1))).length = e := by simp
      have nxt := ih (e + 1) (by omega)
      rw [List.range_succ, List.map_append, List.map_singleton] at nxt
      refine Ev.succ ?_
      simp only [spec_l9Best.l0.eq_2]
      refine Ev.pos (by omega) (Ev.bindc hA (Ev.bindc hB (Ev.pos (by rw [rowI_len]; decide) ?_)))
      cases hop2 : o (f + e) with
      | true =>
        have s1 : rowI (fun k => bw o w D (f + e) k e) = rowI (stpI (fun k => bw o w D (f + e) k e) (fun k => bw o w D (f + e + 1 - D) k (e + 1 - D)) (w (f + e)) 1) := rowI_ext fun i _ => by unfold stpI; rw [if_neg (by omega)]
        rw [s1]
        refine best_in op ws (f : Int) ((b : Int) - 1) (D : Int) _ (f + e) (by omega) (by omega) (w (f + e)) (hwp (f + e) (by omega)) (hw _) (by rw [ho (f + e) (by omega)]; exact hop2) (by rw [hlen]; omega) _ _ (fun i => bw_ge o w D _ hw _ _) (fun i hi => bnd _ _ _ hi) _ ?_ 24 1 (by omega) (by omega)
        rw [wj2 (f + e) (by omega), rowI_ext (g' := fun k => bw o w D (f + e + 1) k (e + 1)) (fun i hi => ?_)]
        · exact nxt
        · unfold stpI
          cases i with
          | zero => (try simp only []); rw [if_neg (by omega)]; simp only [bw_0]
          | succ m => rw [if_pos (by omega), Nat.add_sub_cancel]; (try simp only []); rw [bw_right o w D hD.1 hw, hop2]
      | false =>
        refine Ev.succ ?_
        simp only [spec_l9Best.l1.eq_2]
        refine Ev.pos (by omega) (Ev.pos (by omega) (Ev.neg (by rw [ho (f + e) (by omega), hop2]; decide) (Ev.pos (by rw [hlen]; omega) ?_)))
        rw [wj2 (f + e) (by omega), rowI_ext (g' := fun k => bw o w D (f + e + 1) k (e + 1)) (fun i hi => ?_)]
        · exact nxt
        · cases i with
          | zero => rw [bw_0, bw_0]
          | succ m =>
            have := bw_ge o w D (f + e) hw (m + 1) e
            (try simp only []); rw [bw_right o w D hD.1 hw, hop2, tk2_f]; omega
  unfold spec_l9Best.f
  by_cases c : f ≤ b
  · exact main (b - f) 0 (by omega)
  · refine Ev.succ ?_
    simp only [spec_l9Best.l0.eq_2]
    rw [show b - f = 0 by omega, ← bestZ_row]
    exact Ev.neg (by omega) (Ev.pos rfl (Ev.now _))
theorem mx_max (a b : Int) : mx a b = max a b := by unfold mx; split <;> omega
theorem bw_step (o : Nat → Bool) (w : Nat → Int) (hw : ∀ p, 0 ≤ w p ∧ w p ≤ 99) (D B m p a : Nat) : bw o w D B (m + 1) (B - mxN p a) = max (bw o w D B (m + 1) (B - mxN (p + 1) a)) (tk2 (o p && decide (a ≤ p ∧ p < B)) (bw o w D B m (B - (p + D))) (w p)) := by
  have hge := bw_ge o w D B hw (m + 1) (B - mxN (p + 1) a)
  by_cases c : a ≤ p ∧ p < B
  · obtain ⟨e', he'⟩ : ∃ e', B - mxN p a = e' + 1 := ⟨B - p - 1, by unfold mxN; split <;> omega⟩
    have h2 : B - mxN (p + 1) a = e' := by unfold mxN at he' ⊢; split at he' <;> split <;> omega
    have h3 : B - (e' + 1) = p := by unfold mxN at he'; split at he' <;> omega
    rw [decide_eq_true c, Bool.and_true, he', h2, bw_ss, h3, show e' + 1 - D = B - (p + D) by omega]
  · rw [decide_eq_false c, Bool.and_false, tk2_f]
    have : bw o w D B (m + 1) (B - mxN p a) = bw o w D B (m + 1) (B - mxN (p + 1) a) := by
      by_cases c1 : p < a
      · rw [show mxN p a = mxN (p + 1) a by unfold mxN; split <;> split <;> omega]
      · rw [show B - mxN p a = 0 by unfold mxN; split <;> omega, show B - mxN (p + 1) a = 0 by unfold mxN; split <;> omega]
    rw [this]; omega
theorem bw_take (o : Nat → Bool) (w : Nat → Int) (hw : ∀ p, 0 ≤ w p ∧ w p ≤ 99) (D B i p a : Nat) (ho : o p = true) (h : a ≤ p ∧ p < B) (h0 : 0 ≤ bw o w D B i (B - (p + D))) : bw o w D B i (B - (p + D)) + w p ≤ bw o w D B (i + 1) (B - a) := by
  have h1 := bw_ups o w D B (i + 1) (B - p) (p - a)
  rw [show B - p + (p - a) = B - a by omega] at h1
  refine Int.le_trans ?_ h1
  obtain ⟨e, he⟩ : ∃ e, B - p = e + 1 := ⟨B - p - 1, by omega⟩
  rw [he, bw_ss, show B - (e + 1) = p by omega, ho, show e + 1 - D = B - (p + D) by omega, tk2_t, if_pos h0]
  omega
theorem bw_pick (o : Nat → Bool) (w : Nat → Int) (hw : ∀ p, 0 ≤ w p ∧ w p ≤ 99) (D B m : Nat) : ∀ n a, B - a = n → 0 ≤ bw o w D B (m + 1) n → ∃ p, a ≤ p ∧ p < B ∧ o p = true ∧ 0 ≤ bw o w D B m (B - (p + D)) ∧ bw o w D B m (B - (p + D)) + w p = bw o w D B (m + 1) n ∧ ∀ x, a ≤ x → x < p → ¬ (o x = true ∧ 0 ≤ bw o w D B m (B - (x + D)) ∧ bw o w D B m (B - (x + D)) + w x = bw o w D B (m + 1) n) := by
  intro n
  induction n with
  | zero => intro a _ h; rw [bw_s0] at h; omega
  | succ n ih =>
    intro a ha h
    have hb := bw_ss o w D B m n
    rw [show B - (n + 1) = a by omega, show n + 1 - D = B - (a + D) by omega] at hb
    by_cases c : o a = true ∧ 0 ≤ bw o w D B m (B - (a + D)) ∧ bw o w D B m (B - (a + D)) + w a = bw o w D B (m + 1) (n + 1)
    · exact ⟨a, Nat.le_refl _, by omega, c.1, c.2.1, c.2.2, fun x h1 h2 => by omega⟩
    · have he : bw o w D B (m + 1) (n + 1) = bw o w D B (m + 1) n := by
        unfold tk2 at hb
        by_cases c2 : o a = true ∧ 0 ≤ bw o w D B m (B - (a + D))
        · rw [if_pos c2] at hb
          have : ¬ bw o w D B m (B - (a + D)) + w a = bw o w D B (m + 1) (n + 1) := fun h3 => c ⟨c2.1, c2.2, h3⟩
          omega
        · rw [if_neg c2] at hb; omega
      rw [he] at h c ⊢
      obtain ⟨p, p1, p2, p3, p4, p5, p6⟩ := ih (a + 1) (by omega) h
      refine ⟨p, by omega, p2, p3, p4, p5, fun x h1 h2 => ?_⟩
      by_cases e : x = a
      · subst e; exact c
      · exact p6 x (by omega) h2
def rgB (o : Nat → Bool) (w : Nat → Int) (r : Bool) (s D m : Nat) : Nat → Int
  | 0 => -1
  | e + 1 => max (rgB o w r s D m e) (tk2 (o (s - (e + 1))) (bw o w D (bpN r s D (s - (e + 1))) m (bpN r s D (s - (e + 1)) - (s - (e + 1) + D))) (w (s - (e + 1))))
theorem rgB_s (o : Nat → Bool) (w : Nat → Int) (r : Bool) (s D m e : Nat) : rgB o w r s D m (e + 1) = max (rgB o w r s D m e) (tk2 (o (s - (e + 1))) (bw o w D (bpN r s D (s - (e + 1))) m (bpN r s D (s - (e + 1)) - (s - (e + 1) + D))) (w (s - (e + 1)))) := rfl
theorem rgB_ge (o : Nat → Bool) (w : Nat → Int) (r : Bool) (s D m : Nat) : ∀ e, -1 ≤ rgB o w r s D m e := by
  intro e
  induction e with
  | zero => exact Int.le_refl _
  | succ e ih => rw [rgB_s]; omega
theorem rgB_le (o : Nat → Bool) (w : Nat → Int) (hw : ∀ p, 0 ≤ w p ∧ w p ≤ 99) (r : Bool) (s D m : Nat) : ∀ e, rgB o w r s D m e ≤ 99 * (m : Int) + 99 := by
  intro e
  induction e with
  | zero => show (-1 : Int) ≤ _; omega
  | succ e ih =>
    have h1 := bw_le o w D (bpN r s D (s - (e + 1))) hw m (bpN r s D (s - (e + 1)) - (s - (e + 1) + D))
    have h2 := hw (s - (e + 1))
    rw [rgB_s]; unfold tk2; split <;> omega
theorem rgB_line (o : Nat → Bool) (w : Nat → Int) (s D m : Nat) : ∀ e, e ≤ s → rgB o w false s D m e = bw o w D s (m + 1) e := by
  intro e
  induction e with
  | zero => intro _; rw [bw_s0]; rfl
  | succ e ih =>
    intro he
    rw [bw_ss, ← ih (by omega), rgB_s]
    have hb : bpN false s D (s - (e + 1)) = s := by unfold bpN; rw [if_neg (by decide)]
    rw [hb, show s - (s - (e + 1) + D) = e + 1 - D by omega]
theorem rgB_none (o : Nat → Bool) (w : Nat → Int) (r : Bool) (s D m : Nat) (hD : 1 ≤ D) (hm : s ≤ m) : ∀ e, e ≤ s → rgB o w r s D m e = -1 := by
  intro e
  induction e with
  | zero => intro _; rfl
  | succ e ih =>
    intro he
    have hb := bpN_le r s D (s - (e + 1))
    rw [rgB_s, ih (by omega), bw_none o w D _ hD m _ (by omega), tk2_n]; rfl
theorem rgB_in (o : Nat → Bool) (w : Nat → Int) (r : Bool) (s D m p : Nat) (ho : o p = true) (h0 : 0 ≤ bw o w D (bpN r s D p) m (bpN r s D p - (p + D))) : ∀ e, e ≤ s → s - e ≤ p → p < s → bw o w D (bpN r s D p) m (bpN r s D p - (p + D)) + w p ≤ rgB o w r s D m e := by
  intro e
  induction e with
  | zero => intro _ h1 h2; omega
  | succ e ih =>
    intro he h1 h2
    rw [rgB_s]
    by_cases c : p = s - (e + 1)
    · rw [← c, ho, tk2_t, if_pos h0]; omega
    · have := ih (by omega) (by omega) h2; omega
theorem rgB_pick (o : Nat → Bool) (w : Nat → Int) (r : Bool) (s D m : Nat) : ∀ n, n ≤ s → 0 ≤ rgB o w r s D m n → ∃ p, s - n ≤ p ∧ p < s ∧ o p = true ∧ 0 ≤ bw o w D (bpN r s D p) m (bpN r s D p - (p + D)) ∧ bw o w D (bpN r s D p) m (bpN r s D p - (p + D)) + w p = rgB o w r s D m n ∧ ∀ x, s - n ≤ x → x < p → ¬ (o x = true ∧ 0 ≤ bw o w D (bpN r s D x) m (bpN r s D x - (x + D)) ∧ bw o w D (bpN r s D x) m (bpN r s D x - (x + D)) + w x = rgB o w r s D m n) := by
  intro n
  induction n with
  | zero => intro _ h; have h : (0 : Int) ≤ -1 := h; omega
  | succ n ih =>
    intro hn h
    have hb := rgB_s o w r s D m n
    obtain ⟨a, ha⟩ : ∃ a, s - (n + 1) = a := ⟨_, rfl⟩
    rw [ha] at hb ⊢
    by_cases c : o a = true ∧ 0 ≤ bw o w D (bpN r s D a) m (bpN r s D a - (a + D)) ∧ bw o w D (bpN r s D a) m (bpN r s D a - (a + D)) + w a = rgB o w r s D m (n + 1)
    · exact ⟨a, Nat.le_refl _, by omega, c.1, c.2.1, c.2.2, fun x h1 h2 => by omega⟩
    · have he : rgB o w r s D m (n + 1) = rgB o w r s D m n := by
        unfold tk2 at hb
        by_cases c2 : o a = true ∧ 0 ≤ bw o w D (bpN r s D a) m (bpN r s D a - (a + D))
        · rw [if_pos c2] at hb
          have : ¬ bw o w D (bpN r s D a) m (bpN r s D a - (a + D)) + w a = rgB o w r s D m (n + 1) := fun h3 => c ⟨c2.1, c2.2, h3⟩
          omega
        · rw [if_neg c2] at hb; omega
      rw [he] at h c ⊢
      obtain ⟨p, p1, p2, p3, p4, p5, p6⟩ := ih (by omega) h
      refine ⟨p, by omega, p2, p3, p4, p5, fun x h1 h2 => ?_⟩
      by_cases e : x = a
      · subst e; exact c
      · exact p6 x (by omega) h2
/-- the greatest worths -/
def totB (o : Nat → Bool) (w : Nat → Int) (r : Bool) (s D : Nat) : Nat → Int
  | 0 => 0
  | m + 1 => rgB o w r s D m s
section
variable {s : Int} {r : Bool} {tk : List Int} {d : Int} {sn : Nat} {ws : List Int}
theorem wl (hsn : s = (sn : Int)) (hs : sn ≤ 24) (hws : ws.length = sn) (w : Nat → Int) (hwp : ∀ p : Nat, p < sn → rd ws (p : Int) = w p) (hw : ∀ p, 0 ≤ w p ∧ w p ≤ 99) (F La : Int) (HD : Nat → Int) (lo m : Nat) (hm : m ≤ 30) (ok : Nat → Bool) (V W : Nat → Int)
    (hfol : ∀ x : Nat, lo ≤ x → x < sn → Ev (fun k => impl_spacing_follows.f k s r tk (mn d 25) F La (x : Int)) (ok x))
    (hhd : ∀ x : Nat, impl_spacing_head.f F (x : Int) = some (HD x))
    (hV : ∀ x : Nat, lo ≤ x → x < sn → Ev (fun k => impl_spacing_worth.f k s r tk (mn d 25) ws (HD x) (x : Int) (m : Int)) (V x))
    (hVb : ∀ x, -1 ≤ V x ∧ V x ≤ 9900) (hW0 : W sn = -1) (hWs : ∀ x, lo ≤ x → x < sn → W x = max (W (x + 1)) (tk2 (ok x) (V x) (w x))) :
    ∀ n x acc, x + n = sn → lo ≤ x → -1 ≤ acc → acc ≤ 99999 → Ev (fun k => impl_spacing_worth.l0 k s r tk (mn d 25) ws F La ((m + 1 : Nat) : Int) (x : Int) acc) (max acc (W x)) := by
  intro n
  induction n with
  | zero =>
    intro x acc h1 h2 h3 h4
    obtain rfl : x = sn := by omega
    rw [hW0, show max acc (-1) = acc by omega]
    refine Ev.succ ?_
    simp only [impl_spacing_worth.l0.eq_2]
    exact Ev.neg (by omega) (Ev.now _)
  | succ n ih =>
    intro x acc h1 h2 h3 h4
    have hx : (x : Int) < s := by omega
    have hf := hfol x h2 (by omega)
    have hv := hV x h2 (by omega)
    have hb := hVb x
    have hww := hw x
    have hst := hWs x h2 (by omega)
    refine Ev.succ ?_
    simp only [impl_spacing_worth.l0.eq_2]
    rw [wj2 x (by omega), wj1 (m + 1) (by omega) (by omega), Nat.add_sub_cancel, hwp x (by omega)]
    refine Ev.pos hx (Ev.bind hf ?_)
    cases ho : ok x with
    | false =>
      rw [ho, tk2_f] at hst
      have nxt := ih (x + 1) acc (by omega) (by omega) h3 h4
      rw [show max acc (W x) = max acc (W (x + 1)) by rw [hst]; omega]
      exact Ev.neg (by decide) nxt
    | true =>
      rw [ho, tk2_t] at hst
      refine Ev.pos rfl (Ev.bindc (hhd x) (Ev.bind hv ?_))
      by_cases c : 0 ≤ V x
      · rw [if_pos c] at hst
        have nxt := ih (x + 1) (max acc (V x + w x)) (by omega) (by omega) (by omega) (by omega)
        rw [show max (max acc (V x + w x)) (W (x + 1)) = max acc (W x) by rw [hst]; omega] at nxt
        rw [w64 (n := V x + w x) (by omega) (by omega), mx_max]
        exact Ev.pos c (Ev.pos (by omega) (Ev.pos (by omega) nxt))
      · rw [if_neg c] at hst
        have nxt := ih (x + 1) acc (by omega) (by omega) h3 h4
        rw [show max acc (W x) = max acc (W (x + 1)) by rw [hst]; omega]
        exact Ev.neg c nxt
theorem im_go (hsn : s = (sn : Int)) (hs : sn ≤ 24) (hws : ws.length = sn) (w : Nat → Int) (hwp : ∀ p : Nat, p < sn → rd ws (p : Int) = w p) (hw : ∀ p, 0 ≤ w p ∧ w p ≤ 99) (F La : Int) (HD : Nat → Int) (lo m KK : Nat) (best L : Int) (hL : 0 ≤ L ∧ L ≤ 9900) (out : List Int) (hlen : out.length + (m + 1) = KK) (hk : KK ≤ 24) (ok : Nat → Bool) (V : Nat → Int)
    (hfol : ∀ x : Nat, lo ≤ x → x < sn → Ev (fun k => impl_spacing_follows.f k s r tk (mn d 25) F La (x : Int)) (ok x))
    (hhd : ∀ x : Nat, impl_spacing_head.f F (x : Int) = some (HD x))
    (hV : ∀ x : Nat, lo ≤ x → x < sn → Ev (fun k => impl_spacing_worth.f k s r tk (mn d 25) ws (HD x) (x : Int) (m : Int)) (V x))
    (hVb : ∀ x, -1 ≤ V x ∧ V x ≤ 9900) (hokL : ∀ x, lo ≤ x → x < sn → ok x = true → w x ≤ L) (p : Nat) (hp : p < sn) (hp1 : ok p = true) (hp2 : 0 ≤ V p) (hp3 : V p + w p = L) (R : Int × List Int × Bool)
    (hR : Ev (fun k => impl_BestWorth.l1 k s r tk (mn d 25) ws best (KK : Int) (L - w p) (HD p) (p : Int) ((p + 1 : Nat) : Int) (out ++ [(p : Int)])) R) :
    ∀ n x, x + n = p → lo ≤ x → (∀ y, x ≤ y → y < p → ¬ (ok y = true ∧ 0 ≤ V y ∧ V y + w y = L)) → Ev (fun k => impl_BestWorth.l1 k s r tk (mn d 25) ws best (KK : Int) L F La (x : Int) out) R := by
  have hz : wrap64 (wrap64 ((KK : Int) - (out.length : Int)) - 1) = (m : Int) := by rw [w64 (n := (KK : Int) - (out.length : Int)) (by omega) (by omega), w64 (by omega) (by omega)]; omega
  have hc8 : (out.length : Int) < (KK : Int) := by omega
  have hc6 : out.length + 1 < 17592186044416 := by omega
  intro n
  induction n with
  | zero =>
    intro x h1 h2 h3
    obtain rfl : x = p := by omega
    have hb := hVb x
    have hww := hw x
    have hf := hfol x h2 hp
    have hv := hV x h2 hp
    rw [hp1] at hf
    refine Ev.succ ?_
    simp only [impl_BestWorth.l1.eq_2]
    rw [hz, wj2 x (by omega), hwp x hp, w64 (n := L - w x) (by omega) (by omega)]
    exact Ev.pos hc8 (Ev.bind hf (Ev.pos rfl (Ev.bindc (hhd x) (Ev.bind hv (Ev.pos (by omega) (Ev.pos (by omega) (Ev.pos (by omega) (Ev.pos hc6 hR))))))))
  | succ n ih =>
    intro x h1 h2 h3
    have nxt := ih (x + 1) (by omega) (by omega) (fun y h4 h5 => h3 y (by omega) h5)
    have hno := h3 x (Nat.le_refl _) (by omega)
    have hb := hVb x
    have hww := hw x
    have hf := hfol x h2 (by omega)
    have hv := hV x h2 (by omega)
    refine Ev.succ ?_
    simp only [impl_BestWorth.l1.eq_2]
    rw [hz, wj2 x (by omega), hwp x (by omega), w64 (n := L - w x) (by omega) (by omega)]
    refine Ev.pos hc8 (Ev.bind hf ?_)
    cases ho : ok x with
    | false => exact Ev.neg (by decide) nxt
    | true =>
      have hl := hokL x h2 (by omega) ho
      have hne : ¬ V x = L - w x := fun h => hno ⟨ho, by omega, by omega⟩
      exact Ev.pos rfl (Ev.bindc (hhd x) (Ev.bind hv (Ev.pos (by omega) (Ev.pos (by omega) (Ev.neg hne nxt)))))
theorem sp_go1 (hs : sn ≤ 24) (op : List Bool) (hop : op.length = sn) (hws : ws.length = sn) (w : Nat → Int) (hwp : ∀ p : Nat, p < sn → rd ws (p : Int) = w p) (hw : ∀ p, 0 ≤ w p ∧ w p ≤ 99) (o : Nat → Bool) (ho : ∀ p, p < sn → rdOf false op (p : Int) = o p) (D : Nat) (hD : D ≤ 24) (m KK : Nat) (L : Int) (hL : 0 ≤ L ∧ L ≤ 9900) (lst : Int) (out : List Int) (hpos : 0 < out.length) (hlen : out.length + (m + 1) = KK) (hk : KK ≤ 24) (V : Nat → Int) (hVb : ∀ x, -1 ≤ V x ∧ V x ≤ 9900)
    (hrow : ∀ x : Nat, x < sn → ∃ g : Nat → Int, g m = V x ∧ Ev (fun k => spec_l9Best.f k op ws ((x + D : Nat) : Int) lst (D : Int)) (rowI g)) (p : Nat) (hp : p < sn) (hp1 : o p = true) (hp2 : 0 ≤ V p) (hp3 : V p + w p = L) (R : List Int)
    (hR : Ev (fun k => spec_l9Choose.l0 k op ws (KK : Int) (L - w p) (D : Int) (out ++ [(p : Int)]) ((p + D : Nat) : Int) lst s r tk) R) :
    ∀ n x, x + n = p → (∀ y, x ≤ y → y < p → ¬ (o y = true ∧ 0 ≤ V y ∧ V y + w y = L)) → Ev (fun k => spec_l9Choose.l1 k op ws (KK : Int) L (D : Int) out lst (x : Int) s r tk) R := by
  have hz : wrap64 (wrap64 ((KK : Int) - (out.length : Int)) - 1) = (m : Int) := by rw [w64 (n := (KK : Int) - (out.length : Int)) (by omega) (by omega), w64 (by omega) (by omega)]; omega
  have hc6 : out.length < 17592186044416 := by omega
  intro n
  induction n with
  | zero =>
    intro x h1 h3
    obtain rfl : x = p := by omega
    have hb := hVb x
    have hww := hw x
    obtain ⟨g, hg, he⟩ := hrow x hp
    refine Ev.succ ?_
    simp only [spec_l9Choose.l1.eq_2]
    rw [hz, w64 (n := (x : Int) + (D : Int)) (by omega) (by omega), show (x : Int) + (D : Int) = ((x + D : Nat) : Int) by omega, hwp x hp, w64 (n := L - w x) (by omega) (by omega)]
    refine Ev.neg (by omega) (Ev.bind he ?_)
    rw [rowI_len, rowI_rd g m (by omega), hg, w64 (n := w x + V x) (by omega) (by omega)]
    exact Ev.pos (by omega) (Ev.pos (by omega) (Ev.pos (by omega) (Ev.pos (by omega) (Ev.pos (by rw [ho x hp]; exact hp1) (Ev.pos hp2 (Ev.pos (by omega) (Ev.pos (by omega) (Ev.pos hc6 hR))))))))
  | succ n ih =>
    intro x h1 h3
    have nxt := ih (x + 1) (by omega) (fun y h4 h5 => h3 y (by omega) h5)
    have hno := h3 x (Nat.le_refl _) (by omega)
    have hb := hVb x
    have hww := hw x
    obtain ⟨g, hg, he⟩ := hrow x (by omega)
    refine Ev.succ ?_
    simp only [spec_l9Choose.l1.eq_2]
    rw [hz, w64 (n := (x : Int) + (D : Int)) (by omega) (by omega), show (x : Int) + (D : Int) = ((x + D : Nat) : Int) by omega, hwp x (by omega), wj2 x (by omega)]
    refine Ev.neg (by omega) (Ev.bind he ?_)
    rw [rowI_len, rowI_rd g m (by omega), hg, w64 (n := w x + V x) (by omega) (by omega)]
    refine Ev.pos (by omega) (Ev.pos (by omega) (Ev.pos (by omega) (Ev.pos (by omega) ?_)))
    by_cases c : o x = true
    · refine Ev.pos (by rw [ho x (by omega)]; exact c) ?_
      by_cases c2 : 0 ≤ V x
      · exact Ev.pos c2 (Ev.pos (by omega) (Ev.neg (fun h => hno ⟨c, c2, by omega⟩) nxt))
      · exact Ev.neg c2 nxt
    · exact Ev.neg (by rw [ho x (by omega)]; exact c) nxt
theorem sp_go0 (hs : sn ≤ 24) (op : List Bool) (hop : op.length = sn) (hws : ws.length = sn) (w : Nat → Int) (hwp : ∀ p : Nat, p < sn → rd ws (p : Int) = w p) (hw : ∀ p, 0 ≤ w p ∧ w p ≤ 99) (o : Nat → Bool) (ho : ∀ p, p < sn → rdOf false op (p : Int) = o p) (D : Nat) (hD : D ≤ 24) (m : Nat) (L : Int) (hL : 0 ≤ L ∧ L ≤ 9900) (lst0 : Int) (lst : Nat → Int) (hk : m + 1 ≤ 24) (V : Nat → Int) (hVb : ∀ x, -1 ≤ V x ∧ V x ≤ 9900)
    (hend : ∀ x : Nat, x < sn → spec_l9End.f s r tk (x : Int) (D : Int) = some (lst x))
    (hrow : ∀ x : Nat, x < sn → ∃ g : Nat → Int, g m = V x ∧ Ev (fun k => spec_l9Best.f k op ws ((x + D : Nat) : Int) (lst x) (D : Int)) (rowI g)) (p : Nat) (hp : p < sn) (hp1 : o p = true) (hp2 : 0 ≤ V p) (hp3 : V p + w p = L) (R : List Int)
    (hR : Ev (fun k => spec_l9Choose.l0 k op ws ((m + 1 : Nat) : Int) (L - w p) (D : Int) [(p : Int)] ((p + D : Nat) : Int) (lst p) s r tk) R) :
    ∀ n x, x + n = p → (∀ y, x ≤ y → y < p → ¬ (o y = true ∧ 0 ≤ V y ∧ V y + w y = L)) → Ev (fun k => spec_l9Choose.l1 k op ws ((m + 1 : Nat) : Int) L (D : Int) ([] : List Int) lst0 (x : Int) s r tk) R := by
  have hz : wrap64 (wrap64 (((m + 1 : Nat) : Int) - ((([] : List Int).length : Nat) : Int)) - 1) = (m : Int) := by
    show wrap64 (wrap64 (((m + 1 : Nat) : Int) - (0 : Int)) - 1) = (m : Int)
    rw [w64 (n := ((m + 1 : Nat) : Int) - (0 : Int)) (by omega) (by omega), w64 (by omega) (by omega)]; omega
  intro n
  induction n with
  | zero =>
    intro x h1 h3
    obtain rfl : x = p := by omega
    have hb := hVb x
    have hww := hw x
    obtain ⟨g, hg, he⟩ := hrow x hp
    refine Ev.succ ?_
    simp only [spec_l9Choose.l1.eq_2]
    rw [hz, w64 (n := (x : Int) + (D : Int)) (by omega) (by omega), show (x : Int) + (D : Int) = ((x + D : Nat) : Int) by omega, hwp x hp, w64 (n := L - w x) (by omega) (by omega)]
    refine Ev.pos rfl (Ev.bindc (hend x hp) (Ev.bind he ?_))
    rw [rowI_len, rowI_rd g m (by omega), hg, w64 (n := w x + V x) (by omega) (by omega)]
    exact Ev.pos (by omega) (Ev.pos (by omega) (Ev.pos (by omega) (Ev.pos (by omega) (Ev.pos (by rw [ho x hp]; exact hp1) (Ev.pos hp2 (Ev.pos (by omega) (Ev.pos (by omega) (Ev.pos (by decide) hR))))))))
  | succ n ih =>
    intro x h1 h3
    have nxt := ih (x + 1) (by omega) (fun y h4 h5 => h3 y (by omega) h5)
    have hno := h3 x (Nat.le_refl _) (by omega)
    have hb := hVb x
    have hww := hw x
    obtain ⟨g, hg, he⟩ := hrow x (by omega)
    refine Ev.succ ?_
    simp only [spec_l9Choose.l1.eq_2]
    rw [hz, w64 (n := (x : Int) + (D : Int)) (by omega) (by omega), show (x : Int) + (D : Int) = ((x + D : Nat) : Int) by omega, hwp x (by omega), wj2 x (by omega)]
    refine Ev.pos rfl (Ev.bindc (hend x (by omega)) (Ev.bind he ?_))
    rw [rowI_len, rowI_rd g m (by omega), hg, w64 (n := w x + V x) (by omega) (by omega)]
    refine Ev.pos (by omega) (Ev.pos (by omega) (Ev.pos (by omega) (Ev.pos (by omega) ?_)))
    by_cases c : o x = true
    · refine Ev.pos (by rw [ho x (by omega)]; exact c) ?_
      by_cases c2 : 0 ≤ V x
      · exact Ev.pos c2 (Ev.pos (by omega) (Ev.neg (fun h => hno ⟨c, c2, by omega⟩) nxt))
      · exact Ev.neg c2 nxt
    · exact Ev.neg (by rw [ho x (by omega)]; exact c) nxt
end
theorem end_eq (s : Int) (r : Bool) (tk : List Int) (sn : Nat) (hsn : s = (sn : Int)) (hs : 2 ≤ sn ∧ sn ≤ 24) (D : Nat) (hD : 1 ≤ D ∧ D ≤ sn) (x : Nat) (hx : x < sn) : spec_l9End.f s r tk (x : Int) (D : Int) = some ((bpN r sn D x : Nat) - 1 : Int) := by
  subst hsn
  unfold spec_l9End.f
  rw [w64 (n := (sn : Int) - 1) (by omega) (by omega), w64 (n := (x : Int) + (sn : Int)) (by omega) (by omega), w64 (n := (x : Int) + (sn : Int) - (D : Int)) (by omega) (by omega)]
  cases r with
  | false =>
    rw [if_neg (by decide)]
    unfold bpN
    rw [if_neg (by decide)]
  | true =>
    rw [if_pos rfl]
    unfold bpN spec_l1Least.f
    rw [if_pos rfl]
    by_cases c : x + sn - D + 1 < sn
    · rw [if_pos c, if_neg (by omega)]
      show some _ = some _
      congr 1; omega
    · rw [if_neg c]
      split
      · rfl
      · show some _ = some _
        congr 1; omega
section
variable {s : Int} {r : Bool} {tk : List Int} {d : Int} {sn : Nat} {ws : List Int}
theorem all_in (op : List Bool) (D : Int) (p : Nat) (hp : p < op.length) (hpw : p < ws.length) (v : Int) (hv : rd ws (p : Int) = v) (hv9 : 0 ≤ v ∧ v ≤ 99) (ho : rdOf false op (p : Int) = true) (A B : Nat → Int) (hA : ∀ i, -1 ≤ A i) (hB : ∀ i, i ≤ 25 → B i ≤ 9900) (R : List Int)
    (hR : Ev (fun k => spec_l9All.l1 k op ws D (rowI (stpI A B v 25)) (wrap64 ((p : Int) + 1)) s r tk) R) :
    ∀ e (j : Nat), j + e = 25 → 1 ≤ j → Ev (fun k => spec_l9All.l2 k op ws D (rowI (stpI A B v j)) (p : Int) (rowI B) (j : Int) s r tk) R := by
  intro e
  induction e with
  | zero =>
    intro j hj h1
    obtain rfl : j = 25 := by omega
    refine Ev.succ ?_
    simp only [spec_l9All.l2.eq_2]
    refine Ev.pos (by omega) (Ev.pos (by omega) (Ev.pos ho (Ev.succ ?_)))
    simp only [spec_l9All.j3.eq_2]
    exact Ev.neg (by decide) hR
  | succ e ih =>
    intro j hj h1
    have nxt := ih (j + 1) (by omega) (by omega)
    refine Ev.succ ?_
    simp only [spec_l9All.l2.eq_2]
    refine Ev.pos (by omega) (Ev.pos (by omega) (Ev.pos ho (Ev.succ ?_)))
    simp only [spec_l9All.j3.eq_2]
    rw [wj1 j h1 (by omega), rowI_len, rowI_len, rowI_rd _ j (by omega), rowI_rd _ (j - 1) (by omega), hv, wj2 j (by omega)]
    have e1 : stpI A B v j j = A j := by unfold stpI; rw [if_neg (by omega)]
    refine Ev.pos (decide_eq_true (by omega)) (Ev.pos (by omega) (Ev.pos (by omega) ?_))
    by_cases c : 0 ≤ B (j - 1)
    · have b1 := hB (j - 1) (by omega)
      refine Ev.pos c (Ev.pos (by omega) (Ev.pos (by omega) (Ev.pos (by omega) (Ev.pos (by omega) (Ev.bindc (most_eq _ _) ?_)))))
      rw [w64 (n := v + B (j - 1)) (by omega) (by omega), e1, Int.toNat_natCast, rowI_set, Int.add_comm v]
      have h3 := stpI_s A B v j h1
      rw [tk2_t, if_pos c] at h3
      rw [h3]
      exact nxt
    · rw [stpI_n A B v j hA c]
      exact Ev.neg c nxt
theorem all_z (op : List Bool) (D : Int) (R : List Int) (hR : Ev (fun k => spec_l9All.l1 k op ws D ((0 : Int) :: List.replicate 24 (-1 : Int)) 0 s r tk) R) : ∀ e (j : Nat), j + e = 25 → 1 ≤ j → Ev (fun k => spec_l9All.l0 k op ws D ((0 : Int) :: List.replicate (j - 1) (-1 : Int)) (j : Int) s r tk) R := by
  intro e
  induction e with
  | zero =>
    intro j hj h1
    obtain rfl : j = 25 := by omega
    refine Ev.succ ?_
    simp only [spec_l9All.l0.eq_2]
    exact Ev.neg (by omega) hR
  | succ e ih =>
    intro j hj h1
    have nxt := ih (j + 1) (by omega) (by omega)
    refine Ev.succ ?_
    simp only [spec_l9All.l0.eq_2]
    rw [wj2 j (by omega), List.cons_append, ← List.replicate_succ', show j - 1 + 1 = j + 1 - 1 by omega]
    exact Ev.pos (by omega) (Ev.pos (by simp; omega) nxt)
theorem all_ev (hsn : s = (sn : Int)) (hs : 2 ≤ sn ∧ sn ≤ 24) (o : Nat → Bool) (w : Nat → Int) (hw : ∀ p, 0 ≤ w p ∧ w p ≤ 99) (D : Nat) (hD : 1 ≤ D ∧ D ≤ sn) (op : List Bool) (hop : op.length = sn) (hws : ws.length = sn) (ho : ∀ p, p < sn → rdOf false op (p : Int) = o p) (hwp : ∀ p, p < sn → rd ws (p : Int) = w p) :
    Ev (fun k => spec_l9All.f k s r tk op ws (D : Int)) (rowI (totB o w r sn D)) := by
  subst hop
  unfold spec_l9All.f
  have hbe := fun f b hf hb => best_ev o w hw D ⟨hD.1, by omega⟩ op ws hs.2 (by omega) ho hwp f b hf hb
  cases r with
  | false =>
    refine Ev.neg (by decide) ?_
    have h1 := hbe 0 op.length (by omega) (Nat.le_refl _)
    rw [rowI_ext (g' := totB o w false op.length D) (fun i _ => ?_)] at h1
    · rw [w64 (n := s - 1) (by omega) (by omega), hsn]
      exact Ev.bind h1 (Ev.now _)
    · cases i with
      | zero => exact bw_0 _ _ _ _ _
      | succ m => show bw o w D op.length (m + 1) (op.length - 0) = rgB o w false op.length D m op.length; rw [rgB_line o w op.length D m op.length (Nat.le_refl _), Nat.sub_zero]
  | true =>
    refine Ev.pos rfl ?_
    have lp : ∀ n p (g : Nat → Int), p + n = op.length → (∀ k, -1 ≤ g k) → Ev (fun k => spec_l9All.l1 k op ws (D : Int) (rowI g) (p : Int) s true tk) (rowI (fun k => if k = 0 then g 0 else max (g k) (rgB o w true op.length D (k - 1) n))) := by
      intro n
      induction n with
      | zero =>
        intro p g hp hg
        refine Ev.succ ?_
        simp only [spec_l9All.l1.eq_2]
        have hx : (rowI fun k => if k = 0 then g 0 else max (g k) (rgB o w true op.length D (k - 1) 0)) = rowI g := rowI_ext fun i _ => by
          cases i with
          | zero => rfl
          | succ m =>
            have := hg (m + 1)
            rw [if_neg (by omega)]; show max (g (m + 1)) (-1) = _; omega
        rw [hx]
        exact Ev.neg (by omega) (Ev.now _)
      | succ n ih =>
        intro p g hp hg
        have hb := bpN_le true op.length D p
        have h1 := hbe (p + D) (bpN true op.length D p) (by omega) hb
        have hps : op.length - (n + 1) = p := by omega
        refine Ev.succ ?_
        simp only [spec_l9All.l1.eq_2]
        rw [w64 (n := (p : Int) + (D : Int)) (by omega) (by omega), show (p : Int) + (D : Int) = ((p + D : Nat) : Int) by omega]
        refine Ev.pos (by omega) (Ev.bindc (end_eq s true tk op.length hsn hs D hD p (by omega)) (Ev.bind h1 ?_))
        cases hop2 : o p with
        | true =>
          have s1 : rowI g = rowI (stpI g (fun k => bw o w D (bpN true op.length D p) k (bpN true op.length D p - (p + D))) (w p) 1) := rowI_ext fun i _ => by unfold stpI; rw [if_neg (by omega)]
          rw [s1]
          refine all_in op (D : Int) p (by omega) (by omega) (w p) (hwp p (by omega)) (hw p) (by rw [ho p (by omega)]; exact hop2) g _ hg (fun i hi => by have := bw_le o w D (bpN true op.length D p) hw i (bpN true op.length D p - (p + D)); omega) _ ?_ 24 1 (by omega) (by omega)
          rw [wj2 p (by omega)]
          have nxt := ih (p + 1) (stpI g (fun k => bw o w D (bpN true op.length D p) k (bpN true op.length D p - (p + D))) (w p) 25) (by omega) (fun k => by have := hg k; unfold stpI; split <;> omega)
          have hx : (rowI fun k => if k = 0 then stpI g (fun k => bw o w D (bpN true op.length D p) k (bpN true op.length D p - (p + D))) (w p) 25 0 else max (stpI g (fun k => bw o w D (bpN true op.length D p) k (bpN true op.length D p - (p + D))) (w p) 25 k) (rgB o w true op.length D (k - 1) n)) = rowI (fun k => if k = 0 then g 0 else max (g k) (rgB o w true op.length D (k - 1) (n + 1))) := rowI_ext fun i hi => by
            cases i with
            | zero => unfold stpI; rw [if_pos rfl, if_pos rfl, if_neg (by omega)]
            | succ m =>
              rw [if_neg (by omega), if_neg (by omega)]
              unfold stpI
              rw [if_pos (by omega), Nat.add_sub_cancel, rgB_s, hps, hop2]
              dsimp only
              omega
          rw [hx] at nxt
          exact nxt
        | false =>
          have nxt := ih (p + 1) g (by omega) hg
          refine Ev.succ ?_
          simp only [spec_l9All.l2.eq_2]
          refine Ev.pos (by omega) (Ev.pos (by omega) (Ev.neg (by rw [ho p (by omega), hop2]; decide) (Ev.succ ?_)))
          simp only [spec_l9All.j3.eq_2]
          rw [wj2 p (by omega)]
          have hx : (rowI fun k => if k = 0 then g 0 else max (g k) (rgB o w true op.length D (k - 1) n)) = rowI (fun k => if k = 0 then g 0 else max (g k) (rgB o w true op.length D (k - 1) (n + 1))) := rowI_ext fun i hi => by
            cases i with
            | zero => rw [if_pos rfl, if_pos rfl]
            | succ m =>
              have := hg (m + 1)
              have h2 := rgB_ge o w true op.length D m n
              rw [if_neg (by omega), if_neg (by omega), Nat.add_sub_cancel, rgB_s, hps, hop2, tk2_f]
              omega
          rw [hx] at nxt
          exact Ev.neg (by decide) nxt
    have h0 := lp op.length 0 (fun k => if k = 0 then 0 else -1) (by omega) (fun k => by split <;> omega)
    have hz : rowI (fun k => if k = 0 then 0 else -1) = (0 : Int) :: List.replicate 24 (-1 : Int) := by decide
    rw [hz] at h0
    have hx : (rowI fun k => if k = 0 then (if (0 : Nat) = 0 then 0 else -1) else max (if k = 0 then 0 else -1) (rgB o w true op.length D (k - 1) op.length)) = rowI (totB o w true op.length D) := rowI_ext fun i hi => by
      cases i with
      | zero => rfl
      | succ m =>
        have := rgB_ge o w true op.length D m op.length
        show max (-1) (rgB o w true op.length D m op.length) = rgB o w true op.length D m op.length
        omega
    rw [hx] at h0
    exact all_z op (D : Int) _ h0 24 1 (by omega) (by omega)
theorem worth_in (hsn : s = (sn : Int)) (hs : 2 ≤ sn ∧ sn ≤ 24) (hl : ∀ x ∈ tk, 0 ≤ x ∧ x < s) (hsort : tk.Pairwise (· < ·)) (ht : tk.length ≤ 35184372088832) (D : Nat) (hD1 : 1 ≤ D) (hD : (D : Int) = if d < s then d else s) (hws : ws.length = sn) (w : Nat → Int) (hwp : ∀ p : Nat, p < sn → rd ws (p : Int) = w p) (hw : ∀ p, 0 ≤ w p ∧ w p ≤ 99) :
    ∀ (m f la : Nat), m ≤ 30 → f ≤ la → la < sn → Ev (fun k => impl_spacing_worth.f k s r tk (mn d 25) ws (f : Int) (la : Int) (m : Int)) (bw (fun p : Nat => canB s r tk d (p : Int)) w D (bpN r sn D f) m (bpN r sn D f - (la + D))) := by
  intro m
  induction m with
  | zero =>
    intro f la _ _ _
    refine Ev.succ ?_
    simp only [impl_spacing_worth.f.eq_2]
    rw [bw_0]
    exact Ev.pos rfl (Ev.now _)
  | succ m ihm =>
    intro f la hm hf hla
    have hB := bpN_le r sn D f
    have hfol : ∀ x : Nat, la + 1 ≤ x → x < sn → Ev (fun k => impl_spacing_follows.f k s r tk (mn d 25) (f : Int) (la : Int) (x : Int)) ((fun p : Nat => (fun p : Nat => canB s r tk d (p : Int)) p && decide (la + D ≤ p ∧ p < bpN r sn D f)) x) := fun x h1 h2 => follows_ev s r tk d sn hsn hs hl hsort ht D hD1 hD f la x hf (by omega) h2
    have hV := fun (x : Nat) (h1 : la + 1 ≤ x) (h2 : x < sn) => ihm f x (by omega) (by omega) h2
    generalize (fun p : Nat => canB s r tk d (p : Int)) = o at hfol hV ⊢
    have h0 := wl hsn hs.2 hws w hwp hw (f : Int) (la : Int) (fun _ => (f : Int)) (la + 1) m (by omega) (fun p => o p && decide (la + D ≤ p ∧ p < bpN r sn D f)) (fun x => bw o w D (bpN r sn D f) m (bpN r sn D f - (x + D))) (fun x => bw o w D (bpN r sn D f) (m + 1) (bpN r sn D f - mxN x (la + D))) hfol
      (fun x => by unfold impl_spacing_head.f; rw [if_neg (by omega)]) hV (fun x => ⟨bw_ge o w D _ hw _ _, by have := bw_le o w D (bpN r sn D f) hw m (bpN r sn D f - (x + D)); omega⟩)
      (by show bw o w D (bpN r sn D f) (m + 1) (bpN r sn D f - mxN sn (la + D)) = -1; rw [show bpN r sn D f - mxN sn (la + D) = 0 by unfold mxN; split <;> omega, bw_s0])
      (fun x _ _ => bw_step o w hw D (bpN r sn D f) m x (la + D)) (sn - (la + 1)) (la + 1) (-1) (by omega) (Nat.le_refl _) (by omega) (by omega)
    have hge := bw_ge o w D (bpN r sn D f) hw (m + 1) (bpN r sn D f - (la + D))
    have hmx : mxN (la + 1) (la + D) = la + D := by unfold mxN; split <;> omega
    rw [hmx, show max (-1) (bw o w D (bpN r sn D f) (m + 1) (bpN r sn D f - (la + D))) = bw o w D (bpN r sn D f) (m + 1) (bpN r sn D f - (la + D)) by omega] at h0
    refine Ev.succ ?_
    simp only [impl_spacing_worth.f.eq_2]
    rw [wj2 la (by omega)]
    exact Ev.neg (by omega) (Ev.pos (by omega) h0)
theorem folT (hsn : s = (sn : Int)) (hs : 2 ≤ sn ∧ sn ≤ 24) (hl : ∀ x ∈ tk, 0 ≤ x ∧ x < s) (hsort : tk.Pairwise (· < ·)) (ht : tk.length ≤ 35184372088832) (x : Nat) (hx : x < sn) : Ev (fun k => impl_spacing_follows.f k s r tk (mn d 25) (-1) (-1) (x : Int)) (canB s r tk d (x : Int)) := by
  unfold impl_spacing_follows.f
  refine Ev.bind (can_ev s r tk d (x : Int) (by omega) (by omega) hl hsort ht) ?_
  cases canB s r tk d (x : Int) with
  | false => exact Ev.neg (by decide) (Ev.now _)
  | true => exact Ev.pos rfl (Ev.pos (by omega) (Ev.now _))
theorem worth_top (hsn : s = (sn : Int)) (hs : 2 ≤ sn ∧ sn ≤ 24) (hl : ∀ x ∈ tk, 0 ≤ x ∧ x < s) (hsort : tk.Pairwise (· < ·)) (ht : tk.length ≤ 35184372088832) (D : Nat) (hD1 : 1 ≤ D) (hD : (D : Int) = if d < s then d else s) (hws : ws.length = sn) (w : Nat → Int) (hwp : ∀ p : Nat, p < sn → rd ws (p : Int) = w p) (hw : ∀ p, 0 ≤ w p ∧ w p ≤ 99) (m : Nat) (hm : m ≤ 30) :
    Ev (fun k => impl_spacing_worth.f k s r tk (mn d 25) ws (-1) (-1) (m : Int)) (totB (fun p : Nat => canB s r tk d (p : Int)) w r sn D m) := by
  cases m with
  | zero =>
    refine Ev.succ ?_
    simp only [impl_spacing_worth.f.eq_2]
    exact Ev.pos rfl (Ev.now _)
  | succ m =>
    have hfol : ∀ x : Nat, 0 ≤ x → x < sn → Ev (fun k => impl_spacing_follows.f k s r tk (mn d 25) (-1) (-1) (x : Int)) ((fun p : Nat => canB s r tk d (p : Int)) x) := fun x _ hx => folT hsn hs hl hsort ht x hx
    have hV := fun (x : Nat) (_ : 0 ≤ x) (h2 : x < sn) => worth_in (r := r) hsn hs hl hsort ht D hD1 hD hws w hwp hw m x x (by omega) (Nat.le_refl _) h2
    generalize (fun p : Nat => canB s r tk d (p : Int)) = o at hfol hV ⊢
    have h0 := wl hsn hs.2 hws w hwp hw (-1) (-1) (fun x => (x : Int)) 0 m (by omega) o (fun x => bw o w D (bpN r sn D x) m (bpN r sn D x - (x + D))) (fun x => rgB o w r sn D m (sn - x)) hfol
      (fun x => by unfold impl_spacing_head.f; rw [if_pos (by omega)]) hV (fun x => ⟨bw_ge o w D _ hw _ _, by have := bw_le o w D (bpN r sn D x) hw m (bpN r sn D x - (x + D)); omega⟩)
      (by show rgB o w r sn D m (sn - sn) = -1; rw [Nat.sub_self]; rfl)
      (fun x _ hx => by show rgB o w r sn D m (sn - x) = _; rw [show sn - x = (sn - (x + 1)) + 1 by omega, rgB_s, show sn - (sn - (x + 1) + 1) = x by omega]) sn 0 (-1) (by omega) (Nat.le_refl _) (by omega) (by omega)
    have hge := rgB_ge o w r sn D m sn
    rw [Nat.sub_zero, show max (-1) (rgB o w r sn D m sn) = rgB o w r sn D m sn by omega] at h0
    refine Ev.succ ?_
    simp only [impl_spacing_worth.f.eq_2]
    exact Ev.neg (by omega) (Ev.pos (by omega) (by rw [show wrap64 (-1 + 1) = ((0 : Nat) : Int) by rw [w64 (by omega) (by omega)]; rfl]; exact h0))
theorem choose_ev (hsn : s = (sn : Int)) (hs : 2 ≤ sn ∧ sn ≤ 24) (hl : ∀ x ∈ tk, 0 ≤ x ∧ x < s) (hsort : tk.Pairwise (· < ·)) (ht : tk.length ≤ 35184372088832) (D : Nat) (hD1 : 1 ≤ D ∧ D ≤ sn) (hD : (D : Int) = if d < s then d else s) (hws : ws.length = sn) (w : Nat → Int) (hwp : ∀ p : Nat, p < sn → rd ws (p : Int) = w p) (hw : ∀ p, 0 ≤ w p ∧ w p ≤ 99) (op : List Bool) (hop : op.length = sn) (ho : ∀ p : Nat, p < sn → rdOf false op (p : Int) = canB s r tk d (p : Int)) (best : Int) (KK : Nat) (hk : KK ≤ 24) :
    ∀ (m f la : Nat) (out : List Int) (L : Int), 0 < out.length → out.length + m = KK → f ≤ la → la < sn → 0 ≤ L ∧ L ≤ 9900 →
      L = bw (fun p : Nat => canB s r tk d (p : Int)) w D (bpN r sn D f) m (bpN r sn D f - (la + D)) → (∀ i, bw (fun p : Nat => canB s r tk d (p : Int)) w D (bpN r sn D f) i (bpN r sn D f - (la + D)) ≤ L) →
      ∃ Q : List Int, Q.length ≤ 24 ∧ Ev (fun k => spec_l9Choose.l0 k op ws (KK : Int) L (D : Int) out ((la + D : Nat) : Int) ((bpN r sn D f : Nat) - 1 : Int) s r tk) Q ∧ Ev (fun k => impl_BestWorth.l1 k s r tk (mn d 25) ws best (KK : Int) L (f : Int) (la : Int) ((la + 1 : Nat) : Int) out) (best, Q, true) := by
  intro m
  induction m with
  | zero =>
    intro f la out L hpos hlen hf hla hL0 hL hInv
    have hn : ¬ (out.length : Int) < (KK : Int) := by omega
    refine ⟨out, by omega, Ev.succ ?_, Ev.succ ?_⟩
    · simp only [spec_l9Choose.l0.eq_2]
      exact Ev.neg hn (Ev.now _)
    · simp only [impl_BestWorth.l1.eq_2]
      exact Ev.neg hn (Ev.now _)
  | succ m ihm =>
    intro f la out L hpos hlen hf hla hL0 hL hInv
    have hB := bpN_le r sn D f
    have hfol : ∀ x : Nat, la + 1 ≤ x → x < sn → Ev (fun k => impl_spacing_follows.f k s r tk (mn d 25) (f : Int) (la : Int) (x : Int)) ((fun p : Nat => (fun p : Nat => canB s r tk d (p : Int)) p && decide (la + D ≤ p ∧ p < bpN r sn D f)) x) := fun x h1 h2 => follows_ev s r tk d sn hsn hs hl hsort ht D hD1.1 hD f la x hf (by omega) h2
    have hV := fun (x : Nat) (h1 : la + 1 ≤ x) (h2 : x < sn) => worth_in (r := r) hsn hs hl hsort ht D hD1.1 hD hws w hwp hw m f x (by omega) (by omega) h2
    have hoo : ∀ p : Nat, p < sn → rdOf false op (p : Int) = (fun p : Nat => canB s r tk d (p : Int)) p := ho
    generalize (fun p : Nat => canB s r tk d (p : Int)) = o at hfol hV hL hInv hoo ihm
    have hbe := fun x (hx : x < sn) => best_ev o w hw D ⟨hD1.1, by omega⟩ op ws (by omega) (by omega) (by rw [hop]; exact hoo) (by rw [hop]; exact hwp) (x + D) (bpN r sn D f) (by omega) (by omega)
    obtain ⟨p, p1, p2, p3, p4, p5, p6⟩ := bw_pick o w hw D (bpN r sn D f) m _ (la + D) rfl (by omega)
    rw [← hL] at p5 p6
    have hww := hw p
    have hb := fun x => show -1 ≤ bw o w D (bpN r sn D f) m (bpN r sn D f - (x + D)) ∧ bw o w D (bpN r sn D f) m (bpN r sn D f - (x + D)) ≤ 9900 from ⟨bw_ge o w D _ hw _ _, by have := bw_le o w D (bpN r sn D f) hw m (bpN r sn D f - (x + D)); omega⟩
    obtain ⟨Q, q1, q2, q3⟩ := ihm f p (out ++ [(p : Int)]) (L - w p) (by simp) (by simp; omega) (by omega) (by omega) (by have := hb p; omega) (by omega) (fun i => by
      have h2 := hInv (i + 1)
      by_cases c : 0 ≤ bw o w D (bpN r sn D f) i (bpN r sn D f - (p + D))
      · have h1 := bw_take o w hw D (bpN r sn D f) i p (la + D) p3 ⟨p1, p2⟩ c
        omega
      · omega)
    refine ⟨Q, q1, Ev.succ ?_, ?_⟩
    · simp only [spec_l9Choose.l0.eq_2]
      refine Ev.pos (by omega) (sp_go1 hs.2 op hop hws w hwp hw o hoo D (by omega) m KK L hL0 ((bpN r sn D f : Nat) - 1 : Int) out hpos hlen hk (fun x => bw o w D (bpN r sn D f) m (bpN r sn D f - (x + D))) hb (fun x hx => ⟨_, rfl, hbe x hx⟩) p (by omega) p3 p4 p5 Q q2 (p - (la + D)) (la + D) (by omega) (fun y h1 h2 => p6 y h1 h2))
    · refine im_go hsn hs.2 hws w hwp hw (f : Int) (la : Int) (fun _ => (f : Int)) (la + 1) m KK best L hL0 out hlen hk (fun p => o p && decide (la + D ≤ p ∧ p < bpN r sn D f)) (fun x => bw o w D (bpN r sn D f) m (bpN r sn D f - (x + D))) hfol (fun x => by unfold impl_spacing_head.f; rw [if_neg (by omega)]) hV hb (fun x h1 h2 h3 => ?_) p (by omega) ?_ p4 p5 (best, Q, true) q3 (p - (la + 1)) (la + 1) (by omega) (Nat.le_refl _) (fun y h1 h2 h3 => ?_)
      · replace h3 : (o x && decide (la + D ≤ x ∧ x < bpN r sn D f)) = true := h3
        rw [Bool.and_eq_true, decide_eq_true_eq] at h3
        have h4 := bw_take o w hw D (bpN r sn D f) 0 x (la + D) h3.1 h3.2 (by rw [bw_0]; omega)
        have h5 := hInv (0 + 1)
        rw [bw_0] at h4
        omega
      · show (o p && decide (la + D ≤ p ∧ p < bpN r sn D f)) = true
        rw [p3, decide_eq_true ⟨p1, p2⟩]; rfl
      · replace h3 : (o y && decide (la + D ≤ y ∧ y < bpN r sn D f)) = true ∧ _ := h3
        rw [Bool.and_eq_true, decide_eq_true_eq] at h3
        exact p6 y h3.1.2.1 h2 ⟨h3.1.1, h3.2⟩
end
section
variable {s : Int} {r : Bool} {tk : List Int} {d : Int} {sn : Nat} {ws : List Int}
def amT (T : Nat → Int) : Nat → Nat
  | 0 => 0
  | n + 1 => if T (amT T n) < T (n + 1) then n + 1 else amT T n
theorem amT_le (T : Nat → Int) : ∀ n, amT T n ≤ n := by
  intro n
  induction n with
  | zero => exact Nat.le_refl _
  | succ n ih => unfold amT; split <;> omega
theorem amT_max (T : Nat → Int) : ∀ n j, j ≤ n → T j ≤ T (amT T n) := by
  intro n
  induction n with
  | zero => intro j hj; obtain rfl : j = 0 := by omega
            exact Int.le_refl _
  | succ n ih =>
    intro j hj
    unfold amT
    by_cases e : j = n + 1
    · subst e; split <;> omega
    · have := ih j (by omega)
      split <;> omega
theorem amT_eq (T : Nat → Int) (s : Nat) (h0 : T 0 = 0) (hs : ∀ j, s < j → T j = -1) : ∀ e, amT T (s + e) = amT T s := by
  intro e
  induction e with
  | zero => rfl
  | succ e ih =>
    have h1 := amT_max T (s + e) 0 (by omega)
    have h2 := hs (s + e + 1) (by omega)
    show (if T (amT T (s + e)) < T (s + e + 1) then s + e + 1 else amT T (s + e)) = _
    rw [if_neg (by omega), ih]
theorem best_loops (hsn : s = (sn : Int)) (hs : 2 ≤ sn ∧ sn ≤ 24) (hl : ∀ x ∈ tk, 0 ≤ x ∧ x < s) (hsort : tk.Pairwise (· < ·)) (ht : tk.length ≤ 35184372088832) (D : Nat) (hD1 : 1 ≤ D ∧ D ≤ sn) (hD : (D : Int) = if d < s then d else s) (hws : ws.length = sn) (w : Nat → Int) (hwp : ∀ p : Nat, p < sn → rd ws (p : Int) = w p) (hw : ∀ p, 0 ≤ w p ∧ w p ≤ 99) (op : List Bool) (hop : op.length = sn) (ho : ∀ p : Nat, p < sn → rdOf false op (p : Int) = canB s r tk d (p : Int)) :
    ∃ b : Int, ∃ Q : List Int, Q.length ≤ 24 ∧ Ev (fun k => spec_BestWorth.l0 k ws (D : Int) op (rowI (totB (fun p : Nat => canB s r tk d (p : Int)) w r sn D)) 0 1 s r tk) (b, Q, true) ∧ Ev (fun k => impl_BestWorth.l0 k s r tk (mn d 25) ws 0 0 0) (b, Q, true) := by
  have hwt := fun m hm => worth_top (r := r) hsn hs hl hsort ht D hD1.1 hD hws w hwp hw m hm
  have hT0 : totB (fun p : Nat => canB s r tk d (p : Int)) w r sn D 0 = 0 := rfl
  have hTn : ∀ j, sn < j → totB (fun p : Nat => canB s r tk d (p : Int)) w r sn D j = -1 := fun j hj => by
    obtain ⟨m, rfl⟩ : ∃ m, j = m + 1 := ⟨j - 1, by omega⟩
    exact rgB_none _ w r sn D m hD1.1 (by omega) sn (Nat.le_refl _)
  have hTb : ∀ j, j ≤ 40 → totB (fun p : Nat => canB s r tk d (p : Int)) w r sn D j ≤ 9900 := fun j hj => by
    cases j with
    | zero => rw [hT0]; omega
    | succ m => have := rgB_le (fun p : Nat => canB s r tk d (p : Int)) w hw r sn D m sn; show rgB _ w r sn D m sn ≤ 9900; omega
  obtain ⟨K, hK⟩ : ∃ K, amT (totB (fun p : Nat => canB s r tk d (p : Int)) w r sn D) sn = K := ⟨_, rfl⟩
  have hKs : K ≤ sn := by rw [← hK]; exact amT_le _ _
  have hKm : ∀ j, totB (fun p : Nat => canB s r tk d (p : Int)) w r sn D j ≤ totB (fun p : Nat => canB s r tk d (p : Int)) w r sn D K := fun j => by
    rw [← hK]
    by_cases c : j ≤ sn
    · exact amT_max _ sn j c
    · have h1 := hTn j (by omega)
      have h2 := amT_max (totB (fun p : Nat => canB s r tk d (p : Int)) w r sn D) sn 0 (by omega)
      omega
  have hB0 : 0 ≤ totB (fun p : Nat => canB s r tk d (p : Int)) w r sn D K := hKm 0
  have hK24 : amT (totB (fun p : Nat => canB s r tk d (p : Int)) w r sn D) 24 = K := by
    have h1 := amT_eq (totB (fun p : Nat => canB s r tk d (p : Int)) w r sn D) sn hT0 hTn (24 - sn)
    rw [show sn + (24 - sn) = 24 by omega] at h1
    rw [h1, hK]
  have hch : ∃ Q : List Int, Q.length ≤ 24 ∧ Ev (fun k => spec_l9Choose.f k s r tk op ws (K : Int) (totB (fun p : Nat => canB s r tk d (p : Int)) w r sn D K) (D : Int)) Q ∧ Ev (fun k => impl_BestWorth.l1 k s r tk (mn d 25) ws (totB (fun p : Nat => canB s r tk d (p : Int)) w r sn D K) (K : Int) (totB (fun p : Nat => canB s r tk d (p : Int)) w r sn D K) (-1) (-1) 0 []) (totB (fun p : Nat => canB s r tk d (p : Int)) w r sn D K, Q, true) := by
    unfold spec_l9Choose.f
    cases K with
    | zero =>
      refine ⟨[], by simp, Ev.succ ?_, Ev.succ ?_⟩
      · simp only [spec_l9Choose.l0.eq_2]
        exact Ev.neg (by decide) (Ev.now _)
      · simp only [impl_BestWorth.l1.eq_2]
        exact Ev.neg (by decide) (Ev.now _)
    | succ m =>
      have hfol : ∀ x : Nat, 0 ≤ x → x < sn → Ev (fun k => impl_spacing_follows.f k s r tk (mn d 25) (-1) (-1) (x : Int)) ((fun p : Nat => canB s r tk d (p : Int)) x) := fun x _ hx => folT hsn hs hl hsort ht x hx
      have hV := fun (x : Nat) (_ : 0 ≤ x) (h2 : x < sn) => worth_in (r := r) hsn hs hl hsort ht D hD1.1 hD hws w hwp hw m x x (by omega) (Nat.le_refl _) h2
      have hce := fun best => choose_ev (r := r) hsn hs hl hsort ht D hD1 hD hws w hwp hw op hop ho best (m + 1) (by omega) m
      have hbL : totB (fun p : Nat => canB s r tk d (p : Int)) w r sn D (m + 1) ≤ 9900 := hTb _ (by omega)
      have hoo : ∀ p : Nat, p < sn → rdOf false op (p : Int) = (fun p : Nat => canB s r tk d (p : Int)) p := ho
      clear hwt hT0 hTn hTb hK hK24
      generalize (fun p : Nat => canB s r tk d (p : Int)) = o at hfol hV hce hKm hB0 hoo hbL ⊢
      have hbe := fun x (hx : x < sn) => best_ev o w hw D ⟨hD1.1, by omega⟩ op ws (by omega) (by omega) (by rw [hop]; exact hoo) (by rw [hop]; exact hwp) (x + D) (bpN r sn D x) (by omega) (by have := bpN_le r sn D x; omega)
      have hb := fun x => show -1 ≤ bw o w D (bpN r sn D x) m (bpN r sn D x - (x + D)) ∧ bw o w D (bpN r sn D x) m (bpN r sn D x - (x + D)) ≤ 9900 from ⟨bw_ge o w D _ hw _ _, by have := bw_le o w D (bpN r sn D x) hw m (bpN r sn D x - (x + D)); omega⟩
      obtain ⟨p, p1, p2, p3, p4, p5, p6⟩ := rgB_pick o w r sn D m sn (Nat.le_refl _) hB0
      have hww := hw p
      replace p5 : bw o w D (bpN r sn D p) m (bpN r sn D p - (p + D)) + w p = totB o w r sn D (m + 1) := p5
      replace p6 : ∀ x, sn - sn ≤ x → x < p → ¬ (o x = true ∧ 0 ≤ bw o w D (bpN r sn D x) m (bpN r sn D x - (x + D)) ∧ bw o w D (bpN r sn D x) m (bpN r sn D x - (x + D)) + w x = totB o w r sn D (m + 1)) := p6
      have hin : ∀ (x i : Nat), x < sn → o x = true → 0 ≤ bw o w D (bpN r sn D x) i (bpN r sn D x - (x + D)) → bw o w D (bpN r sn D x) i (bpN r sn D x - (x + D)) + w x ≤ totB o w r sn D (m + 1) := fun x i hx h1 h2 => Int.le_trans (rgB_in o w r sn D i x h1 h2 sn (Nat.le_refl _) (by omega) hx) (hKm (i + 1))
      obtain ⟨L, hL⟩ : ∃ L, totB o w r sn D (m + 1) = L := ⟨_, rfl⟩
      rw [hL] at p5 p6 hin hbL hB0 ⊢
      obtain ⟨Q, q1, q2, q3⟩ := hce L p p [(p : Int)] (L - w p) (by simp) (by simp; omega) (Nat.le_refl _) p2 (by have := hb p; omega) (by omega) (fun i => by
        by_cases c : 0 ≤ bw o w D (bpN r sn D p) i (bpN r sn D p - (p + D))
        · have h1 := hin p i p2 p3 c
          omega
        · omega)
      refine ⟨Q, q1, Ev.succ ?_, ?_⟩
      · simp only [spec_l9Choose.l0.eq_2]
        exact Ev.pos (by show (0 : Int) < _; omega) (sp_go0 hs.2 op hop hws w hwp hw o hoo D (by omega) m L ⟨hB0, hbL⟩ (wrap64 (s - 1)) (fun x => ((bpN r sn D x : Nat) - 1 : Int)) (by omega) (fun x => bw o w D (bpN r sn D x) m (bpN r sn D x - (x + D))) hb (fun x hx => end_eq s r tk sn hsn hs D hD1 x hx) (fun x hx => ⟨_, rfl, hbe x hx⟩) p p2 p3 p4 p5 Q q2 p 0 (by omega) (fun y _ h2 => p6 y (by omega) h2))
      · exact im_go hsn hs.2 hws w hwp hw (-1) (-1) (fun x => (x : Int)) 0 m (m + 1) L L ⟨hB0, hbL⟩ [] (by simp) (by omega) o (fun x => bw o w D (bpN r sn D x) m (bpN r sn D x - (x + D))) hfol (fun x => by unfold impl_spacing_head.f; rw [if_pos (by omega)]) hV hb (fun x _ h2 h3 => by
          have h4 := hin x 0 h2 h3 (by rw [bw_0]; omega)
          rw [bw_0] at h4; omega) p p2 p3 p4 p5 (L, Q, true) q3 p 0 (by omega) (Nat.le_refl _) (fun y _ h2 => p6 y (by omega) h2)
  obtain ⟨Q, q1, q2, q3⟩ := hch
  generalize hTT : totB (fun p : Nat => canB s r tk d (p : Int)) w r sn D = T at *
  refine ⟨T K, Q, q1, ?_, ?_⟩
  · have lp : ∀ n j, j + n = 24 → Ev (fun k => spec_BestWorth.l0 k ws (D : Int) op (rowI T) ((amT T j : Nat) : Int) ((j + 1 : Nat) : Int) s r tk) (T K, Q, true) := by
      intro n
      induction n with
      | zero =>
        intro j hj
        obtain rfl : j = 24 := by omega
        refine Ev.succ ?_
        simp only [spec_BestWorth.l0.eq_2]
        rw [hK24, rowI_len, rowI_rd T K (by omega)]
        exact Ev.neg (by omega) (Ev.pos (by omega) (Ev.pos (by omega) (Ev.bind q2 (Ev.now _))))
      | succ n ih =>
        intro j hj
        have hle := amT_le T j
        have nxt := ih (j + 1) (by omega)
        refine Ev.succ ?_
        simp only [spec_BestWorth.l0.eq_2]
        rw [rowI_len, rowI_rd T (amT T j) (by omega), rowI_rd T (j + 1) (by omega), wj2 (j + 1) (by omega)]
        refine Ev.pos (by omega) (Ev.pos (by omega) (Ev.pos (by omega) (Ev.pos (by omega) (Ev.pos (by omega) ?_))))
        by_cases c : T (amT T j) < T (j + 1)
        · rw [show amT T (j + 1) = j + 1 by show (if T (amT T j) < T (j + 1) then j + 1 else amT T j) = _; rw [if_pos c]] at nxt
          exact Ev.pos (by omega) nxt
        · rw [show amT T (j + 1) = amT T j by show (if T (amT T j) < T (j + 1) then j + 1 else amT T j) = _; rw [if_neg c]] at nxt
          exact Ev.neg (by omega) nxt
    exact lp 24 0 (by omega)
  · have hws1 : wrap64 (s + 1) = ((sn + 1 : Nat) : Int) := by rw [w64 (by omega) (by omega)]; omega
    have lp : ∀ n j, j + n = sn → Ev (fun k => impl_BestWorth.l0 k s r tk (mn d 25) ws (T (amT T j)) ((amT T j : Nat) : Int) ((j + 1 : Nat) : Int)) (T K, Q, true) := by
      intro n
      induction n with
      | zero =>
        intro j hj
        obtain rfl : j = sn := by omega
        refine Ev.succ ?_
        simp only [impl_BestWorth.l0.eq_2]
        rw [hK, hws1]
        exact Ev.neg (by omega) q3
      | succ n ih =>
        intro j hj
        have hle := amT_le T j
        have nxt := ih (j + 1) (by omega)
        have hv := hwt (j + 1) (by omega)
        refine Ev.succ ?_
        simp only [impl_BestWorth.l0.eq_2]
        rw [hws1, wj2 (j + 1) (by omega)]
        refine Ev.pos (by omega) (Ev.bind hv ?_)
        by_cases c : T (amT T j) < T (j + 1)
        · rw [show amT T (j + 1) = j + 1 by show (if T (amT T j) < T (j + 1) then j + 1 else amT T j) = _; rw [if_pos c]] at nxt
          exact Ev.pos (by omega) nxt
        · rw [show amT T (j + 1) = amT T j by show (if T (amT T j) < T (j + 1) then j + 1 else amT T j) = _; rw [if_neg c]] at nxt
          exact Ev.neg (by omega) nxt
    refine Ev.succ ?_
    simp only [impl_BestWorth.l0.eq_2]
    have h0 := lp sn 0 (by omega)
    have hv := hwt 0 (by omega)
    rw [hT0] at hv
    have hz : amT T 0 = 0 := rfl
    rw [hz, hT0] at h0
    rw [hws1]
    exact Ev.pos (by omega) (Ev.bind hv (Ev.neg (by decide) (by rw [show wrap64 (0 + 1) = ((0 + 1 : Nat) : Int) by rw [w64 (by omega) (by omega)]; rfl]; exact h0)))
end
theorem worths_ev (s : Int) (r : Bool) (tk ws : List Int) (hl : ws.length ≤ 35184372088832) (b : Bool) (hb : b = true ↔ ((∀ x ∈ ws, 0 ≤ x ∧ x ≤ 99) ∧ (ws.length : Int) = s)) : Ev (fun k => spec_l9Worths.f k s r tk ws) b := by
  have lp : ∀ n i (b : Bool), i + n = ws.length → (b = true ↔ ((∀ j, i ≤ j → j < ws.length → 0 ≤ ws.getD j 0 ∧ ws.getD j 0 ≤ 99) ∧ (ws.length : Int) = s)) → Ev (fun k => spec_l9Worths.l0 k ws (i : Int) s r tk) b := by
    intro n
    induction n with
    | zero =>
      intro i b hi hb
      refine Ev.succ ?_
      simp only [spec_l9Worths.l0.eq_2]
      refine Ev.neg (by omega) ?_
      rw [show ((ws.length : Int) == s) = b by rw [Bool.eq_iff_iff, beq_iff_eq, hb]; exact ⟨fun h => ⟨fun j h1 h2 => by omega, h⟩, fun h => h.2⟩]
      exact Ev.now _
    | succ n ih =>
      intro i b hi hb
      refine Ev.succ ?_
      simp only [spec_l9Worths.l0.eq_2]
      rw [rd_getD, w64 (n := (i : Int) + 1) (by omega) (by omega)]
      have hin : spec_l1In.f (ws.getD i 0) 0 99 = some (decide (0 ≤ ws.getD i 0 ∧ ws.getD i 0 ≤ 99)) := by
        unfold spec_l1In.f
        by_cases c : ws.getD i 0 ≥ 0
        · rw [if_pos c]; congr 1; rw [Bool.eq_iff_iff, decide_eq_true_eq, decide_eq_true_eq]; omega
        · rw [if_neg c, decide_eq_false (by omega)]
      refine Ev.pos (by omega) (Ev.pos (by omega) (Ev.bindc hin ?_))
      by_cases c : 0 ≤ ws.getD i 0 ∧ ws.getD i 0 ≤ 99
      · refine Ev.pos (decide_eq_true c) (ih (i + 1) b (by omega) (hb.trans ⟨fun h => ⟨fun j h1 h2 => h.1 j (by omega) h2, h.2⟩, fun h => ⟨fun j h1 h2 => ?_, h.2⟩⟩))
        by_cases e : j = i
        · subst e; exact c
        · exact h.1 j (by omega) h2
      · refine Ev.neg (by rw [decide_eq_false c]; decide) ?_
        rw [show b = false by
          cases b with
          | false => rfl
          | true => exact absurd ((hb.mp rfl).1 i (Nat.le_refl _) (by omega)) c]
        exact Ev.now _
  refine lp ws.length 0 b (by omega) (hb.trans ⟨fun h => ⟨fun j _ h2 => ?_, h.2⟩, fun h => ⟨fun x hx => ?_, h.2⟩⟩)
  · rw [getD_lt ws j h2]; exact h.1 _ (List.getElem_mem _)
  · obtain ⟨j, hj, e⟩ := List.getElem_of_mem hx
    have := h.1 j (Nat.zero_le _) hj
    rw [getD_lt ws j hj, e] at this
    exact this
theorem best_key (s : Int) (r : Bool) (tk ws : List Int) (d : Int) (hL : tk.length ≤ 35184372088832) (hLw : ws.length ≤ 35184372088832) : ∃ b : Int, ∃ Q : List Int, ∃ t : Bool, Q.length ≤ 24 ∧ Ev (fun k => spec_BestWorth.f k s r tk ws d) (b, Q, t) ∧ Ev (fun k => impl_BestWorth.f k s r tk ws d) (b, Q, t) := by
  obtain ⟨b, hbb⟩ := exists_bool (IsRw s r tk)
  have h1 := l2Row_ev s r tk hL b hbb
  have h2 := isRow_ev s r tk hL b hbb
  have hno : Ev (fun k => spec_BestWorth.j0 k ws d true s r tk) ((0 : Int), ([] : List Int), false) := by
    refine Ev.succ ?_
    simp only [spec_BestWorth.j0.eq_2]
    exact Ev.pos trivial (Ev.now _)
  unfold spec_BestWorth.f impl_BestWorth.f spec_l9Ask.f impl_isSpacing.f
  by_cases hv : b = true ∧ d ≥ 1
  rotate_left
  · refine ⟨0, [], false, by simp, Ev.bind (a := false) ?_ (Ev.neg (by decide) hno), Ev.bind (a := false) ?_ (Ev.neg (by decide) (Ev.now _))⟩
    · cases b with
      | false => exact Ev.bind h1 (Ev.neg (by decide) (Ev.now _))
      | true => exact Ev.bind h1 (Ev.pos rfl (by rw [decide_eq_false (fun h => hv ⟨rfl, h⟩)]; exact Ev.now _))
    · cases b with
      | false => exact Ev.bind h2 (Ev.neg (by decide) (Ev.now _))
      | true => exact Ev.bind h2 (Ev.pos rfl (by rw [decide_eq_false (fun h => hv ⟨rfl, h⟩)]; exact Ev.now _))
  obtain ⟨rfl, hd⟩ := hv
  have hW := hbb.mp rfl
  have hS := hW.1
  have h3 : Ev (fun k => (spec_l2Row.f k s r tk).bind fun t133 => (if t133 = true then (some (decide (d ≥ 1))) else (some false))) true := Ev.bind h1 (Ev.pos rfl (by rw [decide_eq_true hd]; exact Ev.now _))
  have h4 : Ev (fun k => (impl_IsRow.f k s r tk).bind fun t170 => (if t170 = true then (some (decide (d ≥ 1))) else (some false))) true := Ev.bind h2 (Ev.pos rfl (by rw [decide_eq_true hd]; exact Ev.now _))
  have h6 := allWithin_ev ws 0 99 hLw
  by_cases cw : (∀ x ∈ ws, 0 ≤ x ∧ x ≤ 99) ∧ (ws.length : Int) = s
  rotate_left
  · have h5 := worths_ev s r tk ws hLw false ⟨fun h => absurd h (by decide), fun h => absurd h cw⟩
    refine ⟨0, [], false, by simp, Ev.bind h3 (Ev.pos rfl (Ev.bind h5 hno)), Ev.bind h4 (Ev.pos rfl ?_)⟩
    by_cases c2 : (ws.length : Int) = s
    · rw [decide_eq_false (fun h => cw ⟨h, c2⟩)] at h6
      exact Ev.pos c2 (Ev.bind h6 (Ev.neg (by decide) (Ev.now _)))
    · exact Ev.neg c2 (Ev.now _)
  have h5 := worths_ev s r tk ws hLw true ⟨fun _ => cw, fun _ => rfl⟩
  rw [decide_eq_true cw.1] at h6
  obtain ⟨sn, hsn⟩ := Int.eq_ofNat_of_zero_le (show 0 ≤ s by omega)
  obtain ⟨D, hD⟩ := Int.eq_ofNat_of_zero_le (show 0 ≤ (if d < s then d else s) by split <;> omega)
  have hD1 : 1 ≤ D ∧ D ≤ sn := by split at hD <;> omega
  have hle : spec_l1Least.f d s = some (D : Int) := by
    unfold spec_l1Least.f
    rw [← hD]; split <;> rfl
  have ho := open_ev s r tk (D : Int) sn hsn (by omega) hW.2.2.1 hL
  have hop : ((List.range sn).map fun p : Nat => canB s r tk (D : Int) (p : Int)) = (List.range sn).map fun p : Nat => canB s r tk d (p : Int) := by
    apply List.map_congr_left
    intro p hp
    have := List.mem_range.mp hp
    exact canB_least s r tk d (D : Int) (p : Int) (by omega) (by omega) hW.2.2.1 hD.symm
  rw [hop] at ho
  have hlen : ((List.range sn).map fun p : Nat => canB s r tk d (p : Int)).length = sn := by simp
  have hoo : ∀ p : Nat, p < sn → rdOf false ((List.range sn).map fun p : Nat => canB s r tk d (p : Int)) (p : Int) = canB s r tk d (p : Int) := fun p hp => by
    unfold rdOf
    rw [Int.toNat_natCast, List.getD_eq_getElem?_getD, List.getElem?_map, List.getElem?_range hp]
    rfl
  have hw : ∀ p : Nat, 0 ≤ ws.getD p 0 ∧ ws.getD p 0 ≤ 99 := fun p => by
    by_cases c : p < ws.length
    · rw [getD_lt ws p c]; exact cw.1 _ (List.getElem_mem _)
    · rw [List.getD_eq_getElem?_getD, List.getElem?_eq_none (by omega)]; show (0 : Int) ≤ 0 ∧ (0 : Int) ≤ 99; omega
  have h7 := all_ev (r := r) (tk := tk) hsn (by omega) (fun p : Nat => canB s r tk d (p : Int)) (fun p => ws.getD p 0) hw D hD1 _ hlen (by omega) hoo (fun p _ => rd_getD ws p)
  obtain ⟨bb, Q, q1, q2, q3⟩ := best_loops (r := r) hsn (by omega) hW.2.2.1 hW.2.2.2 hL D hD1 hD.symm (by omega) (fun p => ws.getD p 0) (fun p _ => rd_getD ws p) hw _ hlen hoo
  refine ⟨bb, Q, true, q1, Ev.bind h3 (Ev.pos rfl (Ev.bind h5 (Ev.succ ?_))), Ev.bind h4 (Ev.pos rfl (Ev.pos cw.2 (Ev.bind h6 (Ev.pos rfl q3))))⟩
  simp only [spec_BestWorth.j0.eq_2]
  exact Ev.neg (by decide) (Ev.bindc hle (Ev.bind ho (Ev.bind h7 q2)))
theorem FnExactBestWorth : laws_FnExactBestWorth.Pure := by
  intro s r tk ws d _ hl0 hl _ hl1 hl2 _ _
  have hL : tk.length ≤ 35184372088832 := by omega
  have hLw : ws.length ≤ 35184372088832 := by omega
  refine Ev.rounds (g := fun k => laws_FnExactBestWorth.f k s r tk ws d) ?_
  unfold laws_FnExactBestWorth.f
  by_cases hb0 : (ws.length : Int) > 1048576
  · exact Ev.pos hb0 (Ev.now _)
  refine Ev.neg hb0 (Ev.bindc (szRow_eq s r tk _ hL (by omega) (by omega)) ?_)
  by_cases hb : (1048576 : Int) - (tk.length : Int) < 0
  · rw [if_pos hb]; exact Ev.pos (by omega) (Ev.now _)
  rw [if_neg hb]
  refine Ev.neg hb ?_
  obtain ⟨b, Q, t, hq, h1, h2⟩ := best_key s r tk ws d hL hLw
  have hq2 : Q.length ≤ 35184372088832 := by omega
  have ht := toRow_ev s r tk hL
  have hi := toIntS_ev ws hLw
  have he := eqIntS_ev Q hq2
  refine Ev.bind ht (Ev.bind hi (Ev.bind h1 (Ev.bind ht (Ev.bind hi (Ev.bind h2 (Ev.pos rfl (Ev.bind he (Ev.pos rfl (Ev.succ ?_)))))))))
  simp only [laws_FnExactBestWorth.j0.eq_2]
  refine Ev.neg (by simp) (Ev.bind ht (Ev.bind (eqRow_ev s r tk hL) (Ev.pos rfl (Ev.bind hi (Ev.bind (eqIntS_ev ws hLw) (Ev.pos rfl (Ev.bind (markRow_ev s r tk hL) (Ev.bind (mark_ev ws (1 + (tk.length : Int)) (by omega) (by omega) hLw) (Ev.neg (by show ¬ (1 + (tk.length : Int) + (ws.length : Int) < 0); omega) (Ev.pos trivial (Ev.bind he (Ev.pos rfl (Ev.succ ?_)))))))))))))
  simp only [laws_FnExactBestWorth.j1.eq_2]
  refine Ev.neg (by simp) (Ev.bind (mark_ev Q 1 (by omega) (by omega) hq2) (Ev.bind (held_ev 1 (by omega) (by omega) Q.length hq2) (Ev.neg (by omega) (Ev.pos rfl (Ev.bind ht (Ev.bind hi (Ev.bind h2 (Ev.pos rfl (Ev.bind he (Ev.pos rfl (Ev.succ ?_)))))))))))
  simp only [laws_FnExactBestWorth.j2.eq_2]
  exact Ev.neg (by simp) (Ev.bind (held_ev 1 (by omega) (by omega) Q.length hq2) (Ev.neg (by omega) (Ev.pos rfl (Ev.now _))))

end Go.Proofs.YtapbmneehaemeaaDoor.Pure
