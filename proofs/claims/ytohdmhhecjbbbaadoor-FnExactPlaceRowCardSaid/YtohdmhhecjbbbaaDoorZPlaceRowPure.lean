/- PlaceRow sets a row of whole groups, each at its place, on the order's free seats. -/
import Derived.Test.YtohdmhhecjbbbaaDoorZPlaceRowPx11
namespace Go.Proofs.YtohdmhhecjbbbaaDoor.Pure
open Go.RowKit Go.Proofs.YtohdmhhecjbbbaaDoor.PFnExactPlaceRow Go.Proofs.YtohdmhhecjbbbaaDoorW.PrintWords Go.Proofs.YtohdmhhecjbbbaaDoorW.PrintLast Go.Proofs.YtohdmhhecjbbbaaDoorW.PrintMore
set_option linter.unusedVariables false

theorem Ev.pos {α : Type} {c : Prop} [Decidable c] {f g : Nat → Option α} {r : α} (h : c) (k : Ev f r) : Ev (fun m => if c then f m else g m) r :=
  Ev.congr (fun _ => if_pos h) k
theorem Ev.neg {α : Type} {c : Prop} [Decidable c] {f g : Nat → Option α} {r : α} (h : ¬ c) (k : Ev g r) : Ev (fun m => if c then f m else g m) r :=
  Ev.congr (fun _ => if_neg h) k
theorem Ev.bindc {α β : Type} {x : Option α} {f : Nat → α → Option β} {a : α} {r : β} (h : x = some a) (k : Ev (fun n => f n a) r) : Ev (fun n => x.bind (f n)) r := by
  subst h; exact k
theorem Ev.succ {α : Type} {g : Nat → Option α} {r : α} (k : Ev (fun n => g (n + 1)) r) : Ev g r := Ev.step (fun _ => rfl) k
theorem w64 {n : Int} (h0 : -9223372036854775808 ≤ n) (h1 : n < 9223372036854775808) : wrap64 n = n := by unfold wrap64; omega
theorem rd_nat (l : List Int) (i : Nat) (h : i < l.length) : rd l (i : Int) = l[i] := by
  unfold rd; rw [Int.toNat_natCast, List.getD_eq_getElem?_getD, List.getElem?_eq_getElem h]; rfl
theorem lit_i64 {x : Int} (h : (Lit.int .i64 x).wf = true) : -9223372036854775808 ≤ x ∧ x < 9223372036854775808 := by
  simp [Lit.wf, IntKind.min, IntKind.max, IntKind.bits, IntKind.signed] at h; omega
/-- a loop that ends early, with one answer, where P fails -/
theorem ev_all {α : Type} (L : Nat → Nat → Option α) (n : Nat) (P : Nat → Prop) (rEnd : α)
    (hend : Ev (fun k => L k n) rEnd) (hgood : ∀ i, i < n → P i → ∀ r, Ev (fun k => L k (i + 1)) r → Ev (fun k => L k i) r)
    (i : Nat) (hi : i ≤ n) (h : ∀ j, i ≤ j → j < n → P j) : Ev (fun k => L k i) rEnd := by
  obtain ⟨d, hd⟩ : ∃ d, i + d = n := ⟨n - i, by omega⟩
  induction d generalizing i with
  | zero => rw [show i = n by omega]; exact hend
  | succ d ih => exact hgood i (by omega) (h i (by omega) (by omega)) _ (ih (i + 1) (by omega) (fun j h1 h2 => h j (by omega) h2) (by omega))
theorem ev_bad {α : Type} (L : Nat → Nat → Option α) (n : Nat) (P : Nat → Prop) (rBad : α)
    (hgood : ∀ i, i < n → P i → ∀ r, Ev (fun k => L k (i + 1)) r → Ev (fun k => L k i) r) (hbad : ∀ i, i < n → ¬ P i → Ev (fun k => L k i) rBad)
    (i : Nat) (h : ∃ j, i ≤ j ∧ j < n ∧ ¬ P j) : Ev (fun k => L k i) rBad := by
  obtain ⟨j, h1, h2, h3⟩ := h
  obtain ⟨d, hd⟩ : ∃ d, i + d = j := ⟨j - i, by omega⟩
  induction d generalizing i with
  | zero => rw [show i = j by omega]; exact hbad j h2 h3
  | succ d ih =>
    by_cases hp : P i
    · exact hgood i (by omega) hp _ (ih (i + 1) (by omega) (by omega))
    · exact hbad i (by omega) hp
theorem ev_dec {α : Type} (L : Nat → Nat → Option α) (n : Nat) (P : Nat → Prop) [DecidablePred P] (f : Bool → α)
    (hend : Ev (fun k => L k n) (f true)) (hgood : ∀ i, i < n → P i → ∀ r, Ev (fun k => L k (i + 1)) r → Ev (fun k => L k i) r)
    (hbad : ∀ i, i < n → ¬ P i → Ev (fun k => L k i) (f false)) (b : Bool) (hb : b = true ↔ ∀ j, j < n → P j) : Ev (fun k => L k 0) (f b) := by
  cases b with
  | true => exact ev_all L n P (f true) hend hgood 0 (by omega) (fun j _ h => hb.mp rfl j h)
  | false =>
    refine ev_bad L n P (f false) hgood hbad 0 ?_
    by_cases h : ∀ j, j < n → P j
    · exact absurd (hb.mpr h) (by decide)
    · have : ∃ j, ¬ (j < n → P j) := Classical.not_forall.mp h
      obtain ⟨j, hj⟩ := this
      exact ⟨j, by omega, Decidable.byContradiction (fun c => hj (fun h2 => absurd h2 c)), fun c => hj (fun _ => c)⟩
theorem toIntS_loop (l : List Int) (hl : l.length ≤ 35184372088832) : ∀ (d i : Nat) (acc : List Int), i + d = l.length → acc.length = l.length → (∀ j, j < i → acc[j]? = l[j]?) → Ev (fun k => laws_toIntS.l0 k l acc (i : Int)) l := by
  intro d
  induction d with
  | zero =>
    intro i acc hi ha hj
    refine Ev.succ ?_
    simp only [laws_toIntS.l0.eq_2]
    refine Ev.neg (by omega) ?_
    have : acc = l := List.ext_getElem? (fun j => by
      by_cases h : j < i
      · exact hj j h
      · rw [List.getElem?_eq_none (by omega), List.getElem?_eq_none (by omega)])
    rw [this]; exact Ev.now _
  | succ d ih =>
    intro i acc hi ha hj
    refine Ev.succ ?_
    simp only [laws_toIntS.l0.eq_2]
    refine Ev.pos (by omega) (Ev.pos (by omega) (Ev.pos (by omega) ?_))
    rw [w64 (by omega) (by omega)]
    refine ih (i + 1) _ (by omega) (by simpa using ha) ?_
    intro j h
    rw [Int.toNat_natCast, List.getElem?_set]
    by_cases e : i = j
    · subst e
      rw [if_pos rfl, if_pos (by omega), rd_nat l i (by omega), List.getElem?_eq_getElem]
    · rw [if_neg e]; exact hj j (by omega)
theorem toIntS_ev (l : List Int) (hl : l.length ≤ 35184372088832) : Ev (fun k => laws_toIntS.f k l) l := by
  unfold laws_toIntS.f
  refine Ev.pos (by omega) (Ev.pos (by omega) ?_)
  exact toIntS_loop l hl l.length 0 _ (by omega) (by simp) (fun j h => by omega)
theorem eqIntS_loop (l : List Int) (hl : l.length ≤ 35184372088832) : ∀ (d i : Nat), i + d = l.length → Ev (fun k => laws_eqIntS.l0 k l l (i : Int)) true := by
  intro d
  induction d with
  | zero =>
    intro i hi
    refine Ev.succ ?_
    simp only [laws_eqIntS.l0.eq_2]
    exact Ev.neg (by omega) (Ev.now _)
  | succ d ih =>
    intro i hi
    refine Ev.succ ?_
    simp only [laws_eqIntS.l0.eq_2]
    refine Ev.pos (by omega) (Ev.pos (by omega) (Ev.pos (by omega) (Ev.pos (by trivial) ?_)))
    rw [w64 (by omega) (by omega)]
    exact ih (i + 1) (by omega)
theorem eqIntS_ev (l : List Int) (hl : l.length ≤ 35184372088832) : Ev (fun k => laws_eqIntS.f k l l) true := by
  unfold laws_eqIntS.f
  exact Ev.pos rfl (eqIntS_loop l hl l.length 0 (by omega))
theorem within_eq (a b c : Int) : impl_within.f a b c = some (decide (b ≤ a ∧ a ≤ c)) := by
  unfold impl_within.f
  by_cases h : a ≥ b
  · rw [if_pos h]; simp [show b ≤ a from h]
  · rw [if_neg h]; simp [show ¬ b ≤ a from h]
theorem l1In_eq (a b c : Int) : spec_l1In.f a b c = some (decide (b ≤ a ∧ a ≤ c)) := by
  unfold spec_l1In.f
  by_cases h : a ≥ b
  · rw [if_pos h]; simp [show b ≤ a from h]
  · rw [if_neg h]; simp [show ¬ b ≤ a from h]
theorem allWithin_loop (l : List Int) (lo hi : Int) (hl : l.length ≤ 35184372088832) : ∀ (d i : Nat), i + d = l.length → Ev (fun k => impl_allWithin.l0 k lo hi l (l.length : Int) (i : Int)) (decide (∀ x ∈ l.drop i, lo ≤ x ∧ x ≤ hi)) := by
  intro d
  induction d with
  | zero =>
    intro i hi
    refine Ev.succ ?_
    simp only [impl_allWithin.l0.eq_2]
    rw [List.drop_of_length_le (by omega)]
    exact Ev.neg (by omega) (by simp; exact Ev.now _)
  | succ d ih =>
    intro i hi'
    refine Ev.succ ?_
    simp only [impl_allWithin.l0.eq_2]
    refine Ev.pos (by omega) (Ev.pos (by omega) (Ev.pos (by omega) (Ev.bindc (within_eq _ _ _) ?_)))
    have hd : l.drop i = l[i] :: l.drop (i + 1) := (List.drop_eq_getElem_cons (by omega))
    rw [rd_nat l i (by omega)]
    by_cases e : lo ≤ l[i] ∧ l[i] ≤ hi
    · refine Ev.pos (decide_eq_true e) ?_
      rw [w64 (by omega) (by omega)]
      have e1 : (∀ x ∈ l.drop i, lo ≤ x ∧ x ≤ hi) ↔ (∀ x ∈ l.drop (i + 1), lo ≤ x ∧ x ≤ hi) := by rw [hd]; simp only [List.mem_cons, forall_eq_or_imp, e, true_and]
      rw [decide_eq_decide.mpr e1]
      exact ih (i + 1) (by omega)
    · rw [show decide (∀ x ∈ l.drop i, lo ≤ x ∧ x ≤ hi) = false by rw [hd]; simp only [List.mem_cons, forall_eq_or_imp, decide_eq_false_iff_not]; exact fun h => e h.1]
      exact Ev.neg (by simpa using e) (Ev.now _)
theorem allWithin_ev (l : List Int) (lo hi : Int) (hl : l.length ≤ 35184372088832) : Ev (fun k => impl_allWithin.f k l lo hi) (decide (∀ x ∈ l, lo ≤ x ∧ x ≤ hi)) := allWithin_loop l lo hi hl l.length 0 (by omega)
theorem szIntS_eq (l : List Int) (a : Int) (hl : l.length ≤ 35184372088832) (h0 : 0 ≤ a) (h1 : a ≤ 1048576) : laws_szIntS.f l a = some (if a - (l.length : Int) < 0 then -1 else a - (l.length : Int)) := by
  unfold laws_szIntS.f
  rw [w64 (by omega) (by omega)]
  split <;> rfl
def pc : Nat → Nat → Nat
  | 0, _ => 0
  | k + 1, n => n % 2 + pc k (n / 2)
theorem u32_nat (a b : Nat) (ha : a < 4294967296) (hb : b < 4294967296) : Go.bits .and .u32 (a : Int) (b : Int) = ((a &&& b : Nat) : Int) ∧ Go.bits .or .u32 (a : Int) (b : Int) = ((a ||| b : Nat) : Int) :=
  bits_nat .u32 32 (by decide) (fun n h0 h1 => by rw [IntKind.wrap_u32]; omega) a b (by omega) (by omega)
/-- the set of some seats -/
def setN (l : List Int) : Nat := l.foldl (fun s p => s ||| 2 ^ p.toNat) 0
theorem foldl_or_bit (l : List Int) (s j : Nat) : (l.foldl (fun s p => s ||| 2 ^ p.toNat) s).testBit j = (s.testBit j || decide (∃ p ∈ l, p.toNat = j)) := by
  induction l generalizing s with
  | nil => simp
  | cons p l ih =>
    rw [List.foldl_cons, ih, Nat.testBit_or, Nat.testBit_two_pow]
    simp only [List.mem_cons, exists_eq_or_imp, Bool.decide_or, Bool.or_assoc]
theorem setN_bit (l : List Int) (j : Nat) : (setN l).testBit j = decide (∃ p ∈ l, p.toNat = j) := by
  unfold setN; rw [foldl_or_bit]; simp
theorem setN_lt (l : List Int) (h : ∀ x ∈ l, 0 ≤ x ∧ x < 32) : setN l < 4294967296 := by
  refine Nat.lt_pow_two_of_testBit (n := 32) _ (fun j hj => ?_)
  rw [setN_bit]
  simp only [decide_eq_false_iff_not, not_exists, not_and]
  intro x hx e
  have := h x hx
  omega
theorem setN_take (l : List Int) (i : Nat) (h : i < l.length) : setN (l.take (i + 1)) = setN (l.take i) ||| 2 ^ (l[i]).toNat := by
  unfold setN
  rw [List.take_succ_eq_append_getElem h, List.foldl_append]
  rfl
theorem two_pow_lt32 (p : Int) (h0 : 0 ≤ p) (h1 : p < 32) : 2 ^ p.toNat < 4294967296 := Nat.pow_lt_pow_right (m := p.toNat) (n := 32) (by decide) (by omega)
theorem shl_u32_one (p : Int) (h0 : 0 ≤ p) (h1 : p < 32) : shl .u32 1 p = ((2 ^ p.toNat : Nat) : Int) := by
  unfold shl
  rw [Nat.min_eq_left (by simp [IntKind.bits]; omega), IntKind.wrap_u32]
  have e : (1 * 2 ^ p.toNat : Int) = ((2 ^ p.toNat : Nat) : Int) := by rw [Int.one_mul]; push_cast; rfl
  rw [e]; exact Int.emod_eq_of_lt (Int.natCast_nonneg _) (Int.ofNat_lt.mpr (two_pow_lt32 p h0 h1))
/-- a list that has each number less than n once -/
def IsOrd (l : List Int) (n : Int) : Prop := (l.length : Int) = n ∧ ∀ i : Nat, (i : Int) < n → (i : Int) ∈ l
theorem ph_nodup_len : ∀ (m : Nat) (l : List Int), l.Nodup → (∀ x ∈ l, 0 ≤ x ∧ x < (m : Int)) → l.length ≤ m := by
  intro m
  induction m with
  | zero =>
    intro l _ h
    cases l with
    | nil => simp
    | cons x l => have := h x (by simp); omega
  | succ m ih =>
    intro l hn h
    by_cases hm : (m : Int) ∈ l
    · have := ih (l.erase (m : Int)) (hn.erase _) (fun x hx => by
        have h1 := h x (List.mem_of_mem_erase hx)
        have h2 : x ≠ (m : Int) := fun e => by subst e; exact (List.Nodup.not_mem_erase hn) hx
        omega)
      rw [List.length_erase_of_mem hm] at this
      omega
    · have := ih l hn (fun x hx => by
        have h1 := h x hx
        have h2 : x ≠ (m : Int) := fun e => by subst e; exact hm hx
        omega)
      omega
instance (l : List Int) (n : Int) : Decidable (IsOrd l n) := decidable_of_iff ((l.length : Int) = n ∧ ∀ i : Fin l.length, (i.val : Int) ∈ l) (by
  unfold IsOrd
  constructor
  · rintro ⟨h1, h2⟩; exact ⟨h1, fun i hi => h2 ⟨i, by omega⟩⟩
  · rintro ⟨h1, h2⟩; exact ⟨h1, fun i => h2 i.val (by have := i.isLt; omega)⟩)
theorem getD_lt (l : List Int) (i : Nat) (h : i < l.length) : l.getD i 0 = l[i] := by rw [List.getD_eq_getElem?_getD, List.getElem?_eq_getElem h]; rfl
theorem rd_getD (l : List Int) (i : Nat) : rd l (i : Int) = l.getD i 0 := by unfold rd; rw [Int.toNat_natCast]
theorem exists_bool (p : Prop) : ∃ b : Bool, b = true ↔ p := by
  by_cases h : p
  · exact ⟨true, by simp [h]⟩
  · exact ⟨false, by simp [h]⟩
/-- a valid row -/
def IsRw (s : Int) (r : Bool) (l : List Int) : Prop := (2 ≤ s ∧ s ≤ 24) ∧ (r = true → 3 ≤ s) ∧ (∀ x ∈ l, 0 ≤ x ∧ x < s) ∧ l.Pairwise (· < ·)
def rwP (l : List Int) (hi : Int) (i : Nat) : Prop := (0 ≤ l.getD i 0 ∧ l.getD i 0 ≤ hi) ∧ (0 < i → l.getD (i - 1) 0 < l.getD i 0)
instance (l : List Int) (hi : Int) (i : Nat) : Decidable (rwP l hi i) := by unfold rwP; infer_instance
theorem rwP_all (l : List Int) (hi : Int) : (∀ i, i < l.length → rwP l hi i) ↔ (∀ x ∈ l, 0 ≤ x ∧ x ≤ hi) ∧ l.Pairwise (· < ·) := by
  constructor
  · intro h
    refine ⟨fun x hx => ?_, ?_⟩
    · obtain ⟨i, hi', rfl⟩ := List.mem_iff_getElem.mp hx
      have := (h i hi').1
      rw [getD_lt l i hi'] at this
      exact this
    · rw [List.pairwise_iff_getElem]
      intro i j hi' hj hij
      obtain ⟨d, hd⟩ : ∃ d, i + 1 + d = j := ⟨j - i - 1, by omega⟩
      induction d generalizing j with
      | zero =>
        have := (h j hj).2 (by omega)
        rw [getD_lt l j hj, show j - 1 = i by omega, getD_lt l i hi'] at this
        exact this
      | succ d ih =>
        have h1 := ih (j - 1) (by omega) (by omega) (by omega)
        have h2 := (h j hj).2 (by omega)
        rw [getD_lt l j hj, getD_lt l (j - 1) (by omega)] at h2
        omega
  · rintro ⟨h1, h2⟩ i hi'
    refine ⟨?_, fun h0 => ?_⟩
    · rw [getD_lt l i hi']; exact h1 _ (List.getElem_mem _)
    · rw [getD_lt l i hi', getD_lt l (i - 1) (by omega)]
      exact (List.pairwise_iff_getElem.mp h2) (i - 1) i (by omega) hi' (by omega)
theorem rising_ev (l : List Int) (hi : Int) (hl : l.length ≤ 35184372088832) (b : Bool) (hb : b = true ↔ ∀ i, i < l.length → rwP l hi i) : Ev (fun k => spec_l1Rising.f k l 0 hi) b := by
  unfold spec_l1Rising.f
  refine ev_dec (fun k i => spec_l1Rising.l0 k l 0 hi (i : Int)) l.length (rwP l hi) id ?_ ?_ ?_ b hb
  · refine Ev.succ ?_
    simp only [spec_l1Rising.l0.eq_2]
    exact Ev.neg (by omega) (Ev.now _)
  · intro i hi' hp r h
    refine Ev.succ ?_
    simp only [spec_l1Rising.l0.eq_2]
    rw [rd_getD, w64 (n := (i : Int) + 1) (by omega) (by omega), w64 (n := (i : Int) - 1) (by omega) (by omega)]
    refine Ev.pos (by omega) (Ev.pos (by omega) (Ev.bindc (l1In_eq _ _ _) (Ev.pos (decide_eq_true hp.1) ?_)))
    by_cases h0 : (i : Int) > 0
    · have := hp.2 (by omega)
      rw [show (i : Int) - 1 = ((i - 1 : Nat) : Int) by omega, rd_getD]
      exact Ev.pos h0 (Ev.pos (by omega) (Ev.pos (by omega) (Ev.neg (by omega) h)))
    · exact Ev.neg h0 h
  · intro i hi' hp
    refine Ev.succ ?_
    simp only [spec_l1Rising.l0.eq_2]
    rw [rd_getD, w64 (n := (i : Int) - 1) (by omega) (by omega)]
    refine Ev.pos (by omega) (Ev.pos (by omega) (Ev.bindc (l1In_eq _ _ _) ?_))
    by_cases h1 : 0 ≤ l.getD i 0 ∧ l.getD i 0 ≤ hi
    · have h2 : ¬ (0 < i → l.getD (i - 1) 0 < l.getD i 0) := fun h => hp ⟨h1, h⟩
      have h0 : 0 < i := Decidable.byContradiction (fun c => h2 (fun h => absurd h c))
      have h3 : ¬ l.getD (i - 1) 0 < l.getD i 0 := fun h => h2 (fun _ => h)
      rw [show (i : Int) - 1 = ((i - 1 : Nat) : Int) by omega, rd_getD]
      exact Ev.pos (decide_eq_true h1) (Ev.pos (by omega) (Ev.pos (by omega) (Ev.pos (by omega) (Ev.pos (by omega) (Ev.now _)))))
    · exact Ev.neg (by simpa using h1) (Ev.now _)
theorem l2Row_ev (s : Int) (r : Bool) (l : List Int) (hl : l.length ≤ 35184372088832) (b : Bool) (hb : b = true ↔ IsRw s r l) : Ev (fun k => spec_l2Row.f k s r l) b := by
  unfold spec_l2Row.f
  have hno : ¬ IsRw s r l → b = false := fun h => by
    cases b with
    | false => rfl
    | true => exact absurd (hb.mp rfl) h
  refine Ev.bindc (l1In_eq _ _ _) ?_
  by_cases hs : 2 ≤ s ∧ s ≤ 24
  · refine Ev.pos (decide_eq_true hs) ?_
    rw [w64 (by omega) (by omega)]
    have main : (r = true → 3 ≤ s) → (b = true ↔ ∀ i, i < l.length → rwP l (s - 1) i) := by
      intro h3
      rw [hb, rwP_all]
      unfold IsRw
      constructor
      · rintro ⟨_, _, h4, h5⟩; exact ⟨fun x hx => by have := h4 x hx; omega, h5⟩
      · rintro ⟨h4, h5⟩; exact ⟨hs, h3, fun x hx => by have := h4 x hx; omega, h5⟩
    by_cases hr : r = true
    · refine Ev.pos hr ?_
      by_cases h3 : s > 2
      · exact Ev.pos h3 (Ev.bind (f := fun _ t => some t) (rising_ev l (s - 1) hl b (main (fun _ => by omega))) (Ev.now _))
      · rw [hno (fun h => h3 (by have := h.2.1 hr; omega))]
        exact Ev.neg h3 (Ev.now _)
    · exact Ev.neg hr (Ev.bind (f := fun _ t => some t) (rising_ev l (s - 1) hl b (main (fun h => absurd h hr))) (Ev.now _))
  · rw [hno (fun h => hs h.1)]
    exact Ev.neg (by simpa using hs) (Ev.now _)
theorem bench_has1 (s : Int) (r : Bool) (x : Int) : Ev (fun k => impl_bench_has.f k s r [x]) (decide (0 ≤ x ∧ x ≤ wrap64 (s - 1))) := by
  unfold impl_bench_has.f
  refine Ev.bind (f := fun _ t => some t) (allWithin_ev [x] 0 _ (by simp)) ?_
  simp only [List.mem_singleton, forall_eq]
  exact Ev.now _
theorem bench_valid_eq (s : Int) (r : Bool) (b : Bool) (hb : b = true ↔ (2 ≤ s ∧ s ≤ 24) ∧ (r = true → 3 ≤ s)) : impl_bench_valid.f s r = some b := by
  unfold impl_bench_valid.f
  rw [within_eq, Option.bind_some]
  by_cases hs : 2 ≤ s ∧ s ≤ 24
  · rw [if_pos (decide_eq_true hs)]
    cases r with
    | true => rw [if_pos rfl]; congr 1; rw [Bool.eq_iff_iff, hb]; simp only [decide_eq_true_eq]; exact ⟨fun h => ⟨hs, fun _ => h⟩, fun h => h.2 (by trivial)⟩
    | false => rw [if_neg (by decide)]; congr 1; rw [Bool.eq_iff_iff, hb]; simp [hs]
  · rw [if_neg (by simpa using hs)]; congr 1; rw [Bool.eq_iff_iff, hb]; simp only [Bool.false_eq_true, false_iff]; exact fun h => hs h.1
theorem isRow_ev (s : Int) (r : Bool) (l : List Int) (hl : l.length ≤ 35184372088832) (b : Bool) (hb : b = true ↔ IsRw s r l) : Ev (fun k => impl_IsRow.f k s r l) b := by
  unfold impl_IsRow.f
  obtain ⟨v, hv⟩ := exists_bool ((2 ≤ s ∧ s ≤ 24) ∧ (r = true → 3 ≤ s))
  obtain ⟨c, hc⟩ := exists_bool (∀ i, i < l.length → rwP l (wrap64 (s - 1)) i)
  have hbc : b = (if c = true then v else false) := by
    rw [Bool.eq_iff_iff, hb]
    unfold IsRw
    constructor
    · rintro ⟨h1, h2, h3, h4⟩
      have hcc : c = true := by
        rw [hc, rwP_all, w64 (by omega) (by omega)]
        exact ⟨fun x hx => by have := h3 x hx; omega, h4⟩
      rw [if_pos hcc, hv]; exact ⟨h1, h2⟩
    · intro h
      by_cases hcc : c = true
      · rw [if_pos hcc, hv] at h
        rw [hc, rwP_all, w64 (by omega) (by omega)] at hcc
        exact ⟨h.1, h.2, fun x hx => by have := hcc.1 x hx; omega, hcc.2⟩
      · rw [if_neg hcc] at h; cases h
  rw [hbc]
  refine ev_dec (fun k i => impl_IsRow.l0 k l (l.length : Int) (i : Int) s r l) l.length (rwP l (wrap64 (s - 1))) (fun c => if c = true then v else false) ?_ ?_ ?_ c hc
  · refine Ev.succ ?_
    simp only [impl_IsRow.l0.eq_2]
    exact Ev.neg (by omega) (Ev.bindc rfl (Ev.bindc (bench_valid_eq s r v hv) (Ev.now _)))
  · intro i hi' hp q h
    refine Ev.succ ?_
    simp only [impl_IsRow.l0.eq_2]
    rw [rd_getD, w64 (n := (i : Int) + 1) (by omega) (by omega), w64 (n := (i : Int) - 1) (by omega) (by omega)]
    refine Ev.pos (by omega) (Ev.pos (by omega) (Ev.pos (by omega) (Ev.bindc rfl (Ev.bind (bench_has1 s r _) (Ev.pos (decide_eq_true hp.1) ?_)))))
    by_cases h0 : (i : Int) > 0
    · have := hp.2 (by omega)
      rw [show (i : Int) - 1 = ((i - 1 : Nat) : Int) by omega, rd_getD]
      exact Ev.pos h0 (Ev.pos (by omega) (Ev.pos (by omega) (Ev.neg (by omega) h)))
    · exact Ev.neg h0 h
  · intro i hi' hp
    refine Ev.succ ?_
    simp only [impl_IsRow.l0.eq_2]
    rw [rd_getD, w64 (n := (i : Int) - 1) (by omega) (by omega)]
    refine Ev.pos (by omega) (Ev.pos (by omega) (Ev.pos (by omega) (Ev.bindc rfl (Ev.bind (bench_has1 s r _) ?_))))
    by_cases h1 : 0 ≤ l.getD i 0 ∧ l.getD i 0 ≤ wrap64 (s - 1)
    · have h2 : ¬ (0 < i → l.getD (i - 1) 0 < l.getD i 0) := fun h => hp ⟨h1, h⟩
      have h0 : 0 < i := Decidable.byContradiction (fun c => h2 (fun h => absurd h c))
      have h3 : ¬ l.getD (i - 1) 0 < l.getD i 0 := fun h => h2 (fun _ => h)
      rw [show (i : Int) - 1 = ((i - 1 : Nat) : Int) by omega, rd_getD]
      exact Ev.pos (decide_eq_true h1) (Ev.pos (by omega) (Ev.pos (by omega) (Ev.pos (by omega) (Ev.pos (by omega) (Ev.now _)))))
    · exact Ev.neg (by simpa using h1) (Ev.now _)
theorem setOf_loop (l : List Int) (h : ∀ x ∈ l, 0 ≤ x ∧ x < 32) (hl : l.length ≤ 35184372088832) : ∀ (d i : Nat), i + d = l.length → Ev (fun k => impl_setOf.l0 k (setN (l.take i) : Int) l (l.length : Int) (i : Int)) (setN l : Int) := by
  intro d
  induction d with
  | zero =>
    intro i hi
    refine Ev.succ ?_
    simp only [impl_setOf.l0.eq_2]
    rw [List.take_of_length_le (by omega)]
    exact Ev.neg (by omega) (Ev.now _)
  | succ d ih =>
    intro i hi
    refine Ev.succ ?_
    simp only [impl_setOf.l0.eq_2]
    have hx := h (l[i]) (List.getElem_mem (by omega))
    rw [rd_nat l i (by omega)]
    refine Ev.pos (by omega) (Ev.pos (by omega) (Ev.pos (by omega) (Ev.pos hx.1 ?_)))
    rw [w64 (by omega) (by omega), shl_u32_one _ hx.1 hx.2]
    rw [(u32_nat _ _ (setN_lt _ (fun x hx => h x (List.mem_of_mem_take hx))) (two_pow_lt32 _ hx.1 hx.2)).2, ← setN_take l i (by omega)]
    exact ih (i + 1) (by omega)
theorem setOf_ev (l : List Int) (h : ∀ x ∈ l, 0 ≤ x ∧ x < 32) (hl : l.length ≤ 35184372088832) : Ev (fun k => impl_setOf.f k l) (setN l : Int) := setOf_loop l h hl l.length 0 (by omega)
theorem szRow_eq (s : Int) (r : Bool) (l : List Int) (a : Int) (hl : l.length ≤ 35184372088832) (h0 : 0 ≤ a) (h1 : a ≤ 1048576) : laws_szRow.f s r l a = some (if a - (l.length : Int) < 0 then -1 else a - (l.length : Int)) := by
  unfold laws_szRow.f
  rw [szIntS_eq l _ hl h0 h1]
  simp only [Option.bind_some]
  by_cases h : a - (l.length : Int) < 0
  · rw [if_pos h, if_pos (by omega)]
  · rw [if_neg h, if_neg h]
theorem toRow_ev (s : Int) (r : Bool) (l : List Int) (hl : l.length ≤ 35184372088832) : Ev (fun k => laws_toRow.f k s r l) (s, r, l) := by
  unfold laws_toRow.f
  exact Ev.bind (f := fun _ t => some (s, r, t)) (toIntS_ev l hl) (Ev.now _)
theorem eqRow_ev (s : Int) (r : Bool) (l : List Int) (hl : l.length ≤ 35184372088832) : Ev (fun k => laws_eqRow.f k s r l s r l) true := by
  unfold laws_eqRow.f
  refine Ev.pos rfl (Ev.neg (by simp) (Ev.bind (eqIntS_ev l hl) (Ev.pos rfl (Ev.now _))))
/-- a line, groups and a distance are valid -/
def GrP (s : Int) (r : Bool) (tk g : List Int) (d : Int) : Prop := IsRw s r tk ∧ r = false ∧ 0 ≤ d ∧ (1 ≤ g.length ∧ g.length ≤ 5) ∧ ∀ x ∈ g, 1 ≤ x
theorem ge1_all (g : List Int) : (∀ i, i < g.length → ¬ g.getD i 0 < 1) ↔ ∀ x ∈ g, 1 ≤ x := by
  constructor
  · intro h x hx
    obtain ⟨i, hi, rfl⟩ := List.mem_iff_getElem.mp hx
    have := h i hi; rw [getD_lt g i hi] at this; omega
  · intro h i hi; rw [getD_lt g i hi]; have := h g[i] (List.getElem_mem hi); omega
theorem l9Groups_ev (s : Int) (r : Bool) (tk g : List Int) (d : Int) (hl : tk.length ≤ 35184372088832) (hg : g.length ≤ 35184372088832) (b : Bool) (hb : b = true ↔ GrP s r tk g d) : Ev (fun k => spec_l9Groups.f k s r tk g d) b := by
  unfold spec_l9Groups.f
  obtain ⟨c, hc⟩ := exists_bool (∀ i, i < g.length → ¬ g.getD i 0 < 1)
  obtain ⟨v, hv⟩ := exists_bool (IsRw s r tk ∧ r = false ∧ 0 ≤ d ∧ (1 ≤ g.length ∧ g.length ≤ 5))
  have hbc : b = (if c = true then v else false) := by
    rw [Bool.eq_iff_iff, hb]
    unfold GrP
    constructor
    · rintro ⟨h1, h2, h3, h4, h5⟩
      rw [if_pos (hc.mpr ((ge1_all g).mpr h5)), hv]; exact ⟨h1, h2, h3, h4⟩
    · intro h
      by_cases hcc : c = true
      · rw [if_pos hcc, hv] at h
        exact ⟨h.1, h.2.1, h.2.2.1, h.2.2.2, (ge1_all g).mp (hc.mp hcc)⟩
      · rw [if_neg hcc] at h; cases h
  rw [hbc]
  refine ev_dec (fun k i => spec_l9Groups.l0 k g d (i : Int) s r tk) g.length (fun i => ¬ g.getD i 0 < 1) (fun c => if c = true then v else false) ?_ ?_ ?_ c hc
  · refine Ev.succ ?_
    simp only [spec_l9Groups.l0.eq_2]
    obtain ⟨w, hw⟩ := exists_bool (IsRw s r tk)
    refine Ev.neg (by omega) (Ev.bind (l2Row_ev s r tk hl w hw) ?_)
    rw [if_pos (show True from trivial)]
    cases w with
    | false =>
      rw [show v = false by
        cases v with
        | false => rfl
        | true => exact absurd (hw.mpr (hv.mp rfl).1) (by decide)]
      exact Ev.neg (by decide) (Ev.now _)
    | true =>
      refine Ev.pos rfl ?_
      cases r with
      | true =>
        rw [show v = false by
          cases v with
          | false => rfl
          | true => exact absurd (hv.mp rfl).2.1 (by decide)]
        exact Ev.pos rfl (Ev.now _)
      | false =>
        refine Ev.neg (by decide) (Ev.bindc (l1In_eq _ _ _) ?_)
        by_cases h5 : 1 ≤ (g.length : Int) ∧ (g.length : Int) ≤ 5
        · refine Ev.pos (decide_eq_true h5) ?_
          rw [show v = decide (d ≥ 0) by
            rw [Bool.eq_iff_iff, hv, decide_eq_true_eq]
            exact ⟨fun h => h.2.2.1, fun h => ⟨hw.mp rfl, rfl, h, by omega⟩⟩]
          exact Ev.now _
        · rw [show v = false by
            cases v with
            | false => rfl
            | true => have := (hv.mp rfl).2.2.2; omega]
          exact Ev.neg (by simpa using h5) (Ev.now _)
  · intro i hi hp q hq
    refine Ev.succ ?_
    simp only [spec_l9Groups.l0.eq_2]
    rw [rd_getD, w64 (by omega) (by omega)]
    exact Ev.pos (by omega) (Ev.pos (by omega) (Ev.neg hp hq))
  · intro i hi hp
    refine Ev.succ ?_
    simp only [spec_l9Groups.l0.eq_2]
    rw [rd_getD]
    exact Ev.pos (by omega) (Ev.pos (by omega) (Ev.pos (Decidable.byContradiction (fun h => hp h)) (Ev.now _)))
theorem isGrouped_ev (s : Int) (r : Bool) (tk g : List Int) (d : Int) (hl : tk.length ≤ 35184372088832) (hg : g.length ≤ 35184372088832) (b : Bool) (hb : b = true ↔ GrP s r tk g d) : Ev (fun k => impl_isGrouped.f k s r tk g d) b := by
  unfold impl_isGrouped.f
  have hno : ¬ GrP s r tk g d → b = false := fun h => by
    cases b with
    | false => rfl
    | true => exact absurd (hb.mp rfl) h
  have bad : ¬ GrP s r tk g d → Ev (fun k => impl_isGrouped.j0 k g true) b := fun h => by
    rw [hno h]
    refine Ev.succ ?_
    simp only [impl_isGrouped.j0.eq_2]
    exact Ev.pos (by trivial) (Ev.now _)
  obtain ⟨w, hw⟩ := exists_bool (IsRw s r tk)
  refine Ev.bind (isRow_ev s r tk hl w hw) ?_
  cases w with
  | false => exact Ev.neg (by decide) (bad (fun h => absurd (hw.mpr h.1) (by decide)))
  | true =>
    refine Ev.pos rfl ?_
    cases r with
    | true => exact Ev.pos rfl (bad (fun h => absurd h.2.1 (by decide)))
    | false =>
      refine Ev.neg (by decide) ?_
      by_cases hd : d < 0
      · exact Ev.pos hd (bad (fun h => by have := h.2.2.1; omega))
      · refine Ev.neg hd (Ev.bindc (within_eq _ _ _) ?_)
        by_cases h5 : 1 ≤ (g.length : Int) ∧ (g.length : Int) ≤ 5
        · rw [decide_eq_true h5]
          refine Ev.succ ?_
          simp only [impl_isGrouped.j0.eq_2]
          refine Ev.neg (by decide) (ev_dec (fun k i => impl_isGrouped.l0 k g (g.length : Int) (i : Int)) g.length (fun i => ¬ g.getD i 0 < 1) id ?_ ?_ ?_ b ?_)
          · refine Ev.succ ?_
            simp only [impl_isGrouped.l0.eq_2]
            exact Ev.neg (by omega) (Ev.now _)
          · intro i hi hp q hq
            refine Ev.succ ?_
            simp only [impl_isGrouped.l0.eq_2]
            rw [rd_getD, w64 (by omega) (by omega)]
            exact Ev.pos (by omega) (Ev.pos (by omega) (Ev.pos (by omega) (Ev.neg hp hq)))
          · intro i hi hp
            refine Ev.succ ?_
            simp only [impl_isGrouped.l0.eq_2]
            rw [rd_getD]
            exact Ev.pos (by omega) (Ev.pos (by omega) (Ev.pos (by omega) (Ev.pos (Decidable.byContradiction (fun h => hp h)) (Ev.now _))))
          · rw [hb, ge1_all]
            unfold GrP
            exact ⟨fun h => h.2.2.2.2, fun h => ⟨hw.mp rfl, rfl, by omega, by omega, h⟩⟩
        · rw [decide_eq_false h5]
          exact bad (fun h => h5 (by have := h.2.2.2.1; omega))
/-- a group of so many at a place lies in the line, away from what is taken and from the groups before -/
def FitR (s : Int) (size p : Int) : Prop := size ≤ s ∧ 0 ≤ p ∧ p ≤ s - size
def FitT (tk : List Int) (size d p : Int) (i : Nat) : Prop := ¬ (p - d ≤ tk.getD i 0 ∧ tk.getD i 0 ≤ p + size - 1 + d)
def FitG (g pl : List Int) (size d p : Int) (i : Nat) : Prop := ¬ (pl.getD i 0 ≤ p + size - 1 + d ∧ p ≤ pl.getD i 0 + g.getD i 0 - 1 + d)
def FitP (s : Int) (tk g pl : List Int) (d p : Int) : Prop := FitR s (g.getD pl.length 0) p ∧ (∀ i, i < tk.length → FitT tk (g.getD pl.length 0) d p i) ∧ (∀ i, i < pl.length → FitG g pl (g.getD pl.length 0) d p i)
theorem l9Fits_ev (s : Nat) (r : Bool) (tk g pl : List Int) (d p : Int) (hs : s ≤ 24) (htk : tk.length ≤ 35184372088832) (hd : 0 ≤ d) (hpl : pl.length < g.length) (hg5 : g.length ≤ 5)
    (ht : ∀ x ∈ tk, 0 ≤ x ∧ x < (s : Int)) (hg : ∀ x ∈ g, 1 ≤ x) (hgw : ∀ x ∈ g, x ≤ 9223372036854775807) (hp : ∀ i, i < pl.length → 0 ≤ pl.getD i 0 ∧ pl.getD i 0 + g.getD i 0 ≤ (s : Int)) (b : Bool) (hb : b = true ↔ FitP (s : Int) tk g pl (mn d s) p) :
    Ev (fun k => spec_l9Fits.f k (s : Int) r tk g d pl p) b := by
  unfold spec_l9Fits.f
  have hsz : 1 ≤ g.getD pl.length 0 ∧ g.getD pl.length 0 ≤ 9223372036854775807 := by
    rw [getD_lt g _ hpl]; exact ⟨hg _ (List.getElem_mem _), hgw _ (List.getElem_mem _)⟩
  have hno : ¬ FitP (s : Int) tk g pl (mn d s) p → b = false := fun h => by
    cases b with
    | false => rfl
    | true => exact absurd (hb.mp rfl) h
  have bad : ¬ FitP (s : Int) tk g pl (mn d s) p → ∀ sz, Ev (fun k => spec_l9Fits.j0 k g d pl p sz true (s : Int) r tk) b := fun h sz => by
    rw [hno h]
    refine Ev.succ ?_
    simp only [spec_l9Fits.j0.eq_2]
    exact Ev.pos (by trivial) (Ev.now _)
  rw [rd_getD]
  refine Ev.pos (by omega) (Ev.pos (by omega) ?_)
  by_cases h1 : g.getD pl.length 0 > (s : Int)
  · exact Ev.pos h1 (bad (fun h => by have := h.1.1; omega) _)
  · refine Ev.neg h1 (Ev.bindc (l1In_eq _ _ _) ?_)
    rw [w64 (by omega) (by omega)]
    by_cases h2 : 0 ≤ p ∧ p ≤ (s : Int) - g.getD pl.length 0
    · rw [decide_eq_true h2]
      have hdm : 0 ≤ mn d s ∧ mn d s ≤ 24 := by unfold mn; split <;> omega
      have hR : FitR (s : Int) (g.getD pl.length 0) p := ⟨by omega, h2.1, h2.2⟩
      refine Ev.succ ?_
      simp only [spec_l9Fits.j0.eq_2]
      refine Ev.neg (by decide) (Ev.bindc (a := mn d s) (by unfold spec_l1Least.f mn; split <;> split <;> first | rfl | (congr 1; omega)) ?_)
      have hb2 : b = true ↔ FitR (s : Int) (g.getD pl.length 0) p ∧ (∀ i, i < tk.length → FitT tk (g.getD pl.length 0) (mn d s) p i) ∧ (∀ i, i < pl.length → FitG g pl (g.getD pl.length 0) (mn d s) p i) := hb
      clear bad hno hb
      generalize mn d s = D at *
      generalize g.getD pl.length 0 = z at *
      -- the second loop
      obtain ⟨c2, hc2⟩ := exists_bool (∀ i, i < pl.length → FitG g pl z D p i)
      have loop2 : Ev (fun k => spec_l9Fits.l1 k g D pl p z ((0 : Nat) : Int)) c2 := by
        refine ev_dec (fun k i => spec_l9Fits.l1 k g D pl p z (i : Int)) pl.length (fun i => ¬ (pl.getD i 0 ≤ p + z - 1 + D ∧ p ≤ pl.getD i 0 + g.getD i 0 - 1 + D)) id ?_ ?_ ?_ c2 hc2
        · refine Ev.succ ?_
          simp only [spec_l9Fits.l1.eq_2]
          exact Ev.neg (by omega) (Ev.now _)
        · intro i hi hP q hq
          have hpi := hp i hi
          have hgi := hg _ (List.getElem_mem (l := g) (n := i) (by omega))
          rw [← getD_lt g i (by omega)] at hgi
          refine Ev.succ ?_
          simp only [spec_l9Fits.l1.eq_2]
          rw [rd_getD, rd_getD, w64 (n := (i : Int) + 1) (by omega) (by omega), w64 (n := p + z) (by omega) (by omega), w64 (n := p + z - 1) (by omega) (by omega), w64 (n := p + z - 1 + D) (by omega) (by omega)]
          rw [w64 (n := pl.getD i 0 + g.getD i 0) (by omega) (by omega), w64 (n := pl.getD i 0 + g.getD i 0 - 1) (by omega) (by omega), w64 (n := pl.getD i 0 + g.getD i 0 - 1 + D) (by omega) (by omega)]
          refine Ev.pos (by omega) (Ev.pos (by omega) ?_)
          by_cases h3 : pl.getD i 0 ≤ p + z - 1 + D
          · exact Ev.pos h3 (Ev.pos (by omega) (Ev.neg (fun h4 => hP ⟨h3, h4⟩) hq))
          · exact Ev.neg h3 hq
        · intro i hi hP
          have hpi := hp i hi
          have hgi := hg _ (List.getElem_mem (l := g) (n := i) (by omega))
          rw [← getD_lt g i (by omega)] at hgi
          have hP2 := Decidable.of_not_not hP
          refine Ev.succ ?_
          simp only [spec_l9Fits.l1.eq_2]
          rw [rd_getD, rd_getD, w64 (n := p + z) (by omega) (by omega), w64 (n := p + z - 1) (by omega) (by omega), w64 (n := p + z - 1 + D) (by omega) (by omega)]
          rw [w64 (n := pl.getD i 0 + g.getD i 0) (by omega) (by omega), w64 (n := pl.getD i 0 + g.getD i 0 - 1) (by omega) (by omega), w64 (n := pl.getD i 0 + g.getD i 0 - 1 + D) (by omega) (by omega)]
          exact Ev.pos (by omega) (Ev.pos (by omega) (Ev.pos hP2.1 (Ev.pos (by omega) (Ev.pos hP2.2 (Ev.now _)))))
      obtain ⟨c1, hc1⟩ := exists_bool (∀ i, i < tk.length → FitT tk z D p i)
      rw [show b = (if c1 = true then c2 else false) by
        rw [Bool.eq_iff_iff, hb2]
        constructor
        · rintro ⟨_, h4, h5⟩; rw [if_pos (hc1.mpr h4), hc2]; exact h5
        · intro h
          by_cases hcc : c1 = true
          · rw [if_pos hcc, hc2] at h; exact ⟨hR, hc1.mp hcc, h⟩
          · rw [if_neg hcc] at h; cases h]
      refine ev_dec (fun k i => spec_l9Fits.l0 k g D pl p z (i : Int) (s : Int) r tk) tk.length (fun i => ¬ (p - D ≤ tk.getD i 0 ∧ tk.getD i 0 ≤ p + z - 1 + D)) (fun c => if c = true then c2 else false) ?_ ?_ ?_ c1 hc1
      · refine Ev.succ ?_
        simp only [spec_l9Fits.l0.eq_2]
        exact Ev.neg (by omega) loop2
      · intro i hi hP q hq
        refine Ev.succ ?_
        simp only [spec_l9Fits.l0.eq_2]
        rw [rd_getD, w64 (n := (i : Int) + 1) (by omega) (by omega), w64 (n := p + z) (by omega) (by omega), w64 (n := p + z - 1) (by omega) (by omega), w64 (n := p + z - 1 + D) (by omega) (by omega), w64 (n := p - D) (by omega) (by omega)]
        exact Ev.pos (by omega) (Ev.pos (by omega) (Ev.bindc (l1In_eq _ _ _) (Ev.neg (by simpa using hP) hq)))
      · intro i hi hP
        refine Ev.succ ?_
        simp only [spec_l9Fits.l0.eq_2]
        rw [rd_getD, w64 (n := p + z) (by omega) (by omega), w64 (n := p + z - 1) (by omega) (by omega), w64 (n := p + z - 1 + D) (by omega) (by omega), w64 (n := p - D) (by omega) (by omega)]
        exact Ev.pos (by omega) (Ev.pos (by omega) (Ev.bindc (l1In_eq _ _ _) (Ev.pos (decide_eq_true (Decidable.of_not_not hP)) (Ev.now _))))
    · rw [decide_eq_false h2]
      exact bad (fun h => h2 ⟨h.1.2.1, h.1.2.2⟩) _
/-- so many seats from a place on -/
def ivl (n p : Nat) : Nat := (2 ^ n - 1) * 2 ^ p
theorem ivl_bit (n p j : Nat) : (ivl n p).testBit j = (decide (p ≤ j) && decide (j < p + n)) := by
  unfold ivl
  rw [Nat.testBit_mul_two_pow, Nat.testBit_two_pow_sub_one]
  by_cases h : p ≤ j
  · have : (j - p < n) ↔ (j < p + n) := by omega
    simp [h, this]
  · simp [h]
theorem ivl_lt (n p : Nat) (h : n + p ≤ 32) : ivl n p < 4294967296 := by
  refine Nat.lt_pow_two_of_testBit (n := 32) _ (fun j hj => ?_)
  rw [ivl_bit]; simp; omega
theorem shl_u32 (a : Nat) (p : Nat) (hp : p < 32) (h : a * 2 ^ p < 4294967296) : shl .u32 (a : Int) (p : Int) = ((a * 2 ^ p : Nat) : Int) := by
  unfold shl
  rw [Nat.min_eq_left (by simp [IntKind.bits]; omega), IntKind.wrap_u32, Int.toNat_natCast]
  have e : ((a : Int) * 2 ^ p) = ((a * 2 ^ p : Nat) : Int) := by push_cast; rfl
  rw [e]; exact Int.emod_eq_of_lt (Int.natCast_nonneg _) (Int.ofNat_lt.mpr h)
/-- the group with all that is so near to it -/
def ExpB (n p i E : Nat) : Prop := E < 4294967296 ∧ ∀ j, E.testBit j = (decide (j < 32) && (decide (p ≤ j + i) && decide (j < p + n + i)))
theorem exp_step (n p i E : Nat) (hn : 1 ≤ n) (hp : p + n ≤ 24) (h : ExpB n p i E) : ExpB n p (i + 1) (E ||| ((E * 2 % 4294967296) ||| E / 2)) := by
  obtain ⟨h1, h2⟩ := h
  refine ⟨?_, fun j => ?_⟩
  · refine Nat.or_lt_two_pow (n := 32) h1 (Nat.or_lt_two_pow (n := 32) (Nat.mod_lt _ (by decide)) (by omega))
  · rw [Nat.testBit_or, Nat.testBit_or, show 4294967296 = 2 ^ 32 from rfl, Nat.testBit_mod_two_pow, show E * 2 = E * 2 ^ 1 from rfl, Nat.testBit_mul_two_pow, Nat.testBit_div_two, h2, h2, h2]
    rw [Bool.eq_iff_iff]
    simp only [Bool.or_eq_true, Bool.and_eq_true, decide_eq_true_eq]
    omega
theorem expand_ev (T n p : Nat) (res : Int) (hn : 1 ≤ n) (hp : p + n ≤ 24) (hT : T < 4294967296) (D : Nat) (b : Bool) (hb : b = true ↔ ∀ j, j < 32 → p ≤ j + D → j < p + n + D → T.testBit j = false) :
    ∀ d i E, i + d = D → ExpB n p i E → D ≤ 1000 → Ev (fun k => impl_Row_group.l0 k (T : Int) res (E : Int) (D : Int) (i : Int)) (res, b) := by
  intro d
  induction d with
  | zero =>
    intro i E hi hE hD
    refine Ev.succ ?_
    simp only [impl_Row_group.l0.eq_2]
    refine Ev.neg (by omega) ?_
    rw [(u32_nat E T hE.1 hT).1]
    have e : (((E &&& T : Nat) : Int) == 0) = b := by
      rw [Bool.eq_iff_iff, hb]
      simp only [beq_iff_eq]
      constructor
      · intro h j h1 h2 h3
        have h0 : E &&& T = 0 := by omega
        have := congrArg (fun x => Nat.testBit x j) h0
        simp only [Nat.testBit_and, Nat.zero_testBit, hE.2] at this
        have h4 : (decide (j < 32) && (decide (p ≤ j + i) && decide (j < p + n + i))) = true := by
          simp only [Bool.and_eq_true, decide_eq_true_eq]; omega
        rw [h4, Bool.true_and] at this
        exact this
      · intro h
        have : E &&& T = 0 := by
          refine Nat.eq_of_testBit_eq (fun j => ?_)
          rw [Nat.testBit_and, Nat.zero_testBit, hE.2]
          by_cases h4 : j < 32 ∧ p ≤ j + i ∧ j < p + n + i
          · rw [h j h4.1 (by omega) (by omega), Bool.and_false]
          · have : (decide (j < 32) && (decide (p ≤ j + i) && decide (j < p + n + i))) = false := by
              rw [Bool.eq_false_iff]; simp only [ne_eq, Bool.and_eq_true, decide_eq_true_eq]; omega
            rw [this, Bool.false_and]
        omega
    rw [e]
    exact Ev.now _
  | succ d ih =>
    intro i E hi hE hD
    refine Ev.succ ?_
    simp only [impl_Row_group.l0.eq_2]
    refine Ev.pos (by omega) ?_
    rw [w64 (by omega) (by omega)]
    have e1 : ((E : Int) * 2) % 4294967296 = ((E * 2 % 4294967296 : Nat) : Int) := by omega
    have e2 : (E : Int) / 2 = ((E / 2 : Nat) : Int) := by omega
    have hE1 := hE.1
    rw [e1, e2, (u32_nat _ _ (Nat.mod_lt _ (by decide)) (by omega)).2, (u32_nat _ _ hE1 (Nat.or_lt_two_pow (n := 32) (Nat.mod_lt _ (by decide)) (by omega))).2]
    exact ih (i + 1) _ (by omega) (exp_step n p i E hn hp hE) hD
theorem group_ev (s : Nat) (r : Bool) (tk : List Int) (T : Nat) (n d p : Int) (hs : s ≤ 24) (hT : T < 4294967296) (hn : 1 ≤ n) (hd : 0 ≤ d) (hp : 0 ≤ p ∧ p < (s : Int)) (hok : n ≤ (s : Int) ∧ p + n ≤ (s : Int))
    (b : Bool) (hb : b = true ↔ ∀ j : Nat, j < 32 → p ≤ (j : Int) + mn d s → (j : Int) < p + n + mn d s → T.testBit j = false) :
    Ev (fun k => impl_Row_group.f k (s : Int) r tk (T : Int) n d p) ((ivl n.toNat p.toNat : Int), b) := by
  obtain ⟨N, rfl⟩ : ∃ N : Nat, n = (N : Int) := ⟨n.toNat, by omega⟩
  obtain ⟨P, rfl⟩ : ∃ P : Nat, p = (P : Int) := ⟨p.toNat, by omega⟩
  obtain ⟨D, hD⟩ : ∃ D : Nat, mn d s = (D : Int) := ⟨(mn d s).toNat, by unfold mn; split <;> omega⟩
  have hD24 : D ≤ 24 := by unfold mn at hD; split at hD <;> omega
  unfold impl_Row_group.f
  refine Ev.neg (by omega) (Ev.neg (by omega) ?_)
  rw [w64 (by omega) (by omega)]
  refine Ev.succ ?_
  simp only [impl_Row_group.j0.eq_2]
  refine Ev.neg (by simp; omega) (Ev.pos (by omega) (Ev.pos (by omega) ?_))
  have hp1 := two_pow_lt32 (N : Int) (by omega) (by omega)
  rw [Int.toNat_natCast] at hp1
  have hp2 : 0 < 2 ^ N := Nat.two_pow_pos N
  have e1 : ((shl .u32 1 (N : Int)) - 1) % 4294967296 = ((2 ^ N - 1 : Nat) : Int) := by
    rw [shl_u32_one _ (by omega) (by omega), Int.toNat_natCast]
    generalize 2 ^ N = t at *
    omega
  have hlt : (2 ^ N - 1) * 2 ^ P < 4294967296 := ivl_lt N P (by omega)
  rw [e1, shl_u32 _ P (by omega) hlt, hD]
  simp only [Int.toNat_natCast]
  exact expand_ev T N P _ (by omega) (by omega) hT D b (by
    rw [hb, hD]
    constructor
    · intro h j h1 h2 h3; exact h j h1 (by omega) (by omega)
    · intro h j h1 h2 h3; exact h j h1 (by omega) (by omega)) D 0 (ivl N P) (by omega) ⟨ivl_lt N P (by omega), fun j => by
      rw [ivl_bit, Bool.eq_iff_iff]; simp only [Bool.and_eq_true, decide_eq_true_eq]; omega⟩ (by omega)
theorem group_no (s : Nat) (r : Bool) (tk : List Int) (T : Nat) (n d p : Int) (hs : s ≤ 24) (hn : 1 ≤ n) (hp : 0 ≤ p ∧ p < (s : Int)) (hok : ¬ (n ≤ (s : Int) ∧ p + n ≤ (s : Int))) :
    Ev (fun k => impl_Row_group.f k (s : Int) r tk (T : Int) n d p) (0, false) := by
  have bad : Ev (fun k => impl_Row_group.j0 k (T : Int) n d p true (s : Int) r tk) (0, false) := by
    refine Ev.succ ?_
    simp only [impl_Row_group.j0.eq_2]
    exact Ev.pos (by trivial) (Ev.now _)
  unfold impl_Row_group.f
  by_cases h1 : n > (s : Int)
  · exact Ev.pos h1 bad
  · refine Ev.neg h1 (Ev.neg (by omega) ?_)
    rw [w64 (by omega) (by omega), decide_eq_true (by omega)]
    exact bad
theorem pairwise_nodup {l : List Int} (h : l.Pairwise (· < ·)) : l.Nodup := h.imp (fun h => by omega)
/-- the taken seats behind some groups -/
def tkN (tk g pl : List Int) : Nat → Nat
  | 0 => setN tk
  | i + 1 => tkN tk g pl i ||| ivl (g.getD i 0).toNat (pl.getD i 0).toNat
theorem tkN_bit (tk g pl : List Int) (i j : Nat) : (tkN tk g pl i).testBit j = true ↔ (∃ x ∈ tk, x.toNat = j) ∨ ∃ q, q < i ∧ (pl.getD q 0).toNat ≤ j ∧ j < (pl.getD q 0).toNat + (g.getD q 0).toNat := by
  induction i with
  | zero =>
    simp only [tkN, setN_bit, decide_eq_true_eq]
    constructor
    · exact fun h => .inl h
    · rintro (h | ⟨q, h, _⟩)
      · exact h
      · omega
  | succ i ih =>
    rw [tkN, Nat.testBit_or, Bool.or_eq_true, ih, ivl_bit]
    simp only [Bool.and_eq_true, decide_eq_true_eq]
    constructor
    · rintro ((h | ⟨q, h1, h2⟩) | h)
      · exact .inl h
      · exact .inr ⟨q, by omega, h2⟩
      · exact .inr ⟨i, by omega, h⟩
    · rintro (h | ⟨q, h1, h2⟩)
      · exact .inl (.inl h)
      · rcases Nat.lt_or_ge q i with h3 | h3
        · exact .inl (.inr ⟨q, h3, h2⟩)
        · rw [show q = i by omega] at h2; exact .inr h2
/-- the places so far are right -/
def PlOk (s : Int) (tk g pl : List Int) (D : Int) (i : Nat) : Prop := FitP s tk g (pl.take i) D (pl.getD i 0)
theorem getD_take (pl : List Int) (i q : Nat) (h : q < i) : (pl.take i).getD q 0 = pl.getD q 0 := by
  rw [List.getD_eq_getElem?_getD, List.getD_eq_getElem?_getD, List.getElem?_take, if_pos h]
theorem plOk_iff (s : Int) (tk g pl : List Int) (D : Int) (i : Nat) (hi : i < pl.length) : PlOk s tk g pl D i ↔ FitR s (g.getD i 0) (pl.getD i 0) ∧ (∀ q, q < tk.length → FitT tk (g.getD i 0) D (pl.getD i 0) q) ∧ (∀ q, q < i → FitG g pl (g.getD i 0) D (pl.getD i 0) q) := by
  unfold PlOk FitP
  rw [List.length_take, Nat.min_eq_left (by omega)]
  constructor
  · rintro ⟨a, b, c⟩
    refine ⟨a, b, fun q hq => ?_⟩
    have := c q hq
    unfold FitG at this ⊢
    rw [getD_take pl i q hq] at this; exact this
  · rintro ⟨a, b, c⟩
    refine ⟨a, b, fun q hq => ?_⟩
    have := c q hq
    unfold FitG at this ⊢
    rw [getD_take pl i q hq]; exact this
theorem tkN_lt (s : Int) (tk g pl : List Int) (hs : s ≤ 24) (ht : ∀ x ∈ tk, 0 ≤ x ∧ x < s) : ∀ i, (∀ q, q < i → 0 ≤ pl.getD q 0 ∧ pl.getD q 0 + g.getD q 0 ≤ s ∧ 1 ≤ g.getD q 0) → tkN tk g pl i < 4294967296 := by
  intro i
  induction i with
  | zero => intro _; exact setN_lt tk (fun x hx => by have := ht x hx; omega)
  | succ i ih =>
    intro h
    have := h i (by omega)
    exact Nat.or_lt_two_pow (n := 32) (ih (fun q hq => h q (by omega))) (ivl_lt _ _ (by omega))
/-- what is free around a group: by the set, and by the lists -/
theorem group_free (s : Nat) (tk g pl : List Int) (D : Int) (hD : 0 ≤ D) (hs : s ≤ 24) (ht : ∀ x ∈ tk, 0 ≤ x ∧ x < (s : Int)) (i : Nat) (hpl : i < pl.length)
    (h : ∀ q, q < i → 0 ≤ pl.getD q 0 ∧ pl.getD q 0 + g.getD q 0 ≤ (s : Int) ∧ 1 ≤ g.getD q 0) (hR : FitR (s : Int) (g.getD i 0) (pl.getD i 0)) (h1 : 1 ≤ g.getD i 0) :
    (∀ j : Nat, j < 32 → pl.getD i 0 ≤ (j : Int) + D → (j : Int) < pl.getD i 0 + g.getD i 0 + D → (tkN tk g pl i).testBit j = false) ↔ PlOk (s : Int) tk g pl D i := by
  rw [plOk_iff _ _ _ _ _ _ hpl]
  constructor
  · intro hf
    refine ⟨hR, fun q hq => ?_, fun q hq => ?_⟩
    · unfold FitT
      rintro ⟨h2, h3⟩
      have hx := ht (tk.getD q 0) (by rw [getD_lt tk q hq]; exact List.getElem_mem hq)
      have := hf (tk.getD q 0).toNat (by omega) (by omega) (by omega)
      have hb := (tkN_bit tk g pl i (tk.getD q 0).toNat).mpr (.inl ⟨tk.getD q 0, by rw [getD_lt tk q hq]; exact List.getElem_mem hq, rfl⟩)
      rw [hb] at this; cases this
    · unfold FitG
      rintro ⟨h2, h3⟩
      have hq2 := h q hq
      -- a seat of both
      have := hf (mx (pl.getD q 0) (pl.getD i 0 - D)).toNat (by unfold mx; split <;> omega) (by unfold mx; split <;> omega) (by unfold mx FitR at *; split <;> omega)
      have hb := (tkN_bit tk g pl i (mx (pl.getD q 0) (pl.getD i 0 - D)).toNat).mpr (.inr ⟨q, hq, by unfold mx; split <;> omega, by unfold mx; split <;> omega⟩)
      rw [hb] at this; cases this
  · rintro ⟨_, h2, h3⟩ j hj h4 h5
    rw [Bool.eq_false_iff]
    intro hb
    rcases (tkN_bit tk g pl i j).mp hb with ⟨x, hx, e⟩ | ⟨q, hq, h6, h7⟩
    · obtain ⟨q, hq, rfl⟩ := List.mem_iff_getElem.mp hx
      have := h2 q hq
      unfold FitT at this
      rw [getD_lt tk q hq] at this
      have := ht _ hx
      omega
    · have := h3 q hq
      unfold FitG at this
      have := h q hq
      omega
theorem mn_bound (d : Int) (s : Nat) (hd : 0 ≤ d) : 0 ≤ mn d s ∧ mn d s ≤ s := by unfold mn; split <;> omega
theorem plOk_range {s : Int} {tk g pl : List Int} {D : Int} {i : Nat} (hi : i < pl.length) (h : PlOk s tk g pl D i) : 0 ≤ pl.getD i 0 ∧ pl.getD i 0 + g.getD i 0 ≤ s := by
  have := ((plOk_iff s tk g pl D i hi).mp h).1
  unfold FitR at this; omega
theorem placing_spec (s : Nat) (r : Bool) (tk g pl : List Int) (d : Int) (h : GrP (s : Int) r tk g d) (htk : tk.length ≤ 35184372088832) (hgw : ∀ x ∈ g, x ≤ 9223372036854775807) (hlen : pl.length = g.length) (b : Bool) (hb : b = true ↔ ∀ i, i < pl.length → PlOk (s : Int) tk g pl (mn d s) i) :
    Ev (fun k => spec_l9Placing.f k (s : Int) r tk g d pl) b := by
  obtain ⟨hrow, hr, hd, hg5, hg⟩ := h
  unfold spec_l9Placing.f
  refine Ev.pos (by omega) ?_
  -- up to the first one that does not fit, all lie in the line
  have key : ∀ e i, i + e = pl.length → (∀ q, q < i → PlOk (s : Int) tk g pl (mn d s) q) → Ev (fun k => spec_l9Placing.l0 k g d pl (i : Int) (s : Int) r tk) b := by
    intro e
    induction e with
    | zero =>
      intro i hi hok
      refine Ev.succ ?_
      simp only [spec_l9Placing.l0.eq_2]
      rw [hb.mpr (fun q hq => hok q (by omega))]
      exact Ev.neg (by omega) (Ev.now _)
    | succ e ih =>
      intro i hi hok
      refine Ev.succ ?_
      simp only [spec_l9Placing.l0.eq_2]
      rw [rd_getD, Int.toNat_natCast]
      obtain ⟨c, hc⟩ := exists_bool (PlOk (s : Int) tk g pl (mn d s) i)
      have hs := hrow.1
      refine Ev.pos (by omega) (Ev.pos (by omega) (Ev.pos (by omega) (Ev.bind (l9Fits_ev s r tk g (pl.take i) d (pl.getD i 0) (by omega) htk hd (by rw [List.length_take]; omega) hg5.2 hrow.2.2.1 hg hgw ?_ c hc) ?_)))
      · intro q hq
        rw [List.length_take] at hq
        rw [getD_take pl i q (by omega)]
        exact plOk_range (by omega) (hok q (by omega))
      · cases c with
        | true =>
          refine Ev.pos rfl ?_
          rw [w64 (by omega) (by omega)]
          refine ih (i + 1) (by omega) (fun q hq => ?_)
          rcases Nat.lt_or_ge q i with h3 | h3
          · exact hok q h3
          · rw [show q = i by omega]; exact hc.mp rfl
        | false =>
          rw [show b = false by
            cases b with
            | false => rfl
            | true => exact absurd (hc.mpr (hb.mp rfl i (by omega))) (by decide)]
          exact Ev.neg (by decide) (Ev.now _)
  exact key pl.length 0 (by omega) (fun q hq => by omega)
theorem placing_impl (s : Nat) (r : Bool) (tk g pl : List Int) (d : Int) (h : GrP (s : Int) r tk g d) (hgw : ∀ x ∈ g, x ≤ 9223372036854775807) (hlen : pl.length = g.length) (b : Bool) (hb : b = true ↔ ∀ i, i < pl.length → PlOk (s : Int) tk g pl (mn d s) i) :
    Ev (fun k => impl_Row_placed.f k (s : Int) r tk g d pl) (if b = true then ((tkN tk g pl pl.length : Nat) : Int) else 0, b) := by
  obtain ⟨hrow, hr, hd, hg5, hg⟩ := h
  have hs := hrow.1
  have ht := hrow.2.2.1
  have h32 : ∀ x ∈ tk, 0 ≤ x ∧ x < 32 := fun x hx => by have := ht x hx; omega
  have hg1 : ∀ i, i < g.length → 1 ≤ g.getD i 0 ∧ g.getD i 0 ≤ 9223372036854775807 := fun i hi => by rw [getD_lt g i hi]; exact ⟨hg _ (List.getElem_mem hi), hgw _ (List.getElem_mem hi)⟩
  have htl : tk.length ≤ 24 := by
    have := ph_nodup_len s tk (pairwise_nodup hrow.2.2.2) ht
    omega
  unfold impl_Row_placed.f
  refine Ev.pos (by omega) (Ev.bind (a := ((setN tk : Nat) : Int)) (by unfold impl_Row_taken.f; exact Ev.bind (f := fun _ t => some t) (setOf_ev tk h32 (by omega)) (Ev.now _)) ?_)
  have key : ∀ e i, i + e = pl.length → (∀ q, q < i → PlOk (s : Int) tk g pl (mn d s) q) → Ev (fun k => impl_Row_placed.l0 k g d ((tkN tk g pl i : Nat) : Int) pl (pl.length : Int) (i : Int) (s : Int) r tk) (if b = true then ((tkN tk g pl pl.length : Nat) : Int) else 0, b) := by
    intro e
    induction e with
    | zero =>
      intro i hi hok
      refine Ev.succ ?_
      simp only [impl_Row_placed.l0.eq_2]
      rw [hb.mpr (fun q hq => hok q (by omega)), if_pos rfl, show i = pl.length by omega]
      exact Ev.neg (by omega) (Ev.now _)
    | succ e ih =>
      intro i hi hok
      have hrange : ∀ q, q < i → 0 ≤ pl.getD q 0 ∧ pl.getD q 0 + g.getD q 0 ≤ (s : Int) ∧ 1 ≤ g.getD q 0 := fun q hq => by
        have := plOk_range (by omega) (hok q hq)
        have := hg1 q (by omega)
        omega
      have hT := tkN_lt (s : Int) tk g pl (by omega) ht i hrange
      have hgi := hg1 i (by omega)
      have hno : ¬ PlOk (s : Int) tk g pl (mn d s) i → b = false := fun hn => by
        cases b with
        | false => rfl
        | true => exact absurd (hb.mp rfl i (by omega)) hn
      refine Ev.succ ?_
      simp only [impl_Row_placed.l0.eq_2]
      rw [rd_getD, rd_getD, w64 (n := (s : Int) - 1) (by omega) (by omega)]
      refine Ev.pos (by omega) (Ev.pos (by omega) (Ev.pos (by omega) (Ev.bindc (within_eq _ _ _) ?_)))
      by_cases hin : 0 ≤ pl.getD i 0 ∧ pl.getD i 0 ≤ (s : Int) - 1
      · refine Ev.pos (decide_eq_true hin) (Ev.pos (by omega) ?_)
        by_cases hR : FitR (s : Int) (g.getD i 0) (pl.getD i 0)
        · obtain ⟨c, hc⟩ := exists_bool (PlOk (s : Int) tk g pl (mn d s) i)
          have hR' := hR
          unfold FitR at hR'
          refine Ev.bind (group_ev s r tk (tkN tk g pl i) (g.getD i 0) d (pl.getD i 0) (by omega) hT hgi.1 hd (by omega) (by omega) c ?_) ?_
          · rw [hc, ← group_free s tk g pl (mn d s) (mn_bound d s hd).1 (by omega) ht i (by omega) hrange hR hgi.1]
          · cases c with
            | true =>
              refine Ev.pos rfl ?_
              rw [w64 (by omega) (by omega), (u32_nat _ _ hT (ivl_lt _ _ (by omega))).2]
              refine ih (i + 1) (by omega) (fun q hq => ?_)
              rcases Nat.lt_or_ge q i with h3 | h3
              · exact hok q h3
              · rw [show q = i by omega]; exact hc.mp rfl
            | false =>
              rw [hno (fun hn => absurd (hc.mpr hn) (by decide)), if_neg (by decide)]
              exact Ev.neg (by simp) (Ev.now _)
        · rw [hno (fun hn => hR ((plOk_iff _ _ _ _ _ i (by omega)).mp hn).1), if_neg (by decide)]
          refine Ev.bind (group_no s r tk (tkN tk g pl i) (g.getD i 0) d (pl.getD i 0) (by omega) hgi.1 (by omega) (fun hc => hR ⟨hc.1, by omega, by omega⟩)) (Ev.neg (by decide) (Ev.now _))
      · rw [hno (fun hn => hin (by have := plOk_range (by omega) hn; omega)), if_neg (by decide)]
        exact Ev.neg (by simpa using hin) (Ev.now _)
  exact key pl.length 0 (by omega) (fun q hq => by omega)
theorem placing_no (s : Int) (r : Bool) (tk g pl : List Int) (d : Int) (hlen : ¬ (pl.length : Int) = (g.length : Int)) : Ev (fun k => spec_l9Placing.f k s r tk g d pl) false ∧ Ev (fun k => impl_Row_placed.f k s r tk g d pl) (0, false) := by
  refine ⟨?_, ?_⟩
  · unfold spec_l9Placing.f; exact Ev.neg hlen (Ev.now _)
  · unfold impl_Row_placed.f; exact Ev.neg hlen (Ev.now _)
theorem land_rec (x y : Nat) : x &&& y = 2 * ((x / 2) &&& (y / 2)) + (x % 2) * (y % 2) := by
  have hd : (x % 2) * (y % 2) < 2 := by
    rcases Nat.mod_two_eq_zero_or_one x with h | h <;> rcases Nat.mod_two_eq_zero_or_one y with h2 | h2 <;> rw [h, h2] <;> decide
  refine Nat.eq_of_testBit_eq (fun j => ?_)
  cases j with
  | zero =>
    rw [Nat.testBit_and, Nat.testBit_zero, Nat.testBit_zero, Nat.testBit_zero]
    rcases Nat.mod_two_eq_zero_or_one x with h | h <;> rcases Nat.mod_two_eq_zero_or_one y with h2 | h2 <;> rw [h, h2] <;> simp <;> omega
  | succ j =>
    rw [Nat.testBit_and, Nat.testBit_succ, Nat.testBit_succ, Nat.testBit_succ]
    rw [show (2 * ((x / 2) &&& (y / 2)) + (x % 2) * (y % 2)) / 2 = (x / 2) &&& (y / 2) by omega, Nat.testBit_and]
/-- the place of the lowest bit -/
def low : Nat → Nat → Nat
  | 0, _ => 0
  | k + 1, n => if n % 2 = 1 then 0 else low k (n / 2) + 1
theorem neg_land (k : Nat) : ∀ n, 0 < n → n < 2 ^ k → (n &&& (2 ^ k - n)) = 2 ^ (low k n) ∧ low k n < k ∧ n.testBit (low k n) = true := by
  induction k with
  | zero => intro n h1 h2; simp at h2; omega
  | succ k ih =>
    intro n h1 h2
    have hp : 2 ^ (k + 1) = 2 * 2 ^ k := by rw [Nat.pow_succ]; omega
    rw [land_rec]
    unfold low
    by_cases ho : n % 2 = 1
    · rw [if_pos ho]
      have e1 : (2 ^ (k + 1) - n) / 2 = 2 ^ k - (n / 2 + 1) := by omega
      have e2 : (2 ^ (k + 1) - n) % 2 = 1 := by omega
      have hz : (n / 2) &&& (2 ^ k - (n / 2 + 1)) = 0 := by
        refine Nat.eq_of_testBit_eq (fun j => ?_)
        rw [Nat.testBit_and, Nat.testBit_two_pow_sub_succ (by omega), Nat.zero_testBit]
        cases (n / 2).testBit j <;> simp
      rw [e1, e2, hz, ho]
      exact ⟨rfl, by omega, by rw [Nat.testBit_zero]; simpa using ho⟩
    · rw [if_neg ho]
      have e0 : n % 2 = 0 := by omega
      have e1 : (2 ^ (k + 1) - n) / 2 = 2 ^ k - n / 2 := by omega
      obtain ⟨a, b, c⟩ := ih (n / 2) (by omega) (by omega)
      rw [e1, e0, a, Nat.zero_mul, Nat.add_zero]
      exact ⟨by rw [Nat.pow_succ]; omega, by omega, by rw [Nat.testBit_succ]; exact c⟩
/-- the places of all bits, in order -/
def lst : Nat → Nat → Nat → List Nat
  | 0, _, _ => []
  | k + 1, off, n => if n % 2 = 1 then off :: lst k (off + 1) (n / 2) else lst k (off + 1) (n / 2)
theorem lst_zero (k off : Nat) : lst k off 0 = [] := by
  induction k generalizing off with
  | zero => rfl
  | succ k ih => unfold lst; rw [if_neg (by decide)]; exact ih _
theorem lst_len (k off n : Nat) : (lst k off n).length ≤ k := by
  induction k generalizing off n with
  | zero => exact Nat.le_refl _
  | succ k ih =>
    have := ih (off + 1) (n / 2)
    unfold lst; split
    · rw [List.length_cons]; omega
    · omega
theorem lst_step (k : Nat) : ∀ n off, 0 < n → n < 2 ^ k → lst k off n = (off + low k n) :: lst k off (n &&& (n - 1)) ∧ n &&& (n - 1) < n := by
  induction k with
  | zero => intro n off h1 h2; simp at h2; omega
  | succ k ih =>
    intro n off h1 h2
    have hp : 2 ^ (k + 1) = 2 * 2 ^ k := by rw [Nat.pow_succ]; omega
    rw [land_rec n (n - 1)]
    by_cases ho : n % 2 = 1
    · have e1 : (n - 1) / 2 = n / 2 := by omega
      have e2 : (n - 1) % 2 = 0 := by omega
      rw [e1, e2, Nat.and_self]
      simp only [Nat.mul_zero, Nat.add_zero]
      have l1 : lst (k + 1) off n = off :: lst k (off + 1) (n / 2) := if_pos ho
      have l2 : lst (k + 1) off (2 * (n / 2)) = lst k (off + 1) (n / 2) := by
        rw [show lst (k + 1) off (2 * (n / 2)) = lst k (off + 1) (2 * (n / 2) / 2) from if_neg (by omega), show 2 * (n / 2) / 2 = n / 2 by omega]
      have l3 : low (k + 1) n = 0 := if_pos ho
      rw [l1, l2, l3]
      exact ⟨rfl, by omega⟩
    · have e0 : n % 2 = 0 := by omega
      have e1 : (n - 1) / 2 = n / 2 - 1 := by omega
      obtain ⟨a, b⟩ := ih (n / 2) (off + 1) (by omega) (by omega)
      rw [e1, e0]
      simp only [Nat.zero_mul, Nat.add_zero]
      have l1 : lst (k + 1) off n = lst k (off + 1) (n / 2) := if_neg ho
      have l2 : lst (k + 1) off (2 * (n / 2 &&& (n / 2 - 1))) = lst k (off + 1) (n / 2 &&& (n / 2 - 1)) := by
        rw [show lst (k + 1) off (2 * (n / 2 &&& (n / 2 - 1))) = lst k (off + 1) (2 * (n / 2 &&& (n / 2 - 1)) / 2) from if_neg (by omega), Nat.mul_div_cancel_left _ (by decide)]
      have l3 : low (k + 1) n = low k (n / 2) + 1 := if_neg ho
      rw [l1, l2, l3, a]
      exact ⟨by congr 1; omega, by omega⟩
theorem lst_mem (k : Nat) : ∀ n off x, x ∈ lst k off n ↔ off ≤ x ∧ x < off + k ∧ n.testBit (x - off) = true := by
  induction k with
  | zero => intro n off x; simp only [lst, List.not_mem_nil, false_iff]; omega
  | succ k ih =>
    intro n off x
    have hh : x ∈ lst (k + 1) off n ↔ (x = off ∧ n % 2 = 1) ∨ x ∈ lst k (off + 1) (n / 2) := by
      rw [show lst (k + 1) off n = if n % 2 = 1 then off :: lst k (off + 1) (n / 2) else lst k (off + 1) (n / 2) from rfl]
      split
      · rename_i h; simp [h]
      · rename_i h; simp [h]
    rw [hh, ih]
    constructor
    · rintro (⟨rfl, h⟩ | ⟨h1, h2, h3⟩)
      · exact ⟨Nat.le_refl _, by omega, by rw [Nat.sub_self, Nat.testBit_zero]; simpa using h⟩
      · refine ⟨by omega, by omega, ?_⟩
        rw [show x - off = (x - (off + 1)) + 1 by omega, Nat.testBit_succ]; exact h3
    · rintro ⟨h1, h2, h3⟩
      rcases Nat.eq_or_lt_of_le h1 with e | e
      · subst e; rw [Nat.sub_self, Nat.testBit_zero] at h3; exact .inl ⟨rfl, by simpa using h3⟩
      · refine .inr ⟨by omega, by omega, ?_⟩
        rw [show x - off = (x - (off + 1)) + 1 by omega, Nat.testBit_succ] at h3; exact h3
theorem lst_sorted (k : Nat) : ∀ n off, (lst k off n).Pairwise (· < ·) := by
  induction k with
  | zero => intro n off; exact List.Pairwise.nil
  | succ k ih =>
    intro n off
    unfold lst
    split
    · refine List.pairwise_cons.mpr ⟨fun x hx => ?_, ih _ _⟩
      have := (lst_mem k _ _ x).mp hx; omega
    · exact ih _ _
/-- the seats of a set -/
def listN (n : Nat) : List Int := (lst 32 0 n).map (fun x : Nat => (x : Int))
theorem listN_mem (n : Nat) (x : Int) : x ∈ listN n ↔ (0 ≤ x ∧ x < 32) ∧ n.testBit x.toNat = true := by
  unfold listN
  rw [List.mem_map]
  constructor
  · rintro ⟨y, hy, rfl⟩
    have := (lst_mem 32 n 0 y).mp hy
    exact ⟨by omega, by rw [Int.toNat_natCast]; simpa using this.2.2⟩
  · rintro ⟨h1, h2⟩
    exact ⟨x.toNat, (lst_mem 32 n 0 _).mpr ⟨by omega, by omega, by simpa using h2⟩, by omega⟩
theorem listN_sorted (n : Nat) : (listN n).Pairwise (· < ·) := by
  unfold listN
  rw [List.pairwise_map]
  exact (lst_sorted 32 n 0).imp (fun h => by omega)
theorem listN_len (n : Nat) : (listN n).length ≤ 32 := by unfold listN; rw [List.length_map]; exact lst_len _ _ _
theorem sorted_ext : ∀ (l m : List Int), l.Pairwise (· < ·) → m.Pairwise (· < ·) → (∀ x, x ∈ l ↔ x ∈ m) → l = m := by
  intro l
  induction l with
  | nil =>
    intro m _ _ h
    cases m with
    | nil => rfl
    | cons y m => exact absurd ((h y).mpr (by simp)) (by simp)
  | cons x l ih =>
    intro m hl hm h
    cases m with
    | nil => exact absurd ((h x).mp (by simp)) (by simp)
    | cons y m =>
      obtain ⟨h1, h2⟩ := List.pairwise_cons.mp hl
      obtain ⟨h3, h4⟩ := List.pairwise_cons.mp hm
      have e : x = y := by
        have ha := (h x).mp (by simp)
        have hb := (h y).mpr (by simp)
        rcases List.mem_cons.mp ha with e | ha
        · exact e
        · rcases List.mem_cons.mp hb with e | hb
          · exact e.symm
          · have := h1 y hb; have := h3 x ha; omega
      subst e
      refine congrArg (x :: ·) (ih m h2 h4 (fun z => ?_))
      constructor
      · intro hz
        rcases List.mem_cons.mp ((h z).mp (List.mem_cons_of_mem _ hz)) with e | hz'
        · have := h1 z hz; omega
        · exact hz'
      · intro hz
        rcases List.mem_cons.mp ((h z).mpr (List.mem_cons_of_mem _ hz)) with e | hz'
        · have := h3 z hz; omega
        · exact hz'
theorem listN_setN (l : List Int) (h : ∀ x ∈ l, 0 ≤ x ∧ x < 32) (hs : l.Pairwise (· < ·)) : listN (setN l) = l := by
  refine sorted_ext _ _ (listN_sorted _) hs (fun x => ?_)
  rw [listN_mem, setN_bit, decide_eq_true_eq]
  constructor
  · rintro ⟨h1, p, hp, e⟩
    have := h p hp
    rw [show x = p by omega]; exact hp
  · intro hx; exact ⟨h x hx, x, hx, rfl⟩
theorem tz_tab : ∀ i : Fin 32, ((2 ^ i.val * 125613361 % 4294967296) / 134217728 < 32) ∧ TZ.getD ((2 ^ i.val * 125613361 % 4294967296) / 134217728) 0 = ((i.val : Nat) : Int) := by decide +kernel
theorem neg_u32 (n : Nat) (h0 : 0 < n) (h : n < 4294967296) : Go.bits .and .u32 (n : Int) ((-(n : Int)) % 4294967296) = ((2 ^ (low 32 n) : Nat) : Int) := by
  have e : (-(n : Int)) % 4294967296 = ((4294967296 - n : Nat) : Int) := by omega
  rw [e, (u32_nat n (4294967296 - n) h (by omega)).1]
  have := (neg_land 32 n h0 h).1
  rw [show (2 : Nat) ^ 32 = 4294967296 from rfl] at this
  rw [this]
theorem tz_eq (n : Nat) (h0 : 0 < n) (h : n < 4294967296) : bits_TrailingZeros32.f (n : Int) = some ((low 32 n : Nat) : Int) := by
  unfold bits_TrailingZeros32.f
  have hl := (neg_land 32 n h0 h).2.1
  obtain ⟨t1, t2⟩ := tz_tab ⟨low 32 n, hl⟩
  simp only at t1 t2
  have e : tzi (n : Int) = (((2 ^ (low 32 n) * 125613361 % 4294967296) / 134217728 : Nat) : Int) := by
    unfold tzi
    rw [neg_u32 n h0 h]
    generalize 2 ^ (low 32 n) = t
    omega
  rw [if_neg (by omega), e, if_pos (by omega), if_pos (by omega)]
  unfold rd
  rw [Int.toNat_natCast, t2]
theorem list_ev (n : Nat) (h : n < 4294967296) : Ev (fun k => impl_set_list.f k (n : Int)) (listN n) := by
  unfold impl_set_list.f
  have key : ∀ m (n : Nat) (acc : List Int), n ≤ m → n < 4294967296 → acc.length + (lst 32 0 n).length ≤ 64 → Ev (fun k => impl_set_list.l0 k (n : Int) acc) (acc ++ (lst 32 0 n).map (fun x : Nat => (x : Int))) := by
    intro m
    induction m with
    | zero =>
      intro n acc hm _ _
      refine Ev.succ ?_
      simp only [impl_set_list.l0.eq_2]
      rw [show n = 0 by omega, lst_zero, List.map_nil, List.append_nil]
      exact Ev.pos rfl (Ev.now _)
    | succ m ih =>
      intro n acc hm hn hl
      refine Ev.succ ?_
      simp only [impl_set_list.l0.eq_2]
      by_cases h0 : n = 0
      · subst h0
        rw [lst_zero, List.map_nil, List.append_nil]
        exact Ev.pos rfl (Ev.now _)
      · obtain ⟨s1, s2⟩ := lst_step 32 n 0 (by omega) hn
        rw [Nat.zero_add] at s1
        refine Ev.neg (by omega) (Ev.bindc (tz_eq n (by omega) hn) (Ev.pos (by omega) ?_))
        rw [show ((n : Int) - 1) % 4294967296 = ((n - 1 : Nat) : Int) by omega, (u32_nat n (n - 1) hn (by omega)).1]
        rw [s1, List.length_cons] at hl
        have := ih (n &&& (n - 1)) (acc ++ [((low 32 n : Nat) : Int)]) (by omega) (by omega) (by rw [List.length_append, List.length_singleton]; omega)
        rw [s1, List.map_cons]
        rw [List.append_assoc, List.singleton_append] at this
        exact this
  have := key n n [] (Nat.le_refl _) h (by have := lst_len 32 0 n; simp; omega)
  simpa [listN] using this
/-- a seat put in its place -/
def putL : List Int → Int → List Int
  | [], p => [p]
  | x :: l, p => if x < p then x :: putL l p else p :: x :: l
theorem putL_mem (l : List Int) (p x : Int) : x ∈ putL l p ↔ x = p ∨ x ∈ l := by
  induction l with
  | nil => simp [putL]
  | cons y l ih =>
    unfold putL
    split
    · rw [List.mem_cons, ih, List.mem_cons]
      constructor
      · rintro (h | h | h)
        · exact .inr (.inl h)
        · exact .inl h
        · exact .inr (.inr h)
      · rintro (h | h | h)
        · exact .inr (.inl h)
        · exact .inl h
        · exact .inr (.inr h)
    · rw [List.mem_cons]
theorem putL_sorted (l : List Int) (p : Int) (hp : p ∉ l) (hs : l.Pairwise (· < ·)) : (putL l p).Pairwise (· < ·) := by
  induction l with
  | nil => simp [putL]
  | cons y l ih =>
    obtain ⟨h1, h2⟩ := List.pairwise_cons.mp hs
    have hy : p ≠ y := fun e => hp (by rw [e]; simp)
    have hl : p ∉ l := fun e => hp (List.mem_cons_of_mem _ e)
    unfold putL
    split
    · rename_i hlt
      refine List.pairwise_cons.mpr ⟨fun x hx => ?_, ih hl h2⟩
      rcases (putL_mem l p x).mp hx with e | e
      · rw [e]; exact hlt
      · exact h1 x e
    · rename_i hlt
      refine List.pairwise_cons.mpr ⟨fun x hx => ?_, hs⟩
      rcases List.mem_cons.mp hx with e | e
      · rw [e]; omega
      · have := h1 x e; omega
theorem putL_set (l : List Int) (p : Int) : setN (putL l p) = setN l ||| 2 ^ p.toNat := by
  refine Nat.eq_of_testBit_eq (fun j => ?_)
  rw [Nat.testBit_or, setN_bit, setN_bit, Nat.testBit_two_pow]
  rw [Bool.eq_iff_iff]
  simp only [Bool.or_eq_true, decide_eq_true_eq]
  constructor
  · rintro ⟨x, hx, e⟩
    rcases (putL_mem l p x).mp hx with h | h
    · subst h; exact .inr e
    · exact .inl ⟨x, h, e⟩
  · rintro (⟨x, hx, e⟩ | e)
    · exact ⟨x, (putL_mem l p x).mpr (.inr hx), e⟩
    · exact ⟨p, (putL_mem l p p).mpr (.inl rfl), e⟩
theorem l1Put_ev (l : List Int) (p : Int) (hp : p ∉ l) (hl : l.length ≤ 35184372) : Ev (fun k => spec_l1Put.f k l p) (putL l p) := by
  unfold spec_l1Put.f
  have key : ∀ d i, i + d = l.length → Ev (fun k => spec_l1Put.l0 k l p (i : Int)) (l.take i ++ putL (l.drop i) p) := by
    intro d
    induction d with
    | zero =>
      intro i hi
      refine Ev.succ ?_
      simp only [spec_l1Put.l0.eq_2, Option.bind_some, List.nil_append, Int.toNat_natCast]
      have ht : (l.take i).length ≤ l.length := by rw [List.length_take]; omega
      have hd : (l.drop i).length ≤ l.length := by rw [List.length_drop]; omega
      rw [List.drop_of_length_le (show l.length ≤ i by omega)] at hd ⊢
      refine Ev.neg (by omega) (Ev.pos (by omega) (Ev.pos (by omega) (Ev.pos (by rw [List.length_nil]; omega) (Ev.pos (by rw [List.length_singleton]; omega) (Ev.pos (by rw [List.length_append, List.length_singleton, List.length_nil]; omega) ?_)))))
      rw [List.append_nil]
      exact Ev.now _
    | succ d ih =>
      intro i hi
      refine Ev.succ ?_
      simp only [spec_l1Put.l0.eq_2, Option.bind_some, List.nil_append, Int.toNat_natCast]
      have ht : (l.take i).length ≤ l.length := by rw [List.length_take]; omega
      have hd : (l.drop i).length ≤ l.length := by rw [List.length_drop]; omega
      have hne : l[i] ≠ p := fun e => hp (by rw [← e]; exact List.getElem_mem (by omega))
      rw [rd_nat l i (by omega), w64 (n := (i : Int) + 1) (by omega) (by omega)]
      have h := ih (i + 1) (by omega)
      rw [List.take_succ_eq_append_getElem (by omega)] at h
      rw [show l.drop i = l[i] :: l.drop (i + 1) from List.drop_eq_getElem_cons (by omega)]
      unfold putL
      refine Ev.pos (by omega) (Ev.pos (by omega) ?_)
      by_cases c : l[i] < p
      · rw [if_pos c]
        refine Ev.pos c ?_
        rw [List.append_assoc, List.singleton_append] at h
        exact h
      · rw [if_neg c]
        refine Ev.neg c (Ev.neg hne (Ev.pos (by omega) (Ev.pos (by rw [List.length_nil]; omega) (Ev.pos (by rw [List.length_singleton]; omega) (Ev.pos (by rw [List.length_append, List.length_singleton, List.length_cons, List.length_drop]; omega) ?_)))))
        rw [List.append_assoc, List.singleton_append]
        exact Ev.now _
  have := key l.length 0 (by omega)
  simpa using this
theorem l1Own_eq (l : List Int) (h : l.length < 17592186044416) : spec_l1Own.f l = some l := by
  unfold spec_l1Own.f
  rw [Option.bind_some, if_pos (by simpa using h), List.nil_append]
theorem l2With_ev (s : Int) (r : Bool) (l : List Int) (p : Int) (hp : p ∉ l) (hl : l.length ≤ 35184372) : Ev (fun k => spec_l2With.f k s r l p) (s, r, putL l p) := by
  unfold spec_l2With.f
  exact Ev.bindc (l1Own_eq l (by omega)) (Ev.bind (f := fun k t => (spec_l2Made.f s r l t).bind fun bt => some (bt.1, bt.2.1, bt.2.2)) (l1Put_ev l p hp hl) (Ev.bindc rfl (Ev.now _)))
theorem mark_loop (l : List Int) (a : Int) (h0 : 0 ≤ a) (h1 : a ≤ 1000000000) (hl : l.length ≤ 35184372088832) : ∀ (d i : Nat) (acc : List Int), i + d = l.length → acc.length = l.length → (∀ j, j < i → acc[j]? = some (a + (j : Int))) → Ev (fun k => laws_markIntS.l0 k acc (a + (i : Int)) (i : Int)) (a + (l.length : Int), (List.range l.length).map (fun j : Nat => a + (j : Int))) := by
  intro d
  induction d with
  | zero =>
    intro i acc hi ha hj
    refine Ev.succ ?_
    simp only [laws_markIntS.l0.eq_2]
    have : acc = (List.range l.length).map (fun j : Nat => a + (j : Int)) := List.ext_getElem? (fun j => by
      by_cases h : j < i
      · rw [hj j h, List.getElem?_map, List.getElem?_range (by omega)]; rfl
      · rw [List.getElem?_eq_none (by omega), List.getElem?_eq_none (by rw [List.length_map, List.length_range]; omega)])
    rw [show (i : Int) = (l.length : Int) by omega, ← this]
    exact Ev.neg (by omega) (Ev.now _)
  | succ d ih =>
    intro i acc hi ha hj
    refine Ev.succ ?_
    simp only [laws_markIntS.l0.eq_2]
    refine Ev.pos (by omega) (Ev.pos (by omega) ?_)
    rw [w64 (n := (i : Int) + 1) (by omega) (by omega), w64 (by omega) (by omega)]
    rw [show a + (i : Int) + 1 = a + ((i + 1 : Nat) : Int) by omega]
    refine ih (i + 1) _ (by omega) (by simpa using ha) ?_
    intro j h
    rw [Int.toNat_natCast, List.getElem?_set]
    by_cases e : i = j
    · subst e
      rw [if_pos rfl, if_pos (by omega)]
    · rw [if_neg e]; exact hj j (by omega)
theorem mark_ev (l : List Int) (a : Int) (h0 : 0 ≤ a) (h1 : a ≤ 1000000000) (hl : l.length ≤ 35184372088832) : Ev (fun k => laws_markIntS.f k l a) (a + (l.length : Int), (List.range l.length).map (fun j : Nat => a + (j : Int))) := by
  have := mark_loop l a h0 h1 hl l.length 0 l (by omega) rfl (fun j h => by omega)
  simp only [Int.natCast_zero, Int.add_zero] at this
  exact this
theorem held_loop (a : Int) (h0 : 0 ≤ a) (h1 : a ≤ 1000000000) (n : Nat) (hl : n ≤ 35184372088832) : ∀ (d i : Nat), i + d = n → Ev (fun k => laws_heldIntS.l0 k ((List.range n).map (fun j : Nat => a + (j : Int))) (a + (i : Int)) (i : Int)) (a + (n : Int)) := by
  intro d
  have hlen : ((List.range n).map (fun j : Nat => a + (j : Int))).length = n := by rw [List.length_map, List.length_range]
  induction d with
  | zero =>
    intro i hi
    refine Ev.succ ?_
    simp only [laws_heldIntS.l0.eq_2]
    rw [show (i : Int) = (n : Int) by omega]
    exact Ev.neg (by omega) (Ev.now _)
  | succ d ih =>
    intro i hi
    refine Ev.succ ?_
    simp only [laws_heldIntS.l0.eq_2]
    rw [rd_nat _ i (by omega), List.getElem_map, List.getElem_range]
    refine Ev.pos (by omega) (Ev.pos (by omega) (Ev.pos rfl ?_))
    rw [w64 (n := (i : Int) + 1) (by omega) (by omega), w64 (by omega) (by omega)]
    rw [show a + (i : Int) + 1 = a + ((i + 1 : Nat) : Int) by omega]
    exact ih (i + 1) (by omega)
theorem held_ev (a : Int) (h0 : 0 ≤ a) (h1 : a ≤ 1000000000) (n : Nat) (hl : n ≤ 35184372088832) : Ev (fun k => laws_heldIntS.f k ((List.range n).map (fun j : Nat => a + (j : Int))) a) (a + (n : Int)) := by
  have := held_loop a h0 h1 n hl n 0 (by omega)
  simp only [Int.natCast_zero, Int.add_zero] at this
  exact this
/-- a list of marks -/
def mks (n : Nat) : List Int := (List.range n).map (fun j : Nat => 1 + (j : Int))
theorem markRow_ev (s : Int) (r : Bool) (l : List Int) (hl : l.length ≤ 35184372088832) : Ev (fun k => laws_markRow.f k s r l 1) (1 + (l.length : Int), mks l.length) := by
  unfold laws_markRow.f
  exact Ev.bind (f := fun _ t => some (t.1, t.2)) (mark_ev l 1 (by omega) (by omega) hl) (Ev.now _)
theorem heldRow_ev (s : Int) (r : Bool) (n : Nat) (hl : n ≤ 35184372088832) : Ev (fun k => laws_heldRow.f k s r (mks n) 1) (1 + (n : Int)) := by
  unfold laws_heldRow.f
  exact Ev.bind (f := fun _ t => if t < 0 then some (-1) else some t) (held_ev 1 (by omega) (by omega) n hl) (Ev.neg (by omega) (Ev.now _))
/-- a list of seats in order that stands for a set -/
def Seats (s : Nat) (L : List Int) (T : Nat) : Prop := L.Pairwise (· < ·) ∧ (∀ x ∈ L, 0 ≤ x ∧ x < (s : Int)) ∧ setN L = T
theorem seats_len {s : Nat} {L : List Int} {T : Nat} (h : Seats s L T) : L.length ≤ s := ph_nodup_len s L (pairwise_nodup h.1) h.2.1
theorem seats_put {s : Nat} {L : List Int} {T : Nat} (h : Seats s L T) (p : Int) (hp : 0 ≤ p ∧ p < (s : Int)) (hT : T.testBit p.toNat = false) : p ∉ L ∧ Seats s (putL L p) (T ||| 2 ^ p.toNat) := by
  obtain ⟨h1, h2, h3⟩ := h
  have hn : p ∉ L := fun hc => by
    have := setN_bit L p.toNat
    rw [h3, hT, decide_eq_true ⟨p, hc, rfl⟩] at this; cases this
  refine ⟨hn, putL_sorted L p hn h1, fun x hx => ?_, by rw [putL_set, h3]⟩
  rcases (putL_mem L p x).mp hx with e | e
  · rw [e]; exact hp
  · exact h2 x e
theorem ivl_zero (p : Nat) : ivl 0 p = 0 := by unfold ivl; simp
theorem ivl_succ (n p : Nat) : ivl n p ||| 2 ^ (p + n) = ivl (n + 1) p := by
  refine Nat.eq_of_testBit_eq (fun j => ?_)
  rw [Nat.testBit_or, ivl_bit, ivl_bit, Nat.testBit_two_pow]
  rw [Bool.eq_iff_iff]
  simp only [Bool.or_eq_true, Bool.and_eq_true, decide_eq_true_eq]
  omega
/-- what the groups so far leave free is free of them -/
theorem free_bit (s : Nat) (tk g pl : List Int) (D : Int) (hD : 0 ≤ D) (ht : ∀ x ∈ tk, 0 ≤ x ∧ x < (s : Int)) (i : Nat) (hpl : i < pl.length) (h : ∀ q, q < i → 0 ≤ pl.getD q 0 ∧ 1 ≤ g.getD q 0) (hok : PlOk (s : Int) tk g pl D i) (j : Nat)
    (h1 : pl.getD i 0 ≤ (j : Int)) (h2 : (j : Int) < pl.getD i 0 + g.getD i 0) : (tkN tk g pl i).testBit j = false := by
  rw [Bool.eq_false_iff]
  intro hb
  obtain ⟨_, h3, h4⟩ := (plOk_iff _ _ _ _ _ _ hpl).mp hok
  rcases (tkN_bit tk g pl i j).mp hb with ⟨x, hx, e⟩ | ⟨q, hq, h6, h7⟩
  · obtain ⟨q, hq, rfl⟩ := List.mem_iff_getElem.mp hx
    have := h3 q hq
    unfold FitT at this
    rw [getD_lt tk q hq] at this
    have := ht _ hx
    omega
  · have := h4 q hq
    unfold FitG at this
    have := h q hq
    omega
theorem place_loops (s : Nat) (r : Bool) (tk g pl : List Int) (d : Int) (h : GrP (s : Int) r tk g d) (hlen : pl.length = g.length) (hok : ∀ i, i < pl.length → PlOk (s : Int) tk g pl (mn d s) i) :
    ∀ e i, i + e = pl.length → ∀ L, Seats s L (tkN tk g pl i) → Ev (fun k => spec_PlaceRow.l0 k g pl (i : Int) (s : Int) r L) ((s : Int), r, listN (tkN tk g pl pl.length), true) := by
  obtain ⟨hrow, hr, hd, hg5, hg⟩ := h
  have hs := hrow.1
  have ht := hrow.2.2.1
  have hg1 : ∀ i, i < g.length → 1 ≤ g.getD i 0 := fun i hi => by rw [getD_lt g i hi]; exact hg _ (List.getElem_mem hi)
  intro e
  induction e with
  | zero =>
    intro i hi L hL
    obtain rfl : i = pl.length := by omega
    refine Ev.succ ?_
    simp only [spec_PlaceRow.l0.eq_2]
    rw [← hL.2.2, listN_setN L (fun x hx => by have := hL.2.1 x hx; omega) hL.1]
    exact Ev.neg (by omega) (Ev.now _)
  | succ e ih =>
    intro i hi L hL
    have hin := plOk_range (by omega) (hok i (by omega))
    have hgi := hg1 i (by omega)
    refine Ev.succ ?_
    simp only [spec_PlaceRow.l0.eq_2]
    refine Ev.pos (by omega) ?_
    have inner : ∀ (m q : Nat), (q : Int) + m = g.getD i 0 → ∀ L, Seats s L (tkN tk g pl i ||| ivl q (pl.getD i 0).toNat) → Ev (fun k => spec_PlaceRow.l1 k g pl (i : Int) (q : Int) (s : Int) r L) ((s : Int), r, listN (tkN tk g pl pl.length), true) := by
      intro m
      induction m with
      | zero =>
        intro q hq L hL
        refine Ev.succ ?_
        simp only [spec_PlaceRow.l1.eq_2]
        rw [rd_getD, rd_getD]
        refine Ev.pos (by omega) (Ev.pos (by omega) (Ev.neg (by omega) ?_))
        rw [w64 (by omega) (by omega)]
        refine ih (i + 1) (by omega) L ?_
        have e2 : (g.getD i 0).toNat = q := by omega
        simp only [tkN]; rw [e2]; exact hL
      | succ m ih2 =>
        intro q hq L hL
        refine Ev.succ ?_
        simp only [spec_PlaceRow.l1.eq_2]
        rw [rd_getD, rd_getD]
        refine Ev.pos (by omega) (Ev.pos (by omega) (Ev.pos (by omega) (Ev.pos (by omega) ?_)))
        rw [w64 (n := pl.getD i 0 + (q : Int)) (by omega) (by omega)]
        have hb : (tkN tk g pl i ||| ivl q (pl.getD i 0).toNat).testBit (pl.getD i 0 + (q : Int)).toNat = false := by
          rw [Nat.testBit_or, free_bit s tk g pl (mn d s) (mn_bound d s hd).1 ht i (by omega) (fun z hz => ⟨(plOk_range (by omega) (hok z (by omega))).1, hg1 z (by omega)⟩) (hok i (by omega)) _ (by omega) (by omega), ivl_bit, Bool.false_or, Bool.and_eq_false_iff]
          right; rw [decide_eq_false_iff_not]; omega
        obtain ⟨hn, hL2⟩ := seats_put hL (pl.getD i 0 + (q : Int)) (by omega) hb
        have e3 : (pl.getD i 0 + (q : Int)).toNat = (pl.getD i 0).toNat + q := by omega
        rw [e3, Nat.or_assoc, ivl_succ] at hL2
        refine Ev.bind (l2With_ev (s : Int) r L _ hn (by have := seats_len hL; omega)) ?_
        rw [w64 (by omega) (by omega)]
        exact ih2 (q + 1) (by omega) _ hL2
    exact inner (g.getD i 0).toNat 0 (by omega) L (by rw [ivl_zero, Nat.or_zero]; exact hL)
theorem tkN_range (s : Nat) (r : Bool) (tk g pl : List Int) (d : Int) (h : GrP (s : Int) r tk g d) (hlen : pl.length = g.length) (hok : ∀ i, i < pl.length → PlOk (s : Int) tk g pl (mn d s) i) : tkN tk g pl pl.length < 4294967296 := by
  obtain ⟨hrow, hr, hd, hg5, hg⟩ := h
  refine tkN_lt (s : Int) tk g pl hrow.1.2 hrow.2.2.1 pl.length (fun q hq => ?_)
  have := plOk_range hq (hok q hq)
  have : 1 ≤ g.getD q 0 := by rw [getD_lt g q (by omega)]; exact hg _ (List.getElem_mem (by omega))
  omega

theorem FnExactPlaceRow : laws_FnExactPlaceRow.Pure := by
  intro s r tk g d pl _ _ hl _ _ hl1 hgw _ _ hl3 _
  have hL : tk.length ≤ 35184372088832 := by omega
  have hL1 : g.length ≤ 35184372088832 := by omega
  have hL3 : pl.length ≤ 35184372088832 := by omega
  refine Ev.rounds (g := fun k => laws_FnExactPlaceRow.f k s r tk g d pl) ?_
  unfold laws_FnExactPlaceRow.f
  by_cases hbig : (g.length : Int) > 1048576
  · exact Ev.pos hbig (Ev.now _)
  refine Ev.neg hbig ?_
  by_cases hbig3 : (pl.length : Int) > 1048576
  · exact Ev.pos hbig3 (Ev.now _)
  refine Ev.neg hbig3 (Ev.bindc (szRow_eq s r tk _ hL (by omega) (by omega)) ?_)
  by_cases hb : (1048576 : Int) - (tk.length : Int) < 0
  · rw [if_pos hb]; exact Ev.pos (by omega) (Ev.now _)
  · rw [if_neg hb]
    refine Ev.neg hb ?_
    have no1 : ∀ z1 z2 z3, Ev (fun k => spec_PlaceRow.j0 k g pl true z1 z2 z3) (0, false, [], false) := fun z1 z2 z3 => by
      refine Ev.succ ?_
      simp only [spec_PlaceRow.j0.eq_2]
      exact Ev.pos trivial (Ev.now _)
    have key : ∃ q : Int × Bool × List Int × Bool, Ev (fun k => spec_PlaceRow.f k s r tk g d pl) q ∧ Ev (fun k => impl_PlaceRow.f k s r tk g d pl) q ∧ q.2.2.1.length ≤ 32 := by
      obtain ⟨b, hbb⟩ := exists_bool (GrP s r tk g d)
      cases b with
      | false =>
        refine ⟨(0, false, [], false), ?_, ?_, by simp⟩
        · unfold spec_PlaceRow.f; exact Ev.bind (l9Groups_ev s r tk g d hL hL1 false hbb) (Ev.neg (by decide) (no1 _ _ _))
        · unfold impl_PlaceRow.f; exact Ev.bind (isGrouped_ev s r tk g d hL hL1 false hbb) (Ev.neg (by decide) (Ev.now _))
      | true =>
        have hG := hbb.mp rfl
        obtain ⟨m, rfl⟩ : ∃ m : Nat, s = (m : Int) := ⟨s.toNat, by have := hG.1.1; omega⟩
        have htk32 : ∀ x ∈ tk, 0 ≤ x ∧ x < 32 := fun x hx => by have := hG.1.2.2.1 x hx; have := hG.1.1; omega
        by_cases hlen : (pl.length : Int) = (g.length : Int)
        · obtain ⟨c, hc⟩ := exists_bool (∀ i, i < pl.length → PlOk (m : Int) tk g pl (mn d m) i)
          have hgw' : ∀ x ∈ g, x ≤ 9223372036854775807 := fun x hx => by have := lit_i64 (hgw x hx); omega
          have h1 := placing_spec m r tk g pl d hG hL hgw' (by omega) c hc
          have h2 := placing_impl m r tk g pl d hG hgw' (by omega) c hc
          cases c with
          | true =>
            have hok := hc.mp rfl
            refine ⟨((m : Int), r, listN (tkN tk g pl pl.length), true), ?_, ?_, listN_len _⟩
            · unfold spec_PlaceRow.f
              refine Ev.bind (l9Groups_ev _ r tk g d hL hL1 true hbb) (Ev.pos rfl (Ev.bind h1 (Ev.succ ?_)))
              simp only [spec_PlaceRow.j0.eq_2]
              refine Ev.neg (by decide) (Ev.bindc (l1Own_eq tk (by omega)) ?_)
              refine Ev.bindc (a := ((m : Int), r, tk)) (by unfold spec_l2Made.f; rfl) ?_
              exact place_loops m r tk g pl d hG (by omega) hok pl.length 0 (by omega) tk ⟨hG.1.2.2.2, hG.1.2.2.1, rfl⟩
            · unfold impl_PlaceRow.f
              refine Ev.bind (isGrouped_ev _ r tk g d hL hL1 true hbb) (Ev.pos rfl (Ev.bind h2 (Ev.pos rfl ?_)))
              refine Ev.bindc (a := ((m : Int), r)) (by unfold impl_Row_bench.f; rfl) ?_
              rw [if_pos rfl]
              refine Ev.bind (a := ((m : Int), r, listN (tkN tk g pl pl.length))) ?_ (Ev.now _)
              unfold impl_bench_row.f
              exact Ev.bind (f := fun _ t => some ((m : Int), r, t)) (list_ev _ (tkN_range m r tk g pl d hG (by omega) hok)) (Ev.now _)
          | false =>
            refine ⟨(0, false, [], false), ?_, ?_, by simp⟩
            · unfold spec_PlaceRow.f
              exact Ev.bind (l9Groups_ev _ r tk g d hL hL1 true hbb) (Ev.pos rfl (Ev.bind h1 (no1 _ _ _)))
            · unfold impl_PlaceRow.f
              exact Ev.bind (isGrouped_ev _ r tk g d hL hL1 true hbb) (Ev.pos rfl (Ev.bind h2 (Ev.neg (by simp) (Ev.now _))))
        · obtain ⟨h1, h2⟩ := placing_no (m : Int) r tk g pl d hlen
          refine ⟨(0, false, [], false), ?_, ?_, by simp⟩
          · unfold spec_PlaceRow.f
            exact Ev.bind (l9Groups_ev _ r tk g d hL hL1 true hbb) (Ev.pos rfl (Ev.bind h1 (no1 _ _ _)))
          · unfold impl_PlaceRow.f
            exact Ev.bind (isGrouped_ev _ r tk g d hL hL1 true hbb) (Ev.pos rfl (Ev.bind h2 (Ev.neg (by simp) (Ev.now _))))
    obtain ⟨⟨q1, q2, q3, q4⟩, h, h', hq⟩ := key
    simp only at hq
    have ht := toRow_ev s r tk hL
    have hi := toIntS_ev g hL1
    have hj := toIntS_ev pl hL3
    have hq' : q3.length ≤ 35184372088832 := by omega
    have he := eqRow_ev q1 q2 q3 hq'
    have hm1 := mark_ev g (1 + (tk.length : Int)) (by omega) (by omega) hL1
    have hm2 := mark_ev pl (1 + (tk.length : Int) + (g.length : Int)) (by omega) (by omega) hL3
    refine Ev.bind ht (Ev.bind hi (Ev.bind hj (Ev.bind h (Ev.bind ht (Ev.bind hi (Ev.bind hj (Ev.bind h' (Ev.bind he (Ev.pos rfl (Ev.succ ?_))))))))))
    simp only [laws_FnExactPlaceRow.j0.eq_2]
    refine Ev.neg (by simp) (Ev.bind ht (Ev.bind (eqRow_ev s r tk hL) (Ev.pos rfl (Ev.bind hi (Ev.bind (eqIntS_ev g hL1) (Ev.pos (by trivial) (Ev.bind hj (Ev.bind (eqIntS_ev pl hL3) (Ev.pos (by trivial) (Ev.bind (markRow_ev s r tk hL) (Ev.bind hm1 (Ev.bind hm2 (Ev.neg (by simp only; omega) (Ev.bind he (Ev.pos rfl (Ev.succ ?_))))))))))))))))
    simp only [laws_FnExactPlaceRow.j1.eq_2]
    refine Ev.neg (by simp) (Ev.bind (markRow_ev q1 q2 q3 hq') (Ev.bind (heldRow_ev q1 q2 q3.length hq') (Ev.neg (by omega) (Ev.pos rfl (Ev.bind ht (Ev.bind hi (Ev.bind hj (Ev.bind h' (Ev.bind he (Ev.pos rfl (Ev.succ ?_)))))))))))
    simp only [laws_FnExactPlaceRow.j2.eq_2]
    exact Ev.neg (by simp) (Ev.bind (heldRow_ev q1 q2 q3.length hq') (Ev.neg (by omega) (Ev.pos rfl (Ev.now _))))

end Go.Proofs.YtohdmhhecjbbbaaDoor.Pure
