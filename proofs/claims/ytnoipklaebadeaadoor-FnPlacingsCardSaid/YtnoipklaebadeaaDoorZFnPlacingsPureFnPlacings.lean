/- The law FnPlacings holds: what is drawn for placings is told by program and reference alike, the first placing is the least one, and groups sit on free seats. -/
import Derived.Test.YtnoipklaebadeaaDoorZFnPlacingsPFnPlacingsx20
namespace Go.Proofs.YtnoipklaebadeaaDoor.Pure
open Go.RowKit Go.Proofs.YtnoipklaebadeaaDoor.PFnPlacings Go.Proofs.YtnoipklaebadeaaDoorW.PrintWords Go.Proofs.YtnoipklaebadeaaDoorW.PrintLast Go.Proofs.YtnoipklaebadeaaDoorW.PrintMore
set_option linter.unusedVariables false

theorem Ev.pos {α : Type} {c : Prop} [Decidable c] {f g : Nat → Option α} {r : α} (h : c) (k : Ev f r) : Ev (fun m => if c then f m else g m) r :=
  Ev.congr (fun _ => if_pos h) k
theorem Ev.neg {α : Type} {c : Prop} [Decidable c] {f g : Nat → Option α} {r : α} (h : ¬ c) (k : Ev g r) : Ev (fun m => if c then f m else g m) r :=
  Ev.congr (fun _ => if_neg h) k
theorem Ev.bindc {α β : Type} {x : Option α} {f : Nat → α → Option β} {a : α} {r : β} (h : x = some a) (k : Ev (fun n => f n a) r) : Ev (fun n => x.bind (f n)) r := by
  subst h; exact k
theorem Ev.succ {α : Type} {g : Nat → Option α} {r : α} (k : Ev (fun n => g (n + 1)) r) : Ev g r := Ev.step (fun _ => rfl) k
theorem w64 {n : Int} (h0 : -9223372036854775808 ≤ n) (h1 : n < 9223372036854775808) : wrap64 n = n := by unfold wrap64; omega
theorem rd_nat (l : List Int) (i : Nat) (h : i < l.length) : rd l (i : Int) = l[i] := by
  unfold rd; rw [Int.toNat_natCast, List.getD_eq_getElem?_getD, List.getElem?_eq_getElem h]; rfl
/-- a loop that ends early, with one answer, where P fails -/
theorem ev_all {α : Type} (L : Nat → Nat → Option α) (n : Nat) (P : Nat → Prop) (rEnd : α)
    (hend : Ev (fun k => L k n) rEnd) (hgood : ∀ i, i < n → P i → ∀ r, Ev (fun k => L k (i + 1)) r → Ev (fun k => L k i) r)
    (i : Nat) (hi : i ≤ n) (h : ∀ j, i ≤ j → j < n → P j) : Ev (fun k => L k i) rEnd := by
  obtain ⟨d, hd⟩ : ∃ d, i + d = n := ⟨n - i, by omega⟩
  induction d generalizing i with
  | zero => rw [show i = n by omega]; exact hend
  | succ d ih => exact hgood i (by omega) (h i (by omega) (by omega)) _ (ih (i + 1) (by omega) (fun j h1 h2 => h j (by omega) h2) (by omega))
theorem ev_bad {α : Type} (L : Nat → Nat → Option α) (n : Nat) (P : Nat → Prop) (rBad : α)
    (hgood : ∀ i, i < n → P i → ∀ r, Ev (fun k => L k (i + 1)) r → Ev (fun k => L k i) r) (hbad : ∀ i, i < n → ¬ P i → Ev (fun k => L k i) rBad)
    (i : Nat) (h : ∃ j, i ≤ j ∧ j < n ∧ ¬ P j) : Ev (fun k => L k i) rBad := by
  obtain ⟨j, h1, h2, h3⟩ := h
  obtain ⟨d, hd⟩ : ∃ d, i + d = j := ⟨j - i, by omega⟩
  induction d generalizing i with
  | zero => rw [show i = j by omega]; exact hbad j h2 h3
  | succ d ih =>
    by_cases hp : P i
    · exact hgood i (by omega) hp _ (ih (i + 1) (by omega) (by omega))
    · exact hbad i (by omega) hp
theorem ev_dec {α : Type} (L : Nat → Nat → Option α) (n : Nat) (P : Nat → Prop) [DecidablePred P] (f : Bool → α)
    (hend : Ev (fun k => L k n) (f true)) (hgood : ∀ i, i < n → P i → ∀ r, Ev (fun k => L k (i + 1)) r → Ev (fun k => L k i) r)
    (hbad : ∀ i, i < n → ¬ P i → Ev (fun k => L k i) (f false)) (b : Bool) (hb : b = true ↔ ∀ j, j < n → P j) : Ev (fun k => L k 0) (f b) := by
  cases b with
  | true => exact ev_all L n P (f true) hend hgood 0 (by omega) (fun j _ h => hb.mp rfl j h)
  | false =>
    refine ev_bad L n P (f false) hgood hbad 0 ?_
    by_cases h : ∀ j, j < n → P j
    · exact absurd (hb.mpr h) (by decide)
    · have : ∃ j, ¬ (j < n → P j) := Classical.not_forall.mp h
      obtain ⟨j, hj⟩ := this
      exact ⟨j, by omega, Decidable.byContradiction (fun c => hj (fun h2 => absurd h2 c)), fun c => hj (fun _ => c)⟩
theorem within_eq (a b c : Int) : impl_within.f a b c = some (decide (b ≤ a ∧ a ≤ c)) := by
  unfold impl_within.f
  by_cases h : a ≥ b
  · rw [if_pos h]; simp [show b ≤ a from h]
  · rw [if_neg h]; simp [show ¬ b ≤ a from h]
theorem l1In_eq (a b c : Int) : spec_l1In.f a b c = some (decide (b ≤ a ∧ a ≤ c)) := by
  unfold spec_l1In.f
  by_cases h : a ≥ b
  · rw [if_pos h]; simp [show b ≤ a from h]
  · rw [if_neg h]; simp [show ¬ b ≤ a from h]
theorem has_loop (l : List Int) (x : Int) (hl : l.length ≤ 35184372088832) : ∀ (d i : Nat), i + d = l.length → Ev (fun k => spec_l1Has.l0 k l x (i : Int)) (decide (x ∈ l.drop i)) := by
  intro d
  induction d with
  | zero =>
    intro i hi
    refine Ev.succ ?_
    simp only [spec_l1Has.l0.eq_2]
    rw [List.drop_of_length_le (by omega)]
    exact Ev.neg (by omega) (Ev.now _)
  | succ d ih =>
    intro i hi
    refine Ev.succ ?_
    simp only [spec_l1Has.l0.eq_2]
    refine Ev.pos (by omega) (Ev.pos (by omega) ?_)
    have hd : l.drop i = l[i] :: l.drop (i + 1) := (List.drop_eq_getElem_cons (by omega))
    rw [rd_nat l i (by omega)]
    by_cases e : l[i] = x
    · rw [show decide (x ∈ l.drop i) = true by rw [hd]; simp [e]]
      exact Ev.pos e (Ev.now _)
    · refine Ev.neg e ?_
      rw [w64 (by omega) (by omega)]
      have := ih (i + 1) (by omega)
      rw [show decide (x ∈ l.drop i) = decide (x ∈ l.drop (i + 1)) by rw [hd]; simp only [List.mem_cons, Ne.symm e, false_or]]
      exact this
theorem has_ev (l : List Int) (x : Int) (hl : l.length ≤ 35184372088832) : Ev (fun k => spec_l1Has.f k l x) (decide (x ∈ l)) := has_loop l x hl l.length 0 (by omega)
theorem allWithin_loop (l : List Int) (lo hi : Int) (hl : l.length ≤ 35184372088832) : ∀ (d i : Nat), i + d = l.length → Ev (fun k => impl_allWithin.l0 k lo hi l (l.length : Int) (i : Int)) (decide (∀ x ∈ l.drop i, lo ≤ x ∧ x ≤ hi)) := by
  intro d
  induction d with
  | zero =>
    intro i hi
    refine Ev.succ ?_
    simp only [impl_allWithin.l0.eq_2]
    rw [List.drop_of_length_le (by omega)]
    exact Ev.neg (by omega) (by simp; exact Ev.now _)
  | succ d ih =>
    intro i hi'
    refine Ev.succ ?_
    simp only [impl_allWithin.l0.eq_2]
    refine Ev.pos (by omega) (Ev.pos (by omega) (Ev.pos (by omega) (Ev.bindc (within_eq _ _ _) ?_)))
    have hd : l.drop i = l[i] :: l.drop (i + 1) := (List.drop_eq_getElem_cons (by omega))
    rw [rd_nat l i (by omega)]
    by_cases e : lo ≤ l[i] ∧ l[i] ≤ hi
    · refine Ev.pos (decide_eq_true e) ?_
      rw [w64 (by omega) (by omega)]
      have e1 : (∀ x ∈ l.drop i, lo ≤ x ∧ x ≤ hi) ↔ (∀ x ∈ l.drop (i + 1), lo ≤ x ∧ x ≤ hi) := by rw [hd]; simp only [List.mem_cons, forall_eq_or_imp, e, true_and]
      rw [decide_eq_decide.mpr e1]
      exact ih (i + 1) (by omega)
    · rw [show decide (∀ x ∈ l.drop i, lo ≤ x ∧ x ≤ hi) = false by rw [hd]; simp only [List.mem_cons, forall_eq_or_imp, decide_eq_false_iff_not]; exact fun h => e h.1]
      exact Ev.neg (by simpa using e) (Ev.now _)
theorem allWithin_ev (l : List Int) (lo hi : Int) (hl : l.length ≤ 35184372088832) : Ev (fun k => impl_allWithin.f k l lo hi) (decide (∀ x ∈ l, lo ≤ x ∧ x ≤ hi)) := allWithin_loop l lo hi hl l.length 0 (by omega)
def pc : Nat → Nat → Nat
  | 0, _ => 0
  | k + 1, n => n % 2 + pc k (n / 2)
theorem u32_nat (a b : Nat) (ha : a < 4294967296) (hb : b < 4294967296) : Go.bits .and .u32 (a : Int) (b : Int) = ((a &&& b : Nat) : Int) ∧ Go.bits .or .u32 (a : Int) (b : Int) = ((a ||| b : Nat) : Int) :=
  bits_nat .u32 32 (by decide) (fun n h0 h1 => by rw [IntKind.wrap_u32]; omega) a b (by omega) (by omega)
/-- the set of some seats -/
def setN (l : List Int) : Nat := l.foldl (fun s p => s ||| 2 ^ p.toNat) 0
theorem foldl_or_bit (l : List Int) (s j : Nat) : (l.foldl (fun s p => s ||| 2 ^ p.toNat) s).testBit j = (s.testBit j || decide (∃ p ∈ l, p.toNat = j)) := by
  induction l generalizing s with
  | nil => simp
  | cons p l ih =>
    rw [List.foldl_cons, ih, Nat.testBit_or, Nat.testBit_two_pow]
    simp only [List.mem_cons, exists_eq_or_imp, Bool.decide_or, Bool.or_assoc]
theorem setN_bit (l : List Int) (j : Nat) : (setN l).testBit j = decide (∃ p ∈ l, p.toNat = j) := by
  unfold setN; rw [foldl_or_bit]; simp
theorem setN_lt (l : List Int) (h : ∀ x ∈ l, 0 ≤ x ∧ x < 32) : setN l < 4294967296 := by
  refine Nat.lt_pow_two_of_testBit (n := 32) _ (fun j hj => ?_)
  rw [setN_bit]
  simp only [decide_eq_false_iff_not, not_exists, not_and]
  intro x hx e
  have := h x hx
  omega
theorem setN_take (l : List Int) (i : Nat) (h : i < l.length) : setN (l.take (i + 1)) = setN (l.take i) ||| 2 ^ (l[i]).toNat := by
  unfold setN
  rw [List.take_succ_eq_append_getElem h, List.foldl_append]
  rfl
theorem two_pow_lt32 (p : Int) (h0 : 0 ≤ p) (h1 : p < 32) : 2 ^ p.toNat < 4294967296 := Nat.pow_lt_pow_right (m := p.toNat) (n := 32) (by decide) (by omega)
theorem shl_u32_one (p : Int) (h0 : 0 ≤ p) (h1 : p < 32) : shl .u32 1 p = ((2 ^ p.toNat : Nat) : Int) := by
  unfold shl
  rw [Nat.min_eq_left (by simp [IntKind.bits]; omega), IntKind.wrap_u32]
  have e : (1 * 2 ^ p.toNat : Int) = ((2 ^ p.toNat : Nat) : Int) := by rw [Int.one_mul]; push_cast; rfl
  rw [e]; exact Int.emod_eq_of_lt (Int.natCast_nonneg _) (Int.ofNat_lt.mpr (two_pow_lt32 p h0 h1))
theorem setOf_loop (l : List Int) (h : ∀ x ∈ l, 0 ≤ x ∧ x < 32) (hl : l.length ≤ 35184372088832) : ∀ (d i : Nat), i + d = l.length → Ev (fun k => impl_setOf.l0 k (setN (l.take i) : Int) l (l.length : Int) (i : Int)) (setN l : Int) := by
  intro d
  induction d with
  | zero =>
    intro i hi
    refine Ev.succ ?_
    simp only [impl_setOf.l0.eq_2]
    rw [List.take_of_length_le (by omega)]
    exact Ev.neg (by omega) (Ev.now _)
  | succ d ih =>
    intro i hi
    refine Ev.succ ?_
    simp only [impl_setOf.l0.eq_2]
    have hx := h (l[i]) (List.getElem_mem (by omega))
    rw [rd_nat l i (by omega)]
    refine Ev.pos (by omega) (Ev.pos (by omega) (Ev.pos (by omega) (Ev.pos hx.1 ?_)))
    rw [w64 (by omega) (by omega), shl_u32_one _ hx.1 hx.2]
    rw [(u32_nat _ _ (setN_lt _ (fun x hx => h x (List.mem_of_mem_take hx))) (two_pow_lt32 _ hx.1 hx.2)).2, ← setN_take l i (by omega)]
    exact ih (i + 1) (by omega)
theorem setOf_ev (l : List Int) (h : ∀ x ∈ l, 0 ≤ x ∧ x < 32) (hl : l.length ≤ 35184372088832) : Ev (fun k => impl_setOf.f k l) (setN l : Int) := setOf_loop l h hl l.length 0 (by omega)
/-- a list that has each number less than n once -/
def IsOrd (l : List Int) (n : Int) : Prop := (l.length : Int) = n ∧ ∀ i : Nat, (i : Int) < n → (i : Int) ∈ l
theorem ph_len : ∀ (n : Nat) (l : List Int), (∀ i : Nat, i < n → (i : Int) ∈ l) → n ≤ l.length := by
  intro n
  induction n with
  | zero => intro l _; omega
  | succ n ih =>
    intro l h
    have hm := h n (by omega)
    have := ih (l.erase (n : Int)) (fun i hi => (List.mem_erase_of_ne (by omega)).mpr (h i (by omega)))
    rw [List.length_erase_of_mem hm] at this
    have : 0 < l.length := List.length_pos_of_mem hm
    omega
theorem ph_nodup_len : ∀ (m : Nat) (l : List Int), l.Nodup → (∀ x ∈ l, 0 ≤ x ∧ x < (m : Int)) → l.length ≤ m := by
  intro m
  induction m with
  | zero =>
    intro l _ h
    cases l with
    | nil => simp
    | cons x l => have := h x (by simp); omega
  | succ m ih =>
    intro l hn h
    by_cases hm : (m : Int) ∈ l
    · have := ih (l.erase (m : Int)) (hn.erase _) (fun x hx => by
        have h1 := h x (List.mem_of_mem_erase hx)
        have h2 : x ≠ (m : Int) := fun e => by subst e; exact (List.Nodup.not_mem_erase hn) hx
        omega)
      rw [List.length_erase_of_mem hm] at this
      omega
    · have := ih l hn (fun x hx => by
        have h1 := h x hx
        have h2 : x ≠ (m : Int) := fun e => by subst e; exact hm hx
        omega)
      omega
instance (l : List Int) (n : Int) : Decidable (IsOrd l n) := decidable_of_iff ((l.length : Int) = n ∧ ∀ i : Fin l.length, (i.val : Int) ∈ l) (by
  unfold IsOrd
  constructor
  · rintro ⟨h1, h2⟩; exact ⟨h1, fun i hi => h2 ⟨i, by omega⟩⟩
  · rintro ⟨h1, h2⟩; exact ⟨h1, fun i => h2 i.val (by have := i.isLt; omega)⟩)
theorem getD_lt (l : List Int) (i : Nat) (h : i < l.length) : l.getD i 0 = l[i] := by rw [List.getD_eq_getElem?_getD, List.getElem?_eq_getElem h]; rfl
theorem rd_getD (l : List Int) (i : Nat) : rd l (i : Int) = l.getD i 0 := by unfold rd; rw [Int.toNat_natCast]
theorem exists_bool (p : Prop) : ∃ b : Bool, b = true ↔ p := by
  by_cases h : p
  · exact ⟨true, by simp [h]⟩
  · exact ⟨false, by simp [h]⟩
/-- a valid row -/
def IsRw (s : Int) (r : Bool) (l : List Int) : Prop := (2 ≤ s ∧ s ≤ 24) ∧ (r = true → 3 ≤ s) ∧ (∀ x ∈ l, 0 ≤ x ∧ x < s) ∧ l.Pairwise (· < ·)
def rwP (l : List Int) (hi : Int) (i : Nat) : Prop := (0 ≤ l.getD i 0 ∧ l.getD i 0 ≤ hi) ∧ (0 < i → l.getD (i - 1) 0 < l.getD i 0)
instance (l : List Int) (hi : Int) (i : Nat) : Decidable (rwP l hi i) := by unfold rwP; infer_instance
theorem rwP_all (l : List Int) (hi : Int) : (∀ i, i < l.length → rwP l hi i) ↔ (∀ x ∈ l, 0 ≤ x ∧ x ≤ hi) ∧ l.Pairwise (· < ·) := by
  constructor
  · intro h
    refine ⟨fun x hx => ?_, ?_⟩
    · obtain ⟨i, hi', rfl⟩ := List.mem_iff_getElem.mp hx
      have := (h i hi').1
      rw [getD_lt l i hi'] at this
      exact this
    · rw [List.pairwise_iff_getElem]
      intro i j hi' hj hij
      obtain ⟨d, hd⟩ : ∃ d, i + 1 + d = j := ⟨j - i - 1, by omega⟩
      induction d generalizing j with
      | zero =>
        have := (h j hj).2 (by omega)
        rw [getD_lt l j hj, show j - 1 = i by omega, getD_lt l i hi'] at this
        exact this
      | succ d ih =>
        have h1 := ih (j - 1) (by omega) (by omega) (by omega)
        have h2 := (h j hj).2 (by omega)
        rw [getD_lt l j hj, getD_lt l (j - 1) (by omega)] at h2
        omega
  · rintro ⟨h1, h2⟩ i hi'
    refine ⟨?_, fun h0 => ?_⟩
    · rw [getD_lt l i hi']; exact h1 _ (List.getElem_mem _)
    · rw [getD_lt l i hi', getD_lt l (i - 1) (by omega)]
      exact (List.pairwise_iff_getElem.mp h2) (i - 1) i (by omega) hi' (by omega)
theorem rising_ev (l : List Int) (hi : Int) (hl : l.length ≤ 35184372088832) (b : Bool) (hb : b = true ↔ ∀ i, i < l.length → rwP l hi i) : Ev (fun k => spec_l1Rising.f k l 0 hi) b := by
  unfold spec_l1Rising.f
  refine ev_dec (fun k i => spec_l1Rising.l0 k l 0 hi (i : Int)) l.length (rwP l hi) id ?_ ?_ ?_ b hb
  · refine Ev.succ ?_
    simp only [spec_l1Rising.l0.eq_2]
    exact Ev.neg (by omega) (Ev.now _)
  · intro i hi' hp r h
    refine Ev.succ ?_
    simp only [spec_l1Rising.l0.eq_2]
    rw [rd_getD, w64 (n := (i : Int) + 1) (by omega) (by omega), w64 (n := (i : Int) - 1) (by omega) (by omega)]
    refine Ev.pos (by omega) (Ev.pos (by omega) (Ev.bindc (l1In_eq _ _ _) (Ev.pos (decide_eq_true hp.1) ?_)))
    by_cases h0 : (i : Int) > 0
    · have := hp.2 (by omega)
      rw [show (i : Int) - 1 = ((i - 1 : Nat) : Int) by omega, rd_getD]
      exact Ev.pos h0 (Ev.pos (by omega) (Ev.pos (by omega) (Ev.neg (by omega) h)))
    · exact Ev.neg h0 h
  · intro i hi' hp
    refine Ev.succ ?_
    simp only [spec_l1Rising.l0.eq_2]
    rw [rd_getD, w64 (n := (i : Int) - 1) (by omega) (by omega)]
    refine Ev.pos (by omega) (Ev.pos (by omega) (Ev.bindc (l1In_eq _ _ _) ?_))
    by_cases h1 : 0 ≤ l.getD i 0 ∧ l.getD i 0 ≤ hi
    · have h2 : ¬ (0 < i → l.getD (i - 1) 0 < l.getD i 0) := fun h => hp ⟨h1, h⟩
      have h0 : 0 < i := Decidable.byContradiction (fun c => h2 (fun h => absurd h c))
      have h3 : ¬ l.getD (i - 1) 0 < l.getD i 0 := fun h => h2 (fun _ => h)
      rw [show (i : Int) - 1 = ((i - 1 : Nat) : Int) by omega, rd_getD]
      exact Ev.pos (decide_eq_true h1) (Ev.pos (by omega) (Ev.pos (by omega) (Ev.pos (by omega) (Ev.pos (by omega) (Ev.now _)))))
    · exact Ev.neg (by simpa using h1) (Ev.now _)
theorem l2Row_ev (s : Int) (r : Bool) (l : List Int) (hl : l.length ≤ 35184372088832) (b : Bool) (hb : b = true ↔ IsRw s r l) : Ev (fun k => spec_l2Row.f k s r l) b := by
  unfold spec_l2Row.f
  have hno : ¬ IsRw s r l → b = false := fun h => by
    cases b with
    | false => rfl
    | true => exact absurd (hb.mp rfl) h
  refine Ev.bindc (l1In_eq _ _ _) ?_
  by_cases hs : 2 ≤ s ∧ s ≤ 24
  · refine Ev.pos (decide_eq_true hs) ?_
    rw [w64 (by omega) (by omega)]
    have main : (r = true → 3 ≤ s) → (b = true ↔ ∀ i, i < l.length → rwP l (s - 1) i) := by
      intro h3
      rw [hb, rwP_all]
      unfold IsRw
      constructor
      · rintro ⟨_, _, h4, h5⟩; exact ⟨fun x hx => by have := h4 x hx; omega, h5⟩
      · rintro ⟨h4, h5⟩; exact ⟨hs, h3, fun x hx => by have := h4 x hx; omega, h5⟩
    by_cases hr : r = true
    · refine Ev.pos hr ?_
      by_cases h3 : s > 2
      · exact Ev.pos h3 (Ev.bind (f := fun _ t => some t) (rising_ev l (s - 1) hl b (main (fun _ => by omega))) (Ev.now _))
      · rw [hno (fun h => h3 (by have := h.2.1 hr; omega))]
        exact Ev.neg h3 (Ev.now _)
    · exact Ev.neg hr (Ev.bind (f := fun _ t => some t) (rising_ev l (s - 1) hl b (main (fun h => absurd h hr))) (Ev.now _))
  · rw [hno (fun h => hs h.1)]
    exact Ev.neg (by simpa using hs) (Ev.now _)
theorem bench_has1 (s : Int) (r : Bool) (x : Int) : Ev (fun k => impl_bench_has.f k s r [x]) (decide (0 ≤ x ∧ x ≤ wrap64 (s - 1))) := by
  unfold impl_bench_has.f
  refine Ev.bind (f := fun _ t => some t) (allWithin_ev [x] 0 _ (by simp)) ?_
  simp only [List.mem_singleton, forall_eq]
  exact Ev.now _
theorem bench_valid_eq (s : Int) (r : Bool) (b : Bool) (hb : b = true ↔ (2 ≤ s ∧ s ≤ 24) ∧ (r = true → 3 ≤ s)) : impl_bench_valid.f s r = some b := by
  unfold impl_bench_valid.f
  rw [within_eq, Option.bind_some]
  by_cases hs : 2 ≤ s ∧ s ≤ 24
  · rw [if_pos (decide_eq_true hs)]
    cases r with
    | true => rw [if_pos rfl]; congr 1; rw [Bool.eq_iff_iff, hb]; simp only [decide_eq_true_eq]; exact ⟨fun h => ⟨hs, fun _ => h⟩, fun h => h.2 (by trivial)⟩
    | false => rw [if_neg (by decide)]; congr 1; rw [Bool.eq_iff_iff, hb]; simp [hs]
  · rw [if_neg (by simpa using hs)]; congr 1; rw [Bool.eq_iff_iff, hb]; simp only [Bool.false_eq_true, false_iff]; exact fun h => hs h.1
theorem isRow_ev (s : Int) (r : Bool) (l : List Int) (hl : l.length ≤ 35184372088832) (b : Bool) (hb : b = true ↔ IsRw s r l) : Ev (fun k => impl_IsRow.f k s r l) b := by
  unfold impl_IsRow.f
  obtain ⟨v, hv⟩ := exists_bool ((2 ≤ s ∧ s ≤ 24) ∧ (r = true → 3 ≤ s))
  obtain ⟨c, hc⟩ := exists_bool (∀ i, i < l.length → rwP l (wrap64 (s - 1)) i)
  have hbc : b = (if c = true then v else false) := by
    rw [Bool.eq_iff_iff, hb]
    unfold IsRw
    constructor
    · rintro ⟨h1, h2, h3, h4⟩
      have hcc : c = true := by
        rw [hc, rwP_all, w64 (by omega) (by omega)]
        exact ⟨fun x hx => by have := h3 x hx; omega, h4⟩
      rw [if_pos hcc, hv]; exact ⟨h1, h2⟩
    · intro h
      by_cases hcc : c = true
      · rw [if_pos hcc, hv] at h
        rw [hc, rwP_all, w64 (by omega) (by omega)] at hcc
        exact ⟨h.1, h.2, fun x hx => by have := hcc.1 x hx; omega, hcc.2⟩
      · rw [if_neg hcc] at h; cases h
  rw [hbc]
  refine ev_dec (fun k i => impl_IsRow.l0 k l (l.length : Int) (i : Int) s r l) l.length (rwP l (wrap64 (s - 1))) (fun c => if c = true then v else false) ?_ ?_ ?_ c hc
  · refine Ev.succ ?_
    simp only [impl_IsRow.l0.eq_2]
    exact Ev.neg (by omega) (Ev.bindc rfl (Ev.bindc (bench_valid_eq s r v hv) (Ev.now _)))
  · intro i hi' hp q h
    refine Ev.succ ?_
    simp only [impl_IsRow.l0.eq_2]
    rw [rd_getD, w64 (n := (i : Int) + 1) (by omega) (by omega), w64 (n := (i : Int) - 1) (by omega) (by omega)]
    refine Ev.pos (by omega) (Ev.pos (by omega) (Ev.pos (by omega) (Ev.bindc rfl (Ev.bind (bench_has1 s r _) (Ev.pos (decide_eq_true hp.1) ?_)))))
    by_cases h0 : (i : Int) > 0
    · have := hp.2 (by omega)
      rw [show (i : Int) - 1 = ((i - 1 : Nat) : Int) by omega, rd_getD]
      exact Ev.pos h0 (Ev.pos (by omega) (Ev.pos (by omega) (Ev.neg (by omega) h)))
    · exact Ev.neg h0 h
  · intro i hi' hp
    refine Ev.succ ?_
    simp only [impl_IsRow.l0.eq_2]
    rw [rd_getD, w64 (n := (i : Int) - 1) (by omega) (by omega)]
    refine Ev.pos (by omega) (Ev.pos (by omega) (Ev.pos (by omega) (Ev.bindc rfl (Ev.bind (bench_has1 s r _) ?_))))
    by_cases h1 : 0 ≤ l.getD i 0 ∧ l.getD i 0 ≤ wrap64 (s - 1)
    · have h2 : ¬ (0 < i → l.getD (i - 1) 0 < l.getD i 0) := fun h => hp ⟨h1, h⟩
      have h0 : 0 < i := Decidable.byContradiction (fun c => h2 (fun h => absurd h c))
      have h3 : ¬ l.getD (i - 1) 0 < l.getD i 0 := fun h => h2 (fun _ => h)
      rw [show (i : Int) - 1 = ((i - 1 : Nat) : Int) by omega, rd_getD]
      exact Ev.pos (decide_eq_true h1) (Ev.pos (by omega) (Ev.pos (by omega) (Ev.pos (by omega) (Ev.pos (by omega) (Ev.now _)))))
    · exact Ev.neg (by simpa using h1) (Ev.now _)
/-- the set of the numbers below n that meet R -/
def bld (R : Nat → Bool) : Nat → Nat
  | 0 => 0
  | n + 1 => if R n = true then bld R n ||| 2 ^ n else bld R n
theorem land_rec (x y : Nat) : x &&& y = 2 * ((x / 2) &&& (y / 2)) + (x % 2) * (y % 2) := by
  have hd : (x % 2) * (y % 2) < 2 := by
    rcases Nat.mod_two_eq_zero_or_one x with h | h <;> rcases Nat.mod_two_eq_zero_or_one y with h2 | h2 <;> rw [h, h2] <;> decide
  refine Nat.eq_of_testBit_eq (fun j => ?_)
  cases j with
  | zero =>
    rw [Nat.testBit_and, Nat.testBit_zero, Nat.testBit_zero, Nat.testBit_zero]
    rcases Nat.mod_two_eq_zero_or_one x with h | h <;> rcases Nat.mod_two_eq_zero_or_one y with h2 | h2 <;> rw [h, h2] <;> simp <;> omega
  | succ j =>
    rw [Nat.testBit_and, Nat.testBit_succ, Nat.testBit_succ, Nat.testBit_succ]
    rw [show (2 * ((x / 2) &&& (y / 2)) + (x % 2) * (y % 2)) / 2 = (x / 2) &&& (y / 2) by omega, Nat.testBit_and]
/-- the place of the lowest bit -/
def low : Nat → Nat → Nat
  | 0, _ => 0
  | k + 1, n => if n % 2 = 1 then 0 else low k (n / 2) + 1
theorem neg_land (k : Nat) : ∀ n, 0 < n → n < 2 ^ k → (n &&& (2 ^ k - n)) = 2 ^ (low k n) ∧ low k n < k ∧ n.testBit (low k n) = true := by
  induction k with
  | zero => intro n h1 h2; simp at h2; omega
  | succ k ih =>
    intro n h1 h2
    have hp : 2 ^ (k + 1) = 2 * 2 ^ k := by rw [Nat.pow_succ]; omega
    rw [land_rec]
    unfold low
    by_cases ho : n % 2 = 1
    · rw [if_pos ho]
      have e1 : (2 ^ (k + 1) - n) / 2 = 2 ^ k - (n / 2 + 1) := by omega
      have e2 : (2 ^ (k + 1) - n) % 2 = 1 := by omega
      have hz : (n / 2) &&& (2 ^ k - (n / 2 + 1)) = 0 := by
        refine Nat.eq_of_testBit_eq (fun j => ?_)
        rw [Nat.testBit_and, Nat.testBit_two_pow_sub_succ (by omega), Nat.zero_testBit]
        cases (n / 2).testBit j <;> simp
      rw [e1, e2, hz, ho]
      exact ⟨rfl, by omega, by rw [Nat.testBit_zero]; simpa using ho⟩
    · rw [if_neg ho]
      have e0 : n % 2 = 0 := by omega
      have e1 : (2 ^ (k + 1) - n) / 2 = 2 ^ k - n / 2 := by omega
      obtain ⟨a, b, c⟩ := ih (n / 2) (by omega) (by omega)
      rw [e1, e0, a, Nat.zero_mul, Nat.add_zero]
      exact ⟨by rw [Nat.pow_succ]; omega, by omega, by rw [Nat.testBit_succ]; exact c⟩
/-- the places of all bits, in order -/
def lst : Nat → Nat → Nat → List Nat
  | 0, _, _ => []
  | k + 1, off, n => if n % 2 = 1 then off :: lst k (off + 1) (n / 2) else lst k (off + 1) (n / 2)
theorem lst_zero (k off : Nat) : lst k off 0 = [] := by
  induction k generalizing off with
  | zero => rfl
  | succ k ih => unfold lst; rw [if_neg (by decide)]; exact ih _
theorem lst_len (k off n : Nat) : (lst k off n).length ≤ k := by
  induction k generalizing off n with
  | zero => exact Nat.le_refl _
  | succ k ih =>
    have := ih (off + 1) (n / 2)
    unfold lst; split
    · rw [List.length_cons]; omega
    · omega
theorem lst_step (k : Nat) : ∀ n off, 0 < n → n < 2 ^ k → lst k off n = (off + low k n) :: lst k off (n &&& (n - 1)) ∧ n &&& (n - 1) < n := by
  induction k with
  | zero => intro n off h1 h2; simp at h2; omega
  | succ k ih =>
    intro n off h1 h2
    have hp : 2 ^ (k + 1) = 2 * 2 ^ k := by rw [Nat.pow_succ]; omega
    rw [land_rec n (n - 1)]
    by_cases ho : n % 2 = 1
    · have e1 : (n - 1) / 2 = n / 2 := by omega
      have e2 : (n - 1) % 2 = 0 := by omega
      rw [e1, e2, Nat.and_self]
      simp only [Nat.mul_zero, Nat.add_zero]
      have l1 : lst (k + 1) off n = off :: lst k (off + 1) (n / 2) := if_pos ho
      have l2 : lst (k + 1) off (2 * (n / 2)) = lst k (off + 1) (n / 2) := by
        rw [show lst (k + 1) off (2 * (n / 2)) = lst k (off + 1) (2 * (n / 2) / 2) from if_neg (by omega), show 2 * (n / 2) / 2 = n / 2 by omega]
      have l3 : low (k + 1) n = 0 := if_pos ho
      rw [l1, l2, l3]
      exact ⟨rfl, by omega⟩
    · have e0 : n % 2 = 0 := by omega
      have e1 : (n - 1) / 2 = n / 2 - 1 := by omega
      obtain ⟨a, b⟩ := ih (n / 2) (off + 1) (by omega) (by omega)
      rw [e1, e0]
      simp only [Nat.zero_mul, Nat.add_zero]
      have l1 : lst (k + 1) off n = lst k (off + 1) (n / 2) := if_neg ho
      have l2 : lst (k + 1) off (2 * (n / 2 &&& (n / 2 - 1))) = lst k (off + 1) (n / 2 &&& (n / 2 - 1)) := by
        rw [show lst (k + 1) off (2 * (n / 2 &&& (n / 2 - 1))) = lst k (off + 1) (2 * (n / 2 &&& (n / 2 - 1)) / 2) from if_neg (by omega), Nat.mul_div_cancel_left _ (by decide)]
      have l3 : low (k + 1) n = low k (n / 2) + 1 := if_neg ho
      rw [l1, l2, l3, a]
      exact ⟨by congr 1; omega, by omega⟩
theorem lst_mem (k : Nat) : ∀ n off x, x ∈ lst k off n ↔ off ≤ x ∧ x < off + k ∧ n.testBit (x - off) = true := by
  induction k with
  | zero => intro n off x; simp only [lst, List.not_mem_nil, false_iff]; omega
  | succ k ih =>
    intro n off x
    have hh : x ∈ lst (k + 1) off n ↔ (x = off ∧ n % 2 = 1) ∨ x ∈ lst k (off + 1) (n / 2) := by
      rw [show lst (k + 1) off n = if n % 2 = 1 then off :: lst k (off + 1) (n / 2) else lst k (off + 1) (n / 2) from rfl]
      split
      · rename_i h; simp [h]
      · rename_i h; simp [h]
    rw [hh, ih]
    constructor
    · rintro (⟨rfl, h⟩ | ⟨h1, h2, h3⟩)
      · exact ⟨Nat.le_refl _, by omega, by rw [Nat.sub_self, Nat.testBit_zero]; simpa using h⟩
      · refine ⟨by omega, by omega, ?_⟩
        rw [show x - off = (x - (off + 1)) + 1 by omega, Nat.testBit_succ]; exact h3
    · rintro ⟨h1, h2, h3⟩
      rcases Nat.eq_or_lt_of_le h1 with e | e
      · subst e; rw [Nat.sub_self, Nat.testBit_zero] at h3; exact .inl ⟨rfl, by simpa using h3⟩
      · refine .inr ⟨by omega, by omega, ?_⟩
        rw [show x - off = (x - (off + 1)) + 1 by omega, Nat.testBit_succ] at h3; exact h3
theorem lst_sorted (k : Nat) : ∀ n off, (lst k off n).Pairwise (· < ·) := by
  induction k with
  | zero => intro n off; exact List.Pairwise.nil
  | succ k ih =>
    intro n off
    unfold lst
    split
    · refine List.pairwise_cons.mpr ⟨fun x hx => ?_, ih _ _⟩
      have := (lst_mem k _ _ x).mp hx; omega
    · exact ih _ _
/-- the seats of a set -/
def listN (n : Nat) : List Int := (lst 32 0 n).map (fun x : Nat => (x : Int))
theorem listN_mem (n : Nat) (x : Int) : x ∈ listN n ↔ (0 ≤ x ∧ x < 32) ∧ n.testBit x.toNat = true := by
  unfold listN
  rw [List.mem_map]
  constructor
  · rintro ⟨y, hy, rfl⟩
    have := (lst_mem 32 n 0 y).mp hy
    exact ⟨by omega, by rw [Int.toNat_natCast]; simpa using this.2.2⟩
  · rintro ⟨h1, h2⟩
    exact ⟨x.toNat, (lst_mem 32 n 0 _).mpr ⟨by omega, by omega, by simpa using h2⟩, by omega⟩
theorem listN_sorted (n : Nat) : (listN n).Pairwise (· < ·) := by
  unfold listN
  rw [List.pairwise_map]
  exact (lst_sorted 32 n 0).imp (fun h => by omega)
theorem listN_len (n : Nat) : (listN n).length ≤ 32 := by unfold listN; rw [List.length_map]; exact lst_len _ _ _
theorem sorted_ext : ∀ (l m : List Int), l.Pairwise (· < ·) → m.Pairwise (· < ·) → (∀ x, x ∈ l ↔ x ∈ m) → l = m := by
  intro l
  induction l with
  | nil =>
    intro m _ _ h
    cases m with
    | nil => rfl
    | cons y m => exact absurd ((h y).mpr (by simp)) (by simp)
  | cons x l ih =>
    intro m hl hm h
    cases m with
    | nil => exact absurd ((h x).mp (by simp)) (by simp)
    | cons y m =>
      obtain ⟨h1, h2⟩ := List.pairwise_cons.mp hl
      obtain ⟨h3, h4⟩ := List.pairwise_cons.mp hm
      have e : x = y := by
        have ha := (h x).mp (by simp)
        have hb := (h y).mpr (by simp)
        rcases List.mem_cons.mp ha with e | ha
        · exact e
        · rcases List.mem_cons.mp hb with e | hb
          · exact e.symm
          · have := h1 y hb; have := h3 x ha; omega
      subst e
      refine congrArg (x :: ·) (ih m h2 h4 (fun z => ?_))
      constructor
      · intro hz
        rcases List.mem_cons.mp ((h z).mp (List.mem_cons_of_mem _ hz)) with e | hz'
        · have := h1 z hz; omega
        · exact hz'
      · intro hz
        rcases List.mem_cons.mp ((h z).mpr (List.mem_cons_of_mem _ hz)) with e | hz'
        · have := h3 z hz; omega
        · exact hz'
theorem listN_setN (l : List Int) (h : ∀ x ∈ l, 0 ≤ x ∧ x < 32) (hs : l.Pairwise (· < ·)) : listN (setN l) = l := by
  refine sorted_ext _ _ (listN_sorted _) hs (fun x => ?_)
  rw [listN_mem, setN_bit, decide_eq_true_eq]
  constructor
  · rintro ⟨h1, p, hp, e⟩
    have := h p hp
    rw [show x = p by omega]; exact hp
  · intro hx; exact ⟨h x hx, x, hx, rfl⟩
theorem tz_tab : ∀ i : Fin 32, ((2 ^ i.val * 125613361 % 4294967296) / 134217728 < 32) ∧ TZ.getD ((2 ^ i.val * 125613361 % 4294967296) / 134217728) 0 = ((i.val : Nat) : Int) := by decide +kernel
theorem neg_u32 (n : Nat) (h0 : 0 < n) (h : n < 4294967296) : Go.bits .and .u32 (n : Int) ((-(n : Int)) % 4294967296) = ((2 ^ (low 32 n) : Nat) : Int) := by
  have e : (-(n : Int)) % 4294967296 = ((4294967296 - n : Nat) : Int) := by omega
  rw [e, (u32_nat n (4294967296 - n) h (by omega)).1]
  have := (neg_land 32 n h0 h).1
  rw [show (2 : Nat) ^ 32 = 4294967296 from rfl] at this
  rw [this]
theorem tz_eq (n : Nat) (h0 : 0 < n) (h : n < 4294967296) : bits_TrailingZeros32.f (n : Int) = some ((low 32 n : Nat) : Int) := by
  unfold bits_TrailingZeros32.f
  have hl := (neg_land 32 n h0 h).2.1
  obtain ⟨t1, t2⟩ := tz_tab ⟨low 32 n, hl⟩
  simp only at t1 t2
  have e : tzi (n : Int) = (((2 ^ (low 32 n) * 125613361 % 4294967296) / 134217728 : Nat) : Int) := by
    unfold tzi
    rw [neg_u32 n h0 h]
    generalize 2 ^ (low 32 n) = t
    omega
  rw [if_neg (by omega), e, if_pos (by omega), if_pos (by omega)]
  unfold rd
  rw [Int.toNat_natCast, t2]
theorem list_ev (n : Nat) (h : n < 4294967296) : Ev (fun k => impl_set_list.f k (n : Int)) (listN n) := by
  unfold impl_set_list.f
  have key : ∀ m (n : Nat) (acc : List Int), n ≤ m → n < 4294967296 → acc.length + (lst 32 0 n).length ≤ 64 → Ev (fun k => impl_set_list.l0 k (n : Int) acc) (acc ++ (lst 32 0 n).map (fun x : Nat => (x : Int))) := by
    intro m
    induction m with
    | zero =>
      intro n acc hm _ _
      refine Ev.succ ?_
      simp only [impl_set_list.l0.eq_2]
      rw [show n = 0 by omega, lst_zero, List.map_nil, List.append_nil]
      exact Ev.pos rfl (Ev.now _)
    | succ m ih =>
      intro n acc hm hn hl
      refine Ev.succ ?_
      simp only [impl_set_list.l0.eq_2]
      by_cases h0 : n = 0
      · subst h0
        rw [lst_zero, List.map_nil, List.append_nil]
        exact Ev.pos rfl (Ev.now _)
      · obtain ⟨s1, s2⟩ := lst_step 32 n 0 (by omega) hn
        rw [Nat.zero_add] at s1
        refine Ev.neg (by omega) (Ev.bindc (tz_eq n (by omega) hn) (Ev.pos (by omega) ?_))
        rw [show ((n : Int) - 1) % 4294967296 = ((n - 1 : Nat) : Int) by omega, (u32_nat n (n - 1) hn (by omega)).1]
        rw [s1, List.length_cons] at hl
        have := ih (n &&& (n - 1)) (acc ++ [((low 32 n : Nat) : Int)]) (by omega) (by omega) (by rw [List.length_append, List.length_singleton]; omega)
        rw [s1, List.map_cons]
        rw [List.append_assoc, List.singleton_append] at this
        exact this
  have := key n n [] (Nat.le_refl _) h (by have := lst_len 32 0 n; simp; omega)
  simpa [listN] using this
theorem pairwise_nodup {l : List Int} (h : l.Pairwise (· < ·)) : l.Nodup := h.imp (fun h => by omega)
theorem rw_len {s : Int} {r : Bool} {l : List Int} (h : IsRw s r l) : l.length ≤ 24 := by
  have := ph_nodup_len s.toNat l (pairwise_nodup h.2.2.2) (fun x hx => by have := h.2.2.1 x hx; omega)
  have := h.1; omega
/-- a seat put in its place -/
def putL : List Int → Int → List Int
  | [], p => [p]
  | x :: l, p => if x < p then x :: putL l p else p :: x :: l
theorem putL_mem (l : List Int) (p x : Int) : x ∈ putL l p ↔ x = p ∨ x ∈ l := by
  induction l with
  | nil => simp [putL]
  | cons y l ih =>
    unfold putL
    split
    · rw [List.mem_cons, ih, List.mem_cons]
      constructor
      · rintro (h | h | h)
        · exact .inr (.inl h)
        · exact .inl h
        · exact .inr (.inr h)
      · rintro (h | h | h)
        · exact .inr (.inl h)
        · exact .inl h
        · exact .inr (.inr h)
    · rw [List.mem_cons]
theorem putL_len (l : List Int) (p : Int) : (putL l p).length = l.length + 1 := by
  induction l with
  | nil => rfl
  | cons y l ih => unfold putL; split <;> simp [ih]
theorem putL_sorted (l : List Int) (p : Int) (hp : p ∉ l) (hs : l.Pairwise (· < ·)) : (putL l p).Pairwise (· < ·) := by
  induction l with
  | nil => simp [putL]
  | cons y l ih =>
    obtain ⟨h1, h2⟩ := List.pairwise_cons.mp hs
    have hy : p ≠ y := fun e => hp (by rw [e]; simp)
    have hl : p ∉ l := fun e => hp (List.mem_cons_of_mem _ e)
    unfold putL
    split
    · rename_i hlt
      refine List.pairwise_cons.mpr ⟨fun x hx => ?_, ih hl h2⟩
      rcases (putL_mem l p x).mp hx with e | e
      · rw [e]; exact hlt
      · exact h1 x e
    · rename_i hlt
      refine List.pairwise_cons.mpr ⟨fun x hx => ?_, hs⟩
      rcases List.mem_cons.mp hx with e | e
      · rw [e]; omega
      · have := h1 x e; omega
theorem putL_set (l : List Int) (p : Int) : setN (putL l p) = setN l ||| 2 ^ p.toNat := by
  refine Nat.eq_of_testBit_eq (fun j => ?_)
  rw [Nat.testBit_or, setN_bit, setN_bit, Nat.testBit_two_pow]
  rw [Bool.eq_iff_iff]
  simp only [Bool.or_eq_true, decide_eq_true_eq]
  constructor
  · rintro ⟨x, hx, e⟩
    rcases (putL_mem l p x).mp hx with h | h
    · subst h; exact .inr e
    · exact .inl ⟨x, h, e⟩
  · rintro (⟨x, hx, e⟩ | e)
    · exact ⟨x, (putL_mem l p x).mpr (.inr hx), e⟩
    · exact ⟨p, (putL_mem l p p).mpr (.inl rfl), e⟩
theorem l1Put_ev (l : List Int) (p : Int) (hp : p ∉ l) (hl : l.length ≤ 35184372) : Ev (fun k => spec_l1Put.f k l p) (putL l p) := by
  unfold spec_l1Put.f
  have key : ∀ d i, i + d = l.length → Ev (fun k => spec_l1Put.l0 k l p (i : Int)) (l.take i ++ putL (l.drop i) p) := by
    intro d
    induction d with
    | zero =>
      intro i hi
      refine Ev.succ ?_
      simp only [spec_l1Put.l0.eq_2, Option.bind_some, List.nil_append, Int.toNat_natCast]
      have ht : (l.take i).length ≤ l.length := by rw [List.length_take]; omega
      have hd : (l.drop i).length ≤ l.length := by rw [List.length_drop]; omega
      rw [List.drop_of_length_le (show l.length ≤ i by omega)] at hd ⊢
      refine Ev.neg (by omega) (Ev.pos (by omega) (Ev.pos (by omega) (Ev.pos (by rw [List.length_nil]; omega) (Ev.pos (by rw [List.length_singleton]; omega) (Ev.pos (by rw [List.length_append, List.length_singleton, List.length_nil]; omega) ?_)))))
      rw [List.append_nil]
      exact Ev.now _
    | succ d ih =>
      intro i hi
      refine Ev.succ ?_
      simp only [spec_l1Put.l0.eq_2, Option.bind_some, List.nil_append, Int.toNat_natCast]
      have ht : (l.take i).length ≤ l.length := by rw [List.length_take]; omega
      have hd : (l.drop i).length ≤ l.length := by rw [List.length_drop]; omega
      have hne : l[i] ≠ p := fun e => hp (by rw [← e]; exact List.getElem_mem (by omega))
      rw [rd_nat l i (by omega), w64 (n := (i : Int) + 1) (by omega) (by omega)]
      have h := ih (i + 1) (by omega)
      rw [List.take_succ_eq_append_getElem (by omega)] at h
      rw [show l.drop i = l[i] :: l.drop (i + 1) from List.drop_eq_getElem_cons (by omega)]
      unfold putL
      refine Ev.pos (by omega) (Ev.pos (by omega) ?_)
      by_cases c : l[i] < p
      · rw [if_pos c]
        refine Ev.pos c ?_
        rw [List.append_assoc, List.singleton_append] at h
        exact h
      · rw [if_neg c]
        refine Ev.neg c (Ev.neg hne (Ev.pos (by omega) (Ev.pos (by rw [List.length_nil]; omega) (Ev.pos (by rw [List.length_singleton]; omega) (Ev.pos (by rw [List.length_append, List.length_singleton, List.length_cons, List.length_drop]; omega) ?_)))))
        rw [List.append_assoc, List.singleton_append]
        exact Ev.now _
  have := key l.length 0 (by omega)
  simpa using this
theorem l1Own_eq (l : List Int) (h : l.length < 17592186044416) : spec_l1Own.f l = some l := by
  unfold spec_l1Own.f
  rw [Option.bind_some, if_pos (by simpa using h), List.nil_append]
theorem l2With_ev (s : Int) (r : Bool) (l : List Int) (p : Int) (hp : p ∉ l) (hl : l.length ≤ 35184372) : Ev (fun k => spec_l2With.f k s r l p) (s, r, putL l p) := by
  unfold spec_l2With.f
  exact Ev.bindc (l1Own_eq l (by omega)) (Ev.bind (f := fun k t => (spec_l2Made.f s r l t).bind fun bt => some (bt.1, bt.2.1, bt.2.2)) (l1Put_ev l p hp hl) (Ev.bindc rfl (Ev.now _)))
/-- a list of seats in order that stands for a set -/
def Seats (s : Nat) (L : List Int) (T : Nat) : Prop := L.Pairwise (· < ·) ∧ (∀ x ∈ L, 0 ≤ x ∧ x < (s : Int)) ∧ setN L = T
theorem seats_len {s : Nat} {L : List Int} {T : Nat} (h : Seats s L T) : L.length ≤ s := ph_nodup_len s L (pairwise_nodup h.1) h.2.1
theorem seats_put {s : Nat} {L : List Int} {T : Nat} (h : Seats s L T) (p : Int) (hp : 0 ≤ p ∧ p < (s : Int)) (hT : T.testBit p.toNat = false) : p ∉ L ∧ Seats s (putL L p) (T ||| 2 ^ p.toNat) := by
  obtain ⟨h1, h2, h3⟩ := h
  have hn : p ∉ L := fun hc => by
    have := setN_bit L p.toNat
    rw [h3, hT, decide_eq_true ⟨p, hc, rfl⟩] at this; cases this
  refine ⟨hn, putL_sorted L p hn h1, fun x hx => ?_, by rw [putL_set, h3]⟩
  rcases (putL_mem L p x).mp hx with e | e
  · rw [e]; exact hp
  · exact h2 x e
/-- the numbers below N that are not in a list -/
def restL (N : Nat) (b : List Int) : List Int := ((List.range N).filter (fun j : Nat => !decide ((j : Int) ∈ b))).map (fun j : Nat => (j : Int))
theorem restL_len (N : Nat) (b : List Int) : (restL N b).length ≤ N := by
  unfold restL; rw [List.length_map]; have := List.length_filter_le (fun j : Nat => !decide ((j : Int) ∈ b)) (List.range N); rw [List.length_range] at this; exact this
theorem restL_succ (s : Nat) (b : List Int) : restL (s + 1) b = restL s b ++ (if (s : Int) ∈ b then [] else [(s : Int)]) := by
  unfold restL
  rw [List.range_succ, List.filter_append, List.map_append]
  congr 1
  by_cases c : (s : Int) ∈ b
  · rw [if_pos c]; simp [c]
  · rw [if_neg c]; simp [c]
theorem l2Is_ev (s : Int) (r : Bool) (l : List Int) (p : Int) (hl : l.length ≤ 35184372088832) : Ev (fun k => spec_l2Is.f k s r l p) (decide (p ∈ l)) := by
  unfold spec_l2Is.f
  exact Ev.bind (f := fun _ t => some t) (has_ev l p hl) (Ev.now _)
theorem l2Free_loop (n : Nat) (r : Bool) (l : List Int) (hN : n ≤ 100) (hl : l.length ≤ 35184372088832) : ∀ d s, s + d = n → Ev (fun k => spec_l2Free.l0 k (restL s l) (s : Int) (n : Int) r l) (restL n l) := by
  intro d
  induction d with
  | zero =>
    intro s hs
    obtain rfl : s = n := by omega
    refine Ev.succ ?_
    simp only [spec_l2Free.l0.eq_2]
    exact Ev.neg (by omega) (Ev.now _)
  | succ d ih =>
    intro s hs
    refine Ev.succ ?_
    simp only [spec_l2Free.l0.eq_2]
    have hlen := restL_len s l
    have h1 := ih (s + 1) (by omega)
    rw [restL_succ] at h1
    refine Ev.pos (by omega) (Ev.bind (l2Is_ev (n : Int) r l (s : Int) hl) ?_)
    rw [w64 (by omega) (by omega)]
    by_cases c : (s : Int) ∈ l
    · rw [if_pos c, List.append_nil] at h1
      exact Ev.pos (decide_eq_true c) h1
    · rw [if_neg c] at h1
      exact Ev.neg (by simpa using c) (Ev.pos (by omega) h1)
theorem l2Free_ev (n : Nat) (r : Bool) (l : List Int) (hN : n ≤ 100) (hl : l.length ≤ 35184372088832) : Ev (fun k => spec_l2Free.f k (n : Int) r l) (restL n l) := by
  unfold spec_l2Free.f
  exact l2Free_loop n r l hN hl n 0 (by omega)
/-- a line, groups and a distance are valid -/
def GrP (s : Int) (r : Bool) (tk g : List Int) (d : Int) : Prop := IsRw s r tk ∧ r = false ∧ 0 ≤ d ∧ (1 ≤ g.length ∧ g.length ≤ 5) ∧ ∀ x ∈ g, 1 ≤ x
theorem ge1_all (g : List Int) : (∀ i, i < g.length → ¬ g.getD i 0 < 1) ↔ ∀ x ∈ g, 1 ≤ x := by
  constructor
  · intro h x hx
    obtain ⟨i, hi, rfl⟩ := List.mem_iff_getElem.mp hx
    have := h i hi; rw [getD_lt g i hi] at this; omega
  · intro h i hi; rw [getD_lt g i hi]; have := h g[i] (List.getElem_mem hi); omega
theorem l9Groups_ev (s : Int) (r : Bool) (tk g : List Int) (d : Int) (hl : tk.length ≤ 35184372088832) (hg : g.length ≤ 35184372088832) (b : Bool) (hb : b = true ↔ GrP s r tk g d) : Ev (fun k => spec_l9Groups.f k s r tk g d) b := by
  unfold spec_l9Groups.f
  obtain ⟨c, hc⟩ := exists_bool (∀ i, i < g.length → ¬ g.getD i 0 < 1)
  obtain ⟨v, hv⟩ := exists_bool (IsRw s r tk ∧ r = false ∧ 0 ≤ d ∧ (1 ≤ g.length ∧ g.length ≤ 5))
  have hbc : b = (if c = true then v else false) := by
    rw [Bool.eq_iff_iff, hb]
    unfold GrP
    constructor
    · rintro ⟨h1, h2, h3, h4, h5⟩
      rw [if_pos (hc.mpr ((ge1_all g).mpr h5)), hv]; exact ⟨h1, h2, h3, h4⟩
    · intro h
      by_cases hcc : c = true
      · rw [if_pos hcc, hv] at h
        exact ⟨h.1, h.2.1, h.2.2.1, h.2.2.2, (ge1_all g).mp (hc.mp hcc)⟩
      · rw [if_neg hcc] at h; cases h
  rw [hbc]
  refine ev_dec (fun k i => spec_l9Groups.l0 k g d (i : Int) s r tk) g.length (fun i => ¬ g.getD i 0 < 1) (fun c => if c = true then v else false) ?_ ?_ ?_ c hc
  · refine Ev.succ ?_
    simp only [spec_l9Groups.l0.eq_2]
    obtain ⟨w, hw⟩ := exists_bool (IsRw s r tk)
    refine Ev.neg (by omega) (Ev.bind (l2Row_ev s r tk hl w hw) ?_)
    rw [if_pos (show True from trivial)]
    cases w with
    | false =>
      rw [show v = false by
        cases v with
        | false => rfl
        | true => exact absurd (hw.mpr (hv.mp rfl).1) (by decide)]
      exact Ev.neg (by decide) (Ev.now _)
    | true =>
      refine Ev.pos rfl ?_
      cases r with
      | true =>
        rw [show v = false by
          cases v with
          | false => rfl
          | true => exact absurd (hv.mp rfl).2.1 (by decide)]
        exact Ev.pos rfl (Ev.now _)
      | false =>
        refine Ev.neg (by decide) (Ev.bindc (l1In_eq _ _ _) ?_)
        by_cases h5 : 1 ≤ (g.length : Int) ∧ (g.length : Int) ≤ 5
        · refine Ev.pos (decide_eq_true h5) ?_
          rw [show v = decide (d ≥ 0) by
            rw [Bool.eq_iff_iff, hv, decide_eq_true_eq]
            exact ⟨fun h => h.2.2.1, fun h => ⟨hw.mp rfl, rfl, h, by omega⟩⟩]
          exact Ev.now _
        · rw [show v = false by
            cases v with
            | false => rfl
            | true => have := (hv.mp rfl).2.2.2; omega]
          exact Ev.neg (by simpa using h5) (Ev.now _)
  · intro i hi hp q hq
    refine Ev.succ ?_
    simp only [spec_l9Groups.l0.eq_2]
    rw [rd_getD, w64 (by omega) (by omega)]
    exact Ev.pos (by omega) (Ev.pos (by omega) (Ev.neg hp hq))
  · intro i hi hp
    refine Ev.succ ?_
    simp only [spec_l9Groups.l0.eq_2]
    rw [rd_getD]
    exact Ev.pos (by omega) (Ev.pos (by omega) (Ev.pos (Decidable.byContradiction (fun h => hp h)) (Ev.now _)))
theorem isGrouped_ev (s : Int) (r : Bool) (tk g : List Int) (d : Int) (hl : tk.length ≤ 35184372088832) (hg : g.length ≤ 35184372088832) (b : Bool) (hb : b = true ↔ GrP s r tk g d) : Ev (fun k => impl_isGrouped.f k s r tk g d) b := by
  unfold impl_isGrouped.f
  have hno : ¬ GrP s r tk g d → b = false := fun h => by
    cases b with
    | false => rfl
    | true => exact absurd (hb.mp rfl) h
  have bad : ¬ GrP s r tk g d → Ev (fun k => impl_isGrouped.j0 k g true) b := fun h => by
    rw [hno h]
    refine Ev.succ ?_
    simp only [impl_isGrouped.j0.eq_2]
    exact Ev.pos (by trivial) (Ev.now _)
  obtain ⟨w, hw⟩ := exists_bool (IsRw s r tk)
  refine Ev.bind (isRow_ev s r tk hl w hw) ?_
  cases w with
  | false => exact Ev.neg (by decide) (bad (fun h => absurd (hw.mpr h.1) (by decide)))
  | true =>
    refine Ev.pos rfl ?_
    cases r with
    | true => exact Ev.pos rfl (bad (fun h => absurd h.2.1 (by decide)))
    | false =>
      refine Ev.neg (by decide) ?_
      by_cases hd : d < 0
      · exact Ev.pos hd (bad (fun h => by have := h.2.2.1; omega))
      · refine Ev.neg hd (Ev.bindc (within_eq _ _ _) ?_)
        by_cases h5 : 1 ≤ (g.length : Int) ∧ (g.length : Int) ≤ 5
        · rw [decide_eq_true h5]
          refine Ev.succ ?_
          simp only [impl_isGrouped.j0.eq_2]
          refine Ev.neg (by decide) (ev_dec (fun k i => impl_isGrouped.l0 k g (g.length : Int) (i : Int)) g.length (fun i => ¬ g.getD i 0 < 1) id ?_ ?_ ?_ b ?_)
          · refine Ev.succ ?_
            simp only [impl_isGrouped.l0.eq_2]
            exact Ev.neg (by omega) (Ev.now _)
          · intro i hi hp q hq
            refine Ev.succ ?_
            simp only [impl_isGrouped.l0.eq_2]
            rw [rd_getD, w64 (by omega) (by omega)]
            exact Ev.pos (by omega) (Ev.pos (by omega) (Ev.pos (by omega) (Ev.neg hp hq)))
          · intro i hi hp
            refine Ev.succ ?_
            simp only [impl_isGrouped.l0.eq_2]
            rw [rd_getD]
            exact Ev.pos (by omega) (Ev.pos (by omega) (Ev.pos (by omega) (Ev.pos (Decidable.byContradiction (fun h => hp h)) (Ev.now _))))
          · rw [hb, ge1_all]
            unfold GrP
            exact ⟨fun h => h.2.2.2.2, fun h => ⟨hw.mp rfl, rfl, by omega, by omega, h⟩⟩
        · rw [decide_eq_false h5]
          exact bad (fun h => h5 (by have := h.2.2.2.1; omega))
/-- a group of so many at a place lies in the line, away from what is taken and from the groups before -/
def FitR (s : Int) (size p : Int) : Prop := size ≤ s ∧ 0 ≤ p ∧ p ≤ s - size
def FitT (tk : List Int) (size d p : Int) (i : Nat) : Prop := ¬ (p - d ≤ tk.getD i 0 ∧ tk.getD i 0 ≤ p + size - 1 + d)
def FitG (g pl : List Int) (size d p : Int) (i : Nat) : Prop := ¬ (pl.getD i 0 ≤ p + size - 1 + d ∧ p ≤ pl.getD i 0 + g.getD i 0 - 1 + d)
def FitP (s : Int) (tk g pl : List Int) (d p : Int) : Prop := FitR s (g.getD pl.length 0) p ∧ (∀ i, i < tk.length → FitT tk (g.getD pl.length 0) d p i) ∧ (∀ i, i < pl.length → FitG g pl (g.getD pl.length 0) d p i)
theorem l9Fits_ev (s : Nat) (r : Bool) (tk g pl : List Int) (d p : Int) (hs : s ≤ 24) (htk : tk.length ≤ 35184372088832) (hd : 0 ≤ d) (hpl : pl.length < g.length) (hg5 : g.length ≤ 5)
    (ht : ∀ x ∈ tk, 0 ≤ x ∧ x < (s : Int)) (hg : ∀ x ∈ g, 1 ≤ x) (hgw : ∀ x ∈ g, x ≤ 9223372036854775807) (hp : ∀ i, i < pl.length → 0 ≤ pl.getD i 0 ∧ pl.getD i 0 + g.getD i 0 ≤ (s : Int)) (b : Bool) (hb : b = true ↔ FitP (s : Int) tk g pl (mn d s) p) :
    Ev (fun k => spec_l9Fits.f k (s : Int) r tk g d pl p) b := by
  unfold spec_l9Fits.f
  have hsz : 1 ≤ g.getD pl.length 0 ∧ g.getD pl.length 0 ≤ 9223372036854775807 := by
    rw [getD_lt g _ hpl]; exact ⟨hg _ (List.getElem_mem _), hgw _ (List.getElem_mem _)⟩
  have hno : ¬ FitP (s : Int) tk g pl (mn d s) p → b = false := fun h => by
    cases b with
    | false => rfl
    | true => exact absurd (hb.mp rfl) h
  have bad : ¬ FitP (s : Int) tk g pl (mn d s) p → ∀ sz, Ev (fun k => spec_l9Fits.j0 k g d pl p sz true (s : Int) r tk) b := fun h sz => by
    rw [hno h]
    refine Ev.succ ?_
    simp only [spec_l9Fits.j0.eq_2]
    exact Ev.pos (by trivial) (Ev.now _)
  rw [rd_getD]
  refine Ev.pos (by omega) (Ev.pos (by omega) ?_)
  by_cases h1 : g.getD pl.length 0 > (s : Int)
  · exact Ev.pos h1 (bad (fun h => by have := h.1.1; omega) _)
  · refine Ev.neg h1 (Ev.bindc (l1In_eq _ _ _) ?_)
    rw [w64 (by omega) (by omega)]
    by_cases h2 : 0 ≤ p ∧ p ≤ (s : Int) - g.getD pl.length 0
    · rw [decide_eq_true h2]
      have hdm : 0 ≤ mn d s ∧ mn d s ≤ 24 := by unfold mn; split <;> omega
      have hR : FitR (s : Int) (g.getD pl.length 0) p := ⟨by omega, h2.1, h2.2⟩
      refine Ev.succ ?_
      simp only [spec_l9Fits.j0.eq_2]
      refine Ev.neg (by decide) (Ev.bindc (a := mn d s) (by unfold spec_l1Least.f mn; split <;> split <;> first | rfl | (congr 1; omega)) ?_)
      have hb2 : b = true ↔ FitR (s : Int) (g.getD pl.length 0) p ∧ (∀ i, i < tk.length → FitT tk (g.getD pl.length 0) (mn d s) p i) ∧ (∀ i, i < pl.length → FitG g pl (g.getD pl.length 0) (mn d s) p i) := hb
      clear bad hno hb
      generalize mn d s = D at *
      generalize g.getD pl.length 0 = z at *
      -- the second loop
      obtain ⟨c2, hc2⟩ := exists_bool (∀ i, i < pl.length → FitG g pl z D p i)
      have loop2 : Ev (fun k => spec_l9Fits.l1 k g D pl p z ((0 : Nat) : Int)) c2 := by
        refine ev_dec (fun k i => spec_l9Fits.l1 k g D pl p z (i : Int)) pl.length (fun i => ¬ (pl.getD i 0 ≤ p + z - 1 + D ∧ p ≤ pl.getD i 0 + g.getD i 0 - 1 + D)) id ?_ ?_ ?_ c2 hc2
        · refine Ev.succ ?_
          simp only [spec_l9Fits.l1.eq_2]
          exact Ev.neg (by omega) (Ev.now _)
        · intro i hi hP q hq
          have hpi := hp i hi
          have hgi := hg _ (List.getElem_mem (l := g) (n := i) (by omega))
          rw [← getD_lt g i (by omega)] at hgi
          refine Ev.succ ?_
          simp only [spec_l9Fits.l1.eq_2]
          rw [rd_getD, rd_getD, w64 (n := (i : Int) + 1) (by omega) (by omega), w64 (n := p + z) (by omega) (by omega), w64 (n := p + z - 1) (by omega) (by omega), w64 (n := p + z - 1 + D) (by omega) (by omega)]
          rw [w64 (n := pl.getD i 0 + g.getD i 0) (by omega) (by omega), w64 (n := pl.getD i 0 + g.getD i 0 - 1) (by omega) (by omega), w64 (n := pl.getD i 0 + g.getD i 0 - 1 + D) (by omega) (by omega)]
          refine Ev.pos (by omega) (Ev.pos (by omega) ?_)
          by_cases h3 : pl.getD i 0 ≤ p + z - 1 + D
          · exact Ev.pos h3 (Ev.pos (by omega) (Ev.neg (fun h4 => hP ⟨h3, h4⟩) hq))
          · exact Ev.neg h3 hq
        · intro i hi hP
          have hpi := hp i hi
          have hgi := hg _ (List.getElem_mem (l := g) (n := i) (by omega))
          rw [← getD_lt g i (by omega)] at hgi
          have hP2 := Decidable.of_not_not hP
          refine Ev.succ ?_
          simp only [spec_l9Fits.l1.eq_2]
          rw [rd_getD, rd_getD, w64 (n := p + z) (by omega) (by omega), w64 (n := p + z - 1) (by omega) (by omega), w64 (n := p + z - 1 + D) (by omega) (by omega)]
          rw [w64 (n := pl.getD i 0 + g.getD i 0) (by omega) (by omega), w64 (n := pl.getD i 0 + g.getD i 0 - 1) (by omega) (by omega), w64 (n := pl.getD i 0 + g.getD i 0 - 1 + D) (by omega) (by omega)]
          exact Ev.pos (by omega) (Ev.pos (by omega) (Ev.pos hP2.1 (Ev.pos (by omega) (Ev.pos hP2.2 (Ev.now _)))))
      obtain ⟨c1, hc1⟩ := exists_bool (∀ i, i < tk.length → FitT tk z D p i)
      rw [show b = (if c1 = true then c2 else false) by
        rw [Bool.eq_iff_iff, hb2]
        constructor
        · rintro ⟨_, h4, h5⟩; rw [if_pos (hc1.mpr h4), hc2]; exact h5
        · intro h
          by_cases hcc : c1 = true
          · rw [if_pos hcc, hc2] at h; exact ⟨hR, hc1.mp hcc, h⟩
          · rw [if_neg hcc] at h; cases h]
      refine ev_dec (fun k i => spec_l9Fits.l0 k g D pl p z (i : Int) (s : Int) r tk) tk.length (fun i => ¬ (p - D ≤ tk.getD i 0 ∧ tk.getD i 0 ≤ p + z - 1 + D)) (fun c => if c = true then c2 else false) ?_ ?_ ?_ c1 hc1
      · refine Ev.succ ?_
        simp only [spec_l9Fits.l0.eq_2]
        exact Ev.neg (by omega) loop2
      · intro i hi hP q hq
        refine Ev.succ ?_
        simp only [spec_l9Fits.l0.eq_2]
        rw [rd_getD, w64 (n := (i : Int) + 1) (by omega) (by omega), w64 (n := p + z) (by omega) (by omega), w64 (n := p + z - 1) (by omega) (by omega), w64 (n := p + z - 1 + D) (by omega) (by omega), w64 (n := p - D) (by omega) (by omega)]
        exact Ev.pos (by omega) (Ev.pos (by omega) (Ev.bindc (l1In_eq _ _ _) (Ev.neg (by simpa using hP) hq)))
      · intro i hi hP
        refine Ev.succ ?_
        simp only [spec_l9Fits.l0.eq_2]
        rw [rd_getD, w64 (n := p + z) (by omega) (by omega), w64 (n := p + z - 1) (by omega) (by omega), w64 (n := p + z - 1 + D) (by omega) (by omega), w64 (n := p - D) (by omega) (by omega)]
        exact Ev.pos (by omega) (Ev.pos (by omega) (Ev.bindc (l1In_eq _ _ _) (Ev.pos (decide_eq_true (Decidable.of_not_not hP)) (Ev.now _))))
    · rw [decide_eq_false h2]
      exact bad (fun h => h2 ⟨h.1.2.1, h.1.2.2⟩) _
/-- so many seats from a place on -/
def ivl (n p : Nat) : Nat := (2 ^ n - 1) * 2 ^ p
theorem ivl_bit (n p j : Nat) : (ivl n p).testBit j = (decide (p ≤ j) && decide (j < p + n)) := by
  unfold ivl
  rw [Nat.testBit_mul_two_pow, Nat.testBit_two_pow_sub_one]
  by_cases h : p ≤ j
  · have : (j - p < n) ↔ (j < p + n) := by omega
    simp [h, this]
  · simp [h]
theorem ivl_lt (n p : Nat) (h : n + p ≤ 32) : ivl n p < 4294967296 := by
  refine Nat.lt_pow_two_of_testBit (n := 32) _ (fun j hj => ?_)
  rw [ivl_bit]; simp; omega
theorem shl_u32 (a : Nat) (p : Nat) (hp : p < 32) (h : a * 2 ^ p < 4294967296) : shl .u32 (a : Int) (p : Int) = ((a * 2 ^ p : Nat) : Int) := by
  unfold shl
  rw [Nat.min_eq_left (by simp [IntKind.bits]; omega), IntKind.wrap_u32, Int.toNat_natCast]
  have e : ((a : Int) * 2 ^ p) = ((a * 2 ^ p : Nat) : Int) := by push_cast; rfl
  rw [e]; exact Int.emod_eq_of_lt (Int.natCast_nonneg _) (Int.ofNat_lt.mpr h)
/-- the group with all that is so near to it -/
def ExpB (n p i E : Nat) : Prop := E < 4294967296 ∧ ∀ j, E.testBit j = (decide (j < 32) && (decide (p ≤ j + i) && decide (j < p + n + i)))
theorem exp_step (n p i E : Nat) (hn : 1 ≤ n) (hp : p + n ≤ 24) (h : ExpB n p i E) : ExpB n p (i + 1) (E ||| ((E * 2 % 4294967296) ||| E / 2)) := by
  obtain ⟨h1, h2⟩ := h
  refine ⟨?_, fun j => ?_⟩
  · refine Nat.or_lt_two_pow (n := 32) h1 (Nat.or_lt_two_pow (n := 32) (Nat.mod_lt _ (by decide)) (by omega))
  · rw [Nat.testBit_or, Nat.testBit_or, show 4294967296 = 2 ^ 32 from rfl, Nat.testBit_mod_two_pow, show E * 2 = E * 2 ^ 1 from rfl, Nat.testBit_mul_two_pow, Nat.testBit_div_two, h2, h2, h2]
    rw [Bool.eq_iff_iff]
    simp only [Bool.or_eq_true, Bool.and_eq_true, decide_eq_true_eq]
    omega
theorem expand_ev (T n p : Nat) (res : Int) (hn : 1 ≤ n) (hp : p + n ≤ 24) (hT : T < 4294967296) (D : Nat) (b : Bool) (hb : b = true ↔ ∀ j, j < 32 → p ≤ j + D → j < p + n + D → T.testBit j = false) :
    ∀ d i E, i + d = D → ExpB n p i E → D ≤ 1000 → Ev (fun k => impl_Row_group.l0 k (T : Int) res (E : Int) (D : Int) (i : Int)) (res, b) := by
  intro d
  induction d with
  | zero =>
    intro i E hi hE hD
    refine Ev.succ ?_
    simp only [impl_Row_group.l0.eq_2]
    refine Ev.neg (by omega) ?_
    rw [(u32_nat E T hE.1 hT).1]
    have e : (((E &&& T : Nat) : Int) == 0) = b := by
      rw [Bool.eq_iff_iff, hb]
      simp only [beq_iff_eq]
      constructor
      · intro h j h1 h2 h3
        have h0 : E &&& T = 0 := by omega
        have := congrArg (fun x => Nat.testBit x j) h0
        simp only [Nat.testBit_and, Nat.zero_testBit, hE.2] at this
        have h4 : (decide (j < 32) && (decide (p ≤ j + i) && decide (j < p + n + i))) = true := by
          simp only [Bool.and_eq_true, decide_eq_true_eq]; omega
        rw [h4, Bool.true_and] at this
        exact this
      · intro h
        have : E &&& T = 0 := by
          refine Nat.eq_of_testBit_eq (fun j => ?_)
          rw [Nat.testBit_and, Nat.zero_testBit, hE.2]
          by_cases h4 : j < 32 ∧ p ≤ j + i ∧ j < p + n + i
          · rw [h j h4.1 (by omega) (by omega), Bool.and_false]
          · have : (decide (j < 32) && (decide (p ≤ j + i) && decide (j < p + n + i))) = false := by
              rw [Bool.eq_false_iff]; simp only [ne_eq, Bool.and_eq_true, decide_eq_true_eq]; omega
            rw [this, Bool.false_and]
        omega
    rw [e]
    exact Ev.now _
  | succ d ih =>
    intro i E hi hE hD
    refine Ev.succ ?_
    simp only [impl_Row_group.l0.eq_2]
    refine Ev.pos (by omega) ?_
    rw [w64 (by omega) (by omega)]
    have e1 : ((E : Int) * 2) % 4294967296 = ((E * 2 % 4294967296 : Nat) : Int) := by omega
    have e2 : (E : Int) / 2 = ((E / 2 : Nat) : Int) := by omega
    have hE1 := hE.1
    rw [e1, e2, (u32_nat _ _ (Nat.mod_lt _ (by decide)) (by omega)).2, (u32_nat _ _ hE1 (Nat.or_lt_two_pow (n := 32) (Nat.mod_lt _ (by decide)) (by omega))).2]
    exact ih (i + 1) _ (by omega) (exp_step n p i E hn hp hE) hD
theorem group_ev (s : Nat) (r : Bool) (tk : List Int) (T : Nat) (n d p : Int) (hs : s ≤ 24) (hT : T < 4294967296) (hn : 1 ≤ n) (hd : 0 ≤ d) (hp : 0 ≤ p ∧ p < (s : Int)) (hok : n ≤ (s : Int) ∧ p + n ≤ (s : Int))
    (b : Bool) (hb : b = true ↔ ∀ j : Nat, j < 32 → p ≤ (j : Int) + mn d s → (j : Int) < p + n + mn d s → T.testBit j = false) :
    Ev (fun k => impl_Row_group.f k (s : Int) r tk (T : Int) n d p) ((ivl n.toNat p.toNat : Int), b) := by
  obtain ⟨N, rfl⟩ : ∃ N : Nat, n = (N : Int) := ⟨n.toNat, by omega⟩
  obtain ⟨P, rfl⟩ : ∃ P : Nat, p = (P : Int) := ⟨p.toNat, by omega⟩
  obtain ⟨D, hD⟩ : ∃ D : Nat, mn d s = (D : Int) := ⟨(mn d s).toNat, by unfold mn; split <;> omega⟩
  have hD24 : D ≤ 24 := by unfold mn at hD; split at hD <;> omega
  unfold impl_Row_group.f
  refine Ev.neg (by omega) (Ev.neg (by omega) ?_)
  rw [w64 (by omega) (by omega)]
  refine Ev.succ ?_
  simp only [impl_Row_group.j0.eq_2]
  refine Ev.neg (by simp; omega) (Ev.pos (by omega) (Ev.pos (by omega) ?_))
  have hp1 := two_pow_lt32 (N : Int) (by omega) (by omega)
  rw [Int.toNat_natCast] at hp1
  have hp2 : 0 < 2 ^ N := Nat.two_pow_pos N
  have e1 : ((shl .u32 1 (N : Int)) - 1) % 4294967296 = ((2 ^ N - 1 : Nat) : Int) := by
    rw [shl_u32_one _ (by omega) (by omega), Int.toNat_natCast]
    generalize 2 ^ N = t at *
    omega
  have hlt : (2 ^ N - 1) * 2 ^ P < 4294967296 := ivl_lt N P (by omega)
  rw [e1, shl_u32 _ P (by omega) hlt, hD]
  simp only [Int.toNat_natCast]
  exact expand_ev T N P _ (by omega) (by omega) hT D b (by
    rw [hb, hD]
    constructor
    · intro h j h1 h2 h3; exact h j h1 (by omega) (by omega)
    · intro h j h1 h2 h3; exact h j h1 (by omega) (by omega)) D 0 (ivl N P) (by omega) ⟨ivl_lt N P (by omega), fun j => by
      rw [ivl_bit, Bool.eq_iff_iff]; simp only [Bool.and_eq_true, decide_eq_true_eq]; omega⟩ (by omega)
theorem group_no (s : Nat) (r : Bool) (tk : List Int) (T : Nat) (n d p : Int) (hs : s ≤ 24) (hn : 1 ≤ n) (hp : 0 ≤ p ∧ p < (s : Int)) (hok : ¬ (n ≤ (s : Int) ∧ p + n ≤ (s : Int))) :
    Ev (fun k => impl_Row_group.f k (s : Int) r tk (T : Int) n d p) (0, false) := by
  have bad : Ev (fun k => impl_Row_group.j0 k (T : Int) n d p true (s : Int) r tk) (0, false) := by
    refine Ev.succ ?_
    simp only [impl_Row_group.j0.eq_2]
    exact Ev.pos (by trivial) (Ev.now _)
  unfold impl_Row_group.f
  by_cases h1 : n > (s : Int)
  · exact Ev.pos h1 bad
  · refine Ev.neg h1 (Ev.neg (by omega) ?_)
    rw [w64 (by omega) (by omega), decide_eq_true (by omega)]
    exact bad
/-- the taken seats behind some groups -/
def tkN (tk g pl : List Int) : Nat → Nat
  | 0 => setN tk
  | i + 1 => tkN tk g pl i ||| ivl (g.getD i 0).toNat (pl.getD i 0).toNat
theorem tkN_bit (tk g pl : List Int) (i j : Nat) : (tkN tk g pl i).testBit j = true ↔ (∃ x ∈ tk, x.toNat = j) ∨ ∃ q, q < i ∧ (pl.getD q 0).toNat ≤ j ∧ j < (pl.getD q 0).toNat + (g.getD q 0).toNat := by
  induction i with
  | zero =>
    simp only [tkN, setN_bit, decide_eq_true_eq]
    constructor
    · exact fun h => .inl h
    · rintro (h | ⟨q, h, _⟩)
      · exact h
      · omega
  | succ i ih =>
    rw [tkN, Nat.testBit_or, Bool.or_eq_true, ih, ivl_bit]
    simp only [Bool.and_eq_true, decide_eq_true_eq]
    constructor
    · rintro ((h | ⟨q, h1, h2⟩) | h)
      · exact .inl h
      · exact .inr ⟨q, by omega, h2⟩
      · exact .inr ⟨i, by omega, h⟩
    · rintro (h | ⟨q, h1, h2⟩)
      · exact .inl (.inl h)
      · rcases Nat.lt_or_ge q i with h3 | h3
        · exact .inl (.inr ⟨q, h3, h2⟩)
        · rw [show q = i by omega] at h2; exact .inr h2
/-- the places so far are right -/
def PlOk (s : Int) (tk g pl : List Int) (D : Int) (i : Nat) : Prop := FitP s tk g (pl.take i) D (pl.getD i 0)
theorem getD_take (pl : List Int) (i q : Nat) (h : q < i) : (pl.take i).getD q 0 = pl.getD q 0 := by
  rw [List.getD_eq_getElem?_getD, List.getD_eq_getElem?_getD, List.getElem?_take, if_pos h]
theorem plOk_iff (s : Int) (tk g pl : List Int) (D : Int) (i : Nat) (hi : i < pl.length) : PlOk s tk g pl D i ↔ FitR s (g.getD i 0) (pl.getD i 0) ∧ (∀ q, q < tk.length → FitT tk (g.getD i 0) D (pl.getD i 0) q) ∧ (∀ q, q < i → FitG g pl (g.getD i 0) D (pl.getD i 0) q) := by
  unfold PlOk FitP
  rw [List.length_take, Nat.min_eq_left (by omega)]
  constructor
  · rintro ⟨a, b, c⟩
    refine ⟨a, b, fun q hq => ?_⟩
    have := c q hq
    unfold FitG at this ⊢
    rw [getD_take pl i q hq] at this; exact this
  · rintro ⟨a, b, c⟩
    refine ⟨a, b, fun q hq => ?_⟩
    have := c q hq
    unfold FitG at this ⊢
    rw [getD_take pl i q hq]; exact this
theorem tkN_lt (s : Int) (tk g pl : List Int) (hs : s ≤ 24) (ht : ∀ x ∈ tk, 0 ≤ x ∧ x < s) : ∀ i, (∀ q, q < i → 0 ≤ pl.getD q 0 ∧ pl.getD q 0 + g.getD q 0 ≤ s ∧ 1 ≤ g.getD q 0) → tkN tk g pl i < 4294967296 := by
  intro i
  induction i with
  | zero => intro _; exact setN_lt tk (fun x hx => by have := ht x hx; omega)
  | succ i ih =>
    intro h
    have := h i (by omega)
    exact Nat.or_lt_two_pow (n := 32) (ih (fun q hq => h q (by omega))) (ivl_lt _ _ (by omega))
/-- what is free around a group: by the set, and by the lists -/
theorem group_free (s : Nat) (tk g pl : List Int) (D : Int) (hD : 0 ≤ D) (hs : s ≤ 24) (ht : ∀ x ∈ tk, 0 ≤ x ∧ x < (s : Int)) (i : Nat) (hpl : i < pl.length)
    (h : ∀ q, q < i → 0 ≤ pl.getD q 0 ∧ pl.getD q 0 + g.getD q 0 ≤ (s : Int) ∧ 1 ≤ g.getD q 0) (hR : FitR (s : Int) (g.getD i 0) (pl.getD i 0)) (h1 : 1 ≤ g.getD i 0) :
    (∀ j : Nat, j < 32 → pl.getD i 0 ≤ (j : Int) + D → (j : Int) < pl.getD i 0 + g.getD i 0 + D → (tkN tk g pl i).testBit j = false) ↔ PlOk (s : Int) tk g pl D i := by
  rw [plOk_iff _ _ _ _ _ _ hpl]
  constructor
  · intro hf
    refine ⟨hR, fun q hq => ?_, fun q hq => ?_⟩
    · unfold FitT
      rintro ⟨h2, h3⟩
      have hx := ht (tk.getD q 0) (by rw [getD_lt tk q hq]; exact List.getElem_mem hq)
      have := hf (tk.getD q 0).toNat (by omega) (by omega) (by omega)
      have hb := (tkN_bit tk g pl i (tk.getD q 0).toNat).mpr (.inl ⟨tk.getD q 0, by rw [getD_lt tk q hq]; exact List.getElem_mem hq, rfl⟩)
      rw [hb] at this; cases this
    · unfold FitG
      rintro ⟨h2, h3⟩
      have hq2 := h q hq
      -- a seat of both
      have := hf (mx (pl.getD q 0) (pl.getD i 0 - D)).toNat (by unfold mx; split <;> omega) (by unfold mx; split <;> omega) (by unfold mx FitR at *; split <;> omega)
      have hb := (tkN_bit tk g pl i (mx (pl.getD q 0) (pl.getD i 0 - D)).toNat).mpr (.inr ⟨q, hq, by unfold mx; split <;> omega, by unfold mx; split <;> omega⟩)
      rw [hb] at this; cases this
  · rintro ⟨_, h2, h3⟩ j hj h4 h5
    rw [Bool.eq_false_iff]
    intro hb
    rcases (tkN_bit tk g pl i j).mp hb with ⟨x, hx, e⟩ | ⟨q, hq, h6, h7⟩
    · obtain ⟨q, hq, rfl⟩ := List.mem_iff_getElem.mp hx
      have := h2 q hq
      unfold FitT at this
      rw [getD_lt tk q hq] at this
      have := ht _ hx
      omega
    · have := h3 q hq
      unfold FitG at this
      have := h q hq
      omega
theorem mn_bound (d : Int) (s : Nat) (hd : 0 ≤ d) : 0 ≤ mn d s ∧ mn d s ≤ s := by unfold mn; split <;> omega
theorem plOk_range {s : Int} {tk g pl : List Int} {D : Int} {i : Nat} (hi : i < pl.length) (h : PlOk s tk g pl D i) : 0 ≤ pl.getD i 0 ∧ pl.getD i 0 + g.getD i 0 ≤ s := by
  have := ((plOk_iff s tk g pl D i hi).mp h).1
  unfold FitR at this; omega
theorem placing_spec (s : Nat) (r : Bool) (tk g pl : List Int) (d : Int) (h : GrP (s : Int) r tk g d) (htk : tk.length ≤ 35184372088832) (hgw : ∀ x ∈ g, x ≤ 9223372036854775807) (hlen : pl.length = g.length) (b : Bool) (hb : b = true ↔ ∀ i, i < pl.length → PlOk (s : Int) tk g pl (mn d s) i) :
    Ev (fun k => spec_l9Placing.f k (s : Int) r tk g d pl) b := by
  obtain ⟨hrow, hr, hd, hg5, hg⟩ := h
  unfold spec_l9Placing.f
  refine Ev.pos (by omega) ?_
  -- up to the first one that does not fit, all lie in the line
  have key : ∀ e i, i + e = pl.length → (∀ q, q < i → PlOk (s : Int) tk g pl (mn d s) q) → Ev (fun k => spec_l9Placing.l0 k g d pl (i : Int) (s : Int) r tk) b := by
    intro e
    induction e with
    | zero =>
      intro i hi hok
      refine Ev.succ ?_
      simp only [spec_l9Placing.l0.eq_2]
      rw [hb.mpr (fun q hq => hok q (by omega))]
      exact Ev.neg (by omega) (Ev.now _)
    | succ e ih =>
      intro i hi hok
      refine Ev.succ ?_
      simp only [spec_l9Placing.l0.eq_2]
      rw [rd_getD, Int.toNat_natCast]
      obtain ⟨c, hc⟩ := exists_bool (PlOk (s : Int) tk g pl (mn d s) i)
      have hs := hrow.1
      refine Ev.pos (by omega) (Ev.pos (by omega) (Ev.pos (by omega) (Ev.bind (l9Fits_ev s r tk g (pl.take i) d (pl.getD i 0) (by omega) htk hd (by rw [List.length_take]; omega) hg5.2 hrow.2.2.1 hg hgw ?_ c hc) ?_)))
      · intro q hq
        rw [List.length_take] at hq
        rw [getD_take pl i q (by omega)]
        exact plOk_range (by omega) (hok q (by omega))
      · cases c with
        | true =>
          refine Ev.pos rfl ?_
          rw [w64 (by omega) (by omega)]
          refine ih (i + 1) (by omega) (fun q hq => ?_)
          rcases Nat.lt_or_ge q i with h3 | h3
          · exact hok q h3
          · rw [show q = i by omega]; exact hc.mp rfl
        | false =>
          rw [show b = false by
            cases b with
            | false => rfl
            | true => exact absurd (hc.mpr (hb.mp rfl i (by omega))) (by decide)]
          exact Ev.neg (by decide) (Ev.now _)
  exact key pl.length 0 (by omega) (fun q hq => by omega)
theorem placing_impl (s : Nat) (r : Bool) (tk g pl : List Int) (d : Int) (h : GrP (s : Int) r tk g d) (hgw : ∀ x ∈ g, x ≤ 9223372036854775807) (hlen : pl.length = g.length) (b : Bool) (hb : b = true ↔ ∀ i, i < pl.length → PlOk (s : Int) tk g pl (mn d s) i) :
    Ev (fun k => impl_Row_placed.f k (s : Int) r tk g d pl) (if b = true then ((tkN tk g pl pl.length : Nat) : Int) else 0, b) := by
  obtain ⟨hrow, hr, hd, hg5, hg⟩ := h
  have hs := hrow.1
  have ht := hrow.2.2.1
  have h32 : ∀ x ∈ tk, 0 ≤ x ∧ x < 32 := fun x hx => by have := ht x hx; omega
  have hg1 : ∀ i, i < g.length → 1 ≤ g.getD i 0 ∧ g.getD i 0 ≤ 9223372036854775807 := fun i hi => by rw [getD_lt g i hi]; exact ⟨hg _ (List.getElem_mem hi), hgw _ (List.getElem_mem hi)⟩
  have htl : tk.length ≤ 24 := by
    have := ph_nodup_len s tk (pairwise_nodup hrow.2.2.2) ht
    omega
  unfold impl_Row_placed.f
  refine Ev.pos (by omega) (Ev.bind (a := ((setN tk : Nat) : Int)) (by unfold impl_Row_taken.f; exact Ev.bind (f := fun _ t => some t) (setOf_ev tk h32 (by omega)) (Ev.now _)) ?_)
  have key : ∀ e i, i + e = pl.length → (∀ q, q < i → PlOk (s : Int) tk g pl (mn d s) q) → Ev (fun k => impl_Row_placed.l0 k g d ((tkN tk g pl i : Nat) : Int) pl (pl.length : Int) (i : Int) (s : Int) r tk) (if b = true then ((tkN tk g pl pl.length : Nat) : Int) else 0, b) := by
    intro e
    induction e with
    | zero =>
      intro i hi hok
      refine Ev.succ ?_
      simp only [impl_Row_placed.l0.eq_2]
      rw [hb.mpr (fun q hq => hok q (by omega)), if_pos rfl, show i = pl.length by omega]
      exact Ev.neg (by omega) (Ev.now _)
    | succ e ih =>
      intro i hi hok
      have hrange : ∀ q, q < i → 0 ≤ pl.getD q 0 ∧ pl.getD q 0 + g.getD q 0 ≤ (s : Int) ∧ 1 ≤ g.getD q 0 := fun q hq => by
        have := plOk_range (by omega) (hok q hq)
        have := hg1 q (by omega)
        omega
      have hT := tkN_lt (s : Int) tk g pl (by omega) ht i hrange
      have hgi := hg1 i (by omega)
      have hno : ¬ PlOk (s : Int) tk g pl (mn d s) i → b = false := fun hn => by
        cases b with
        | false => rfl
        | true => exact absurd (hb.mp rfl i (by omega)) hn
      refine Ev.succ ?_
      simp only [impl_Row_placed.l0.eq_2]
      rw [rd_getD, rd_getD, w64 (n := (s : Int) - 1) (by omega) (by omega)]
      refine Ev.pos (by omega) (Ev.pos (by omega) (Ev.pos (by omega) (Ev.bindc (within_eq _ _ _) ?_)))
      by_cases hin : 0 ≤ pl.getD i 0 ∧ pl.getD i 0 ≤ (s : Int) - 1
      · refine Ev.pos (decide_eq_true hin) (Ev.pos (by omega) ?_)
        by_cases hR : FitR (s : Int) (g.getD i 0) (pl.getD i 0)
        · obtain ⟨c, hc⟩ := exists_bool (PlOk (s : Int) tk g pl (mn d s) i)
          have hR' := hR
          unfold FitR at hR'
          refine Ev.bind (group_ev s r tk (tkN tk g pl i) (g.getD i 0) d (pl.getD i 0) (by omega) hT hgi.1 hd (by omega) (by omega) c ?_) ?_
          · rw [hc, ← group_free s tk g pl (mn d s) (mn_bound d s hd).1 (by omega) ht i (by omega) hrange hR hgi.1]
          · cases c with
            | true =>
              refine Ev.pos rfl ?_
              rw [w64 (by omega) (by omega), (u32_nat _ _ hT (ivl_lt _ _ (by omega))).2]
              refine ih (i + 1) (by omega) (fun q hq => ?_)
              rcases Nat.lt_or_ge q i with h3 | h3
              · exact hok q h3
              · rw [show q = i by omega]; exact hc.mp rfl
            | false =>
              rw [hno (fun hn => absurd (hc.mpr hn) (by decide)), if_neg (by decide)]
              exact Ev.neg (by simp) (Ev.now _)
        · rw [hno (fun hn => hR ((plOk_iff _ _ _ _ _ i (by omega)).mp hn).1), if_neg (by decide)]
          refine Ev.bind (group_no s r tk (tkN tk g pl i) (g.getD i 0) d (pl.getD i 0) (by omega) hgi.1 (by omega) (fun hc => hR ⟨hc.1, by omega, by omega⟩)) (Ev.neg (by decide) (Ev.now _))
      · rw [hno (fun hn => hin (by have := plOk_range (by omega) hn; omega)), if_neg (by decide)]
        exact Ev.neg (by simpa using hin) (Ev.now _)
  exact key pl.length 0 (by omega) (fun q hq => by omega)
theorem placing_no (s : Int) (r : Bool) (tk g pl : List Int) (d : Int) (hlen : ¬ (pl.length : Int) = (g.length : Int)) : Ev (fun k => spec_l9Placing.f k s r tk g d pl) false ∧ Ev (fun k => impl_Row_placed.f k s r tk g d pl) (0, false) := by
  refine ⟨?_, ?_⟩
  · unfold spec_l9Placing.f; exact Ev.neg hlen (Ev.now _)
  · unfold impl_Row_placed.f; exact Ev.neg hlen (Ev.now _)
noncomputable instance fitP_dec (s : Int) (tk g pl : List Int) (D p : Int) : Decidable (FitP s tk g pl D p) := Classical.propDecidable _
/-- all placings that begin with some places, in order -/
noncomputable def comps (s : Nat) (tk g : List Int) (D : Int) : Nat → List Int → List (List Int)
  | 0, pl => [pl]
  | e + 1, pl => (List.range' 0 s).flatMap fun p : Nat => if FitP (s : Int) tk g pl D (p : Int) then comps s tk g D e (pl ++ [(p : Int)]) else []
/-- a visitor goes on as long as it is told to -/
def runV {σ : Type} (vis : List Int → σ → Bool × σ) : List (List Int) → σ → Bool × σ
  | [], st => (true, st)
  | c :: cs, st => if (vis c st).1 = true then runV vis cs (vis c st).2 else (false, (vis c st).2)
theorem runV_one {σ : Type} (vis : List Int → σ → Bool × σ) (c : List Int) (st : σ) : runV vis [c] st = vis c st := by
  simp only [runV]
  rcases h : vis c st with ⟨b, s⟩
  cases b <;> simp
theorem runV_append {σ : Type} (vis : List Int → σ → Bool × σ) (a b : List (List Int)) (st : σ) : runV vis (a ++ b) st = if (runV vis a st).1 = true then runV vis b (runV vis a st).2 else (false, (runV vis a st).2) := by
  induction a generalizing st with
  | nil => simp [runV]
  | cons c cs ih =>
    simp only [List.cons_append, runV]
    by_cases h : (vis c st).1 = true
    · simp only [h, if_true]; exact ih _
    · simp [h]
theorem tkN_congr (tk g pl pl' : List Int) (i : Nat) (h : ∀ q, q < i → pl.getD q 0 = pl'.getD q 0) : tkN tk g pl i = tkN tk g pl' i := by
  induction i with
  | zero => rfl
  | succ i ih => simp only [tkN]; rw [ih (fun q hq => h q (by omega)), h i (by omega)]
theorem getD_snoc_lt (pl : List Int) (x : Int) (q : Nat) (h : q < pl.length) : (pl ++ [x]).getD q 0 = pl.getD q 0 := by
  rw [List.getD_eq_getElem?_getD, List.getD_eq_getElem?_getD, List.getElem?_append_left h]
theorem getD_snoc (pl : List Int) (x : Int) : (pl ++ [x]).getD pl.length 0 = x := by
  rw [List.getD_eq_getElem?_getD, List.getElem?_append_right (by omega)]; simp
def Vld (s : Nat) (g pl : List Int) : Prop := ∀ q, q < pl.length → 0 ≤ pl.getD q 0 ∧ pl.getD q 0 + g.getD q 0 ≤ (s : Int)
theorem vld_snoc {s : Nat} {tk g pl : List Int} {D : Int} {p : Int} (h : Vld s g pl) (hf : FitP (s : Int) tk g pl D p) : Vld s g (pl ++ [p]) := by
  intro q hq
  rw [List.length_append, List.length_singleton] at hq
  rcases Nat.lt_or_ge q pl.length with h1 | h1
  · rw [getD_snoc_lt pl p q h1]; exact h q h1
  · rw [show q = pl.length by omega, getD_snoc]
    have := hf.1
    unfold FitR at this; omega
theorem fitP_ok (s : Int) (tk g pl : List Int) (D p : Int) : PlOk s tk g (pl ++ [p]) D pl.length ↔ FitP s tk g pl D p := by
  unfold PlOk
  rw [List.take_left', getD_snoc]; rfl
theorem fill_ev {σ : Type} (vis : List Int → σ → Bool × σ) (s : Nat) (r : Bool) (tk g : List Int) (d : Int) (h : GrP (s : Int) r tk g d) (hgw : ∀ x ∈ g, x ≤ 9223372036854775807) :
    ∀ (e : Nat) (pl : List Int) (st : σ), pl.length + e = g.length → Vld s g pl → Ev (fun k => impl_Row_placings_1.f vis k pl ((tkN tk g pl pl.length : Nat) : Int) g r (s : Int) d tk st) (runV vis (comps s tk g (mn d s) e pl) st) := by
  obtain ⟨hrow, hr, hd, hg5, hg⟩ := h
  have hs := hrow.1
  have ht := hrow.2.2.1
  have hg1 : ∀ i, i < g.length → 1 ≤ g.getD i 0 ∧ g.getD i 0 ≤ 9223372036854775807 := fun i hi => by rw [getD_lt g i hi]; exact ⟨hg _ (List.getElem_mem hi), hgw _ (List.getElem_mem hi)⟩
  intro e
  induction e with
  | zero =>
    intro pl st hl hv
    refine Ev.succ ?_
    simp only [impl_Row_placings_1.f.eq_2]
    simp only [comps]
    rw [runV_one]
    exact Ev.pos (by omega) (Ev.now _)
  | succ e ih =>
    intro pl st hl hv
    refine Ev.succ ?_
    simp only [impl_Row_placings_1.f.eq_2]
    refine Ev.neg (by omega) ?_
    have hgi := hg1 pl.length (by omega)
    have hrange : ∀ (p : Int) q, q < pl.length → 0 ≤ (pl ++ [p]).getD q 0 ∧ (pl ++ [p]).getD q 0 + g.getD q 0 ≤ (s : Int) ∧ 1 ≤ g.getD q 0 := fun p q hq => by
      rw [getD_snoc_lt pl p q hq]
      have := hv q hq
      have := hg1 q (by omega)
      omega
    have hTe : ∀ p : Int, tkN tk g pl pl.length = tkN tk g (pl ++ [p]) pl.length := fun p => tkN_congr tk g _ _ _ (fun q hq => (getD_snoc_lt pl p q hq).symm)
    have loop : ∀ (m p : Nat) (st : σ), p + m = s → Ev (fun k => impl_Row_placings_1.l0 vis k pl ((tkN tk g pl pl.length : Nat) : Int) g r (s : Int) d tk (s : Int) (p : Int) st) (runV vis ((List.range' p m).flatMap fun p : Nat => if FitP (s : Int) tk g pl (mn d s) (p : Int) then comps s tk g (mn d s) e (pl ++ [(p : Int)]) else []) st) := by
      intro m
      induction m with
      | zero =>
        intro p st hp
        refine Ev.succ ?_
        simp only [impl_Row_placings_1.l0.eq_2]
        exact Ev.neg (by omega) (Ev.now _)
      | succ m ihm =>
        intro p st hp
        refine Ev.succ ?_
        simp only [impl_Row_placings_1.l0.eq_2]
        rw [rd_getD]
        refine Ev.pos (by omega) (Ev.pos (by omega) ?_)
        rw [List.range'_succ, List.flatMap_cons, runV_append]
        have hT := tkN_lt (s : Int) tk g (pl ++ [(p : Int)]) (by omega) ht pl.length (hrange (p : Int))
        have e1 : wrap64 ((p : Int) + 1) = ((p + 1 : Nat) : Int) := by rw [w64 (by omega) (by omega)]; omega
        by_cases hR : FitR (s : Int) (g.getD pl.length 0) (p : Int)
        · obtain ⟨c, hc⟩ := exists_bool (FitP (s : Int) tk g pl (mn d s) (p : Int))
          have hR' := hR
          unfold FitR at hR'
          refine Ev.bind (a := ((ivl (g.getD pl.length 0).toNat (p : Int).toNat : Int), c)) ?_ ?_
          · rw [hTe (p : Int)]
            refine group_ev s r tk (tkN tk g (pl ++ [(p : Int)]) pl.length) (g.getD pl.length 0) d (p : Int) (by omega) hT hgi.1 hd (by omega) (by omega) c ?_
            have hfree := group_free s tk g (pl ++ [(p : Int)]) (mn d s) (mn_bound d s hd).1 (by omega) ht pl.length (by simp) (hrange (p : Int)) (by rw [getD_snoc]; exact hR) hgi.1
            rw [getD_snoc, fitP_ok] at hfree
            rw [hc, hfree]
          · cases c with
            | true =>
              have hf := hc.mp rfl
              refine Ev.pos rfl ?_
              rw [if_pos hf]
              have hih := ih (pl ++ [(p : Int)]) st (by simp; omega) (vld_snoc hv hf)
              have e2 : ((tkN tk g (pl ++ [(p : Int)]) (pl ++ [(p : Int)]).length : Nat) : Int) = Go.bits .or .u32 ((tkN tk g pl pl.length : Nat) : Int) (ivl (g.getD pl.length 0).toNat (p : Int).toNat : Int) := by
                rw [List.length_append, List.length_singleton, tkN, getD_snoc, hTe (p : Int), (u32_nat _ _ hT (ivl_lt _ _ (by omega))).2]
              rw [e2] at hih
              refine Ev.bind hih ?_
              by_cases ho : (runV vis (comps s tk g (mn d s) e (pl ++ [(p : Int)])) st).1 = true
              · rw [if_pos ho, e1]
                exact Ev.pos ho (ihm (p + 1) _ (by omega))
              · rw [if_neg ho]
                exact Ev.neg ho (Ev.now _)
            | false =>
              have hf : ¬ FitP (s : Int) tk g pl (mn d s) (p : Int) := fun hn => absurd (hc.mpr hn) (by decide)
              rw [if_neg hf]
              simp only [runV, if_true]
              rw [e1]
              exact Ev.neg (by decide) (ihm (p + 1) _ (by omega))
        · have hf : ¬ FitP (s : Int) tk g pl (mn d s) (p : Int) := fun hn => hR hn.1
          rw [if_neg hf]
          simp only [runV, if_true]
          rw [e1]
          refine Ev.bind (group_no s r tk (tkN tk g pl pl.length) (g.getD pl.length 0) d (p : Int) (by omega) hgi.1 (by omega) (fun hc => hR ⟨hc.1, by omega, by omega⟩)) (Ev.neg (by decide) (ihm (p + 1) _ (by omega)))
    rw [comps]
    exact loop s 0 st (by omega)
theorem placings_ev {σ : Type} (vis : List Int → σ → Bool × σ) (s : Nat) (r : Bool) (tk g : List Int) (d : Int) (h : GrP (s : Int) r tk g d) (hgw : ∀ x ∈ g, x ≤ 9223372036854775807) (st : σ) :
    Ev (fun k => impl_Row_placings.f vis k (s : Int) r tk g d st) (runV vis (comps s tk g (mn d s) g.length []) st) := by
  have hrow := h.1
  have ht := hrow.2.2.1
  have hs := hrow.1
  have h32 : ∀ x ∈ tk, 0 ≤ x ∧ x < 32 := fun x hx => by have := ht x hx; omega
  have htl : tk.length ≤ 24 := by
    have := ph_nodup_len s tk (pairwise_nodup hrow.2.2.2) ht
    omega
  unfold impl_Row_placings.f
  refine Ev.bind (a := ((setN tk : Nat) : Int)) (by unfold impl_Row_taken.f; exact Ev.bind (f := fun _ t => some t) (setOf_ev tk h32 (by omega)) (Ev.now _)) ?_
  exact fill_ev vis s r tk g d h hgw g.length [] st (by simp) (fun q hq => by simp at hq)
theorem plOwn_eq (l : List Int) (h : l.length ≤ 1000) : spec_l1Own.f l = some l := by
  unfold spec_l1Own.f
  simp only [Option.bind_some, List.nil_append]
  rw [if_pos (by simp; omega)]
/-- what the search keeps: the first placing and how many there are -/
def stp (st : List Int × Int) (c : List Int) : List Int × Int := if st.2 = 0 then (c, wrap64 (st.2 + 1)) else (st.1, wrap64 (st.2 + 1))
theorem place_all (s : Nat) (r : Bool) (tk g : List Int) (d : Int) (h : GrP (s : Int) r tk g d) (htk : tk.length ≤ 35184372088832) (hgw : ∀ x ∈ g, x ≤ 9223372036854775807) :
    ∀ (e : Nat) (pl : List Int) (st : List Int × Int), pl.length + e = g.length → Vld s g pl → Ev (fun k => spec_l9Place.f k (s : Int) r tk g d pl false st.1 st.2) ((comps s tk g (mn d s) e pl).foldl stp st) := by
  obtain ⟨hrow, hr, hd, hg5, hg⟩ := h
  have hs := hrow.1
  have ht := hrow.2.2.1
  intro e
  induction e with
  | zero =>
    intro pl st hl hv
    refine Ev.succ ?_
    simp only [spec_l9Place.f.eq_2]
    simp only [comps, List.foldl_cons, List.foldl_nil, stp]
    refine Ev.pos (by omega) ?_
    by_cases h0 : st.2 = 0
    · exact Ev.pos h0 (by rw [if_pos h0]; exact Ev.now _)
    · exact Ev.neg h0 (by rw [if_neg h0]; exact Ev.now _)
  | succ e ih =>
    intro pl st hl hv
    refine Ev.succ ?_
    simp only [spec_l9Place.f.eq_2]
    refine Ev.neg (by omega) ?_
    have loop : ∀ (m p : Nat) (st : List Int × Int), p + m = s → Ev (fun k => spec_l9Place.l0 k g d pl false (p : Int) (s : Int) r tk st.1 st.2) (((List.range' p m).flatMap fun p : Nat => if FitP (s : Int) tk g pl (mn d s) (p : Int) then comps s tk g (mn d s) e (pl ++ [(p : Int)]) else []).foldl stp st) := by
      intro m
      induction m with
      | zero =>
        intro p st hp
        refine Ev.succ ?_
        simp only [spec_l9Place.l0.eq_2]
        refine Ev.neg (by omega) (Ev.succ ?_)
        simp only [spec_l9Place.j1.eq_2]
        exact Ev.neg (by decide) (Ev.now _)
      | succ m ihm =>
        intro p st hp
        refine Ev.succ ?_
        simp only [spec_l9Place.l0.eq_2]
        refine Ev.pos (by omega) (Ev.neg (by decide) (Ev.succ ?_))
        simp only [spec_l9Place.j1.eq_2]
        refine Ev.pos (by decide) ?_
        rw [List.range'_succ, List.flatMap_cons, List.foldl_append]
        have e1 : wrap64 ((p : Int) + 1) = ((p + 1 : Nat) : Int) := by rw [w64 (by omega) (by omega)]; omega
        obtain ⟨c, hc⟩ := exists_bool (FitP (s : Int) tk g pl (mn d s) (p : Int))
        refine Ev.bind (l9Fits_ev s r tk g pl d (p : Int) (by omega) htk hd (by omega) hg5.2 ht hg hgw hv c hc) ?_
        cases c with
        | true =>
          have hf := hc.mp rfl
          rw [if_pos hf, e1]
          refine Ev.pos rfl (Ev.bindc (plOwn_eq pl (by omega)) (Ev.bindc rfl (Ev.pos (by simp; omega) (Ev.bind (ih (pl ++ [(p : Int)]) st (by simp; omega) (vld_snoc hv hf)) ?_))))
          exact ihm (p + 1) _ (by omega)
        | false =>
          have hf : ¬ FitP (s : Int) tk g pl (mn d s) (p : Int) := fun hn => absurd (hc.mpr hn) (by decide)
          rw [if_neg hf, e1]
          exact Ev.neg (by decide) (ihm (p + 1) _ (by omega))
    rw [comps]
    exact loop s 0 st (by omega)
/-- the first one, if there is one -/
def fst1 (f : List Int) : List (List Int) → List Int × Int
  | [] => (f, 0)
  | c :: _ => (c, 1)
theorem fst1_append (f : List Int) (a b : List (List Int)) : fst1 f (a ++ b) = if a = [] then fst1 f b else fst1 f a := by
  cases a with
  | nil => simp
  | cons c cs => simp [fst1]
theorem place_one (s : Nat) (r : Bool) (tk g : List Int) (d : Int) (h : GrP (s : Int) r tk g d) (htk : tk.length ≤ 35184372088832) (hgw : ∀ x ∈ g, x ≤ 9223372036854775807) (f : List Int) :
    ∀ (e : Nat) (pl : List Int), pl.length + e = g.length → Vld s g pl → Ev (fun k => spec_l9Place.f k (s : Int) r tk g d pl true f 0) (fst1 f (comps s tk g (mn d s) e pl)) := by
  obtain ⟨hrow, hr, hd, hg5, hg⟩ := h
  have hs := hrow.1
  have ht := hrow.2.2.1
  intro e
  induction e with
  | zero =>
    intro pl hl hv
    refine Ev.succ ?_
    simp only [spec_l9Place.f.eq_2]
    simp only [comps, fst1]
    refine Ev.pos (by omega) (Ev.pos trivial ?_)
    rw [w64 (by omega) (by omega)]
    exact Ev.now _
  | succ e ih =>
    intro pl hl hv
    refine Ev.succ ?_
    simp only [spec_l9Place.f.eq_2]
    refine Ev.neg (by omega) ?_
    have over : ∀ (p : Nat) (c : List Int), p ≤ s → Ev (fun k => spec_l9Place.l0 k g d pl true (p : Int) (s : Int) r tk c 1) (c, 1) := by
      intro p c hp
      refine Ev.succ ?_
      simp only [spec_l9Place.l0.eq_2]
      have hj : Ev (fun n => spec_l9Place.j1 n g d pl true (p : Int) false (s : Int) r tk c 1) (c, 1) := by
        refine Ev.succ ?_
        simp only [spec_l9Place.j1.eq_2]
        exact Ev.neg (by decide) (Ev.now _)
      by_cases hps : (p : Int) < (s : Int)
      · exact Ev.pos hps (Ev.pos trivial hj)
      · exact Ev.neg hps hj
    have loop : ∀ (m p : Nat), p + m = s → Ev (fun k => spec_l9Place.l0 k g d pl true (p : Int) (s : Int) r tk f 0) (fst1 f ((List.range' p m).flatMap fun p : Nat => if FitP (s : Int) tk g pl (mn d s) (p : Int) then comps s tk g (mn d s) e (pl ++ [(p : Int)]) else [])) := by
      intro m
      induction m with
      | zero =>
        intro p hp
        refine Ev.succ ?_
        simp only [spec_l9Place.l0.eq_2]
        refine Ev.neg (by omega) (Ev.succ ?_)
        simp only [spec_l9Place.j1.eq_2]
        exact Ev.neg (by decide) (Ev.now _)
      | succ m ihm =>
        intro p hp
        refine Ev.succ ?_
        simp only [spec_l9Place.l0.eq_2]
        refine Ev.pos (by omega) (Ev.pos trivial (Ev.succ ?_))
        simp only [spec_l9Place.j1.eq_2]
        refine Ev.pos (by decide) ?_
        rw [List.range'_succ, List.flatMap_cons, fst1_append]
        have e1 : wrap64 ((p : Int) + 1) = ((p + 1 : Nat) : Int) := by rw [w64 (by omega) (by omega)]; omega
        obtain ⟨c, hc⟩ := exists_bool (FitP (s : Int) tk g pl (mn d s) (p : Int))
        refine Ev.bind (l9Fits_ev s r tk g pl d (p : Int) (by omega) htk hd (by omega) hg5.2 ht hg hgw hv c hc) ?_
        cases c with
        | true =>
          have hf := hc.mp rfl
          rw [if_pos hf, e1]
          refine Ev.pos rfl (Ev.bindc (plOwn_eq pl (by omega)) (Ev.bindc rfl (Ev.pos (by simp; omega) (Ev.bind (ih (pl ++ [(p : Int)]) (by simp; omega) (vld_snoc hv hf)) ?_))))
          by_cases h0 : comps s tk g (mn d s) e (pl ++ [(p : Int)]) = []
          · rw [if_pos h0, h0]
            exact ihm (p + 1) (by omega)
          · rw [if_neg h0]
            cases hcs : comps s tk g (mn d s) e (pl ++ [(p : Int)]) with
            | nil => exact absurd hcs h0
            | cons c cs => exact over (p + 1) c (by omega)
        | false =>
          have hf : ¬ FitP (s : Int) tk g pl (mn d s) (p : Int) := fun hn => absurd (hc.mpr hn) (by decide)
          rw [if_neg hf, e1, if_pos rfl]
          exact Ev.neg (by decide) (ihm (p + 1) (by omega))
    rw [comps]
    exact loop s 0 (by omega)
/-- a list of bytes -/
def Bytes8 (l : List Int) : Prop := ∀ x ∈ l, 0 ≤ x ∧ x ≤ 255
theorem and255 (x : Int) (h0 : 0 ≤ x) (h1 : x < 4294967296) : 0 ≤ Go.bits .and .u64 x 255 ∧ Go.bits .and .u64 x 255 ≤ 255 := by
  have h := (bits_nat .u64 64 (by decide) (fun n h0 h1 => by rw [IntKind.wrap_u64]; omega) x.toNat 255 (by omega) (by omega)).1
  rw [Int.toNat_of_nonneg h0] at h
  rw [show (255 : Int) = ((255 : Nat) : Int) from rfl, h]
  have := Nat.and_le_right (n := x.toNat) (m := 255)
  omega
theorem u64_range (x : Int) : 0 ≤ IntKind.u64.wrap x ∧ IntKind.u64.wrap x < 18446744073709551616 := by
  rw [IntKind.wrap_u64]; omega
theorem next_ok (s : List Int) (hs : Bytes8 s) (hl : s.length ≤ 1000000) (p st : Int) (h0 : 0 ≤ p) (h1 : p ≤ 1000000) :
    ∃ v q, spec_l1Cur_next.f s p st = some (v, p + 1, q) ∧ 0 ≤ v ∧ v ≤ 255 := by
  unfold spec_l1Cur_next.f
  have hw : wrap64 (p + 1) = p + 1 := w64 (by omega) (by omega)
  rw [hw]
  have hand : ∀ y : Int, 0 ≤ wrap64 (Go.bits .and .u64 (IntKind.u64.wrap y / 1099511627776) 255) ∧ wrap64 (Go.bits .and .u64 (IntKind.u64.wrap y / 1099511627776) 255) ≤ 255 := fun y => by
    have h := u64_range y
    have := and255 (IntKind.u64.wrap y / 1099511627776) (by omega) (by omega)
    rw [w64 (by omega) (by omega)]; exact this
  by_cases c : p < (s.length : Int)
  · rw [if_pos c, if_pos h0]
    have hm : rd s p ∈ s := by
      obtain ⟨n, rfl⟩ : ∃ n : Nat, p = (n : Int) := ⟨p.toNat, by omega⟩
      rw [rd_nat s n (by omega)]; exact List.getElem_mem _
    have hv := hs _ hm
    by_cases d : p + 1 ≤ (s.length : Int)
    · rw [if_pos d]; exact ⟨_, _, rfl, by rw [w64 (by omega) (by omega)]; exact hv⟩
    · rw [if_neg d]; exact ⟨_, _, rfl, hand _⟩
  · rw [if_neg c]
    by_cases d : p + 1 ≤ (s.length : Int)
    · rw [if_pos d]; exact ⟨_, _, rfl, by omega, by omega⟩
    · rw [if_neg d]; exact ⟨_, _, rfl, hand _⟩
theorem pick_ok (s : List Int) (hs : Bytes8 s) (hl : s.length ≤ 1000000) (p st a : Int) (h0 : 0 ≤ p) (h1 : p ≤ 1000000) (ha : a ≤ 200) :
    ∃ v p' q, spec_l1Cur_pick.f s p st a = some (v, p', q) ∧ 0 ≤ v ∧ (v < a ∨ v = 0) ∧ p ≤ p' ∧ p' ≤ p + 1 := by
  unfold spec_l1Cur_pick.f
  by_cases c : a ≤ 1
  · rw [if_pos c]; exact ⟨_, _, _, rfl, by omega, .inr rfl, by omega, by omega⟩
  · rw [if_neg c]
    obtain ⟨v, q, e, hv0, hv1⟩ := next_ok s hs hl p st h0 h1
    rw [e]
    simp only [Option.bind_some]
    rw [if_neg (by omega), if_neg (by omega)]
    refine ⟨_, _, _, rfl, Int.tmod_nonneg _ hv0, .inl ?_, by omega, by omega⟩
    exact Int.tmod_lt_of_pos _ (by omega)
theorem among_ok (s : List Int) (hs : Bytes8 s) (hl : s.length ≤ 1000000) (p st : Int) (l : List Int) (h0 : 0 ≤ p) (h1 : p ≤ 1000000) (hn : 0 < l.length) (hm : l.length ≤ 200) :
    ∃ v p' q, spec_l1Cur_among.f s p st l = some (v, p', q) ∧ v ∈ l ∧ p ≤ p' ∧ p' ≤ p + 1 := by
  unfold spec_l1Cur_among.f
  obtain ⟨v, p', q, e, hv0, hv1, hp0, hp1⟩ := pick_ok s hs hl p st (l.length : Int) h0 h1 (by omega)
  rw [e]
  simp only [Option.bind_some]
  have hv : v < (l.length : Int) := by omega
  rw [if_pos hv0, if_pos hv]
  refine ⟨_, _, _, rfl, ?_, hp0, hp1⟩
  obtain ⟨n, rfl⟩ : ∃ n : Nat, v = (n : Int) := ⟨v.toNat, by omega⟩
  rw [rd_nat l n (by omega)]; exact List.getElem_mem _
theorem vInts_refl (l : List Int) (hL : l.length ≤ 1000000) : Ev (fun k => laws_vInts.f k l l) true := by
  have key : ∀ n i, i + n = l.length → Ev (fun k => laws_vInts.l0 k l l (i : Int)) true := by
    intro n
    induction n with
    | zero =>
      intro i hi
      refine Ev.succ ?_
      simp only [laws_vInts.l0.eq_2]
      exact Ev.neg (by omega) (Ev.now _)
    | succ n ih =>
      intro i hi
      refine Ev.succ ?_
      simp only [laws_vInts.l0.eq_2]
      rw [w64 (n := (i : Int) + 1) (by omega) (by omega)]
      exact Ev.pos (by omega) (Ev.pos (by omega) (Ev.pos (by omega) (Ev.pos trivial (ih (i + 1) (by omega)))))
  unfold laws_vInts.f
  exact Ev.pos rfl (key l.length 0 (by omega))
theorem vRow_refl (S : Int) (r : Bool) (l : List Int) (hL : l.length ≤ 1000000) : Ev (fun k => laws_vRow.f k S r l S r l) true := by
  unfold laws_vRow.f
  exact Ev.pos rfl (Ev.pos (by simp) (Ev.bind (vInts_refl l hL) (Ev.now _)))
theorem vHas_mem (l : List Int) (x : Int) (hL : l.length ≤ 1000000) (hx : x ∈ l) : Ev (fun k => laws_vHas.f k l x) true := by
  have key : ∀ n i, i + n = l.length → x ∈ l.drop i → Ev (fun k => laws_vHas.l0 k l x (i : Int)) true := by
    intro n
    induction n with
    | zero => intro i hi h; rw [List.drop_eq_nil_of_le (by omega)] at h; cases h
    | succ n ih =>
      intro i hi h
      refine Ev.succ ?_
      simp only [laws_vHas.l0.eq_2]
      rw [rd_nat l i (by omega), w64 (n := (i : Int) + 1) (by omega) (by omega)]
      refine Ev.pos (by omega) (Ev.pos (by omega) ?_)
      by_cases c : l[i] = x
      · exact Ev.pos c (Ev.now _)
      · refine Ev.neg c (ih (i + 1) (by omega) ?_)
        rw [List.drop_eq_getElem_cons (by omega)] at h
        rcases List.mem_cons.mp h with e | e
        · exact absurd e.symm c
        · exact e
  unfold laws_vHas.f
  exact key l.length 0 (by omega) hx
theorem vCut_ok (l : List Int) (hs : Bytes8 l) (hl : l.length ≤ 65536) : ∃ c, laws_vCut.f l 1 = some c ∧ Bytes8 c ∧ c.length ≤ 65537 := by
  unfold laws_vCut.f
  by_cases c : (1 : Int) > (l.length : Int)
  · have h0 : l = [] := List.length_eq_zero_iff.mp (by omega)
    subst h0
    exact ⟨[0], rfl, fun x hx => by simp at hx; omega, by simp⟩
  · rw [if_neg c]
    simp only [Option.bind_some, List.nil_append, List.length_nil]
    rw [if_pos (by omega), if_pos (by omega), if_pos (by simp only [List.length_drop]; omega), if_pos (by simp only [List.length_drop]; omega)]
    refine ⟨_, rfl, fun x hx => ?_, by simp only [List.length_append, List.length_drop, List.length_singleton]; omega⟩
    rcases List.mem_append.mp hx with h | h
    · exact hs x (List.mem_of_mem_drop h)
    · simp at h; omega
theorem one_ok (s : List Int) (hs : Bytes8 s) (hl : s.length ≤ 1000000) (p st a : Int) (h0 : 0 ≤ p) (h1 : p ≤ 1000000) (ha : a ≤ 200) :
    ∃ b p' q, spec_l1Cur_one.f s p st a = some (b, p', q) ∧ p ≤ p' ∧ p' ≤ p + 1 := by
  obtain ⟨v, p', q, e, _, _, h2, h3⟩ := pick_ok s hs hl p st a h0 h1 ha
  refine ⟨v == 0, p', q, ?_, h2, h3⟩
  unfold spec_l1Cur_one.f
  rw [e]; rfl
theorem seats_ok (s : List Int) (hs : Bytes8 s) (hl : s.length ≤ 1000000) (p st : Int) (h0 : 0 ≤ p) (h1 : p ≤ 900000) :
    ∃ v p' q, spec_l1Cur_seats.f s p st = some (v, p', q) ∧ p ≤ p' ∧ p' ≤ p + 2 := by
  obtain ⟨b, p1, q1, e1, h2, h3⟩ := one_ok s hs hl p st 40 h0 (by omega) (by decide)
  unfold spec_l1Cur_seats.f
  rw [e1]
  simp only [Option.bind_some]
  by_cases c : b = true
  · obtain ⟨v, p2, q2, e2, _, h4, h5⟩ := among_ok s hs hl p1 q1 [1, 2, 24, 25, 0, (-1), 4611686018427387904] (by omega) (by omega) (by decide) (by decide)
    rw [if_pos c, e2]
    exact ⟨v, p2, q2, rfl, by omega, by omega⟩
  · obtain ⟨v, p2, q2, e2, _, h4, h5⟩ := among_ok s hs hl p1 q1 [6, 8, 5, 10, 7, 3, 12, 4, 20, 24] (by omega) (by omega) (by decide) (by decide)
    rw [if_neg c, e2]
    exact ⟨v, p2, q2, rfl, by omega, by omega⟩
theorem freeRow_ok (s : List Int) (hs : Bytes8 s) (hl : s.length ≤ 1000000) (p st : Int) (h0 : 0 ≤ p) (h1 : p ≤ 800000) :
    ∃ v b p' q, spec_l1Cur_freeRow.f s p st = some (v, b, ([] : List Int), p', q) ∧ p ≤ p' ∧ p' ≤ p + 4 := by
  obtain ⟨v, p1, q1, e1, h2, h3⟩ := seats_ok s hs hl p st h0 (by omega)
  obtain ⟨b, p2, q2, e2, h4, h5⟩ := one_ok s hs hl p1 q1 2 (by omega) (by omega) (by decide)
  obtain ⟨b3, p3, q3, e3, h6, h7⟩ := one_ok s hs hl p2 q2 4 (by omega) (by omega) (by decide)
  unfold spec_l1Cur_freeRow.f
  rw [e1]
  simp only [Option.bind_some]
  rw [e2]
  simp only [Option.bind_some]
  by_cases c : b = true
  · rw [if_pos c]
    by_cases c2 : v = 2
    · rw [if_pos c2, e3]
      simp only [Option.bind_some]
      by_cases c3 : b3 = true
      · rw [if_pos c3]; exact ⟨_, _, _, _, rfl, by omega, by omega⟩
      · rw [if_neg c3]; exact ⟨_, _, _, _, rfl, by omega, by omega⟩
    · rw [if_neg c2]; exact ⟨_, _, _, _, rfl, by omega, by omega⟩
  · rw [if_neg c]; exact ⟨_, _, _, _, rfl, by omega, by omega⟩
theorem row3_ok (s : List Int) (hs : Bytes8 s) (hl : s.length ≤ 1000000) (p st : Int) (h0 : 0 ≤ p) (h1 : p ≤ 800000) (S : Int) (R : Bool) (l : List Int) (hL : l.length ≤ 30) :
    ∃ q : Int × Bool × List Int × Int × Int, Ev (fun k => spec_l1Cur_row.j3 k s p st S R l) q ∧ q.2.2.1.length ≤ 31 ∧ p ≤ q.2.2.2.1 ∧ q.2.2.2.1 ≤ p + 2 := by
  obtain ⟨b, p1, q1, e1, h2, h3⟩ := one_ok s hs hl p st 40 h0 (by omega) (by decide)
  obtain ⟨v, p2, q2, e2, _, h4, h5⟩ := among_ok s hs hl p1 q1 [(-1), 0, S, 4611686018427387904] (by omega) (by omega) (by simp) (by simp)
  by_cases c : b = true
  · refine ⟨(S, R, l ++ [v], p2, q2), Ev.succ ?_, ?_⟩
    · simp only [spec_l1Cur_row.j3.eq_2]
      exact Ev.bindc e1 (Ev.pos c (Ev.bindc e2 (Ev.pos (by omega) (Ev.now _))))
    · simp only [List.length_append, List.length_singleton]; omega
  · refine ⟨(S, R, l, p1, q1), Ev.succ ?_, ?_⟩
    · simp only [spec_l1Cur_row.j3.eq_2]
      exact Ev.bindc e1 (Ev.neg c (Ev.now _))
    · simp only; omega
theorem OtherSeats_some (S : Int) (R : Bool) (l : List Int) (h : IsRw S R l) : ∃ q : Int × Bool × List Int × Bool, Ev (fun k => spec_OtherSeats.f k S R l) q ∧ q.2.2.1.length ≤ 24 := by
  have hlen := rw_len h
  obtain ⟨m, rfl⟩ : ∃ m : Nat, S = (m : Int) := ⟨S.toNat, by have := h.1; omega⟩
  have hs := h.1
  refine ⟨((m : Int), R, restL m l, true), ?_, ?_⟩
  · unfold spec_OtherSeats.f
    exact Ev.bind (l2Row_ev _ R l (by omega) true ⟨fun _ => h, fun _ => rfl⟩) (Ev.pos rfl (Ev.bind (l2Free_ev m R l (by omega) (by omega)) (Ev.bindc rfl (Ev.now _))))
  · have := restL_len m l
    simp only; omega
theorem row2_ok (s : List Int) (hs : Bytes8 s) (hl : s.length ≤ 1000000) (p st : Int) (h0 : 0 ≤ p) (h1 : p ≤ 800000) (S : Int) (R : Bool) (l : List Int) (hL : l.length ≤ 30) (b : Bool) (hb : b = true → IsRw S R l) :
    ∃ q : Int × Bool × List Int × Int × Int, Ev (fun k => spec_l1Cur_row.j2 k b s p st S R l) q ∧ q.2.2.1.length ≤ 31 ∧ p ≤ q.2.2.2.1 ∧ q.2.2.2.1 ≤ p + 2 := by
  by_cases c : b = true
  · obtain ⟨q, hq, hq2⟩ := OtherSeats_some S R l (hb c)
    obtain ⟨r, hr, hr2⟩ := row3_ok s hs hl p st h0 h1 q.1 q.2.1 q.2.2.1 (by omega)
    refine ⟨r, Ev.succ ?_, hr2⟩
    simp only [spec_l1Cur_row.j2.eq_2]
    exact Ev.pos c (Ev.bind hq hr)
  · obtain ⟨r, hr, hr2⟩ := row3_ok s hs hl p st h0 h1 S R l hL
    refine ⟨r, Ev.succ ?_, hr2⟩
    simp only [spec_l1Cur_row.j2.eq_2]
    exact Ev.neg c hr
theorem row1f_ok (s : List Int) (hs : Bytes8 s) (hl : s.length ≤ 1000000) (p st : Int) (h0 : 0 ≤ p) (h1 : p ≤ 700000) (x4 x5 S : Int) (R : Bool) (l : List Int) (hL : l.length ≤ 30) :
    ∃ q : Int × Bool × List Int × Int × Int, Ev (fun k => spec_l1Cur_row.j1 k x4 x5 false s p st S R l) q ∧ q.2.2.1.length ≤ 31 ∧ p ≤ q.2.2.2.1 ∧ q.2.2.2.1 ≤ p + 3 := by
  obtain ⟨b, p1, q1, e1, h2, h3⟩ := one_ok s hs hl p st 6 h0 (by omega) (by decide)
  by_cases c : b = true
  · obtain ⟨t, ht⟩ := exists_bool (IsRw S R l)
    obtain ⟨r, hr, hr2, hr3, hr4⟩ := row2_ok s hs hl p1 q1 (by omega) (by omega) S R l hL t ht.mp
    refine ⟨r, Ev.succ ?_, hr2, by omega, by omega⟩
    simp only [spec_l1Cur_row.j1.eq_2]
    exact Ev.neg (by decide) (Ev.bindc e1 (Ev.pos c (Ev.bind (l2Row_ev S R l (by omega) t ht) hr)))
  · obtain ⟨r, hr, hr2, hr3, hr4⟩ := row2_ok s hs hl p1 q1 (by omega) (by omega) S R l hL false (fun h => by cases h)
    refine ⟨r, Ev.succ ?_, hr2, by omega, by omega⟩
    simp only [spec_l1Cur_row.j1.eq_2]
    exact Ev.neg (by decide) (Ev.bindc e1 (Ev.neg c hr))
theorem row0_ok (s : List Int) (hs : Bytes8 s) (hl : s.length ≤ 1000000) (x4 S : Int) (R : Bool) (h4 : x4 ≤ 200) : ∀ (n i : Nat) (l : List Int) (p st : Int), i + n = 25 → l.length ≤ i → 0 ≤ p → p ≤ 600000 - n →
    ∃ q : Int × Bool × List Int × Int × Int, Ev (fun k => spec_l1Cur_row.l0 k x4 (i : Int) s p st S R l) q ∧ q.2.2.1.length ≤ 31 ∧ p ≤ q.2.2.2.1 ∧ q.2.2.2.1 ≤ p + n + 3 := by
  intro n
  induction n with
  | zero =>
    intro i l p st hi hL h0 h1
    obtain ⟨r, hr, hr2, hr3, hr5⟩ := row1f_ok s hs hl p st h0 (by omega) x4 (i : Int) S R l (by omega)
    refine ⟨r, Ev.succ ?_, hr2, by omega, by omega⟩
    simp only [spec_l1Cur_row.l0.eq_2]
    by_cases c : (i : Int) < S
    · rw [show decide ((i : Int) < 25) = false by simp; omega]
      exact Ev.pos c hr
    · exact Ev.neg c hr
  | succ n ih =>
    intro i l p st hi hL h0 h1
    by_cases c : (i : Int) < S
    · obtain ⟨b, p1, q1, e1, h2, h3⟩ := one_ok s hs hl p st x4 h0 (by omega) h4
      by_cases cb : b = true
      · obtain ⟨r, hr, hr2, hr3, hr5⟩ := ih (i + 1) (l ++ [(i : Int)]) p1 q1 (by omega) (by simp; omega) (by omega) (by omega)
        refine ⟨r, Ev.succ ?_, hr2, by omega, by omega⟩
        simp only [spec_l1Cur_row.l0.eq_2]
        rw [show decide ((i : Int) < 25) = true by simp; omega]
        refine Ev.pos c (Ev.succ ?_)
        simp only [spec_l1Cur_row.j1.eq_2]
        rw [w64 (n := (i : Int) + 1) (by omega) (by omega)]
        exact Ev.pos trivial (Ev.bindc e1 (Ev.pos cb (Ev.pos (by omega) hr)))
      · obtain ⟨r, hr, hr2, hr3, hr5⟩ := ih (i + 1) l p1 q1 (by omega) (by omega) (by omega) (by omega)
        refine ⟨r, Ev.succ ?_, hr2, by omega, by omega⟩
        simp only [spec_l1Cur_row.l0.eq_2]
        rw [show decide ((i : Int) < 25) = true by simp; omega]
        refine Ev.pos c (Ev.succ ?_)
        simp only [spec_l1Cur_row.j1.eq_2]
        rw [w64 (n := (i : Int) + 1) (by omega) (by omega)]
        exact Ev.pos trivial (Ev.bindc e1 (Ev.neg cb hr))
    · obtain ⟨r, hr, hr2, hr3, hr5⟩ := row1f_ok s hs hl p st h0 (by omega) x4 (i : Int) S R l (by omega)
      refine ⟨r, Ev.succ ?_, hr2, by omega, by omega⟩
      simp only [spec_l1Cur_row.l0.eq_2]
      exact Ev.neg c hr
theorem row_ok (s : List Int) (hs : Bytes8 s) (hl : s.length ≤ 1000000) (p st : Int) (h0 : 0 ≤ p) (h1 : p ≤ 500000) :
    ∃ q : Int × Bool × List Int × Int × Int, Ev (fun k => spec_l1Cur_row.f k s p st) q ∧ q.2.2.1.length ≤ 31 ∧ p ≤ q.2.2.2.1 ∧ q.2.2.2.1 ≤ p + 40 := by
  obtain ⟨v, b, p1, q1, e1, h2, h3⟩ := freeRow_ok s hs hl p st h0 (by omega)
  obtain ⟨x, p2, q2, e2, hx, h4, h5⟩ := among_ok s hs hl p1 q1 [3, 2, 5] (by omega) (by omega) (by decide) (by decide)
  obtain ⟨r, hr, hr2, hr3, hr4⟩ := row0_ok s hs hl x v b (by simp only [List.mem_cons, List.not_mem_nil, or_false] at hx; omega) 25 0 [] p2 q2 (by omega) (by simp) (by omega) (by omega)
  refine ⟨r, ?_, hr2, by omega, by omega⟩
  unfold spec_l1Cur_row.f
  exact Ev.bindc e1 (Ev.bindc e2 hr)
theorem put_some (l : List Int) (x : Int) (hl : l.length ≤ 1000) : ∃ l' : List Int, Ev (fun k => spec_l1Put.f k l x) l' ∧ l'.length ≤ l.length + 1 := by
  have key : ∀ n i, i + n = l.length → ∃ l' : List Int, Ev (fun k => spec_l1Put.l0 k l x (i : Int)) l' ∧ l'.length ≤ l.length + 1 := by
    intro n
    induction n with
    | zero =>
      intro i hi
      refine ⟨(([] ++ l.take ((i : Int)).toNat) ++ [x]) ++ l.drop ((i : Int)).toNat, Ev.succ ?_, ?_⟩
      · simp only [spec_l1Put.l0.eq_2]
        refine Ev.neg (by omega) (Ev.bindc rfl (Ev.pos (by omega) (Ev.pos (by omega) (Ev.bindc rfl (Ev.pos ?_ (Ev.bindc rfl (Ev.bindc rfl (Ev.pos ?_ (Ev.bindc rfl (Ev.bindc rfl (Ev.pos ?_ (Ev.now _)))))))))))) <;> (simp only [List.length_append, List.length_take, List.length_drop, List.length_singleton, List.length_nil]; omega)
      · simp only [List.length_append, List.length_take, List.length_drop, List.length_singleton, List.length_nil]; omega
    | succ n ih =>
      intro i hi
      by_cases c1 : rd l (i : Int) < x
      · obtain ⟨l', h1, h2⟩ := ih (i + 1) (by omega)
        refine ⟨l', Ev.succ ?_, h2⟩
        simp only [spec_l1Put.l0.eq_2]
        rw [w64 (n := (i : Int) + 1) (by omega) (by omega)]
        exact Ev.pos (by omega) (Ev.pos (by omega) (Ev.pos c1 h1))
      · by_cases c2 : rd l (i : Int) = x
        · refine ⟨l, Ev.succ ?_, by omega⟩
          simp only [spec_l1Put.l0.eq_2]
          exact Ev.pos (by omega) (Ev.pos (by omega) (Ev.neg c1 (Ev.pos c2 (Ev.now _))))
        · refine ⟨(([] ++ l.take ((i : Int)).toNat) ++ [x]) ++ l.drop ((i : Int)).toNat, Ev.succ ?_, ?_⟩
          · simp only [spec_l1Put.l0.eq_2]
            refine Ev.pos (by omega) (Ev.pos (by omega) (Ev.neg c1 (Ev.neg c2 (Ev.bindc rfl (Ev.pos (by omega) (Ev.bindc rfl (Ev.pos ?_ (Ev.bindc rfl (Ev.bindc rfl (Ev.pos ?_ (Ev.bindc rfl (Ev.bindc rfl (Ev.pos ?_ (Ev.now _)))))))))))))) <;> (simp only [List.length_append, List.length_take, List.length_drop, List.length_singleton, List.length_nil]; omega)
          · simp only [List.length_append, List.length_take, List.length_drop, List.length_singleton, List.length_nil]; omega
  exact key l.length 0 (by omega)
theorem with_some (S : Int) (R : Bool) (l : List Int) (x : Int) (hl : l.length ≤ 1000) : ∃ l' : List Int, Ev (fun k => spec_l2With.f k S R l x) (S, R, l') ∧ l'.length ≤ l.length + 1 := by
  obtain ⟨l', h1, h2⟩ := put_some l x hl
  refine ⟨l', ?_, h2⟩
  unfold spec_l2With.f
  exact Ev.bindc (l1Own_eq l (by omega)) (Ev.bind h1 (Ev.bindc rfl (Ev.now _)))
theorem sparse0_ok (s : List Int) (hs : Bytes8 s) (hl : s.length ≤ 1000000) (S : Int) (R : Bool) : ∀ (n : Nat) (l : List Int) (p st : Int), l.length + n ≤ 30 → 0 ≤ p → p ≤ 600000 - n →
    ∃ q : Int × Bool × List Int × Int × Int, Ev (fun k => spec_l1Cur_sparse3.l0 k (n : Int) s p st S R l) q ∧ q.2.2.1.length ≤ 31 ∧ p ≤ q.2.2.2.1 ∧ q.2.2.2.1 ≤ p + n := by
  intro n
  induction n with
  | zero =>
    intro l p st hL h0 h1
    refine ⟨(S, R, l, p, st), Ev.succ ?_, by simp only; omega, by simp, by simp⟩
    simp only [spec_l1Cur_sparse3.l0.eq_2]
    refine Ev.neg (by omega) (Ev.succ ?_)
    simp only [spec_l1Cur_sparse3.j1.eq_2]
    exact Ev.neg (by decide) (Ev.now _)
  | succ n ih =>
    intro l p st hL h0 h1
    obtain ⟨t, ht⟩ := exists_bool (IsRw S R l)
    cases t with
    | true =>
      have hw := (ht.mp rfl).1
      obtain ⟨v, p1, q1, e1, _, _, h2, h3⟩ := pick_ok s hs hl p st S h0 (by omega) (by omega)
      obtain ⟨l', h4, h5⟩ := with_some S R l v (by omega)
      obtain ⟨r, hr, hr2, hr3, hr4⟩ := ih l' p1 q1 (by omega) (by omega) (by omega)
      refine ⟨r, Ev.succ ?_, hr2, by omega, by omega⟩
      simp only [spec_l1Cur_sparse3.l0.eq_2]
      refine Ev.pos (by omega) (Ev.bind (l2Row_ev S R l (by omega) true ht) (Ev.succ ?_))
      simp only [spec_l1Cur_sparse3.j1.eq_2]
      rw [w64 (n := ((n + 1 : Nat) : Int) - 1) (by omega) (by omega), show ((n + 1 : Nat) : Int) - 1 = (n : Int) by omega]
      exact Ev.pos trivial (Ev.bindc e1 (Ev.bind h4 hr))
    | false =>
      refine ⟨(S, R, l, p, st), Ev.succ ?_, by simp only; omega, by simp, by simp only; omega⟩
      simp only [spec_l1Cur_sparse3.l0.eq_2]
      refine Ev.pos (by omega) (Ev.bind (l2Row_ev S R l (by omega) false ht) (Ev.succ ?_))
      simp only [spec_l1Cur_sparse3.j1.eq_2]
      exact Ev.neg (by decide) (Ev.now _)
theorem sparse_ok (s : List Int) (hs : Bytes8 s) (hl : s.length ≤ 1000000) (p st : Int) (h0 : 0 ≤ p) (h1 : p ≤ 400000) :
    ∃ q : Int × Bool × List Int × Int × Int, Ev (fun k => spec_l1Cur_sparse3.f k s p st) q ∧ q.2.2.1.length ≤ 31 ∧ p ≤ q.2.2.2.1 ∧ q.2.2.2.1 ≤ p + 60 := by
  obtain ⟨v, b, p1, q1, e1, h2, h3⟩ := freeRow_ok s hs hl p st h0 (by omega)
  obtain ⟨b2, p2, q2, e2, h4, h5⟩ := one_ok s hs hl p1 q1 4 (by omega) (by omega) (by decide)
  by_cases c : b2 = true
  · obtain ⟨r, hr, hr2, hr3, hr4⟩ := row_ok s hs hl p2 q2 (by omega) (by omega)
    refine ⟨(r.1, r.2.1, r.2.2.1, r.2.2.2.1, r.2.2.2.2), ?_, hr2, by simp only; omega, by simp only; omega⟩
    unfold spec_l1Cur_sparse3.f
    exact Ev.bindc e1 (Ev.bindc e2 (Ev.pos c (Ev.bind hr (Ev.now _))))
  · obtain ⟨x, p3, q3, e3, hx0, hx1, h6, h7⟩ := pick_ok s hs hl p2 q2 4 (by omega) (by omega) (by decide)
    obtain ⟨m, rfl⟩ : ∃ m : Nat, x = (m : Int) := ⟨x.toNat, by omega⟩
    obtain ⟨r, hr, hr2, hr3, hr4⟩ := sparse0_ok s hs hl v b m [] p3 q3 (by simp; omega) (by omega) (by omega)
    refine ⟨r, ?_, hr2, by omega, by omega⟩
    unfold spec_l1Cur_sparse3.f
    exact Ev.bindc e1 (Ev.bindc e2 (Ev.neg c (Ev.bindc e3 hr)))
theorem ivl_zero (p : Nat) : ivl 0 p = 0 := by unfold ivl; simp
theorem ivl_succ (n p : Nat) : ivl n p ||| 2 ^ (p + n) = ivl (n + 1) p := by
  refine Nat.eq_of_testBit_eq (fun j => ?_)
  rw [Nat.testBit_or, ivl_bit, ivl_bit, Nat.testBit_two_pow]
  rw [Bool.eq_iff_iff]
  simp only [Bool.or_eq_true, Bool.and_eq_true, decide_eq_true_eq]
  omega
/-- what the groups so far leave free is free of them -/
theorem free_bit (s : Nat) (tk g pl : List Int) (D : Int) (hD : 0 ≤ D) (ht : ∀ x ∈ tk, 0 ≤ x ∧ x < (s : Int)) (i : Nat) (hpl : i < pl.length) (h : ∀ q, q < i → 0 ≤ pl.getD q 0 ∧ 1 ≤ g.getD q 0) (hok : PlOk (s : Int) tk g pl D i) (j : Nat)
    (h1 : pl.getD i 0 ≤ (j : Int)) (h2 : (j : Int) < pl.getD i 0 + g.getD i 0) : (tkN tk g pl i).testBit j = false := by
  rw [Bool.eq_false_iff]
  intro hb
  obtain ⟨_, h3, h4⟩ := (plOk_iff _ _ _ _ _ _ hpl).mp hok
  rcases (tkN_bit tk g pl i j).mp hb with ⟨x, hx, e⟩ | ⟨q, hq, h6, h7⟩
  · obtain ⟨q, hq, rfl⟩ := List.mem_iff_getElem.mp hx
    have := h3 q hq
    unfold FitT at this
    rw [getD_lt tk q hq] at this
    have := ht _ hx
    omega
  · have := h4 q hq
    unfold FitG at this
    have := h q hq
    omega
theorem place_loops (s : Nat) (r : Bool) (tk g pl : List Int) (d : Int) (h : GrP (s : Int) r tk g d) (hlen : pl.length = g.length) (hok : ∀ i, i < pl.length → PlOk (s : Int) tk g pl (mn d s) i) :
    ∀ e i, i + e = pl.length → ∀ L, Seats s L (tkN tk g pl i) → Ev (fun k => spec_PlaceRow.l0 k g pl (i : Int) (s : Int) r L) ((s : Int), r, listN (tkN tk g pl pl.length), true) := by
  obtain ⟨hrow, hr, hd, hg5, hg⟩ := h
  have hs := hrow.1
  have ht := hrow.2.2.1
  have hg1 : ∀ i, i < g.length → 1 ≤ g.getD i 0 := fun i hi => by rw [getD_lt g i hi]; exact hg _ (List.getElem_mem hi)
  intro e
  induction e with
  | zero =>
    intro i hi L hL
    obtain rfl : i = pl.length := by omega
    refine Ev.succ ?_
    simp only [spec_PlaceRow.l0.eq_2]
    rw [← hL.2.2, listN_setN L (fun x hx => by have := hL.2.1 x hx; omega) hL.1]
    exact Ev.neg (by omega) (Ev.now _)
  | succ e ih =>
    intro i hi L hL
    have hin := plOk_range (by omega) (hok i (by omega))
    have hgi := hg1 i (by omega)
    refine Ev.succ ?_
    simp only [spec_PlaceRow.l0.eq_2]
    refine Ev.pos (by omega) ?_
    have inner : ∀ (m q : Nat), (q : Int) + m = g.getD i 0 → ∀ L, Seats s L (tkN tk g pl i ||| ivl q (pl.getD i 0).toNat) → Ev (fun k => spec_PlaceRow.l1 k g pl (i : Int) (q : Int) (s : Int) r L) ((s : Int), r, listN (tkN tk g pl pl.length), true) := by
      intro m
      induction m with
      | zero =>
        intro q hq L hL
        refine Ev.succ ?_
        simp only [spec_PlaceRow.l1.eq_2]
        rw [rd_getD, rd_getD]
        refine Ev.pos (by omega) (Ev.pos (by omega) (Ev.neg (by omega) ?_))
        rw [w64 (by omega) (by omega)]
        refine ih (i + 1) (by omega) L ?_
        have e2 : (g.getD i 0).toNat = q := by omega
        simp only [tkN]; rw [e2]; exact hL
      | succ m ih2 =>
        intro q hq L hL
        refine Ev.succ ?_
        simp only [spec_PlaceRow.l1.eq_2]
        rw [rd_getD, rd_getD]
        refine Ev.pos (by omega) (Ev.pos (by omega) (Ev.pos (by omega) (Ev.pos (by omega) ?_)))
        rw [w64 (n := pl.getD i 0 + (q : Int)) (by omega) (by omega)]
        have hb : (tkN tk g pl i ||| ivl q (pl.getD i 0).toNat).testBit (pl.getD i 0 + (q : Int)).toNat = false := by
          rw [Nat.testBit_or, free_bit s tk g pl (mn d s) (mn_bound d s hd).1 ht i (by omega) (fun z hz => ⟨(plOk_range (by omega) (hok z (by omega))).1, hg1 z (by omega)⟩) (hok i (by omega)) _ (by omega) (by omega), ivl_bit, Bool.false_or, Bool.and_eq_false_iff]
          right; rw [decide_eq_false_iff_not]; omega
        obtain ⟨hn, hL2⟩ := seats_put hL (pl.getD i 0 + (q : Int)) (by omega) hb
        have e3 : (pl.getD i 0 + (q : Int)).toNat = (pl.getD i 0).toNat + q := by omega
        rw [e3, Nat.or_assoc, ivl_succ] at hL2
        refine Ev.bind (l2With_ev (s : Int) r L _ hn (by have := seats_len hL; omega)) ?_
        rw [w64 (by omega) (by omega)]
        exact ih2 (q + 1) (by omega) _ hL2
    exact inner (g.getD i 0).toNat 0 (by omega) L (by rw [ivl_zero, Nat.or_zero]; exact hL)
theorem tkN_range (s : Nat) (r : Bool) (tk g pl : List Int) (d : Int) (h : GrP (s : Int) r tk g d) (hlen : pl.length = g.length) (hok : ∀ i, i < pl.length → PlOk (s : Int) tk g pl (mn d s) i) : tkN tk g pl pl.length < 4294967296 := by
  obtain ⟨hrow, hr, hd, hg5, hg⟩ := h
  refine tkN_lt (s : Int) tk g pl hrow.1.2 hrow.2.2.1 pl.length (fun q hq => ?_)
  have := plOk_range hq (hok q hq)
  have : 1 ≤ g.getD q 0 := by rw [getD_lt g q (by omega)]; exact hg _ (List.getElem_mem (by omega))
  omega
theorem seat_ok (s : List Int) (hs : Bytes8 s) (hl : s.length ≤ 1000000) (p st : Int) (S : Int) (R : Bool) (l : List Int) (h0 : 0 ≤ p) (h1 : p ≤ 900000) :
    ∃ v p' q, spec_l1Cur_seat.f s p st S R l = some (v, p', q) ∧ p ≤ p' ∧ p' ≤ p + 2 := by
  obtain ⟨b, p1, q1, e1, h2, h3⟩ := one_ok s hs hl p st 30 h0 (by omega) (by decide)
  unfold spec_l1Cur_seat.f
  rw [e1]
  simp only [Option.bind_some]
  by_cases c : b = true
  · obtain ⟨v, p2, q2, e2, _, h4, h5⟩ := among_ok s hs hl p1 q1 [(-1), 0, S, 4611686018427387904] (by omega) (by omega) (by simp) (by simp)
    rw [if_pos c, e2]
    exact ⟨v, p2, q2, rfl, by omega, by omega⟩
  · obtain ⟨m, hm, hm2⟩ : ∃ m : Int, ((spec_l1Least.f S 24).bind fun t457 => (spec_l1Most.f t457 1)) = some m ∧ m ≤ 200 := by
      unfold spec_l1Least.f
      by_cases c2 : S < 24
      · simp only [c2, if_true, Option.bind_some]
        unfold spec_l1Most.f
        split
        · exact ⟨_, rfl, by omega⟩
        · exact ⟨_, rfl, by omega⟩
      · simp only [c2, if_false, Option.bind_some]
        unfold spec_l1Most.f
        split
        · exact ⟨_, rfl, by omega⟩
        · exact ⟨_, rfl, by omega⟩
    obtain ⟨v, p2, q2, e2, _, _, h4, h5⟩ := pick_ok s hs hl p1 q1 m (by omega) (by omega) hm2
    rw [if_neg c]
    rw [Option.bind_eq_some_iff] at hm
    obtain ⟨t, ht, hm⟩ := hm
    rw [ht]
    simp only [Option.bind_some]
    rw [hm]
    simp only [Option.bind_some]
    rw [e2]
    exact ⟨v, p2, q2, rfl, by omega, by omega⟩
/-- what groups are drawn: few, none too great -/
def Gs (g : List Int) : Prop := g.length ≤ 10 ∧ ∀ x ∈ g, -1 ≤ x ∧ x ≤ 4611686018427387904
theorem gs_snoc {g : List Int} {x : Int} {n : Nat} (h : g.length + n ≤ 9 ∧ ∀ x ∈ g, -1 ≤ x ∧ x ≤ 4611686018427387904) (hn : 1 ≤ n) (hx : -1 ≤ x ∧ x ≤ 4611686018427387904) : (g ++ [x]).length + (n - 1) ≤ 9 ∧ ∀ y ∈ g ++ [x], -1 ≤ y ∧ y ≤ 4611686018427387904 := by
  refine ⟨by rw [List.length_append, List.length_singleton]; omega, fun y hy => ?_⟩
  rcases List.mem_append.mp hy with h1 | h1
  · exact h.2 y h1
  · rw [List.mem_singleton] at h1; subst h1; exact hx
/-- the distance is drawn last -/
theorem dist_ok (s : List Int) (hs : Bytes8 s) (hl : s.length ≤ 1000000) (p st : Int) (h0 : 0 ≤ p) (h1 : p ≤ 900000) :
    ∃ (v p1 q1 : Int) (d p2 q2 : Int), spec_l1Cur_pick.f s p st 24 = some (v, p1, q1) ∧ 0 ≤ wrap64 (4 + wrap64 (Int.tdiv v 11)) ∧ wrap64 (4 + wrap64 (Int.tdiv v 11)) ≤ (([1, 0, 2, 3, 4611686018427387904, (-1)] : List Int).length : Int) ∧ spec_l1Cur_among.f s p1 q1 (([1, 0, 2, 3, 4611686018427387904, (-1)] : List Int).take (wrap64 (4 + wrap64 (Int.tdiv v 11)) : Int).toNat) = some (d, p2, q2) ∧ p ≤ p2 ∧ p2 ≤ p + 2 := by
  obtain ⟨v, p1, q1, e1, hv0, hv1, h2, h3⟩ := pick_ok s hs hl p st 24 h0 (by omega) (by decide)
  have hv : 0 ≤ v ∧ v ≤ 23 := by omega
  have ht : 0 ≤ Int.tdiv v 11 ∧ Int.tdiv v 11 ≤ 2 := by
    rw [Int.tdiv_eq_ediv_of_nonneg hv.1]; omega
  have hw : wrap64 (4 + wrap64 (Int.tdiv v 11)) = 4 + Int.tdiv v 11 := by rw [w64 (n := Int.tdiv v 11) (by omega) (by omega), w64 (by omega) (by omega)]
  obtain ⟨d, p2, q2, e2, _, h4, h5⟩ := among_ok s hs hl p1 q1 (([1, 0, 2, 3, 4611686018427387904, (-1)] : List Int).take (4 + Int.tdiv v 11 : Int).toNat) (by omega) (by omega) (by rw [List.length_take]; simp; omega) (by rw [List.length_take]; simp; omega)
  exact ⟨v, p1, q1, d, p2, q2, e1, by rw [hw]; omega, by rw [hw]; simp; omega, by rw [hw]; exact e2, by omega, by omega⟩
theorem groups0_ok (s : List Int) (hs : Bytes8 s) (hl : s.length ≤ 1000000) (S : Int) (R : Bool) (l : List Int) : ∀ (n : Nat) (g : List Int) (p st : Int), (g.length + n ≤ 9 ∧ ∀ x ∈ g, -1 ≤ x ∧ x ≤ 4611686018427387904) → 0 ≤ p → p ≤ 700000 - n →
    ∃ (g' : List Int) (d p' q : Int), Ev (fun k => spec_l1Cur_groups9.l0 k g (n : Int) s p st S R l) (S, R, l, g', d, p', q) ∧ Gs g' ∧ p ≤ p' ∧ p' ≤ p + n + 5 := by
  intro n
  induction n with
  | zero =>
    intro g p st hg h0 h1
    obtain ⟨v, p1, q1, e1, hv0, hv1, h2, h3⟩ := pick_ok s hs hl p st 24 h0 (by omega) (by decide)
    have j4 : ∀ (g : List Int) (p q : Int), 0 ≤ p → p ≤ 800000 → ∃ d p' q', Ev (fun k => spec_l1Cur_groups9.j4 k g s p q S R l) (S, R, l, g, d, p', q') ∧ p ≤ p' ∧ p' ≤ p + 2 := by
      intro g p q h0 h1
      obtain ⟨w, p3, q3, d, p4, q4, e3, h6, h7, e4, h8, h9⟩ := dist_ok s hs hl p q h0 (by omega)
      refine ⟨d, p4, q4, Ev.succ ?_, by omega, by omega⟩
      simp only [spec_l1Cur_groups9.j4.eq_2]
      exact Ev.bindc rfl (Ev.bindc e3 (Ev.pos h6 (Ev.pos h7 (Ev.bindc e4 (Ev.now _)))))
    by_cases c0 : v = 0
    · obtain ⟨x, p2, q2, e2, hx, h4, h5⟩ := among_ok s hs hl p1 q1 [0, (-1), 24, 4611686018427387904] (by omega) (by omega) (by decide) (by decide)
      obtain ⟨d, p4, q4, e3, h8, h9⟩ := j4 (g ++ [x]) p2 q2 (by omega) (by omega)
      refine ⟨g ++ [x], d, p4, q4, Ev.succ ?_, ?_, by omega, by omega⟩
      · simp only [spec_l1Cur_groups9.l0.eq_2]
        exact Ev.neg (by omega) (Ev.bindc e1 (Ev.pos c0 (Ev.bindc e2 (Ev.pos (by omega) e3))))
      · refine ⟨by rw [List.length_append, List.length_singleton]; omega, fun y hy => ?_⟩
        rcases List.mem_append.mp hy with h | h
        · exact hg.2 y h
        · rw [List.mem_singleton] at h; subst h; simp only [List.mem_cons, List.not_mem_nil, or_false] at hx; omega
    · by_cases c1 : v = 1
      · obtain ⟨d, p4, q4, e3, h8, h9⟩ := j4 [] p1 q1 (by omega) (by omega)
        refine ⟨[], d, p4, q4, Ev.succ ?_, ⟨by simp, by simp⟩, by omega, by omega⟩
        simp only [spec_l1Cur_groups9.l0.eq_2]
        exact Ev.neg (by omega) (Ev.bindc e1 (Ev.neg c0 (Ev.pos c1 e3)))
      · obtain ⟨d, p4, q4, e3, h8, h9⟩ := j4 g p1 q1 (by omega) (by omega)
        refine ⟨g, d, p4, q4, Ev.succ ?_, ⟨by omega, hg.2⟩, by omega, by omega⟩
        simp only [spec_l1Cur_groups9.l0.eq_2]
        exact Ev.neg (by omega) (Ev.bindc e1 (Ev.neg c0 (Ev.neg c1 e3)))
  | succ n ih =>
    intro g p st hg h0 h1
    obtain ⟨x, p1, q1, e1, hx, h2, h3⟩ := among_ok s hs hl p st [1, 2, 3, 1, 4] h0 (by omega) (by decide) (by decide)
    obtain ⟨g', d, p', q, h4, h5, h6, h7⟩ := ih (g ++ [x]) p1 q1 (gs_snoc hg (by omega) (by simp only [List.mem_cons, List.not_mem_nil, or_false] at hx; omega)) (by omega) (by omega)
    refine ⟨g', d, p', q, Ev.succ ?_, h5, by omega, by omega⟩
    simp only [spec_l1Cur_groups9.l0.eq_2]
    rw [w64 (n := ((n + 1 : Nat) : Int) - 1) (by omega) (by omega), show ((n + 1 : Nat) : Int) - 1 = (n : Int) by omega]
    exact Ev.pos (by omega) (Ev.bindc e1 (Ev.pos (by omega) h4))
theorem groups_ok (s : List Int) (hs : Bytes8 s) (hl : s.length ≤ 1000000) (st : Int) :
    ∃ (S : Int) (R : Bool) (l g : List Int) (d p' q : Int), Ev (fun k => spec_l1Cur_groups9.f k s 0 st) (S, R, l, g, d, p', q) ∧ l.length ≤ 31 ∧ Gs g ∧ 0 ≤ p' ∧ p' ≤ 600000 := by
  obtain ⟨⟨S, R, l, p1, q1⟩, hr, hr2, hr3, hr4⟩ := sparse_ok s hs hl 0 st (by decide) (by decide)
  simp only at hr2 hr3 hr4
  obtain ⟨b, p2, q2, e2, h4, h5⟩ := one_ok s hs hl p1 q1 16 (by omega) (by omega) (by decide)
  have j2 : ∀ (S : Int) (R : Bool) (l : List Int) (p q : Int), 0 ≤ p → p ≤ 500000 → ∃ (g : List Int) (d p' q' : Int), Ev (fun k => spec_l1Cur_groups9.j2 k s p q S R l) (S, R, l, g, d, p', q') ∧ Gs g ∧ 0 ≤ p' ∧ p' ≤ 600000 := by
    intro S R l p q h0 h1
    obtain ⟨x, p3, q3, e3, hx, h6, h7⟩ := among_ok s hs hl p q [2, 3, 1, 2] h0 (by omega) (by decide) (by decide)
    obtain ⟨m, rfl, hm⟩ : ∃ m : Nat, x = (m : Int) ∧ m ≤ 3 := ⟨x.toNat, by simp only [List.mem_cons, List.not_mem_nil, or_false] at hx; omega, by simp only [List.mem_cons, List.not_mem_nil, or_false] at hx; omega⟩
    obtain ⟨g, d, p', q', h8, h9, h10, h11⟩ := groups0_ok s hs hl S R l m [] p3 q3 ⟨by simp; omega, by simp⟩ (by omega) (by omega)
    refine ⟨g, d, p', q', Ev.succ ?_, h9, by omega, by omega⟩
    simp only [spec_l1Cur_groups9.j2.eq_2]
    exact Ev.bindc e3 h8
  have j1 : ∀ (b : Bool) (p q : Int) (R : Bool), 0 ≤ p → p ≤ 500000 → ∃ (S' : Int) (R' : Bool) (l' g : List Int) (d p' q' : Int), Ev (fun k => spec_l1Cur_groups9.j1 k b s p q S R l) (S', R', l', g, d, p', q') ∧ l'.length ≤ 31 ∧ Gs g ∧ 0 ≤ p' ∧ p' ≤ 600000 := by
    intro b p q R h0 h1
    cases b with
    | true =>
      obtain ⟨g, d, p', q', h6, h7, h8⟩ := j2 12 false [] p q h0 h1
      refine ⟨12, false, [], g, d, p', q', Ev.succ ?_, by simp, h7, h8⟩
      simp only [spec_l1Cur_groups9.j1.eq_2]
      exact Ev.pos trivial h6
    | false =>
      obtain ⟨g, d, p', q', h6, h7, h8⟩ := j2 S R l p q h0 h1
      refine ⟨S, R, l, g, d, p', q', Ev.succ ?_, hr2, h7, h8⟩
      simp only [spec_l1Cur_groups9.j1.eq_2]
      exact Ev.neg (by decide) h6
  have j0 : ∀ (p q : Int) (R : Bool), 0 ≤ p → p ≤ 400000 → ∃ (S' : Int) (R' : Bool) (l' g : List Int) (d p' q' : Int), Ev (fun k => spec_l1Cur_groups9.j0 k s p q S R l) (S', R', l', g, d, p', q') ∧ l'.length ≤ 31 ∧ Gs g ∧ 0 ≤ p' ∧ p' ≤ 600000 := by
    intro p q R h0 h1
    by_cases c : S > 12
    · obtain ⟨t, ht⟩ := exists_bool (IsRw S R l)
      have hrow := l2Row_ev S R l (by omega) t ht
      cases t with
      | true =>
        obtain ⟨b3, p3, q3, e3, h6, h7⟩ := one_ok s hs hl p q 8 h0 (by omega) (by decide)
        obtain ⟨S', R', l', g, d, p', q', h8, h9⟩ := j1 (!b3) p3 q3 R (by omega) (by omega)
        refine ⟨S', R', l', g, d, p', q', Ev.succ ?_, h9⟩
        simp only [spec_l1Cur_groups9.j0.eq_2]
        exact Ev.pos c (Ev.bind hrow (Ev.pos rfl (Ev.bindc e3 h8)))
      | false =>
        obtain ⟨S', R', l', g, d, p', q', h8, h9⟩ := j1 false p q R (by omega) (by omega)
        refine ⟨S', R', l', g, d, p', q', Ev.succ ?_, h9⟩
        simp only [spec_l1Cur_groups9.j0.eq_2]
        exact Ev.pos c (Ev.bind hrow (Ev.neg (by decide) h8))
    · obtain ⟨S', R', l', g, d, p', q', h8, h9⟩ := j1 false p q R (by omega) (by omega)
      refine ⟨S', R', l', g, d, p', q', Ev.succ ?_, h9⟩
      simp only [spec_l1Cur_groups9.j0.eq_2]
      exact Ev.neg c h8
  unfold spec_l1Cur_groups9.f
  by_cases cb : b = true
  · obtain ⟨S', R', l', g, d, p', q', h8, h9⟩ := j0 p2 q2 R (by omega) (by omega)
    exact ⟨S', R', l', g, d, p', q', Ev.bind hr (Ev.bindc e2 (Ev.pos cb h8)), h9⟩
  · obtain ⟨S', R', l', g, d, p', q', h8, h9⟩ := j0 p2 q2 false (by omega) (by omega)
    exact ⟨S', R', l', g, d, p', q', Ev.bind hr (Ev.bindc e2 (Ev.neg cb h8)), h9⟩
/-- the seats of the first groups, together -/
def sumTo (g : List Int) : Nat → Int
  | 0 => 0
  | i + 1 => sumTo g i + g.getD i 0
theorem sumTo_range (g : List Int) (hg : ∀ i, i < g.length → 0 ≤ g.getD i 0 ∧ g.getD i 0 ≤ 24) : ∀ i, i ≤ g.length → 0 ≤ sumTo g i ∧ sumTo g i ≤ 24 * i := by
  intro i
  induction i with
  | zero => intro _; simp [sumTo]
  | succ i ih =>
    intro hi
    have h1 := ih (by omega)
    have h2 := hg i (by omega)
    simp only [sumTo]
    omega
theorem vAdd_ev (g : List Int) (hl : g.length ≤ 10) (hg : ∀ i, i < g.length → 0 ≤ g.getD i 0 ∧ g.getD i 0 ≤ 24) : Ev (fun k => laws_vAdd.f k g) (sumTo g g.length) := by
  have key : ∀ n i, i + n = g.length → Ev (fun k => laws_vAdd.l0 k g (sumTo g i) (i : Int)) (sumTo g g.length) := by
    intro n
    induction n with
    | zero =>
      intro i hi
      obtain rfl : i = g.length := by omega
      refine Ev.succ ?_
      simp only [laws_vAdd.l0.eq_2]
      exact Ev.neg (by omega) (Ev.now _)
    | succ n ih =>
      intro i hi
      have h1 := sumTo_range g hg i (by omega)
      have h2 := hg i (by omega)
      refine Ev.succ ?_
      simp only [laws_vAdd.l0.eq_2]
      rw [rd_getD, w64 (n := sumTo g i + g.getD i 0) (by omega) (by omega), w64 (n := (i : Int) + 1) (by omega) (by omega)]
      exact Ev.pos (by omega) (Ev.pos (by omega) (ih (i + 1) (by omega)))
  unfold laws_vAdd.f
  exact key g.length 0 (by omega)
theorem seats_ivl {s : Nat} {L : List Int} {T : Nat} (h : Seats s L T) (p : Nat) : ∀ n, p + n ≤ s → (∀ j, p ≤ j → j < p + n → T.testBit j = false) → ∃ L', Seats s L' (T ||| ivl n p) ∧ L'.length = L.length + n := by
  intro n
  induction n with
  | zero => intro _ _; exact ⟨L, by rw [ivl_zero, Nat.or_zero]; exact h, rfl⟩
  | succ n ih =>
    intro h1 h2
    obtain ⟨L', h3, h4⟩ := ih (by omega) (fun j ha hb => h2 j ha (by omega))
    have hb : (T ||| ivl n p).testBit ((p + n : Nat) : Int).toNat = false := by
      rw [Int.toNat_natCast, Nat.testBit_or, h2 (p + n) (by omega) (by omega), ivl_bit, Bool.false_or, Bool.and_eq_false_iff]
      right; rw [decide_eq_false_iff_not]; omega
    obtain ⟨_, h5⟩ := seats_put h3 ((p + n : Nat) : Int) (by omega) hb
    rw [Int.toNat_natCast, Nat.or_assoc, ivl_succ] at h5
    exact ⟨_, h5, by rw [putL_len, h4]; omega⟩
/-- a list is a placing -/
def Plc (s : Int) (r : Bool) (tk g pl : List Int) (d : Int) : Prop := GrP s r tk g d ∧ pl.length = g.length ∧ ∀ i, i < pl.length → PlOk s tk g pl (mn d s) i
theorem plc_g {s : Int} {r : Bool} {tk g pl : List Int} {d : Int} (h : Plc s r tk g pl d) (i : Nat) (hi : i < g.length) : 1 ≤ g.getD i 0 ∧ g.getD i 0 ≤ 24 ∧ 0 ≤ pl.getD i 0 ∧ pl.getD i 0 + g.getD i 0 ≤ s := by
  obtain ⟨⟨hrow, _, _, _, hg⟩, hlen, hok⟩ := h
  have h1 := plOk_range (by omega) (hok i (by omega))
  have h2 : 1 ≤ g.getD i 0 := by rw [getD_lt g i hi]; exact hg _ (List.getElem_mem hi)
  have := hrow.1
  omega
theorem plc_seats {s : Nat} {r : Bool} {tk g pl : List Int} {d : Int} (h : Plc (s : Int) r tk g pl d) : ∀ i, i ≤ pl.length → ∃ L, Seats s L (tkN tk g pl i) ∧ (L.length : Int) = (tk.length : Int) + sumTo g i := by
  have hG := h.1
  intro i
  induction i with
  | zero => intro _; exact ⟨tk, ⟨hG.1.2.2.2, hG.1.2.2.1, rfl⟩, by simp [sumTo]⟩
  | succ i ih =>
    intro hi
    obtain ⟨L, h1, h2⟩ := ih (by omega)
    have hlen := h.2.1
    have h3 := plc_g h i (by omega)
    obtain ⟨L', h4, h5⟩ := seats_ivl h1 (pl.getD i 0).toNat (g.getD i 0).toNat (by omega) (fun j ha hb => free_bit s tk g pl (mn d s) (mn_bound d s hG.2.2.1).1 hG.1.2.2.1 i (by omega) (fun q hq => by have := plc_g h q (by omega); omega) (h.2.2 i (by omega)) j (by omega) (by omega))
    exact ⟨L', by simp only [tkN]; exact h4, by simp only [sumTo]; omega⟩
theorem plc_len {s : Nat} {r : Bool} {tk g pl : List Int} {d : Int} (h : Plc (s : Int) r tk g pl d) : ((listN (tkN tk g pl pl.length)).length : Int) = (tk.length : Int) + sumTo g g.length := by
  obtain ⟨L, h1, h2⟩ := plc_seats h pl.length (Nat.le_refl _)
  have hs := h.1.1.1
  rw [← h1.2.2, listN_setN L (fun x hx => by have := h1.2.1 x hx; omega) h1.1, h2, h.2.1]
theorem place_both (s : Int) (r : Bool) (tk g pl : List Int) (d : Int) (hL0 : tk.length ≤ 1000000) (hL1 : g.length ≤ 35184372088832) (hgw : ∀ x ∈ g, x ≤ 9223372036854775807) :
    ∃ (z : Int × Bool × List Int × Bool) (iz fi : Bool), Ev (fun k => spec_PlaceRow.f k s r tk g d pl) z ∧ Ev (fun k => impl_PlaceRow.f k s r tk g d pl) z ∧ Ev (fun k => spec_IsPlacing.f k s r tk g d pl) (iz, fi) ∧ Ev (fun k => impl_IsPlacing.f k s r tk g d pl) (iz, fi) ∧ z.2.2.2 = (fi && iz) ∧ z.2.2.1.length ≤ 32 ∧ (fi = true ↔ GrP s r tk g d) ∧ (iz = true ↔ Plc s r tk g pl d) ∧ (iz = true → z = (s, r, listN (tkN tk g pl pl.length), true)) := by
  have hL : tk.length ≤ 35184372088832 := by omega
  have no1 : ∀ z1 z2 z3, Ev (fun k => spec_PlaceRow.j0 k g pl true z1 z2 z3) (0, false, [], false) := fun z1 z2 z3 => by
    refine Ev.succ ?_
    simp only [spec_PlaceRow.j0.eq_2]
    exact Ev.pos trivial (Ev.now _)
  obtain ⟨b, hbb⟩ := exists_bool (GrP s r tk g d)
  cases b with
  | false =>
    have hno : ¬ GrP s r tk g d := fun h => absurd (hbb.mpr h) (by decide)
    have e1 := l9Groups_ev s r tk g d hL hL1 false hbb
    have e2 := isGrouped_ev s r tk g d hL hL1 false hbb
    refine ⟨(0, false, [], false), false, false, ?_, ?_, ?_, ?_, rfl, by simp, hbb, ⟨fun h => (by cases h), fun h => absurd h.1 hno⟩, fun h => by cases h⟩
    · unfold spec_PlaceRow.f; exact Ev.bind e1 (Ev.neg (by decide) (no1 _ _ _))
    · unfold impl_PlaceRow.f; exact Ev.bind e2 (Ev.neg (by decide) (Ev.now _))
    · unfold spec_IsPlacing.f; exact Ev.bind e1 (Ev.neg (by decide) (Ev.now _))
    · unfold impl_IsPlacing.f; exact Ev.bind e2 (Ev.neg (by decide) (Ev.now _))
  | true =>
    have hG := hbb.mp rfl
    obtain ⟨m, rfl⟩ : ∃ m : Nat, s = (m : Int) := ⟨s.toNat, by have := hG.1.1; omega⟩
    have e1 := l9Groups_ev _ r tk g d hL hL1 true hbb
    have e2 := isGrouped_ev _ r tk g d hL hL1 true hbb
    by_cases hlen : (pl.length : Int) = (g.length : Int)
    · obtain ⟨c, hc⟩ := exists_bool (∀ i, i < pl.length → PlOk (m : Int) tk g pl (mn d m) i)
      have h1 := placing_spec m r tk g pl d hG hL hgw (by omega) c hc
      have h2 := placing_impl m r tk g pl d hG hgw (by omega) c hc
      cases c with
      | true =>
        have hok := hc.mp rfl
        refine ⟨((m : Int), r, listN (tkN tk g pl pl.length), true), true, true, ?_, ?_, ?_, ?_, rfl, listN_len _, hbb, ⟨fun _ => ⟨hG, by omega, hok⟩, fun _ => rfl⟩, fun _ => rfl⟩
        · unfold spec_PlaceRow.f
          refine Ev.bind e1 (Ev.pos rfl (Ev.bind h1 (Ev.succ ?_)))
          simp only [spec_PlaceRow.j0.eq_2]
          refine Ev.neg (by decide) (Ev.bindc (l1Own_eq tk (by omega)) ?_)
          refine Ev.bindc (a := ((m : Int), r, tk)) (by unfold spec_l2Made.f; rfl) ?_
          exact place_loops m r tk g pl d hG (by omega) hok pl.length 0 (by omega) tk ⟨hG.1.2.2.2, hG.1.2.2.1, rfl⟩
        · unfold impl_PlaceRow.f
          refine Ev.bind e2 (Ev.pos rfl (Ev.bind h2 (Ev.pos rfl ?_)))
          refine Ev.bindc (a := ((m : Int), r)) (by unfold impl_Row_bench.f; rfl) ?_
          rw [if_pos rfl]
          refine Ev.bind (a := ((m : Int), r, listN (tkN tk g pl pl.length))) ?_ (Ev.now _)
          unfold impl_bench_row.f
          exact Ev.bind (f := fun _ t => some ((m : Int), r, t)) (list_ev _ (tkN_range m r tk g pl d hG (by omega) hok)) (Ev.now _)
        · unfold spec_IsPlacing.f; exact Ev.bind e1 (Ev.pos rfl (Ev.bind h1 (Ev.now _)))
        · unfold impl_IsPlacing.f; exact Ev.bind e2 (Ev.pos rfl (Ev.bind h2 (Ev.now _)))
      | false =>
        have hno : ¬ ∀ i, i < pl.length → PlOk (m : Int) tk g pl (mn d m) i := fun h => absurd (hc.mpr h) (by decide)
        refine ⟨(0, false, [], false), false, true, ?_, ?_, ?_, ?_, rfl, by simp, hbb, ⟨fun h => (by cases h), fun h => absurd h.2.2 hno⟩, fun h => by cases h⟩
        · unfold spec_PlaceRow.f
          exact Ev.bind e1 (Ev.pos rfl (Ev.bind h1 (no1 _ _ _)))
        · unfold impl_PlaceRow.f
          exact Ev.bind e2 (Ev.pos rfl (Ev.bind h2 (Ev.neg (by simp) (Ev.now _))))
        · unfold spec_IsPlacing.f; exact Ev.bind e1 (Ev.pos rfl (Ev.bind h1 (Ev.now _)))
        · unfold impl_IsPlacing.f; exact Ev.bind e2 (Ev.pos rfl (Ev.bind h2 (Ev.now _)))
    · obtain ⟨h1, h2⟩ := placing_no (m : Int) r tk g pl d hlen
      refine ⟨(0, false, [], false), false, true, ?_, ?_, ?_, ?_, rfl, by simp, hbb, ⟨fun h => (by cases h), fun h => absurd h.2.1 (by omega)⟩, fun h => by cases h⟩
      · unfold spec_PlaceRow.f
        exact Ev.bind e1 (Ev.pos rfl (Ev.bind h1 (no1 _ _ _)))
      · unfold impl_PlaceRow.f
        exact Ev.bind e2 (Ev.pos rfl (Ev.bind h2 (Ev.neg (by simp) (Ev.now _))))
      · unfold spec_IsPlacing.f; exact Ev.bind e1 (Ev.pos rfl (Ev.bind h1 (Ev.now _)))
      · unfold impl_IsPlacing.f; exact Ev.bind e2 (Ev.pos rfl (Ev.bind h2 (Ev.now _)))
theorem comps_sound (s : Nat) (tk g : List Int) (D : Int) : ∀ (e : Nat) (pre c : List Int), c ∈ comps s tk g D e pre → c.length = pre.length + e ∧ c.take pre.length = pre ∧ ∀ i, pre.length ≤ i → i < c.length → PlOk (s : Int) tk g c D i := by
  intro e
  induction e with
  | zero =>
    intro pre c h
    simp only [comps, List.mem_singleton] at h
    subst h
    exact ⟨by omega, List.take_length, fun i h1 h2 => by omega⟩
  | succ e ih =>
    intro pre c h
    simp only [comps, List.mem_flatMap] at h
    obtain ⟨p, _, h⟩ := h
    by_cases hf : FitP (s : Int) tk g pre D (p : Int)
    · rw [if_pos hf] at h
      obtain ⟨h1, h2, h3⟩ := ih _ _ h
      rw [List.length_append, List.length_singleton] at h1 h2 h3
      have h4 : c.take pre.length = pre := by
        have := congrArg (List.take pre.length) h2
        rw [List.take_take, Nat.min_eq_left (by omega), List.take_append_of_le_length (Nat.le_refl _), List.take_length] at this
        exact this
      refine ⟨by omega, h4, fun i h5 h6 => ?_⟩
      rcases Nat.lt_or_ge pre.length i with h7 | h7
      · exact h3 i (by omega) h6
      · obtain rfl : i = pre.length := by omega
        unfold PlOk
        rw [h4, ← getD_take c (pre.length + 1) pre.length (by omega), h2, getD_snoc]
        exact hf
    · rw [if_neg hf] at h; cases h
theorem comps_take {s : Nat} {tk g : List Int} {D : Int} {e : Nat} {pre c : List Int} (h : c ∈ comps s tk g D e pre) (i : Nat) (hi : i < pre.length) : c.getD i 0 = pre.getD i 0 := by
  have := (comps_sound s tk g D e pre c h).2.1
  rw [← getD_take c pre.length i hi, this]
theorem comps_complete (s : Nat) (tk g : List Int) (D : Int) (hg : ∀ i, i < g.length → 1 ≤ g.getD i 0) : ∀ (e : Nat) (pre c : List Int), c.length = pre.length + e → c.length ≤ g.length → c.take pre.length = pre → (∀ i, pre.length ≤ i → i < c.length → PlOk (s : Int) tk g c D i) → c ∈ comps s tk g D e pre := by
  intro e
  induction e with
  | zero =>
    intro pre c h1 _ h2 _
    simp only [comps, List.mem_singleton]
    rw [← h2, List.take_of_length_le (by omega)]
  | succ e ih =>
    intro pre c h1 h0 h2 h3
    have h4 := h3 pre.length (Nat.le_refl _) (by omega)
    have h5 := plOk_range (by omega) h4
    have h6 := hg pre.length (by omega)
    unfold PlOk at h4
    rw [h2] at h4
    obtain ⟨p, hp⟩ : ∃ p : Nat, c.getD pre.length 0 = (p : Int) := ⟨(c.getD pre.length 0).toNat, by omega⟩
    rw [hp] at h4 h5
    simp only [comps, List.mem_flatMap]
    refine ⟨p, by rw [List.mem_range'_1]; omega, ?_⟩
    rw [if_pos h4]
    refine ih _ c (by rw [List.length_append, List.length_singleton]; omega) h0 ?_ (fun i h7 h8 => h3 i (by rw [List.length_append, List.length_singleton] at h7; omega) h8)
    rw [List.length_append, List.length_singleton]
    have h9 := List.take_append_getElem (l := c) (i := pre.length) (by omega)
    rw [← h9, h2]
    rw [getD_lt c pre.length (by omega)] at hp
    rw [hp]
theorem flat_len {α β : Type} (f : α → List β) (B : Nat) (hf : ∀ x, (f x).length ≤ B) : ∀ l : List α, (l.flatMap f).length ≤ l.length * B := by
  intro l
  induction l with
  | nil => simp
  | cons x xs ih =>
    rw [List.flatMap_cons, List.length_append, List.length_cons, Nat.add_mul, Nat.one_mul]
    have := hf x
    omega
theorem comps_size (s : Nat) (tk g : List Int) (D : Int) : ∀ (e : Nat) (pre : List Int), (comps s tk g D e pre).length ≤ s ^ e := by
  intro e
  induction e with
  | zero => intro pre; simp [comps]
  | succ e ih =>
    intro pre
    rw [comps]
    have := flat_len (fun p : Nat => if FitP (s : Int) tk g pre D (p : Int) then comps s tk g D e (pre ++ [(p : Int)]) else []) (s ^ e) (fun p => by
      split
      · exact ih _
      · simp) (List.range' 0 s)
    rw [List.length_range'] at this
    rw [Nat.pow_succ, Nat.mul_comm]
    exact this
theorem stp_count : ∀ (cs : List (List Int)) (st : List Int × Int), 0 ≤ st.2 → st.2 + cs.length < 9223372036854775808 → (cs.foldl stp st).2 = st.2 + cs.length := by
  intro cs
  induction cs with
  | nil => intro st _ _; simp
  | cons c cs ih =>
    intro st h0 h1
    rw [List.length_cons] at h1
    rw [List.foldl_cons]
    have e : (stp st c).2 = st.2 + 1 := by
      unfold stp
      split <;> exact w64 (by omega) (by omega)
    rw [ih _ (by omega) (by omega), e, List.length_cons]
    omega
/-- a list comes ahead of another one of its length -/
def LexLt (a b : List Int) : Prop := ∃ i, i < a.length ∧ i < b.length ∧ (∀ j, j < i → a.getD j 0 = b.getD j 0) ∧ a.getD i 0 < b.getD i 0
theorem vLess_ev (a b : List Int) (ha : a.length ≤ 1000) (hb : b.length ≤ 1000) (hn : ¬ LexLt a b) : Ev (fun k => laws_vLess.f k a b) false := by
  have j1 : ∀ i : Nat, Ev (fun k => laws_vLess.j1 k a b (i : Int) false) false := fun i => by
    refine Ev.succ ?_
    simp only [laws_vLess.j1.eq_2]
    exact Ev.neg (by decide) (Ev.now _)
  have key : ∀ n i, i + n = a.length → (∀ j, j < i → a.getD j 0 = b.getD j 0) → Ev (fun k => laws_vLess.l0 k a b (i : Int)) false := by
    intro n
    induction n with
    | zero =>
      intro i hi _
      refine Ev.succ ?_
      simp only [laws_vLess.l0.eq_2]
      exact Ev.neg (by omega) (j1 i)
    | succ n ih =>
      intro i hi hp
      refine Ev.succ ?_
      simp only [laws_vLess.l0.eq_2]
      refine Ev.pos (by omega) ?_
      by_cases c : i < b.length
      · have c2 : decide ((i : Int) < (b.length : Int)) = true := decide_eq_true (by omega)
        rw [c2]
        refine Ev.succ ?_
        simp only [laws_vLess.j1.eq_2]
        rw [rd_getD, rd_getD]
        refine Ev.pos trivial (Ev.pos (by omega) (Ev.pos (by omega) (Ev.pos (by omega) ?_)))
        by_cases e : a.getD i 0 = b.getD i 0
        · refine Ev.pos e ?_
          rw [w64 (n := (i : Int) + 1) (by omega) (by omega)]
          refine ih (i + 1) (by omega) (fun j hj => ?_)
          rcases Nat.lt_or_ge j i with h | h
          · exact hp j h
          · rw [show j = i by omega]; exact e
        · refine Ev.neg e ?_
          have : decide (a.getD i 0 < b.getD i 0) = false := decide_eq_false (fun h => hn ⟨i, by omega, c, hp, h⟩)
          rw [this]
          exact Ev.now _
      · have c2 : decide ((i : Int) < (b.length : Int)) = false := decide_eq_false (by omega)
        rw [c2]
        exact j1 i
  unfold laws_vLess.f
  exact key a.length 0 (by omega) (fun j hj => by omega)
theorem flat_head {α β : Type} (f : α → List β) : ∀ (l : List α) (c : β) (cs : List β), l.flatMap f = c :: cs → ∃ l1 a l2, l = l1 ++ a :: l2 ∧ (∀ x ∈ l1, f x = []) ∧ ∃ t, f a = c :: t := by
  intro l
  induction l with
  | nil => intro c cs h; simp at h
  | cons x xs ih =>
    intro c cs h
    rw [List.flatMap_cons] at h
    cases hx : f x with
    | nil =>
      rw [hx, List.nil_append] at h
      obtain ⟨l1, a, l2, h1, h2, h3⟩ := ih c cs h
      refine ⟨x :: l1, a, l2, by rw [h1]; rfl, fun y hy => ?_, h3⟩
      rcases List.mem_cons.mp hy with e | e
      · rw [e]; exact hx
      · exact h2 y e
    | cons y ys =>
      rw [hx, List.cons_append] at h
      injection h with h1 h2
      exact ⟨[], x, xs, rfl, by simp, ys, by rw [hx, h1]⟩
theorem comps_least (s : Nat) (tk g : List Int) (D : Int) : ∀ (e : Nat) (pre c0 : List Int) (cs : List (List Int)), comps s tk g D e pre = c0 :: cs → ∀ c ∈ comps s tk g D e pre, ¬ LexLt c c0 := by
  intro e
  induction e with
  | zero =>
    intro pre c0 cs h c hc
    simp only [comps, List.mem_singleton] at hc
    simp only [comps, List.cons.injEq] at h
    intro ⟨i, _, _, _, h4⟩
    rw [hc, h.1] at h4
    omega
  | succ e ih =>
    intro pre c0 cs h c hc
    have h0 : c0 ∈ comps s tk g D (e + 1) pre := by rw [h]; simp
    have hh := h
    rw [comps] at hh
    obtain ⟨l1, a, l2, hl, hl1, t, ht⟩ := flat_head _ _ _ _ hh
    have hfa : FitP (s : Int) tk g pre D (a : Int) := by
      by_cases c : FitP (s : Int) tk g pre D (a : Int)
      · exact c
      · rw [if_neg c] at ht; cases ht
    rw [if_pos hfa] at ht
    simp only [comps, List.mem_flatMap] at hc
    obtain ⟨p, hp, hc⟩ := hc
    by_cases hfp : FitP (s : Int) tk g pre D (p : Int)
    · rw [if_pos hfp] at hc
      rw [hl] at hp
      have hsort : (l1 ++ a :: l2).Pairwise (· < ·) := by rw [← hl]; exact List.pairwise_lt_range'
      have hap : a = p ∨ a < p := by
        rcases List.mem_append.mp hp with h1 | h1
        · have := hl1 p h1
          rw [if_pos hfp] at this
          rw [this] at hc; cases hc
        · rcases List.mem_cons.mp h1 with h2 | h2
          · exact .inl h2.symm
          · exact .inr ((List.pairwise_cons.mp (List.pairwise_append.mp hsort).2.1).1 p h2)
      rcases hap with rfl | hlt
      · exact ih _ _ _ ht c hc
      · have h1 : c0 ∈ comps s tk g D e (pre ++ [(a : Int)]) := by rw [ht]; simp
        have h2 : c.getD pre.length 0 = (p : Int) := by rw [comps_take hc pre.length (by simp), getD_snoc]
        have h3 : c0.getD pre.length 0 = (a : Int) := by rw [comps_take h1 pre.length (by simp), getD_snoc]
        intro ⟨i, _, _, h6, h7⟩
        rcases Nat.lt_trichotomy i pre.length with h8 | h8 | h8
        · rw [comps_take hc i (by simp; omega), comps_take h1 i (by simp; omega), getD_snoc_lt _ _ _ h8, getD_snoc_lt _ _ _ h8] at h7; omega
        · rw [h8, h2, h3] at h7; omega
        · have := h6 pre.length h8; rw [h2, h3] at this; omega
    · rw [if_neg hfp] at hc; cases hc
theorem runCount (cs : List (List Int)) : ∀ (c : Int) (f : List Int), runV visCount cs c = (true, (cs.foldl stp (f, c)).2) := by
  induction cs with
  | nil => intro c f; rfl
  | cons x xs ih =>
    intro c f
    simp only [runV, visCount, if_true, List.foldl_cons]
    unfold stp
    by_cases h : c = 0
    · simp only [h, if_true]; exact ih _ _
    · simp only [h, if_false]; exact ih _ _
theorem runFirst (cs : List (List Int)) (st : List Int) : (runV visFirst cs st).2 = match cs with | [] => st | c :: _ => c := by
  cases cs with
  | nil => rfl
  | cons c cs => simp [runV, visFirst]
theorem found_key (s : Int) (r : Bool) (tk g : List Int) (d : Int) (hL0 : tk.length ≤ 1000000) (hL1 : g.length ≤ 35184372088832) (hgw : ∀ x ∈ g, x ≤ 9223372036854775807) :
    ∃ (many : Int) (th : Bool) (fl : List Int) (one : Bool), Ev (fun k => spec_CountPlacings.f k s r tk g d) (many, th) ∧ Ev (fun k => impl_CountPlacings.f k s r tk g d) (many, th) ∧ Ev (fun k => spec_FirstPlacing.f k s r tk g d) (fl, one) ∧ Ev (fun k => impl_FirstPlacing.f k s r tk g d) (fl, one) ∧ one = (th && decide (0 < many)) ∧ fl.length ≤ 5 ∧ (one = true → Plc s r tk g fl d) ∧ ∀ pl, Plc s r tk g pl d → one = true ∧ ¬ LexLt pl fl := by
  have hL : tk.length ≤ 35184372088832 := by omega
  obtain ⟨b, hbb⟩ := exists_bool (GrP s r tk g d)
  have e1 := l9Groups_ev s r tk g d hL hL1 b hbb
  have e2 := isGrouped_ev s r tk g d hL hL1 b hbb
  cases b with
  | false =>
    refine ⟨0, false, [], false, ?_, ?_, ?_, ?_, rfl, by simp, fun h => (by cases h), fun pl h => absurd (hbb.mpr h.1) (by decide)⟩
    · unfold spec_CountPlacings.f; exact Ev.bind e1 (Ev.neg (by decide) (Ev.now _))
    · unfold impl_CountPlacings.f; exact Ev.bind e2 (Ev.neg (by decide) (Ev.now _))
    · unfold spec_FirstPlacing.f; exact Ev.bind e1 (Ev.neg (by decide) (Ev.now _))
    · unfold impl_FirstPlacing.f; exact Ev.bind e2 (Ev.neg (by decide) (Ev.now _))
  | true =>
    have hG := hbb.mp rfl
    obtain ⟨m, rfl⟩ : ∃ m : Nat, s = (m : Int) := ⟨s.toNat, by have := hG.1.1; omega⟩
    have hg5 := hG.2.2.2.1
    have hg1 : ∀ i, i < g.length → 1 ≤ g.getD i 0 := fun i hi => by rw [getD_lt g i hi]; exact hG.2.2.2.2 _ (List.getElem_mem hi)
    have h1 := place_all m r tk g d hG hL hgw g.length [] ([], 0) (by simp) (fun q hq => by simp at hq)
    have h2 := placings_ev visCount m r tk g d hG hgw 0
    rw [runCount _ 0 []] at h2
    have h3 := place_one m r tk g d hG hL hgw [] g.length [] (by simp) (fun q hq => by simp at hq)
    have h4 := placings_ev visFirst m r tk g d hG hgw []
    have hr2 := runFirst (comps m tk g (mn d m) g.length []) []
    have hsz := comps_size m tk g (mn d m) g.length []
    have hpow : m ^ g.length ≤ 24 ^ 5 := Nat.le_trans (Nat.pow_le_pow_left (by have := hG.1.1; omega) _) (Nat.pow_le_pow_right (by decide) hg5.2)
    rw [show (24 : Nat) ^ 5 = 7962624 from rfl] at hpow
    have hcnt := stp_count (comps m tk g (mn d m) g.length []) ([], 0) (by simp) (by simp only; omega)
    have hsnd := comps_sound m tk g (mn d m) g.length []
    have hcmp := comps_complete m tk g (mn d m) hg1 g.length []
    have hlst := comps_least m tk g (mn d m) g.length []
    rw [hcnt] at h2
    generalize hcs : comps m tk g (mn d m) g.length [] = cs at h1 h2 h3 h4 hr2 hsz hsnd hcmp hlst hcnt
    cases cs with
    | nil =>
      refine ⟨0, true, [], false, ?_, ?_, ?_, ?_, rfl, by simp, fun h => (by cases h), fun pl h => ?_⟩
      · unfold spec_CountPlacings.f
        refine Ev.bind e1 (Ev.pos rfl (Ev.bind (f := fun _ (t : List Int × Int) => some (t.2, true)) h1 ?_))
        exact Ev.now _
      · unfold impl_CountPlacings.f
        refine Ev.bind e2 (Ev.pos rfl (Ev.pos (by omega) (Ev.bind (f := fun _ (t : Bool × Int) => some (t.2, true)) h2 ?_)))
        exact Ev.now _
      · unfold spec_FirstPlacing.f
        exact Ev.bind e1 (Ev.pos rfl (Ev.bind (f := fun _ (t : List Int × Int) => some (t.1, decide (t.2 > 0))) h3 (Ev.now _)))
      · unfold impl_FirstPlacing.f
        refine Ev.bind e2 (Ev.pos rfl (Ev.pos (by omega) (Ev.bind (f := fun _ (t : Bool × List Int) => some (t.2, !t.2.isEmpty)) h4 ?_)))
        rw [hr2]
        exact Ev.now _
      · have := hcmp pl (by rw [h.2.1]; simp) (by rw [h.2.1]; omega) (by simp) (fun i _ hi => h.2.2 i hi)
        cases this
    | cons c cs =>
      have hc := hsnd c (by simp)
      have hpos : (0 : Int) < 0 + ((c :: cs).length : Int) := by rw [List.length_cons]; omega
      have hne : (!c.isEmpty) = true := by
        have := hc.1
        cases c with
        | nil => simp at this; omega
        | cons _ _ => rfl
      refine ⟨0 + ((c :: cs).length : Int), true, c, true, ?_, ?_, ?_, ?_, ?_, ?_, fun _ => ⟨hG, by have := hc.1; simpa using this, fun i hi => hc.2.2 i (by simp) hi⟩, fun pl h => ⟨rfl, ?_⟩⟩
      · unfold spec_CountPlacings.f
        exact Ev.bind e1 (Ev.pos rfl (Ev.bind (f := fun _ (t : List Int × Int) => some (t.2, true)) h1 (by rw [hcnt]; exact Ev.now _)))
      · unfold impl_CountPlacings.f
        exact Ev.bind e2 (Ev.pos rfl (Ev.pos (by omega) (Ev.bind (f := fun _ (t : Bool × Int) => some (t.2, true)) h2 (Ev.now _))))
      · unfold spec_FirstPlacing.f
        exact Ev.bind e1 (Ev.pos rfl (Ev.bind (f := fun _ (t : List Int × Int) => some (t.1, decide (t.2 > 0))) h3 (Ev.now _)))
      · unfold impl_FirstPlacing.f
        refine Ev.bind e2 (Ev.pos rfl (Ev.pos (by omega) (Ev.bind (f := fun _ (t : Bool × List Int) => some (t.2, !t.2.isEmpty)) h4 ?_)))
        rw [hr2]
        simp only [hne]
        exact Ev.now _
      · rw [decide_eq_true hpos]; rfl
      · have := hc.1; simp only [List.length_nil] at this; omega
      · have := hcmp pl (by rw [h.2.1]; simp) (by rw [h.2.1]; omega) (by simp) (fun i _ hi => h.2.2 i hi)
        exact hlst c cs rfl pl this
theorem vHas_no (l : List Int) (x : Int) (hL : l.length ≤ 1000000) (hx : x ∉ l) : Ev (fun k => laws_vHas.f k l x) false := by
  have key : ∀ n i, i + n = l.length → Ev (fun k => laws_vHas.l0 k l x (i : Int)) false := by
    intro n
    induction n with
    | zero =>
      intro i hi
      refine Ev.succ ?_
      simp only [laws_vHas.l0.eq_2]
      exact Ev.neg (by omega) (Ev.now _)
    | succ n ih =>
      intro i hi
      refine Ev.succ ?_
      simp only [laws_vHas.l0.eq_2]
      rw [rd_nat l i (by omega), w64 (n := (i : Int) + 1) (by omega) (by omega)]
      exact Ev.pos (by omega) (Ev.pos (by omega) (Ev.neg (fun e => hx (by rw [← e]; exact List.getElem_mem _)) (ih (i + 1) (by omega))))
  unfold laws_vHas.f
  exact key l.length 0 (by omega)
/-- the seats of all groups are free ahead and taken behind -/
theorem plc_loops {s : Nat} {r : Bool} {tk g pl : List Int} {d : Int} (h : Plc (s : Int) r tk g pl d) (hL : tk.length ≤ 1000000) : Ev (fun k => laws_FnPlacings.l0 k pl g tk (listN (tkN tk g pl pl.length)) 0) true := by
  have hG := h.1
  have hlen := h.2.1
  have hg5 := hG.2.2.2.1
  have hs := hG.1.1
  have hT := listN_len (tkN tk g pl pl.length)
  have inner : ∀ i, i < pl.length → ∀ (n : Nat) (p : Int), pl.getD i 0 ≤ p → p + (n : Int) = pl.getD i 0 + g.getD i 0 → Ev (fun k => laws_FnPlacings.l1 k pl g tk (listN (tkN tk g pl pl.length)) (i : Int) p) true := by
    intro i hi n
    have hp := plc_g h i (by omega)
    induction n with
    | zero =>
      intro p h1 h2
      refine Ev.succ ?_
      simp only [laws_FnPlacings.l1.eq_2]
      rw [rd_getD, rd_getD, w64 (n := pl.getD i 0 + g.getD i 0) (by omega) (by omega)]
      exact Ev.pos ⟨by omega, by omega, by omega⟩ (Ev.neg (by omega) (Ev.now _))
    | succ n ih =>
      intro p h1 h2
      have hb : (tkN tk g pl pl.length).testBit p.toNat = true := (tkN_bit tk g pl pl.length p.toNat).mpr (.inr ⟨i, hi, by omega, by omega⟩)
      have hin : p ∈ listN (tkN tk g pl pl.length) := (listN_mem _ p).mpr ⟨by omega, hb⟩
      have hout : p ∉ tk := fun hc => by
        obtain ⟨q, hq, e⟩ := List.mem_iff_getElem.mp hc
        have h3 := ((plOk_iff _ _ _ _ _ _ hi).mp (h.2.2 i hi)).2.1 q hq
        have h4 := (mn_bound d s hG.2.2.1).1
        unfold FitT at h3
        rw [getD_lt tk q hq, e] at h3
        omega
      refine Ev.succ ?_
      simp only [laws_FnPlacings.l1.eq_2]
      rw [rd_getD, rd_getD, w64 (n := pl.getD i 0 + g.getD i 0) (by omega) (by omega), w64 (n := p + 1) (by omega) (by omega)]
      exact Ev.pos ⟨by omega, by omega, by omega⟩ (Ev.pos (by omega) (Ev.bind (vHas_no tk p hL hout) (Ev.bind (vHas_mem _ p (by omega) hin) (Ev.pos ⟨rfl, rfl⟩ (ih (p + 1) (by omega) (by omega))))))
  have outer : ∀ n i, i + n = pl.length → Ev (fun k => laws_FnPlacings.l0 k pl g tk (listN (tkN tk g pl pl.length)) (i : Int)) true := by
    intro n
    induction n with
    | zero =>
      intro i hi
      refine Ev.succ ?_
      simp only [laws_FnPlacings.l0.eq_2]
      exact Ev.neg (by omega) (Ev.now _)
    | succ n ih =>
      intro i hi
      have hp := plc_g h i (by omega)
      refine Ev.succ ?_
      simp only [laws_FnPlacings.l0.eq_2]
      rw [rd_getD, w64 (n := (i : Int) + 1) (by omega) (by omega)]
      exact Ev.pos (by omega) (Ev.pos (by omega) (Ev.bind (inner i (by omega) (g.getD i 0).toNat (pl.getD i 0) (by omega) (by omega)) (ih (i + 1) (by omega))))
  exact outer pl.length 0 (by omega)
/-- what is drawn for a placing -/
theorem draw_places (l0 : List Int) (hb : Bytes8 l0) (hl : l0.length ≤ 1000000) : ∃ (s : Int) (r : Bool) (tk g : List Int) (d : Int) (pl : List Int), Ev (fun k => spec_DrawPlaceRow.f k l0) (s, r, tk, g, d, pl) ∧ tk.length ≤ 31 ∧ Gs g ∧ pl.length ≤ 1000 := by
  obtain ⟨S, R, l, g, d, p, q, h1, h2, h3, h4, h5⟩ := groups_ok l0 hb hl 0
  obtain ⟨many, th, fl, one, _, _, hf, _, _, hfl, _⟩ := found_key S R l g d (by omega) (by have := h3.1; omega) (fun x hx => by have := h3.2 x hx; omega)
  have loop : ∀ n i pl (p q : Int), i + n = g.length → pl.length = i → 0 ≤ p → p ≤ 800000 - 2 * n → ∃ pl', Ev (fun k => spec_DrawIsPlacing.l0 k g d pl (i : Int) l0 p q S R l) (S, R, l, g, d, pl') ∧ pl'.length ≤ 1000 := by
    have hgl := h3.1
    intro n
    induction n with
    | zero =>
      intro i pl p q hi hp h0 h1
      refine ⟨pl, Ev.succ ?_, by omega⟩
      simp only [spec_DrawIsPlacing.l0.eq_2]
      exact Ev.neg (by omega) (Ev.now _)
    | succ n ih =>
      intro i pl p q hi hp h0 h1
      obtain ⟨v, p1, q1, e1, h6, h7⟩ := seat_ok l0 hb hl p q S R l h0 (by omega)
      obtain ⟨pl', h8, h9⟩ := ih (i + 1) (pl ++ [v]) p1 q1 (by omega) (by simp; omega) (by omega) (by omega)
      refine ⟨pl', Ev.succ ?_, h9⟩
      simp only [spec_DrawIsPlacing.l0.eq_2]
      rw [w64 (n := (i : Int) + 1) (by omega) (by omega)]
      exact Ev.pos (by omega) (Ev.bindc e1 (Ev.pos (by omega) h8))
  have j0 : ∀ (b : Bool) (p q : Int), 0 ≤ p → p ≤ 700000 → ∃ pl', Ev (fun k => spec_DrawIsPlacing.j0 k g d fl b l0 p q S R l) (S, R, l, g, d, pl') ∧ pl'.length ≤ 1000 := by
    intro b p q h0 h1
    cases b with
    | true =>
      refine ⟨fl, Ev.succ ?_, by omega⟩
      simp only [spec_DrawIsPlacing.j0.eq_2]
      exact Ev.pos trivial (Ev.now _)
    | false =>
      obtain ⟨pl', h8, h9⟩ := loop g.length 0 [] p q (by omega) rfl h0 (by have := h3.1; omega)
      refine ⟨pl', Ev.succ ?_, h9⟩
      simp only [spec_DrawIsPlacing.j0.eq_2]
      exact Ev.neg (by decide) h8
  cases one with
  | true =>
    obtain ⟨b, p1, q1, e1, h6, h7⟩ := one_ok l0 hb hl p q 2 h4 (by omega) (by decide)
    obtain ⟨pl, h8, h9⟩ := j0 b p1 q1 (by omega) (by omega)
    refine ⟨S, R, l, g, d, pl, ?_, h2, h3, h9⟩
    unfold spec_DrawPlaceRow.f
    refine Ev.bind (a := (S, R, l, g, d, pl)) ?_ (Ev.now _)
    unfold spec_DrawIsPlacing.f
    exact Ev.bind h1 (Ev.bind hf (Ev.pos rfl (Ev.bindc e1 h8)))
  | false =>
    obtain ⟨pl, h8, h9⟩ := j0 false p q h4 (by omega)
    refine ⟨S, R, l, g, d, pl, ?_, h2, h3, h9⟩
    unfold spec_DrawPlaceRow.f
    refine Ev.bind (a := (S, R, l, g, d, pl)) ?_ (Ev.now _)
    unfold spec_DrawIsPlacing.f
    exact Ev.bind h1 (Ev.bind hf (Ev.neg (by simp) h8))
theorem FnPlacings : laws_FnPlacings.Pure := by
  intro l0 _ _ hwf
  refine Ev.rounds (g := fun k => laws_FnPlacings.f k l0) ?_
  have hb : Bytes8 l0 := fun x hx => by
    have := hwf x hx
    simp [Lit.wf, IntKind.min, IntKind.max, IntKind.bits, IntKind.signed] at this; omega
  unfold laws_FnPlacings.f
  by_cases hbig : (l0.length : Int) > 65536
  · exact Ev.bindc (a := true) (by unfold laws_vBig.f; rw [decide_eq_true hbig]) (Ev.pos rfl (Ev.now _))
  refine Ev.bindc (a := false) (by unfold laws_vBig.f; rw [decide_eq_false hbig]) (Ev.neg (by decide) ?_)
  obtain ⟨s, r, tk, g, d, pl, hd, h1, h2, h3⟩ := draw_places l0 hb (by omega)
  obtain ⟨c1, hc1, hcb, hcl⟩ := vCut_ok l0 hb (by omega)
  obtain ⟨us, ur, ul, sl, ap, p, q, h4, h5, h6, _, _⟩ := groups_ok c1 hcb (by omega) 0
  have hd2 : Ev (fun k => spec_DrawCountPlacings.f k c1) (us, ur, ul, sl, ap) := by
    unfold spec_DrawCountPlacings.f
    refine Ev.bind (a := (us, ur, ul, sl, ap)) ?_ (Ev.now _)
    unfold spec_DrawFirstPlacing.f
    exact Ev.bind h4 (Ev.now _)
  obtain ⟨z, iz, fi, z1, z2, z3, z4, z5, z6, z7, z8, z9⟩ := place_both s r tk g pl d (by omega) (by have := h2.1; omega) (fun x hx => by have := h2.2 x hx; omega)
  obtain ⟨nm, th, fl, one, f1, f2, f3, f4, f5, f6, f7, f8⟩ := found_key us ur ul sl ap (by omega) (by have := h6.1; omega) (fun x hx => by have := h6.2 x hx; omega)
  obtain ⟨m2, th2, lo, one2, g1, g2, g3, g4, g5, g6, g7, g8⟩ := found_key s r tk g d (by omega) (by have := h2.1; omega) (fun x hx => by have := h2.2 x hx; omega)
  refine Ev.bind hd (Ev.bind z2 (Ev.bind z1 (Ev.bind z4 (Ev.bind z3 (Ev.bindc hc1 (Ev.bind hd2 (Ev.bind f2 (Ev.bind f1 (Ev.bind f4 (Ev.bind f3 (Ev.pos ⟨rfl, rfl, rfl, rfl, z5, f5⟩ ?_)))))))))))
  refine Ev.bind (vRow_refl _ _ _ (by omega)) (Ev.bind (vInts_refl fl (by omega)) (Ev.pos ⟨rfl, rfl⟩ (Ev.bind (a := true) ?_ ?_)))
  · unfold laws_FnPlacings.q
    cases one with
    | false => exact Ev.neg (by simp) (Ev.now _)
    | true =>
      have hP := f7 rfl
      obtain ⟨m, rfl⟩ : ∃ m : Nat, us = (m : Int) := ⟨us.toNat, by have := hP.1.1.1; omega⟩
      obtain ⟨y, iy, fy, _, y2, _, y4, y5, _, y7, y8, y9⟩ := place_both (m : Int) ur ul sl fl ap (by omega) (by have := h6.1; omega) (fun x hx => by have := h6.2 x hx; omega)
      obtain rfl := y8.mpr hP
      obtain rfl := y7.mpr hP.1
      have hsum := sumTo_range sl (fun i hi => by have := plc_g hP i hi; omega) sl.length (Nat.le_refl _)
      have hlen := plc_len hP
      have hs5 := hP.1.2.2.2.1
      refine Ev.pos rfl (Ev.bind y4 (Ev.bind y2 (Ev.bind (vAdd_ev sl (by omega) (fun i hi => by have := plc_g hP i hi; omega)) (Ev.pos ⟨rfl, y5, ?_⟩ (Ev.now _)))))
      rw [y9 rfl]
      show ((listN (tkN ul sl fl fl.length)).length : Int) = wrap64 ((ul.length : Int) + sumTo sl sl.length)
      rw [w64 (by omega) (by omega)]
      exact hlen
  · cases hz : z.2.2.2 with
    | false => exact Ev.neg (by decide) (Ev.now _)
    | true =>
      rw [hz] at z5
      obtain ⟨rfl, rfl⟩ : fi = true ∧ iz = true := by
        have h0 := z5.symm
        rw [Bool.and_eq_true] at h0
        exact h0
      have hP := z8.mp rfl
      obtain ⟨m, rfl⟩ : ∃ m : Nat, s = (m : Int) := ⟨s.toNat, by have := hP.1.1.1; omega⟩
      obtain ⟨rfl, hlx⟩ := g8 pl hP
      have hsum := sumTo_range g (fun i hi => by have := plc_g hP i hi; omega) g.length (Nat.le_refl _)
      have hlen := plc_len hP
      have hs5 := hP.1.2.2.2.1
      rw [z9 rfl]
      refine Ev.pos rfl (Ev.bind (plc_loops hP (Nat.le_trans h1 (by decide))) ?_)
      unfold laws_FnPlacings.h
      refine Ev.bind g4 (Ev.bind (vLess_ev pl lo (by have := hP.2.1; omega) (by omega) hlx) (Ev.bind (vAdd_ev g (by omega) (fun i hi => by have := plc_g hP i hi; omega)) (Ev.pos ⟨rfl, rfl, ?_⟩ (Ev.now _))))
      show ((listN (tkN tk g pl pl.length)).length : Int) = wrap64 ((tk.length : Int) + sumTo g g.length)
      rw [w64 (by omega) (by omega)]
      exact hlen

end Go.Proofs.YtnoipklaebadeaaDoor.Pure
