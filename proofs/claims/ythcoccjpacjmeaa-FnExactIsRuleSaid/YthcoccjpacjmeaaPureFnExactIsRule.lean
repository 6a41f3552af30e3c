/- Proved: for every rule the law FnExactIsRule, as printed, answers true. Conditions: none but the bounds of the printed statement. -/
import Derived.Test.YthcoccjpacjmeaaPFnExactIsRulex5
namespace Go.Proofs.Ythcoccjpacjmeaa.Pure
open Go.RowKit Go.Proofs.Ythcoccjpacjmeaa.PFnExactIsRule Go.Proofs.YthcoccjpacjmeaaW.PrintWords Go.Proofs.YthcoccjpacjmeaaW.PrintLast Go.Proofs.YthcoccjpacjmeaaW.PrintMore
set_option linter.unusedVariables false

theorem Ev.pos {α : Type} {c : Prop} [Decidable c] {f g : Nat → Option α} {r : α} (h : c) (k : Ev f r) : Ev (fun m => if c then f m else g m) r :=
  Ev.congr (fun _ => if_pos h) k
theorem Ev.neg {α : Type} {c : Prop} [Decidable c] {f g : Nat → Option α} {r : α} (h : ¬ c) (k : Ev g r) : Ev (fun m => if c then f m else g m) r :=
  Ev.congr (fun _ => if_neg h) k
theorem Ev.bindc {α β : Type} {x : Option α} {f : Nat → α → Option β} {a : α} {r : β} (h : x = some a) (k : Ev (fun n => f n a) r) : Ev (fun n => x.bind (f n)) r := by
  subst h; exact k
theorem Ev.succ {α : Type} {g : Nat → Option α} {r : α} (k : Ev (fun n => g (n + 1)) r) : Ev g r := Ev.step (fun _ => rfl) k
theorem Ev.unique {α : Type} {g : Nat → Option α} {r q : α} (h : Ev g r) (k : Ev g q) : r = q := by
  obtain ⟨K, hK⟩ := h; obtain ⟨L, hL⟩ := k
  have := (hK (max K L) (Nat.le_max_left _ _)).symm.trans (hL (max K L) (Nat.le_max_right _ _))
  exact Option.some.inj this
theorem w64 {n : Int} (h0 : -9223372036854775808 ≤ n) (h1 : n < 9223372036854775808) : wrap64 n = n := by unfold wrap64; omega
theorem rd_nat (l : List Int) (i : Nat) (h : i < l.length) : rd l (i : Int) = l[i] := by
  unfold rd; rw [Int.toNat_natCast, List.getD_eq_getElem?_getD, List.getElem?_eq_getElem h]; rfl
theorem lit_i64 {x : Int} (h : (Lit.int .i64 x).wf = true) : -9223372036854775808 ≤ x ∧ x < 9223372036854775808 := by
  simp [Lit.wf, IntKind.min, IntKind.max, IntKind.bits, IntKind.signed] at h; omega
/-- a loop that ends early, with one answer, where P fails -/
theorem ev_all {α : Type} (L : Nat → Nat → Option α) (n : Nat) (P : Nat → Prop) (rEnd : α)
    (hend : Ev (fun k => L k n) rEnd) (hgood : ∀ i, i < n → P i → ∀ r, Ev (fun k => L k (i + 1)) r → Ev (fun k => L k i) r)
    (i : Nat) (hi : i ≤ n) (h : ∀ j, i ≤ j → j < n → P j) : Ev (fun k => L k i) rEnd := by
  obtain ⟨d, hd⟩ : ∃ d, i + d = n := ⟨n - i, by omega⟩
  induction d generalizing i with
  | zero => rw [show i = n by omega]; exact hend
  | succ d ih => exact hgood i (by omega) (h i (by omega) (by omega)) _ (ih (i + 1) (by omega) (fun j h1 h2 => h j (by omega) h2) (by omega))
theorem ev_bad {α : Type} (L : Nat → Nat → Option α) (n : Nat) (P : Nat → Prop) (rBad : α)
    (hgood : ∀ i, i < n → P i → ∀ r, Ev (fun k => L k (i + 1)) r → Ev (fun k => L k i) r) (hbad : ∀ i, i < n → ¬ P i → Ev (fun k => L k i) rBad)
    (i : Nat) (h : ∃ j, i ≤ j ∧ j < n ∧ ¬ P j) : Ev (fun k => L k i) rBad := by
  obtain ⟨j, h1, h2, h3⟩ := h
  obtain ⟨d, hd⟩ : ∃ d, i + d = j := ⟨j - i, by omega⟩
  induction d generalizing i with
  | zero => rw [show i = j by omega]; exact hbad j h2 h3
  | succ d ih =>
    by_cases hp : P i
    · exact hgood i (by omega) hp _ (ih (i + 1) (by omega) (by omega))
    · exact hbad i (by omega) hp
theorem ev_dec {α : Type} (L : Nat → Nat → Option α) (n : Nat) (P : Nat → Prop) [DecidablePred P] (f : Bool → α)
    (hend : Ev (fun k => L k n) (f true)) (hgood : ∀ i, i < n → P i → ∀ r, Ev (fun k => L k (i + 1)) r → Ev (fun k => L k i) r)
    (hbad : ∀ i, i < n → ¬ P i → Ev (fun k => L k i) (f false)) (b : Bool) (hb : b = true ↔ ∀ j, j < n → P j) : Ev (fun k => L k 0) (f b) := by
  cases b with
  | true => exact ev_all L n P (f true) hend hgood 0 (by omega) (fun j _ h => hb.mp rfl j h)
  | false =>
    refine ev_bad L n P (f false) hgood hbad 0 ?_
    by_cases h : ∀ j, j < n → P j
    · exact absurd (hb.mpr h) (by decide)
    · have : ∃ j, ¬ (j < n → P j) := Classical.not_forall.mp h
      obtain ⟨j, hj⟩ := this
      exact ⟨j, by omega, Decidable.byContradiction (fun c => hj (fun h2 => absurd h2 c)), fun c => hj (fun _ => c)⟩
/-- a loop with a state -/
def iterFrom {σ : Type} (g : Nat → σ → σ) : Nat → Nat → σ → σ
  | 0, _, s => s
  | d + 1, i, s => iterFrom g d (i + 1) (g i s)
theorem ev_iter {σ α : Type} (L : Nat → σ → Nat → Option α) (n : Nat) (g : Nat → σ → σ) (fin : σ → α) (I : Nat → σ → Prop)
    (hend : ∀ s, I n s → Ev (fun k => L k s n) (fin s)) (hI : ∀ i s, i < n → I i s → I (i + 1) (g i s))
    (hstep : ∀ i s, i < n → I i s → ∀ r, Ev (fun k => L k (g i s) (i + 1)) r → Ev (fun k => L k s i) r) :
    ∀ (d i : Nat) (s : σ), i + d = n → I i s → Ev (fun k => L k s i) (fin (iterFrom g d i s)) := by
  intro d
  induction d with
  | zero => intro i s hi hs; rw [show i = n by omega] at hs ⊢; exact hend s hs
  | succ d ih => intro i s hi hs; exact hstep i s (by omega) hs _ (ih (i + 1) (g i s) (by omega) (hI i s (by omega) hs))
theorem toIntS_loop (l : List Int) (hl : l.length ≤ 35184372088832) : ∀ (d i : Nat) (acc : List Int), i + d = l.length → acc.length = l.length → (∀ j, j < i → acc[j]? = l[j]?) → Ev (fun k => laws_toIntS.l0 k l acc (i : Int)) l := by
  intro d
  induction d with
  | zero =>
    intro i acc hi ha hj
    refine Ev.succ ?_
    simp only [laws_toIntS.l0.eq_2]
    refine Ev.neg (by omega) ?_
    have : acc = l := List.ext_getElem? (fun j => by
      by_cases h : j < i
      · exact hj j h
      · rw [List.getElem?_eq_none (by omega), List.getElem?_eq_none (by omega)])
    rw [this]; exact Ev.now _
  | succ d ih =>
    intro i acc hi ha hj
    refine Ev.succ ?_
    simp only [laws_toIntS.l0.eq_2]
    refine Ev.pos (by omega) (Ev.pos (by omega) (Ev.pos (by omega) ?_))
    rw [w64 (by omega) (by omega)]
    refine ih (i + 1) _ (by omega) (by simpa using ha) ?_
    intro j h
    rw [Int.toNat_natCast, List.getElem?_set]
    by_cases e : i = j
    · subst e
      rw [if_pos rfl, if_pos (by omega), rd_nat l i (by omega), List.getElem?_eq_getElem]
    · rw [if_neg e]; exact hj j (by omega)
theorem toIntS_ev (l : List Int) (hl : l.length ≤ 35184372088832) : Ev (fun k => laws_toIntS.f k l) l := by
  unfold laws_toIntS.f
  refine Ev.pos (by omega) (Ev.pos (by omega) ?_)
  exact toIntS_loop l hl l.length 0 _ (by omega) (by simp) (fun j h => by omega)
theorem eqIntS_loop (l : List Int) (hl : l.length ≤ 35184372088832) : ∀ (d i : Nat), i + d = l.length → Ev (fun k => laws_eqIntS.l0 k l l (i : Int)) true := by
  intro d
  induction d with
  | zero =>
    intro i hi
    refine Ev.succ ?_
    simp only [laws_eqIntS.l0.eq_2]
    exact Ev.neg (by omega) (Ev.now _)
  | succ d ih =>
    intro i hi
    refine Ev.succ ?_
    simp only [laws_eqIntS.l0.eq_2]
    refine Ev.pos (by omega) (Ev.pos (by omega) (Ev.pos (by omega) (Ev.pos (by trivial) ?_)))
    rw [w64 (by omega) (by omega)]
    exact ih (i + 1) (by omega)
theorem eqIntS_ev (l : List Int) (hl : l.length ≤ 35184372088832) : Ev (fun k => laws_eqIntS.f k l l) true := by
  unfold laws_eqIntS.f
  exact Ev.pos rfl (eqIntS_loop l hl l.length 0 (by omega))
theorem within_eq (a b c : Int) : impl_within.f a b c = some (decide (b ≤ a ∧ a ≤ c)) := by
  unfold impl_within.f
  by_cases h : a ≥ b
  · rw [if_pos h]; simp [show b ≤ a from h]
  · rw [if_neg h]; simp [show ¬ b ≤ a from h]
theorem l1In_eq (a b c : Int) : spec_l1In.f a b c = some (decide (b ≤ a ∧ a ≤ c)) := by
  unfold spec_l1In.f
  by_cases h : a ≥ b
  · rw [if_pos h]; simp [show b ≤ a from h]
  · rw [if_neg h]; simp [show ¬ b ≤ a from h]
theorem allWithin_loop (l : List Int) (lo hi : Int) (hl : l.length ≤ 35184372088832) : ∀ (d i : Nat), i + d = l.length → Ev (fun k => impl_allWithin.l0 k lo hi l (l.length : Int) (i : Int)) (decide (∀ x ∈ l.drop i, lo ≤ x ∧ x ≤ hi)) := by
  intro d
  induction d with
  | zero =>
    intro i hi
    refine Ev.succ ?_
    simp only [impl_allWithin.l0.eq_2]
    rw [List.drop_of_length_le (by omega)]
    exact Ev.neg (by omega) (by simp; exact Ev.now _)
  | succ d ih =>
    intro i hi'
    refine Ev.succ ?_
    simp only [impl_allWithin.l0.eq_2]
    refine Ev.pos (by omega) (Ev.pos (by omega) (Ev.pos (by omega) (Ev.bindc (within_eq _ _ _) ?_)))
    have hd : l.drop i = l[i] :: l.drop (i + 1) := (List.drop_eq_getElem_cons (by omega))
    rw [rd_nat l i (by omega)]
    by_cases e : lo ≤ l[i] ∧ l[i] ≤ hi
    · refine Ev.pos (decide_eq_true e) ?_
      rw [w64 (by omega) (by omega)]
      have e1 : (∀ x ∈ l.drop i, lo ≤ x ∧ x ≤ hi) ↔ (∀ x ∈ l.drop (i + 1), lo ≤ x ∧ x ≤ hi) := by rw [hd]; simp only [List.mem_cons, forall_eq_or_imp, e, true_and]
      rw [decide_eq_decide.mpr e1]
      exact ih (i + 1) (by omega)
    · rw [show decide (∀ x ∈ l.drop i, lo ≤ x ∧ x ≤ hi) = false by rw [hd]; simp only [List.mem_cons, forall_eq_or_imp, decide_eq_false_iff_not]; exact fun h => e h.1]
      exact Ev.neg (by simpa using e) (Ev.now _)
theorem allWithin_ev (l : List Int) (lo hi : Int) (hl : l.length ≤ 35184372088832) : Ev (fun k => impl_allWithin.f k l lo hi) (decide (∀ x ∈ l, lo ≤ x ∧ x ≤ hi)) := allWithin_loop l lo hi hl l.length 0 (by omega)
theorem szIntS_eq (l : List Int) (a : Int) (hl : l.length ≤ 35184372088832) (h0 : 0 ≤ a) (h1 : a ≤ 1048576) : laws_szIntS.f l a = some (if a - (l.length : Int) < 0 then -1 else a - (l.length : Int)) := by
  unfold laws_szIntS.f
  rw [w64 (by omega) (by omega)]
  split <;> rfl
/-- a valid rule -/
def IsRl (n : Int) (l : List Int) : Prop := (1 ≤ n ∧ n ≤ 3) ∧ (l.length : Int) = n * n ∧ (∀ x ∈ l, 0 ≤ x ∧ x ≤ 1) ∧ ∀ a b : Nat, (a : Int) < n → (b : Int) < n → l.getD (a * n.toNat + b) 0 = l.getD (b * n.toNat + a) 0
theorem rl_idx {m : Nat} (hm : m ≤ 3) {a b : Nat} (ha : a < m) (hb : b < m) : a * m + b < m * m := by
  have : a * m ≤ (m - 1) * m := Nat.mul_le_mul_right _ (by omega)
  have h2 : (m - 1) * m + m = m * m := by
    have : (m - 1 + 1) * m = m * m := by rw [Nat.sub_add_cancel (by omega)]
    rw [← this, Nat.add_mul, Nat.one_mul]
  omega
theorem rl_wrap {m : Nat} (hm : m ≤ 3) {a b : Nat} (ha : a < m) (hb : b < m) : wrap64 (wrap64 ((a : Int) * (m : Int)) + (b : Int)) = ((a * m + b : Nat) : Int) := by
  have := rl_idx hm ha hb
  have h1 : m * m ≤ 3 * 3 := Nat.mul_le_mul hm hm
  have e : (a : Int) * (m : Int) = ((a * m : Nat) : Int) := by push_cast; rfl
  rw [e, w64 (n := ((a * m : Nat) : Int)) (by omega) (by omega), w64 (by omega) (by omega)]
  omega
theorem l8Rule_l1 (m : Nat) (hm : m ≤ 3) (l : List Int) (hl : l.length = m * m) (a : Nat) (ha : a < m) :
    (∀ r, Ev (fun k => spec_l8Rule.l0 k ((a + 1 : Nat) : Int) (m : Int) l) r → (∀ b, b < m → (0 ≤ l.getD (a * m + b) 0 ∧ l.getD (a * m + b) 0 ≤ 1) ∧ l.getD (a * m + b) 0 = l.getD (b * m + a) 0) → Ev (fun k => spec_l8Rule.l1 k (a : Int) ((0 : Nat) : Int) (m : Int) l) r) ∧
    ((∃ b, b < m ∧ ¬ ((0 ≤ l.getD (a * m + b) 0 ∧ l.getD (a * m + b) 0 ≤ 1) ∧ l.getD (a * m + b) 0 = l.getD (b * m + a) 0)) → Ev (fun k => spec_l8Rule.l1 k (a : Int) ((0 : Nat) : Int) (m : Int) l) false) := by
  have hidx : ∀ b, b < m → a * m + b < m * m ∧ b * m + a < m * m := fun b hb => ⟨rl_idx hm ha hb, rl_idx hm hb ha⟩
  have rdd : ∀ i : Nat, rd l (i : Int) = l.getD i 0 := fun i => by unfold rd; rw [Int.toNat_natCast]
  have hgood : ∀ i, i < m → ((0 ≤ l.getD (a * m + i) 0 ∧ l.getD (a * m + i) 0 ≤ 1) ∧ l.getD (a * m + i) 0 = l.getD (i * m + a) 0) → ∀ r, Ev (fun k => spec_l8Rule.l1 k (a : Int) ((i + 1 : Nat) : Int) (m : Int) l) r → Ev (fun k => spec_l8Rule.l1 k (a : Int) (i : Int) (m : Int) l) r := by
    intro b hb hp r h
    have := hidx b hb
    refine Ev.succ ?_
    simp only [spec_l8Rule.l1.eq_2]
    rw [rl_wrap hm ha hb, rl_wrap hm hb ha, rdd, rdd]
    refine Ev.pos (by omega) (Ev.pos (by omega) (Ev.pos (by omega) (Ev.bindc (l1In_eq _ _ _) (Ev.pos (decide_eq_true hp.1) (Ev.pos (by omega) (Ev.pos (by omega) (Ev.pos hp.2 ?_)))))))
    rw [w64 (by omega) (by omega)]
    exact h
  have hbad : ∀ i, i < m → ¬ ((0 ≤ l.getD (a * m + i) 0 ∧ l.getD (a * m + i) 0 ≤ 1) ∧ l.getD (a * m + i) 0 = l.getD (i * m + a) 0) → Ev (fun k => spec_l8Rule.l1 k (a : Int) (i : Int) (m : Int) l) false := by
    intro b hb hp
    have := hidx b hb
    refine Ev.succ ?_
    simp only [spec_l8Rule.l1.eq_2]
    rw [rl_wrap hm ha hb, rl_wrap hm hb ha, rdd, rdd]
    refine Ev.pos (by omega) (Ev.pos (by omega) (Ev.pos (by omega) (Ev.bindc (l1In_eq _ _ _) ?_)))
    by_cases h1 : 0 ≤ l.getD (a * m + b) 0 ∧ l.getD (a * m + b) 0 ≤ 1
    · exact Ev.pos (decide_eq_true h1) (Ev.pos (by omega) (Ev.pos (by omega) (Ev.neg (fun h2 => hp ⟨h1, h2⟩) (Ev.now _))))
    · exact Ev.neg (by simpa using h1) (Ev.now _)
  constructor
  · intro r h hp
    refine ev_all (fun k i => spec_l8Rule.l1 k (a : Int) (i : Int) (m : Int) l) m _ r ?_ hgood 0 (by omega) (fun j _ hj => hp j hj)
    refine Ev.succ ?_
    simp only [spec_l8Rule.l1.eq_2]
    rw [w64 (n := (a : Int) + 1) (by omega) (by omega)]
    exact Ev.neg (by omega) h
  · rintro ⟨b, hb, hp⟩
    exact ev_bad (fun k i => spec_l8Rule.l1 k (a : Int) (i : Int) (m : Int) l) m _ false hgood hbad 0 ⟨b, by omega, hb, hp⟩
theorem l8Rule_ev (n : Int) (l : List Int) (hl : l.length ≤ 35184372088832) (b : Bool) (hb : b = true ↔ IsRl n l) : Ev (fun k => spec_l8Rule.f k n l) b := by
  unfold spec_l8Rule.f
  refine Ev.bindc (l1In_eq _ _ _) ?_
  by_cases hn : 1 ≤ n ∧ n ≤ 3
  · refine Ev.pos (decide_eq_true hn) (Ev.succ ?_)
    simp only [spec_l8Rule.j0.eq_2]
    obtain ⟨m, rfl⟩ : ∃ m : Nat, n = (m : Int) := ⟨n.toNat, by omega⟩
    have hm : m ≤ 3 := by omega
    have hmm : m * m ≤ 9 := Nat.mul_le_mul hm hm
    have e : (m : Int) * (m : Int) = ((m * m : Nat) : Int) := by push_cast; rfl
    rw [e, w64 (by omega) (by omega)]
    by_cases hll : (l.length : Int) = ((m * m : Nat) : Int)
    · refine Ev.neg (by simpa using hll) ?_
      have hl' : l.length = m * m := by omega
      refine ev_dec (fun k i => spec_l8Rule.l0 k (i : Int) (m : Int) l) m (fun a => ∀ b, b < m → (0 ≤ l.getD (a * m + b) 0 ∧ l.getD (a * m + b) 0 ≤ 1) ∧ l.getD (a * m + b) 0 = l.getD (b * m + a) 0) id ?_ ?_ ?_ b ?_
      · refine Ev.succ ?_
        simp only [spec_l8Rule.l0.eq_2]
        exact Ev.neg (by omega) (Ev.now _)
      · intro a ha hp r h
        refine Ev.succ ?_
        simp only [spec_l8Rule.l0.eq_2]
        exact Ev.pos (by omega) ((l8Rule_l1 m hm l hl' a ha).1 r h hp)
      · intro a ha hp
        refine Ev.succ ?_
        simp only [spec_l8Rule.l0.eq_2]
        refine Ev.pos (by omega) ((l8Rule_l1 m hm l hl' a ha).2 ?_)
        obtain ⟨b, hb⟩ := Classical.not_forall.mp hp
        exact ⟨b, Decidable.byContradiction (fun c => hb (fun h2 => absurd h2 c)), fun c => hb (fun _ => c)⟩
      · rw [hb]
        unfold IsRl
        constructor
        · rintro ⟨_, _, h3, h4⟩ a ha c hc
          have hi := rl_idx hm ha hc
          refine ⟨?_, h4 a c (by omega) (by omega)⟩
          rw [List.getD_eq_getElem?_getD, List.getElem?_eq_getElem (by omega)]
          exact h3 _ (List.getElem_mem _)
        · intro h
          refine ⟨hn, by omega, ?_, fun a c ha hc => (h a (by omega) c (by omega)).2⟩
          intro x hx
          obtain ⟨i, hi, rfl⟩ := List.mem_iff_getElem.mp hx
          have hmpos : 0 < m := by omega
          have h1 := (h (i / m) (Nat.div_lt_of_lt_mul (by omega)) (i % m) (Nat.mod_lt _ hmpos)).1
          rw [Nat.mul_comm (i / m) m, Nat.div_add_mod, List.getD_eq_getElem?_getD, List.getElem?_eq_getElem (by omega)] at h1
          exact h1
    · refine Ev.pos (by simpa using hll) ?_
      have : b = false := by
        cases b with
        | false => rfl
        | true => exact absurd ((hb.mp rfl).2.1) (by omega)
      rw [this]; exact Ev.now _
  · refine Ev.neg (by simpa using hn) (Ev.succ ?_)
    simp only [spec_l8Rule.j0.eq_2]
    have : b = false := by
      cases b with
      | false => rfl
      | true => exact absurd ((hb.mp rfl).1) hn
    rw [this]; exact Ev.pos (by trivial) (Ev.now _)
theorem may_eq (m : Nat) (hm : m ≤ 3) (l : List Int) (hl : l.length = m * m) (a c : Nat) (ha : a < m) (hc : c < m) : impl_Rule_may.f (m : Int) l (a : Int) (c : Int) = some (l.getD (a * m + c) 0 == 1) := by
  unfold impl_Rule_may.f
  have := rl_idx hm ha hc
  rw [rl_wrap hm ha hc, if_pos (by omega), if_pos (by omega)]
  unfold rd; rw [Int.toNat_natCast]
theorem isRule_l1 (m : Nat) (hm : m ≤ 3) (l : List Int) (hl : l.length = m * m) (a : Nat) (ha : a < m) :
    (∀ r, Ev (fun k => impl_IsRule.l0 k (m : Int) ((a + 1 : Nat) : Int) (m : Int) l) r → (∀ b, b < a → (l.getD (a * m + b) 0 == 1) = (l.getD (b * m + a) 0 == 1)) → Ev (fun k => impl_IsRule.l1 k (a : Int) (m : Int) (a : Int) (a : Int) ((0 : Nat) : Int) (m : Int) l) r) ∧
    ((∃ b, b < a ∧ ¬ ((l.getD (a * m + b) 0 == 1) = (l.getD (b * m + a) 0 == 1))) → Ev (fun k => impl_IsRule.l1 k (a : Int) (m : Int) (a : Int) (a : Int) ((0 : Nat) : Int) (m : Int) l) false) := by
  have hgood : ∀ i, i < a → ((l.getD (a * m + i) 0 == 1) = (l.getD (i * m + a) 0 == 1)) → ∀ r, Ev (fun k => impl_IsRule.l1 k (a : Int) (m : Int) (a : Int) (a : Int) ((i + 1 : Nat) : Int) (m : Int) l) r → Ev (fun k => impl_IsRule.l1 k (a : Int) (m : Int) (a : Int) (a : Int) (i : Int) (m : Int) l) r := by
    intro b hb hp r h
    refine Ev.succ ?_
    simp only [impl_IsRule.l1.eq_2]
    refine Ev.pos (by omega) (Ev.bindc (may_eq m hm l hl a b ha (by omega)) (Ev.bindc (may_eq m hm l hl b a (by omega) ha) (Ev.neg (by rw [hp]; simp) ?_)))
    rw [w64 (by omega) (by omega)]
    exact h
  have hbad : ∀ i, i < a → ¬ ((l.getD (a * m + i) 0 == 1) = (l.getD (i * m + a) 0 == 1)) → Ev (fun k => impl_IsRule.l1 k (a : Int) (m : Int) (a : Int) (a : Int) (i : Int) (m : Int) l) false := by
    intro b hb hp
    refine Ev.succ ?_
    simp only [impl_IsRule.l1.eq_2]
    exact Ev.pos (by omega) (Ev.bindc (may_eq m hm l hl a b ha (by omega)) (Ev.bindc (may_eq m hm l hl b a (by omega) ha) (Ev.pos (by rw [bne_iff_ne]; exact hp) (Ev.now _))))
  constructor
  · intro r h hp
    refine ev_all (fun k i => impl_IsRule.l1 k (a : Int) (m : Int) (a : Int) (a : Int) (i : Int) (m : Int) l) a _ r ?_ hgood 0 (by omega) (fun j _ hj => hp j hj)
    refine Ev.succ ?_
    simp only [impl_IsRule.l1.eq_2]
    rw [w64 (n := (a : Int) + 1) (by omega) (by omega)]
    exact Ev.neg (by omega) h
  · rintro ⟨b, hb, hp⟩
    exact ev_bad (fun k i => impl_IsRule.l1 k (a : Int) (m : Int) (a : Int) (a : Int) (i : Int) (m : Int) l) a _ false hgood hbad 0 ⟨b, by omega, hb, hp⟩
theorem isRule_ev (n : Int) (l : List Int) (hl : l.length ≤ 35184372088832) (b : Bool) (hb : b = true ↔ IsRl n l) : Ev (fun k => impl_IsRule.f k n l) b := by
  unfold impl_IsRule.f
  refine Ev.bindc (within_eq _ _ _) ?_
  have hno : ¬ IsRl n l → b = false := fun h => by
    cases b with
    | false => rfl
    | true => exact absurd (hb.mp rfl) h
  by_cases hn : 1 ≤ n ∧ n ≤ 3
  · refine Ev.pos (decide_eq_true hn) ?_
    obtain ⟨m, rfl⟩ : ∃ m : Nat, n = (m : Int) := ⟨n.toNat, by omega⟩
    have hm : m ≤ 3 := by omega
    have hmm : m * m ≤ 9 := Nat.mul_le_mul hm hm
    have e : (m : Int) * (m : Int) = ((m * m : Nat) : Int) := by push_cast; rfl
    rw [e, w64 (by omega) (by omega)]
    by_cases hll : (l.length : Int) = ((m * m : Nat) : Int)
    · refine Ev.pos hll (Ev.bind (allWithin_ev l 0 1 hl) ?_)
      have hl' : l.length = m * m := by omega
      refine Ev.succ ?_
      simp only [impl_IsRule.j0.eq_2]
      by_cases hw : ∀ x ∈ l, 0 ≤ x ∧ x ≤ 1
      · refine Ev.neg (by simpa using hw) ?_
        refine ev_dec (fun k i => impl_IsRule.l0 k (m : Int) (i : Int) (m : Int) l) m (fun a => ∀ b, b < a → (l.getD (a * m + b) 0 == 1) = (l.getD (b * m + a) 0 == 1)) id ?_ ?_ ?_ b ?_
        · refine Ev.succ ?_
          simp only [impl_IsRule.l0.eq_2]
          exact Ev.neg (by omega) (Ev.now _)
        · intro a ha hp r h
          refine Ev.succ ?_
          simp only [impl_IsRule.l0.eq_2]
          exact Ev.pos (by omega) ((isRule_l1 m hm l hl' a ha).1 r h hp)
        · intro a ha hp
          refine Ev.succ ?_
          simp only [impl_IsRule.l0.eq_2]
          refine Ev.pos (by omega) ((isRule_l1 m hm l hl' a ha).2 ?_)
          obtain ⟨b, hb⟩ := Classical.not_forall.mp hp
          exact ⟨b, Decidable.byContradiction (fun c => hb (fun h2 => absurd h2 c)), fun c => hb (fun _ => c)⟩
        · rw [hb]
          have h01 : ∀ a c, a < m → c < m → l.getD (a * m + c) 0 = 0 ∨ l.getD (a * m + c) 0 = 1 := by
            intro a c ha hc
            have hi := rl_idx hm ha hc
            have : 0 ≤ l.getD (a * m + c) 0 ∧ l.getD (a * m + c) 0 ≤ 1 := by
              rw [List.getD_eq_getElem?_getD, List.getElem?_eq_getElem (by omega)]
              exact hw _ (List.getElem_mem _)
            omega
          have heq : ∀ a c, a < m → c < m → ((l.getD (a * m + c) 0 == 1) = (l.getD (c * m + a) 0 == 1)) → l.getD (a * m + c) 0 = l.getD (c * m + a) 0 := by
            intro a c ha hc h
            rcases h01 a c ha hc with h1 | h1 <;> rcases h01 c a hc ha with h2 | h2 <;> rw [h1, h2] at h <;> rw [h1, h2] <;> simp at h
          unfold IsRl
          constructor
          · rintro ⟨_, _, _, h4⟩ a ha c hc
            rw [show l.getD (a * m + c) 0 = l.getD (c * m + a) 0 from h4 a c (by omega) (by omega)]
          · intro h
            refine ⟨hn, by omega, hw, fun a c ha hc => ?_⟩
            rcases Nat.lt_trichotomy a c with hac | hac | hac
            · exact (heq c a (by omega) (by omega) (h c (by omega) a hac)).symm
            · rw [hac]
            · exact heq a c (by omega) (by omega) (h a (by omega) c hac)
      · rw [hno (fun h => hw h.2.2.1)]
        exact Ev.pos (by simpa using hw) (Ev.now _)
    · refine Ev.neg hll (Ev.succ ?_)
      simp only [impl_IsRule.j0.eq_2]
      rw [hno (fun h => hll (by rw [h.2.1]; exact e))]
      exact Ev.pos (by trivial) (Ev.now _)
  · refine Ev.neg (by simpa using hn) (Ev.succ ?_)
    simp only [impl_IsRule.j0.eq_2]
    rw [hno (fun h => hn h.1)]
    exact Ev.pos (by trivial) (Ev.now _)
theorem FnExactIsRule : laws_FnExactIsRule.Pure := by
  intro n l _ _ hl _
  have hL : l.length ≤ 35184372088832 := by omega
  refine Ev.rounds (g := fun k => laws_FnExactIsRule.f k n l) ?_
  unfold laws_FnExactIsRule.f
  have hs : laws_szRule.f n l 1048576 = some (if (1048576 : Int) - (l.length : Int) < 0 then -1 else 1048576 - (l.length : Int)) := by
    unfold laws_szRule.f
    rw [szIntS_eq l _ hL (by omega) (by omega)]
    simp only [Option.bind_some]
    by_cases h : (1048576 : Int) - (l.length : Int) < 0
    · rw [if_pos h, if_pos (by omega)]
    · rw [if_neg h, if_neg h]
  refine Ev.bindc hs ?_
  by_cases hb : (1048576 : Int) - (l.length : Int) < 0
  · rw [if_pos hb]; exact Ev.pos (by omega) (Ev.now _)
  · rw [if_neg hb]
    refine Ev.neg hb ?_
    have hr : Ev (fun k => laws_toRule.f k n l) (n, l) := by
      unfold laws_toRule.f
      exact Ev.bind (f := fun _ t => some (n, t)) (toIntS_ev l hL) (Ev.now _)
    obtain ⟨b, hbb⟩ : ∃ b : Bool, b = true ↔ IsRl n l := by
      by_cases h : IsRl n l
      · exact ⟨true, by simp [h]⟩
      · exact ⟨false, by simp [h]⟩
    refine Ev.bind hr (Ev.bind (a := b) ?_ (Ev.bind hr (Ev.bind (isRule_ev n l hL b hbb) (Ev.neg (by simp) (Ev.bind hr (Ev.bind (a := true) ?_ (Ev.pos rfl (Ev.now _))))))))
    · unfold spec_IsRule.f
      exact Ev.bind (f := fun _ t => some t) (l8Rule_ev n l hL b hbb) (Ev.now _)
    · unfold laws_eqRule.f
      exact Ev.pos rfl (Ev.bind (eqIntS_ev l hL) (Ev.pos rfl (Ev.now _)))

end Go.Proofs.Ythcoccjpacjmeaa.Pure
