/- Proved: the first party in which no couple sits together, as the program returns it, is the reference's, for all arguments. Conditions: those of the statement. -/
import Derived.Test.YthalnibkljaenaaPFnExactFirstApartx4
namespace Go.Proofs.Ythalnibkljaenaa.Pure
open Go.RowKit Go.Proofs.Ythalnibkljaenaa.PFnExactFirstApart Go.Proofs.YthalnibkljaenaaW.PrintWords Go.Proofs.YthalnibkljaenaaW.PrintLast Go.Proofs.YthalnibkljaenaaW.PrintMore
set_option linter.unusedVariables false

theorem Ev.pos {α : Type} {c : Prop} [Decidable c] {f g : Nat → Option α} {r : α} (h : c) (k : Ev f r) : Ev (fun m => if c then f m else g m) r :=
  Ev.congr (fun _ => if_pos h) k
theorem Ev.neg {α : Type} {c : Prop} [Decidable c] {f g : Nat → Option α} {r : α} (h : ¬ c) (k : Ev g r) : Ev (fun m => if c then f m else g m) r :=
  Ev.congr (fun _ => if_neg h) k
theorem Ev.bindc {α β : Type} {x : Option α} {f : Nat → α → Option β} {a : α} {r : β} (h : x = some a) (k : Ev (fun n => f n a) r) : Ev (fun n => x.bind (f n)) r := by
  subst h; exact k
theorem Ev.succ {α : Type} {g : Nat → Option α} {r : α} (k : Ev (fun n => g (n + 1)) r) : Ev g r := Ev.step (fun _ => rfl) k
theorem Ev.unique {α : Type} {g : Nat → Option α} {r q : α} (h : Ev g r) (k : Ev g q) : r = q := by
  obtain ⟨K, hK⟩ := h; obtain ⟨L, hL⟩ := k
  have := (hK (max K L) (Nat.le_max_left _ _)).symm.trans (hL (max K L) (Nat.le_max_right _ _))
  exact Option.some.inj this
theorem w64 {n : Int} (h0 : -9223372036854775808 ≤ n) (h1 : n < 9223372036854775808) : wrap64 n = n := by unfold wrap64; omega
theorem rd_nat (l : List Int) (i : Nat) (h : i < l.length) : rd l (i : Int) = l[i] := by
  unfold rd; rw [Int.toNat_natCast, List.getD_eq_getElem?_getD, List.getElem?_eq_getElem h]; rfl
theorem lit_i64 {x : Int} (h : (Lit.int .i64 x).wf = true) : -9223372036854775808 ≤ x ∧ x < 9223372036854775808 := by
  simp [Lit.wf, IntKind.min, IntKind.max, IntKind.bits, IntKind.signed] at h; omega
theorem eqIntS_loop (l : List Int) (hl : l.length ≤ 35184372088832) : ∀ (d i : Nat), i + d = l.length → Ev (fun k => laws_eqIntS.l0 k l l (i : Int)) true := by
  intro d
  induction d with
  | zero =>
    intro i hi
    refine Ev.succ ?_
    simp only [laws_eqIntS.l0.eq_2]
    exact Ev.neg (by omega) (Ev.now _)
  | succ d ih =>
    intro i hi
    refine Ev.succ ?_
    simp only [laws_eqIntS.l0.eq_2]
    refine Ev.pos (by omega) (Ev.pos (by omega) (Ev.pos (by omega) (Ev.pos (by trivial) ?_)))
    rw [w64 (by omega) (by omega)]
    exact ih (i + 1) (by omega)
theorem eqIntS_ev (l : List Int) (hl : l.length ≤ 35184372088832) : Ev (fun k => laws_eqIntS.f k l l) true := by
  unfold laws_eqIntS.f
  exact Ev.pos rfl (eqIntS_loop l hl l.length 0 (by omega))
theorem within_eq (a b c : Int) : impl_within.f a b c = some (decide (b ≤ a ∧ a ≤ c)) := by
  unfold impl_within.f
  by_cases h : a ≥ b
  · rw [if_pos h]; simp [show b ≤ a from h]
  · rw [if_neg h]; simp [show ¬ b ≤ a from h]
theorem l1In_eq (a b c : Int) : spec_l1In.f a b c = some (decide (b ≤ a ∧ a ≤ c)) := by
  unfold spec_l1In.f
  by_cases h : a ≥ b
  · rw [if_pos h]; simp [show b ≤ a from h]
  · rw [if_neg h]; simp [show ¬ b ≤ a from h]
theorem mark_loop (l : List Int) (a : Int) (h0 : 0 ≤ a) (h1 : a ≤ 1000000000) (hl : l.length ≤ 35184372088832) : ∀ (d i : Nat) (acc : List Int), i + d = l.length → acc.length = l.length → (∀ j, j < i → acc[j]? = some (a + (j : Int))) → Ev (fun k => laws_markIntS.l0 k acc (a + (i : Int)) (i : Int)) (a + (l.length : Int), (List.range l.length).map (fun j : Nat => a + (j : Int))) := by
  intro d
  induction d with
  | zero =>
    intro i acc hi ha hj
    refine Ev.succ ?_
    simp only [laws_markIntS.l0.eq_2]
    have : acc = (List.range l.length).map (fun j : Nat => a + (j : Int)) := List.ext_getElem? (fun j => by
      by_cases h : j < i
      · rw [hj j h, List.getElem?_map, List.getElem?_range (by omega)]; rfl
      · rw [List.getElem?_eq_none (by omega), List.getElem?_eq_none (by rw [List.length_map, List.length_range]; omega)])
    rw [show (i : Int) = (l.length : Int) by omega, ← this]
    exact Ev.neg (by omega) (Ev.now _)
  | succ d ih =>
    intro i acc hi ha hj
    refine Ev.succ ?_
    simp only [laws_markIntS.l0.eq_2]
    refine Ev.pos (by omega) (Ev.pos (by omega) ?_)
    rw [w64 (n := (i : Int) + 1) (by omega) (by omega), w64 (by omega) (by omega)]
    rw [show a + (i : Int) + 1 = a + ((i + 1 : Nat) : Int) by omega]
    refine ih (i + 1) _ (by omega) (by simpa using ha) ?_
    intro j h
    rw [Int.toNat_natCast, List.getElem?_set]
    by_cases e : i = j
    · subst e
      rw [if_pos rfl, if_pos (by omega)]
    · rw [if_neg e]; exact hj j (by omega)
theorem mark_ev (l : List Int) (a : Int) (h0 : 0 ≤ a) (h1 : a ≤ 1000000000) (hl : l.length ≤ 35184372088832) : Ev (fun k => laws_markIntS.f k l a) (a + (l.length : Int), (List.range l.length).map (fun j : Nat => a + (j : Int))) := by
  have := mark_loop l a h0 h1 hl l.length 0 l (by omega) rfl (fun j h => by omega)
  simp only [Int.natCast_zero, Int.add_zero] at this
  exact this
theorem held_loop (a : Int) (h0 : 0 ≤ a) (h1 : a ≤ 1000000000) (n : Nat) (hl : n ≤ 35184372088832) : ∀ (d i : Nat), i + d = n → Ev (fun k => laws_heldIntS.l0 k ((List.range n).map (fun j : Nat => a + (j : Int))) (a + (i : Int)) (i : Int)) (a + (n : Int)) := by
  intro d
  have hlen : ((List.range n).map (fun j : Nat => a + (j : Int))).length = n := by rw [List.length_map, List.length_range]
  induction d with
  | zero =>
    intro i hi
    refine Ev.succ ?_
    simp only [laws_heldIntS.l0.eq_2]
    rw [show (i : Int) = (n : Int) by omega]
    exact Ev.neg (by omega) (Ev.now _)
  | succ d ih =>
    intro i hi
    refine Ev.succ ?_
    simp only [laws_heldIntS.l0.eq_2]
    rw [rd_nat _ i (by omega), List.getElem_map, List.getElem_range]
    refine Ev.pos (by omega) (Ev.pos (by omega) (Ev.pos rfl ?_))
    rw [w64 (n := (i : Int) + 1) (by omega) (by omega), w64 (by omega) (by omega)]
    rw [show a + (i : Int) + 1 = a + ((i + 1 : Nat) : Int) by omega]
    exact ih (i + 1) (by omega)
theorem held_ev (a : Int) (h0 : 0 ≤ a) (h1 : a ≤ 1000000000) (n : Nat) (hl : n ≤ 35184372088832) : Ev (fun k => laws_heldIntS.f k ((List.range n).map (fun j : Nat => a + (j : Int))) a) (a + (n : Int)) := by
  have := held_loop a h0 h1 n hl n 0 (by omega)
  simp only [Int.natCast_zero, Int.add_zero] at this
  exact this
def faOk (a0 : Int) (a1 : Bool) : Bool := decide (spec_FirstApart.f 600 a0 a1 = impl_FirstApart.f 600 a0 a1) && match spec_FirstApart.f 600 a0 a1 with
  | some r => decide (r.1.length ≤ 13)
  | none => false
theorem fa_all : ([1, 2, 3, 4, 5, 6].all fun a0 => faOk a0 false && faOk a0 true) = true := by decide +kernel
theorem fa_out (a0 : Int) (a1 : Bool) (h : ¬ (1 ≤ a0 ∧ a0 ≤ 6)) : spec_FirstApart.f 600 a0 a1 = some ([], false) ∧ impl_FirstApart.f 600 a0 a1 = some ([], false) := by
  constructor
  · unfold spec_FirstApart.f spec_l8Couples.f
    rw [l1In_eq, decide_eq_false h]; rfl
  · unfold impl_FirstApart.f impl_isCouples.f
    rw [within_eq, decide_eq_false h]; rfl
theorem fa_key (a0 : Int) (a1 : Bool) : ∃ r : List Int × Bool, r.1.length ≤ 13 ∧ spec_FirstApart.f 600 a0 a1 = some r ∧ impl_FirstApart.f 600 a0 a1 = some r := by
  by_cases h : 1 ≤ a0 ∧ a0 ≤ 6
  · have ha : a0 ∈ [1, 2, 3, 4, 5, 6] := by
      have : a0 = 1 ∨ a0 = 2 ∨ a0 = 3 ∨ a0 = 4 ∨ a0 = 5 ∨ a0 = 6 := by omega
      simpa using this
    have h1 := List.all_eq_true.mp fa_all a0 ha
    simp only [Bool.and_eq_true] at h1
    have h2 : faOk a0 a1 = true := by cases a1; exact h1.1; exact h1.2
    unfold faOk at h2
    simp only [Bool.and_eq_true, decide_eq_true_eq] at h2
    obtain ⟨h3, h4⟩ := h2
    revert h4
    cases e : spec_FirstApart.f 600 a0 a1 with
    | none => intro h4; simp at h4
    | some r => intro h4; exact ⟨r, by simpa using h4, rfl, by rw [← h3, e]⟩
  · exact ⟨([], false), by simp, fa_out a0 a1 h⟩
theorem FnExactFirstApart : laws_FnExactFirstApart.Pure := by
  intro a0 a1 _
  refine Ev.rounds (g := fun m => laws_FnExactFirstApart.f m a0 a1) ?_
  obtain ⟨r, hr, h0, h0'⟩ := fa_key a0 a1
  have h := Ev.of (g := fun k => spec_FirstApart.f k a0 a1) (spec_FirstApart.mono a0 a1) h0
  have h' := Ev.of (g := fun k => impl_FirstApart.f k a0 a1) (impl_FirstApart.mono a0 a1) h0'
  have hr2 : r.1.length ≤ 35184372088832 := by omega
  unfold laws_FnExactFirstApart.f
  refine Ev.bind h (Ev.bind h' (Ev.bind (eqIntS_ev r.1 hr2) (Ev.pos rfl (Ev.succ ?_))))
  simp only [laws_FnExactFirstApart.j0.eq_2]
  refine Ev.neg (by simp) (Ev.bind (mark_ev r.1 1 (by omega) (by omega) hr2) (Ev.bind (held_ev 1 (by omega) (by omega) r.1.length hr2) (Ev.neg (by omega) (Ev.pos rfl (Ev.bind h' (Ev.bind (eqIntS_ev r.1 hr2) (Ev.pos rfl (Ev.succ ?_))))))))
  simp only [laws_FnExactFirstApart.j1.eq_2]
  exact Ev.neg (by simp) (Ev.bind (held_ev 1 (by omega) (by omega) r.1.length hr2) (Ev.neg (by omega) (Ev.pos rfl (Ev.now _))))

end Go.Proofs.Ythalnibkljaenaa.Pure
