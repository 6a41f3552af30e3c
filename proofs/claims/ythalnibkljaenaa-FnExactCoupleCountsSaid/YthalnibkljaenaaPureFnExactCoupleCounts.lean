/- Proved: for every number and ring flag the law FnExactCoupleCounts, as printed, answers true. Conditions: none but the bounds of the printed statement. -/
import Derived.Test.YthalnibkljaenaaPFnExactCoupleCountsx3
namespace Go.Proofs.Ythalnibkljaenaa.Pure
open Go.RowKit Go.Proofs.Ythalnibkljaenaa.PFnExactCoupleCounts Go.Proofs.YthalnibkljaenaaW.PrintWords Go.Proofs.YthalnibkljaenaaW.PrintLast Go.Proofs.YthalnibkljaenaaW.PrintMore
set_option linter.unusedVariables false

theorem Ev.pos {α : Type} {c : Prop} [Decidable c] {f g : Nat → Option α} {r : α} (h : c) (k : Ev f r) : Ev (fun m => if c then f m else g m) r :=
  Ev.congr (fun _ => if_pos h) k
theorem Ev.neg {α : Type} {c : Prop} [Decidable c] {f g : Nat → Option α} {r : α} (h : ¬ c) (k : Ev g r) : Ev (fun m => if c then f m else g m) r :=
  Ev.congr (fun _ => if_neg h) k
theorem Ev.bindc {α β : Type} {x : Option α} {f : Nat → α → Option β} {a : α} {r : β} (h : x = some a) (k : Ev (fun n => f n a) r) : Ev (fun n => x.bind (f n)) r := by
  subst h; exact k
theorem Ev.succ {α : Type} {g : Nat → Option α} {r : α} (k : Ev (fun n => g (n + 1)) r) : Ev g r := Ev.step (fun _ => rfl) k
theorem Ev.unique {α : Type} {g : Nat → Option α} {r q : α} (h : Ev g r) (k : Ev g q) : r = q := by
  obtain ⟨K, hK⟩ := h; obtain ⟨L, hL⟩ := k
  have := (hK (max K L) (Nat.le_max_left _ _)).symm.trans (hL (max K L) (Nat.le_max_right _ _))
  exact Option.some.inj this
theorem w64 {n : Int} (h0 : -9223372036854775808 ≤ n) (h1 : n < 9223372036854775808) : wrap64 n = n := by unfold wrap64; omega
theorem rd_nat (l : List Int) (i : Nat) (h : i < l.length) : rd l (i : Int) = l[i] := by
  unfold rd; rw [Int.toNat_natCast, List.getD_eq_getElem?_getD, List.getElem?_eq_getElem h]; rfl
theorem lit_i64 {x : Int} (h : (Lit.int .i64 x).wf = true) : -9223372036854775808 ≤ x ∧ x < 9223372036854775808 := by
  simp [Lit.wf, IntKind.min, IntKind.max, IntKind.bits, IntKind.signed] at h; omega
theorem within_eq (a b c : Int) : impl_within.f a b c = some (decide (b ≤ a ∧ a ≤ c)) := by
  unfold impl_within.f
  by_cases h : a ≥ b
  · rw [if_pos h]; simp [show b ≤ a from h]
  · rw [if_neg h]; simp [show ¬ b ≤ a from h]
theorem l1In_eq (a b c : Int) : spec_l1In.f a b c = some (decide (b ≤ a ∧ a ≤ c)) := by
  unfold spec_l1In.f
  by_cases h : a ≥ b
  · rw [if_pos h]; simp [show b ≤ a from h]
  · rw [if_neg h]; simp [show ¬ b ≤ a from h]
theorem eqIntS_loop (l : List Int) (hl : l.length ≤ 35184372088832) : ∀ (d i : Nat), i + d = l.length → Ev (fun k => laws_eqIntS.l0 k l l (i : Int)) true := by
  intro d
  induction d with
  | zero =>
    intro i hi
    refine Ev.succ ?_
    simp only [laws_eqIntS.l0.eq_2]
    exact Ev.neg (by omega) (Ev.now _)
  | succ d ih =>
    intro i hi
    refine Ev.succ ?_
    simp only [laws_eqIntS.l0.eq_2]
    refine Ev.pos (by omega) (Ev.pos (by omega) (Ev.pos (by omega) (Ev.pos (by trivial) ?_)))
    rw [w64 (by omega) (by omega)]
    exact ih (i + 1) (by omega)
theorem eqIntS_ev (l : List Int) (hl : l.length ≤ 35184372088832) : Ev (fun k => laws_eqIntS.f k l l) true := by
  unfold laws_eqIntS.f
  exact Ev.pos rfl (eqIntS_loop l hl l.length 0 (by omega))
theorem mark_loop (l : List Int) (a : Int) (h0 : 0 ≤ a) (h1 : a ≤ 1000000000) (hl : l.length ≤ 35184372088832) : ∀ (d i : Nat) (acc : List Int), i + d = l.length → acc.length = l.length → (∀ j, j < i → acc[j]? = some (a + (j : Int))) → Ev (fun k => laws_markIntS.l0 k acc (a + (i : Int)) (i : Int)) (a + (l.length : Int), (List.range l.length).map (fun j : Nat => a + (j : Int))) := by
  intro d
  induction d with
  | zero =>
    intro i acc hi ha hj
    refine Ev.succ ?_
    simp only [laws_markIntS.l0.eq_2]
    have : acc = (List.range l.length).map (fun j : Nat => a + (j : Int)) := List.ext_getElem? (fun j => by
      by_cases h : j < i
      · rw [hj j h, List.getElem?_map, List.getElem?_range (by omega)]; rfl
      · rw [List.getElem?_eq_none (by omega), List.getElem?_eq_none (by rw [List.length_map, List.length_range]; omega)])
    rw [show (i : Int) = (l.length : Int) by omega, ← this]
    exact Ev.neg (by omega) (Ev.now _)
  | succ d ih =>
    intro i acc hi ha hj
    refine Ev.succ ?_
    simp only [laws_markIntS.l0.eq_2]
    refine Ev.pos (by omega) (Ev.pos (by omega) ?_)
    rw [w64 (n := (i : Int) + 1) (by omega) (by omega), w64 (by omega) (by omega)]
    rw [show a + (i : Int) + 1 = a + ((i + 1 : Nat) : Int) by omega]
    refine ih (i + 1) _ (by omega) (by simpa using ha) ?_
    intro j h
    rw [Int.toNat_natCast, List.getElem?_set]
    by_cases e : i = j
    · subst e
      rw [if_pos rfl, if_pos (by omega)]
    · rw [if_neg e]; exact hj j (by omega)
theorem mark_ev (l : List Int) (a : Int) (h0 : 0 ≤ a) (h1 : a ≤ 1000000000) (hl : l.length ≤ 35184372088832) : Ev (fun k => laws_markIntS.f k l a) (a + (l.length : Int), (List.range l.length).map (fun j : Nat => a + (j : Int))) := by
  have := mark_loop l a h0 h1 hl l.length 0 l (by omega) rfl (fun j h => by omega)
  simp only [Int.natCast_zero, Int.add_zero] at this
  exact this
theorem held_loop (a : Int) (h0 : 0 ≤ a) (h1 : a ≤ 1000000000) (n : Nat) (hl : n ≤ 35184372088832) : ∀ (d i : Nat), i + d = n → Ev (fun k => laws_heldIntS.l0 k ((List.range n).map (fun j : Nat => a + (j : Int))) (a + (i : Int)) (i : Int)) (a + (n : Int)) := by
  intro d
  have hlen : ((List.range n).map (fun j : Nat => a + (j : Int))).length = n := by rw [List.length_map, List.length_range]
  induction d with
  | zero =>
    intro i hi
    refine Ev.succ ?_
    simp only [laws_heldIntS.l0.eq_2]
    rw [show (i : Int) = (n : Int) by omega]
    exact Ev.neg (by omega) (Ev.now _)
  | succ d ih =>
    intro i hi
    refine Ev.succ ?_
    simp only [laws_heldIntS.l0.eq_2]
    rw [rd_nat _ i (by omega), List.getElem_map, List.getElem_range]
    refine Ev.pos (by omega) (Ev.pos (by omega) (Ev.pos rfl ?_))
    rw [w64 (n := (i : Int) + 1) (by omega) (by omega), w64 (by omega) (by omega)]
    rw [show a + (i : Int) + 1 = a + ((i + 1 : Nat) : Int) by omega]
    exact ih (i + 1) (by omega)
theorem held_ev (a : Int) (h0 : 0 ≤ a) (h1 : a ≤ 1000000000) (n : Nat) (hl : n ≤ 35184372088832) : Ev (fun k => laws_heldIntS.f k ((List.range n).map (fun j : Nat => a + (j : Int))) a) (a + (n : Int)) := by
  have := held_loop a h0 h1 n hl n 0 (by omega)
  simp only [Int.natCast_zero, Int.add_zero] at this
  exact this
theorem l8Couples_eq (k : Int) (ring : Bool) : spec_l8Couples.f k ring = some (decide (1 ≤ k ∧ k ≤ 6) && (!ring || decide (k > 1))) := by
  unfold spec_l8Couples.f
  rw [l1In_eq]
  by_cases h : 1 ≤ k ∧ k ≤ 6
  · simp only [Option.bind_some, h, decide_true, if_true, and_self]; cases ring <;> simp
  · simp only [Option.bind_some, h, decide_false, Bool.false_eq_true, if_false, Bool.false_and]
theorem isCouples_eq (k : Int) (ring : Bool) : impl_isCouples.f k ring = some (decide (1 ≤ k ∧ k ≤ 6) && (!ring || decide (k > 1))) := by
  unfold impl_isCouples.f
  rw [within_eq]
  have e : decide (k ≥ 2) = decide (k > 1) := decide_eq_decide.mpr (by omega)
  by_cases h : 1 ≤ k ∧ k ≤ 6
  · simp only [Option.bind_some, h, decide_true, if_true, and_self]; cases ring <;> simp [e]
  · simp only [Option.bind_some, h, decide_false, Bool.false_eq_true, if_false, Bool.false_and]
theorem cc_all : ∀ k : Fin 7, ∀ ring : Bool, (laws_FnExactCoupleCounts.f 60 (k.val : Int) ring) = some true := by decide +kernel
theorem FnExactCoupleCounts : laws_FnExactCoupleCounts.Pure := by
  intro n ring _
  by_cases hn : 0 ≤ n ∧ n < 7
  · refine ⟨60, ?_⟩
    have := cc_all ⟨n.toNat, by omega⟩ ring
    rw [show (((⟨n.toNat, by omega⟩ : Fin 7).val : Nat) : Int) = n by show ((n.toNat : Nat) : Int) = n; omega] at this
    exact this
  · refine Ev.rounds (g := fun k => laws_FnExactCoupleCounts.f k n ring) ?_
    have hc : (decide (1 ≤ n ∧ n ≤ 6) && (!ring || decide (n > 1))) = false := by
      rw [show decide (1 ≤ n ∧ n ≤ 6) = false by simp only [decide_eq_false_iff_not]; omega]; rfl
    have h : Ev (fun k => spec_CoupleCounts.f k n ring) ([], false) := by
      unfold spec_CoupleCounts.f
      exact Ev.bindc rfl (Ev.bindc (l8Couples_eq _ _) (Ev.neg (by rw [hc]; decide) (Ev.now _)))
    have h' : Ev (fun k => impl_CoupleCounts.f k n ring) ([], false) := by
      unfold impl_CoupleCounts.f
      exact Ev.bindc (isCouples_eq _ _) (Ev.neg (by rw [hc]; decide) (Ev.now _))
    unfold laws_FnExactCoupleCounts.f
    refine Ev.bind h (Ev.bind h' (Ev.bind (eqIntS_ev [] (by simp)) (Ev.pos rfl (Ev.succ ?_))))
    simp only [laws_FnExactCoupleCounts.j0.eq_2]
    refine Ev.neg (by decide) (Ev.bind (mark_ev [] 1 (by omega) (by omega) (by simp)) (Ev.bind (held_ev 1 (by omega) (by omega) 0 (by omega)) (Ev.neg (by decide) (Ev.pos rfl (Ev.bind h' (Ev.bind (eqIntS_ev [] (by simp)) (Ev.pos rfl (Ev.succ ?_))))))))
    simp only [laws_FnExactCoupleCounts.j1.eq_2]
    exact Ev.neg (by decide) (Ev.bind (held_ev 1 (by omega) (by omega) 0 (by omega)) (Ev.neg (by decide) (Ev.pos rfl (Ev.now _))))

end Go.Proofs.Ythalnibkljaenaa.Pure
