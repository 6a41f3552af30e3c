/- Proved: for every list of sizes and every ring flag, the law FnExactFamilyCount, as printed, answers true. Conditions: none but the bounds of the printed statement. -/
import Derived.Test.YthcoccjpacjmeaaPFnExactFamilyCountx2
namespace Go.Proofs.Ythcoccjpacjmeaa.Pure
open Go.RowKit Go.Proofs.Ythcoccjpacjmeaa.PFnExactFamilyCount Go.Proofs.YthcoccjpacjmeaaW.PrintWords Go.Proofs.YthcoccjpacjmeaaW.PrintLast
set_option linter.unusedVariables false

theorem Ev.pos {α : Type} {c : Prop} [Decidable c] {f g : Nat → Option α} {r : α} (h : c) (k : Ev f r) : Ev (fun m => if c then f m else g m) r :=
  Ev.congr (fun _ => if_pos h) k
theorem Ev.neg {α : Type} {c : Prop} [Decidable c] {f g : Nat → Option α} {r : α} (h : ¬ c) (k : Ev g r) : Ev (fun m => if c then f m else g m) r :=
  Ev.congr (fun _ => if_neg h) k
theorem Ev.bindc {α β : Type} {x : Option α} {f : Nat → α → Option β} {a : α} {r : β} (h : x = some a) (k : Ev (fun n => f n a) r) : Ev (fun n => x.bind (f n)) r := by
  subst h; exact k
theorem Ev.succ {α : Type} {g : Nat → Option α} {r : α} (k : Ev (fun n => g (n + 1)) r) : Ev g r := Ev.step (fun _ => rfl) k
theorem Ev.unique {α : Type} {g : Nat → Option α} {r q : α} (h : Ev g r) (k : Ev g q) : r = q := by
  obtain ⟨K, hK⟩ := h; obtain ⟨L, hL⟩ := k
  have := (hK (max K L) (Nat.le_max_left _ _)).symm.trans (hL (max K L) (Nat.le_max_right _ _))
  exact Option.some.inj this
theorem w64 {n : Int} (h0 : -9223372036854775808 ≤ n) (h1 : n < 9223372036854775808) : wrap64 n = n := by unfold wrap64; omega
theorem rd_nat (l : List Int) (i : Nat) (h : i < l.length) : rd l (i : Int) = l[i] := by
  unfold rd; rw [Int.toNat_natCast, List.getD_eq_getElem?_getD, List.getElem?_eq_getElem h]; rfl
theorem lit_i64 {x : Int} (h : (Lit.int .i64 x).wf = true) : -9223372036854775808 ≤ x ∧ x < 9223372036854775808 := by
  simp [Lit.wf, IntKind.min, IntKind.max, IntKind.bits, IntKind.signed] at h; omega
theorem toIntS_loop (l : List Int) (hl : l.length ≤ 35184372088832) : ∀ (d i : Nat) (acc : List Int), i + d = l.length → acc.length = l.length → (∀ j, j < i → acc[j]? = l[j]?) → Ev (fun k => laws_toIntS.l0 k l acc (i : Int)) l := by
  intro d
  induction d with
  | zero =>
    intro i acc hi ha hj
    refine Ev.succ ?_
    simp only [laws_toIntS.l0.eq_2]
    refine Ev.neg (by omega) ?_
    have : acc = l := List.ext_getElem? (fun j => by
      by_cases h : j < i
      · exact hj j h
      · rw [List.getElem?_eq_none (by omega), List.getElem?_eq_none (by omega)])
    rw [this]; exact Ev.now _
  | succ d ih =>
    intro i acc hi ha hj
    refine Ev.succ ?_
    simp only [laws_toIntS.l0.eq_2]
    refine Ev.pos (by omega) (Ev.pos (by omega) (Ev.pos (by omega) ?_))
    rw [w64 (by omega) (by omega)]
    refine ih (i + 1) _ (by omega) (by simpa using ha) ?_
    intro j h
    rw [Int.toNat_natCast, List.getElem?_set]
    by_cases e : i = j
    · subst e
      rw [if_pos rfl, if_pos (by omega), rd_nat l i (by omega), List.getElem?_eq_getElem]
    · rw [if_neg e]; exact hj j (by omega)
theorem toIntS_ev (l : List Int) (hl : l.length ≤ 35184372088832) : Ev (fun k => laws_toIntS.f k l) l := by
  unfold laws_toIntS.f
  refine Ev.pos (by omega) (Ev.pos (by omega) ?_)
  exact toIntS_loop l hl l.length 0 _ (by omega) (by simp) (fun j h => by omega)
theorem eqIntS_loop (l : List Int) (hl : l.length ≤ 35184372088832) : ∀ (d i : Nat), i + d = l.length → Ev (fun k => laws_eqIntS.l0 k l l (i : Int)) true := by
  intro d
  induction d with
  | zero =>
    intro i hi
    refine Ev.succ ?_
    simp only [laws_eqIntS.l0.eq_2]
    exact Ev.neg (by omega) (Ev.now _)
  | succ d ih =>
    intro i hi
    refine Ev.succ ?_
    simp only [laws_eqIntS.l0.eq_2]
    refine Ev.pos (by omega) (Ev.pos (by omega) (Ev.pos (by omega) (Ev.pos (by trivial) ?_)))
    rw [w64 (by omega) (by omega)]
    exact ih (i + 1) (by omega)
theorem eqIntS_ev (l : List Int) (hl : l.length ≤ 35184372088832) : Ev (fun k => laws_eqIntS.f k l l) true := by
  unfold laws_eqIntS.f
  exact Ev.pos rfl (eqIntS_loop l hl l.length 0 (by omega))
theorem fact_loop (n : Int) (hn : n ≤ 4611686018427387904) : ∀ (d : Nat) (i acc : Int), 0 ≤ i → i ≤ 4611686018427387905 → n + 1 - i ≤ d → ∃ r, Ev (fun k => impl_factorial.l0 k n acc i) r ∧ Ev (fun k => spec_l8Orders.l0 k n acc i) r := by
  intro d
  induction d with
  | zero =>
    intro i acc h0 h1 hd
    refine ⟨acc, Ev.succ ?_, Ev.succ ?_⟩
    · simp only [impl_factorial.l0.eq_2]; exact Ev.neg (by omega) (Ev.now _)
    · simp only [spec_l8Orders.l0.eq_2]; exact Ev.neg (by omega) (Ev.now _)
  | succ d ih =>
    intro i acc h0 h1 hd
    by_cases hi : i ≤ n
    · obtain ⟨r, h, h'⟩ := ih (i + 1) (wrap64 (acc * i)) (by omega) (by omega) (by omega)
      refine ⟨r, Ev.succ ?_, Ev.succ ?_⟩
      · simp only [impl_factorial.l0.eq_2]; refine Ev.pos hi ?_; rw [w64 (n := i + 1) (by omega) (by omega)]; exact h
      · simp only [spec_l8Orders.l0.eq_2]; refine Ev.pos hi ?_; rw [w64 (n := i + 1) (by omega) (by omega)]; exact h'
    · refine ⟨acc, Ev.succ ?_, Ev.succ ?_⟩
      · simp only [impl_factorial.l0.eq_2]; exact Ev.neg hi (Ev.now _)
      · simp only [spec_l8Orders.l0.eq_2]; exact Ev.neg hi (Ev.now _)
theorem fact_ev (n : Int) (hn : n ≤ 4611686018427387904) : ∃ r, Ev (fun k => impl_factorial.f k n) r ∧ Ev (fun k => spec_l8Orders.f k n) r :=
  fact_loop n hn (n + 1).toNat 2 1 (by omega) (by omega) (by omega)
theorem within_eq (a b c : Int) : impl_within.f a b c = some (decide (b ≤ a ∧ a ≤ c)) := by
  unfold impl_within.f
  by_cases h : a ≥ b
  · rw [if_pos h]; simp [show b ≤ a from h]
  · rw [if_neg h]; simp [show ¬ b ≤ a from h]
theorem l1In_eq (a b c : Int) : spec_l1In.f a b c = some (decide (b ≤ a ∧ a ≤ c)) := by
  unfold spec_l1In.f
  by_cases h : a ≥ b
  · rw [if_pos h]; simp [show b ≤ a from h]
  · rw [if_neg h]; simp [show ¬ b ≤ a from h]
theorem fam_j1 (l : List Int) (hl : l.length ≤ 1048576) (ring : Bool) (p w : Int) (b : Bool) :
    ∃ r, Ev (fun k => spec_FamilyCount.j1 k l ring p w b) r ∧ Ev (fun k => impl_FamilyCount.j1 k ring p w (l.length : Int) b) r := by
  cases b with
  | true => exact ⟨(0, false), Ev.succ (by simp only [spec_FamilyCount.j1.eq_2]; exact Ev.pos (by trivial) (Ev.now _)), Ev.succ (by simp only [impl_FamilyCount.j1.eq_2]; exact Ev.pos (by trivial) (Ev.now _))⟩
  | false =>
    cases ring with
    | true =>
      by_cases h1 : (l.length : Int) = 1
      · exact ⟨(w, true), Ev.succ (by simp only [spec_FamilyCount.j1.eq_2]; exact Ev.neg (by decide) (Ev.pos (by trivial) (Ev.pos h1 (Ev.now _)))), Ev.succ (by simp only [impl_FamilyCount.j1.eq_2]; exact Ev.neg (by decide) (Ev.pos (by trivial) (Ev.pos h1 (Ev.now _))))⟩
      · obtain ⟨r, h, h'⟩ := fact_ev (wrap64 ((l.length : Int) - 1)) (by rw [w64 (by omega) (by omega)]; omega)
        refine ⟨(wrap64 ((wrap64 (w * p)) * r), true), Ev.succ ?_, Ev.succ ?_⟩
        · simp only [spec_FamilyCount.j1.eq_2]; exact Ev.neg (by decide) (Ev.pos (by trivial) (Ev.neg h1 (Ev.bind h' (Ev.now _))))
        · simp only [impl_FamilyCount.j1.eq_2]; exact Ev.neg (by decide) (Ev.pos (by trivial) (Ev.neg h1 (Ev.bind h (Ev.now _))))
    | false =>
      obtain ⟨r, h, h'⟩ := fact_ev (l.length : Int) (by omega)
      refine ⟨(wrap64 (w * r), true), Ev.succ ?_, Ev.succ ?_⟩
      · simp only [spec_FamilyCount.j1.eq_2]; exact Ev.neg (by decide) (Ev.neg (by decide) (Ev.bind h' (Ev.now _)))
      · simp only [impl_FamilyCount.j1.eq_2]; exact Ev.neg (by decide) (Ev.neg (by decide) (Ev.bind h (Ev.now _)))
theorem fam_l0 (l : List Int) (hl : l.length ≤ 1048576) (ring : Bool) : ∀ (d i : Nat) (p w : Int), i + d = l.length →
    ∃ r, Ev (fun k => spec_FamilyCount.l0 k l ring p w (i : Int)) r ∧ Ev (fun k => impl_FamilyCount.l0 k l ring p w l (l.length : Int) (i : Int)) r := by
  intro d
  induction d with
  | zero =>
    intro i p w hi
    have hlt : ¬ ((i : Int) < (l.length : Int)) := by omega
    by_cases h0 : (l.length : Int) = 0
    · obtain ⟨r, h, h'⟩ := fam_j1 l hl ring p w true
      refine ⟨r, Ev.succ ?_, Ev.succ ?_⟩
      · simp only [spec_FamilyCount.l0.eq_2]; exact Ev.neg hlt (Ev.pos h0 h)
      · simp only [impl_FamilyCount.l0.eq_2]; exact Ev.neg hlt (Ev.pos h0 h')
    · by_cases hr : ring = true
      · obtain ⟨r, h, h'⟩ := fam_j1 l hl ring p w (decide (p < 3))
        refine ⟨r, Ev.succ ?_, Ev.succ ?_⟩
        · simp only [spec_FamilyCount.l0.eq_2]; exact Ev.neg hlt (Ev.neg h0 (Ev.pos hr h))
        · simp only [impl_FamilyCount.l0.eq_2]; exact Ev.neg hlt (Ev.neg h0 (Ev.pos hr h'))
      · obtain ⟨r, h, h'⟩ := fam_j1 l hl ring p w false
        refine ⟨r, Ev.succ ?_, Ev.succ ?_⟩
        · simp only [spec_FamilyCount.l0.eq_2]; exact Ev.neg hlt (Ev.neg h0 (Ev.neg hr h))
        · simp only [impl_FamilyCount.l0.eq_2]; exact Ev.neg hlt (Ev.neg h0 (Ev.neg hr h'))
  | succ d ih =>
    intro i p w hi
    have hlt : ((i : Int) < (l.length : Int)) := by omega
    have h0 : (0 : Int) ≤ i := by omega
    by_cases hw : 1 ≤ rd l (i : Int) ∧ rd l (i : Int) ≤ 12
    · by_cases hp : (wrap64 (p + (rd l (i : Int)))) > 12
      · refine ⟨(0, false), Ev.succ ?_, Ev.succ ?_⟩
        · simp only [spec_FamilyCount.l0.eq_2]; exact Ev.pos hlt (Ev.pos h0 (Ev.bindc (l1In_eq _ _ _) (Ev.pos (decide_eq_true hw) (Ev.pos hp (Ev.now _)))))
        · simp only [impl_FamilyCount.l0.eq_2]; exact Ev.pos hlt (Ev.pos h0 (Ev.pos hlt (Ev.bindc (within_eq _ _ _) (Ev.pos (decide_eq_true hw) (Ev.pos hp (Ev.now _))))))
      · obtain ⟨q, hq, hq'⟩ := fact_ev (rd l (i : Int)) (by omega)
        obtain ⟨r, h, h'⟩ := ih (i + 1) (wrap64 (p + (rd l (i : Int)))) (wrap64 (w * q)) (by omega)
        have e : wrap64 ((i : Int) + 1) = ((i + 1 : Nat) : Int) := by rw [w64 (by omega) (by omega)]; omega
        refine ⟨r, Ev.succ ?_, Ev.succ ?_⟩
        · simp only [spec_FamilyCount.l0.eq_2, e]; exact Ev.pos hlt (Ev.pos h0 (Ev.bindc (l1In_eq _ _ _) (Ev.pos (decide_eq_true hw) (Ev.neg hp (Ev.bind hq' h)))))
        · simp only [impl_FamilyCount.l0.eq_2, e]; exact Ev.pos hlt (Ev.pos h0 (Ev.pos hlt (Ev.bindc (within_eq _ _ _) (Ev.pos (decide_eq_true hw) (Ev.neg hp (Ev.bind hq h'))))))
    · have hd : ¬ (decide (1 ≤ rd l (i : Int) ∧ rd l (i : Int) ≤ 12) = true) := by simpa using hw
      refine ⟨(0, false), Ev.succ ?_, Ev.succ ?_⟩
      · simp only [spec_FamilyCount.l0.eq_2]; exact Ev.pos hlt (Ev.pos h0 (Ev.bindc (l1In_eq _ _ _) (Ev.neg hd (Ev.now _))))
      · simp only [impl_FamilyCount.l0.eq_2]; exact Ev.pos hlt (Ev.pos h0 (Ev.pos hlt (Ev.bindc (within_eq _ _ _) (Ev.neg hd (Ev.now _)))))
theorem FnExactFamilyCount : laws_FnExactFamilyCount.Pure := by
  intro l a1 _ hl _
  refine Ev.rounds (g := fun k => laws_FnExactFamilyCount.f k l a1) ?_
  unfold laws_FnExactFamilyCount.f
  by_cases hb : (l.length : Int) > 1048576
  · exact Ev.pos hb (Ev.now _)
  · obtain ⟨r, h, h'⟩ := fam_l0 l (by omega) a1 l.length 0 0 1 (by omega)
    refine Ev.neg hb (Ev.bind (toIntS_ev l (by omega)) (Ev.bind h (Ev.bind (toIntS_ev l (by omega)) (Ev.bind h' (Ev.pos rfl ?_)))))
    refine Ev.succ ?_
    simp only [laws_FnExactFamilyCount.j0.eq_2]
    refine Ev.neg (by simp) (Ev.bind (toIntS_ev l (by omega)) (Ev.bind (eqIntS_ev l (by omega)) (Ev.pos (by trivial) (Ev.now _))))

end Go.Proofs.Ythcoccjpacjmeaa.Pure
