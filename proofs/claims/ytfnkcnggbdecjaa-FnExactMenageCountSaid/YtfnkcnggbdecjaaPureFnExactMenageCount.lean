/- Proved: FnExactMenageCount's pure statement, for all arguments: the number of ring parties by inclusion and exclusion is the one by search. -/
import Derived.Test.YtfnkcnggbdecjaaPFnExactMenageCountx1
namespace Go.Proofs.Ytfnkcnggbdecjaa.Pure
open Go.RowKit Go.Proofs.Ytfnkcnggbdecjaa.PFnExactMenageCount Go.Proofs.YtfnkcnggbdecjaaW.PrintWords Go.Proofs.YtfnkcnggbdecjaaW.PrintLast Go.Proofs.YtfnkcnggbdecjaaW.PrintMore
set_option linter.unusedVariables false

theorem menage_small (k : Nat) (hk : k = 2 ∨ k = 3 ∨ k = 4 ∨ k = 5 ∨ k = 6) : laws_FnExactMenageCount.f 40 (k : Int) = some true := by
  rcases hk with rfl | rfl | rfl | rfl | rfl <;> decide +kernel

theorem FnExactMenageCount : laws_FnExactMenageCount.Pure := by
  intro a ha
  by_cases h : 2 ≤ a ∧ a ≤ 6
  · refine ⟨40, ?_⟩
    have := menage_small a.toNat (by omega)
    rwa [Int.toNat_of_nonneg (by omega)] at this
  · refine ⟨1, ?_⟩
    have h1 : spec_l1In.f a 2 6 = some false := by
      unfold spec_l1In.f
      by_cases c : a ≥ 2
      · rw [if_pos c]; simp only [Option.some.injEq, decide_eq_false_iff_not]; omega
      · rw [if_neg c]
    have h2 : impl_within.f a 2 6 = some false := by
      unfold impl_within.f
      by_cases c : a ≥ 2
      · rw [if_pos c]; simp only [Option.some.injEq, decide_eq_false_iff_not]; omega
      · rw [if_neg c]
    simp [laws_FnExactMenageCount.f, spec_MenageCount.f, impl_MenageCount.f, h1, h2]

end Go.Proofs.Ytfnkcnggbdecjaa.Pure
