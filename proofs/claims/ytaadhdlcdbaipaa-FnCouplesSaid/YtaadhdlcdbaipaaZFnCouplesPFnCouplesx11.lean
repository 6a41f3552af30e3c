/- Proved: each Go function named here, called, comes to the answer of the Lean function beside it. Conditions: those that stand in each theorem. (Printed by this session's own turned copy of a printing program.) -/
import Derived.Test.YtaadhdlcdbaipaaZFnCouplesPFnCouplesx0
import Derived.Test.YtaadhdlcdbaipaaZFnCouplesPFnCouplesx1
import Derived.Test.YtaadhdlcdbaipaaZFnCouplesPFnCouplesx2
import Derived.Test.YtaadhdlcdbaipaaZFnCouplesPFnCouplesx4
import Derived.Test.YtaadhdlcdbaipaaZFnCouplesPFnCouplesx5
import Derived.Test.YtaadhdlcdbaipaaZFnCouplesPFnCouplesx6
import Derived.Test.YtaadhdlcdbaipaaZFnCouplesPFnCouplesx7
import Derived.Test.YtaadhdlcdbaipaaZFnCouplesPFnCouplesx8
import Derived.Test.YtaadhdlcdbaipaaZFnCouplesPFnCouplesx9
import Derived.Test.YtaadhdlcdbaipaaZFnCouplesPFnCouplesx10
namespace Go.Proofs.Ytaadhdlcdbaipaa.PFnCouples
open Go.RowKit Go.Proofs.YtaadhdlcdbaipaaW.PrintWords Go.Proofs.YtaadhdlcdbaipaaW.PrintLast Go.Proofs.YtaadhdlcdbaipaaW.PrintMore
attribute [local go_sem] max2_int min2_int max_two min_two max_three min_three max_four min_four   -- for this text's walks alone
set_option linter.unusedVariables false
set_option linter.unusedSimpArgs false

/-! ### laws_FnCouples: function 3 -/
mutual
def laws_FnCouples.j0 : Nat → List Int → Int → Bool → List Int → Bool → Bool → Option (Bool)
  | 0, _, _, _, _, _, _ => none
  | k + 1, x0, x3, x4, x5, x6, x81 => if x81 = true then (some false) else ((impl_FirstApart.f k x3 x4).bind fun bt377 => ((spec_FirstApart.f k x3 x4).bind fun bt381 => (if (bt377.2 != bt381.2) = true then (laws_FnCouples.j1 k x0 x3 x4 x5 x6 bt377.1 bt377.2 true) else ((laws_rInts.f k bt377.1 bt381.1).bind fun t385 => (if t385 = true then (if x6 = true then (if 0 < (x5.length : Int) then (laws_FnCouples.j1 k x0 x3 x4 x5 x6 bt377.1 bt377.2 (bt377.2 != (decide ((rd x5 0) > 0)))) else (none)) else (laws_FnCouples.j1 k x0 x3 x4 x5 x6 bt377.1 bt377.2 (bt377.2 != false))) else (laws_FnCouples.j1 k x0 x3 x4 x5 x6 bt377.1 bt377.2 true))))))
def laws_FnCouples.j1 : Nat → List Int → Int → Bool → List Int → Bool → List Int → Bool → Bool → Option (Bool)
  | 0, _, _, _, _, _, _, _, _ => none
  | k + 1, x0, x3, x4, x5, x6, x9, x10, x113 => if x113 = true then (some false) else ((spec_DrawMenageCount.f x0).bind fun t387 => ((impl_MenageCount.f k t387).bind fun bt388 => ((spec_MenageCount.f k t387).bind fun bt390 => (if bt388.1 = bt390.1 then (laws_FnCouples.j2 k x0 x3 x4 x5 x6 x9 x10 (bt388.2 != bt390.2)) else (laws_FnCouples.j2 k x0 x3 x4 x5 x6 x9 x10 true)))))
def laws_FnCouples.j2 : Nat → List Int → Int → Bool → List Int → Bool → List Int → Bool → Bool → Option (Bool)
  | 0, _, _, _, _, _, _, _, _ => none
  | k + 1, x0, x3, x4, x5, x6, x9, x10, x133 => if x133 = true then (some false) else ((spec_DrawFamilyCount.f k x0).bind fun bt392 => ((impl_FamilyCount.f k bt392.1 bt392.2).bind fun bt396 => ((spec_FamilyCount.f k bt392.1 bt392.2).bind fun bt398 => (if bt396.1 = bt398.1 then (laws_FnCouples.j3 k x0 x3 x4 x5 x6 x9 x10 (bt396.2 != bt398.2)) else (laws_FnCouples.j3 k x0 x3 x4 x5 x6 x9 x10 true)))))
def laws_FnCouples.j3 : Nat → List Int → Int → Bool → List Int → Bool → List Int → Bool → Bool → Option (Bool)
  | 0, _, _, _, _, _, _, _, _ => none
  | k + 1, x0, x3, x4, x5, x6, x9, x10, x158 => if x158 = true then (some false) else ((spec_DrawIsParty.f k x0).bind fun bt400 => ((impl_IsParty.f k bt400.1 bt400.2.1 bt400.2.2).bind fun bt405 => ((spec_IsParty.f k bt400.1 bt400.2.1 bt400.2.2).bind fun bt407 => (if (bt405.1 != bt407.1) = true then (laws_FnCouples.j4 k x0 x3 x4 x5 x6 x9 x10 bt400.1 bt400.2.1 bt400.2.2 bt405.1 bt405.2 true) else (laws_FnCouples.j4 k x0 x3 x4 x5 x6 x9 x10 bt400.1 bt400.2.1 bt400.2.2 bt405.1 bt405.2 (bt405.2 != bt407.2))))))
def laws_FnCouples.j4 : Nat → List Int → Int → Bool → List Int → Bool → List Int → Bool → Int → Bool → List Int → Bool → Bool → Bool → Option (Bool)
  | 0, _, _, _, _, _, _, _, _, _, _, _, _, _ => none
  | k + 1, x0, x3, x4, x5, x6, x9, x10, x24, x25, x26, x27, x28, x186 => if x186 = true then (some false) else ((impl_CouplesTogether.f k x24 x25 x26).bind fun bt409 => ((spec_CouplesTogether.f k x24 x25 x26).bind fun bt411 => (if bt409.1 = bt411.1 then (if (bt409.2 != bt411.2) = true then (laws_FnCouples.j5 k x0 x3 x4 x5 x6 x9 x10 x24 x25 bt409.1 bt409.2 true) else (if x28 = true then (laws_FnCouples.j5 k x0 x3 x4 x5 x6 x9 x10 x24 x25 bt409.1 bt409.2 (bt409.2 != x27)) else (laws_FnCouples.j5 k x0 x3 x4 x5 x6 x9 x10 x24 x25 bt409.1 bt409.2 (bt409.2 != false)))) else (laws_FnCouples.j5 k x0 x3 x4 x5 x6 x9 x10 x24 x25 bt409.1 bt409.2 true))))
def laws_FnCouples.j5 : Nat → List Int → Int → Bool → List Int → Bool → List Int → Bool → Int → Bool → Int → Bool → Bool → Option (Bool)
  | 0, _, _, _, _, _, _, _, _, _, _, _, _ => none
  | k + 1, x0, x3, x4, x5, x6, x9, x10, x24, x25, x31, x32, x216 => if x216 = true then (some false) else ((spec_DrawTurnParty.f k x0).bind fun bt413 => ((impl_TurnParty.f k bt413.1 bt413.2.1 bt413.2.2).bind fun bt418 => ((spec_TurnParty.f k bt413.1 bt413.2.1 bt413.2.2).bind fun bt422 => (if (bt418.2 != bt422.2) = true then (laws_FnCouples.j6 k x3 x4 x5 x6 x9 x10 x24 x25 x31 x32 bt413.1 bt413.2.1 bt418.1 bt418.2 true) else ((laws_rInts.f k bt418.1 bt422.1).bind fun t426 => (laws_FnCouples.j6 k x3 x4 x5 x6 x9 x10 x24 x25 x31 x32 bt413.1 bt413.2.1 bt418.1 bt418.2 (!t426)))))))
def laws_FnCouples.j6 : Nat → Int → Bool → List Int → Bool → List Int → Bool → Int → Bool → Int → Bool → Int → List Int → List Int → Bool → Bool → Option (Bool)
  | 0, _, _, _, _, _, _, _, _, _, _, _, _, _, _, _ => none
  | k + 1, x3, x4, x5, x6, x9, x10, x24, x25, x31, x32, x35, x36, x38, x39, x245 => if x245 = true then (some false) else (if x39 = true then ((impl_CouplesTogether.f k x35 true x36).bind fun bt427 => ((impl_CouplesTogether.f k x35 true x38).bind fun bt429 => (if bt427.2 = true then (if bt429.2 = true then (if bt427.1 = bt429.1 then (laws_FnCouples.j7 k x3 x4 x5 x6 x9 x10 x24 x25 x31 x32) else (some false)) else (some false)) else (some false)))) else (laws_FnCouples.j7 k x3 x4 x5 x6 x9 x10 x24 x25 x31 x32))
def laws_FnCouples.j7 : Nat → Int → Bool → List Int → Bool → List Int → Bool → Int → Bool → Int → Bool → Option (Bool)
  | 0, _, _, _, _, _, _, _, _, _, _ => none
  | k + 1, x3, x4, x5, x6, x9, x10, x24, x25, x31, x32 => if x32 = true then ((impl_CoupleCounts.f k x24 x25).bind fun bt431 => (if bt431.2 = true then (if (bt431.1.length : Int) = (wrap64 (x24 + 1)) then (if 0 ≤ x31 then (if x31 < (bt431.1.length : Int) then (if (rd bt431.1 x31) < 1 then (some false) else (laws_FnCouples.j8 k x3 x4 x5 x6 x9 x10)) else (none)) else (none)) else (some false)) else (some false))) else (laws_FnCouples.j8 k x3 x4 x5 x6 x9 x10)
def laws_FnCouples.j8 : Nat → Int → Bool → List Int → Bool → List Int → Bool → Option (Bool)
  | 0, _, _, _, _, _, _ => none
  | k + 1, x3, x4, x5, x6, x9, x10 => if x6 = true then (laws_FnCouples.l0 k x3 x4 x5 x9 x10 1 2) else (some true)
def laws_FnCouples.l0 : Nat → Int → Bool → List Int → List Int → Bool → Int → Int → Option (Bool)
  | 0, _, _, _, _, _, _, _ => none
  | k + 1, x3, x4, x5, x9, x10, x48, x49 => if x49 ≤ (wrap64 (2 * x3)) then (laws_FnCouples.l0 k x3 x4 x5 x9 x10 (wrap64 (x48 * x49)) (wrap64 (x49 + 1))) else ((laws_rSum.f k x5).bind fun t436 => (if t436 = x48 then (laws_FnCouples.j10 k x3 x4 x5 x9 x10 ((x5.length : Int) != (wrap64 (x3 + 1)))) else (laws_FnCouples.j10 k x3 x4 x5 x9 x10 true)))
def laws_FnCouples.j10 : Nat → Int → Bool → List Int → List Int → Bool → Bool → Option (Bool)
  | 0, _, _, _, _, _, _ => none
  | k + 1, x3, x4, x5, x9, x10, x314 => if x314 = true then (some false) else (if x4 = true then ((impl_MenageCount.f k x3).bind fun bt437 => (if bt437.2 = true then (if 0 < (x5.length : Int) then (laws_FnCouples.j11 k x3 x4 x9 x10 (decide (bt437.1 > (rd x5 0)))) else (none)) else (laws_FnCouples.j11 k x3 x4 x9 x10 true))) else (if x10 = true then ((impl_CouplesTogether.f k x3 x4 x9).bind fun bt442 => (if bt442.2 = true then (some (bt442.1 == 0)) else (some false))) else (some true)))
def laws_FnCouples.j11 : Nat → Int → Bool → List Int → Bool → Bool → Option (Bool)
  | 0, _, _, _, _, _ => none
  | k + 1, x3, x4, x9, x10, x329 => if x329 = true then (some false) else (if x10 = true then ((impl_CouplesTogether.f k x3 x4 x9).bind fun bt440 => (if bt440.2 = true then (some (bt440.1 == 0)) else (some false))) else (some true))
end
def laws_FnCouples.f (k : Nat) (l0 : List Int) : Option (Bool) := (laws_rBig.f l0).bind fun t365 => (if t365 = true then (some true) else ((spec_DrawCoupleCounts.f l0).bind fun bt366 => ((impl_CoupleCounts.f k bt366.1 bt366.2).bind fun bt368 => ((spec_CoupleCounts.f k bt366.1 bt366.2).bind fun bt372 => (if (bt368.2 != bt372.2) = true then (laws_FnCouples.j0 k l0 bt366.1 bt366.2 bt368.1 bt368.2 true) else ((laws_rInts.f k bt368.1 bt372.1).bind fun t376 => (laws_FnCouples.j0 k l0 bt366.1 bt366.2 bt368.1 bt368.2 (!t376))))))))
theorem laws_FnCouples.mono_l : ∀ k, (∀ y0 y1 y2 y3 y4 y5, LeO (laws_FnCouples.j0 k y0 y1 y2 y3 y4 y5) (laws_FnCouples.j0 (k + 1) y0 y1 y2 y3 y4 y5)) ∧ (∀ y0 y1 y2 y3 y4 y5 y6 y7, LeO (laws_FnCouples.j1 k y0 y1 y2 y3 y4 y5 y6 y7) (laws_FnCouples.j1 (k + 1) y0 y1 y2 y3 y4 y5 y6 y7)) ∧ (∀ y0 y1 y2 y3 y4 y5 y6 y7, LeO (laws_FnCouples.j2 k y0 y1 y2 y3 y4 y5 y6 y7) (laws_FnCouples.j2 (k + 1) y0 y1 y2 y3 y4 y5 y6 y7)) ∧ (∀ y0 y1 y2 y3 y4 y5 y6 y7, LeO (laws_FnCouples.j3 k y0 y1 y2 y3 y4 y5 y6 y7) (laws_FnCouples.j3 (k + 1) y0 y1 y2 y3 y4 y5 y6 y7)) ∧ (∀ y0 y1 y2 y3 y4 y5 y6 y7 y8 y9 y10 y11 y12, LeO (laws_FnCouples.j4 k y0 y1 y2 y3 y4 y5 y6 y7 y8 y9 y10 y11 y12) (laws_FnCouples.j4 (k + 1) y0 y1 y2 y3 y4 y5 y6 y7 y8 y9 y10 y11 y12)) ∧ (∀ y0 y1 y2 y3 y4 y5 y6 y7 y8 y9 y10 y11, LeO (laws_FnCouples.j5 k y0 y1 y2 y3 y4 y5 y6 y7 y8 y9 y10 y11) (laws_FnCouples.j5 (k + 1) y0 y1 y2 y3 y4 y5 y6 y7 y8 y9 y10 y11)) ∧ (∀ y0 y1 y2 y3 y4 y5 y6 y7 y8 y9 y10 y11 y12 y13 y14, LeO (laws_FnCouples.j6 k y0 y1 y2 y3 y4 y5 y6 y7 y8 y9 y10 y11 y12 y13 y14) (laws_FnCouples.j6 (k + 1) y0 y1 y2 y3 y4 y5 y6 y7 y8 y9 y10 y11 y12 y13 y14)) ∧ (∀ y0 y1 y2 y3 y4 y5 y6 y7 y8 y9, LeO (laws_FnCouples.j7 k y0 y1 y2 y3 y4 y5 y6 y7 y8 y9) (laws_FnCouples.j7 (k + 1) y0 y1 y2 y3 y4 y5 y6 y7 y8 y9)) ∧ (∀ y0 y1 y2 y3 y4 y5, LeO (laws_FnCouples.j8 k y0 y1 y2 y3 y4 y5) (laws_FnCouples.j8 (k + 1) y0 y1 y2 y3 y4 y5)) ∧ (∀ y0 y1 y2 y3 y4 y5 y6, LeO (laws_FnCouples.l0 k y0 y1 y2 y3 y4 y5 y6) (laws_FnCouples.l0 (k + 1) y0 y1 y2 y3 y4 y5 y6)) ∧ (∀ y0 y1 y2 y3 y4 y5, LeO (laws_FnCouples.j10 k y0 y1 y2 y3 y4 y5) (laws_FnCouples.j10 (k + 1) y0 y1 y2 y3 y4 y5)) ∧ (∀ y0 y1 y2 y3 y4, LeO (laws_FnCouples.j11 k y0 y1 y2 y3 y4) (laws_FnCouples.j11 (k + 1) y0 y1 y2 y3 y4))
  | 0 => ⟨fun _ _ _ _ _ _ r h => by simp [laws_FnCouples.j0] at h, fun _ _ _ _ _ _ _ _ r h => by simp [laws_FnCouples.j1] at h, fun _ _ _ _ _ _ _ _ r h => by simp [laws_FnCouples.j2] at h, fun _ _ _ _ _ _ _ _ r h => by simp [laws_FnCouples.j3] at h, fun _ _ _ _ _ _ _ _ _ _ _ _ _ r h => by simp [laws_FnCouples.j4] at h, fun _ _ _ _ _ _ _ _ _ _ _ _ r h => by simp [laws_FnCouples.j5] at h, fun _ _ _ _ _ _ _ _ _ _ _ _ _ _ _ r h => by simp [laws_FnCouples.j6] at h, fun _ _ _ _ _ _ _ _ _ _ r h => by simp [laws_FnCouples.j7] at h, fun _ _ _ _ _ _ r h => by simp [laws_FnCouples.j8] at h, fun _ _ _ _ _ _ _ r h => by simp [laws_FnCouples.l0] at h, fun _ _ _ _ _ _ r h => by simp [laws_FnCouples.j10] at h, fun _ _ _ _ _ r h => by simp [laws_FnCouples.j11] at h⟩
  | k + 1 => by
    obtain ⟨ih0, ih1, ih2, ih3, ih4, ih5, ih6, ih7, ih8, ih9, ih10, ih11⟩ := laws_FnCouples.mono_l k
    refine ⟨?_, ?_, ?_, ?_, ?_, ?_, ?_, ?_, ?_, ?_, ?_, ?_⟩
    · intro y0 y1 y2 y3 y4 y5
      unfold laws_FnCouples.j0
      repeat' first
      | (with_reducible exact ih0 _ _ _ _ _ _)
      | (with_reducible exact ih1 _ _ _ _ _ _ _ _)
      | (with_reducible exact ih2 _ _ _ _ _ _ _ _)
      | (with_reducible exact ih3 _ _ _ _ _ _ _ _)
      | (with_reducible exact ih4 _ _ _ _ _ _ _ _ _ _ _ _ _)
      | (with_reducible exact ih5 _ _ _ _ _ _ _ _ _ _ _ _)
      | (with_reducible exact ih6 _ _ _ _ _ _ _ _ _ _ _ _ _ _ _)
      | (with_reducible exact ih7 _ _ _ _ _ _ _ _ _ _)
      | (with_reducible exact ih8 _ _ _ _ _ _)
      | (with_reducible exact ih9 _ _ _ _ _ _ _)
      | (with_reducible exact ih10 _ _ _ _ _ _)
      | (with_reducible exact ih11 _ _ _ _ _)
      | (with_reducible exact impl_CoupleCounts.mono _ _ _)
      | (with_reducible exact impl_CouplesTogether.mono _ _ _ _)
      | (with_reducible exact impl_FamilyCount.mono _ _ _)
      | (with_reducible exact impl_FirstApart.mono _ _ _)
      | (with_reducible exact impl_IsParty.mono _ _ _ _)
      | (with_reducible exact impl_MenageCount.mono _ _)
      | (with_reducible exact impl_TurnParty.mono _ _ _ _)
      | (with_reducible exact laws_rInts.mono _ _ _)
      | (with_reducible exact laws_rSum.mono _ _)
      | (with_reducible exact spec_CoupleCounts.mono _ _ _)
      | (with_reducible exact spec_CouplesTogether.mono _ _ _ _)
      | (with_reducible exact spec_DrawFamilyCount.mono _ _)
      | (with_reducible exact spec_DrawIsParty.mono _ _)
      | (with_reducible exact spec_DrawTurnParty.mono _ _)
      | (with_reducible exact spec_FamilyCount.mono _ _ _)
      | (with_reducible exact spec_FirstApart.mono _ _ _)
      | (with_reducible exact spec_IsParty.mono _ _ _ _)
      | (with_reducible exact spec_MenageCount.mono _ _)
      | (with_reducible exact spec_TurnParty.mono _ _ _ _)
      | (with_reducible exact LeO.refl _)
      | (with_reducible exact LeO.none _)
      | (with_reducible refine LeO.ite ?_ ?_)
      | (with_reducible refine LeO.bind ?_ (fun _ => ?_))
      | exact ih0 _ _ _ _ _ _
      | exact ih1 _ _ _ _ _ _ _ _
      | exact ih2 _ _ _ _ _ _ _ _
      | exact ih3 _ _ _ _ _ _ _ _
      | exact ih4 _ _ _ _ _ _ _ _ _ _ _ _ _
      | exact ih5 _ _ _ _ _ _ _ _ _ _ _ _
      | exact ih6 _ _ _ _ _ _ _ _ _ _ _ _ _ _ _
      | exact ih7 _ _ _ _ _ _ _ _ _ _
      | exact ih8 _ _ _ _ _ _
      | exact ih9 _ _ _ _ _ _ _
      | exact ih10 _ _ _ _ _ _
      | exact ih11 _ _ _ _ _
      | exact impl_CoupleCounts.mono _ _ _
      | exact impl_CouplesTogether.mono _ _ _ _
      | exact impl_FamilyCount.mono _ _ _
      | exact impl_FirstApart.mono _ _ _
      | exact impl_IsParty.mono _ _ _ _
      | exact impl_MenageCount.mono _ _
      | exact impl_TurnParty.mono _ _ _ _
      | exact laws_rInts.mono _ _ _
      | exact laws_rSum.mono _ _
      | exact spec_CoupleCounts.mono _ _ _
      | exact spec_CouplesTogether.mono _ _ _ _
      | exact spec_DrawFamilyCount.mono _ _
      | exact spec_DrawIsParty.mono _ _
      | exact spec_DrawTurnParty.mono _ _
      | exact spec_FamilyCount.mono _ _ _
      | exact spec_FirstApart.mono _ _ _
      | exact spec_IsParty.mono _ _ _ _
      | exact spec_MenageCount.mono _ _
      | exact spec_TurnParty.mono _ _ _ _
      | exact LeO.none _
      | refine LeO.ite ?_ ?_
      | refine LeO.bind ?_ (fun _ => ?_)
    · intro y0 y1 y2 y3 y4 y5 y6 y7
      unfold laws_FnCouples.j1
      repeat' first
      | (with_reducible exact ih0 _ _ _ _ _ _)
      | (with_reducible exact ih1 _ _ _ _ _ _ _ _)
      | (with_reducible exact ih2 _ _ _ _ _ _ _ _)
      | (with_reducible exact ih3 _ _ _ _ _ _ _ _)
      | (with_reducible exact ih4 _ _ _ _ _ _ _ _ _ _ _ _ _)
      | (with_reducible exact ih5 _ _ _ _ _ _ _ _ _ _ _ _)
      | (with_reducible exact ih6 _ _ _ _ _ _ _ _ _ _ _ _ _ _ _)
      | (with_reducible exact ih7 _ _ _ _ _ _ _ _ _ _)
      | (with_reducible exact ih8 _ _ _ _ _ _)
      | (with_reducible exact ih9 _ _ _ _ _ _ _)
      | (with_reducible exact ih10 _ _ _ _ _ _)
      | (with_reducible exact ih11 _ _ _ _ _)
      | (with_reducible exact impl_CoupleCounts.mono _ _ _)
      | (with_reducible exact impl_CouplesTogether.mono _ _ _ _)
      | (with_reducible exact impl_FamilyCount.mono _ _ _)
      | (with_reducible exact impl_FirstApart.mono _ _ _)
      | (with_reducible exact impl_IsParty.mono _ _ _ _)
      | (with_reducible exact impl_MenageCount.mono _ _)
      | (with_reducible exact impl_TurnParty.mono _ _ _ _)
      | (with_reducible exact laws_rInts.mono _ _ _)
      | (with_reducible exact laws_rSum.mono _ _)
      | (with_reducible exact spec_CoupleCounts.mono _ _ _)
      | (with_reducible exact spec_CouplesTogether.mono _ _ _ _)
      | (with_reducible exact spec_DrawFamilyCount.mono _ _)
      | (with_reducible exact spec_DrawIsParty.mono _ _)
      | (with_reducible exact spec_DrawTurnParty.mono _ _)
      | (with_reducible exact spec_FamilyCount.mono _ _ _)
      | (with_reducible exact spec_FirstApart.mono _ _ _)
      | (with_reducible exact spec_IsParty.mono _ _ _ _)
      | (with_reducible exact spec_MenageCount.mono _ _)
      | (with_reducible exact spec_TurnParty.mono _ _ _ _)
      | (with_reducible exact LeO.refl _)
      | (with_reducible exact LeO.none _)
      | (with_reducible refine LeO.ite ?_ ?_)
      | (with_reducible refine LeO.bind ?_ (fun _ => ?_))
      | exact ih0 _ _ _ _ _ _
      | exact ih1 _ _ _ _ _ _ _ _
      | exact ih2 _ _ _ _ _ _ _ _
      | exact ih3 _ _ _ _ _ _ _ _
      | exact ih4 _ _ _ _ _ _ _ _ _ _ _ _ _
      | exact ih5 _ _ _ _ _ _ _ _ _ _ _ _
      | exact ih6 _ _ _ _ _ _ _ _ _ _ _ _ _ _ _
      | exact ih7 _ _ _ _ _ _ _ _ _ _
      | exact ih8 _ _ _ _ _ _
      | exact ih9 _ _ _ _ _ _ _
      | exact ih10 _ _ _ _ _ _
      | exact ih11 _ _ _ _ _
      | exact impl_CoupleCounts.mono _ _ _
      | exact impl_CouplesTogether.mono _ _ _ _
      | exact impl_FamilyCount.mono _ _ _
      | exact impl_FirstApart.mono _ _ _
      | exact impl_IsParty.mono _ _ _ _
      | exact impl_MenageCount.mono _ _
      | exact impl_TurnParty.mono _ _ _ _
      | exact laws_rInts.mono _ _ _
      | exact laws_rSum.mono _ _
      | exact spec_CoupleCounts.mono _ _ _
      | exact spec_CouplesTogether.mono _ _ _ _
      | exact spec_DrawFamilyCount.mono _ _
      | exact spec_DrawIsParty.mono _ _
      | exact spec_DrawTurnParty.mono _ _
      | exact spec_FamilyCount.mono _ _ _
      | exact spec_FirstApart.mono _ _ _
      | exact spec_IsParty.mono _ _ _ _
      | exact spec_MenageCount.mono _ _
      | exact spec_TurnParty.mono _ _ _ _
      | exact LeO.none _
      | refine LeO.ite ?_ ?_
      | refine LeO.bind ?_ (fun _ => ?_)
    · intro y0 y1 y2 y3 y4 y5 y6 y7
      unfold laws_FnCouples.j2
      repeat' first
      | (with_reducible exact ih0 _ _ _ _ _ _)
      | (with_reducible exact ih1 _ _ _ _ _ _ _ _)
      | (with_reducible exact ih2 _ _ _ _ _ _ _ _)
      | (with_reducible exact ih3 _ _ _ _ _ _ _ _)
      | (with_reducible exact ih4 _ _ _ _ _ _ _ _ _ _ _ _ _)
      | (with_reducible exact ih5 _ _ _ _ _ _ _ _ _ _ _ _)
      | (with_reducible exact ih6 _ _ _ _ _ _ _ _ _ _ _ _ _ _ _)
      | (with_reducible exact ih7 _ _ _ _ _ _ _ _ _ _)
      | (with_reducible exact ih8 _ _ _ _ _ _)
      | (with_reducible exact ih9 _ _ _ _ _ _ _)
      | (with_reducible exact ih10 _ _ _ _ _ _)
      | (with_reducible exact ih11 _ _ _ _ _)
      | (with_reducible exact impl_CoupleCounts.mono _ _ _)
      | (with_reducible exact impl_CouplesTogether.mono _ _ _ _)
      | (with_reducible exact impl_FamilyCount.mono _ _ _)
      | (with_reducible exact impl_FirstApart.mono _ _ _)
      | (with_reducible exact impl_IsParty.mono _ _ _ _)
      | (with_reducible exact impl_MenageCount.mono _ _)
      | (with_reducible exact impl_TurnParty.mono _ _ _ _)
      | (with_reducible exact laws_rInts.mono _ _ _)
      | (with_reducible exact laws_rSum.mono _ _)
      | (with_reducible exact spec_CoupleCounts.mono _ _ _)
      | (with_reducible exact spec_CouplesTogether.mono _ _ _ _)
      | (with_reducible exact spec_DrawFamilyCount.mono _ _)
      | (with_reducible exact spec_DrawIsParty.mono _ _)
      | (with_reducible exact spec_DrawTurnParty.mono _ _)
      | (with_reducible exact spec_FamilyCount.mono _ _ _)
      | (with_reducible exact spec_FirstApart.mono _ _ _)
      | (with_reducible exact spec_IsParty.mono _ _ _ _)
      | (with_reducible exact spec_MenageCount.mono _ _)
      | (with_reducible exact spec_TurnParty.mono _ _ _ _)
      | (with_reducible exact LeO.refl _)
      | (with_reducible exact LeO.none _)
      | (with_reducible refine LeO.ite ?_ ?_)
      | (with_reducible refine LeO.bind ?_ (fun _ => ?_))
      | exact ih0 _ _ _ _ _ _
      | exact ih1 _ _ _ _ _ _ _ _
      | exact ih2 _ _ _ _ _ _ _ _
      | exact ih3 _ _ _ _ _ _ _ _
      | exact ih4 _ _ _ _ _ _ _ _ _ _ _ _ _
      | exact ih5 _ _ _ _ _ _ _ _ _ _ _ _
      | exact ih6 _ _ _ _ _ _ _ _ _ _ _ _ _ _ _
      | exact ih7 _ _ _ _ _ _ _ _ _ _
      | exact ih8 _ _ _ _ _ _
      | exact ih9 _ _ _ _ _ _ _
      | exact ih10 _ _ _ _ _ _
      | exact ih11 _ _ _ _ _
      | exact impl_CoupleCounts.mono _ _ _
      | exact impl_CouplesTogether.mono _ _ _ _
      | exact impl_FamilyCount.mono _ _ _
      | exact impl_FirstApart.mono _ _ _
      | exact impl_IsParty.mono _ _ _ _
      | exact impl_MenageCount.mono _ _
      | exact impl_TurnParty.mono _ _ _ _
      | exact laws_rInts.mono _ _ _
      | exact laws_rSum.mono _ _
      | exact spec_CoupleCounts.mono _ _ _
      | exact spec_CouplesTogether.mono _ _ _ _
      | exact spec_DrawFamilyCount.mono _ _
      | exact spec_DrawIsParty.mono _ _
      | exact spec_DrawTurnParty.mono _ _
      | exact spec_FamilyCount.mono _ _ _
      | exact spec_FirstApart.mono _ _ _
      | exact spec_IsParty.mono _ _ _ _
      | exact spec_MenageCount.mono _ _
      | exact spec_TurnParty.mono _ _ _ _
      | exact LeO.none _
      | refine LeO.ite ?_ ?_
      | refine LeO.bind ?_ (fun _ => ?_)
    · intro y0 y1 y2 y3 y4 y5 y6 y7
      unfold laws_FnCouples.j3
      repeat' first
      | (with_reducible exact ih0 _ _ _ _ _ _)
      | (with_reducible exact ih1 _ _ _ _ _ _ _ _)
      | (with_reducible exact ih2 _ _ _ _ _ _ _ _)
      | (with_reducible exact ih3 _ _ _ _ _ _ _ _)
      | (with_reducible exact ih4 _ _ _ _ _ _ _ _ _ _ _ _ _)
      | (with_reducible exact ih5 _ _ _ _ _ _ _ _ _ _ _ _)
      | (with_reducible exact ih6 _ _ _ _ _ _ _ _ _ _ _ _ _ _ _)
      | (with_reducible exact ih7 _ _ _ _ _ _ _ _ _ _)
      | (with_reducible exact ih8 _ _ _ _ _ _)
      | (with_reducible exact ih9 _ _ _ _ _ _ _)
      | (with_reducible exact ih10 _ _ _ _ _ _)
      | (with_reducible exact ih11 _ _ _ _ _)
      | (with_reducible exact impl_CoupleCounts.mono _ _ _)
      | (with_reducible exact impl_CouplesTogether.mono _ _ _ _)
      | (with_reducible exact impl_FamilyCount.mono _ _ _)
      | (with_reducible exact impl_FirstApart.mono _ _ _)
      | (with_reducible exact impl_IsParty.mono _ _ _ _)
      | (with_reducible exact impl_MenageCount.mono _ _)
      | (with_reducible exact impl_TurnParty.mono _ _ _ _)
      | (with_reducible exact laws_rInts.mono _ _ _)
      | (with_reducible exact laws_rSum.mono _ _)
      | (with_reducible exact spec_CoupleCounts.mono _ _ _)
      | (with_reducible exact spec_CouplesTogether.mono _ _ _ _)
      | (with_reducible exact spec_DrawFamilyCount.mono _ _)
      | (with_reducible exact spec_DrawIsParty.mono _ _)
      | (with_reducible exact spec_DrawTurnParty.mono _ _)
      | (with_reducible exact spec_FamilyCount.mono _ _ _)
      | (with_reducible exact spec_FirstApart.mono _ _ _)
      | (with_reducible exact spec_IsParty.mono _ _ _ _)
      | (with_reducible exact spec_MenageCount.mono _ _)
      | (with_reducible exact spec_TurnParty.mono _ _ _ _)
      | (with_reducible exact LeO.refl _)
      | (with_reducible exact LeO.none _)
      | (with_reducible refine LeO.ite ?_ ?_)
      | (with_reducible refine LeO.bind ?_ (fun _ => ?_))
      | exact ih0 _ _ _ _ _ _
      | exact ih1 _ _ _ _ _ _ _ _
      | exact ih2 _ _ _ _ _ _ _ _
      | exact ih3 _ _ _ _ _ _ _ _
      | exact ih4 _ _ _ _ _ _ _ _ _ _ _ _ _
      | exact ih5 _ _ _ _ _ _ _ _ _ _ _ _
      | exact ih6 _ _ _ _ _ _ _ _ _ _ _ _ _ _ _
      | exact ih7 _ _ _ _ _ _ _ _ _ _
      | exact ih8 _ _ _ _ _ _
      | exact ih9 _ _ _ _ _ _ _
      | exact ih10 _ _ _ _ _ _
      | exact ih11 _ _ _ _ _
      | exact impl_CoupleCounts.mono _ _ _
      | exact impl_CouplesTogether.mono _ _ _ _
      | exact impl_FamilyCount.mono _ _ _
      | exact impl_FirstApart.mono _ _ _
      | exact impl_IsParty.mono _ _ _ _
      | exact impl_MenageCount.mono _ _
      | exact impl_TurnParty.mono _ _ _ _
      | exact laws_rInts.mono _ _ _
      | exact laws_rSum.mono _ _
      | exact spec_CoupleCounts.mono _ _ _
      | exact spec_CouplesTogether.mono _ _ _ _
      | exact spec_DrawFamilyCount.mono _ _
      | exact spec_DrawIsParty.mono _ _
      | exact spec_DrawTurnParty.mono _ _
      | exact spec_FamilyCount.mono _ _ _
      | exact spec_FirstApart.mono _ _ _
      | exact spec_IsParty.mono _ _ _ _
      | exact spec_MenageCount.mono _ _
      | exact spec_TurnParty.mono _ _ _ _
      | exact LeO.none _
      | refine LeO.ite ?_ ?_
      | refine LeO.bind ?_ (fun _ => ?_)
    · intro y0 y1 y2 y3 y4 y5 y6 y7 y8 y9 y10 y11 y12
      unfold laws_FnCouples.j4
      repeat' first
      | (with_reducible exact ih0 _ _ _ _ _ _)
      | (with_reducible exact ih1 _ _ _ _ _ _ _ _)
      | (with_reducible exact ih2 _ _ _ _ _ _ _ _)
      | (with_reducible exact ih3 _ _ _ _ _ _ _ _)
      | (with_reducible exact ih4 _ _ _ _ _ _ _ _ _ _ _ _ _)
      | (with_reducible exact ih5 _ _ _ _ _ _ _ _ _ _ _ _)
      | (with_reducible exact ih6 _ _ _ _ _ _ _ _ _ _ _ _ _ _ _)
      | (with_reducible exact ih7 _ _ _ _ _ _ _ _ _ _)
      | (with_reducible exact ih8 _ _ _ _ _ _)
      | (with_reducible exact ih9 _ _ _ _ _ _ _)
      | (with_reducible exact ih10 _ _ _ _ _ _)
      | (with_reducible exact ih11 _ _ _ _ _)
      | (with_reducible exact impl_CoupleCounts.mono _ _ _)
      | (with_reducible exact impl_CouplesTogether.mono _ _ _ _)
      | (with_reducible exact impl_FamilyCount.mono _ _ _)
      | (with_reducible exact impl_FirstApart.mono _ _ _)
      | (with_reducible exact impl_IsParty.mono _ _ _ _)
      | (with_reducible exact impl_MenageCount.mono _ _)
      | (with_reducible exact impl_TurnParty.mono _ _ _ _)
      | (with_reducible exact laws_rInts.mono _ _ _)
      | (with_reducible exact laws_rSum.mono _ _)
      | (with_reducible exact spec_CoupleCounts.mono _ _ _)
      | (with_reducible exact spec_CouplesTogether.mono _ _ _ _)
      | (with_reducible exact spec_DrawFamilyCount.mono _ _)
      | (with_reducible exact spec_DrawIsParty.mono _ _)
      | (with_reducible exact spec_DrawTurnParty.mono _ _)
      | (with_reducible exact spec_FamilyCount.mono _ _ _)
      | (with_reducible exact spec_FirstApart.mono _ _ _)
      | (with_reducible exact spec_IsParty.mono _ _ _ _)
      | (with_reducible exact spec_MenageCount.mono _ _)
      | (with_reducible exact spec_TurnParty.mono _ _ _ _)
      | (with_reducible exact LeO.refl _)
      | (with_reducible exact LeO.none _)
      | (with_reducible refine LeO.ite ?_ ?_)
      | (with_reducible refine LeO.bind ?_ (fun _ => ?_))
      | exact ih0 _ _ _ _ _ _
      | exact ih1 _ _ _ _ _ _ _ _
      | exact ih2 _ _ _ _ _ _ _ _
      | exact ih3 _ _ _ _ _ _ _ _
      | exact ih4 _ _ _ _ _ _ _ _ _ _ _ _ _
      | exact ih5 _ _ _ _ _ _ _ _ _ _ _ _
      | exact ih6 _ _ _ _ _ _ _ _ _ _ _ _ _ _ _
      | exact ih7 _ _ _ _ _ _ _ _ _ _
      | exact ih8 _ _ _ _ _ _
      | exact ih9 _ _ _ _ _ _ _
      | exact ih10 _ _ _ _ _ _
      | exact ih11 _ _ _ _ _
      | exact impl_CoupleCounts.mono _ _ _
      | exact impl_CouplesTogether.mono _ _ _ _
      | exact impl_FamilyCount.mono _ _ _
      | exact impl_FirstApart.mono _ _ _
      | exact impl_IsParty.mono _ _ _ _
      | exact impl_MenageCount.mono _ _
      | exact impl_TurnParty.mono _ _ _ _
      | exact laws_rInts.mono _ _ _
      | exact laws_rSum.mono _ _
      | exact spec_CoupleCounts.mono _ _ _
      | exact spec_CouplesTogether.mono _ _ _ _
      | exact spec_DrawFamilyCount.mono _ _
      | exact spec_DrawIsParty.mono _ _
      | exact spec_DrawTurnParty.mono _ _
      | exact spec_FamilyCount.mono _ _ _
      | exact spec_FirstApart.mono _ _ _
      | exact spec_IsParty.mono _ _ _ _
      | exact spec_MenageCount.mono _ _
      | exact spec_TurnParty.mono _ _ _ _
      | exact LeO.none _
      | refine LeO.ite ?_ ?_
      | refine LeO.bind ?_ (fun _ => ?_)
    · intro y0 y1 y2 y3 y4 y5 y6 y7 y8 y9 y10 y11
      unfold laws_FnCouples.j5
      repeat' first
      | (with_reducible exact ih0 _ _ _ _ _ _)
      | (with_reducible exact ih1 _ _ _ _ _ _ _ _)
      | (with_reducible exact ih2 _ _ _ _ _ _ _ _)
      | (with_reducible exact ih3 _ _ _ _ _ _ _ _)
      | (with_reducible exact ih4 _ _ _ _ _ _ _ _ _ _ _ _ _)
      | (with_reducible exact ih5 _ _ _ _ _ _ _ _ _ _ _ _)
      | (with_reducible exact ih6 _ _ _ _ _ _ _ _ _ _ _ _ _ _ _)
      | (with_reducible exact ih7 _ _ _ _ _ _ _ _ _ _)
      | (with_reducible exact ih8 _ _ _ _ _ _)
      | (with_reducible exact ih9 _ _ _ _ _ _ _)
      | (with_reducible exact ih10 _ _ _ _ _ _)
      | (with_reducible exact ih11 _ _ _ _ _)
      | (with_reducible exact impl_CoupleCounts.mono _ _ _)
      | (with_reducible exact impl_CouplesTogether.mono _ _ _ _)
      | (with_reducible exact impl_FamilyCount.mono _ _ _)
      | (with_reducible exact impl_FirstApart.mono _ _ _)
      | (with_reducible exact impl_IsParty.mono _ _ _ _)
      | (with_reducible exact impl_MenageCount.mono _ _)
      | (with_reducible exact impl_TurnParty.mono _ _ _ _)
      | (with_reducible exact laws_rInts.mono _ _ _)
      | (with_reducible exact laws_rSum.mono _ _)
      | (with_reducible exact spec_CoupleCounts.mono _ _ _)
      | (with_reducible exact spec_CouplesTogether.mono _ _ _ _)
      | (with_reducible exact spec_DrawFamilyCount.mono _ _)
      | (with_reducible exact spec_DrawIsParty.mono _ _)
      | (with_reducible exact spec_DrawTurnParty.mono _ _)
      | (with_reducible exact spec_FamilyCount.mono _ _ _)
      | (with_reducible exact spec_FirstApart.mono _ _ _)
      | (with_reducible exact spec_IsParty.mono _ _ _ _)
      | (with_reducible exact spec_MenageCount.mono _ _)
      | (with_reducible exact spec_TurnParty.mono _ _ _ _)
      | (with_reducible exact LeO.refl _)
      | (with_reducible exact LeO.none _)
      | (with_reducible refine LeO.ite ?_ ?_)
      | (with_reducible refine LeO.bind ?_ (fun _ => ?_))
      | exact ih0 _ _ _ _ _ _
      | exact ih1 _ _ _ _ _ _ _ _
      | exact ih2 _ _ _ _ _ _ _ _
      | exact ih3 _ _ _ _ _ _ _ _
      | exact ih4 _ _ _ _ _ _ _ _ _ _ _ _ _
      | exact ih5 _ _ _ _ _ _ _ _ _ _ _ _
      | exact ih6 _ _ _ _ _ _ _ _ _ _ _ _ _ _ _
      | exact ih7 _ _ _ _ _ _ _ _ _ _
      | exact ih8 _ _ _ _ _ _
      | exact ih9 _ _ _ _ _ _ _
      | exact ih10 _ _ _ _ _ _
      | exact ih11 _ _ _ _ _
      | exact impl_CoupleCounts.mono _ _ _
      | exact impl_CouplesTogether.mono _ _ _ _
      | exact impl_FamilyCount.mono _ _ _
      | exact impl_FirstApart.mono _ _ _
      | exact impl_IsParty.mono _ _ _ _
      | exact impl_MenageCount.mono _ _
      | exact impl_TurnParty.mono _ _ _ _
      | exact laws_rInts.mono _ _ _
      | exact laws_rSum.mono _ _
      | exact spec_CoupleCounts.mono _ _ _
      | exact spec_CouplesTogether.mono _ _ _ _
      | exact spec_DrawFamilyCount.mono _ _
      | exact spec_DrawIsParty.mono _ _
      | exact spec_DrawTurnParty.mono _ _
      | exact spec_FamilyCount.mono _ _ _
      | exact spec_FirstApart.mono _ _ _
      | exact spec_IsParty.mono _ _ _ _
      | exact spec_MenageCount.mono _ _
      | exact spec_TurnParty.mono _ _ _ _
      | exact LeO.none _
      | refine LeO.ite ?_ ?_
      | refine LeO.bind ?_ (fun _ => ?_)
    · intro y0 y1 y2 y3 y4 y5 y6 y7 y8 y9 y10 y11 y12 y13 y14
      unfold laws_FnCouples.j6
      repeat' first
      | (with_reducible exact ih0 _ _ _ _ _ _)
      | (with_reducible exact ih1 _ _ _ _ _ _ _ _)
      | (with_reducible exact ih2 _ _ _ _ _ _ _ _)
      | (with_reducible exact ih3 _ _ _ _ _ _ _ _)
      | (with_reducible exact ih4 _ _ _ _ _ _ _ _ _ _ _ _ _)
      | (with_reducible exact ih5 _ _ _ _ _ _ _ _ _ _ _ _)
      | (with_reducible exact ih6 _ _ _ _ _ _ _ _ _ _ _ _ _ _ _)
      | (with_reducible exact ih7 _ _ _ _ _ _ _ _ _ _)
      | (with_reducible exact ih8 _ _ _ _ _ _)
      | (with_reducible exact ih9 _ _ _ _ _ _ _)
      | (with_reducible exact ih10 _ _ _ _ _ _)
      | (with_reducible exact ih11 _ _ _ _ _)
      | (with_reducible exact impl_CoupleCounts.mono _ _ _)
      | (with_reducible exact impl_CouplesTogether.mono _ _ _ _)
      | (with_reducible exact impl_FamilyCount.mono _ _ _)
      | (with_reducible exact impl_FirstApart.mono _ _ _)
      | (with_reducible exact impl_IsParty.mono _ _ _ _)
      | (with_reducible exact impl_MenageCount.mono _ _)
      | (with_reducible exact impl_TurnParty.mono _ _ _ _)
      | (with_reducible exact laws_rInts.mono _ _ _)
      | (with_reducible exact laws_rSum.mono _ _)
      | (with_reducible exact spec_CoupleCounts.mono _ _ _)
      | (with_reducible exact spec_CouplesTogether.mono _ _ _ _)
      | (with_reducible exact spec_DrawFamilyCount.mono _ _)
      | (with_reducible exact spec_DrawIsParty.mono _ _)
      | (with_reducible exact spec_DrawTurnParty.mono _ _)
      | (with_reducible exact spec_FamilyCount.mono _ _ _)
      | (with_reducible exact spec_FirstApart.mono _ _ _)
      | (with_reducible exact spec_IsParty.mono _ _ _ _)
      | (with_reducible exact spec_MenageCount.mono _ _)
      | (with_reducible exact spec_TurnParty.mono _ _ _ _)
      | (with_reducible exact LeO.refl _)
      | (with_reducible exact LeO.none _)
      | (with_reducible refine LeO.ite ?_ ?_)
      | (with_reducible refine LeO.bind ?_ (fun _ => ?_))
      | exact ih0 _ _ _ _ _ _
      | exact ih1 _ _ _ _ _ _ _ _
      | exact ih2 _ _ _ _ _ _ _ _
      | exact ih3 _ _ _ _ _ _ _ _
      | exact ih4 _ _ _ _ _ _ _ _ _ _ _ _ _
      | exact ih5 _ _ _ _ _ _ _ _ _ _ _ _
      | exact ih6 _ _ _ _ _ _ _ _ _ _ _ _ _ _ _
      | exact ih7 _ _ _ _ _ _ _ _ _ _
      | exact ih8 _ _ _ _ _ _
      | exact ih9 _ _ _ _ _ _ _
      | exact ih10 _ _ _ _ _ _
      | exact ih11 _ _ _ _ _
      | exact impl_CoupleCounts.mono _ _ _
      | exact impl_CouplesTogether.mono _ _ _ _
      | exact impl_FamilyCount.mono _ _ _
      | exact impl_FirstApart.mono _ _ _
      | exact impl_IsParty.mono _ _ _ _
      | exact impl_MenageCount.mono _ _
      | exact impl_TurnParty.mono _ _ _ _
      | exact laws_rInts.mono _ _ _
      | exact laws_rSum.mono _ _
      | exact spec_CoupleCounts.mono _ _ _
      | exact spec_CouplesTogether.mono _ _ _ _
      | exact spec_DrawFamilyCount.mono _ _
      | exact spec_DrawIsParty.mono _ _
      | exact spec_DrawTurnParty.mono _ _
      | exact spec_FamilyCount.mono _ _ _
      | exact spec_FirstApart.mono _ _ _
      | exact spec_IsParty.mono _ _ _ _
      | exact spec_MenageCount.mono _ _
      | exact spec_TurnParty.mono _ _ _ _
      | exact LeO.none _
      | refine LeO.ite ?_ ?_
      | refine LeO.bind ?_ (fun _ => ?_)
    · intro y0 y1 y2 y3 y4 y5 y6 y7 y8 y9
      unfold laws_FnCouples.j7
      repeat' first
      | (with_reducible exact ih0 _ _ _ _ _ _)
      | (with_reducible exact ih1 _ _ _ _ _ _ _ _)
      | (with_reducible exact ih2 _ _ _ _ _ _ _ _)
      | (with_reducible exact ih3 _ _ _ _ _ _ _ _)
      | (with_reducible exact ih4 _ _ _ _ _ _ _ _ _ _ _ _ _)
      | (with_reducible exact ih5 _ _ _ _ _ _ _ _ _ _ _ _)
      | (with_reducible exact ih6 _ _ _ _ _ _ _ _ _ _ _ _ _ _ _)
      | (with_reducible exact ih7 _ _ _ _ _ _ _ _ _ _)
      | (with_reducible exact ih8 _ _ _ _ _ _)
      | (with_reducible exact ih9 _ _ _ _ _ _ _)
      | (with_reducible exact ih10 _ _ _ _ _ _)
      | (with_reducible exact ih11 _ _ _ _ _)
      | (with_reducible exact impl_CoupleCounts.mono _ _ _)
      | (with_reducible exact impl_CouplesTogether.mono _ _ _ _)
      | (with_reducible exact impl_FamilyCount.mono _ _ _)
      | (with_reducible exact impl_FirstApart.mono _ _ _)
      | (with_reducible exact impl_IsParty.mono _ _ _ _)
      | (with_reducible exact impl_MenageCount.mono _ _)
      | (with_reducible exact impl_TurnParty.mono _ _ _ _)
      | (with_reducible exact laws_rInts.mono _ _ _)
      | (with_reducible exact laws_rSum.mono _ _)
      | (with_reducible exact spec_CoupleCounts.mono _ _ _)
      | (with_reducible exact spec_CouplesTogether.mono _ _ _ _)
      | (with_reducible exact spec_DrawFamilyCount.mono _ _)
      | (with_reducible exact spec_DrawIsParty.mono _ _)
      | (with_reducible exact spec_DrawTurnParty.mono _ _)
      | (with_reducible exact spec_FamilyCount.mono _ _ _)
      | (with_reducible exact spec_FirstApart.mono _ _ _)
      | (with_reducible exact spec_IsParty.mono _ _ _ _)
      | (with_reducible exact spec_MenageCount.mono _ _)
      | (with_reducible exact spec_TurnParty.mono _ _ _ _)
      | (with_reducible exact LeO.refl _)
      | (with_reducible exact LeO.none _)
      | (with_reducible refine LeO.ite ?_ ?_)
      | (with_reducible refine LeO.bind ?_ (fun _ => ?_))
      | exact ih0 _ _ _ _ _ _
      | exact ih1 _ _ _ _ _ _ _ _
      | exact ih2 _ _ _ _ _ _ _ _
      | exact ih3 _ _ _ _ _ _ _ _
      | exact ih4 _ _ _ _ _ _ _ _ _ _ _ _ _
      | exact ih5 _ _ _ _ _ _ _ _ _ _ _ _
      | exact ih6 _ _ _ _ _ _ _ _ _ _ _ _ _ _ _
      | exact ih7 _ _ _ _ _ _ _ _ _ _
      | exact ih8 _ _ _ _ _ _
      | exact ih9 _ _ _ _ _ _ _
      | exact ih10 _ _ _ _ _ _
      | exact ih11 _ _ _ _ _
      | exact impl_CoupleCounts.mono _ _ _
      | exact impl_CouplesTogether.mono _ _ _ _
      | exact impl_FamilyCount.mono _ _ _
      | exact impl_FirstApart.mono _ _ _
      | exact impl_IsParty.mono _ _ _ _
      | exact impl_MenageCount.mono _ _
      | exact impl_TurnParty.mono _ _ _ _
      | exact laws_rInts.mono _ _ _
      | exact laws_rSum.mono _ _
      | exact spec_CoupleCounts.mono _ _ _
      | exact spec_CouplesTogether.mono _ _ _ _
      | exact spec_DrawFamilyCount.mono _ _
      | exact spec_DrawIsParty.mono _ _
      | exact spec_DrawTurnParty.mono _ _
      | exact spec_FamilyCount.mono _ _ _
      | exact spec_FirstApart.mono _ _ _
      | exact spec_IsParty.mono _ _ _ _
      | exact spec_MenageCount.mono _ _
      | exact spec_TurnParty.mono _ _ _ _
      | exact LeO.none _
      | refine LeO.ite ?_ ?_
      | refine LeO.bind ?_ (fun _ => ?_)
    · intro y0 y1 y2 y3 y4 y5
      unfold laws_FnCouples.j8
      repeat' first
      | (with_reducible exact ih0 _ _ _ _ _ _)
      | (with_reducible exact ih1 _ _ _ _ _ _ _ _)
      | (with_reducible exact ih2 _ _ _ _ _ _ _ _)
      | (with_reducible exact ih3 _ _ _ _ _ _ _ _)
      | (with_reducible exact ih4 _ _ _ _ _ _ _ _ _ _ _ _ _)
      | (with_reducible exact ih5 _ _ _ _ _ _ _ _ _ _ _ _)
      | (with_reducible exact ih6 _ _ _ _ _ _ _ _ _ _ _ _ _ _ _)
      | (with_reducible exact ih7 _ _ _ _ _ _ _ _ _ _)
      | (with_reducible exact ih8 _ _ _ _ _ _)
      | (with_reducible exact ih9 _ _ _ _ _ _ _)
      | (with_reducible exact ih10 _ _ _ _ _ _)
      | (with_reducible exact ih11 _ _ _ _ _)
      | (with_reducible exact impl_CoupleCounts.mono _ _ _)
      | (with_reducible exact impl_CouplesTogether.mono _ _ _ _)
      | (with_reducible exact impl_FamilyCount.mono _ _ _)
      | (with_reducible exact impl_FirstApart.mono _ _ _)
      | (with_reducible exact impl_IsParty.mono _ _ _ _)
      | (with_reducible exact impl_MenageCount.mono _ _)
      | (with_reducible exact impl_TurnParty.mono _ _ _ _)
      | (with_reducible exact laws_rInts.mono _ _ _)
      | (with_reducible exact laws_rSum.mono _ _)
      | (with_reducible exact spec_CoupleCounts.mono _ _ _)
      | (with_reducible exact spec_CouplesTogether.mono _ _ _ _)
      | (with_reducible exact spec_DrawFamilyCount.mono _ _)
      | (with_reducible exact spec_DrawIsParty.mono _ _)
      | (with_reducible exact spec_DrawTurnParty.mono _ _)
      | (with_reducible exact spec_FamilyCount.mono _ _ _)
      | (with_reducible exact spec_FirstApart.mono _ _ _)
      | (with_reducible exact spec_IsParty.mono _ _ _ _)
      | (with_reducible exact spec_MenageCount.mono _ _)
      | (with_reducible exact spec_TurnParty.mono _ _ _ _)
      | (with_reducible exact LeO.refl _)
      | (with_reducible exact LeO.none _)
      | (with_reducible refine LeO.ite ?_ ?_)
      | (with_reducible refine LeO.bind ?_ (fun _ => ?_))
      | exact ih0 _ _ _ _ _ _
      | exact ih1 _ _ _ _ _ _ _ _
      | exact ih2 _ _ _ _ _ _ _ _
      | exact ih3 _ _ _ _ _ _ _ _
      | exact ih4 _ _ _ _ _ _ _ _ _ _ _ _ _
      | exact ih5 _ _ _ _ _ _ _ _ _ _ _ _
      | exact ih6 _ _ _ _ _ _ _ _ _ _ _ _ _ _ _
      | exact ih7 _ _ _ _ _ _ _ _ _ _
      | exact ih8 _ _ _ _ _ _
      | exact ih9 _ _ _ _ _ _ _
      | exact ih10 _ _ _ _ _ _
      | exact ih11 _ _ _ _ _
      | exact impl_CoupleCounts.mono _ _ _
      | exact impl_CouplesTogether.mono _ _ _ _
      | exact impl_FamilyCount.mono _ _ _
      | exact impl_FirstApart.mono _ _ _
      | exact impl_IsParty.mono _ _ _ _
      | exact impl_MenageCount.mono _ _
      | exact impl_TurnParty.mono _ _ _ _
      | exact laws_rInts.mono _ _ _
      | exact laws_rSum.mono _ _
      | exact spec_CoupleCounts.mono _ _ _
      | exact spec_CouplesTogether.mono _ _ _ _
      | exact spec_DrawFamilyCount.mono _ _
      | exact spec_DrawIsParty.mono _ _
      | exact spec_DrawTurnParty.mono _ _
      | exact spec_FamilyCount.mono _ _ _
      | exact spec_FirstApart.mono _ _ _
      | exact spec_IsParty.mono _ _ _ _
      | exact spec_MenageCount.mono _ _
      | exact spec_TurnParty.mono _ _ _ _
      | exact LeO.none _
      | refine LeO.ite ?_ ?_
      | refine LeO.bind ?_ (fun _ => ?_)
    · intro y0 y1 y2 y3 y4 y5 y6
      unfold laws_FnCouples.l0
      repeat' first
      | (with_reducible exact ih0 _ _ _ _ _ _)
      | (with_reducible exact ih1 _ _ _ _ _ _ _ _)
      | (with_reducible exact ih2 _ _ _ _ _ _ _ _)
      | (with_reducible exact ih3 _ _ _ _ _ _ _ _)
      | (with_reducible exact ih4 _ _ _ _ _ _ _ _ _ _ _ _ _)
      | (with_reducible exact ih5 _ _ _ _ _ _ _ _ _ _ _ _)
      | (with_reducible exact ih6 _ _ _ _ _ _ _ _ _ _ _ _ _ _ _)
      | (with_reducible exact ih7 _ _ _ _ _ _ _ _ _ _)
      | (with_reducible exact ih8 _ _ _ _ _ _)
      | (with_reducible exact ih9 _ _ _ _ _ _ _)
      | (with_reducible exact ih10 _ _ _ _ _ _)
      | (with_reducible exact ih11 _ _ _ _ _)
      | (with_reducible exact impl_CoupleCounts.mono _ _ _)
      | (with_reducible exact impl_CouplesTogether.mono _ _ _ _)
      | (with_reducible exact impl_FamilyCount.mono _ _ _)
      | (with_reducible exact impl_FirstApart.mono _ _ _)
      | (with_reducible exact impl_IsParty.mono _ _ _ _)
      | (with_reducible exact impl_MenageCount.mono _ _)
      | (with_reducible exact impl_TurnParty.mono _ _ _ _)
      | (with_reducible exact laws_rInts.mono _ _ _)
      | (with_reducible exact laws_rSum.mono _ _)
      | (with_reducible exact spec_CoupleCounts.mono _ _ _)
      | (with_reducible exact spec_CouplesTogether.mono _ _ _ _)
      | (with_reducible exact spec_DrawFamilyCount.mono _ _)
      | (with_reducible exact spec_DrawIsParty.mono _ _)
      | (with_reducible exact spec_DrawTurnParty.mono _ _)
      | (with_reducible exact spec_FamilyCount.mono _ _ _)
      | (with_reducible exact spec_FirstApart.mono _ _ _)
      | (with_reducible exact spec_IsParty.mono _ _ _ _)
      | (with_reducible exact spec_MenageCount.mono _ _)
      | (with_reducible exact spec_TurnParty.mono _ _ _ _)
      | (with_reducible exact LeO.refl _)
      | (with_reducible exact LeO.none _)
      | (with_reducible refine LeO.ite ?_ ?_)
      | (with_reducible refine LeO.bind ?_ (fun _ => ?_))
      | exact ih0 _ _ _ _ _ _
      | exact ih1 _ _ _ _ _ _ _ _
      | exact ih2 _ _ _ _ _ _ _ _
      | exact ih3 _ _ _ _ _ _ _ _
      | exact ih4 _ _ _ _ _ _ _ _ _ _ _ _ _
      | exact ih5 _ _ _ _ _ _ _ _ _ _ _ _
      | exact ih6 _ _ _ _ _ _ _ _ _ _ _ _ _ _ _
      | exact ih7 _ _ _ _ _ _ _ _ _ _
      | exact ih8 _ _ _ _ _ _
      | exact ih9 _ _ _ _ _ _ _
      | exact ih10 _ _ _ _ _ _
      | exact ih11 _ _ _ _ _
      | exact impl_CoupleCounts.mono _ _ _
      | exact impl_CouplesTogether.mono _ _ _ _
      | exact impl_FamilyCount.mono _ _ _
      | exact impl_FirstApart.mono _ _ _
      | exact impl_IsParty.mono _ _ _ _
      | exact impl_MenageCount.mono _ _
      | exact impl_TurnParty.mono _ _ _ _
      | exact laws_rInts.mono _ _ _
      | exact laws_rSum.mono _ _
      | exact spec_CoupleCounts.mono _ _ _
      | exact spec_CouplesTogether.mono _ _ _ _
      | exact spec_DrawFamilyCount.mono _ _
      | exact spec_DrawIsParty.mono _ _
      | exact spec_DrawTurnParty.mono _ _
      | exact spec_FamilyCount.mono _ _ _
      | exact spec_FirstApart.mono _ _ _
      | exact spec_IsParty.mono _ _ _ _
      | exact spec_MenageCount.mono _ _
      | exact spec_TurnParty.mono _ _ _ _
      | exact LeO.none _
      | refine LeO.ite ?_ ?_
      | refine LeO.bind ?_ (fun _ => ?_)
    · intro y0 y1 y2 y3 y4 y5
      unfold laws_FnCouples.j10
      repeat' first
      | (with_reducible exact ih0 _ _ _ _ _ _)
      | (with_reducible exact ih1 _ _ _ _ _ _ _ _)
      | (with_reducible exact ih2 _ _ _ _ _ _ _ _)
      | (with_reducible exact ih3 _ _ _ _ _ _ _ _)
      | (with_reducible exact ih4 _ _ _ _ _ _ _ _ _ _ _ _ _)
      | (with_reducible exact ih5 _ _ _ _ _ _ _ _ _ _ _ _)
      | (with_reducible exact ih6 _ _ _ _ _ _ _ _ _ _ _ _ _ _ _)
      | (with_reducible exact ih7 _ _ _ _ _ _ _ _ _ _)
      | (with_reducible exact ih8 _ _ _ _ _ _)
      | (with_reducible exact ih9 _ _ _ _ _ _ _)
      | (with_reducible exact ih10 _ _ _ _ _ _)
      | (with_reducible exact ih11 _ _ _ _ _)
      | (with_reducible exact impl_CoupleCounts.mono _ _ _)
      | (with_reducible exact impl_CouplesTogether.mono _ _ _ _)
      | (with_reducible exact impl_FamilyCount.mono _ _ _)
      | (with_reducible exact impl_FirstApart.mono _ _ _)
      | (with_reducible exact impl_IsParty.mono _ _ _ _)
      | (with_reducible exact impl_MenageCount.mono _ _)
      | (with_reducible exact impl_TurnParty.mono _ _ _ _)
      | (with_reducible exact laws_rInts.mono _ _ _)
      | (with_reducible exact laws_rSum.mono _ _)
      | (with_reducible exact spec_CoupleCounts.mono _ _ _)
      | (with_reducible exact spec_CouplesTogether.mono _ _ _ _)
      | (with_reducible exact spec_DrawFamilyCount.mono _ _)
      | (with_reducible exact spec_DrawIsParty.mono _ _)
      | (with_reducible exact spec_DrawTurnParty.mono _ _)
      | (with_reducible exact spec_FamilyCount.mono _ _ _)
      | (with_reducible exact spec_FirstApart.mono _ _ _)
      | (with_reducible exact spec_IsParty.mono _ _ _ _)
      | (with_reducible exact spec_MenageCount.mono _ _)
      | (with_reducible exact spec_TurnParty.mono _ _ _ _)
      | (with_reducible exact LeO.refl _)
      | (with_reducible exact LeO.none _)
      | (with_reducible refine LeO.ite ?_ ?_)
      | (with_reducible refine LeO.bind ?_ (fun _ => ?_))
      | exact ih0 _ _ _ _ _ _
      | exact ih1 _ _ _ _ _ _ _ _
      | exact ih2 _ _ _ _ _ _ _ _
      | exact ih3 _ _ _ _ _ _ _ _
      | exact ih4 _ _ _ _ _ _ _ _ _ _ _ _ _
      | exact ih5 _ _ _ _ _ _ _ _ _ _ _ _
      | exact ih6 _ _ _ _ _ _ _ _ _ _ _ _ _ _ _
      | exact ih7 _ _ _ _ _ _ _ _ _ _
      | exact ih8 _ _ _ _ _ _
      | exact ih9 _ _ _ _ _ _ _
      | exact ih10 _ _ _ _ _ _
      | exact ih11 _ _ _ _ _
      | exact impl_CoupleCounts.mono _ _ _
      | exact impl_CouplesTogether.mono _ _ _ _
      | exact impl_FamilyCount.mono _ _ _
      | exact impl_FirstApart.mono _ _ _
      | exact impl_IsParty.mono _ _ _ _
      | exact impl_MenageCount.mono _ _
      | exact impl_TurnParty.mono _ _ _ _
      | exact laws_rInts.mono _ _ _
      | exact laws_rSum.mono _ _
      | exact spec_CoupleCounts.mono _ _ _
      | exact spec_CouplesTogether.mono _ _ _ _
      | exact spec_DrawFamilyCount.mono _ _
      | exact spec_DrawIsParty.mono _ _
      | exact spec_DrawTurnParty.mono _ _
      | exact spec_FamilyCount.mono _ _ _
      | exact spec_FirstApart.mono _ _ _
      | exact spec_IsParty.mono _ _ _ _
      | exact spec_MenageCount.mono _ _
      | exact spec_TurnParty.mono _ _ _ _
      | exact LeO.none _
      | refine LeO.ite ?_ ?_
      | refine LeO.bind ?_ (fun _ => ?_)
    · intro y0 y1 y2 y3 y4
      unfold laws_FnCouples.j11
      repeat' first
      | (with_reducible exact ih0 _ _ _ _ _ _)
      | (with_reducible exact ih1 _ _ _ _ _ _ _ _)
      | (with_reducible exact ih2 _ _ _ _ _ _ _ _)
      | (with_reducible exact ih3 _ _ _ _ _ _ _ _)
      | (with_reducible exact ih4 _ _ _ _ _ _ _ _ _ _ _ _ _)
      | (with_reducible exact ih5 _ _ _ _ _ _ _ _ _ _ _ _)
      | (with_reducible exact ih6 _ _ _ _ _ _ _ _ _ _ _ _ _ _ _)
      | (with_reducible exact ih7 _ _ _ _ _ _ _ _ _ _)
      | (with_reducible exact ih8 _ _ _ _ _ _)
      | (with_reducible exact ih9 _ _ _ _ _ _ _)
      | (with_reducible exact ih10 _ _ _ _ _ _)
      | (with_reducible exact ih11 _ _ _ _ _)
      | (with_reducible exact impl_CoupleCounts.mono _ _ _)
      | (with_reducible exact impl_CouplesTogether.mono _ _ _ _)
      | (with_reducible exact impl_FamilyCount.mono _ _ _)
      | (with_reducible exact impl_FirstApart.mono _ _ _)
      | (with_reducible exact impl_IsParty.mono _ _ _ _)
      | (with_reducible exact impl_MenageCount.mono _ _)
      | (with_reducible exact impl_TurnParty.mono _ _ _ _)
      | (with_reducible exact laws_rInts.mono _ _ _)
      | (with_reducible exact laws_rSum.mono _ _)
      | (with_reducible exact spec_CoupleCounts.mono _ _ _)
      | (with_reducible exact spec_CouplesTogether.mono _ _ _ _)
      | (with_reducible exact spec_DrawFamilyCount.mono _ _)
      | (with_reducible exact spec_DrawIsParty.mono _ _)
      | (with_reducible exact spec_DrawTurnParty.mono _ _)
      | (with_reducible exact spec_FamilyCount.mono _ _ _)
      | (with_reducible exact spec_FirstApart.mono _ _ _)
      | (with_reducible exact spec_IsParty.mono _ _ _ _)
      | (with_reducible exact spec_MenageCount.mono _ _)
      | (with_reducible exact spec_TurnParty.mono _ _ _ _)
      | (with_reducible exact LeO.refl _)
      | (with_reducible exact LeO.none _)
      | (with_reducible refine LeO.ite ?_ ?_)
      | (with_reducible refine LeO.bind ?_ (fun _ => ?_))
      | exact ih0 _ _ _ _ _ _
      | exact ih1 _ _ _ _ _ _ _ _
      | exact ih2 _ _ _ _ _ _ _ _
      | exact ih3 _ _ _ _ _ _ _ _
      | exact ih4 _ _ _ _ _ _ _ _ _ _ _ _ _
      | exact ih5 _ _ _ _ _ _ _ _ _ _ _ _
      | exact ih6 _ _ _ _ _ _ _ _ _ _ _ _ _ _ _
      | exact ih7 _ _ _ _ _ _ _ _ _ _
      | exact ih8 _ _ _ _ _ _
      | exact ih9 _ _ _ _ _ _ _
      | exact ih10 _ _ _ _ _ _
      | exact ih11 _ _ _ _ _
      | exact impl_CoupleCounts.mono _ _ _
      | exact impl_CouplesTogether.mono _ _ _ _
      | exact impl_FamilyCount.mono _ _ _
      | exact impl_FirstApart.mono _ _ _
      | exact impl_IsParty.mono _ _ _ _
      | exact impl_MenageCount.mono _ _
      | exact impl_TurnParty.mono _ _ _ _
      | exact laws_rInts.mono _ _ _
      | exact laws_rSum.mono _ _
      | exact spec_CoupleCounts.mono _ _ _
      | exact spec_CouplesTogether.mono _ _ _ _
      | exact spec_DrawFamilyCount.mono _ _
      | exact spec_DrawIsParty.mono _ _
      | exact spec_DrawTurnParty.mono _ _
      | exact spec_FamilyCount.mono _ _ _
      | exact spec_FirstApart.mono _ _ _
      | exact spec_IsParty.mono _ _ _ _
      | exact spec_MenageCount.mono _ _
      | exact spec_TurnParty.mono _ _ _ _
      | exact LeO.none _
      | refine LeO.ite ?_ ?_
      | refine LeO.bind ?_ (fun _ => ?_)
theorem laws_FnCouples.j0_no (k : Nat) (y0 : List Int) (y1 : Int) (y2 : Bool) (y3 : List Int) (y4 : Bool) (r : Bool) (h : laws_FnCouples.j0 k y0 y1 y2 y3 y4 true = some r) : false = r := by
  cases k with
  | zero => exact absurd h (by simp [laws_FnCouples.j0])
  | succ k => simp only [laws_FnCouples.j0] at h; first | (rw [if_pos rfl] at h; exact Option.some.inj h) | (rw [if_pos trivial] at h; exact Option.some.inj h)
theorem laws_FnCouples.j1_no (k : Nat) (y0 : List Int) (y1 : Int) (y2 : Bool) (y3 : List Int) (y4 : Bool) (y5 : List Int) (y6 : Bool) (r : Bool) (h : laws_FnCouples.j1 k y0 y1 y2 y3 y4 y5 y6 true = some r) : false = r := by
  cases k with
  | zero => exact absurd h (by simp [laws_FnCouples.j1])
  | succ k => simp only [laws_FnCouples.j1] at h; first | (rw [if_pos rfl] at h; exact Option.some.inj h) | (rw [if_pos trivial] at h; exact Option.some.inj h)
theorem laws_FnCouples.j2_no (k : Nat) (y0 : List Int) (y1 : Int) (y2 : Bool) (y3 : List Int) (y4 : Bool) (y5 : List Int) (y6 : Bool) (r : Bool) (h : laws_FnCouples.j2 k y0 y1 y2 y3 y4 y5 y6 true = some r) : false = r := by
  cases k with
  | zero => exact absurd h (by simp [laws_FnCouples.j2])
  | succ k => simp only [laws_FnCouples.j2] at h; first | (rw [if_pos rfl] at h; exact Option.some.inj h) | (rw [if_pos trivial] at h; exact Option.some.inj h)
theorem laws_FnCouples.j3_no (k : Nat) (y0 : List Int) (y1 : Int) (y2 : Bool) (y3 : List Int) (y4 : Bool) (y5 : List Int) (y6 : Bool) (r : Bool) (h : laws_FnCouples.j3 k y0 y1 y2 y3 y4 y5 y6 true = some r) : false = r := by
  cases k with
  | zero => exact absurd h (by simp [laws_FnCouples.j3])
  | succ k => simp only [laws_FnCouples.j3] at h; first | (rw [if_pos rfl] at h; exact Option.some.inj h) | (rw [if_pos trivial] at h; exact Option.some.inj h)
theorem laws_FnCouples.j4_no (k : Nat) (y0 : List Int) (y1 : Int) (y2 : Bool) (y3 : List Int) (y4 : Bool) (y5 : List Int) (y6 : Bool) (y7 : Int) (y8 : Bool) (y9 : List Int) (y10 : Bool) (y11 : Bool) (r : Bool) (h : laws_FnCouples.j4 k y0 y1 y2 y3 y4 y5 y6 y7 y8 y9 y10 y11 true = some r) : false = r := by
  cases k with
  | zero => exact absurd h (by simp [laws_FnCouples.j4])
  | succ k => simp only [laws_FnCouples.j4] at h; first | (rw [if_pos rfl] at h; exact Option.some.inj h) | (rw [if_pos trivial] at h; exact Option.some.inj h)
theorem laws_FnCouples.j5_no (k : Nat) (y0 : List Int) (y1 : Int) (y2 : Bool) (y3 : List Int) (y4 : Bool) (y5 : List Int) (y6 : Bool) (y7 : Int) (y8 : Bool) (y9 : Int) (y10 : Bool) (r : Bool) (h : laws_FnCouples.j5 k y0 y1 y2 y3 y4 y5 y6 y7 y8 y9 y10 true = some r) : false = r := by
  cases k with
  | zero => exact absurd h (by simp [laws_FnCouples.j5])
  | succ k => simp only [laws_FnCouples.j5] at h; first | (rw [if_pos rfl] at h; exact Option.some.inj h) | (rw [if_pos trivial] at h; exact Option.some.inj h)
theorem laws_FnCouples.j6_no (k : Nat) (y0 : Int) (y1 : Bool) (y2 : List Int) (y3 : Bool) (y4 : List Int) (y5 : Bool) (y6 : Int) (y7 : Bool) (y8 : Int) (y9 : Bool) (y10 : Int) (y11 : List Int) (y12 : List Int) (y13 : Bool) (r : Bool) (h : laws_FnCouples.j6 k y0 y1 y2 y3 y4 y5 y6 y7 y8 y9 y10 y11 y12 y13 true = some r) : false = r := by
  cases k with
  | zero => exact absurd h (by simp [laws_FnCouples.j6])
  | succ k => simp only [laws_FnCouples.j6] at h; first | (rw [if_pos rfl] at h; exact Option.some.inj h) | (rw [if_pos trivial] at h; exact Option.some.inj h)
theorem laws_FnCouples.j10_no (k : Nat) (y0 : Int) (y1 : Bool) (y2 : List Int) (y3 : List Int) (y4 : Bool) (r : Bool) (h : laws_FnCouples.j10 k y0 y1 y2 y3 y4 true = some r) : false = r := by
  cases k with
  | zero => exact absurd h (by simp [laws_FnCouples.j10])
  | succ k => simp only [laws_FnCouples.j10] at h; first | (rw [if_pos rfl] at h; exact Option.some.inj h) | (rw [if_pos trivial] at h; exact Option.some.inj h)
theorem laws_FnCouples.j11_no (k : Nat) (y0 : Int) (y1 : Bool) (y2 : List Int) (y3 : Bool) (r : Bool) (h : laws_FnCouples.j11 k y0 y1 y2 y3 true = some r) : false = r := by
  cases k with
  | zero => exact absurd h (by simp [laws_FnCouples.j11])
  | succ k => simp only [laws_FnCouples.j11] at h; first | (rw [if_pos rfl] at h; exact Option.some.inj h) | (rw [if_pos trivial] at h; exact Option.some.inj h)
end Go.Proofs.Ytaadhdlcdbaipaa.PFnCouples
