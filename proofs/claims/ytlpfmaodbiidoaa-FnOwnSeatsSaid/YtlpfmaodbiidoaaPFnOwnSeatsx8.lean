/- Proved: each Go function named here, called, comes to the answer of the Lean function beside it. Conditions: those that stand in each theorem. (Printed by this session's own turned copy of a printing program.) -/
import Derived.Test.YtlpfmaodbiidoaaPFnOwnSeatsx0
import Derived.Test.YtlpfmaodbiidoaaPFnOwnSeatsx1
import Derived.Test.YtlpfmaodbiidoaaPFnOwnSeatsx2
import Derived.Test.YtlpfmaodbiidoaaPFnOwnSeatsx5
import Derived.Test.YtlpfmaodbiidoaaPFnOwnSeatsx6
import Derived.Test.YtlpfmaodbiidoaaPFnOwnSeatsx7
namespace Go.Proofs.Ytlpfmaodbiidoaa.PFnOwnSeats
open Go.RowKit Go.Proofs.YtlpfmaodbiidoaaW.PrintWords Go.Proofs.YtlpfmaodbiidoaaW.PrintLast Go.Proofs.YtlpfmaodbiidoaaW.PrintMore
attribute [local go_sem] max2_int min2_int max_two min_two max_three min_three max_four min_four   -- for this text's walks alone
set_option linter.unusedVariables false
set_option linter.unusedSimpArgs false

attribute [local go_sem high] eqArr32
/-! ### laws_FnOwnSeats: function 3 -/
mutual
def laws_FnOwnSeats.j0 : Nat → Int → Int → List (S32) → Bool → Int → Int → List (S32) → Bool → Bool → Int → Int → Option (Bool)
  | 0, _, _, _, _, _, _, _, _, _, _, _ => none
  | k + 1, x3, x4, x5, x6, x9, x10, x20, x21, x150, x399000, x399001 => if x150 = true then (some false) else (if x21 = true then (laws_FnOwnSeats.l0 k x3 x4 x5 x6 x9 x10 x20 0 x399000 x399001 0 1) else (laws_FnOwnSeats.j4 k x3 x4 x5 x6))
def laws_FnOwnSeats.j4 : Nat → Int → Int → List (S32) → Bool → Option (Bool)
  | 0, _, _, _, _ => none
  | k + 1, x3, x4, x5, x6 => laws_FnOwnSeats.l2 k x3 x4 x5 x6 0
def laws_FnOwnSeats.l2 : Nat → Int → Int → List (S32) → Bool → Int → Option (Bool)
  | 0, _, _, _, _, _ => none
  | k + 1, x3, x4, x5, x6, x32 => if x6 = true then (laws_FnOwnSeats.j6 k x3 x4 x5 x6 x32 (decide (x32 < x3))) else (laws_FnOwnSeats.j6 k x3 x4 x5 x6 x32 false)
def laws_FnOwnSeats.j6 : Nat → Int → Int → List (S32) → Bool → Int → Bool → Option (Bool)
  | 0, _, _, _, _, _, _ => none
  | k + 1, x3, x4, x5, x6, x32, x215 => if x215 = true then ((impl_OwnChance.f k x3 x4 x32).bind fun bt429 => (if bt429.2.2 = true then (if 0 ≤ x32 then (if x32 < (x5.length : Int) then (if bt429.1 = ((rd_T32 x5 x32).f0) then (if bt429.2.1 = ((rd_T32 x5 x32).f1) then (laws_FnOwnSeats.l2 k x3 x4 x5 x6 (wrap64 (x32 + 1))) else (some false)) else (some false)) else (none)) else (none)) else (some false))) else (some true)
def laws_FnOwnSeats.l0 : Nat → Int → Int → List (S32) → Bool → Int → Int → List (S32) → Int → Int → Int → Int → Int → Option (Bool)
  | 0, _, _, _, _, _, _, _, _, _, _, _, _ => none
  | k + 1, x3, x4, x5, x6, x9, x10, x20, x25, x399000, x399001, x414000, x414001 => if x25 < x9 then (if 0 ≤ x25 then (if x25 < (x20.length : Int) then ((laws_vPlus.f k x414000 x414001 ((rd_T32 x20 x25).f0) ((rd_T32 x20 x25).f1)).bind fun bt415 => (laws_FnOwnSeats.l0 k x3 x4 x5 x6 x9 x10 x20 (wrap64 (x25 + 1)) x399000 x399001 bt415.1 bt415.2)) else (none)) else (none)) else ((impl_OwnChance.f k x9 x10 (wrap64 (x9 - 1))).bind fun bt417 => (if bt417.2.2 = true then (if x414000 = 1 then (if x414001 = 1 then (if 0 ≤ (wrap64 (x9 - 1)) then (if (wrap64 (x9 - 1)) < (x20.length : Int) then (if ((rd_T32 x20 (wrap64 (x9 - 1))).f0) = bt417.1 then (if ((rd_T32 x20 (wrap64 (x9 - 1))).f1) = bt417.2.1 then (laws_FnOwnSeats.j2 k x3 x4 x5 x6 x9 x10 false x399000 x399001) else (laws_FnOwnSeats.j2 k x3 x4 x5 x6 x9 x10 true x399000 x399001)) else (laws_FnOwnSeats.j2 k x3 x4 x5 x6 x9 x10 true x399000 x399001)) else (none)) else (none)) else (laws_FnOwnSeats.j2 k x3 x4 x5 x6 x9 x10 true x399000 x399001)) else (laws_FnOwnSeats.j2 k x3 x4 x5 x6 x9 x10 true x399000 x399001)) else (laws_FnOwnSeats.j2 k x3 x4 x5 x6 x9 x10 true x399000 x399001)))
def laws_FnOwnSeats.j2 : Nat → Int → Int → List (S32) → Bool → Int → Int → Bool → Int → Int → Option (Bool)
  | 0, _, _, _, _, _, _, _, _, _ => none
  | k + 1, x3, x4, x5, x6, x9, x10, x187, x399000, x399001 => if x187 = true then (some false) else (laws_FnOwnSeats.l1 k x3 x4 x5 x6 x9 x10 0 x399000 x399001)
def laws_FnOwnSeats.l1 : Nat → Int → Int → List (S32) → Bool → Int → Int → Int → Int → Int → Option (Bool)
  | 0, _, _, _, _, _, _, _, _, _ => none
  | k + 1, x3, x4, x5, x6, x9, x10, x29, x423000, x423001 => if x29 < x9 then ((impl_OwnChance.f k x9 x10 x29).bind fun bt423 => (if bt423.2.2 = true then ((laws_vPlus.f k x423000 x423001 bt423.1 bt423.2.1).bind fun bt427 => (laws_FnOwnSeats.l1 k x3 x4 x5 x6 x9 x10 (wrap64 (x29 + 1)) bt427.1 bt427.2)) else (some false))) else (if x423000 = x9 then (if x423001 = 1 then (laws_FnOwnSeats.j4 k x3 x4 x5 x6) else (some false)) else (some false))
end
def laws_FnOwnSeats.f (k : Nat) (l0 : List Int) : Option (Bool) := (laws_vBig.f l0).bind fun t370 => (if t370 = true then (some true) else ((spec_DrawOwnTable.f l0).bind fun bt371 => ((impl_OwnTable.f k bt371.1 bt371.2).bind fun bt373 => ((spec_OwnTable.f k bt371.1 bt371.2).bind fun bt377 => ((laws_vCut.f l0 1).bind fun t381 => ((spec_DrawOwnChance.f t381).bind fun bt384 => ((impl_OwnChance.f k bt384.1 bt384.2.1 bt384.2.2).bind fun bt387 => ((spec_OwnChance.f k bt384.1 bt384.2.1 bt384.2.2).bind fun bt391 => ((impl_WrongMean.f k bt384.1 bt384.2.1).bind fun bt395 => ((spec_WrongMean.f k bt384.1 bt384.2.1).bind fun bt399 => ((impl_LastSeats.f k bt384.1 bt384.2.1).bind fun bt403 => ((spec_LastSeats.f k bt384.1 bt384.2.1).bind fun bt407 => (if (bt373.2 != bt377.2) = true then (laws_FnOwnSeats.j0 k bt371.1 bt371.2 bt373.1 bt373.2 bt384.1 bt384.2.1 bt403.1 bt403.2 true bt395.1 bt395.2.1) else ((laws_vPairs.f k bt373.1 bt377.1).bind fun t411 => (if t411 = true then (if bt387.1 = bt391.1 then (if bt387.2.1 = bt391.2.1 then (if (bt387.2.2 != bt391.2.2) = true then (laws_FnOwnSeats.j0 k bt371.1 bt371.2 bt373.1 bt373.2 bt384.1 bt384.2.1 bt403.1 bt403.2 true bt395.1 bt395.2.1) else (if bt395.1 = bt399.1 then (if bt395.2.1 = bt399.2.1 then (if (bt395.2.2 != bt399.2.2) = true then (laws_FnOwnSeats.j0 k bt371.1 bt371.2 bt373.1 bt373.2 bt384.1 bt384.2.1 bt403.1 bt403.2 true bt395.1 bt395.2.1) else (if (bt403.2 != bt407.2) = true then (laws_FnOwnSeats.j0 k bt371.1 bt371.2 bt373.1 bt373.2 bt384.1 bt384.2.1 bt403.1 bt403.2 true bt395.1 bt395.2.1) else ((laws_vPairs.f k bt403.1 bt407.1).bind fun t412 => (if t412 = true then (if (bt395.2.2 != bt403.2) = true then (laws_FnOwnSeats.j0 k bt371.1 bt371.2 bt373.1 bt373.2 bt384.1 bt384.2.1 bt403.1 bt403.2 true bt395.1 bt395.2.1) else (if bt387.2.2 = true then (laws_FnOwnSeats.j0 k bt371.1 bt371.2 bt373.1 bt373.2 bt384.1 bt384.2.1 bt403.1 bt403.2 (!bt395.2.2) bt395.1 bt395.2.1) else (laws_FnOwnSeats.j0 k bt371.1 bt371.2 bt373.1 bt373.2 bt384.1 bt384.2.1 bt403.1 bt403.2 false bt395.1 bt395.2.1))) else (laws_FnOwnSeats.j0 k bt371.1 bt371.2 bt373.1 bt373.2 bt384.1 bt384.2.1 bt403.1 bt403.2 true bt395.1 bt395.2.1))))) else (laws_FnOwnSeats.j0 k bt371.1 bt371.2 bt373.1 bt373.2 bt384.1 bt384.2.1 bt403.1 bt403.2 true bt395.1 bt395.2.1)) else (laws_FnOwnSeats.j0 k bt371.1 bt371.2 bt373.1 bt373.2 bt384.1 bt384.2.1 bt403.1 bt403.2 true bt395.1 bt395.2.1))) else (laws_FnOwnSeats.j0 k bt371.1 bt371.2 bt373.1 bt373.2 bt384.1 bt384.2.1 bt403.1 bt403.2 true bt395.1 bt395.2.1)) else (laws_FnOwnSeats.j0 k bt371.1 bt371.2 bt373.1 bt373.2 bt384.1 bt384.2.1 bt403.1 bt403.2 true bt395.1 bt395.2.1)) else (laws_FnOwnSeats.j0 k bt371.1 bt371.2 bt373.1 bt373.2 bt384.1 bt384.2.1 bt403.1 bt403.2 true bt395.1 bt395.2.1))))))))))))))))
theorem laws_FnOwnSeats.mono_l : ∀ k, (∀ y0 y1 y2 y3 y4 y5 y6 y7 y8 y9 y10, LeO (laws_FnOwnSeats.j0 k y0 y1 y2 y3 y4 y5 y6 y7 y8 y9 y10) (laws_FnOwnSeats.j0 (k + 1) y0 y1 y2 y3 y4 y5 y6 y7 y8 y9 y10)) ∧ (∀ y0 y1 y2 y3, LeO (laws_FnOwnSeats.j4 k y0 y1 y2 y3) (laws_FnOwnSeats.j4 (k + 1) y0 y1 y2 y3)) ∧ (∀ y0 y1 y2 y3 y4, LeO (laws_FnOwnSeats.l2 k y0 y1 y2 y3 y4) (laws_FnOwnSeats.l2 (k + 1) y0 y1 y2 y3 y4)) ∧ (∀ y0 y1 y2 y3 y4 y5, LeO (laws_FnOwnSeats.j6 k y0 y1 y2 y3 y4 y5) (laws_FnOwnSeats.j6 (k + 1) y0 y1 y2 y3 y4 y5)) ∧ (∀ y0 y1 y2 y3 y4 y5 y6 y7 y8 y9 y10 y11, LeO (laws_FnOwnSeats.l0 k y0 y1 y2 y3 y4 y5 y6 y7 y8 y9 y10 y11) (laws_FnOwnSeats.l0 (k + 1) y0 y1 y2 y3 y4 y5 y6 y7 y8 y9 y10 y11)) ∧ (∀ y0 y1 y2 y3 y4 y5 y6 y7 y8, LeO (laws_FnOwnSeats.j2 k y0 y1 y2 y3 y4 y5 y6 y7 y8) (laws_FnOwnSeats.j2 (k + 1) y0 y1 y2 y3 y4 y5 y6 y7 y8)) ∧ (∀ y0 y1 y2 y3 y4 y5 y6 y7 y8, LeO (laws_FnOwnSeats.l1 k y0 y1 y2 y3 y4 y5 y6 y7 y8) (laws_FnOwnSeats.l1 (k + 1) y0 y1 y2 y3 y4 y5 y6 y7 y8))
  | 0 => ⟨fun _ _ _ _ _ _ _ _ _ _ _ r h => by simp [laws_FnOwnSeats.j0] at h, fun _ _ _ _ r h => by simp [laws_FnOwnSeats.j4] at h, fun _ _ _ _ _ r h => by simp [laws_FnOwnSeats.l2] at h, fun _ _ _ _ _ _ r h => by simp [laws_FnOwnSeats.j6] at h, fun _ _ _ _ _ _ _ _ _ _ _ _ r h => by simp [laws_FnOwnSeats.l0] at h, fun _ _ _ _ _ _ _ _ _ r h => by simp [laws_FnOwnSeats.j2] at h, fun _ _ _ _ _ _ _ _ _ r h => by simp [laws_FnOwnSeats.l1] at h⟩
  | k + 1 => by
    obtain ⟨ih0, ih1, ih2, ih3, ih4, ih5, ih6⟩ := laws_FnOwnSeats.mono_l k
    refine ⟨?_, ?_, ?_, ?_, ?_, ?_, ?_⟩
    · intro y0 y1 y2 y3 y4 y5 y6 y7 y8 y9 y10
      unfold laws_FnOwnSeats.j0
      repeat' first
      | (with_reducible exact ih0 _ _ _ _ _ _ _ _ _ _ _)
      | (with_reducible exact ih1 _ _ _ _)
      | (with_reducible exact ih2 _ _ _ _ _)
      | (with_reducible exact ih3 _ _ _ _ _ _)
      | (with_reducible exact ih4 _ _ _ _ _ _ _ _ _ _ _ _)
      | (with_reducible exact ih5 _ _ _ _ _ _ _ _ _)
      | (with_reducible exact ih6 _ _ _ _ _ _ _ _ _)
      | (with_reducible exact impl_LastSeats.mono _ _ _)
      | (with_reducible exact impl_OwnChance.mono _ _ _ _)
      | (with_reducible exact impl_OwnTable.mono _ _ _)
      | (with_reducible exact impl_WrongMean.mono _ _ _)
      | (with_reducible exact laws_vPairs.mono _ _ _)
      | (with_reducible exact laws_vPlus.mono _ _ _ _ _)
      | (with_reducible exact spec_LastSeats.mono _ _ _)
      | (with_reducible exact spec_OwnChance.mono _ _ _ _)
      | (with_reducible exact spec_OwnTable.mono _ _ _)
      | (with_reducible exact spec_WrongMean.mono _ _ _)
      | (with_reducible exact LeO.refl _)
      | (with_reducible exact LeO.none _)
      | (with_reducible refine LeO.ite ?_ ?_)
      | (with_reducible refine LeO.bind ?_ (fun _ => ?_))
      | exact ih0 _ _ _ _ _ _ _ _ _ _ _
      | exact ih1 _ _ _ _
      | exact ih2 _ _ _ _ _
      | exact ih3 _ _ _ _ _ _
      | exact ih4 _ _ _ _ _ _ _ _ _ _ _ _
      | exact ih5 _ _ _ _ _ _ _ _ _
      | exact ih6 _ _ _ _ _ _ _ _ _
      | exact impl_LastSeats.mono _ _ _
      | exact impl_OwnChance.mono _ _ _ _
      | exact impl_OwnTable.mono _ _ _
      | exact impl_WrongMean.mono _ _ _
      | exact laws_vPairs.mono _ _ _
      | exact laws_vPlus.mono _ _ _ _ _
      | exact spec_LastSeats.mono _ _ _
      | exact spec_OwnChance.mono _ _ _ _
      | exact spec_OwnTable.mono _ _ _
      | exact spec_WrongMean.mono _ _ _
      | exact LeO.none _
      | refine LeO.ite ?_ ?_
      | refine LeO.bind ?_ (fun _ => ?_)
    · intro y0 y1 y2 y3
      unfold laws_FnOwnSeats.j4
      repeat' first
      | (with_reducible exact ih0 _ _ _ _ _ _ _ _ _ _ _)
      | (with_reducible exact ih1 _ _ _ _)
      | (with_reducible exact ih2 _ _ _ _ _)
      | (with_reducible exact ih3 _ _ _ _ _ _)
      | (with_reducible exact ih4 _ _ _ _ _ _ _ _ _ _ _ _)
      | (with_reducible exact ih5 _ _ _ _ _ _ _ _ _)
      | (with_reducible exact ih6 _ _ _ _ _ _ _ _ _)
      | (with_reducible exact impl_LastSeats.mono _ _ _)
      | (with_reducible exact impl_OwnChance.mono _ _ _ _)
      | (with_reducible exact impl_OwnTable.mono _ _ _)
      | (with_reducible exact impl_WrongMean.mono _ _ _)
      | (with_reducible exact laws_vPairs.mono _ _ _)
      | (with_reducible exact laws_vPlus.mono _ _ _ _ _)
      | (with_reducible exact spec_LastSeats.mono _ _ _)
      | (with_reducible exact spec_OwnChance.mono _ _ _ _)
      | (with_reducible exact spec_OwnTable.mono _ _ _)
      | (with_reducible exact spec_WrongMean.mono _ _ _)
      | (with_reducible exact LeO.refl _)
      | (with_reducible exact LeO.none _)
      | (with_reducible refine LeO.ite ?_ ?_)
      | (with_reducible refine LeO.bind ?_ (fun _ => ?_))
      | exact ih0 _ _ _ _ _ _ _ _ _ _ _
      | exact ih1 _ _ _ _
      | exact ih2 _ _ _ _ _
      | exact ih3 _ _ _ _ _ _
      | exact ih4 _ _ _ _ _ _ _ _ _ _ _ _
      | exact ih5 _ _ _ _ _ _ _ _ _
      | exact ih6 _ _ _ _ _ _ _ _ _
      | exact impl_LastSeats.mono _ _ _
      | exact impl_OwnChance.mono _ _ _ _
      | exact impl_OwnTable.mono _ _ _
      | exact impl_WrongMean.mono _ _ _
      | exact laws_vPairs.mono _ _ _
      | exact laws_vPlus.mono _ _ _ _ _
      | exact spec_LastSeats.mono _ _ _
      | exact spec_OwnChance.mono _ _ _ _
      | exact spec_OwnTable.mono _ _ _
      | exact spec_WrongMean.mono _ _ _
      | exact LeO.none _
      | refine LeO.ite ?_ ?_
      | refine LeO.bind ?_ (fun _ => ?_)
    · intro y0 y1 y2 y3 y4
      unfold laws_FnOwnSeats.l2
      repeat' first
      | (with_reducible exact ih0 _ _ _ _ _ _ _ _ _ _ _)
      | (with_reducible exact ih1 _ _ _ _)
      | (with_reducible exact ih2 _ _ _ _ _)
      | (with_reducible exact ih3 _ _ _ _ _ _)
      | (with_reducible exact ih4 _ _ _ _ _ _ _ _ _ _ _ _)
      | (with_reducible exact ih5 _ _ _ _ _ _ _ _ _)
      | (with_reducible exact ih6 _ _ _ _ _ _ _ _ _)
      | (with_reducible exact impl_LastSeats.mono _ _ _)
      | (with_reducible exact impl_OwnChance.mono _ _ _ _)
      | (with_reducible exact impl_OwnTable.mono _ _ _)
      | (with_reducible exact impl_WrongMean.mono _ _ _)
      | (with_reducible exact laws_vPairs.mono _ _ _)
      | (with_reducible exact laws_vPlus.mono _ _ _ _ _)
      | (with_reducible exact spec_LastSeats.mono _ _ _)
      | (with_reducible exact spec_OwnChance.mono _ _ _ _)
      | (with_reducible exact spec_OwnTable.mono _ _ _)
      | (with_reducible exact spec_WrongMean.mono _ _ _)
      | (with_reducible exact LeO.refl _)
      | (with_reducible exact LeO.none _)
      | (with_reducible refine LeO.ite ?_ ?_)
      | (with_reducible refine LeO.bind ?_ (fun _ => ?_))
      | exact ih0 _ _ _ _ _ _ _ _ _ _ _
      | exact ih1 _ _ _ _
      | exact ih2 _ _ _ _ _
      | exact ih3 _ _ _ _ _ _
      | exact ih4 _ _ _ _ _ _ _ _ _ _ _ _
      | exact ih5 _ _ _ _ _ _ _ _ _
      | exact ih6 _ _ _ _ _ _ _ _ _
      | exact impl_LastSeats.mono _ _ _
      | exact impl_OwnChance.mono _ _ _ _
      | exact impl_OwnTable.mono _ _ _
      | exact impl_WrongMean.mono _ _ _
      | exact laws_vPairs.mono _ _ _
      | exact laws_vPlus.mono _ _ _ _ _
      | exact spec_LastSeats.mono _ _ _
      | exact spec_OwnChance.mono _ _ _ _
      | exact spec_OwnTable.mono _ _ _
      | exact spec_WrongMean.mono _ _ _
      | exact LeO.none _
      | refine LeO.ite ?_ ?_
      | refine LeO.bind ?_ (fun _ => ?_)
    · intro y0 y1 y2 y3 y4 y5
      unfold laws_FnOwnSeats.j6
      repeat' first
      | (with_reducible exact ih0 _ _ _ _ _ _ _ _ _ _ _)
      | (with_reducible exact ih1 _ _ _ _)
      | (with_reducible exact ih2 _ _ _ _ _)
      | (with_reducible exact ih3 _ _ _ _ _ _)
      | (with_reducible exact ih4 _ _ _ _ _ _ _ _ _ _ _ _)
      | (with_reducible exact ih5 _ _ _ _ _ _ _ _ _)
      | (with_reducible exact ih6 _ _ _ _ _ _ _ _ _)
      | (with_reducible exact impl_LastSeats.mono _ _ _)
      | (with_reducible exact impl_OwnChance.mono _ _ _ _)
      | (with_reducible exact impl_OwnTable.mono _ _ _)
      | (with_reducible exact impl_WrongMean.mono _ _ _)
      | (with_reducible exact laws_vPairs.mono _ _ _)
      | (with_reducible exact laws_vPlus.mono _ _ _ _ _)
      | (with_reducible exact spec_LastSeats.mono _ _ _)
      | (with_reducible exact spec_OwnChance.mono _ _ _ _)
      | (with_reducible exact spec_OwnTable.mono _ _ _)
      | (with_reducible exact spec_WrongMean.mono _ _ _)
      | (with_reducible exact LeO.refl _)
      | (with_reducible exact LeO.none _)
      | (with_reducible refine LeO.ite ?_ ?_)
      | (with_reducible refine LeO.bind ?_ (fun _ => ?_))
      | exact ih0 _ _ _ _ _ _ _ _ _ _ _
      | exact ih1 _ _ _ _
      | exact ih2 _ _ _ _ _
      | exact ih3 _ _ _ _ _ _
      | exact ih4 _ _ _ _ _ _ _ _ _ _ _ _
      | exact ih5 _ _ _ _ _ _ _ _ _
      | exact ih6 _ _ _ _ _ _ _ _ _
      | exact impl_LastSeats.mono _ _ _
      | exact impl_OwnChance.mono _ _ _ _
      | exact impl_OwnTable.mono _ _ _
      | exact impl_WrongMean.mono _ _ _
      | exact laws_vPairs.mono _ _ _
      | exact laws_vPlus.mono _ _ _ _ _
      | exact spec_LastSeats.mono _ _ _
      | exact spec_OwnChance.mono _ _ _ _
      | exact spec_OwnTable.mono _ _ _
      | exact spec_WrongMean.mono _ _ _
      | exact LeO.none _
      | refine LeO.ite ?_ ?_
      | refine LeO.bind ?_ (fun _ => ?_)
    · intro y0 y1 y2 y3 y4 y5 y6 y7 y8 y9 y10 y11
      unfold laws_FnOwnSeats.l0
      repeat' first
      | (with_reducible exact ih0 _ _ _ _ _ _ _ _ _ _ _)
      | (with_reducible exact ih1 _ _ _ _)
      | (with_reducible exact ih2 _ _ _ _ _)
      | (with_reducible exact ih3 _ _ _ _ _ _)
      | (with_reducible exact ih4 _ _ _ _ _ _ _ _ _ _ _ _)
      | (with_reducible exact ih5 _ _ _ _ _ _ _ _ _)
      | (with_reducible exact ih6 _ _ _ _ _ _ _ _ _)
      | (with_reducible exact impl_LastSeats.mono _ _ _)
      | (with_reducible exact impl_OwnChance.mono _ _ _ _)
      | (with_reducible exact impl_OwnTable.mono _ _ _)
      | (with_reducible exact impl_WrongMean.mono _ _ _)
      | (with_reducible exact laws_vPairs.mono _ _ _)
      | (with_reducible exact laws_vPlus.mono _ _ _ _ _)
      | (with_reducible exact spec_LastSeats.mono _ _ _)
      | (with_reducible exact spec_OwnChance.mono _ _ _ _)
      | (with_reducible exact spec_OwnTable.mono _ _ _)
      | (with_reducible exact spec_WrongMean.mono _ _ _)
      | (with_reducible exact LeO.refl _)
      | (with_reducible exact LeO.none _)
      | (with_reducible refine LeO.ite ?_ ?_)
      | (with_reducible refine LeO.bind ?_ (fun _ => ?_))
      | exact ih0 _ _ _ _ _ _ _ _ _ _ _
      | exact ih1 _ _ _ _
      | exact ih2 _ _ _ _ _
      | exact ih3 _ _ _ _ _ _
      | exact ih4 _ _ _ _ _ _ _ _ _ _ _ _
      | exact ih5 _ _ _ _ _ _ _ _ _
      | exact ih6 _ _ _ _ _ _ _ _ _
      | exact impl_LastSeats.mono _ _ _
      | exact impl_OwnChance.mono _ _ _ _
      | exact impl_OwnTable.mono _ _ _
      | exact impl_WrongMean.mono _ _ _
      | exact laws_vPairs.mono _ _ _
      | exact laws_vPlus.mono _ _ _ _ _
      | exact spec_LastSeats.mono _ _ _
      | exact spec_OwnChance.mono _ _ _ _
      | exact spec_OwnTable.mono _ _ _
      | exact spec_WrongMean.mono _ _ _
      | exact LeO.none _
      | refine LeO.ite ?_ ?_
      | refine LeO.bind ?_ (fun _ => ?_)
    · intro y0 y1 y2 y3 y4 y5 y6 y7 y8
      unfold laws_FnOwnSeats.j2
      repeat' first
      | (with_reducible exact ih0 _ _ _ _ _ _ _ _ _ _ _)
      | (with_reducible exact ih1 _ _ _ _)
      | (with_reducible exact ih2 _ _ _ _ _)
      | (with_reducible exact ih3 _ _ _ _ _ _)
      | (with_reducible exact ih4 _ _ _ _ _ _ _ _ _ _ _ _)
      | (with_reducible exact ih5 _ _ _ _ _ _ _ _ _)
      | (with_reducible exact ih6 _ _ _ _ _ _ _ _ _)
      | (with_reducible exact impl_LastSeats.mono _ _ _)
      | (with_reducible exact impl_OwnChance.mono _ _ _ _)
      | (with_reducible exact impl_OwnTable.mono _ _ _)
      | (with_reducible exact impl_WrongMean.mono _ _ _)
      | (with_reducible exact laws_vPairs.mono _ _ _)
      | (with_reducible exact laws_vPlus.mono _ _ _ _ _)
      | (with_reducible exact spec_LastSeats.mono _ _ _)
      | (with_reducible exact spec_OwnChance.mono _ _ _ _)
      | (with_reducible exact spec_OwnTable.mono _ _ _)
      | (with_reducible exact spec_WrongMean.mono _ _ _)
      | (with_reducible exact LeO.refl _)
      | (with_reducible exact LeO.none _)
      | (with_reducible refine LeO.ite ?_ ?_)
      | (with_reducible refine LeO.bind ?_ (fun _ => ?_))
      | exact ih0 _ _ _ _ _ _ _ _ _ _ _
      | exact ih1 _ _ _ _
      | exact ih2 _ _ _ _ _
      | exact ih3 _ _ _ _ _ _
      | exact ih4 _ _ _ _ _ _ _ _ _ _ _ _
      | exact ih5 _ _ _ _ _ _ _ _ _
      | exact ih6 _ _ _ _ _ _ _ _ _
      | exact impl_LastSeats.mono _ _ _
      | exact impl_OwnChance.mono _ _ _ _
      | exact impl_OwnTable.mono _ _ _
      | exact impl_WrongMean.mono _ _ _
      | exact laws_vPairs.mono _ _ _
      | exact laws_vPlus.mono _ _ _ _ _
      | exact spec_LastSeats.mono _ _ _
      | exact spec_OwnChance.mono _ _ _ _
      | exact spec_OwnTable.mono _ _ _
      | exact spec_WrongMean.mono _ _ _
      | exact LeO.none _
      | refine LeO.ite ?_ ?_
      | refine LeO.bind ?_ (fun _ => ?_)
    · intro y0 y1 y2 y3 y4 y5 y6 y7 y8
      unfold laws_FnOwnSeats.l1
      repeat' first
      | (with_reducible exact ih0 _ _ _ _ _ _ _ _ _ _ _)
      | (with_reducible exact ih1 _ _ _ _)
      | (with_reducible exact ih2 _ _ _ _ _)
      | (with_reducible exact ih3 _ _ _ _ _ _)
      | (with_reducible exact ih4 _ _ _ _ _ _ _ _ _ _ _ _)
      | (with_reducible exact ih5 _ _ _ _ _ _ _ _ _)
      | (with_reducible exact ih6 _ _ _ _ _ _ _ _ _)
      | (with_reducible exact impl_LastSeats.mono _ _ _)
      | (with_reducible exact impl_OwnChance.mono _ _ _ _)
      | (with_reducible exact impl_OwnTable.mono _ _ _)
      | (with_reducible exact impl_WrongMean.mono _ _ _)
      | (with_reducible exact laws_vPairs.mono _ _ _)
      | (with_reducible exact laws_vPlus.mono _ _ _ _ _)
      | (with_reducible exact spec_LastSeats.mono _ _ _)
      | (with_reducible exact spec_OwnChance.mono _ _ _ _)
      | (with_reducible exact spec_OwnTable.mono _ _ _)
      | (with_reducible exact spec_WrongMean.mono _ _ _)
      | (with_reducible exact LeO.refl _)
      | (with_reducible exact LeO.none _)
      | (with_reducible refine LeO.ite ?_ ?_)
      | (with_reducible refine LeO.bind ?_ (fun _ => ?_))
      | exact ih0 _ _ _ _ _ _ _ _ _ _ _
      | exact ih1 _ _ _ _
      | exact ih2 _ _ _ _ _
      | exact ih3 _ _ _ _ _ _
      | exact ih4 _ _ _ _ _ _ _ _ _ _ _ _
      | exact ih5 _ _ _ _ _ _ _ _ _
      | exact ih6 _ _ _ _ _ _ _ _ _
      | exact impl_LastSeats.mono _ _ _
      | exact impl_OwnChance.mono _ _ _ _
      | exact impl_OwnTable.mono _ _ _
      | exact impl_WrongMean.mono _ _ _
      | exact laws_vPairs.mono _ _ _
      | exact laws_vPlus.mono _ _ _ _ _
      | exact spec_LastSeats.mono _ _ _
      | exact spec_OwnChance.mono _ _ _ _
      | exact spec_OwnTable.mono _ _ _
      | exact spec_WrongMean.mono _ _ _
      | exact LeO.none _
      | refine LeO.ite ?_ ?_
      | refine LeO.bind ?_ (fun _ => ?_)
theorem laws_FnOwnSeats.mono : ∀ a0 k, LeO (laws_FnOwnSeats.f k a0) (laws_FnOwnSeats.f (k + 1) a0) := by
  intro a0 k
  obtain ⟨ih0, ih1, ih2, ih3, ih4, ih5, ih6⟩ := laws_FnOwnSeats.mono_l k
  unfold laws_FnOwnSeats.f
  repeat' first
      | (with_reducible exact ih0 _ _ _ _ _ _ _ _ _ _ _)
      | (with_reducible exact ih1 _ _ _ _)
      | (with_reducible exact ih2 _ _ _ _ _)
      | (with_reducible exact ih3 _ _ _ _ _ _)
      | (with_reducible exact ih4 _ _ _ _ _ _ _ _ _ _ _ _)
      | (with_reducible exact ih5 _ _ _ _ _ _ _ _ _)
      | (with_reducible exact ih6 _ _ _ _ _ _ _ _ _)
      | (with_reducible exact impl_LastSeats.mono _ _ _)
      | (with_reducible exact impl_OwnChance.mono _ _ _ _)
      | (with_reducible exact impl_OwnTable.mono _ _ _)
      | (with_reducible exact impl_WrongMean.mono _ _ _)
      | (with_reducible exact laws_vPairs.mono _ _ _)
      | (with_reducible exact laws_vPlus.mono _ _ _ _ _)
      | (with_reducible exact spec_LastSeats.mono _ _ _)
      | (with_reducible exact spec_OwnChance.mono _ _ _ _)
      | (with_reducible exact spec_OwnTable.mono _ _ _)
      | (with_reducible exact spec_WrongMean.mono _ _ _)
      | (with_reducible exact LeO.refl _)
      | (with_reducible exact LeO.none _)
      | (with_reducible refine LeO.ite ?_ ?_)
      | (with_reducible refine LeO.bind ?_ (fun _ => ?_))
      | exact ih0 _ _ _ _ _ _ _ _ _ _ _
      | exact ih1 _ _ _ _
      | exact ih2 _ _ _ _ _
      | exact ih3 _ _ _ _ _ _
      | exact ih4 _ _ _ _ _ _ _ _ _ _ _ _
      | exact ih5 _ _ _ _ _ _ _ _ _
      | exact ih6 _ _ _ _ _ _ _ _ _
      | exact impl_LastSeats.mono _ _ _
      | exact impl_OwnChance.mono _ _ _ _
      | exact impl_OwnTable.mono _ _ _
      | exact impl_WrongMean.mono _ _ _
      | exact laws_vPairs.mono _ _ _
      | exact laws_vPlus.mono _ _ _ _ _
      | exact spec_LastSeats.mono _ _ _
      | exact spec_OwnChance.mono _ _ _ _
      | exact spec_OwnTable.mono _ _ _
      | exact spec_WrongMean.mono _ _ _
      | exact LeO.none _
      | refine LeO.ite ?_ ?_
      | refine LeO.bind ?_ (fun _ => ?_)
theorem laws_FnOwnSeats.j0_no (k : Nat) (y0 : Int) (y1 : Int) (y2 : List (S32)) (y3 : Bool) (y4 : Int) (y5 : Int) (y6 : List (S32)) (y7 : Bool) (y9 : Int) (y10 : Int) (r : Bool) (h : laws_FnOwnSeats.j0 k y0 y1 y2 y3 y4 y5 y6 y7 true y9 y10 = some r) : false = r := by
  cases k with
  | zero => exact absurd h (by simp [laws_FnOwnSeats.j0])
  | succ k => simp only [laws_FnOwnSeats.j0] at h; first | (rw [if_pos rfl] at h; exact Option.some.inj h) | (rw [if_pos trivial] at h; exact Option.some.inj h)
theorem laws_FnOwnSeats.j2_no (k : Nat) (y0 : Int) (y1 : Int) (y2 : List (S32)) (y3 : Bool) (y4 : Int) (y5 : Int) (y7 : Int) (y8 : Int) (r : Bool) (h : laws_FnOwnSeats.j2 k y0 y1 y2 y3 y4 y5 true y7 y8 = some r) : false = r := by
  cases k with
  | zero => exact absurd h (by simp [laws_FnOwnSeats.j2])
  | succ k => simp only [laws_FnOwnSeats.j2] at h; first | (rw [if_pos rfl] at h; exact Option.some.inj h) | (rw [if_pos trivial] at h; exact Option.some.inj h)
def laws_FnOwnSeats.T22 : Bool × List (List Nat × List Nat) := (true, [([], []), ([0], [0]), ([1], [1]), ([2], [2]), ([2], [2]), ([3, 4, 2], [2, 3, 4]), ([2, 5], [2, 5]), ([6, 2], [6]), ([7], [7]), ([7], [7]), ([9, 7], [7, 9]), ([8, 10, 7], [7, 8, 10]), ([11, 7], [7, 11]), ([7], [7]), ([12, 13, 7], [7, 12, 13]), ([7, 14], [7, 14])])
def laws_FnOwnSeats.B22 : List Nat := [0, 1, 3, 7, 7, 31, 63, 127, 255, 255, 767, 2047, 4095, 255, 16383, 32767]
theorem laws_FnOwnSeats.tab22 : rtab .any (opsOf Try.f3 22) = laws_FnOwnSeats.T22 := by kernel_rfl
theorem laws_FnOwnSeats.bits22 : waitsOk laws_FnOwnSeats.T22.2 laws_FnOwnSeats.B22 = true := by kernel_rfl
def laws_FnOwnSeats.T38 : Bool × List (List Nat × List Nat) := (true, [([], []), ([0], [0]), ([1], [1]), ([2], [2]), ([2], [2]), ([2], [2]), ([4, 5, 2], [2, 4, 5]), ([6, 2], [2, 6]), ([3, 7, 2], [2, 3, 7]), ([2, 8], [2, 8])])
def laws_FnOwnSeats.B38 : List Nat := [0, 1, 3, 7, 7, 7, 55, 119, 255, 511]
theorem laws_FnOwnSeats.tab38 : rtab .any (opsOf Try.f3 38) = laws_FnOwnSeats.T38 := by kernel_rfl
theorem laws_FnOwnSeats.bits38 : waitsOk laws_FnOwnSeats.T38.2 laws_FnOwnSeats.B38 = true := by kernel_rfl
end Go.Proofs.Ytlpfmaodbiidoaa.PFnOwnSeats
