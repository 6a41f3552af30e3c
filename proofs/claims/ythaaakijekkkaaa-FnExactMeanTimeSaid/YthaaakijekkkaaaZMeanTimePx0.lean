/- Proved: each Go function named here, called, comes to the answer of the Lean function beside it. Conditions: those that stand in each theorem. (Printed by this session's own turned copy of a printing program.) -/
import Derived.Test.YthaaakijekkkaaaProg
import Derived.Below
import Derived.Deep.Draws
import Derived.Deep.AppendLies
import Derived.Maps.AppendAt
import Derived.OwnWalk
import Derived.Laws.BytesArg
import Derived.Laws.MakeOwn
import Derived.Laws.OwnMore
import Derived.Deep.OwnRows
import Derived.Tactics
import Derived.Lib.ConvBytes
import Derived.Laws.Slices
import Derived.WalkKit
import Derived.KernelRfl
import Derived.RowKit3
import Derived.Deep.LoopGhost
import Derived.Deep.QuietTactic
import Derived.BigQuiet
import Derived.WideLaws
import Derived.Deep.DeepCutAuto
import Derived.Deep.CutBlock
import Derived.Deep.RegionHeld3
import Derived.Laws.Rows
import Derived.Lib.AppendStr
import Derived.ArgAppend
import Derived.Laws.IdiomCopy
import Derived.OrdersHeld
import Derived.Laws.BitsLemmas
import Derived.RowKit
import Derived.Laws.EntriesVeiled
import Derived.OneCell
import Derived.Laws.Cover3
import Derived.Maps.Own
import Derived.Maps.OwnOps
import Derived.Maps.OwnSet
import Derived.Deep.DrawnRows
import Derived.Laws.CopyOwn
import Derived.Deep.DeepAppendRoom
import Derived.Deep.DeepAppendWide
import Derived.Test.YthaaakijekkkaaaZMeanTimeWWords
import Derived.Test.YthaaakijekkkaaaZMeanTimeWLast
import Derived.Test.YthaaakijekkkaaaZMeanTimeWTab
import Derived.Test.YthaaakijekkkaaaZMeanTimeWFour
import Derived.Test.YthaaakijekkkaaaZMeanTimeWQPut
import Derived.Test.YthaaakijekkkaaaZMeanTimeWApart
import Derived.Test.YthaaakijekkkaaaZMeanTimeWArr
import Derived.Test.YthaaakijekkkaaaZMeanTimeWZeros
import Derived.Test.YthaaakijekkkaaaZMeanTimeWFoot
import Derived.Test.YthaaakijekkkaaaZMeanTimeWKept
import Derived.Test.YthaaakijekkkaaaZMeanTimeWShare
import Derived.Test.YthaaakijekkkaaaZMeanTimeWN
import Derived.Test.YthaaakijekkkaaaZMeanTimeWFootNe
import Derived.Test.YthaaakijekkkaaaZMeanTimeWAt
import Derived.Test.YthaaakijekkkaaaZMeanTimeWEqStruct
import Derived.Test.YthaaakijekkkaaaZMeanTimeWRepsOne
import Derived.Test.YthaaakijekkkaaaZMeanTimeWInv
import Derived.Test.YthaaakijekkkaaaZMeanTimeWInvWords
import Derived.Test.YthaaakijekkkaaaZMeanTimeWGuard
import Derived.Test.YthaaakijekkkaaaZMeanTimeWNEv
import Derived.Test.YthaaakijekkkaaaZMeanTimeWMore
namespace Go.Proofs.Ythaaakijekkkaaa.PFnExactMeanTime
open Go.RowKit Go.Proofs.YthaaakijekkkaaaW.PrintWords Go.Proofs.YthaaakijekkkaaaW.PrintLast Go.Proofs.YthaaakijekkkaaaW.PrintMore
attribute [local go_sem] max2_int min2_int max_two min_two max_three min_three max_four min_four   -- for this text's walks alone
set_option linter.unusedVariables false
set_option linter.unusedSimpArgs false



def errW : Option Int → Value
  | none => .nilIface
  | some c => .iface 0 (.int .i64 c)
theorem errW_none : errW none = .nilIface := rfl
theorem errW_some (c : Int) : errW (some c) = .iface 0 (.int .i64 c) := rfl

theorem info3 : (Try.prog.info? 3).map (fun i => (i.zero, i.size, i.bytes)) = some (some (.int .i64 0), 1, 8) := by kernel_rfl
theorem info24 : (Try.prog.info? 24).map (fun i => (i.zero, i.size, i.bytes)) = some (some (.slice none 0 0), 1, 24) := by kernel_rfl
-- the values' own types
def rd_L1 (xs : List (List Int)) (i : Int) : (List Int) := xs.getD i.toNat ([] : List Int)
theorem at_L1 {w : World} {A : Option Addr} {n : Nat} {xs : List (List Int)} (h : Kd.C (Kd.slice 3 (Kd.int .i64)) w A n xs) (i : Int) (h0 : 0 ≤ i) (h1 : i < n) : ∃ ad A0 c0, A = some ad ∧ w.cell? (ad.add i.toNat) = some (.slice A0 (rd_L1 xs i).length c0) ∧ (rd_L1 xs i).length ≤ c0 ∧ (Kd.int .i64).C w A0 (rd_L1 xs i).length (rd_L1 xs i) := by
  obtain ⟨ad, c, e, _, hK, hc0⟩ := Kd.C_get h ([] : List Int) i h0 h1
  have hc : ∀ j u, c[j]? = some u → w.cell? (ad.add (i.toNat * 1 + j)) = some u := hc0
  obtain ⟨A0, c0, rfl, l0, g0⟩ := hK
  exact ⟨ad, A0, c0, e, by have hq := hc 0 _ rfl; rwa [Nat.mul_one, Nat.add_zero] at hq, l0, g0⟩

/-! #### struct type 40 -/
structure S40 where
  f0 : Int
  f1 : Int
theorem eqArr40 (d : Nat) (w : World) (x0 y0 x1 y1 : Int) :
    (Op.equalIn (d + 2) 40 (.agg #[.int .i64 x0, .int .i64 x1]) (.agg #[.int .i64 y0, .int .i64 y1])).run Try.prog w = .ok (x0 == y0 && x1 == y1) w := by
  obtain ⟨i, hi⟩ : ∃ i, Try.prog.info? 3 = some i := Option.isSome_iff_exists.mp (by kernel_rfl)
  have hc : Try.prog.cellsOf 3 = 1 := by kernel_rfl
  have e1 : (Op.equalIn (d + 1) 3 (.int .i64 x0) (.int .i64 y0)).run Try.prog w = .ok (x0 == y0) w := by go_simp
  have e2 : (Op.equalIn (d + 1) 3 (.int .i64 x1) (.int .i64 y1)).run Try.prog w = .ok (x1 == y1) w := by go_simp
  have p1 : ∀ a b : Value, (part 3 #[a, b] 0).run Try.prog w = .ok a w := fun a b => by go_simp
  have p2 : ∀ a b : Value, (part 3 #[a, b] 1).run Try.prog w = .ok b w := fun a b => by go_simp
  generalize (x0 == y0) = p at e1 ⊢
  generalize (x1 == y1) = q at e2 ⊢
  rw [run_equalIn_array (P := Try.prog) w (d + 1) _ _ Try.underlying40 hi, hc]
  show (Op.eqItems (d + 1) 3 1 _ _ [0, 1]).run Try.prog w = _
  simp only [Op.eqItems, Sem.run_bind, Nat.zero_mul, Nat.one_mul, p1, p2, e1, e2, Result.andThen_ok]
  cases p <;> cases q <;> simp [p2, e2]

end Go.Proofs.Ythaaakijekkkaaa.PFnExactMeanTime
