/- Proved: each Go function named here, called, comes to the answer of the Lean function beside it. Conditions: those that stand in each theorem. (Printed by this session's own turned copy of a printing program.) -/
import Derived.Test.YtnoipklaebadeaaDoorProg
import Derived.Below
import Derived.Deep.Draws
import Derived.Deep.AppendLies
import Derived.Maps.AppendAt
import Derived.OwnWalk
import Derived.Laws.BytesArg
import Derived.Laws.MakeOwn
import Derived.Laws.OwnMore
import Derived.Deep.OwnRows
import Derived.Tactics
import Derived.Lib.ConvBytes
import Derived.Laws.Slices
import Derived.WalkKit
import Derived.KernelRfl
import Derived.RowKit3
import Derived.Deep.LoopGhost
import Derived.Deep.QuietTactic
import Derived.BigQuiet
import Derived.WideLaws
import Derived.Deep.DeepCutAuto
import Derived.Deep.CutBlock
import Derived.Deep.RegionHeld3
import Derived.Laws.Rows
import Derived.Lib.AppendStr
import Derived.ArgAppend
import Derived.Laws.IdiomCopy
import Derived.OrdersHeld
import Derived.Laws.BitsLemmas
import Derived.RowKit
import Derived.Laws.EntriesVeiled
import Derived.OneCell
import Derived.Laws.Cover3
import Derived.Maps.Own
import Derived.Maps.OwnOps
import Derived.Maps.OwnSet
import Derived.DeepKeys4
import Derived.Deep.DrawnRows
import Derived.Laws.CopyOwn
import Derived.Deep.DeepAppendRoom
import Derived.Deep.DeepAppendWide
import Derived.Test.YtnoipklaebadeaaDoorZFnPlacingsWWords
import Derived.Test.YtnoipklaebadeaaDoorZFnPlacingsWLast
import Derived.Test.YtnoipklaebadeaaDoorZFnPlacingsWTab
import Derived.Test.YtnoipklaebadeaaDoorZFnPlacingsWFour
import Derived.Test.YtnoipklaebadeaaDoorZFnPlacingsWQPut
import Derived.Test.YtnoipklaebadeaaDoorZFnPlacingsWApart
import Derived.Test.YtnoipklaebadeaaDoorZFnPlacingsWArr
import Derived.Test.YtnoipklaebadeaaDoorZFnPlacingsWZeros
import Derived.Test.YtnoipklaebadeaaDoorZFnPlacingsWFoot
import Derived.Test.YtnoipklaebadeaaDoorZFnPlacingsWKept
import Derived.Test.YtnoipklaebadeaaDoorZFnPlacingsWShare
import Derived.Test.YtnoipklaebadeaaDoorZFnPlacingsWN
import Derived.Test.YtnoipklaebadeaaDoorZFnPlacingsWFootNe
import Derived.Test.YtnoipklaebadeaaDoorZFnPlacingsWAt
import Derived.Test.YtnoipklaebadeaaDoorZFnPlacingsWEqStruct
import Derived.Test.YtnoipklaebadeaaDoorZFnPlacingsWRepsOne
import Derived.Test.YtnoipklaebadeaaDoorZFnPlacingsWInv
import Derived.Test.YtnoipklaebadeaaDoorZFnPlacingsWInvWords
import Derived.Test.YtnoipklaebadeaaDoorZFnPlacingsWGuard
import Derived.Test.YtnoipklaebadeaaDoorZFnPlacingsWNEv
import Derived.Test.YtnoipklaebadeaaDoorZFnPlacingsWMore
namespace Go.Proofs.YtnoipklaebadeaaDoor.PFnPlacings
open Go.RowKit Go.Proofs.YtnoipklaebadeaaDoorW.PrintWords Go.Proofs.YtnoipklaebadeaaDoorW.PrintLast Go.Proofs.YtnoipklaebadeaaDoorW.PrintMore
attribute [local go_sem] max2_int min2_int max_two min_two max_three min_three max_four min_four   -- for this text's walks alone
set_option linter.unusedVariables false
set_option linter.unusedSimpArgs false



def errW : Option Int → Value
  | none => .nilIface
  | some c => .iface 0 (.int .i64 c)
theorem errW_none : errW none = .nilIface := rfl
theorem errW_some (c : Int) : errW (some c) = .iface 0 (.int .i64 c) := rfl

theorem info3 : (Tryd.prog.info? 3).map (fun i => (i.zero, i.size, i.bytes)) = some (some (.int .i64 0), 1, 8) := by kernel_rfl
theorem info5 : (Tryd.prog.info? 5).map (fun i => (i.zero, i.size, i.bytes)) = some (some (.int .u8 0), 1, 1) := by kernel_rfl
-- the values' own types
/-! #### struct type 26 -/
structure S26 where
  f0 : Int
  f1 : Bool
  f2 : (List Int)
def TZ : List Int := [0, 1, 28, 2, 29, 14, 24, 3, 30, 22, 20, 15, 25, 17, 4, 8, 31, 27, 13, 23, 21, 19, 16, 7, 26, 12, 18, 6, 11, 5, 10, 9]
/-- The library's table lies at its place. -/
def GT (w : World) : Prop := Kd.C (Kd.int .u8) w (some ⟨0, 0, none⟩) 32 TZ
theorem GT.below {w w1 : World} (h : GT w) (hb : Below w.heap.size w w1) : GT w1 := Kd.C_below h hb
theorem TZ_rd (i : Int) : wrap64 (rd TZ i) = rd TZ i := by
  have h : ∀ n : Nat, 0 ≤ TZ.getD n 0 ∧ TZ.getD n 0 < 32 := by
    intro n
    by_cases hn : n < 32
    · exact (by decide : ∀ m : Fin 32, 0 ≤ TZ.getD m.val 0 ∧ TZ.getD m.val 0 < 32) ⟨n, hn⟩
    · rw [List.getD_eq_getElem?_getD, List.getElem?_eq_none (by show 32 ≤ n; omega)]; decide
  have := h i.toNat
  unfold rd wrap64; omega
def tzi (a0 : Int) : Int := ((Go.bits .and .u32 a0 ((-a0) % 4294967296)) * 125613361 % 4294967296) / 134217728
def bits_TrailingZeros32.f (a0 : Int) : Option Int := if a0 = 0 then some 32 else (if 0 ≤ tzi a0 then (if tzi a0 < 32 then some (rd TZ (tzi a0)) else none) else none)
set_option maxHeartbeats 8000000 in
set_option maxRecDepth 100000 in
theorem bits_TrailingZeros32.calls (a0 : Int) (r : Int) (w : World) (hT : GT w) (h : bits_TrailingZeros32.f a0 = some r) :
    Calls Tryd.prog 58 #[.int .u32 a0] w fun e w' => e = .returned (.int .i64 r) ∧ Drawn0 w w' := by
  have hut := Tryd.underlying87
  unfold bits_TrailingZeros32.f at h
  by_cases c : a0 = 0
  · rw [if_pos c] at h
    have c1 : (a0 == 0) = true := beq_iff_eq.mpr c
    have c2 : (a0 != 0) = false := bne_eq_false_iff_eq.mpr c
    clear c
    obtain rfl := Option.some.inj h
    go_enter Tryd.func58, Tryd.ntmps58
    go_wp2
    go_ret
    exact ⟨by first | rfl | (simp; done) | (simp [*]; done), by repeat (first | exact Drawn0.refl _ | apply Drawn0.step)⟩
  · rw [if_neg c] at h
    have c1 : (a0 == 0) = false := beq_eq_false_iff_ne.mpr c
    have c2 : (a0 != 0) = true := bne_iff_ne.mpr c
    clear c
    by_cases h0 : 0 ≤ tzi a0
    · rw [if_pos h0] at h
      by_cases h1 : tzi a0 < 32
      · rw [if_pos h1] at h
        obtain rfl := Option.some.inj h
        obtain ⟨ad, e, hx⟩ := Kd.at_int hT (tzi a0) h0 h1
        obtain rfl : ad = ⟨0, 0, none⟩ := by injection e with e; exact e.symm
        unfold tzi at hx h0 h1 ⊢
        rw [show ∀ n : Nat, (⟨0, 0, none⟩ : Addr).add n = ⟨0, n, none⟩ from fun n => by unfold Addr.add; split <;> simp_all] at hx
        have hw := TZ_rd (((Go.bits .and .u32 a0 ((-a0) % 4294967296)) * 125613361 % 4294967296) / 134217728)
        go_enter Tryd.func58, Tryd.ntmps58
        go_wp2
        go_ret
        exact ⟨by first | rfl | (simp; done) | (simp [*]; done), by repeat (first | exact Drawn0.refl _ | apply Drawn0.step)⟩
      · rw [if_neg h1] at h; cases h
    · rw [if_neg h0] at h; cases h

end Go.Proofs.YtnoipklaebadeaaDoor.PFnPlacings
