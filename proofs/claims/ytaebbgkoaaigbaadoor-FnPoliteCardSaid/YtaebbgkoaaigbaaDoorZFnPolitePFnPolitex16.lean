import Derived.Test.YtaebbgkoaaigbaaDoorZFnPolitePFnPolitex0
import Derived.Test.YtaebbgkoaaigbaaDoorZFnPolitePFnPolitex1
import Derived.Test.YtaebbgkoaaigbaaDoorZFnPolitePFnPolitex2
import Derived.Test.YtaebbgkoaaigbaaDoorZFnPolitePFnPolitex3
import Derived.Test.YtaebbgkoaaigbaaDoorZFnPolitePFnPolitex4
import Derived.Test.YtaebbgkoaaigbaaDoorZFnPolitePFnPolitex5
import Derived.Test.YtaebbgkoaaigbaaDoorZFnPolitePFnPolitex6
import Derived.Test.YtaebbgkoaaigbaaDoorZFnPolitePFnPolitex7
import Derived.Test.YtaebbgkoaaigbaaDoorZFnPolitePFnPolitex8
import Derived.Test.YtaebbgkoaaigbaaDoorZFnPolitePFnPolitex9
import Derived.Test.YtaebbgkoaaigbaaDoorZFnPolitePFnPolitex10
import Derived.Test.YtaebbgkoaaigbaaDoorZFnPolitePFnPolitex11
import Derived.Test.YtaebbgkoaaigbaaDoorZFnPolitePFnPolitex12
import Derived.Test.YtaebbgkoaaigbaaDoorZFnPolitePFnPolitex13
import Derived.Test.YtaebbgkoaaigbaaDoorZFnPolitePFnPolitex14
import Derived.Test.YtaebbgkoaaigbaaDoorZFnPolitePFnPolitex15
namespace Go.Proofs.YtaebbgkoaaigbaaDoor.PFnPolite
open Go.RowKit Go.Proofs.YtaebbgkoaaigbaaDoorW.PrintWords Go.Proofs.YtaebbgkoaaigbaaDoorW.PrintLast Go.Proofs.YtaebbgkoaaigbaaDoorW.PrintMore
attribute [local go_sem] max2_int min2_int max_two min_two max_three min_three max_four min_four   -- for this text's walks alone
set_option linter.unusedVariables false
set_option linter.unusedSimpArgs false
/-- the inner round: no seat is farther than a polite one, and one as far is polite -/
def laws_FnPolite.l1 : Nat → List Int → List Int → Int → Int → Option Bool
 | 0, _, _, _, _ => none
 | k + 1, far, po, p, i => if i < (po.length : Int) then (if 0 ≤ i ∧ 0 ≤ p ∧ p < (far.length : Int) ∧ 0 ≤ rd po i ∧ rd po i < (far.length : Int) then (if rd far p > rd far (rd po i) then none else (if rd far p = rd far (rd po i) then ((laws_vHas.f k po p).bind fun h => if h = true then laws_FnPolite.l1 k far po p (wrap64 (i + 1)) else none) else laws_FnPolite.l1 k far po p (wrap64 (i + 1)))) else none) else some true
def laws_FnPolite.l0 : Nat → Int → List Int → List Int → Int → Option Bool
 | 0, _, _, _, _ => none
 | k + 1, s, far, po, p => if p < s then ((laws_FnPolite.l1 k far po p 0).bind fun _ => laws_FnPolite.l0 k s far po (wrap64 (p + 1))) else some true
/-- the newcomers, one by one -/
def laws_FnPolite.l2 : Nat → Int → Int → Bool → List Int → Int → List Int → Int → Option Bool
 | 0, _, _, _, _, _, _, _ => none
 | k + 1, s0, s, r, l, before, order, i => if i < (order.length : Int) then ((impl_FarnessOf.f k s r l).bind fun own => if own.2 = true ∧ 0 ≤ i ∧ 0 ≤ rd order i ∧ rd order i < (own.1.length : Int) ∧ ¬ (rd own.1 (rd order i) > before) ∧ ¬ (rd own.1 (rd order i) < 1) then ((impl_TakeSeat.f k s r l (rd order i)).bind fun m => if m.2.2.2 = true then laws_FnPolite.l2 k s0 m.1 m.2.1 m.2.2.1 (rd own.1 (rd order i)) order (wrap64 (i + 1)) else none) else none) else (if (l.length : Int) = s0 then some true else none)
/-- behind the comparisons, where the row is one -/
def laws_FnPolite.h (k : Nat) (s : Int) (r : Bool) (l far po : List Int) (next : Int) (there : Bool) (order : List Int) : Option Bool := (impl_FreeSeats.f k s r l).bind fun free => if free.2 = true ∧ order.length = free.1.length ∧ there = decide (0 < free.1.length) ∧ (there = true → 0 < po.length ∧ rd po 0 = next ∧ 0 < order.length ∧ rd order 0 = next) then ((laws_FnPolite.l0 k s far po 0).bind fun _ => laws_FnPolite.l2 k s s r l s order 0) else none
/-- the settled row, settled again -/
def laws_FnPolite.g (k : Nat) (lu : List Int) (t : Int × Bool × List Int × Int × Bool) : Option Bool := if t.2.2.2.2 = true then ((impl_LonelySeats.f k t.1 t.2.1 t.2.2.1).bind fun lo => (impl_SettleRow.f k t.1 t.2.1 t.2.2.1).bind fun ag => if lo.2 = true ∧ ag.2.2.2.2 = true ∧ lo.1.length = 0 ∧ ag.2.2.2.1 = 0 then ((laws_vRow.f k ag.1 ag.2.1 ag.2.2.1 t.1 t.2.1 t.2.2.1).bind fun e => if e = true ∧ (t.2.2.1.length : Int) = wrap64 ((lu.length : Int) + t.2.2.2.1) then some true else none) else none) else some true
def laws_FnPolite.f (k : Nat) (l0 : List Int) : Option Bool := (laws_vBig.f l0).bind fun big => if big = true then some true else
 ((spec_DrawFarnessOf.f k l0).bind fun r => (impl_FarnessOf.f k r.1 r.2.1 r.2.2).bind fun far => (spec_FarnessOf.f k r.1 r.2.1 r.2.2).bind fun far2 => (impl_PoliteSeats.f k r.1 r.2.1 r.2.2).bind fun po => (spec_PoliteSeats.f k r.1 r.2.1 r.2.2).bind fun po2 => (impl_NextPolite.f k r.1 r.2.1 r.2.2).bind fun ne => (spec_NextPolite.f k r.1 r.2.1 r.2.2).bind fun ne2 => (impl_PoliteOrder.f k r.1 r.2.1 r.2.2).bind fun od => (spec_PoliteOrder.f k r.1 r.2.1 r.2.2).bind fun od2 => (laws_vCut.f l0 1).bind fun c1 => (spec_DrawSettleRow.f k c1).bind fun u => (impl_SettleRow.f k u.1 u.2.1 u.2.2).bind fun t => (spec_SettleRow.f k u.1 u.2.1 u.2.2).bind fun t2 =>
  if far.2 = far2.2 ∧ po.2 = po2.2 ∧ ne = ne2 ∧ od.2 = od2.2 ∧ t.2.2.2.2 = t2.2.2.2.2 ∧ t.2.2.2.1 = t2.2.2.2.1 ∧ far.2 = po.2 ∧ far.2 = od.2 then
   ((laws_vInts.f k far.1 far2.1).bind fun e1 => (laws_vInts.f k po.1 po2.1).bind fun e2 => (laws_vInts.f k od.1 od2.1).bind fun e3 => (laws_vRow.f k t.1 t.2.1 t.2.2.1 t2.1 t2.2.1 t2.2.2.1).bind fun e4 => if e1 = true ∧ e2 = true ∧ e3 = true ∧ e4 = true then ((laws_FnPolite.g k u.2.2 t).bind fun _ => if far.2 = true then laws_FnPolite.h k r.1 r.2.1 r.2.2 far.1 po.1 ne.1 ne.2 od.1 else some true) else none) else none)
def laws_FnPolite.T33 : Bool × List (List Nat × List Nat) := (true, [([], []), ([], []), ([0, 1], [0, 1]), ([2], [2]), ([], []), ([], []), ([], []), ([5, 6], [5, 6]), ([7], [7]), ([4, 8], [4, 8]), ([9], [9]), ([3, 10], [3, 10]), ([11], [11]), ([12], [12]), ([12], [12]), ([13, 14, 12], [12, 13, 14]), ([15, 12], [12, 15]), ([12], [12]), ([12], [12]), ([12], [12]), ([18, 19, 12], [12, 18, 19]), ([20, 12], [12, 20]), ([17, 21, 12], [12, 17, 21]), ([22, 12], [12, 22]), ([16, 23, 12], [12, 16, 23]), ([24, 12, 12], [12, 24]), ([25], [25]), ([25], [25]), ([26, 27, 25, 25], [25, 26, 27]), ([28, 25], [25, 28]), ([25, 29, 12], [12, 25, 29]), ([12, 30], [12, 30])])
def laws_FnPolite.B33 : List Nat := [0, 0, 3, 7, 0, 0, 0, 96, 224, 496, 1008, 2047, 4095, 8191, 8191, 32767, 65535, 8191, 8191, 8191, 794623, 1843199, 4071423, 8265727, 16777215, 33554431, 67108863, 67108863, 268435455, 536870911, 1073741823, 2147483647]
theorem laws_FnPolite.tab33 : rtab .any (opsOf Tryd.f4 33) = laws_FnPolite.T33 := by kernel_rfl
theorem laws_FnPolite.bits33 : waitsOk laws_FnPolite.T33.2 laws_FnPolite.B33 = true := by kernel_rfl
def laws_FnPolite.T35 : Bool × List (List Nat × List Nat) := (true, [([], []), ([], []), ([1], [1]), ([], []), ([3, 0, 0, 3], [0, 3]), ([2, 4, 0, 1, 2, 3, 4], [2])])
def laws_FnPolite.B35 : List Nat := [0, 0, 2, 0, 9, 31]
theorem laws_FnPolite.tab35 : rtab .any (opsOf Tryd.f4 35) = laws_FnPolite.T35 := by kernel_rfl
theorem laws_FnPolite.bits35 : waitsOk laws_FnPolite.T35.2 laws_FnPolite.B35 = true := by kernel_rfl
def laws_FnPolite.T43 : Bool × List (List Nat × List Nat) := (true, [([], []), ([], []), ([], []), ([1, 2], [1, 2]), ([3], [3]), ([0, 4], [0, 4]), ([5], [5]), ([6], [6]), ([6], [6]), ([], []), ([9, 7, 5, 0, 1, 2, 3, 4, 5, 6, 7, 9], [7, 9]), ([8, 10, 0, 1, 2, 3, 4, 5, 6, 7, 8, 9, 10], [8])])
def laws_FnPolite.B43 : List Nat := [0, 0, 0, 6, 14, 31, 63, 127, 127, 0, 767, 2047]
theorem laws_FnPolite.tab43 : rtab .any (opsOf Tryd.f4 43) = laws_FnPolite.T43 := by kernel_rfl
theorem laws_FnPolite.bits43 : waitsOk laws_FnPolite.T43.2 laws_FnPolite.B43 = true := by kernel_rfl
theorem pol_cells {W : World} {g : Nat} {a b d : Value} (h : W.heap[g]? = some (.cells #[a, b, d] 26 (0, 0))) : W.cell? ⟨g, 0, none⟩ = some a ∧ W.cell? ⟨g, 1, none⟩ = some b ∧ W.cell? ⟨g, 2, none⟩ = some d := ⟨(blk_cell h 0).trans rfl, (blk_cell h 1).trans rfl, (blk_cell h 2).trans rfl⟩
theorem pol_V {W : World} {A : Option Addr} {xs : List Int} {c : Nat} (h : Kd.C (Kd.int .i64) W A xs.length xs) (hc : xs.length ≤ c) : Kd.V (Kd.int .i64) 3 W W.heap.size (fun k_ => k_ < W.heap.size) (.slice A xs.length c) xs := by
 refine Kd.V_mk hc (fun W' hW => ?_)
 have hs : W.heap.size ≤ W'.heap.size := by
  rcases Nat.eq_zero_or_pos W.heap.size with e | e
  ·omega
  ·have h1 := hW (W.heap.size - 1) (by omega) (by omega)
   rcases Nat.lt_or_ge (W.heap.size - 1) W'.heap.size with h2 | h2
   ·omega
   ·rw [Array.getElem?_eq_none h2, Array.getElem?_eq_getElem (by omega)] at h1; cases h1
 exact Kd.C_keep (g := W.heap.size) (0 : Int) h ⟨hs, fun i hi _ _ => hW i hi hi⟩ (Kd.far_C (0 : Int) h (Nat.le_refl _))
theorem pol_box {w1 w2 : World} {g : Nat} {a0 b0 d0 : Value} {N : Nat} (h : w2.heap[g]? = some (.cells #[a0, b0, d0] 26 (0, 0))) (hb : Below N w1 w2) (hg : N ≤ g) (a b d : Value) :
  ∃ W, ((w2.setCell ⟨g, 0, none⟩ a).setCell ⟨g, 1, none⟩ b).setCell ⟨g, 2, none⟩ d = W ∧ W.heap[g]? = some (.cells #[a, b, d] 26 (0, 0)) ∧ Below N w1 W := by
 refine ⟨_, rfl, blk_put (blk_put (blk_put h 0 a (cs' := #[a, b0, d0]) rfl) 1 b (cs' := #[a, b, d0]) rfl) 2 d rfl, ?_⟩
 have far : ∀ (W : World) (j : Nat) (u : Value), Below N w1 W → Below N w1 (W.setCell ⟨g, j, none⟩ u) := fun W j u h => h.trans ⟨rfl, rfl, rfl, by simp [World.setCell], fun i hi => Below.heap_setCell W ⟨g, j, none⟩ u i (by show i ≠ g; omega)⟩
 exact far _ _ _ (far _ _ _ (far _ _ _ hb))
theorem pol_far {W : World} {g g' : Nat} {o : Obj} (h : W.heap[g']? = some o) (hne : g' ≠ g) (a b d : Value) : (((W.setCell ⟨g, 0, none⟩ a).setCell ⟨g, 1, none⟩ b).setCell ⟨g, 2, none⟩ d).heap[g']? = some o :=
 ((Below.heap_setCell _ ⟨g, 2, none⟩ d g' hne).trans ((Below.heap_setCell _ ⟨g, 1, none⟩ b g' hne).trans (Below.heap_setCell _ ⟨g, 0, none⟩ a g' hne))).trans h
theorem pol_put2 {W : World} {A : Option Addr} {xs : List Int} {g g' : Nat} (h : Kd.F (Kd.int .i64) W (fun k_ => k_ ≠ g' ∧ k_ ≠ g) A xs.length xs) (a b d : Value) : Kd.F (Kd.int .i64) (((W.setCell ⟨g, 0, none⟩ a).setCell ⟨g, 1, none⟩ b).setCell ⟨g, 2, none⟩ d) (fun k_ => k_ ≠ g') A xs.length xs :=
 Kd.F_mono (Kd.F_far (Kd.F_far (Kd.F_far h (p := ⟨g, 0, none⟩) (fun _ hk => hk.2) _) (p := ⟨g, 1, none⟩) (fun _ hk => hk.2) _) (p := ⟨g, 2, none⟩) (fun _ hk => hk.2) _) (fun _ hk => hk.1)
theorem pol_new2 {W W' : World} {A : Option Addr} {c : Nat} {xs : List Int} {g g' : Nat} (h : Kd.R (Kd.int .i64) 3 W' W.heap.size (fun _ => True) (.slice A xs.length c) xs) (hg : g < W.heap.size) (hg' : g' < W.heap.size) : Kd.F (Kd.int .i64) W' (fun k_ => k_ ≠ g ∧ k_ ≠ g') A xs.length xs := Kd.R_F (Kd.R_mono (Kd.R_bound h) (fun k hk => by have := hk.2.1; exact ⟨by omega, by omega⟩))
theorem pol_atC {W : World} {ad : Addr} {n : Nat} {xs : List Int} (h : Kd.C (Kd.int .i64) W (some ad) n xs) (i : Int) (h0 : 0 ≤ i) (h1 : i < (n : Int)) : W.cell? (ad.add i.toNat) = some (.int .i64 (rd xs i)) := by
 obtain ⟨a, e, hc⟩ := Kd.at_int h i h0 h1
 cases e
 exact hc
theorem pol_F {W : World} {A : Option Addr} {xs : List Int} {g : Nat} (h : Kd.C (Kd.int .i64) W A xs.length xs) (hg : W.heap.size ≤ g) : Kd.F (Kd.int .i64) W (fun k_ => k_ ≠ g) A xs.length xs := Kd.F_mono (Kd.C_F (Kd.heap_int _) h) (fun k hk => by omega)
theorem pol_new {W W' : World} {A : Option Addr} {c : Nat} {xs : List Int} {g : Nat} (h : Kd.R (Kd.int .i64) 3 W' W.heap.size (fun _ => True) (.slice A xs.length c) xs) (hg : g < W.heap.size) : Kd.F (Kd.int .i64) W' (fun k_ => k_ ≠ g) A xs.length xs := Kd.R_F (Kd.R_mono (Kd.R_bound h) (fun k hk => by have := hk.2.1; omega))
theorem pol_put {W : World} {A : Option Addr} {xs : List Int} {g : Nat} (h : Kd.F (Kd.int .i64) W (fun k_ => k_ ≠ g) A xs.length xs) (a b d : Value) : Kd.F (Kd.int .i64) (((W.setCell ⟨g, 0, none⟩ a).setCell ⟨g, 1, none⟩ b).setCell ⟨g, 2, none⟩ d) (fun k_ => k_ ≠ g) A xs.length xs :=
 Kd.F_far (Kd.F_far (Kd.F_far h (p := ⟨g, 0, none⟩) (fun _ hk => hk) _) (p := ⟨g, 1, none⟩) (fun _ hk => hk) _) (p := ⟨g, 2, none⟩) (fun _ hk => hk) _
set_option maxHeartbeats 8000000 in
set_option maxRecDepth 100000 in
theorem laws_FnPolite.calls (k : Nat) (A0 : Option Addr) (c0 : Nat) (l0 : List Int) (w : World) (hr0 : Kd.C (Kd.int .u8) w A0 l0.length l0) (hc0 : l0.length ≤ c0) (hrT : GT w) (h : laws_FnPolite.f k l0 = some true) :
  Calls Tryd.prog 4 #[.slice A0 l0.length c0] w fun e w' => e = .returned (.bool true) ∧ Below w.heap.size w w' := by
 have HR := Aside0.mk hr0
 have HC := Aside0.mk hc0
 have HT := Aside0.mk hrT
 clear hr0 hc0 hrT
 have HB := Aside0.mk (Below.refl w.heap.size w)
 unfold laws_FnPolite.f at h
 obtain ⟨big, a1, h0⟩ := Option.bind_eq_some_iff.mp h
 clear h; have h := h0; clear h0
 have A1 := Aside0.mk a1; clear a1
 cases big with
 | true =>
  clear h
  go_enter Tryd.func4, Tryd.ntmps4
  go_wp2_with (go_at_call 5; (with_reducible refine (laws_vBig.calls A0 c0 l0 true _ (Kd.C_below HR.out HB.out) HC.out A1.out).mono ?_); rintro e w0_ ⟨rfl, hd_⟩; have hb := hd_.below; clear hd_; replace HB := Aside0.mk (below_step HB.out hb); clear hb)
  go_ret
  exact ⟨rfl, HB.out⟩
 | false =>
  rw [if_neg (show ¬ (false = true) by decide)] at h
  obtain ⟨⟨rs, rr, rl⟩, a2, h0⟩ := Option.bind_eq_some_iff.mp h
  clear h; have h := h0; clear h0
  have A2 := Aside0.mk a2; clear a2
  obtain ⟨⟨fa, fo⟩, a3, h0⟩ := Option.bind_eq_some_iff.mp h
  clear h; have h := h0; clear h0
  have A3 := Aside0.mk a3; clear a3
  obtain ⟨⟨fa', fo'⟩, a4, h0⟩ := Option.bind_eq_some_iff.mp h
  clear h; have h := h0; clear h0
  have A4 := Aside0.mk a4; clear a4
  obtain ⟨⟨po, pk⟩, a5, h0⟩ := Option.bind_eq_some_iff.mp h
  clear h; have h := h0; clear h0
  have A5 := Aside0.mk a5; clear a5
  obtain ⟨⟨po', pk'⟩, a6, h0⟩ := Option.bind_eq_some_iff.mp h
  clear h; have h := h0; clear h0
  have A6 := Aside0.mk a6; clear a6
  obtain ⟨⟨ne, th⟩, a7, h0⟩ := Option.bind_eq_some_iff.mp h
  clear h; have h := h0; clear h0
  have A7 := Aside0.mk a7; clear a7
  obtain ⟨⟨ne', th'⟩, a8, h0⟩ := Option.bind_eq_some_iff.mp h
  clear h; have h := h0; clear h0
  have A8 := Aside0.mk a8; clear a8
  obtain ⟨⟨od, oo⟩, a9, h0⟩ := Option.bind_eq_some_iff.mp h
  clear h; have h := h0; clear h0
  have A9 := Aside0.mk a9; clear a9
  obtain ⟨⟨od', oo'⟩, a10, h0⟩ := Option.bind_eq_some_iff.mp h
  clear h; have h := h0; clear h0
  have A10 := Aside0.mk a10; clear a10
  obtain ⟨lc, a11, h0⟩ := Option.bind_eq_some_iff.mp h
  clear h; have h := h0; clear h0
  have A11 := Aside0.mk a11; clear a11
  obtain ⟨⟨us, ur, ul⟩, a12, h0⟩ := Option.bind_eq_some_iff.mp h
  clear h; have h := h0; clear h0
  have A12 := Aside0.mk a12; clear a12
  obtain ⟨⟨ts, tr, tl, tm, tk⟩, a13, h0⟩ := Option.bind_eq_some_iff.mp h
  clear h; have h := h0; clear h0
  have A13 := Aside0.mk a13; clear a13
  obtain ⟨⟨ts', tr', tl', tm', tk'⟩, a14, h0⟩ := Option.bind_eq_some_iff.mp h
  clear h; have h := h0; clear h0
  have A14 := Aside0.mk a14; clear a14
  simp only at h
  by_cases cc : fo = fo' ∧ pk = pk' ∧ (ne, th) = (ne', th') ∧ oo = oo' ∧ tk = tk' ∧ tm = tm' ∧ fo = pk ∧ fo = oo
  rotate_left
  ·rw [if_neg cc] at h; cases h
  rw [if_pos cc] at h
  simp only [Prod.mk.injEq] at cc
  obtain ⟨rfl, rfl, ⟨rfl, rfl⟩, rfl, rfl, rfl, rfl, rfl⟩ := cc
  obtain ⟨e1, a15, h0⟩ := Option.bind_eq_some_iff.mp h
  clear h; have h := h0; clear h0
  have A15 := Aside0.mk a15; clear a15
  obtain ⟨e2, a16, h0⟩ := Option.bind_eq_some_iff.mp h
  clear h; have h := h0; clear h0
  have A16 := Aside0.mk a16; clear a16
  obtain ⟨e3, a17, h0⟩ := Option.bind_eq_some_iff.mp h
  clear h; have h := h0; clear h0
  have A17 := Aside0.mk a17; clear a17
  obtain ⟨e4, a18, h0⟩ := Option.bind_eq_some_iff.mp h
  clear h; have h := h0; clear h0
  have A18 := Aside0.mk a18; clear a18
  by_cases ce : e1 = true ∧ e2 = true ∧ e3 = true ∧ e4 = true
  rotate_left
  ·rw [if_neg ce] at h; cases h
  rw [if_pos ce] at h
  obtain ⟨rfl, rfl, rfl, rfl⟩ := ce
  obtain ⟨gv, a19, h0⟩ := Option.bind_eq_some_iff.mp h
  clear h; have h := h0; clear h0
  have A19 := Aside0.mk a19; clear a19
  have HH := Aside0.mk h
  clear h
  go_enter Tryd.func4, Tryd.ntmps4
  go_upto_region 3 with (go_at_call 5; (with_reducible refine (laws_vBig.calls A0 c0 l0 false _ (Kd.C_below HR.out HB.out) HC.out A1.out).mono ?_); rintro e w0_ ⟨rfl, hd_⟩; have hb := hd_.below; clear hd_; replace HB := Aside0.mk (below_step HB.out hb); clear hb)
  go_upto_region 4 with (first | (go_at_call 20; (with_reducible refine (spec_DrawFarnessOf.calls k A0 c0 l0 rs rr rl _ (Kd.C_below HR.out HB.out) HC.out A2.out).mono ?_); rintro e w1_ ⟨v_, rfl, hR, hb⟩; obtain ⟨Ar, cr, e_, hc_, hC_⟩ := Kd.R_reads hR; subst e_; replace HB := Aside0.mk (below_step HB.out hb); clear hb; have Fr := Aside0.mk hC_; have Lr := Aside0.mk hc_; clear hR hC_ hc_) | ((with_reducible refine gate_dst (N := 3) rfl ?_); refine box_event ?hg (N := 3) ?hd (cs := #[.int .i64 0, .bool false, .slice none 0 0]) (t := 26) ?hr ?_; (case hd => rfl); (case hg => rfl); (case hr => first | (go_simp; done) | (go_simp; rfl)); intro gr hg_ w2_ hbox hb; have z_0 : w2_.cell? ⟨gr, 0, none⟩ = some (.int .i64 0) := (blk_cell hbox 0).trans rfl; have f_0 := blk_frozen hbox 0; have z_1 : w2_.cell? ⟨gr, 1, none⟩ = some (.bool false) := (blk_cell hbox 1).trans rfl; have f_1 := blk_frozen hbox 1; have z_2 : w2_.cell? ⟨gr, 2, none⟩ = some (.slice none 0 0) := (blk_cell hbox 2).trans rfl; have f_2 := blk_frozen hbox 2; have BX := Aside0.mk hbox; have HX := Aside0.mk hb; have GX := Aside0.mk hg_; clear hbox hb hg_))
  obtain ⟨w3_, e_, hbox, hb⟩ := pol_box BX.out HX.out (Nat.le_of_eq GX.out.symm) (.int .i64 rs) (.bool rr) (.slice Ar rl.length cr)
  rw [e_]
  clear e_ z_0 z_1 z_2 f_0 f_1 f_2 BX HX GX
  replace HB := Aside0.mk (below_step HB.out hb)
  replace Fr := Aside0.mk (Kd.C_below Fr.out hb)
  clear hb
  have BKr := Aside0.mk hbox
  clear hbox
  (try clear qBKr_0 qBKr_1 qBKr_2)
  obtain ⟨qBKr_0, qBKr_1, qBKr_2⟩ := pol_cells BKr.out
  go_upto_region 5 with (go_at_call 18; (with_reducible refine (impl_FarnessOf.calls k rs rr Ar cr rl fa fo _ Fr.out Lr.out (HT.out.below HB.out) A3.out).mono ?_); rintro e w4_ ⟨v_, rfl, hR, hb⟩; obtain ⟨Aa, ca, e_, hc_, hC_⟩ := Kd.R_reads hR; subst e_; replace HB := Aside0.mk (below_step HB.out hb); replace Fr := Aside0.mk (Kd.C_below Fr.out hb); replace BKr := Aside0.mk (blk_below BKr.out hb); clear hb; have Fa := Aside0.mk hC_; have La := Aside0.mk hc_; clear hR hC_ hc_; (try clear qBKr_0 qBKr_1 qBKr_2); obtain ⟨qBKr_0, qBKr_1, qBKr_2⟩ := pol_cells BKr.out)
  go_upto_region 6 with (go_at_call 21; (with_reducible refine (spec_FarnessOf.calls k rs rr Ar cr rl fa' fo _ Fr.out Lr.out A4.out).mono ?_); rintro e w5_ ⟨v_, rfl, hR, hb⟩; obtain ⟨Ab, cb, e_, hc_, hC_⟩ := Kd.R_reads hR; subst e_; replace HB := Aside0.mk (below_step HB.out hb); replace Fr := Aside0.mk (Kd.C_below Fr.out hb); replace Fa := Aside0.mk (Kd.C_below Fa.out hb); replace BKr := Aside0.mk (blk_below BKr.out hb); clear hb; have Fb := Aside0.mk hC_; have Lb := Aside0.mk hc_; clear hR hC_ hc_; (try clear qBKr_0 qBKr_1 qBKr_2); obtain ⟨qBKr_0, qBKr_1, qBKr_2⟩ := pol_cells BKr.out)
  go_upto_region 7 with (go_at_call 22; (with_reducible refine (impl_PoliteSeats.calls k rs rr Ar cr rl po fo _ Fr.out Lr.out (HT.out.below HB.out) A5.out).mono ?_); rintro e w6_ ⟨v_, rfl, hR, hb⟩; obtain ⟨Ap, cp, e_, hc_, hC_⟩ := Kd.R_reads hR; subst e_; replace HB := Aside0.mk (below_step HB.out hb); replace Fr := Aside0.mk (Kd.C_below Fr.out hb); replace Fa := Aside0.mk (Kd.C_below Fa.out hb); replace Fb := Aside0.mk (Kd.C_below Fb.out hb); replace BKr := Aside0.mk (blk_below BKr.out hb); clear hb; have Fp := Aside0.mk hC_; have Lp := Aside0.mk hc_; clear hR hC_ hc_; (try clear qBKr_0 qBKr_1 qBKr_2); obtain ⟨qBKr_0, qBKr_1, qBKr_2⟩ := pol_cells BKr.out)
  go_upto_region 8 with (go_at_call 23; (with_reducible refine (spec_PoliteSeats.calls k rs rr Ar cr rl po' fo _ Fr.out Lr.out A6.out).mono ?_); rintro e w7_ ⟨v_, rfl, hR, hb⟩; obtain ⟨Aq, cq, e_, hc_, hC_⟩ := Kd.R_reads hR; subst e_; replace HB := Aside0.mk (below_step HB.out hb); replace Fr := Aside0.mk (Kd.C_below Fr.out hb); replace Fa := Aside0.mk (Kd.C_below Fa.out hb); replace Fb := Aside0.mk (Kd.C_below Fb.out hb); replace Fp := Aside0.mk (Kd.C_below Fp.out hb); replace BKr := Aside0.mk (blk_below BKr.out hb); clear hb; have Fq := Aside0.mk hC_; have Lq := Aside0.mk hc_; clear hR hC_ hc_; (try clear qBKr_0 qBKr_1 qBKr_2); obtain ⟨qBKr_0, qBKr_1, qBKr_2⟩ := pol_cells BKr.out)
  go_upto_region 9 with (go_at_call 24; (with_reducible refine (impl_NextPolite.calls k rs rr Ar cr rl ne th _ Fr.out Lr.out (HT.out.below HB.out) A7.out).mono ?_); rintro e w8_ ⟨rfl, hb⟩; replace HB := Aside0.mk (below_step HB.out hb); replace Fr := Aside0.mk (Kd.C_below Fr.out hb); replace Fa := Aside0.mk (Kd.C_below Fa.out hb); replace Fb := Aside0.mk (Kd.C_below Fb.out hb); replace Fp := Aside0.mk (Kd.C_below Fp.out hb); replace Fq := Aside0.mk (Kd.C_below Fq.out hb); replace BKr := Aside0.mk (blk_below BKr.out hb); clear hb; (try clear qBKr_0 qBKr_1 qBKr_2); obtain ⟨qBKr_0, qBKr_1, qBKr_2⟩ := pol_cells BKr.out)
  go_upto_region 10 with (go_at_call 25; (with_reducible refine (spec_NextPolite.calls k rs rr Ar cr rl ne th _ Fr.out Lr.out A8.out).mono ?_); rintro e w9_ ⟨rfl, hb⟩; replace HB := Aside0.mk (below_step HB.out hb); replace Fr := Aside0.mk (Kd.C_below Fr.out hb); replace Fa := Aside0.mk (Kd.C_below Fa.out hb); replace Fb := Aside0.mk (Kd.C_below Fb.out hb); replace Fp := Aside0.mk (Kd.C_below Fp.out hb); replace Fq := Aside0.mk (Kd.C_below Fq.out hb); replace BKr := Aside0.mk (blk_below BKr.out hb); clear hb; (try clear qBKr_0 qBKr_1 qBKr_2); obtain ⟨qBKr_0, qBKr_1, qBKr_2⟩ := pol_cells BKr.out)
  go_upto_region 11 with (go_at_call 16; (with_reducible refine (impl_PoliteOrder.calls k rs rr Ar cr rl od fo _ Fr.out Lr.out (HT.out.below HB.out) A9.out).mono ?_); rintro e w10_ ⟨v_, rfl, hR, hb⟩; obtain ⟨Ao, co, e_, hc_, hC_⟩ := Kd.R_reads hR; subst e_; replace HB := Aside0.mk (below_step HB.out hb); replace Fr := Aside0.mk (Kd.C_below Fr.out hb); replace Fa := Aside0.mk (Kd.C_below Fa.out hb); replace Fb := Aside0.mk (Kd.C_below Fb.out hb); replace Fp := Aside0.mk (Kd.C_below Fp.out hb); replace Fq := Aside0.mk (Kd.C_below Fq.out hb); replace BKr := Aside0.mk (blk_below BKr.out hb); clear hb; have Fo := Aside0.mk hC_; have Lo := Aside0.mk hc_; clear hR hC_ hc_; (try clear qBKr_0 qBKr_1 qBKr_2); obtain ⟨qBKr_0, qBKr_1, qBKr_2⟩ := pol_cells BKr.out)
  go_upto_region 12 with (go_at_call 26; (with_reducible refine (spec_PoliteOrder.calls k rs rr (fun k_ => k_ < _) Ar cr rl od' fo _ (pol_V Fr.out Lr.out) A10.out).mono ?_); rintro e w11_ ⟨v_, rfl, hR, hb⟩; obtain ⟨An, cn, e_, hc_, hC_⟩ := Kd.R_reads hR; subst e_; replace HB := Aside0.mk (below_step HB.out hb); replace Fr := Aside0.mk (Kd.C_below Fr.out hb); replace Fa := Aside0.mk (Kd.C_below Fa.out hb); replace Fb := Aside0.mk (Kd.C_below Fb.out hb); replace Fp := Aside0.mk (Kd.C_below Fp.out hb); replace Fq := Aside0.mk (Kd.C_below Fq.out hb); replace Fo := Aside0.mk (Kd.C_below Fo.out hb); replace BKr := Aside0.mk (blk_below BKr.out hb); clear hb; have Fn := Aside0.mk hC_; have Ln := Aside0.mk hc_; clear hR hC_ hc_; (try clear qBKr_0 qBKr_1 qBKr_2); obtain ⟨qBKr_0, qBKr_1, qBKr_2⟩ := pol_cells BKr.out)
  go_upto_region 13 with (first | (go_at_call 12; (with_reducible refine (laws_vCut.calls A0 c0 l0 1 lc _ (Kd.C_below HR.out HB.out) HC.out A11.out).mono ?_); rintro e w12_ ⟨v_, rfl, hR, hb⟩; obtain ⟨Ac, cc, e_, hc_, hC_⟩ := Kd.R_reads hR; subst e_; replace HB := Aside0.mk (below_step HB.out hb); replace Fr := Aside0.mk (Kd.C_below Fr.out hb); replace Fa := Aside0.mk (Kd.C_below Fa.out hb); replace Fb := Aside0.mk (Kd.C_below Fb.out hb); replace Fp := Aside0.mk (Kd.C_below Fp.out hb); replace Fq := Aside0.mk (Kd.C_below Fq.out hb); replace Fo := Aside0.mk (Kd.C_below Fo.out hb); replace Fn := Aside0.mk (Kd.C_below Fn.out hb); replace BKr := Aside0.mk (blk_below BKr.out hb); clear hb; have Fc := Aside0.mk hC_; have Lc := Aside0.mk hc_; clear hR hC_ hc_; (try clear qBKr_0 qBKr_1 qBKr_2); obtain ⟨qBKr_0, qBKr_1, qBKr_2⟩ := pol_cells BKr.out) | (go_at_call 27; (with_reducible refine (spec_DrawSettleRow.calls k Ac cc lc us ur ul _ Fc.out Lc.out A12.out).mono ?_); rintro e w13_ ⟨v_, rfl, hR, hb⟩; obtain ⟨Au, cu, e_⟩ := Kd.V_slice hR; subst e_; obtain ⟨_, hc_, hC_⟩ := Kd.V_reads' hR; replace HB := Aside0.mk (below_step HB.out hb); replace Fr := Aside0.mk (Kd.C_below Fr.out hb); replace Fa := Aside0.mk (Kd.C_below Fa.out hb); replace Fb := Aside0.mk (Kd.C_below Fb.out hb); replace Fp := Aside0.mk (Kd.C_below Fp.out hb); replace Fq := Aside0.mk (Kd.C_below Fq.out hb); replace Fo := Aside0.mk (Kd.C_below Fo.out hb); replace Fn := Aside0.mk (Kd.C_below Fn.out hb); replace Fc := Aside0.mk (Kd.C_below Fc.out hb); replace BKr := Aside0.mk (blk_below BKr.out hb); clear hb; have Fu := Aside0.mk hC_; have Lu := Aside0.mk hc_; clear hR hC_ hc_; (try clear qBKr_0 qBKr_1 qBKr_2); obtain ⟨qBKr_0, qBKr_1, qBKr_2⟩ := pol_cells BKr.out) | ((with_reducible refine gate_dst (N := 20) rfl ?_); refine box_event ?hg (N := 20) ?hd (cs := #[.int .i64 0, .bool false, .slice none 0 0]) (t := 26) ?hr ?_; (case hd => rfl); (case hg => rfl); (case hr => first | (go_simp; done) | (go_simp; rfl)); intro gu hg_ w14_ hbox hb; have z_0 : w14_.cell? ⟨gu, 0, none⟩ = some (.int .i64 0) := (blk_cell hbox 0).trans rfl; have f_0 := blk_frozen hbox 0; have z_1 : w14_.cell? ⟨gu, 1, none⟩ = some (.bool false) := (blk_cell hbox 1).trans rfl; have f_1 := blk_frozen hbox 1; have z_2 : w14_.cell? ⟨gu, 2, none⟩ = some (.slice none 0 0) := (blk_cell hbox 2).trans rfl; have f_2 := blk_frozen hbox 2; have BX := Aside0.mk hbox; have HX := Aside0.mk hb; have GX := Aside0.mk hg_; clear hbox hb hg_))
  obtain ⟨w15_, e_, hbox, hb⟩ := pol_box BX.out HX.out (Nat.le_of_eq GX.out.symm) (.int .i64 us) (.bool ur) (.slice Au ul.length cu)
  rw [e_]
  clear e_ z_0 z_1 z_2 f_0 f_1 f_2 BX HX GX
  replace HB := Aside0.mk (below_step HB.out hb)
  replace Fr := Aside0.mk (Kd.C_below Fr.out hb)
  replace Fa := Aside0.mk (Kd.C_below Fa.out hb)
  replace Fb := Aside0.mk (Kd.C_below Fb.out hb)
  replace Fp := Aside0.mk (Kd.C_below Fp.out hb)
  replace Fq := Aside0.mk (Kd.C_below Fq.out hb)
  replace Fo := Aside0.mk (Kd.C_below Fo.out hb)
  replace Fn := Aside0.mk (Kd.C_below Fn.out hb)
  replace Fc := Aside0.mk (Kd.C_below Fc.out hb)
  replace Fu := Aside0.mk (Kd.C_below Fu.out hb)
  replace BKr := Aside0.mk (blk_below BKr.out hb)
  clear hb
  have BKu := Aside0.mk hbox
  clear hbox
  (try clear qBKr_0 qBKr_1 qBKr_2)
  obtain ⟨qBKr_0, qBKr_1, qBKr_2⟩ := pol_cells BKr.out
  (try clear qBKu_0 qBKu_1 qBKu_2)
  obtain ⟨qBKu_0, qBKu_1, qBKu_2⟩ := pol_cells BKu.out
  go_upto_region 14 with (first | (go_at_call 28; (with_reducible refine (impl_SettleRow.calls k us ur Au cu ul ts tr tl tm tk _ Fu.out Lu.out (HT.out.below HB.out) A13.out).mono ?_); rintro e w16_ ⟨v_, rfl, hR, hb⟩; obtain ⟨At, ct, e_, hc_, hC_⟩ := Kd.R_reads hR; subst e_; replace HB := Aside0.mk (below_step HB.out hb); replace Fr := Aside0.mk (Kd.C_below Fr.out hb); replace Fa := Aside0.mk (Kd.C_below Fa.out hb); replace Fb := Aside0.mk (Kd.C_below Fb.out hb); replace Fp := Aside0.mk (Kd.C_below Fp.out hb); replace Fq := Aside0.mk (Kd.C_below Fq.out hb); replace Fo := Aside0.mk (Kd.C_below Fo.out hb); replace Fn := Aside0.mk (Kd.C_below Fn.out hb); replace Fc := Aside0.mk (Kd.C_below Fc.out hb); replace Fu := Aside0.mk (Kd.C_below Fu.out hb); replace BKr := Aside0.mk (blk_below BKr.out hb); replace BKu := Aside0.mk (blk_below BKu.out hb); clear hb; have Ft := Aside0.mk hC_; have Lt := Aside0.mk hc_; clear hR hC_ hc_; (try clear qBKr_0 qBKr_1 qBKr_2); obtain ⟨qBKr_0, qBKr_1, qBKr_2⟩ := pol_cells BKr.out; (try clear qBKu_0 qBKu_1 qBKu_2); obtain ⟨qBKu_0, qBKu_1, qBKu_2⟩ := pol_cells BKu.out) | ((with_reducible refine gate_dst (N := 21) rfl ?_); refine box_event ?hg (N := 21) ?hd (cs := #[.int .i64 0, .bool false, .slice none 0 0]) (t := 26) ?hr ?_; (case hd => rfl); (case hg => rfl); (case hr => first | (go_simp; done) | (go_simp; rfl)); intro gt hg_ w17_ hbox hb; have z_0 : w17_.cell? ⟨gt, 0, none⟩ = some (.int .i64 0) := (blk_cell hbox 0).trans rfl; have f_0 := blk_frozen hbox 0; have z_1 : w17_.cell? ⟨gt, 1, none⟩ = some (.bool false) := (blk_cell hbox 1).trans rfl; have f_1 := blk_frozen hbox 1; have z_2 : w17_.cell? ⟨gt, 2, none⟩ = some (.slice none 0 0) := (blk_cell hbox 2).trans rfl; have f_2 := blk_frozen hbox 2; have BX := Aside0.mk hbox; have HX := Aside0.mk hb; have GX := Aside0.mk hg_; clear hbox hb hg_))
  obtain ⟨w18_, e_, hbox, hb⟩ := pol_box BX.out HX.out (Nat.le_of_eq GX.out.symm) (.int .i64 ts) (.bool tr) (.slice At tl.length ct)
  rw [e_]
  clear e_ z_0 z_1 z_2 f_0 f_1 f_2 BX HX GX
  replace HB := Aside0.mk (below_step HB.out hb)
  replace Fr := Aside0.mk (Kd.C_below Fr.out hb)
  replace Fa := Aside0.mk (Kd.C_below Fa.out hb)
  replace Fb := Aside0.mk (Kd.C_below Fb.out hb)
  replace Fp := Aside0.mk (Kd.C_below Fp.out hb)
  replace Fq := Aside0.mk (Kd.C_below Fq.out hb)
  replace Fo := Aside0.mk (Kd.C_below Fo.out hb)
  replace Fn := Aside0.mk (Kd.C_below Fn.out hb)
  replace Fc := Aside0.mk (Kd.C_below Fc.out hb)
  replace Fu := Aside0.mk (Kd.C_below Fu.out hb)
  replace Ft := Aside0.mk (Kd.C_below Ft.out hb)
  replace BKr := Aside0.mk (blk_below BKr.out hb)
  replace BKu := Aside0.mk (blk_below BKu.out hb)
  clear hb
  have BKt := Aside0.mk hbox
  clear hbox
  (try clear qBKr_0 qBKr_1 qBKr_2)
  obtain ⟨qBKr_0, qBKr_1, qBKr_2⟩ := pol_cells BKr.out
  (try clear qBKu_0 qBKu_1 qBKu_2)
  obtain ⟨qBKu_0, qBKu_1, qBKu_2⟩ := pol_cells BKu.out
  (try clear qBKt_0 qBKt_1 qBKt_2)
  obtain ⟨qBKt_0, qBKt_1, qBKt_2⟩ := pol_cells BKt.out
  go_upto_region 15 with (first | (go_at_call 29; (with_reducible refine (spec_SettleRow.calls k us ur Au cu ul ts' tr' tl' tm tk _ Fu.out Lu.out A14.out).mono ?_); rintro e w19_ ⟨v_, rfl, hR, hb⟩; obtain ⟨As, cs, e_⟩ := Kd.V_slice hR; subst e_; obtain ⟨_, hc_, hC_⟩ := Kd.V_reads' hR; replace HB := Aside0.mk (below_step HB.out hb); replace Fr := Aside0.mk (Kd.C_below Fr.out hb); replace Fa := Aside0.mk (Kd.C_below Fa.out hb); replace Fb := Aside0.mk (Kd.C_below Fb.out hb); replace Fp := Aside0.mk (Kd.C_below Fp.out hb); replace Fq := Aside0.mk (Kd.C_below Fq.out hb); replace Fo := Aside0.mk (Kd.C_below Fo.out hb); replace Fn := Aside0.mk (Kd.C_below Fn.out hb); replace Fc := Aside0.mk (Kd.C_below Fc.out hb); replace Fu := Aside0.mk (Kd.C_below Fu.out hb); replace Ft := Aside0.mk (Kd.C_below Ft.out hb); replace BKr := Aside0.mk (blk_below BKr.out hb); replace BKu := Aside0.mk (blk_below BKu.out hb); replace BKt := Aside0.mk (blk_below BKt.out hb); clear hb; have Fs := Aside0.mk hC_; have Ls := Aside0.mk hc_; clear hR hC_ hc_; (try clear qBKr_0 qBKr_1 qBKr_2); obtain ⟨qBKr_0, qBKr_1, qBKr_2⟩ := pol_cells BKr.out; (try clear qBKu_0 qBKu_1 qBKu_2); obtain ⟨qBKu_0, qBKu_1, qBKu_2⟩ := pol_cells BKu.out; (try clear qBKt_0 qBKt_1 qBKt_2); obtain ⟨qBKt_0, qBKt_1, qBKt_2⟩ := pol_cells BKt.out) | ((with_reducible refine gate_dst (N := 24) rfl ?_); refine box_event ?hg (N := 24) ?hd (cs := #[.int .i64 0, .bool false, .slice none 0 0]) (t := 26) ?hr ?_; (case hd => rfl); (case hg => rfl); (case hr => first | (go_simp; done) | (go_simp; rfl)); intro gs hg_ w20_ hbox hb; have z_0 : w20_.cell? ⟨gs, 0, none⟩ = some (.int .i64 0) := (blk_cell hbox 0).trans rfl; have f_0 := blk_frozen hbox 0; have z_1 : w20_.cell? ⟨gs, 1, none⟩ = some (.bool false) := (blk_cell hbox 1).trans rfl; have f_1 := blk_frozen hbox 1; have z_2 : w20_.cell? ⟨gs, 2, none⟩ = some (.slice none 0 0) := (blk_cell hbox 2).trans rfl; have f_2 := blk_frozen hbox 2; have BX := Aside0.mk hbox; have HX := Aside0.mk hb; have GX := Aside0.mk hg_; clear hbox hb hg_))
  obtain ⟨w21_, e_, hbox, hb⟩ := pol_box BX.out HX.out (Nat.le_of_eq GX.out.symm) (.int .i64 ts') (.bool tr') (.slice As tl'.length cs)
  rw [e_]
  clear e_ z_0 z_1 z_2 f_0 f_1 f_2 BX HX GX
  replace HB := Aside0.mk (below_step HB.out hb)
  replace Fr := Aside0.mk (Kd.C_below Fr.out hb)
  replace Fa := Aside0.mk (Kd.C_below Fa.out hb)
  replace Fb := Aside0.mk (Kd.C_below Fb.out hb)
  replace Fp := Aside0.mk (Kd.C_below Fp.out hb)
  replace Fq := Aside0.mk (Kd.C_below Fq.out hb)
  replace Fo := Aside0.mk (Kd.C_below Fo.out hb)
  replace Fn := Aside0.mk (Kd.C_below Fn.out hb)
  replace Fc := Aside0.mk (Kd.C_below Fc.out hb)
  replace Fu := Aside0.mk (Kd.C_below Fu.out hb)
  replace Ft := Aside0.mk (Kd.C_below Ft.out hb)
  replace Fs := Aside0.mk (Kd.C_below Fs.out hb)
  replace BKr := Aside0.mk (blk_below BKr.out hb)
  replace BKu := Aside0.mk (blk_below BKu.out hb)
  replace BKt := Aside0.mk (blk_below BKt.out hb)
  clear hb
  have BKs := Aside0.mk hbox
  clear hbox
  (try clear qBKr_0 qBKr_1 qBKr_2)
  obtain ⟨qBKr_0, qBKr_1, qBKr_2⟩ := pol_cells BKr.out
  (try clear qBKu_0 qBKu_1 qBKu_2)
  obtain ⟨qBKu_0, qBKu_1, qBKu_2⟩ := pol_cells BKu.out
  (try clear qBKt_0 qBKt_1 qBKt_2)
  obtain ⟨qBKt_0, qBKt_1, qBKt_2⟩ := pol_cells BKt.out
  (try clear qBKs_0 qBKs_1 qBKs_2)
  obtain ⟨qBKs_0, qBKs_1, qBKs_2⟩ := pol_cells BKs.out
  go_upto_region 17 with (first | (go_at_call 30; (with_reducible refine (laws_vInts.calls k Aa ca fa Ab cb fa' true _ Fa.out La.out Fb.out Lb.out A15.out).mono ?_); rintro e w22_ ⟨rfl, hd_⟩; have hb := hd_.below; clear hd_; replace HB := Aside0.mk (below_step HB.out hb); replace Fr := Aside0.mk (Kd.C_below Fr.out hb); replace Fa := Aside0.mk (Kd.C_below Fa.out hb); replace Fb := Aside0.mk (Kd.C_below Fb.out hb); replace Fp := Aside0.mk (Kd.C_below Fp.out hb); replace Fq := Aside0.mk (Kd.C_below Fq.out hb); replace Fo := Aside0.mk (Kd.C_below Fo.out hb); replace Fn := Aside0.mk (Kd.C_below Fn.out hb); replace Fc := Aside0.mk (Kd.C_below Fc.out hb); replace Fu := Aside0.mk (Kd.C_below Fu.out hb); replace Ft := Aside0.mk (Kd.C_below Ft.out hb); replace Fs := Aside0.mk (Kd.C_below Fs.out hb); replace BKr := Aside0.mk (blk_below BKr.out hb); replace BKu := Aside0.mk (blk_below BKu.out hb); replace BKt := Aside0.mk (blk_below BKt.out hb); replace BKs := Aside0.mk (blk_below BKs.out hb); clear hb; (try clear qBKr_0 qBKr_1 qBKr_2); obtain ⟨qBKr_0, qBKr_1, qBKr_2⟩ := pol_cells BKr.out; (try clear qBKu_0 qBKu_1 qBKu_2); obtain ⟨qBKu_0, qBKu_1, qBKu_2⟩ := pol_cells BKu.out; (try clear qBKt_0 qBKt_1 qBKt_2); obtain ⟨qBKt_0, qBKt_1, qBKt_2⟩ := pol_cells BKt.out; (try clear qBKs_0 qBKs_1 qBKs_2); obtain ⟨qBKs_0, qBKs_1, qBKs_2⟩ := pol_cells BKs.out) | (go_at_call 30; (with_reducible refine (laws_vInts.calls k Ap cp po Aq cq po' true _ Fp.out Lp.out Fq.out Lq.out A16.out).mono ?_); rintro e w23_ ⟨rfl, hd_⟩; have hb := hd_.below; clear hd_; replace HB := Aside0.mk (below_step HB.out hb); replace Fr := Aside0.mk (Kd.C_below Fr.out hb); replace Fa := Aside0.mk (Kd.C_below Fa.out hb); replace Fb := Aside0.mk (Kd.C_below Fb.out hb); replace Fp := Aside0.mk (Kd.C_below Fp.out hb); replace Fq := Aside0.mk (Kd.C_below Fq.out hb); replace Fo := Aside0.mk (Kd.C_below Fo.out hb); replace Fn := Aside0.mk (Kd.C_below Fn.out hb); replace Fc := Aside0.mk (Kd.C_below Fc.out hb); replace Fu := Aside0.mk (Kd.C_below Fu.out hb); replace Ft := Aside0.mk (Kd.C_below Ft.out hb); replace Fs := Aside0.mk (Kd.C_below Fs.out hb); replace BKr := Aside0.mk (blk_below BKr.out hb); replace BKu := Aside0.mk (blk_below BKu.out hb); replace BKt := Aside0.mk (blk_below BKt.out hb); replace BKs := Aside0.mk (blk_below BKs.out hb); clear hb; (try clear qBKr_0 qBKr_1 qBKr_2); obtain ⟨qBKr_0, qBKr_1, qBKr_2⟩ := pol_cells BKr.out; (try clear qBKu_0 qBKu_1 qBKu_2); obtain ⟨qBKu_0, qBKu_1, qBKu_2⟩ := pol_cells BKu.out; (try clear qBKt_0 qBKt_1 qBKt_2); obtain ⟨qBKt_0, qBKt_1, qBKt_2⟩ := pol_cells BKt.out; (try clear qBKs_0 qBKs_1 qBKs_2); obtain ⟨qBKs_0, qBKs_1, qBKs_2⟩ := pol_cells BKs.out) | (go_at_call 30; (with_reducible refine (laws_vInts.calls k Ao co od An cn od' true _ Fo.out Lo.out Fn.out Ln.out A17.out).mono ?_); rintro e w24_ ⟨rfl, hd_⟩; have hb := hd_.below; clear hd_; replace HB := Aside0.mk (below_step HB.out hb); replace Fr := Aside0.mk (Kd.C_below Fr.out hb); replace Fa := Aside0.mk (Kd.C_below Fa.out hb); replace Fb := Aside0.mk (Kd.C_below Fb.out hb); replace Fp := Aside0.mk (Kd.C_below Fp.out hb); replace Fq := Aside0.mk (Kd.C_below Fq.out hb); replace Fo := Aside0.mk (Kd.C_below Fo.out hb); replace Fn := Aside0.mk (Kd.C_below Fn.out hb); replace Fc := Aside0.mk (Kd.C_below Fc.out hb); replace Fu := Aside0.mk (Kd.C_below Fu.out hb); replace Ft := Aside0.mk (Kd.C_below Ft.out hb); replace Fs := Aside0.mk (Kd.C_below Fs.out hb); replace BKr := Aside0.mk (blk_below BKr.out hb); replace BKu := Aside0.mk (blk_below BKu.out hb); replace BKt := Aside0.mk (blk_below BKt.out hb); replace BKs := Aside0.mk (blk_below BKs.out hb); clear hb; (try clear qBKr_0 qBKr_1 qBKr_2); obtain ⟨qBKr_0, qBKr_1, qBKr_2⟩ := pol_cells BKr.out; (try clear qBKu_0 qBKu_1 qBKu_2); obtain ⟨qBKu_0, qBKu_1, qBKu_2⟩ := pol_cells BKu.out; (try clear qBKt_0 qBKt_1 qBKt_2); obtain ⟨qBKt_0, qBKt_1, qBKt_2⟩ := pol_cells BKt.out; (try clear qBKs_0 qBKs_1 qBKs_2); obtain ⟨qBKs_0, qBKs_1, qBKs_2⟩ := pol_cells BKs.out) | (go_at_call 15; (with_reducible refine (laws_vRow.calls k ts tr At ct tl ts' tr' As cs tl' true _ Ft.out Lt.out Fs.out Ls.out A18.out).mono ?_); rintro e w25_ ⟨rfl, hb⟩; replace HB := Aside0.mk (below_step HB.out hb); replace Fr := Aside0.mk (Kd.C_below Fr.out hb); replace Fa := Aside0.mk (Kd.C_below Fa.out hb); replace Fb := Aside0.mk (Kd.C_below Fb.out hb); replace Fp := Aside0.mk (Kd.C_below Fp.out hb); replace Fq := Aside0.mk (Kd.C_below Fq.out hb); replace Fo := Aside0.mk (Kd.C_below Fo.out hb); replace Fn := Aside0.mk (Kd.C_below Fn.out hb); replace Fc := Aside0.mk (Kd.C_below Fc.out hb); replace Fu := Aside0.mk (Kd.C_below Fu.out hb); replace Ft := Aside0.mk (Kd.C_below Ft.out hb); replace Fs := Aside0.mk (Kd.C_below Fs.out hb); replace BKr := Aside0.mk (blk_below BKr.out hb); replace BKu := Aside0.mk (blk_below BKu.out hb); replace BKt := Aside0.mk (blk_below BKt.out hb); replace BKs := Aside0.mk (blk_below BKs.out hb); clear hb; (try clear qBKr_0 qBKr_1 qBKr_2); obtain ⟨qBKr_0, qBKr_1, qBKr_2⟩ := pol_cells BKr.out; (try clear qBKu_0 qBKu_1 qBKu_2); obtain ⟨qBKu_0, qBKu_1, qBKu_2⟩ := pol_cells BKu.out; (try clear qBKt_0 qBKt_1 qBKt_2); obtain ⟨qBKt_0, qBKt_1, qBKt_2⟩ := pol_cells BKt.out; (try clear qBKs_0 qBKs_1 qBKs_2); obtain ⟨qBKs_0, qBKs_1, qBKs_2⟩ := pol_cells BKs.out))
  go_upto_if 169 with (fail)
  go_cut [27] (fun v27 wc => Aside0 (Below w.heap.size w wc) ∧ Aside0 (Kd.C (Kd.int .i64) wc Ar rl.length rl) ∧ Aside0 (Kd.C (Kd.int .i64) wc Aa fa.length fa) ∧ Aside0 (Kd.C (Kd.int .i64) wc Ap po.length po) ∧ Aside0 (Kd.C (Kd.int .i64) wc Ao od.length od) ∧ Aside0 (wc.heap[gr]? = some (.cells #[.int .i64 rs, .bool rr, .slice Ar rl.length cr] 26 (0, 0))))
  case first =>
   as_aux_lemma =>
    have h := A19.out
    clear A19 HH A2 A3 A4 A5 A6 A7 A8 A9 A10 A11 A12 A13 A14 A15 A16 A17 A18
    unfold laws_FnPolite.g at h
    simp only at h
    cases tk with
    | false =>
     go_wp2
     go_meet
     case rel => exact ⟨HB, Fr, Fa, Fp, Fo, BKr⟩
    | true =>
     rw [if_pos rfl] at h
     obtain ⟨⟨lo, lk⟩, b1, h0⟩ := Option.bind_eq_some_iff.mp h
     clear h; have h := h0; clear h0
     have B1 := Aside0.mk b1; clear b1
     obtain ⟨⟨ags, agr, agl, agm, agk⟩, b2, h0⟩ := Option.bind_eq_some_iff.mp h
     clear h; have h := h0; clear h0
     have B2 := Aside0.mk b2; clear b2
     simp only at h
     by_cases c3 : lk = true ∧ agk = true ∧ lo.length = 0 ∧ agm = 0
     rotate_left
     ·rw [if_neg c3] at h; cases h
     rw [if_pos c3] at h
     obtain ⟨rfl, rfl, cl, rfl⟩ := c3
     obtain rfl := List.eq_nil_of_length_eq_zero cl
     obtain ⟨e5, b3, h0⟩ := Option.bind_eq_some_iff.mp h
     clear h; have h := h0; clear h0
     have B3 := Aside0.mk b3; clear b3
     by_cases c4 : e5 = true ∧ (tl.length : Int) = wrap64 ((ul.length : Int) + tm)
     rotate_left
     ·rw [if_neg c4] at h; cases h
     obtain ⟨rfl, c4⟩ := c4
     clear h cl gv
     have c4b : ((tl.length : Int) != wrap64 ((ul.length : Int) + tm)) = false := by simp [c4]
     go_upto_region 19 with (go_at_call 31; (with_reducible refine (impl_LonelySeats.calls k ts tr At ct tl [] true _ Ft.out Lt.out (HT.out.below HB.out) B1.out).mono ?_); rintro e w26_ ⟨v_, rfl, hR, hb⟩; obtain ⟨Al, cl, e_, hc_, hC_⟩ := Kd.R_reads hR; subst e_; replace HB := Aside0.mk (below_step HB.out hb); replace Fr := Aside0.mk (Kd.C_below Fr.out hb); replace Fa := Aside0.mk (Kd.C_below Fa.out hb); replace Fb := Aside0.mk (Kd.C_below Fb.out hb); replace Fp := Aside0.mk (Kd.C_below Fp.out hb); replace Fq := Aside0.mk (Kd.C_below Fq.out hb); replace Fo := Aside0.mk (Kd.C_below Fo.out hb); replace Fn := Aside0.mk (Kd.C_below Fn.out hb); replace Fc := Aside0.mk (Kd.C_below Fc.out hb); replace Fu := Aside0.mk (Kd.C_below Fu.out hb); replace Ft := Aside0.mk (Kd.C_below Ft.out hb); replace Fs := Aside0.mk (Kd.C_below Fs.out hb); replace BKr := Aside0.mk (blk_below BKr.out hb); replace BKu := Aside0.mk (blk_below BKu.out hb); replace BKt := Aside0.mk (blk_below BKt.out hb); replace BKs := Aside0.mk (blk_below BKs.out hb); clear hb; have Fl := Aside0.mk hC_; have Ll := Aside0.mk hc_; clear hR hC_ hc_; (try clear qBKr_0 qBKr_1 qBKr_2); obtain ⟨qBKr_0, qBKr_1, qBKr_2⟩ := pol_cells BKr.out; (try clear qBKu_0 qBKu_1 qBKu_2); obtain ⟨qBKu_0, qBKu_1, qBKu_2⟩ := pol_cells BKu.out; (try clear qBKt_0 qBKt_1 qBKt_2); obtain ⟨qBKt_0, qBKt_1, qBKt_2⟩ := pol_cells BKt.out; (try clear qBKs_0 qBKs_1 qBKs_2); obtain ⟨qBKs_0, qBKs_1, qBKs_2⟩ := pol_cells BKs.out)
     go_upto_region 20 with (first | (go_at_call 28; (with_reducible refine (impl_SettleRow.calls k ts tr At ct tl ags agr agl 0 true _ Ft.out Lt.out (HT.out.below HB.out) B2.out).mono ?_); rintro e w27_ ⟨v_, rfl, hR, hb⟩; obtain ⟨Ag, cg, e_, hc_, hC_⟩ := Kd.R_reads hR; subst e_; replace HB := Aside0.mk (below_step HB.out hb); replace Fr := Aside0.mk (Kd.C_below Fr.out hb); replace Fa := Aside0.mk (Kd.C_below Fa.out hb); replace Fb := Aside0.mk (Kd.C_below Fb.out hb); replace Fp := Aside0.mk (Kd.C_below Fp.out hb); replace Fq := Aside0.mk (Kd.C_below Fq.out hb); replace Fo := Aside0.mk (Kd.C_below Fo.out hb); replace Fn := Aside0.mk (Kd.C_below Fn.out hb); replace Fc := Aside0.mk (Kd.C_below Fc.out hb); replace Fu := Aside0.mk (Kd.C_below Fu.out hb); replace Ft := Aside0.mk (Kd.C_below Ft.out hb); replace Fs := Aside0.mk (Kd.C_below Fs.out hb); replace Fl := Aside0.mk (Kd.C_below Fl.out hb); replace BKr := Aside0.mk (blk_below BKr.out hb); replace BKu := Aside0.mk (blk_below BKu.out hb); replace BKt := Aside0.mk (blk_below BKt.out hb); replace BKs := Aside0.mk (blk_below BKs.out hb); clear hb; have Fg := Aside0.mk hC_; have Lg := Aside0.mk hc_; clear hR hC_ hc_; (try clear qBKr_0 qBKr_1 qBKr_2); obtain ⟨qBKr_0, qBKr_1, qBKr_2⟩ := pol_cells BKr.out; (try clear qBKu_0 qBKu_1 qBKu_2); obtain ⟨qBKu_0, qBKu_1, qBKu_2⟩ := pol_cells BKu.out; (try clear qBKt_0 qBKt_1 qBKt_2); obtain ⟨qBKt_0, qBKt_1, qBKt_2⟩ := pol_cells BKt.out; (try clear qBKs_0 qBKs_1 qBKs_2); obtain ⟨qBKs_0, qBKs_1, qBKs_2⟩ := pol_cells BKs.out) | ((with_reducible refine gate_dst (N := 29) rfl ?_); refine box_event ?hg (N := 29) ?hd (cs := #[.int .i64 0, .bool false, .slice none 0 0]) (t := 26) ?hr ?_; (case hd => rfl); (case hg => rfl); (case hr => first | (go_simp; done) | (go_simp; rfl)); intro gg hg_ w28_ hbox hb; have z_0 : w28_.cell? ⟨gg, 0, none⟩ = some (.int .i64 0) := (blk_cell hbox 0).trans rfl; have f_0 := blk_frozen hbox 0; have z_1 : w28_.cell? ⟨gg, 1, none⟩ = some (.bool false) := (blk_cell hbox 1).trans rfl; have f_1 := blk_frozen hbox 1; have z_2 : w28_.cell? ⟨gg, 2, none⟩ = some (.slice none 0 0) := (blk_cell hbox 2).trans rfl; have f_2 := blk_frozen hbox 2; have BX := Aside0.mk hbox; have HX := Aside0.mk hb; have GX := Aside0.mk hg_; clear hbox hb hg_))
     obtain ⟨w29_, e_, hbox, hb⟩ := pol_box BX.out HX.out (Nat.le_of_eq GX.out.symm) (.int .i64 ags) (.bool agr) (.slice Ag agl.length cg)
     rw [e_]
     clear e_ z_0 z_1 z_2 f_0 f_1 f_2 BX HX GX
     replace HB := Aside0.mk (below_step HB.out hb)
     replace Fr := Aside0.mk (Kd.C_below Fr.out hb)
     replace Fa := Aside0.mk (Kd.C_below Fa.out hb)
     replace Fb := Aside0.mk (Kd.C_below Fb.out hb)
     replace Fp := Aside0.mk (Kd.C_below Fp.out hb)
     replace Fq := Aside0.mk (Kd.C_below Fq.out hb)
     replace Fo := Aside0.mk (Kd.C_below Fo.out hb)
     replace Fn := Aside0.mk (Kd.C_below Fn.out hb)
     replace Fc := Aside0.mk (Kd.C_below Fc.out hb)
     replace Fu := Aside0.mk (Kd.C_below Fu.out hb)
     replace Ft := Aside0.mk (Kd.C_below Ft.out hb)
     replace Fs := Aside0.mk (Kd.C_below Fs.out hb)
     replace Fl := Aside0.mk (Kd.C_below Fl.out hb)
     replace Fg := Aside0.mk (Kd.C_below Fg.out hb)
     replace BKr := Aside0.mk (blk_below BKr.out hb)
     replace BKu := Aside0.mk (blk_below BKu.out hb)
     replace BKt := Aside0.mk (blk_below BKt.out hb)
     replace BKs := Aside0.mk (blk_below BKs.out hb)
     clear hb
     have BKg := Aside0.mk hbox
     clear hbox
     (try clear qBKr_0 qBKr_1 qBKr_2)
     obtain ⟨qBKr_0, qBKr_1, qBKr_2⟩ := pol_cells BKr.out
     (try clear qBKu_0 qBKu_1 qBKu_2)
     obtain ⟨qBKu_0, qBKu_1, qBKu_2⟩ := pol_cells BKu.out
     (try clear qBKt_0 qBKt_1 qBKt_2)
     obtain ⟨qBKt_0, qBKt_1, qBKt_2⟩ := pol_cells BKt.out
     (try clear qBKs_0 qBKs_1 qBKs_2)
     obtain ⟨qBKs_0, qBKs_1, qBKs_2⟩ := pol_cells BKs.out
     (try clear qBKg_0 qBKg_1 qBKg_2)
     obtain ⟨qBKg_0, qBKg_1, qBKg_2⟩ := pol_cells BKg.out
     go_wp2_with (go_at_call 15; (with_reducible refine (laws_vRow.calls k ags agr Ag cg agl ts tr At ct tl true _ Fg.out Lg.out Ft.out Lt.out B3.out).mono ?_); rintro e w30_ ⟨rfl, hb⟩; replace HB := Aside0.mk (below_step HB.out hb); replace Fr := Aside0.mk (Kd.C_below Fr.out hb); replace Fa := Aside0.mk (Kd.C_below Fa.out hb); replace Fb := Aside0.mk (Kd.C_below Fb.out hb); replace Fp := Aside0.mk (Kd.C_below Fp.out hb); replace Fq := Aside0.mk (Kd.C_below Fq.out hb); replace Fo := Aside0.mk (Kd.C_below Fo.out hb); replace Fn := Aside0.mk (Kd.C_below Fn.out hb); replace Fc := Aside0.mk (Kd.C_below Fc.out hb); replace Fu := Aside0.mk (Kd.C_below Fu.out hb); replace Ft := Aside0.mk (Kd.C_below Ft.out hb); replace Fs := Aside0.mk (Kd.C_below Fs.out hb); replace Fl := Aside0.mk (Kd.C_below Fl.out hb); replace Fg := Aside0.mk (Kd.C_below Fg.out hb); replace BKr := Aside0.mk (blk_below BKr.out hb); replace BKu := Aside0.mk (blk_below BKu.out hb); replace BKt := Aside0.mk (blk_below BKt.out hb); replace BKs := Aside0.mk (blk_below BKs.out hb); replace BKg := Aside0.mk (blk_below BKg.out hb); clear hb; (try clear qBKr_0 qBKr_1 qBKr_2); obtain ⟨qBKr_0, qBKr_1, qBKr_2⟩ := pol_cells BKr.out; (try clear qBKu_0 qBKu_1 qBKu_2); obtain ⟨qBKu_0, qBKu_1, qBKu_2⟩ := pol_cells BKu.out; (try clear qBKt_0 qBKt_1 qBKt_2); obtain ⟨qBKt_0, qBKt_1, qBKt_2⟩ := pol_cells BKt.out; (try clear qBKs_0 qBKs_1 qBKs_2); obtain ⟨qBKs_0, qBKs_1, qBKs_2⟩ := pol_cells BKs.out; (try clear qBKg_0 qBKg_1 qBKg_2); obtain ⟨qBKg_0, qBKg_1, qBKg_2⟩ := pol_cells BKg.out)
     go_meet
     case rel => exact ⟨HB, Fr, Fa, Fp, Fo, BKr⟩
  case rest =>
   as_aux_lemma =>
    clear HB Fr Fa Fp Fo BKr
    (try clear A19)
    obtain ⟨HB, Fr, Fa, Fp, Fo, BKr⟩ := hcut
    clear A2 A3 A4 A5 A6 A7 A8 A9 A10 A11 A12 A13 A14 A15 A16 A17 A18
    have H := HH.out
    clear HH
    cases fo with
    | false =>
     go_wp2
     go_ret
     exact ⟨rfl, HB.out⟩
    | true =>
     rw [if_pos rfl] at H
     unfold laws_FnPolite.h at H
     replace H := Option.bind_eq_some_iff.mp H
     obtain ⟨⟨fr, fk⟩, d1, H0⟩ := H
     have H := H0
     clear H0
     have D1 := Aside0.mk d1
     clear d1
     simp only at H
     by_cases c5 : fk = true ∧ od.length = fr.length ∧ th = decide (0 < fr.length) ∧ (th = true → 0 < po.length ∧ rd po 0 = ne ∧ 0 < od.length ∧ rd od 0 = ne)
     rotate_left
     ·rw [if_neg c5] at H; cases H
     rw [if_pos c5] at H
     obtain ⟨rfl, cl, ct, cn⟩ := c5
     have CL := Aside0.mk cl
     have CT := Aside0.mk ct
     have CN := Aside0.mk cn
     clear cl ct cn
     replace H := Option.bind_eq_some_iff.mp H
     obtain ⟨b0, d2, H0⟩ := H
     have H := H0
     clear H0
     have D2 := Aside0.mk d2
     clear d2
     have D3 := Aside0.mk H
     clear H
     have qBKr_0 : wc.cell? ⟨gr, 0, none⟩ = some (.int .i64 rs) := (blk_cell BKr.out 0).trans rfl
     have qBKr_1 : wc.cell? ⟨gr, 1, none⟩ = some (.bool rr) := (blk_cell BKr.out 1).trans rfl
     have qBKr_2 : wc.cell? ⟨gr, 2, none⟩ = some (.slice Ar rl.length cr) := (blk_cell BKr.out 2).trans rfl
     go_upto_region 25 with (go_at_call 32; (with_reducible refine (impl_FreeSeats.calls k rs rr Ar cr rl fr true _ Fr.out Lr.out (HT.out.below HB.out) D1.out).mono ?_); rintro e w41_ ⟨v_, rfl, hR, hb⟩; obtain ⟨Af, cf, e_, hc_, hC_⟩ := Kd.R_reads hR; subst e_; replace HB := Aside0.mk (below_step HB.out hb); replace Fr := Aside0.mk (Kd.C_below Fr.out hb); replace Fa := Aside0.mk (Kd.C_below Fa.out hb); replace Fp := Aside0.mk (Kd.C_below Fp.out hb); replace Fo := Aside0.mk (Kd.C_below Fo.out hb); replace BKr := Aside0.mk (blk_below BKr.out hb); clear hb; have Ff := Aside0.mk hC_; have Lf := Aside0.mk hc_; clear hR hC_ hc_; (try clear qBKr_0 qBKr_1 qBKr_2); obtain ⟨qBKr_0, qBKr_1, qBKr_2⟩ := pol_cells BKr.out)
     have cl2 : ((od.length : Int) != (fr.length : Int)) = false := by simp [CL.out]
     skip
     skip
     go_cut [257] (fun v257 wc2 => v257 = .bool false ∧ Aside0 (Below w.heap.size w wc2) ∧ Aside0 (Kd.C (Kd.int .i64) wc2 Ar rl.length rl) ∧ Aside0 (Kd.C (Kd.int .i64) wc2 Aa fa.length fa) ∧ Aside0 (Kd.C (Kd.int .i64) wc2 Ap po.length po) ∧ Aside0 (Kd.C (Kd.int .i64) wc2 Ao od.length od) ∧ Aside0 (wc2.heap[gr]? = some (.cells #[.int .i64 rs, .bool rr, .slice Ar rl.length cr] 26 (0, 0))))
     case first =>
      as_aux_lemma =>
       have ct := CT.out
       have cn := CN.out
       clear CT CN
       cases th with
       | false =>
        have cf : ¬ 0 < fr.length := fun h_ => by rw [decide_eq_true h_] at ct; cases ct
        have g1 : decide ((0 : Int) < (fr.length : Int)) = false := decide_eq_false (by omega)
        have g2 : decide (0 < fr.length) = false := decide_eq_false cf
        clear ct cn cf CL
        go_wp2
        go_meet
        case rel => exact ⟨by first | rfl | (simp; done) | (simp [*]; done), HB, Fr, Fa, Fp, Fo, BKr⟩
       | true =>
        have cf : 0 < fr.length := of_decide_eq_true ct.symm
        have g1 : decide ((0 : Int) < (fr.length : Int)) = true := decide_eq_true (by omega)
        have g2 : decide (0 < fr.length) = true := decide_eq_true cf
        obtain ⟨cn1, cn2, cn3, cn4⟩ := cn rfl
        obtain ⟨adp, ep, hp0⟩ := Kd.at_int Fp.out 0 (by omega) (by omega)
        obtain ⟨ado, eo, ho0⟩ := Kd.at_int Fo.out 0 (by omega) (by omega)
        cases ep
        cases eo
        rw [cn2] at hp0
        rw [cn4] at ho0
        have hp1 : w41_.cell? (adp.add 0) = some (.int .i64 ne) := hp0
        have ho1 : w41_.cell? (ado.add 0) = some (.int .i64 ne) := ho0
        have hp2 : w41_.cell? adp = some (.int .i64 ne) := by rw [← Addr.add_zero' adp]; exact hp0
        have ho2 : w41_.cell? ado = some (.int .i64 ne) := by rw [← Addr.add_zero' ado]; exact ho0
        have g3 : decide ((0 : Int) < (po.length : Int)) = true := decide_eq_true (by omega)
        have g4 : decide (0 < po.length) = true := decide_eq_true cn1
        have g5 : decide ((0 : Int) < (od.length : Int)) = true := decide_eq_true (by omega)
        have g6 : decide (0 < od.length) = true := decide_eq_true cn3
        have g7 : ((po.length : Int) == 0) = false := beq_eq_false_iff_ne.mpr (by omega)
        have g8 : ((po.length : Int) = 0) = False := eq_false (by omega)
        have g9 : (0 < po.length) = True := eq_true cn1
        have g10 : (0 < od.length) = True := eq_true cn3
        have g11 : (po = []) = False := eq_false (fun e_ => by rw [e_] at cn1; exact absurd cn1 (by decide))
        clear ct cn cf cn1 cn2 cn3 cn4 CL
        go_wp2
        go_meet
        case rel => exact ⟨by first | rfl | (simp; done) | (simp [*]; done), HB, Fr, Fa, Fp, Fo, BKr⟩
     case rest =>
      as_aux_lemma =>
       clear HB Fr Fa Fp Fo BKr Ff cl2 CL CT CN D1 qBKr_0 qBKr_1 qBKr_2
       (try clear Lf)
       obtain ⟨rfl, HB, Fr, Fa, Fp, Fo, BKr⟩ := hcut
       have qBKr_0 : wc.cell? ⟨gr, 0, none⟩ = some (.int .i64 rs) := (blk_cell BKr.out 0).trans rfl
       have qBKr_1 : wc.cell? ⟨gr, 1, none⟩ = some (.bool rr) := (blk_cell BKr.out 1).trans rfl
       have qBKr_2 : wc.cell? ⟨gr, 2, none⟩ = some (.slice Ar rl.length cr) := (blk_cell BKr.out 2).trans rfl
       go_wp2
       have H := D2.out
       clear D2
       have HQ0 := Aside0.mk (Below.refl wc.heap.size wc)
       have D2 := Aside0.mk H
       clear H
       go_loopg [34] k (fun kq v34 w' => ∃ p : Int, v34 = .int .i64 p ∧ Aside0 (laws_FnPolite.l0 kq rs fa po p = some b0) ∧ Aside0 (kq ≤ k) ∧ Aside0 (Below wc.heap.size wc w'))
       case atStart => exact ⟨0, rfl, D2, ⟨Nat.le_refl _⟩, HQ0⟩
       case round =>
        clear D2 HQ0 qBKr_0 qBKr_1 qBKr_2
        obtain ⟨p, rfl, HA, HK1, HQ⟩ := hrel
        cases gk with
        | zero => exact absurd HA.out (by simp [laws_FnPolite.l0])
        | succ k1 =>
         have H := HA.out
         clear HA
         simp only [laws_FnPolite.l0] at H
         have z0 : wr.cell? ⟨gr, 0, none⟩ = some (.int .i64 rs) := (blk_cell (blk_below BKr.out HQ.out) 0).trans rfl
         have z1 : wr.cell? ⟨gr, 1, none⟩ = some (.bool rr) := (blk_cell (blk_below BKr.out HQ.out) 1).trans rfl
         have z2 : wr.cell? ⟨gr, 2, none⟩ = some (.slice Ar rl.length cr) := (blk_cell (blk_below BKr.out HQ.out) 2).trans rfl
         by_cases c8 : p < rs
         ·rw [if_pos c8] at H
          have c8b : decide (p < rs) = true := decide_eq_true c8
          replace H := Option.bind_eq_some_iff.mp H
          obtain ⟨b1, e1, H0⟩ := H
          have H := H0
          clear H0
          have E1 := Aside0.mk e1
          clear e1
          have E2 := Aside0.mk H
          clear H
          go_wp2
          have HQ1 := HQ
          go_loopg [35] k1 (fun kq v35 w' => ∃ i : Int, v35 = .int .i64 i ∧ Aside0 (laws_FnPolite.l1 kq fa po p i = some b1) ∧ Aside0 (kq ≤ k1) ∧ Aside0 (Below wc.heap.size wc w'))
          case atStart => exact ⟨0, rfl, E1, ⟨Nat.le_refl _⟩, HQ1⟩
          case round =>
           clear E1 HQ1 HQ z0 z1 z2
           obtain ⟨i, rfl, HA, HK2, HQ⟩ := hrel
           cases gk with
           | zero => exact absurd HA.out (by simp [laws_FnPolite.l1])
           | succ k2 =>
            have H := HA.out
            clear HA
            simp only [laws_FnPolite.l1] at H
            by_cases c9 : i < (po.length : Int)
            ·rw [if_pos c9] at H
             have c9b : decide (i < (po.length : Int)) = true := decide_eq_true c9
             by_cases c10 : 0 ≤ i ∧ 0 ≤ p ∧ p < (fa.length : Int) ∧ 0 ≤ rd po i ∧ rd po i < (fa.length : Int)
             rotate_left
             ·rw [if_neg c10] at H; cases H
             rw [if_pos c10] at H
             obtain ⟨d1, d2, d3, d4, d5⟩ := c10
             by_cases c11 : rd fa p > rd fa (rd po i)
             ·rw [if_pos c11] at H; cases H
             rw [if_neg c11] at H
             have c11b : decide (rd fa (rd po i) < rd fa p) = false := decide_eq_false c11
             clear c11
             have CP := Aside0.mk (Kd.C_below Fp.out HQ.out)
             have CA := Aside0.mk (Kd.C_below Fa.out HQ.out)
             obtain ⟨adp, ep, hp0⟩ := Kd.at_int CP.out i d1 c9
             obtain ⟨ada, ea, hp1⟩ := Kd.at_int CA.out p d2 d3
             obtain ⟨ada', ea', hp2⟩ := Kd.at_int CA.out (rd po i) d4 d5
             cases ep
             cases ea
             cases ea'
             replace d1 := eq_true d1
             replace d2 := eq_true d2
             replace d3 := eq_true d3
             replace d4 := eq_true d4
             replace d5 := eq_true d5
             have c9c := eq_true c9
             by_cases c12 : rd fa p = rd fa (rd po i)
             ·rw [if_pos c12] at H
              have c12b : (rd fa p == rd fa (rd po i)) = true := beq_iff_eq.mpr c12
              clear c12
              replace H := Option.bind_eq_some_iff.mp H
              obtain ⟨hv, e5, H0⟩ := H
              have H := H0
              clear H0
              have E5 := Aside0.mk e5
              clear e5
              by_cases c13 : hv = true
              rotate_left
              ·rw [if_neg c13] at H; cases H
              rw [if_pos c13] at H
              obtain rfl := c13
              have HH := Aside0.mk H
              clear H
              go_upto_region 33 with (fail)
              refine start_ (n := 32) (S := fun w' => w'.cell? (ada.add p.toNat) = some (.int .i64 (rd fa p)) ∧ w'.cell? (adp.add i.toNat) = some (.int .i64 (rd po i)) ∧ w'.cell? (ada.add (rd po i).toNat) = some (.int .i64 (rd fa (rd po i)))) (ds := []) #[false, false, false, false, false, false, false, false, false, false, false, false, false, false, false, false, false, false, false, false, false, false, false, false, false, false, false, false, false, false, false, false] (by kernel_rfl) rfl rfl ⟨pol_atC (Kd.C_below CA.out (below_drew1 (Below.refl _ _))) p (of_eq_true d2) (of_eq_true d3), pol_atC (Kd.C_below CP.out (below_drew1 (Below.refl _ _))) i (of_eq_true d1) (of_eq_true c9c), pol_atC (Kd.C_below CA.out (below_drew1 (Below.refl _ _))) (rd po i) (of_eq_true d4) (of_eq_true d5)⟩ (fun hHeld => ?_)
              refine with_tabW laws_FnPolite.tab33 laws_FnPolite.bits33 (fun HT_ HW_ => ?_)
              have HQ2 := Aside0.mk (below_drew1 HQ.out)
              have CP2 := Aside0.mk (Kd.C_below CP.out (below_drew1 (Below.refl _ _)))
              have CA2 := Aside0.mk (Kd.C_below CA.out (below_drew1 (Below.refl _ _)))
              clear HQ CP CA hp0 hp1 hp2
              have HQ := HQ2
              have CP := CP2
              have CA := CA2
              clear HQ2 CP2 CA2
              generalize World.drew _ = w33 at HQ CP CA hHeld ⊢
              refine pure_ (i := 0) (N := some 270) (v := ?_) (a' := ?_) #[true, false, false, false, false, false, false, false, false, false, false, false, false, false, false, false, false, false, false, false, false, false, false, false, false, false, false, false, false, false, false, false] rfl rfl (any_of HT_.out (by kernel_rfl)) (fun _ _ _ h => h) (Or.inl ⟨by rfl, ?_⟩) ?_ ?_
              rotate_left
              ·intro w'
               go_simp
               with_reducible rfl
              rotate_left
              ·simp only [Act.put, List.setIfInBounds_toArray, List.set_cons_zero, List.set_cons_succ, i64_w, i32_w]
               rfl
              refine pure_ (i := 1) (N := some 271) (v := ?_) (a' := ?_) #[true, true, false, false, false, false, false, false, false, false, false, false, false, false, false, false, false, false, false, false, false, false, false, false, false, false, false, false, false, false, false, false] rfl rfl (any_of HT_.out (by kernel_rfl)) (fun _ _ _ h => h) (Or.inl ⟨by rfl, ?_⟩) ?_ ?_
              rotate_left
              ·intro w'
               go_simp
               with_reducible rfl
              rotate_left
              ·simp only [Act.put, List.setIfInBounds_toArray, List.set_cons_zero, List.set_cons_succ, i64_w, i32_w]
               rfl
              refine pure_ (i := 2) (N := some 272) (v := ?_) (a' := ?_) #[true, true, true, false, false, false, false, false, false, false, false, false, false, false, false, false, false, false, false, false, false, false, false, false, false, false, false, false, false, false, false, false] rfl rfl (any_of HT_.out (by kernel_rfl)) (fun _ _ _ h => h) (Or.inl ⟨by rfl, ?_⟩) ?_ ?_
              rotate_left
              ·intro w'
               go_simp
               with_reducible rfl
              rotate_left
              ·simp only [Act.put, List.setIfInBounds_toArray, List.set_cons_zero, List.set_cons_succ, i64_w, i32_w]
               rfl
              refine pure_ (i := 4) (N := some 274) (v := ?_) (a' := ?_) #[true, true, true, false, true, false, false, false, false, false, false, false, false, false, false, false, false, false, false, false, false, false, false, false, false, false, false, false, false, false, false, false] rfl rfl (any_of HT_.out (by kernel_rfl)) (fun _ _ _ h => h) (Or.inl ⟨by rfl, ?_⟩) ?_ ?_
              rotate_left
              ·intro w'
               go_simp
               with_reducible rfl
              rotate_left
              ·simp only [Act.put, List.setIfInBounds_toArray, List.set_cons_zero, List.set_cons_succ, i64_w, i32_w]
               rfl
              refine pure_ (i := 5) (N := some 275) (v := ?_) (a' := ?_) #[true, true, true, false, true, true, false, false, false, false, false, false, false, false, false, false, false, false, false, false, false, false, false, false, false, false, false, false, false, false, false, false] rfl rfl (any_of HT_.out (by kernel_rfl)) (fun _ _ _ h => h) (Or.inl ⟨by rfl, ?_⟩) ?_ ?_
              rotate_left
              ·intro w'
               go_simp
               with_reducible rfl
              rotate_left
              ·simp only [Act.put, List.setIfInBounds_toArray, List.set_cons_zero, List.set_cons_succ, i64_w, i32_w]
               rfl
              refine pure_ (i := 6) (N := some 276) (v := ?_) (a' := ?_) #[true, true, true, false, true, true, true, false, false, false, false, false, false, false, false, false, false, false, false, false, false, false, false, false, false, false, false, false, false, false, false, false] rfl rfl (any_of HT_.out (by kernel_rfl)) (fun _ _ _ h => h) (Or.inl ⟨by rfl, ?_⟩) ?_ ?_
              rotate_left
              ·intro w'
               go_simp
               with_reducible rfl
              rotate_left
              ·simp only [Act.put, List.setIfInBounds_toArray, List.set_cons_zero, List.set_cons_succ, i64_w, i32_w]
               rfl
              refine pure_ (i := 7) (N := some 277) (v := ?_) (a' := ?_) #[true, true, true, false, true, true, true, true, false, false, false, false, false, false, false, false, false, false, false, false, false, false, false, false, false, false, false, false, false, false, false, false] rfl rfl (any_of HT_.out (by kernel_rfl)) (fun _ _ _ h => h) (Or.inl ⟨by rfl, ?_⟩) ?_ ?_
              rotate_left
              ·intro w'
               go_simp
               with_reducible rfl
              rotate_left
              ·simp only [Act.put, List.setIfInBounds_toArray, List.set_cons_zero, List.set_cons_succ, i64_w, i32_w]
               rfl
              refine take_ (i := 3) (N := some 273) (v := ?_) (a' := ?_) #[true, true, true, true, true, true, true, true, false, false, false, false, false, false, false, false, false, false, false, false, false, false, false, false, false, false, false, false, false, false, false, false] rfl rfl (take_ofW HT_.out HW_.out (by kernel_rfl)) (fun _ _ _ h => h) (Or.inl ⟨by rfl, ?_⟩) hHeld ?_ ?_
              rotate_left
              ·rintro w' ⟨s0, s1, s2⟩
               go_simp
               with_reducible rfl
              rotate_left
              ·simp only [Act.put, List.setIfInBounds_toArray, List.set_cons_zero, List.set_cons_succ, i64_w, i32_w]
               rfl
              refine take_ (i := 8) (N := some 278) (v := ?_) (a' := ?_) #[true, true, true, true, true, true, true, true, true, false, false, false, false, false, false, false, false, false, false, false, false, false, false, false, false, false, false, false, false, false, false, false] rfl rfl (take_ofW HT_.out HW_.out (by kernel_rfl)) (fun _ _ _ h => h) (Or.inl ⟨by rfl, ?_⟩) hHeld ?_ ?_
              rotate_left
              ·rintro w' ⟨s0, s1, s2⟩
               go_simp
               with_reducible rfl
              rotate_left
              ·simp only [Act.put, List.setIfInBounds_toArray, List.set_cons_zero, List.set_cons_succ, i64_w, i32_w]
               rfl
              refine pure_ (i := 9) (N := some 279) (v := ?_) (a' := ?_) #[true, true, true, true, true, true, true, true, true, true, false, false, false, false, false, false, false, false, false, false, false, false, false, false, false, false, false, false, false, false, false, false] rfl rfl (any_of HT_.out (by kernel_rfl)) (fun _ _ _ h => h) (Or.inl ⟨by rfl, ?_⟩) ?_ ?_
              rotate_left
              ·intro w'
               go_simp
               with_reducible rfl
              rotate_left
              ·simp only [Act.put, List.setIfInBounds_toArray, List.set_cons_zero, List.set_cons_succ, i64_w, i32_w]
               rfl
              refine take_ (i := 10) (N := some 280) (v := ?_) (a' := ?_) #[true, true, true, true, true, true, true, true, true, true, true, false, false, false, false, false, false, false, false, false, false, false, false, false, false, false, false, false, false, false, false, false] rfl rfl (take_ofW HT_.out HW_.out (by kernel_rfl)) (fun _ _ _ h => h) (Or.inl ⟨by rfl, ?_⟩) hHeld ?_ ?_
              rotate_left
              ·rintro w' ⟨s0, s1, s2⟩
               go_simp
               with_reducible rfl
              rotate_left
              ·simp only [Act.put, List.setIfInBounds_toArray, List.set_cons_zero, List.set_cons_succ, i64_w, i32_w]
               rfl
              refine pure_ (i := 11) (N := some 281) (v := ?_) (a' := ?_) #[true, true, true, true, true, true, true, true, true, true, true, true, false, false, false, false, false, false, false, false, false, false, false, false, false, false, false, false, false, false, false, false] rfl rfl (any_of HT_.out (by kernel_rfl)) (fun _ _ _ h => h) (Or.inl ⟨by rfl, ?_⟩) ?_ ?_
              rotate_left
              ·intro w'
               go_simp
               with_reducible rfl
              rotate_left
              ·simp only [Act.put, List.setIfInBounds_toArray, List.set_cons_zero, List.set_cons_succ, i64_w, i32_w]
               rfl
              refine pure_ (i := 12) (N := some 282) (v := ?_) (a' := ?_) #[true, true, true, true, true, true, true, true, true, true, true, true, true, false, false, false, false, false, false, false, false, false, false, false, false, false, false, false, false, false, false, false] rfl rfl (any_of HT_.out (by kernel_rfl)) (fun _ _ _ h => h) (Or.inl ⟨by rfl, ?_⟩) ?_ ?_
              rotate_left
              ·intro w'
               go_simp
               with_reducible rfl
              rotate_left
              ·simp only [Act.put, List.setIfInBounds_toArray, List.set_cons_zero, List.set_cons_succ, i64_w, i32_w]
               rfl
              refine pure_ (i := 13) (N := some 283) (v := ?_) (a' := ?_) #[true, true, true, true, true, true, true, true, true, true, true, true, true, true, false, false, false, false, false, false, false, false, false, false, false, false, false, false, false, false, false, false] rfl rfl (any_of HT_.out (by kernel_rfl)) (fun _ _ _ h => h) (Or.inl ⟨by rfl, ?_⟩) ?_ ?_
              rotate_left
              ·intro w'
               go_simp
               with_reducible rfl
              rotate_left
              ·simp only [Act.put, List.setIfInBounds_toArray, List.set_cons_zero, List.set_cons_succ, i64_w, i32_w]
               rfl
              refine pure_ (i := 14) (N := some 284) (v := ?_) (a' := ?_) #[true, true, true, true, true, true, true, true, true, true, true, true, true, true, true, false, false, false, false, false, false, false, false, false, false, false, false, false, false, false, false, false] rfl rfl (any_of HT_.out (by kernel_rfl)) (fun _ _ _ h => h) (Or.inl ⟨by rfl, ?_⟩) ?_ ?_
              rotate_left
              ·intro w'
               go_simp
               with_reducible rfl
              rotate_left
              ·simp only [Act.put, List.setIfInBounds_toArray, List.set_cons_zero, List.set_cons_succ, i64_w, i32_w]
               rfl
              refine pure_ (i := 15) (N := some 285) (v := ?_) (a' := ?_) #[true, true, true, true, true, true, true, true, true, true, true, true, true, true, true, true, false, false, false, false, false, false, false, false, false, false, false, false, false, false, false, false] rfl rfl (any_of HT_.out (by kernel_rfl)) (fun _ _ _ h => h) (Or.inl ⟨by rfl, ?_⟩) ?_ ?_
              rotate_left
              ·intro w'
               go_simp
               with_reducible rfl
              rotate_left
              ·simp only [Act.put, List.setIfInBounds_toArray, List.set_cons_zero, List.set_cons_succ, i64_w, i32_w]
               rfl
              refine pure_ (i := 17) (N := some 287) (v := ?_) (a' := ?_) #[true, true, true, true, true, true, true, true, true, true, true, true, true, true, true, true, false, true, false, false, false, false, false, false, false, false, false, false, false, false, false, false] rfl rfl (any_of HT_.out (by kernel_rfl)) (fun _ _ _ h => h) (Or.inl ⟨by rfl, ?_⟩) ?_ ?_
              rotate_left
              ·intro w'
               go_simp
               with_reducible rfl
              rotate_left
              ·simp only [Act.put, List.setIfInBounds_toArray, List.set_cons_zero, List.set_cons_succ, i64_w, i32_w]
               rfl
              refine pure_ (i := 18) (N := some 288) (v := ?_) (a' := ?_) #[true, true, true, true, true, true, true, true, true, true, true, true, true, true, true, true, false, true, true, false, false, false, false, false, false, false, false, false, false, false, false, false] rfl rfl (any_of HT_.out (by kernel_rfl)) (fun _ _ _ h => h) (Or.inl ⟨by rfl, ?_⟩) ?_ ?_
              rotate_left
              ·intro w'
               go_simp
               with_reducible rfl
              rotate_left
              ·simp only [Act.put, List.setIfInBounds_toArray, List.set_cons_zero, List.set_cons_succ, i64_w, i32_w]
               rfl
              refine pure_ (i := 19) (N := some 289) (v := ?_) (a' := ?_) #[true, true, true, true, true, true, true, true, true, true, true, true, true, true, true, true, false, true, true, true, false, false, false, false, false, false, false, false, false, false, false, false] rfl rfl (any_of HT_.out (by kernel_rfl)) (fun _ _ _ h => h) (Or.inl ⟨by rfl, ?_⟩) ?_ ?_
              rotate_left
              ·intro w'
               go_simp
               with_reducible rfl
              rotate_left
              ·simp only [Act.put, List.setIfInBounds_toArray, List.set_cons_zero, List.set_cons_succ, i64_w, i32_w]
               rfl
              refine pure_ (i := 20) (N := some 290) (v := ?_) (a' := ?_) #[true, true, true, true, true, true, true, true, true, true, true, true, true, true, true, true, false, true, true, true, true, false, false, false, false, false, false, false, false, false, false, false] rfl rfl (any_of HT_.out (by kernel_rfl)) (fun _ _ _ h => h) (Or.inl ⟨by rfl, ?_⟩) ?_ ?_
              rotate_left
              ·intro w'
               go_simp
               with_reducible rfl
              rotate_left
              ·simp only [Act.put, List.setIfInBounds_toArray, List.set_cons_zero, List.set_cons_succ, i64_w, i32_w]
               rfl
              refine take_ (i := 16) (N := some 286) (v := ?_) (a' := ?_) #[true, true, true, true, true, true, true, true, true, true, true, true, true, true, true, true, true, true, true, true, true, false, false, false, false, false, false, false, false, false, false, false] rfl rfl (take_ofW HT_.out HW_.out (by kernel_rfl)) (fun _ _ _ h => h) (Or.inl ⟨by rfl, ?_⟩) hHeld ?_ ?_
              rotate_left
              ·rintro w' ⟨s0, s1, s2⟩
               go_simp
               with_reducible rfl
              rotate_left
              ·simp only [Act.put, List.setIfInBounds_toArray, List.set_cons_zero, List.set_cons_succ, i64_w, i32_w]
               rfl
              refine take_ (i := 21) (N := some 291) (v := ?_) (a' := ?_) #[true, true, true, true, true, true, true, true, true, true, true, true, true, true, true, true, true, true, true, true, true, true, false, false, false, false, false, false, false, false, false, false] rfl rfl (take_ofW HT_.out HW_.out (by kernel_rfl)) (fun _ _ _ h => h) (Or.inl ⟨by rfl, ?_⟩) hHeld ?_ ?_
              rotate_left
              ·rintro w' ⟨s0, s1, s2⟩
               go_simp
               with_reducible rfl
              rotate_left
              ·simp only [Act.put, List.setIfInBounds_toArray, List.set_cons_zero, List.set_cons_succ, i64_w, i32_w]
               rfl
              refine pure_ (i := 22) (N := some 292) (v := ?_) (a' := ?_) #[true, true, true, true, true, true, true, true, true, true, true, true, true, true, true, true, true, true, true, true, true, true, true, false, false, false, false, false, false, false, false, false] rfl rfl (any_of HT_.out (by kernel_rfl)) (fun _ _ _ h => h) (Or.inl ⟨by rfl, ?_⟩) ?_ ?_
              rotate_left
              ·intro w'
               go_simp
               with_reducible rfl
              rotate_left
              ·simp only [Act.put, List.setIfInBounds_toArray, List.set_cons_zero, List.set_cons_succ, i64_w, i32_w]
               rfl
              refine take_ (i := 23) (N := some 293) (v := ?_) (a' := ?_) #[true, true, true, true, true, true, true, true, true, true, true, true, true, true, true, true, true, true, true, true, true, true, true, true, false, false, false, false, false, false, false, false] rfl rfl (take_ofW HT_.out HW_.out (by kernel_rfl)) (fun _ _ _ h => h) (Or.inl ⟨by rfl, ?_⟩) hHeld ?_ ?_
              rotate_left
              ·rintro w' ⟨s0, s1, s2⟩
               go_simp
               with_reducible rfl
              rotate_left
              ·simp only [Act.put, List.setIfInBounds_toArray, List.set_cons_zero, List.set_cons_succ, i64_w, i32_w]
               rfl
              refine pure_ (i := 24) (N := some 294) (v := ?_) (a' := ?_) #[true, true, true, true, true, true, true, true, true, true, true, true, true, true, true, true, true, true, true, true, true, true, true, true, true, false, false, false, false, false, false, false] rfl rfl (any_of HT_.out (by kernel_rfl)) (fun _ _ _ h => h) (Or.inl ⟨by rfl, ?_⟩) ?_ ?_
              rotate_left
              ·intro w'
               go_simp
               with_reducible rfl
              rotate_left
              ·simp only [Act.put, List.setIfInBounds_toArray, List.set_cons_zero, List.set_cons_succ, i64_w, i32_w]
               rfl
              refine pure_ (i := 25) (N := some 295) (v := ?_) (a' := ?_) #[true, true, true, true, true, true, true, true, true, true, true, true, true, true, true, true, true, true, true, true, true, true, true, true, true, true, false, false, false, false, false, false] rfl rfl (any_of HT_.out (by kernel_rfl)) (fun _ _ _ h => h) (Or.inl ⟨by rfl, ?_⟩) ?_ ?_
              rotate_left
              ·intro w'
               go_simp
               with_reducible rfl
              rotate_left
              ·simp only [Act.put, List.setIfInBounds_toArray, List.set_cons_zero, List.set_cons_succ, i64_w, i32_w]
               rfl
              refine pure_ (i := 26) (N := some 296) (v := ?_) (a' := ?_) #[true, true, true, true, true, true, true, true, true, true, true, true, true, true, true, true, true, true, true, true, true, true, true, true, true, true, true, false, false, false, false, false] rfl rfl (any_of HT_.out (by kernel_rfl)) (fun _ _ _ h => h) (Or.inl ⟨by rfl, ?_⟩) ?_ ?_
              rotate_left
              ·intro w'
               go_simp
               with_reducible rfl
              rotate_left
              ·simp only [Act.put, List.setIfInBounds_toArray, List.set_cons_zero, List.set_cons_succ, i64_w, i32_w]
               rfl
              refine pure_ (i := 27) (N := some 297) (v := ?_) (a' := ?_) #[true, true, true, true, true, true, true, true, true, true, true, true, true, true, true, true, true, true, true, true, true, true, true, true, true, true, true, true, false, false, false, false] rfl rfl (any_of HT_.out (by kernel_rfl)) (fun _ _ _ h => h) (Or.inl ⟨by rfl, ?_⟩) ?_ ?_
              rotate_left
              ·intro w'
               go_simp
               with_reducible rfl
              rotate_left
              ·simp only [Act.put, List.setIfInBounds_toArray, List.set_cons_zero, List.set_cons_succ, i64_w, i32_w]
               rfl
              refine one_ (i := 28) (N := some 298) #[true, true, true, true, true, true, true, true, true, true, true, true, true, true, true, true, true, true, true, true, true, true, true, true, true, true, true, true, true, false, false, false] rfl rfl (one_of HT_.out (by kernel_rfl)) (by decide) (fun K hK => ?_)
              refine goes_ Tryd.func17 (by kernel_rfl) rfl #[.slice (some adp) po.length cp, .int .i64 p] (by rfl) rfl rfl (by (try simp only [List.map_toArray, List.map_cons, List.map_nil]); first | done | rfl) ?_
              with_reducible refine (laws_vHas.calls k2 _ cp po p true _ CP.out Lp.out E5.out).mono ?_
              rintro e w34 ⟨rfl, hd⟩
              refine ⟨_, rfl, ?_⟩
              have hb := hd.below
              clear hd
              have HQ2 := Aside0.mk (below_step HQ.out hb)
              have CP2 := Aside0.mk (Kd.C_below CP.out hb)
              have CA2 := Aside0.mk (Kd.C_below CA.out hb)
              clear HQ CP CA hb
              have HQ := HQ2
              have CP := CP2
              have CA := CA2
              clear HQ2 CP2 CA2
              refine hK.out _ _ ⟨pol_atC CA.out p (of_eq_true d2) (of_eq_true d3), pol_atC CP.out i (of_eq_true d1) (of_eq_true c9c), pol_atC CA.out (rd po i) (of_eq_true d4) (of_eq_true d5)⟩ (fun hHeld => ?_)
              clear hK K
              refine norm_ (a' := ?_) ?_ ?_
              rotate_left
              ·show Act.put _ (some 298) _ = _
               simp only [Act.put, List.setIfInBounds_toArray, List.set_cons_zero, List.set_cons_succ, i64_w, i32_w]
               rfl
              refine pure_ (i := 29) (N := some 299) (v := ?_) (a' := ?_) #[true, true, true, true, true, true, true, true, true, true, true, true, true, true, true, true, true, true, true, true, true, true, true, true, true, true, true, true, true, true, false, false] rfl rfl (any_of HT_.out (by kernel_rfl)) (fun _ _ _ h => h) (Or.inl ⟨by rfl, ?_⟩) ?_ ?_
              rotate_left
              ·intro w'
               go_simp
               with_reducible rfl
              rotate_left
              ·simp only [Act.put, List.setIfInBounds_toArray, List.set_cons_zero, List.set_cons_succ, i64_w, i32_w]
               rfl
              refine pure_ (i := 30) (N := some 300) (v := ?_) (a' := ?_) #[true, true, true, true, true, true, true, true, true, true, true, true, true, true, true, true, true, true, true, true, true, true, true, true, true, true, true, true, true, true, true, false] rfl rfl (any_of HT_.out (by kernel_rfl)) (fun _ _ _ h => h) (Or.inl ⟨by rfl, ?_⟩) ?_ ?_
              rotate_left
              ·intro w'
               go_simp
               with_reducible rfl
              rotate_left
              ·simp only [Act.put, List.setIfInBounds_toArray, List.set_cons_zero, List.set_cons_succ, i64_w, i32_w]
               rfl
              refine pure_ (i := 31) (N := some 301) (v := ?_) (a' := ?_) #[true, true, true, true, true, true, true, true, true, true, true, true, true, true, true, true, true, true, true, true, true, true, true, true, true, true, true, true, true, true, true, true] rfl rfl (any_of HT_.out (by kernel_rfl)) (fun _ _ _ h => h) (Or.inl ⟨by rfl, ?_⟩) ?_ ?_
              rotate_left
              ·intro w'
               go_simp
               with_reducible rfl
              rotate_left
              ·simp only [Act.put, List.setIfInBounds_toArray, List.set_cons_zero, List.set_cons_succ, i64_w, i32_w]
               rfl
              refine done_ (done_of HT_.out (by kernel_rfl)) ?_

              go_wp2
              go_roundg k2
              case measure => have h_ := HK2.out; omega
              case rel => exact ⟨wrap64 (i + 1), (by first | rfl | (simp; done) | (simp [*]; done)), HH, ⟨by have h_ := HK2.out; omega⟩, HQ⟩
             ·rw [if_neg c12] at H
              have c12b : (rd fa p == rd fa (rd po i)) = false := beq_eq_false_iff_ne.mpr c12
              clear c12
              have HH := Aside0.mk H
              clear H
              go_upto_region 33 with (fail)
              refine start_ (n := 32) (S := fun w' => w'.cell? (ada.add p.toNat) = some (.int .i64 (rd fa p)) ∧ w'.cell? (adp.add i.toNat) = some (.int .i64 (rd po i)) ∧ w'.cell? (ada.add (rd po i).toNat) = some (.int .i64 (rd fa (rd po i)))) (ds := []) #[false, false, false, false, false, false, false, false, false, false, false, false, false, false, false, false, false, false, false, false, false, false, false, false, false, false, false, false, false, false, false, false] (by kernel_rfl) rfl rfl ⟨pol_atC (Kd.C_below CA.out (below_drew1 (Below.refl _ _))) p (of_eq_true d2) (of_eq_true d3), pol_atC (Kd.C_below CP.out (below_drew1 (Below.refl _ _))) i (of_eq_true d1) (of_eq_true c9c), pol_atC (Kd.C_below CA.out (below_drew1 (Below.refl _ _))) (rd po i) (of_eq_true d4) (of_eq_true d5)⟩ (fun hHeld => ?_)
              refine with_tabW laws_FnPolite.tab33 laws_FnPolite.bits33 (fun HT_ HW_ => ?_)
              have HQ2 := Aside0.mk (below_drew1 HQ.out)
              have CP2 := Aside0.mk (Kd.C_below CP.out (below_drew1 (Below.refl _ _)))
              have CA2 := Aside0.mk (Kd.C_below CA.out (below_drew1 (Below.refl _ _)))
              clear HQ CP CA hp0 hp1 hp2
              have HQ := HQ2
              have CP := CP2
              have CA := CA2
              clear HQ2 CP2 CA2
              generalize World.drew _ = w33 at HQ CP CA hHeld ⊢
              refine pure_ (i := 0) (N := some 270) (v := ?_) (a' := ?_) #[true, false, false, false, false, false, false, false, false, false, false, false, false, false, false, false, false, false, false, false, false, false, false, false, false, false, false, false, false, false, false, false] rfl rfl (any_of HT_.out (by kernel_rfl)) (fun _ _ _ h => h) (Or.inl ⟨by rfl, ?_⟩) ?_ ?_
              rotate_left
              ·intro w'
               go_simp
               with_reducible rfl
              rotate_left
              ·simp only [Act.put, List.setIfInBounds_toArray, List.set_cons_zero, List.set_cons_succ, i64_w, i32_w]
               rfl
              refine pure_ (i := 1) (N := some 271) (v := ?_) (a' := ?_) #[true, true, false, false, false, false, false, false, false, false, false, false, false, false, false, false, false, false, false, false, false, false, false, false, false, false, false, false, false, false, false, false] rfl rfl (any_of HT_.out (by kernel_rfl)) (fun _ _ _ h => h) (Or.inl ⟨by rfl, ?_⟩) ?_ ?_
              rotate_left
              ·intro w'
               go_simp
               with_reducible rfl
              rotate_left
              ·simp only [Act.put, List.setIfInBounds_toArray, List.set_cons_zero, List.set_cons_succ, i64_w, i32_w]
               rfl
              refine pure_ (i := 2) (N := some 272) (v := ?_) (a' := ?_) #[true, true, true, false, false, false, false, false, false, false, false, false, false, false, false, false, false, false, false, false, false, false, false, false, false, false, false, false, false, false, false, false] rfl rfl (any_of HT_.out (by kernel_rfl)) (fun _ _ _ h => h) (Or.inl ⟨by rfl, ?_⟩) ?_ ?_
              rotate_left
              ·intro w'
               go_simp
               with_reducible rfl
              rotate_left
              ·simp only [Act.put, List.setIfInBounds_toArray, List.set_cons_zero, List.set_cons_succ, i64_w, i32_w]
               rfl
              refine pure_ (i := 4) (N := some 274) (v := ?_) (a' := ?_) #[true, true, true, false, true, false, false, false, false, false, false, false, false, false, false, false, false, false, false, false, false, false, false, false, false, false, false, false, false, false, false, false] rfl rfl (any_of HT_.out (by kernel_rfl)) (fun _ _ _ h => h) (Or.inl ⟨by rfl, ?_⟩) ?_ ?_
              rotate_left
              ·intro w'
               go_simp
               with_reducible rfl
              rotate_left
              ·simp only [Act.put, List.setIfInBounds_toArray, List.set_cons_zero, List.set_cons_succ, i64_w, i32_w]
               rfl
              refine pure_ (i := 5) (N := some 275) (v := ?_) (a' := ?_) #[true, true, true, false, true, true, false, false, false, false, false, false, false, false, false, false, false, false, false, false, false, false, false, false, false, false, false, false, false, false, false, false] rfl rfl (any_of HT_.out (by kernel_rfl)) (fun _ _ _ h => h) (Or.inl ⟨by rfl, ?_⟩) ?_ ?_
              rotate_left
              ·intro w'
               go_simp
               with_reducible rfl
              rotate_left
              ·simp only [Act.put, List.setIfInBounds_toArray, List.set_cons_zero, List.set_cons_succ, i64_w, i32_w]
               rfl
              refine pure_ (i := 6) (N := some 276) (v := ?_) (a' := ?_) #[true, true, true, false, true, true, true, false, false, false, false, false, false, false, false, false, false, false, false, false, false, false, false, false, false, false, false, false, false, false, false, false] rfl rfl (any_of HT_.out (by kernel_rfl)) (fun _ _ _ h => h) (Or.inl ⟨by rfl, ?_⟩) ?_ ?_
              rotate_left
              ·intro w'
               go_simp
               with_reducible rfl
              rotate_left
              ·simp only [Act.put, List.setIfInBounds_toArray, List.set_cons_zero, List.set_cons_succ, i64_w, i32_w]
               rfl
              refine pure_ (i := 7) (N := some 277) (v := ?_) (a' := ?_) #[true, true, true, false, true, true, true, true, false, false, false, false, false, false, false, false, false, false, false, false, false, false, false, false, false, false, false, false, false, false, false, false] rfl rfl (any_of HT_.out (by kernel_rfl)) (fun _ _ _ h => h) (Or.inl ⟨by rfl, ?_⟩) ?_ ?_
              rotate_left
              ·intro w'
               go_simp
               with_reducible rfl
              rotate_left
              ·simp only [Act.put, List.setIfInBounds_toArray, List.set_cons_zero, List.set_cons_succ, i64_w, i32_w]
               rfl
              refine take_ (i := 3) (N := some 273) (v := ?_) (a' := ?_) #[true, true, true, true, true, true, true, true, false, false, false, false, false, false, false, false, false, false, false, false, false, false, false, false, false, false, false, false, false, false, false, false] rfl rfl (take_ofW HT_.out HW_.out (by kernel_rfl)) (fun _ _ _ h => h) (Or.inl ⟨by rfl, ?_⟩) hHeld ?_ ?_
              rotate_left
              ·rintro w' ⟨s0, s1, s2⟩
               go_simp
               with_reducible rfl
              rotate_left
              ·simp only [Act.put, List.setIfInBounds_toArray, List.set_cons_zero, List.set_cons_succ, i64_w, i32_w]
               rfl
              refine take_ (i := 8) (N := some 278) (v := ?_) (a' := ?_) #[true, true, true, true, true, true, true, true, true, false, false, false, false, false, false, false, false, false, false, false, false, false, false, false, false, false, false, false, false, false, false, false] rfl rfl (take_ofW HT_.out HW_.out (by kernel_rfl)) (fun _ _ _ h => h) (Or.inl ⟨by rfl, ?_⟩) hHeld ?_ ?_
              rotate_left
              ·rintro w' ⟨s0, s1, s2⟩
               go_simp
               with_reducible rfl
              rotate_left
              ·simp only [Act.put, List.setIfInBounds_toArray, List.set_cons_zero, List.set_cons_succ, i64_w, i32_w]
               rfl
              refine pure_ (i := 9) (N := some 279) (v := ?_) (a' := ?_) #[true, true, true, true, true, true, true, true, true, true, false, false, false, false, false, false, false, false, false, false, false, false, false, false, false, false, false, false, false, false, false, false] rfl rfl (any_of HT_.out (by kernel_rfl)) (fun _ _ _ h => h) (Or.inl ⟨by rfl, ?_⟩) ?_ ?_
              rotate_left
              ·intro w'
               go_simp
               with_reducible rfl
              rotate_left
              ·simp only [Act.put, List.setIfInBounds_toArray, List.set_cons_zero, List.set_cons_succ, i64_w, i32_w]
               rfl
              refine take_ (i := 10) (N := some 280) (v := ?_) (a' := ?_) #[true, true, true, true, true, true, true, true, true, true, true, false, false, false, false, false, false, false, false, false, false, false, false, false, false, false, false, false, false, false, false, false] rfl rfl (take_ofW HT_.out HW_.out (by kernel_rfl)) (fun _ _ _ h => h) (Or.inl ⟨by rfl, ?_⟩) hHeld ?_ ?_
              rotate_left
              ·rintro w' ⟨s0, s1, s2⟩
               go_simp
               with_reducible rfl
              rotate_left
              ·simp only [Act.put, List.setIfInBounds_toArray, List.set_cons_zero, List.set_cons_succ, i64_w, i32_w]
               rfl
              refine pure_ (i := 11) (N := some 281) (v := ?_) (a' := ?_) #[true, true, true, true, true, true, true, true, true, true, true, true, false, false, false, false, false, false, false, false, false, false, false, false, false, false, false, false, false, false, false, false] rfl rfl (any_of HT_.out (by kernel_rfl)) (fun _ _ _ h => h) (Or.inl ⟨by rfl, ?_⟩) ?_ ?_
              rotate_left
              ·intro w'
               go_simp
               with_reducible rfl
              rotate_left
              ·simp only [Act.put, List.setIfInBounds_toArray, List.set_cons_zero, List.set_cons_succ, i64_w, i32_w]
               rfl
              refine pure_ (i := 12) (N := some 282) (v := ?_) (a' := ?_) #[true, true, true, true, true, true, true, true, true, true, true, true, true, false, false, false, false, false, false, false, false, false, false, false, false, false, false, false, false, false, false, false] rfl rfl (any_of HT_.out (by kernel_rfl)) (fun _ _ _ h => h) (Or.inl ⟨by rfl, ?_⟩) ?_ ?_
              rotate_left
              ·intro w'
               go_simp
               with_reducible rfl
              rotate_left
              ·simp only [Act.put, List.setIfInBounds_toArray, List.set_cons_zero, List.set_cons_succ, i64_w, i32_w]
               rfl
              refine pure_ (i := 13) (N := some 283) (v := ?_) (a' := ?_) #[true, true, true, true, true, true, true, true, true, true, true, true, true, true, false, false, false, false, false, false, false, false, false, false, false, false, false, false, false, false, false, false] rfl rfl (any_of HT_.out (by kernel_rfl)) (fun _ _ _ h => h) (Or.inl ⟨by rfl, ?_⟩) ?_ ?_
              rotate_left
              ·intro w'
               go_simp
               with_reducible rfl
              rotate_left
              ·simp only [Act.put, List.setIfInBounds_toArray, List.set_cons_zero, List.set_cons_succ, i64_w, i32_w]
               rfl
              refine pure_ (i := 14) (N := some 284) (v := ?_) (a' := ?_) #[true, true, true, true, true, true, true, true, true, true, true, true, true, true, true, false, false, false, false, false, false, false, false, false, false, false, false, false, false, false, false, false] rfl rfl (any_of HT_.out (by kernel_rfl)) (fun _ _ _ h => h) (Or.inl ⟨by rfl, ?_⟩) ?_ ?_
              rotate_left
              ·intro w'
               go_simp
               with_reducible rfl
              rotate_left
              ·simp only [Act.put, List.setIfInBounds_toArray, List.set_cons_zero, List.set_cons_succ, i64_w, i32_w]
               rfl
              refine pure_ (i := 15) (N := some 285) (v := ?_) (a' := ?_) #[true, true, true, true, true, true, true, true, true, true, true, true, true, true, true, true, false, false, false, false, false, false, false, false, false, false, false, false, false, false, false, false] rfl rfl (any_of HT_.out (by kernel_rfl)) (fun _ _ _ h => h) (Or.inl ⟨by rfl, ?_⟩) ?_ ?_
              rotate_left
              ·intro w'
               go_simp
               with_reducible rfl
              rotate_left
              ·simp only [Act.put, List.setIfInBounds_toArray, List.set_cons_zero, List.set_cons_succ, i64_w, i32_w]
               rfl
              refine pure_ (i := 17) (N := some 287) (v := ?_) (a' := ?_) #[true, true, true, true, true, true, true, true, true, true, true, true, true, true, true, true, false, true, false, false, false, false, false, false, false, false, false, false, false, false, false, false] rfl rfl (any_of HT_.out (by kernel_rfl)) (fun _ _ _ h => h) (Or.inl ⟨by rfl, ?_⟩) ?_ ?_
              rotate_left
              ·intro w'
               go_simp
               with_reducible rfl
              rotate_left
              ·simp only [Act.put, List.setIfInBounds_toArray, List.set_cons_zero, List.set_cons_succ, i64_w, i32_w]
               rfl
              refine pure_ (i := 18) (N := some 288) (v := ?_) (a' := ?_) #[true, true, true, true, true, true, true, true, true, true, true, true, true, true, true, true, false, true, true, false, false, false, false, false, false, false, false, false, false, false, false, false] rfl rfl (any_of HT_.out (by kernel_rfl)) (fun _ _ _ h => h) (Or.inl ⟨by rfl, ?_⟩) ?_ ?_
              rotate_left
              ·intro w'
               go_simp
               with_reducible rfl
              rotate_left
              ·simp only [Act.put, List.setIfInBounds_toArray, List.set_cons_zero, List.set_cons_succ, i64_w, i32_w]
               rfl
              refine pure_ (i := 19) (N := some 289) (v := ?_) (a' := ?_) #[true, true, true, true, true, true, true, true, true, true, true, true, true, true, true, true, false, true, true, true, false, false, false, false, false, false, false, false, false, false, false, false] rfl rfl (any_of HT_.out (by kernel_rfl)) (fun _ _ _ h => h) (Or.inl ⟨by rfl, ?_⟩) ?_ ?_
              rotate_left
              ·intro w'
               go_simp
               with_reducible rfl
              rotate_left
              ·simp only [Act.put, List.setIfInBounds_toArray, List.set_cons_zero, List.set_cons_succ, i64_w, i32_w]
               rfl
              refine pure_ (i := 20) (N := some 290) (v := ?_) (a' := ?_) #[true, true, true, true, true, true, true, true, true, true, true, true, true, true, true, true, false, true, true, true, true, false, false, false, false, false, false, false, false, false, false, false] rfl rfl (any_of HT_.out (by kernel_rfl)) (fun _ _ _ h => h) (Or.inl ⟨by rfl, ?_⟩) ?_ ?_
              rotate_left
              ·intro w'
               go_simp
               with_reducible rfl
              rotate_left
              ·simp only [Act.put, List.setIfInBounds_toArray, List.set_cons_zero, List.set_cons_succ, i64_w, i32_w]
               rfl
              refine take_ (i := 16) (N := some 286) (v := ?_) (a' := ?_) #[true, true, true, true, true, true, true, true, true, true, true, true, true, true, true, true, true, true, true, true, true, false, false, false, false, false, false, false, false, false, false, false] rfl rfl (take_ofW HT_.out HW_.out (by kernel_rfl)) (fun _ _ _ h => h) (Or.inl ⟨by rfl, ?_⟩) hHeld ?_ ?_
              rotate_left
              ·rintro w' ⟨s0, s1, s2⟩
               go_simp
               with_reducible rfl
              rotate_left
              ·simp only [Act.put, List.setIfInBounds_toArray, List.set_cons_zero, List.set_cons_succ, i64_w, i32_w]
               rfl
              refine take_ (i := 21) (N := some 291) (v := ?_) (a' := ?_) #[true, true, true, true, true, true, true, true, true, true, true, true, true, true, true, true, true, true, true, true, true, true, false, false, false, false, false, false, false, false, false, false] rfl rfl (take_ofW HT_.out HW_.out (by kernel_rfl)) (fun _ _ _ h => h) (Or.inl ⟨by rfl, ?_⟩) hHeld ?_ ?_
              rotate_left
              ·rintro w' ⟨s0, s1, s2⟩
               go_simp
               with_reducible rfl
              rotate_left
              ·simp only [Act.put, List.setIfInBounds_toArray, List.set_cons_zero, List.set_cons_succ, i64_w, i32_w]
               rfl
              refine pure_ (i := 22) (N := some 292) (v := ?_) (a' := ?_) #[true, true, true, true, true, true, true, true, true, true, true, true, true, true, true, true, true, true, true, true, true, true, true, false, false, false, false, false, false, false, false, false] rfl rfl (any_of HT_.out (by kernel_rfl)) (fun _ _ _ h => h) (Or.inl ⟨by rfl, ?_⟩) ?_ ?_
              rotate_left
              ·intro w'
               go_simp
               with_reducible rfl
              rotate_left
              ·simp only [Act.put, List.setIfInBounds_toArray, List.set_cons_zero, List.set_cons_succ, i64_w, i32_w]
               rfl
              refine take_ (i := 23) (N := some 293) (v := ?_) (a' := ?_) #[true, true, true, true, true, true, true, true, true, true, true, true, true, true, true, true, true, true, true, true, true, true, true, true, false, false, false, false, false, false, false, false] rfl rfl (take_ofW HT_.out HW_.out (by kernel_rfl)) (fun _ _ _ h => h) (Or.inl ⟨by rfl, ?_⟩) hHeld ?_ ?_
              rotate_left
              ·rintro w' ⟨s0, s1, s2⟩
               go_simp
               with_reducible rfl
              rotate_left
              ·simp only [Act.put, List.setIfInBounds_toArray, List.set_cons_zero, List.set_cons_succ, i64_w, i32_w]
               rfl
              refine pure_ (i := 24) (N := some 294) (v := ?_) (a' := ?_) #[true, true, true, true, true, true, true, true, true, true, true, true, true, true, true, true, true, true, true, true, true, true, true, true, true, false, false, false, false, false, false, false] rfl rfl (any_of HT_.out (by kernel_rfl)) (fun _ _ _ h => h) (Or.inl ⟨by rfl, ?_⟩) ?_ ?_
              rotate_left
              ·intro w'
               go_simp
               with_reducible rfl
              rotate_left
              ·simp only [Act.put, List.setIfInBounds_toArray, List.set_cons_zero, List.set_cons_succ, i64_w, i32_w]
               rfl
              refine pure_ (i := 25) (N := some 295) (v := ?_) (a' := ?_) #[true, true, true, true, true, true, true, true, true, true, true, true, true, true, true, true, true, true, true, true, true, true, true, true, true, true, false, false, false, false, false, false] rfl rfl (any_of HT_.out (by kernel_rfl)) (fun _ _ _ h => h) (Or.inl ⟨by rfl, ?_⟩) ?_ ?_
              rotate_left
              ·intro w'
               go_simp
               with_reducible rfl
              rotate_left
              ·simp only [Act.put, List.setIfInBounds_toArray, List.set_cons_zero, List.set_cons_succ, i64_w, i32_w]
               rfl
              refine pure_ (i := 26) (N := some 296) (v := undef) (a' := ?_) #[true, true, true, true, true, true, true, true, true, true, true, true, true, true, true, true, true, true, true, true, true, true, true, true, true, true, true, false, false, false, false, false] rfl rfl (any_of HT_.out (by kernel_rfl)) (fun _ _ _ h => h) (Or.inr ⟨by rfl, rfl⟩) ?_ ?_
              rotate_left
              ·simp only [Act.put, List.setIfInBounds_toArray, List.set_cons_zero, List.set_cons_succ, i64_w, i32_w]
               rfl
              refine pure_ (i := 27) (N := some 297) (v := undef) (a' := ?_) #[true, true, true, true, true, true, true, true, true, true, true, true, true, true, true, true, true, true, true, true, true, true, true, true, true, true, true, true, false, false, false, false] rfl rfl (any_of HT_.out (by kernel_rfl)) (fun _ _ _ h => h) (Or.inr ⟨by rfl, rfl⟩) ?_ ?_
              rotate_left
              ·simp only [Act.put, List.setIfInBounds_toArray, List.set_cons_zero, List.set_cons_succ, i64_w, i32_w]
               rfl
              refine pure_ (i := 28) (N := some 298) (v := undef) (a' := ?_) #[true, true, true, true, true, true, true, true, true, true, true, true, true, true, true, true, true, true, true, true, true, true, true, true, true, true, true, true, true, false, false, false] rfl rfl (any_of HT_.out (by kernel_rfl)) (fun _ _ _ h => h) (Or.inr ⟨by rfl, rfl⟩) ?_ ?_
              rotate_left
              ·simp only [Act.put, List.setIfInBounds_toArray, List.set_cons_zero, List.set_cons_succ, i64_w, i32_w]
               rfl
              refine pure_ (i := 29) (N := some 299) (v := undef) (a' := ?_) #[true, true, true, true, true, true, true, true, true, true, true, true, true, true, true, true, true, true, true, true, true, true, true, true, true, true, true, true, true, true, false, false] rfl rfl (any_of HT_.out (by kernel_rfl)) (fun _ _ _ h => h) (Or.inr ⟨by rfl, rfl⟩) ?_ ?_
              rotate_left
              ·simp only [Act.put, List.setIfInBounds_toArray, List.set_cons_zero, List.set_cons_succ, i64_w, i32_w]
               rfl
              refine pure_ (i := 30) (N := some 300) (v := ?_) (a' := ?_) #[true, true, true, true, true, true, true, true, true, true, true, true, true, true, true, true, true, true, true, true, true, true, true, true, true, true, true, true, true, true, true, false] rfl rfl (any_of HT_.out (by kernel_rfl)) (fun _ _ _ h => h) (Or.inl ⟨by rfl, ?_⟩) ?_ ?_
              rotate_left
              ·intro w'
               go_simp
               with_reducible rfl
              rotate_left
              ·simp only [Act.put, List.setIfInBounds_toArray, List.set_cons_zero, List.set_cons_succ, i64_w, i32_w]
               rfl
              refine pure_ (i := 31) (N := some 301) (v := ?_) (a' := ?_) #[true, true, true, true, true, true, true, true, true, true, true, true, true, true, true, true, true, true, true, true, true, true, true, true, true, true, true, true, true, true, true, true] rfl rfl (any_of HT_.out (by kernel_rfl)) (fun _ _ _ h => h) (Or.inl ⟨by rfl, ?_⟩) ?_ ?_
              rotate_left
              ·intro w'
               go_simp
               with_reducible rfl
              rotate_left
              ·simp only [Act.put, List.setIfInBounds_toArray, List.set_cons_zero, List.set_cons_succ, i64_w, i32_w]
               rfl
              refine done_ (done_of HT_.out (by kernel_rfl)) ?_

              go_wp2
              go_roundg k2
              case measure => have h_ := HK2.out; omega
              case rel => exact ⟨wrap64 (i + 1), (by first | rfl | (simp; done) | (simp [*]; done)), HH, ⟨by have h_ := HK2.out; omega⟩, HQ⟩
            ·rw [if_neg c9] at H
             have c9b : decide (i < (po.length : Int)) = false := decide_eq_false c9
             clear H
             go_wp2
             go_roundg k1
             case measure => have h_ := HK1.out; omega
             case rel => exact ⟨wrap64 (p + 1), (by first | rfl | (simp; done) | (simp [*]; done)), E2, ⟨by have h_ := HK1.out; omega⟩, HQ⟩
         ·rw [if_neg c8] at H
          have c8b : decide (p < rs) = false := decide_eq_false c8
          clear H c8
          go_upto_region 35 with (fail)
          have n0_ := Aside0.mk (below_step HB.out HQ.out)
          have FRc := Aside0.mk (Kd.C_below Fr.out HQ.out)
          have FOc := Aside0.mk (Kd.C_below Fo.out HQ.out)
          have n1_ := Aside0.mk (blk_below BKr.out HQ.out)
          clear HB HQ Fr Fa Fp Fo BKr z0 z1 z2 c8b
          have HB := n0_
          have BK := n1_
          clear n0_ n1_
          refine start_ (n := 6) (S := fun w' => w'.cell? ⟨gr, 0, none⟩ = some (.int .i64 rs) ∧ w'.cell? ⟨gr, 1, none⟩ = some (.bool rr) ∧ w'.cell? ⟨gr, 2, none⟩ = some (.slice Ar rl.length cr)) (ds := []) #[false, false, false, false, false, false] (by kernel_rfl) rfl rfl ⟨(blk_cell (blk_drew BK.out) 0).trans rfl, (blk_cell (blk_drew BK.out) 1).trans rfl, (blk_cell (blk_drew BK.out) 2).trans rfl⟩ (fun hHeld => ?_)
          refine with_tabW laws_FnPolite.tab35 laws_FnPolite.bits35 (fun HT_ HW_ => ?_)
          have n0_ := Aside0.mk (below_drew1 HB.out)
          have n1_ := Aside0.mk (Kd.C_below FRc.out (below_drew1 (Below.refl _ _)))
          have n2_ := Aside0.mk (Kd.C_below FOc.out (below_drew1 (Below.refl _ _)))
          have n3_ := Aside0.mk (blk_drew BK.out)
          clear HB FRc FOc BK
          have HB := n0_
          have FRc := n1_
          have FOc := n2_
          have BK := n3_
          clear n0_ n1_ n2_ n3_
          generalize World.drew _ = w35 at HB FRc FOc BK hHeld ⊢
          refine pure_ (i := 1) (N := some 303) (v := ?_) (a' := ?_) #[false, true, false, false, false, false] rfl rfl (any_of HT_.out (by kernel_rfl)) (fun _ _ _ h => h) (Or.inl ⟨by rfl, ?_⟩) ?_ ?_
          rotate_left
          ·intro w'
           go_simp
           with_reducible rfl
          rotate_left
          ·simp only [Act.put, List.setIfInBounds_toArray, List.set_cons_zero, List.set_cons_succ, i64_w, i32_w]
           rfl
          refine take_ (i := 0) (N := some 302) (v := ?_) (a' := ?_) #[true, true, false, false, false, false] rfl rfl (take_ofW HT_.out HW_.out (by kernel_rfl)) (fun _ _ _ h => h) (Or.inl ⟨by rfl, ?_⟩) hHeld ?_ ?_
          rotate_left
          ·rintro w' ⟨s0, s1, s2⟩
           go_simp
           with_reducible rfl
          rotate_left
          ·simp only [Act.put, List.setIfInBounds_toArray, List.set_cons_zero, List.set_cons_succ, i64_w, i32_w]
           rfl
          refine take_ (i := 2) (N := some 304) (v := ?_) (a' := ?_) #[true, true, true, false, false, false] rfl rfl (take_ofW HT_.out HW_.out (by kernel_rfl)) (fun _ _ _ h => h) (Or.inl ⟨by rfl, ?_⟩) hHeld ?_ ?_
          rotate_left
          ·rintro w' ⟨s0, s1, s2⟩
           go_simp
           with_reducible rfl
          rotate_left
          ·simp only [Act.put, List.setIfInBounds_toArray, List.set_cons_zero, List.set_cons_succ, i64_w, i32_w]
           rfl
          refine one_ (i := 3) (N := some 36) #[true, true, true, true, false, false] rfl rfl (one_of HT_.out (by kernel_rfl)) (by decide) (fun K hK => ?_)
          refine value_ (w1 := w35.alloc (.cells #[.int .i64 0, .bool false, .slice none 0 0] 26 (0, 0))) (v := .pointer (some ⟨w35.heap.size, 0, none⟩)) (by rfl) rfl ?_ ?_
          ·first | (go_simp; done) | (go_simp; rfl)
          have NE := Aside0.mk (show gr ≠ w35.heap.size from Nat.ne_of_lt (blk_lt BK.out))
          have FO := Aside0.mk (Kd.F_alloc (pol_F FOc.out (Nat.le_refl _)) (.cells #[.int .i64 0, .bool false, .slice none 0 0] 26 (0, 0)))
          have FL := Aside0.mk (Kd.F_alloc (pol_F FRc.out (Nat.le_refl _)) (.cells #[.int .i64 0, .bool false, .slice none 0 0] 26 (0, 0)))
          have NX := Aside0.mk (blk_new w35 (.cells #[.int .i64 0, .bool false, .slice none 0 0] 26 (0, 0)))
          have GX := Aside0.mk HB.out.size
          clear FRc FOc
          have n0_ := Aside0.mk (below_alloc HB.out (.cells #[.int .i64 0, .bool false, .slice none 0 0] 26 (0, 0)))
          have n1_ := Aside0.mk (blk_alloc BK.out (.cells #[.int .i64 0, .bool false, .slice none 0 0] 26 (0, 0)))
          clear HB BK
          have HB := n0_
          have BK := n1_
          clear n0_ n1_
          generalize w35.heap.size = g36 at NE FO FL NX GX ⊢
          generalize World.alloc _ _ = w36 at HB BK FO FL NX hHeld ⊢
          refine hK.out _ _ ⟨(blk_cell BK.out 0).trans rfl, (blk_cell BK.out 1).trans rfl, (blk_cell BK.out 2).trans rfl⟩ (fun hHeld => ?_)
          clear hK K
          refine norm_ (a' := ?_) ?_ ?_
          rotate_left
          ·show Act.put _ (some 36) _ = _
           simp only [Act.put, List.setIfInBounds_toArray, List.set_cons_zero, List.set_cons_succ, i64_w, i32_w]
           rfl
          refine one_ (i := 4) (N := none) #[true, true, true, true, true, false] rfl rfl (one_of HT_.out (by kernel_rfl)) (by decide) (fun K hK => ?_)
          have z_0 : w36.cell? ⟨g36, 0, none⟩ = some (.int .i64 0) := (blk_cell NX.out 0).trans rfl
          have f_0 := blk_frozen NX.out 0
          have z_1 : w36.cell? ⟨g36, 1, none⟩ = some (.bool false) := (blk_cell NX.out 1).trans rfl
          have f_1 := blk_frozen NX.out 1
          have z_2 : w36.cell? ⟨g36, 2, none⟩ = some (.slice none 0 0) := (blk_cell NX.out 2).trans rfl
          have f_2 := blk_frozen NX.out 2
          refine skip_ (w1 := ((w36.setCell ⟨g36, 0, none⟩ (.int .i64 rs)).setCell ⟨g36, 1, none⟩ (.bool rr)).setCell ⟨g36, 2, none⟩ (.slice Ar rl.length cr)) (by rfl) rfl ?_ ?_
          ·first | (go_simp; done) | (go_simp; rfl)
          have k0_ := Aside0.mk (pol_put FO.out (.int .i64 rs) (.bool rr) (.slice Ar rl.length cr))
          have k1_ := Aside0.mk (pol_put FL.out (.int .i64 rs) (.bool rr) (.slice Ar rl.length cr))
          have k2_ := Aside0.mk (pol_far BK.out NE.out (.int .i64 rs) (.bool rr) (.slice Ar rl.length cr))
          obtain ⟨w37, e_, hbox, hb_⟩ := pol_box NX.out HB.out GX.out (.int .i64 rs) (.bool rr) (.slice Ar rl.length cr)
          rw [e_] at k0_ k1_ k2_ ⊢
          clear e_ z_0 z_1 z_2 f_0 f_1 f_2 NX HB FO FL BK
          have NX := Aside0.mk hbox
          have HB := Aside0.mk hb_
          clear hbox hb_
          have FO := k0_
          have FL := k1_
          have BK := k2_
          clear k0_ k1_ k2_
          refine hK.out _ _ ⟨(blk_cell BK.out 0).trans rfl, (blk_cell BK.out 1).trans rfl, (blk_cell BK.out 2).trans rfl⟩ (fun hHeld => ?_)
          clear hK K
          refine pure_ (i := 5) (N := some 37) (v := ?_) (a' := ?_) #[true, true, true, true, true, true] rfl rfl (any_of HT_.out (by kernel_rfl)) (fun _ _ _ h => h) (Or.inl ⟨by rfl, ?_⟩) ?_ ?_
          rotate_left
          ·intro w'
           go_simp
           with_reducible rfl
          rotate_left
          ·simp only [Act.put, List.setIfInBounds_toArray, List.set_cons_zero, List.set_cons_succ, i64_w, i32_w]
           rfl
          refine done_ (done_of HT_.out (by kernel_rfl)) ?_

          go_wp2
          go_loopg [37, 38] k (fun kq v37 v38 w' => ∃ (bef i s1 : Int) (r1 : Bool) (A1 : Option Addr) (c1 : Nat) (l1 : List Int), v37 = .int .i64 bef ∧ v38 = .int .i64 i ∧ Aside0 (laws_FnPolite.l2 kq rs s1 r1 l1 bef od i = some true) ∧ Aside0 (kq ≤ k) ∧ Aside0 (Below w.heap.size w w') ∧ Aside0 (Kd.F (Kd.int .i64) w' (fun k_ => k_ ≠ g36) Ao od.length od) ∧ Aside0 (Kd.F (Kd.int .i64) w' (fun k_ => k_ ≠ g36) A1 l1.length l1) ∧ Aside0 (l1.length ≤ c1) ∧ Aside0 (w'.heap[gr]? = some (.cells #[.int .i64 rs, .bool rr, .slice Ar rl.length cr] 26 (0, 0))) ∧ Aside0 (w'.heap[g36]? = some (.cells #[.int .i64 s1, .bool r1, .slice A1 l1.length c1] 26 (0, 0))))
          case atStart => exact ⟨rs, 0, rs, rr, Ar, cr, rl, rfl, rfl, D3, ⟨Nat.le_refl _⟩, HB, FO, FL, Lr, BK, NX⟩
          case round =>
           clear D3 HB FO FL BK NX
           obtain ⟨bef, i, s1, r1, A1, c1, l1, rfl, rfl, HA, HK9, HB, FO, FL, LL, BK, B36⟩ := hrel
           cases gk with
           | zero => exact absurd HA.out (by simp [laws_FnPolite.l2])
           | succ k3 =>
            have H := HA.out
            clear HA
            simp only [laws_FnPolite.l2] at H
            by_cases c20 : i < (od.length : Int)
            rotate_left
            ·rw [if_neg c20] at H
             have c20b : decide (i < (od.length : Int)) = false := decide_eq_false c20
             by_cases c21 : (l1.length : Int) = rs
             rotate_left
             ·rw [if_neg c21] at H; cases H
             have c21b : ((l1.length : Int) == rs) = true := beq_iff_eq.mpr c21
             clear c20 c21 H
             have q0_ : wr.cell? ⟨g36, 0, none⟩ = some (.int .i64 s1) := (blk_cell B36.out 0).trans rfl
             have q1_ : wr.cell? ⟨g36, 1, none⟩ = some (.bool r1) := (blk_cell B36.out 1).trans rfl
             have q2_ : wr.cell? ⟨g36, 2, none⟩ = some (.slice A1 l1.length c1) := (blk_cell B36.out 2).trans rfl
             have q3_ : wr.cell? ⟨gr, 0, none⟩ = some (.int .i64 rs) := (blk_cell BK.out 0).trans rfl
             go_wp2
             go_ret
             exact ⟨by first | rfl | (simp; done) | (simp [*]; done), HB.out⟩
            rw [if_pos c20] at H
            have c20b : decide (i < (od.length : Int)) = true := decide_eq_true c20
            replace H := Option.bind_eq_some_iff.mp H
            obtain ⟨⟨ow, ob⟩, e1, H0⟩ := H
            have H := H0
            clear H0
            have E1 := Aside0.mk e1
            clear e1
            simp only at H
            by_cases c22 : ob = true ∧ 0 ≤ i ∧ 0 ≤ rd od i ∧ rd od i < (ow.length : Int) ∧ ¬ (rd ow (rd od i) > bef) ∧ ¬ (rd ow (rd od i) < 1)
            rotate_left
            ·rw [if_neg c22] at H; cases H
            rw [if_pos c22] at H
            obtain ⟨rfl, d1, d2, d3, d4, d5⟩ := c22
            replace H := Option.bind_eq_some_iff.mp H
            obtain ⟨⟨m1, m2, m3, m4⟩, e2, H0⟩ := H
            have H := H0
            clear H0
            have E2 := Aside0.mk e2
            clear e2
            simp only at H
            by_cases c23 : m4 = true
            rotate_left
            ·rw [if_neg c23] at H; cases H
            rw [if_pos c23] at H
            obtain rfl := c23
            have HH := Aside0.mk H
            clear H
            have q0_ : wr.cell? ⟨g36, 0, none⟩ = some (.int .i64 s1) := (blk_cell B36.out 0).trans rfl
            have q1_ : wr.cell? ⟨g36, 1, none⟩ = some (.bool r1) := (blk_cell B36.out 1).trans rfl
            have q2_ : wr.cell? ⟨g36, 2, none⟩ = some (.slice A1 l1.length c1) := (blk_cell B36.out 2).trans rfl
            go_upto_region 40 with (go_at_call 18; (with_reducible refine (impl_FarnessOf.calls k3 s1 r1 A1 c1 l1 ow true _ (Kd.F_now FL.out) LL.out (HT.out.below HB.out) E1.out).mono ?_); rintro e w39 ⟨v_, rfl, hR, hb⟩; obtain ⟨Aw, cw, e_, hcw_, hCw_⟩ := Kd.R_reads hR; subst e_; have FW := Aside0.mk hCw_; clear hR hcw_ hCw_ q0_ q1_ q2_; have n0_ := Aside0.mk (below_step HB.out hb); have n1_ := Aside0.mk (Kd.F_below FO.out hb); have n2_ := Aside0.mk (Kd.F_below FL.out hb); have n3_ := Aside0.mk (blk_below BK.out hb); have n4_ := Aside0.mk (blk_below B36.out hb); clear HB FO FL BK B36; have HB := n0_; have FO := n1_; have FL := n2_; have BK := n3_; have B36 := n4_; clear n0_ n1_ n2_ n3_ n4_ hb)
            obtain ⟨ado, eo, ho0⟩ := Kd.at_int (Kd.F_now FO.out) i d1 c20
            obtain ⟨adw, ew, hw0⟩ := Kd.at_int FW.out (rd od i) d2 d3
            cases eo
            cases ew
            have d4b : decide (bef < rd ow (rd od i)) = false := decide_eq_false (by omega)
            have d5b : decide (rd ow (rd od i) < 1) = false := decide_eq_false (by omega)
            replace d1 := eq_true d1
            replace d2 := eq_true d2
            replace d3 := eq_true d3
            have c20c := eq_true c20
            clear d4 d5
            go_upto_region 43 with (fail)
            clear FW hw0 ho0 d4b d5b
            refine start_ (n := 12) (S := fun w' => w'.cell? ⟨g36, 0, none⟩ = some (.int .i64 s1) ∧ w'.cell? ⟨g36, 1, none⟩ = some (.bool r1) ∧ w'.cell? ⟨g36, 2, none⟩ = some (.slice A1 l1.length c1) ∧ w'.cell? (ado.add i.toNat) = some (.int .i64 (rd od i))) (ds := [10]) #[false, false, false, false, false, false, false, false, false, false, false, false] (by kernel_rfl) rfl rfl ⟨(blk_cell (blk_drew B36.out) 0).trans rfl, (blk_cell (blk_drew B36.out) 1).trans rfl, (blk_cell (blk_drew B36.out) 2).trans rfl, pol_atC (Kd.F_now (Kd.F_drew FO.out)) i (of_eq_true d1) (of_eq_true c20c)⟩ (fun hHeld => ?_)
            refine with_tabW laws_FnPolite.tab43 laws_FnPolite.bits43 (fun HT_ HW_ => ?_)
            have n0_ := Aside0.mk (below_step HB.out (below_drew1 (Below.refl _ _)))
            have n1_ := Aside0.mk (Kd.F_below FO.out (below_drew1 (Below.refl _ _)))
            have n2_ := Aside0.mk (Kd.F_below FL.out (below_drew1 (Below.refl _ _)))
            have n3_ := Aside0.mk (blk_below BK.out (below_drew1 (Below.refl _ _)))
            have n4_ := Aside0.mk (blk_below B36.out (below_drew1 (Below.refl _ _)))
            clear HB FO FL BK B36
            have HB := n0_
            have FO := n1_
            have FL := n2_
            have BK := n3_
            have B36 := n4_
            clear n0_ n1_ n2_ n3_ n4_
            generalize World.drew _ = w43 at HB FO FL BK B36 hHeld ⊢
            refine pure_ (i := 1) (N := some 348) (v := ?_) (a' := ?_) #[false, true, false, false, false, false, false, false, false, false, false, false] rfl rfl (any_of HT_.out (by kernel_rfl)) (fun _ _ _ h => h) (Or.inl ⟨by rfl, ?_⟩) ?_ ?_
            rotate_left
            ·intro w'
             go_simp
             with_reducible rfl
            rotate_left
            ·simp only [Act.put, List.setIfInBounds_toArray, List.set_cons_zero, List.set_cons_succ, i64_w, i32_w]
             rfl
            refine pure_ (i := 2) (N := some 349) (v := ?_) (a' := ?_) #[false, true, true, false, false, false, false, false, false, false, false, false] rfl rfl (any_of HT_.out (by kernel_rfl)) (fun _ _ _ h => h) (Or.inl ⟨by rfl, ?_⟩) ?_ ?_
            rotate_left
            ·intro w'
             go_simp
             with_reducible rfl
            rotate_left
            ·simp only [Act.put, List.setIfInBounds_toArray, List.set_cons_zero, List.set_cons_succ, i64_w, i32_w]
             rfl
            refine pure_ (i := 3) (N := some 350) (v := ?_) (a' := ?_) #[false, true, true, true, false, false, false, false, false, false, false, false] rfl rfl (any_of HT_.out (by kernel_rfl)) (fun _ _ _ h => h) (Or.inl ⟨by rfl, ?_⟩) ?_ ?_
            rotate_left
            ·intro w'
             go_simp
             with_reducible rfl
            rotate_left
            ·simp only [Act.put, List.setIfInBounds_toArray, List.set_cons_zero, List.set_cons_succ, i64_w, i32_w]
             rfl
            refine take_ (i := 0) (N := some 347) (v := ?_) (a' := ?_) #[true, true, true, true, false, false, false, false, false, false, false, false] rfl rfl (take_ofW HT_.out HW_.out (by kernel_rfl)) (fun _ _ _ h => h) (Or.inl ⟨by rfl, ?_⟩) hHeld ?_ ?_
            rotate_left
            ·rintro w' ⟨s0, s1, s2, s3⟩
             go_simp
             with_reducible rfl
            rotate_left
            ·simp only [Act.put, List.setIfInBounds_toArray, List.set_cons_zero, List.set_cons_succ, i64_w, i32_w]
             rfl
            refine take_ (i := 4) (N := some 351) (v := ?_) (a' := ?_) #[true, true, true, true, true, false, false, false, false, false, false, false] rfl rfl (take_ofW HT_.out HW_.out (by kernel_rfl)) (fun _ _ _ h => h) (Or.inl ⟨by rfl, ?_⟩) hHeld ?_ ?_
            rotate_left
            ·rintro w' ⟨s0, s1, s2, s3⟩
             go_simp
             with_reducible rfl
            rotate_left
            ·simp only [Act.put, List.setIfInBounds_toArray, List.set_cons_zero, List.set_cons_succ, i64_w, i32_w]
             rfl
            refine join_ (σ := Option Addr × Nat × Nat) 2 #[true, true, true, true, true, true, true, true, true, true, false, false] (fun s_ => [(352, .tuple #[.agg #[.int .i64 m1, .bool m2, .slice s_.1 m3.length s_.2.1], .bool true]), (346, .tuple #[.agg #[.int .i64 m1, .bool m2, .slice s_.1 m3.length s_.2.1], .bool true]), (353, .agg #[.int .i64 m1, .bool m2, .slice s_.1 m3.length s_.2.1]), (354, .bool true), (41, .pointer (some ⟨s_.2.2, 0, none⟩))]) (fun s_ w' => (Below w.heap.size w w') ∧ (Kd.F (Kd.int .i64) w' (fun k_ => k_ ≠ g36 ∧ k_ ≠ s_.2.2) (some ado) od.length od) ∧ (Kd.F (Kd.int .i64) w' (fun k_ => k_ ≠ g36 ∧ k_ ≠ s_.2.2) s_.1 m3.length m3) ∧ (m3.length ≤ s_.2.1) ∧ (w'.heap[gr]? = some (.cells #[.int .i64 rs, .bool rr, .slice Ar rl.length cr] 26 (0, 0))) ∧ (w'.heap[g36]? = some (.cells #[.int .i64 s1, .bool r1, .slice A1 l1.length c1] 26 (0, 0))) ∧ (w'.heap[s_.2.2]? = some (.cells #[.int .i64 0, .bool false, .slice none 0 0] 26 (0, 0))) ∧ (w.heap.size ≤ s_.2.2) ∧ (gr ≠ s_.2.2) ∧ (g36 ≠ s_.2.2)) ?_ ?_
            rotate_left
            ·intro hCont
             refine two_ (i := 5) (j := 9) (Ni := some 352) (Nj := some 41) #[true, true, true, true, true, true, false, false, false, false, false, false] #[true, true, true, true, true, false, false, false, false, true, false, false] rfl rfl rfl rfl (two_of HT_.out (by kernel_rfl)) (by decide) (by decide) (fun K hK => ?_) (fun K hK => ?_)
             ·skip
              refine goes_ Tryd.func33 (by kernel_rfl) rfl #[.agg #[.int .i64 s1, .bool r1, .slice A1 l1.length c1], .int .i64 (rd od i)] (by rfl) rfl rfl (by (try simp only [List.map_toArray, List.map_cons, List.map_nil]); first | done | rfl) ?_
              with_reducible refine (impl_TakeSeat.calls k3 s1 r1 A1 c1 l1 (rd od i) m1 m2 m3 true _ (Kd.F_now FL.out) LL.out (HT.out.below HB.out) E2.out).mono ?_
              rintro e wC ⟨v_, rfl, hR, hb⟩
              refine ⟨_, rfl, ?_⟩
              obtain ⟨Am, cm, e_⟩ := Kd.R_slice hR
              subst e_
              have FM := Aside0.mk (pol_new hR (blk_lt B36.out))
              have LM := Aside0.mk (Kd.R_reads' hR).2.1
              have n0_ := Aside0.mk (below_step HB.out hb)
              have n1_ := Aside0.mk (Kd.F_below FO.out hb)
              have n2_ := Aside0.mk (Kd.F_below FL.out hb)
              have n3_ := Aside0.mk (blk_below BK.out hb)
              have n4_ := Aside0.mk (blk_below B36.out hb)
              clear HB FO FL BK B36
              have HB := n0_
              have FO := n1_
              have FL := n2_
              have BK := n3_
              have B36 := n4_
              clear n0_ n1_ n2_ n3_ n4_ hR hb
              refine hK.out _ _ ⟨(blk_cell B36.out 0).trans rfl, (blk_cell B36.out 1).trans rfl, (blk_cell B36.out 2).trans rfl, pol_atC (Kd.F_now FO.out) i (of_eq_true d1) (of_eq_true c20c)⟩ (fun hHeld => ?_)
              clear hK K
              refine norm_ (a' := ?_) ?_ ?_
              rotate_left
              ·show Act.put _ (some 352) _ = _
               simp only [Act.put, List.setIfInBounds_toArray, List.set_cons_zero, List.set_cons_succ, i64_w, i32_w]
               rfl
              refine pure_ (i := 6) (N := some 346) (v := ?_) (a' := ?_) #[true, true, true, true, true, true, true, false, false, false, false, false] rfl rfl (any_of HT_.out (by kernel_rfl)) (fun _ _ _ h => h) (Or.inl ⟨by rfl, ?_⟩) ?_ ?_
              rotate_left
              ·intro w'
               go_simp
               with_reducible rfl
              rotate_left
              ·simp only [Act.put, List.setIfInBounds_toArray, List.set_cons_zero, List.set_cons_succ, i64_w, i32_w]
               rfl
              refine pure_ (i := 7) (N := some 353) (v := ?_) (a' := ?_) #[true, true, true, true, true, true, true, true, false, false, false, false] rfl rfl (any_of HT_.out (by kernel_rfl)) (fun _ _ _ h => h) (Or.inl ⟨by rfl, ?_⟩) ?_ ?_
              rotate_left
              ·intro w'
               go_simp
               with_reducible rfl
              rotate_left
              ·simp only [Act.put, List.setIfInBounds_toArray, List.set_cons_zero, List.set_cons_succ, i64_w, i32_w]
               rfl
              refine pure_ (i := 8) (N := some 354) (v := ?_) (a' := ?_) #[true, true, true, true, true, true, true, true, true, false, false, false] rfl rfl (any_of HT_.out (by kernel_rfl)) (fun _ _ _ h => h) (Or.inl ⟨by rfl, ?_⟩) ?_ ?_
              rotate_left
              ·intro w'
               go_simp
               with_reducible rfl
              rotate_left
              ·simp only [Act.put, List.setIfInBounds_toArray, List.set_cons_zero, List.set_cons_succ, i64_w, i32_w]
               rfl
              refine one_ (i := 9) (N := some 41) #[true, true, true, true, true, true, true, true, true, true, false, false] rfl rfl (one_of HT_.out (by kernel_rfl)) (by decide) (fun K hK => ?_)
              refine value_ (w1 := wC.alloc (.cells #[.int .i64 0, .bool false, .slice none 0 0] 26 (0, 0))) (v := .pointer (some ⟨wC.heap.size, 0, none⟩)) (by rfl) rfl ?_ ?_
              ·first | (go_simp; done) | (go_simp; rfl)
              have B41 := Aside0.mk (blk_new wC (.cells #[.int .i64 0, .bool false, .slice none 0 0] 26 (0, 0)))
              have GE41 := Aside0.mk HB.out.size
              have NE41 := Aside0.mk (show gr ≠ wC.heap.size from Nat.ne_of_lt (blk_lt BK.out))
              have NF41 := Aside0.mk (show g36 ≠ wC.heap.size from Nat.ne_of_lt (blk_lt B36.out))
              have n0_ := Aside0.mk (Kd.F_elderB FO.out _ (Nat.le_refl _))
              have n1_ := Aside0.mk (Kd.F_elderB FM.out _ (Nat.le_refl _))
              clear FO FM
              have FO := n0_
              have FM := n1_
              clear n0_ n1_
              have n0_ := Aside0.mk (below_step HB.out (below_alloc (Below.refl _ _) (.cells #[.int .i64 0, .bool false, .slice none 0 0] 26 (0, 0))))
              have n1_ := Aside0.mk (Kd.F_below FO.out (below_alloc (Below.refl _ _) (.cells #[.int .i64 0, .bool false, .slice none 0 0] 26 (0, 0))))
              have n2_ := Aside0.mk (Kd.F_below FL.out (below_alloc (Below.refl _ _) (.cells #[.int .i64 0, .bool false, .slice none 0 0] 26 (0, 0))))
              have n3_ := Aside0.mk (blk_below BK.out (below_alloc (Below.refl _ _) (.cells #[.int .i64 0, .bool false, .slice none 0 0] 26 (0, 0))))
              have n4_ := Aside0.mk (blk_below B36.out (below_alloc (Below.refl _ _) (.cells #[.int .i64 0, .bool false, .slice none 0 0] 26 (0, 0))))
              have n5_ := Aside0.mk (Kd.F_below FM.out (below_alloc (Below.refl _ _) (.cells #[.int .i64 0, .bool false, .slice none 0 0] 26 (0, 0))))
              clear HB FO FL BK B36 FM
              have HB := n0_
              have FO := n1_
              have FL := n2_
              have BK := n3_
              have B36 := n4_
              have FM := n5_
              clear n0_ n1_ n2_ n3_ n4_ n5_
              generalize wC.heap.size = g41 at B41 GE41 NE41 NF41 FO FM ⊢
              generalize World.alloc _ _ = wD at HB FO FL BK B36 B41 FM hHeld ⊢
              refine hK.out _ _ ⟨(blk_cell B36.out 0).trans rfl, (blk_cell B36.out 1).trans rfl, (blk_cell B36.out 2).trans rfl, pol_atC (Kd.F_now FO.out) i (of_eq_true d1) (of_eq_true c20c)⟩ (fun hHeld => ?_)
              clear hK K
              refine norm_ (a' := ?_) ?_ ?_
              rotate_left
              ·show Act.put _ (some 41) _ = _
               simp only [Act.put, List.setIfInBounds_toArray, List.set_cons_zero, List.set_cons_succ, i64_w, i32_w]
               rfl
              exact norm_ (by simp only [putAll, Act.put, List.setIfInBounds_toArray, List.set_cons_zero, List.set_cons_succ]) (hCont (Am, cm, g41) _ ⟨HB.out, FO.out, FM.out, LM.out, BK.out, B36.out, B41.out, GE41.out, NE41.out, NF41.out⟩)
             ·skip
              refine value_ (w1 := w43.alloc (.cells #[.int .i64 0, .bool false, .slice none 0 0] 26 (0, 0))) (v := .pointer (some ⟨w43.heap.size, 0, none⟩)) (by rfl) rfl ?_ ?_
              ·first | (go_simp; done) | (go_simp; rfl)
              have B41 := Aside0.mk (blk_new w43 (.cells #[.int .i64 0, .bool false, .slice none 0 0] 26 (0, 0)))
              have GE41 := Aside0.mk HB.out.size
              have NE41 := Aside0.mk (show gr ≠ w43.heap.size from Nat.ne_of_lt (blk_lt BK.out))
              have NF41 := Aside0.mk (show g36 ≠ w43.heap.size from Nat.ne_of_lt (blk_lt B36.out))
              have n0_ := Aside0.mk (Kd.F_elderB FO.out _ (Nat.le_refl _))
              clear FO
              have FO := n0_
              clear n0_
              have n0_ := Aside0.mk (below_step HB.out (below_alloc (Below.refl _ _) (.cells #[.int .i64 0, .bool false, .slice none 0 0] 26 (0, 0))))
              have n1_ := Aside0.mk (Kd.F_below FO.out (below_alloc (Below.refl _ _) (.cells #[.int .i64 0, .bool false, .slice none 0 0] 26 (0, 0))))
              have n2_ := Aside0.mk (Kd.F_below FL.out (below_alloc (Below.refl _ _) (.cells #[.int .i64 0, .bool false, .slice none 0 0] 26 (0, 0))))
              have n3_ := Aside0.mk (blk_below BK.out (below_alloc (Below.refl _ _) (.cells #[.int .i64 0, .bool false, .slice none 0 0] 26 (0, 0))))
              have n4_ := Aside0.mk (blk_below B36.out (below_alloc (Below.refl _ _) (.cells #[.int .i64 0, .bool false, .slice none 0 0] 26 (0, 0))))
              clear HB FO FL BK B36
              have HB := n0_
              have FO := n1_
              have FL := n2_
              have BK := n3_
              have B36 := n4_
              clear n0_ n1_ n2_ n3_ n4_
              generalize w43.heap.size = g41 at B41 GE41 NE41 NF41 FO ⊢
              generalize World.alloc _ _ = wA at HB FO FL BK B36 B41 hHeld ⊢
              refine hK.out _ _ ⟨(blk_cell B36.out 0).trans rfl, (blk_cell B36.out 1).trans rfl, (blk_cell B36.out 2).trans rfl, pol_atC (Kd.F_now FO.out) i (of_eq_true d1) (of_eq_true c20c)⟩ (fun hHeld => ?_)
              clear hK K
              refine norm_ (a' := ?_) ?_ ?_
              rotate_left
              ·show Act.put _ (some 41) _ = _
               simp only [Act.put, List.setIfInBounds_toArray, List.set_cons_zero, List.set_cons_succ, i64_w, i32_w]
               rfl
              refine one_ (i := 5) (N := some 352) #[true, true, true, true, true, true, false, false, false, true, false, false] rfl rfl (one_of HT_.out (by kernel_rfl)) (by decide) (fun K hK => ?_)
              refine goes_ Tryd.func33 (by kernel_rfl) rfl #[.agg #[.int .i64 s1, .bool r1, .slice A1 l1.length c1], .int .i64 (rd od i)] (by rfl) rfl rfl (by (try simp only [List.map_toArray, List.map_cons, List.map_nil]); first | done | rfl) ?_
              with_reducible refine (impl_TakeSeat.calls k3 s1 r1 A1 c1 l1 (rd od i) m1 m2 m3 true _ (Kd.F_now FL.out) LL.out (HT.out.below HB.out) E2.out).mono ?_
              rintro e wD ⟨v_, rfl, hR, hb⟩
              refine ⟨_, rfl, ?_⟩
              obtain ⟨Am, cm, e_⟩ := Kd.R_slice hR
              subst e_
              have FM := Aside0.mk (pol_new2 hR (blk_lt B36.out) (blk_lt B41.out))
              have LM := Aside0.mk (Kd.R_reads' hR).2.1
              have n0_ := Aside0.mk (below_step HB.out hb)
              have n1_ := Aside0.mk (Kd.F_below FO.out hb)
              have n2_ := Aside0.mk (Kd.F_below FL.out hb)
              have n3_ := Aside0.mk (blk_below BK.out hb)
              have n4_ := Aside0.mk (blk_below B36.out hb)
              have n5_ := Aside0.mk (blk_below B41.out hb)
              clear HB FO FL BK B36 B41
              have HB := n0_
              have FO := n1_
              have FL := n2_
              have BK := n3_
              have B36 := n4_
              have B41 := n5_
              clear n0_ n1_ n2_ n3_ n4_ n5_ hR hb
              refine hK.out _ _ ⟨(blk_cell B36.out 0).trans rfl, (blk_cell B36.out 1).trans rfl, (blk_cell B36.out 2).trans rfl, pol_atC (Kd.F_now FO.out) i (of_eq_true d1) (of_eq_true c20c)⟩ (fun hHeld => ?_)
              clear hK K
              refine norm_ (a' := ?_) ?_ ?_
              rotate_left
              ·show Act.put _ (some 352) _ = _
               simp only [Act.put, List.setIfInBounds_toArray, List.set_cons_zero, List.set_cons_succ, i64_w, i32_w]
               rfl
              refine pure_ (i := 6) (N := some 346) (v := ?_) (a' := ?_) #[true, true, true, true, true, true, true, false, false, true, false, false] rfl rfl (any_of HT_.out (by kernel_rfl)) (fun _ _ _ h => h) (Or.inl ⟨by rfl, ?_⟩) ?_ ?_
              rotate_left
              ·intro w'
               go_simp
               with_reducible rfl
              rotate_left
              ·simp only [Act.put, List.setIfInBounds_toArray, List.set_cons_zero, List.set_cons_succ, i64_w, i32_w]
               rfl
              refine pure_ (i := 7) (N := some 353) (v := ?_) (a' := ?_) #[true, true, true, true, true, true, true, true, false, true, false, false] rfl rfl (any_of HT_.out (by kernel_rfl)) (fun _ _ _ h => h) (Or.inl ⟨by rfl, ?_⟩) ?_ ?_
              rotate_left
              ·intro w'
               go_simp
               with_reducible rfl
              rotate_left
              ·simp only [Act.put, List.setIfInBounds_toArray, List.set_cons_zero, List.set_cons_succ, i64_w, i32_w]
               rfl
              refine pure_ (i := 8) (N := some 354) (v := ?_) (a' := ?_) #[true, true, true, true, true, true, true, true, true, true, false, false] rfl rfl (any_of HT_.out (by kernel_rfl)) (fun _ _ _ h => h) (Or.inl ⟨by rfl, ?_⟩) ?_ ?_
              rotate_left
              ·intro w'
               go_simp
               with_reducible rfl
              rotate_left
              ·simp only [Act.put, List.setIfInBounds_toArray, List.set_cons_zero, List.set_cons_succ, i64_w, i32_w]
               rfl
              exact norm_ (by simp only [putAll, Act.put, List.setIfInBounds_toArray, List.set_cons_zero, List.set_cons_succ]) (hCont (Am, cm, g41) _ ⟨HB.out, FO.out, FM.out, LM.out, BK.out, B36.out, B41.out, GE41.out, NE41.out, NF41.out⟩)
            rintro ⟨Am, cm, g41⟩ wJ ⟨h0_, h1_, h2_, h3_, h4_, h5_, h6_, h7_, h8_, h9_⟩
            clear HB FO FL BK B36
            have HB := Aside0.mk h0_
            have FO : Aside0 (Kd.F (Kd.int .i64) wJ (fun k_ => k_ ≠ g36 ∧ k_ ≠ g41) (some ado) od.length od) := ⟨h1_⟩
            have FM : Aside0 (Kd.F (Kd.int .i64) wJ (fun k_ => k_ ≠ g36 ∧ k_ ≠ g41) Am m3.length m3) := ⟨h2_⟩
            have LM : Aside0 (m3.length ≤ cm) := ⟨h3_⟩
            have BK := Aside0.mk h4_
            have B36 := Aside0.mk h5_
            have B41 : Aside0 (wJ.heap[g41]? = some (.cells #[.int .i64 0, .bool false, .slice none 0 0] 26 (0, 0))) := ⟨h6_⟩
            have GE41 : Aside0 (w.heap.size ≤ g41) := ⟨h7_⟩
            have NE41 : Aside0 (gr ≠ g41) := ⟨h8_⟩
            have NF41 : Aside0 (g36 ≠ g41) := ⟨h9_⟩
            clear h0_ h1_ h2_ h3_ h4_ h5_ h6_ h7_ h8_ h9_
            have hHeld : wJ.cell? ⟨g36, 0, none⟩ = some (.int .i64 s1) ∧ wJ.cell? ⟨g36, 1, none⟩ = some (.bool r1) ∧ wJ.cell? ⟨g36, 2, none⟩ = some (.slice A1 l1.length c1) ∧ wJ.cell? (ado.add i.toNat) = some (.int .i64 (rd od i)) := ⟨(blk_cell B36.out 0).trans rfl, (blk_cell B36.out 1).trans rfl, (blk_cell B36.out 2).trans rfl, pol_atC (Kd.F_now FO.out) i (of_eq_true d1) (of_eq_true c20c)⟩
            refine norm_ (a' := ?_) ?_ ?_
            rotate_left
            ·simp only [putAll, Act.put, List.setIfInBounds_toArray, List.set_cons_zero, List.set_cons_succ]
             rfl
            refine last_ (i := 10) (N := none) #[true, true, true, true, true, true, true, true, true, true, true, false] rfl rfl (one_of HT_.out (by kernel_rfl)) (by decide) (fun K hK => ?_)
            have z_0 : wJ.cell? ⟨g41, 0, none⟩ = some (.int .i64 0) := (blk_cell B41.out 0).trans rfl
            have f_0 := blk_frozen B41.out 0
            have z_1 : wJ.cell? ⟨g41, 1, none⟩ = some (.bool false) := (blk_cell B41.out 1).trans rfl
            have f_1 := blk_frozen B41.out 1
            have z_2 : wJ.cell? ⟨g41, 2, none⟩ = some (.slice none 0 0) := (blk_cell B41.out 2).trans rfl
            have f_2 := blk_frozen B41.out 2
            refine skip_ (w1 := ((wJ.setCell ⟨g41, 0, none⟩ (.int .i64 m1)).setCell ⟨g41, 1, none⟩ (.bool m2)).setCell ⟨g41, 2, none⟩ (.slice Am m3.length cm)) (by rfl) rfl ?_ ?_
            ·first | (go_simp; done) | (go_simp; rfl)
            have ne_ := GE41.out
            have k0_ := Aside0.mk (pol_put2 FO.out (.int .i64 m1) (.bool m2) (.slice Am m3.length cm))
            have k1_ := Aside0.mk (pol_put2 FM.out (.int .i64 m1) (.bool m2) (.slice Am m3.length cm))
            have k2_ := Aside0.mk (pol_far BK.out NE41.out (.int .i64 m1) (.bool m2) (.slice Am m3.length cm))
            have k3_ := Aside0.mk (pol_far B36.out NF41.out (.int .i64 m1) (.bool m2) (.slice Am m3.length cm))
            obtain ⟨wK, e_, hbox, hb_⟩ := pol_box B41.out HB.out GE41.out (.int .i64 m1) (.bool m2) (.slice Am m3.length cm)
            rw [e_] at k0_ k1_ k2_ k3_ ⊢
            clear e_ z_0 z_1 z_2 f_0 f_1 f_2 B41 HB FO FM BK B36
            have B41 := Aside0.mk hbox
            have HB := Aside0.mk hb_
            clear hbox hb_
            have FO := k0_
            have FM := k1_
            have BK := k2_
            have B36 := k3_
            clear k0_ k1_ k2_ k3_
            refine hK.out _ _ ?_
            clear hK K
            refine pure_ (i := 11) (N := some 42) (v := ?_) (a' := ?_) #[true, true, true, true, true, true, true, true, true, true, true, true] rfl rfl (any_of HT_.out (by kernel_rfl)) (fun _ _ _ h => h) (Or.inl ⟨by rfl, ?_⟩) ?_ ?_
            rotate_left
            ·intro w'
             go_simp
             with_reducible rfl
            rotate_left
            ·simp only [Act.put, List.setIfInBounds_toArray, List.set_cons_zero, List.set_cons_succ, i64_w, i32_w]
             rfl
            refine done_ (done_of HT_.out (by kernel_rfl)) ?_

            have q0_ : wK.cell? ⟨g41, 0, none⟩ = some (.int .i64 m1) := (blk_cell B41.out 0).trans rfl
            have q1_ : wK.cell? ⟨g41, 1, none⟩ = some (.bool m2) := (blk_cell B41.out 1).trans rfl
            have q2_ : wK.cell? ⟨g41, 2, none⟩ = some (.slice Am m3.length cm) := (blk_cell B41.out 2).trans rfl
            have z_0 : wK.cell? ⟨g36, 0, none⟩ = some (.int .i64 s1) := (blk_cell B36.out 0).trans rfl
            have f_0 := blk_frozen B36.out 0
            have z_1 : wK.cell? ⟨g36, 1, none⟩ = some (.bool r1) := (blk_cell B36.out 1).trans rfl
            have f_1 := blk_frozen B36.out 1
            have z_2 : wK.cell? ⟨g36, 2, none⟩ = some (.slice A1 l1.length c1) := (blk_cell B36.out 2).trans rfl
            have f_2 := blk_frozen B36.out 2
            go_upto_region 38 with (fail)
            clear q0_ q1_ q2_
            have k0_ := Aside0.mk (pol_put FO.out (.int .i64 m1) (.bool m2) (.slice Am m3.length cm))
            have k1_ := Aside0.mk (pol_put FM.out (.int .i64 m1) (.bool m2) (.slice Am m3.length cm))
            have k2_ := Aside0.mk (pol_far BK.out NE.out (.int .i64 m1) (.bool m2) (.slice Am m3.length cm))
            obtain ⟨wL, e_, hbox, hb_⟩ := pol_box B36.out HB.out GX.out (.int .i64 m1) (.bool m2) (.slice Am m3.length cm)
            rw [e_] at k0_ k1_ k2_ ⊢
            clear e_ z_0 z_1 z_2 f_0 f_1 f_2 B36 HB FO FM BK
            have B36 := Aside0.mk hbox
            have HB := Aside0.mk hb_
            clear hbox hb_
            have FO := k0_
            have FM := k1_
            have BK := k2_
            clear k0_ k1_ k2_
            go_wp2
            go_roundg k3
            case measure => have h_ := HK9.out; omega
            case rel => exact ⟨rd ow (rd od i), wrap64 (i + 1), m1, m2, Am, cm, m3, (by first | rfl | (simp; done) | (simp [*]; done)), (by first | rfl | (simp; done) | (simp [*]; done)), HH, ⟨by have h_ := HK9.out; omega⟩, HB, FO, FM, LM, BK, B36⟩

/-- THE ONE PURE STATEMENT of laws_FnPolite: yours. -/
def laws_FnPolite.Pure : Prop := ∀ (l0 : List Int), l0.length ≤ maxLen → l0.length * 1 ≤ 140737488351232 → (∀ x ∈ l0, (Lit.int .u8 x).wf = true) → ∃ k, laws_FnPolite.f k l0 = some true
theorem laws_FnPolite.walk (P : laws_FnPolite.Pure) (a0 : Option Addr) (len0 cap0 : Nat) (z0 : List Int) (w : World) (hT : GT w) (w0 : (a0 = none ∧ len0 = 0 ∧ cap0 = 0 ∧ z0 = []) ∨ ∃ x, a0 = some x ∧ len0 ≤ cap0 ∧ cap0 ≤ maxLen ∧ z0.length = cap0 ∧ (∀ i, i < z0.length → w.cell? (x.add i) = some (.int .u8 (z0.getD i 0))) ∧ ∀ n ∈ z0, (Lit.int .u8 n).wf = true) (y0 : len0 * 1 ≤ 140737488351232) :
  Calls Tryd.prog 4 #[.slice a0 len0 cap0] w fun e w' => e = .returned (.bool true) ∧ Below w.heap.size w w' := by
 obtain ⟨l0, rfl, hr0, hm0, hw0, hc0⟩ := ReadsInt.ofRowC w0
 obtain ⟨k, h⟩ := P l0 hm0 y0 hw0
 exact laws_FnPolite.calls k _ _ l0 w (Kd.C_of_reads (d := (0 : Int)) (h1 := fun _ => rfl) hr0) hc0 hT h

end Go.Proofs.YtaebbgkoaaigbaaDoor.PFnPolite
