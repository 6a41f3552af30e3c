/- Proved: each Go function named here, called, comes to the answer of the Lean function beside it. Conditions: those that stand in each theorem. (Printed by this session's own turned copy of a printing program.) -/
import Derived.Test.YtapbmneehaemeaaDoorZFirstSpacedPx0
import Derived.Test.YtapbmneehaemeaaDoorZFirstSpacedPx3
namespace Go.Proofs.YtapbmneehaemeaaDoor.PFnExactFirstSpaced
open Go.RowKit Go.Proofs.YtapbmneehaemeaaDoorW.PrintWords Go.Proofs.YtapbmneehaemeaaDoorW.PrintLast Go.Proofs.YtapbmneehaemeaaDoorW.PrintMore
attribute [local go_sem] max2_int min2_int max_two min_two max_three min_three max_four min_four   -- for this text's walks alone
set_option linter.unusedVariables false
set_option linter.unusedSimpArgs false

/-! ### spec_l9Line: function 61 -/
def lnRd (xs : List (List Int)) (i : Int) : List Int := xs.getD i.toNat ([] : List Int)
def lineZ : List Int := (List.replicate 25 (0 : Int)).set 0 1
def lineA (f : Int) (tab : List (List Int)) (p : Int) : Option (List Int) := if p > f then (if 0 ≤ wrap64 (wrap64 (p - f) - 1) then (if wrap64 (wrap64 (p - f) - 1) < (tab.length : Int) then spec_l1Own.f (lnRd tab (wrap64 (wrap64 (p - f) - 1))) else none) else none) else some lineZ
def lineB (f d : Int) (tab : List (List Int)) (p : Int) : Option (List Int) := if wrap64 (p - d) ≥ f then (if 0 ≤ wrap64 (wrap64 (p - f) - d) then (if wrap64 (wrap64 (p - f) - d) < (tab.length : Int) then some (lnRd tab (wrap64 (wrap64 (p - f) - d))) else none) else none) else some lineZ
mutual
def spec_l9Line.l0 : Nat → List Bool → Int → Int → Int → List (List Int) → Int → Option (List Int)
  | 0, _, _, _, _, _, _ => none
  | k + 1, op, f, l, d, tab, p => if p ≤ l then ((lineA f tab p).bind fun row => (lineB f d tab p).bind fun bef => if 0 < row.length then spec_l9Line.l1 k op f l d tab p row bef 1 else none) else if (tab.length : Int) = 0 then some lineZ else if 0 ≤ wrap64 ((tab.length : Int) - 1) then (if wrap64 ((tab.length : Int) - 1) < (tab.length : Int) then some (lnRd tab (wrap64 ((tab.length : Int) - 1))) else none) else none
def spec_l9Line.l1 : Nat → List Bool → Int → Int → Int → List (List Int) → Int → List Int → List Int → Int → Option (List Int)
  | 0, _, _, _, _, _, _, _, _, _ => none
  | k + 1, op, f, l, d, tab, p, row, bef, j => if 0 ≤ p then (if p < (op.length : Int) then (if rdOf false op p = true then (if j ≤ 24 then (if 0 ≤ j then (if j < (row.length : Int) then (if 0 ≤ wrap64 (j - 1) then (if wrap64 (j - 1) < (bef.length : Int) then spec_l9Line.l1 k op f l d tab p (row.set j.toNat (wrap64 (rd row j + rd bef (wrap64 (j - 1))))) bef (wrap64 (j + 1)) else none) else none) else none) else none) else (if tab.length + 1 < 4398046511104 then spec_l9Line.l0 k op f l d (tab ++ [row]) (wrap64 (p + 1)) else none)) else (if tab.length + 1 < 4398046511104 then spec_l9Line.l0 k op f l d (tab ++ [row]) (wrap64 (p + 1)) else none)) else none) else none
end
def spec_l9Line.f (k : Nat) (op : List Bool) (f l d : Int) : Option (List Int) := spec_l9Line.l0 k op f l d ([] : List (List Int)) f
theorem lineZ_own : spec_l1Own.f lineZ = some lineZ := by decide
theorem row_get {w : World} {base : Nat} {ok : Nat → Prop} {v : Value} {tab : List (List Int)} (h : Kd.R (Kd.slice 3 (Kd.int .i64)) 22 w base ok v tab) (i : Int) (h0 : 0 ≤ i) (h1 : i < (tab.length : Int)) :
    ∃ ad cap A c, v = .slice (some ad) tab.length cap ∧ w.cell? (ad.add i.toNat) = some (.slice A (lnRd tab i).length c) ∧ Kd.R (Kd.int .i64) 3 w base ok (.slice A (lnRd tab i).length c) (lnRd tab i) := by
  obtain ⟨g, cap, rfl, _, _, _⟩ := Kd.R_form h (by omega)
  obtain ⟨c, hcl, ⟨u, hc, hu⟩, hcc⟩ := Kd.R_get h ([] : List Int) i h0 h1
  subst hc
  obtain ⟨A, cA, rfl⟩ := Kd.R_slice hu
  have := hcc 0 _ rfl
  exact ⟨⟨g, 0, none⟩, cap, A, cA, rfl, by have hq : w.cell? ((⟨g, 0, none⟩ : Addr).add (i.toNat * 1 + 0)) = _ := this; rwa [Nat.mul_one, Nat.add_zero] at hq, Kd.R_mono hu (fun k hk => hk.1)⟩
theorem ln_made {w w1 w2 : World} {vT vZ : Value} {tab : List (List Int)} (hT : Kd.R (Kd.slice 3 (Kd.int .i64)) 22 w1 w.heap.size (fun _ => True) vT tab) (hZ : Kd.R (Kd.int .i64) 3 w2 w.heap.size (fun _ => True) vZ (List.replicate 25 0)) (hg : w1.grownBy w2 none) (hn : ∃ b, vZ.ownBlock = some b ∧ w1.heap.size ≤ b) :
    Kd.R (Kd.slice 3 (Kd.int .i64)) 22 w2 w.heap.size (fun k_ => k_ ≠ (vZ.ownBlock.getD 0)) vT tab ∧ ∃ gz cz, vZ = .slice (some ⟨gz, 0, none⟩) lineZ.length cz ∧ w.heap.size ≤ gz ∧ Kd.R (Kd.int .i64) 3 w2 w.heap.size (fun k_ => k_ = gz) (.slice (some ⟨gz, 0, none⟩) lineZ.length cz) (List.replicate 25 0) := by
  obtain ⟨b, hb1, hb2⟩ := hn
  obtain ⟨gz, cz, rfl, h1, h2, _⟩ := Kd.R_form hZ (by simp)
  refine ⟨Kd.R_mono (Kd.R_grown (Kd.R_bound hT) hg (fun _ _ => by simp)) (fun k hk => ?_), gz, cz, rfl, h1, Kd.R_mono (Kd.R_tight rfl hZ) (fun k hk => ?_)⟩
  · have := hk.2.2.1
    rw [hb1]
    show k ≠ b
    omega
  · injection hk
theorem ln_own1 {w W w1 : World} {vT vZ vW : Value} {gz : Nat} {tab : List (List Int)} {x y : List Int} (HT : Aside0 (Kd.R (Kd.slice 3 (Kd.int .i64)) 22 W w.heap.size (fun k_ => k_ ≠ gz) vT tab)) (HZ : Aside0 (Kd.R (Kd.int .i64) 3 W w.heap.size (fun k_ => k_ = gz) vZ x)) (HB : Aside0 (Below w.heap.size w W)) (ho : Kd.R (Kd.int .i64) 3 w1 W.heap.size (fun _ => True) vW y) (hb : Below W.heap.size W w1) :
    Aside0 (Kd.R (Kd.slice 3 (Kd.int .i64)) 22 w1 w.heap.size (fun k_ => k_ ≠ gz ∧ some k_ ≠ vW.ownBlock) vT tab) ∧ Aside0 (Kd.R (Kd.int .i64) 3 w1 w.heap.size (fun k_ => k_ = gz ∧ some k_ ≠ vW.ownBlock) vZ x) ∧ Aside0 (Kd.R (Kd.int .i64) 3 w1 w.heap.size (fun _ => True) vW y) ∧ Aside0 (Below w.heap.size w w1) :=
  ⟨⟨Kd.R_elder' HT.out (Kd.R_base ho) hb⟩, ⟨Kd.R_elder' HZ.out (Kd.R_base ho) hb⟩, ⟨Kd.R_lower ho HB.out.size⟩, ⟨below_step HB.out hb⟩⟩
theorem ln_own2 {w W w1 : World} {vT vZ vW vF : Value} {gz : Nat} {tab : List (List Int)} {x y z : List Int} (HT : Aside0 (Kd.R (Kd.slice 3 (Kd.int .i64)) 22 W w.heap.size (fun k_ => k_ ≠ gz ∧ some k_ ≠ vW.ownBlock) vT tab)) (HZ : Aside0 (Kd.R (Kd.int .i64) 3 W w.heap.size (fun k_ => k_ = gz ∧ some k_ ≠ vW.ownBlock) vZ x)) (HW : Aside0 (Kd.R (Kd.int .i64) 3 W w.heap.size (fun _ => True) vW y)) (HB : Aside0 (Below w.heap.size w W)) (ho : Kd.R (Kd.int .i64) 3 w1 W.heap.size (fun _ => True) vF z) (hb : Below W.heap.size W w1) :
    Aside0 (Kd.R (Kd.slice 3 (Kd.int .i64)) 22 w1 w.heap.size (fun k_ => k_ ≠ gz ∧ some k_ ≠ vW.ownBlock) vT tab) ∧ Aside0 (Kd.R (Kd.int .i64) 3 w1 w.heap.size (fun k_ => k_ = gz ∧ some k_ ≠ vW.ownBlock) vZ x) ∧ Aside0 (Kd.R (Kd.int .i64) 3 w1 w.heap.size (fun _ => True) vW y) ∧ Aside0 (Kd.R (Kd.int .i64) 3 w1 w.heap.size (fun k_ => some k_ ≠ vW.ownBlock) vF z) ∧ Aside0 (Below w.heap.size w w1) :=
  ⟨⟨Kd.R_below HT.out hb⟩, ⟨Kd.R_below HZ.out hb⟩, ⟨Kd.R_below HW.out hb⟩, ⟨Kd.R_lower (Kd.R_mono (Kd.R_new' ho (Kd.R_lt HW.out)) (fun _ hk => hk.2)) HB.out.size⟩, ⟨below_step HB.out hb⟩⟩
theorem ln_own3 {w W w1 : World} {vT vZ vO vF vW : Value} {gz : Nat} {tab : List (List Int)} {x y z : List Int} (HT : Aside0 (Kd.R (Kd.slice 3 (Kd.int .i64)) 22 W w.heap.size (fun k_ => k_ ≠ gz ∧ some k_ ≠ vO.ownBlock) vT tab)) (HZ : Aside0 (Kd.R (Kd.int .i64) 3 W w.heap.size (fun k_ => k_ = gz ∧ some k_ ≠ vO.ownBlock) vZ x)) (HF : Aside0 (Kd.R (Kd.int .i64) 3 W w.heap.size (fun k_ => some k_ ≠ vO.ownBlock) vF z)) (HB : Aside0 (Below w.heap.size w W)) (ho : Kd.R (Kd.int .i64) 3 w1 W.heap.size (fun _ => True) vW y) (hb : Below W.heap.size W w1) :
    Aside0 (Kd.R (Kd.slice 3 (Kd.int .i64)) 22 w1 w.heap.size (fun k_ => k_ ≠ gz ∧ some k_ ≠ vW.ownBlock) vT tab) ∧ Aside0 (Kd.R (Kd.int .i64) 3 w1 w.heap.size (fun k_ => k_ = gz ∧ some k_ ≠ vW.ownBlock) vZ x) ∧ Aside0 (Kd.R (Kd.int .i64) 3 w1 w.heap.size (fun _ => True) vW y) ∧ Aside0 (Kd.R (Kd.int .i64) 3 w1 w.heap.size (fun k_ => some k_ ≠ vW.ownBlock) vF z) ∧ Aside0 (Below w.heap.size w w1) :=
  ⟨⟨Kd.R_mono (Kd.R_elder' HT.out (Kd.R_base ho) hb) (fun _ hk => ⟨hk.1.1, hk.2⟩)⟩, ⟨Kd.R_mono (Kd.R_elder' HZ.out (Kd.R_base ho) hb) (fun _ hk => ⟨hk.1.1, hk.2⟩)⟩, ⟨Kd.R_lower ho HB.out.size⟩, ⟨Kd.R_mono (Kd.R_elder' HF.out (Kd.R_base ho) hb) (fun _ hk => hk.2)⟩, ⟨below_step HB.out hb⟩⟩
theorem ln_form {W : World} {base gz cz : Nat} {vT vF vW : Value} {tab : List (List Int)} {y z : List Int} (HT : Kd.R (Kd.slice 3 (Kd.int .i64)) 22 W base (fun k_ => k_ ≠ gz ∧ some k_ ≠ vW.ownBlock) vT tab) (HZ : Kd.R (Kd.int .i64) 3 W base (fun k_ => k_ = gz ∧ some k_ ≠ vW.ownBlock) (.slice (some ⟨gz, 0, none⟩) lineZ.length cz) lineZ) (HF : Kd.R (Kd.int .i64) 3 W base (fun k_ => some k_ ≠ vW.ownBlock) vF z) (HW : Kd.R (Kd.int .i64) 3 W base (fun _ => True) vW y) (h : 0 < y.length) :
    ∃ gr cr, vW = .slice (some ⟨gr, 0, none⟩) y.length cr ∧ base ≤ gr ∧ Kd.R (Kd.slice 3 (Kd.int .i64)) 22 W base (fun k_ => k_ ≠ gz ∧ k_ ≠ gr) vT tab ∧ Kd.R (Kd.int .i64) 3 W base (fun k_ => k_ = gz) (.slice (some ⟨gz, 0, none⟩) lineZ.length cz) lineZ ∧ Kd.R (Kd.int .i64) 3 W base (fun k_ => k_ ≠ gr) vF z ∧ Kd.R (Kd.int .i64) 3 W base (fun k_ => k_ = gr) (.slice (some ⟨gr, 0, none⟩) y.length cr) y ∧ gr ≠ gz ∧ gr < W.heap.size := by
  obtain ⟨gr, cr, rfl, h1, h2, _⟩ := Kd.R_form HW h
  have ho : ∀ k : Nat, some k ≠ (Value.slice (some ⟨gr, 0, none⟩) y.length cr).ownBlock → k ≠ gr := fun k hk he => hk (by rw [he]; rfl)
  refine ⟨gr, cr, rfl, h1, Kd.R_mono HT (fun k hk => ⟨hk.1, ho k hk.2⟩), Kd.R_mono HZ (fun k hk => hk.1), Kd.R_mono HF (fun k hk => ho k hk), Kd.R_mono (Kd.R_tight rfl HW) (fun k hk => ?_), ?_, h2⟩
  · injection hk
  · have := HZ.1 gz rfl
    exact fun he => ho gz this.2 he.symm
theorem ln_app {W : World} {base gz cz gr nr cr : Nat} {vT : Value} {tab : List (List Int)} {y : List Int} (HT : Kd.R (Kd.slice 3 (Kd.int .i64)) 22 W base (fun k_ => k_ ≠ gz ∧ k_ ≠ gr) vT tab) (HZ : Kd.R (Kd.int .i64) 3 W base (fun k_ => k_ = gz) (.slice (some ⟨gz, 0, none⟩) lineZ.length cz) lineZ) (HW : Kd.R (Kd.int .i64) 3 W base (fun k_ => k_ = gr) (.slice (some ⟨gr, 0, none⟩) nr cr) y) (hrz : gr ≠ gz) :
    Kd.R (Kd.int .i64) 3 W base (fun k_ => k_ ≠ gz ∧ some k_ ≠ vT.ownBlock) (.slice (some ⟨gr, 0, none⟩) nr cr) y ∧ (∀ k, W.heap.size ≤ k → k ≠ gz) ∧ Kd.R (Kd.slice 3 (Kd.int .i64)) 22 W base (fun k_ => k_ ≠ gz) vT tab ∧ ∀ k : Nat, k = gz → some k ≠ vT.ownBlock := by
  refine ⟨Kd.R_mono HW (fun k hk => ?_), fun k hk he => ?_, Kd.R_mono HT (fun k hk => hk.1), fun k hk he => ?_⟩
  · subst hk
    exact ⟨hrz, fun he => (HT.1 k he.symm).2 rfl⟩
  · have := Kd.R_lt HZ gz rfl
    omega
  · exact (HT.1 k he.symm).1 hk
def spec_l9Line.T15 : Bool × List (List Nat × List Nat) := (true, [([], []), ([], []), ([], []), ([], []), ([2, 3], [2, 3]), ([4], [4]), ([], []), ([], []), ([7], [7]), ([6, 8], [6, 8]), ([9], [9]), ([5, 10], [5, 10]), ([0, 1, 0, 1, 2, 3, 4, 5, 6, 7, 8, 9, 10, 11], [0, 1]), ([12, 11, 0, 1, 2, 3, 4, 5, 6, 7, 8, 9, 10, 11], [11, 12])])
def spec_l9Line.B15 : List Nat := [0, 0, 0, 0, 12, 28, 0, 0, 128, 448, 960, 2044, 4095, 8191]
theorem spec_l9Line.tab15 : rtab .any (opsOf Tryd.f61 15) = spec_l9Line.T15 := by kernel_rfl
theorem spec_l9Line.bits15 : waitsOk spec_l9Line.T15.2 spec_l9Line.B15 = true := by kernel_rfl
set_option maxHeartbeats 8000000 in
set_option maxRecDepth 100000 in
theorem spec_l9Line.calls (k : Nat) (A0 : Option Addr) (c0 : Nat) (l0 : List Bool) (a1 : Int) (a2 : Int) (a3 : Int) (r : List Int) (w : World) (hr0 : Kd.C Kd.bool w A0 l0.length l0) (hc0 : l0.length ≤ c0) (h : spec_l9Line.f k l0 a1 a2 a3 = some r) :
    Calls Tryd.prog 61 #[.slice A0 l0.length c0, .int .i64 a1, .int .i64 a2, .int .i64 a3] w fun e w' => ∃ v0_ : Value, e = .returned (v0_) ∧ Kd.R (Kd.int .i64) 3 w' w.heap.size (fun _ => True) v0_ r ∧ Below w.heap.size w w' := by
  have HR0 := Aside0.mk hr0
  have HC0 := Aside0.mk hc0
  have HB := Aside0.mk (Below.refl w.heap.size w)
  have HH := Aside0.mk (show spec_l9Line.l0 k l0 a1 a2 a3 ([] : List (List Int)) a1 = some r from h)
  clear h hr0 hc0
  have hzp : ((0 : Int) < (lineZ.length : Int)) = True := eq_true (by decide)
  have hzq : (0 < lineZ.length) = True := eq_true (by decide)
  go_enter Tryd.func61, Tryd.ntmps61
  go_wp2_with (first | ((with_reducible refine gate_dst (N := 15) rfl ?_); refine Kd.R_lit (Kd.slice 3 (Kd.int .i64)) (w0 := w) w.heap.size 22 ?hg (N := 15) ?hd (xs := ([] : List (List Int))) (inner := []) (ok := fun _ => True) (okp := fun _ => True) ?hr ?hp (fun _ hk => hk) trivial HB.out HB.out.size (by simp) ?_; (case hd => rfl); (case hg => rfl); (case hr => first | (go_simp; done) | (go_simp; rfl)); (case hp => exact (Reps.none _ _)); intro vT w1 hoT hb1 hgT_ hnT_; have HT := Aside0.mk hoT; clear HB; have HB := Aside0.mk hb1; clear hoT hb1 hgT_ hnT_) | ((with_reducible refine gate_dst (N := 16) rfl ?_); refine Kd.R_make (Kd.int .i64) (w0 := w) w.heap.size 3 rfl (N := 16) rfl 22 _ _ rfl 25 rfl rfl Tryd.underlying22 (.int .i64 0) 8 info3 rfl (by decide) (by omega) 0 (ok := fun _ => True) (okp := fun _ => True) rfl (fun _ hk => hk) trivial (by omega) (by omega) HB.out HB.out.size ?_; intro vZ w2 hoZ hb2 hgZ_ hnZ_; obtain ⟨HT2, gz, cz, eZ, hz1, HZ⟩ := ln_made HT.out (show Kd.R (Kd.int .i64) 3 w2 w.heap.size (fun _ => True) vZ (List.replicate 25 0) from hoZ) hgZ_ hnZ_; subst eZ; clear HT HB hoZ hgZ_ hnZ_; have HT := Aside0.mk HT2; have HB := Aside0.mk hb2; clear HT2 hb2; obtain ⟨hy, hz⟩ := Kd.R_celln 0 HZ (0 : Int) (by omega) (by decide); have HZ0 := Aside0.mk HZ; clear HZ; (try simp only [Int.toNat_zero] at hy hz)))
  have HB3 := Aside0.mk (below_set HB.out hz1 (j := 0) (v := Value.int .i64 1))
  have HT3 := Aside0.mk (Kd.R_far (p := ⟨gz, 0, none⟩) (Kd.R_mono HT.out (ok' := fun k_ => k_ ≠ gz) (fun k_ hk_ => hk_)) (fun _ hk_ => hk_) (Value.int .i64 1))
  have HZ3 := Aside0.mk (show Kd.R (Kd.int .i64) 3 (w2.setCell ⟨gz, 0, none⟩ (.int .i64 1)) w.heap.size (fun k_ => k_ = gz) (.slice (some ⟨gz, 0, none⟩) lineZ.length cz) lineZ from Kd.R_putn HZ0.out (0 : Int) 1)
  clear HB HT HZ0 hy hz
  have HB := HB3
  have HT := HT3
  have HZ := HZ3
  clear HB3 HT3 HZ3
  generalize World.setCell _ _ _ = w3 at HB HT HZ ⊢
  go_loopg [9, 11] k (fun kq v9 v11 w' => ∃ (tab : List (List Int)) (p : Int), v11 = .int .i64 p ∧ Aside0 (spec_l9Line.l0 kq l0 a1 a2 a3 tab p = some r) ∧ Aside0 (kq ≤ k) ∧ Aside0 (Kd.R (Kd.slice 3 (Kd.int .i64)) 22 w' w.heap.size (fun k_ => k_ ≠ gz) v9 tab) ∧ Aside0 (Kd.R (Kd.int .i64) 3 w' w.heap.size (fun k_ => k_ = gz) (.slice (some ⟨gz, 0, none⟩) lineZ.length cz) lineZ) ∧ Aside0 (Below w.heap.size w w'))
  case atStart => exact ⟨_, _, rfl, HH, ⟨Nat.le_refl _⟩, HT, HZ, HB⟩
  case round =>
    clear HH HT HZ HB
    obtain ⟨tab, p, rfl, HA, HK1, HT, HZ, HB⟩ := hrel
    cases gk with
    | zero => exact absurd HA.out (by simp [spec_l9Line.l0])
    | succ k1 =>
      have H := HA.out
      clear HA
      simp only [spec_l9Line.l0] at H
      by_cases c1 : p ≤ a2
      · rw [if_pos c1] at H
        have c1b : decide (p ≤ a2) = true := decide_eq_true c1
        clear c1
        replace H := Option.bind_eq_some_iff.mp H
        obtain ⟨row, A10, H⟩ := H
        replace H := Option.bind_eq_some_iff.mp H
        obtain ⟨bef, A20, H⟩ := H
        have A1 := Aside0.mk A10
        have A2 := Aside0.mk A20
        have HH := Aside0.mk H
        clear A10 A20 H
        go_upto_if 31 with (first | ((with_reducible refine gate_dst (N := 26) rfl ?_); refine goesL_ (some 26) rfl rfl Tryd.func72 (by kernel_rfl) rfl #[.slice (some ⟨gz, 0, none⟩) lineZ.length cz] rfl (by (try simp only [List.map_toArray, List.map_cons, List.map_nil]); first | done | rfl) ?_; (with_reducible refine (spec_l1Own.calls (some ⟨gz, 0, none⟩) cz lineZ lineZ _ (Kd.R_reads' HZ.out).2.2 (Kd.R_reads' HZ.out).2.1 lineZ_own).mono ?_); rintro e w4 ⟨vW, rfl, ho, hb⟩; refine ⟨_, rfl, ?_⟩; obtain ⟨HT, HZ, HW, HB⟩ := ln_own1 HT HZ HB ho hb; clear ho hb) | ((with_reducible refine gate_dst (N := 28) rfl ?_); refine goesL_ (some 28) rfl rfl Tryd.func72 (by kernel_rfl) rfl #[.slice (some ⟨gz, 0, none⟩) lineZ.length cz] rfl (by (try simp only [List.map_toArray, List.map_cons, List.map_nil]); first | done | rfl) ?_; (with_reducible refine (spec_l1Own.calls (some ⟨gz, 0, none⟩) cz lineZ lineZ _ (Kd.R_reads' HZ.out).2.2 (Kd.R_reads' HZ.out).2.1 lineZ_own).mono ?_); rintro e w5 ⟨vF, rfl, ho, hb⟩; refine ⟨_, rfl, ?_⟩; obtain ⟨HT, HZ, HW, HF, HB⟩ := ln_own2 HT HZ HW HB ho hb; clear ho hb))
        go_cut [12] (fun v12 wc => Aside0 (Kd.R (Kd.slice 3 (Kd.int .i64)) 22 wc w.heap.size (fun k_ => k_ ≠ gz ∧ some k_ ≠ v12.ownBlock) u9 tab) ∧ Aside0 (Kd.R (Kd.int .i64) 3 wc w.heap.size (fun k_ => k_ = gz ∧ some k_ ≠ v12.ownBlock) (.slice (some ⟨gz, 0, none⟩) lineZ.length cz) lineZ) ∧ Aside0 (Kd.R (Kd.int .i64) 3 wc w.heap.size (fun _ => True) v12 row) ∧ Aside0 (Kd.R (Kd.int .i64) 3 wc w.heap.size (fun k_ => some k_ ≠ v12.ownBlock) vF lineZ) ∧ Aside0 (Below w.heap.size w wc))
        case first =>
          have h := A1.out
          clear A1 A2 HH
          unfold lineA at h
          by_cases c2 : p > a1
          · rw [if_pos c2] at h
            by_cases i0 : 0 ≤ wrap64 (wrap64 (p - a1) - 1)
            · rw [if_pos i0] at h
              by_cases i1 : wrap64 (wrap64 (p - a1) - 1) < (tab.length : Int)
              · rw [if_pos i1] at h
                obtain ⟨ad, cap, A9, c9, e9, hx9, hR9⟩ := row_get HT.out _ i0 i1
                subst e9
                have c2b : decide (a1 < p) = true := decide_eq_true c2
                have q0 := eq_true i0
                have q1 := eq_true i1
                have AO := Aside0.mk h
                have HR9 := Aside0.mk hR9
                clear h hR9 i0 i1 c2
                rw [c2b]
                go_wp2_with ((with_reducible refine gate_dst (N := 39) rfl ?_); refine goesL_ (some 39) rfl rfl Tryd.func72 (by kernel_rfl) rfl #[.slice A9 (lnRd tab (wrap64 (wrap64 (p - a1) - 1))).length c9] rfl (by (try simp only [List.map_toArray, List.map_cons, List.map_nil]); first | done | rfl) ?_; (with_reducible refine (spec_l1Own.calls A9 c9 (lnRd tab (wrap64 (wrap64 (p - a1) - 1))) row _ (Kd.R_reads' HR9.out).2.2 (Kd.R_reads' HR9.out).2.1 AO.out).mono ?_); rintro e w6 ⟨vW2, rfl, ho, hb⟩; refine ⟨_, rfl, ?_⟩; obtain ⟨HT, HZ, HW, HF, HB⟩ := ln_own3 HT HZ HF HB ho hb; clear ho hb)
                go_meet
                case rel => exact ⟨HT, HZ, HW, HF, HB⟩
              · rw [if_neg i1] at h
                exact absurd h (by simp)
            · rw [if_neg i0] at h
              exact absurd h (by simp)
          · rw [if_neg c2] at h
            have c2b : decide (a1 < p) = false := decide_eq_false c2
            obtain rfl := Option.some.inj h
            clear h c2
            rw [c2b]
            go_wp2
            go_meet
            case rel => exact ⟨HT, HZ, HW, HF, HB⟩
        case rest =>
          clear A1 HT HZ HW HF HB
          obtain ⟨HT, HZ, HW, HF, HB⟩ := hcut
          go_upto_if 44 with (fail)
          go_cut [13] (fun v13 wc2 => Aside0 (Kd.R (Kd.slice 3 (Kd.int .i64)) 22 wc2 w.heap.size (fun k_ => k_ ≠ gz ∧ some k_ ≠ u12.ownBlock) u9 tab) ∧ Aside0 (Kd.R (Kd.int .i64) 3 wc2 w.heap.size (fun k_ => k_ = gz ∧ some k_ ≠ u12.ownBlock) (.slice (some ⟨gz, 0, none⟩) lineZ.length cz) lineZ) ∧ Aside0 (Kd.R (Kd.int .i64) 3 wc2 w.heap.size (fun _ => True) u12 row) ∧ Aside0 (Kd.R (Kd.int .i64) 3 wc2 w.heap.size (fun k_ => some k_ ≠ u12.ownBlock) v13 bef) ∧ Aside0 (Below w.heap.size w wc2))
          case first =>
            have h := A2.out
            clear A2 HH
            unfold lineB at h
            by_cases c2 : wrap64 (p - a3) ≥ a1
            · rw [if_pos c2] at h
              by_cases i0 : 0 ≤ wrap64 (wrap64 (p - a1) - a3)
              · rw [if_pos i0] at h
                by_cases i1 : wrap64 (wrap64 (p - a1) - a3) < (tab.length : Int)
                · rw [if_pos i1] at h
                  obtain ⟨ad, cap, A9, c9, e9, hx9, hR9⟩ := row_get HT.out _ i0 i1
                  subst e9
                  have c2b : decide (a1 ≤ wrap64 (p - a3)) = true := decide_eq_true c2
                  have q0 := eq_true i0
                  have q1 := eq_true i1
                  obtain rfl := Option.some.inj h
                  have HR9 := Aside0.mk (Kd.R_mono hR9 (fun _ hk_ => hk_.2))
                  clear h hR9 i0 i1 c2
                  rw [c2b]
                  go_wp2
                  go_meet
                  case rel => exact ⟨HT, HZ, HW, HR9, HB⟩
                · rw [if_neg i1] at h
                  exact absurd h (by simp)
              · rw [if_neg i0] at h
                exact absurd h (by simp)
            · rw [if_neg c2] at h
              have c2b : decide (a1 ≤ wrap64 (p - a3)) = false := decide_eq_false c2
              obtain rfl := Option.some.inj h
              clear h c2
              rw [c2b]
              go_wp2
              go_meet
              case rel => exact ⟨HT, HZ, HW, HF, HB⟩
          case rest =>
            clear A2 HT HZ HW HF HB
            obtain ⟨HT, HZ, HW, HF, HB⟩ := hcut
            have H := HH.out
            clear HH
            by_cases cl : 0 < row.length
            · rw [if_pos cl] at H
              have HH := Aside0.mk H
              clear H
              obtain ⟨gr, cr, er, hr1, HT2, HZ2, HF2, HW2, hrz, hrn⟩ := ln_form HT.out HZ.out HF.out HW.out cl
              subst er
              obtain ⟨nr, hnr⟩ : ∃ n_, n_ = row.length := ⟨_, rfl⟩
              rw [← hnr] at HW2 ⊢
              clear HT HZ HF HW cl
              have HT := Aside0.mk HT2
              have HZ := Aside0.mk HZ2
              have HF := Aside0.mk HF2
              have HW := Aside0.mk HW2
              clear HT2 HZ2 HF2 HW2 hnr
              obtain ⟨AF, cF, eF⟩ := Kd.R_slice HF.out
              subst eF
              go_wp2
              go_loopg [14] k1 (fun kq v14 w' => ∃ (row : List Int) (x : Int), v14 = .int .i64 x ∧ Aside0 (spec_l9Line.l1 kq l0 a1 a2 a3 tab p row bef x = some r) ∧ Aside0 (kq ≤ k1) ∧ Aside0 (Kd.R (Kd.slice 3 (Kd.int .i64)) 22 w' w.heap.size (fun k_ => k_ ≠ gz ∧ k_ ≠ gr) u9 tab) ∧ Aside0 (Kd.R (Kd.int .i64) 3 w' w.heap.size (fun k_ => k_ = gz) (.slice (some ⟨gz, 0, none⟩) lineZ.length cz) lineZ) ∧ Aside0 (Kd.R (Kd.int .i64) 3 w' w.heap.size (fun k_ => k_ ≠ gr) (.slice AF bef.length cF) bef) ∧ Aside0 (Kd.R (Kd.int .i64) 3 w' w.heap.size (fun k_ => k_ = gr) (.slice (some ⟨gr, 0, none⟩) nr cr) row) ∧ Aside0 (Below w.heap.size w w'))
              case atStart => exact ⟨_, _, rfl, HH, ⟨Nat.le_refl _⟩, HT, HZ, HF, HW, HB⟩
              case round =>
                clear HH HT HZ HF HW HB
                obtain ⟨row, x, rfl, HA, HK2, HT, HZ, HF, HW, HB⟩ := hrel
                cases gk with
                | zero => exact absurd HA.out (by simp [spec_l9Line.l1])
                | succ k2 =>
                  have H := HA.out
                  clear HA
                  simp only [spec_l9Line.l1] at H
                  by_cases p0 : 0 ≤ p
                  · rw [if_pos p0] at H
                    by_cases p1 : p < (l0.length : Int)
                    · rw [if_pos p1] at H
                      obtain ⟨ado, eo, hxo⟩ := Kd.at_bool (Kd.C_below HR0.out HB.out) p p0 p1
                      cases eo
                      obtain ⟨bq, hbq⟩ : ∃ b_ : Bool, b_ = rdOf false l0 p := ⟨_, rfl⟩
                      rw [← hbq] at H hxo
                      have q0 := eq_true p0
                      have q1 := eq_true p1
                      clear p0 p1 hbq
                      cases bq with
                      | true =>
                        rw [if_pos rfl] at H
                        by_cases j24 : x ≤ 24
                        · rw [if_pos j24] at H
                          have j24b : decide (x ≤ 24) = true := decide_eq_true j24
                          clear j24
                          by_cases x0 : 0 ≤ x
                          · rw [if_pos x0] at H
                            by_cases x1 : x < (row.length : Int)
                            · rw [if_pos x1] at H
                              by_cases y0 : 0 ≤ wrap64 (x - 1)
                              · rw [if_pos y0] at H
                                by_cases y1 : wrap64 (x - 1) < (bef.length : Int)
                                · skip
                                  rw [if_pos y1] at H
                                  have HH := Aside0.mk H
                                  clear H
                                  have hnr := (Kd.R_reads' HW.out).1
                                  obtain ⟨hx1, hf1⟩ := Kd.R_celln 0 HW.out x x0 (by omega)
                                  obtain ⟨adb, eb, hx2⟩ := Kd.at_int (Kd.R_reads' HF.out).2.2 (wrap64 (x - 1)) y0 y1
                                  cases eb
                                  have s0 := eq_true x0
                                  have s1 : (x < (nr : Int)) = True := eq_true (by omega)
                                  have s2 := eq_true y0
                                  have s3 := eq_true y1
                                  clear x0 x1 y0 y1 hnr
                                  go_wp2
                                  refine start_ (n := 14) (S := fun w' => w'.cell? ⟨gr, x.toNat, none⟩ = some (.int .i64 (rd row x)) ∧ w'.cell? (adb.add (wrap64 (x - 1)).toNat) = some (.int .i64 (rd bef (wrap64 (x - 1))))) (ds := [13]) #[false, false, false, false, false, false, false, false, false, false, false, false, false, false] (by kernel_rfl) rfl rfl ⟨hx1, hx2⟩ (fun hHeld => ?_)
                                  refine with_tabW spec_l9Line.tab15 spec_l9Line.bits15 (fun HT_ HW_ => ?_)
                                  have HB2 := Aside0.mk (below_drew1 HB.out)
                                  have HT2 := Aside0.mk (Kd.R_drew HT.out)
                                  have HZ2 := Aside0.mk (Kd.R_drew HZ.out)
                                  have HF2 := Aside0.mk (Kd.R_drew HF.out)
                                  have HW2 := Aside0.mk (Kd.R_drew HW.out)
                                  have hx3 : wr.drew.cell? ⟨gr, x.toNat, none⟩ = some (.int .i64 (rd row x)) := hx1
                                  have hf3 : wr.drew.frozen? ⟨gr, x.toNat, none⟩ = false := hf1
                                  clear HB HT HZ HF HW hf1
                                  have HB := HB2
                                  have HT := HT2
                                  have HZ := HZ2
                                  have HF := HF2
                                  have HW := HW2
                                  clear HB2 HT2 HZ2 HF2 HW2
                                  generalize wr.drew = w34 at HB HT HZ HF HW hx1 hx2 hx3 hf3 hHeld ⊢
                                  refine pure_ (i := 0) (N := some 63) (v := ?_) (a' := ?_) #[true, false, false, false, false, false, false, false, false, false, false, false, false, false] rfl rfl (any_of HT_.out (by kernel_rfl)) (fun _ _ _ h => h) (Or.inl ⟨by rfl, ?_⟩) ?_ ?_
                                  rotate_left
                                  · intro w'
                                    go_simp
                                    with_reducible rfl
                                  rotate_left
                                  · simp only [Act.put, List.setIfInBounds_toArray, List.set_cons_zero, List.set_cons_succ, i64_w, i32_w]
                                    rfl
                                  refine pure_ (i := 1) (N := some 64) (v := ?_) (a' := ?_) #[true, true, false, false, false, false, false, false, false, false, false, false, false, false] rfl rfl (any_of HT_.out (by kernel_rfl)) (fun _ _ _ h => h) (Or.inl ⟨by rfl, ?_⟩) ?_ ?_
                                  rotate_left
                                  · intro w'
                                    go_simp
                                    with_reducible rfl
                                  rotate_left
                                  · simp only [Act.put, List.setIfInBounds_toArray, List.set_cons_zero, List.set_cons_succ, i64_w, i32_w]
                                    rfl
                                  refine pure_ (i := 2) (N := some 65) (v := ?_) (a' := ?_) #[true, true, true, false, false, false, false, false, false, false, false, false, false, false] rfl rfl (any_of HT_.out (by kernel_rfl)) (fun _ _ _ h => h) (Or.inl ⟨by rfl, ?_⟩) ?_ ?_
                                  rotate_left
                                  · intro w'
                                    go_simp
                                    with_reducible rfl
                                  rotate_left
                                  · simp only [Act.put, List.setIfInBounds_toArray, List.set_cons_zero, List.set_cons_succ, i64_w, i32_w]
                                    rfl
                                  refine pure_ (i := 3) (N := some 66) (v := ?_) (a' := ?_) #[true, true, true, true, false, false, false, false, false, false, false, false, false, false] rfl rfl (any_of HT_.out (by kernel_rfl)) (fun _ _ _ h => h) (Or.inl ⟨by rfl, ?_⟩) ?_ ?_
                                  rotate_left
                                  · intro w'
                                    go_simp
                                    with_reducible rfl
                                  rotate_left
                                  · simp only [Act.put, List.setIfInBounds_toArray, List.set_cons_zero, List.set_cons_succ, i64_w, i32_w]
                                    rfl
                                  refine pure_ (i := 4) (N := some 67) (v := ?_) (a' := ?_) #[true, true, true, true, true, false, false, false, false, false, false, false, false, false] rfl rfl (any_of HT_.out (by kernel_rfl)) (fun _ _ _ h => h) (Or.inl ⟨by rfl, ?_⟩) ?_ ?_
                                  rotate_left
                                  · intro w'
                                    go_simp
                                    with_reducible rfl
                                  rotate_left
                                  · simp only [Act.put, List.setIfInBounds_toArray, List.set_cons_zero, List.set_cons_succ, i64_w, i32_w]
                                    rfl
                                  refine pure_ (i := 6) (N := some 69) (v := ?_) (a' := ?_) #[true, true, true, true, true, false, true, false, false, false, false, false, false, false] rfl rfl (any_of HT_.out (by kernel_rfl)) (fun _ _ _ h => h) (Or.inl ⟨by rfl, ?_⟩) ?_ ?_
                                  rotate_left
                                  · intro w'
                                    go_simp
                                    with_reducible rfl
                                  rotate_left
                                  · simp only [Act.put, List.setIfInBounds_toArray, List.set_cons_zero, List.set_cons_succ, i64_w, i32_w]
                                    rfl
                                  refine pure_ (i := 7) (N := some 70) (v := ?_) (a' := ?_) #[true, true, true, true, true, false, true, true, false, false, false, false, false, false] rfl rfl (any_of HT_.out (by kernel_rfl)) (fun _ _ _ h => h) (Or.inl ⟨by rfl, ?_⟩) ?_ ?_
                                  rotate_left
                                  · intro w'
                                    go_simp
                                    with_reducible rfl
                                  rotate_left
                                  · simp only [Act.put, List.setIfInBounds_toArray, List.set_cons_zero, List.set_cons_succ, i64_w, i32_w]
                                    rfl
                                  refine pure_ (i := 8) (N := some 71) (v := ?_) (a' := ?_) #[true, true, true, true, true, false, true, true, true, false, false, false, false, false] rfl rfl (any_of HT_.out (by kernel_rfl)) (fun _ _ _ h => h) (Or.inl ⟨by rfl, ?_⟩) ?_ ?_
                                  rotate_left
                                  · intro w'
                                    go_simp
                                    with_reducible rfl
                                  rotate_left
                                  · simp only [Act.put, List.setIfInBounds_toArray, List.set_cons_zero, List.set_cons_succ, i64_w, i32_w]
                                    rfl
                                  refine pure_ (i := 9) (N := some 72) (v := ?_) (a' := ?_) #[true, true, true, true, true, false, true, true, true, true, false, false, false, false] rfl rfl (any_of HT_.out (by kernel_rfl)) (fun _ _ _ h => h) (Or.inl ⟨by rfl, ?_⟩) ?_ ?_
                                  rotate_left
                                  · intro w'
                                    go_simp
                                    with_reducible rfl
                                  rotate_left
                                  · simp only [Act.put, List.setIfInBounds_toArray, List.set_cons_zero, List.set_cons_succ, i64_w, i32_w]
                                    rfl
                                  refine take_ (i := 5) (N := some 68) (v := ?_) (a' := ?_) #[true, true, true, true, true, true, true, true, true, true, false, false, false, false] rfl rfl (take_ofW HT_.out HW_.out (by kernel_rfl)) (fun _ _ _ h => h) (Or.inl ⟨by rfl, ?_⟩) hHeld ?_ ?_
                                  rotate_left
                                  · rintro w' ⟨s0, s1⟩
                                    go_simp
                                    with_reducible rfl
                                  rotate_left
                                  · simp only [Act.put, List.setIfInBounds_toArray, List.set_cons_zero, List.set_cons_succ, i64_w, i32_w]
                                    rfl
                                  refine take_ (i := 10) (N := some 73) (v := ?_) (a' := ?_) #[true, true, true, true, true, true, true, true, true, true, true, false, false, false] rfl rfl (take_ofW HT_.out HW_.out (by kernel_rfl)) (fun _ _ _ h => h) (Or.inl ⟨by rfl, ?_⟩) hHeld ?_ ?_
                                  rotate_left
                                  · rintro w' ⟨s0, s1⟩
                                    go_simp
                                    with_reducible rfl
                                  rotate_left
                                  · simp only [Act.put, List.setIfInBounds_toArray, List.set_cons_zero, List.set_cons_succ, i64_w, i32_w]
                                    rfl
                                  refine pure_ (i := 11) (N := some 74) (v := ?_) (a' := ?_) #[true, true, true, true, true, true, true, true, true, true, true, true, false, false] rfl rfl (any_of HT_.out (by kernel_rfl)) (fun _ _ _ h => h) (Or.inl ⟨by rfl, ?_⟩) ?_ ?_
                                  rotate_left
                                  · intro w'
                                    go_simp
                                    with_reducible rfl
                                  rotate_left
                                  · simp only [Act.put, List.setIfInBounds_toArray, List.set_cons_zero, List.set_cons_succ, i64_w, i32_w]
                                    rfl
                                  refine pure_ (i := 12) (N := some 75) (v := ?_) (a' := ?_) #[true, true, true, true, true, true, true, true, true, true, true, true, true, false] rfl rfl (any_of HT_.out (by kernel_rfl)) (fun _ _ _ h => h) (Or.inl ⟨by rfl, ?_⟩) ?_ ?_
                                  rotate_left
                                  · intro w'
                                    go_simp
                                    with_reducible rfl
                                  rotate_left
                                  · simp only [Act.put, List.setIfInBounds_toArray, List.set_cons_zero, List.set_cons_succ, i64_w, i32_w]
                                    rfl
                                  refine last_ (i := 13) (N := none) #[true, true, true, true, true, true, true, true, true, true, true, true, true, true] rfl rfl (one_of HT_.out (by kernel_rfl)) (by decide) (fun K hK => ?_)
                                  refine skip_ (w1 := w34.setCell ⟨gr, x.toNat, none⟩ (.int .i64 (wrap64 (rd row x + rd bef (wrap64 (x - 1)))))) (by rfl) rfl ?_ ?_
                                  · first | (go_simp; done) | (go_simp; rfl)
                                  refine hK.out _ _ ?_
                                  clear hK K
                                  refine done_ (done_of HT_.out (by kernel_rfl)) ?_

                                  try go_wp2
                                  go_roundg k2
                                  case measure => have h2_ := HK2.out; omega
                                  case rel => exact ⟨row.set x.toNat (wrap64 (rd row x + rd bef (wrap64 (x - 1)))), wrap64 (x + 1), (by first | rfl | (simp; done) | (simp [*]; done)), HH, ⟨by have h2_ := HK2.out; omega⟩, ⟨Kd.R_far (p := ⟨gr, x.toNat, none⟩) HT.out (fun _ hk_ => hk_.2) _⟩, ⟨Kd.R_far (p := ⟨gr, x.toNat, none⟩) HZ.out (fun k_ hk_ => by rw [hk_]; exact fun h_ => hrz h_.symm) _⟩, ⟨Kd.R_far (p := ⟨gr, x.toNat, none⟩) HF.out (fun _ hk_ => hk_) _⟩, ⟨Kd.R_putn HW.out x _⟩, ⟨below_set HB.out hr1⟩⟩
                                · rw [if_neg y1] at H
                                  exact absurd H (by simp)
                              · rw [if_neg y0] at H
                                exact absurd H (by simp)
                            · rw [if_neg x1] at H
                              exact absurd H (by simp)
                          · rw [if_neg x0] at H
                            exact absurd H (by simp)
                        · rw [if_neg j24] at H
                          have j24b : decide (x ≤ 24) = false := decide_eq_false j24
                          clear j24
                          by_cases tl : tab.length + 1 < 4398046511104
                          · rw [if_pos tl] at H
                            have HH := Aside0.mk H
                            obtain ⟨AP, AN, AO, AZ⟩ := ln_app HT.out HZ.out HW.out hrz
                            have AP := Aside0.mk AP
                            have AN := Aside0.mk AN
                            have AO := Aside0.mk AO
                            have AZ := Aside0.mk AZ
                            clear H
                            go_wp2_with ((with_reducible refine gate_builtin (b := .append) (xs := #[.tmp 76, .tmp 78]) rfl ?_); at_builtin; refine Kd.R_append (Kd.slice 3 (Kd.int .i64)) (w0 := w) w.heap.size rfl (.tmp 76) (.tmp 78) 85 22 (.slice none 0 0) 24 rfl Tryd.underlying85 (by kernel_rfl) rfl (by decide) (by omega) u9 tab row [.slice (some ⟨gr, 0, none⟩) nr cr] (fun k_ => k_ ≠ gz) (fun k_ => k_ ≠ gz ∧ some k_ ≠ u9.ownBlock) rfl rfl ⟨_, rfl, AP.out⟩ (fun _ hk_ => hk_) AN.out AO.out HB.out HB.out.size (by have h_ := tl; omega) ?_; intro v8 w8 ho hb hg hat; have HT8 := Aside0.mk ho; have HZ8 := Aside0.mk (Kd.R_grown HZ.out hg AZ.out); have HB8 := Aside0.mk hb; clear HT HZ HF HW HB AP AN AO AZ ho hb hg hat; have HT := HT8; have HZ := HZ8; have HB := HB8; clear HT8 HZ8 HB8)
                            go_roundg k2
                            case measure => have h1_ := HK1.out; have h2_ := HK2.out; omega
                            case rel => exact ⟨tab ++ [row], wrap64 (p + 1), (by first | rfl | (simp; done) | (simp [*]; done)), HH, ⟨by have h1_ := HK1.out; have h2_ := HK2.out; omega⟩, HT, HZ, HB⟩
                          · rw [if_neg tl] at H
                            exact absurd H (by simp)
                      | false =>
                        rw [if_neg (by decide)] at H
                        by_cases tl : tab.length + 1 < 4398046511104
                        · rw [if_pos tl] at H
                          have HH := Aside0.mk H
                          obtain ⟨AP, AN, AO, AZ⟩ := ln_app HT.out HZ.out HW.out hrz
                          have AP := Aside0.mk AP
                          have AN := Aside0.mk AN
                          have AO := Aside0.mk AO
                          have AZ := Aside0.mk AZ
                          clear H
                          go_wp2_with ((with_reducible refine gate_builtin (b := .append) (xs := #[.tmp 76, .tmp 78]) rfl ?_); at_builtin; refine Kd.R_append (Kd.slice 3 (Kd.int .i64)) (w0 := w) w.heap.size rfl (.tmp 76) (.tmp 78) 85 22 (.slice none 0 0) 24 rfl Tryd.underlying85 (by kernel_rfl) rfl (by decide) (by omega) u9 tab row [.slice (some ⟨gr, 0, none⟩) nr cr] (fun k_ => k_ ≠ gz) (fun k_ => k_ ≠ gz ∧ some k_ ≠ u9.ownBlock) rfl rfl ⟨_, rfl, AP.out⟩ (fun _ hk_ => hk_) AN.out AO.out HB.out HB.out.size (by have h_ := tl; omega) ?_; intro v8 w8 ho hb hg hat; have HT8 := Aside0.mk ho; have HZ8 := Aside0.mk (Kd.R_grown HZ.out hg AZ.out); have HB8 := Aside0.mk hb; clear HT HZ HF HW HB AP AN AO AZ ho hb hg hat; have HT := HT8; have HZ := HZ8; have HB := HB8; clear HT8 HZ8 HB8)
                          go_roundg k2
                          case measure => have h1_ := HK1.out; have h2_ := HK2.out; omega
                          case rel => exact ⟨tab ++ [row], wrap64 (p + 1), (by first | rfl | (simp; done) | (simp [*]; done)), HH, ⟨by have h1_ := HK1.out; have h2_ := HK2.out; omega⟩, HT, HZ, HB⟩
                        · rw [if_neg tl] at H
                          exact absurd H (by simp)
                    · rw [if_neg p1] at H
                      exact absurd H (by simp)
                  · rw [if_neg p0] at H
                    exact absurd H (by simp)
            · rw [if_neg cl] at H
              exact absurd H (by simp)
      · rw [if_neg c1] at H
        have c1b : decide (p ≤ a2) = false := decide_eq_false c1
        clear c1
        by_cases e0 : (tab.length : Int) = 0
        · rw [if_pos e0] at H
          have e0b : ((tab.length : Int) == 0) = true := beq_iff_eq.mpr e0
          obtain ⟨AT, cT, eT⟩ := Kd.R_slice HT.out
          subst eT
          obtain rfl := Option.some.inj H
          clear H e0
          go_wp2
          go_ret
          exact ⟨_, rfl, Kd.R_mono HZ.out (fun _ _ => trivial), HB.out⟩
        · rw [if_neg e0] at H
          have e0b : ((tab.length : Int) == 0) = false := beq_eq_false_iff_ne.mpr e0
          by_cases i0 : 0 ≤ wrap64 ((tab.length : Int) - 1)
          · rw [if_pos i0] at H
            by_cases i1 : wrap64 ((tab.length : Int) - 1) < (tab.length : Int)
            · rw [if_pos i1] at H
              obtain ⟨ad, cap, A9, c9, e9, hx9, hR9⟩ := row_get HT.out _ i0 i1
              subst e9
              have q0 := eq_true i0
              have q1 := eq_true i1
              obtain rfl := Option.some.inj H
              have HR9 := Aside0.mk (Kd.R_mono hR9 (fun _ _ => trivial) : Kd.R (Kd.int .i64) 3 _ w.heap.size (fun _ => True) _ _)
              clear H hR9 i0 i1 e0
              go_wp2
              go_ret
              exact ⟨_, rfl, HR9.out, HB.out⟩
            · rw [if_neg i1] at H
              exact absurd H (by simp)
          · rw [if_neg i0] at H
            exact absurd H (by simp)


end Go.Proofs.YtapbmneehaemeaaDoor.PFnExactFirstSpaced
