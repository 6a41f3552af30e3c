/- Proved: each Go function named here, called, comes to the answer of the Lean function beside it. Conditions: those that stand in each theorem. (Printed by this session's own turned copy of a printing program.) -/
import Derived.Test.YtapbmneehaemeaaDoorZBestWorthPx0
import Derived.Test.YtapbmneehaemeaaDoorZBestWorthPx2
import Derived.Test.YtapbmneehaemeaaDoorZBestWorthPx4
namespace Go.Proofs.YtapbmneehaemeaaDoor.PFnExactBestWorth
open Go.RowKit Go.Proofs.YtapbmneehaemeaaDoorW.PrintWords Go.Proofs.YtapbmneehaemeaaDoorW.PrintLast Go.Proofs.YtapbmneehaemeaaDoorW.PrintMore
attribute [local go_sem] max2_int min2_int max_two min_two max_three min_three max_four min_four   -- for this text's walks alone
set_option linter.unusedVariables false
set_option linter.unusedSimpArgs false

/-! ### spec_l9Best: function 64 -/
def bsRd (xs : List (List Int)) (i : Int) : List Int := xs.getD i.toNat ([] : List Int)
def bestZ : List Int := (0 : Int) :: List.replicate 24 (-1 : Int)
def bestA (f : Int) (tab : List (List Int)) (p : Int) : Option (List Int) := if p > f then (if 0 ≤ wrap64 (wrap64 (p - f) - 1) then (if wrap64 (wrap64 (p - f) - 1) < (tab.length : Int) then spec_l1Own.f (bsRd tab (wrap64 (wrap64 (p - f) - 1))) else none) else none) else some bestZ
def bestB (f d : Int) (tab : List (List Int)) (p : Int) : Option (List Int) := if wrap64 (p - d) ≥ f then (if 0 ≤ wrap64 (wrap64 (p - f) - d) then (if wrap64 (wrap64 (p - f) - d) < (tab.length : Int) then some (bsRd tab (wrap64 (wrap64 (p - f) - d))) else none) else none) else some bestZ
mutual
def spec_l9Best.l0 : Nat → List Bool → List Int → Int → Int → Int → List (List Int) → Int → Option (List Int)
  | 0, _, _, _, _, _, _, _ => none
  | k + 1, op, ws, f, l, d, tab, p => if p ≤ l then ((bestA f tab p).bind fun row => (bestB f d tab p).bind fun bef => if 0 < row.length then spec_l9Best.l1 k op ws f l d tab p row bef 1 else none) else if (tab.length : Int) = 0 then some bestZ else if 0 ≤ wrap64 ((tab.length : Int) - 1) then (if wrap64 ((tab.length : Int) - 1) < (tab.length : Int) then some (bsRd tab (wrap64 ((tab.length : Int) - 1))) else none) else none
def spec_l9Best.l1 : Nat → List Bool → List Int → Int → Int → Int → List (List Int) → Int → List Int → List Int → Int → Option (List Int)
  | 0, _, _, _, _, _, _, _, _, _, _ => none
  | k + 1, op, ws, f, l, d, tab, p, row, bef, j => if 0 ≤ p then (if p < (op.length : Int) then (if rdOf false op p = true then (if j ≤ 24 then (if 0 ≤ wrap64 (j - 1) then (if wrap64 (j - 1) < (bef.length : Int) then (if rd bef (wrap64 (j - 1)) ≥ 0 then (if 0 ≤ j then (if j < (row.length : Int) then (if p < (ws.length : Int) then ((spec_l1Most.f (rd row j) (wrap64 (rd bef (wrap64 (j - 1)) + rd ws p))).bind fun mv => spec_l9Best.l1 k op ws f l d tab p (row.set j.toNat mv) bef (wrap64 (j + 1))) else none) else none) else none) else spec_l9Best.l1 k op ws f l d tab p row bef (wrap64 (j + 1))) else none) else none) else (if tab.length + 1 < 4398046511104 then spec_l9Best.l0 k op ws f l d (tab ++ [row]) (wrap64 (p + 1)) else none)) else (if tab.length + 1 < 4398046511104 then spec_l9Best.l0 k op ws f l d (tab ++ [row]) (wrap64 (p + 1)) else none)) else none) else none
end
def spec_l9Best.f (k : Nat) (op : List Bool) (ws : List Int) (f l d : Int) : Option (List Int) := spec_l9Best.l0 k op ws f l d ([] : List (List Int)) f
theorem bestZ_own : spec_l1Own.f bestZ = some bestZ := by decide
theorem bs_drawn {w w' : World} (h : Drawn0 w w') : Below w.heap.size w w' := by
  obtain ⟨n, h⟩ := h.out
  rw [h]; exact pw_below_drewN (Below.refl _ _) n
theorem bs_get {w : World} {base : Nat} {ok : Nat → Prop} {v : Value} {tab : List (List Int)} (h : Kd.R (Kd.slice 3 (Kd.int .i64)) 22 w base ok v tab) (i : Int) (h0 : 0 ≤ i) (h1 : i < (tab.length : Int)) :
    ∃ ad cap A c, v = .slice (some ad) tab.length cap ∧ w.cell? (ad.add i.toNat) = some (.slice A (bsRd tab i).length c) ∧ Kd.R (Kd.int .i64) 3 w base ok (.slice A (bsRd tab i).length c) (bsRd tab i) := by
  obtain ⟨g, cap, rfl, _, _, _⟩ := Kd.R_form h (by omega)
  obtain ⟨c, hcl, ⟨u, hc, hu⟩, hcc⟩ := Kd.R_get h ([] : List Int) i h0 h1
  subst hc
  obtain ⟨A, cA, rfl⟩ := Kd.R_slice hu
  have := hcc 0 _ rfl
  exact ⟨⟨g, 0, none⟩, cap, A, cA, rfl, by have hq : w.cell? ((⟨g, 0, none⟩ : Addr).add (i.toNat * 1 + 0)) = _ := this; rwa [Nat.mul_one, Nat.add_zero] at hq, Kd.R_mono hu (fun k hk => hk.1)⟩
theorem bs_own1 {w W w1 : World} {vT vZ vW : Value} {gz : Nat} {tab : List (List Int)} {x y : List Int} (HT : Aside0 (Kd.R (Kd.slice 3 (Kd.int .i64)) 22 W w.heap.size (fun k_ => k_ ≠ gz) vT tab)) (HZ : Aside0 (Kd.R (Kd.int .i64) 3 W w.heap.size (fun k_ => k_ = gz) vZ x)) (HB : Aside0 (Below w.heap.size w W)) (ho : Kd.R (Kd.int .i64) 3 w1 W.heap.size (fun _ => True) vW y) (hb : Below W.heap.size W w1) :
    Aside0 (Kd.R (Kd.slice 3 (Kd.int .i64)) 22 w1 w.heap.size (fun k_ => k_ ≠ gz ∧ some k_ ≠ vW.ownBlock) vT tab) ∧ Aside0 (Kd.R (Kd.int .i64) 3 w1 w.heap.size (fun k_ => k_ = gz ∧ some k_ ≠ vW.ownBlock) vZ x) ∧ Aside0 (Kd.R (Kd.int .i64) 3 w1 w.heap.size (fun _ => True) vW y) ∧ Aside0 (Below w.heap.size w w1) :=
  ⟨⟨Kd.R_elder' HT.out (Kd.R_base ho) hb⟩, ⟨Kd.R_elder' HZ.out (Kd.R_base ho) hb⟩, ⟨Kd.R_lower ho HB.out.size⟩, ⟨below_step HB.out hb⟩⟩
theorem bs_own2 {w W w1 : World} {vT vZ vW vF : Value} {gz : Nat} {tab : List (List Int)} {x y z : List Int} (HT : Aside0 (Kd.R (Kd.slice 3 (Kd.int .i64)) 22 W w.heap.size (fun k_ => k_ ≠ gz ∧ some k_ ≠ vW.ownBlock) vT tab)) (HZ : Aside0 (Kd.R (Kd.int .i64) 3 W w.heap.size (fun k_ => k_ = gz ∧ some k_ ≠ vW.ownBlock) vZ x)) (HW : Aside0 (Kd.R (Kd.int .i64) 3 W w.heap.size (fun _ => True) vW y)) (HB : Aside0 (Below w.heap.size w W)) (ho : Kd.R (Kd.int .i64) 3 w1 W.heap.size (fun _ => True) vF z) (hb : Below W.heap.size W w1) :
    Aside0 (Kd.R (Kd.slice 3 (Kd.int .i64)) 22 w1 w.heap.size (fun k_ => k_ ≠ gz ∧ some k_ ≠ vW.ownBlock) vT tab) ∧ Aside0 (Kd.R (Kd.int .i64) 3 w1 w.heap.size (fun k_ => k_ = gz ∧ some k_ ≠ vW.ownBlock) vZ x) ∧ Aside0 (Kd.R (Kd.int .i64) 3 w1 w.heap.size (fun _ => True) vW y) ∧ Aside0 (Kd.R (Kd.int .i64) 3 w1 w.heap.size (fun k_ => some k_ ≠ vW.ownBlock) vF z) ∧ Aside0 (Below w.heap.size w w1) :=
  ⟨⟨Kd.R_below HT.out hb⟩, ⟨Kd.R_below HZ.out hb⟩, ⟨Kd.R_below HW.out hb⟩, ⟨Kd.R_lower (Kd.R_mono (Kd.R_new' ho (Kd.R_lt HW.out)) (fun _ hk => hk.2)) HB.out.size⟩, ⟨below_step HB.out hb⟩⟩
theorem bs_own3 {w W w1 : World} {vT vZ vO vF vW : Value} {gz : Nat} {tab : List (List Int)} {x y z : List Int} (HT : Aside0 (Kd.R (Kd.slice 3 (Kd.int .i64)) 22 W w.heap.size (fun k_ => k_ ≠ gz ∧ some k_ ≠ vO.ownBlock) vT tab)) (HZ : Aside0 (Kd.R (Kd.int .i64) 3 W w.heap.size (fun k_ => k_ = gz ∧ some k_ ≠ vO.ownBlock) vZ x)) (HF : Aside0 (Kd.R (Kd.int .i64) 3 W w.heap.size (fun k_ => some k_ ≠ vO.ownBlock) vF z)) (HB : Aside0 (Below w.heap.size w W)) (ho : Kd.R (Kd.int .i64) 3 w1 W.heap.size (fun _ => True) vW y) (hb : Below W.heap.size W w1) :
    Aside0 (Kd.R (Kd.slice 3 (Kd.int .i64)) 22 w1 w.heap.size (fun k_ => k_ ≠ gz ∧ some k_ ≠ vW.ownBlock) vT tab) ∧ Aside0 (Kd.R (Kd.int .i64) 3 w1 w.heap.size (fun k_ => k_ = gz ∧ some k_ ≠ vW.ownBlock) vZ x) ∧ Aside0 (Kd.R (Kd.int .i64) 3 w1 w.heap.size (fun _ => True) vW y) ∧ Aside0 (Kd.R (Kd.int .i64) 3 w1 w.heap.size (fun k_ => some k_ ≠ vW.ownBlock) vF z) ∧ Aside0 (Below w.heap.size w w1) :=
  ⟨⟨Kd.R_mono (Kd.R_elder' HT.out (Kd.R_base ho) hb) (fun _ hk => ⟨hk.1.1, hk.2⟩)⟩, ⟨Kd.R_mono (Kd.R_elder' HZ.out (Kd.R_base ho) hb) (fun _ hk => ⟨hk.1.1, hk.2⟩)⟩, ⟨Kd.R_lower ho HB.out.size⟩, ⟨Kd.R_mono (Kd.R_elder' HF.out (Kd.R_base ho) hb) (fun _ hk => hk.2)⟩, ⟨below_step HB.out hb⟩⟩
theorem bs_form {W : World} {base gz cz : Nat} {vT vF vW : Value} {tab : List (List Int)} {y z : List Int} (HT : Kd.R (Kd.slice 3 (Kd.int .i64)) 22 W base (fun k_ => k_ ≠ gz ∧ some k_ ≠ vW.ownBlock) vT tab) (HZ : Kd.R (Kd.int .i64) 3 W base (fun k_ => k_ = gz ∧ some k_ ≠ vW.ownBlock) (.slice (some ⟨gz, 0, none⟩) bestZ.length cz) bestZ) (HF : Kd.R (Kd.int .i64) 3 W base (fun k_ => some k_ ≠ vW.ownBlock) vF z) (HW : Kd.R (Kd.int .i64) 3 W base (fun _ => True) vW y) (h : 0 < y.length) :
    ∃ gr cr, vW = .slice (some ⟨gr, 0, none⟩) y.length cr ∧ base ≤ gr ∧ Kd.R (Kd.slice 3 (Kd.int .i64)) 22 W base (fun k_ => k_ ≠ gz ∧ k_ ≠ gr) vT tab ∧ Kd.R (Kd.int .i64) 3 W base (fun k_ => k_ = gz) (.slice (some ⟨gz, 0, none⟩) bestZ.length cz) bestZ ∧ Kd.R (Kd.int .i64) 3 W base (fun k_ => k_ ≠ gr) vF z ∧ Kd.R (Kd.int .i64) 3 W base (fun k_ => k_ = gr) (.slice (some ⟨gr, 0, none⟩) y.length cr) y ∧ gr ≠ gz ∧ gr < W.heap.size := by
  obtain ⟨gr, cr, rfl, h1, h2, _⟩ := Kd.R_form HW h
  have ho : ∀ k : Nat, some k ≠ (Value.slice (some ⟨gr, 0, none⟩) y.length cr).ownBlock → k ≠ gr := fun k hk he => hk (by rw [he]; rfl)
  refine ⟨gr, cr, rfl, h1, Kd.R_mono HT (fun k hk => ⟨hk.1, ho k hk.2⟩), Kd.R_mono HZ (fun k hk => hk.1), Kd.R_mono HF (fun k hk => ho k hk), Kd.R_mono (Kd.R_tight rfl HW) (fun k hk => ?_), ?_, h2⟩
  · injection hk
  · have := HZ.1 gz rfl
    exact fun he => ho gz this.2 he.symm
theorem bs_app {W : World} {base gz cz gr nr cr : Nat} {vT : Value} {tab : List (List Int)} {y : List Int} (HT : Kd.R (Kd.slice 3 (Kd.int .i64)) 22 W base (fun k_ => k_ ≠ gz ∧ k_ ≠ gr) vT tab) (HZ : Kd.R (Kd.int .i64) 3 W base (fun k_ => k_ = gz) (.slice (some ⟨gz, 0, none⟩) bestZ.length cz) bestZ) (HW : Kd.R (Kd.int .i64) 3 W base (fun k_ => k_ = gr) (.slice (some ⟨gr, 0, none⟩) nr cr) y) (hrz : gr ≠ gz) :
    Kd.R (Kd.int .i64) 3 W base (fun k_ => k_ ≠ gz ∧ some k_ ≠ vT.ownBlock) (.slice (some ⟨gr, 0, none⟩) nr cr) y ∧ (∀ k, W.heap.size ≤ k → k ≠ gz) ∧ Kd.R (Kd.slice 3 (Kd.int .i64)) 22 W base (fun k_ => k_ ≠ gz) vT tab ∧ ∀ k : Nat, k = gz → some k ≠ vT.ownBlock := by
  refine ⟨Kd.R_mono HW (fun k hk => ?_), fun k hk he => ?_, Kd.R_mono HT (fun k hk => hk.1), fun k hk he => ?_⟩
  · subst hk
    exact ⟨hrz, fun he => (HT.1 k he.symm).2 rfl⟩
  · have := Kd.R_lt HZ gz rfl
    omega
  · exact (HT.1 k he.symm).1 hk
theorem bs_step {w W w1 : World} {vT vF : Value} {gz cz gr nr cr : Nat} {tab : List (List Int)} {y z : List Int} (HB : Aside0 (Below w.heap.size w W)) (HT : Aside0 (Kd.R (Kd.slice 3 (Kd.int .i64)) 22 W w.heap.size (fun k_ => k_ ≠ gz ∧ k_ ≠ gr) vT tab)) (HZ : Aside0 (Kd.R (Kd.int .i64) 3 W w.heap.size (fun k_ => k_ = gz) (.slice (some ⟨gz, 0, none⟩) bestZ.length cz) bestZ)) (HF : Aside0 (Kd.R (Kd.int .i64) 3 W w.heap.size (fun k_ => k_ ≠ gr) vF z)) (HW : Aside0 (Kd.R (Kd.int .i64) 3 W w.heap.size (fun k_ => k_ = gr) (.slice (some ⟨gr, 0, none⟩) nr cr) y)) (hb : Below W.heap.size W w1) :
    Aside0 (Below w.heap.size w w1) ∧ Aside0 (Kd.R (Kd.slice 3 (Kd.int .i64)) 22 w1 w.heap.size (fun k_ => k_ ≠ gz ∧ k_ ≠ gr) vT tab) ∧ Aside0 (Kd.R (Kd.int .i64) 3 w1 w.heap.size (fun k_ => k_ = gz) (.slice (some ⟨gz, 0, none⟩) bestZ.length cz) bestZ) ∧ Aside0 (Kd.R (Kd.int .i64) 3 w1 w.heap.size (fun k_ => k_ ≠ gr) vF z) ∧ Aside0 (Kd.R (Kd.int .i64) 3 w1 w.heap.size (fun k_ => k_ = gr) (.slice (some ⟨gr, 0, none⟩) nr cr) y) :=
  ⟨⟨below_step HB.out hb⟩, ⟨Kd.R_below HT.out hb⟩, ⟨Kd.R_below HZ.out hb⟩, ⟨Kd.R_below HF.out hb⟩, ⟨Kd.R_below HW.out hb⟩⟩
theorem bs_made {W : World} {base bb : Nat} {vT v : Value} (hT : Kd.R (Kd.slice 3 (Kd.int .i64)) 22 W base (fun k_ => k_ < bb) vT ([] : List (List Int))) (hZ : Kd.R (Kd.int .i64) 3 W base (fun k_ => bb ≤ k_) v bestZ) :
    ∃ gz cz, v = .slice (some ⟨gz, 0, none⟩) bestZ.length cz ∧ base ≤ gz ∧ Kd.R (Kd.slice 3 (Kd.int .i64)) 22 W base (fun k_ => k_ ≠ gz) vT ([] : List (List Int)) ∧ Kd.R (Kd.int .i64) 3 W base (fun k_ => k_ = gz) (.slice (some ⟨gz, 0, none⟩) bestZ.length cz) bestZ := by
  obtain ⟨gz, cz, rfl, h1, h2, _⟩ := Kd.R_form hZ (by decide)
  have h3 : bb ≤ gz := hZ.1 gz rfl
  refine ⟨gz, cz, rfl, h1, Kd.R_mono hT (fun k hk => by omega), Kd.R_mono (Kd.R_tight rfl hZ) (fun k hk => ?_)⟩
  injection hk
theorem bs_z (n : Nat) (h : n ≤ 23) : ((0 : Int) :: List.replicate n (-1 : Int)) ++ [-1] = (0 : Int) :: List.replicate (n + 1) (-1 : Int) := by
  rw [List.cons_append, ← List.replicate_succ']
def spec_l9Best.T19 : Bool × List (List Nat × List Nat) := (true, [([], []), ([], []), ([], []), ([], []), ([2, 3], [2, 3]), ([4], [4]), ([], []), ([], []), ([7], [7]), ([6, 8], [6, 8]), ([9], [9]), ([], []), ([], []), ([11, 12], [11, 12]), ([13], [13]), ([10, 14], [10, 14]), ([5, 15], [5, 15]), ([0, 1, 0, 1, 2, 3, 4, 5, 6, 7, 8, 9, 10, 11, 12, 13, 14, 15, 16], [0, 1]), ([17, 16, 16, 0, 1, 2, 3, 4, 5, 6, 7, 8, 9, 10, 11, 12, 13, 14, 15, 16], [16, 17])])
def spec_l9Best.B19 : List Nat := [0, 0, 0, 0, 12, 28, 0, 0, 128, 448, 960, 0, 0, 6144, 14336, 32704, 65532, 131071, 262143]
theorem spec_l9Best.tab19 : rtab .any (opsOf Tryd.f64 19) = spec_l9Best.T19 := by kernel_rfl
theorem spec_l9Best.bits19 : waitsOk spec_l9Best.T19.2 spec_l9Best.B19 = true := by kernel_rfl
set_option maxHeartbeats 8000000 in
set_option maxRecDepth 100000 in
theorem spec_l9Best.calls (k : Nat) (A0 : Option Addr) (c0 : Nat) (l0 : List Bool) (A1 : Option Addr) (c1 : Nat) (l1 : List Int) (a1 : Int) (a2 : Int) (a3 : Int) (r : List Int) (w : World) (hr0 : Kd.C Kd.bool w A0 l0.length l0) (hc0 : l0.length ≤ c0) (hr1 : Kd.C (Kd.int .i64) w A1 l1.length l1) (hc1 : l1.length ≤ c1) (h : spec_l9Best.f k l0 l1 a1 a2 a3 = some r) :
    Calls Tryd.prog 64 #[.slice A0 l0.length c0, .slice A1 l1.length c1, .int .i64 a1, .int .i64 a2, .int .i64 a3] w fun e w' => ∃ v0_ : Value, e = .returned (v0_) ∧ Kd.R (Kd.int .i64) 3 w' w.heap.size (fun _ => True) v0_ r ∧ Below w.heap.size w w' := by
  have HR0 := Aside0.mk hr0
  have HC0 := Aside0.mk hc0
  have HR1 := Aside0.mk hr1
  have HC1 := Aside0.mk hc1
  have HB := Aside0.mk (Below.refl w.heap.size w)
  have HH := Aside0.mk (show spec_l9Best.l0 k l0 l1 a1 a2 a3 ([] : List (List Int)) a1 = some r from h)
  clear h hr0 hc0 hr1 hc1
  go_enter Tryd.func64, Tryd.ntmps64
  go_wp2_with (first | ((with_reducible refine gate_dst (N := 18) rfl ?_); refine Kd.R_lit (Kd.slice 3 (Kd.int .i64)) (w0 := w) w.heap.size 22 ?hg (N := 18) ?hd (xs := ([] : List (List Int))) (inner := []) (ok := fun _ => True) (okp := fun _ => True) ?hr ?hp (fun _ hk => hk) trivial HB.out HB.out.size (by simp) ?_; (case hd => rfl); (case hg => rfl); (case hr => first | (go_simp; done) | (go_simp; rfl)); (case hp => exact (Reps.none _ _)); intro vT w1 hoT hb1 hgT_ hnT_; have HT := Aside0.mk (Kd.R_mono (ok' := fun k_ => k_ < w1.heap.size) (Kd.R_bound hoT) (fun _ hk => hk.2.2.1)); have HBB := Aside0.mk (Nat.le_refl w1.heap.size); clear HB; have HB := Aside0.mk hb1; clear hoT hb1 hgT_ hnT_; generalize hbb_ : w1.heap.size = bb at HT HBB; replace hbb_ := Aside0.mk (Nat.le_of_eq hbb_.symm)) | ((with_reducible refine gate_dst (N := 19) rfl ?_); refine Kd.R_lit (Kd.int .i64) (w0 := w) w.heap.size 3 ?hg (N := 19) ?hd (xs := ([0] : List Int)) (inner := [.int .i64 0]) (ok := fun k_ => bb ≤ k_) (okp := fun k_ => bb ≤ k_) ?hr ?hp (fun _ hk => hk) hbb_.out HB.out HB.out.size (by simp) ?_; (case hd => rfl); (case hg => rfl); (case hr => first | (go_simp; done) | (go_simp; rfl)); (case hp => exact (Reps.one (show Kd.M (Kd.int .i64) _ _ _ (0 : Int) [.int .i64 0] from rfl) (Reps.none _ _))); intro vZ w2 hoZ hb2 hgZ_ hnZ_; have HT2 := Aside0.mk (Kd.R_grown HT.out hgZ_ (fun _ _ => by simp)); have HBB2 := Aside0.mk (Nat.le_trans hbb_.out hgZ_.size); clear HT HB HBB hbb_ hgZ_ hnZ_; have HT := HT2; have HBB := HBB2; have HB := Aside0.mk hb2; have HZ := Aside0.mk hoZ; clear HT2 HBB2 hb2 hoZ))
  go_loopg [12, 13] 24 (fun kq v12 v13 w' => ∃ x : Int, v13 = .int .i64 x ∧ Aside0 (x = 25 - (kq : Int)) ∧ Aside0 (kq ≤ 24) ∧ Aside0 (Kd.R (Kd.slice 3 (Kd.int .i64)) 22 w' w.heap.size (fun k_ => k_ < bb) vT ([] : List (List Int))) ∧ Aside0 (bb ≤ w'.heap.size) ∧ Aside0 (Kd.R (Kd.int .i64) 3 w' w.heap.size (fun k_ => bb ≤ k_) v12 ((0 : Int) :: List.replicate (24 - kq) (-1 : Int))) ∧ Aside0 (Below w.heap.size w w'))
  case atStart => exact ⟨1, rfl, ⟨by decide⟩, ⟨by decide⟩, HT, HBB, HZ, HB⟩
  case round =>
    clear HT HBB HZ HB
    obtain ⟨x0, rfl, HX, HK0, HT, HBB, HZ, HB⟩ := hrel
    cases gk with
    | succ k0 =>
      have c0b : decide (x0 ≤ 24) = true := decide_eq_true (by have h_ := HX.out; omega)
      obtain ⟨nz, hnz⟩ : ∃ n_, 24 - (k0 + 1) = n_ := ⟨_, rfl⟩
      rw [hnz] at HZ
      have HN := Aside0.mk (show nz ≤ 23 ∧ 24 - k0 = nz + 1 by have h_ := HK0.out; omega)
      clear hnz
      go_wp2_with ((with_reducible refine gate_builtin (b := .append) (xs := #[.tmp 24, .tmp 25]) rfl ?_); at_builtin; refine Kd.R_append (Kd.int .i64) (w0 := w) w.heap.size rfl (.tmp 24) (.tmp 25) 22 3 (.int .i64 0) 8 rfl Tryd.underlying22 info3 rfl (by decide) (by omega) u12 ((0 : Int) :: List.replicate nz (-1 : Int)) (-1) [.int .i64 (-1)] (fun k_ => bb ≤ k_) (fun _ => False) rfl rfl rfl (fun _ hk => hk.elim) (fun k_ hk_ => by have h_ := HBB.out; omega) HZ.out HB.out HB.out.size (by have h_ := HN.out; simp only [List.length_cons, List.length_replicate]; omega) ?_; intro v9 w9 ho hb hg hat; have HT2 := Aside0.mk (Kd.R_grown HT.out hg (fun k_ hk_ he_ => by have h_ := HZ.out.1 k_ he_.symm; omega)); have HBB2 := Aside0.mk (Nat.le_trans HBB.out hg.size); clear HT HB HBB HZ hat hg; have HT := HT2; have HBB := HBB2; have HB := Aside0.mk hb; have HZ := Aside0.mk ho; clear HT2 HBB2 hb ho)
      go_roundg k0
      case measure => have h_ := HK0.out; omega
      case rel => exact ⟨wrap64 (x0 + 1), (by first | rfl | (simp; done)), ⟨by have h_ := HX.out; have h2_ := HK0.out; unfold wrap64; omega⟩, ⟨by have h_ := HK0.out; omega⟩, HT, HBB, ⟨by rw [HN.out.2, ← bs_z nz HN.out.1]; exact HZ.out⟩, HB⟩
    | zero =>
      have c0b : decide (x0 ≤ 24) = false := decide_eq_false (by have h_ := HX.out; omega)
      obtain ⟨gz, cz, ez, hz1, HT2, HZ2⟩ := bs_made HT.out HZ.out
      subst ez
      clear HT HZ HX HK0 HBB
      have HT := Aside0.mk HT2
      have HZ := Aside0.mk HZ2
      clear HT2 HZ2
      have hzp : ((0 : Int) < (bestZ.length : Int)) = True := eq_true (by decide)
      have hzq : (0 < bestZ.length) = True := eq_true (by decide)
      go_wp2
      go_loopg [11, 14] k (fun kq v11 v14 w' => ∃ (tab : List (List Int)) (p : Int), v14 = .int .i64 p ∧ Aside0 (spec_l9Best.l0 kq l0 l1 a1 a2 a3 tab p = some r) ∧ Aside0 (kq ≤ k) ∧ Aside0 (Kd.R (Kd.slice 3 (Kd.int .i64)) 22 w' w.heap.size (fun k_ => k_ ≠ gz) v11 tab) ∧ Aside0 (Kd.R (Kd.int .i64) 3 w' w.heap.size (fun k_ => k_ = gz) (.slice (some ⟨gz, 0, none⟩) bestZ.length cz) bestZ) ∧ Aside0 (Below w.heap.size w w'))
      case atStart => exact ⟨_, _, rfl, HH, ⟨Nat.le_refl _⟩, HT, HZ, HB⟩
      case round =>
        clear HH HT HZ HB
        obtain ⟨tab, p, rfl, HA, HK1, HT, HZ, HB⟩ := hrel
        cases gk with
        | zero => exact absurd HA.out (by simp [spec_l9Best.l0])
        | succ k1 =>
          have H := HA.out
          clear HA
          simp only [spec_l9Best.l0] at H
          by_cases c1 : p ≤ a2
          · rw [if_pos c1] at H
            have c1b : decide (p ≤ a2) = true := decide_eq_true c1
            clear c1
            replace H := Option.bind_eq_some_iff.mp H
            obtain ⟨row, A10, H⟩ := H
            replace H := Option.bind_eq_some_iff.mp H
            obtain ⟨bef, A20, H⟩ := H
            have A1 := Aside0.mk A10
            have A2 := Aside0.mk A20
            have HH := Aside0.mk H
            clear A10 A20 H
            go_upto_if 39 with (first | ((with_reducible refine gate_dst (N := 34) rfl ?_); refine goesL_ (some 34) rfl rfl Tryd.func72 (by kernel_rfl) rfl #[.slice (some ⟨gz, 0, none⟩) bestZ.length cz] rfl (by (try simp only [List.map_toArray, List.map_cons, List.map_nil]); first | done | rfl) ?_; (with_reducible refine (spec_l1Own.calls (some ⟨gz, 0, none⟩) cz bestZ bestZ _ (Kd.R_reads' HZ.out).2.2 (Kd.R_reads' HZ.out).2.1 bestZ_own).mono ?_); rintro e w4 ⟨vW, rfl, ho, hb⟩; refine ⟨_, rfl, ?_⟩; obtain ⟨HT, HZ, HW, HB⟩ := bs_own1 HT HZ HB ho hb; clear ho hb) | ((with_reducible refine gate_dst (N := 36) rfl ?_); refine goesL_ (some 36) rfl rfl Tryd.func72 (by kernel_rfl) rfl #[.slice (some ⟨gz, 0, none⟩) bestZ.length cz] rfl (by (try simp only [List.map_toArray, List.map_cons, List.map_nil]); first | done | rfl) ?_; (with_reducible refine (spec_l1Own.calls (some ⟨gz, 0, none⟩) cz bestZ bestZ _ (Kd.R_reads' HZ.out).2.2 (Kd.R_reads' HZ.out).2.1 bestZ_own).mono ?_); rintro e w5 ⟨vF, rfl, ho, hb⟩; refine ⟨_, rfl, ?_⟩; obtain ⟨HT, HZ, HW, HF, HB⟩ := bs_own2 HT HZ HW HB ho hb; clear ho hb))
            go_cut [15] (fun v15 wc => Aside0 (Kd.R (Kd.slice 3 (Kd.int .i64)) 22 wc w.heap.size (fun k_ => k_ ≠ gz ∧ some k_ ≠ v15.ownBlock) u11 tab) ∧ Aside0 (Kd.R (Kd.int .i64) 3 wc w.heap.size (fun k_ => k_ = gz ∧ some k_ ≠ v15.ownBlock) (.slice (some ⟨gz, 0, none⟩) bestZ.length cz) bestZ) ∧ Aside0 (Kd.R (Kd.int .i64) 3 wc w.heap.size (fun _ => True) v15 row) ∧ Aside0 (Kd.R (Kd.int .i64) 3 wc w.heap.size (fun k_ => some k_ ≠ v15.ownBlock) vF bestZ) ∧ Aside0 (Below w.heap.size w wc))
            case first =>
              have h := A1.out
              clear A1 A2 HH
              unfold bestA at h
              by_cases c2 : p > a1
              · rw [if_pos c2] at h
                by_cases i0 : 0 ≤ wrap64 (wrap64 (p - a1) - 1)
                · rw [if_pos i0] at h
                  by_cases i1 : wrap64 (wrap64 (p - a1) - 1) < (tab.length : Int)
                  · rw [if_pos i1] at h
                    obtain ⟨ad, cap, A9, c9, e9, hx9, hR9⟩ := bs_get HT.out _ i0 i1
                    subst e9
                    have c2b : decide (a1 < p) = true := decide_eq_true c2
                    have q0 := eq_true i0
                    have q1 := eq_true i1
                    have AO := Aside0.mk h
                    have HR9 := Aside0.mk hR9
                    clear h hR9 i0 i1 c2
                    rw [c2b]
                    go_wp2_with ((with_reducible refine gate_dst (N := 47) rfl ?_); refine goesL_ (some 47) rfl rfl Tryd.func72 (by kernel_rfl) rfl #[.slice A9 (bsRd tab (wrap64 (wrap64 (p - a1) - 1))).length c9] rfl (by (try simp only [List.map_toArray, List.map_cons, List.map_nil]); first | done | rfl) ?_; (with_reducible refine (spec_l1Own.calls A9 c9 (bsRd tab (wrap64 (wrap64 (p - a1) - 1))) row _ (Kd.R_reads' HR9.out).2.2 (Kd.R_reads' HR9.out).2.1 AO.out).mono ?_); rintro e w6 ⟨vW2, rfl, ho, hb⟩; refine ⟨_, rfl, ?_⟩; obtain ⟨HT, HZ, HW, HF, HB⟩ := bs_own3 HT HZ HF HB ho hb; clear ho hb)
                    go_meet
                    case rel => exact ⟨HT, HZ, HW, HF, HB⟩
                  · rw [if_neg i1] at h
                    exact absurd h (by simp)
                · rw [if_neg i0] at h
                  exact absurd h (by simp)
              · rw [if_neg c2] at h
                have c2b : decide (a1 < p) = false := decide_eq_false c2
                obtain rfl := Option.some.inj h
                clear h c2
                rw [c2b]
                go_wp2
                go_meet
                case rel => exact ⟨HT, HZ, HW, HF, HB⟩
            case rest =>
              clear A1 HT HZ HW HF HB
              obtain ⟨HT, HZ, HW, HF, HB⟩ := hcut
              go_upto_if 52 with (fail)
              go_cut [16] (fun v16 wc2 => Aside0 (Kd.R (Kd.slice 3 (Kd.int .i64)) 22 wc2 w.heap.size (fun k_ => k_ ≠ gz ∧ some k_ ≠ u15.ownBlock) u11 tab) ∧ Aside0 (Kd.R (Kd.int .i64) 3 wc2 w.heap.size (fun k_ => k_ = gz ∧ some k_ ≠ u15.ownBlock) (.slice (some ⟨gz, 0, none⟩) bestZ.length cz) bestZ) ∧ Aside0 (Kd.R (Kd.int .i64) 3 wc2 w.heap.size (fun _ => True) u15 row) ∧ Aside0 (Kd.R (Kd.int .i64) 3 wc2 w.heap.size (fun k_ => some k_ ≠ u15.ownBlock) v16 bef) ∧ Aside0 (Below w.heap.size w wc2))
              case first =>
                have h := A2.out
                clear A2 HH
                unfold bestB at h
                by_cases c2 : wrap64 (p - a3) ≥ a1
                · rw [if_pos c2] at h
                  by_cases i0 : 0 ≤ wrap64 (wrap64 (p - a1) - a3)
                  · rw [if_pos i0] at h
                    by_cases i1 : wrap64 (wrap64 (p - a1) - a3) < (tab.length : Int)
                    · rw [if_pos i1] at h
                      obtain ⟨ad, cap, A9, c9, e9, hx9, hR9⟩ := bs_get HT.out _ i0 i1
                      subst e9
                      have c2b : decide (a1 ≤ wrap64 (p - a3)) = true := decide_eq_true c2
                      have q0 := eq_true i0
                      have q1 := eq_true i1
                      obtain rfl := Option.some.inj h
                      have HR9 := Aside0.mk (Kd.R_mono hR9 (fun _ hk_ => hk_.2))
                      clear h hR9 i0 i1 c2
                      rw [c2b]
                      go_wp2
                      go_meet
                      case rel => exact ⟨HT, HZ, HW, HR9, HB⟩
                    · rw [if_neg i1] at h
                      exact absurd h (by simp)
                  · rw [if_neg i0] at h
                    exact absurd h (by simp)
                · rw [if_neg c2] at h
                  have c2b : decide (a1 ≤ wrap64 (p - a3)) = false := decide_eq_false c2
                  obtain rfl := Option.some.inj h
                  clear h c2
                  rw [c2b]
                  go_wp2
                  go_meet
                  case rel => exact ⟨HT, HZ, HW, HF, HB⟩
              case rest =>
                clear A2 HT HZ HW HF HB
                obtain ⟨HT, HZ, HW, HF, HB⟩ := hcut
                have H := HH.out
                clear HH
                by_cases cl : 0 < row.length
                · rw [if_pos cl] at H
                  have HH := Aside0.mk H
                  clear H
                  obtain ⟨gr, cr, er, hr1, HT2, HZ2, HF2, HW2, hrz, hrn⟩ := bs_form HT.out HZ.out HF.out HW.out cl
                  subst er
                  obtain ⟨nr, hnr⟩ : ∃ n_, n_ = row.length := ⟨_, rfl⟩
                  rw [← hnr] at HW2 ⊢
                  clear HT HZ HF HW cl
                  have HT := Aside0.mk HT2
                  have HZ := Aside0.mk HZ2
                  have HF := Aside0.mk HF2
                  have HW := Aside0.mk HW2
                  clear HT2 HZ2 HF2 HW2 hnr
                  obtain ⟨AF, cF, eF⟩ := Kd.R_slice HF.out
                  subst eF
                  go_wp2
                  go_loopg [17] k1 (fun kq v17 w' => ∃ (row : List Int) (x : Int), v17 = .int .i64 x ∧ Aside0 (spec_l9Best.l1 kq l0 l1 a1 a2 a3 tab p row bef x = some r) ∧ Aside0 (kq ≤ k1) ∧ Aside0 (Kd.R (Kd.slice 3 (Kd.int .i64)) 22 w' w.heap.size (fun k_ => k_ ≠ gz ∧ k_ ≠ gr) u11 tab) ∧ Aside0 (Kd.R (Kd.int .i64) 3 w' w.heap.size (fun k_ => k_ = gz) (.slice (some ⟨gz, 0, none⟩) bestZ.length cz) bestZ) ∧ Aside0 (Kd.R (Kd.int .i64) 3 w' w.heap.size (fun k_ => k_ ≠ gr) (.slice AF bef.length cF) bef) ∧ Aside0 (Kd.R (Kd.int .i64) 3 w' w.heap.size (fun k_ => k_ = gr) (.slice (some ⟨gr, 0, none⟩) nr cr) row) ∧ Aside0 (Below w.heap.size w w'))
                  case atStart => exact ⟨_, _, rfl, HH, ⟨Nat.le_refl _⟩, HT, HZ, HF, HW, HB⟩
                  case round =>
                    clear HH HT HZ HF HW HB
                    obtain ⟨row, x, rfl, HA, HK2, HT, HZ, HF, HW, HB⟩ := hrel
                    cases gk with
                    | zero => exact absurd HA.out (by simp [spec_l9Best.l1])
                    | succ k2 =>
                      have H := HA.out
                      clear HA
                      simp only [spec_l9Best.l1] at H
                      by_cases p0 : 0 ≤ p
                      · rw [if_pos p0] at H
                        by_cases p1 : p < (l0.length : Int)
                        · rw [if_pos p1] at H
                          obtain ⟨ado, eo, hxo⟩ := Kd.at_bool (Kd.C_below HR0.out HB.out) p p0 p1
                          cases eo
                          obtain ⟨bq, hbq⟩ : ∃ b_ : Bool, b_ = rdOf false l0 p := ⟨_, rfl⟩
                          rw [← hbq] at H hxo
                          have q0 := eq_true p0
                          have q1 := eq_true p1
                          clear p0 p1 hbq
                          cases bq with
                          | true =>
                            rw [if_pos rfl] at H
                            by_cases j24 : x ≤ 24
                            · rw [if_pos j24] at H
                              have j24b : decide (x ≤ 24) = true := decide_eq_true j24
                              clear j24
                              by_cases y0 : 0 ≤ wrap64 (x - 1)
                              · rw [if_pos y0] at H
                                by_cases y1 : wrap64 (x - 1) < (bef.length : Int)
                                · rw [if_pos y1] at H
                                  obtain ⟨adb, eb, hx2⟩ := Kd.at_int (Kd.R_reads' HF.out).2.2 (wrap64 (x - 1)) y0 y1
                                  cases eb
                                  have s2 := eq_true y0
                                  have s3 := eq_true y1
                                  by_cases z0 : rd bef (wrap64 (x - 1)) ≥ 0
                                  · rw [if_pos z0] at H
                                    have z0b : decide (0 ≤ rd bef (wrap64 (x - 1))) = true := decide_eq_true z0
                                    by_cases x0 : 0 ≤ x
                                    · rw [if_pos x0] at H
                                      by_cases x1 : x < (row.length : Int)
                                      · rw [if_pos x1] at H
                                        by_cases pw : p < (l1.length : Int)
                                        · rw [if_pos pw] at H
                                          replace H := Option.bind_eq_some_iff.mp H
                                          obtain ⟨mv, A30, H⟩ := H
                                          have AM := Aside0.mk A30
                                          have HH := Aside0.mk H
                                          clear H A30
                                          have hnr := (Kd.R_reads' HW.out).1
                                          obtain ⟨hx1, hf1⟩ := Kd.R_celln 0 HW.out x x0 (by omega)
                                          obtain ⟨adw, ew, hx5⟩ := Kd.at_int (Kd.C_below HR1.out HB.out) p (of_eq_true q0) pw
                                          cases ew
                                          have s0 := eq_true x0
                                          have s1 : (x < (nr : Int)) = True := eq_true (by omega)
                                          have s5 := eq_true pw
                                          have HX0 := Aside0.mk x0
                                          have HX1 := Aside0.mk (show x < (nr : Int) by omega)
                                          clear x0 x1 y0 y1 hnr pw z0
                                          go_wp2
                                          refine start_ (n := 19) (S := fun w' => w'.cell? ⟨gr, x.toNat, none⟩ = some (.int .i64 (rd row x)) ∧ w'.cell? (adb.add (wrap64 (x - 1)).toNat) = some (.int .i64 (rd bef (wrap64 (x - 1)))) ∧ w'.cell? (adw.add p.toNat) = some (.int .i64 (rd l1 p))) (ds := [16, 18]) #[false, false, false, false, false, false, false, false, false, false, false, false, false, false, false, false, false, false, false] (by kernel_rfl) rfl rfl ⟨hx1, hx2, hx5⟩ (fun hHeld => ?_)
                                          refine with_tabW spec_l9Best.tab19 spec_l9Best.bits19 (fun HT_ HW_ => ?_)
                                          have HB2 := Aside0.mk (below_drew1 HB.out)
                                          have HT2 := Aside0.mk (Kd.R_drew HT.out)
                                          have HZ2 := Aside0.mk (Kd.R_drew HZ.out)
                                          have HF2 := Aside0.mk (Kd.R_drew HF.out)
                                          have HW2 := Aside0.mk (Kd.R_drew HW.out)
                                          clear HB HT HZ HF HW hf1 hx1 hx2 hx5
                                          have HB := HB2
                                          have HT := HT2
                                          have HZ := HZ2
                                          have HF := HF2
                                          have HW := HW2
                                          clear HB2 HT2 HZ2 HF2 HW2
                                          generalize wr.drew = w34 at HB HT HZ HF HW hHeld ⊢
                                          refine pure_ (i := 0) (N := some 77) (v := ?_) (a' := ?_) #[true, false, false, false, false, false, false, false, false, false, false, false, false, false, false, false, false, false, false] rfl rfl (any_of HT_.out (by kernel_rfl)) (fun _ _ _ h => h) (Or.inl ⟨by rfl, ?_⟩) ?_ ?_
                                          rotate_left
                                          · intro w'
                                            go_simp
                                            with_reducible rfl
                                          rotate_left
                                          · simp only [Act.put, List.setIfInBounds_toArray, List.set_cons_zero, List.set_cons_succ, i64_w, i32_w]
                                            rfl
                                          refine pure_ (i := 1) (N := some 78) (v := ?_) (a' := ?_) #[true, true, false, false, false, false, false, false, false, false, false, false, false, false, false, false, false, false, false] rfl rfl (any_of HT_.out (by kernel_rfl)) (fun _ _ _ h => h) (Or.inl ⟨by rfl, ?_⟩) ?_ ?_
                                          rotate_left
                                          · intro w'
                                            go_simp
                                            with_reducible rfl
                                          rotate_left
                                          · simp only [Act.put, List.setIfInBounds_toArray, List.set_cons_zero, List.set_cons_succ, i64_w, i32_w]
                                            rfl
                                          refine pure_ (i := 2) (N := some 79) (v := ?_) (a' := ?_) #[true, true, true, false, false, false, false, false, false, false, false, false, false, false, false, false, false, false, false] rfl rfl (any_of HT_.out (by kernel_rfl)) (fun _ _ _ h => h) (Or.inl ⟨by rfl, ?_⟩) ?_ ?_
                                          rotate_left
                                          · intro w'
                                            go_simp
                                            with_reducible rfl
                                          rotate_left
                                          · simp only [Act.put, List.setIfInBounds_toArray, List.set_cons_zero, List.set_cons_succ, i64_w, i32_w]
                                            rfl
                                          refine pure_ (i := 3) (N := some 80) (v := ?_) (a' := ?_) #[true, true, true, true, false, false, false, false, false, false, false, false, false, false, false, false, false, false, false] rfl rfl (any_of HT_.out (by kernel_rfl)) (fun _ _ _ h => h) (Or.inl ⟨by rfl, ?_⟩) ?_ ?_
                                          rotate_left
                                          · intro w'
                                            go_simp
                                            with_reducible rfl
                                          rotate_left
                                          · simp only [Act.put, List.setIfInBounds_toArray, List.set_cons_zero, List.set_cons_succ, i64_w, i32_w]
                                            rfl
                                          refine pure_ (i := 4) (N := some 81) (v := ?_) (a' := ?_) #[true, true, true, true, true, false, false, false, false, false, false, false, false, false, false, false, false, false, false] rfl rfl (any_of HT_.out (by kernel_rfl)) (fun _ _ _ h => h) (Or.inl ⟨by rfl, ?_⟩) ?_ ?_
                                          rotate_left
                                          · intro w'
                                            go_simp
                                            with_reducible rfl
                                          rotate_left
                                          · simp only [Act.put, List.setIfInBounds_toArray, List.set_cons_zero, List.set_cons_succ, i64_w, i32_w]
                                            rfl
                                          refine pure_ (i := 6) (N := some 83) (v := ?_) (a' := ?_) #[true, true, true, true, true, false, true, false, false, false, false, false, false, false, false, false, false, false, false] rfl rfl (any_of HT_.out (by kernel_rfl)) (fun _ _ _ h => h) (Or.inl ⟨by rfl, ?_⟩) ?_ ?_
                                          rotate_left
                                          · intro w'
                                            go_simp
                                            with_reducible rfl
                                          rotate_left
                                          · simp only [Act.put, List.setIfInBounds_toArray, List.set_cons_zero, List.set_cons_succ, i64_w, i32_w]
                                            rfl
                                          refine pure_ (i := 7) (N := some 84) (v := ?_) (a' := ?_) #[true, true, true, true, true, false, true, true, false, false, false, false, false, false, false, false, false, false, false] rfl rfl (any_of HT_.out (by kernel_rfl)) (fun _ _ _ h => h) (Or.inl ⟨by rfl, ?_⟩) ?_ ?_
                                          rotate_left
                                          · intro w'
                                            go_simp
                                            with_reducible rfl
                                          rotate_left
                                          · simp only [Act.put, List.setIfInBounds_toArray, List.set_cons_zero, List.set_cons_succ, i64_w, i32_w]
                                            rfl
                                          refine pure_ (i := 8) (N := some 85) (v := ?_) (a' := ?_) #[true, true, true, true, true, false, true, true, true, false, false, false, false, false, false, false, false, false, false] rfl rfl (any_of HT_.out (by kernel_rfl)) (fun _ _ _ h => h) (Or.inl ⟨by rfl, ?_⟩) ?_ ?_
                                          rotate_left
                                          · intro w'
                                            go_simp
                                            with_reducible rfl
                                          rotate_left
                                          · simp only [Act.put, List.setIfInBounds_toArray, List.set_cons_zero, List.set_cons_succ, i64_w, i32_w]
                                            rfl
                                          refine pure_ (i := 9) (N := some 86) (v := ?_) (a' := ?_) #[true, true, true, true, true, false, true, true, true, true, false, false, false, false, false, false, false, false, false] rfl rfl (any_of HT_.out (by kernel_rfl)) (fun _ _ _ h => h) (Or.inl ⟨by rfl, ?_⟩) ?_ ?_
                                          rotate_left
                                          · intro w'
                                            go_simp
                                            with_reducible rfl
                                          rotate_left
                                          · simp only [Act.put, List.setIfInBounds_toArray, List.set_cons_zero, List.set_cons_succ, i64_w, i32_w]
                                            rfl
                                          refine pure_ (i := 11) (N := some 88) (v := ?_) (a' := ?_) #[true, true, true, true, true, false, true, true, true, true, false, true, false, false, false, false, false, false, false] rfl rfl (any_of HT_.out (by kernel_rfl)) (fun _ _ _ h => h) (Or.inl ⟨by rfl, ?_⟩) ?_ ?_
                                          rotate_left
                                          · intro w'
                                            go_simp
                                            with_reducible rfl
                                          rotate_left
                                          · simp only [Act.put, List.setIfInBounds_toArray, List.set_cons_zero, List.set_cons_succ, i64_w, i32_w]
                                            rfl
                                          refine pure_ (i := 12) (N := some 89) (v := ?_) (a' := ?_) #[true, true, true, true, true, false, true, true, true, true, false, true, true, false, false, false, false, false, false] rfl rfl (any_of HT_.out (by kernel_rfl)) (fun _ _ _ h => h) (Or.inl ⟨by rfl, ?_⟩) ?_ ?_
                                          rotate_left
                                          · intro w'
                                            go_simp
                                            with_reducible rfl
                                          rotate_left
                                          · simp only [Act.put, List.setIfInBounds_toArray, List.set_cons_zero, List.set_cons_succ, i64_w, i32_w]
                                            rfl
                                          refine pure_ (i := 13) (N := some 90) (v := ?_) (a' := ?_) #[true, true, true, true, true, false, true, true, true, true, false, true, true, true, false, false, false, false, false] rfl rfl (any_of HT_.out (by kernel_rfl)) (fun _ _ _ h => h) (Or.inl ⟨by rfl, ?_⟩) ?_ ?_
                                          rotate_left
                                          · intro w'
                                            go_simp
                                            with_reducible rfl
                                          rotate_left
                                          · simp only [Act.put, List.setIfInBounds_toArray, List.set_cons_zero, List.set_cons_succ, i64_w, i32_w]
                                            rfl
                                          refine take_ (i := 5) (N := some 82) (v := ?_) (a' := ?_) #[true, true, true, true, true, true, true, true, true, true, false, true, true, true, false, false, false, false, false] rfl rfl (take_ofW HT_.out HW_.out (by kernel_rfl)) (fun _ _ _ h => h) (Or.inl ⟨by rfl, ?_⟩) hHeld ?_ ?_
                                          rotate_left
                                          · rintro w' ⟨s0, s1, s2⟩
                                            go_simp
                                            with_reducible rfl
                                          rotate_left
                                          · simp only [Act.put, List.setIfInBounds_toArray, List.set_cons_zero, List.set_cons_succ, i64_w, i32_w]
                                            rfl
                                          refine take_ (i := 10) (N := some 87) (v := ?_) (a' := ?_) #[true, true, true, true, true, true, true, true, true, true, true, true, true, true, false, false, false, false, false] rfl rfl (take_ofW HT_.out HW_.out (by kernel_rfl)) (fun _ _ _ h => h) (Or.inl ⟨by rfl, ?_⟩) hHeld ?_ ?_
                                          rotate_left
                                          · rintro w' ⟨s0, s1, s2⟩
                                            go_simp
                                            with_reducible rfl
                                          rotate_left
                                          · simp only [Act.put, List.setIfInBounds_toArray, List.set_cons_zero, List.set_cons_succ, i64_w, i32_w]
                                            rfl
                                          refine take_ (i := 14) (N := some 91) (v := ?_) (a' := ?_) #[true, true, true, true, true, true, true, true, true, true, true, true, true, true, true, false, false, false, false] rfl rfl (take_ofW HT_.out HW_.out (by kernel_rfl)) (fun _ _ _ h => h) (Or.inl ⟨by rfl, ?_⟩) hHeld ?_ ?_
                                          rotate_left
                                          · rintro w' ⟨s0, s1, s2⟩
                                            go_simp
                                            with_reducible rfl
                                          rotate_left
                                          · simp only [Act.put, List.setIfInBounds_toArray, List.set_cons_zero, List.set_cons_succ, i64_w, i32_w]
                                            rfl
                                          refine pure_ (i := 15) (N := some 92) (v := ?_) (a' := ?_) #[true, true, true, true, true, true, true, true, true, true, true, true, true, true, true, true, false, false, false] rfl rfl (any_of HT_.out (by kernel_rfl)) (fun _ _ _ h => h) (Or.inl ⟨by rfl, ?_⟩) ?_ ?_
                                          rotate_left
                                          · intro w'
                                            go_simp
                                            with_reducible rfl
                                          rotate_left
                                          · simp only [Act.put, List.setIfInBounds_toArray, List.set_cons_zero, List.set_cons_succ, i64_w, i32_w]
                                            rfl
                                          refine last_ (i := 16) (N := some 93) #[true, true, true, true, true, true, true, true, true, true, true, true, true, true, true, true, true, false, false] rfl rfl (one_of HT_.out (by kernel_rfl)) (by decide) (fun K hK => ?_)
                                          refine goes_ Tryd.func66 (by kernel_rfl) rfl #[.int .i64 (rd row x), .int .i64 (wrap64 (rd bef (wrap64 (x - 1)) + rd l1 p))] (by rfl) rfl rfl (by (try simp only [List.map_toArray, List.map_cons, List.map_nil]); first | done | rfl) ?_
                                          with_reducible refine (spec_l1Most.calls (rd row x) (wrap64 (rd bef (wrap64 (x - 1)) + rd l1 p)) mv _ AM.out).mono ?_
                                          rintro e w35 ⟨rfl, hd_⟩
                                          refine ⟨_, rfl, ?_⟩
                                          have hb := bs_drawn hd_
                                          clear hd_
                                          obtain ⟨HB, HT, HZ, HF, HW⟩ := bs_step HB HT HZ HF HW hb
                                          clear hb
                                          obtain ⟨hx3, hf3⟩ := Kd.R_celln 0 HW.out x HX0.out (by have h_ := (Kd.R_reads' HW.out).1; have h2_ := HX1.out; omega)
                                          refine hK.out _ _ ?_
                                          clear hK K
                                          refine norm_ (a' := ?_) ?_ ?_
                                          rotate_left
                                          · show Act.put _ (some 93) _ = _
                                            simp only [Act.put, List.setIfInBounds_toArray, List.set_cons_zero, List.set_cons_succ, i64_w, i32_w]
                                            rfl
                                          refine pure_ (i := 17) (N := some 94) (v := ?_) (a' := ?_) #[true, true, true, true, true, true, true, true, true, true, true, true, true, true, true, true, true, true, false] rfl rfl (any_of HT_.out (by kernel_rfl)) (fun _ _ _ h => h) (Or.inl ⟨by rfl, ?_⟩) ?_ ?_
                                          rotate_left
                                          · intro w'
                                            go_simp
                                            with_reducible rfl
                                          rotate_left
                                          · simp only [Act.put, List.setIfInBounds_toArray, List.set_cons_zero, List.set_cons_succ, i64_w, i32_w]
                                            rfl
                                          refine last_ (i := 18) (N := none) #[true, true, true, true, true, true, true, true, true, true, true, true, true, true, true, true, true, true, true] rfl rfl (one_of HT_.out (by kernel_rfl)) (by decide) (fun K hK => ?_)
                                          refine skip_ (w1 := w35.setCell ⟨gr, x.toNat, none⟩ (.int .i64 mv)) (by rfl) rfl ?_ ?_
                                          · first | (go_simp; done) | (go_simp; rfl)
                                          refine hK.out _ _ ?_
                                          clear hK K
                                          refine done_ (done_of HT_.out (by kernel_rfl)) ?_

                                          try go_wp2
                                          go_roundg k2
                                          case measure => have h2_ := HK2.out; omega
                                          case rel => exact ⟨row.set x.toNat mv, wrap64 (x + 1), (by first | rfl | (simp; done) | (simp [*]; done)), HH, ⟨by have h2_ := HK2.out; omega⟩, ⟨Kd.R_far (p := ⟨gr, x.toNat, none⟩) HT.out (fun _ hk_ => hk_.2) _⟩, ⟨Kd.R_far (p := ⟨gr, x.toNat, none⟩) HZ.out (fun k_ hk_ => by rw [hk_]; exact fun h_ => hrz h_.symm) _⟩, ⟨Kd.R_far (p := ⟨gr, x.toNat, none⟩) HF.out (fun _ hk_ => hk_) _⟩, ⟨Kd.R_putn HW.out x _⟩, ⟨below_set HB.out hr1⟩⟩
                                        · rw [if_neg pw] at H
                                          exact absurd H (by simp)
                                      · rw [if_neg x1] at H
                                        exact absurd H (by simp)
                                    · rw [if_neg x0] at H
                                      exact absurd H (by simp)
                                  · rw [if_neg z0] at H
                                    have z0b : decide (0 ≤ rd bef (wrap64 (x - 1))) = false := decide_eq_false z0
                                    have HH := Aside0.mk H
                                    clear H y0 y1 z0
                                    go_wp2
                                    go_roundg k2
                                    case measure => have h2_ := HK2.out; omega
                                    case rel => exact ⟨row, wrap64 (x + 1), (by first | rfl | (simp; done) | (simp [*]; done)), HH, ⟨by have h2_ := HK2.out; omega⟩, HT, HZ, HF, HW, HB⟩
                                · rw [if_neg y1] at H
                                  exact absurd H (by simp)
                              · rw [if_neg y0] at H
                                exact absurd H (by simp)
                            · rw [if_neg j24] at H
                              have j24b : decide (x ≤ 24) = false := decide_eq_false j24
                              clear j24
                              by_cases tl : tab.length + 1 < 4398046511104
                              · rw [if_pos tl] at H
                                have HH := Aside0.mk H
                                obtain ⟨AP, AN, AO, AZ⟩ := bs_app HT.out HZ.out HW.out hrz
                                have AP := Aside0.mk AP
                                have AN := Aside0.mk AN
                                have AO := Aside0.mk AO
                                have AZ := Aside0.mk AZ
                                clear H
                                go_wp2_with ((with_reducible refine gate_builtin (b := .append) (xs := #[.tmp 95, .tmp 97]) rfl ?_); at_builtin; refine Kd.R_append (Kd.slice 3 (Kd.int .i64)) (w0 := w) w.heap.size rfl (.tmp 95) (.tmp 97) 85 22 (.slice none 0 0) 24 rfl Tryd.underlying85 (by kernel_rfl) rfl (by decide) (by omega) u11 tab row [.slice (some ⟨gr, 0, none⟩) nr cr] (fun k_ => k_ ≠ gz) (fun k_ => k_ ≠ gz ∧ some k_ ≠ u11.ownBlock) rfl rfl ⟨_, rfl, AP.out⟩ (fun _ hk_ => hk_) AN.out AO.out HB.out HB.out.size (by have h_ := tl; omega) ?_; intro v8 w8 ho hb hg hat; have HT8 := Aside0.mk ho; have HZ8 := Aside0.mk (Kd.R_grown HZ.out hg AZ.out); have HB8 := Aside0.mk hb; clear HT HZ HF HW HB AP AN AO AZ ho hb hg hat; have HT := HT8; have HZ := HZ8; have HB := HB8; clear HT8 HZ8 HB8)
                                go_roundg k2
                                case measure => have h1_ := HK1.out; have h2_ := HK2.out; omega
                                case rel => exact ⟨tab ++ [row], wrap64 (p + 1), (by first | rfl | (simp; done) | (simp [*]; done)), HH, ⟨by have h1_ := HK1.out; have h2_ := HK2.out; omega⟩, HT, HZ, HB⟩
                              · rw [if_neg tl] at H
                                exact absurd H (by simp)
                          | false =>
                            rw [if_neg (by decide)] at H
                            by_cases tl : tab.length + 1 < 4398046511104
                            · rw [if_pos tl] at H
                              have HH := Aside0.mk H
                              obtain ⟨AP, AN, AO, AZ⟩ := bs_app HT.out HZ.out HW.out hrz
                              have AP := Aside0.mk AP
                              have AN := Aside0.mk AN
                              have AO := Aside0.mk AO
                              have AZ := Aside0.mk AZ
                              clear H
                              go_wp2_with ((with_reducible refine gate_builtin (b := .append) (xs := #[.tmp 95, .tmp 97]) rfl ?_); at_builtin; refine Kd.R_append (Kd.slice 3 (Kd.int .i64)) (w0 := w) w.heap.size rfl (.tmp 95) (.tmp 97) 85 22 (.slice none 0 0) 24 rfl Tryd.underlying85 (by kernel_rfl) rfl (by decide) (by omega) u11 tab row [.slice (some ⟨gr, 0, none⟩) nr cr] (fun k_ => k_ ≠ gz) (fun k_ => k_ ≠ gz ∧ some k_ ≠ u11.ownBlock) rfl rfl ⟨_, rfl, AP.out⟩ (fun _ hk_ => hk_) AN.out AO.out HB.out HB.out.size (by have h_ := tl; omega) ?_; intro v8 w8 ho hb hg hat; have HT8 := Aside0.mk ho; have HZ8 := Aside0.mk (Kd.R_grown HZ.out hg AZ.out); have HB8 := Aside0.mk hb; clear HT HZ HF HW HB AP AN AO AZ ho hb hg hat; have HT := HT8; have HZ := HZ8; have HB := HB8; clear HT8 HZ8 HB8)
                              go_roundg k2
                              case measure => have h1_ := HK1.out; have h2_ := HK2.out; omega
                              case rel => exact ⟨tab ++ [row], wrap64 (p + 1), (by first | rfl | (simp; done) | (simp [*]; done)), HH, ⟨by have h1_ := HK1.out; have h2_ := HK2.out; omega⟩, HT, HZ, HB⟩
                            · rw [if_neg tl] at H
                              exact absurd H (by simp)
                        · rw [if_neg p1] at H
                          exact absurd H (by simp)
                      · rw [if_neg p0] at H
                        exact absurd H (by simp)
                · rw [if_neg cl] at H
                  exact absurd H (by simp)
          · rw [if_neg c1] at H
            have c1b : decide (p ≤ a2) = false := decide_eq_false c1
            clear c1
            by_cases e0 : (tab.length : Int) = 0
            · rw [if_pos e0] at H
              have e0b : ((tab.length : Int) == 0) = true := beq_iff_eq.mpr e0
              obtain ⟨AT, cT, eT⟩ := Kd.R_slice HT.out
              subst eT
              obtain rfl := Option.some.inj H
              clear H e0
              go_wp2
              go_ret
              exact ⟨_, rfl, Kd.R_mono HZ.out (fun _ _ => trivial), HB.out⟩
            · rw [if_neg e0] at H
              have e0b : ((tab.length : Int) == 0) = false := beq_eq_false_iff_ne.mpr e0
              by_cases i0 : 0 ≤ wrap64 ((tab.length : Int) - 1)
              · rw [if_pos i0] at H
                by_cases i1 : wrap64 ((tab.length : Int) - 1) < (tab.length : Int)
                · rw [if_pos i1] at H
                  obtain ⟨ad, cap, A9, c9, e9, hx9, hR9⟩ := bs_get HT.out _ i0 i1
                  subst e9
                  have q0 := eq_true i0
                  have q1 := eq_true i1
                  obtain rfl := Option.some.inj H
                  have HR9 := Aside0.mk (Kd.R_mono hR9 (fun _ _ => trivial) : Kd.R (Kd.int .i64) 3 _ w.heap.size (fun _ => True) _ _)
                  clear H hR9 i0 i1 e0
                  go_wp2
                  go_ret
                  exact ⟨_, rfl, HR9.out, HB.out⟩
                · rw [if_neg i1] at H
                  exact absurd H (by simp)
              · rw [if_neg i0] at H
                exact absurd H (by simp)


/-! ### spec_l9End: function 65 -/
def spec_l9End.f (a0_0 : Int) (a0_1 : Bool) (l0_2 : List Int) (a1 : Int) (a2 : Int) : Option (Int) := if a0_1 = true then ((spec_l1Least.f (wrap64 (a0_0 - 1)) (wrap64 ((wrap64 (a1 + a0_0)) - a2))).bind fun t174 => (some t174)) else (some (wrap64 (a0_0 - 1)))
set_option maxHeartbeats 8000000 in
set_option maxRecDepth 100000 in
theorem spec_l9End.calls (a0_0 : Int) (a0_1 : Bool) (A0_2 : Option Addr) (c0_2 : Nat) (l0_2 : List Int) (a1 : Int) (a2 : Int) (r : Int) (w : World) (hr0_2 : Kd.C (Kd.int .i64) w A0_2 l0_2.length l0_2) (hc0_2 : l0_2.length ≤ c0_2) (h : spec_l9End.f a0_0 a0_1 l0_2 a1 a2 = some r) :
    Calls Tryd.prog 65 #[.agg #[.int .i64 a0_0, .bool a0_1, .slice A0_2 l0_2.length c0_2], .int .i64 a1, .int .i64 a2] w fun e w' => e = .returned (.int .i64 r) ∧ Below w.heap.size w w' := by
  have hu28 := Tryd.underlying28
  have HR0_2 := Aside0.mk hr0_2
  have HC0_2 := Aside0.mk hc0_2
  clear hr0_2 hc0_2
  have HB := Aside0.mk (Below.refl w.heap.size w)
  have H : (if a0_1 = true then ((spec_l1Least.f (wrap64 (a0_0 - 1)) (wrap64 ((wrap64 (a1 + a0_0)) - a2))).bind fun t174 => (some t174)) else (some (wrap64 (a0_0 - 1)))) = some r := h
  clear h
  by_cases c4 : a0_1 = true
  · subst c4
    have H1 : ((spec_l1Least.f (wrap64 (a0_0 - 1)) (wrap64 ((wrap64 (a1 + a0_0)) - a2))).bind fun t174 => (some t174)) = some r := by rw [if_pos rfl] at H; exact H
    clear H
    have H := H1
    clear H1
    replace H := Option.bind_eq_some_iff.mp H
    obtain ⟨t174, A50, H⟩ := H
    replace H : (some t174) = some r := H
    have A5 := Aside0.mk A50
    clear A50
    obtain rfl := Option.some.inj H
    go_enter Tryd.func65, Tryd.ntmps65
    go_wp2_with (first | ((with_reducible refine gate_dst (N := 3) rfl ?_); refine box_event ?hg (N := 3) ?hd (cs := #[.int .i64 a0_0, .bool true, .slice A0_2 l0_2.length c0_2]) (t := 28) ?hr ?_; (case hd => rfl); (case hg => rfl); (case hr => first | (go_simp; done) | (go_simp; rfl)); intro gb173 hg w6 hbox hb; have n0_ := Aside0.mk (below_step (by repeat (first | (with_reducible first | exact HB.out | apply below_alloc | apply pw_below_drewN | apply below_drew1) | exact HB.out)) hb); have n1_ := Aside0.mk (hbox); have n2_ := Aside0.mk ((by rw [hg]; exact (below_size (by repeat (first | (with_reducible first | exact HB.out | apply below_alloc | apply pw_below_drewN | apply below_drew1) | exact HB.out))) : w.heap.size ≤ gb173)); have n3_ := Aside0.mk ((by rw [hg]; exact (below_size (by repeat (first | (with_reducible first | exact HB.out | apply below_alloc | apply pw_below_drewN | apply below_drew1) | exact HB.out))) : w.heap.size ≤ gb173)); clear HB; have HB := n0_; have BK173 := n1_; have GW173 := n2_; have GE173 := n3_; clear n0_ n1_ n2_ n3_; clear hb hbox hg; have hcz7_0 : w6.cell? ⟨gb173, 0, none⟩ = some (.int .i64 a0_0) := (blk_cell BK173.out 0).trans rfl; have hcz7_1 : w6.cell? ⟨gb173, 1, none⟩ = some (.bool true) := (blk_cell BK173.out 1).trans rfl; have hcz7_2 : w6.cell? ⟨gb173, 2, none⟩ = some (.slice A0_2 l0_2.length c0_2) := (blk_cell BK173.out 2).trans rfl; have hfz7_0 := blk_frozen BK173.out 0; have hfz7_1 := blk_frozen BK173.out 1; have hfz7_2 := blk_frozen BK173.out 2) | ((with_reducible refine gate_callee (f := 48) rfl ?_); refine goesL_ (some 18) rfl rfl Tryd.func48 (by kernel_rfl) rfl #[.int .i64 (wrap64 (a0_0 - 1)), .int .i64 (wrap64 ((wrap64 (a1 + a0_0)) - a2))] rfl (by (try simp only [List.map_toArray, List.map_cons, List.map_nil]); first | done | rfl | (simp only [List.length_drop, List.length_take]; rfl)) ?_; (with_reducible refine (spec_l1Least.calls (wrap64 (a0_0 - 1)) (wrap64 ((wrap64 (a1 + a0_0)) - a2)) t174 _ A5.out).mono ?_); rintro e w' ⟨rfl, ⟨nd, rfl⟩⟩; refine ⟨_, rfl, ?_⟩))
    go_ret
    exact ⟨by first | rfl | (simp [errW_none, errW_some] <;> rfl) | (simp [*, errW_none, errW_some] <;> rfl), by repeat (first | (with_reducible first | exact HB.out | apply below_alloc | apply pw_below_drewN | apply below_drew1 | refine below_set ?_ GE173.out) | exact HB.out)⟩
  · replace c4 := Bool.eq_false_iff.mpr c4
    subst c4
    have H1 : (some (wrap64 (a0_0 - 1))) = some r := by rw [if_neg (show ¬ (false = true) by decide)] at H; exact H
    clear H
    have H := H1
    clear H1
    obtain rfl := Option.some.inj H
    go_enter Tryd.func65, Tryd.ntmps65
    go_wp2_with (first | ((with_reducible refine gate_dst (N := 3) rfl ?_); refine box_event ?hg (N := 3) ?hd (cs := #[.int .i64 a0_0, .bool false, .slice A0_2 l0_2.length c0_2]) (t := 28) ?hr ?_; (case hd => rfl); (case hg => rfl); (case hr => first | (go_simp; done) | (go_simp; rfl)); intro gb173 hg w8 hbox hb; have n0_ := Aside0.mk (below_step (by repeat (first | (with_reducible first | exact HB.out | apply below_alloc | apply pw_below_drewN | apply below_drew1) | exact HB.out)) hb); have n1_ := Aside0.mk (hbox); have n2_ := Aside0.mk ((by rw [hg]; exact (below_size (by repeat (first | (with_reducible first | exact HB.out | apply below_alloc | apply pw_below_drewN | apply below_drew1) | exact HB.out))) : w.heap.size ≤ gb173)); have n3_ := Aside0.mk ((by rw [hg]; exact (below_size (by repeat (first | (with_reducible first | exact HB.out | apply below_alloc | apply pw_below_drewN | apply below_drew1) | exact HB.out))) : w.heap.size ≤ gb173)); clear HB; have HB := n0_; have BK173 := n1_; have GW173 := n2_; have GE173 := n3_; clear n0_ n1_ n2_ n3_; clear hb hbox hg; have hcz9_0 : w8.cell? ⟨gb173, 0, none⟩ = some (.int .i64 a0_0) := (blk_cell BK173.out 0).trans rfl; have hcz9_1 : w8.cell? ⟨gb173, 1, none⟩ = some (.bool false) := (blk_cell BK173.out 1).trans rfl; have hcz9_2 : w8.cell? ⟨gb173, 2, none⟩ = some (.slice A0_2 l0_2.length c0_2) := (blk_cell BK173.out 2).trans rfl; have hfz9_0 := blk_frozen BK173.out 0; have hfz9_1 := blk_frozen BK173.out 1; have hfz9_2 := blk_frozen BK173.out 2))
    go_ret
    exact ⟨by first | rfl | (simp [errW_none, errW_some] <;> rfl) | (simp [*, errW_none, errW_some] <;> rfl), by repeat (first | (with_reducible first | exact HB.out | apply below_alloc | apply pw_below_drewN | apply below_drew1 | refine below_set ?_ GE173.out) | exact HB.out)⟩

end Go.Proofs.YtapbmneehaemeaaDoor.PFnExactBestWorth
