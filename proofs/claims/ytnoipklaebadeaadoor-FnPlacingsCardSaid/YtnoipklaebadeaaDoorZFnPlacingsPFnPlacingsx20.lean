import Derived.Test.YtnoipklaebadeaaDoorZFnPlacingsPFnPlacingsx0
import Derived.Test.YtnoipklaebadeaaDoorZFnPlacingsPFnPlacingsx1
import Derived.Test.YtnoipklaebadeaaDoorZFnPlacingsPFnPlacingsx2
import Derived.Test.YtnoipklaebadeaaDoorZFnPlacingsPFnPlacingsx3
import Derived.Test.YtnoipklaebadeaaDoorZFnPlacingsPFnPlacingsx4
import Derived.Test.YtnoipklaebadeaaDoorZFnPlacingsPFnPlacingsx5
import Derived.Test.YtnoipklaebadeaaDoorZFnPlacingsPFnPlacingsx6
import Derived.Test.YtnoipklaebadeaaDoorZFnPlacingsPFnPlacingsx7
import Derived.Test.YtnoipklaebadeaaDoorZFnPlacingsPFnPlacingsx8
import Derived.Test.YtnoipklaebadeaaDoorZFnPlacingsPFnPlacingsx9
import Derived.Test.YtnoipklaebadeaaDoorZFnPlacingsPFnPlacingsx10
import Derived.Test.YtnoipklaebadeaaDoorZFnPlacingsPFnPlacingsx11
import Derived.Test.YtnoipklaebadeaaDoorZFnPlacingsPFnPlacingsx12
import Derived.Test.YtnoipklaebadeaaDoorZFnPlacingsPFnPlacingsx13
import Derived.Test.YtnoipklaebadeaaDoorZFnPlacingsPFnPlacingsx14
import Derived.Test.YtnoipklaebadeaaDoorZFnPlacingsPFnPlacingsx15
import Derived.Test.YtnoipklaebadeaaDoorZFnPlacingsPFnPlacingsx16
import Derived.Test.YtnoipklaebadeaaDoorZFnPlacingsPFnPlacingsx17
import Derived.Test.YtnoipklaebadeaaDoorZFnPlacingsPFnPlacingsx18
import Derived.Test.YtnoipklaebadeaaDoorZFnPlacingsPFnPlacingsx19
namespace Go.Proofs.YtnoipklaebadeaaDoor.PFnPlacings
open Go.RowKit Go.Proofs.YtnoipklaebadeaaDoorW.PrintWords Go.Proofs.YtnoipklaebadeaaDoorW.PrintLast Go.Proofs.YtnoipklaebadeaaDoorW.PrintMore
attribute [local go_sem] max2_int min2_int max_two min_two max_three min_three max_four min_four   -- for this text's walks alone
set_option linter.unusedVariables false
set_option linter.unusedSimpArgs false
mutual
/-- the seats of all groups: free ahead, taken behind -/
def laws_FnPlacings.l0 : Nat → List Int → List Int → List Int → List Int → Int → Option Bool
 | 0, _, _, _, _, _ => none
 | k + 1, pl, gl, rl, zl, i => if i < (pl.length : Int) then (if 0 ≤ i then ((laws_FnPlacings.l1 k pl gl rl zl i (rd pl i)).bind fun _ => laws_FnPlacings.l0 k pl gl rl zl (wrap64 (i + 1))) else none) else some true
def laws_FnPlacings.l1 : Nat → List Int → List Int → List Int → List Int → Int → Int → Option Bool
 | 0, _, _, _, _, _, _ => none
 | k + 1, pl, gl, rl, zl, i, p => if 0 ≤ i ∧ i < (pl.length : Int) ∧ i < (gl.length : Int) then (if p < wrap64 (rd pl i + rd gl i) then ((laws_vHas.f k rl p).bind fun h => (laws_vHas.f k zl p).bind fun h2 => if h = false ∧ h2 = true then laws_FnPlacings.l1 k pl gl rl zl i (wrap64 (p + 1)) else none) else some true) else none
end
/-- the first placing is one -/
def laws_FnPlacings.q (k : Nat) (us : Int) (ur : Bool) (ul sl : List Int) (ap : Int) (fl : List Int) (one : Bool) : Option Bool := if one = true then ((impl_IsPlacing.f k us ur ul sl ap fl).bind fun gd => (impl_PlaceRow.f k us ur ul sl ap fl).bind fun fu => (laws_vAdd.f k sl).bind fun sm => if gd = (true, true) ∧ fu.2.2.2 = true ∧ (fu.2.2.1.length : Int) = wrap64 ((ul.length : Int) + sm) then some true else none) else some true
/-- no placing is less than the first -/
def laws_FnPlacings.h (k : Nat) (rs : Int) (rr : Bool) (rl gl : List Int) (dd : Int) (pl zl : List Int) : Option Bool := (impl_FirstPlacing.f k rs rr rl gl dd).bind fun lo => (laws_vLess.f k pl lo.1).bind fun le => (laws_vAdd.f k gl).bind fun sm => if lo.2 = true ∧ le = false ∧ (zl.length : Int) = wrap64 ((rl.length : Int) + sm) then some true else none
def laws_FnPlacings.f (k : Nat) (l0 : List Int) : Option Bool := (laws_vBig.f l0).bind fun big => if big = true then some true else
 ((spec_DrawPlaceRow.f k l0).bind fun r => (impl_PlaceRow.f k r.1 r.2.1 r.2.2.1 r.2.2.2.1 r.2.2.2.2.1 r.2.2.2.2.2).bind fun z => (spec_PlaceRow.f k r.1 r.2.1 r.2.2.1 r.2.2.2.1 r.2.2.2.2.1 r.2.2.2.2.2).bind fun z2 => (impl_IsPlacing.f k r.1 r.2.1 r.2.2.1 r.2.2.2.1 r.2.2.2.2.1 r.2.2.2.2.2).bind fun iz => (spec_IsPlacing.f k r.1 r.2.1 r.2.2.1 r.2.2.2.1 r.2.2.2.2.1 r.2.2.2.2.2).bind fun iz2 => (laws_vCut.f l0 1).bind fun c1 => (spec_DrawCountPlacings.f k c1).bind fun u => (impl_CountPlacings.f k u.1 u.2.1 u.2.2.1 u.2.2.2.1 u.2.2.2.2).bind fun ma => (spec_CountPlacings.f k u.1 u.2.1 u.2.2.1 u.2.2.2.1 u.2.2.2.2).bind fun ma2 => (impl_FirstPlacing.f k u.1 u.2.1 u.2.2.1 u.2.2.2.1 u.2.2.2.2).bind fun fi => (spec_FirstPlacing.f k u.1 u.2.1 u.2.2.1 u.2.2.2.1 u.2.2.2.2).bind fun fi2 =>
  if z.2.2.2 = z2.2.2.2 ∧ iz = iz2 ∧ ma = ma2 ∧ fi.2 = fi2.2 ∧ z.2.2.2 = (iz.2 && iz.1) ∧ fi.2 = (ma.2 && decide (0 < ma.1)) then
   ((laws_vRow.f k z.1 z.2.1 z.2.2.1 z2.1 z2.2.1 z2.2.2.1).bind fun e1 => (laws_vInts.f k fi.1 fi2.1).bind fun e2 => if e1 = true ∧ e2 = true then ((laws_FnPlacings.q k u.1 u.2.1 u.2.2.1 u.2.2.2.1 u.2.2.2.2 fi.1 fi.2).bind fun _ => if z.2.2.2 = true then ((laws_FnPlacings.l0 k r.2.2.2.2.2 r.2.2.2.1 r.2.2.1 z.2.2.1 0).bind fun _ => laws_FnPlacings.h k r.1 r.2.1 r.2.2.1 r.2.2.2.1 r.2.2.2.2.1 r.2.2.2.2.2 z.2.2.1) else some true) else none) else none)
def laws_FnPlacings.T18 : Bool × List (List Nat × List Nat) := (true, [([], []), ([0], [0]), ([1], [1]), ([2], [2]), ([3, 2], [2, 3]), ([2, 4], [2, 4]), ([5, 2], [5]), ([6], [6]), ([7, 6], [6, 7]), ([6, 8], [6, 8]), ([9, 6], [9]), ([10], [10]), ([11, 10], [10, 11]), ([12, 10], [10, 12]), ([10], [10]), ([14, 10], [10, 14]), ([15, 10], [10, 15]), ([10], [10]), ([17, 10, 10], [10, 17]), ([16, 18, 10], [10, 16, 18]), ([13, 19, 10], [10, 13, 19]), ([10, 20], [10, 20])])
def laws_FnPlacings.B18 : List Nat := [0, 1, 3, 7, 15, 31, 63, 127, 255, 511, 1023, 2047, 4095, 8191, 2047, 18431, 51199, 2047, 133119, 509951, 1048575, 2097151]
theorem laws_FnPlacings.tab18 : rtab .any (opsOf Tryd.f3 18) = laws_FnPlacings.T18 := by kernel_rfl
theorem laws_FnPlacings.bits18 : waitsOk laws_FnPlacings.T18.2 laws_FnPlacings.B18 = true := by kernel_rfl
def laws_FnPlacings.T26 : Bool × List (List Nat × List Nat) := (true, [([], []), ([], []), ([], []), ([1, 2], [1, 2]), ([3], [3]), ([], []), ([], []), ([5, 6], [5, 6]), ([7], [7]), ([4, 8], [4, 8]), ([0, 9], [0, 9])])
def laws_FnPlacings.B26 : List Nat := [0, 0, 0, 6, 14, 0, 0, 96, 224, 510, 1023]
theorem laws_FnPlacings.tab26 : rtab .any (opsOf Tryd.f3 26) = laws_FnPlacings.T26 := by kernel_rfl
theorem laws_FnPlacings.bits26 : waitsOk laws_FnPlacings.T26.2 laws_FnPlacings.B26 = true := by kernel_rfl
def laws_FnPlacings.T31 : Bool × List (List Nat × List Nat) := (true, [([], []), ([0], [0]), ([1], [1]), ([1], [1]), ([2, 3, 1, 1], [1, 2, 3]), ([4, 1], [1, 4]), ([1, 5], [1, 5]), ([6, 4], [6]), ([7], [7]), ([8, 7], [7, 8]), ([9, 7], [7, 9]), ([7], [7]), ([11, 7], [7, 11]), ([12, 7], [7, 12]), ([7], [7]), ([14, 7, 7], [7, 14]), ([13, 15, 7], [7, 13, 15]), ([10, 16, 7], [7, 10, 16]), ([7, 17], [7, 17]), ([18, 15, 0, 1, 2, 3, 4, 5, 6, 7, 8, 9, 10, 11, 12, 13, 14, 15, 16, 17, 18], [18])])
def laws_FnPlacings.B31 : List Nat := [0, 1, 3, 3, 15, 31, 63, 127, 255, 511, 1023, 255, 2303, 6399, 255, 16639, 63743, 131071, 262143, 524287]
theorem laws_FnPlacings.tab31 : rtab .any (opsOf Tryd.f3 31) = laws_FnPlacings.T31 := by kernel_rfl
theorem laws_FnPlacings.bits31 : waitsOk laws_FnPlacings.T31.2 laws_FnPlacings.B31 = true := by kernel_rfl
theorem pol_cells {W : World} {g : Nat} {a b d : Value} (h : W.heap[g]? = some (.cells #[a, b, d] 26 (0, 0))) : W.cell? ⟨g, 0, none⟩ = some a ∧ W.cell? ⟨g, 1, none⟩ = some b ∧ W.cell? ⟨g, 2, none⟩ = some d := ⟨(blk_cell h 0).trans rfl, (blk_cell h 1).trans rfl, (blk_cell h 2).trans rfl⟩
theorem pol_box {w1 w2 : World} {g : Nat} {a0 b0 d0 : Value} {N : Nat} (h : w2.heap[g]? = some (.cells #[a0, b0, d0] 26 (0, 0))) (hb : Below N w1 w2) (hg : N ≤ g) (a b d : Value) :
  ∃ W, ((w2.setCell ⟨g, 0, none⟩ a).setCell ⟨g, 1, none⟩ b).setCell ⟨g, 2, none⟩ d = W ∧ W.heap[g]? = some (.cells #[a, b, d] 26 (0, 0)) ∧ Below N w1 W := by
 refine ⟨_, rfl, blk_put (blk_put (blk_put h 0 a (cs' := #[a, b0, d0]) rfl) 1 b (cs' := #[a, b, d0]) rfl) 2 d rfl, ?_⟩
 have far : ∀ (W : World) (j : Nat) (u : Value), Below N w1 W → Below N w1 (W.setCell ⟨g, j, none⟩ u) := fun W j u h => h.trans ⟨rfl, rfl, rfl, by simp [World.setCell], fun i hi => Below.heap_setCell W ⟨g, j, none⟩ u i (by show i ≠ g; omega)⟩
 exact far _ _ _ (far _ _ _ (far _ _ _ hb))
theorem pol_atC {W : World} {ad : Addr} {n : Nat} {xs : List Int} (h : Kd.C (Kd.int .i64) W (some ad) n xs) (i : Int) (h0 : 0 ≤ i) (h1 : i < (n : Int)) : W.cell? (ad.add i.toNat) = some (.int .i64 (rd xs i)) := by
 obtain ⟨a, e, hc⟩ := Kd.at_int h i h0 h1
 cases e
 exact hc
set_option maxHeartbeats 8000000 in
set_option maxRecDepth 100000 in
theorem laws_FnPlacings.calls (k : Nat) (A0 : Option Addr) (c0 : Nat) (l0 : List Int) (w : World) (hr0 : Kd.C (Kd.int .u8) w A0 l0.length l0) (hc0 : l0.length ≤ c0) (hrT : GT w) (h : laws_FnPlacings.f k l0 = some true) :
  Calls Tryd.prog 3 #[.slice A0 l0.length c0] w fun e w' => e = .returned (.bool true) ∧ Below w.heap.size w w' := by
 have HR := am hr0
 have HC := am hc0
 have HT := am hrT
 clear hr0 hc0 hrT
 have HB := am (Below.refl w.heap.size w)
 unfold laws_FnPlacings.f at h
 obtain ⟨big, a1, h0⟩ := Option.bind_eq_some_iff.mp h
 clear h; have h := h0; clear h0
 have A1 := am a1; clear a1
 cases big with
 | true =>
  clear h
  go_enter Tryd.func3, Tryd.ntmps3
  go_wp2_with (go_at_call 4; (with_reducible refine (laws_vBig.calls A0 c0 l0 true _ (Kd.C_below HR.out HB.out) HC.out A1.out).mono ?_); rintro e w0_ ⟨rfl, hd_⟩; have hb := hd_.below; clear hd_; replace HB := am (below_step HB.out hb); clear hb)
  go_ret
  exact ⟨rfl, HB.out⟩
 | false =>
  rw [if_neg (show ¬ (false = true) by decide)] at h
  obtain ⟨⟨rs, rr, rl, gl, dd, pl⟩, a2, h0⟩ := Option.bind_eq_some_iff.mp h
  clear h; have h := h0; clear h0
  have A2 := am a2; clear a2
  obtain ⟨⟨zs, zr, zl, ok⟩, a3, h0⟩ := Option.bind_eq_some_iff.mp h
  clear h; have h := h0; clear h0
  have A3 := am a3; clear a3
  obtain ⟨⟨ws, wr, wl, ok'⟩, a4, h0⟩ := Option.bind_eq_some_iff.mp h
  clear h; have h := h0; clear h0
  have A4 := am a4; clear a4
  obtain ⟨⟨iz, fi⟩, a5, h0⟩ := Option.bind_eq_some_iff.mp h
  clear h; have h := h0; clear h0
  have A5 := am a5; clear a5
  obtain ⟨⟨iz', fi'⟩, a6, h0⟩ := Option.bind_eq_some_iff.mp h
  clear h; have h := h0; clear h0
  have A6 := am a6; clear a6
  obtain ⟨lc, a7, h0⟩ := Option.bind_eq_some_iff.mp h
  clear h; have h := h0; clear h0
  have A7 := am a7; clear a7
  obtain ⟨⟨us, ur, ul, sl, ap⟩, a8, h0⟩ := Option.bind_eq_some_iff.mp h
  clear h; have h := h0; clear h0
  have A8 := am a8; clear a8
  obtain ⟨⟨nm, th⟩, a9, h0⟩ := Option.bind_eq_some_iff.mp h
  clear h; have h := h0; clear h0
  have A9 := am a9; clear a9
  obtain ⟨⟨nm', th'⟩, a10, h0⟩ := Option.bind_eq_some_iff.mp h
  clear h; have h := h0; clear h0
  have A10 := am a10; clear a10
  obtain ⟨⟨fl, one⟩, a11, h0⟩ := Option.bind_eq_some_iff.mp h
  clear h; have h := h0; clear h0
  have A11 := am a11; clear a11
  obtain ⟨⟨fl', one'⟩, a12, h0⟩ := Option.bind_eq_some_iff.mp h
  clear h; have h := h0; clear h0
  have A12 := am a12; clear a12
  simp only at h
  by_cases cc : ok = ok' ∧ (iz, fi) = (iz', fi') ∧ (nm, th) = (nm', th') ∧ one = one' ∧ ok = (fi && iz) ∧ one = (th && decide (0 < nm))
  rotate_left
  ·rw [if_neg cc] at h; cases h
  rw [if_pos cc] at h
  simp only [Prod.mk.injEq] at cc
  obtain ⟨rfl, ⟨rfl, rfl⟩, ⟨rfl, rfl⟩, rfl, co, cp⟩ := cc
  have CO := am co
  have CP := am cp
  clear co cp
  obtain ⟨e1, a13, h0⟩ := Option.bind_eq_some_iff.mp h
  clear h; have h := h0; clear h0
  have A13 := am a13; clear a13
  obtain ⟨e2, a14, h0⟩ := Option.bind_eq_some_iff.mp h
  clear h; have h := h0; clear h0
  have A14 := am a14; clear a14
  by_cases ce : e1 = true ∧ e2 = true
  rotate_left
  ·rw [if_neg ce] at h; cases h
  rw [if_pos ce] at h
  obtain ⟨rfl, rfl⟩ := ce
  have HH := am h
  clear h
  go_enter Tryd.func3, Tryd.ntmps3
  go_upto_region 3 with (go_at_call 4; (with_reducible refine (laws_vBig.calls A0 c0 l0 false _ (Kd.C_below HR.out HB.out) HC.out A1.out).mono ?_); rintro e w0_ ⟨rfl, hd_⟩; have hb := hd_.below; clear hd_; replace HB := am (below_step HB.out hb); clear hb)
  go_upto_region 4 with (first | (go_at_call 5; (with_reducible refine (spec_DrawPlaceRow.calls k A0 c0 l0 rs rr rl gl dd pl _ (Kd.C_below HR.out HB.out) HC.out A2.out).mono ?_); rintro e w1_ ⟨v2_, v3_, v5_, rfl, hV, hR, hV5, hb⟩; obtain ⟨Ar, cr, e_⟩ := Kd.V_slice hV; subst e_; obtain ⟨_, hcr_, hCr_⟩ := Kd.V_reads' hV; obtain ⟨Ag, cg, e_, hcg_, hCg_⟩ := Kd.R_reads hR; subst e_; obtain ⟨Ap, cp, e_⟩ := Kd.V_slice hV5; subst e_; obtain ⟨_, hcp_, hCp_⟩ := Kd.V_reads' hV5; replace HB := am (below_step HB.out hb); clear hb; have Fr := am hCr_; have Lr := am hcr_; have Fg := am hCg_; have Lg := am hcg_; have Fp := am hCp_; have Lp := am hcp_; clear hV hCr_ hcr_ hR hCg_ hcg_ hV5 hCp_ hcp_) | ((with_reducible refine gate_dst (N := 3) rfl ?_); refine box_event ?hg (N := 3) ?hd (cs := #[.int .i64 0, .bool false, .slice none 0 0]) (t := 26) ?hr ?_; (case hd => rfl); (case hg => rfl); (case hr => first | (go_simp; done) | (go_simp; rfl)); intro gr hg_ w2_ hbox hb; have z_0 : w2_.cell? ⟨gr, 0, none⟩ = some (.int .i64 0) := (blk_cell hbox 0).trans rfl; have f_0 := blk_frozen hbox 0; have z_1 : w2_.cell? ⟨gr, 1, none⟩ = some (.bool false) := (blk_cell hbox 1).trans rfl; have f_1 := blk_frozen hbox 1; have z_2 : w2_.cell? ⟨gr, 2, none⟩ = some (.slice none 0 0) := (blk_cell hbox 2).trans rfl; have f_2 := blk_frozen hbox 2; have BX := am hbox; have HX := am hb; have GX := am hg_; clear hbox hb hg_))
  obtain ⟨w3_, e_, hbox, hb⟩ := pol_box BX.out HX.out (Nat.le_of_eq GX.out.symm) (.int .i64 rs) (.bool rr) (.slice Ar rl.length cr)
  rw [e_]
  clear e_ z_0 z_1 z_2 f_0 f_1 f_2 BX HX GX
  replace HB := am (below_step HB.out hb)
  replace Fr := am (Kd.C_below Fr.out hb)
  replace Fg := am (Kd.C_below Fg.out hb)
  replace Fp := am (Kd.C_below Fp.out hb)
  clear hb
  have BKr := am hbox
  clear hbox
  (try clear qBKr_0 qBKr_1 qBKr_2)
  obtain ⟨qBKr_0, qBKr_1, qBKr_2⟩ := pol_cells BKr.out
  go_upto_region 5 with (first | (go_at_call 6; (with_reducible refine (impl_PlaceRow.calls k rs rr Ar cr rl Ag cg gl dd Ap cp pl zs zr zl ok _ Fr.out Lr.out Fg.out Lg.out Fp.out Lp.out (HT.out.below HB.out) A3.out).mono ?_); rintro e w4_ ⟨v_, rfl, hR, hb⟩; obtain ⟨Az, cz, e_, hc_, hC_⟩ := Kd.R_reads hR; subst e_; replace HB := am (below_step HB.out hb); replace Fr := am (Kd.C_below Fr.out hb); replace Fg := am (Kd.C_below Fg.out hb); replace Fp := am (Kd.C_below Fp.out hb); replace BKr := am (blk_below BKr.out hb); clear hb; have Fz := am hC_; have Lz := am hc_; clear hR hC_ hc_; (try clear qBKr_0 qBKr_1 qBKr_2); obtain ⟨qBKr_0, qBKr_1, qBKr_2⟩ := pol_cells BKr.out) | ((with_reducible refine gate_dst (N := 7) rfl ?_); refine box_event ?hg (N := 7) ?hd (cs := #[.int .i64 0, .bool false, .slice none 0 0]) (t := 26) ?hr ?_; (case hd => rfl); (case hg => rfl); (case hr => first | (go_simp; done) | (go_simp; rfl)); intro gz hg_ w5_ hbox hb; have z_0 : w5_.cell? ⟨gz, 0, none⟩ = some (.int .i64 0) := (blk_cell hbox 0).trans rfl; have f_0 := blk_frozen hbox 0; have z_1 : w5_.cell? ⟨gz, 1, none⟩ = some (.bool false) := (blk_cell hbox 1).trans rfl; have f_1 := blk_frozen hbox 1; have z_2 : w5_.cell? ⟨gz, 2, none⟩ = some (.slice none 0 0) := (blk_cell hbox 2).trans rfl; have f_2 := blk_frozen hbox 2; have BX := am hbox; have HX := am hb; have GX := am hg_; clear hbox hb hg_))
  obtain ⟨w6_, e_, hbox, hb⟩ := pol_box BX.out HX.out (Nat.le_of_eq GX.out.symm) (.int .i64 zs) (.bool zr) (.slice Az zl.length cz)
  rw [e_]
  clear e_ z_0 z_1 z_2 f_0 f_1 f_2 BX HX GX
  replace HB := am (below_step HB.out hb)
  replace Fr := am (Kd.C_below Fr.out hb)
  replace Fg := am (Kd.C_below Fg.out hb)
  replace Fp := am (Kd.C_below Fp.out hb)
  replace Fz := am (Kd.C_below Fz.out hb)
  replace BKr := am (blk_below BKr.out hb)
  clear hb
  have BKz := am hbox
  clear hbox
  (try clear qBKr_0 qBKr_1 qBKr_2)
  obtain ⟨qBKr_0, qBKr_1, qBKr_2⟩ := pol_cells BKr.out
  (try clear qBKz_0 qBKz_1 qBKz_2)
  obtain ⟨qBKz_0, qBKz_1, qBKz_2⟩ := pol_cells BKz.out
  go_upto_region 6 with (first | (go_at_call 7; (with_reducible refine (spec_PlaceRow.calls k rs rr Ar cr rl Ag cg gl dd Ap cp pl ws wr wl ok _ Fr.out Lr.out Fg.out Lg.out Fp.out Lp.out A4.out).mono ?_); rintro e w7_ ⟨v_, rfl, hR, hb⟩; obtain ⟨Aw, cw, e_⟩ := Kd.V_slice hR; subst e_; obtain ⟨_, hc_, hC_⟩ := Kd.V_reads' hR; replace HB := am (below_step HB.out hb); replace Fr := am (Kd.C_below Fr.out hb); replace Fg := am (Kd.C_below Fg.out hb); replace Fp := am (Kd.C_below Fp.out hb); replace Fz := am (Kd.C_below Fz.out hb); replace BKr := am (blk_below BKr.out hb); replace BKz := am (blk_below BKz.out hb); clear hb; have Fw := am hC_; have Lw := am hc_; clear hR hC_ hc_; (try clear qBKr_0 qBKr_1 qBKr_2); obtain ⟨qBKr_0, qBKr_1, qBKr_2⟩ := pol_cells BKr.out; (try clear qBKz_0 qBKz_1 qBKz_2); obtain ⟨qBKz_0, qBKz_1, qBKz_2⟩ := pol_cells BKz.out) | ((with_reducible refine gate_dst (N := 9) rfl ?_); refine box_event ?hg (N := 9) ?hd (cs := #[.int .i64 0, .bool false, .slice none 0 0]) (t := 26) ?hr ?_; (case hd => rfl); (case hg => rfl); (case hr => first | (go_simp; done) | (go_simp; rfl)); intro gw hg_ w8_ hbox hb; have z_0 : w8_.cell? ⟨gw, 0, none⟩ = some (.int .i64 0) := (blk_cell hbox 0).trans rfl; have f_0 := blk_frozen hbox 0; have z_1 : w8_.cell? ⟨gw, 1, none⟩ = some (.bool false) := (blk_cell hbox 1).trans rfl; have f_1 := blk_frozen hbox 1; have z_2 : w8_.cell? ⟨gw, 2, none⟩ = some (.slice none 0 0) := (blk_cell hbox 2).trans rfl; have f_2 := blk_frozen hbox 2; have BX := am hbox; have HX := am hb; have GX := am hg_; clear hbox hb hg_))
  obtain ⟨w9_, e_, hbox, hb⟩ := pol_box BX.out HX.out (Nat.le_of_eq GX.out.symm) (.int .i64 ws) (.bool wr) (.slice Aw wl.length cw)
  rw [e_]
  clear e_ z_0 z_1 z_2 f_0 f_1 f_2 BX HX GX
  replace HB := am (below_step HB.out hb)
  replace Fr := am (Kd.C_below Fr.out hb)
  replace Fg := am (Kd.C_below Fg.out hb)
  replace Fp := am (Kd.C_below Fp.out hb)
  replace Fz := am (Kd.C_below Fz.out hb)
  replace Fw := am (Kd.C_below Fw.out hb)
  replace BKr := am (blk_below BKr.out hb)
  replace BKz := am (blk_below BKz.out hb)
  clear hb
  have BKw := am hbox
  clear hbox
  (try clear qBKr_0 qBKr_1 qBKr_2)
  obtain ⟨qBKr_0, qBKr_1, qBKr_2⟩ := pol_cells BKr.out
  (try clear qBKz_0 qBKz_1 qBKz_2)
  obtain ⟨qBKz_0, qBKz_1, qBKz_2⟩ := pol_cells BKz.out
  (try clear qBKw_0 qBKw_1 qBKw_2)
  obtain ⟨qBKw_0, qBKw_1, qBKw_2⟩ := pol_cells BKw.out
  go_upto_region 7 with (go_at_call 8; (with_reducible refine (impl_IsPlacing.calls k rs rr Ar cr rl Ag cg gl dd Ap cp pl iz fi _ Fr.out Lr.out Fg.out Lg.out Fp.out Lp.out A5.out).mono ?_); rintro e w10_ ⟨rfl, hb⟩; replace HB := am (below_step HB.out hb); replace Fr := am (Kd.C_below Fr.out hb); replace Fg := am (Kd.C_below Fg.out hb); replace Fp := am (Kd.C_below Fp.out hb); replace Fz := am (Kd.C_below Fz.out hb); replace Fw := am (Kd.C_below Fw.out hb); replace BKr := am (blk_below BKr.out hb); replace BKz := am (blk_below BKz.out hb); replace BKw := am (blk_below BKw.out hb); clear hb; (try clear qBKr_0 qBKr_1 qBKr_2); obtain ⟨qBKr_0, qBKr_1, qBKr_2⟩ := pol_cells BKr.out; (try clear qBKz_0 qBKz_1 qBKz_2); obtain ⟨qBKz_0, qBKz_1, qBKz_2⟩ := pol_cells BKz.out; (try clear qBKw_0 qBKw_1 qBKw_2); obtain ⟨qBKw_0, qBKw_1, qBKw_2⟩ := pol_cells BKw.out)
  go_upto_region 8 with (go_at_call 9; (with_reducible refine (spec_IsPlacing.calls k rs rr Ar cr rl Ag cg gl dd Ap cp pl iz fi _ Fr.out Lr.out Fg.out Lg.out Fp.out Lp.out A6.out).mono ?_); rintro e w11_ ⟨rfl, hb⟩; replace HB := am (below_step HB.out hb); replace Fr := am (Kd.C_below Fr.out hb); replace Fg := am (Kd.C_below Fg.out hb); replace Fp := am (Kd.C_below Fp.out hb); replace Fz := am (Kd.C_below Fz.out hb); replace Fw := am (Kd.C_below Fw.out hb); replace BKr := am (blk_below BKr.out hb); replace BKz := am (blk_below BKz.out hb); replace BKw := am (blk_below BKw.out hb); clear hb; (try clear qBKr_0 qBKr_1 qBKr_2); obtain ⟨qBKr_0, qBKr_1, qBKr_2⟩ := pol_cells BKr.out; (try clear qBKz_0 qBKz_1 qBKz_2); obtain ⟨qBKz_0, qBKz_1, qBKz_2⟩ := pol_cells BKz.out; (try clear qBKw_0 qBKw_1 qBKw_2); obtain ⟨qBKw_0, qBKw_1, qBKw_2⟩ := pol_cells BKw.out)
  go_upto_region 9 with (first | (go_at_call 11; (with_reducible refine (laws_vCut.calls A0 c0 l0 1 lc _ (Kd.C_below HR.out HB.out) HC.out A7.out).mono ?_); rintro e w12_ ⟨v_, rfl, hR, hb⟩; obtain ⟨Ac, cc, e_, hc_, hC_⟩ := Kd.R_reads hR; subst e_; replace HB := am (below_step HB.out hb); replace Fr := am (Kd.C_below Fr.out hb); replace Fg := am (Kd.C_below Fg.out hb); replace Fp := am (Kd.C_below Fp.out hb); replace Fz := am (Kd.C_below Fz.out hb); replace Fw := am (Kd.C_below Fw.out hb); replace BKr := am (blk_below BKr.out hb); replace BKz := am (blk_below BKz.out hb); replace BKw := am (blk_below BKw.out hb); clear hb; have Fc := am hC_; have Lc := am hc_; clear hR hC_ hc_; (try clear qBKr_0 qBKr_1 qBKr_2); obtain ⟨qBKr_0, qBKr_1, qBKr_2⟩ := pol_cells BKr.out; (try clear qBKz_0 qBKz_1 qBKz_2); obtain ⟨qBKz_0, qBKz_1, qBKz_2⟩ := pol_cells BKz.out; (try clear qBKw_0 qBKw_1 qBKw_2); obtain ⟨qBKw_0, qBKw_1, qBKw_2⟩ := pol_cells BKw.out) | (go_at_call 10; (with_reducible refine (spec_DrawCountPlacings.calls k Ac cc lc us ur ul sl ap _ Fc.out Lc.out A8.out).mono ?_); rintro e w13_ ⟨v2_, v3_, rfl, hV, hR, hb⟩; obtain ⟨Au, cu, e_⟩ := Kd.V_slice hV; subst e_; obtain ⟨_, hcu_, hCu_⟩ := Kd.V_reads' hV; obtain ⟨As, cs, e_, hcs_, hCs_⟩ := Kd.R_reads hR; subst e_; replace HB := am (below_step HB.out hb); replace Fr := am (Kd.C_below Fr.out hb); replace Fg := am (Kd.C_below Fg.out hb); replace Fp := am (Kd.C_below Fp.out hb); replace Fz := am (Kd.C_below Fz.out hb); replace Fw := am (Kd.C_below Fw.out hb); replace Fc := am (Kd.C_below Fc.out hb); replace BKr := am (blk_below BKr.out hb); replace BKz := am (blk_below BKz.out hb); replace BKw := am (blk_below BKw.out hb); clear hb; have Fu := am hCu_; have Lu := am hcu_; have Fs := am hCs_; have Ls := am hcs_; clear hV hCu_ hcu_ hR hCs_ hcs_; (try clear qBKr_0 qBKr_1 qBKr_2); obtain ⟨qBKr_0, qBKr_1, qBKr_2⟩ := pol_cells BKr.out; (try clear qBKz_0 qBKz_1 qBKz_2); obtain ⟨qBKz_0, qBKz_1, qBKz_2⟩ := pol_cells BKz.out; (try clear qBKw_0 qBKw_1 qBKw_2); obtain ⟨qBKw_0, qBKw_1, qBKw_2⟩ := pol_cells BKw.out) | ((with_reducible refine gate_dst (N := 15) rfl ?_); refine box_event ?hg (N := 15) ?hd (cs := #[.int .i64 0, .bool false, .slice none 0 0]) (t := 26) ?hr ?_; (case hd => rfl); (case hg => rfl); (case hr => first | (go_simp; done) | (go_simp; rfl)); intro gu hg_ w14_ hbox hb; have z_0 : w14_.cell? ⟨gu, 0, none⟩ = some (.int .i64 0) := (blk_cell hbox 0).trans rfl; have f_0 := blk_frozen hbox 0; have z_1 : w14_.cell? ⟨gu, 1, none⟩ = some (.bool false) := (blk_cell hbox 1).trans rfl; have f_1 := blk_frozen hbox 1; have z_2 : w14_.cell? ⟨gu, 2, none⟩ = some (.slice none 0 0) := (blk_cell hbox 2).trans rfl; have f_2 := blk_frozen hbox 2; have BX := am hbox; have HX := am hb; have GX := am hg_; clear hbox hb hg_))
  obtain ⟨w15_, e_, hbox, hb⟩ := pol_box BX.out HX.out (Nat.le_of_eq GX.out.symm) (.int .i64 us) (.bool ur) (.slice Au ul.length cu)
  rw [e_]
  clear e_ z_0 z_1 z_2 f_0 f_1 f_2 BX HX GX
  replace HB := am (below_step HB.out hb)
  replace Fr := am (Kd.C_below Fr.out hb)
  replace Fg := am (Kd.C_below Fg.out hb)
  replace Fp := am (Kd.C_below Fp.out hb)
  replace Fz := am (Kd.C_below Fz.out hb)
  replace Fw := am (Kd.C_below Fw.out hb)
  replace Fc := am (Kd.C_below Fc.out hb)
  replace Fu := am (Kd.C_below Fu.out hb)
  replace Fs := am (Kd.C_below Fs.out hb)
  replace BKr := am (blk_below BKr.out hb)
  replace BKz := am (blk_below BKz.out hb)
  replace BKw := am (blk_below BKw.out hb)
  clear hb
  have BKu := am hbox
  clear hbox
  (try clear qBKr_0 qBKr_1 qBKr_2)
  obtain ⟨qBKr_0, qBKr_1, qBKr_2⟩ := pol_cells BKr.out
  (try clear qBKz_0 qBKz_1 qBKz_2)
  obtain ⟨qBKz_0, qBKz_1, qBKz_2⟩ := pol_cells BKz.out
  (try clear qBKw_0 qBKw_1 qBKw_2)
  obtain ⟨qBKw_0, qBKw_1, qBKw_2⟩ := pol_cells BKw.out
  (try clear qBKu_0 qBKu_1 qBKu_2)
  obtain ⟨qBKu_0, qBKu_1, qBKu_2⟩ := pol_cells BKu.out
  go_upto_region 10 with (go_at_call 12; (with_reducible refine (impl_CountPlacings.calls k us ur Au cu ul As cs sl ap nm th _ Fu.out Lu.out Fs.out Ls.out A9.out).mono ?_); rintro e w16_ ⟨rfl, hb⟩; replace HB := am (below_step HB.out hb); replace Fr := am (Kd.C_below Fr.out hb); replace Fg := am (Kd.C_below Fg.out hb); replace Fp := am (Kd.C_below Fp.out hb); replace Fz := am (Kd.C_below Fz.out hb); replace Fw := am (Kd.C_below Fw.out hb); replace Fc := am (Kd.C_below Fc.out hb); replace Fu := am (Kd.C_below Fu.out hb); replace Fs := am (Kd.C_below Fs.out hb); replace BKr := am (blk_below BKr.out hb); replace BKz := am (blk_below BKz.out hb); replace BKw := am (blk_below BKw.out hb); replace BKu := am (blk_below BKu.out hb); clear hb; (try clear qBKr_0 qBKr_1 qBKr_2); obtain ⟨qBKr_0, qBKr_1, qBKr_2⟩ := pol_cells BKr.out; (try clear qBKz_0 qBKz_1 qBKz_2); obtain ⟨qBKz_0, qBKz_1, qBKz_2⟩ := pol_cells BKz.out; (try clear qBKw_0 qBKw_1 qBKw_2); obtain ⟨qBKw_0, qBKw_1, qBKw_2⟩ := pol_cells BKw.out; (try clear qBKu_0 qBKu_1 qBKu_2); obtain ⟨qBKu_0, qBKu_1, qBKu_2⟩ := pol_cells BKu.out)
  go_upto_region 11 with (go_at_call 13; (with_reducible refine (spec_CountPlacings.calls k us ur Au cu ul As cs sl ap nm th _ Fu.out Lu.out Fs.out Ls.out A10.out).mono ?_); rintro e w17_ ⟨rfl, hb⟩; replace HB := am (below_step HB.out hb); replace Fr := am (Kd.C_below Fr.out hb); replace Fg := am (Kd.C_below Fg.out hb); replace Fp := am (Kd.C_below Fp.out hb); replace Fz := am (Kd.C_below Fz.out hb); replace Fw := am (Kd.C_below Fw.out hb); replace Fc := am (Kd.C_below Fc.out hb); replace Fu := am (Kd.C_below Fu.out hb); replace Fs := am (Kd.C_below Fs.out hb); replace BKr := am (blk_below BKr.out hb); replace BKz := am (blk_below BKz.out hb); replace BKw := am (blk_below BKw.out hb); replace BKu := am (blk_below BKu.out hb); clear hb; (try clear qBKr_0 qBKr_1 qBKr_2); obtain ⟨qBKr_0, qBKr_1, qBKr_2⟩ := pol_cells BKr.out; (try clear qBKz_0 qBKz_1 qBKz_2); obtain ⟨qBKz_0, qBKz_1, qBKz_2⟩ := pol_cells BKz.out; (try clear qBKw_0 qBKw_1 qBKw_2); obtain ⟨qBKw_0, qBKw_1, qBKw_2⟩ := pol_cells BKw.out; (try clear qBKu_0 qBKu_1 qBKu_2); obtain ⟨qBKu_0, qBKu_1, qBKu_2⟩ := pol_cells BKu.out)
  go_upto_region 12 with (go_at_call 14; (with_reducible refine (impl_FirstPlacing.calls k us ur Au cu ul As cs sl ap fl one _ Fu.out Lu.out Fs.out Ls.out A11.out).mono ?_); rintro e w18_ ⟨v_, rfl, hR, hb⟩; obtain ⟨Af, cf, e_, hc_, hC_⟩ := Kd.R_reads hR; subst e_; replace HB := am (below_step HB.out hb); replace Fr := am (Kd.C_below Fr.out hb); replace Fg := am (Kd.C_below Fg.out hb); replace Fp := am (Kd.C_below Fp.out hb); replace Fz := am (Kd.C_below Fz.out hb); replace Fw := am (Kd.C_below Fw.out hb); replace Fc := am (Kd.C_below Fc.out hb); replace Fu := am (Kd.C_below Fu.out hb); replace Fs := am (Kd.C_below Fs.out hb); replace BKr := am (blk_below BKr.out hb); replace BKz := am (blk_below BKz.out hb); replace BKw := am (blk_below BKw.out hb); replace BKu := am (blk_below BKu.out hb); clear hb; have Ff := am hC_; have Lf := am hc_; clear hR hC_ hc_; (try clear qBKr_0 qBKr_1 qBKr_2); obtain ⟨qBKr_0, qBKr_1, qBKr_2⟩ := pol_cells BKr.out; (try clear qBKz_0 qBKz_1 qBKz_2); obtain ⟨qBKz_0, qBKz_1, qBKz_2⟩ := pol_cells BKz.out; (try clear qBKw_0 qBKw_1 qBKw_2); obtain ⟨qBKw_0, qBKw_1, qBKw_2⟩ := pol_cells BKw.out; (try clear qBKu_0 qBKu_1 qBKu_2); obtain ⟨qBKu_0, qBKu_1, qBKu_2⟩ := pol_cells BKu.out)
  go_upto_region 13 with (go_at_call 15; (with_reducible refine (spec_FirstPlacing.calls k us ur Au cu ul As cs sl ap fl' one _ Fu.out Lu.out Fs.out Ls.out A12.out).mono ?_); rintro e w19_ ⟨v_, rfl, hR, hb⟩; obtain ⟨Ah, ch, e_⟩ := Kd.V_slice hR; subst e_; obtain ⟨_, hc_, hC_⟩ := Kd.V_reads' hR; replace HB := am (below_step HB.out hb); replace Fr := am (Kd.C_below Fr.out hb); replace Fg := am (Kd.C_below Fg.out hb); replace Fp := am (Kd.C_below Fp.out hb); replace Fz := am (Kd.C_below Fz.out hb); replace Fw := am (Kd.C_below Fw.out hb); replace Fc := am (Kd.C_below Fc.out hb); replace Fu := am (Kd.C_below Fu.out hb); replace Fs := am (Kd.C_below Fs.out hb); replace Ff := am (Kd.C_below Ff.out hb); replace BKr := am (blk_below BKr.out hb); replace BKz := am (blk_below BKz.out hb); replace BKw := am (blk_below BKw.out hb); replace BKu := am (blk_below BKu.out hb); clear hb; have Fh := am hC_; have Lh := am hc_; clear hR hC_ hc_; (try clear qBKr_0 qBKr_1 qBKr_2); obtain ⟨qBKr_0, qBKr_1, qBKr_2⟩ := pol_cells BKr.out; (try clear qBKz_0 qBKz_1 qBKz_2); obtain ⟨qBKz_0, qBKz_1, qBKz_2⟩ := pol_cells BKz.out; (try clear qBKw_0 qBKw_1 qBKw_2); obtain ⟨qBKw_0, qBKw_1, qBKw_2⟩ := pol_cells BKw.out; (try clear qBKu_0 qBKu_1 qBKu_2); obtain ⟨qBKu_0, qBKu_1, qBKu_2⟩ := pol_cells BKu.out)
  go_cut [166] (fun v166 wc => v166 = .bool false ∧ Aside0 (Below w.heap.size w wc) ∧ Aside0 (Kd.C (Kd.int .i64) wc Ar rl.length rl) ∧ Aside0 (Kd.C (Kd.int .i64) wc Ag gl.length gl) ∧ Aside0 (Kd.C (Kd.int .i64) wc Ap pl.length pl) ∧ Aside0 (Kd.C (Kd.int .i64) wc Az zl.length zl) ∧ Aside0 (Kd.C (Kd.int .i64) wc Au ul.length ul) ∧ Aside0 (Kd.C (Kd.int .i64) wc As sl.length sl) ∧ Aside0 (Kd.C (Kd.int .i64) wc Af fl.length fl) ∧ Aside0 (wc.heap[gr]? = some (.cells #[.int .i64 rs, .bool rr, .slice Ar rl.length cr] 26 (0, 0))) ∧ Aside0 (wc.heap[gz]? = some (.cells #[.int .i64 zs, .bool zr, .slice Az zl.length cz] 26 (0, 0))) ∧ Aside0 (wc.heap[gu]? = some (.cells #[.int .i64 us, .bool ur, .slice Au ul.length cu] 26 (0, 0))))
  case first =>
   as_aux_lemma =>
    have co := CO.out
    have cp := CP.out
    clear CO CP HH Fc
    obtain ⟨pm, cmb⟩ : ∃ b, decide (0 < nm) = b := ⟨_, rfl⟩
    rw [cmb] at cp
    cases fi <;> cases iz <;> cases th <;> cases pm <;> simp only [Bool.and_true, Bool.and_false] at co cp <;> subst co <;> subst cp
    all_goals (as_aux_lemma => (go_wp2_with (first | (go_at_call 16; (with_reducible refine (laws_vRow.calls k zs zr Az cz zl ws wr Aw cw wl true _ Fz.out Lz.out Fw.out Lw.out A13.out).mono ?_); rintro e w20_ ⟨rfl, hb⟩; replace HB := am (below_step HB.out hb); replace Fr := am (Kd.C_below Fr.out hb); replace Fg := am (Kd.C_below Fg.out hb); replace Fp := am (Kd.C_below Fp.out hb); replace Fz := am (Kd.C_below Fz.out hb); replace Fu := am (Kd.C_below Fu.out hb); replace Fs := am (Kd.C_below Fs.out hb); replace Ff := am (Kd.C_below Ff.out hb); replace Fw := am (Kd.C_below Fw.out hb); replace Fh := am (Kd.C_below Fh.out hb); replace BKr := am (blk_below BKr.out hb); replace BKz := am (blk_below BKz.out hb); replace BKw := am (blk_below BKw.out hb); replace BKu := am (blk_below BKu.out hb); clear hb; (try clear qBKr_0 qBKr_1 qBKr_2); obtain ⟨qBKr_0, qBKr_1, qBKr_2⟩ := pol_cells BKr.out; (try clear qBKz_0 qBKz_1 qBKz_2); obtain ⟨qBKz_0, qBKz_1, qBKz_2⟩ := pol_cells BKz.out; (try clear qBKw_0 qBKw_1 qBKw_2); obtain ⟨qBKw_0, qBKw_1, qBKw_2⟩ := pol_cells BKw.out; (try clear qBKu_0 qBKu_1 qBKu_2); obtain ⟨qBKu_0, qBKu_1, qBKu_2⟩ := pol_cells BKu.out) | (go_at_call 17; (with_reducible refine (laws_vInts.calls k Af cf fl Ah ch fl' true _ Ff.out Lf.out Fh.out Lh.out A14.out).mono ?_); rintro e w21_ ⟨rfl, hd_⟩; have hb := hd_.below; clear hd_; replace HB := am (below_step HB.out hb); replace Fr := am (Kd.C_below Fr.out hb); replace Fg := am (Kd.C_below Fg.out hb); replace Fp := am (Kd.C_below Fp.out hb); replace Fz := am (Kd.C_below Fz.out hb); replace Fu := am (Kd.C_below Fu.out hb); replace Fs := am (Kd.C_below Fs.out hb); replace Ff := am (Kd.C_below Ff.out hb); replace Fw := am (Kd.C_below Fw.out hb); replace Fh := am (Kd.C_below Fh.out hb); replace BKr := am (blk_below BKr.out hb); replace BKz := am (blk_below BKz.out hb); replace BKw := am (blk_below BKw.out hb); replace BKu := am (blk_below BKu.out hb); clear hb; (try clear qBKr_0 qBKr_1 qBKr_2); obtain ⟨qBKr_0, qBKr_1, qBKr_2⟩ := pol_cells BKr.out; (try clear qBKz_0 qBKz_1 qBKz_2); obtain ⟨qBKz_0, qBKz_1, qBKz_2⟩ := pol_cells BKz.out; (try clear qBKw_0 qBKw_1 qBKw_2); obtain ⟨qBKw_0, qBKw_1, qBKw_2⟩ := pol_cells BKw.out; (try clear qBKu_0 qBKu_1 qBKu_2); obtain ⟨qBKu_0, qBKu_1, qBKu_2⟩ := pol_cells BKu.out))); go_meet; (case rel => exact ⟨by first | rfl | (simp; done) | (simp [*]; done), HB, Fr, Fg, Fp, Fz, Fu, Fs, Ff, BKr, BKz, BKu⟩))
  case rest =>
   as_aux_lemma =>
    clear HB Fr Fg Fp Fz Fw Fc Fu Fs Ff Fh BKr BKz BKw BKu CO CP A2 A3 A4 A5 A6 A7 A8 A9 A10 A11 A12 A13 A14
    obtain ⟨rfl, HB, Fr, Fg, Fp, Fz, Fu, Fs, Ff, BKr, BKz, BKu⟩ := hcut
    have qBKr_0 : wc.cell? ⟨gr, 0, none⟩ = some (.int .i64 rs) := (blk_cell BKr.out 0).trans rfl
    have qBKr_1 : wc.cell? ⟨gr, 1, none⟩ = some (.bool rr) := (blk_cell BKr.out 1).trans rfl
    have qBKr_2 : wc.cell? ⟨gr, 2, none⟩ = some (.slice Ar rl.length cr) := (blk_cell BKr.out 2).trans rfl
    have qBKz_0 : wc.cell? ⟨gz, 0, none⟩ = some (.int .i64 zs) := (blk_cell BKz.out 0).trans rfl
    have qBKz_1 : wc.cell? ⟨gz, 1, none⟩ = some (.bool zr) := (blk_cell BKz.out 1).trans rfl
    have qBKz_2 : wc.cell? ⟨gz, 2, none⟩ = some (.slice Az zl.length cz) := (blk_cell BKz.out 2).trans rfl
    have qBKu_0 : wc.cell? ⟨gu, 0, none⟩ = some (.int .i64 us) := (blk_cell BKu.out 0).trans rfl
    have qBKu_1 : wc.cell? ⟨gu, 1, none⟩ = some (.bool ur) := (blk_cell BKu.out 1).trans rfl
    have qBKu_2 : wc.cell? ⟨gu, 2, none⟩ = some (.slice Au ul.length cu) := (blk_cell BKu.out 2).trans rfl
    have H := HH.out
    clear HH
    replace H := Option.bind_eq_some_iff.mp H
    obtain ⟨x0, b1, H0⟩ := H
    have H := H0
    clear H0
    have B1 := am b1
    clear b1
    have HH := am H
    clear H
    go_upto_if 167 with (fail)
    go_cut [26] (fun v26 wc2 => Aside0 (Below w.heap.size w wc2) ∧ Aside0 (Kd.C (Kd.int .i64) wc2 Ar rl.length rl) ∧ Aside0 (Kd.C (Kd.int .i64) wc2 Ag gl.length gl) ∧ Aside0 (Kd.C (Kd.int .i64) wc2 Ap pl.length pl) ∧ Aside0 (Kd.C (Kd.int .i64) wc2 Az zl.length zl) ∧ Aside0 (wc2.heap[gr]? = some (.cells #[.int .i64 rs, .bool rr, .slice Ar rl.length cr] 26 (0, 0))) ∧ Aside0 (wc2.heap[gz]? = some (.cells #[.int .i64 zs, .bool zr, .slice Az zl.length cz] 26 (0, 0))))
    case first =>
     as_aux_lemma =>
      have h := B1.out
      clear B1 HH
      unfold laws_FnPlacings.q at h
      cases one with
      | false =>
       go_wp2
       go_meet
       case rel => exact ⟨HB, Fr, Fg, Fp, Fz, BKr, BKz⟩
      | true =>
       rw [if_pos rfl] at h
       obtain ⟨⟨gd, kn⟩, b2, h0⟩ := Option.bind_eq_some_iff.mp h
       clear h; have h := h0; clear h0
       have B2 := am b2; clear b2
       obtain ⟨⟨fs, fr, ful, tko⟩, b3, h0⟩ := Option.bind_eq_some_iff.mp h
       clear h; have h := h0; clear h0
       have B3 := am b3; clear b3
       obtain ⟨sm, b4, h0⟩ := Option.bind_eq_some_iff.mp h
       clear h; have h := h0; clear h0
       have B4 := am b4; clear b4
       simp only at h
       by_cases c3 : (gd, kn) = (true, true) ∧ tko = true ∧ (ful.length : Int) = wrap64 ((ul.length : Int) + sm)
       rotate_left
       ·rw [if_neg c3] at h; cases h
       obtain ⟨c4, rfl, c5⟩ := c3
       obtain ⟨rfl, rfl⟩ := Prod.mk.inj c4
       have c5b : ((ful.length : Int) != wrap64 ((ul.length : Int) + sm)) = false := by simp [c5]
       have C5 := am c5b
       clear h c4 c5 c5b
       go_upto_region 17 with (go_at_call 8; (with_reducible refine (impl_IsPlacing.calls k us ur Au cu ul As cs sl ap Af cf fl true true _ Fu.out Lu.out Fs.out Ls.out Ff.out Lf.out B2.out).mono ?_); rintro e w41_ ⟨rfl, hb⟩; replace HB := am (below_step HB.out hb); replace Fr := am (Kd.C_below Fr.out hb); replace Fg := am (Kd.C_below Fg.out hb); replace Fp := am (Kd.C_below Fp.out hb); replace Fz := am (Kd.C_below Fz.out hb); replace Fu := am (Kd.C_below Fu.out hb); replace Fs := am (Kd.C_below Fs.out hb); replace Ff := am (Kd.C_below Ff.out hb); replace BKr := am (blk_below BKr.out hb); replace BKz := am (blk_below BKz.out hb); replace BKu := am (blk_below BKu.out hb); clear hb; (try clear qBKr_0 qBKr_1 qBKr_2); obtain ⟨qBKr_0, qBKr_1, qBKr_2⟩ := pol_cells BKr.out; (try clear qBKz_0 qBKz_1 qBKz_2); obtain ⟨qBKz_0, qBKz_1, qBKz_2⟩ := pol_cells BKz.out; (try clear qBKu_0 qBKu_1 qBKu_2); obtain ⟨qBKu_0, qBKu_1, qBKu_2⟩ := pol_cells BKu.out)
       go_upto_region 18 with (first | (go_at_call 6; (with_reducible refine (impl_PlaceRow.calls k us ur Au cu ul As cs sl ap Af cf fl fs fr ful true _ Fu.out Lu.out Fs.out Ls.out Ff.out Lf.out (HT.out.below HB.out) B3.out).mono ?_); rintro e w42_ ⟨v_, rfl, hR, hb⟩; obtain ⟨Aq, cq, e_, hc_, hC_⟩ := Kd.R_reads hR; subst e_; replace HB := am (below_step HB.out hb); replace Fr := am (Kd.C_below Fr.out hb); replace Fg := am (Kd.C_below Fg.out hb); replace Fp := am (Kd.C_below Fp.out hb); replace Fz := am (Kd.C_below Fz.out hb); replace Fu := am (Kd.C_below Fu.out hb); replace Fs := am (Kd.C_below Fs.out hb); replace Ff := am (Kd.C_below Ff.out hb); replace BKr := am (blk_below BKr.out hb); replace BKz := am (blk_below BKz.out hb); replace BKu := am (blk_below BKu.out hb); clear hb; have Fq := am hC_; have Lq := am hc_; clear hR hC_ hc_; (try clear qBKr_0 qBKr_1 qBKr_2); obtain ⟨qBKr_0, qBKr_1, qBKr_2⟩ := pol_cells BKr.out; (try clear qBKz_0 qBKz_1 qBKz_2); obtain ⟨qBKz_0, qBKz_1, qBKz_2⟩ := pol_cells BKz.out; (try clear qBKu_0 qBKu_1 qBKu_2); obtain ⟨qBKu_0, qBKu_1, qBKu_2⟩ := pol_cells BKu.out) | ((with_reducible refine gate_dst (N := 28) rfl ?_); refine box_event ?hg (N := 28) ?hd (cs := #[.int .i64 0, .bool false, .slice none 0 0]) (t := 26) ?hr ?_; (case hd => rfl); (case hg => rfl); (case hr => first | (go_simp; done) | (go_simp; rfl)); intro gq hg_ w43_ hbox hb; have z_0 : w43_.cell? ⟨gq, 0, none⟩ = some (.int .i64 0) := (blk_cell hbox 0).trans rfl; have f_0 := blk_frozen hbox 0; have z_1 : w43_.cell? ⟨gq, 1, none⟩ = some (.bool false) := (blk_cell hbox 1).trans rfl; have f_1 := blk_frozen hbox 1; have z_2 : w43_.cell? ⟨gq, 2, none⟩ = some (.slice none 0 0) := (blk_cell hbox 2).trans rfl; have f_2 := blk_frozen hbox 2; have BX := am hbox; have HX := am hb; have GX := am hg_; clear hbox hb hg_))
       obtain ⟨w44_, e_, hbox, hb⟩ := pol_box BX.out HX.out (Nat.le_of_eq GX.out.symm) (.int .i64 fs) (.bool fr) (.slice Aq ful.length cq)
       rw [e_]
       clear e_ z_0 z_1 z_2 f_0 f_1 f_2 BX HX GX
       replace HB := am (below_step HB.out hb)
       replace Fr := am (Kd.C_below Fr.out hb)
       replace Fg := am (Kd.C_below Fg.out hb)
       replace Fp := am (Kd.C_below Fp.out hb)
       replace Fz := am (Kd.C_below Fz.out hb)
       replace Fu := am (Kd.C_below Fu.out hb)
       replace Fs := am (Kd.C_below Fs.out hb)
       replace Ff := am (Kd.C_below Ff.out hb)
       replace Fq := am (Kd.C_below Fq.out hb)
       replace BKr := am (blk_below BKr.out hb)
       replace BKz := am (blk_below BKz.out hb)
       replace BKu := am (blk_below BKu.out hb)
       clear hb
       have BKq := am hbox
       clear hbox
       (try clear qBKr_0 qBKr_1 qBKr_2)
       obtain ⟨qBKr_0, qBKr_1, qBKr_2⟩ := pol_cells BKr.out
       (try clear qBKz_0 qBKz_1 qBKz_2)
       obtain ⟨qBKz_0, qBKz_1, qBKz_2⟩ := pol_cells BKz.out
       (try clear qBKu_0 qBKu_1 qBKu_2)
       obtain ⟨qBKu_0, qBKu_1, qBKu_2⟩ := pol_cells BKu.out
       (try clear qBKq_0 qBKq_1 qBKq_2)
       obtain ⟨qBKq_0, qBKq_1, qBKq_2⟩ := pol_cells BKq.out
       refine start_ (n := 22) (S := fun w' => w'.cell? ⟨gq, 2, none⟩ = some (.slice Aq ful.length cq) ∧ w'.cell? ⟨gu, 2, none⟩ = some (.slice Au ul.length cu)) (ds := []) #[false, false, false, false, false, false, false, false, false, false, false, false, false, false, false, false, false, false, false, false, false, false] (by kernel_rfl) rfl rfl ⟨(blk_cell (blk_drew BKq.out) 2).trans rfl, (blk_cell (blk_drew BKu.out) 2).trans rfl⟩ (fun hHeld => ?_)
       refine with_tabW laws_FnPlacings.tab18 laws_FnPlacings.bits18 (fun HT_ HW_ => ?_)
       clear Fu Ff Fq qBKr_0 qBKr_1 qBKr_2 qBKz_0 qBKz_1 qBKz_2 qBKu_0 qBKu_1 qBKu_2 qBKq_0 qBKq_1 qBKq_2
       replace HB := am (below_step HB.out (below_drew1 (Below.refl _ _)))
       replace Fr := am (Kd.C_below Fr.out (below_drew1 (Below.refl _ _)))
       replace Fg := am (Kd.C_below Fg.out (below_drew1 (Below.refl _ _)))
       replace Fp := am (Kd.C_below Fp.out (below_drew1 (Below.refl _ _)))
       replace Fz := am (Kd.C_below Fz.out (below_drew1 (Below.refl _ _)))
       replace Fs := am (Kd.C_below Fs.out (below_drew1 (Below.refl _ _)))
       replace BKr := am (blk_below BKr.out (below_drew1 (Below.refl _ _)))
       replace BKz := am (blk_below BKz.out (below_drew1 (Below.refl _ _)))
       replace BKu := am (blk_below BKu.out (below_drew1 (Below.refl _ _)))
       replace BKq := am (blk_below BKq.out (below_drew1 (Below.refl _ _)))
       generalize World.drew _ = w18 at HB Fr Fg Fp Fz Fs BKr BKz BKu BKq hHeld ⊢
       refine pi_ (i := 0) (N := some 184) (v := ?_) (a' := ?_) (bm 22 1) rfl rfl HT_ (by kernel_rfl) (fun _ _ _ h => h) (Or.inl ⟨by rfl, ?_⟩) ?_ ?_
       rotate_left
       ·intro w'
        go_simp
        with_reducible rfl
       rotate_left
       ·simp only [Act.put, pp_]
        rfl
       refine pi_ (i := 1) (N := some 185) (v := ?_) (a' := ?_) (bm 22 3) rfl rfl HT_ (by kernel_rfl) (fun _ _ _ h => h) (Or.inl ⟨by rfl, ?_⟩) ?_ ?_
       rotate_left
       ·intro w'
        go_simp
        with_reducible rfl
       rotate_left
       ·simp only [Act.put, pp_]
        rfl
       refine pi_ (i := 2) (N := some 186) (v := ?_) (a' := ?_) (bm 22 7) rfl rfl HT_ (by kernel_rfl) (fun _ _ _ h => h) (Or.inl ⟨by rfl, ?_⟩) ?_ ?_
       rotate_left
       ·intro w'
        go_simp
        with_reducible rfl
       rotate_left
       ·simp only [Act.put, pp_]
        rfl
       refine pi_ (i := 3) (N := some 187) (v := ?_) (a' := ?_) (bm 22 15) rfl rfl HT_ (by kernel_rfl) (fun _ _ _ h => h) (Or.inl ⟨by rfl, ?_⟩) ?_ ?_
       rotate_left
       ·intro w'
        go_simp
        with_reducible rfl
       rotate_left
       ·simp only [Act.put, pp_]
        rfl
       refine pi_ (i := 4) (N := some 188) (v := ?_) (a' := ?_) (bm 22 31) rfl rfl HT_ (by kernel_rfl) (fun _ _ _ h => h) (Or.inl ⟨by rfl, ?_⟩) ?_ ?_
       rotate_left
       ·intro w'
        go_simp
        with_reducible rfl
       rotate_left
       ·simp only [Act.put, pp_]
        rfl
       refine pi_ (i := 5) (N := some 189) (v := ?_) (a' := ?_) (bm 22 63) rfl rfl HT_ (by kernel_rfl) (fun _ _ _ h => h) (Or.inl ⟨by rfl, ?_⟩) ?_ ?_
       rotate_left
       ·intro w'
        go_simp
        with_reducible rfl
       rotate_left
       ·simp only [Act.put, pp_]
        rfl
       refine pi_ (i := 6) (N := some 190) (v := ?_) (a' := ?_) (bm 22 127) rfl rfl HT_ (by kernel_rfl) (fun _ _ _ h => h) (Or.inl ⟨by rfl, ?_⟩) ?_ ?_
       rotate_left
       ·intro w'
        go_simp
        with_reducible rfl
       rotate_left
       ·simp only [Act.put, pp_]
        rfl
       refine pi_ (i := 7) (N := some 191) (v := ?_) (a' := ?_) (bm 22 255) rfl rfl HT_ (by kernel_rfl) (fun _ _ _ h => h) (Or.inl ⟨by rfl, ?_⟩) ?_ ?_
       rotate_left
       ·intro w'
        go_simp
        with_reducible rfl
       rotate_left
       ·simp only [Act.put, pp_]
        rfl
       refine pi_ (i := 8) (N := some 192) (v := ?_) (a' := ?_) (bm 22 511) rfl rfl HT_ (by kernel_rfl) (fun _ _ _ h => h) (Or.inl ⟨by rfl, ?_⟩) ?_ ?_
       rotate_left
       ·intro w'
        go_simp
        with_reducible rfl
       rotate_left
       ·simp only [Act.put, pp_]
        rfl
       refine pi_ (i := 9) (N := some 193) (v := ?_) (a' := ?_) (bm 22 1023) rfl rfl HT_ (by kernel_rfl) (fun _ _ _ h => h) (Or.inl ⟨by rfl, ?_⟩) ?_ ?_
       rotate_left
       ·intro w'
        go_simp
        with_reducible rfl
       rotate_left
       ·simp only [Act.put, pp_]
        rfl
       refine pi_ (i := 10) (N := some 194) (v := ?_) (a' := ?_) (bm 22 2047) rfl rfl HT_ (by kernel_rfl) (fun _ _ _ h => h) (Or.inl ⟨by rfl, ?_⟩) ?_ ?_
       rotate_left
       ·intro w'
        go_simp
        with_reducible rfl
       rotate_left
       ·simp only [Act.put, pp_]
        rfl
       refine pi_ (i := 11) (N := some 195) (v := ?_) (a' := ?_) (bm 22 4095) rfl rfl HT_ (by kernel_rfl) (fun _ _ _ h => h) (Or.inl ⟨by rfl, ?_⟩) ?_ ?_
       rotate_left
       ·intro w'
        go_simp
        with_reducible rfl
       rotate_left
       ·simp only [Act.put, pp_]
        rfl
       refine pi_ (i := 14) (N := some 198) (v := ?_) (a' := ?_) (bm 22 20479) rfl rfl HT_ (by kernel_rfl) (fun _ _ _ h => h) (Or.inl ⟨by rfl, ?_⟩) ?_ ?_
       rotate_left
       ·intro w'
        go_simp
        with_reducible rfl
       rotate_left
       ·simp only [Act.put, pp_]
        rfl
       refine pi_ (i := 17) (N := some 201) (v := ?_) (a' := ?_) (bm 22 151551) rfl rfl HT_ (by kernel_rfl) (fun _ _ _ h => h) (Or.inl ⟨by rfl, ?_⟩) ?_ ?_
       rotate_left
       ·intro w'
        go_simp
        with_reducible rfl
       rotate_left
       ·simp only [Act.put, pp_]
        rfl
       refine take_ (i := 12) (N := some 196) (v := ?_) (a' := ?_) (bm 22 155647) rfl rfl (take_ofW HT_.out HW_.out (by kernel_rfl)) (fun _ _ _ h => h) (Or.inl ⟨by rfl, ?_⟩) hHeld ?_ ?_
       rotate_left
       ·rintro w' ⟨s0, s1⟩
        go_simp
        with_reducible rfl
       rotate_left
       ·simp only [Act.put, pp_]
        rfl
       refine pi_ (i := 13) (N := some 197) (v := ?_) (a' := ?_) (bm 22 163839) rfl rfl HT_ (by kernel_rfl) (fun _ _ _ h => h) (Or.inl ⟨by rfl, ?_⟩) ?_ ?_
       rotate_left
       ·intro w'
        go_simp
        with_reducible rfl
       rotate_left
       ·simp only [Act.put, pp_]
        rfl
       refine take_ (i := 15) (N := some 199) (v := ?_) (a' := ?_) (bm 22 196607) rfl rfl (take_ofW HT_.out HW_.out (by kernel_rfl)) (fun _ _ _ h => h) (Or.inl ⟨by rfl, ?_⟩) hHeld ?_ ?_
       rotate_left
       ·rintro w' ⟨s0, s1⟩
        go_simp
        with_reducible rfl
       rotate_left
       ·simp only [Act.put, pp_]
        rfl
       refine pi_ (i := 16) (N := some 200) (v := ?_) (a' := ?_) (bm 22 262143) rfl rfl HT_ (by kernel_rfl) (fun _ _ _ h => h) (Or.inl ⟨by rfl, ?_⟩) ?_ ?_
       rotate_left
       ·intro w'
        go_simp
        with_reducible rfl
       rotate_left
       ·simp only [Act.put, pp_]
        rfl
       refine one_ (i := 18) (N := some 202) (bm 22 524287) rfl rfl (one_of HT_.out (by kernel_rfl)) (by decide) (fun K hK => ?_)
       refine goes_ Tryd.func18 (by kernel_rfl) rfl #[.slice As sl.length cs] (by rfl) rfl rfl (by (try simp only [List.map_toArray, List.map_cons, List.map_nil]); first | done | rfl) ?_
       with_reducible refine (laws_vAdd.calls k As cs sl sm _ Fs.out Ls.out B4.out).mono ?_
       rintro e w19 ⟨rfl, hd⟩
       refine ⟨_, rfl, ?_⟩
       have hb := hd.below
       clear hd
       replace HB := am (below_step HB.out hb)
       replace Fr := am (Kd.C_below Fr.out hb)
       replace Fg := am (Kd.C_below Fg.out hb)
       replace Fp := am (Kd.C_below Fp.out hb)
       replace Fz := am (Kd.C_below Fz.out hb)
       replace Fs := am (Kd.C_below Fs.out hb)
       replace BKr := am (blk_below BKr.out hb)
       replace BKz := am (blk_below BKz.out hb)
       replace BKu := am (blk_below BKu.out hb)
       replace BKq := am (blk_below BKq.out hb)
       clear hb
       refine hK.out _ _ ⟨(blk_cell BKq.out 2).trans rfl, (blk_cell BKu.out 2).trans rfl⟩ (fun hHeld => ?_)
       clear hK K
       refine norm_ (a' := ?_) ?_ ?_
       rotate_left
       ·show Act.put _ (some 202) _ = _
        simp only [Act.put, pp_]
        rfl
       refine pi_ (i := 19) (N := some 203) (v := ?_) (a' := ?_) (bm 22 1048575) rfl rfl HT_ (by kernel_rfl) (fun _ _ _ h => h) (Or.inl ⟨by rfl, ?_⟩) ?_ ?_
       rotate_left
       ·intro w'
        go_simp
        with_reducible rfl
       rotate_left
       ·simp only [Act.put, pp_]
        rfl
       refine pi_ (i := 20) (N := some 204) (v := ?_) (a' := ?_) (bm 22 2097151) rfl rfl HT_ (by kernel_rfl) (fun _ _ _ h => h) (Or.inl ⟨by rfl, ?_⟩) ?_ ?_
       rotate_left
       ·intro w'
        go_simp
        with_reducible rfl
       rotate_left
       ·simp only [Act.put, pp_]
        rfl
       refine pi_ (i := 21) (N := some 205) (v := ?_) (a' := ?_) (bm 22 4194303) rfl rfl HT_ (by kernel_rfl) (fun _ _ _ h => h) (Or.inl ⟨by rfl, ?_⟩) ?_ ?_
       rotate_left
       ·intro w'
        go_simp
        with_reducible rfl
       rotate_left
       ·simp only [Act.put, pp_]
        rfl
       refine done_ (done_of HT_.out (by kernel_rfl)) ?_

       have c5b := C5.out
       clear C5
       go_wp2
       go_meet
       case rel => exact ⟨HB, Fr, Fg, Fp, Fz, BKr, BKz⟩
    case rest =>
     as_aux_lemma =>
      clear B1 HB Fr Fg Fp Fz Fu Fs Ff BKr BKz BKu qBKr_0 qBKr_1 qBKr_2 qBKz_0 qBKz_1 qBKz_2 qBKu_0 qBKu_1 qBKu_2
      obtain ⟨HB, Fr, Fg, Fp, Fz, BKr, BKz⟩ := hcut
      have qBKr_0 : wc.cell? ⟨gr, 0, none⟩ = some (.int .i64 rs) := (blk_cell BKr.out 0).trans rfl
      have qBKr_1 : wc.cell? ⟨gr, 1, none⟩ = some (.bool rr) := (blk_cell BKr.out 1).trans rfl
      have qBKr_2 : wc.cell? ⟨gr, 2, none⟩ = some (.slice Ar rl.length cr) := (blk_cell BKr.out 2).trans rfl
      have qBKz_0 : wc.cell? ⟨gz, 0, none⟩ = some (.int .i64 zs) := (blk_cell BKz.out 0).trans rfl
      have qBKz_1 : wc.cell? ⟨gz, 1, none⟩ = some (.bool zr) := (blk_cell BKz.out 1).trans rfl
      have qBKz_2 : wc.cell? ⟨gz, 2, none⟩ = some (.slice Az zl.length cz) := (blk_cell BKz.out 2).trans rfl
      have H := HH.out
      clear HH
      cases ok with
      | false =>
       go_wp2
       go_ret
       exact ⟨rfl, HB.out⟩
      | true =>
       rw [if_pos rfl] at H
       replace H := Option.bind_eq_some_iff.mp H
       obtain ⟨b0, d2, H0⟩ := H
       have H := H0
       clear H0
       have D2 := am d2
       clear d2
       have D3 := am H
       clear H
       go_wp2
       have HQ0 := am (Below.refl wc.heap.size wc)
       go_loopg [30] k (fun kq v30 w' => ∃ i : Int, v30 = .int .i64 i ∧ Aside0 (laws_FnPlacings.l0 kq pl gl rl zl i = some b0) ∧ Aside0 (kq ≤ k) ∧ Aside0 (Below wc.heap.size wc w'))
       case atStart => exact ⟨0, rfl, D2, ⟨Nat.le_refl _⟩, HQ0⟩
       case round =>
        clear D2 HQ0 qBKr_0 qBKr_1 qBKr_2 qBKz_0 qBKz_1 qBKz_2
        obtain ⟨i, rfl, HA, HK1, HQ⟩ := hrel
        cases gk with
        | zero => exact absurd HA.out (by simp [laws_FnPlacings.l0])
        | succ k1 =>
         have H := HA.out
         clear HA
         simp only [laws_FnPlacings.l0] at H
         by_cases c8 : i < (pl.length : Int)
         ·rw [if_pos c8] at H
          have c8b : decide (i < (pl.length : Int)) = true := decide_eq_true c8
          by_cases d1 : 0 ≤ i
          rotate_left
          ·rw [if_neg d1] at H; cases H
          rw [if_pos d1] at H
          replace H := Option.bind_eq_some_iff.mp H
          obtain ⟨b1, e1, H0⟩ := H
          have H := H0
          clear H0
          have E1 := am e1
          clear e1
          have E2 := am H
          clear H
          have CP := am (Kd.C_below Fp.out HQ.out)
          obtain ⟨adp, ep, hp0⟩ := Kd.at_int CP.out i d1 c8
          cases ep
          clear hp0
          have hp0 := pol_atC CP.out i d1 c8
          replace d1 := eq_true d1
          have c8c := eq_true c8
          go_wp2
          have HQ1 := HQ
          clear hp0
          go_loopg [31] k1 (fun kq v31 w' => ∃ p : Int, v31 = .int .i64 p ∧ Aside0 (laws_FnPlacings.l1 kq pl gl rl zl i p = some b1) ∧ Aside0 (kq ≤ k1) ∧ Aside0 (Below wc.heap.size wc w'))
          case atStart => exact ⟨rd pl i, rfl, E1, ⟨Nat.le_refl _⟩, HQ1⟩
          case round =>
           clear E1 HQ1 HQ CP d1 c8c
           obtain ⟨p, rfl, HA, HK2, HQ⟩ := hrel
           cases gk with
           | zero => exact absurd HA.out (by simp [laws_FnPlacings.l1])
           | succ k2 =>
            have H := HA.out
            clear HA
            simp only [laws_FnPlacings.l1] at H
            by_cases c9 : 0 ≤ i ∧ i < (pl.length : Int) ∧ i < (gl.length : Int)
            rotate_left
            ·rw [if_neg c9] at H; cases H
            rw [if_pos c9] at H
            obtain ⟨d1, d2, d3⟩ := c9
            have CP := am (Kd.C_below Fp.out HQ.out)
            have CG := am (Kd.C_below Fg.out HQ.out)
            have CR := am (Kd.C_below Fr.out HQ.out)
            have CZ := am (Kd.C_below Fz.out HQ.out)
            have BR := am (blk_below BKr.out HQ.out)
            have BZ := am (blk_below BKz.out HQ.out)
            obtain ⟨adg, eg, hg0⟩ := Kd.at_int CG.out i d1 d3
            cases eg
            clear hg0
            replace d1 := eq_true d1
            replace d2 := eq_true d2
            replace d3 := eq_true d3
            by_cases c10 : p < wrap64 (rd pl i + rd gl i)
            ·skip
             as_aux_lemma =>
              rw [if_pos c10] at H
              have c10b : decide (p < wrap64 (rd pl i + rd gl i)) = true := decide_eq_true c10
              clear c10
              replace H := Option.bind_eq_some_iff.mp H
              obtain ⟨h1, e3, H0⟩ := H
              have H := H0
              clear H0
              have E3 := am e3
              clear e3
              replace H := Option.bind_eq_some_iff.mp H
              obtain ⟨h2, e4, H0⟩ := H
              have H := H0
              clear H0
              have E4 := am e4
              clear e4
              by_cases c11 : h1 = false ∧ h2 = true
              rotate_left
              ·rw [if_neg c11] at H; cases H
              rw [if_pos c11] at H
              obtain ⟨rfl, rfl⟩ := c11
              have HH := am H
              clear H
              go_upto_region 26 with (fail)
              refine start_ (n := 11) (S := fun w' => w'.cell? (adp.add i.toNat) = some (.int .i64 (rd pl i)) ∧ w'.cell? (adg.add i.toNat) = some (.int .i64 (rd gl i))) (ds := []) #[false, false, false, false, false, false, false, false, false, false, false] (by kernel_rfl) rfl rfl ⟨pol_atC (Kd.C_below CP.out (below_drew1 (Below.refl _ _))) i (of_eq_true d1) (of_eq_true d2), pol_atC (Kd.C_below CG.out (below_drew1 (Below.refl _ _))) i (of_eq_true d1) (of_eq_true d3)⟩ (fun hHeld => ?_)
              refine with_tabW laws_FnPlacings.tab26 laws_FnPlacings.bits26 (fun HT_ HW_ => ?_)
              replace HQ := am (below_step HQ.out (below_drew1 (Below.refl _ _)))
              replace CP := am (Kd.C_below CP.out (below_drew1 (Below.refl _ _)))
              replace CG := am (Kd.C_below CG.out (below_drew1 (Below.refl _ _)))
              replace CR := am (Kd.C_below CR.out (below_drew1 (Below.refl _ _)))
              replace CZ := am (Kd.C_below CZ.out (below_drew1 (Below.refl _ _)))
              replace BR := am (blk_below BR.out (below_drew1 (Below.refl _ _)))
              replace BZ := am (blk_below BZ.out (below_drew1 (Below.refl _ _)))
              generalize World.drew _ = w26 at HQ CP CG CR CZ BR BZ hHeld ⊢
              refine pi_ (i := 0) (N := some 218) (v := ?_) (a' := ?_) (bm 11 1) rfl rfl HT_ (by kernel_rfl) (fun _ _ _ h => h) (Or.inl ⟨by rfl, ?_⟩) ?_ ?_
              rotate_left
              ·intro w'
               go_simp
               with_reducible rfl
              rotate_left
              ·simp only [Act.put, pp_]
               rfl
              refine pi_ (i := 1) (N := some 219) (v := ?_) (a' := ?_) (bm 11 3) rfl rfl HT_ (by kernel_rfl) (fun _ _ _ h => h) (Or.inl ⟨by rfl, ?_⟩) ?_ ?_
              rotate_left
              ·intro w'
               go_simp
               with_reducible rfl
              rotate_left
              ·simp only [Act.put, pp_]
               rfl
              refine pi_ (i := 2) (N := some 220) (v := ?_) (a' := ?_) (bm 11 7) rfl rfl HT_ (by kernel_rfl) (fun _ _ _ h => h) (Or.inl ⟨by rfl, ?_⟩) ?_ ?_
              rotate_left
              ·intro w'
               go_simp
               with_reducible rfl
              rotate_left
              ·simp only [Act.put, pp_]
               rfl
              refine pi_ (i := 3) (N := some 221) (v := ?_) (a' := ?_) (bm 11 15) rfl rfl HT_ (by kernel_rfl) (fun _ _ _ h => h) (Or.inl ⟨by rfl, ?_⟩) ?_ ?_
              rotate_left
              ·intro w'
               go_simp
               with_reducible rfl
              rotate_left
              ·simp only [Act.put, pp_]
               rfl
              refine pi_ (i := 5) (N := some 223) (v := ?_) (a' := ?_) (bm 11 47) rfl rfl HT_ (by kernel_rfl) (fun _ _ _ h => h) (Or.inl ⟨by rfl, ?_⟩) ?_ ?_
              rotate_left
              ·intro w'
               go_simp
               with_reducible rfl
              rotate_left
              ·simp only [Act.put, pp_]
               rfl
              refine pi_ (i := 6) (N := some 224) (v := ?_) (a' := ?_) (bm 11 111) rfl rfl HT_ (by kernel_rfl) (fun _ _ _ h => h) (Or.inl ⟨by rfl, ?_⟩) ?_ ?_
              rotate_left
              ·intro w'
               go_simp
               with_reducible rfl
              rotate_left
              ·simp only [Act.put, pp_]
               rfl
              refine pi_ (i := 7) (N := some 225) (v := ?_) (a' := ?_) (bm 11 239) rfl rfl HT_ (by kernel_rfl) (fun _ _ _ h => h) (Or.inl ⟨by rfl, ?_⟩) ?_ ?_
              rotate_left
              ·intro w'
               go_simp
               with_reducible rfl
              rotate_left
              ·simp only [Act.put, pp_]
               rfl
              refine take_ (i := 4) (N := some 222) (v := ?_) (a' := ?_) (bm 11 255) rfl rfl (take_ofW HT_.out HW_.out (by kernel_rfl)) (fun _ _ _ h => h) (Or.inl ⟨by rfl, ?_⟩) hHeld ?_ ?_
              rotate_left
              ·rintro w' ⟨s0, s1⟩
               go_simp
               with_reducible rfl
              rotate_left
              ·simp only [Act.put, pp_]
               rfl
              refine take_ (i := 8) (N := some 226) (v := ?_) (a' := ?_) (bm 11 511) rfl rfl (take_ofW HT_.out HW_.out (by kernel_rfl)) (fun _ _ _ h => h) (Or.inl ⟨by rfl, ?_⟩) hHeld ?_ ?_
              rotate_left
              ·rintro w' ⟨s0, s1⟩
               go_simp
               with_reducible rfl
              rotate_left
              ·simp only [Act.put, pp_]
               rfl
              refine pi_ (i := 9) (N := some 227) (v := ?_) (a' := ?_) (bm 11 1023) rfl rfl HT_ (by kernel_rfl) (fun _ _ _ h => h) (Or.inl ⟨by rfl, ?_⟩) ?_ ?_
              rotate_left
              ·intro w'
               go_simp
               with_reducible rfl
              rotate_left
              ·simp only [Act.put, pp_]
               rfl
              refine pi_ (i := 10) (N := some 228) (v := ?_) (a' := ?_) (bm 11 2047) rfl rfl HT_ (by kernel_rfl) (fun _ _ _ h => h) (Or.inl ⟨by rfl, ?_⟩) ?_ ?_
              rotate_left
              ·intro w'
               go_simp
               with_reducible rfl
              rotate_left
              ·simp only [Act.put, pp_]
               rfl
              refine done_ (done_of HT_.out (by kernel_rfl)) ?_

              have qr : w26.cell? ⟨gr, 2, none⟩ = some (.slice Ar rl.length cr) := (blk_cell BR.out 2).trans rfl
              have qz : w26.cell? ⟨gz, 2, none⟩ = some (.slice Az zl.length cz) := (blk_cell BZ.out 2).trans rfl
              go_wp2_with (first | (go_at_call 19; (with_reducible refine (laws_vHas.calls k2 Ar cr rl p false _ CR.out Lr.out E3.out).mono ?_); rintro e w27 ⟨rfl, hd_⟩; have hb := hd_.below; clear hd_ qr qz; replace HQ := am (below_step HQ.out hb); replace CR := am (Kd.C_below CR.out hb); replace CZ := am (Kd.C_below CZ.out hb); replace BR := am (blk_below BR.out hb); replace BZ := am (blk_below BZ.out hb); clear hb; have qr : w27.cell? ⟨gr, 2, none⟩ = some (.slice Ar rl.length cr) := (blk_cell BR.out 2).trans rfl; have qz : w27.cell? ⟨gz, 2, none⟩ = some (.slice Az zl.length cz) := (blk_cell BZ.out 2).trans rfl) | (go_at_call 19; (with_reducible refine (laws_vHas.calls k2 Az cz zl p true _ CZ.out Lz.out E4.out).mono ?_); rintro e w28 ⟨rfl, hd_⟩; have hb := hd_.below; clear hd_ qr qz; replace HQ := am (below_step HQ.out hb); replace CR := am (Kd.C_below CR.out hb); replace CZ := am (Kd.C_below CZ.out hb); replace BR := am (blk_below BR.out hb); replace BZ := am (blk_below BZ.out hb); clear hb; have qr : w28.cell? ⟨gr, 2, none⟩ = some (.slice Ar rl.length cr) := (blk_cell BR.out 2).trans rfl; have qz : w28.cell? ⟨gz, 2, none⟩ = some (.slice Az zl.length cz) := (blk_cell BZ.out 2).trans rfl))
              go_roundg k2
              case measure => have h_ := HK2.out; omega
              case rel => exact ⟨wrap64 (p + 1), (by first | rfl | (simp; done) | (simp [*]; done)), HH, ⟨by have h_ := HK2.out; omega⟩, HQ⟩
            ·skip
             as_aux_lemma =>
              rw [if_neg c10] at H
              have c10b : decide (p < wrap64 (rd pl i + rd gl i)) = false := decide_eq_false c10
              clear c10 H
              go_upto_region 26 with (fail)
              refine start_ (n := 11) (S := fun w' => w'.cell? (adp.add i.toNat) = some (.int .i64 (rd pl i)) ∧ w'.cell? (adg.add i.toNat) = some (.int .i64 (rd gl i))) (ds := []) #[false, false, false, false, false, false, false, false, false, false, false] (by kernel_rfl) rfl rfl ⟨pol_atC (Kd.C_below CP.out (below_drew1 (Below.refl _ _))) i (of_eq_true d1) (of_eq_true d2), pol_atC (Kd.C_below CG.out (below_drew1 (Below.refl _ _))) i (of_eq_true d1) (of_eq_true d3)⟩ (fun hHeld => ?_)
              refine with_tabW laws_FnPlacings.tab26 laws_FnPlacings.bits26 (fun HT_ HW_ => ?_)
              replace HQ := am (below_step HQ.out (below_drew1 (Below.refl _ _)))
              replace CP := am (Kd.C_below CP.out (below_drew1 (Below.refl _ _)))
              replace CG := am (Kd.C_below CG.out (below_drew1 (Below.refl _ _)))
              replace CR := am (Kd.C_below CR.out (below_drew1 (Below.refl _ _)))
              replace CZ := am (Kd.C_below CZ.out (below_drew1 (Below.refl _ _)))
              replace BR := am (blk_below BR.out (below_drew1 (Below.refl _ _)))
              replace BZ := am (blk_below BZ.out (below_drew1 (Below.refl _ _)))
              generalize World.drew _ = w26 at HQ CP CG CR CZ BR BZ hHeld ⊢
              refine pi_ (i := 0) (N := some 218) (v := ?_) (a' := ?_) (bm 11 1) rfl rfl HT_ (by kernel_rfl) (fun _ _ _ h => h) (Or.inl ⟨by rfl, ?_⟩) ?_ ?_
              rotate_left
              ·intro w'
               go_simp
               with_reducible rfl
              rotate_left
              ·simp only [Act.put, pp_]
               rfl
              refine pi_ (i := 1) (N := some 219) (v := ?_) (a' := ?_) (bm 11 3) rfl rfl HT_ (by kernel_rfl) (fun _ _ _ h => h) (Or.inl ⟨by rfl, ?_⟩) ?_ ?_
              rotate_left
              ·intro w'
               go_simp
               with_reducible rfl
              rotate_left
              ·simp only [Act.put, pp_]
               rfl
              refine pi_ (i := 2) (N := some 220) (v := ?_) (a' := ?_) (bm 11 7) rfl rfl HT_ (by kernel_rfl) (fun _ _ _ h => h) (Or.inl ⟨by rfl, ?_⟩) ?_ ?_
              rotate_left
              ·intro w'
               go_simp
               with_reducible rfl
              rotate_left
              ·simp only [Act.put, pp_]
               rfl
              refine pi_ (i := 3) (N := some 221) (v := ?_) (a' := ?_) (bm 11 15) rfl rfl HT_ (by kernel_rfl) (fun _ _ _ h => h) (Or.inl ⟨by rfl, ?_⟩) ?_ ?_
              rotate_left
              ·intro w'
               go_simp
               with_reducible rfl
              rotate_left
              ·simp only [Act.put, pp_]
               rfl
              refine pi_ (i := 5) (N := some 223) (v := ?_) (a' := ?_) (bm 11 47) rfl rfl HT_ (by kernel_rfl) (fun _ _ _ h => h) (Or.inl ⟨by rfl, ?_⟩) ?_ ?_
              rotate_left
              ·intro w'
               go_simp
               with_reducible rfl
              rotate_left
              ·simp only [Act.put, pp_]
               rfl
              refine pi_ (i := 6) (N := some 224) (v := ?_) (a' := ?_) (bm 11 111) rfl rfl HT_ (by kernel_rfl) (fun _ _ _ h => h) (Or.inl ⟨by rfl, ?_⟩) ?_ ?_
              rotate_left
              ·intro w'
               go_simp
               with_reducible rfl
              rotate_left
              ·simp only [Act.put, pp_]
               rfl
              refine pi_ (i := 7) (N := some 225) (v := ?_) (a' := ?_) (bm 11 239) rfl rfl HT_ (by kernel_rfl) (fun _ _ _ h => h) (Or.inl ⟨by rfl, ?_⟩) ?_ ?_
              rotate_left
              ·intro w'
               go_simp
               with_reducible rfl
              rotate_left
              ·simp only [Act.put, pp_]
               rfl
              refine take_ (i := 4) (N := some 222) (v := ?_) (a' := ?_) (bm 11 255) rfl rfl (take_ofW HT_.out HW_.out (by kernel_rfl)) (fun _ _ _ h => h) (Or.inl ⟨by rfl, ?_⟩) hHeld ?_ ?_
              rotate_left
              ·rintro w' ⟨s0, s1⟩
               go_simp
               with_reducible rfl
              rotate_left
              ·simp only [Act.put, pp_]
               rfl
              refine take_ (i := 8) (N := some 226) (v := ?_) (a' := ?_) (bm 11 511) rfl rfl (take_ofW HT_.out HW_.out (by kernel_rfl)) (fun _ _ _ h => h) (Or.inl ⟨by rfl, ?_⟩) hHeld ?_ ?_
              rotate_left
              ·rintro w' ⟨s0, s1⟩
               go_simp
               with_reducible rfl
              rotate_left
              ·simp only [Act.put, pp_]
               rfl
              refine pi_ (i := 9) (N := some 227) (v := ?_) (a' := ?_) (bm 11 1023) rfl rfl HT_ (by kernel_rfl) (fun _ _ _ h => h) (Or.inl ⟨by rfl, ?_⟩) ?_ ?_
              rotate_left
              ·intro w'
               go_simp
               with_reducible rfl
              rotate_left
              ·simp only [Act.put, pp_]
               rfl
              refine pi_ (i := 10) (N := some 228) (v := ?_) (a' := ?_) (bm 11 2047) rfl rfl HT_ (by kernel_rfl) (fun _ _ _ h => h) (Or.inl ⟨by rfl, ?_⟩) ?_ ?_
              rotate_left
              ·intro w'
               go_simp
               with_reducible rfl
              rotate_left
              ·simp only [Act.put, pp_]
               rfl
              refine done_ (done_of HT_.out (by kernel_rfl)) ?_

              go_wp2
              go_roundg k1
              case measure => have h_ := HK1.out; omega
              case rel => exact ⟨wrap64 (i + 1), (by first | rfl | (simp; done) | (simp [*]; done)), E2, ⟨by have h_ := HK1.out; omega⟩, HQ⟩
         ·rw [if_neg c8] at H
          have c8b : decide (i < (pl.length : Int)) = false := decide_eq_false c8
          clear H c8
          as_aux_lemma =>
           replace HB := am (below_step HB.out HQ.out)
           replace Fr := am (Kd.C_below Fr.out HQ.out)
           replace Fg := am (Kd.C_below Fg.out HQ.out)
           replace Fp := am (Kd.C_below Fp.out HQ.out)
           replace BKr := am (blk_below BKr.out HQ.out)
           replace BKz := am (blk_below BKz.out HQ.out)
           clear HQ Fz
           have H := D3.out
           clear D3
           unfold laws_FnPlacings.h at H
           replace H := Option.bind_eq_some_iff.mp H
           obtain ⟨⟨lo, lk⟩, d5, H0⟩ := H
           have H := H0
           clear H0
           have D5 := am d5
           clear d5
           replace H := Option.bind_eq_some_iff.mp H
           obtain ⟨le, d6, H0⟩ := H
           have H := H0
           clear H0
           have D6 := am d6
           clear d6
           replace H := Option.bind_eq_some_iff.mp H
           obtain ⟨sm, d7, H0⟩ := H
           have H := H0
           clear H0
           have D7 := am d7
           clear d7
           simp only at H
           by_cases c6 : lk = true ∧ le = false ∧ (zl.length : Int) = wrap64 ((rl.length : Int) + sm)
           rotate_left
           ·rw [if_neg c6] at H; cases H
           clear H
           obtain ⟨rfl, rfl, c7⟩ := c6
           have c7b : ((zl.length : Int) == wrap64 ((rl.length : Int) + sm)) = true := beq_iff_eq.mpr c7
           have C7 := am c7b
           clear c7 c7b
           have qBKr_0 : wr.cell? ⟨gr, 0, none⟩ = some (.int .i64 rs) := (blk_cell BKr.out 0).trans rfl
           have qBKr_1 : wr.cell? ⟨gr, 1, none⟩ = some (.bool rr) := (blk_cell BKr.out 1).trans rfl
           have qBKr_2 : wr.cell? ⟨gr, 2, none⟩ = some (.slice Ar rl.length cr) := (blk_cell BKr.out 2).trans rfl
           have qBKz_0 : wr.cell? ⟨gz, 0, none⟩ = some (.int .i64 zs) := (blk_cell BKz.out 0).trans rfl
           have qBKz_1 : wr.cell? ⟨gz, 1, none⟩ = some (.bool zr) := (blk_cell BKz.out 1).trans rfl
           have qBKz_2 : wr.cell? ⟨gz, 2, none⟩ = some (.slice Az zl.length cz) := (blk_cell BKz.out 2).trans rfl
           go_upto_region 31 with (go_at_call 14; (with_reducible refine (impl_FirstPlacing.calls k rs rr Ar cr rl Ag cg gl dd lo true _ Fr.out Lr.out Fg.out Lg.out D5.out).mono ?_); rintro e w81_ ⟨v_, rfl, hR, hb⟩; obtain ⟨Al, cl, e_, hc_, hC_⟩ := Kd.R_reads hR; subst e_; replace HB := am (below_step HB.out hb); replace Fr := am (Kd.C_below Fr.out hb); replace Fg := am (Kd.C_below Fg.out hb); replace Fp := am (Kd.C_below Fp.out hb); replace BKr := am (blk_below BKr.out hb); replace BKz := am (blk_below BKz.out hb); clear hb; have Fl := am hC_; have Ll := am hc_; clear hR hC_ hc_; (try clear qBKr_0 qBKr_1 qBKr_2); obtain ⟨qBKr_0, qBKr_1, qBKr_2⟩ := pol_cells BKr.out; (try clear qBKz_0 qBKz_1 qBKz_2); obtain ⟨qBKz_0, qBKz_1, qBKz_2⟩ := pol_cells BKz.out)
           refine start_ (n := 20) (S := fun w' => w'.cell? ⟨gz, 2, none⟩ = some (.slice Az zl.length cz) ∧ w'.cell? ⟨gr, 2, none⟩ = some (.slice Ar rl.length cr)) (ds := []) #[false, false, false, false, false, false, false, false, false, false, false, false, false, false, false, false, false, false, false, false] (by kernel_rfl) rfl rfl ⟨(blk_cell (blk_drew BKz.out) 2).trans rfl, (blk_cell (blk_drew BKr.out) 2).trans rfl⟩ (fun hHeld => ?_)
           refine with_tabW laws_FnPlacings.tab31 laws_FnPlacings.bits31 (fun HT_ HW_ => ?_)
           clear Fr qBKr_0 qBKr_1 qBKr_2 qBKz_0 qBKz_1 qBKz_2
           replace HB := am (below_step HB.out (below_drew1 (Below.refl _ _)))
           replace Fg := am (Kd.C_below Fg.out (below_drew1 (Below.refl _ _)))
           replace Fp := am (Kd.C_below Fp.out (below_drew1 (Below.refl _ _)))
           replace Fl := am (Kd.C_below Fl.out (below_drew1 (Below.refl _ _)))
           replace BKr := am (blk_below BKr.out (below_drew1 (Below.refl _ _)))
           replace BKz := am (blk_below BKz.out (below_drew1 (Below.refl _ _)))
           generalize World.drew _ = w31 at HB Fg Fp Fl BKr BKz hHeld ⊢
           refine pi_ (i := 0) (N := some 249) (v := ?_) (a' := ?_) (bm 20 1) rfl rfl HT_ (by kernel_rfl) (fun _ _ _ h => h) (Or.inl ⟨by rfl, ?_⟩) ?_ ?_
           rotate_left
           ·intro w'
            go_simp
            with_reducible rfl
           rotate_left
           ·simp only [Act.put, pp_]
            rfl
           refine pi_ (i := 1) (N := some 250) (v := ?_) (a' := ?_) (bm 20 3) rfl rfl HT_ (by kernel_rfl) (fun _ _ _ h => h) (Or.inl ⟨by rfl, ?_⟩) ?_ ?_
           rotate_left
           ·intro w'
            go_simp
            with_reducible rfl
           rotate_left
           ·simp only [Act.put, pp_]
            rfl
           refine pi_ (i := 2) (N := some 251) (v := ?_) (a' := ?_) (bm 20 7) rfl rfl HT_ (by kernel_rfl) (fun _ _ _ h => h) (Or.inl ⟨by rfl, ?_⟩) ?_ ?_
           rotate_left
           ·intro w'
            go_simp
            with_reducible rfl
           rotate_left
           ·simp only [Act.put, pp_]
            rfl
           refine pi_ (i := 3) (N := some 252) (v := ?_) (a' := ?_) (bm 20 15) rfl rfl HT_ (by kernel_rfl) (fun _ _ _ h => h) (Or.inl ⟨by rfl, ?_⟩) ?_ ?_
           rotate_left
           ·intro w'
            go_simp
            with_reducible rfl
           rotate_left
           ·simp only [Act.put, pp_]
            rfl
           refine one_ (i := 4) (N := some 253) (bm 20 31) rfl rfl (one_of HT_.out (by kernel_rfl)) (by decide) (fun K hK => ?_)
           refine goes_ Tryd.func20 (by kernel_rfl) rfl #[.slice Ap pl.length cp, .slice Al lo.length cl] (by rfl) rfl rfl (by (try simp only [List.map_toArray, List.map_cons, List.map_nil]); first | done | rfl) ?_
           with_reducible refine (laws_vLess.calls k Ap cp pl Al cl lo false _ Fp.out Lp.out Fl.out Ll.out D6.out).mono ?_
           rintro e w32 ⟨rfl, hd⟩
           refine ⟨_, rfl, ?_⟩
           have hb := hd.below
           clear hd
           replace HB := am (below_step HB.out hb)
           replace Fg := am (Kd.C_below Fg.out hb)
           replace Fp := am (Kd.C_below Fp.out hb)
           replace Fl := am (Kd.C_below Fl.out hb)
           replace BKr := am (blk_below BKr.out hb)
           replace BKz := am (blk_below BKz.out hb)
           clear hb
           refine hK.out _ _ ⟨(blk_cell BKz.out 2).trans rfl, (blk_cell BKr.out 2).trans rfl⟩ (fun hHeld => ?_)
           clear hK K
           refine norm_ (a' := ?_) ?_ ?_
           rotate_left
           ·show Act.put _ (some 253) _ = _
            simp only [Act.put, pp_]
            rfl
           refine pi_ (i := 5) (N := some 254) (v := ?_) (a' := ?_) (bm 20 63) rfl rfl HT_ (by kernel_rfl) (fun _ _ _ h => h) (Or.inl ⟨by rfl, ?_⟩) ?_ ?_
           rotate_left
           ·intro w'
            go_simp
            with_reducible rfl
           rotate_left
           ·simp only [Act.put, pp_]
            rfl
           refine pi_ (i := 6) (N := some 255) (v := ?_) (a' := ?_) (bm 20 127) rfl rfl HT_ (by kernel_rfl) (fun _ _ _ h => h) (Or.inl ⟨by rfl, ?_⟩) ?_ ?_
           rotate_left
           ·intro w'
            go_simp
            with_reducible rfl
           rotate_left
           ·simp only [Act.put, pp_]
            rfl
           refine pi_ (i := 7) (N := some 256) (v := ?_) (a' := ?_) (bm 20 255) rfl rfl HT_ (by kernel_rfl) (fun _ _ _ h => h) (Or.inl ⟨by rfl, ?_⟩) ?_ ?_
           rotate_left
           ·intro w'
            go_simp
            with_reducible rfl
           rotate_left
           ·simp only [Act.put, pp_]
            rfl
           refine pi_ (i := 8) (N := some 257) (v := ?_) (a' := ?_) (bm 20 511) rfl rfl HT_ (by kernel_rfl) (fun _ _ _ h => h) (Or.inl ⟨by rfl, ?_⟩) ?_ ?_
           rotate_left
           ·intro w'
            go_simp
            with_reducible rfl
           rotate_left
           ·simp only [Act.put, pp_]
            rfl
           refine pi_ (i := 11) (N := some 260) (v := ?_) (a' := ?_) (bm 20 2559) rfl rfl HT_ (by kernel_rfl) (fun _ _ _ h => h) (Or.inl ⟨by rfl, ?_⟩) ?_ ?_
           rotate_left
           ·intro w'
            go_simp
            with_reducible rfl
           rotate_left
           ·simp only [Act.put, pp_]
            rfl
           refine pi_ (i := 14) (N := some 263) (v := ?_) (a' := ?_) (bm 20 18943) rfl rfl HT_ (by kernel_rfl) (fun _ _ _ h => h) (Or.inl ⟨by rfl, ?_⟩) ?_ ?_
           rotate_left
           ·intro w'
            go_simp
            with_reducible rfl
           rotate_left
           ·simp only [Act.put, pp_]
            rfl
           refine take_ (i := 9) (N := some 258) (v := ?_) (a' := ?_) (bm 20 19455) rfl rfl (take_ofW HT_.out HW_.out (by kernel_rfl)) (fun _ _ _ h => h) (Or.inl ⟨by rfl, ?_⟩) hHeld ?_ ?_
           rotate_left
           ·rintro w' ⟨s0, s1⟩
            go_simp
            with_reducible rfl
           rotate_left
           ·simp only [Act.put, pp_]
            rfl
           refine pi_ (i := 10) (N := some 259) (v := ?_) (a' := ?_) (bm 20 20479) rfl rfl HT_ (by kernel_rfl) (fun _ _ _ h => h) (Or.inl ⟨by rfl, ?_⟩) ?_ ?_
           rotate_left
           ·intro w'
            go_simp
            with_reducible rfl
           rotate_left
           ·simp only [Act.put, pp_]
            rfl
           refine take_ (i := 12) (N := some 261) (v := ?_) (a' := ?_) (bm 20 24575) rfl rfl (take_ofW HT_.out HW_.out (by kernel_rfl)) (fun _ _ _ h => h) (Or.inl ⟨by rfl, ?_⟩) hHeld ?_ ?_
           rotate_left
           ·rintro w' ⟨s0, s1⟩
            go_simp
            with_reducible rfl
           rotate_left
           ·simp only [Act.put, pp_]
            rfl
           refine pi_ (i := 13) (N := some 262) (v := ?_) (a' := ?_) (bm 20 32767) rfl rfl HT_ (by kernel_rfl) (fun _ _ _ h => h) (Or.inl ⟨by rfl, ?_⟩) ?_ ?_
           rotate_left
           ·intro w'
            go_simp
            with_reducible rfl
           rotate_left
           ·simp only [Act.put, pp_]
            rfl
           refine one_ (i := 15) (N := some 264) (bm 20 65535) rfl rfl (one_of HT_.out (by kernel_rfl)) (by decide) (fun K hK => ?_)
           refine goes_ Tryd.func18 (by kernel_rfl) rfl #[.slice Ag gl.length cg] (by rfl) rfl rfl (by (try simp only [List.map_toArray, List.map_cons, List.map_nil]); first | done | rfl) ?_
           with_reducible refine (laws_vAdd.calls k Ag cg gl sm _ Fg.out Lg.out D7.out).mono ?_
           rintro e w33 ⟨rfl, hd⟩
           refine ⟨_, rfl, ?_⟩
           have hb := hd.below
           clear hd
           replace HB := am (below_step HB.out hb)
           replace Fg := am (Kd.C_below Fg.out hb)
           replace Fp := am (Kd.C_below Fp.out hb)
           replace Fl := am (Kd.C_below Fl.out hb)
           replace BKr := am (blk_below BKr.out hb)
           replace BKz := am (blk_below BKz.out hb)
           clear hb
           refine hK.out _ _ ⟨(blk_cell BKz.out 2).trans rfl, (blk_cell BKr.out 2).trans rfl⟩ (fun hHeld => ?_)
           clear hK K
           refine norm_ (a' := ?_) ?_ ?_
           rotate_left
           ·show Act.put _ (some 264) _ = _
            simp only [Act.put, pp_]
            rfl
           refine pi_ (i := 16) (N := some 265) (v := ?_) (a' := ?_) (bm 20 131071) rfl rfl HT_ (by kernel_rfl) (fun _ _ _ h => h) (Or.inl ⟨by rfl, ?_⟩) ?_ ?_
           rotate_left
           ·intro w'
            go_simp
            with_reducible rfl
           rotate_left
           ·simp only [Act.put, pp_]
            rfl
           refine pi_ (i := 17) (N := some 266) (v := ?_) (a' := ?_) (bm 20 262143) rfl rfl HT_ (by kernel_rfl) (fun _ _ _ h => h) (Or.inl ⟨by rfl, ?_⟩) ?_ ?_
           rotate_left
           ·intro w'
            go_simp
            with_reducible rfl
           rotate_left
           ·simp only [Act.put, pp_]
            rfl
           refine pi_ (i := 18) (N := some 267) (v := ?_) (a' := ?_) (bm 20 524287) rfl rfl HT_ (by kernel_rfl) (fun _ _ _ h => h) (Or.inl ⟨by rfl, ?_⟩) ?_ ?_
           rotate_left
           ·intro w'
            go_simp
            with_reducible rfl
           rotate_left
           ·simp only [Act.put, pp_]
            rfl
           refine pi_ (i := 19) (N := some 2) (v := ?_) (a' := ?_) (bm 20 1048575) rfl rfl HT_ (by kernel_rfl) (fun _ _ _ h => h) (Or.inl ⟨by rfl, ?_⟩) ?_ ?_
           rotate_left
           ·intro w'
            go_simp
            with_reducible rfl
           rotate_left
           ·simp only [Act.put, pp_]
            rfl
           refine done_ (done_of HT_.out (by kernel_rfl)) ?_

           have c7b := C7.out
           clear C7
           go_wp2
           go_ret
           exact ⟨by first | rfl | (simp; done) | (simp [*]; done), HB.out⟩

/-- THE ONE PURE STATEMENT of laws_FnPlacings: yours. -/
def laws_FnPlacings.Pure : Prop := ∀ (l0 : List Int), l0.length ≤ maxLen → l0.length * 1 ≤ 140737488351232 → (∀ x ∈ l0, (Lit.int .u8 x).wf = true) → ∃ k, laws_FnPlacings.f k l0 = some true
theorem laws_FnPlacings.walk (P : laws_FnPlacings.Pure) (a0 : Option Addr) (len0 cap0 : Nat) (z0 : List Int) (w : World) (hT : GT w) (w0 : (a0 = none ∧ len0 = 0 ∧ cap0 = 0 ∧ z0 = []) ∨ ∃ x, a0 = some x ∧ len0 ≤ cap0 ∧ cap0 ≤ maxLen ∧ z0.length = cap0 ∧ (∀ i, i < z0.length → w.cell? (x.add i) = some (.int .u8 (z0.getD i 0))) ∧ ∀ n ∈ z0, (Lit.int .u8 n).wf = true) (y0 : len0 * 1 ≤ 140737488351232) :
  Calls Tryd.prog 3 #[.slice a0 len0 cap0] w fun e w' => e = .returned (.bool true) ∧ Below w.heap.size w w' := by
 obtain ⟨l0, rfl, hr0, hm0, hw0, hc0⟩ := ReadsInt.ofRowC w0
 obtain ⟨k, h⟩ := P l0 hm0 y0 hw0
 exact laws_FnPlacings.calls k _ _ l0 w (Kd.C_of_reads (d := (0 : Int)) (h1 := fun _ => rfl) hr0) hc0 hT h

end Go.Proofs.YtnoipklaebadeaaDoor.PFnPlacings
