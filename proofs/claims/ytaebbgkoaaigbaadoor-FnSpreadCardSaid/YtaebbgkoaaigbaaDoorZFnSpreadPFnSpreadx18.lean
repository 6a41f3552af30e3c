import Derived.Test.YtaebbgkoaaigbaaDoorZFnSpreadPFnSpreadx0
import Derived.Test.YtaebbgkoaaigbaaDoorZFnSpreadPFnSpreadx1
import Derived.Test.YtaebbgkoaaigbaaDoorZFnSpreadPFnSpreadx2
import Derived.Test.YtaebbgkoaaigbaaDoorZFnSpreadPFnSpreadx3
import Derived.Test.YtaebbgkoaaigbaaDoorZFnSpreadPFnSpreadx4
import Derived.Test.YtaebbgkoaaigbaaDoorZFnSpreadPFnSpreadx5
import Derived.Test.YtaebbgkoaaigbaaDoorZFnSpreadPFnSpreadx6
import Derived.Test.YtaebbgkoaaigbaaDoorZFnSpreadPFnSpreadx7
import Derived.Test.YtaebbgkoaaigbaaDoorZFnSpreadPFnSpreadx8
import Derived.Test.YtaebbgkoaaigbaaDoorZFnSpreadPFnSpreadx9
import Derived.Test.YtaebbgkoaaigbaaDoorZFnSpreadPFnSpreadx10
import Derived.Test.YtaebbgkoaaigbaaDoorZFnSpreadPFnSpreadx11
import Derived.Test.YtaebbgkoaaigbaaDoorZFnSpreadPFnSpreadx12
import Derived.Test.YtaebbgkoaaigbaaDoorZFnSpreadPFnSpreadx13
import Derived.Test.YtaebbgkoaaigbaaDoorZFnSpreadPFnSpreadx14
import Derived.Test.YtaebbgkoaaigbaaDoorZFnSpreadPFnSpreadx15
import Derived.Test.YtaebbgkoaaigbaaDoorZFnSpreadPFnSpreadx16
import Derived.Test.YtaebbgkoaaigbaaDoorZFnSpreadPFnSpreadx17
namespace Go.Proofs.YtaebbgkoaaigbaaDoor.PFnSpread
open Go.RowKit Go.Proofs.YtaebbgkoaaigbaaDoorW.PrintWords Go.Proofs.YtaebbgkoaaigbaaDoorW.PrintLast Go.Proofs.YtaebbgkoaaigbaaDoorW.PrintMore
attribute [local go_sem] max2_int min2_int max_two min_two max_three min_three max_four min_four   -- for this text's walks alone
set_option linter.unusedVariables false
set_option linter.unusedSimpArgs false
/-- all newcomers have seats -/
def laws_FnSpread.l0 : Nat → Int → List Int → List Int → Int → Option Bool
 | 0, _, _, _, _ => none
 | k + 1, m, al, od, i => if i < m then (if 0 ≤ i ∧ i < (od.length : Int) then ((laws_vHas.f k al (rd od i)).bind fun h => if h = true then laws_FnSpread.l0 k m al od (wrap64 (i + 1)) else none) else none) else some true
/-- the last newcomer's farness, and the greatest spread -/
def laws_FnSpread.h (k : Nat) (s : Int) (r : Bool) (l : List Int) (m : Int) (od : List Int) : Option Bool := (impl_AfterPolite.f k s r l (wrap64 (m - 1))).bind fun be => (impl_FarnessOf.f k be.1 be.2.1 be.2.2.1).bind fun fa => (impl_GreatestSpread.f k s r l m).bind fun gs => if be.2.2.2 = true ∧ fa.2 = true ∧ gs.2 = true ∧ 0 ≤ wrap64 (m - 1) ∧ wrap64 (m - 1) < (od.length : Int) ∧ 0 ≤ rd od (wrap64 (m - 1)) ∧ rd od (wrap64 (m - 1)) < (fa.1.length : Int) ∧ gs.1 ≤ wrap64 (2 * rd fa.1 (rd od (wrap64 (m - 1)))) ∧ (m = 1 ∨ gs.1 ≥ rd fa.1 (rd od (wrap64 (m - 1)))) then some true else none
def laws_FnSpread.q (k : Nat) (sp : Int) (ok : Bool) (sa : Int) (ar : Bool) (al : List Int) : Option Bool := if ok = true then ((impl_LeastGap.f k sa ar al).bind fun ow => if ow = (sp, true) then some true else none) else some true
def laws_FnSpread.g (k : Nat) (s : Int) (r : Bool) (l : List Int) (m : Int) (al : List Int) : Option Bool := (impl_PoliteOrder.f k s r l).bind fun od => if od.2 = true ∧ (al.length : Int) = wrap64 ((l.length : Int) + m) then ((laws_FnSpread.l0 k m al od.1 0).bind fun _ => if m < 1 then some true else laws_FnSpread.h k s r l m od.1) else none
def laws_FnSpread.f (k : Nat) (l0 : List Int) : Option Bool := (laws_vBig.f l0).bind fun big => if big = true then some true else
 ((spec_DrawPoliteSpread.f k l0).bind fun r => (impl_PoliteSpread.f k r.1 r.2.1 r.2.2.1 r.2.2.2).bind fun sp => (spec_PoliteSpread.f k r.1 r.2.1 r.2.2.1 r.2.2.2).bind fun sp2 => (impl_AfterPolite.f k r.1 r.2.1 r.2.2.1 r.2.2.2).bind fun af => (spec_AfterPolite.f k r.1 r.2.1 r.2.2.1 r.2.2.2).bind fun af2 => (laws_vCut.f l0 1).bind fun c1 => (spec_DrawLeastGap.f k c1).bind fun u => (impl_LeastGap.f k u.1 u.2.1 u.2.2).bind fun lg => (spec_LeastGap.f k u.1 u.2.1 u.2.2).bind fun lg2 =>
  if sp = sp2 ∧ af.2.2.2 = af2.2.2.2 ∧ lg = lg2 ∧ (sp.2 = true → af.2.2.2 = true) then
   ((laws_vRow.f k af.1 af.2.1 af.2.2.1 af2.1 af2.2.1 af2.2.2.1).bind fun e1 => if e1 = true then (if af.2.2.2 = true then ((laws_FnSpread.q k sp.1 sp.2 af.1 af.2.1 af.2.2.1).bind fun _ => laws_FnSpread.g k r.1 r.2.1 r.2.2.1 r.2.2.2 af.2.2.1) else some true) else none) else none)
def laws_FnSpread.T25 : Bool × List (List Nat × List Nat) := (true, [([], []), ([0], [0]), ([], []), ([], []), ([2, 3], [2, 3]), ([4], [4]), ([1, 5], [1, 5]), ([6], [6])])
def laws_FnSpread.B25 : List Nat := [0, 1, 0, 0, 12, 28, 63, 127]
theorem laws_FnSpread.tab25 : rtab .any (opsOf Tryd.f3 25) = laws_FnSpread.T25 := by kernel_rfl
theorem laws_FnSpread.bits25 : waitsOk laws_FnSpread.T25.2 laws_FnSpread.B25 = true := by kernel_rfl
theorem pol_cells {W : World} {g : Nat} {a b d : Value} (h : W.heap[g]? = some (.cells #[a, b, d] 26 (0, 0))) : W.cell? ⟨g, 0, none⟩ = some a ∧ W.cell? ⟨g, 1, none⟩ = some b ∧ W.cell? ⟨g, 2, none⟩ = some d := ⟨(blk_cell h 0).trans rfl, (blk_cell h 1).trans rfl, (blk_cell h 2).trans rfl⟩
theorem pol_box {w1 w2 : World} {g : Nat} {a0 b0 d0 : Value} {N : Nat} (h : w2.heap[g]? = some (.cells #[a0, b0, d0] 26 (0, 0))) (hb : Below N w1 w2) (hg : N ≤ g) (a b d : Value) :
  ∃ W, ((w2.setCell ⟨g, 0, none⟩ a).setCell ⟨g, 1, none⟩ b).setCell ⟨g, 2, none⟩ d = W ∧ W.heap[g]? = some (.cells #[a, b, d] 26 (0, 0)) ∧ Below N w1 W := by
 refine ⟨_, rfl, blk_put (blk_put (blk_put h 0 a (cs' := #[a, b0, d0]) rfl) 1 b (cs' := #[a, b, d0]) rfl) 2 d rfl, ?_⟩
 have far : ∀ (W : World) (j : Nat) (u : Value), Below N w1 W → Below N w1 (W.setCell ⟨g, j, none⟩ u) := fun W j u h => h.trans ⟨rfl, rfl, rfl, by simp [World.setCell], fun i hi => Below.heap_setCell W ⟨g, j, none⟩ u i (by show i ≠ g; omega)⟩
 exact far _ _ _ (far _ _ _ (far _ _ _ hb))
theorem pol_atC {W : World} {ad : Addr} {n : Nat} {xs : List Int} (h : Kd.C (Kd.int .i64) W (some ad) n xs) (i : Int) (h0 : 0 ≤ i) (h1 : i < (n : Int)) : W.cell? (ad.add i.toNat) = some (.int .i64 (rd xs i)) := by
 obtain ⟨a, e, hc⟩ := Kd.at_int h i h0 h1
 cases e
 exact hc
set_option maxHeartbeats 8000000 in
set_option maxRecDepth 100000 in
theorem laws_FnSpread.calls (k : Nat) (A0 : Option Addr) (c0 : Nat) (l0 : List Int) (w : World) (hr0 : Kd.C (Kd.int .u8) w A0 l0.length l0) (hc0 : l0.length ≤ c0) (hrT : GT w) (h : laws_FnSpread.f k l0 = some true) :
  Calls Tryd.prog 3 #[.slice A0 l0.length c0] w fun e w' => e = .returned (.bool true) ∧ Below w.heap.size w w' := by
 have HR := Aside0.mk hr0
 have HC := Aside0.mk hc0
 have HT := Aside0.mk hrT
 clear hr0 hc0 hrT
 have HB := Aside0.mk (Below.refl w.heap.size w)
 unfold laws_FnSpread.f at h
 obtain ⟨big, a1, h0⟩ := Option.bind_eq_some_iff.mp h
 clear h; have h := h0; clear h0
 have A1 := Aside0.mk a1; clear a1
 cases big with
 | true =>
  clear h
  go_enter Tryd.func3, Tryd.ntmps3
  go_wp2_with (go_at_call 5; (with_reducible refine (laws_vBig.calls A0 c0 l0 true _ (Kd.C_below HR.out HB.out) HC.out A1.out).mono ?_); rintro e w0_ ⟨rfl, hd_⟩; have hb := hd_.below; clear hd_; replace HB := Aside0.mk (below_step HB.out hb); clear hb)
  go_ret
  exact ⟨rfl, HB.out⟩
 | false =>
  rw [if_neg (show ¬ (false = true) by decide)] at h
  obtain ⟨⟨rs, rr, rl, km⟩, a2, h0⟩ := Option.bind_eq_some_iff.mp h
  clear h; have h := h0; clear h0
  have A2 := Aside0.mk a2; clear a2
  obtain ⟨⟨sp, ok⟩, a3, h0⟩ := Option.bind_eq_some_iff.mp h
  clear h; have h := h0; clear h0
  have A3 := Aside0.mk a3; clear a3
  obtain ⟨⟨sp', ok'⟩, a4, h0⟩ := Option.bind_eq_some_iff.mp h
  clear h; have h := h0; clear h0
  have A4 := Aside0.mk a4; clear a4
  obtain ⟨⟨sa, ar, al, fi⟩, a5, h0⟩ := Option.bind_eq_some_iff.mp h
  clear h; have h := h0; clear h0
  have A5 := Aside0.mk a5; clear a5
  obtain ⟨⟨sa', ar', al', fi'⟩, a6, h0⟩ := Option.bind_eq_some_iff.mp h
  clear h; have h := h0; clear h0
  have A6 := Aside0.mk a6; clear a6
  obtain ⟨lc, a7, h0⟩ := Option.bind_eq_some_iff.mp h
  clear h; have h := h0; clear h0
  have A7 := Aside0.mk a7; clear a7
  obtain ⟨⟨us, ur, ul⟩, a8, h0⟩ := Option.bind_eq_some_iff.mp h
  clear h; have h := h0; clear h0
  have A8 := Aside0.mk a8; clear a8
  obtain ⟨⟨lg, lk⟩, a9, h0⟩ := Option.bind_eq_some_iff.mp h
  clear h; have h := h0; clear h0
  have A9 := Aside0.mk a9; clear a9
  obtain ⟨⟨lg', lk'⟩, a10, h0⟩ := Option.bind_eq_some_iff.mp h
  clear h; have h := h0; clear h0
  have A10 := Aside0.mk a10; clear a10
  simp only at h
  by_cases cc : (sp, ok) = (sp', ok') ∧ fi = fi' ∧ (lg, lk) = (lg', lk') ∧ (ok = true → fi = true)
  rotate_left
  ·rw [if_neg cc] at h; cases h
  rw [if_pos cc] at h
  simp only [Prod.mk.injEq] at cc
  obtain ⟨⟨rfl, rfl⟩, rfl, ⟨rfl, rfl⟩, co⟩ := cc
  have CO := Aside0.mk co
  clear co
  obtain ⟨e1, a11, h0⟩ := Option.bind_eq_some_iff.mp h
  clear h; have h := h0; clear h0
  have A11 := Aside0.mk a11; clear a11
  by_cases ce : e1 = true
  rotate_left
  ·rw [if_neg ce] at h; cases h
  rw [if_pos ce] at h
  obtain rfl := ce
  have HH := Aside0.mk h
  clear h
  go_enter Tryd.func3, Tryd.ntmps3
  go_upto_region 3 with (go_at_call 5; (with_reducible refine (laws_vBig.calls A0 c0 l0 false _ (Kd.C_below HR.out HB.out) HC.out A1.out).mono ?_); rintro e w0_ ⟨rfl, hd_⟩; have hb := hd_.below; clear hd_; replace HB := Aside0.mk (below_step HB.out hb); clear hb)
  go_upto_region 4 with (first | (go_at_call 6; (with_reducible refine (spec_DrawPoliteSpread.calls k A0 c0 l0 rs rr rl km _ (Kd.C_below HR.out HB.out) HC.out A2.out).mono ?_); rintro e w1_ ⟨v_, rfl, hR, hb⟩; obtain ⟨Ar, cr, e_⟩ := Kd.V_slice hR; subst e_; obtain ⟨_, hc_, hC_⟩ := Kd.V_reads' hR; replace HB := Aside0.mk (below_step HB.out hb); clear hb; have Fr := Aside0.mk hC_; have Lr := Aside0.mk hc_; clear hR hC_ hc_) | ((with_reducible refine gate_dst (N := 3) rfl ?_); refine box_event ?hg (N := 3) ?hd (cs := #[.int .i64 0, .bool false, .slice none 0 0]) (t := 26) ?hr ?_; (case hd => rfl); (case hg => rfl); (case hr => first | (go_simp; done) | (go_simp; rfl)); intro gr hg_ w2_ hbox hb; have z_0 : w2_.cell? ⟨gr, 0, none⟩ = some (.int .i64 0) := (blk_cell hbox 0).trans rfl; have f_0 := blk_frozen hbox 0; have z_1 : w2_.cell? ⟨gr, 1, none⟩ = some (.bool false) := (blk_cell hbox 1).trans rfl; have f_1 := blk_frozen hbox 1; have z_2 : w2_.cell? ⟨gr, 2, none⟩ = some (.slice none 0 0) := (blk_cell hbox 2).trans rfl; have f_2 := blk_frozen hbox 2; have BX := Aside0.mk hbox; have HX := Aside0.mk hb; have GX := Aside0.mk hg_; clear hbox hb hg_))
  obtain ⟨w3_, e_, hbox, hb⟩ := pol_box BX.out HX.out (Nat.le_of_eq GX.out.symm) (.int .i64 rs) (.bool rr) (.slice Ar rl.length cr)
  rw [e_]
  clear e_ z_0 z_1 z_2 f_0 f_1 f_2 BX HX GX
  replace HB := Aside0.mk (below_step HB.out hb)
  replace Fr := Aside0.mk (Kd.C_below Fr.out hb)
  clear hb
  have BKr := Aside0.mk hbox
  clear hbox
  (try clear qBKr_0 qBKr_1 qBKr_2)
  obtain ⟨qBKr_0, qBKr_1, qBKr_2⟩ := pol_cells BKr.out
  go_upto_region 5 with (go_at_call 7; (with_reducible refine (impl_PoliteSpread.calls k rs rr Ar cr rl km sp ok _ Fr.out Lr.out (HT.out.below HB.out) A3.out).mono ?_); rintro e w4_ ⟨rfl, hb⟩; replace HB := Aside0.mk (below_step HB.out hb); replace Fr := Aside0.mk (Kd.C_below Fr.out hb); replace BKr := Aside0.mk (blk_below BKr.out hb); clear hb; (try clear qBKr_0 qBKr_1 qBKr_2); obtain ⟨qBKr_0, qBKr_1, qBKr_2⟩ := pol_cells BKr.out)
  go_upto_region 6 with (go_at_call 8; (with_reducible refine (spec_PoliteSpread.calls k rs rr Ar cr rl km sp ok _ Fr.out Lr.out A4.out).mono ?_); rintro e w5_ ⟨rfl, hb⟩; replace HB := Aside0.mk (below_step HB.out hb); replace Fr := Aside0.mk (Kd.C_below Fr.out hb); replace BKr := Aside0.mk (blk_below BKr.out hb); clear hb; (try clear qBKr_0 qBKr_1 qBKr_2); obtain ⟨qBKr_0, qBKr_1, qBKr_2⟩ := pol_cells BKr.out)
  go_upto_region 7 with (first | (go_at_call 9; (with_reducible refine (impl_AfterPolite.calls k rs rr Ar cr rl km sa ar al fi _ Fr.out Lr.out (HT.out.below HB.out) A5.out).mono ?_); rintro e w6_ ⟨v_, rfl, hR, hb⟩; obtain ⟨Aa, ca, e_, hc_, hC_⟩ := Kd.R_reads hR; subst e_; replace HB := Aside0.mk (below_step HB.out hb); replace Fr := Aside0.mk (Kd.C_below Fr.out hb); replace BKr := Aside0.mk (blk_below BKr.out hb); clear hb; have Fa := Aside0.mk hC_; have La := Aside0.mk hc_; clear hR hC_ hc_; (try clear qBKr_0 qBKr_1 qBKr_2); obtain ⟨qBKr_0, qBKr_1, qBKr_2⟩ := pol_cells BKr.out) | ((with_reducible refine gate_dst (N := 9) rfl ?_); refine box_event ?hg (N := 9) ?hd (cs := #[.int .i64 0, .bool false, .slice none 0 0]) (t := 26) ?hr ?_; (case hd => rfl); (case hg => rfl); (case hr => first | (go_simp; done) | (go_simp; rfl)); intro ga hg_ w7_ hbox hb; have z_0 : w7_.cell? ⟨ga, 0, none⟩ = some (.int .i64 0) := (blk_cell hbox 0).trans rfl; have f_0 := blk_frozen hbox 0; have z_1 : w7_.cell? ⟨ga, 1, none⟩ = some (.bool false) := (blk_cell hbox 1).trans rfl; have f_1 := blk_frozen hbox 1; have z_2 : w7_.cell? ⟨ga, 2, none⟩ = some (.slice none 0 0) := (blk_cell hbox 2).trans rfl; have f_2 := blk_frozen hbox 2; have BX := Aside0.mk hbox; have HX := Aside0.mk hb; have GX := Aside0.mk hg_; clear hbox hb hg_))
  obtain ⟨w8_, e_, hbox, hb⟩ := pol_box BX.out HX.out (Nat.le_of_eq GX.out.symm) (.int .i64 sa) (.bool ar) (.slice Aa al.length ca)
  rw [e_]
  clear e_ z_0 z_1 z_2 f_0 f_1 f_2 BX HX GX
  replace HB := Aside0.mk (below_step HB.out hb)
  replace Fr := Aside0.mk (Kd.C_below Fr.out hb)
  replace Fa := Aside0.mk (Kd.C_below Fa.out hb)
  replace BKr := Aside0.mk (blk_below BKr.out hb)
  clear hb
  have BKa := Aside0.mk hbox
  clear hbox
  (try clear qBKr_0 qBKr_1 qBKr_2)
  obtain ⟨qBKr_0, qBKr_1, qBKr_2⟩ := pol_cells BKr.out
  (try clear qBKa_0 qBKa_1 qBKa_2)
  obtain ⟨qBKa_0, qBKa_1, qBKa_2⟩ := pol_cells BKa.out
  go_upto_region 8 with (first | (go_at_call 10; (with_reducible refine (spec_AfterPolite.calls k rs rr Ar cr rl km sa' ar' al' fi _ Fr.out Lr.out A6.out).mono ?_); rintro e w9_ ⟨v_, rfl, hR, hb⟩; obtain ⟨Ab, cb, e_⟩ := Kd.V_slice hR; subst e_; obtain ⟨_, hc_, hC_⟩ := Kd.V_reads' hR; replace HB := Aside0.mk (below_step HB.out hb); replace Fr := Aside0.mk (Kd.C_below Fr.out hb); replace Fa := Aside0.mk (Kd.C_below Fa.out hb); replace BKr := Aside0.mk (blk_below BKr.out hb); replace BKa := Aside0.mk (blk_below BKa.out hb); clear hb; have Fb := Aside0.mk hC_; have Lb := Aside0.mk hc_; clear hR hC_ hc_; (try clear qBKr_0 qBKr_1 qBKr_2); obtain ⟨qBKr_0, qBKr_1, qBKr_2⟩ := pol_cells BKr.out; (try clear qBKa_0 qBKa_1 qBKa_2); obtain ⟨qBKa_0, qBKa_1, qBKa_2⟩ := pol_cells BKa.out) | ((with_reducible refine gate_dst (N := 11) rfl ?_); refine box_event ?hg (N := 11) ?hd (cs := #[.int .i64 0, .bool false, .slice none 0 0]) (t := 26) ?hr ?_; (case hd => rfl); (case hg => rfl); (case hr => first | (go_simp; done) | (go_simp; rfl)); intro gb hg_ w10_ hbox hb; have z_0 : w10_.cell? ⟨gb, 0, none⟩ = some (.int .i64 0) := (blk_cell hbox 0).trans rfl; have f_0 := blk_frozen hbox 0; have z_1 : w10_.cell? ⟨gb, 1, none⟩ = some (.bool false) := (blk_cell hbox 1).trans rfl; have f_1 := blk_frozen hbox 1; have z_2 : w10_.cell? ⟨gb, 2, none⟩ = some (.slice none 0 0) := (blk_cell hbox 2).trans rfl; have f_2 := blk_frozen hbox 2; have BX := Aside0.mk hbox; have HX := Aside0.mk hb; have GX := Aside0.mk hg_; clear hbox hb hg_))
  obtain ⟨w11_, e_, hbox, hb⟩ := pol_box BX.out HX.out (Nat.le_of_eq GX.out.symm) (.int .i64 sa') (.bool ar') (.slice Ab al'.length cb)
  rw [e_]
  clear e_ z_0 z_1 z_2 f_0 f_1 f_2 BX HX GX
  replace HB := Aside0.mk (below_step HB.out hb)
  replace Fr := Aside0.mk (Kd.C_below Fr.out hb)
  replace Fa := Aside0.mk (Kd.C_below Fa.out hb)
  replace Fb := Aside0.mk (Kd.C_below Fb.out hb)
  replace BKr := Aside0.mk (blk_below BKr.out hb)
  replace BKa := Aside0.mk (blk_below BKa.out hb)
  clear hb
  have BKb := Aside0.mk hbox
  clear hbox
  (try clear qBKr_0 qBKr_1 qBKr_2)
  obtain ⟨qBKr_0, qBKr_1, qBKr_2⟩ := pol_cells BKr.out
  (try clear qBKa_0 qBKa_1 qBKa_2)
  obtain ⟨qBKa_0, qBKa_1, qBKa_2⟩ := pol_cells BKa.out
  (try clear qBKb_0 qBKb_1 qBKb_2)
  obtain ⟨qBKb_0, qBKb_1, qBKb_2⟩ := pol_cells BKb.out
  go_upto_region 9 with (first | (go_at_call 12; (with_reducible refine (laws_vCut.calls A0 c0 l0 1 lc _ (Kd.C_below HR.out HB.out) HC.out A7.out).mono ?_); rintro e w12_ ⟨v_, rfl, hR, hb⟩; obtain ⟨Ac, cc, e_, hc_, hC_⟩ := Kd.R_reads hR; subst e_; replace HB := Aside0.mk (below_step HB.out hb); replace Fr := Aside0.mk (Kd.C_below Fr.out hb); replace Fa := Aside0.mk (Kd.C_below Fa.out hb); replace Fb := Aside0.mk (Kd.C_below Fb.out hb); replace BKr := Aside0.mk (blk_below BKr.out hb); replace BKa := Aside0.mk (blk_below BKa.out hb); replace BKb := Aside0.mk (blk_below BKb.out hb); clear hb; have Fc := Aside0.mk hC_; have Lc := Aside0.mk hc_; clear hR hC_ hc_; (try clear qBKr_0 qBKr_1 qBKr_2); obtain ⟨qBKr_0, qBKr_1, qBKr_2⟩ := pol_cells BKr.out; (try clear qBKa_0 qBKa_1 qBKa_2); obtain ⟨qBKa_0, qBKa_1, qBKa_2⟩ := pol_cells BKa.out; (try clear qBKb_0 qBKb_1 qBKb_2); obtain ⟨qBKb_0, qBKb_1, qBKb_2⟩ := pol_cells BKb.out) | (go_at_call 11; (with_reducible refine (spec_DrawLeastGap.calls k Ac cc lc us ur ul _ Fc.out Lc.out A8.out).mono ?_); rintro e w13_ ⟨v_, rfl, hR, hb⟩; obtain ⟨Au, cu, e_⟩ := Kd.V_slice hR; subst e_; obtain ⟨_, hc_, hC_⟩ := Kd.V_reads' hR; replace HB := Aside0.mk (below_step HB.out hb); replace Fr := Aside0.mk (Kd.C_below Fr.out hb); replace Fa := Aside0.mk (Kd.C_below Fa.out hb); replace Fb := Aside0.mk (Kd.C_below Fb.out hb); replace Fc := Aside0.mk (Kd.C_below Fc.out hb); replace BKr := Aside0.mk (blk_below BKr.out hb); replace BKa := Aside0.mk (blk_below BKa.out hb); replace BKb := Aside0.mk (blk_below BKb.out hb); clear hb; have Fu := Aside0.mk hC_; have Lu := Aside0.mk hc_; clear hR hC_ hc_; (try clear qBKr_0 qBKr_1 qBKr_2); obtain ⟨qBKr_0, qBKr_1, qBKr_2⟩ := pol_cells BKr.out; (try clear qBKa_0 qBKa_1 qBKa_2); obtain ⟨qBKa_0, qBKa_1, qBKa_2⟩ := pol_cells BKa.out; (try clear qBKb_0 qBKb_1 qBKb_2); obtain ⟨qBKb_0, qBKb_1, qBKb_2⟩ := pol_cells BKb.out) | ((with_reducible refine gate_dst (N := 13) rfl ?_); refine box_event ?hg (N := 13) ?hd (cs := #[.int .i64 0, .bool false, .slice none 0 0]) (t := 26) ?hr ?_; (case hd => rfl); (case hg => rfl); (case hr => first | (go_simp; done) | (go_simp; rfl)); intro gu hg_ w14_ hbox hb; have z_0 : w14_.cell? ⟨gu, 0, none⟩ = some (.int .i64 0) := (blk_cell hbox 0).trans rfl; have f_0 := blk_frozen hbox 0; have z_1 : w14_.cell? ⟨gu, 1, none⟩ = some (.bool false) := (blk_cell hbox 1).trans rfl; have f_1 := blk_frozen hbox 1; have z_2 : w14_.cell? ⟨gu, 2, none⟩ = some (.slice none 0 0) := (blk_cell hbox 2).trans rfl; have f_2 := blk_frozen hbox 2; have BX := Aside0.mk hbox; have HX := Aside0.mk hb; have GX := Aside0.mk hg_; clear hbox hb hg_))
  obtain ⟨w15_, e_, hbox, hb⟩ := pol_box BX.out HX.out (Nat.le_of_eq GX.out.symm) (.int .i64 us) (.bool ur) (.slice Au ul.length cu)
  rw [e_]
  clear e_ z_0 z_1 z_2 f_0 f_1 f_2 BX HX GX
  replace HB := Aside0.mk (below_step HB.out hb)
  replace Fr := Aside0.mk (Kd.C_below Fr.out hb)
  replace Fa := Aside0.mk (Kd.C_below Fa.out hb)
  replace Fb := Aside0.mk (Kd.C_below Fb.out hb)
  replace Fc := Aside0.mk (Kd.C_below Fc.out hb)
  replace Fu := Aside0.mk (Kd.C_below Fu.out hb)
  replace BKr := Aside0.mk (blk_below BKr.out hb)
  replace BKa := Aside0.mk (blk_below BKa.out hb)
  replace BKb := Aside0.mk (blk_below BKb.out hb)
  clear hb
  have BKu := Aside0.mk hbox
  clear hbox
  (try clear qBKr_0 qBKr_1 qBKr_2)
  obtain ⟨qBKr_0, qBKr_1, qBKr_2⟩ := pol_cells BKr.out
  (try clear qBKa_0 qBKa_1 qBKa_2)
  obtain ⟨qBKa_0, qBKa_1, qBKa_2⟩ := pol_cells BKa.out
  (try clear qBKb_0 qBKb_1 qBKb_2)
  obtain ⟨qBKb_0, qBKb_1, qBKb_2⟩ := pol_cells BKb.out
  (try clear qBKu_0 qBKu_1 qBKu_2)
  obtain ⟨qBKu_0, qBKu_1, qBKu_2⟩ := pol_cells BKu.out
  go_upto_region 10 with (go_at_call 13; (with_reducible refine (impl_LeastGap.calls k us ur Au cu ul lg lk _ Fu.out Lu.out A9.out).mono ?_); rintro e w16_ ⟨rfl, hb⟩; replace HB := Aside0.mk (below_step HB.out hb); replace Fr := Aside0.mk (Kd.C_below Fr.out hb); replace Fa := Aside0.mk (Kd.C_below Fa.out hb); replace Fb := Aside0.mk (Kd.C_below Fb.out hb); replace Fc := Aside0.mk (Kd.C_below Fc.out hb); replace Fu := Aside0.mk (Kd.C_below Fu.out hb); replace BKr := Aside0.mk (blk_below BKr.out hb); replace BKa := Aside0.mk (blk_below BKa.out hb); replace BKb := Aside0.mk (blk_below BKb.out hb); replace BKu := Aside0.mk (blk_below BKu.out hb); clear hb; (try clear qBKr_0 qBKr_1 qBKr_2); obtain ⟨qBKr_0, qBKr_1, qBKr_2⟩ := pol_cells BKr.out; (try clear qBKa_0 qBKa_1 qBKa_2); obtain ⟨qBKa_0, qBKa_1, qBKa_2⟩ := pol_cells BKa.out; (try clear qBKb_0 qBKb_1 qBKb_2); obtain ⟨qBKb_0, qBKb_1, qBKb_2⟩ := pol_cells BKb.out; (try clear qBKu_0 qBKu_1 qBKu_2); obtain ⟨qBKu_0, qBKu_1, qBKu_2⟩ := pol_cells BKu.out)
  go_upto_region 11 with (go_at_call 14; (with_reducible refine (spec_LeastGap.calls k us ur Au cu ul lg lk _ Fu.out Lu.out A10.out).mono ?_); rintro e w17_ ⟨rfl, hb⟩; replace HB := Aside0.mk (below_step HB.out hb); replace Fr := Aside0.mk (Kd.C_below Fr.out hb); replace Fa := Aside0.mk (Kd.C_below Fa.out hb); replace Fb := Aside0.mk (Kd.C_below Fb.out hb); replace Fc := Aside0.mk (Kd.C_below Fc.out hb); replace Fu := Aside0.mk (Kd.C_below Fu.out hb); replace BKr := Aside0.mk (blk_below BKr.out hb); replace BKa := Aside0.mk (blk_below BKa.out hb); replace BKb := Aside0.mk (blk_below BKb.out hb); replace BKu := Aside0.mk (blk_below BKu.out hb); clear hb; (try clear qBKr_0 qBKr_1 qBKr_2); obtain ⟨qBKr_0, qBKr_1, qBKr_2⟩ := pol_cells BKr.out; (try clear qBKa_0 qBKa_1 qBKa_2); obtain ⟨qBKa_0, qBKa_1, qBKa_2⟩ := pol_cells BKa.out; (try clear qBKb_0 qBKb_1 qBKb_2); obtain ⟨qBKb_0, qBKb_1, qBKb_2⟩ := pol_cells BKb.out; (try clear qBKu_0 qBKu_1 qBKu_2); obtain ⟨qBKu_0, qBKu_1, qBKu_2⟩ := pol_cells BKu.out)
  go_cut [108] (fun v108 wc => v108 = .bool false ∧ Aside0 (Below w.heap.size w wc) ∧ Aside0 (Kd.C (Kd.int .i64) wc Ar rl.length rl) ∧ Aside0 (Kd.C (Kd.int .i64) wc Aa al.length al) ∧ Aside0 (wc.heap[gr]? = some (.cells #[.int .i64 rs, .bool rr, .slice Ar rl.length cr] 26 (0, 0))) ∧ Aside0 (wc.heap[ga]? = some (.cells #[.int .i64 sa, .bool ar, .slice Aa al.length ca] 26 (0, 0))))
  case first =>
   as_aux_lemma =>
    have co := CO.out
    clear CO HH
    cases ok with
    | true =>
     obtain rfl := co rfl
     clear co
     go_wp2_with (go_at_call 15; (with_reducible refine (laws_vRow.calls k sa ar Aa ca al sa' ar' Ab cb al' true _ Fa.out La.out Fb.out Lb.out A11.out).mono ?_); rintro e w18_ ⟨rfl, hb⟩; replace HB := Aside0.mk (below_step HB.out hb); replace Fr := Aside0.mk (Kd.C_below Fr.out hb); replace Fa := Aside0.mk (Kd.C_below Fa.out hb); replace Fb := Aside0.mk (Kd.C_below Fb.out hb); replace Fc := Aside0.mk (Kd.C_below Fc.out hb); replace Fu := Aside0.mk (Kd.C_below Fu.out hb); replace BKr := Aside0.mk (blk_below BKr.out hb); replace BKa := Aside0.mk (blk_below BKa.out hb); replace BKb := Aside0.mk (blk_below BKb.out hb); replace BKu := Aside0.mk (blk_below BKu.out hb); clear hb; (try clear qBKr_0 qBKr_1 qBKr_2); obtain ⟨qBKr_0, qBKr_1, qBKr_2⟩ := pol_cells BKr.out; (try clear qBKa_0 qBKa_1 qBKa_2); obtain ⟨qBKa_0, qBKa_1, qBKa_2⟩ := pol_cells BKa.out; (try clear qBKb_0 qBKb_1 qBKb_2); obtain ⟨qBKb_0, qBKb_1, qBKb_2⟩ := pol_cells BKb.out; (try clear qBKu_0 qBKu_1 qBKu_2); obtain ⟨qBKu_0, qBKu_1, qBKu_2⟩ := pol_cells BKu.out)
     go_meet
     case rel => exact ⟨by first | rfl | (simp; done) | (simp [*]; done), HB, Fr, Fa, BKr, BKa⟩
    | false =>
     clear co
     cases fi with
     | true =>
      go_wp2_with (go_at_call 15; (with_reducible refine (laws_vRow.calls k sa ar Aa ca al sa' ar' Ab cb al' true _ Fa.out La.out Fb.out Lb.out A11.out).mono ?_); rintro e w18_ ⟨rfl, hb⟩; replace HB := Aside0.mk (below_step HB.out hb); replace Fr := Aside0.mk (Kd.C_below Fr.out hb); replace Fa := Aside0.mk (Kd.C_below Fa.out hb); replace Fb := Aside0.mk (Kd.C_below Fb.out hb); replace Fc := Aside0.mk (Kd.C_below Fc.out hb); replace Fu := Aside0.mk (Kd.C_below Fu.out hb); replace BKr := Aside0.mk (blk_below BKr.out hb); replace BKa := Aside0.mk (blk_below BKa.out hb); replace BKb := Aside0.mk (blk_below BKb.out hb); replace BKu := Aside0.mk (blk_below BKu.out hb); clear hb; (try clear qBKr_0 qBKr_1 qBKr_2); obtain ⟨qBKr_0, qBKr_1, qBKr_2⟩ := pol_cells BKr.out; (try clear qBKa_0 qBKa_1 qBKa_2); obtain ⟨qBKa_0, qBKa_1, qBKa_2⟩ := pol_cells BKa.out; (try clear qBKb_0 qBKb_1 qBKb_2); obtain ⟨qBKb_0, qBKb_1, qBKb_2⟩ := pol_cells BKb.out; (try clear qBKu_0 qBKu_1 qBKu_2); obtain ⟨qBKu_0, qBKu_1, qBKu_2⟩ := pol_cells BKu.out)
      go_meet
      case rel => exact ⟨by first | rfl | (simp; done) | (simp [*]; done), HB, Fr, Fa, BKr, BKa⟩
     | false =>
      go_wp2_with (go_at_call 15; (with_reducible refine (laws_vRow.calls k sa ar Aa ca al sa' ar' Ab cb al' true _ Fa.out La.out Fb.out Lb.out A11.out).mono ?_); rintro e w18_ ⟨rfl, hb⟩; replace HB := Aside0.mk (below_step HB.out hb); replace Fr := Aside0.mk (Kd.C_below Fr.out hb); replace Fa := Aside0.mk (Kd.C_below Fa.out hb); replace Fb := Aside0.mk (Kd.C_below Fb.out hb); replace Fc := Aside0.mk (Kd.C_below Fc.out hb); replace Fu := Aside0.mk (Kd.C_below Fu.out hb); replace BKr := Aside0.mk (blk_below BKr.out hb); replace BKa := Aside0.mk (blk_below BKa.out hb); replace BKb := Aside0.mk (blk_below BKb.out hb); replace BKu := Aside0.mk (blk_below BKu.out hb); clear hb; (try clear qBKr_0 qBKr_1 qBKr_2); obtain ⟨qBKr_0, qBKr_1, qBKr_2⟩ := pol_cells BKr.out; (try clear qBKa_0 qBKa_1 qBKa_2); obtain ⟨qBKa_0, qBKa_1, qBKa_2⟩ := pol_cells BKa.out; (try clear qBKb_0 qBKb_1 qBKb_2); obtain ⟨qBKb_0, qBKb_1, qBKb_2⟩ := pol_cells BKb.out; (try clear qBKu_0 qBKu_1 qBKu_2); obtain ⟨qBKu_0, qBKu_1, qBKu_2⟩ := pol_cells BKu.out)
      go_meet
      case rel => exact ⟨by first | rfl | (simp; done) | (simp [*]; done), HB, Fr, Fa, BKr, BKa⟩
  case rest =>
   as_aux_lemma =>
    clear HB Fr Fa Fb Fc Fu BKr BKa BKb BKu CO A2 A3 A4 A5 A6 A7 A8 A9 A10 A11
    obtain ⟨rfl, HB, Fr, Fa, BKr, BKa⟩ := hcut
    have qBKr_0 : wc.cell? ⟨gr, 0, none⟩ = some (.int .i64 rs) := (blk_cell BKr.out 0).trans rfl
    have qBKr_1 : wc.cell? ⟨gr, 1, none⟩ = some (.bool rr) := (blk_cell BKr.out 1).trans rfl
    have qBKr_2 : wc.cell? ⟨gr, 2, none⟩ = some (.slice Ar rl.length cr) := (blk_cell BKr.out 2).trans rfl
    have qBKa_0 : wc.cell? ⟨ga, 0, none⟩ = some (.int .i64 sa) := (blk_cell BKa.out 0).trans rfl
    have qBKa_1 : wc.cell? ⟨ga, 1, none⟩ = some (.bool ar) := (blk_cell BKa.out 1).trans rfl
    have qBKa_2 : wc.cell? ⟨ga, 2, none⟩ = some (.slice Aa al.length ca) := (blk_cell BKa.out 2).trans rfl
    have H := HH.out
    clear HH
    cases fi with
    | false =>
     go_wp2
     go_ret
     exact ⟨rfl, HB.out⟩
    | true =>
     rw [if_pos rfl] at H
     replace H := Option.bind_eq_some_iff.mp H
     obtain ⟨x0, b1, H0⟩ := H
     have H := H0
     clear H0
     have B1 := Aside0.mk b1
     clear b1
     have HH := Aside0.mk H
     clear H
     go_upto_if 111 with (fail)
     go_cut [18] (fun v18 wc2 => Aside0 (Below w.heap.size w wc2) ∧ Aside0 (Kd.C (Kd.int .i64) wc2 Ar rl.length rl) ∧ Aside0 (Kd.C (Kd.int .i64) wc2 Aa al.length al) ∧ Aside0 (wc2.heap[gr]? = some (.cells #[.int .i64 rs, .bool rr, .slice Ar rl.length cr] 26 (0, 0))) ∧ Aside0 (wc2.heap[ga]? = some (.cells #[.int .i64 sa, .bool ar, .slice Aa al.length ca] 26 (0, 0))))
     case first =>
      as_aux_lemma =>
       have h := B1.out
       clear B1 HH
       unfold laws_FnSpread.q at h
       cases ok with
       | false =>
        go_wp2
        go_meet
        case rel => exact ⟨HB, Fr, Fa, BKr, BKa⟩
       | true =>
        rw [if_pos rfl] at h
        obtain ⟨⟨ow, okk⟩, b2, h0⟩ := Option.bind_eq_some_iff.mp h
        clear h; have h := h0; clear h0
        have B2 := Aside0.mk b2; clear b2
        by_cases c3 : (ow, okk) = (sp, true)
        rotate_left
        ·rw [if_neg c3] at h; cases h
        obtain ⟨rfl, rfl⟩ := Prod.mk.inj c3
        clear h c3
        go_wp2_with (go_at_call 13; (with_reducible refine (impl_LeastGap.calls k sa ar Aa ca al ow true _ Fa.out La.out B2.out).mono ?_); rintro e w41_ ⟨rfl, hb⟩; replace HB := Aside0.mk (below_step HB.out hb); replace Fr := Aside0.mk (Kd.C_below Fr.out hb); replace Fa := Aside0.mk (Kd.C_below Fa.out hb); replace BKr := Aside0.mk (blk_below BKr.out hb); replace BKa := Aside0.mk (blk_below BKa.out hb); clear hb; (try clear qBKr_0 qBKr_1 qBKr_2); obtain ⟨qBKr_0, qBKr_1, qBKr_2⟩ := pol_cells BKr.out; (try clear qBKa_0 qBKa_1 qBKa_2); obtain ⟨qBKa_0, qBKa_1, qBKa_2⟩ := pol_cells BKa.out)
        go_meet
        case rel => exact ⟨HB, Fr, Fa, BKr, BKa⟩
     case rest =>
      as_aux_lemma =>
       clear B1 HB Fr Fa BKr BKa qBKr_0 qBKr_1 qBKr_2 qBKa_0 qBKa_1 qBKa_2
       obtain ⟨HB, Fr, Fa, BKr, BKa⟩ := hcut
       have qBKr_0 : wc.cell? ⟨gr, 0, none⟩ = some (.int .i64 rs) := (blk_cell BKr.out 0).trans rfl
       have qBKr_1 : wc.cell? ⟨gr, 1, none⟩ = some (.bool rr) := (blk_cell BKr.out 1).trans rfl
       have qBKr_2 : wc.cell? ⟨gr, 2, none⟩ = some (.slice Ar rl.length cr) := (blk_cell BKr.out 2).trans rfl
       have qBKa_0 : wc.cell? ⟨ga, 0, none⟩ = some (.int .i64 sa) := (blk_cell BKa.out 0).trans rfl
       have qBKa_1 : wc.cell? ⟨ga, 1, none⟩ = some (.bool ar) := (blk_cell BKa.out 1).trans rfl
       have qBKa_2 : wc.cell? ⟨ga, 2, none⟩ = some (.slice Aa al.length ca) := (blk_cell BKa.out 2).trans rfl
       have H := HH.out
       clear HH
       unfold laws_FnSpread.g at H
       replace H := Option.bind_eq_some_iff.mp H
       obtain ⟨⟨od, oo⟩, d1, H0⟩ := H
       have H := H0
       clear H0
       have D1 := Aside0.mk d1
       clear d1
       simp only at H
       by_cases c5 : oo = true ∧ (al.length : Int) = wrap64 ((rl.length : Int) + km)
       rotate_left
       ·rw [if_neg c5] at H; cases H
       rw [if_pos c5] at H
       obtain ⟨rfl, cl⟩ := c5
       replace H := Option.bind_eq_some_iff.mp H
       obtain ⟨b0, d2, H0⟩ := H
       have H := H0
       clear H0
       have D2 := Aside0.mk d2
       clear d2
       have D3 := Aside0.mk H
       clear H
       have cl2 : ((al.length : Int) != wrap64 ((rl.length : Int) + km)) = false := by simp [cl]
       clear cl
       go_upto_region 20 with (go_at_call 16; (with_reducible refine (impl_PoliteOrder.calls k rs rr Ar cr rl od true _ Fr.out Lr.out (HT.out.below HB.out) D1.out).mono ?_); rintro e w61_ ⟨v_, rfl, hR, hb⟩; obtain ⟨Ao, co, e_, hc_, hC_⟩ := Kd.R_reads hR; subst e_; replace HB := Aside0.mk (below_step HB.out hb); replace Fr := Aside0.mk (Kd.C_below Fr.out hb); replace Fa := Aside0.mk (Kd.C_below Fa.out hb); replace BKr := Aside0.mk (blk_below BKr.out hb); replace BKa := Aside0.mk (blk_below BKa.out hb); clear hb; have Fo := Aside0.mk hC_; have Lo := Aside0.mk hc_; clear hR hC_ hc_; (try clear qBKr_0 qBKr_1 qBKr_2); obtain ⟨qBKr_0, qBKr_1, qBKr_2⟩ := pol_cells BKr.out; (try clear qBKa_0 qBKa_1 qBKa_2); obtain ⟨qBKa_0, qBKa_1, qBKa_2⟩ := pol_cells BKa.out)
       go_wp2
       have HQ0 := Aside0.mk (Below.refl w61_.heap.size w61_)
       go_loopg [22] k (fun kq v22 w' => ∃ i : Int, v22 = .int .i64 i ∧ Aside0 (laws_FnSpread.l0 kq km al od i = some b0) ∧ Aside0 (kq ≤ k) ∧ Aside0 (Below w61_.heap.size w61_ w'))
       case atStart => exact ⟨0, rfl, D2, ⟨Nat.le_refl _⟩, HQ0⟩
       case round =>
        clear D2 HQ0 cl2 qBKr_0 qBKr_1 qBKr_2 qBKa_0 qBKa_1 qBKa_2
        obtain ⟨i, rfl, HA, HK1, HQ⟩ := hrel
        cases gk with
        | zero => exact absurd HA.out (by simp [laws_FnSpread.l0])
        | succ k1 =>
         have H := HA.out
         clear HA
         simp only [laws_FnSpread.l0] at H
         by_cases c8 : i < km
         ·rw [if_pos c8] at H
          have c8b : decide (i < km) = true := decide_eq_true c8
          by_cases c9 : 0 ≤ i ∧ i < (od.length : Int)
          rotate_left
          ·rw [if_neg c9] at H; cases H
          rw [if_pos c9] at H
          obtain ⟨d1, d2⟩ := c9
          replace H := Option.bind_eq_some_iff.mp H
          obtain ⟨hv, e1, H0⟩ := H
          have H := H0
          clear H0
          have E1 := Aside0.mk e1
          clear e1
          by_cases c10 : hv = true
          rotate_left
          ·rw [if_neg c10] at H; cases H
          rw [if_pos c10] at H
          obtain rfl := c10
          have HH := Aside0.mk H
          clear H
          have CA := Aside0.mk (Kd.C_below Fa.out HQ.out)
          have CO := Aside0.mk (Kd.C_below Fo.out HQ.out)
          have BA := Aside0.mk (blk_below BKa.out HQ.out)
          obtain ⟨ado, eo, ho0⟩ := Kd.at_int CO.out i d1 d2
          cases eo
          clear ho0
          replace d1 := eq_true d1
          replace d2 := eq_true d2
          go_upto_region 25 with (fail)
          refine start_ (n := 8) (S := fun w' => w'.cell? ⟨ga, 2, none⟩ = some (.slice Aa al.length ca) ∧ w'.cell? (ado.add i.toNat) = some (.int .i64 (rd od i))) (ds := []) #[false, false, false, false, false, false, false, false] (by kernel_rfl) rfl rfl ⟨(blk_cell (blk_drew BA.out) 2).trans rfl, pol_atC (Kd.C_below CO.out (below_drew1 (Below.refl _ _))) i (of_eq_true d1) (of_eq_true d2)⟩ (fun hHeld => ?_)
          refine with_tabW laws_FnSpread.tab25 laws_FnSpread.bits25 (fun HT_ HW_ => ?_)
          have n0_ := Aside0.mk (below_drew1 HQ.out)
          have n1_ := Aside0.mk (Kd.C_below CA.out (below_drew1 (Below.refl _ _)))
          have n2_ := Aside0.mk (Kd.C_below CO.out (below_drew1 (Below.refl _ _)))
          have n3_ := Aside0.mk (blk_drew BA.out)
          clear HQ CA CO BA
          have HQ := n0_
          have CA := n1_
          have CO := n2_
          have BA := n3_
          clear n0_ n1_ n2_ n3_
          generalize World.drew _ = w25 at HQ CA CO BA hHeld ⊢
          refine pure_ (i := 0) (N := some 147) (v := ?_) (a' := ?_) #[true, false, false, false, false, false, false, false] rfl rfl (any_of HT_.out (by kernel_rfl)) (fun _ _ _ h => h) (Or.inl ⟨by rfl, ?_⟩) ?_ ?_
          rotate_left
          ·intro w'
           go_simp
           with_reducible rfl
          rotate_left
          ·simp only [Act.put, List.setIfInBounds_toArray, List.set_cons_zero, List.set_cons_succ, i64_w, i32_w]
           rfl
          refine pure_ (i := 2) (N := some 149) (v := ?_) (a' := ?_) #[true, false, true, false, false, false, false, false] rfl rfl (any_of HT_.out (by kernel_rfl)) (fun _ _ _ h => h) (Or.inl ⟨by rfl, ?_⟩) ?_ ?_
          rotate_left
          ·intro w'
           go_simp
           with_reducible rfl
          rotate_left
          ·simp only [Act.put, List.setIfInBounds_toArray, List.set_cons_zero, List.set_cons_succ, i64_w, i32_w]
           rfl
          refine pure_ (i := 3) (N := some 150) (v := ?_) (a' := ?_) #[true, false, true, true, false, false, false, false] rfl rfl (any_of HT_.out (by kernel_rfl)) (fun _ _ _ h => h) (Or.inl ⟨by rfl, ?_⟩) ?_ ?_
          rotate_left
          ·intro w'
           go_simp
           with_reducible rfl
          rotate_left
          ·simp only [Act.put, List.setIfInBounds_toArray, List.set_cons_zero, List.set_cons_succ, i64_w, i32_w]
           rfl
          refine pure_ (i := 4) (N := some 151) (v := ?_) (a' := ?_) #[true, false, true, true, true, false, false, false] rfl rfl (any_of HT_.out (by kernel_rfl)) (fun _ _ _ h => h) (Or.inl ⟨by rfl, ?_⟩) ?_ ?_
          rotate_left
          ·intro w'
           go_simp
           with_reducible rfl
          rotate_left
          ·simp only [Act.put, List.setIfInBounds_toArray, List.set_cons_zero, List.set_cons_succ, i64_w, i32_w]
           rfl
          refine take_ (i := 1) (N := some 148) (v := ?_) (a' := ?_) #[true, true, true, true, true, false, false, false] rfl rfl (take_ofW HT_.out HW_.out (by kernel_rfl)) (fun _ _ _ h => h) (Or.inl ⟨by rfl, ?_⟩) hHeld ?_ ?_
          rotate_left
          ·rintro w' ⟨s0, s1⟩
           go_simp
           with_reducible rfl
          rotate_left
          ·simp only [Act.put, List.setIfInBounds_toArray, List.set_cons_zero, List.set_cons_succ, i64_w, i32_w]
           rfl
          refine take_ (i := 5) (N := some 152) (v := ?_) (a' := ?_) #[true, true, true, true, true, true, false, false] rfl rfl (take_ofW HT_.out HW_.out (by kernel_rfl)) (fun _ _ _ h => h) (Or.inl ⟨by rfl, ?_⟩) hHeld ?_ ?_
          rotate_left
          ·rintro w' ⟨s0, s1⟩
           go_simp
           with_reducible rfl
          rotate_left
          ·simp only [Act.put, List.setIfInBounds_toArray, List.set_cons_zero, List.set_cons_succ, i64_w, i32_w]
           rfl
          refine one_ (i := 6) (N := some 153) #[true, true, true, true, true, true, true, false] rfl rfl (one_of HT_.out (by kernel_rfl)) (by decide) (fun K hK => ?_)
          refine goes_ Tryd.func17 (by kernel_rfl) rfl #[.slice Aa al.length ca, .int .i64 (rd od i)] (by rfl) rfl rfl (by (try simp only [List.map_toArray, List.map_cons, List.map_nil]); first | done | rfl) ?_
          with_reducible refine (laws_vHas.calls k1 Aa ca al (rd od i) true _ CA.out La.out E1.out).mono ?_
          rintro e w26 ⟨rfl, hd⟩
          refine ⟨_, rfl, ?_⟩
          have hb := hd.below
          clear hd
          have n0_ := Aside0.mk (below_step HQ.out hb)
          have n1_ := Aside0.mk (Kd.C_below CA.out hb)
          have n2_ := Aside0.mk (Kd.C_below CO.out hb)
          have n3_ := Aside0.mk (blk_below BA.out hb)
          clear HQ CA CO BA
          have HQ := n0_
          have CA := n1_
          have CO := n2_
          have BA := n3_
          clear n0_ n1_ n2_ n3_ hb
          refine hK.out _ _ ⟨(blk_cell BA.out 2).trans rfl, pol_atC CO.out i (of_eq_true d1) (of_eq_true d2)⟩ (fun hHeld => ?_)
          clear hK K
          refine norm_ (a' := ?_) ?_ ?_
          rotate_left
          ·show Act.put _ (some 153) _ = _
           simp only [Act.put, List.setIfInBounds_toArray, List.set_cons_zero, List.set_cons_succ, i64_w, i32_w]
           rfl
          refine pure_ (i := 7) (N := some 154) (v := ?_) (a' := ?_) #[true, true, true, true, true, true, true, true] rfl rfl (any_of HT_.out (by kernel_rfl)) (fun _ _ _ h => h) (Or.inl ⟨by rfl, ?_⟩) ?_ ?_
          rotate_left
          ·intro w'
           go_simp
           with_reducible rfl
          rotate_left
          ·simp only [Act.put, List.setIfInBounds_toArray, List.set_cons_zero, List.set_cons_succ, i64_w, i32_w]
           rfl
          refine done_ (done_of HT_.out (by kernel_rfl)) ?_

          go_wp2
          go_roundg k1
          case measure => have h_ := HK1.out; omega
          case rel => exact ⟨wrap64 (i + 1), (by first | rfl | (simp; done) | (simp [*]; done)), HH, ⟨by have h_ := HK1.out; omega⟩, HQ⟩
         ·rw [if_neg c8] at H
          have c8b : decide (i < km) = false := decide_eq_false c8
          clear H
          have n0_ := Aside0.mk (below_step HB.out HQ.out)
          have n1_ := Aside0.mk (Kd.C_below Fr.out HQ.out)
          have n2_ := Aside0.mk (Kd.C_below Fo.out HQ.out)
          have n3_ := Aside0.mk (blk_below BKr.out HQ.out)
          clear HB Fr Fo BKr
          have HB := n0_
          have Fr := n1_
          have Fo := n2_
          have BKr := n3_
          clear n0_ n1_ n2_ n3_ HQ Fa BKa
          have H := D3.out
          clear D3
          by_cases ck : km < 1
          ·have ckb : decide (km < 1) = true := decide_eq_true ck
           clear H c8 ck
           go_wp2
           go_ret
           exact ⟨rfl, HB.out⟩
          rw [if_neg ck] at H
          have ckb : decide (km < 1) = false := decide_eq_false ck
          clear c8 ck
          unfold laws_FnSpread.h at H
          replace H := Option.bind_eq_some_iff.mp H
          obtain ⟨⟨bs, br, bl, bk⟩, d4, H0⟩ := H
          have H := H0
          clear H0
          have D4 := Aside0.mk d4
          clear d4
          replace H := Option.bind_eq_some_iff.mp H
          obtain ⟨⟨fa, fk⟩, d5, H0⟩ := H
          have H := H0
          clear H0
          have D5 := Aside0.mk d5
          clear d5
          replace H := Option.bind_eq_some_iff.mp H
          obtain ⟨⟨gs, gk⟩, d6, H0⟩ := H
          have H := H0
          clear H0
          have D6 := Aside0.mk d6
          clear d6
          simp only at H
          by_cases c6 : bk = true ∧ fk = true ∧ gk = true ∧ 0 ≤ wrap64 (km - 1) ∧ wrap64 (km - 1) < (od.length : Int) ∧ 0 ≤ rd od (wrap64 (km - 1)) ∧ rd od (wrap64 (km - 1)) < (fa.length : Int) ∧ gs ≤ wrap64 (2 * rd fa (rd od (wrap64 (km - 1)))) ∧ (km = 1 ∨ gs ≥ rd fa (rd od (wrap64 (km - 1))))
          rotate_left
          ·rw [if_neg c6] at H; cases H
          clear H
          obtain ⟨rfl, rfl, rfl, d1, d2, d3, d4, d5, d6⟩ := c6
          have qBKr_0 : wr.cell? ⟨gr, 0, none⟩ = some (.int .i64 rs) := (blk_cell BKr.out 0).trans rfl
          have qBKr_1 : wr.cell? ⟨gr, 1, none⟩ = some (.bool rr) := (blk_cell BKr.out 1).trans rfl
          have qBKr_2 : wr.cell? ⟨gr, 2, none⟩ = some (.slice Ar rl.length cr) := (blk_cell BKr.out 2).trans rfl
          have P1 := Aside0.mk d1
          have P2 := Aside0.mk d2
          have P3 := Aside0.mk d3
          have P4 := Aside0.mk d4
          have P5 := Aside0.mk d5
          have P6 := Aside0.mk d6
          clear d1 d2 d3 d4 d5 d6
          go_upto_region 30 with (first | (go_at_call 9; (with_reducible refine (impl_AfterPolite.calls k rs rr Ar cr rl (wrap64 (km - 1)) bs br bl true _ Fr.out Lr.out (HT.out.below HB.out) D4.out).mono ?_); rintro e w81_ ⟨v_, rfl, hR, hb⟩; obtain ⟨Ae, ce, e_, hc_, hC_⟩ := Kd.R_reads hR; subst e_; replace HB := Aside0.mk (below_step HB.out hb); replace Fr := Aside0.mk (Kd.C_below Fr.out hb); replace Fo := Aside0.mk (Kd.C_below Fo.out hb); replace BKr := Aside0.mk (blk_below BKr.out hb); clear hb; have Fe := Aside0.mk hC_; have Le := Aside0.mk hc_; clear hR hC_ hc_; (try clear qBKr_0 qBKr_1 qBKr_2); obtain ⟨qBKr_0, qBKr_1, qBKr_2⟩ := pol_cells BKr.out) | ((with_reducible refine gate_dst (N := 23) rfl ?_); refine box_event ?hg (N := 23) ?hd (cs := #[.int .i64 0, .bool false, .slice none 0 0]) (t := 26) ?hr ?_; (case hd => rfl); (case hg => rfl); (case hr => first | (go_simp; done) | (go_simp; rfl)); intro ge hg_ w82_ hbox hb; have z_0 : w82_.cell? ⟨ge, 0, none⟩ = some (.int .i64 0) := (blk_cell hbox 0).trans rfl; have f_0 := blk_frozen hbox 0; have z_1 : w82_.cell? ⟨ge, 1, none⟩ = some (.bool false) := (blk_cell hbox 1).trans rfl; have f_1 := blk_frozen hbox 1; have z_2 : w82_.cell? ⟨ge, 2, none⟩ = some (.slice none 0 0) := (blk_cell hbox 2).trans rfl; have f_2 := blk_frozen hbox 2; have BX := Aside0.mk hbox; have HX := Aside0.mk hb; have GX := Aside0.mk hg_; clear hbox hb hg_))
          obtain ⟨w83_, e_, hbox, hb⟩ := pol_box BX.out HX.out (Nat.le_of_eq GX.out.symm) (.int .i64 bs) (.bool br) (.slice Ae bl.length ce)
          rw [e_]
          clear e_ z_0 z_1 z_2 f_0 f_1 f_2 BX HX GX
          replace HB := Aside0.mk (below_step HB.out hb)
          replace Fr := Aside0.mk (Kd.C_below Fr.out hb)
          replace Fo := Aside0.mk (Kd.C_below Fo.out hb)
          replace Fe := Aside0.mk (Kd.C_below Fe.out hb)
          replace BKr := Aside0.mk (blk_below BKr.out hb)
          clear hb
          have BKe := Aside0.mk hbox
          clear hbox
          (try clear qBKr_0 qBKr_1 qBKr_2)
          obtain ⟨qBKr_0, qBKr_1, qBKr_2⟩ := pol_cells BKr.out
          (try clear qBKe_0 qBKe_1 qBKe_2)
          obtain ⟨qBKe_0, qBKe_1, qBKe_2⟩ := pol_cells BKe.out
          go_upto_region 31 with (go_at_call 18; (with_reducible refine (impl_FarnessOf.calls k bs br Ae ce bl fa true _ Fe.out Le.out (HT.out.below HB.out) D5.out).mono ?_); rintro e w84_ ⟨v_, rfl, hR, hb⟩; obtain ⟨Af, cf, e_, hc_, hC_⟩ := Kd.R_reads hR; subst e_; replace HB := Aside0.mk (below_step HB.out hb); replace Fr := Aside0.mk (Kd.C_below Fr.out hb); replace Fo := Aside0.mk (Kd.C_below Fo.out hb); replace Fe := Aside0.mk (Kd.C_below Fe.out hb); replace BKr := Aside0.mk (blk_below BKr.out hb); replace BKe := Aside0.mk (blk_below BKe.out hb); clear hb; have Ff := Aside0.mk hC_; have Lf := Aside0.mk hc_; clear hR hC_ hc_; (try clear qBKr_0 qBKr_1 qBKr_2); obtain ⟨qBKr_0, qBKr_1, qBKr_2⟩ := pol_cells BKr.out; (try clear qBKe_0 qBKe_1 qBKe_2); obtain ⟨qBKe_0, qBKe_1, qBKe_2⟩ := pol_cells BKe.out)
          go_upto_region 32 with (go_at_call 19; (with_reducible refine (impl_GreatestSpread.calls k rs rr Ar cr rl km gs true _ Fr.out Lr.out (HT.out.below HB.out) D6.out).mono ?_); rintro e w85_ ⟨rfl, hb⟩; replace HB := Aside0.mk (below_step HB.out hb); replace Fr := Aside0.mk (Kd.C_below Fr.out hb); replace Fo := Aside0.mk (Kd.C_below Fo.out hb); replace Fe := Aside0.mk (Kd.C_below Fe.out hb); replace Ff := Aside0.mk (Kd.C_below Ff.out hb); replace BKr := Aside0.mk (blk_below BKr.out hb); replace BKe := Aside0.mk (blk_below BKe.out hb); clear hb; (try clear qBKr_0 qBKr_1 qBKr_2); obtain ⟨qBKr_0, qBKr_1, qBKr_2⟩ := pol_cells BKr.out; (try clear qBKe_0 qBKe_1 qBKe_2); obtain ⟨qBKe_0, qBKe_1, qBKe_2⟩ := pol_cells BKe.out)
          obtain ⟨ado, eo, ho0⟩ := Kd.at_int Fo.out (wrap64 (km - 1)) P1.out P2.out
          obtain ⟨adf, ef, hf0⟩ := Kd.at_int Ff.out (rd od (wrap64 (km - 1))) P3.out P4.out
          cases eo
          cases ef
          have d1 := eq_true P1.out
          have d2 := eq_true P2.out
          have d3 := eq_true P3.out
          have d4 := eq_true P4.out
          have d5 : decide (gs ≤ wrap64 (2 * rd fa (rd od (wrap64 (km - 1))))) = true := decide_eq_true P5.out
          by_cases e1 : km = 1
          ·have e2 : (km == 1) = true := beq_iff_eq.mpr e1
           clear e1
           go_wp2
           go_ret
           exact ⟨by first | rfl | (simp; done) | (simp [*]; done), HB.out⟩
          ·have e2 : (km == 1) = false := beq_eq_false_iff_ne.mpr e1
           have e3 : decide (rd fa (rd od (wrap64 (km - 1))) ≤ gs) = true := decide_eq_true (P6.out.resolve_left e1)
           clear e1
           go_wp2
           go_ret
           exact ⟨by first | rfl | (simp; done) | (simp [*]; done), HB.out⟩

/-- THE ONE PURE STATEMENT of laws_FnSpread: yours. -/
def laws_FnSpread.Pure : Prop := ∀ (l0 : List Int), l0.length ≤ maxLen → l0.length * 1 ≤ 140737488351232 → (∀ x ∈ l0, (Lit.int .u8 x).wf = true) → ∃ k, laws_FnSpread.f k l0 = some true
theorem laws_FnSpread.walk (P : laws_FnSpread.Pure) (a0 : Option Addr) (len0 cap0 : Nat) (z0 : List Int) (w : World) (hT : GT w) (w0 : (a0 = none ∧ len0 = 0 ∧ cap0 = 0 ∧ z0 = []) ∨ ∃ x, a0 = some x ∧ len0 ≤ cap0 ∧ cap0 ≤ maxLen ∧ z0.length = cap0 ∧ (∀ i, i < z0.length → w.cell? (x.add i) = some (.int .u8 (z0.getD i 0))) ∧ ∀ n ∈ z0, (Lit.int .u8 n).wf = true) (y0 : len0 * 1 ≤ 140737488351232) :
  Calls Tryd.prog 3 #[.slice a0 len0 cap0] w fun e w' => e = .returned (.bool true) ∧ Below w.heap.size w w' := by
 obtain ⟨l0, rfl, hr0, hm0, hw0, hc0⟩ := ReadsInt.ofRowC w0
 obtain ⟨k, h⟩ := P l0 hm0 y0 hw0
 exact laws_FnSpread.calls k _ _ l0 w (Kd.C_of_reads (d := (0 : Int)) (h1 := fun _ => rfl) hr0) hc0 hT h

end Go.Proofs.YtaebbgkoaaigbaaDoor.PFnSpread
